/- FROM 'ON EVERY TAPE THE LONE RUN COMES THERE' TO A WELL-FOUNDED TREE O .. -/
import Derived.Test.YtffladgmkiimjaaGreatDoorW07
import Derived.Calls
import Derived.Conc.Events
set_option linter.all false
set_option maxHeartbeats 100000000
set_option maxRecDepth 1000000
open Array renaming mem_append -> GQ,getElem?_setIfInBounds_ne -> aC,getElem?_eq_getElem -> aQ,getD_eq_getD_getElem? -> aY,getElem?_eq_some_iff -> ai,replicate -> bE,getElem?_setIfInBounds -> bF,getElem?_setIfInBounds_self_of_lt -> bg,mem_of_getElem? -> fe,empty_append -> fj,getElem?_map -> j9,all_eq_true' -> kg,getElem?_push -> ly,getElem?_modify -> pE,toList_map -> vY
open Bool renaming and_eq_true -> aI,false_eq_true -> bG
open Classical renaming byContradiction -> fq
open Go renaming choose -> Ap,Goroutine -> aD,Program -> aL,TypeId -> aZ,Value -> ak,World -> ar,Operand -> bL,Frame -> bS,Question -> dK,FuncId -> dX,Addr -> dc,runtimePanic -> eF,stepG -> fo,Sem -> iN,zeroValue -> iY,CallKind -> j6,underlying -> jc,typeInfo -> kY,step -> od,Item -> pD,unsupported -> ri,MapEntry -> uv,behindNumber -> vg
open Go.Builtin renaming max_ -> BJ,lenOf -> Dm,firstCells -> eM,zeroCells -> fS,append_ -> ko,mayShare -> qc
open Go.Conc renaming mem_ofEvents -> BI,solo_eq_crowd -> nv,crowd -> rj,solo -> wZ
open Go.Frame renaming enter -> eA
open Go.Instr renaming mapUpdate -> Ay,findKey -> Dl,indexAt -> eE,findAsking -> jw,index -> mR,checkKey -> nE,loadAt -> vn
open Go.MemOp renaming ofEvents -> iB
open Go.Mode renaming plain -> mG
open Go.Sem renaming runT_bind' -> GL,runT -> dF
open Go.World renaming setCell -> km
open List renaming all_cons -> dT,cons_append -> gP
open Nat renaming le_trans -> aO,le_refl -> ax,lt_of_lt_of_le -> bA,zero_add -> di,eq_zero_or_pos -> jf
open Option renaming map_some -> dH,map_eq_some_iff -> eO
open Option.some renaming inj -> bj
open Pure renaming pure -> eX
namespace Go.Lag
open Go.Conc
def Ext(W:ar)(I:Nat->dK->Nat):Prop:=∀i,i<W.drawn->I i=W.tape i
inductive Bar(P:aL)(Stop:aD->ar->Prop):aD->ar->Prop
 |stop {g:aD} {W:ar}:Stop g W->Bar P Stop g W
 |step {g:aD} {W:ar}:(∀I,Ext W I->∃g' W',rT P g (dB W I W.drawn) g' W')->
   (∀I,Ext W I->∀g' W',rT P g (dB W I W.drawn) g' W'->Bar P Stop g' W')->Bar P Stop g W
section
variable{P:aL}
abbrev PB:uM:=⟨fun _=>.none⟩
theorem GZ(W:ar):@ju PB W W:=@ju.mk PB _ _ rfl rfl rfl (fun _=>.inl rfl) (fun _ _ h=>by cases h) (fun _ _ h=>by cases h)
theorem rB(T:Quiet P){g g':aD}{lw eG:ar}(hg:Av g)(cY:dC lw)(h:rT P g lw g' eG) :
  Av g'/\dC eG/\eG.tape=lw.tape/\lw.drawn<=eG.drawn/\lw.heap.size<=eG.heap.size/\
   ∀I d,Agree (eG.drawn-lw.drawn) lw.tape lw.drawn I d->rT P g (dB lw I d) g' (dB eG I (d+(eG.drawn-lw.drawn))):=by
 letI:=PB
 obtain⟨FP,w',k,aN,hb,Gf,hm⟩:=Cm T hg cY (GZ lw) h;obtain⟨hr,hd,⟨amy,hs⟩,hr',M0⟩:=h
 have YP:Idle #[g]:=by
  intro i x h1 h2;have:i<1:=by simpa using (ai.1 h2).1
  omega
 have e0:=hm lw.tape lw.drawn #[g] none (fun _ _=>rfl) rfl YP;have e1:(#[g].setIfInBounds 0 g') = #[g']:=by simp
 have hk:eG.drawn-lw.drawn=k:=by rw[hb.drawn];omega
 have e2:eG=dB w' lw.tape (lw.drawn+k):=by
  rw[stepT_solo hr,nv] at hs;have e3:dB lw lw.tape lw.drawn=lw:=rfl;rw[e3,hs] at e0;injection e0 with e4 e5
  injection e4 with e6
  rw[e1,<-nv] at e6;exact(oC e6).2
 refine⟨FP,hb.ok,hb.tape,by rw[hb.drawn];omega,hb.grows,fun I d ha=>⟨hr,hd,⟨aN,?_⟩,hr',M0⟩⟩;rw[hk] at ha ⊢;rw[stepT_solo hr,nv,hm I d #[g] none ha rfl YP,e1,<-nv,e2];rfl
theorem Eb:∀(n:Nat) {g g':aD} {W W':ar},g.dyingOn P->g'.dying=none->runN P n (wZ g W)≠.next (wZ g' W')
 |0,g,g',W,W',h,hd=>by
  intro e;simp only[runN] at e;injection e with e
  obtain⟨rfl,_⟩:=oC e;obtain⟨_,d,M0,_⟩:=h;rw[hd] at M0;cases M0
 |n+1,g,g',W,W',h,hd=>by
  rcases step_dyingOn (w:=W) h with⟨g1,w1,hs,h'⟩|⟨o,w1,hs,_⟩
  .have hs':od P (wZ g W)=.next (wZ g1 w1):=hs
   simp only[runN,hs'];exact Eb n h' hd
  have hs':od P (wZ g W)=.ended o w1:=hs;simp only[runN,hs'];intro e;cases e
theorem Qx{g:aD}{W:ar}(h:g.status=.finished\/g.status=.blocked):∃o w',od P (wZ g W)=.ended o w':=by
 obtain⟨fr,cs,st,dy,off⟩:=g;simp only at h;rcases h with rfl|rfl
 .obtain⟨o',w',he,ho⟩:=endWith_ended W 2 (bytes "fatal error: no goroutines (main called runtime.Goexit) - deadlock!\n") (.fatal "no goroutines (main called runtime.Goexit) - deadlock!");refine⟨o',w',?_⟩;simp[od,stepT,move,ask,askOn,wZ,runnable_eq,due,ahead,Goroutine.canRun,List.range_succ,pure];rw[he]
 obtain⟨o',w',he,ho⟩:=endWith_ended W 2 (bytes "fatal error: all goroutines are asleep - deadlock!\n") (.fatal "all goroutines are asleep - deadlock!");refine⟨o',w',?_⟩;simp[od,stepT,move,ask,askOn,wZ,runnable_eq,due,ahead,Goroutine.canRun,List.range_succ,pure];rw[he]
theorem Hh{n:Nat}{g g':aD}{W W':ar}(h:g.status=.finished\/g.status=.blocked)(hr:g'.status=.running):runN P n (wZ g W)≠.next (wZ g' W'):=by
 cases n with
 |zero=>
  intro e;simp only[runN] at e;injection e with e
  obtain⟨rfl,_⟩:=oC e;rw[hr] at h;rcases h with h|h<;>cases h
 |succ n=>
  obtain⟨o,w',e⟩:=Qx (P:=P) (W:=W) h;simp only[runN,e];intro e;cases e
theorem Jf(T:Quiet P){n:Nat}{g g':aD}{W W':ar}(hg:Av g)(cY:dC W)(hr:g.status=.running)(hd:g.dying=none)(hr':g'.status=.running)(M0:g'.dying=none)
  (h:runN P (n+1) (wZ g W)=.next (wZ g' W')):∃g1 W1,rT P g W g1 W1:=by
 letI:=PB
 have A0:=Hb T hg hd cY (GZ W);have Oi:(#[g]:Array aD)[0]?=some g:=rfl;have hst:stepT P (wZ g W)=runT P (rj #[g] W none) 0:=by rw[stepT_solo hr,nv]
 simp only[runN,od,hst] at h;cases qH:fo P true g W with
 |go g1 W1 es=>
  rw[qH] at A0;have e:=runT_crowd_go (P:=P) (gs:=#[g]) (w:=W) (sl:=none) (i:=0) Oi qH;have e1:(#[g].map (woken P g g1 W1)).setIfInBounds 0 g1 = #[g1]:=by simp
  have e:runT P (rj #[g] W none) 0=(.next (wZ g1 W1),iB 0 g.frame.fn g.frame.place es):=e.trans (by rw[e1,<-nv]);rw[e] at h;dsimp only at h;rcases A0 with hdy|⟨Dv,hgd,_⟩
  .exact absurd h (Eb n hdy M0)
  rcases Dv.status with hs|hs
  .exact⟨g1,W1,hr,hd,⟨_,hst.trans e⟩,hs,hgd⟩
  exact absurd h (Hh (.inl hs) hr')
 |comm g1 cs b sh W1 es=>
  rw[qH] at A0;obtain⟨Dv,⟨hgd,aat⟩,w1,k1,hb,hm⟩:=A0;have e:=runT_crowd_comm (P:=P) (gs:=#[g]) (w:=W) (sl:=none) (i:=0) Oi qH;have aaq:(#[g].setIfInBounds 0 { (default:aD) with status:=.finished }) = #[{ (default:aD) with status:=.finished }]:=by simp
  rw[aaq] at e;generalize hc:communicate P { timers:=#[],alone:=none,slice:=none } #[{ (default:aD) with status:=.finished }] 0 g1 cs b sh W1=cc at e;obtain⟨st,more⟩:=cc;rw[e] at h;dsimp only at h e;cases st with
  |ended o w2=>cases h
  |next m1=>
   dsimp only at h;obtain⟨g2,W2,e2,EO⟩:=Mi T (d0:={ (default:aD) with status:=.finished }) (by simp) (rest0:={ timers:=#[],alone:=none,slice:=none }) rfl hb.ok hb.tQ Dv hgd aat hc;have e3:m1=wZ g2 W2:=e2;subst e3;rcases EO with hblk|⟨w2,k2,hcr⟩
   .exact absurd h (Hh (.inr hblk) hr')
   exact⟨g2,W2,hr,hd,⟨_,hst.trans e⟩,hcr.run,hcr.dy⟩
 |spawn g1 c W1 es=>
  have e:=runT_crowd_spawn (P:=P) (gs:=#[g]) (w:=W) (sl:=none) (i:=0) Oi qH;rw[e] at h;dsimp only at h
  have h2:runNT P n (rj ((#[g].setIfInBounds 0 g1).push c) W1 none) #[]=(.next (wZ g' W'),(runNT P n (rj ((#[g].setIfInBounds 0 g1).push c) W1 none) #[]).2):=by
   have:=runNT_fst P n (rj ((#[g].setIfInBounds 0 g1).push c) W1 none) #[];rw[h] at this;exact Prod.ext this rfl
  have:=runNT_size P n _ _ _ _ h2;simp[rj,wZ] at this
 |ended o W1 es=>
  have e:=runT_many_ended (P:=P) (gs:=#[g]) (w:=W) (sl:=none) (i:=0) Oi qH;rw[e] at h;cases h
 |_=>rw[qH] at A0;exact A0.elim
theorem least{p:Nat->Prop}:∀n,p n->∃m,p m/\∀j,j<m->¬p j:=by
 intro n
 induction n using Nat.strongRecOn with
 |ind n ih=>
  intro hn
  by_cases h:∃m,m<n/\p m
  .obtain⟨m,h1,h2⟩:=h;exact ih m h1 h2
  exact⟨n,hn,fun j hj hp=>h ⟨j,hj,hp⟩⟩
structure Bad(P:aL)(Stop:aD->ar->Prop)(x:aD × ar):Prop where
 no:¬Bar P Stop x.1 x.2
 gok:Av x.1
 ok:dC x.2
 run:x.1.status=.running
 dy:x.1.dying=none
theorem CP(T:Quiet P){Stop:aD->ar->Prop}(hS:∀g W I d,Stop g (dB W I d)->Stop g W)(hSr:∀g W,Stop g W->g.status=.running/\g.dying=none)
  {g:aD} {W:ar} (hg:Av g) (cY:dC W) (hr:g.status=.running) (hd:g.dying=none)
  (H:∀I,Ext W I->∃n g' W',runN P n (wZ g (dB W I W.drawn))=.next (wZ g' W')/\Stop g' W'):Bar P Stop g W:=by
 classical
 refine fq fun hno=>?_;let St:={ x:aD × ar // Bad P Stop x }
 let R:St->St->Prop:=fun x y=>∃I,Ext x.1.2 I/\rT P x.1.1 (dB x.1.2 I x.1.2.drawn) y.1.1 y.1.2;let FL:St->Prop:=fun x=>∃I,Ext x.1.2 I/\∀g' W',¬rT P x.1.1 (dB x.1.2 I x.1.2.drawn) g' W'
 have next:∀x:St,¬FL x->∃y,R x y:=by
  rintro⟨⟨g,W⟩,hb⟩ hnd;refine fq fun hny=>hb.no (.step (fun I hτ=>?_) fun I hτ g' W' hl=>?_)
  .exact fq fun h=>hnd ⟨I,hτ,fun g' W' hl=>h ⟨g',W',hl⟩⟩
  refine fq fun Jq=>hny ?_;obtain⟨h1,h2,_⟩:=rB T hb.gok (lw:=dB W I W.drawn) hb.ok hl;exact⟨⟨(g',W'),Jq,h1,h2,hl.2.2.2.1,hl.2.2.2.2⟩,I,hτ,hl⟩
 let f:St->St:=fun x=>if h:FL x then x else Classical.choose (next x h)
 have hf:∀x,¬FL x->R x (f x):=fun x h=>by
  simp only[f,dif_neg h];exact Classical.choose_spec (next x h)
 let seq:Nat->St:=fun n=>Nat.rec ⟨(g,W),hno,hg,cY,hr,hd⟩ (fun _ x=>f x) n
 have PZ:∀x y:St,R x y->x.1.2.drawn<=y.1.2.drawn/\(∀p,p<x.1.2.drawn->y.1.2.tape p=x.1.2.tape p)/\
   ∀T',(∀p,p<y.1.2.drawn->T' p=y.1.2.tape p)->rT P x.1.1 (dB x.1.2 T' x.1.2.drawn) y.1.1 (dB y.1.2 T' y.1.2.drawn):=by
  rintro x y ⟨I,hτ,hl⟩;obtain⟨_,_,h3,h4,_,h6⟩:=rB T x.2.gok (lw:=dB x.1.2 I x.1.2.drawn) x.2.ok hl;simp only[zo,qh] at h3 h4 h6;refine⟨h4,fun p hp=>by rw[h3];exact hτ p hp,fun T' hT'=>?_⟩;have:=h6 T' x.1.2.drawn fun i hi=>by rw[hT' _ (by omega),h3]
  rwa [Nat.add_sub_cancel' h4] at this
 have walk:∀(T':Nat->dK->Nat) (n i:Nat),(∀j,j<n->R (seq (i+j)) (seq (i+j+1))/\∀p,p<(seq (i+j+1)).1.2.drawn->T' p=(seq (i+j+1)).1.2.tape p)->
   runN P n (wZ (seq i).1.1 (dB (seq i).1.2 T' (seq i).1.2.drawn))=.next (wZ (seq (i+n)).1.1 (dB (seq (i+n)).1.2 T' (seq (i+n)).1.2.drawn)):=by
  intro T' n
  induction n with
  |zero=>intro i _;rfl
  |succ n ih=>
   intro i h;obtain⟨h1,h2⟩:=h 0 (by omega);obtain⟨_,_,hT⟩:=PZ _ _ h1;obtain⟨_,_,⟨aN,hs⟩,_⟩:=hT T' h2
   have hs':od P (wZ (seq i).1.1 (dB (seq i).1.2 T' (seq i).1.2.drawn))=.next (wZ (seq (i+1)).1.1 (dB (seq (i+1)).1.2 T' (seq (i+1)).1.2.drawn)):=by
    rw[od];exact congrArg Prod.fst hs
   simp only[runN,hs']
   have:=ih (i+1) fun j hj=>by
    have:=h (j+1) (by omega);rwa [show i+(j+1)=i+1+j by omega] at this
   rw[this,show i+1+n=i+(n+1) by omega]
 have mono:∀i n,(∀j,j<n->R (seq (i+j)) (seq (i+j+1)))->(seq i).1.2.drawn<=(seq (i+n)).1.2.drawn/\∀p,p<(seq i).1.2.drawn->(seq (i+n)).1.2.tape p=(seq i).1.2.tape p:=by
  intro i n
  induction n with
  |zero=>intro _;exact⟨ax _,fun _ _=>rfl⟩
  |succ n ih=>
   intro h;obtain⟨h1,h2⟩:=ih fun j hj=>h j (by omega);obtain⟨h3,h4,_⟩:=PZ _ _ (h n (by omega));exact⟨aO h1 h3,fun p hp=>(h4 p (bA hp h1)).trans (h2 p hp)⟩
 have hseq:∀j,¬FL (seq j)->R (seq j) (seq (j+1)):=fun j h=>hf _ h;have TE:∀n T',¬Stop (seq n).1.1 (dB (seq n).1.2 T' (seq n).1.2.drawn):=fun n T' h=>(seq n).2.no (.stop (hS _ _ _ _ h));have aeK:∀T',(∀p,p<W.drawn->T' p=W.tape p)->∃n g' W',runN P n (wZ (seq 0).1.1 (dB (seq 0).1.2 T' (seq 0).1.2.drawn))=.next (wZ g' W')/\Stop g' W':=fun T' h=>H T' h
 by_cases PX:∃n,FL (seq n)
 .obtain⟨n0,Xu⟩:=PX;obtain⟨N,hN,hlt⟩:=least (p:=fun n=>FL (seq n)) n0 Xu;obtain⟨I,hτ,hnl⟩:=hN;have hR:∀j,j<N->R (seq j) (seq (j+1)):=fun j hj=>hseq j (hlt j hj)
  have agree:∀j,j<=N->∀p,p<(seq j).1.2.drawn->I p=(seq j).1.2.tape p:=by
   intro j hj p hp;have:=mono j (N-j) fun i hi=>hR (j+i) (by omega);rw[Nat.add_sub_cancel' hj] at this;rw[hτ p (bA hp this.1),this.2 p hp]
  have pre:∀n,n<=N->runN P n (wZ (seq 0).1.1 (dB (seq 0).1.2 I (seq 0).1.2.drawn))=.next (wZ (seq n).1.1 (dB (seq n).1.2 I (seq n).1.2.drawn)):=by
   intro n hn
   have:=walk I n 0 fun j hj=>by
    rw[di];exact⟨hR j (by omega),agree (j+1) (by omega)⟩
   rwa [di] at this
  obtain⟨n,g',W',hrun,Cn⟩:=aeK I (agree 0 (by omega));rcases Nat.lt_or_ge N n with C7|hle
  .obtain⟨m,rfl⟩:∃m,n=N+(m+1):=⟨n-N-1,by omega⟩
   have xV:∀(a b:Nat) (x y:Machine),runN P a x=.next y->runN P (a+b) x=runN P b y:=by
    intro a
    induction a with
    |zero=>intro b x y h;simp only[runN] at h;injection h with h;rw[h,di]
    |succ a ih=>
     intro b x y h;rw[show a+1+b=(a+b)+1 by omega];simp only[runN] at h ⊢;cases hs:od P x with
     |next x'=>rw[hs] at h;simp only at h ⊢;exact ih b x' y h
     |ended o w=>rw[hs] at h;cases h
   rw[xV N (m+1) _ _ (pre N (ax _))] at hrun;obtain⟨hr',M0⟩:=hSr _ _ Cn;obtain⟨g1,W1,hl⟩:=Jf T (seq N).2.gok (W:=dB (seq N).1.2 I (seq N).1.2.drawn) (seq N).2.ok (seq N).2.run (seq N).2.dy hr' M0 hrun;exact hnl _ _ hl
  rw[pre n hle] at hrun;injection hrun with hrun
  obtain⟨h1,h2⟩:=oC hrun;rw[<-h1,<-h2] at Cn;exact TE n I Cn
 have hnd:∀n,¬FL (seq n):=fun n h=>PX ⟨n,h⟩;have hR:∀j,R (seq j) (seq (j+1)):=fun j=>hseq j (hnd j)
 have coh:∀i j p,i<=j->p<(seq i).1.2.drawn->(seq j).1.2.tape p=(seq i).1.2.tape p:=fun i j p Uk hp=>by
  have:=(mono i (j-i) fun k _=>hR _).2 p hp;rwa [Nat.add_sub_cancel' Uk] at this
 let I:Nat->dK->Nat:=fun p=>if h:∃j,p<(seq j).1.2.drawn then(seq (Classical.choose h)).1.2.tape p else fun _=>0
 have agree:∀j p,p<(seq j).1.2.drawn->I p=(seq j).1.2.tape p:=by
  intro j p hp;have hex:∃j,p<(seq j).1.2.drawn:=⟨j,hp⟩
  have hc:=Classical.choose_spec hex;simp only[I,dif_pos hex];rcases Nat.le_total (Classical.choose hex) j with h|h
  .exact(coh _ _ p h hc).symm
  exact coh _ _ p h hp
 obtain⟨n,g',W',hrun,Cn⟩:=aeK I (agree 0)
 have:=walk I n 0 fun j hj=>by
  rw[di];exact⟨hR j,agree (j+1)⟩
 rw[di] at this;rw[this] at hrun;injection hrun with hrun
 obtain⟨h1,h2⟩:=oC hrun;rw[<-h1,<-h2] at Cn;exact TE n I Cn
end
end Go.Lag
namespace Go.Lag
open Go.Conc
open Go.ConcN (sumTo upd sumTo_upd upd_ne upd_same)
abbrev ML:=Past (fun _=>False)
structure Beside(P:aL)(gs:Array aD)(g:aD)(w:ar)(t:Trace)(q:Nat->Nat):Prop where
 zero:gs[0]?=some g
 old:Leavers P t gs q
 past:ML w.heap.size t
def qV(P:aL)(Q:aD->ar->Prop)(g:aD)(w:ar):Prop:=
 ∀(I:Nat->dK->Nat) (d:Nat) (gs:Array aD) (sl:Option (Nat × Nat)) (t:Trace) (q:Nat->Nat),Beside P gs g w t q->
  ∃(N:Nat) (gs':Array aD) (g':aD) (w':ar) (d':Nat) (sl':Option (Nat × Nat)) (t':Trace) (q':Nat->Nat),
   runNT P N (rj gs (dB w I d) sl) t=(.next (rj gs' (dB w' I d') sl'),t')/\Beside P gs' g' w' t' q'/\Q g' w'
section
variable{P:aL}{Q Q':aD->ar->Prop}{g:aD}{w:ar}
theorem runNT_add(P:aL):∀(a b:Nat) (x y:Machine) (t u:Trace),runNT P a x t=(.next y,u)->runNT P (a+b) x t=runNT P b y u
 |0,b,x,y,t,u,h=>by
  simp only[runNT] at h;injection h with h1 h2
  injection h1 with h1
  rw[h1,h2,di]
 |a+1,b,x,y,t,u,h=>by
  rw[show a+1+b=(a+b)+1 by omega];simp only[runNT] at h ⊢;generalize stepT P x=s at h;obtain⟨r,aN⟩:=s;cases r with
  |next x'=>exact runNT_add P a b x' y _ u h
  |ended o w=>cases h
theorem qV.here(h:Q g w):qV P Q g w:=fun I d gs sl t q hb=>⟨0,gs,g,w,d,sl,t,q,rfl,hb,h⟩
theorem qV.bind(h:qV P Q g w)(k:∀g' w',Q g' w'->qV P Q' g' w'):qV P Q' g w:=fun I d gs sl t q hb=>by
 obtain⟨N,gs1,g1,w1,d1,DN,t1,q1,hr1,hb1,hq1⟩:=h I d gs sl t q hb;obtain⟨M,gs2,g2,w2,d2,Zp,t2,q2,hr2,hb2,VN⟩:=k g1 w1 hq1 I d1 gs1 DN t1 q1 hb1;exact⟨N+M,gs2,g2,w2,d2,Zp,t2,q2,by rw[runNT_add P N M _ _ _ _ hr1,hr2],hb2,VN⟩
theorem qV.mono(h:qV P Q g w)(k:∀g' w',Q g' w'->Q' g' w'):qV P Q' g w:=h.bind fun g' w' hq=>.here (k g' w' hq)
theorem Jg{t:Trace}{gs:Array aD}{q:Nat->Nat}(h:Leavers P t gs q):Idle gs:=fun i x hi hx=>(h.old i x hi hx).status
theorem KW{B B':Nat}{t:Trace}{aN:Array MemOp}(h:ML B t)(hB:B<=B')(ho:xw B' aN):ML B' (t++aN):=
 (h.mono hB).app0 (fun op hop=>(ho op hop).1) (fun _ _ _ _ hf=>hf.elim) (zR ho t 0) fun op hop=>(ho op hop).2.1
theorem slip{gs:Array aD}{g:aD}{w:ar}{t:Trace}{q:Nat->Nat}(hb:Beside P gs g w t q)(hrun:g.status=.running){i:Nat}{x:aD}(kC:0<i)(hi:gs[i]?=some x)(hx:x.status=.running)(I:Nat->dK->Nat)(d:Nat)(sl:Option (Nat × Nat)) :
  ∃gs' aN q',runT P (rj gs (dB w I d) sl) i=(.next (rj gs' (dB w I d) sl),aN)/\Beside P gs' g w (t++aN) q'/\gs'.size=gs.size/\sumTo gs.size q'<sumTo gs.size q:=by
 have hq:=hb.old.old i x kC hi;have hi0:(i==0)=false:=by simp;omega
 have hlt:i<gs.size:=(ai.1 hi).1;cases Z7:q i with
 |zero=>rw[Z7] at hq;rw[hq.1] at hx;cases hx
 |succ k=>
  rw[Z7] at hq;rcases hq with⟨hf,_⟩|⟨_,g',es,hm,Z1,hq'⟩
  .rw[hf] at hx;cases hx
  have jR:=runT_crowd_go (P:=P) (sl:=sl) (i:=i) hi (by rw[hi0];exact Z1 (dB w I d))
  have ads:sumTo gs.size (upd q i k)+(k+1)=sumTo gs.size q+k:=by
   have:=sumTo_upd q k id hlt;simpa [Z7] using this
  refine⟨_,_,upd q i k,jR,⟨?_,⟨fun j y hj hy=>?_,fun j hj=>?_⟩,hb.past.mute (by omega) hm⟩,by simp,by omega⟩
  .have hne:i≠0:=by omega
   rw[aC hne,j9,hb.zero];simp[woken_run hrun]
  .by_cases Xx:i=j
   .subst Xx;rw[bg (by simpa using hlt)] at hy;obtain rfl:=bj hy;rw[upd_same,Deaf_own];exact hq'
   rw[aC Xx,j9] at hy;obtain⟨z,hz,rfl⟩:=eO.1 hy;have hqj:=hb.old.old j z hj hz;rw[woken_quitsD hqj,upd_ne q k (Ne.symm Xx),Deaf_other t Xx _ (fun op hop=>by obtain⟨e,_,rfl⟩:=BI hop;rfl)];exact hqj
  rw[Deaf_other t (g':=i) (by simp at hj;omega) _ (fun op hop=>by obtain⟨e,_,rfl⟩:=BI hop;rfl)];exact hb.old.above j (by simpa using hj)
theorem Al{gs:Array aD}{g:aD}{w:ar}{t:Trace}{q:Nat->Nat}(hb:Beside P gs g w t q)(hrun:g.status=.running):∀x∈gs,awake x:=by
 intro x hx;obtain⟨i,hi,rfl⟩:=Array.mem_iff_getElem.1 hx;rcases jf i with rfl|kC
 .have:gs[0]=g:=by simpa [aQ hi] using hb.zero
  rw[this];exact awake_of (.inl hrun)
 exact awake_of ((hb.old.old i _ kC (aQ hi)).status.elim .inl fun x=>.inr (.inr x))
theorem qV.acv(hrun:g.status=.running)
  (h:∀(I:Nat->dK->Nat) (d:Nat) (gs:Array aD) (sl:Option (Nat × Nat)),gs[0]?=some g->Idle gs->
   ∃g' w' k aN,runT P (rj gs (dB w I d) sl) 0=(.next (rj (gs.setIfInBounds 0 g') (dB w' I k) sl),aN)/\xw w'.heap.size aN/\w.heap.size<=w'.heap.size/\qV P Q g' w'):qV P Q g w:=by
 intro I d gs sl t q hb;generalize hM:sumTo gs.size q=M
 induction M using Nat.strongRecOn generalizing d gs sl t q with
 |ind M ih=>
  obtain⟨i,x,d1,DN,hi,hx,hst⟩:=crowd_pick (P:=P) (w:=dB w I d) (sl:=sl) (Al hb hrun) ⟨0,g,hb.zero,hrun⟩;have ew:(dB w I d).at d1=dB w I d1:=rfl;rw[ew] at hst;rcases jf i with rfl|kC
  .obtain⟨g',w',k,aN,hr,ho,hs,hk⟩:=h I d1 gs DN hb.zero (Jg hb.old)
   have hb':Beside P (gs.setIfInBounds 0 g') g' w' (t++aN) q:=by
    have hlt:0<gs.size:=(ai.1 hb.zero).1;refine⟨by simp[hlt],⟨fun j y hj hy=>?_,fun j hj=>?_⟩,KW hb.past hs ho⟩
    .have hne:0≠j:=by omega
     rw[aC hne] at hy;rw[zR ho];exact hb.old.old j y hj hy
    rw[zR ho];exact hb.old.above j (by simpa using hj)
   obtain⟨N,gs2,g2,w2,d2,Zp,t2,q2,hr2,hb2,VN⟩:=hk I k (gs.setIfInBounds 0 g') DN (t++aN) q hb';exact⟨N+1,gs2,g2,w2,d2,Zp,t2,q2,by simp only[runNT,hst,hr];exact hr2,hb2,VN⟩
  obtain⟨gs',aN,q',hr,hb',hsz,hlt⟩:=slip hb hrun kC hi hx I d1 DN;obtain⟨N,gs2,g2,w2,d2,Zp,t2,q2,hr2,hb2,VN⟩:=ih (sumTo gs'.size q') (by rw[hsz,<-hM];exact hlt) d1 gs' DN (t++aN) q' hb' rfl;exact⟨N+1,gs2,g2,w2,d2,Zp,t2,q2,by simp only[runNT,hst,hr];exact hr2,hb2,VN⟩
theorem IP[uM](T:Quiet P){Stop:aD->ar->Prop}{g:aD}{W:ar}(h:Bar P Stop g W):Av g->dC W->∀w,ju W w->
  qV P (fun g' w'=>∃W',Stop g' W'/\ju W' w'/\Av g'/\dC W'/\W.heap.size<=W'.heap.size) g w:=by
 induction h with
 |stop hs=>exact fun hg cY w V=>.here ⟨_,hs,V,hg,cY,ax _⟩
 |@step g W live down ih=>
  intro hg cY w V;obtain⟨_,_,hl0⟩:=live W.tape fun _ _=>rfl;refine .acv hl0.1 fun I d gs sl h0 hi=>?_;let I':Nat->dK->Nat:=fun p=>if p<W.drawn then W.tape p else I (d+(p-W.drawn))
  have N6:Ext W I':=fun i hi=>by simp only[I',if_pos hi]
  obtain⟨g',W',hl⟩:=live I' N6;obtain⟨FP,w',k,aN,hb,ho,hm⟩:=Cm T (lw:=dB W I' W.drawn) hg cY (w:=w) ⟨V.size,V.os,V.out,V.at_,V.old,V.kept⟩ hl
  have ha:Agree k (dB W I' W.drawn).tape (dB W I' W.drawn).drawn I d:=fun i hi=>by
   simp only[zo,qh,I',if_neg (show ¬W.drawn+i<W.drawn by omega),Nat.add_sub_cancel_left]
  have hsz:w'.heap.size=W'.heap.size:=hb.tQ.size.symm;have hgr:=hb.grows;simp only[oG] at hgr;refine⟨g',w',d+k,aN,hm I d gs sl ha h0 hi,by rw[hsz];exact ho,by rw[hsz,<-V.size];exact hgr,(ih I' N6 g' W' hl FP hb.ok w' hb.tQ).mono ?_⟩;rintro g2 w2 ⟨W2,h1,h2,h3,h4,h5⟩;exact⟨W2,h1,h2,h3,h4,aO hgr h5⟩
end
end Go.Lag
namespace Go.Lag
open Go.Conc
open Go.ConcN (sumTo upd)
def jl(P:aL)(Q:aD->ar->Prop)(g:aD)(W:ar):Prop:=
 ∀K:uM,Av g->dC W->∀w,ju W w->qV P (fun g' w'=>∃W',Q g' W'/\ju W' w'/\Av g'/\dC W'/\W.heap.size<=W'.heap.size) g w
section
variable{P:aL}{Q Q':aD->ar->Prop}{g:aD}{W:ar}
theorem jl.here(h:Q g W):jl P Q g W:=fun K hg cY w V=>.here ⟨W,h,V,hg,cY,ax _⟩
theorem jl.bind(h:jl P Q g W)(k:∀g' W',W.heap.size<=W'.heap.size->Q g' W'->jl P Q' g' W'):jl P Q' g W:=fun K hg cY w V=>
 (h K hg cY w V).bind fun g' w' ⟨W',hq,V',FP,rZ,hs⟩=>(k g' W' hs hq K FP rZ w' V').mono fun g2 w2 ⟨W2,h1,h2,h3,h4,h5⟩=>⟨W2,h1,h2,h3,h4,aO hs h5⟩
theorem jl.mono(h:jl P Q g W)(k:∀g' W',W.heap.size<=W'.heap.size->Q g' W'->Q' g' W'):jl P Q' g W:=h.bind fun g' W' hs hq=>.here (k g' W' hs hq)
theorem jl.Q6(h:jl P Q g W)(I:Nat->dK->Nat)(d:Nat):jl P Q g (dB W I d):=fun K hg cY w V=>h K hg cY w ⟨V.size,V.os,V.out,V.at_,V.old,V.kept⟩
theorem jl.ofT{I:Nat->dK->Nat}{d:Nat}(h:jl P Q g (dB W I d)):jl P Q g W:=fun K hg cY w V=>h K hg cY w ⟨V.size,V.os,V.out,V.at_,V.old,V.kept⟩
theorem D7(T:Quiet P)(hr:g.status=.running)(hd:g.dying=none)
  (H:∀I,∃n g' W',runN P n (wZ g (dB W I 0))=.next (wZ g' W')/\Q g' W'/\g'.status=.running/\g'.dying=none) :
  jl P (fun g' W'=>∃I d,Q g' (dB W' I d)) g W:=fun K hg cY w V=>by
 have hb:Bar P (fun g' W'=>(∃I d,Q g' (dB W' I d))/\g'.status=.running/\g'.dying=none) g (dB W W.tape 0):=by
  refine CP T (fun g' W' I d h=>⟨h.1,h.2⟩) (fun g' W' h=>h.2) hg cY hr hd fun I _=>?_;obtain⟨n,g',W',h1,h2,h3,h4⟩:=H I;exact⟨n,g',W',h1,⟨W'.tape,W'.drawn,h2⟩,h3,h4⟩
 refine(IP T hb hg cY w ⟨V.size,V.os,V.out,V.at_,V.old,V.kept⟩).mono ?_;rintro g' w' ⟨W',⟨hq,_⟩,V',FP,rZ,hs⟩;exact⟨W',hq,V',FP,rZ,hs⟩
theorem B6(T:Quiet P){fr:bS}{cs:List bS}{Q:bS->ar->Prop}
  (H:∀I,∃fr' W',Steps P (lone fr cs (dB W I 0)) (lone fr' cs W')/\Q fr' W') :
  jl P (fun g' W'=>∃fr' I d,g'=G fr' cs/\Q fr' (dB W' I d)) (G fr cs) W:=by
 refine(D7 T (Q:=fun g' W'=>∃fr',g'=G fr' cs/\Q fr' W') rfl rfl fun I=>?_).mono fun g' W' _ ⟨I,d,fr',h1,h2⟩=>⟨fr',I,d,h1,h2⟩
 obtain⟨fr',W',⟨n,hn⟩,hq⟩:=H I;exact⟨n,G fr' cs,W',hn,⟨fr',rfl,hq⟩,rfl,rfl⟩
def jW(P:aL)(f:dX)(args:Array ak)(W:ar)(R:ak->ar->Prop):Prop:=
 ∀cs,jl P (fun g' W'=>∃fr v I d,g'=G fr cs/\R v W'/\fr.fn=f/\fr.leaving P (dB W' I d) (.returned v)) (G (eA P f args .normal) cs) W
theorem jW.Q6{f:dX}{args:Array ak}{R:ak->ar->Prop}(h:jW P f args W R)(I:Nat->dK->Nat)(d:Nat):jW P f args (dB W I d) R:=fun cs=>(h cs).Q6 I d
theorem xL(T:Quiet P){g':aD}{I:Nat->dK->Nat}{d:Nat}(h:rT P g (dB W I d) g' (dB W I d)):jl P (fun g2 W2=>g2=g'/\∃I d,W2=dB W I d) g W:=fun K hg cY w V=>by
 obtain⟨_,_,_,_,_,hloc⟩:=rB T hg (lw:=dB W I d) cY h;simp only[qh,Nat.sub_self,Nat.add_zero] at hloc;have hs:=fun I'=>hloc I' 0 (fun i hi=>absurd hi (by omega));refine(D7 T (Q:=fun g2 W2=>g2=g'/\∃I d,W2=dB W I d) h.1 h.2.1 (fun I'=>?_)).mono ?_ K hg cY w V
 .obtain⟨_,_,⟨aN,e⟩,h3,h4⟩:=hs I';refine⟨1,g',dB W I' 0,?_,⟨rfl,I',0,rfl⟩,h3,h4⟩;simp only[runN,od];have e':stepT P (wZ g (dB W I' 0))=(.next (wZ g' (dB W I' 0)),aN):=e;rw[e']
 rintro g2 W2 _ ⟨τ1,d1,h1,τ2,d2,h2⟩;have h3:=congrArg (fun x=>dB x W2.tape W2.drawn) h2;exact⟨h1,W2.tape,W2.drawn,h3⟩
theorem rX{fr fr':bS}{cs cs':List bS}{w w':ar}(h:od P (lone fr cs w)=.next (lone fr' cs' w')):rT P (G fr cs) w (G fr' cs') w':=by
 refine⟨rfl,rfl,?_,rfl,rfl⟩;have h':(stepT P (wZ (G fr cs) w)).1=.next (wZ (G fr' cs') w'):=h
 exact⟨_,Prod.ext h' rfl⟩
theorem IL(T:Quiet P){fr c:bS}{cs:List bS}{v:ak}{I:Nat->dK->Nat}{d:Nat}(h:fr.leaving P (dB W I d) (.returned v)) :
  jl P (fun g' W'=>g'=G (c.finish v) cs/\∃I d,W'=dB W I d) (G fr (c::cs)) W:=
 xL T (rX (step_leave_returned h))
theorem E4[K:uM](T:Quiet P){f:dX}{args:Array ak}{R:ak->ar->Prop}(hi:P.inits.idxOf? f=none)(h:jW P f args W R)(hW:dC W){w:ar}(V:ju W w) :
  ∃N last o w' t',runNT P (N+1) (wZ (G (eA P f args .normal) []) w) #[]=(.ended o w',t')/\runN P N (wZ (G (eA P f args .normal) []) w)=.next last/\
   od P last=.ended o w'/\Conc.Good P (fun v w'=>∃W',R v W'/\ju W' w'/\dC W'/\W.heap.size<=W'.heap.size) last o w' t':=by
 have hg0:Av (G (eA P f args .normal) []):=⟨ov T f args .normal,by simp[G],.inl rfl⟩
 have hb0:Beside P #[G (eA P f args .normal) []] (G (eA P f args .normal) []) w #[] (fun _=>0):=
  ⟨rfl,leavers_one P _,past_nil.mono (by omega)⟩
 obtain⟨N,gs1,g1,w1,d1,DN,t1,q1,hr1,hb1,W1,⟨fr,v,τ1,d2,rfl,hv,hfn,hl⟩,V1,hg1,C6,hs1⟩:=h [] K hg0 hW w V w.tape w.drawn _ none _ _ hb0
 have last:∀I d,∃w2 es,fo P true (G fr []) (dB w1 I d)=.ended (.done v) (dB w2 I d) es/\ju W1 w2/\∀e∈es,Bx w1.heap.size e:=by
  obtain⟨hm,N9,hk,fn,hf,hres⟩:=hl;have hrun:((results fn fr.tmps).runT P (dB W1 τ1 d2) #[]).1=.ok v (dB W1 τ1 d2):=by rw[Sem.runT_eq];exact hres
  rcases wJ (Ab (P:=P) fn fr.tmps) (lw:=dB W1 τ1 d2) (w:=w1) C6 ⟨V1.size,V1.os,V1.out,V1.at_,V1.old,V1.kept⟩ with⟨why,eG,hx⟩|⟨eG,w2,k,r,new,hx⟩
  .obtain⟨es',he⟩:=hx #[];rw[he] at hrun;cases hrun
  .have h1:=hx.lone #[];rw[h1] at hrun;cases r with
   |error e=>cases hrun
   |ok v'=>
    simp only[AW] at hrun;injection hrun with hv' hw'
    subst hv'
    have hk0:k=0:=by
     have:=hx.drawn;rw[hw'] at this;simp only[qh] at this;omega
    subst hk0;intro I d;have h2:=hx.many I d (fun i hi=>absurd hi (by omega)) #[];rw[Nat.add_zero,fj] at h2;refine⟨w2,seen P fr.fn new++#[],?_,?_,fun e he=>?_⟩
    .obtain⟨fnn,tmps,todo,defers,mode,kind,ro⟩:=fr;simp only at hm N9 hk hf h2 hfn;subst hm N9 hk hfn;unfold fo G;simp only;unfold unwind;simp only[hf,h2,AW];unfold doReturn;simp only[hi];rfl
    .have:=hx.tQ;rw[hw'] at this;exact⟨this.size,this.os,this.out,this.at_,this.old,this.kept⟩
    have:=hx.evs e (fP e he);rw[hw'] at this;simp only[oG] at this;rw[<-V1.size];exact this
 have fin:∀M (gs:Array aD) (d:Nat) (sl:Option (Nat × Nat)) (t:Trace) (q:Nat->Nat),sumTo gs.size q=M->Beside P gs (G fr []) w1 t q->
   ∃N last o w' t',runNT P (N+1) (rj gs (dB w1 w.tape d) sl) t=(.ended o w',t')/\runN P N (rj gs (dB w1 w.tape d) sl)=.next last/\od P last=.ended o w'/\
    Conc.Good P (fun v w'=>∃W',R v W'/\ju W' w'/\dC W'/\W.heap.size<=W'.heap.size) last o w' t':=by
  intro M
  induction M using Nat.strongRecOn with
  |ind M ih=>
   intro gs d sl t q hM hb;obtain⟨i,x,d1,DN,hi',hx,hst⟩:=crowd_pick (P:=P) (w:=dB w1 w.tape d) (sl:=sl) (Al hb rfl) ⟨0,_,hb.zero,rfl⟩;have ew:(dB w1 w.tape d).at d1=dB w1 w.tape d1:=rfl;rw[ew] at hst;rcases jf i with rfl|kC
   .obtain⟨w2,es,hend,hV2,hes⟩:=last w.tape d1;have jR:=runT_many_ended (P:=P) (sl:=DN) (i:=0) hb.zero hend;have Gf:=tX hes fr.fn fr.place;have hP:=KW hb.past (ax _) Gf;refine⟨0,rj gs (dB w1 w.tape d) sl,.done v,dB w2 w.tape d1,_,by simp only[runNT,hst,jR];rfl,rfl,by simp only[od,hst,jR],v,rfl,⟨W1,hv,⟨hV2.size,hV2.os,hV2.out,hV2.at_,hV2.old,hV2.kept⟩,C6,hs1⟩,hP.clean,hP.over,⟨fun y hy=>?_,rfl⟩,fun j y hy hj=>?_⟩
    .obtain⟨j,hj⟩:=List.mem_iff_getElem?.1 hy;rw[List.getElem?_drop] at hj;exact⟨_,(hb.old.old (1+j) y (by omega) (by simpa [rj] using hj)).leaves⟩
    have hq:=hb.old.old j y (by omega) hy;refine⟨q j,?_⟩;have e:(t++iB 0 fr.fn fr.place es).deaf j (t++iB 0 fr.fn fr.place es).size=Deaf t j:=zR Gf t j;rw[e];exact hq.hears _
   obtain⟨gs',aN,q',hr,hb',hsz,hlt⟩:=slip hb rfl kC hi' hx w.tape d1 DN;obtain⟨N,last,o,w',t',h1,h2,h3,h4⟩:=ih (sumTo gs'.size q') (by rw[hsz,<-hM];exact hlt) gs' d1 DN (t++aN) q' rfl hb';exact⟨N+1,last,o,w',t',by rw[runNT_succ_next (by rw[hst,hr])];exact h1,by rw[runN_succ_next (by rw[hst,hr])];exact h2,h3,h4⟩
 obtain⟨M,last,o,w',t',h1,h2,h3,h4⟩:=fin _ gs1 d1 DN t1 q1 rfl hb1;have e0:wZ (G (eA P f args .normal) []) w=rj #[G (eA P f args .normal) []] (dB w w.tape w.drawn) none:=rfl;refine⟨N+M,last,o,w',t',?_,?_,h3,h4⟩
 .rw[e0,show N+M+1=N+(M+1) by omega,runNT_add P N (M+1) _ _ _ _ hr1];exact h1
 rw[e0,<-runNT_fst P (N+M) _ #[],runNT_add P N M _ _ _ _ hr1,runNT_fst];exact h2
theorem Cz[K:uM](w:ar)(hκ:∀b x,K.κ b=some x->b<w.heap.size/\∀o,w.heap[b]?=some o->fT o=false->o=x):∃W,ju W w/\dC W/\W.tape=w.tape/\W.drawn=w.drawn/\∀(b:Nat) (o:Obj),w.heap[b]?=some o->fT o=true->W.heap[b]?=some o:=by
 refine⟨{ w with heap:=w.heap.map fun o=>if fT o then o else .coro none },⟨by simp,rfl,rfl,fun b=>?_,fun b x h=>by simpa using (hκ b x h).1,fun b x h h1=>?_⟩,fun b o ho=>?_,rfl,rfl,fun b o ho hk=>?_⟩
 .simp only[j9];cases h:w.heap[b]? with
  |none=>exact .inl rfl
  |some o=>
   simp only[dH]
   by_cases hk:fT o=true
   .rw[if_pos hk];exact .inl rfl
   exact .inr ⟨by rw[if_neg hk],o,rfl,by simpa using hk⟩
 .obtain⟨h2,h3⟩:=hκ b x h;simp only[j9,aQ h2,dH,Option.some.injEq] at h1;rw[aQ h2]
  by_cases hk:fT w.heap[b]=true
  .rw[if_pos hk] at h1;rw[h1] at hk;cases hk
  rw[h3 _ (aQ h2) (by simpa using hk)]
 .simp only[j9] at ho;obtain⟨x,hx,rfl⟩:=eO.1 ho
  by_cases hk:fT x=true
  .rw[if_pos hk];exact .inl hk
  rw[if_neg hk];exact .inr rfl
 simp only[j9,ho,dH,hk,if_true]
end
end Go.Lag
namespace Go.Lag
open Go.Conc
abbrev Rn:=Nat->Option Nat
def Rn.le(U U':Rn):Prop:=∀b c,U b=some c->U' b=some c
theorem Rn.le_refl(U:Rn):Rn.le U U:=fun _ _ h=>h
theorem Rn.le_trans{U U' U'':Rn}(h:Rn.le U U')(h':Rn.le U' U''):Rn.le U U'':=fun b c e=>h' b c (h b c e)
structure AR(U:Rn)(a a':dc):Prop where
 block:U a.block=some a'.block
 off:a'.off=a.off
 spot:a'.spot=a.spot
theorem AR.mono{U U':Rn}{a a':dc}(h:AR U a a')(hl:Rn.le U U'):AR U' a a':=⟨hl _ _ h.block,h.off,h.spot⟩
theorem AR.add{U:Rn}{a a':dc}(h:AR U a a')(n:Nat):AR U (a.add n) (a'.add n):=by
 unfold Addr.add;split
 .exact h
 exact⟨h.block,by simp[h.off],rfl⟩
theorem AR.at{U:Rn}{a a':dc}(h:AR U a a')(off:Nat):AR U { a with off } { a' with off }:=⟨h.block,rfl,h.spot⟩
inductive VR(F:Nat->Bool)(U:Rn):ak->ak->Prop
 |bool (b:Bool):VR F U (.bool b) (.bool b)
 |int (k:IntKind) (n:Int):VR F U (.int k n) (.int k n)
 |string (s:ByteArray):VR F U (.string s) (.string s)
 |CY:VR F U (.pointer none) (.pointer none)
 |ptr {a a':dc}:AR U a a'->VR F U (.pointer (some a)) (.pointer (some a'))
 |Ew (l c:Nat):VR F U (.slice none l c) (.slice none l c)
 |slice {a a':dc} (l c:Nat):AR U a a'->VR F U (.slice (some a) l c) (.slice (some a') l c)
 |WY:VR F U (.map none) (.map none)
 |map {r r':Nat}:U r=some r'->VR F U (.map (some r)) (.map (some r'))
 |chan (r:Option Nat):VR F U (.chan r) (.chan r)
 |func {f:dX} {fs fs' cs cs':Array ak}:F f=true->fs.size=fs'.size->(∀(i:Nat) (x y:ak),fs[i]?=some x->fs'[i]?=some y->VR F U x y)->
   cs.size=cs'.size->(∀(i:Nat) (x y:ak),cs[i]?=some x->cs'[i]?=some y->VR F U x y)->VR F U (.func (.func f) fs cs) (.func (.func f) fs' cs')
 |WZ:VR F U .nilFunc .nilFunc
 |agg {cs cs':Array ak}:cs.size=cs'.size->(∀(i:Nat) (x y:ak),cs[i]?=some x->cs'[i]?=some y->VR F U x y)->VR F U (.agg cs) (.agg cs')
 |tuple {cs cs':Array ak}:cs.size=cs'.size->(∀(i:Nat) (x y:ak),cs[i]?=some x->cs'[i]?=some y->VR F U x y)->VR F U (.tuple cs) (.tuple cs')
structure iV(F:Nat->Bool)(U:Rn)(cs cs':Array ak):Prop where
 size:cs.size=cs'.size
 at_:∀(i:Nat) (x y:ak),cs[i]?=some x->cs'[i]?=some y->VR F U x y
section
variable{F:Nat->Bool}{U U':Rn}
theorem VR.mono{v v':ak}(h:VR F U v v')(hl:Rn.le U U'):VR F U' v v':=by
 induction h with
 |bool b=>exact .bool b
 |int k n=>exact .int k n
 |string s=>exact .string s
 |CY=>exact .CY
 |ptr h=>exact .ptr (h.mono hl)
 |Ew l c=>exact .Ew l c
 |slice l c h=>exact .slice l c (h.mono hl)
 |WY=>exact .WY
 |map h=>exact .map (hl _ _ h)
 |chan r=>exact .chan r
 |func hf h1 h2 h3 h4 Yw ih2=>exact .func hf h1 Yw h3 ih2
 |WZ=>exact .WZ
 |agg h1 h2 ih=>exact .agg h1 ih
 |tuple h1 h2 ih=>exact .tuple h1 ih
theorem iV.mono{cs cs':Array ak}(h:iV F U cs cs')(hl:Rn.le U U'):iV F U' cs cs':=⟨h.size,fun i x y h1 h2=>(h.at_ i x y h1 h2).mono hl⟩
theorem iV.agg{cs cs':Array ak}(h:iV F U cs cs'):VR F U (.agg cs) (.agg cs'):=.agg h.size h.at_
theorem iV.tuple{cs cs':Array ak}(h:iV F U cs cs'):VR F U (.tuple cs) (.tuple cs'):=.tuple h.size h.at_
theorem iV.get{cs cs':Array ak}(h:iV F U cs cs'){i:Nat}{x:ak}(hx:cs[i]?=some x):∃y,cs'[i]?=some y/\VR F U x y:=by
 have hi:i<cs.size:=(ai.1 hx).1;have hi':i<cs'.size:=h.size▸hi;exact⟨cs'[i],aQ hi',h.at_ i x _ hx (aQ hi')⟩
theorem iV.none{cs cs':Array ak}(h:iV F U cs cs'){i:Nat}(hx:cs[i]?=none):cs'[i]?=none:=by
 rw[Array.getElem?_eq_none_iff] at hx ⊢;rw[<-h.size];exact hx
theorem iV.nil:iV F U #[] #[]:=⟨rfl,fun i x y h=>by simp at h⟩
theorem iV.append{a a' b b':Array ak}(h:iV F U a a')(h':iV F U b b'):iV F U (a++b) (a'++b'):=by
 refine⟨by simp[h.size,h'.size],fun i x y h1 h2=>?_⟩;rw[Array.getElem?_append] at h1 h2;rw[<-h.size] at h2;split at h1
 .rename_i hi;simp only[hi,if_true] at h2;exact h.at_ _ _ _ h1 h2
 rename_i hi;simp only[hi,if_false] at h2;exact h'.at_ _ _ _ h1 h2
theorem iV.push{a a':Array ak}{v v':ak}(h:iV F U a a')(h':VR F U v v'):iV F U (a.push v) (a'.push v'):=by
 refine⟨by simp[h.size],fun i x y h1 h2=>?_⟩;rw[ly] at h1 h2;rw[<-h.size] at h2;split at h1
 .rename_i hi;simp only[hi,if_true] at h2;cases h1;cases h2;exact h'
 rename_i hi;simp only[hi,if_false] at h2;exact h.at_ _ _ _ h1 h2
theorem iV.one{v v':ak}(h:VR F U v v'):iV F U #[v] #[v']:=iV.nil.push h
theorem iV.extract{a a':Array ak}(h:iV F U a a')(i j:Nat):iV F U (a.extract i j) (a'.extract i j):=by
 refine⟨by simp[h.size],fun k x y h1 h2=>?_⟩;rw[Array.getElem?_extract] at h1 h2;rw[<-h.size] at h2;split at h1
 .rename_i hi;simp only[hi,if_true] at h2;exact h.at_ _ _ _ h1 h2
 cases h1
theorem iV.set{a a':Array ak}{v v':ak}(h:iV F U a a')(h':VR F U v v')(i:Nat):iV F U (a.setIfInBounds i v) (a'.setIfInBounds i v'):=by
 refine⟨by simp[h.size],fun k x y h1 h2=>?_⟩;rw[bF] at h1 h2;split at h1
 .rename_i hi;simp only[hi,if_true] at h2;split at h1
  .rename_i hl;rw[if_pos (by rw[<-h.size];omega)] at h2;cases h1;cases h2;exact h'
  cases h1
 rename_i hi;simp only[hi,if_false] at h2;exact h.at_ _ _ _ h1 h2
theorem iV.replicate{v v':ak}(h:VR F U v v')(n:Nat):iV F U (bE n v) (bE n v'):=by
 refine⟨by simp,fun k x y h1 h2=>?_⟩;rw[Array.getElem?_replicate] at h1 h2
 by_cases hi:k<n
 .rw[if_pos hi] at h1 h2;cases h1;cases h2;exact h
 rw[if_neg hi] at h1;cases h1
theorem iV.getD{a a':Array ak}{v v':ak}(h:iV F U a a')(h':VR F U v v')(i:Nat):VR F U (a.getD i v) (a'.getD i v'):=by
 rw[aY,aY];cases hx:a[i]? with
 |none=>rw[h.none hx];exact h'
 |some x=>
  obtain⟨y,hy,hv⟩:=h.get hx;rw[hy];exact hv
theorem iV.map{α:Type}{l:Array α}{f g:α->ak}(h:∀x∈l,VR F U (f x) (g x)):iV F U (l.map f) (l.map g):=by
 refine⟨by simp,fun k x y h1 h2=>?_⟩;simp only[j9] at h1 h2;cases hk:l[k]? with
 |none=>rw[hk] at h1;cases h1
 |some z=>
  rw[hk] at h1 h2;cases h1;cases h2;exact h z (fe hk)
theorem tR:VR F U undef undef:=iV.nil.tuple
theorem VR.cells{v v':ak}(h:VR F U v v'):iV F U v.cells v'.cells:=by
 cases h with
 |agg h1 h2=>exact⟨h1,h2⟩
 |bool b=>exact .one (.bool b)
 |int k n=>exact .one (.int k n)
 |string s=>exact .one (.string s)
 |CY=>exact .one .CY
 |ptr h=>exact .one (.ptr h)
 |Ew l c=>exact .one (.Ew l c)
 |slice l c h=>exact .one (.slice l c h)
 |WY=>exact .one .WY
 |map h=>exact .one (.map h)
 |chan r=>exact .one (.chan r)
 |func hf h1 h2 h3 h4=>exact .one (.func hf h1 h2 h3 h4)
 |WZ=>exact .one .WZ
 |tuple h1 h2=>exact .one (.tuple h1 h2)
def zL:ak->Bool
 |.bool _|.int ..|.string _|.pointer none|.slice none _ _|.map none|.chan _|.nilFunc=>true
 |_=>false
def EY:ak->Bool
 |.agg cs=>cs.all zL
 |.tuple cs=>cs.all zL
 |v=>zL v
theorem LS{v:ak}(h:zL v=true):VR F U v v:=by
 unfold zL at h;split at h
 all_goals first|cases h;done|constructor
theorem Y2{cs:Array ak}(h:cs.all zL=true):iV F U cs cs:=⟨rfl,fun i x y h1 h2=>by
 rw[h1] at h2;cases h2
 exact LS (kg.1 h x (fe h1))⟩
theorem zK{v:ak}(h:EY v=true):VR F U v v:=by
 unfold EY at h;split at h
 .exact(Y2 h).agg
 .exact(Y2 h).tuple
 exact LS h
end
structure MER(F:Nat->Bool)(U:Rn)(x y:uv):Prop where
 key:VR F U x.key y.key
 val:VR F U x.val y.val
 born:x.born=y.born
inductive OR(F:Nat->Bool)(U:Rn):Obj->Obj->Prop
 |cells {cs cs':Array ak} {e:aZ} {z z':Nat × Nat}:iV F U cs cs'->(∀i,z'.1<=i->i<z'.2->z.1<=i/\i<z.2)->OR F U (.cells cs e z) (.cells cs' e z')
 |map {es es':Array uv} {k:Nat}:es.size=es'.size->(∀(i:Nat) (x y:uv),es[i]?=some x->es'[i]?=some y->MER F U x y)->OR F U (.map es k) (.map es' k)
 |number {a a':dc} (l:Bool):AR U a a'->OR F U (.number a l) (.number a' l)
theorem OR.I5{F:Nat->Bool}{U:Rn}{o o':Obj}(h:OR F U o o'):o.isChan=false:=by cases h<;>rfl
theorem OR.mono{F:Nat->Bool}{U U':Rn}{o o':Obj}(h:OR F U o o')(hl:Rn.le U U'):OR F U' o o':=by
 cases h with
 |cells h1 h2=>exact .cells (h1.mono hl) h2
 |map h1 h2=>exact .map h1 fun i x y a b=>⟨(h2 i x y a b).key.mono hl,(h2 i x y a b).val.mono hl,(h2 i x y a b).born⟩
 |number l h=>exact .number l (h.mono hl)
structure WR(F:Nat->Bool)(G:Nat)(B:Nat->Prop)(U:Rn)(lw w:ar):Prop where
 inj:∀a b c,U a=some c->U b=some c->a=b
 low:∀b c,U b=some c->G<=b/\G<=c
 base:∀b,B b->b<lw.heap.size
 at_:∀b c,U b=some c->∃o o',lw.heap[b]?=some o/\w.heap[c]?=some o'/\OR F U o o'/\(B b->∃cs e n,o=.cells cs e (0,n)/\cs.size<=n)
 I5:∀(b:Nat) (o:Obj),lw.heap[b]?=some o->o.isChan=false
def FK:Halt->Prop
 |.panic _|.stuck _=>True
 |.unsupported (.initOrder _)=>False
 |.unsupported _=>True
 |_=>False
section
variable{F:Nat->Bool}{G:Nat}{B:Nat->Prop}{U:Rn}{lw w:ar}
theorem WR.cell(h:WR F G B U lw w){a a':dc}(ha:AR U a a'){v:ak}(hv:lw.cell? a=some v):∃v',w.cell? a'=some v'/\VR F U v v':=by
 obtain⟨o,o',h1,h2,h3,_⟩:=h.at_ _ _ ha.block;unfold World.cell? at hv ⊢;rw[h1] at hv;rw[h2];cases h3 with
 |map _ _=>cases hv
 |number _ _=>cases hv
 |cells hc hz=>
  simp only at hv ⊢;rw[ha.spot,ha.off];split at hv
  .cases hv
  rename_i hs;rw[if_neg hs];exact hc.get hv
theorem WR.noCell(h:WR F G B U lw w){P:aL}{a a':dc}(ha:AR U a a')(hv:lw.cell? a=none){b:Bool}:∃e,lw.farLoad P a b=.error e/\FK e:=by
 obtain⟨o,o',h1,h2,h3,_⟩:=h.at_ _ _ ha.block;unfold World.farLoad World.noCell;rw[h1];cases h3 with
 |map _ _=>exact⟨_,rfl,trivial⟩
 |number _ _=>exact⟨_,rfl,trivial⟩
 |cells hc hz=>exact⟨_,rfl,trivial⟩
theorem WR.WX(h:WR F G B U lw w){P:aL}{a a':dc}(ha:AR U a a')(hv:lw.cell? a=none){b:Bool}{v:ak}:∃e,lw.farStore P a v b=.error e/\FK e:=by
 obtain⟨o,o',h1,h2,h3,_⟩:=h.at_ _ _ ha.block;unfold World.farStore World.noCell;rw[h1];cases h3 with
 |map _ _=>exact⟨_,rfl,trivial⟩
 |number _ _=>exact⟨_,rfl,trivial⟩
 |cells hc hz=>exact⟨_,rfl,trivial⟩
theorem WR.shape(h:WR F G B U lw w){r r':Nat}(hr:U r=some r'):w.shape? r'=lw.shape? r:=by
 obtain⟨o,o',h1,h2,h3,_⟩:=h.at_ _ _ hr;unfold World.shape?;rw[h1,h2];cases h3 with
 |map _ _=>rfl
 |number _ _=>rfl
 |cells hc hz=>simp[hc.size]
theorem WR.tape(h:WR F G B U lw w)(I I':Nat->dK->Nat)(d d':Nat):WR F G B U (dB lw I d) (dB w I' d'):=⟨h.inj,h.low,h.base,h.at_,h.I5⟩
theorem WR.turn(h:WR F G B U lw w){b c:Nat}(hb:U b=some c)(hB:¬B b){o o':Obj}(ho:OR F U o o'){eG w':ar}(h1:eG.heap=lw.heap.setIfInBounds b o)(h2:w'.heap=w.heap.setIfInBounds c o'):WR F G B U eG w':=by
 refine⟨h.inj,h.low,fun x hx=>by rw[h1];simpa using h.base x hx,fun x y hx=>?_,fun x y hx=>?_⟩
 rotate_left
 .rw[h1] at hx
  by_cases hxb:b=x
  .subst hxb;rcases Nat.lt_or_ge b lw.heap.size with hl|hl
   .rw[bg hl] at hx;cases hx;exact ho.I5
   rw[Array.getElem?_eq_none (by simpa using hl)] at hx;cases hx
  rw[aC hxb] at hx;exact h.I5 _ _ hx
 rw[h1,h2];obtain⟨p,p',e1,e2,e3,e4⟩:=h.at_ x y hx
 by_cases hxb:b=x
 .subst hxb;have:c=y:=by rw[hb] at hx;exact bj hx
  subst this;refine⟨o,o',?_,?_,ho,fun hlt=>absurd hlt hB⟩
  .rw[bg (eP e1)]
  rw[bg (eP e2)]
 have hyc:c≠y:=fun hc=>hxb (h.inj b x c hb (hc▸hx));rw[aC hxb,aC hyc];exact⟨p,p',e1,e2,e3,e4⟩
theorem yS{w:ar}{a:dc}{v:ak}{cs:Array ak}{e:aZ}{z:Nat × Nat}(h:w.heap[a.block]?=some (.cells cs e z)) :
  (w.setCell a v).heap=w.heap.setIfInBounds a.block (.cells (if a.spot.isSome then cs else cs.setIfInBounds a.off v) e z):=by
 apply Array.ext_getElem?;intro j;simp only[km];rw[pE,bF];split
 .rename_i Uk;subst Uk;rw[h,if_pos (eP h)];rfl
 rfl
theorem WR.setCell(h:WR F G B U lw w){a a':dc}(ha:AR U a a'){v v' x:ak}(hv:VR F U v v')(hc:lw.cell? a=some x)(hz:lw.frozen? a=false) :
  ¬B a.block/\w.frozen? a'=false/\WR F G B U (lw.setCell a v) (w.setCell a' v'):=by
 obtain⟨o,o',h1,h2,h3,h4⟩:=h.at_ _ _ ha.block;unfold World.cell? at hc;unfold World.frozen? at hz ⊢;rw[h1] at hc hz;rw[h2];cases h3 with
 |map _ _=>cases hc
 |number _ _=>cases hc
 |@cells cs cs' e z z' hcs hfz=>
  simp only at hc hz ⊢
  have ag9:cs[a.off]?=some x:=by
   split at hc
   .cases hc
   exact hc
  have hB:¬B a.block:=by
   intro hlt;obtain⟨cs1,e1,n,he,hn⟩:=h4 hlt;injection he with he1 he2 he3
   subst he1;subst he3;have:=(ai.1 ag9).1;have h5:a.off<n:=by omega
   simp[h5] at hz
  refine⟨hB,?_,?_⟩
  .rw[ha.off];cases hcc:(decide (z'.1<=a.off)&&decide (a.off<z'.2)) with
   |false=>rfl
   |true=>
    simp only[aI,decide_eq_true_eq] at hcc;have:=hfz _ hcc.1 hcc.2;simp[this] at hz
  refine h.turn ha.block hB (o:=.cells (if a.spot.isSome then cs else cs.setIfInBounds a.off v) e z) (o':=.cells (if a'.spot.isSome then cs' else cs'.setIfInBounds a'.off v') e z') ?_ (yS h1) (yS h2);rw[ha.spot,ha.off];split
  .exact .cells hcs hfz
  exact .cells (hcs.set hv _) hfz
def Rn.with(U:Rn)(b c:Nat):Rn:=fun x=>if x=b then some c else U x
theorem Rn.PH{U:Rn}{b c:Nat}(h:U b=none):Rn.le U (U.with b c):=fun x y hx=>by
 unfold Rn.with
 split
 .rename_i he;subst he;rw[h] at hx;cases hx
 exact hx
theorem Rn.Az{U:Rn}{b c:Nat}:U.with b c b=some c:=by simp[Rn.with]
theorem WR.fresh(h:WR F G B U lw w):U lw.heap.size=none:=by
 cases e:U lw.heap.size with
 |none=>rfl
 |some c=>
  obtain⟨o,_,h1,_⟩:=h.at_ _ _ e;have:=eP h1;omega
theorem WR.new(h:WR F G B U lw w)(hG:G<=lw.heap.size)(Dw:G<=w.heap.size){o o':Obj}(ho:OR F U o o') :
  WR F G B (U.with lw.heap.size w.heap.size) { lw with heap:=lw.heap.push o } { w with heap:=w.heap.push o' }:=by
 have hle:=Rn.PH (c:=w.heap.size) h.fresh;refine⟨fun a b c ha hb=>?_,fun b c hb=>?_,fun b hb=>by have:=h.base b hb;simp;omega,fun b c hb=>?_,fun b x hx=>?_⟩
 .unfold Rn.with at ha hb
  have lt:∀x,U x=some w.heap.size->False:=fun x hx=>by
   obtain⟨_,_,_,h2,_⟩:=h.at_ _ _ hx;have:=eP h2;omega
  split at ha
  .split at hb
   .rename_i h1 h2;rw[h1,h2]
   cases ha;exact(lt _ hb).elim
  split at hb
  .cases hb;exact(lt _ ha).elim
  exact h.inj _ _ _ ha hb
 .unfold Rn.with at hb
  split at hb
  .rename_i he;cases hb;rw[he];exact⟨hG,Dw⟩
  exact h.low _ _ hb
 .by_cases he:b=lw.heap.size
  .subst he;rw[Rn.Az] at hb;cases hb;refine⟨o,o',by simp,by simp,ho.mono hle,fun hlt=>absurd (h.base _ hlt) (by omega)⟩
  unfold Rn.with at hb
  simp only[he,if_false] at hb;obtain⟨p,p',e1,e2,e3,e4⟩:=h.at_ _ _ hb;refine⟨p,p',?_,?_,e3.mono hle,e4⟩
  .simp only;rw[Array.getElem?_push_lt (eP e1)];rw[<-e1];exact(aQ (eP e1)).symm
  simp only;rw[Array.getElem?_push_lt (eP e2)];rw[<-e2];exact(aQ (eP e2)).symm
 simp only at hx;rw[ly] at hx;split at hx
 .cases hx;exact ho.I5
 exact h.I5 _ _ hx
end
def qW(P:aL){α:Type}(s:iN α):Prop:=∀w es,∃h w' es',s.runT P w es=(.halt h w',es')/\FK h
inductive bX(P:aL)(F:Nat->Bool){α β:Type}(A:Rn->α->β->Prop):Rn->iN α->iN β->Prop
 |pure {U:Rn} {a:α} {b:β}:A U a b->bX P F A U (.pure a) (.pure b)
 |dead {U:Rn} {s:iN α} {s':iN β}:qW P s->bX P F A U s s'
 |load {U:Rn} {a a':dc} {k:ak->iN α} {k':ak->iN β}:AR U a a'->(∀v v',VR F U v v'->bX P F A U (k v) (k' v'))->bX P F A U (.load .plain a k) (.load .plain a' k')
 |store {U:Rn} {a a':dc} {v v':ak} {k:iN α} {k':iN β}:AR U a a'->VR F U v v'->bX P F A U k k'->bX P F A U (.store .plain a v k) (.store .plain a' v' k')
 |new {U:Rn} {o o':Obj} {k:Nat->iN α} {k':Nat->iN β}:OR F U o o'->(∀U' r r',Rn.le U U'->U' r=some r'->bX P F A U' (k r) (k' r'))->bX P F A U (.new o k) (.new o' k')
 |shape {U:Rn} {r r':Nat} {k:Option (aZ × Nat)->iN α} {k':Option (aZ × Nat)->iN β}:U r=some r'->(∀s,bX P F A U (k s) (k' s))->bX P F A U (.shape r k) (.shape r' k')
 |getObj {U:Rn} {r r':Nat} {k:Obj->iN α} {k':Obj->iN β}:U r=some r'->(∀o o',OR F U o o'->bX P F A U (k o) (k' o'))->bX P F A U (.getObj r k) (.getObj r' k')
 |setObj {U:Rn} {r r':Nat} {o o':Obj} {k:iN α} {k':iN β}:U r=some r'->OR F U o o'->bX P F A U k k'->bX P F A U (.setObj r o k) (.setObj r' o' k')
 |choose {U:Rn} {q:dK} {k:Nat->iN α} {k':Nat->iN β}:(∀n,bX P F A U (k n) (k' n))->bX P F A U (.choose q k) (.choose q k')
 |program {U:Rn} {k:aL->iN α} {k':aL->iN β}:bX P F A U (k P) (k' P)->bX P F A U (.program k) (.program k')
 |noRoom {U:Rn} {k:iN α} {k':iN β}:bX P F A U k k'->bX P F A U (.mark .noRoom k) (.mark .noRoom k')
section
variable{P:aL}{F:Nat->Bool}{α β γ Z:Type}{A:Rn->α->β->Prop}{A':Rn->γ->Z->Prop}{U:Rn}
theorem rH{h:Halt}(hh:FK h):qW P (.halt h:iN α):=fun w es=>⟨h,w,es,rfl,hh⟩
theorem qW.bind{s:iN α}(h:qW P s)(f:α->iN γ):qW P (s >>= f):=fun w es=>by
 obtain⟨e,w',es',h1,h2⟩:=h w es;refine⟨e,w',es',?_,h2⟩;show(s.bind f).runT P w es=_;rw[GL,h1]
theorem bX.bind{s:iN α}{s':iN β}{f:α->iN γ}{f':β->iN Z}(h:bX P F A U s s')(hf:∀U' a b,Rn.le U U'->A U' a b->bX P F A' U' (f a) (f' b)) :
  bX P F A' U (s >>= f) (s' >>= f'):=by
 show bX P F A' U (s.bind f) (s'.bind f')
 induction h with
 |pure ha=>exact hf _ _ _ (Rn.le_refl _) ha
 |dead hd=>exact .dead (hd.bind f)
 |load ha _ ih=>exact .load ha fun v v' hv=>ih v v' hv hf
 |store ha hv _ ih=>exact .store ha hv (ih hf)
 |new ho _ ih=>exact .new ho fun U' r r' hl hr=>ih U' r r' hl hr fun U'' a b hl'=>hf U'' a b (Rn.le_trans hl hl')
 |shape hr _ ih=>exact .shape hr fun s=>ih s hf
 |getObj hr _ ih=>exact .getObj hr fun o o' ho=>ih o o' ho hf
 |setObj hr ho _ ih=>exact .setObj hr ho (ih hf)
 |choose _ ih=>exact .choose fun n=>ih n hf
 |program _ ih=>exact .program (ih hf)
 |noRoom _ ih=>exact .noRoom (ih hf)
theorem bX.imp{A':Rn->α->β->Prop}{s:iN α}{s':iN β}(h:bX P F A U s s')(hf:∀U' a b,Rn.le U U'->A U' a b->A' U' a b):bX P F A' U s s':=by
 induction h with
 |pure ha=>exact .pure (hf _ _ _ (Rn.le_refl _) ha)
 |dead hd=>exact .dead hd
 |load ha _ ih=>exact .load ha fun v v' hv=>ih v v' hv hf
 |store ha hv _ ih=>exact .store ha hv (ih hf)
 |new ho _ ih=>exact .new ho fun U' r r' hl hr=>ih U' r r' hl hr fun U'' a b hl'=>hf U'' a b (Rn.le_trans hl hl')
 |shape hr _ ih=>exact .shape hr fun s=>ih s hf
 |getObj hr _ ih=>exact .getObj hr fun o o' ho=>ih o o' ho hf
 |setObj hr ho _ ih=>exact .setObj hr ho (ih hf)
 |choose _ ih=>exact .choose fun n=>ih n hf
 |program _ ih=>exact .program (ih hf)
 |noRoom _ ih=>exact .noRoom (ih hf)
abbrev At(U:Rn)(Q:α->β->Prop):Rn->α->β->Prop:=fun U' a b=>U'=U/\Q a b
theorem bX.dI{Q:α->β->Prop}{s:iN α}{s':iN β}{f:α->iN γ}{f':β->iN Z}(h:bX P F (At U Q) U s s')(hf:∀a b,Q a b->bX P F A' U (f a) (f' b)) :
  bX P F A' U (s >>= f) (s' >>= f'):=h.bind fun U' a b _ ⟨e,hq⟩=>by subst e;exact hf a b hq
theorem bX.dw{Q:α->β->Prop}{a:α}{b:β}(h:Q a b):bX P F (At U Q) U (eX a) (eX b):=.pure ⟨rfl,h⟩
theorem bn{s:String}{s':iN β}:bX P F A U (stuck s) s':=.dead (rH trivial)
theorem cI{u:Unsupported}{s':iN β}(h:∀g,u≠.initOrder g):bX P F A U (ri u) s':=.dead (rH (by cases u<;>first|trivial|exact absurd rfl (h _)))
end
def SM(R W:Nat->Prop)(e:Event):Prop:=
 (∃a:dc,e.loc=.cell a/\e.sync=false/\R a.block/\(e.write=true->W a.block))\/(∃r,e.loc=.obj r/\e.sync=false/\R r/\(e.write=true->W r))\/e.loc=.mark .noRoom
theorem SM.mono{R R' W W':Nat->Prop}{e:Event}(h:SM R W e)(hR:∀c,R c->R' c)(hW:∀c,W c->W' c):SM R' W' e:=by
 rcases h with⟨a,h1,h2,h3,h4⟩|⟨r,h1,h2,h3,h4⟩|h
 .exact .inl ⟨a,h1,h2,hR _ h3,fun e=>hW _ (h4 e)⟩
 .exact .inr (.inl ⟨r,h1,h2,hR _ h3,fun e=>hW _ (h4 e)⟩)
 exact .inr (.inr h)
def Rn.knows(U:Rn)(c:Nat):Prop:=∃b,U b=some c
def Rn.owns(U:Rn)(B:Nat->Prop)(c:Nat):Prop:=∃b,¬B b/\U b=some c
def vV(lw w:ar):Prop:=∀i,lw.tape (lw.drawn+i)=w.tape (w.drawn+i)
structure mN(F:Nat->Bool)(G:Nat)(B:Nat->Prop)(U:Rn)(lw w:ar)(U':Rn)(eG w':ar)(evs:Array Event):Prop where
 wr:WR F G B U' eG w'
 le:Rn.le U U'
 new:∀b c,U' b=some c->U b=some c\/(lw.heap.size<=b/\w.heap.size<=c)
 Hm:lw.heap.size<=eG.heap.size
 grow:w.heap.size<=w'.heap.size
 keep:∀c,c<w.heap.size->¬U.owns B c->w'.heap[c]?=w.heap[c]?
 fresh:∀c,w.heap.size<=c->c<w'.heap.size->U'.knows c
 tape:w'.tape=w.tape
 PG:eG.tape=lw.tape
 draw:∃k,eG.drawn=lw.drawn+k/\w'.drawn=w.drawn+k
 os:w'.os=w.os
 out:w'.output=w.output
 evs:∀e∈evs,SM U'.knows (U'.owns B) e
section
variable{P:aL}{F:Nat->Bool}{G:Nat}{B:Nat->Prop}{U U' U'':Rn}{lw w eG w' adb w'':ar}{es es':Array Event}
theorem mN.refl(h:WR F G B U lw w):mN F G B U lw w U lw w #[]:=
 ⟨h,Rn.le_refl _,fun b c h=>.inl h,ax _,ax _,fun _ _ _=>rfl,fun c h1 h2=>absurd h1 (by omega),rfl,rfl,⟨0,rfl,rfl⟩,rfl,rfl,by simp⟩
theorem mN.trans(h:mN F G B U lw w U' eG w' es)(h':mN F G B U' eG w' U'' adb w'' es')(hB:∀b,B b->b<lw.heap.size):mN F G B U lw w U'' adb w'' (es++es'):=by
 refine⟨h'.wr,Rn.le_trans h.le h'.le,fun b c hb=>?_,aO h.Hm h'.Hm,aO h.grow h'.grow,fun c hc hn=>?_,fun c h1 h2=>?_,h'.tape.trans h.tape,h'.PG.trans h.PG,?_,h'.os.trans h.os,h'.out.trans h.out,fun e he=>?_⟩
 .rcases h'.new b c hb with h1|⟨h1,h2⟩
  .exact h.new b c h1
  exact .inr ⟨aO h.Hm h1,aO h.grow h2⟩
 .rw[h'.keep c (bA hc h.grow) ?_,h.keep c hc hn];rintro⟨b,hb,he⟩;rcases h.new b c he with h1|⟨_,h2⟩
  .exact hn ⟨b,hb,h1⟩
  omega
 .rcases Nat.lt_or_ge c w'.heap.size with hl|hg
  .obtain⟨b,hb⟩:=h.fresh c h1 hl;exact⟨b,h'.le _ _ hb⟩
  exact h'.fresh c hg h2
 .obtain⟨k,h1,h2⟩:=h.draw;obtain⟨k',h3,h4⟩:=h'.draw;exact⟨k+k',by omega,by omega⟩
 rcases GQ.1 he with h1|h1
 .exact(h.evs e h1).mono (fun c ⟨b,hb⟩=>⟨b,h'.le _ _ hb⟩) (fun c ⟨b,h1,hb⟩=>⟨b,h1,h'.le _ _ hb⟩)
 exact h'.evs e h1
theorem mN.Yq(h:mN F G B U lw w U' eG w' es)(ht:vV lw w):vV eG w':=fun i=>by
 obtain⟨k,h1,h2⟩:=h.draw;rw[h.PG,h.tape,h1,h2,Nat.add_assoc,Nat.add_assoc];exact ht _
theorem mN.more(h:mN F G B U lw w U' eG w' es)(h2:∀e∈es',SM U'.knows (U'.owns B) e):mN F G B U lw w U' eG w' es':=
 ⟨h.wr,h.le,h.new,h.Hm,h.grow,h.keep,h.fresh,h.tape,h.PG,h.draw,h.os,h.out,h2⟩
theorem mN.push(h:mN F G B U lw w U' eG w' es){e:Event}(he:SM U.knows (U.owns B) e):mN F G B U lw w U' eG w' (#[e]++es):=
 h.more fun x hx=>by
  rcases GQ.1 hx with h1|h1
  .simp only[List.mem_toArray,List.mem_singleton] at h1;subst h1;exact he.mono (fun c ⟨b,hb⟩=>⟨b,h.le _ _ hb⟩) (fun c ⟨b,h1,hb⟩=>⟨b,h1,h.le _ _ hb⟩)
  exact h.evs x h1
theorem GR(h:WR F G B U lw w)(h':WR F G B U eG w'){c:Nat}(hc:U.owns B c)(hl:eG.heap.size=lw.heap.size){o':Obj}(hh:w'.heap=w.heap.setIfInBounds c o')
  (h1:w'.tape=w.tape) (h2:eG.tape=lw.tape) (h3:eG.drawn=lw.drawn) (h4:w'.drawn=w.drawn) (h5:w'.os=w.os) (h6:w'.output=w.output):mN F G B U lw w U eG w' #[]:=
 ⟨h',Rn.le_refl _,fun b c h=>.inl h,by omega,by rw[hh];simp,fun x hx hn=>by
  rw[hh,aC (fun e=>hn (by rw[<-e];exact hc))],
  fun c h1 h2=>by rw[hh] at h2;simp at h2;omega,h1,h2,⟨0,by simp[h3],by simp[h4]⟩,h5,h6,by simp⟩
theorem SS(h:WR F G B U lw w)(hG:G<=lw.heap.size)(Dw:G<=w.heap.size){o o':Obj}(ho:OR F U o o') :
  mN F G B U lw w (U.with lw.heap.size w.heap.size) { lw with heap:=lw.heap.push o } { w with heap:=w.heap.push o' } #[]:=by
 refine⟨h.new hG Dw ho,Rn.PH h.fresh,fun b c hb=>?_,by simp,by simp,fun c hc _=>?_,fun c h1 h2=>?_,rfl,rfl,⟨0,rfl,rfl⟩,rfl,rfl,by simp⟩
 .unfold Rn.with at hb
  split at hb
  .rename_i he;cases hb;exact .inr ⟨by omega,ax _⟩
  exact .inl hb
 .simp only;rw[Array.getElem?_push_lt hc];exact(aQ hc).symm
 simp only[Array.size_push] at h2;have:c=w.heap.size:=by omega
 subst this;exact⟨lw.heap.size,Rn.Az⟩
theorem GU(h:WR F G B U lw w):mN F G B U lw w U { lw with drawn:=lw.drawn+1 } { w with drawn:=w.drawn+1 } #[]:=
 ⟨h.tape _ _ _ _,Rn.le_refl _,fun b c h=>.inl h,ax _,ax _,fun _ _ _=>rfl,fun c h1 h2=>absurd h2 (by simp only;omega),rfl,rfl,⟨1,rfl,rfl⟩,rfl,rfl,by simp⟩
theorem qz{α:Type}(es evs:Array α)(e:α):es.push e++evs=es++(#[e]++evs):=by
 rw[<-Array.append_assoc,Array.append_singleton]
theorem bX.runT{α β:Type}{A:Rn->α->β->Prop}{s:iN α}{s':iN β}(h:bX P F A U s s'):∀ {lw w:ar},WR F G B U lw w->vV lw w->G<=lw.heap.size->G<=w.heap.size->∀es es',
  (∃a eG l b w' evs U',s.runT P lw es=(.ok a eG,l)/\s'.runT P w es'=(.ok b w',es'++evs)/\A U' a b/\mN F G B U lw w U' eG w' evs)\/
  (∃e eG l,s.runT P lw es=(.halt e eG,l)/\FK e):=by
 induction h with
 |@pure U a b ha=>exact fun hw _ _ _ es es'=>.inl ⟨a,_,es,b,_,#[],U,rfl,by simp[dF],ha,.refl hw⟩
 |@dead U s s' hd=>
  intro lw w hw _ _ _ es es';obtain⟨e,w1,l,h1,h2⟩:=hd lw es;exact .inr ⟨e,w1,l,h1,h2⟩
 |@load U a a' k k' ha _ ih=>
  intro lw w hw ht hG Dw es es';simp only[dF];cases hc:lw.cell? a with
  |none=>
   obtain⟨e,h1,h2⟩:=hw.noCell (P:=P) ha hc (b:=(mG == .atomic));rw[h1];exact .inr ⟨e,lw,es,rfl,h2⟩
  |some v=>
   obtain⟨v',hc',hv⟩:=hw.cell ha hc;rw[hc'];rcases ih v v' hv hw ht hG Dw (es.push ⟨.cell a,false,mG == .atomic⟩) (es'.push ⟨.cell a',false,mG == .atomic⟩) with⟨x,kK,l,y,w1,evs,ρ1,h1,h2,h3,h4⟩|h
   .refine .inl ⟨x,kK,l,y,w1,_,ρ1,h1,?_,h3,h4.push (e:=⟨.cell a',false,mG == .atomic⟩) (.inl ⟨a',rfl,rfl,⟨_,ha.block⟩,by simp⟩)⟩;exact h2.trans (by rw[qz])
   exact .inr h
 |@store U a a' v v' k k' ha hv _ ih=>
  intro lw w hw ht hG Dw es es'
  have main:(∃a1 eG l b w' evs U',(match lw.cell? a with
     |some _=>if lw.frozen? a then(.halt (.unsupported (.unsafePointer "a write to bytes that a string shares")) lw,es) else k.runT P (lw.setCell a v) (es.push ⟨.cell a,true,mG == .atomic⟩)
     |none=>match lw.farStore P a v (mG == .atomic) with
      |.ok (w,tS)=>k.runT P w (es++tS.toArray.map (⟨.cell ·,true,mG == .atomic⟩))
      |.error h=>(.halt h lw,es))=(.ok a1 eG,l)/\(match w.cell? a' with
     |some _=>if w.frozen? a' then(.halt (.unsupported (.unsafePointer "a write to bytes that a string shares")) w,es') else k'.runT P (w.setCell a' v') (es'.push ⟨.cell a',true,mG == .atomic⟩)
     |none=>match w.farStore P a' v' (mG == .atomic) with
      |.ok (w,tS)=>k'.runT P w (es'++tS.toArray.map (⟨.cell ·,true,mG == .atomic⟩))
      |.error h=>(.halt h w,es'))=(.ok b w',es'++evs)/\A U' a1 b/\mN F G B U lw w U' eG w' evs)\/(∃e eG l,(match lw.cell? a with
     |some _=>if lw.frozen? a then(.halt (.unsupported (.unsafePointer "a write to bytes that a string shares")) lw,es) else k.runT P (lw.setCell a v) (es.push ⟨.cell a,true,mG == .atomic⟩)
     |none=>match lw.farStore P a v (mG == .atomic) with
      |.ok (w,tS)=>k.runT P w (es++tS.toArray.map (⟨.cell ·,true,mG == .atomic⟩))
      |.error h=>(.halt h lw,es))=(.halt e eG,l)/\FK e):=by
   cases hc:lw.cell? a with
   |none=>
    obtain⟨e,h1,h2⟩:=hw.WX (P:=P) ha hc (b:=(mG == .atomic)) (v:=v);simp only[h1];exact .inr ⟨e,lw,es,rfl,h2⟩
   |some x=>
    obtain⟨x',hc',_⟩:=hw.cell ha hc;simp only[hc'];cases hz:lw.frozen? a with
    |true=>exact .inr ⟨_,lw,es,rfl,trivial⟩
    |false=>
     obtain⟨hB,hz',hw'⟩:=hw.setCell ha hv hc hz;simp only[hz',bG,if_false];have hsz:(lw.setCell a v).heap.size=lw.heap.size:=by simp[km]
     have hown:U.owns B a'.block:=⟨a.block,hB,ha.block⟩
     have hturn:mN F G B U lw w U (lw.setCell a v) (w.setCell a' v') #[]:=by
      obtain⟨o,o',_,e2,_,_⟩:=hw.at_ _ _ ha.block;refine⟨hw',Rn.le_refl _,fun b c h=>.inl h,by omega,by simp[km],fun c hcl hn=>?_,fun c h1 h2=>by simp[km] at h2;omega,rfl,rfl,⟨0,rfl,rfl⟩,rfl,rfl,by simp⟩;simp only[km,pE];rw[if_neg (fun e=>hn (by rw[<-e];exact hown))]
     rcases ih hw' (fun i=>ht i) (by omega) (by simp[km];exact Dw) (es.push ⟨.cell a,true,mG == .atomic⟩) (es'.push ⟨.cell a',true,mG == .atomic⟩) with⟨x,kK,l,y,w1,evs,ρ1,h1,h2,h3,h4⟩|h
     .refine .inl ⟨x,kK,l,y,w1,#[⟨.cell a',true,mG == .atomic⟩]++(#[]++evs),ρ1,h1,?_,h3,(hturn.trans h4 hw.base).push (.inl ⟨a',rfl,rfl,⟨_,ha.block⟩,fun _=>hown⟩)⟩;exact h2.trans (by simp only[qz,fj])
     exact .inr h
  cases hv with
  |agg _ _=>exact .inr ⟨_,lw,es,rfl,trivial⟩
  |tuple _ _=>exact .inr ⟨_,lw,es,rfl,trivial⟩
  |_=>simp only[dF];exact main
 |@new U o o' k k' ho _ ih=>
  intro lw w hw ht hG Dw es es';simp only[dF];have h0:=SS hw hG Dw ho;rcases ih _ lw.heap.size w.heap.size h0.le Rn.Az h0.wr (h0.Yq ht) (by simp;omega) (by simp;omega) es es' with⟨x,kK,l,y,w1,evs,ρ1,h1,h2,h3,h4⟩|h
  .exact .inl ⟨x,kK,l,y,w1,_,ρ1,h1,by rw[h2];simp,h3,h0.trans h4 hw.base⟩
  exact .inr h
 |@shape U r r' k k' hr _ ih=>
  intro lw w hw ht hG Dw es es';simp only[dF];rw[hw.shape hr];exact ih _ hw ht hG Dw es es'
 |@getObj U r r' k k' hr _ ih=>
  intro lw w hw ht hG Dw es es';obtain⟨o,o',e1,e2,ho,_⟩:=hw.at_ _ _ hr;simp only[dF,e1,e2];cases ho with
  |cells _ _=>exact .inr ⟨_,lw,es,rfl,trivial⟩
  |@map es1 es2 k1 hs hm=>
   simp only;rcases ih _ _ (.map hs hm) hw ht hG Dw (es.push ⟨.obj r,false,(Obj.map es1 k1).isChan⟩) (es'.push ⟨.obj r',false,(Obj.map es2 k1).isChan⟩) with⟨x,kK,l,y,w1,evs,ρ1,h1,h2,h3,h4⟩|h
   .refine .inl ⟨x,kK,l,y,w1,_,ρ1,h1,?_,h3,h4.push (e:=⟨.obj r',false,(Obj.map es2 k1).isChan⟩) (.inr (.inl ⟨r',rfl,rfl,⟨_,hr⟩,by simp⟩))⟩;exact h2.trans (by simp only[qz,fj])
   exact .inr h
  |@number a1 a2 k1 hs=>
   simp only;rcases ih _ _ (.number k1 hs) hw ht hG Dw (es.push ⟨.obj r,false,(Obj.number a1 k1).isChan⟩) (es'.push ⟨.obj r',false,(Obj.number a2 k1).isChan⟩) with⟨x,kK,l,y,w1,evs,ρ1,h1,h2,h3,h4⟩|h
   .refine .inl ⟨x,kK,l,y,w1,_,ρ1,h1,?_,h3,h4.push (e:=⟨.obj r',false,(Obj.number a2 k1).isChan⟩) (.inr (.inl ⟨r',rfl,rfl,⟨_,hr⟩,by simp⟩))⟩;exact h2.trans (by simp only[qz,fj])
   exact .inr h
 |@setObj U r r' o o' k k' hr ho _ ih=>
  intro lw w hw ht hG Dw es es';obtain⟨p,p',e1,e2,hp,hfz⟩:=hw.at_ _ _ hr;simp only[dF,e1,e2];cases hp with
  |cells _ _=>exact .inr ⟨_,lw,es,rfl,trivial⟩
  |@map es1 es2 k1 hs hm=>
   simp only
   have hB:¬B r:=fun hl=>by
    obtain⟨_,_,_,h,_⟩:=hfz hl;cases h
   have hown:U.owns B r':=⟨r,hB,hr⟩
   have hw':WR F G B U { lw with heap:=lw.heap.setIfInBounds r o } { w with heap:=w.heap.setIfInBounds r' o' }:=hw.turn hr hB ho rfl rfl
   have hturn:mN F G B U lw w U { lw with heap:=lw.heap.setIfInBounds r o } { w with heap:=w.heap.setIfInBounds r' o' } #[]:=
    GR hw hw' hown (by simp) rfl rfl rfl rfl rfl rfl rfl
   have hch:o'.isChan=false:=by cases ho<;>rfl
   rcases ih hw' (fun i=>ht i) (by simpa using hG) (by simpa using Dw) (es.push ⟨.obj r,true,o.isChan⟩) (es'.push ⟨.obj r',true,o'.isChan⟩) with⟨x,kK,l,y,w1,evs,ρ1,h1,h2,h3,h4⟩|h
   .refine .inl ⟨x,kK,l,y,w1,#[⟨.obj r',true,o'.isChan⟩]++(#[]++evs),ρ1,h1,?_,h3,(hturn.trans h4 hw.base).push (.inr (.inl ⟨r',rfl,hch,⟨_,hr⟩,fun _=>hown⟩))⟩;exact h2.trans (by simp only[qz,fj])
   exact .inr h
  |@number a1 a2 k1 hs=>
   simp only
   have hB:¬B r:=fun hl=>by
    obtain⟨_,_,_,h,_⟩:=hfz hl;cases h
   have hown:U.owns B r':=⟨r,hB,hr⟩
   have hw':WR F G B U { lw with heap:=lw.heap.setIfInBounds r o } { w with heap:=w.heap.setIfInBounds r' o' }:=hw.turn hr hB ho rfl rfl
   have hturn:mN F G B U lw w U { lw with heap:=lw.heap.setIfInBounds r o } { w with heap:=w.heap.setIfInBounds r' o' } #[]:=
    GR hw hw' hown (by simp) rfl rfl rfl rfl rfl rfl rfl
   have hch:o'.isChan=false:=by cases ho<;>rfl
   rcases ih hw' (fun i=>ht i) (by simpa using hG) (by simpa using Dw) (es.push ⟨.obj r,true,o.isChan⟩) (es'.push ⟨.obj r',true,o'.isChan⟩) with⟨x,kK,l,y,w1,evs,ρ1,h1,h2,h3,h4⟩|h
   .refine .inl ⟨x,kK,l,y,w1,#[⟨.obj r',true,o'.isChan⟩]++(#[]++evs),ρ1,h1,?_,h3,(hturn.trans h4 hw.base).push (.inr (.inl ⟨r',rfl,hch,⟨_,hr⟩,fun _=>hown⟩))⟩;exact h2.trans (by simp only[qz,fj])
   exact .inr h
 |@choose U q k k' _ ih=>
  intro lw w hw ht hG Dw es es';simp only[dF];split
  .exact ih 0 hw ht hG Dw es es'
  have h0:lw.tape lw.drawn=w.tape w.drawn:=ht 0;rw[h0];have hd:=GU hw;rcases ih (q.cut (w.tape w.drawn q)) hd.wr (hd.Yq ht) hG Dw es es' with⟨x,kK,l,y,w1,evs,ρ1,h1,h2,h3,h4⟩|h
  .exact .inl ⟨x,kK,l,y,w1,_,ρ1,h1,by rw[h2];simp,h3,hd.trans h4 hw.base⟩
  exact .inr h
 |@program U k k' _ ih=>
  intro lw w hw ht hG Dw es es';simp only[dF];exact ih hw ht hG Dw es es'
 |@noRoom U k k' _ ih=>
  intro lw w hw ht hG Dw es es';simp only[dF];rcases ih hw ht hG Dw (es.push ⟨.mark .noRoom,false,true⟩) (es'.push ⟨.mark .noRoom,false,true⟩) with⟨x,kK,l,y,w1,evs,ρ1,h1,h2,h3,h4⟩|h
  .refine .inl ⟨x,kK,l,y,w1,_,ρ1,h1,?_,h3,h4.push (e:=⟨.mark .noRoom,false,true⟩) (.inr (.inr rfl))⟩;exact h2.trans (by simp only[qz,fj])
  exact .inr h
end
section
variable{P:aL}{F:Nat->Bool}{α β γ Z:Type}{A:Rn->α->β->Prop}{A':Rn->γ->Z->Prop}{U:Rn}
abbrev Same(U:Rn)(C:α->Prop):Rn->α->α->Prop:=At U fun a b=>a=b/\C a
theorem bX.bJ{C:α->Prop}{s s':iN α}{f:α->iN γ}{f':α->iN Z}(h:bX P F (Same U C) U s s')(hf:∀a,C a->bX P F A' U (f a) (f' a)) :
  bX P F A' U (s >>= f) (s' >>= f'):=h.dI fun a b ⟨e,hc⟩=>by subst e;exact hf a hc
theorem wy{C:α->Prop}{a:α}(h:C a):bX P F (Same U C) U (eX a) (eX a):=.pure ⟨rfl,rfl,h⟩
theorem cX{a:α}:bX P F (Same U fun _=>True) U (eX a) (eX a):=.pure ⟨rfl,rfl,trivial⟩
theorem ku{f:aL->iN α}{f':aL->iN β}(h:bX P F A U (f P) (f' P)):bX P F A U (Go.program >>= f) (Go.program >>= f'):=.program h
theorem dt{t:aZ}:bX P F (Same U fun d=>P.underlying t=some d) U (jc t) (jc t):=by
 unfold jc;refine ku ?_;cases h:P.underlying t with
 |none=>exact bn
 |some d=>exact wy rfl
theorem jB{t:aZ}:bX P F (Same U fun d=>P.info? t=some d) U (kY t) (kY t):=by
 unfold kY;refine ku ?_;cases h:P.info? t with
 |none=>exact bn
 |some d=>exact wy rfl
theorem gS{t:aZ}:bX P F (Same U fun n=>∃i,P.info? t=some i/\n=i.size) U (sizeOf t) (sizeOf t):=by
 unfold sizeOf;refine jB.bJ fun i hi=>?_;exact wy ⟨i,hi,rfl⟩
theorem DX{t:aZ}:bX P F (Same U fun _=>True) U (isAgg t) (isAgg t):=by
 unfold isAgg;refine dt.bJ fun d _=>?_;cases d<;>exact cX
def oz(P:aL)(t:aZ):Bool:=((P.info? t).bind (·.zero)).all EY
theorem lD{t:aZ}(h:oz P t=true):bX P F (At U (VR F U)) U (iY t) (iY t):=by
 unfold iY;refine jB.bJ fun i hi=>?_;unfold oz at h;rw[hi] at h;cases hz:i.zero with
 |none=>exact cI (fun g=>by simp)
 |some v=>
  simp only[Option.bind_some,hz,Option.all_some] at h;exact .dw (zK h)
theorem Hf{a a':dc}(ha:AR U a a'):bX P F (At U (VR F U)) U (load a) (load a'):=.load ha fun v v' hv=>.dw hv
theorem qu{a a':dc}(ha:AR U a a'):∀(n i:Nat) {acc X9:Array ak},iV F U acc X9->bX P F (At U (iV F U)) U (loadCellsFrom a i n acc) (loadCellsFrom a' i n X9)
 |0,i,acc,X9,h=>.dw h
 |n+1,i,acc,X9,h=>(Hf (ha.add i)).dI fun v v' hv=>qu ha n (i+1) (h.push hv)
theorem vy{a a':dc}(ha:AR U a a')(n:Nat):bX P F (At U (iV F U)) U (loadCells a n) (loadCells a' n):=qu ha n 0 .nil
theorem yT{t:aZ}{a a':dc}(ha:AR U a a'):bX P F (At U (VR F U)) U (loadVar t a) (loadVar t a'):=by
 unfold loadVar;refine DX.bJ fun b _=>?_;cases b with
 |true=>exact gS.bJ fun n _=>(vy ha n).dI fun cs cs' h=>.dw h.agg
 |false=>exact Hf ha
theorem Nh{a a':dc}{v v':ak}(ha:AR U a a')(hv:VR F U v v'):bX P F (At U fun _ _=>True) U (store a v) (store a' v'):=.store ha hv (.dw trivial)
inductive Sw(F:Nat->Bool)(U:Rn):List ak->List ak->Prop
 |nil:Sw F U [] []
 |cons {x y:ak} {l m:List ak}:VR F U x y->Sw F U l m->Sw F U (x::l) (y::m)
theorem ZP{l m:List ak}(hs:l.length=m.length)(h:∀(i:Nat) (x y:ak),l[i]?=some x->m[i]?=some y->VR F U x y):Sw F U l m:=by
 induction l generalizing m with
 |nil=>
  cases m with
  |nil=>exact .nil
  |cons y m=>cases hs
 |cons x l ih=>
  cases m with
  |nil=>cases hs
  |cons y m=>exact .cons (h 0 x y rfl rfl) (ih (by simpa using hs) fun i a b h1 h2=>h (i+1) a b (by simpa using h1) (by simpa using h2))
theorem iV.list{a a':Array ak}(h:iV F U a a'):Sw F U a.toList a'.toList:=ZP (by simpa using h.size) fun i x y h1 h2=>h.at_ i x y (by simpa using h1) (by simpa using h2)
theorem Sw.row{l m:List ak}(h:Sw F U l m):iV F U l.toArray m.toArray:=by
 induction h with
 |nil=>exact .nil
 |@cons x y l m hv _ ih=>
  have:=(iV.one hv).append ih;simpa using this
theorem uA{a a':dc}(ha:AR U a a'){l m:List ak}(h:Sw F U l m):∀i,bX P F (At U fun _ _=>True) U (storeCells a l i) (storeCells a' m i):=by
 induction h with
 |nil=>intro i;exact .dw trivial
 |cons hv _ ih=>intro i;exact(Nh (ha.add i) hv).dI fun _ _ _=>ih (i+1)
theorem F0{t:aZ}{a a':dc}{v v':ak}(ha:AR U a a')(hv:VR F U v v'):bX P F (At U fun _ _=>True) U (storeVar t a v) (storeVar t a' v'):=by
 unfold storeVar;refine gS.bJ fun n _=>?_;rw[<-hv.cells.size];split
 .exact .dead ((rH (h:=.stuck _) trivial).bind _)
 exact uA ha hv.cells.list 0
theorem vx{e:aZ}{cs cs':Array ak}(h:iV F U cs cs'):bX P F AR U (newRow e cs) (newRow e cs'):=by
 unfold newRow;exact bX.bind (A:=fun U' r r'=>U' r=some r') (.new (.cells h fun i h1 h2=>absurd h2 (Nat.not_lt_zero _)) fun U' r r' _ hr=>.pure hr) fun U' r r' _ hr=>.pure ⟨hr,rfl,rfl⟩
theorem BW{e:aZ}{v v':ak}(h:VR F U v v'):bX P F AR U (newVar e v) (newVar e v'):=vx h.cells
theorem nO{t:aZ}{cs cs':Array ak}(h:iV F U cs cs')(off:Nat):bX P F (At U (VR F U)) U (part t cs off) (part t cs' off):=by
 unfold part;refine DX.bJ fun b _=>?_;cases b with
 |true=>exact gS.bJ fun n _=>.dw (h.extract _ _).agg
 |false=>
  simp only[bG,if_false];cases hx:cs[off]? with
  |none=>exact bn
  |some x=>
   obtain⟨y,hy,hv⟩:=h.get hx;rw[hy];exact .dw hv
theorem qs{r r':Nat}(h:U r=some r'):bX P F (Same U fun _=>True) U (shape r) (shape r'):=.shape h fun s=>cX
theorem F2{r r':Nat}(h:U r=some r'):bX P F (At U fun x y=>(x=none/\y=none)\/∃a a' l,x=some (a,l)/\y=some (a',l)/\AR U a a') U (numberAt r) (numberAt r'):=by
 unfold numberAt;refine(qs h).bJ fun s _=>?_;split
 .exact .dw (.inl ⟨rfl,rfl⟩)
 .refine bX.dI (Q:=OR F U) (.getObj h fun o o' ho=>.dw ho) fun o o' ho=>?_;cases ho with
  |cells _ _=>exact .dw (.inl ⟨rfl,rfl⟩)
  |map _ _=>exact .dw (.inl ⟨rfl,rfl⟩)
  |number l ha=>exact .dw (.inr ⟨_,_,l,rfl,rfl,ha⟩)
theorem iE{a a':dc}(h:AR U a a'):bX P F (At U fun x y=>AR U x.1 y.1/\x.2=y.2) U (vg a) (vg a'):=by
 unfold vg;refine(F2 h.block).dI fun x y ZV=>?_;rcases ZV with⟨rfl,rfl⟩|⟨b,b',l,rfl,rfl,hb⟩
 .exact .dw ⟨h,rfl⟩
 exact .dw ⟨hb,rfl⟩
theorem BS{r r':Nat}(h:U r=some r'):bX P F (At U fun x y=>x=none/\y=none) U (viewAt r) (viewAt r'):=by
 unfold viewAt;refine(qs h).bJ fun s _=>?_;split
 .exact .dw ⟨rfl,rfl⟩
 refine bX.dI (Q:=OR F U) (.getObj h fun o o' ho=>.dw ho) fun o o' ho=>?_;cases ho<;>exact .dw ⟨rfl,rfl⟩
theorem KB{a a':dc}(h:AR U a a'):bX P F (At U fun _ _=>True) U (noView a) (noView a'):=by
 unfold noView;refine(BS h.block).dI fun x y ⟨hx,hy⟩=>?_;subst hx;subst hy;exact .dw trivial
theorem tU{v v':ak}(h:VR F U v v'):bX P F (Same U fun x=>v=.int x.1 x.2/\v'=.int x.1 x.2) U (asIntOf v) (asIntOf v'):=by
 cases h<;>first|exact .pure ⟨rfl,rfl,rfl,rfl⟩|exact bn|exact cI (by simp)
theorem Nn{v v':ak}(h:VR F U v v'):bX P F (Same U fun n=>∃k,v=.int k n/\v'=.int k n) U (asInt v) (asInt v'):=by
 unfold asInt;exact(tU h).bJ fun x hx=>wy ⟨_,hx⟩
theorem KH{a a':dc}(h:AR U a a'):bX P F (Same U fun _=>True) U (byteOf a) (byteOf a'):=by
 unfold byteOf;rw[h.spot];cases a.spot with
 |some s=>exact cX
 |none=>
  simp only[pure_bind];refine ku ?_;refine(KB h).dI fun _ _ _=>(qs h.block).bJ fun s _=>?_;cases s with
  |none=>exact bn
  |some x=>
   obtain⟨e,n⟩:=x;simp only[h.off];split
   .exact cX
   .cases byteOfCell P P.depth e (a.off % P.cellsOf e) with
    |none=>exact bn
    |some b=>exact cX
theorem pG{α:Type}{e:RuntimeError}(h:∀i c a m,e≠.typeAssertion i c a m)(h':e≠.panicNil):qW P (eF e:iN α):=by
 intro w es;cases e with
 |typeAssertion i c a m=>exact absurd rfl (h _ _ _ _)
 |panicNil=>exact absurd rfl h'
 |_=>exact⟨_,w,es,rfl,trivial⟩
theorem gF{e:RuntimeError}{s':iN β}(h:∀i c a m,e≠.typeAssertion i c a m:=by simp)(h':e≠.panicNil:=by simp):bX P F A U (eF e) s':=.dead (pG h h')
theorem fC{u:Unsupported}(h:∀g,u≠.initOrder g):qW P (ri u:iN α):=rH (by cases u<;>first|trivial|exact absurd rfl (h _))
theorem vA{q:dK}:bX P F (Same U fun _=>True) U (Ap q) (Ap q):=.choose fun n=>cX
theorem lQ{k:IntKind}{x y:Int}{c:BoundsCode}:bX P F A U (boundsPanic k x y c:iN α) (boundsPanic k x y c:iN β):=by
 unfold boundsPanic;dsimp only;split
 .refine bX.bind (A:=fun _ _ _=>True) (bX.bind (A:=fun _ _ _=>True) (vA.imp fun _ _ _ _ _=>trivial) fun _ _ _ _ _=>.pure trivial) fun U' a b _ _=>?_;exact gF
 refine bX.bind (A:=fun _ _ _=>True) (.pure trivial) fun U' a b _ _=>?_;exact gF
theorem vv{ts ts':Array aZ}{t t':aZ}{p p':Option dc}{v v':ak}(hp:VR F U (.pointer p) (.pointer p'))(hv:VR F U v v') :
  bX P F (At U fun x y=>∃a a',AR U a a'/\x=.pointer (some a)/\y=.pointer (some a')) U (Builtin.unsafeAdd_ ts t #[.pointer p,v]) (Builtin.unsafeAdd_ ts' t' #[.pointer p',v']):=by
 unfold Builtin.unsafeAdd_;refine(Nn hv).bJ fun n _=>?_
 by_cases h0:n=0
 .simp only[h0,if_true];cases hp with
  |CY=>exact .dead ((fC (by simp)).bind _)
  |ptr ha=>
   simp only[bind_assoc];refine(BS ha.block).dI fun x y ⟨hx,hy⟩=>?_;subst hx;subst hy;exact .dw ⟨_,_,ha,rfl,rfl⟩
 simp only[h0,if_false,pure_bind]
 by_cases h1:n<0
 .simp only[h1,if_true];exact .dead ((fC (by simp)).bind _)
 .simp only[h1,if_false,pure_bind];cases hp with
  |CY=>exact cI (by simp)
  |@ptr a a' ha=>
   refine(qs ha.block).bJ fun s _=>?_;cases s with
   |none=>exact cI (by simp)
   |some x=>
    obtain⟨e,n'⟩:=x;refine ku ?_;simp only[ha.off];cases cellAtBytes P P.depth e (n' / P.cellsOf e) a.off n with
    |none=>exact cI (by simp)
    |some off=>exact .dw ⟨_,_,ha.at off,rfl,rfl⟩
theorem F5{a a':dc}(ha:AR U a a')(l:Bool):bX P F (VR F) U (asNumber a l) (asNumber a' l):=by
 unfold asNumber;exact bX.bind (A:=fun U' r r'=>U' r=some r') (.new (.number l ha) fun U' r r' _ hr=>.pure hr) fun U' r r' _ hr=>.pure (.ptr ⟨hr,rfl,rfl⟩)
end
structure Vp(P:aL)(U:Rn):Prop where
 inj:∀a b c,U a=some c->U b=some c->a=b
 low:∀b c,U b=some c->P.globals.size<=b/\P.globals.size<=c
theorem AR.eq_iff{U:Rn}(hi:∀a b c,U a=some c->U b=some c->a=b){a a' b b':dc}(ha:AR U a a')(hb:AR U b b'):a=b↔a'=b':=by
 constructor
 .rintro rfl;have h1:=ha.block;rw[hb.block] at h1;injection h1 with h1
  cases a';cases b';have:=ha.off;have:=hb.off;have:=ha.spot;have:=hb.spot;simp_all
 rintro rfl;have:=hi _ _ _ ha.block hb.block;cases a;cases b;have:=ha.off;have:=hb.off;have:=ha.spot;have:=hb.spot;simp_all
section
variable{P:aL}{F:Nat->Bool}{α β γ Z:Type}{A:Rn->α->β->Prop}{A':Rn->γ->Z->Prop}{U:Rn}
theorem xK{t:aZ}{k:IntKind}(ht:P.underlying t=some (.int k)){p p':Option dc}(hp:VR F U (.pointer p) (.pointer p')){v v':ak}(hv:VR F U v v') :
  bX P F (VR F) U (movedNumber t (.pointer p) v) (movedNumber t (.pointer p') v'):=by
 unfold movedNumber;refine dt.bJ fun d hd=>?_;rw[ht] at hd;cases hd;simp only[bG,if_false,pure_bind];cases hp with
 |CY=>
  refine(vv (.CY) hv).imp fun U' x y _ h=>?_;obtain⟨rfl,a,a',ha,rfl,rfl⟩:=h;exact .ptr ha
 |ptr ha=>
  refine(iE ha).dI fun x y ZV=>?_;obtain⟨x1,x2⟩:=x;obtain⟨y1,y2⟩:=y;obtain⟨h1,h2⟩:=ZV;simp only at h1 h2;subst h2;refine(vv (.ptr h1) hv).dI fun x y ZV=>?_;obtain⟨a,a',ha,rfl,rfl⟩:=ZV;exact F5 ha _
theorem IJ{k:IntKind}{a a':dc}(ha:AR U a a')(n:Int):bX P F (VR F) U (Op.addrMod k a n) (Op.addrMod k a' n):=by
 unfold Op.addrMod;refine(qs ha.block).bJ fun s _=>?_;cases s with
 |none=>exact cI (by simp)
 |some x=>
  obtain⟨e,m⟩:=x;refine jB.bJ fun i _=>?_;dsimp only;split
  .exact .dead ((fC (by simp)).bind _)
  refine(KH ha).bJ fun b _=>?_;exact .pure (.int _ _)
theorem vw(R:Vp P U){a a' b b':dc}(ha:AR U a a'){f:Nat × Nat->iN α}{s':iN β}:bX P F A U (Op.twoPlaces a b >>= f) s':=by
 refine .dead (qW.bind ?_ f);unfold Op.twoPlaces;intro w es;have h:=(R.low _ _ ha.block).1;have hh:(a.block !=b.block||decide (a.block≥P.globals.size))=true:=by simp[h]
 have hp:∀ {γ:Type} (f:aL->iN γ),(Go.program >>= f).runT P w es=(f P).runT P w es:=fun f=>rfl;rw[hp];dsimp only;rw[if_pos hh];exact((fC (by simp)).bind _) w es
theorem F3{op:BinOp}{k:IntKind}{a b:Int}:bX P F (VR F) U (Op.intArith op k a b) (Op.intArith op k a b):=by
 unfold Op.intArith;split<;>first|exact .pure (.int _ _)|exact bn
theorem KE{op:BinOp}{k:IntKind}{a b:Int}:bX P F (VR F) U (Op.intDiv op k a b) (Op.intDiv op k a b):=by
 unfold Op.intDiv;split
 .exact gF
 split<;>first|exact .pure (.int _ _)|exact bn
theorem IB{op:BinOp}{k:IntKind}{a b:Int}:bX P F (VR F) U (Op.intBits op k a b) (Op.intBits op k a b):=by
 unfold Op.intBits;dsimp only;split<;>first|exact .pure (.int _ _)|exact bn
theorem KF{op:BinOp}{a b:Int}:bX P F (VR F) U (Op.intCmp op a b) (Op.intCmp op a b):=by
 unfold Op.intCmp;split<;>first|exact .pure (.bool _)|exact bn
theorem DU{op:BinOp}{k k':IntKind}{a b:Int}:bX P F (VR F) U (Op.shift op k a k' b) (Op.shift op k a k' b):=by
 unfold Op.shift;split
 .exact gF
 dsimp only;split<;>first|exact .pure (.int _ _)|exact bn
theorem xh{op:BinOp}{a b:ByteArray}:bX P F (VR F) U (Op.stringOp op a b) (Op.stringOp op a b):=by
 unfold Op.stringOp;dsimp only;split
 .split
  .exact cI (by simp)
  exact .pure (.string _)
 all_goals first|exact .pure (.bool _)|exact bn
def Yu:BinOp->Bool
 |.add|.sub|.mul|.quo|.shl|.shr|.and|.or|.lss|.leq|.gtr|.geq=>true
 |_=>false
theorem vz{op:BinOp}{t:aZ}{k k':IntKind}{a b:Int}:bX P F (VR F) U (binOp op t (.int k a) (.int k' b)) (binOp op t (.int k a) (.int k' b)):=by
 by_cases hk:k=k'
 .cases op<;>simp only[binOp,hk,ne_eq,not_true,not_false_eq_true,if_true,if_false]<;>first|exact F3|exact KE|exact IB|exact KF|exact DU
 cases op<;>simp only[binOp,hk,ne_eq,not_true,not_false_eq_true,if_true,if_false]<;>first|exact bn|exact DU
theorem Nl(R:Vp P U){op:BinOp}{t:aZ}{k:IntKind}(ht:P.underlying t=some (.int k))(hop:Yu op=true){x x' y y':ak}(hx:VR F U x x')(hy:VR F U y y') :
  bX P F (VR F) U (binOp op t x y) (binOp op t x' y'):=by
 have acK:∀ {p p':Option dc} {v v':ak},VR F U (.pointer p) (.pointer p')->VR F U v v'->
   bX P F (VR F) U (do if (<-jc t) matches .unsafePointer then movedPointer t (.pointer p) v else movedNumber t (.pointer p) v) (do if (<-jc t) matches .unsafePointer then movedPointer t (.pointer p') v' else movedNumber t (.pointer p') v'):=by
  intro p p' v v' hp hv;refine dt.bJ fun d hd=>?_;rw[ht] at hd;cases hd;exact xK ht hp hv
 have pp:∀ {a a' b b':dc} (g:dc->dc->iN ak) (g':dc->dc->iN ak),(∀c d c' d',AR U c c'->AR U d d'->bX P F (VR F) U (g c d) (g' c' d'))->AR U a a'->AR U b b'->
   bX P F (VR F) U (do g (<-vg a).1 (<-vg b).1) (do g' (<-vg a').1 (<-vg b').1):=by
  intro a a' b b' g g' hg ha hb;exact(iE ha).dI fun c c' hc=>(iE hb).dI fun d d' hd=>hg _ _ _ _ hc.1 hd.1
 have pm:∀ {a a':dc} (k:IntKind) (n:Int),AR U a a'->bX P F (VR F) U (do Op.addrMod k (<-vg a).1 n) (do Op.addrMod k (<-vg a').1 n):=by
  intro a a' k n ha;exact(iE ha).dI fun c c' hc=>IJ hc.1 n
 have agV:∀c d c' d',AR U c c'->AR U d d'->bX P F (VR F) U (Op.addrSub .u64 c d) (Op.addrSub .u64 c' d'):=fun c d c' d' hc hd=>by
  unfold Op.addrSub;exact vw R hc (b':=d')
 have Oa:∀op c d c' d',AR U c c'->AR U d d'->bX P F (VR F) U (Op.addrCmp op c d) (Op.addrCmp op c' d'):=fun op c d c' d' hc hd=>by
  unfold Op.addrCmp;exact vw R hc (b':=d')
 have agW:∀op a b,binOp op t (.string a) (.string b)=Op.stringOp op a b:=fun op a b=>by cases op<;>simp only[binOp]
 cases hx<;>cases hy<;>first
  |exact vz
  |(rw[agW];exact xh)
  |(cases op<;>first|(cases hop;done)|exact xh|exact bn|exact cI (by simp)|exact acK (.ptr ‹_›) (.int _ _)|exact acK .CY (.int _ _)|exact xK ht (.ptr ‹_›) (.int _ _)|exact xK ht .CY (.int _ _)|exact pp _ _ agV ‹_› ‹_›|exact pp _ _ (Oa _) ‹_› ‹_›|exact pm _ _ ‹_›)
end
def pj(P:aL):Nat->aZ->Bool
 |0,_=>false
 |n+1,t=>
  match P.underlying t with
  |some (.struct fs)=>fs.all fun f=>pj P n f.type
  |some (.array _ e)=>pj P n e
  |some .bool|some .string|some (.int _)|none=>true
  |_=>false
section
variable{P:aL}{F:Nat->Bool}{α β γ Z:Type}{A:Rn->α->β->Prop}{A':Rn->γ->Z->Prop}{U:Rn}
theorem uB{ι:Type}{f f':ι->β->iN (ForInStep β)}{l:List ι}(hf:∀a∈l,∀b,bX P F (Same U fun _=>True) U (f a b) (f' a b)):∀b,bX P F (Same U fun _=>True) U (forIn l b f) (forIn l b f'):=by
 induction l with
 |nil=>intro b;exact cX
 |cons a l ih=>
  intro b;rw[List.forIn_cons,List.forIn_cons];refine(hf a (by simp) b).bJ fun r _=>?_;cases r with
  |done b=>exact cX
  |yield b=>exact ih (fun a ha=>hf a (by simp[ha])) b
theorem sM{ι:Type}{f f':ι->β->iN (ForInStep β)}{l:Array ι}(hf:∀a∈l,∀b,bX P F (Same U fun _=>True) U (f a b) (f' a b))(b:β):bX P F (Same U fun _=>True) U (forIn l b f) (forIn l b f'):=by
 rw[<-Array.forIn_toList,<-Array.forIn_toList];exact uB (fun a ha=>hf a (by simpa using ha)) _
theorem sK{f f':Nat->β->iN (ForInStep β)}(hf:∀a b,bX P F (Same U fun _=>True) U (f a b) (f' a b))(l:Std.Legacy.Range)(b:β):bX P F (Same U fun _=>True) U (forIn l b f) (forIn l b f'):=by
 rw[Std.Legacy.Range.forIn_eq_forIn_range',Std.Legacy.Range.forIn_eq_forIn_range'];exact uB (fun a _=>hf a) _
theorem pK(R:Vp P U):∀(n d:Nat) (t:aZ),pj P n t=true->∀(x x' y y':ak),VR F U x x'->VR F U y y'->bX P F (Same U fun _=>True) U (Op.equalIn d t x y) (Op.equalIn d t x' y')
 |0,d,t,h,x,x',y,y',hx,hy=>by cases h
 |n+1,0,t,h,x,x',y,y',hx,hy=>by simp only[Op.equalIn];exact cI (by simp)
 |n+1,d+1,t,h,x,x',y,y',hx,hy=>by
  simp only[Op.equalIn];refine dt.bJ fun ds LD=>?_;simp only[pj,LD] at h;cases ds with
  |bool=>cases hx<;>first|exact bn|(cases hy<;>first|exact bn|exact cX)
  |string=>cases hx<;>first|exact bn|(cases hy<;>first|exact bn|exact cX)
  |int k=>
   cases hx with
   |int k1 m=>
    cases hy with
    |int k2 m2=>dsimp only;split<;>first|exact cX|exact bn
    |ptr ha=>
     cases m with
     |ofNat n=>
      cases n with
      |zero=>exact cX
      |succ n=>exact cI (by simp)
     |negSucc n=>exact cI (by simp)
    |_=>first|exact bn|exact cI (by simp)
   |ptr ha=>
    cases hy with
    |int k2 m2=>
     cases m2 with
     |ofNat n=>
      cases n with
      |zero=>exact cX
      |succ n=>exact cI (by simp)
     |negSucc n=>exact cI (by simp)
    |ptr hb=>
     dsimp only;refine(iE ha).dI fun c c' hc=>(iE hb).dI fun d d' hd=>ku ?_
     have e1:(c.fst.block==d.fst.block&&decide (c.fst.block<P.globals.size))=false:=by
      have:=(R.low _ _ hc.1.block).1;simp;omega
     have e2:(c'.fst.block==d'.fst.block&&decide (c'.fst.block<P.globals.size))=false:=by
      have:=(R.low _ _ hc.1.block).2;simp;omega
     simp only[e1,e2,bG,if_false];refine jB.bJ fun i _=>?_;split
     .have e3:=hc.1.eq_iff R.inj hd.1
      by_cases he:c.fst=d.fst
      .simp only[he,beq_self_eq_true,if_true,e3.1 he];exact cX
      have he':=fun h=>he (e3.2 h);simp only[beq_eq_false_iff_ne.2 he,bG,if_false];exact cI (by simp)
     exact cI (by simp)
    |_=>first|exact bn|exact cI (by simp)
   |_=>cases hy<;>first|exact bn|exact cI (by simp)
  |struct fs=>
   cases hx<;>first|exact bn|(cases hy<;>first|exact bn|skip)
   rename_i cs cs' hs hv ds ds' hs' hv';dsimp only;refine ku ?_;split
   .exact .dead ((fC (by simp)).bind _)
   refine bX.bJ (C:=fun _=>True) (sM (fun f hf b=>?_) _) fun r _=>?_
   .split
    .refine(nO ⟨hs,hv⟩ _).dI fun p p' hp=>(nO ⟨hs',hv'⟩ _).dI fun q q' hq=>?_;refine(pK R n d f.type (kg.1 h f hf) _ _ _ _ hp hq).bJ fun b _=>?_;split<;>exact cX
    exact cX
   split<;>exact cX
  |array len e=>
   cases hx<;>first|exact bn|(cases hy<;>first|exact bn|skip)
   rename_i cs cs' hs hv ds ds' hs' hv';dsimp only;refine gS.bJ fun m _=>?_;refine bX.bJ (C:=fun _=>True) (sK (fun i b=>?_) _ _) fun r _=>?_
   .refine(nO ⟨hs,hv⟩ _).dI fun p p' hp=>(nO ⟨hs',hv'⟩ _).dI fun q q' hq=>?_;refine(pK R n d e h _ _ _ _ hp hq).bJ fun b _=>?_;split<;>exact cX
   split<;>exact cX
  |_=>cases h
theorem ot{em:Bool}:∀(n d:Nat) (t:aZ),pj P n t=true->∀(x x':ak),VR F U x x'->bX P F (Same U fun _=>True) U (nE em d t x) (nE em d t x')
 |0,d,t,h,x,x',hx=>by cases h
 |n+1,0,t,h,x,x',hx=>by simp only[nE];exact cI (by simp)
 |n+1,d+1,t,h,x,x',hx=>by
  simp only[nE];refine dt.bJ fun ds LD=>?_;simp only[pj,LD] at h;cases ds with
  |bool=>cases hx<;>exact cX
  |string=>cases hx<;>exact cX
  |int k=>cases hx<;>exact cX
  |struct fs=>
   cases hx<;>first|exact bn|skip
   rename_i cs cs' hs hv;dsimp only;refine bX.bJ (C:=fun _=>True) (sM (fun f hf b=>?_) _) fun _ _=>cX;split
   .refine(nO ⟨hs,hv⟩ _).dI fun p p' hp=>?_;refine(ot n d f.type (kg.1 h f hf) _ _ hp).bJ fun b _=>?_;exact cX
   exact cX
  |array len e=>
   cases hx<;>first|exact bn|skip
   rename_i cs cs' hs hv;dsimp only;refine bX.bJ (C:=fun _=>True) (sK (fun i b=>?_) _ _) fun _ _=>cX;refine gS.bJ fun m _=>(nO ⟨hs,hv⟩ _).dI fun p p' hp=>?_;refine(ot n d e h _ _ hp).bJ fun b _=>?_;exact cX
  |_=>cases h
inductive EL(F:Nat->Bool)(U:Rn):List uv->List uv->Prop
 |nil:EL F U [] []
 |cons {x y:uv} {l m:List uv}:MER F U x y->EL F U l m->EL F U (x::l) (y::m)
theorem Y5{l m:List uv}(hs:l.length=m.length)(h:∀(i:Nat) (x y:uv),l[i]?=some x->m[i]?=some y->MER F U x y):EL F U l m:=by
 induction l generalizing m with
 |nil=>
  cases m with
  |nil=>exact .nil
  |cons y m=>cases hs
 |cons x l ih=>
  cases m with
  |nil=>cases hs
  |cons y m=>exact .cons (h 0 x y rfl rfl) (ih (by simpa using hs) fun i a b h1 h2=>h (i+1) a b (by simpa using h1) (by simpa using h2))
def Fnd(F:Nat->Bool)(U:Rn)(x y:Option (Nat × ak)):Prop:=(x=none/\y=none)\/∃i v v',x=some (i,v)/\y=some (i,v')/\VR F U v v'
theorem CV(R:Vp P U){n:Nat}{t:aZ}(h:pj P n t=true){k k':ak}(hk:VR F U k k'){l m:List uv}(he:EL F U l m) :
  ∀i,bX P F (At U (Fnd F U)) U (jw t k l i) (jw t k' m i):=by
 induction he with
 |nil=>intro i;exact .dw (.inl ⟨rfl,rfl⟩)
 |cons hx _ ih=>
  intro i;simp only[jw];refine(pK R n _ t h _ _ _ _ hk hx.key).bJ fun b _=>?_;cases b with
  |true=>exact .dw (.inr ⟨i,_,_,rfl,rfl,hx.val⟩)
  |false=>exact ih (i+1)
theorem QK{ds:TypeDesc}{k k' e e':ak}(hk:VR F U k k')(he:VR F U e e'):Instr.sameNow ds k e=Instr.sameNow ds k' e':=by
 cases ds<;>cases hk<;>first|rfl|(cases he<;>rfl)
theorem RO{ds:TypeDesc}{k k':ak}(hk:VR F U k k'){l m:List uv}(he:EL F U l m):∀i,
  (Instr.findNow ds k l i=none/\Instr.findNow ds k' m i=none)\/∃x y,Instr.findNow ds k l i=some x/\Instr.findNow ds k' m i=some y/\Fnd F U x y:=by
 induction he with
 |nil=>intro i;exact .inr ⟨none,none,rfl,rfl,.inl ⟨rfl,rfl⟩⟩
 |cons hx _ ih=>
  intro i;simp only[Instr.findNow,<-QK (ds:=ds) hk hx.key];split
  .exact .inr ⟨_,_,rfl,rfl,.inr ⟨i,_,_,rfl,rfl,hx.val⟩⟩
  .exact ih (i+1)
  exact .inl ⟨rfl,rfl⟩
theorem yV(R:Vp P U){n:Nat}{t:aZ}(h:pj P n t=true){k k':ak}(hk:VR F U k k'){l m:List uv}(he:EL F U l m) :
  bX P F (At U (Fnd F U)) U (Dl t k l) (Dl t k' m):=by
 unfold Dl;refine dt.bJ fun ds _=>?_;rcases RO (ds:=ds) hk he 0 with⟨h1,h2⟩|⟨x,y,h1,h2,h3⟩
 .simp only[h1,h2];exact CV R h hk he 0
 simp only[h1,h2];exact .dw h3
def TB(P:aL)(t:aZ):Bool:=match P.underlying t with|some (.map k e)=>pj P 6 k&&oz P e|_=>true
theorem BX{r r':Nat}(h:U r=some r'):bX P F (At U (OR F U)) U (getObj r) (getObj r'):=.getObj h fun o o' ho=>.dw ho
theorem KC(R:Vp P U){t:aZ}(ht:TB P t=true){x x' k k':ak}(hx:VR F U x x')(hk:VR F U k k')(ok:Bool) :
  bX P F (At U (VR F U)) U (Instr.lookup t x k ok) (Instr.lookup t x' k' ok):=by
 unfold Instr.lookup;refine dt.bJ fun ds LD=>?_;cases ds<;>first|exact bn|skip
 rename_i kt et;simp only[TB,LD,aI] at ht;dsimp only
 have rest:∀ {es es':Array uv},es.size=es'.size->EL F U es.toList es'.toList->bX P F (At U (VR F U)) U
   (do
     nE es.isEmpty 10000 kt k
     let (v,o) <-match <-Dl kt k es.toList with
      |some (_,v)=>pure (v,true)
      |none=>pure (<-iY et,false)
     pure (if ok then .tuple #[v,.bool o] else v))
   (do
     nE es'.isEmpty 10000 kt k'
     let (v,o) <-match <-Dl kt k' es'.toList with
      |some (_,v)=>pure (v,true)
      |none=>pure (<-iY et,false)
     pure (if ok then .tuple #[v,.bool o] else v)):=by
  intro es es' hs he;have hem:es'.isEmpty=es.isEmpty:=by simp[Array.isEmpty,hs]
  rw[hem];refine(ot 6 _ kt ht.1 _ _ hk).bJ fun _ _=>(yV R ht.1 hk he).dI fun p q hpq=>?_
  have fin:∀ {v v':ak} (b:Bool),VR F U v v'->bX P F (At U (VR F U)) U (eX (if ok then .tuple #[v,.bool b] else v)) (eX (if ok then .tuple #[v',.bool b] else v')):=by
   intro v v' b hv;cases ok
   .exact .dw hv
   exact .dw ((iV.one hv).push (.bool b)).tuple
  rcases hpq with⟨rfl,rfl⟩|⟨i,v,v',rfl,rfl,hv⟩
  .exact(lD ht.2).dI fun v v' hv=>fin false hv
  exact fin true hv
 cases hx<;>first|exact bn|skip
 .exact rest rfl .nil
 .rename_i r r' hr;refine(BX hr).dI fun o o' ho=>?_;cases ho with
  |cells _ _=>exact bn
  |number _ _=>exact bn
  |map hs he=>exact rest hs (Y5 (by simpa using hs) fun i x y h1 h2=>he i x y (by simpa using h1) (by simpa using h2))
end
section
variable{P:aL}{F:Nat->Bool}{α β γ Z:Type}{A:Rn->α->β->Prop}{A':Rn->γ->Z->Prop}{U:Rn}
theorem Lb{f:ak × ak->Bool}{g:ak × ak->Bool}(h:∀x x' y y',VR F U x x'->VR F U y y'->f (x,y)=g (x',y')){l l':List ak}(hl:Sw F U l l') :
  ∀ {m m':List ak},Sw F U m m'->(l.zip m).all f=(l'.zip m').all g:=by
 induction hl with
 |nil=>intro m m' _;simp
 |cons hx _ ih=>
  intro m m' hm;cases hm with
  |nil=>simp
  |cons hy hm=>simp only[List.zip_cons_cons,dT];rw[h _ _ _ _ hx hy,ih hm]
theorem Nr(R:Vp P U):∀(n:Nat) (x x' y y':ak),VR F U x x'->VR F U y y'->Instr.sameBits n x y=Instr.sameBits n x' y':=by
 intro n
 have hp:∀ {a a' b b':dc},AR U a a'->AR U b b'->((some a==some b):Bool)=(some a'==some b'):=fun {a a' b b'} ha hb=>by
  have:=ha.eq_iff R.inj hb
  by_cases he:a=b
  .rw[he,this.1 he];simp
  have he':=fun h=>he (this.2 h);rw[beq_eq_false_iff_ne.2 (by simpa using he),beq_eq_false_iff_ne.2 (by simpa using he')]
 induction n with
 |zero=>
  intro x x' y y' hx hy
  cases hx<;>cases hy<;>first
   |rfl
   |(simp only[Instr.sameBits];exact hp ‹_› ‹_›)
 |succ n ih=>
  intro x x' y y' hx hy
  cases hx<;>cases hy<;>first
   |rfl
   |(simp only[Instr.sameBits];exact hp ‹_› ‹_›)
   |(rename_i h1 h2 _ _ h3 h4
     simp only[Instr.sameBits]
     rw[h1,h3,Lb (F:=F) (U:=U) (f:=fun(x,y)=>Instr.sameBits n x y) (g:=fun(x,y)=>Instr.sameBits n x y) (fun x x' y y' hx hy=>ih x x' y y' hx hy) (iV.list ⟨h1,h2⟩) (iV.list ⟨h3,h4⟩)])
theorem yU(R:Vp P U){x x' y y':ak}(hx:VR F U x x')(hy:VR F U y y'):bX P F (At U (VR F U)) U (Instr.keyThatStays x y) (Instr.keyThatStays x' y'):=by
 unfold Instr.keyThatStays;rw[<-Nr R _ _ _ _ _ hx hy];split
 .exact .dw hy
 refine vA.bJ fun n _=>?_;split
 .exact .dw hy
 exact .dw hx
theorem BV{r r':Nat}{o o':Obj}(h:U r=some r')(ho:OR F U o o'):bX P F (At U fun _ _=>True) U (setObj r o) (setObj r' o'):=.setObj h ho (.dw trivial)
def NG(P:aL)(t:aZ):Bool:=match P.underlying t with|some (.map k _)=>pj P 6 k|_=>true
theorem DV(R:Vp P U){t:aZ}(ht:NG P t=true){x x' k k' v v':ak}(hx:VR F U x x')(hk:VR F U k k')(hv:VR F U v v') :
  bX P F (At U fun _ _=>True) U (Ay t x k v) (Ay t x' k' v'):=by
 unfold Ay;refine dt.bJ fun ds LD=>?_;cases ds<;>first|exact bn|skip
 rename_i kt et;simp only[NG,LD] at ht;dsimp only;cases hx<;>first|exact bn|exact gF|skip
 rename_i r r' hr;dsimp only;refine(BX hr).dI fun o o' ho=>?_;cases ho with
 |cells _ _=>exact bn
 |number _ _=>exact bn
 |@map es es' clk hs he=>
  dsimp only;have hel:EL F U es.toList es'.toList:=Y5 (by simpa using hs) fun i x y h1 h2=>he i x y (by simpa using h1) (by simpa using h2);refine(ot 6 _ kt ht _ _ hk).bJ fun _ _=>(yV R ht hk hel).dI fun p q hpq=>?_;rcases hpq with⟨rfl,rfl⟩|⟨i,w,w',rfl,rfl,hw⟩
  .refine BV hr (.map (by simp[hs]) fun i x y h1 h2=>?_);rw[ly] at h1 h2;rw[<-hs] at h2;split at h1
   .rename_i hi;simp only[hi,if_true] at h2;cases h1;cases h2;exact⟨hk,hv,rfl⟩
   rename_i hi;simp only[hi,if_false] at h2;exact he _ _ _ h1 h2
  dsimp only
  have sA:VR F U (((es[i]?).map (·.key)).getD k) (((es'[i]?).map (·.key)).getD k'):=by
   cases hx:es[i]? with
   |none=>
    have:es'[i]?=none:=by
     rw[Array.getElem?_eq_none_iff] at hx ⊢;omega
    rw[this];exact hk
   |some x=>
    have hi:i<es.size:=(ai.1 hx).1;have hi':i<es'.size:=hs▸hi;rw[aQ hi'];exact(he i x _ hx (aQ hi')).key
  refine(yU R sA hk).dI fun key amG hkey=>?_;refine BV hr (.map (by simp[hs]) fun j x y h1 h2=>?_);rw[pE] at h1 h2
  by_cases hj:i=j
  .subst hj;simp only[if_true] at h1 h2;cases hx:es[i]? with
   |none=>rw[hx] at h1;cases h1
   |some x0=>
    cases hy:es'[i]? with
    |none=>rw[hy] at h2;cases h2
    |some y0=>
     rw[hx] at h1;rw[hy] at h2;cases h1;cases h2;exact⟨hkey,hv,(he _ _ _ hx hy).born⟩
  simp only[hj,if_false] at h1 h2;exact he _ _ _ h1 h2
theorem Iz{t:aZ}:bX P F (VR F) U (Instr.makeMap t none) (Instr.makeMap t none):=by
 unfold Instr.makeMap;exact bX.bind (A:=fun U' r r'=>U' r=some r') (.new (.map rfl fun i x y h=>by simp at h) fun U' r r' _ hr=>.pure hr) fun U' r r' _ hr=>.pure (.map hr)
theorem oq{v v':ak}(h:VR F U v v'):bX P F (At U (AR U)) U (Instr.sureAddr v) (Instr.sureAddr v'):=by
 cases h<;>first|exact bn|exact .dw ‹_›
theorem KD{t:aZ}{v v':ak}(h:VR F U v v'):bX P F (At U (VR F U)) U (vn t v) (vn t v'):=by
 unfold vn;exact(oq h).dI fun a a' ha=>yT ha
theorem Iw{t:aZ}{v v' x x':ak}(h:VR F U v v')(hx:VR F U x x'):bX P F (At U fun _ _=>True) U (Instr.storeAt t v x) (Instr.storeAt t v' x'):=by
 unfold Instr.storeAt;exact(oq h).dI fun a a' ha=>F0 ha hx
def I2(P:aL)(s:aZ)(f:Nat):Bool:=match P.underlying s with
 |some (.struct fs)=>(match fs[f]? with|some fl=>(match P.info? fl.type with|some i=>i.size !=0|none=>true)|none=>true)
 |_=>true
theorem IE{s:aZ}{f:Nat}(hf:I2 P s f=true){v v':ak}(h:VR F U v v'):bX P F (At U (VR F U)) U (Instr.fieldAt s v f) (Instr.fieldAt s v' f):=by
 unfold Instr.fieldAt;refine dt.bJ fun ds LD=>?_;cases ds<;>first|exact bn|skip
 rename_i fs;simp only[I2,LD] at hf;dsimp only;cases hfl:fs[f]? with
 |none=>exact bn
 |some fl=>
  rw[hfl] at hf;simp only at hf ⊢;refine(oq h).dI fun a a' ha=>?_;unfold fieldPlace;refine bX.dI (Q:=AR U) (gS.bJ fun n hn=>?_) fun b b' hb=>.dw (.ptr hb);obtain⟨i,hi,rfl⟩:=hn;rw[hi] at hf;have hne:¬i.size=0:=by simpa using hf
  simp only[hne,if_false];exact .dw (ha.add _)
theorem IC{t:aZ}{v v' i i':ak}(h:VR F U v v')(hi:VR F U i i'):bX P F (At U (VR F U)) U (eE t v i) (eE t v' i'):=by
 unfold eE;refine(tU hi).bJ fun x hx=>?_;obtain⟨k,n⟩:=x;dsimp only
 have rest:∀ {b b':Option dc} (len:Nat) (e:aZ),VR F U (.pointer b) (.pointer b')->bX P F (At U (VR F U)) U
   (do
     let tiny:=len<=1&&(match <-jc t with|.array ..=>true|_=>false)
     match b with
     |some a=>
      if 0<=n/\n<len then pure (.pointer (some (a.add (n.toNat*(<-sizeOf e)))))
      else if tiny then ri (.noEntry "op/indexAddr.an index out of range at an array of length 0 or 1 (ledger 616)")
      else boundsPanic k n len .index
     |none=>boundsPanic k n 0 .index)
   (do
     let tiny:=len<=1&&(match <-jc t with|.array ..=>true|_=>false)
     match b' with
     |some a=>
      if 0<=n/\n<len then pure (.pointer (some (a.add (n.toNat*(<-sizeOf e)))))
      else if tiny then ri (.noEntry "op/indexAddr.an index out of range at an array of length 0 or 1 (ledger 616)")
      else boundsPanic k n len .index
     |none=>boundsPanic k n 0 .index):=by
  intro b b' len e hb;refine dt.bJ fun ds _=>?_;cases hb with
  |CY=>exact lQ
  |ptr ha=>
   dsimp only;split
   .exact gS.bJ fun m _=>.dw (.ptr (ha.add _))
   generalize (decide (len<=1)&&_:Bool)=tiny;cases tiny
   .exact lQ
   exact cI (by simp)
 refine dt.bJ fun ds LD=>?_;cases ds with
 |array len e=>exact(oq h).dI fun a a' ha=>rest len e (.ptr ha)
 |slice e=>
  cases h<;>first|exact bn|skip
  .rename_i l c;exact rest l e .CY
  exact rest _ e (.ptr ‹_›)
 |_=>cases h<;>exact bn
theorem Nj{t:aZ}{v v' i i':ak}(h:VR F U v v')(hi:VR F U i i'):bX P F (At U (VR F U)) U (mR t v i) (mR t v' i'):=by
 unfold mR;refine(tU hi).bJ fun x hx=>?_;obtain⟨k,n⟩:=x;dsimp only;refine dt.bJ fun ds LD=>?_;cases ds with
 |string=>
  cases h<;>first|exact bn|skip
  dsimp only;generalize (if 0<=n then _ else _:Option UInt8)=o;cases o with
  |none=>exact lQ
  |some b=>exact .dw (.int _ _)
 |array len e=>
  cases h<;>first|exact bn|skip
  rename_i hs hv;dsimp only;split
  .exact gS.bJ fun m _=>nO ⟨hs,hv⟩ _
  exact lQ
 |_=>cases h<;>exact bn
theorem IG{v v':ak}(h:VR F U v v')(i:Nat):bX P F (At U (VR F U)) U (Instr.extract v i) (Instr.extract v' i):=by
 unfold Instr.extract;cases h<;>first|exact bn|skip
 rename_i hs hv;have ha:iV F U _ _:=⟨hs,hv⟩
 dsimp only;split
 .rename_i x hx;obtain⟨y,hy,hvy⟩:=ha.get hx;rw[hy];exact .dw hvy
 exact bn
theorem Np{e:aZ}(h:oz P e=true):bX P F (VR F) U (Instr.alloc e true (.tuple #[])) (Instr.alloc e true (.tuple #[])):=by
 unfold Instr.alloc;exact(lD h).dI fun v v' hv=>bX.bind (BW hv) fun U' a a' _ ha=>.pure (.ptr ha)
theorem Ta{e:aZ}{v v':ak}(h:VR F U v v'):bX P F (VR F) U (Instr.box e v) (Instr.box e v'):=by
 unfold Instr.box;exact bX.bind (BW h) fun U' a a' _ ha=>.pure (.ptr ha)
end
section
variable{P:aL}{F:Nat->Bool}{α β γ Z:Type}{A:Rn->α->β->Prop}{A':Rn->γ->Z->Prop}{U:Rn}
inductive PL(F:Nat->Bool)(U:Rn):List (Nat × ak)->List (Nat × ak)->Prop
 |nil:PL F U [] []
 |cons {i:Nat} {x y:ak} {l m:List (Nat × ak)}:VR F U x y->PL F U l m->PL F U ((i,x)::l) ((i,y)::m)
theorem LR{off:Nat}{l m:List ak}(h:Sw F U l m):∀(j:Nat) {cs cs':Array ak},iV F U cs cs'->
  iV F U ((l.zipIdx j).foldl (fun cs (c,j)=>cs.setIfInBounds (off+j) c) cs) ((m.zipIdx j).foldl (fun cs (c,j)=>cs.setIfInBounds (off+j) c) cs'):=by
 induction h with
 |nil=>intro j cs cs' hc;exact hc
 |cons hx _ ih=>intro j cs cs' hc;simp only[List.zipIdx_cons,List.foldl_cons];exact ih (j+1) (hc.set hx _)
theorem Ou{place:Nat->Option (Nat × Nat)}{l m:List (Nat × ak)}(h:PL F U l m):∀ {cs cs':Array ak},iV F U cs cs'->
  (Instr.fill place cs l=none/\Instr.fill place cs' m=none)\/∃x y,Instr.fill place cs l=some x/\Instr.fill place cs' m=some y/\iV F U x y:=by
 induction h with
 |nil=>intro cs cs' hc;exact .inr ⟨cs,cs',rfl,rfl,hc⟩
 |@cons i x y l m hx _ ih=>
  intro cs cs' hc;simp only[Instr.fill];cases place i with
  |none=>exact .inl ⟨rfl,rfl⟩
  |some p=>
   obtain⟨off,size⟩:=p;simp only[<-hx.cells.size,<-hc.size];split
   .exact .inl ⟨rfl,rfl⟩
   have:=LR (off:=off) hx.cells.list 0 hc;refine ih ?_;simpa only[<-Array.foldl_toList,Array.toList_zipIdx] using this
theorem DW{ι κ:Type}{f:ι->iN κ}(hf:∀a,bX P F (Same U fun _=>True) U (f a) (f a))(l:Array ι):bX P F (Same U fun _=>True) U (l.mapM f) (l.mapM f):=by
 rw[Array.mapM_eq_mapM_toList]
 have:∀l:List ι,bX P F (Same U fun _=>True) U (l.mapM f) (l.mapM f):=by
  intro l;rw[<-List.mapM'_eq_mapM]
  induction l with
  |nil=>exact cX
  |cons a l ih=>exact(hf a).bJ fun _ _=>ih.bJ fun _ _=>cX
 exact(this l.toList).bJ fun _ _=>cX
theorem Nk{t:aZ}(ht:oz P t=true){l m:Array (Nat × ak)}(h:PL F U l.toList m.toList):bX P F (At U (VR F U)) U (Instr.build t l) (Instr.build t m):=by
 unfold Instr.build;refine(lD ht).dI fun z z' hz=>?_;dsimp only;refine dt.bJ fun ds _=>?_;cases ds with
 |struct fs=>
  refine(DW (fun f=>gS.bJ fun n _=>cX) fs).bJ fun places _=>?_;rcases Ou (place:=(places[·]?)) h hz.cells with⟨h1,h2⟩|⟨x,y,h1,h2,h3⟩
  .simp only[h1];exact bn
  simp only[h1,h2];exact .dw h3.agg
 |array n e=>
  refine gS.bJ fun n _=>?_;rcases Ou (place:=fun i=>some (i*n,n)) h hz.cells with⟨h1,h2⟩|⟨x,y,h1,h2,h3⟩
  .simp only[h1];exact bn
  simp only[h1,h2];exact .dw h3.agg
 |_=>exact bn
def zq(P:aL)(t:aZ):Bool:=match P.underlying t with|some (.slice e)=>oz P e|_=>true
theorem U5:VR F U (default:ak) (default:ak):=zK (by rfl)
theorem iV.aij{a a':Array ak}(h:iV F U a a')(i:Nat):VR F U a[i]! a'[i]!:=by
 rw[Array.getElem!_eq_getD,Array.getElem!_eq_getD];exact h.getD U5 i
theorem Ie{a a':Array ak}(h:iV F U a a')(n:Nat):iV F U ((Array.range n).map (a[· % a.size]!)) ((Array.range n).map (a'[· % a'.size]!)):=by
 refine iV.map fun i _=>?_;rw[<-h.size];exact h.aij _
theorem CW{t:aZ}(ht:zq P t=true){n:Nat}{l m:Array (Nat × ak)}(h:PL F U l.toList m.toList):bX P F (VR F) U (Instr.buildSlice t n l) (Instr.buildSlice t n m):=by
 unfold Instr.buildSlice;refine dt.bJ fun ds LD=>?_;cases ds<;>first|exact bn|skip
 rename_i e;simp only[zq,LD] at ht;refine gS.bJ fun size _=>?_;dsimp only;split
 .exact .dead ((fC (by simp)).bind _)
 have rest:∀ {z z':Array ak},iV F U z z'->bX P F (VR F) U
   (do
     let some cells:=Instr.fill (fun i=>some (i*size,size)) ((Array.range (n*size)).map (z[· % z.size]!)) l.toList|stuck "buildSlice: a part of the wrong size"
     pure (.slice (some (<-newRow e cells)) n n))
   (do
     let some cells:=Instr.fill (fun i=>some (i*size,size)) ((Array.range (n*size)).map (z'[· % z'.size]!)) m.toList|stuck "buildSlice: a part of the wrong size"
     pure (.slice (some (<-newRow e cells)) n n)):=by
  intro z z' hz;rcases Ou (place:=fun i=>some (i*size,size)) h (Ie hz (n*size)) with⟨h1,h2⟩|⟨x,y,h1,h2,h3⟩
  .simp only[h1];exact bn
  simp only[h1,h2];exact bX.bind (vx h3) fun U' a a' _ ha=>.pure (.slice _ _ ha)
 split
 .exact rest .nil
 exact(lD ht).dI fun v v' hv=>rest hv.cells
def TC(P:aL)(ts:Array aZ):Bool:=match ts[0]? with|some t=>(match P.underlying t with|some (.slice _)|some (.array ..)|some .string=>true|_=>false)|none=>true
theorem S9{ts:Array aZ}(ht:TC P ts=true){t:aZ}{l m:Array ak}(h:iV F U l m):bX P F (At U (VR F U)) U (Builtin.len_ ts t l) (Builtin.len_ ts t m):=by
 unfold Builtin.len_;unfold TC at ht;cases hx:l[0]? with
 |none=>cases ts[0]?<;>exact bn
 |some x=>
  obtain⟨y,hy,hv⟩:=h.get hx;rw[hy];cases h0:ts[0]? with
  |none=>exact bn
  |some t0=>
   rw[h0] at ht;dsimp only at ht ⊢;refine dt.bJ fun ds LD=>?_;rw[LD] at ht;cases ds<;>first|(cases ht;done)|skip
   all_goals (cases hv<;>first|exact bn|exact .dw (VR.int _ _))
theorem QH{x x' y y':ak}(hx:VR F U x x')(hy:VR F U y y'):bX P F (At U (VR F U)) U (Builtin.max2 x y) (Builtin.max2 x' y'):=by
 cases hx<;>cases hy<;>first
  |exact bn
  |exact cI (by simp)
  |exact .dw (.int _ _)
  |exact .dw (.string _)
theorem QG{x x' y y':ak}(hx:VR F U x x')(hy:VR F U y y'):bX P F (At U (VR F U)) U (Builtin.min2 x y) (Builtin.min2 x' y'):=by
 cases hx<;>cases hy<;>first
  |exact bn
  |exact cI (by simp)
  |exact .dw (.int _ _)
  |exact .dw (.string _)
theorem BZ{f:ak->ak->iN ak}(hf:∀ {x x' y y'},VR F U x x'->VR F U y y'->bX P F (At U (VR F U)) U (f x y) (f x' y')){l m:List ak}(h:Sw F U l m) :
  ∀ {x x':ak},VR F U x x'->bX P F (At U (VR F U)) U (l.foldlM f x) (m.foldlM f x'):=by
 induction h with
 |nil=>intro x x' hx;exact .dw hx
 |cons hy _ ih=>intro x x' hx;simp only[List.foldlM_cons];exact(hf hx hy).dI fun z z' hz=>ih hz
theorem S8{ts:Array aZ}{t:aZ}{l m:Array ak}(h:iV F U l m):bX P F (At U (VR F U)) U (BJ ts t l) (BJ ts t m):=by
 unfold BJ;have hl:=h.list;generalize l.toList=l' at hl ⊢;generalize m.toList=m' at hl ⊢;cases hl with
 |nil=>exact bn
 |cons hx hl=>exact BZ QH hl hx
theorem S7{ts:Array aZ}{t:aZ}{l m:Array ak}(h:iV F U l m):bX P F (At U (VR F U)) U (Builtin.min_ ts t l) (Builtin.min_ ts t m):=by
 unfold Builtin.min_;have hl:=h.list;generalize l.toList=l' at hl ⊢;generalize m.toList=m' at hl ⊢;cases hl with
 |nil=>exact bn
 |cons hx hl=>exact BZ QG hl hx
end
section
variable{P:aL}{F:Nat->Bool}{α β γ Z:Type}{A:Rn->α->β->Prop}{A':Rn->γ->Z->Prop}{U:Rn}
def oa(P:aL)(s:iN α):Prop:=∀w es,(∃a w' es',s.runT P w es=(.ok a w',es'))\/∃h w' es',s.runT P w es=(.halt h w',es')/\FK h
theorem oa.E5{s:iN α}{f:α->iN γ}(h:oa P s)(hf:∀a,qW P (f a)):qW P (s >>= f):=fun w es=>by
 show ∃h w' es',(s.bind f).runT P w es=_/\_;rw[GL];rcases h w es with⟨a,w',es',h1⟩|⟨e,w',es',h1,h2⟩
 .rw[h1];exact hf a w' es'
 rw[h1];exact⟨e,w',es',rfl,h2⟩
theorem oa.bind{s:iN α}{f:α->iN γ}(h:oa P s)(hf:∀a,oa P (f a)):oa P (s >>= f):=fun w es=>by
 show(∃a w' es',(s.bind f).runT P w es=_)\/∃h w' es',(s.bind f).runT P w es=_/\_;rw[GL];rcases h w es with⟨a,w',es',h1⟩|⟨e,w',es',h1,h2⟩
 .rw[h1];exact hf a w' es'
 rw[h1];exact .inr ⟨e,w',es',rfl,h2⟩
theorem m5{a:α}:oa P (eX a:iN α):=fun w es=>.inl ⟨a,w,es,rfl⟩
theorem JL{r:Nat}:oa P (shape r):=fun w es=>.inl ⟨_,w,es,rfl⟩
theorem Gt{a:dc}:oa P (frozen a):=fun w es=>.inl ⟨_,w,es,rfl⟩
theorem zZ{a:dc}{n:Nat}:oa P (Builtin.holdsCells a n):=by
 unfold Builtin.holdsCells;refine JL.bind fun s=>?_;cases s<;>exact m5
theorem Db{size o8 n:Nat}{b:Option dc}{x:ak}:oa P (qc size o8 n b x):=by
 unfold qc
 have rest:∀there:Bool,oa P (if (!there)=true then(pure true:iN Bool) else match x with
   |.slice (some c) _ _=>do pure (!(<-Builtin.holdsCells c (n*size))||b.any (·.block==c.block))
   |_=>pure false):=by
  intro there;split
  .exact m5
  split
  .exact zZ.bind fun _=>m5
  exact m5
 cases b with
 |none=>exact m5.bind rest
 |some a=>exact zZ.bind fun _=>Gt.bind fun _=>m5.bind rest
theorem Ni{x x':ak}(h:VR F U x x'):bX P F (Same U fun _=>True) U (Dm x) (Dm x'):=by
 cases h<;>first|exact bn|exact cX
theorem o7{x x':ak}(h:VR F U x x')(size n:Nat):bX P F (At U (iV F U)) U (eM size n x) (eM size n x'):=by
 cases h<;>first|exact bn|exact .dw .nil|exact vy ‹_› _|exact .dw (iV.map fun _ _=>.int _ _)
theorem Ke{z z':Array ak}(h:iV F U z z')(n:Nat):iV F U (fS z n) (fS z' n):=by
 unfold fS;rw[<-h.size];have:=Ie h (n*z.size);rw[<-h.size] at this;exact this
theorem II{n:Nat}:bX P F (At U fun _ _=>True) U (askRoom n) (askRoom n):=by
 unfold askRoom;split
 .exact .noRoom (.dw trivial)
 exact .dw trivial
def okZ(P:aL)(t?:Option aZ):Bool:=match t? with|some t=>(match P.underlying t with|some (.int _)=>false|_=>true)|none=>true
def TD(P:aL)(ts:Array aZ):Bool:=
 (match ts[0]? with|some t=>zq P t|none=>true)&&okZ P ts[1]?
theorem Ng{t?:Option aZ}(ht:okZ P t?=true){J J':Bool->iN ak}(h:bX P F (VR F) U (J false) (J' false)) :
  bX P F (VR F) U (match (generalizing:=false) t? with|some t=>jc t >>= fun d=>(eX (match d with|.int _=>true|_=>false):iN Bool) >>= J|none=>(eX false:iN Bool) >>= J)
   (match (generalizing:=false) t? with|some t=>jc t >>= fun d=>(eX (match d with|.int _=>true|_=>false):iN Bool) >>= J'|none=>(eX false:iN Bool) >>= J'):=by
 cases t? with
 |none=>exact h
 |some t1=>
  refine dt.bJ fun d1 hd1=>?_;simp only[okZ,hd1] at ht;cases d1<;>first|(cases ht;done)|exact h
theorem KJ{ts:Array aZ}(ht:TD P ts=true){t:aZ}{l m:Array ak}(h:iV F U l m):bX P F (VR F) U (ko ts t l) (ko ts t m):=by
 unfold ko;simp only[TD,aI] at ht;obtain⟨Jm,sw⟩:=ht;cases hx:l[0]? with
 |none=>cases ts[0]?<;>exact bn
 |some s=>
  obtain⟨s',hs',hsv⟩:=h.get hx;rw[hs'];cases h0:ts[0]? with
  |none=>exact bn
  |some t0=>
   cases hx1:l[1]? with
   |none=>exact bn
   |some x=>
    obtain⟨x',hx',hxv⟩:=h.get hx1;rw[hx'];rw[h0] at Jm;simp only at Jm;dsimp only;refine dt.bJ fun ds LD=>?_;cases ds<;>first|exact bn|skip
    rename_i e;simp only[zq,LD] at Jm;dsimp only
    have main:∀ {b b':Option dc} (sl sc:Nat),VR F U (.slice b sl sc) (.slice b' sl sc)->bX P F (VR F) U
      (do
        let size <-sizeOf e
        let zeros <-match ts[1]? with
         |some xType=>do pure ((<-jc xType) matches .int _)
         |none=>pure false
        let n <-if zeros then do
          let l:=IntKind.i64.wrap (<-asInt x)
          if l<0 then eF (.error "makeslice: len out of range")
          if l*(<-kY e).bytes>2 ^ 48 then
           let made <-Ap (.extern "append.ofMake.carriedOut" 2)
           eF (.error (if made==1 then "makeslice: len out of range" else "growslice: len out of range"))
          pure l.toNat
         else Dm x
        let appended:iN (Array ak):=
         if !zeros then eM size n x
         else if n*size=0 then pure #[]
         else do pure (fS (<-iY e).cells n)
        let need:=sl+n
        if need<=sc then
         let new <-appended
         if let some a:=b then storeCells (a.add (sl*size)) new.toList
         pure (.slice b need sc)
        else
         if (need:Int)>IntKind.i64.max/\(zeros\/(<-kY e).bytes=0) then eF (.error "growslice: len out of range")
         if Builtin.nextslicecap need sc*(<-kY e).bytes>2 ^ 48 then(if zeros then eF (.error "growslice: len out of range") else do
          if !(<-qc size sl n b x) then mark .noRoom
          ri (.resourceLimit "append: a slice or a string whose bytes no memory bears"))
         let mL <-Ap (.appendCap need sc e)
         askRoom (mL*(<-kY e).bytes)
         let old <-eM size sl (.slice b sl sc);let new <-appended;let rest:=fS (<-iY e).cells (mL-need)
         pure (.slice (some (<-newRow e (old++new++rest))) need mL))
      (do
        let size <-sizeOf e
        let zeros <-match ts[1]? with
         |some xType=>do pure ((<-jc xType) matches .int _)
         |none=>pure false
        let n <-if zeros then do
          let l:=IntKind.i64.wrap (<-asInt x')
          if l<0 then eF (.error "makeslice: len out of range")
          if l*(<-kY e).bytes>2 ^ 48 then
           let made <-Ap (.extern "append.ofMake.carriedOut" 2)
           eF (.error (if made==1 then "makeslice: len out of range" else "growslice: len out of range"))
          pure l.toNat
         else Dm x'
        let appended:iN (Array ak):=
         if !zeros then eM size n x'
         else if n*size=0 then pure #[]
         else do pure (fS (<-iY e).cells n)
        let need:=sl+n
        if need<=sc then
         let new <-appended
         if let some a:=b' then storeCells (a.add (sl*size)) new.toList
         pure (.slice b' need sc)
        else
         if (need:Int)>IntKind.i64.max/\(zeros\/(<-kY e).bytes=0) then eF (.error "growslice: len out of range")
         if Builtin.nextslicecap need sc*(<-kY e).bytes>2 ^ 48 then(if zeros then eF (.error "growslice: len out of range") else do
          if !(<-qc size sl n b' x') then mark .noRoom
          ri (.resourceLimit "append: a slice or a string whose bytes no memory bears"))
         let mL <-Ap (.appendCap need sc e)
         askRoom (mL*(<-kY e).bytes)
         let old <-eM size sl (.slice b' sl sc);let new <-appended;let rest:=fS (<-iY e).cells (mL-need)
         pure (.slice (some (<-newRow e (old++new++rest))) need mL)):=by
     intro b b' sl sc hb;refine gS.bJ fun size _=>?_;refine Ng sw ?_;simp only[bG,if_false,false_or,Bool.not_false,if_true];refine(Ni hxv).bJ fun n _=>?_;split
     .refine(o7 hxv size n).dI fun new agD hn=>?_;cases hb with
      |Ew=>exact .pure (.Ew _ _)
      |slice _ _ ha=>exact(uA (ha.add _) hn.list 0).dI fun _ _ _=>.pure (.slice _ _ ha)
     refine jB.bJ fun i _=>?_;split
     .exact .dead ((pG (by simp) (by simp)).bind _)
     refine jB.bJ fun i _=>?_;split
     .refine .dead ?_;refine qW.bind (Db.E5 fun a=>?_) _;cases a
      .exact oa.E5 (s:=mark .noRoom) (fun w es=>.inl ⟨(),w,_,rfl⟩) fun _=>fC (by simp)
      exact fC (by simp)
     refine vA.bJ fun cap _=>jB.bJ fun i _=>II.dI fun _ _ _=>?_;refine(o7 hb size sl).dI fun old amA ho=>(o7 hxv size n).dI fun new agD hn=>?_;refine(lD Jm).dI fun z z' hz=>?_;exact bX.bind (vx ((ho.append hn).append (Ke hz.cells _))) fun U' a a' _ ha=>.pure (.slice _ _ ha)
    cases hsv with
    |Ew sl sc=>exact main sl sc (.Ew _ _)
    |slice sl sc ha=>exact main sl sc (.slice _ _ ha)
    |_=>exact bn
inductive NR(F:Nat->Bool)(U:Rn):Next->Next->Prop
 |value {v v':ak}:VR F U v v'->NR F U (.value v) (.value v')
 |skip:NR F U .skip .skip
 |enter {f:dX} {l m:Array ak}:F f=true->iV F U l m->NR F U (.enter f l) (.enter f m)
 |send {ch v:ak} {n:Next}:NR F U (.comm #[{ chan:=ch,send:=some v,zero:=.tuple #[] }] true .send) n
theorem nN{s s':iN ak}(h:bX P F (VR F) U s s'):bX P F (NR F) U (do pure (.value (<-s))) (do pure (.value (<-s'))):=h.bind fun U' v v' _ hv=>.pure (.value hv)
theorem ia{s s':iN ak}(h:bX P F (At U (VR F U)) U s s'):bX P F (NR F) U (do pure (.value (<-s))) (do pure (.value (<-s'))):=h.dI fun v v' hv=>.pure (.value hv)
theorem BU{s s':iN Unit}(h:bX P F (At U fun _ _=>True) U s s'):bX P F (NR F) U (do s;pure .skip) (do s';pure .skip):=h.dI fun _ _ _=>.pure .skip
def VE(P:aL)(F:Nat->Bool):Prop:=∀f,F f=true->∃fn,P.funcs[f]?=some fn/\fn.body.isSome=true/\(fn.name == "runtime.NumGoroutine")=false
theorem F4(hF:VE P F){f:dX}(hf:F f=true){l m:Array ak}(h:iV F U l m):bX P F (NR F) U (callFunc f l) (callFunc f m):=by
 obtain⟨fn,h1,h2,h3⟩:=hF f hf;unfold callFunc;refine ku ?_;have h4:fn.body.isNone=false:=by cases hb:fn.body<;>simp_all
 simp only[h1,h3,h4,bG,if_false];exact .pure (.enter hf h)
def AQ(F:Nat->Bool):bL->Bool
 |.tmp _=>true
 |.const v=>EY v
 |.global _=>false
 |.func f=>F f
def okB(P:aL)(ts:Array aZ):Builtin->Bool
 |.append=>TD P ts
 |.len=>TC P ts
 |.max|.min=>true
 |_=>false
def isInt:bL->Bool
 |.const (.int _ _)=>true
 |_=>false
def adk(P:aL)(t:aZ):Bool:=P.underlying t matches some (.int _)
def WM(P:aL)(F:Nat->Bool)(op:Op):Bool:=op.operands.all (AQ F)&&match op with
 |.move _|.assign _|.pick ..|.box ..|.load ..|.store ..|.indexAddr ..|.index ..|.extract ..|.send ..=>true
 |.alloc e=>oz P e
 |.build t _=>oz P t
 |.buildSlice t _ _=>zq P t
 |.binOp op t _ y _=>adk P t&&(Yu op||((op matches .eql | .neq)&&isInt y))
 |.makeFunc (.func f) _ _=>F f
 |.makeMap _ none=>true
 |.fieldAddr s _ f=>I2 P s f
 |.lookup t _ _ _=>TB P t
 |.mapUpdate t _ _ _=>NG P t
 |.call c=>(match c.callee with|.builtin b=>okB P c.argTypes b|.value _=>true|.invoke ..=>false)
 |_=>false
theorem kh{fr fr':bS}(h:iV F U fr.tmps fr'.tmps){x:bL}(hx:AQ F x=true):VR F U (fr.eval x) (fr'.eval x):=by
 cases x with
 |tmp t=>exact h.getD tR t
 |const v=>exact zK hx
 |global g=>cases hx
 |func f=>exact .func hx rfl (fun i x y h=>by simp at h) rfl (fun i x y h=>by simp at h)
theorem ZM{fr fr':bS}(h:iV F U fr.tmps fr'.tmps){l:Array bL}(hl:l.all (AQ F)=true):iV F U (l.map fr.eval) (l.map fr'.eval):=
 iV.map fun x hx=>kh h (kg.1 hl x hx)
theorem ND{fr fr':bS}(h:iV F U fr.tmps fr'.tmps):∀ {l:List (Nat × bL)},(l.all fun p=>AQ F p.2)=true->
  PL F U (l.map fun(i,x)=>(i,fr.eval x)) (l.map fun(i,x)=>(i,fr'.eval x))
 |[],_=>.nil
 |(i,x)::l,hl=>by
  simp only[dT,aI] at hl;exact .cons (kh h hl.1) (ND h hl.2)
theorem KG(hF:VE P F)(R:Vp P U){fr fr':bS}(h:iV F U fr.tmps fr'.tmps){o:Oper}(ho:WM P F o.op=true):bX P F (NR F) U (execOp fr.eval o) (execOp fr'.eval o):=by
 unfold WM at ho;rw[aI] at ho;obtain⟨h1,h2⟩:=ho;unfold execOp;obtain⟨dst,op,type,pos,after,guard⟩:=o;dsimp only at h1 h2 ⊢;cases op<;>first|(cases h2;done)|skip
 all_goals simp only[Op.operands,List.all_toArray,dT,List.all_nil,Bool.and_true,aI] at h1
 case move x=>exact .pure (.value (kh h h1))
 case assign x=>exact .pure (.value (kh h h1))
 case pick c a b=>
  refine bX.bJ (C:=fun _=>True) (s:=asBool (fr.eval c)) (s':=asBool (fr'.eval c)) ?_ fun t _=>?_
  .have hc:=kh h h1.1;revert hc;generalize fr.eval c=v;generalize fr'.eval c=v';intro hc;cases hc<;>first|exact bn|exact cX
  cases t
  .exact bX.pure (NR.value (kh h h1.2.2))
  exact bX.pure (NR.value (kh h h1.2.1))
 case alloc e=>exact nN (Np h2)
 case box e x=>exact nN (Ta (kh h h1))
 case build t ps=>
  refine ia (Nk h2 ?_);simp only[vY];exact ND h (by simpa [List.all_map,Function.comp_def] using h1)
 case buildSlice t n ps=>
  refine nN (CW h2 ?_);simp only[vY];exact ND h (by simpa [List.all_map,Function.comp_def] using h1)
 case load t a=>exact ia (KD (kh h h1))
 case store t a v=>exact BU (Iw (kh h h1.1) (kh h h1.2))
 case binOp op t x y yt=>
  simp only[aI,Bool.or_eq_true] at h2;have hx:=kh h h1.1;have hy:=kh h h1.2
  have ht:∃k,P.underlying t=some (.int k):=by
   have:=h2.1;unfold adk at this;split at this
   .exact⟨_,‹_›⟩
   cases this
  obtain⟨k,ht⟩:=ht;refine nN ?_;rcases h2.2 with hop|⟨hop,hint⟩
  .have e:∀a b,eqGuard op t x y a b=eX ():=fun a b=>by cases op<;>first|rfl|cases hop
   rw[e,e];exact Nl R ht hop hx hy
  have hyi:∃k n,y=.const (.int k n):=by
   unfold isInt at hint;split at hint
   .exact⟨_,_,rfl⟩
   cases hint
  obtain⟨ky,ny,rfl⟩:=hyi;have hy1:fr.eval (.const (.int ky ny))=.int ky ny:=rfl;have hy2:fr'.eval (.const (.int ky ny))=.int ky ny:=rfl;rw[hy1,hy2] at *
  have e:∀a,eqGuard op t x (.const (.int ky ny)) a (.int ky ny)=eX ():=fun a=>by
   have Z9:op=.eql\/op=.neq:=by cases op<;>first|exact .inl rfl|exact .inr rfl|cases hop
   rcases Z9 with rfl|rfl<;>cases a<;>rfl
  rw[e,e];show bX P F (VR F) U (binOp op t (fr.eval x) (.int ky ny)) (binOp op t (fr'.eval x) (.int ky ny));generalize fr.eval x=v at hx ⊢;generalize fr'.eval x=v' at hx ⊢;have hpl:pj P 1 t=true:=by simp only[pj,ht]
  have heq:=pK R 1 Op.maxDepth t hpl v v' _ _ hx (.int (F:=F) (U:=U) ky ny);have Z9:op=.eql\/op=.neq:=by cases op<;>first|exact .inl rfl|exact .inr rfl|cases hop
  rcases Z9 with rfl|rfl
  .cases hx<;>first
    |exact vz
    |exact heq.bJ fun b _=>.pure (.bool _)
  cases hx<;>first
   |exact vz
   |exact heq.bJ fun b _=>.pure (.bool _)
 case makeFunc fn fs cs=>
  cases fn<;>first|(cases h2;done)|skip
  rename_i f;simp only[Array.all_append,aI] at h1;have e1:=ZM h h1.1;have e2:=ZM h h1.2;exact .pure (NR.value (.func h2 e1.size e1.at_ e2.size e2.at_))
 case makeMap t r=>
  cases r<;>first|(cases h2;done)|skip
  exact nN Iz
 case fieldAddr s x f=>exact ia (IE h2 (kh h h1))
 case indexAddr t x i=>exact ia (IC (kh h h1.1) (kh h h1.2))
 case index t x i=>exact ia (Nj (kh h h1.1) (kh h h1.2))
 case lookup t x i ok=>exact ia (KC R h2 (kh h h1.1) (kh h h1.2) ok)
 case mapUpdate t m k v=>exact BU (DV R h2 (kh h h1.1) (kh h h1.2.1) (kh h h1.2.2))
 case send ch x=>exact bX.pure NR.send
 case extract x i=>exact ia (IG (kh h h1) i)
 case call c=>
  obtain⟨callee,args,ats⟩:=c;simp only[Call.operands,Array.all_append,aI] at h1;have ha:=ZM h h1.2;dsimp only at h2;cases callee<;>first|(cases h2;done)|skip
  case builtin b=>
   cases b<;>first|(cases h2;done)|skip
   .exact nN (KJ h2 ha)
   .exact ia (S9 h2 ha)
   .exact ia (S8 ha)
   exact ia (S7 ha)
  case value f=>
   have hf:=kh h (x:=f) (by simpa using h1.1);unfold resolve;dsimp only;revert hf;generalize fr.eval f=v;generalize fr'.eval f=v';intro hf;cases hf<;>first|exact bn|exact gF (e:=.nilDeref)|skip
   rename_i f fs fs' cs cs' hFf h3 h4 h5 h6;exact F4 hF hFf (((iV.mk h3 h4).append ha).append ⟨h5,h6⟩)
end
def Px(P:aL)(F:Nat->Bool)(o:Oper):Bool:=WM P F o.op
def iG(P:aL)(F:Nat->Bool):Code->Bool
 |.skip|.exit _|.label _|.ret=>true
 |.region _ aN _=>aN.all (Px P F)
 |.seq a b=>iG P F a&&iG P F b
 |.cond c a b=>AQ F c&&iG P F a&&iG P F b
 |.block _ c|.loop c=>iG P F c
 |_=>false
def iQ(P:aL)(F:Nat->Bool):pD->Bool
 |.code c|.inLoop c=>iG P F c
 |.inBlock _=>true
 |.inRegion aN _=>aN.all (Px P F)
 |_=>false
structure uN(P:aL)(F:Nat->Bool):Prop where
 text:∀f,F f=true->∃fn c,P.funcs[f]?=some fn/\fn.body=some c/\iG P F c=true/\(fn.name == "runtime.NumGoroutine")=false
theorem uN.body{P:aL}{F:Nat->Bool}(h:uN P F):VE P F:=fun f hf=>by
 obtain⟨fn,c,h1,h2,_,h3⟩:=h.text f hf;exact⟨fn,h1,by rw[h2];rfl,h3⟩
def jr(fn:dX)(tmps:Array ak)(todo:List pD)(mode:FrameMode)(kd:j6):Frame:={ fn,tmps,todo,defers:=[],mode,kind:=kd,roundOf:=none }
abbrev Fr(fn:dX)(tmps:Array ak)(todo:List pD)(mode:FrameMode):Frame:=jr fn tmps todo mode .normal
inductive FR(P:aL)(F:Nat->Bool)(U:Rn)(k:List pD)(kd:j6):bS->bS->Prop
 |run {fn:dX} {tmps bB:Array ak} {todo:List pD}:iV F U tmps bB->todo.all (iQ P F)=true->FR P F U k kd (Fr fn tmps todo .run) (jr fn bB (todo++k) .run kd)
 |ret {fn:dX} {tmps bB:Array ak} {todo Pc:List pD}:iV F U tmps bB->FR P F U k kd (Fr fn tmps todo .returning) (jr fn bB Pc .returning kd)
theorem FR.mono{P:aL}{F:Nat->Bool}{U U':Rn}{k:List pD}{kd:j6}{fr fr':bS}(h:FR P F U k kd fr fr')(hl:Rn.le U U'):FR P F U' k kd fr fr':=by
 cases h with
 |run h1 h2=>exact .run (h1.mono hl) h2
 |ret h1=>exact .ret (h1.mono hl)
theorem FR.defers{P:aL}{F:Nat->Bool}{U:Rn}{k:List pD}{kd:j6}{fr fr':bS}(h:FR P F U k kd fr fr'):fr.defers=[]:=by cases h<;>rfl
theorem FR.kinds{P:aL}{F:Nat->Bool}{U:Rn}{k:List pD}{kd:j6}{fr fr':bS}(h:FR P F U k kd fr fr'):fr.kind=.normal/\fr'.kind=kd:=by cases h<;>exact⟨rfl,rfl⟩
inductive SR(P:aL)(F:Nat->Bool)(U:Rn)(k:List pD)(kd:j6)(cs:List bS):bS->List bS->bS->List bS->Prop
 |base {fr fr':bS}:FR P F U k kd fr fr'->P.inits.idxOf? fr.fn=none->SR P F U k kd cs fr [] fr' cs
 |up {fr fr' c c':bS} {r r':List bS}:FR P F U [] .normal fr fr'->c.todo≠[]->c.mode=.run->SR P F U k kd cs c r c' r'->SR P F U k kd cs fr (c::r) fr' (c'::r')
theorem SR.mono{P:aL}{F:Nat->Bool}{U U':Rn}{k:List pD}{kd:j6}{cs:List bS}{fr fr':bS}{l l':List bS}(h:SR P F U k kd cs fr l fr' l')(hl:Rn.le U U'):SR P F U' k kd cs fr l fr' l':=by
 induction h with
 |base h1 h2=>exact .base (h1.mono hl) h2
 |up h1 h2 h3 _ ih=>exact .up (h1.mono hl) h2 h3 ih
theorem SR.defers{P:aL}{F:Nat->Bool}{U:Rn}{k:List pD}{kd:j6}{cs:List bS}{fr fr':bS}{l l':List bS}(h:SR P F U k kd cs fr l fr' l'):fr.defers=[]/\∀c∈l,c.defers=[]:=by
 induction h with
 |base h1 h2=>exact⟨h1.defers,by simp⟩
 |up h1 h2 h3 _ ih=>
  refine⟨h1.defers,fun c hc=>?_⟩;rcases List.mem_cons.1 hc with rfl|hc
  .exact ih.1
  exact ih.2 c hc
def OW(g:aD):Prop:=g.dying≠none\/g.status≠.running\/∃chain,g.frame.mode=.panicking chain/\g.frame.defers=[]/\∀c∈g.callers,c.defers=[]
section
variable{P:aL}{F:Nat->Bool}{G':Nat}{B:Nat->Prop}{U:Rn}{k:List pD}{kd:j6}{cs:List bS}{lw w:ar}{main:Bool}
theorem raise_mode(fr:bS)(c:List PanicEntry):∃ch,(fr.raise c).mode=.panicking ch/\(fr.raise c).defers=fr.defers:=by
 unfold Frame.raise;cases fr.mode<;>exact⟨_,rfl,rfl⟩
theorem Qu{g:aD}(h:OW g)(hd:g.dying=none)(hr:g.status=.running):(∃o w1 es,fo P true g lw=.ended o w1 es)\/∃g1 w1 es,fo P true g lw=.go g1 w1 es/\OW g1:=by
 rcases h with h|h|⟨chain,h1,h2,h3⟩
 .exact absurd hd h
 .exact absurd hr h
 obtain⟨fr,cs,st,dy,off⟩:=g;obtain⟨fn,tmps,todo,defers,mode,kind,roundOf⟩:=fr;dsimp only at hd hr h1 h2 h3;subst hd;subst h1;subst h2;have e:fo P true ⟨⟨fn,tmps,todo,[],.panicking chain,kind,roundOf⟩,cs,st,none,off⟩ lw=unwind P true ⟨fn,tmps,todo,[],.panicking chain,kind,roundOf⟩ cs none lw:=by unfold fo;rfl
 rw[e];unfold unwind;dsimp only;split
 .exact .inl ⟨_,_,_,rfl⟩
 .cases cs with
  |cons c r=>
   obtain⟨ch,e1,e2⟩:=raise_mode c chain;exact .inr ⟨_,_,_,rfl,.inr (.inr ⟨ch,e1,e2.trans (h3 c (by simp)),fun x hx=>h3 x (by simp[hx])⟩)⟩
  |nil=>
   dsimp only;split
   .exact .inr ⟨_,_,_,rfl,.inr (.inl (by simp))⟩
   split
   .exact .inr ⟨_,_,_,rfl,.inl (by simp)⟩
   .exact .inl ⟨_,_,_,rfl⟩
   exact .inl ⟨_,_,_,rfl⟩
def Ih(P:aL)(F:Nat->Bool)(G':Nat)(B:Nat->Prop)(U:Rn)(k:List pD)(kd:j6)(cs:List bS)(lw w:ar)(s s':GStep):Prop:=
 (∃o kK es,s=.ended o kK es)\/(∃g1 kK es,s=.go g1 kK es/\OW g1)\/
 (∃g1 ch v kK es,s=.comm g1 #[{ chan:=ch,send:=some v,zero:=.tuple #[] }] true .send kK es/\∀(b:Nat) (o:Obj),kK.heap[b]?=some o->o.isChan=false)\/
 ∃Gm l1 kK es wT Xf w1 evs ρ1,s=.go (G Gm l1) kK es/\s'=.go (G wT Xf) w1 evs/\SR P F ρ1 k kd cs Gm l1 wT Xf/\mN F G' B U lw w ρ1 kK w1 evs
theorem gD(hw:WR F G' B U lw w){Gm wT:bS}{l1 Xf:List bS}(h:SR P F U k kd cs Gm l1 wT Xf){s s':GStep}(e:s=.go (G Gm l1) lw #[])(e':s'=.go (G wT Xf) w #[]):Ih P F G' B U k kd cs lw w s s':=
 .inr (.inr (.inr ⟨_,_,_,_,_,_,_,_,U,e,e',h,.refl hw⟩))
theorem mN.seen{U':Rn}{eG w':ar}{es:Array Event}(h:mN F G' B U lw w U' eG w' es)(fn:dX):mN F G' B U lw w U' eG w' (seen P fn es++#[]):=
 h.more fun e he=>h.evs e (mem_seen (by simpa using he))
theorem SR.set{fr fr' Gm wT:bS}{l l':List bS}(h:SR P F U k kd cs fr l fr' l')(hfn:Gm.fn=fr.fn)(h0:l=[]->FR P F U k kd fr fr'->FR P F U k kd Gm wT)(h1:l≠[]->FR P F U [] .normal fr fr'->FR P F U [] .normal Gm wT):SR P F U k kd cs Gm l wT l':=by
 cases h with
 |base h h'=>exact .base (h0 rfl h) (hfn▸h')
 |up h a b r=>exact .up (h1 (by simp) h) a b r
theorem lR{x:pD}{t:List pD}(h:(x::t).all (iQ P F)=true):iQ P F x=true/\t.all (iQ P F)=true:=by simpa using h
theorem iJ{x:pD}{t:List pD}(h:iQ P F x=true)(h':t.all (iQ P F)=true):(x::t).all (iQ P F)=true:=by simp[h];simpa using h'
theorem yf{id:Nat}{k:List pD}:∀ {t t':List pD},exitTo id t=some t'->exitTo id (t++k)=some (t'++k)
 |[],t',h=>by cases h
 |x::t,t',h=>by
  cases x<;>simp only[gP,exitTo] at h ⊢<;>first|exact yf h|skip
  split at h
  .rename_i hh;rw[if_pos hh];cases h;rfl
  rename_i hh;rw[if_neg hh];exact yf h
theorem ye{id:Nat}:∀ {t t':List pD},t.all (iQ P F)=true->exitTo id t=some t'->t'.all (iQ P F)=true
 |[],t',ht,h=>by cases h
 |x::t,t',ht,h=>by
  have ZZ:=(lR ht).2;cases x<;>simp only[exitTo] at h<;>first|exact ye ZZ h|skip
  split at h
  .cases h;exact ZZ
  exact ye ZZ h
theorem Dx{fn:dX}{tmps bB:Array ak}{aN:Array Oper}{i:Nat}{rest:List Nat}{t k:List pD}(h:iV F U tmps bB)(ht:(Item.inRegion aN (i::rest)::t).all (iQ P F)=true){v v':ak}(hv:VR F U v v') :
  FR P F U k kd ((Fr fn tmps (.inRegion aN (i::rest)::t) .run).finish v) ((jr fn bB (.inRegion aN (i::rest)::t++k) .run kd).finish v'):=by
 unfold Frame.finish Fr jr;simp only[gP];have C2:(Item.inRegion aN rest::t).all (iQ P F)=true:=iJ (lR ht).1 (lR ht).2;cases(aN[i]?).bind (·.dst) with
 |none=>exact .run (todo:=.inRegion aN rest::t) h C2
 |some d=>exact .run (todo:=.inRegion aN rest::t) (h.set hv d) C2
theorem A8(fr:bS)(v:ak):(fr.finish v).fn=fr.fn:=by
 unfold Frame.finish;split<;>rfl
end
end Go.Lag
