/- pick (95): beside leavers. What good is handed. pick (95): its end, be .. -/
import Derived.Test.YtffladgmkiimjaaGreatDoorV09
import Derived.Test.YtffladgmkiimjaaGreatDoorV03
set_option linter.all false
set_option maxHeartbeats 0
set_option maxRecDepth 1000000
open Go.Lag.Yields renaming call -> jI
open Array renaming getElem?_eq_some_iff -> ah,replicate -> bz,replicate_zero -> kj,replicate_succ -> km
open Go renaming bodyPost_ret -> a8,Program -> aL,Calls -> a_,Value -> aj,World -> ak,undef -> ar,Question -> dH
open Go.Ending renaming returned -> aU
open Go.IntKind renaming i64 -> af
open Go.Lib renaming hid -> ai
open Go.Obj renaming cells -> au
open Go.Operand renaming tmp -> aI
open Go.Proofs.Tryz renaming prog -> aq,underlying28 -> bL,underlying122 -> fS,underlying23 -> lF
open Go.RowKit renaming Below -> fX
open Go.RowKit.Below renaming refl -> ay,heap_setCell -> bp
open Go.Value renaming bool -> aA,int -> aD,agg -> aN,slice -> ae,int -> ag,tuple -> bB,oneCell' -> bK,ownBlock -> ji
open Go.World renaming alloc_heap_new -> ax,size_alloc -> dQ
open List renaming range -> aQ,getElem_mem -> bG,range' -> bP,mem_range -> bQ,take_succ_eq_append_getElem -> bV,length_pos_iff -> cB,take_of_length_le -> cU,length_cons -> eE,getD_cons_zero -> f_,getD_cons_succ -> gb,append_toArray -> iA,cons_append -> iD,size_toArray -> jG,push_toArray -> jH,nil_append -> jk,mem_flatMap -> jq,map -> nQ,length_nil -> oD
open List.range renaming loop -> cg
open Nat renaming reduceSub -> Da,reduceAdd -> Db,le_refl -> aJ,lt_of_lt_of_le -> bD,zero_add -> cO
open Option.some renaming inj -> a7
open Or renaming inl -> cz
open Prod.mk renaming injEq -> g_
namespace Go.Proofs.YtffladgmkiimjaaGreatDoor
open Go.RowKit Go.Lag
open Go.Conc
def Nx(u:aj):Prop:=(∃k n,u=.int k n)\/∃s,u=.string s
def Plain(w:ak)(v:aj):Prop:=∀g,v.ownBlock=some g->1<=g/\∃cs e z,w.heap[g]?=some (.cells cs e z)/\∀u∈cs,Nx u
def Plain.old{w w':ak}{v:aj}(h:Plain w v)(ho:Old w w'):Plain w' v:=fun g hg=>by
 obtain⟨h1,cs,e,z,h2,h3⟩:=h g hg;exact⟨h1,cs,e,z,(ho.block g (eJ h2)).trans h2,h3⟩
def bW.old{b:BB}{bm aH az:aj}{ml:List Mn}{ss:List Int}{ms:List Mk}{w w':ak}(h:bW b bm aH az ml ss ms w)(ho:Old w w'):bW b bm aH az ml ss ms w':=
 ⟨h.ok,h.eT,h.lH,h.jM,h.rm.old ho,h.rs.old ho,h.rk.old ho⟩
def Laid.old{w w':ak}(h:Laid w)(hb:Old w w'):Laid w':=
 ⟨(hb.cell (a:=⟨0,0,none⟩) h.lt).trans h.c0,(hb.cell (a:=⟨0,1,none⟩) h.lt).trans h.c1,(hb.cell (a:=⟨0,2,none⟩) h.lt).trans h.c2,(hb.cell (a:=⟨0,3,none⟩) h.lt).trans h.c3,(hb.cell (a:=⟨0,4,none⟩) h.lt).trans h.c4,bD h.lt hb.size⟩
def ie.old{w w':ak}{base:Nat}{v:aj}{l:List dS}(h:ie w base v l)(ho:Old w w'):ie w' base v l:=h.at_ fun g hg=>ho.block g (h.1.lt g hg).2
def QN{w:ak}{base:Nat}{v:aj}{l:List dS}(h:ie w base v l)(hb:1<=base):Plain w v:=fun g hg=>by
 obtain⟨cur,h1,h2⟩:=h.2 g hg;have h3:=(h.1.lt g hg).1;exact⟨oM,cur,_,_,h1,fun u hu=>.inl ⟨_,h2 u hu⟩⟩
def Hu(ok:dS->Bool):∀(r:List Mn) (lU:Nat) (a:dS),a.Ok->(∀m∈r,1<=m.lo/\m.hi<=99)->∀x∈leaves ok r lU a,x.Ok
 |[],lU,a,ha,_,x,hx=>by
  simp only[leaves] at hx;split at hx
  .simp at hx;subst hx;exact ha
  cases hx
 |m::r,lU,a,ha,hm,x,hx=>by
  simp only[leaves,jq] at hx;obtain⟨n,hn,hx⟩:=hx;simp only[eI,List.mem_map,bQ] at hn;obtain⟨i,hi,rfl⟩:=hn;have:=hm m sM;exact Hu ok r (lU+1) _ (dS.Nr ha lU oM oM) (fun m' h=>hm m' (by simp[h])) x hx
def ot{b:BB}{ml:List Mn}{ss:List Int}{ms:List Mk}(hb:b.Ok)(hm:uJ ml):∀x∈aT b ml ss ms,x.Ok:=by
 intro x hx;simp only[aT,jq] at hx;obtain⟨n,hn,hx⟩:=hx;simp only[eI,List.mem_map,bQ] at hn;obtain⟨i,hi,rfl⟩:=hn;have:=hb.leak;exact Hu _ ml 0 ⟨b.ll+i,0,0,0⟩ ⟨⟨by show 0<=b.ll+i;omega,by show b.ll+(i:Int)<=400;omega⟩,sM,sM,sM⟩ (fun m h=>⟨(hm.mem m h).2.1,(hm.mem m h).2.2.2.1⟩) x hx
def XM{b:BB}{bm aH az all:aj}{ml:List Mn}{l:List dS}{ss:List Int}{ms:List Mk}{W:ak}(hB:bW b bm aH az ml ss ms W)(hl:∀x∈l,x.Ok)(h1:Plain W bm)(h2:Plain W aH)(h3:Plain W az)(h4:Plain W all)
  (ha:Reads W all l.length (rowOf l)) (hg:1<=W.heap.size):∃Y,VH aq b bm aH az all l ss ms Y W:=by
 have hm:=hB.ok.minutes
 have vr:∀(Y:Nat->Prop) (v:aj) (n:Nat) (xs:List aj),Reads W v n xs->(∀g,v.ownBlock=some g->Y g)->VR fw (x_ Y) v v/\mU Y W v n xs:=by
  intro Y v n xs hr hy;rcases hr with⟨rfl,rfl,rfl⟩|⟨g,off,cap,rfl,h,hg,hc⟩
  .exact⟨.Er _ _,.inl ⟨rfl,rfl,rfl⟩⟩
  exact⟨.slice _ _ ⟨vD (hy g rfl),rfl,rfl⟩,.inr ⟨g,off,cap,rfl,h,hy g rfl,hc⟩⟩
 refine⟨fun k=>bm.ownBlock=some k\/aH.ownBlock=some k\/az.ownBlock=some k\/all.ownBlock=some k,?_⟩
 have pl:∀(Y:Nat->Prop) (u:aj),Nx u->VR fw (x_ Y) u u:=by
  rintro Y u (⟨k,n,rfl⟩|⟨s,rfl⟩)
  .exact .int _ _
  exact .string _
 have m1:=vr (fun k=>bm.ownBlock=some k\/aH.ownBlock=some k\/az.ownBlock=some k\/all.ownBlock=some k) bm _ _ hB.rm fun g h=>.inl h;have m2:=vr (fun k=>bm.ownBlock=some k\/aH.ownBlock=some k\/az.ownBlock=some k\/all.ownBlock=some k) aH _ _ hB.rs fun g h=>.inr (.inl h);have m3:=vr (fun k=>bm.ownBlock=some k\/aH.ownBlock=some k\/az.ownBlock=some k\/all.ownBlock=some k) az _ _ hB.rk fun g h=>.inr (.inr (.inl h));have m4:=vr (fun k=>bm.ownBlock=some k\/aH.ownBlock=some k\/az.ownBlock=some k\/all.ownBlock=some k) all _ _ ha fun g h=>.inr (.inr (.inr h))
 have Xt:∀c,(bm.ownBlock=some c\/aH.ownBlock=some c\/az.ownBlock=some c\/all.ownBlock=some c)->1<=c/\∃cs e z,W.heap[c]?=some (.cells cs e z)/\∀u∈cs,Nx u:=by
  rintro c (h|h|h|h)
  .exact h1 c h
  .exact h2 c h
  .exact h3 c h
  exact h4 c h
 have Cl:Tryz.prog.globals.size=1:=kQ
 exact⟨rfl,Tryz.func159,Tryz.func178,kQ,kQ,hB.ok,hl,fun s hs=>by have:=hB.lH.mem s hs;omega,fun m h=>by have:=hB.jM.mem m h;omega,
  fun c hc=>by obtain⟨_,cs,e,z,h,hu⟩:=Xt c hc;exact⟨cs,e,z,h,fun u hu'=>pl _ u (hu u hu')⟩,fun c hc=>by rw[Cl];exact(Xt c hc).1,by rw[Cl];exact hg,m1.1,m2.1,m3.1,m4.1,m2.2,m3.2,m4.2⟩
def Zj(lt:Nat->Nat->Bool)(acc:List Nat)(W:ak)(v:aj)(W':ak):Prop:=
 ∃(x:Nat) (r:List Nat) (lv:aj),(x::r).Perm acc/\v=bB #[lv,aA true,ag af 0]/\Reads W' lv (gY (jJ lt x r)).length ((gY (jJ lt x r)).map (aD af))/\Old W W'
noncomputable def Tv:Code:=sR (sR (sR (sR (match Tryz.f95.body with|some c=>c|_=>.skip))))
def D9{W W':ak}{v:aj}{n:Nat}{xs:List aj}(h:Reads W v n xs)(hb:Bw W W'):Reads W' v n xs:=h.below hb
def Tx(g:FuncId)(lt:Nat->Nat->Bool)(LJ:∀(first:Nat),first<512->∀(more:List Nat),(∀x∈more,x<512)->∀(v:aj) (w:ak),Reads w v more.length (more.map fun(p:Nat)=>aD af (p:Int))->
   a_ aq 160 #[.func (.func g) #[] #[],ag af first,v] w (Rt w (ag af (jJ lt first more:Nat))))
  (x:Nat) (r:List Nat) (hx:x<512) (hr:∀y∈r,y<512) (out:aj) (W:ak) (ho:Reads W out (x::r).length (ints (x::r))) (acc:List Nat) (hp:(x::r).Perm acc) (W0:ak) (hold:Old W0 W)
  (t0 t2 t7 t8 t10 t11 t12 t13 t14 t15 t16 t17 t18 t19:aj) :
  Tv.wp aq (bodyPost aq Tryz.f95 fun e w'=>∃v,e=aU v/\Zj lt acc W0 v w')
   ⟨#[t0,.func (.func g) #[] #[],t2,ar,ae none 0 0,aA false,ag af 0,t7,t8,out,t10,t11,t12,t13,t14,t15,t16,t17,t18,t19,ar,ar,ar,ar,ar,ar,ar,ar,ar,ar,ar],[]⟩ W:=by
 obtain⟨go,oo,cap,rfl,hlen,hgo,hcell⟩:∃go oo cap,out=ae (some ⟨go,oo,none⟩) (r.length+1) cap/\(r.length+1<=4294967296/\r.length+1<=cap)/\go<W.heap.size/\∀j u,(ints (x::r))[j]?=some u->W.cell? ⟨go,oo+j,none⟩=some u:=by
  rcases ho with⟨_,h,_⟩|h
  .simp at h
  exact h
 have HC0:Hid (∀w,Bw W w->w.cell? ⟨go,oo,none⟩=some (ag af x)):=ai fun w hb=>(hb.cell (p:=⟨go,oo,none⟩) hgo).trans (hcell 0 _ (by simp[ints]))
 have Sv:Hid (∀w,Bw W w->Reads w (ae (if cap=1 then some ⟨go,oo,none⟩ else some ⟨go,oo+1,none⟩) r.length (cap-1)) r.length (r.map fun(p:Nat)=>aD af (p:Int))):=ai fun w hb=>
  if h1:cap=1 then by
   have h0:r=[]:=List.eq_nil_of_length_eq_zero oM;subst h0;rw[if_pos h1];exact .inr ⟨go,oo,cap-1,rfl,⟨sM,sM⟩,bD hgo hb.size,fun j u hj=>by simp at hj⟩
  else by
  rw[if_neg h1]
  exact .inr ⟨go,oo+1,cap-1,rfl,oM,bD hgo hb.size,fun j u hj=>(hb.cell (p:=⟨go,_,none⟩) hgo).trans (by
   have:=hcell (j+1) u (by simpa [ints] using hj)
   rwa [show oo+(j+1)=oo+1+j by omega] at this)⟩
 have HBe:=ai LJ;have HHx:=ai hr;have HPm:=ai hp;have HOl:=ai hold;clear LJ hr hp hold hcell ho;generalize hM:r.length=M at *;have HM:=ai hM;clear hM;have hbl:jJ lt x r<512:=Ai lt r x hx HHx.out;have l1:((M:Int)+1==0)=false:=sO;have l2:(1:Int)<=(M:Int)+1:=oM;simp only[Tv,sR,Tryz.f95];go_wp2
 refine cj kQ [
 pV (.func (.func g) #[] #[]),
  pV (ae (some ⟨go,oo,none⟩) (M+1) cap),
  pV (pv go oo),
  pV (ag af x),
  pV (ae (some ⟨go,oo,none⟩) (M+1) cap),
  pV ((ae (if cap=1 then some ⟨go,oo,none⟩ else some ⟨go,oo+1,none⟩) M (cap-1))),
  pV (ag af (jJ lt x r:Nat)),
  fun v ds w9=>Reads w9 v (gY (jJ lt x r)).length ((gY (jJ lt x r)).map (aD af)),
  fun v ds w9=>Reads w9 v (gY (jJ lt x r)).length ((gY (jJ lt x r)).map (aD af)),
  pV (aA true),
  pV (ag af 0)]
  (fun w=>Bw W w) [(1,.func (.func g) #[] #[]),(9,ae (some ⟨go,oo,none⟩) (M+1) cap)] kQ ?rst (fun w1 w2 h hb=>h.trans (hb.mono h.size)) ((ay _ _).drew) ⟨rfl,rfl,trivial⟩ ?reach ?rfin
 case rst=>
  refine⟨sV,sV,sV,sV,sV,sV,sV,?_,?_,sV,sV,trivial⟩
  .rintro v ds w1 w2 hS h hb;exact D9 h hb
  rintro v ds w1 w2 hS h hb;exact D9 h hb
 case reach=>
  refine⟨?_,?_,?_,?_,?_,?_,?_,?_,?_,?_,?_,trivial⟩<;>rintro ev w1 hS hc hg hf ⟨b1,b9,-⟩ hd
  .exact tV
  .exact tV
  .have d1:ev (aI 24)=_:=hd.1 rfl;exact tV
  .have d2:ev (aI 25)=_:=hd.1 rfl;have z:=HC0.out w1 hS;exact tV
  .exact tV
  .have d4:ev (aI 27)=_:=hd.1 rfl;exact tV
  .have d0:ev (aI 23)=_:=hd.1 rfl;have d3:ev (aI 26)=_:=hd.2.1 rfl;have d5:ev (aI 28)=_:=hd.2.2.1 rfl;refine yc (args:=#[.func (.func g) #[] #[],ag af x,(ae (if cap=1 then some ⟨go,oo,none⟩ else some ⟨go,oo+1,none⟩) M (cap-1))]) (HBe.out x hx r HHx.out _ _ (by have:=Sv.out w1 hS;rw[<-HM.out] at this;rw[<-HM.out];exact this)) ?_ fun _=>rfl;go_simp
  .have d6:ev (aI 29)=_:=hd.1 rfl;refine jI (f:=99) (args:=#[ag af (jJ lt x r:Nat)]) ?_ (sT _ hbl _) ?_
   .go_simp
   rintro e w2 ⟨v,rfl,h1,hb⟩;exact⟨_,rfl,h1,cz hb⟩
  .exact yv rfl (hd.1 rfl)
  .exact tV
  exact tV
 case rfin=>
  intro a2 w2 hR;have hS:=hR.s;have e8:Reads w2 (a2.tmps.getD 4 ar) (gY (jJ lt x r)).length ((gY (jJ lt x r)).map (aD af)):=hR.val 8;have e9:a2.tmps.getD 5 ar=_:=hR.val 9;have Oj:a2.tmps.getD 6 ar=_:=hR.val 10;have ha:=hR.lits 31 rfl;simp only[aQ,cg,nQ] at ha;clear hR;rw[e9,Oj] at ha;generalize a2.tmps.getD 4 ar=lv at *;generalize a2.tmps.getD=zz at ha;have aiR:Hid (Old W w2):=ai (Old.of_below hS);have HE8:=ai e8;clear e8 e9 Oj hS;subst ha;go_wp2
  go_ret3
  exact⟨_,rfl,x,r,lv,HPm.out,rfl,HE8.out,HOl.out.trans aiR.out⟩
def nZ{P:aL}(T:Quiet P){x y:Code}{Q:Exit->Act->ak->Prop}{a:Act}{W:ak}(hf:∀e a w,Q e a w->tj e=true)(Q1:Act->ak->Prop)(hx:∀I d,x.wp P (fun e a w=>e=.normal/\Q1 a w) a (dn W I d))(hy:∀a w,Q1 a w->vX P y Q a w):vX P (.seq x y) Q a W:=
 Qi T (fun e a w _ h=>hf e a w h) fun I d=>wp_mono (hx I d) (by rintro e a w ⟨rfl,h⟩;exact hy a w h)
def tX{W W':ak}{I:Nat->dH->Nat}{d:Nat}(h:Old W (dn W' I d)):Old W W':=⟨h.os,h.output,h.size,h.block⟩
def El{W W':ak}{I:Nat->dH->Nat}{d:Nat}(h:Old (dn W I d) W'):Old W W':=⟨h.os,h.output,h.size,h.block⟩
def jP{W W':ak}(I:Nat->dH->Nat)(d:Nat)(h:Old W W'):Old W (dn W' I d):=⟨h.os,h.output,h.size,h.block⟩
def rz(b:BB)(bm aH az:aj)(w:ak):a_ aq 122 #[aN (b.cells bm aH az)] w (Rt w (ag af 0)):=by
 go_enter Tryz.func122,Tryz.ntmps122
 go_wp2
 go_ret
 exact⟨rfl,cY⟩
structure Pk0(W:ak)(B:Nat)(cs:Array aj)(T:TypeId)(w:ak):Prop where
 old:Old W w
 blk:w.heap[B]?=some (au cs T (0,0))
structure Pk1(W:ak)(b:BB)(bm aH az:aj)(all:List dS)(B7:Nat)(v:aj)(w:ak):Prop where
 old:Old W w
 blk:w.heap[B7]?=some (au (b.open bm aH az v) 122 (0,0))
 own:ie w W.heap.size v all
section
variable{b:BB}{bm aH az:aj}{ml:List Mn}{ss:List Int}{ms:List Mk}{W:ak}
theorem Ty(g:FuncId)(lt:Nat->Nat->Bool)(hL:Laid W)(hB:bW b bm aH az ml ss ms W)(p1:Plain W bm)(p2:Plain W aH)(p3:Plain W az)(hne:aT b ml ss ms≠[])
  (yg:j_ b (di ss ms).toNat (bM ss) (aT b ml ss ms) 512≠[]) (hlt:∀x∈j_ b (di ss ms).toNat (bM ss) (aT b ml ss ms) 512,x<512)
  (LJ:∀(first:Nat),first<512->∀(more:List Nat),(∀x∈more,x<512)->∀(v:aj) (w:ak),Reads w v more.length (more.map fun(p:Nat)=>aD af (p:Int))->
   a_ aq 160 #[.func (.func g) #[] #[],ag af first,v] w (Rt w (ag af (jJ lt first more:Nat)))) :
  jE aq 95 #[aN (b.cells bm aH az),.func (.func g) #[] #[]] W (Zj lt (j_ b (di ss ms).toNat (bM ss) (aT b ml ss ms) 512) W):=by
 refine jA quiet Tryz.func95 rfl ?hR ?body
 case hR=>
  rintro v W' I d ⟨x,r,lv,h1,h2,h3,h4⟩;exact⟨x,r,lv,h1,h2,h3,tX h4⟩
 simp only[Tryz.ntmps95,jG,eE,oD,Db,Da,km,kj,jH,iA,jk,iD];refine nZ quiet aP (fun a w=>a=⟨#[aN (b.cells bm aH az),.func (.func g) #[] #[],pv W.heap.size 0,ar,ae none 0 0,aA false,ag af 0,ar,ar,ar,ar,ar,ar,ar,ar,ar,ar,ar,ar,ar,ar,ar,ar,ar,ar,ar,ar,ar,ar,ar,ar],[]⟩/\Pk0 W W.heap.size (b.cells bm aH az) 28 w) (fun I d=>?_) ?_
 .go_wp2;exact⟨El (qc _ _),ax (dn W I d) _⟩
 rintro a W1 ⟨rfl,⟨o1,x1⟩⟩;have jS:0<(aT b ml ss ms).length:=cB.2 hne;refine nZ quiet aP (fun a w=>∃(B7:Nat) (v t10 t11 t12 t13 t14:aj),a=⟨#[aN (b.cells bm aH az),.func (.func g) #[] #[],pv W.heap.size 0,ar,ae none 0 0,aA false,ag af 0,pv B7 0,ag af 0,ar,t10,t11,t12,t13,t14,ar,ar,ar,ar,ar,ar,ar,ar,ar,ar,ar,ar,ar,ar,ar,ar],[]⟩/\Pk1 W b bm aH az (aT b ml ss ms) B7 v w) (fun I d=>?_) ?_
 .have o1':Old W (dn W1 I d):=jP I d o1;obtain⟨c0,c1,c2,c3,c4,c5,c6,c7,c8,c9,c10,c11,c12,c13,c14⟩:=bU (w:=dn W1 I d) x1;have HO:=ai (tW b bm aH az ml ss ms (dn W1 I d) (hL.old o1') (hB.old o1') hne (fun W' _=>rz b bm aH az W'));have HO1:=ai o1';obtain⟨pm,cm,rfl,_⟩:=aR hB.rm;obtain⟨pn,cn,rfl,_⟩:=aR hB.rs;obtain⟨pk,ck,rfl,_⟩:=aR hB.rk;clear hL hB p1 p2 p3 hne yg hlt LJ o1 o1' x1;generalize aT b ml ss ms=all at *;generalize ml.length=lm at *;generalize ss.length=ln at *;generalize ms.length=lk at *;generalize hW1:dn W1 I d=W2 at *
  go_wp2_with (first
   |(go_at_call 103;refine HO.out.mono ?_;clear HO;rintro e w3 ⟨v,rfl,iH,hb3⟩
     obtain⟨gv,oV,rfl⟩:∃gv oV,v=ae (some ⟨gv,0,none⟩) all.length oV:=by
      rcases iH.1.2 with⟨_,h0⟩|⟨g,cap,cur,rfl,_⟩
      .omega
      exact⟨g,cap,rfl⟩
     have ML:=ai iH;have o8:=ai hb3;clear iH hb3))
  have o3:Old W w3:=HO1.out.trans (Old.of_below o8.out);exact⟨_,o3.trans (qc _ _),ax w3 _,(ML.out.base HO1.out.size).old (qc _ _)⟩
 rintro a W2 ⟨B7,v,t10,t11,t12,t13,t14,rfl,⟨o2,x2,iH⟩⟩;refine nZ quiet aP (fun a w=>a=⟨#[aN (b.cells bm aH az),.func (.func g) #[] #[],pv W.heap.size 0,ar,ae none 0 0,aA false,ag af 0,pv B7 0,ag af 0,ar,t10,t11,t12,t13,t14,ag af 0,aA false,ar,ar,ar,ar,ar,ar,ar,ar,ar,ar,ar,ar,ar,ar],[]⟩/\Pk1 W b bm aH az (aT b ml ss ms) B7 v w) (fun I d=>?_) ?_
 .go_wp2;exact⟨jP _ _ o2,x2,iH⟩
 rintro a W3 ⟨rfl,⟨o3,x3,agN⟩⟩;clear o2 x2 iH;refine gV quiet (tM quiet ?_);refine fY (i:=0) (rest:=[1,2]) quiet rfl rfl fun I d=>?_;refine wp_load_row 122 (aI 7) rfl B7 rfl 122 _ (0,0) _ (w:=dn W3 I d) x3 fS rfl kQ ?_;have PQ:=hB.old (jP I d o3);have ady:ie (dn W3 I d) W.heap.size v (aT b ml ss ms):=agN;have hW1:1<=W.heap.size:=hL.lt;obtain⟨Y,hG⟩:=XM (all:=v) (l:=aT b ml ss ms) PQ (ot hB.ok hB.eT) (p1.old (jP I d o3)) (p2.old (jP I d o3)) (p3.old (jP I d o3)) (QN ady hW1) (ady.reads (by have:=ic ss ms hB.ok hB.eT;omega)) (Nat.le_trans hW1 o3.size);refine rq (i:=1) (rest:=[2]) quiet rfl rfl (f:=159) (args:=#[aN (b.open bm aH az v)]) (fun w=>by kernel_rfl) (aaW hG) ?_;rintro out W4 _ ⟨kH,hr,hperm,ho4⟩;have o4:Old W W4:=(jP I d o3).trans ho4;refine fY (i:=2) (rest:=[]) quiet rfl rfl fun τ1 d1=>?_;show eC aq _ _ [] _ _
 have agQ:kH≠[]:=by
  rintro rfl;exact yg hperm.symm.eq_nil
 obtain⟨x,r,rfl⟩:∃x r,kH=x::r:=by
  cases kH with
  |nil=>exact(agQ rfl).elim
  |cons x r=>exact⟨x,r,rfl⟩
 have hx:=hlt x (hperm.subset sM);have hr2:∀y∈r,y<512:=fun y hy=>hlt y (hperm.subset (by simp[hy]));refine rp (l:=[]) quiet (fun e a w h=>by cases e<;>first|rfl|exact(h:False).elim) fun τ2 d2=>?_;refine gX quiet aP fun τ3 d3=>xT ?_;have hend:=Tx g lt LJ x r hx hr2 out (dn (dn (dn W4 τ1 d1) τ2 d2) τ3 d3) hr _ hperm W ⟨o4.os,o4.output,o4.size,o4.block⟩ (aN (b.cells bm aH az)) (pv W.heap.size 0) (pv B7 0) (ag af 0) t10 t11 t12 t13 t14 (ag af 0) (aA false) ar (aN (b.open bm aH az v)) out;exact hend
end
def JV(p:Option Addr)(n cap:Nat)(w:ak):a_ aq 104 #[ae p n cap] w fun e w'=>e=aU (.func (.func 164) #[] #[pv w.heap.size 0])/\w'=w.alloc (au #[ae p n cap] 25):=by
 go_enter Tryz.func104,Tryz.ntmps104
 go_wp2
 go_ret
 exact⟨rfl,rfl⟩
def Dr(b:BB)(hb:b.Ok)(bm aH az:aj)(pl:List Int)(hp:jD b pl)(cp:Nat)(lv:aj)(w:ak)(wE:w.heap[cp]?=some (au #[lv] 25 (0,0)))(hl:Reads w lv pl.length (pl.map (aD af))) :
  a_ aq 164 #[aN (b.cells bm aH az),pv cp 0] w (Rt w (ag af 0)):=by
 have b1:Bw w (w.alloc (au (b.cells bm aH az) 119)):=cY;have lp:=(ah.1 wE).1;have x1:=aK ((b1.block _ lp).trans wE) 0 _ rfl;have Zl:=ai (tT b hb bm aH az lv pl hp _ (hl.below b1));have vV:=ai b1;clear wE hl hp b1
 go_enter Tryz.func164,Tryz.ntmps164
 go_wp2_with (go_at_call 113;refine Zl.out.mono ?_;clear Zl;rintro e w1 ⟨rfl,hb1⟩;have nN:=ai hb1;clear hb1)
 go_ret
 exact⟨rfl,vV.out.trans (nN.out.mono vV.out.size)⟩
def BB.dep(b:BB)(d:Int):BB:={ b with depth:=d }
def BB.abk{b:BB}(h:b.Ok){d:Int}(h1:0<=d)(h2:d<=99):(b.dep d).Ok:=⟨h.room,⟨h1,h2⟩,h.least,h.minutes,h.cM,h.jX,h.eN,h.jK,h.leak,h.Nt⟩
def oT(b:BB)(all:List dS)(p:Nat):Nat->Option Nat
 |0=>none
 |n+1=>if (b.dep n).sure all p then some n else oT b all p n
def Y8(o:Option Nat):aj × Bool:=match o with|some n=>(ag af n,true)|none=>(ag af 0,false)
def OX(b:BB)(bm aH az:aj)(ml:List Mn)(ss:List Int)(ms:List Mk)(w:ak)(hL:Laid w)(hB:bW b bm aH az ml ss ms w)(hne:aT b ml ss ms≠[])(pl:List Int)(hp:jD b pl)(lv:aj)(hl:Reads w lv pl.length (pl.map (aD af))) :
  a_ aq 25 #[aN (b.cells bm aH az),lv] w (Rt w (bB #[(Y8 (oT b (aT b ml ss ms) (bM pl) 100)).1,aA (Y8 (oT b (aT b ml ss ms) (bM pl) 100)).2,ag af 0])):=by
 have hlen:=ic ss ms hB.ok hB.eT;have jS:0<(aT b ml ss ms).length:=cB.2 hne;have cV:=hB.ok;have hao:=ot (ss:=ss) (ms:=ms) hB.ok hB.eT;have AX:=cV.minutes;have pw:∀s∈pl,1<=s/\s<=8:=fun s h=>by have:=hp.mem s h;omega
 have Rk:bM pl<512:=nA pl pw;obtain⟨pm,cm,rfl,_⟩:=aR hB.rm;obtain⟨pn,cn,rfl,_⟩:=aR hB.rs;obtain⟨pk,ck,rfl,_⟩:=aR hB.rk;obtain⟨qw,qH,rfl,_⟩:=aR hl;have b1:Bw w (w.alloc (au (b.sl pm ml.length cm pn ss.length cn pk ms.length ck) 28)):=cY;have hk:=ax w (au (b.sl pm ml.length cm pn ss.length cn pk ms.length ck) 28)
 have VC:Hid (∀W cp,Bw w W->W.heap[cp]?=some (au #[ae qw pl.length qH] 25 (0,0))->a_ aq 103 #[aN (b.sl pm ml.length cm pn ss.length cn pk ms.length ck),.func (.func 164) #[] #[pv cp 0]] W fun e w'=>∃v,e=aU (bB #[aN (b.open (ae pm ml.length cm) (ae pn ss.length cn) (ae pk ms.length ck) v),ag af 0])/\ie w' W.heap.size v (aT b ml ss ms)/\Bw W w'):=
  ai fun W cp Kf Uv=>Df b _ _ _ ml ss ms W (hL.below Kf) (hB.below Kf) hne cp fun W' hb'=>by
   have hlt:=(ah.1 Uv).1;exact Dr b cV _ _ _ pl hp cp _ W' ((hb'.block _ hlt).trans Uv) ((hl.below Kf).below hb')
 have Kg:=ai hl;have Sy:=ai hao;have Yl:=ai pw;clear hL hB hl hao hp pw;generalize aT b ml ss ms=all at *;generalize ml.length=lm at *;generalize ss.length=ln at *;generalize ms.length=lk at *
 go_enter Tryz.func25,Tryz.ntmps25
 go_wp2
 refine cj kQ [
 pV (aN (b.sl pm lm cm pn ln cn pk lk ck)),
  pV (ae qw pl.length qH),
  fun v ds w9=>∃cp,v=.func (.func 164) #[] #[pv cp 0]/\w9.heap[cp]?=some (au #[ae qw pl.length qH] 25 (0,0)),
  fun v ds w9=>∃gv cv,v=bB #[aN (b.open (ae pm lm cm) (ae pn ln cn) (ae pk lk ck) (ae (some ⟨gv,0,none⟩) all.length cv)),ag af 0]/\ie w9 w.heap.size (ae (some ⟨gv,0,none⟩) all.length cv) all,
  fun v ds w9=>∃gv cv,v=bB #[aN (b.open (ae pm lm cm) (ae pn ln cn) (ae pk lk ck) (ae (some ⟨gv,0,none⟩) all.length cv)),ag af 0]/\ie w9 w.heap.size (ae (some ⟨gv,0,none⟩) all.length cv) all,
  fun v ds w9=>∃gv cv,v=aN (b.open (ae pm lm cm) (ae pn ln cn) (ae pk lk ck) (ae (some ⟨gv,0,none⟩) all.length cv))/\ie w9 w.heap.size (ae (some ⟨gv,0,none⟩) all.length cv) all,
  pV (ag af 0),
  fun v ds w9=>∃k,∃z:Array aj,v=pv k 0/\w.heap.size+1<=k/\w9.heap[k]?=some (au z 122 (0,0))/\z.size=16,
  fun v ds w9=>∃k gv cv,ds[0]?=some (pv k 0)/\w.heap.size+1<=k/\w9.heap[k]?=some (au (b.open (ae pm lm cm) (ae pn ln cn) (ae pk lk ck) (ae (some ⟨gv,0,none⟩) all.length cv)) 122 (0,0))/\ie w9 w.heap.size (ae (some ⟨gv,0,none⟩) all.length cv) all,
  pV (ag af 0)]
  (fun w9=>w9.heap[w.heap.size]?=some (au (b.sl pm lm cm pn ln cn pk lk ck) 28 (0,0))/\Bw w w9) [(2,pv w.heap.size 0),(1,ae qw pl.length qH)] kQ ?rst (fun w1 w2 h hb=>⟨(hb.block _ (ah.1 h.1).1).trans h.1,h.2.trans (hb.mono h.2.size)⟩) (⟨hk,b1.drew⟩) ⟨rfl,rfl,trivial⟩ ?reach ?rfin
 case rst=>
  refine⟨sV,sV,?_,?_,?_,?_,sV,?_,?_,sV,trivial⟩
  .rintro v ds w1 w2 hS ⟨cp,h1,h2⟩ hb;exact⟨cp,h1,(hb.block _ (ah.1 h2).1).trans h2⟩
  .rintro v ds w1 w2 hS ⟨gv,cv,h1,h2⟩ hb;exact⟨gv,cv,h1,h2.at_ fun g hg=>hb.block g (h2.1.lt g hg).2⟩
  .rintro v ds w1 w2 hS ⟨gv,cv,h1,h2⟩ hb;exact⟨gv,cv,h1,h2.at_ fun g hg=>hb.block g (h2.1.lt g hg).2⟩
  .rintro v ds w1 w2 hS ⟨gv,cv,h1,h2⟩ hb;exact⟨gv,cv,h1,h2.at_ fun g hg=>hb.block g (h2.1.lt g hg).2⟩
  .rintro v ds w1 w2 hS ⟨k,z,h1,h2,h3,h4⟩ hb;exact⟨k,z,h1,h2,(hb.block _ (ah.1 h3).1).trans h3,h4⟩
  rintro v ds w1 w2 hS ⟨k,gv,cv,h1,h0,h3,h2⟩ hb;exact⟨k,gv,cv,h1,h0,(hb.block _ (ah.1 h3).1).trans h3,h2.at_ fun g hg=>hb.block g (h2.1.lt g hg).2⟩
 case reach=>
  refine⟨?_,?_,?_,?_,?_,?_,?_,?_,?_,?_,trivial⟩<;>rintro ev w1 hS hc hg hf ⟨b2,b1,-⟩ hd
  .have x0:=bU hS.1;exact tV
  .exact tV
  .have d1:ev (aI 10)=_:=hd.1 rfl;refine jI (f:=104) (args:=#[ae qw pl.length qH]) ?_ (JV _ _ _ _) ?_
   .go_simp
   rintro e w2 ⟨rfl,rfl⟩;exact⟨_,rfl,⟨_,rfl,ax _ _⟩,cz cY⟩
  .have d0:ev (aI 9)=_:=hd.1 rfl;obtain⟨cp,F4,wE⟩:=hd.2.1 rfl;replace F4:ev (aI 11)=_:=F4;refine jI (f:=103) (args:=#[aN (b.sl pm lm cm pn ln cn pk lk ck),.func (.func 164) #[] #[pv cp 0]]) ?_ (VC.out w1 cp hS.2 wE) ?_
   .go_simp
   rintro e w2 ⟨v,rfl,iH,hb⟩
   obtain⟨gv,cv,rfl⟩:∃gv cv,v=ae (some ⟨gv,0,none⟩) all.length cv:=by
    rcases iH.1.2 with⟨_,h0⟩|⟨g,cap,cur,rfl,_⟩
    .omega
    exact⟨g,cap,rfl⟩
   exact⟨_,rfl,⟨gv,cv,rfl,iH.base hS.2.size⟩,cz hb⟩
  .exact yv rfl (hd.1 rfl)
  .obtain⟨gv,cv,e11,iH⟩:=hd.1 rfl;replace e11:ev (aI 8)=_:=e11;refine yv ?_ (⟨gv,cv,rfl,iH⟩);go_simp
  .obtain⟨gv,cv,e11,iH⟩:=hd.1 rfl;replace e11:ev (aI 8)=_:=e11;exact tV
  .refine Lag.Yields.value (v:=pv w1.heap.size 0) (w':=w1.alloc (au eO 122)) ?_ ⟨⟨_,_,rfl,(ah.1 hS.1).1,ax _ _,rfl⟩,cz cY⟩;go_simp
  .obtain⟨k,z,e6,pP,hk2,hz⟩:=hd.1 rfl;replace e6:ev (aI 7)=_:=e6;obtain⟨gv,cv,Oi,iH⟩:=hd.2.1 rfl;replace Oi:ev (aI 13)=_:=Oi;have Di:∀g cs t,w1.heap[g]?=some (au cs t (0,0))->t≠122->g≠k:=by rintro g cs t h1 h2 rfl;rw[hk2] at h1;cases h1;exact h2 rfl
   have EJ:∀(v:aj),ie w1 w.heap.size v all->ie (w1.setRow k (b.open (ae pm lm cm) (ae pn ln cn) (ae pk lk ck) (ae (some ⟨gv,0,none⟩) all.length cv))) w.heap.size v all:=fun v ho=>ho.at_ fun g hg=>setRow_other (by
    obtain⟨cur,q1,_⟩:=ho.2 g hg
    exact Di g _ _ q1 dC)
   refine Lag.Yields.ia 122 _ _ rfl k _ e6 Oi 122 z hk2 kQ hz (by simp[bK]) ⟨⟨k,gv,cv,congrArg some e6,pP,bX hk2,EJ _ iH⟩,.inr ⟨⟨(setRow_other oM).trans hS.1,cS hS.2 oM⟩,?_⟩⟩;intro j u ds hj hp
   match j,hp with
   |0,hp|1,hp=>exact hp
   |2,⟨cp,h1,h2⟩=>exact⟨cp,h1,(setRow_other (Di _ _ _ h2 dC)).trans h2⟩
   |3,⟨EX,Fc,h1,h2⟩=>exact⟨EX,Fc,h1,EJ _ h2⟩
   |4,⟨EX,Fc,h1,h2⟩=>exact⟨EX,Fc,h1,EJ _ h2⟩
   |5,⟨EX,Fc,h1,h2⟩=>exact⟨EX,Fc,h1,EJ _ h2⟩
   |6,hp=>exact hp
   |7,⟨k',z',h1,h2,h3,h4⟩=>
    by_cases rE:k'=k
    .subst rE;exact⟨k',_,h1,h2,bX h3,rfl⟩
    exact⟨k',z',h1,h2,(setRow_other rE).trans h3,h4⟩
   |8,_=>exact(hj rfl).elim
   |9,hp=>exact hp
   |j+10,_=>trivial
  have d6:ev (aI 14)=_:=hd.1 rfl;refine yv (v:=ev (aI 14)) ?_ (d6);rfl
 case rfin=>
  intro a2 w2 hR;have hS:=hR.s;obtain⟨k,gv,cv,U7,pP,hk2,iH⟩:=hR.val 8;have e9:a2.tmps.getD 6 ar=_:=hR.val 9;have ha:=hR.lits 42 rfl;simp only[aQ,cg,nQ] at ha;rw[hR.kp 1,hR.kp 2,hR.kp 4,hR.kp 5] at ha;simp only[kO,gb,f_] at ha;clear hR;have e6:a2.tmps.getD 7 ar=pv k 0:=a7 U7;rw[e6,e9] at ha;generalize a2.tmps.getD=zz at ha;clear e6 U7 e9;subst ha;have s5:=hS.1;have r7:=hS.2;clear hS;have y1:=aK hk2 1 _ rfl;have f1:=cQ hk2 1
  have YO:gv≠k:=by
   obtain⟨cur,q1,_⟩:=iH.2 gv rfl;rintro rfl;rw[hk2] at q1;cases q1
  have GQ:=ai hk2;have ML:=ai iH;have FQ:=ai r7;clear hk2 iH r7 s5 hk b1 VC;go_wp2
  go_loopw [24] (fun _ wr=>∃n:Nat,n<=100/\wr.heap[k]?=some (au ((b.dep ((n:Int)-1)).open (ae pm lm cm) (ae pn ln cn) (ae pk lk ck) (ae (some ⟨gv,0,none⟩) all.length cv)) 122 (0,0))/\ie wr w.heap.size (ae (some ⟨gv,0,none⟩) all.length cv) all/\Bw w wr/\oT b all (bM pl) 100=oT b all (bM pl) n) (fun _ wr=>(intOf ((wr.cell? ⟨k,1,none⟩).getD ar)+1).toNat)
  case atStart=>
   refine⟨100,oM,cX _ GQ.out,ML.out.at_ fun g hg=>bp _ _ _ _ ?_,FQ.out.setCell (p:=⟨k,1,none⟩) (by show _<=k;omega) _,rfl⟩;have:g=gv:=by simpa [ji] using hg.symm
   subst this;exact YO
  case round=>
   obtain⟨n,hn,Xx,iH,r7,LD⟩:=hrel;have z1:=aK Xx 1 _ rfl;have f1:=cQ Xx 1;have wD:=(ah.1 Xx).1
   by_cases h0:0<n
   .obtain⟨m,rfl⟩:∃m,n=m+1:=⟨n-1,oM⟩
    have hd:(b.dep (((m+1:Nat):Int)-1))=b.dep m:=by congr 1;omega
    have hz:(((m+1:Nat):Int)-1)=m:=oM;rw[hz] at Xx z1;have z2:wr.cell? ⟨k,1,none⟩=some (ag af m):=z1;clear z1 hz hd;have hSu:=fun W (hb:Bw wr W)=>xL (b.dep m) (BB.abk cV oM oM) (ae pm lm cm) (ae pn ln cn) (ae pk lk ck) (ae (some ⟨gv,0,none⟩) all.length cv) all Sy.out (bM pl) Rk W ((iH.reads oM).below hb);have HSu:=ai hSu
    have GN:Hid (∀w9,Bw wr w9->w9.heap[k]?=some (au ((b.dep m).open (ae pm lm cm) (ae pn ln cn) (ae pk lk ck) (ae (some ⟨gv,0,none⟩) all.length cv)) 122 (0,0))/\Reads w9 (ae qw pl.length qH) pl.length (pl.map (aD af))):=ai fun w9 N8=>
     ⟨(N8.block _ wD).trans Xx,Kg.out.below (r7.trans (N8.mono r7.size))⟩
    have hdp:oT b all (bM pl) (m+1)=if (b.dep m).sure all (bM pl) then some m else oT b all (bM pl) m:=rfl
    rw[hdp] at LD;have HDe:=ai LD;have HOr:=ai iH;have HKr:=ai Xx;have HBr:=ai r7;clear hSu LD hdp iH Xx r7;obtain⟨r,hr⟩:∃r,(b.dep m).sure all (bM pl)=r:=⟨_,rfl⟩
    rw[hr] at HSu HDe;clear hr;go_wp2
    refine cj kQ [
    pV (aN ((b.dep m).open (ae pm lm cm) (ae pn ln cn) (ae pk lk ck) (ae (some ⟨gv,0,none⟩) all.length cv))),
     pV (ae qw pl.length qH),
     pV (ag af (bM pl)),
     pV (aA r)]
     (fun w9=>Bw wr w9) [(1,ae qw pl.length qH),(7,pv k 0)] kQ ?rst (fun w1 w2 h hb=>h.trans (hb.mono h.size)) ((ay _ _).drew) ⟨rfl,rfl,trivial⟩ ?reach ?rfin
    case rst=>
     refine⟨sV,sV,sV,sV,trivial⟩
    case reach=>
     refine⟨?_,?_,?_,?_,trivial⟩<;>rintro ev w1 hS hc hg hf ⟨b1,b7,-⟩ hd
     .have q:=GN.out w1 hS;refine Lag.Yields.zw 122 _ rfl k b7 122 _ (0,0) _ q.1 fS rfl kQ ⟨rfl,cz (ay _ _)⟩
     .exact tV
     .have d1:ev (aI 35)=_:=hd.1 rfl;have q:=GN.out w1 hS;refine yq (args:=#[ae qw pl.length qH]) (lL pl Yl.out _ _ q.2) ?_ fun _=>rfl;go_simp
     have d0:ev (aI 34)=_:=hd.1 rfl;have d2:ev (aI 36)=_:=hd.2.1 rfl;refine yc (HSu.out w1 hS) ?_ fun _=>rfl;go_simp
    case rfin=>
     intro a3 w3 hR;have hS:=hR.s;have e3:a3.tmps.getD 37 ar=_:=hR.val 3;have ha:=hR.lits 42 rfl;simp only[aQ,cg,nQ] at ha;rw[hR.kp 0,hR.kp 1,hR.kp 2,hR.kp 3,hR.kp 7,hR.kp 8,hR.kp 9,hR.kp 10,hR.kp 11,hR.kp 12,hR.kp 13,hR.kp 14,hR.kp 15,hR.kp 16,hR.kp 17,hR.kp 18,hR.kp 19,hR.kp 20] at ha;simp only[kO,gb,f_] at ha;clear hR;rw[e3] at ha;generalize a3.tmps.getD=zz at ha;have o8:=ai hS;clear e3 hS;subst ha;have q1:=(o8.out.block _ wD).trans HKr.out;have x1:w3.cell? ⟨k,1,none⟩=some (ag af m):=aK q1 1 _ rfl;have x2:=cQ q1 1;have HQ:=ai q1;clear q1;cases r
     .have zz:IntKind.i64.wrap ((m:Int)-1)=(m:Int)-1:=by rw[IntKind.wrap_i64];omega
      go_wp2;have q2:=cX (i:=1) (ag af ((m:Int)-1)) HQ.out;have x3:=aK q2 1 (ag af ((m:Int)-1)) rfl;refine⟨⟨m,oM,q2,(HOr.out.old (Old.of_below o8.out)).at_ fun g hg=>bp _ _ _ _ ?_,(HBr.out.trans (o8.out.mono HBr.out.size)).setCell (p:=⟨k,1,none⟩) (by show _<=k;omega) _,by rw[HDe.out];simp⟩,?_⟩
      .have:g=gv:=by simpa [ji] using hg.symm
       subst this;exact YO
      rw[x3,z2];simp[intOf]
     go_wp2
     go_ret3
     exact⟨by rw[HDe.out];rfl,HBr.out.trans (o8.out.mono HBr.out.size)⟩
   obtain rfl:n=0:=oM;have hz:(((0:Nat):Int)-1) = -1:=oM;rw[hz] at Xx z1;have z2:wr.cell? ⟨k,1,none⟩=some (ag af (-1)):=z1;have HDe:=ai LD;have HBr:=ai r7;clear Xx z1 LD r7 iH hz;go_wp2
   go_ret3
   exact⟨by rw[HDe.out];rfl,HBr.out⟩
def pN(n L:Nat):Int:=if n=0 then 2 else if n=L then 1 else 0
def LN(b:BB)(all:List dS)(p:Nat):Nat:=all.countP fun a=>decide (b.bad (b.cM+a.used) p=0)
def Md{α:Type}(f:α->Bool)(l:List α){k:Nat}(h:k<l.length):(l.take (k+1)).countP f=(l.take k).countP f+(if f l[k] then 1 else 0):=by
 rw[bV h,List.countP_append,List.countP_singleton]
def Qh(b:BB)(bm aH az:aj)(ml:List Mn)(ss:List Int)(ms:List Mk)(w:ak)(hL:Laid w)(hB:bW b bm aH az ml ss ms w)(hne:aT b ml ss ms≠[])(pl:List Int)(hp:jD b pl)(lv:aj)(hl:Reads w lv pl.length (pl.map (aD af))) :
  a_ aq 44 #[aN (b.cells bm aH az),lv] w (Rt w (bB #[ag af (pN (LN b (aT b ml ss ms) (bM pl)) (aT b ml ss ms).length),ag af 0])):=by
 have hlen:=ic ss ms hB.ok hB.eT;have jS:0<(aT b ml ss ms).length:=cB.2 hne;have cV:=hB.ok;have hao:=ot (ss:=ss) (ms:=ms) hB.ok hB.eT;have AX:=cV.minutes;have pw:∀s∈pl,1<=s/\s<=8:=fun s h=>by have:=hp.mem s h;omega
 have Rk:bM pl<512:=nA pl pw;obtain⟨pm,cm,rfl,_⟩:=aR hB.rm;obtain⟨pn,cn,rfl,_⟩:=aR hB.rs;obtain⟨pk,ck,rfl,_⟩:=aR hB.rk;obtain⟨qw,qH,rfl,_⟩:=aR hl;have b1:Bw w (w.alloc (au (b.sl pm ml.length cm pn ss.length cn pk ms.length ck) 28)):=cY;have hk:=ax w (au (b.sl pm ml.length cm pn ss.length cn pk ms.length ck) 28)
 have VC:Hid (∀W cp,Bw w W->W.heap[cp]?=some (au #[ae qw pl.length qH] 25 (0,0))->a_ aq 103 #[aN (b.sl pm ml.length cm pn ss.length cn pk ms.length ck),.func (.func 164) #[] #[pv cp 0]] W fun e w'=>∃v,e=aU (bB #[aN (b.open (ae pm ml.length cm) (ae pn ss.length cn) (ae pk ms.length ck) v),ag af 0])/\ie w' W.heap.size v (aT b ml ss ms)/\Bw W w'):=
  ai fun W cp Kf Uv=>Df b _ _ _ ml ss ms W (hL.below Kf) (hB.below Kf) hne cp fun W' hb'=>by
   have hlt:=(ah.1 Uv).1;exact Dr b cV _ _ _ pl hp cp _ W' ((hb'.block _ hlt).trans Uv) ((hl.below Kf).below hb')
 have Kg:=ai hl;have Sy:=ai hao;have Yl:=ai pw;clear hL hB hl hao hp pw;generalize aT b ml ss ms=all at *;generalize ml.length=lm at *;generalize ss.length=ln at *;generalize ms.length=lk at *
 go_enter Tryz.func44,Tryz.ntmps44
 go_wp2
 refine cj kQ [
 pV (aN (b.sl pm lm cm pn ln cn pk lk ck)),
  pV (ae qw pl.length qH),
  fun v ds w9=>∃cp,v=.func (.func 164) #[] #[pv cp 0]/\w9.heap[cp]?=some (au #[ae qw pl.length qH] 25 (0,0)),
  fun v ds w9=>∃gv cv,v=bB #[aN (b.open (ae pm lm cm) (ae pn ln cn) (ae pk lk ck) (ae (some ⟨gv,0,none⟩) all.length cv)),ag af 0]/\ie w9 w.heap.size (ae (some ⟨gv,0,none⟩) all.length cv) all,
  fun v ds w9=>∃gv cv,v=bB #[aN (b.open (ae pm lm cm) (ae pn ln cn) (ae pk lk ck) (ae (some ⟨gv,0,none⟩) all.length cv)),ag af 0]/\ie w9 w.heap.size (ae (some ⟨gv,0,none⟩) all.length cv) all,
  fun v ds w9=>∃gv cv,v=aN (b.open (ae pm lm cm) (ae pn ln cn) (ae pk lk ck) (ae (some ⟨gv,0,none⟩) all.length cv))/\ie w9 w.heap.size (ae (some ⟨gv,0,none⟩) all.length cv) all,
  pV (ag af 0),
  fun v ds w9=>∃k,∃z:Array aj,v=pv k 0/\w.heap.size+1<=k/\w9.heap[k]?=some (au z 122 (0,0))/\z.size=16,
  fun v ds w9=>∃k gv cv,ds[0]?=some (pv k 0)/\w.heap.size+1<=k/\w9.heap[k]?=some (au (b.open (ae pm lm cm) (ae pn ln cn) (ae pk lk ck) (ae (some ⟨gv,0,none⟩) all.length cv)) 122 (0,0))/\ie w9 w.heap.size (ae (some ⟨gv,0,none⟩) all.length cv) all,
  pV (ag af 0)]
  (fun w9=>w9.heap[w.heap.size]?=some (au (b.sl pm lm cm pn ln cn pk lk ck) 28 (0,0))/\Bw w w9) [(2,pv w.heap.size 0),(1,ae qw pl.length qH)] kQ ?rst (fun w1 w2 h hb=>⟨(hb.block _ (ah.1 h.1).1).trans h.1,h.2.trans (hb.mono h.2.size)⟩) (⟨hk,b1.drew⟩) ⟨rfl,rfl,trivial⟩ ?reach ?rfin
 case rst=>
  refine⟨sV,sV,?_,?_,?_,?_,sV,?_,?_,sV,trivial⟩
  .rintro v ds w1 w2 hS ⟨cp,h1,h2⟩ hb;exact⟨cp,h1,(hb.block _ (ah.1 h2).1).trans h2⟩
  .rintro v ds w1 w2 hS ⟨gv,cv,h1,h2⟩ hb;exact⟨gv,cv,h1,h2.at_ fun g hg=>hb.block g (h2.1.lt g hg).2⟩
  .rintro v ds w1 w2 hS ⟨gv,cv,h1,h2⟩ hb;exact⟨gv,cv,h1,h2.at_ fun g hg=>hb.block g (h2.1.lt g hg).2⟩
  .rintro v ds w1 w2 hS ⟨gv,cv,h1,h2⟩ hb;exact⟨gv,cv,h1,h2.at_ fun g hg=>hb.block g (h2.1.lt g hg).2⟩
  .rintro v ds w1 w2 hS ⟨k,z,h1,h2,h3,h4⟩ hb;exact⟨k,z,h1,h2,(hb.block _ (ah.1 h3).1).trans h3,h4⟩
  rintro v ds w1 w2 hS ⟨k,gv,cv,h1,h0,h3,h2⟩ hb;exact⟨k,gv,cv,h1,h0,(hb.block _ (ah.1 h3).1).trans h3,h2.at_ fun g hg=>hb.block g (h2.1.lt g hg).2⟩
 case reach=>
  refine⟨?_,?_,?_,?_,?_,?_,?_,?_,?_,?_,trivial⟩<;>rintro ev w1 hS hc hg hf ⟨b2,b1,-⟩ hd
  .have x0:=bU hS.1;exact tV
  .exact tV
  .have d1:ev (aI 13)=_:=hd.1 rfl;refine jI (f:=104) (args:=#[ae qw pl.length qH]) ?_ (JV _ _ _ _) ?_
   .go_simp
   rintro e w2 ⟨rfl,rfl⟩;exact⟨_,rfl,⟨_,rfl,ax _ _⟩,cz cY⟩
  .have d0:ev (aI 12)=_:=hd.1 rfl;obtain⟨cp,F4,wE⟩:=hd.2.1 rfl;replace F4:ev (aI 14)=_:=F4;refine jI (f:=103) (args:=#[aN (b.sl pm lm cm pn ln cn pk lk ck),.func (.func 164) #[] #[pv cp 0]]) ?_ (VC.out w1 cp hS.2 wE) ?_
   .go_simp
   rintro e w2 ⟨v,rfl,iH,hb⟩
   obtain⟨gv,cv,rfl⟩:∃gv cv,v=ae (some ⟨gv,0,none⟩) all.length cv:=by
    rcases iH.1.2 with⟨_,h0⟩|⟨g,cap,cur,rfl,_⟩
    .omega
    exact⟨g,cap,rfl⟩
   exact⟨_,rfl,⟨gv,cv,rfl,iH.base hS.2.size⟩,cz hb⟩
  .exact yv rfl (hd.1 rfl)
  .obtain⟨gv,cv,e11,iH⟩:=hd.1 rfl;replace e11:ev (aI 11)=_:=e11;refine yv ?_ (⟨gv,cv,rfl,iH⟩);go_simp
  .obtain⟨gv,cv,e11,iH⟩:=hd.1 rfl;replace e11:ev (aI 11)=_:=e11;exact tV
  .refine Lag.Yields.value (v:=pv w1.heap.size 0) (w':=w1.alloc (au eO 122)) ?_ ⟨⟨_,_,rfl,(ah.1 hS.1).1,ax _ _,rfl⟩,cz cY⟩;go_simp
  .obtain⟨k,z,e6,pP,hk2,hz⟩:=hd.1 rfl;replace e6:ev (aI 6)=_:=e6;obtain⟨gv,cv,Oi,iH⟩:=hd.2.1 rfl;replace Oi:ev (aI 16)=_:=Oi;have Di:∀g cs t,w1.heap[g]?=some (au cs t (0,0))->t≠122->g≠k:=by rintro g cs t h1 h2 rfl;rw[hk2] at h1;cases h1;exact h2 rfl
   have EJ:∀(v:aj),ie w1 w.heap.size v all->ie (w1.setRow k (b.open (ae pm lm cm) (ae pn ln cn) (ae pk lk ck) (ae (some ⟨gv,0,none⟩) all.length cv))) w.heap.size v all:=fun v ho=>ho.at_ fun g hg=>setRow_other (by
    obtain⟨cur,q1,_⟩:=ho.2 g hg
    exact Di g _ _ q1 dC)
   refine Lag.Yields.ia 122 _ _ rfl k _ e6 Oi 122 z hk2 kQ hz (by simp[bK]) ⟨⟨k,gv,cv,congrArg some e6,pP,bX hk2,EJ _ iH⟩,.inr ⟨⟨(setRow_other oM).trans hS.1,cS hS.2 oM⟩,?_⟩⟩;intro j u ds hj hp
   match j,hp with
   |0,hp|1,hp=>exact hp
   |2,⟨cp,h1,h2⟩=>exact⟨cp,h1,(setRow_other (Di _ _ _ h2 dC)).trans h2⟩
   |3,⟨EX,Fc,h1,h2⟩=>exact⟨EX,Fc,h1,EJ _ h2⟩
   |4,⟨EX,Fc,h1,h2⟩=>exact⟨EX,Fc,h1,EJ _ h2⟩
   |5,⟨EX,Fc,h1,h2⟩=>exact⟨EX,Fc,h1,EJ _ h2⟩
   |6,hp=>exact hp
   |7,⟨k',z',h1,h2,h3,h4⟩=>
    by_cases rE:k'=k
    .subst rE;exact⟨k',_,h1,h2,bX h3,rfl⟩
    exact⟨k',z',h1,h2,(setRow_other rE).trans h3,h4⟩
   |8,_=>exact(hj rfl).elim
   |9,hp=>exact hp
   |j+10,_=>trivial
  have d6:ev (aI 17)=_:=hd.1 rfl;refine yv (v:=ev (aI 17)) ?_ (d6);rfl
 case rfin=>
  intro a2 w2 hR;have hS:=hR.s;obtain⟨k,gv,cv,U7,pP,hk2,iH⟩:=hR.val 8;have e9:a2.tmps.getD 7 ar=_:=hR.val 9;have ha:=hR.lits 46 rfl;simp only[aQ,cg,nQ] at ha;rw[hR.kp 1,hR.kp 2] at ha;simp only[kO,gb,f_] at ha;clear hR;have e6:a2.tmps.getD 6 ar=pv k 0:=a7 U7;rw[e6,e9] at ha;generalize a2.tmps.getD=zz at ha;clear e6 U7 e9;subst ha;have s5:=hS.1;have r7:=hS.2;clear hS;have Iw:=aK hk2 15 _ rfl;have Cj:=iH.reads oM
  have HC:Hid (∀j u,(rowOf all)[j]?=some u->w2.cell? ⟨gv,0+j,none⟩=some u):=ai (by
   rcases Cj with⟨h0,_⟩|⟨g,off,cap,h0,_,_,h1⟩
   .cases h0
   cases h0;exact h1)
  have Cl:=(iH.1.lt gv rfl).2;have wD:=(ah.1 hk2).1;have HK:=ai hk2;have HB:=ai s5;have FQ:=ai r7;have ML:=ai iH;clear hk2 Cj s5 r7 iH hk b1 VC;generalize hL:all.length=L at *;have HL:=ai hL;clear hL;go_wp2
  go_loopw [8,10,24] (fun n _ i wr=>∃j:Nat,j<=L/\i=ag af j/\n=ag af ((all.take j).countP fun a=>decide (b.bad (b.cM+a.used) (bM pl)=0):Nat)/\Bw w2 wr) (fun _ _ i _=>L-(intOf i).toNat)
  case atStart=>exact⟨0,oM,rfl,rfl,ay _ _⟩
  case round=>
   obtain⟨j,hj,rfl,rfl,eb⟩:=hrel;have hsz:=eb.size
   have hcj:(all.take j).countP (fun a=>decide (b.bad (b.cM+a.used) (bM pl)=0))<=j:=by
    refine Nat.le_trans List.countP_le_length ?_;rw[List.length_take];omega
   by_cases hlt:j<L
   .have Jy:j<all.length:=by rw[HL.out];exact hlt
    obtain⟨c0,c1,c2,c3⟩:=Reads.cell (w:=wr) (cap:=cv) (n:=L) (fun i u hi=>(eb.cell (p:=⟨gv,0+i,none⟩) Cl).trans (HC.out i u hi)) j Jy;simp only[cO] at c0 c1 c2 c3;have VU:(all.take (j+1)).countP (fun a=>decide (b.bad (b.cM+a.used) (bM pl)=0))=(all.take j).countP (fun a=>decide (b.bad (b.cM+a.used) (bM pl)=0))+(if b.bad (b.cM+all[j].used) (bM pl)=0 then 1 else 0):=by rw[Md _ all Jy];simp
    have Uy:=fun W=>JX b cV (ae pm lm cm) (ae pn ln cn) (ae pk lk ck) all[j] (Sy.out _ (bG Jy)) (bM pl) Rk W;have MN:=ai VU;have HBa:=ai Uy;have xF:=ai eb
    have GN:Hid (∀w9,fX (wr.alloc (au all[j].cells 134)).heap.size (wr.alloc (au all[j].cells 134)) w9->w9.heap[k]?=some (au (b.open (ae pm lm cm) (ae pn ln cn) (ae pk lk ck) (ae (some ⟨gv,0,none⟩) L cv)) 122 (0,0))/\w9.heap[wr.heap.size]?=some (au all[j].cells 134 (0,0))/\Reads w9 (ae qw pl.length qH) pl.length (pl.map (aD af))):=ai fun w9 N8=>by
     have hs:(wr.alloc (au all[j].cells 134)).heap.size=wr.heap.size+1:=sM;have hb0:Bw wr (wr.alloc (au all[j].cells 134)):=cY;have o6:=FQ.out.size;exact⟨(N8.block _ oM).trans ((hb0.block _ oM).trans ((eb.block _ wD).trans HK.out)),(N8.block _ oM).trans (ax wr _),Kg.out.below (FQ.out.trans ((eb.mono o6).trans ((hb0.mono oM).trans (N8.mono oM))))⟩
    clear VU Uy eb;generalize all[j]=a at *;generalize zH:b.bad (b.cM+a.used) (bM pl)=bd at *;obtain⟨r,hr⟩:∃r,(bd==0)=r:=⟨_,rfl⟩
    go_wp2
    refine cj kQ [
    pV (pv k 0),
     pV (aN (b.sl pm lm cm pn ln cn pk lk ck)),
     pV (aN a.cells),
     pV (ae qw pl.length qH),
     pV (ag af (bM pl)),
     pV (ag af bd),
     pV (aA r)]
     (fun w9=>fX (wr.alloc (au a.cells 134)).heap.size (wr.alloc (au a.cells 134)) w9) [(1,ae qw pl.length qH),(6,pv k 0),(10,pv wr.heap.size 0)] kQ ?rst (fun w1 w2 h hb=>h.trans (hb.mono h.size)) ((ay _ _).drew) ⟨rfl,rfl,rfl,trivial⟩ ?reach ?rfin
    case rst=>
     refine⟨sV,sV,sV,sV,sV,sV,sV,trivial⟩
    case reach=>
     refine⟨?_,?_,?_,?_,?_,?_,?_,trivial⟩<;>rintro ev w1 hS hc hg hf ⟨b1,b6,Sp,-⟩ hd
     .exact tV
     .have d0:ev (aI 28)=_:=hd.1 rfl;have q:=GN.out w1 hS;have x0:=jy q.1;exact tV
     .have q:=GN.out w1 hS;obtain⟨y0,y1,y2,y3⟩:=qi q.2.1;exact tV
     .exact tV
     .have d3:ev (aI 31)=_:=hd.1 rfl;have q:=GN.out w1 hS;refine yq (args:=#[ae qw pl.length qH]) (lL pl Yl.out _ _ q.2.2) ?_ fun _=>rfl;go_simp
     .have d1:ev (aI 29)=_:=hd.1 rfl;have d2:ev (aI 30)=_:=hd.2.1 rfl;have d4:ev (aI 32)=_:=hd.2.2.1 rfl;refine yc (HBa.out w1) ?_ fun _=>rfl;go_simp
     have d5:ev (aI 33)=_:=hd.1 rfl;exact tV
    case rfin=>
     intro a3 w3 hR;have hS:=hR.s;have e6:a3.tmps.getD 34 ar=_:=hR.val 6;have ha:=hR.lits 46 rfl;simp only[aQ,cg,nQ] at ha;rw[hR.kp 0,hR.kp 1,hR.kp 2,hR.kp 3,hR.kp 4,hR.kp 5,hR.kp 6,hR.kp 7,hR.kp 8,hR.kp 9,hR.kp 11,hR.kp 12,hR.kp 13,hR.kp 14,hR.kp 15,hR.kp 16,hR.kp 17,hR.kp 18,hR.kp 19,hR.kp 20,hR.kp 21,hR.kp 22,hR.kp 23,hR.kp 24,hR.kp 38,hR.kp 39,hR.kp 40,hR.kp 41,hR.kp 42,hR.kp 43,hR.kp 44,hR.kp 45] at ha;simp only[kO,gb,f_] at ha;clear hR;rw[e6] at ha;generalize a3.tmps.getD=zz at ha;have o8:=ai hS;clear e6 hS;subst ha;have hwr:fX w2.heap.size wr w3:=((ay _ wr).alloc hsz _).trans (o8.out.mono sO);have HWr:=ai hwr;clear hwr;generalize hc0:List.countP (fun a=>decide (b.bad (b.cM+a.used) (bM pl)=0)) (List.take j all)=cn0 at *;have HC0:=ai hc0;clear hc0;cases r
     .go_wp2;go_roundw
      case rel=>
       refine⟨j+1,oM,sM,?_,xF.out.trans HWr.out⟩;rw[MN.out,if_neg (by intro h;rw[h] at hr;cases hr)];simp
      case measure=>simp[intOf];omega
     go_wp2;go_roundw
     case rel=>
      refine⟨j+1,oM,sM,?_,xF.out.trans HWr.out⟩;rw[MN.out,if_pos (by simpa using hr)];simp
     case measure=>simp[intOf];omega
   obtain rfl:j=L:=oM;have Kc:all.take j=all:=cU (by rw[HL.out];exact aJ _);have hgn:(all.take j).countP (fun a=>decide (b.bad (b.cM+a.used) (bM pl)=0))=LN b all (bM pl):=by rw[Kc];rfl
   obtain⟨gn,EM⟩:∃gn,LN b all (bM pl)=gn:=⟨_,rfl⟩
   rw[hgn,EM] at hcj;rw[hgn,EM];have HGn:=ai EM;clear EM;have xF:=ai eb;have z15:=aK ((eb.block _ wD).trans HK.out) 15 _ rfl;clear hgn Kc eb;have rZ:Bw w wr:=FQ.out.trans (xF.out.mono FQ.out.size);have VE:=ai rZ;clear rZ
   by_cases h0:gn=0
   .subst h0;have HQ:Hid (pN 0 j=2):=ai (by simp[pN]);go_wp2;go_ret2;exact⟨by(first|rw[HGn.out,HL.out,HQ.out]|rw[HGn.out,HQ.out]);rfl,VE.out⟩
   have g0:((gn:Int)==0)=false:=sO
   by_cases h1:gn=j
   .subst h1;have HQ:Hid (pN gn gn=1):=ai (by simp[pN,h0]);go_wp2;go_ret2;exact⟨by(first|rw[HGn.out,HL.out,HQ.out]|rw[HGn.out,HQ.out]);rfl,VE.out⟩
   have g1:((gn:Int)==(j:Int))=false:=sO;have HQ:Hid (pN gn j=0):=ai (by simp[pN,h0,h1]);go_wp2;go_ret2;exact⟨by(first|rw[HGn.out,HL.out,HQ.out]|rw[HGn.out,HQ.out]);rfl,VE.out⟩
def Ds(b:BB)(p:Nat)(s:Int × Bool)(a:dS):Int × Bool:=
 if b.bad (b.cM+a.used) p=0 then s else if s.2=false\/b.bad (b.cM+a.used) p<s.1 then(b.bad (b.cM+a.used) p,true) else s
def uH(b:BB)(all:List dS)(p:Nat):Int × Bool:=all.foldl (Ds b p) (0,false)
def OD(b:BB)(all:List dS)(p:Nat){j:Nat}(h:j<all.length):uH b (all.take (j+1)) p=Ds b p (uH b (all.take j) p) all[j]:=by
 unfold uH;rw[bV h,List.foldl_append];rfl
def abL(b:BB)(bm aH az:aj)(ml:List Mn)(ss:List Int)(ms:List Mk)(w:ak)(hL:Laid w)(hB:bW b bm aH az ml ss ms w)(hne:aT b ml ss ms≠[])(pl:List Int)(hp:jD b pl)(lv:aj)(hl:Reads w lv pl.length (pl.map (aD af))) :
  a_ aq 63 #[aN (b.cells bm aH az),lv] w (Rt w (bB #[ag af (uH b (aT b ml ss ms) (bM pl)).1,aA (uH b (aT b ml ss ms) (bM pl)).2,ag af 0])):=by
 have hlen:=ic ss ms hB.ok hB.eT;have jS:0<(aT b ml ss ms).length:=cB.2 hne;have cV:=hB.ok;have hao:=ot (ss:=ss) (ms:=ms) hB.ok hB.eT;have AX:=cV.minutes;have pw:∀s∈pl,1<=s/\s<=8:=fun s h=>by have:=hp.mem s h;omega
 have Rk:bM pl<512:=nA pl pw;obtain⟨pm,cm,rfl,_⟩:=aR hB.rm;obtain⟨pn,cn,rfl,_⟩:=aR hB.rs;obtain⟨pk,ck,rfl,_⟩:=aR hB.rk;obtain⟨qw,qH,rfl,_⟩:=aR hl;have b1:Bw w (w.alloc (au (b.sl pm ml.length cm pn ss.length cn pk ms.length ck) 28)):=cY;have hk:=ax w (au (b.sl pm ml.length cm pn ss.length cn pk ms.length ck) 28)
 have VC:Hid (∀W cp,Bw w W->W.heap[cp]?=some (au #[ae qw pl.length qH] 25 (0,0))->a_ aq 103 #[aN (b.sl pm ml.length cm pn ss.length cn pk ms.length ck),.func (.func 164) #[] #[pv cp 0]] W fun e w'=>∃v,e=aU (bB #[aN (b.open (ae pm ml.length cm) (ae pn ss.length cn) (ae pk ms.length ck) v),ag af 0])/\ie w' W.heap.size v (aT b ml ss ms)/\Bw W w'):=
  ai fun W cp Kf Uv=>Df b _ _ _ ml ss ms W (hL.below Kf) (hB.below Kf) hne cp fun W' hb'=>by
   have hlt:=(ah.1 Uv).1;exact Dr b cV _ _ _ pl hp cp _ W' ((hb'.block _ hlt).trans Uv) ((hl.below Kf).below hb')
 have Kg:=ai hl;have Sy:=ai hao;have Yl:=ai pw;clear hL hB hl hao hp pw;generalize aT b ml ss ms=all at *;generalize ml.length=lm at *;generalize ss.length=ln at *;generalize ms.length=lk at *
 go_enter Tryz.func63,Tryz.ntmps63
 go_wp2;refine wp_scope_straight ?_;go_wp2
 refine cj kQ [
 pV (aN (b.sl pm lm cm pn ln cn pk lk ck)),
  pV (ae qw pl.length qH),
  fun v ds w9=>∃cp,v=.func (.func 164) #[] #[pv cp 0]/\w9.heap[cp]?=some (au #[ae qw pl.length qH] 25 (0,0)),
  fun v ds w9=>∃gv cv,v=bB #[aN (b.open (ae pm lm cm) (ae pn ln cn) (ae pk lk ck) (ae (some ⟨gv,0,none⟩) all.length cv)),ag af 0]/\ie w9 w.heap.size (ae (some ⟨gv,0,none⟩) all.length cv) all,
  fun v ds w9=>∃gv cv,v=bB #[aN (b.open (ae pm lm cm) (ae pn ln cn) (ae pk lk ck) (ae (some ⟨gv,0,none⟩) all.length cv)),ag af 0]/\ie w9 w.heap.size (ae (some ⟨gv,0,none⟩) all.length cv) all,
  fun v ds w9=>∃gv cv,v=aN (b.open (ae pm lm cm) (ae pn ln cn) (ae pk lk ck) (ae (some ⟨gv,0,none⟩) all.length cv))/\ie w9 w.heap.size (ae (some ⟨gv,0,none⟩) all.length cv) all,
  pV (ag af 0),
  fun v ds w9=>∃k,∃z:Array aj,v=pv k 0/\w.heap.size+1<=k/\w9.heap[k]?=some (au z 122 (0,0))/\z.size=16,
  fun v ds w9=>∃k gv cv,ds[0]?=some (pv k 0)/\w.heap.size+1<=k/\w9.heap[k]?=some (au (b.open (ae pm lm cm) (ae pn ln cn) (ae pk lk ck) (ae (some ⟨gv,0,none⟩) all.length cv)) 122 (0,0))/\ie w9 w.heap.size (ae (some ⟨gv,0,none⟩) all.length cv) all,
  pV (ag af 0)]
  (fun w9=>w9.heap[w.heap.size]?=some (au (b.sl pm lm cm pn ln cn pk lk ck) 28 (0,0))/\Bw w w9) [(2,pv w.heap.size 0),(1,ae qw pl.length qH)] kQ ?rst (fun w1 w2 h hb=>⟨(hb.block _ (ah.1 h.1).1).trans h.1,h.2.trans (hb.mono h.2.size)⟩) (⟨hk,b1.drew⟩) ⟨rfl,rfl,trivial⟩ ?reach ?rfin
 case rst=>
  refine⟨sV,sV,?_,?_,?_,?_,sV,?_,?_,sV,trivial⟩
  .rintro v ds w1 w2 hS ⟨cp,h1,h2⟩ hb;exact⟨cp,h1,(hb.block _ (ah.1 h2).1).trans h2⟩
  .rintro v ds w1 w2 hS ⟨gv,cv,h1,h2⟩ hb;exact⟨gv,cv,h1,h2.at_ fun g hg=>hb.block g (h2.1.lt g hg).2⟩
  .rintro v ds w1 w2 hS ⟨gv,cv,h1,h2⟩ hb;exact⟨gv,cv,h1,h2.at_ fun g hg=>hb.block g (h2.1.lt g hg).2⟩
  .rintro v ds w1 w2 hS ⟨gv,cv,h1,h2⟩ hb;exact⟨gv,cv,h1,h2.at_ fun g hg=>hb.block g (h2.1.lt g hg).2⟩
  .rintro v ds w1 w2 hS ⟨k,z,h1,h2,h3,h4⟩ hb;exact⟨k,z,h1,h2,(hb.block _ (ah.1 h3).1).trans h3,h4⟩
  rintro v ds w1 w2 hS ⟨k,gv,cv,h1,h0,h3,h2⟩ hb;exact⟨k,gv,cv,h1,h0,(hb.block _ (ah.1 h3).1).trans h3,h2.at_ fun g hg=>hb.block g (h2.1.lt g hg).2⟩
 case reach=>
  refine⟨?_,?_,?_,?_,?_,?_,?_,?_,?_,?_,trivial⟩<;>rintro ev w1 hS hc hg hf ⟨b2,b1,-⟩ hd
  .have x0:=bU hS.1;exact tV
  .exact tV
  .have d1:ev (aI 13)=_:=hd.1 rfl;refine jI (f:=104) (args:=#[ae qw pl.length qH]) ?_ (JV _ _ _ _) ?_
   .go_simp
   rintro e w2 ⟨rfl,rfl⟩;exact⟨_,rfl,⟨_,rfl,ax _ _⟩,cz cY⟩
  .have d0:ev (aI 12)=_:=hd.1 rfl;obtain⟨cp,F4,wE⟩:=hd.2.1 rfl;replace F4:ev (aI 14)=_:=F4;refine jI (f:=103) (args:=#[aN (b.sl pm lm cm pn ln cn pk lk ck),.func (.func 164) #[] #[pv cp 0]]) ?_ (VC.out w1 cp hS.2 wE) ?_
   .go_simp
   rintro e w2 ⟨v,rfl,iH,hb⟩
   obtain⟨gv,cv,rfl⟩:∃gv cv,v=ae (some ⟨gv,0,none⟩) all.length cv:=by
    rcases iH.1.2 with⟨_,h0⟩|⟨g,cap,cur,rfl,_⟩
    .omega
    exact⟨g,cap,rfl⟩
   exact⟨_,rfl,⟨gv,cv,rfl,iH.base hS.2.size⟩,cz hb⟩
  .exact yv rfl (hd.1 rfl)
  .obtain⟨gv,cv,e11,iH⟩:=hd.1 rfl;replace e11:ev (aI 11)=_:=e11;refine yv ?_ (⟨gv,cv,rfl,iH⟩);go_simp
  .obtain⟨gv,cv,e11,iH⟩:=hd.1 rfl;replace e11:ev (aI 11)=_:=e11;exact tV
  .refine Lag.Yields.value (v:=pv w1.heap.size 0) (w':=w1.alloc (au eO 122)) ?_ ⟨⟨_,_,rfl,(ah.1 hS.1).1,ax _ _,rfl⟩,cz cY⟩;go_simp
  .obtain⟨k,z,e6,pP,hk2,hz⟩:=hd.1 rfl;replace e6:ev (aI 7)=_:=e6;obtain⟨gv,cv,Oi,iH⟩:=hd.2.1 rfl;replace Oi:ev (aI 16)=_:=Oi;have Di:∀g cs t,w1.heap[g]?=some (au cs t (0,0))->t≠122->g≠k:=by rintro g cs t h1 h2 rfl;rw[hk2] at h1;cases h1;exact h2 rfl
   have EJ:∀(v:aj),ie w1 w.heap.size v all->ie (w1.setRow k (b.open (ae pm lm cm) (ae pn ln cn) (ae pk lk ck) (ae (some ⟨gv,0,none⟩) all.length cv))) w.heap.size v all:=fun v ho=>ho.at_ fun g hg=>setRow_other (by
    obtain⟨cur,q1,_⟩:=ho.2 g hg
    exact Di g _ _ q1 dC)
   refine Lag.Yields.ia 122 _ _ rfl k _ e6 Oi 122 z hk2 kQ hz (by simp[bK]) ⟨⟨k,gv,cv,congrArg some e6,pP,bX hk2,EJ _ iH⟩,.inr ⟨⟨(setRow_other oM).trans hS.1,cS hS.2 oM⟩,?_⟩⟩;intro j u ds hj hp
   match j,hp with
   |0,hp|1,hp=>exact hp
   |2,⟨cp,h1,h2⟩=>exact⟨cp,h1,(setRow_other (Di _ _ _ h2 dC)).trans h2⟩
   |3,⟨EX,Fc,h1,h2⟩=>exact⟨EX,Fc,h1,EJ _ h2⟩
   |4,⟨EX,Fc,h1,h2⟩=>exact⟨EX,Fc,h1,EJ _ h2⟩
   |5,⟨EX,Fc,h1,h2⟩=>exact⟨EX,Fc,h1,EJ _ h2⟩
   |6,hp=>exact hp
   |7,⟨k',z',h1,h2,h3,h4⟩=>
    by_cases rE:k'=k
    .subst rE;exact⟨k',_,h1,h2,bX h3,rfl⟩
    exact⟨k',z',h1,h2,(setRow_other rE).trans h3,h4⟩
   |8,_=>exact(hj rfl).elim
   |9,hp=>exact hp
   |j+10,_=>trivial
  have d6:ev (aI 17)=_:=hd.1 rfl;refine yv (v:=ev (aI 17)) ?_ (d6);rfl
 case rfin=>
  intro a2 w2 hR;have hS:=hR.s;obtain⟨k,gv,cv,U7,pP,hk2,iH⟩:=hR.val 8;have e9:a2.tmps.getD 6 ar=_:=hR.val 9;have ha:=hR.lits 47 rfl;simp only[aQ,cg,nQ] at ha;rw[hR.kp 1,hR.kp 2,hR.kp 4,hR.kp 5] at ha;simp only[kO,gb,f_] at ha;clear hR;have e6:a2.tmps.getD 7 ar=pv k 0:=a7 U7;rw[e6,e9] at ha;generalize a2.tmps.getD=zz at ha;clear e6 U7 e9;subst ha;have s5:=hS.1;have r7:=hS.2;clear hS;have Iw:=aK hk2 15 _ rfl;have Cj:=iH.reads oM
  have HC:Hid (∀j u,(rowOf all)[j]?=some u->w2.cell? ⟨gv,0+j,none⟩=some u):=ai (by
   rcases Cj with⟨h0,_⟩|⟨g,off,cap,h0,_,_,h1⟩
   .cases h0
   cases h0;exact h1)
  have Cl:=(iH.1.lt gv rfl).2;have wD:=(ah.1 hk2).1;have HK:=ai hk2;have HB:=ai s5;have FQ:=ai r7;have ML:=ai iH;clear hk2 Cj s5 r7 iH hk b1 VC;generalize hL:all.length=L at *;have HL:=ai hL;clear hL;go_wp2;refine wp_label ?_;go_wp2
  go_loopw [4,5,9,10,24] (fun m f _ _ i wr=>∃j:Nat,j<=L/\i=ag af j/\m=ag af (uH b (all.take j) (bM pl)).1/\f=aA (uH b (all.take j) (bM pl)).2/\Bw w2 wr) (fun _ _ _ _ i _=>L-(intOf i).toNat)
  case atStart=>exact⟨0,oM,rfl,rfl,rfl,ay _ _⟩
  case round=>
   obtain⟨j,hj,rfl,rfl,rfl,eb⟩:=hrel;have hsz:=eb.size
   by_cases hlt:j<L
   .have Jy:j<all.length:=by rw[HL.out];exact hlt
    obtain⟨c0,c1,c2,c3⟩:=Reads.cell (w:=wr) (cap:=cv) (n:=L) (fun i u hi=>(eb.cell (p:=⟨gv,0+i,none⟩) Cl).trans (HC.out i u hi)) j Jy;simp only[cO] at c0 c1 c2 c3;have VU:uH b (all.take (j+1)) (bM pl)=Ds b (bM pl) (uH b (all.take j) (bM pl)) all[j]:=OD b all (bM pl) Jy;have Uy:=fun W=>JX b cV (ae pm lm cm) (ae pn ln cn) (ae pk lk ck) all[j] (Sy.out _ (bG Jy)) (bM pl) Rk W;have HBa:=ai Uy;have xF:=ai eb
    have GN:Hid (∀w9,fX (wr.alloc (au all[j].cells 134)).heap.size (wr.alloc (au all[j].cells 134)) w9->w9.heap[k]?=some (au (b.open (ae pm lm cm) (ae pn ln cn) (ae pk lk ck) (ae (some ⟨gv,0,none⟩) L cv)) 122 (0,0))/\w9.heap[wr.heap.size]?=some (au all[j].cells 134 (0,0))/\Reads w9 (ae qw pl.length qH) pl.length (pl.map (aD af))):=ai fun w9 N8=>by
     have hs:(wr.alloc (au all[j].cells 134)).heap.size=wr.heap.size+1:=sM;have hb0:Bw wr (wr.alloc (au all[j].cells 134)):=cY;have o6:=FQ.out.size;exact⟨(N8.block _ oM).trans ((hb0.block _ oM).trans ((eb.block _ wD).trans HK.out)),(N8.block _ oM).trans (ax wr _),Kg.out.below (FQ.out.trans ((eb.mono o6).trans ((hb0.mono oM).trans (N8.mono oM))))⟩
    unfold Ds at VU;clear Uy eb;generalize all[j]=a at *;generalize zH:b.bad (b.cM+a.used) (bM pl)=bd at *;generalize uH b (all.take j) (bM pl)=s at *;obtain⟨sm,sf⟩:=s;simp only[] at VU;have MN:=ai VU;clear VU;simp only[];go_wp2
    refine cj kQ [
    pV (pv k 0),
     pV (aN (b.sl pm lm cm pn ln cn pk lk ck)),
     pV (aN a.cells),
     pV (ae qw pl.length qH),
     pV (ag af (bM pl)),
     pV (ag af bd),
     pV (ag af bd)]
     (fun w9=>fX (wr.alloc (au a.cells 134)).heap.size (wr.alloc (au a.cells 134)) w9) [(1,ae qw pl.length qH),(7,pv k 0),(9,pv wr.heap.size 0)] kQ ?rst (fun w1 w2 h hb=>h.trans (hb.mono h.size)) ((ay _ _).drew) ⟨rfl,rfl,rfl,trivial⟩ ?reach ?rfin
    case rst=>
     refine⟨sV,sV,sV,sV,sV,sV,sV,trivial⟩
    case reach=>
     refine⟨?_,?_,?_,?_,?_,?_,?_,trivial⟩<;>rintro ev w1 hS hc hg hf ⟨b1,b7,b9,-⟩ hd
     .exact tV
     .have d0:ev (aI 28)=_:=hd.1 rfl;have q:=GN.out w1 hS;have x0:=jy q.1;exact tV
     .have q:=GN.out w1 hS;obtain⟨y0,y1,y2,y3⟩:=qi q.2.1;exact tV
     .exact tV
     .have d3:ev (aI 31)=_:=hd.1 rfl;have q:=GN.out w1 hS;refine yq (args:=#[ae qw pl.length qH]) (lL pl Yl.out _ _ q.2.2) ?_ fun _=>rfl;go_simp
     .have d1:ev (aI 29)=_:=hd.1 rfl;have d2:ev (aI 30)=_:=hd.2.1 rfl;have d4:ev (aI 32)=_:=hd.2.2.1 rfl;refine yc (HBa.out w1) ?_ fun _=>rfl;go_simp
     have d5:ev (aI 33)=_:=hd.1 rfl;refine yv (v:=ev (aI 33)) ?_ (d5);rfl
    case rfin=>
     intro a3 w3 hR;have hS:=hR.s;have e6:a3.tmps.getD 10 ar=_:=hR.val 6;have ha:=hR.lits 47 rfl;simp only[aQ,cg,nQ] at ha;rw[hR.kp 0,hR.kp 1,hR.kp 2,hR.kp 3,hR.kp 4,hR.kp 5,hR.kp 6,hR.kp 7,hR.kp 8,hR.kp 11,hR.kp 12,hR.kp 13,hR.kp 14,hR.kp 15,hR.kp 16,hR.kp 17,hR.kp 18,hR.kp 19,hR.kp 20,hR.kp 21,hR.kp 22,hR.kp 23,hR.kp 24,hR.kp 45,hR.kp 46] at ha;simp only[kO,gb,f_] at ha;clear hR;rw[e6] at ha;generalize a3.tmps.getD=zz at ha;have o8:=ai hS;clear e6 hS;subst ha;have hwr:fX w2.heap.size wr w3:=((ay _ wr).alloc hsz _).trans (o8.out.mono sO);have HWr:=ai hwr;clear hwr
     by_cases h0:bd=0
     .have g0:(bd==0)=true:=by simpa using h0
      clear h0;have H0:Hid (bd=0):=ai (by simpa using g0);go_wp2;go_roundw
      case rel=>
       refine⟨j+1,oM,sM,?_,?_,xF.out.trans HWr.out⟩
       .rw[MN.out];simp[H0.out]
       rw[MN.out];simp[H0.out]
      case measure=>simp[intOf];omega
     have g0:(bd==0)=false:=by simpa using h0
     have H0:=ai h0;clear h0;cases sf
     .go_wp2;go_roundw
      case rel=>
       refine⟨j+1,oM,sM,?_,?_,xF.out.trans HWr.out⟩
       .rw[MN.out];simp[H0.out]
       rw[MN.out];simp[H0.out]
      case measure=>simp[intOf];omega
     by_cases h1:bd<sm
     .have H1:=ai h1;go_wp2;go_roundw
      case rel=>
       refine⟨j+1,oM,sM,?_,?_,xF.out.trans HWr.out⟩
       .rw[MN.out];simp[H0.out,H1.out]
       rw[MN.out];simp[H0.out,H1.out]
      case measure=>simp[intOf];omega
     have H1:=ai h1;go_wp2;go_roundw
     case rel=>
      refine⟨j+1,oM,sM,?_,?_,xF.out.trans HWr.out⟩
      .rw[MN.out];simp[H0.out,H1.out]
      rw[MN.out];simp[H0.out,H1.out]
     case measure=>simp[intOf];omega
   obtain rfl:j=L:=oM;have Kc:all.take j=all:=cU (by rw[HL.out];exact aJ _);obtain⟨s,hs⟩:∃s,uH b all (bM pl)=s:=⟨_,rfl⟩
   rw[Kc,hs];have xF:=ai eb;have SX:=ai hs;clear Kc eb hs;have rZ:Bw w wr:=FQ.out.trans (xF.out.mono FQ.out.size);have VE:=ai rZ;clear rZ;obtain⟨sm,sf⟩:=s;go_wp2
   (try simp only[Exit.inBlock,Exit.then,Exit.noGoto_ret])
   go_ret3
   exact⟨by rw[SX.out];rfl,VE.out⟩
section
variable{b:BB}{bm aH az:aj}{ml:List Mn}{ss:List Int}{ms:List Mk}{W:ak}
end
def P_(p:Nat)(W:ak)(v:aj)(W':ak):Prop:=
 ∃lv:aj,v=bB #[lv,aA true,ag af 0]/\Reads W' lv (gY p).length ((gY p).map (aD af))/\Old W W'
def UY{b:BB}{bm aH az:aj}{ml:List Mn}{ss:List Int}{ms:List Mk}{W:ak}(hL:Laid W)(hB:bW b bm aH az ml ss ms W)(p1:Plain W bm)(p2:Plain W aH)(p3:Plain W az)(hne:aT b ml ss ms≠[])
  (yg:j_ b (di ss ms).toNat (bM ss) (aT b ml ss ms) 512≠[]) (hlt:∀x∈j_ b (di ss ms).toNat (bM ss) (aT b ml ss ms) 512,x<512) (p:Nat)
  (hp:∀x r,(x::r).Perm (j_ b (di ss ms).toNat (bM ss) (aT b ml ss ms) 512)->jJ sW x r=p):jE aq 20 #[aN (b.cells bm aH az)] W (P_ p W):=by
 refine jA quiet Tryz.func20 rfl ?hR ?body
 case hR=>
  rintro v W' I d ⟨lv,h1,h2,h3⟩;exact⟨lv,h1,h2,tX h3⟩
 simp only[Tryz.ntmps20,jG,eE,oD,Db,Da,km,kj,jH,iA,jk,iD];refine nZ quiet aP (fun a w=>a=⟨#[aN (b.cells bm aH az),pv W.heap.size 0,ae none 0 0,aA false,ag af 0,ar,ar,ar,ar,ar],[]⟩/\Pk0 W W.heap.size (b.cells bm aH az) 28 w) (fun I d=>?_) ?_
 .go_wp2;exact⟨El (qc _ _),ax (dn W I d) _⟩
 rintro a W1 ⟨rfl,⟨o1,x1⟩⟩;refine gV quiet (tM quiet ?_);refine fY (i:=0) (rest:=[1,2,3,4,5,6,7]) quiet rfl rfl fun I d=>?_;refine wp_load_row 28 (aI 1) rfl W.heap.size rfl 28 _ (0,0) _ (w:=dn W1 I d) x1 bL rfl kQ ?_;have o2:Old W (dn W1 I d):=jP I d o1;have SI:=Ty (W:=dn W1 I d) 96 sW (hL.old o2) (hB.old o2) (p1.old o2) (p2.old o2) (p3.old o2) hne yg hlt Sb;refine rq (i:=1) (rest:=[2,3,4,5,6,7]) quiet rfl rfl (f:=95) (args:=#[aN (b.cells bm aH az),.func (.func 96) #[] #[]]) (fun w=>by kernel_rfl) SI ?_;rintro out W3 _ ⟨x,r,lv,hperm,rfl,Cj,o3⟩;rw[hp x r hperm] at Cj;have o4:=o2.trans o3;refine fY (i:=2) (rest:=[3,4,5,6,7]) quiet rfl rfl fun τ2 d2=>?_;show eC aq _ _ [3,4,5,6,7] _ _;refine fY (i:=3) (rest:=[4,5,6,7]) quiet rfl rfl fun τ3 d3=>?_;show eC aq _ _ [4,5,6,7] _ _;refine fY (i:=4) (rest:=[5,6,7]) quiet rfl rfl fun τ4 d4=>?_;show eC aq _ _ [5,6,7] _ _;refine fY (i:=5) (rest:=[6,7]) quiet rfl rfl fun τ5 d5=>?_;show eC aq _ _ [6,7] _ _;refine fY (i:=6) (rest:=[7]) quiet rfl rfl fun τ6 d6=>?_;show eC aq _ _ [7] _ _;refine fY (i:=7) (rest:=[]) quiet rfl rfl fun τ7 d7=>?_;show eC aq _ _ [] _ _;refine rp (l:=[]) quiet (fun e a w h=>by cases e<;>first|rfl|exact(h:False).elim) fun τ8 d8=>?_;refine gX quiet aP fun τ9 d9=>xT ?_;refine wp_ret ?_;refine a8 (results_tmp3 rfl _ _ _) rfl ⟨_,rfl,lv,?_,Cj,⟨o4.os,o4.output,o4.size,o4.block⟩⟩
 kernel_rfl
def T2{b:BB}{bm aH az:aj}{ml:List Mn}{ss:List Int}{ms:List Mk}{W:ak}(hL:Laid W)(hB:bW b bm aH az ml ss ms W)(p1:Plain W bm)(p2:Plain W aH)(p3:Plain W az)(hne:aT b ml ss ms≠[])
  (yg:j_ b (di ss ms).toNat (bM ss) (aT b ml ss ms) 512≠[]) (hlt:∀x∈j_ b (di ss ms).toNat (bM ss) (aT b ml ss ms) 512,x<512) (p:Nat)
  (hp:∀x r,(x::r).Perm (j_ b (di ss ms).toNat (bM ss) (aT b ml ss ms) 512)->jJ sU x r=p):jE aq 23 #[aN (b.cells bm aH az)] W (P_ p W):=by
 refine jA quiet Tryz.func23 rfl ?hR ?body
 case hR=>
  rintro v W' I d ⟨lv,h1,h2,h3⟩;exact⟨lv,h1,h2,tX h3⟩
 simp only[Tryz.ntmps23,jG,eE,oD,Db,Da,km,kj,jH,iA,jk,iD];refine nZ quiet aP (fun a w=>a=⟨#[aN (b.cells bm aH az),pv W.heap.size 0,ae none 0 0,aA false,ag af 0,ar,ar,ar,ar,ar],[]⟩/\Pk0 W W.heap.size (b.cells bm aH az) 28 w) (fun I d=>?_) ?_
 .go_wp2;exact⟨El (qc _ _),ax (dn W I d) _⟩
 rintro a W1 ⟨rfl,⟨o1,x1⟩⟩;refine gV quiet (tM quiet ?_);refine fY (i:=0) (rest:=[1,2,3,4,5,6,7]) quiet rfl rfl fun I d=>?_;refine wp_load_row 28 (aI 1) rfl W.heap.size rfl 28 _ (0,0) _ (w:=dn W1 I d) x1 bL rfl kQ ?_;have o2:Old W (dn W1 I d):=jP I d o1;have SI:=Ty (W:=dn W1 I d) 102 sU (hL.old o2) (hB.old o2) (p1.old o2) (p2.old o2) (p3.old o2) hne yg hlt R_;refine rq (i:=1) (rest:=[2,3,4,5,6,7]) quiet rfl rfl (f:=95) (args:=#[aN (b.cells bm aH az),.func (.func 102) #[] #[]]) (fun w=>by kernel_rfl) SI ?_;rintro out W3 _ ⟨x,r,lv,hperm,rfl,Cj,o3⟩;rw[hp x r hperm] at Cj;have o4:=o2.trans o3;refine fY (i:=2) (rest:=[3,4,5,6,7]) quiet rfl rfl fun τ2 d2=>?_;show eC aq _ _ [3,4,5,6,7] _ _;refine fY (i:=3) (rest:=[4,5,6,7]) quiet rfl rfl fun τ3 d3=>?_;show eC aq _ _ [4,5,6,7] _ _;refine fY (i:=4) (rest:=[5,6,7]) quiet rfl rfl fun τ4 d4=>?_;show eC aq _ _ [5,6,7] _ _;refine fY (i:=5) (rest:=[6,7]) quiet rfl rfl fun τ5 d5=>?_;show eC aq _ _ [6,7] _ _;refine fY (i:=6) (rest:=[7]) quiet rfl rfl fun τ6 d6=>?_;show eC aq _ _ [7] _ _;refine fY (i:=7) (rest:=[]) quiet rfl rfl fun τ7 d7=>?_;show eC aq _ _ [] _ _;refine rp (l:=[]) quiet (fun e a w h=>by cases e<;>first|rfl|exact(h:False).elim) fun τ8 d8=>?_;refine gX quiet aP fun τ9 d9=>xT ?_;refine wp_ret ?_;refine a8 (results_tmp3 rfl _ _ _) rfl ⟨_,rfl,lv,?_,Cj,⟨o4.os,o4.output,o4.size,o4.block⟩⟩
 kernel_rfl
def Dz(a b:Int)(w:ak):a_ aq 94 #[ag af a,ag af b] w (Rt w (aN #[ag af a,ag af b])):=by
 go_enter Tryz.func94,Tryz.ntmps94
 go_wp2;exact a8 (results_cell_row rfl _ _ w.heap.size 23 #[ag af a,ag af b] (0,0) _ rfl (ax w _) lF rfl kQ) rfl ⟨rfl,cY⟩
def lY(a:Int)(w:ak):a_ aq 86 #[ag af a] w (Rt w (aN #[ag af a,ag af a])):=by
 go_enter Tryz.func86,Tryz.ntmps86
 go_wp2_with (first
  |(go_at_call 94;refine(Dz a a _).mono ?_;rintro e w1 ⟨rfl,hb1⟩
    have hz:=(hb1.block w.heap.size sM).trans (ax w (au #[ag af 0,ag af 0] 23));have HZ:=ai hz;have vV:=ai hb1
    clear hz hb1)
  |(refine wpList_store_row rfl 23 _ _ rfl _ _ rfl rfl 23 _ HZ.out kQ rfl (by simp[bK]) ?_))
 exact a8 (results_cell_row rfl _ _ w.heap.size 23 #[ag af a,ag af a] (0,0) _ rfl (bX HZ.out) lF rfl kQ) rfl ⟨rfl,cS (cY.trans (vV.out.mono sM)) (aJ _)⟩
abbrev TL:Array Value:=mF
def ex:BB:=⟨30,33,9,5,2,20,2,3,0,1,1,2⟩
def j0:List Mn:=[⟨⟨#[97,110,110]⟩,3,4⟩,⟨⟨#[98,111]⟩,4,4⟩]
def LZ(w:ak):a_ aq 93 #[] w fun e w'=>∃g c,e=aU (aN (ex.br (some ⟨g,0,none⟩) 2 c))/\Reads w' (ae (some ⟨g,0,none⟩) 2 c) 2 (eA j0)/\w'.heap[g]?=some (au (eA j0).toArray 79 (0,0))/\w.heap.size<=g/\Bw w w':=by
 have b0:Bw w (w.alloc (au TL 28)):=cY;have h0:=ax w (au TL 28);have Iq:=ai b0;have HH0:=ai h0;clear b0 h0
 go_enter Tryz.func93,Tryz.ntmps93
 go_wp2_with fail
 refine(Dz _ _ _).mono ?_;rintro e w1 ⟨rfl,hb1⟩;have H1:=ai hb1;clear hb1
 go_wp2_with fail
 refine(Dz _ _ _).mono ?_;rintro e w2 ⟨rfl,hb2⟩;have H2:=ai hb2;clear hb2
 go_wp2_with fail
 refine(Dz _ _ _).mono ?_;rintro e w3 ⟨rfl,hb3⟩;have H3:=ai hb3;clear hb3
 go_wp2_with fail
 refine(lY _ _).mono ?_;rintro e w4 ⟨rfl,hb4⟩
 have hb:fX (w.heap.size+1) (w.alloc (au TL 28)) w4:=by
  have h1:=H1.out;have h2:=H2.out;have h3:=H3.out;have s1:=h1.size;have s2:=h2.size;have s3:=h3.size;simp only[dQ] at s1;exact((h1.mono sM).trans (h2.mono oM)).trans ((h3.mono oM).trans (hb4.mono oM))
 have hs:=hb.size;simp only[dQ] at hs;have hz:=(Below.heap_alloc w4 (au (eA j0).toArray 79) w.heap.size oM).trans ((hb.block w.heap.size oM).trans HH0.out);have HZ:=ai hz;have HW:Hid (Bw w w4):=ai (Iq.out.trans (hb.mono oM));clear hb hz hb4
 go_wp2_with (refine wpList_store_row rfl 28 _ _ rfl _ _ rfl rfl 28 _ HZ.out kQ rfl (by simp[bK]) ?_)
 have hg:((w4.alloc (au (eA j0).toArray 79)).setRow w.heap.size (ex.br (some ⟨w4.heap.size,0,none⟩) 2 2)).heap[w4.heap.size]?=some (au (eA j0).toArray 79 (0,0)):=(setRow_other oM).trans (ax w4 _);refine a8 (results_cell_row rfl _ _ w.heap.size 28 (ex.br (some ⟨w4.heap.size,0,none⟩) 2 2) (0,0) _ rfl (bX HZ.out) bL rfl kQ) rfl ⟨w4.heap.size,2,rfl,?_,hg,oM,cS (HW.out.alloc oM _) (aJ _)⟩
 exact .inr ⟨w4.heap.size,0,2,rfl,oM,by rw[setRow_size];simp,fun j u hj=>by
  have:=aK hg j u (by simpa using hj)
  rw[cO];exact this⟩
abbrev sc(b:BB)(n:Int):BB:={ b with minutes:=n,jK:=0,pm:=min b.pm n }
end Go.Proofs.YtffladgmkiimjaaGreatDoor
namespace Go.Lag
open Go Go.RowKit Go.Conc Go.Proofs.YtffladgmkiimjaaGreatDoor
namespace Gd
section
variable{P:aL}{aM:Array Oper}{Q:Exit->Act->ak->Prop}{Vs:List Pred}{S:ak->Prop}{base:List (Tmp × aj)}{n:Nat}
end
end Gd
def gW(W:ak)(I:Nat->dH->Nat)(d:Nat):Old W (dn W I d):=⟨rfl,rfl,aJ _,fun _ _=>rfl⟩
section
variable{P:aL}{aM:Array Oper}{Q:Exit->Act->ak->Prop}{n:Nat}
theorem E_(T:Quiet P)(hm:P.follows .mixedOrders=true){id:Nat}{y:Code}{a0:Act}{W:ak}(hf:∀e a w,Q e a w->tj e=true)(Vs:List Pred)(base:List (Tmp × aj))(cV:jl aM n base=true)(hn:a0.tmps.size=n)(hbase:gp a0.eval base)(ES:jC (Old W) Vs)
  (hE:Gd.Each (Yields P) aM Vs (Old W) base 0 aM.toList) (hy:∀a w,jw aM Vs (Old W) a0 (bz aM.size true) a w->vX P y Q a w):vX P (.seq (.region id aM true) y) Q a0 W:=
 nZ T hf (fun a w=>jw aM Vs (Old W) a0 (bz aM.size true) a w) (fun I d=>
  Gd.cj hm Vs (Old W) base (by rw[hn];exact cV) ES (fun _ _ h hb=>h.trans (Old.of_below hb)) ((gW W I d).trans ⟨rfl,rfl,aJ _,fun _ _=>rfl⟩) hbase hE fun a w h=>⟨rfl,h⟩) hy
theorem b_{R:Act->ak->Prop}(hf:∀e a w,Q e a w->tj e=true):∀e a w,Exit.then R Q e a w->tj e=true:=fun e a w h=>by cases e<;>first|rfl|exact hf _ a w h
theorem ju(T:Quiet P){a:Act}{W:ak}(hf:∀e a w,Q e a w->tj e=true)(h:∀I d,Q .normal a (dn W I d)):vX P .skip Q a W:=gX T hf fun I d=>wp_skip (h I d)
def Ye(P:aL)(o:Oper)(ev:Operand->aj)(W:ak)(R:aj->ak->Prop):Prop:=
 ∃f args R2,(∀w,(execOp ev o).run P w=.ok (.enter f args) w)/\jE P f args W R2/\∀v W',R2 v W'->R v W'
end
section
variable{P:aL}{aM:Array Oper}{Q:Exit->Act->ak->Prop}{n:Nat}
theorem pX(T:Quiet P){a:Act}{W:ak}{c:Operand}{x y:Code}{t:Bool}(hc:a.eval c=.bool t)(h1:t=true->vX P x Q a W)(h2:t=false->vX P y Q a W):vX P (.cond c x y) Q a W:=by
 cases t
 .exact lG T hc (h2 rfl)
 exact lG T hc (h1 rfl)
end
section
variable{P:aL}{aM:Array Oper}{base:List (Tmp × aj)}{C:Cf}{n:Nat}{S:ak->Prop}{outs:List (Tmp × aj)}{Q:Exit->Act->ak->Prop}{s:Sem Next}{w:ak}{v:aj}
def VG(P:aL)(s:Sem Next)(w:ak)(v:aj):Prop:=∃f args R2,look P #[] s=some (.enter f args,[])/\jE P f args w R2/\∀v' W',R2 v' W'->v'=v/\Old w W'
theorem gv{f:FuncId}{args:Array aj}(h:jE P f args w fun u W'=>u=v/\Old w W')(he:look P #[] s=some (.enter f args,[]):=by kernel_rfl):VG P s w v:=⟨f,args,_,he,h,fun _ _ h=>h⟩
end
section
variable{P:aL}{aM:Array Oper}{base:List (Tmp × aj)}{C:Cf}{n:Nat}{S:ak->Prop}{a0:Act}
variable{Q:Exit->Act->ak->Prop}
def YV(P:aL):mL:=fun o ev w R=>(∀I d,Yields P o ev (dn w I d) R)\/Ye P o ev w R
theorem Pz(T:Quiet P):wO aM (eC P aM Q) (YV P):=
 ⟨fun i rest o a w R ho hw hY hk=>by
  rcases hY with h|⟨f,args,R2,he,hc,h2⟩
  .exact fY T ho hw fun I d=>(h I d).wp fun v w' hv=>hk v w' hv
  exact rq T ho hw he hc fun v W' _ hv=>hk v W' (h2 v W' hv),
 fun i rest o a w ho hw hk=>Kk T ho (by simpa using hw) hk⟩
theorem dL(T:Quiet P)(i k m:Nat)(C:Cf)(outs:List (Tmp × aj)){dz:List (Tmp × aj)}{W:ak}(hF:ik n a0 base)(hF2:ik n a0 dz)(hm:nY (Old W) C.mem)(hh:SV P aM base C (fun _=>mC P) (Old W) i C.hs)(hy:tK (fun l=>∀a w,Old W w->ik n a l->eC P aM Q (bP (i+k) m) a w) outs dz)(hr:vw P aM base C n dz i k outs=vv P aM base C i k outs:=by kernel_rfl):eC P aM Q (bP i (k+m)) a0 W:=
 I5 (T:=Old) (Pz T) (fun _ _ h hb=>h.trans hb) Old.refl (fun i _ s w v h=>gr h)
  (fun i o ev w v R hS hg hR=>.inl fun I d=>(hg _ (hS.trans (gW w I d))).yields fun w' hb=>hR w' ((gW w I d).trans (Old.of_below hb))) hF hF2 hr (Old.refl _) hm hh hy
def GX(P:aL)(kv i:Nat):Sem Next->ak->aj->Prop:=match Nat.beq i kv with|true=>VG P|false=>mC P
theorem WB(T:Quiet P)(kv i k m:Nat)(C:Cf)(hkv:(mD C.hs kv).isSome=true)(outs:List (Tmp × aj)){dz:List (Tmp × aj)}{W:ak}(hF:ik n a0 base)(hF2:ik n a0 dz)(hm:nY (Old W) C.mem)(hh:SV P aM base C (GX P kv) (Old W) i C.hs)(hy:tK (fun l=>∀a w,Old W w->ik n a l->eC P aM Q (bP (i+k) m) a w) outs dz)(hr:vw P aM base C n dz i k outs=vv P aM base C i k outs:=by kernel_rfl):eC P aM Q (bP i (k+m)) a0 W:=
 I5 (T:=Old) (Pz T) (fun _ _ h hb=>h.trans hb) Old.refl (fun i hi s w v h=>by
   unfold GX;cases hb:Nat.beq i kv with
   |true=>rw[Nat.eq_of_beq_eq_true hb] at hi;rw[hi] at hkv;cases hkv
   |false=>exact gr h)
  (fun i o ev w v R hS hg hR=>by
   unfold GX at hg;cases hb:Nat.beq i kv with
   |true=>
    simp only[hb] at hg;obtain⟨f,args,R2,h1,h2,h3⟩:=hg w hS;exact .inr ⟨f,args,R2,fun w9=>mJ h1 sM,h2,fun v' W' hv=>by obtain⟨rfl,ho⟩:=h3 v' W' hv;exact hR _ ho⟩
   |false=>
    simp only[hb] at hg
    exact .inl fun I d=>(hg _ (hS.trans (gW w I d))).yields fun w' hb=>hR w' ((gW w I d).trans (Old.of_below hb))) hF hF2 hr (Old.refl _) hm hh hy
section
variable{id:Nat}{y:Code}{W:ak}{dz:List (Tmp × aj)}
theorem Zp(h:vX P y Q a0 W)(I:Nat->dH->Nat)(d:Nat):vX P y Q a0 (dn W I d):=(V_ (I:=W.tape) (d:=W.drawn) h)
theorem ni(T:Quiet P){N:Nat}(hN:aM.size=N)(h:eC P aM (Exit.then (fun a w=>vX P y Q a w) Q) (bP 0 N) a0 W):vX P (.seq (.region id aM false) y) Q a0 W:=
 gV T (tM T (by rw[List.range_eq_range',hN];exact h))
theorem nh(T:Quiet P)(hf:∀e a w,Q e a w->tj e=true){i:Nat}(h:vX P y Q a0 W):eC P aM (Exit.then (fun a w=>vX P y Q a w) Q) (bP i 0) a0 W:=
 rp T (b_ hf) fun I d=>Zp h I d
theorem wW(T:Quiet P)(hf:∀e a w,Q e a w->tj e=true)(C:Cf)(outs:List (Tmp × aj))(hF:ik n a0 base)(hF2:ik n a0 dz)(hm:nY (Old W) C.mem)(hh:SV P aM base C (fun _=>mC P) (Old W) 0 C.hs)(hy:tK (fun l=>∀a w,Old W w->ik n a l->vX P y Q a w) outs dz)(hr:vw P aM base C n dz 0 aM.size outs=vv P aM base C 0 aM.size outs:=by kernel_rfl):vX P (.seq (.region id aM false) y) Q a0 W:=
 ni T rfl (dL (hr:=hr) T 0 aM.size 0 C outs hF hF2 hm hh (hy.mono fun l h a w ho hl=>nh T hf (h a w ho hl)))
theorem V7(T:Quiet P)(hf:∀e a w,Q e a w->tj e=true)(kv:Nat)(C:Cf)(hkv:(mD C.hs kv).isSome=true)(outs:List (Tmp × aj))(hF:ik n a0 base)(hF2:ik n a0 dz)(hm:nY (Old W) C.mem)(hh:SV P aM base C (GX P kv) (Old W) 0 C.hs)(hy:tK (fun l=>∀a w,Old W w->ik n a l->vX P y Q a w) outs dz)(hr:vw P aM base C n dz 0 aM.size outs=vv P aM base C 0 aM.size outs:=by kernel_rfl):vX P (.seq (.region id aM false) y) Q a0 W:=
 ni T rfl (WB (hr:=hr) T kv 0 aM.size 0 C hkv outs hF hF2 hm hh (hy.mono fun l h a w ho hl=>nh T hf (h a w ho hl)))
end
section
variable{dz:List (Tmp × aj)}{i m:Nat}{W:ak}
theorem ZB(T:Quiet P)(C:Cf)(d:Option Tmp){R:aj->ak->Prop}(hF:ik n a0 base)(hF2:ik n a0 dz)(hc:Ay P aM base C n dz i d=true)(hY:∀w,Old W w->Yields P (opAt aM i) (qZ base []) w R)
  (hk:∀v w,R v w->∀a,ik n a (fo d v dz)->eC P aM Q (bP (i+1) m) a w):eC P aM Q (bP i (m+1)) a0 W:=
 IE (Pz T) hF hF2 hc (fun ev he=>.inl fun I d=>(hY _ (gW W I d)).ex he) hk
theorem yD(T:Quiet P)(C:Cf)(d:Option Tmp){f:FuncId}{args:Array aj}{Φ:ak->Ending->ak->Prop}(hF:ik n a0 base)(hF2:ik n a0 dz)(hc:∀w,Old W w->a_ P f args w (Φ w))(hk:∀w0 e w,Old W w0->Φ w0 e w->∃v,e=.returned v/\∀a,ik n a (fo d v dz)->eC P aM Q (bP (i+1) m) a w)(he:(Ay P aM base C n dz i d,look P #[] (execOp (qZ base []) (opAt aM i)))=(true,some (.enter f args,[])):=by kernel_rfl):eC P aM Q (bP i (m+1)) a0 W:=by
 rw[g_] at he;exact ZB T C d (R:=fun v w=>∀a,ik n a (fo d v dz)->eC P aM Q (bP (i+1) m) a w) hF hF2 he.1 (fun w hw=>.call (mJ he.2 sM) (hc w hw) fun e w' h=>hk w e w' hw h) fun v w h=>h
theorem Vg(T:Quiet P)(C:Cf)(d:Option Tmp){f:FuncId}{args:Array aj}{Φ:aj->ak->Prop}(hF:ik n a0 base)(hF2:ik n a0 dz)(hc:jE P f args W Φ)(hk:∀v w,Φ v w->∀a,ik n a (fo d v dz)->eC P aM Q (bP (i+1) m) a w)(he:(Ay P aM base C n dz i d,look P #[] (execOp (qZ base []) (opAt aM i)))=(true,some (.enter f args,[])):=by kernel_rfl):eC P aM Q (bP i (m+1)) a0 W:=by
 rw[g_] at he;exact IE (Pz T) hF hF2 he.1 (fun ev hx=>.inr ⟨f,args,Φ,fun w=>by rw[hx];exact mJ he.2 sM,hc,fun v W' h=>h⟩) hk
theorem nU(T:Quiet P)(C:Cf)(d:Option Tmp)(vf:Nat->aj)(cs:Array aj)(t:TypeId)(hF:ik n a0 base)(hF2:ik n a0 dz)(hk:∀B w a,W.heap.size<=B->Old W w->w.heap[B]?=some (.cells cs t (0,0))->ik n a (fo d (vf B) dz)->eC P aM Q (bP (i+1) m) a w)(hc:Ay P aM base C n dz i d=true:=by kernel_rfl)(he:∀r,TP P r (execOp (qZ base []) (opAt aM i))=some (cs,t,0,0,some (.value (vf r),[])):=by intro r;kernel_rfl):eC P aM Q (bP i (m+1)) a0 W:=
 ZB T C d (R:=fun v w=>∃B,v=vf B/\W.heap.size<=B/\Old W w/\w.heap[B]?=some (.cells cs t (0,0))) hF hF2 hc (fun w hw=>.value (Pv (he _)) ⟨_,rfl,hw.size,hw.trans (Old.of_below cY),ax _ _⟩)
  fun v w ⟨B,e,h1,h2,h3⟩ a hl=>hk B w a h1 h2 h3 (e▸hl)
theorem SA.old{B:Nat}{V w w':ak}(h:SA B w w')(ho:Old V w)(hB:V.heap.size<=B):Old V w':=⟨h.os.trans ho.os,h.output.trans ho.output,by rw[h.size];exact ho.size,fun k hk=>(h.block k oM).trans (ho.block k hk)⟩
theorem Yt(T:Quiet P)(C:Cf){B:Nat}(cs cs':Array aj){t:TypeId}(l:List Nat)(hF:ik n a0 base)(hF2:ik n a0 dz)(hB:W.heap[B]?=some (.cells cs t (0,0)))(hk:∀w a,(∀V,Old V W->V.heap.size<=B->Old V w)->w.heap[B]?=some (.cells cs' t (0,0))->ik n a dz->eC P aM Q (bP (i+1) m) a w)(he:(Ay P aM base C n dz i none,(stores P (execOp (qZ base []) (opAt aM i))).map fun q=>(q.map (·.1),(q.all fun p=>Nat.blt p.2.1 cs.size),AB cs q))=(true,some (l.map fun _=>B,true,cs')):=by kernel_rfl):eC P aM Q (bP i (m+1)) a0 W:=by
 obtain⟨h1,h2⟩:=Yu C cs cs' hB l he
 exact ZB T C none (R:=fun v w=>(∀V,Old V W->V.heap.size<=B->Old V w)/\w.heap[B]?=some (.cells cs' t (0,0))) hF hF2 h1 (fun w hw=>by
  obtain⟨w',g1,g2,g3⟩:=h2 w ((hw.block B (ah.1 hB).1).trans hB)
  exact .skip g1 ⟨fun V hV hs=>g3.old (hV.trans hw) hs,g2⟩) fun v w h a hl=>hk w a h.1 h.2 hl
end
end
end Go.Lag
namespace Go.Proofs.YtffladgmkiimjaaGreatDoor
open Go.RowKit Go.Lag
end Go.Proofs.YtffladgmkiimjaaGreatDoor
