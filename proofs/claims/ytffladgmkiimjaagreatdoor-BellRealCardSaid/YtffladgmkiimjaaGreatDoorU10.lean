/- pick (95): beside leavers. What good is handed. pick (95): its end, be .. -/
import Derived.Test.YtffladgmkiimjaaGreatDoorU09
import Derived.Test.YtffladgmkiimjaaGreatDoorU03
set_option linter.all false
set_option maxHeartbeats 0
set_option maxRecDepth 1000000
open Go.Lag.Yields renaming call -> jO
open Array renaming getElem?_eq_some_iff -> ah,replicate -> bF,replicate_zero -> ki,replicate_succ -> kj
open Go renaming results_cell_row -> Hw,Program -> aN,Value -> aj,World -> ak,undef -> aw,bodyPost_ret -> bj,Calls -> bm,Question -> dQ,Tmp -> jR
open Go.Ending renaming returned -> aY
open Go.IntKind renaming i64 -> af
open Go.Lib renaming hid -> ai
open Go.Obj renaming cells -> au
open Go.Operand renaming tmp -> aL
open Go.Proofs.Tryz renaming underlying23 -> B_,prog -> aq,underlying28 -> cM,underlying122 -> jl
open Go.RowKit renaming Below -> fV
open Go.RowKit.Below renaming refl -> aB,heap_setCell -> bu
open Go.Value renaming int -> aD,bool -> aI,agg -> aR,slice -> ae,int -> ag,oneCell' -> cD,tuple -> cH,ownBlock -> jy
open Go.World renaming alloc_heap_new -> az,size_alloc -> dY
open List renaming range -> aS,mem_append -> bB,range' -> bN,take_succ_eq_append_getElem -> bO,getElem_mem -> bQ,mem_range -> bV,length_pos_iff -> cN,take_of_length_le -> di,length_cons -> fh,getD_cons_zero -> gH,getD_cons_succ -> gI,cons_append -> gY,append_toArray -> iH,size_toArray -> jM,push_toArray -> jN,nil_append -> kC,mem_flatMap -> lg,map -> nh,length_nil -> oO
open List.range renaming loop -> cA
open Nat renaming reduceSub -> DI,reduceAdd -> DJ,le_refl -> aO,lt_of_lt_of_le -> bw,zero_add -> dh
open Option.some renaming inj -> bp
open Or renaming inl -> cJ
open Prod.mk renaming injEq -> iq
namespace Go.Proofs.YtffladgmkiimjaaGreatDoor
open Go.RowKit Go.Lag
open Go.Conc
def Oo(u:aj):Prop:=(∃k n,u=.int k n)\/∃s,u=.string s
def Plain(w:ak)(v:aj):Prop:=∀g,v.ownBlock=some g->1<=g/\∃cs e z,w.heap[g]?=some (.cells cs e z)/\∀u∈cs,Oo u
def Plain.old{w w':ak}{v:aj}(h:Plain w v)(ho:Old w w'):Plain w' v:=fun g hg=>by
 obtain⟨h1,cs,e,z,h2,h3⟩:=h g hg;exact⟨h1,cs,e,z,(ho.block g (eR h2)).trans h2,h3⟩
def cQ.old{b:BB}{bq aM aC:aj}{ml:List Mn}{ss:List Int}{ms:List Mk}{w w':ak}(h:cQ b bq aM aC ml ss ms w)(ho:Old w w'):cQ b bq aM aC ml ss ms w':=
 ⟨h.ok,h.gS,h.mE,h.kI,h.rm.old ho,h.rs.old ho,h.rk.old ho⟩
def Laid.old{w w':ak}(h:Laid w)(hb:Old w w'):Laid w':=
 ⟨(hb.cell (a:=⟨0,0,none⟩) h.lt).trans h.c0,(hb.cell (a:=⟨0,1,none⟩) h.lt).trans h.c1,(hb.cell (a:=⟨0,2,none⟩) h.lt).trans h.c2,(hb.cell (a:=⟨0,3,none⟩) h.lt).trans h.c3,(hb.cell (a:=⟨0,4,none⟩) h.lt).trans h.c4,bw h.lt hb.size⟩
def iv.old{w w':ak}{base:Nat}{v:aj}{l:List dS}(h:iv w base v l)(ho:Old w w'):iv w' base v l:=h.at_ fun g hg=>ho.block g (h.1.lt g hg).2
def RI{w:ak}{base:Nat}{v:aj}{l:List dS}(h:iv w base v l)(hb:1<=base):Plain w v:=fun g hg=>by
 obtain⟨cur,h1,h2⟩:=h.2 g hg;have h3:=(h.1.lt g hg).1;exact⟨oM,cur,_,_,h1,fun u hu=>.inl ⟨_,h2 u hu⟩⟩
def IG(ok:dS->Bool):∀(r:List Mn) (kr:Nat) (a:dS),a.Ok->(∀m∈r,1<=m.lo/\m.hi<=99)->∀x∈leaves ok r kr a,x.Ok
 |[],kr,a,ha,_,x,hx=>by
  simp only[leaves] at hx;split at hx
  .simp at hx;subst hx;exact ha
  cases hx
 |m::r,kr,a,ha,hm,x,hx=>by
  simp only[leaves,lg] at hx;obtain⟨n,hn,hx⟩:=hx;simp only[gu,List.mem_map,bV] at hn;obtain⟨i,hi,rfl⟩:=hn;have:=hm m sM;exact IG ok r (kr+1) _ (dS.Oe ha kr oM oM) (fun m' h=>hm m' (by simp[h])) x hx
def oz{b:BB}{ml:List Mn}{ss:List Int}{ms:List Mk}(hb:b.Ok)(hm:yf ml):∀x∈bf b ml ss ms,x.Ok:=by
 intro x hx;simp only[bf,lg] at hx;obtain⟨n,hn,hx⟩:=hx;simp only[gu,List.mem_map,bV] at hn;obtain⟨i,hi,rfl⟩:=hn;have:=hb.leak;exact IG _ ml 0 ⟨b.ll+i,0,0,0⟩ ⟨⟨by show 0<=b.ll+i;omega,by show b.ll+(i:Int)<=400;omega⟩,sM,sM,sM⟩ (fun m h=>⟨(hm.mem m h).2.1,(hm.mem m h).2.2.2.1⟩) x hx
def YN{b:BB}{bq aM aC all:aj}{ml:List Mn}{l:List dS}{ss:List Int}{ms:List Mk}{W:ak}(hB:cQ b bq aM aC ml ss ms W)(hl:∀x∈l,x.Ok)(h1:Plain W bq)(h2:Plain W aM)(h3:Plain W aC)(h4:Plain W all)
  (ha:Reads W all l.length (rowOf l)) (hg:1<=W.heap.size):∃Y,WW aq b bq aM aC all l ss ms Y W:=by
 have hm:=hB.ok.minutes
 have vr:∀(Y:Nat->Prop) (v:aj) (n:Nat) (xs:List aj),Reads W v n xs->(∀g,v.ownBlock=some g->Y g)->VR fw (yG Y) v v/\mX Y W v n xs:=by
  intro Y v n xs hr hy;rcases hr with⟨rfl,rfl,rfl⟩|⟨g,off,cap,rfl,h,hg,hc⟩
  .exact⟨.EU _ _,.inl ⟨rfl,rfl,rfl⟩⟩
  exact⟨.slice _ _ ⟨v_ (hy g rfl),rfl,rfl⟩,.inr ⟨g,off,cap,rfl,h,hy g rfl,hc⟩⟩
 refine⟨fun k=>bq.ownBlock=some k\/aM.ownBlock=some k\/aC.ownBlock=some k\/all.ownBlock=some k,?_⟩
 have pl:∀(Y:Nat->Prop) (u:aj),Oo u->VR fw (yG Y) u u:=by
  rintro Y u (⟨k,n,rfl⟩|⟨s,rfl⟩)
  .exact .int _ _
  exact .string _
 have m1:=vr (fun k=>bq.ownBlock=some k\/aM.ownBlock=some k\/aC.ownBlock=some k\/all.ownBlock=some k) bq _ _ hB.rm fun g h=>.inl h;have m2:=vr (fun k=>bq.ownBlock=some k\/aM.ownBlock=some k\/aC.ownBlock=some k\/all.ownBlock=some k) aM _ _ hB.rs fun g h=>.inr (.inl h);have m3:=vr (fun k=>bq.ownBlock=some k\/aM.ownBlock=some k\/aC.ownBlock=some k\/all.ownBlock=some k) aC _ _ hB.rk fun g h=>.inr (.inr (.inl h));have m4:=vr (fun k=>bq.ownBlock=some k\/aM.ownBlock=some k\/aC.ownBlock=some k\/all.ownBlock=some k) all _ _ ha fun g h=>.inr (.inr (.inr h))
 have Yu:∀c,(bq.ownBlock=some c\/aM.ownBlock=some c\/aC.ownBlock=some c\/all.ownBlock=some c)->1<=c/\∃cs e z,W.heap[c]?=some (.cells cs e z)/\∀u∈cs,Oo u:=by
  rintro c (h|h|h|h)
  .exact h1 c h
  .exact h2 c h
  .exact h3 c h
  exact h4 c h
 have CY:Tryz.prog.globals.size=1:=kQ
 exact⟨rfl,Tryz.func159,Tryz.func178,kQ,kQ,hB.ok,hl,fun s hs=>by have:=hB.mE.mem s hs;omega,fun m h=>by have:=hB.kI.mem m h;omega,
  fun c hc=>by obtain⟨_,cs,e,z,h,hu⟩:=Yu c hc;exact⟨cs,e,z,h,fun u hu'=>pl _ u (hu u hu')⟩,fun c hc=>by rw[CY];exact(Yu c hc).1,by rw[CY];exact hg,m1.1,m2.1,m3.1,m4.1,m2.2,m3.2,m4.2⟩
def aap(lt:Nat->Nat->Bool)(acc:List Nat)(W:ak)(v:aj)(W':ak):Prop:=
 ∃(x:Nat) (r:List Nat) (lv:aj),(x::r).Perm acc/\v=cH #[lv,aI true,ag af 0]/\Reads W' lv (ik (jQ lt x r)).length ((ik (jQ lt x r)).map (aD af))/\Old W W'
noncomputable def Uf:Code:=sR (sR (sR (sR (match Tryz.f95.body with|some c=>c|_=>.skip))))
def EE{W W':ak}{v:aj}{n:Nat}{xs:List aj}(h:Reads W v n xs)(hb:Bw W W'):Reads W' v n xs:=h.below hb
def Ui(g:FuncId)(lt:Nat->Nat->Bool)(MA:∀(first:Nat),first<512->∀(more:List Nat),(∀x∈more,x<512)->∀(v:aj) (w:ak),Reads w v more.length (more.map fun(p:Nat)=>aD af (p:Int))->
   bm aq 160 #[.func (.func g) #[] #[],ag af first,v] w (Rt w (ag af (jQ lt first more:Nat))))
  (x:Nat) (r:List Nat) (hx:x<512) (hr:∀y∈r,y<512) (out:aj) (W:ak) (ho:Reads W out (x::r).length (ints (x::r))) (acc:List Nat) (hp:(x::r).Perm acc) (W0:ak) (hold:Old W0 W)
  (t0 t2 t7 t8 t10 t11 t12 t13 t14 t15 t16 t17 t18 t19:aj) :
  Uf.wp aq (bodyPost aq Tryz.f95 fun e w'=>∃v,e=aY v/\aap lt acc W0 v w')
   ⟨#[t0,.func (.func g) #[] #[],t2,aw,ae none 0 0,aI false,ag af 0,t7,t8,out,t10,t11,t12,t13,t14,t15,t16,t17,t18,t19,aw,aw,aw,aw,aw,aw,aw,aw,aw,aw,aw],[]⟩ W:=by
 obtain⟨go,oo,cap,rfl,hlen,hgo,hcell⟩:∃go oo cap,out=ae (some ⟨go,oo,none⟩) (r.length+1) cap/\(r.length+1<=4294967296/\r.length+1<=cap)/\go<W.heap.size/\∀j u,(ints (x::r))[j]?=some u->W.cell? ⟨go,oo+j,none⟩=some u:=by
  rcases ho with⟨_,h,_⟩|h
  .simp at h
  exact h
 have HC0:Hid (∀w,Bw W w->w.cell? ⟨go,oo,none⟩=some (ag af x)):=ai fun w hb=>(hb.cell (p:=⟨go,oo,none⟩) hgo).trans (hcell 0 _ (by simp[ints]))
 have Tp:Hid (∀w,Bw W w->Reads w (ae (if cap=1 then some ⟨go,oo,none⟩ else some ⟨go,oo+1,none⟩) r.length (cap-1)) r.length (r.map fun(p:Nat)=>aD af (p:Int))):=ai fun w hb=>
  if h1:cap=1 then by
   have h0:r=[]:=List.eq_nil_of_length_eq_zero oM;subst h0;rw[if_pos h1];exact .inr ⟨go,oo,cap-1,rfl,⟨sM,sM⟩,bw hgo hb.size,fun j u hj=>by simp at hj⟩
  else by
  rw[if_neg h1]
  exact .inr ⟨go,oo+1,cap-1,rfl,oM,bw hgo hb.size,fun j u hj=>(hb.cell (p:=⟨go,_,none⟩) hgo).trans (by
   have:=hcell (j+1) u (by simpa [ints] using hj)
   rwa [show oo+(j+1)=oo+1+j by omega] at this)⟩
 have HBe:=ai MA;have HHx:=ai hr;have HPm:=ai hp;have HOl:=ai hold;clear MA hr hp hold hcell ho;generalize hM:r.length=M at *;have HM:=ai hM;clear hM;have hbl:jQ lt x r<512:=AL lt r x hx HHx.out;have l1:((M:Int)+1==0)=false:=sO;have l2:(1:Int)<=(M:Int)+1:=oM;simp only[Uf,sR,Tryz.f95];go_wp2
 refine cy kQ [
 pV (.func (.func g) #[] #[]),
  pV (ae (some ⟨go,oo,none⟩) (M+1) cap),
  pV (pv go oo),
  pV (ag af x),
  pV (ae (some ⟨go,oo,none⟩) (M+1) cap),
  pV ((ae (if cap=1 then some ⟨go,oo,none⟩ else some ⟨go,oo+1,none⟩) M (cap-1))),
  pV (ag af (jQ lt x r:Nat)),
  fun v ds w9=>Reads w9 v (ik (jQ lt x r)).length ((ik (jQ lt x r)).map (aD af)),
  fun v ds w9=>Reads w9 v (ik (jQ lt x r)).length ((ik (jQ lt x r)).map (aD af)),
  pV (aI true),
  pV (ag af 0)]
  (fun w=>Bw W w) [(1,.func (.func g) #[] #[]),(9,ae (some ⟨go,oo,none⟩) (M+1) cap)] kQ ?rst (fun w1 w2 h hb=>h.trans (hb.mono h.size)) ((aB _ _).drew) ⟨rfl,rfl,trivial⟩ ?reach ?rfin
 case rst=>
  refine⟨sV,sV,sV,sV,sV,sV,sV,?_,?_,sV,sV,trivial⟩
  .rintro v ds w1 w2 hS h hb;exact EE h hb
  rintro v ds w1 w2 hS h hb;exact EE h hb
 case reach=>
  refine⟨?_,?_,?_,?_,?_,?_,?_,?_,?_,?_,?_,trivial⟩<;>rintro ev w1 hS hc hg hf ⟨b1,b9,-⟩ hd
  .exact tV
  .exact tV
  .have d1:ev (aL 24)=_:=hd.1 rfl;exact tV
  .have d2:ev (aL 25)=_:=hd.1 rfl;have z:=HC0.out w1 hS;exact tV
  .exact tV
  .have d4:ev (aL 27)=_:=hd.1 rfl;exact tV
  .have d0:ev (aL 23)=_:=hd.1 rfl;have d3:ev (aL 26)=_:=hd.2.1 rfl;have d5:ev (aL 28)=_:=hd.2.2.1 rfl;refine yc (args:=#[.func (.func g) #[] #[],ag af x,(ae (if cap=1 then some ⟨go,oo,none⟩ else some ⟨go,oo+1,none⟩) M (cap-1))]) (HBe.out x hx r HHx.out _ _ (by have:=Tp.out w1 hS;rw[<-HM.out] at this;rw[<-HM.out];exact this)) ?_ fun _=>rfl;go_simp
  .have d6:ev (aL 29)=_:=hd.1 rfl;refine jO (f:=99) (args:=#[ag af (jQ lt x r:Nat)]) ?_ (tL _ hbl _) ?_
   .go_simp
   rintro e w2 ⟨v,rfl,h1,hb⟩;exact⟨_,rfl,h1,cJ hb⟩
  .exact yv rfl (hd.1 rfl)
  .exact tV
  exact tV
 case rfin=>
  intro a2 w2 hR;have hS:=hR.s;have e8:Reads w2 (a2.tmps.getD 4 aw) (ik (jQ lt x r)).length ((ik (jQ lt x r)).map (aD af)):=hR.val 8;have e9:a2.tmps.getD 5 aw=_:=hR.val 9;have Pe:a2.tmps.getD 6 aw=_:=hR.val 10;have ha:=hR.lits 31 rfl;simp only[aS,cA,nh] at ha;clear hR;rw[e9,Pe] at ha;generalize a2.tmps.getD 4 aw=lv at *;generalize a2.tmps.getD=zz at ha;have ak4:Hid (Old W w2):=ai (Old.of_below hS);have HE8:=ai e8;clear e8 e9 Pe hS;subst ha;go_wp2
  go_ret3
  exact⟨_,rfl,x,r,lv,HPm.out,rfl,HE8.out,HOl.out.trans ak4.out⟩
def n9{P:aN}(T:Quiet P){x y:Code}{Q:Exit->Act->ak->Prop}{a:Act}{W:ak}(hf:∀e a w,Q e a w->rT e=true)(Q1:Act->ak->Prop)(hx:∀I d,x.wp P (fun e a w=>e=.normal/\Q1 a w) a (dH W I d))(hy:∀a w,Q1 a w->vI P y Q a w):vI P (.seq x y) Q a W:=
 QY T (fun e a w _ h=>hf e a w h) fun I d=>wp_mono (hx I d) (by rintro e a w ⟨rfl,h⟩;exact hy a w h)
def w_{W W':ak}{I:Nat->dQ->Nat}{d:Nat}(h:Old W (dH W' I d)):Old W W':=⟨h.os,h.output,h.size,h.block⟩
def EP{W W':ak}{I:Nat->dQ->Nat}{d:Nat}(h:Old (dH W I d) W'):Old W W':=⟨h.os,h.output,h.size,h.block⟩
def mY{W W':ak}(I:Nat->dQ->Nat)(d:Nat)(h:Old W W'):Old W (dH W' I d):=⟨h.os,h.output,h.size,h.block⟩
def vX(b:BB)(bq aM aC:aj)(w:ak):bm aq 122 #[aR (b.cells bq aM aC)] w (Rt w (ag af 0)):=by
 go_enter Tryz.func122,Tryz.ntmps122
 go_wp2
 go_ret
 exact⟨rfl,dx⟩
structure Pk0(W:ak)(B:Nat)(cs:Array aj)(T:TypeId)(w:ak):Prop where
 old:Old W w
 blk:w.heap[B]?=some (au cs T (0,0))
structure Pk1(W:ak)(b:BB)(bq aM aC:aj)(all:List dS)(B7:Nat)(v:aj)(w:ak):Prop where
 old:Old W w
 blk:w.heap[B7]?=some (au (b.open bq aM aC v) 122 (0,0))
 own:iv w W.heap.size v all
section
variable{b:BB}{bq aM aC:aj}{ml:List Mn}{ss:List Int}{ms:List Mk}{W:ak}
theorem Uj(g:FuncId)(lt:Nat->Nat->Bool)(hL:Laid W)(hB:cQ b bq aM aC ml ss ms W)(p1:Plain W bq)(p2:Plain W aM)(p3:Plain W aC)(hne:bf b ml ss ms≠[])
  (yL:j_ b (dD ss ms).toNat (bJ ss) (bf b ml ss ms) 512≠[]) (hlt:∀x∈j_ b (dD ss ms).toNat (bJ ss) (bf b ml ss ms) 512,x<512)
  (MA:∀(first:Nat),first<512->∀(more:List Nat),(∀x∈more,x<512)->∀(v:aj) (w:ak),Reads w v more.length (more.map fun(p:Nat)=>aD af (p:Int))->
   bm aq 160 #[.func (.func g) #[] #[],ag af first,v] w (Rt w (ag af (jQ lt first more:Nat)))) :
  j5 aq 95 #[aR (b.cells bq aM aC),.func (.func g) #[] #[]] W (aap lt (j_ b (dD ss ms).toNat (bJ ss) (bf b ml ss ms) 512) W):=by
 refine lr quiet Tryz.func95 rfl ?hR ?body
 case hR=>
  rintro v W' I d ⟨x,r,lv,h1,h2,h3,h4⟩;exact⟨x,r,lv,h1,h2,h3,w_ h4⟩
 simp only[Tryz.ntmps95,jM,fh,oO,DJ,DI,kj,ki,jN,iH,kC,gY];refine n9 quiet aW (fun a w=>a=⟨#[aR (b.cells bq aM aC),.func (.func g) #[] #[],pv W.heap.size 0,aw,ae none 0 0,aI false,ag af 0,aw,aw,aw,aw,aw,aw,aw,aw,aw,aw,aw,aw,aw,aw,aw,aw,aw,aw,aw,aw,aw,aw,aw,aw],[]⟩/\Pk0 W W.heap.size (b.cells bq aM aC) 28 w) (fun I d=>?_) ?_
 .go_wp2;exact⟨EP (qs _ _),az (dH W I d) _⟩
 rintro a W1 ⟨rfl,⟨o1,x1⟩⟩;have jX:0<(bf b ml ss ms).length:=cN.2 hne;refine n9 quiet aW (fun a w=>∃(B7:Nat) (v t10 t11 t12 t13 t14:aj),a=⟨#[aR (b.cells bq aM aC),.func (.func g) #[] #[],pv W.heap.size 0,aw,ae none 0 0,aI false,ag af 0,pv B7 0,ag af 0,aw,t10,t11,t12,t13,t14,aw,aw,aw,aw,aw,aw,aw,aw,aw,aw,aw,aw,aw,aw,aw,aw],[]⟩/\Pk1 W b bq aM aC (bf b ml ss ms) B7 v w) (fun I d=>?_) ?_
 .have o1':Old W (dH W1 I d):=mY I d o1;obtain⟨c0,c1,c2,c3,c4,c5,c6,c7,c8,c9,c10,c11,c12,c13,c14⟩:=cg (w:=dH W1 I d) x1;have HO:=ai (uv b bq aM aC ml ss ms (dH W1 I d) (hL.old o1') (hB.old o1') hne (fun W' _=>vX b bq aM aC W'));have HO1:=ai o1';obtain⟨pm,cm,rfl,_⟩:=aT hB.rm;obtain⟨pn,cn,rfl,_⟩:=aT hB.rs;obtain⟨pk,ck,rfl,_⟩:=aT hB.rk;clear hL hB p1 p2 p3 hne yL hlt MA o1 o1' x1;generalize bf b ml ss ms=all at *;generalize ml.length=lm at *;generalize ss.length=ln at *;generalize ms.length=lk at *;generalize hW1:dH W1 I d=W2 at *
  go_wp2_with (first
   |(go_at_call 103;refine HO.out.mono ?_;clear HO;rintro e w3 ⟨v,rfl,jc,hb3⟩
     obtain⟨gv,pg,rfl⟩:∃gv pg,v=ae (some ⟨gv,0,none⟩) all.length pg:=by
      rcases jc.1.2 with⟨_,h0⟩|⟨g,cap,cur,rfl,_⟩
      .omega
      exact⟨g,cap,rfl⟩
     have NC:=ai jc;have pF:=ai hb3;clear jc hb3))
  have o3:Old W w3:=HO1.out.trans (Old.of_below pF.out);exact⟨_,o3.trans (qs _ _),az w3 _,(NC.out.base HO1.out.size).old (qs _ _)⟩
 rintro a W2 ⟨B7,v,t10,t11,t12,t13,t14,rfl,⟨o2,x2,jc⟩⟩;refine n9 quiet aW (fun a w=>a=⟨#[aR (b.cells bq aM aC),.func (.func g) #[] #[],pv W.heap.size 0,aw,ae none 0 0,aI false,ag af 0,pv B7 0,ag af 0,aw,t10,t11,t12,t13,t14,ag af 0,aI false,aw,aw,aw,aw,aw,aw,aw,aw,aw,aw,aw,aw,aw,aw],[]⟩/\Pk1 W b bq aM aC (bf b ml ss ms) B7 v w) (fun I d=>?_) ?_
 .go_wp2;exact⟨mY _ _ o2,x2,jc⟩
 rintro a W3 ⟨rfl,⟨o3,x3,aiD⟩⟩;clear o2 x2 jc;refine jE quiet (uh quiet ?_);refine gF (i:=0) (rest:=[1,2]) quiet rfl rfl fun I d=>?_;refine wp_load_row 122 (aL 7) rfl B7 rfl 122 _ (0,0) _ (w:=dH W3 I d) x3 jl rfl kQ ?_;have QB:=hB.old (mY I d o3);have aeQ:iv (dH W3 I d) W.heap.size v (bf b ml ss ms):=aiD;have hW1:1<=W.heap.size:=hL.lt;obtain⟨Y,hG⟩:=YN (all:=v) (l:=bf b ml ss ms) QB (oz hB.ok hB.gS) (p1.old (mY I d o3)) (p2.old (mY I d o3)) (p3.old (mY I d o3)) (RI aeQ hW1) (aeQ.reads (by have:=iR ss ms hB.ok hB.gS;omega)) (Nat.le_trans hW1 o3.size);refine rJ (i:=1) (rest:=[2]) quiet rfl rfl (f:=159) (args:=#[aR (b.open bq aM aC v)]) (fun w=>by kernel_rfl) (ab8 hG) ?_;rintro out W4 _ ⟨kV,hr,hperm,ho4⟩;have o4:Old W W4:=(mY I d o3).trans ho4;refine gF (i:=2) (rest:=[]) quiet rfl rfl fun τ1 d1=>?_;show eA aq _ _ [] _ _
 have aiH:kV≠[]:=by
  rintro rfl;exact yL hperm.symm.eq_nil
 obtain⟨x,r,rfl⟩:∃x r,kV=x::r:=by
  cases kV with
  |nil=>exact(aiH rfl).elim
  |cons x r=>exact⟨x,r,rfl⟩
 have hx:=hlt x (hperm.subset sM);have hr2:∀y∈r,y<512:=fun y hy=>hlt y (hperm.subset (by simp[hy]));refine rI (l:=[]) quiet (fun e a w h=>by cases e<;>first|rfl|exact(h:False).elim) fun τ2 d2=>?_;refine kO quiet aW fun τ3 d3=>yB ?_;have hend:=Ui g lt MA x r hx hr2 out (dH (dH (dH W4 τ1 d1) τ2 d2) τ3 d3) hr _ hperm W ⟨o4.os,o4.output,o4.size,o4.block⟩ (aR (b.cells bq aM aC)) (pv W.heap.size 0) (pv B7 0) (ag af 0) t10 t11 t12 t13 t14 (ag af 0) (aI false) aw (aR (b.open bq aM aC v)) out;exact hend
end
def Kw(p:Option Addr)(n cap:Nat)(w:ak):bm aq 104 #[ae p n cap] w fun e w'=>e=aY (.func (.func 164) #[] #[pv w.heap.size 0])/\w'=w.alloc (au #[ae p n cap] 25):=by
 go_enter Tryz.func104,Tryz.ntmps104
 go_wp2
 go_ret
 exact⟨rfl,rfl⟩
def D_(b:BB)(hb:b.Ok)(bq aM aC:aj)(pl:List Int)(hp:fM b pl)(cp:Nat)(lv:aj)(w:ak)(wA:w.heap[cp]?=some (au #[lv] 25 (0,0)))(hl:Reads w lv pl.length (pl.map (aD af))) :
  bm aq 164 #[aR (b.cells bq aM aC),pv cp 0] w (Rt w (ag af 0)):=by
 have b1:Bw w (w.alloc (au (b.cells bq aM aC) 119)):=dx;have lp:=(ah.1 wA).1;have x1:=aK ((b1.block _ lp).trans wA) 0 _ rfl;have Xt:=ai (qL b hb bq aM aC lv pl hp _ (hl.below b1));have wO:=ai b1;clear wA hl hp b1
 go_enter Tryz.func164,Tryz.ntmps164
 go_wp2_with (go_at_call 113;refine Xt.out.mono ?_;clear Xt;rintro e w1 ⟨rfl,hb1⟩;have nS:=ai hb1;clear hb1)
 go_ret
 exact⟨rfl,wO.out.trans (nS.out.mono wO.out.size)⟩
def BB.dep(b:BB)(d:Int):BB:={ b with depth:=d }
def BB.acE{b:BB}(h:b.Ok){d:Int}(h1:0<=d)(h2:d<=99):(b.dep d).Ok:=⟨h.room,⟨h1,h2⟩,h.least,h.minutes,h.bS,h.iU,h.eI,h.iO,h.leak,h.Oh⟩
def o8(b:BB)(all:List dS)(p:Nat):Nat->Option Nat
 |0=>none
 |n+1=>if (b.dep n).sure all p then some n else o8 b all p n
def aak(o:Option Nat):aj × Bool:=match o with|some n=>(ag af n,true)|none=>(ag af 0,false)
def PS(b:BB)(bq aM aC:aj)(ml:List Mn)(ss:List Int)(ms:List Mk)(w:ak)(hL:Laid w)(hB:cQ b bq aM aC ml ss ms w)(hne:bf b ml ss ms≠[])(pl:List Int)(hp:fM b pl)(lv:aj)(hl:Reads w lv pl.length (pl.map (aD af))) :
  bm aq 25 #[aR (b.cells bq aM aC),lv] w (Rt w (cH #[(aak (o8 b (bf b ml ss ms) (bJ pl) 100)).1,aI (aak (o8 b (bf b ml ss ms) (bJ pl) 100)).2,ag af 0])):=by
 have hlen:=iR ss ms hB.ok hB.gS;have jX:0<(bf b ml ss ms).length:=cN.2 hne;have hok:=hB.ok;have hao:=oz (ss:=ss) (ms:=ms) hB.ok hB.gS;have xu:=hok.minutes;have nQ:∀s∈pl,1<=s/\s<=8:=fun s h=>by have:=hp.mem s h;omega
 have DW:bJ pl<512:=mM pl nQ;obtain⟨pm,cm,rfl,_⟩:=aT hB.rm;obtain⟨pn,cn,rfl,_⟩:=aT hB.rs;obtain⟨pk,ck,rfl,_⟩:=aT hB.rk;obtain⟨qJ,qX,rfl,_⟩:=aT hl;have b1:Bw w (w.alloc (au (b.sl pm ml.length cm pn ss.length cn pk ms.length ck) 28)):=dx;have hk:=az w (au (b.sl pm ml.length cm pn ss.length cn pk ms.length ck) 28)
 have WI:Hid (∀W cp,Bw w W->W.heap[cp]?=some (au #[ae qJ pl.length qX] 25 (0,0))->bm aq 103 #[aR (b.sl pm ml.length cm pn ss.length cn pk ms.length ck),.func (.func 164) #[] #[pv cp 0]] W fun e w'=>∃v,e=aY (cH #[aR (b.open (ae pm ml.length cm) (ae pn ss.length cn) (ae pk ms.length ck) v),ag af 0])/\iv w' W.heap.size v (bf b ml ss ms)/\Bw W w'):=
  ai fun W cp KR Vg=>DR b _ _ _ ml ss ms W (hL.below KR) (hB.below KR) hne cp fun W' hb'=>by
   have hlt:=(ah.1 Vg).1;exact D_ b hok _ _ _ pl hp cp _ W' ((hb'.block _ hlt).trans Vg) ((hl.below KR).below hb')
 have KU:=ai hl;have Tr:=ai hao;have Zo:=ai nQ;clear hL hB hl hao hp nQ;generalize bf b ml ss ms=all at *;generalize ml.length=lm at *;generalize ss.length=ln at *;generalize ms.length=lk at *
 go_enter Tryz.func25,Tryz.ntmps25
 go_wp2
 refine cy kQ [
 pV (aR (b.sl pm lm cm pn ln cn pk lk ck)),
  pV (ae qJ pl.length qX),
  fun v ds w9=>∃cp,v=.func (.func 164) #[] #[pv cp 0]/\w9.heap[cp]?=some (au #[ae qJ pl.length qX] 25 (0,0)),
  fun v ds w9=>∃gv cv,v=cH #[aR (b.open (ae pm lm cm) (ae pn ln cn) (ae pk lk ck) (ae (some ⟨gv,0,none⟩) all.length cv)),ag af 0]/\iv w9 w.heap.size (ae (some ⟨gv,0,none⟩) all.length cv) all,
  fun v ds w9=>∃gv cv,v=cH #[aR (b.open (ae pm lm cm) (ae pn ln cn) (ae pk lk ck) (ae (some ⟨gv,0,none⟩) all.length cv)),ag af 0]/\iv w9 w.heap.size (ae (some ⟨gv,0,none⟩) all.length cv) all,
  fun v ds w9=>∃gv cv,v=aR (b.open (ae pm lm cm) (ae pn ln cn) (ae pk lk ck) (ae (some ⟨gv,0,none⟩) all.length cv))/\iv w9 w.heap.size (ae (some ⟨gv,0,none⟩) all.length cv) all,
  pV (ag af 0),
  fun v ds w9=>∃k,∃z:Array aj,v=pv k 0/\w.heap.size+1<=k/\w9.heap[k]?=some (au z 122 (0,0))/\z.size=16,
  fun v ds w9=>∃k gv cv,ds[0]?=some (pv k 0)/\w.heap.size+1<=k/\w9.heap[k]?=some (au (b.open (ae pm lm cm) (ae pn ln cn) (ae pk lk ck) (ae (some ⟨gv,0,none⟩) all.length cv)) 122 (0,0))/\iv w9 w.heap.size (ae (some ⟨gv,0,none⟩) all.length cv) all,
  pV (ag af 0)]
  (fun w9=>w9.heap[w.heap.size]?=some (au (b.sl pm lm cm pn ln cn pk lk ck) 28 (0,0))/\Bw w w9) [(2,pv w.heap.size 0),(1,ae qJ pl.length qX)] kQ ?rst (fun w1 w2 h hb=>⟨(hb.block _ (ah.1 h.1).1).trans h.1,h.2.trans (hb.mono h.2.size)⟩) (⟨hk,b1.drew⟩) ⟨rfl,rfl,trivial⟩ ?reach ?rfin
 case rst=>
  refine⟨sV,sV,?_,?_,?_,?_,sV,?_,?_,sV,trivial⟩
  .rintro v ds w1 w2 hS ⟨cp,h1,h2⟩ hb;exact⟨cp,h1,(hb.block _ (ah.1 h2).1).trans h2⟩
  .rintro v ds w1 w2 hS ⟨gv,cv,h1,h2⟩ hb;exact⟨gv,cv,h1,h2.at_ fun g hg=>hb.block g (h2.1.lt g hg).2⟩
  .rintro v ds w1 w2 hS ⟨gv,cv,h1,h2⟩ hb;exact⟨gv,cv,h1,h2.at_ fun g hg=>hb.block g (h2.1.lt g hg).2⟩
  .rintro v ds w1 w2 hS ⟨gv,cv,h1,h2⟩ hb;exact⟨gv,cv,h1,h2.at_ fun g hg=>hb.block g (h2.1.lt g hg).2⟩
  .rintro v ds w1 w2 hS ⟨k,z,h1,h2,h3,h4⟩ hb;exact⟨k,z,h1,h2,(hb.block _ (ah.1 h3).1).trans h3,h4⟩
  rintro v ds w1 w2 hS ⟨k,gv,cv,h1,h0,h3,h2⟩ hb;exact⟨k,gv,cv,h1,h0,(hb.block _ (ah.1 h3).1).trans h3,h2.at_ fun g hg=>hb.block g (h2.1.lt g hg).2⟩
 case reach=>
  refine⟨?_,?_,?_,?_,?_,?_,?_,?_,?_,?_,trivial⟩<;>rintro ev w1 hS hc hg hf ⟨b2,b1,-⟩ hd
  .have x0:=cg hS.1;exact tV
  .exact tV
  .have d1:ev (aL 10)=_:=hd.1 rfl;refine jO (f:=104) (args:=#[ae qJ pl.length qX]) ?_ (Kw _ _ _ _) ?_
   .go_simp
   rintro e w2 ⟨rfl,rfl⟩;exact⟨_,rfl,⟨_,rfl,az _ _⟩,cJ dx⟩
  .have d0:ev (aL 9)=_:=hd.1 rfl;obtain⟨cp,Gv,wA⟩:=hd.2.1 rfl;replace Gv:ev (aL 11)=_:=Gv;refine jO (f:=103) (args:=#[aR (b.sl pm lm cm pn ln cn pk lk ck),.func (.func 164) #[] #[pv cp 0]]) ?_ (WI.out w1 cp hS.2 wA) ?_
   .go_simp
   rintro e w2 ⟨v,rfl,jc,hb⟩
   obtain⟨gv,cv,rfl⟩:∃gv cv,v=ae (some ⟨gv,0,none⟩) all.length cv:=by
    rcases jc.1.2 with⟨_,h0⟩|⟨g,cap,cur,rfl,_⟩
    .omega
    exact⟨g,cap,rfl⟩
   exact⟨_,rfl,⟨gv,cv,rfl,jc.base hS.2.size⟩,cJ hb⟩
  .exact yv rfl (hd.1 rfl)
  .obtain⟨gv,cv,e11,jc⟩:=hd.1 rfl;replace e11:ev (aL 8)=_:=e11;refine yv ?_ (⟨gv,cv,rfl,jc⟩);go_simp
  .obtain⟨gv,cv,e11,jc⟩:=hd.1 rfl;replace e11:ev (aL 8)=_:=e11;exact tV
  .refine Lag.Yields.value (v:=pv w1.heap.size 0) (w':=w1.alloc (au iE 122)) ?_ ⟨⟨_,_,rfl,(ah.1 hS.1).1,az _ _,rfl⟩,cJ dx⟩;go_simp
  .obtain⟨k,z,e6,qT,hk2,hz⟩:=hd.1 rfl;replace e6:ev (aL 7)=_:=e6;obtain⟨gv,cv,Pd,jc⟩:=hd.2.1 rfl;replace Pd:ev (aL 13)=_:=Pd;have DZ:∀g cs t,w1.heap[g]?=some (au cs t (0,0))->t≠122->g≠k:=by rintro g cs t h1 h2 rfl;rw[hk2] at h1;cases h1;exact h2 rfl
   have Fj:∀(v:aj),iv w1 w.heap.size v all->iv (w1.setRow k (b.open (ae pm lm cm) (ae pn ln cn) (ae pk lk ck) (ae (some ⟨gv,0,none⟩) all.length cv))) w.heap.size v all:=fun v ho=>ho.at_ fun g hg=>setRow_other (by
    obtain⟨cur,q1,_⟩:=ho.2 g hg
    exact DZ g _ _ q1 dC)
   refine Lag.Yields.nt 122 _ _ rfl k _ e6 Pd 122 z hk2 kQ hz (by simp[cD]) ⟨⟨k,gv,cv,congrArg some e6,qT,dg hk2,Fj _ jc⟩,.inr ⟨⟨(setRow_other oM).trans hS.1,dA hS.2 oM⟩,?_⟩⟩;intro j u ds hj hp
   match j,hp with
   |0,hp|1,hp=>exact hp
   |2,⟨cp,h1,h2⟩=>exact⟨cp,h1,(setRow_other (DZ _ _ _ h2 dC)).trans h2⟩
   |3,⟨Fu,FI,h1,h2⟩=>exact⟨Fu,FI,h1,Fj _ h2⟩
   |4,⟨Fu,FI,h1,h2⟩=>exact⟨Fu,FI,h1,Fj _ h2⟩
   |5,⟨Fu,FI,h1,h2⟩=>exact⟨Fu,FI,h1,Fj _ h2⟩
   |6,hp=>exact hp
   |7,⟨k',z',h1,h2,h3,h4⟩=>
    by_cases s5:k'=k
    .subst s5;exact⟨k',_,h1,h2,dg h3,rfl⟩
    exact⟨k',z',h1,h2,(setRow_other s5).trans h3,h4⟩
   |8,_=>exact(hj rfl).elim
   |9,hp=>exact hp
   |j+10,_=>trivial
  have d6:ev (aL 14)=_:=hd.1 rfl;refine yv (v:=ev (aL 14)) ?_ (d6);rfl
 case rfin=>
  intro a2 w2 hR;have hS:=hR.s;obtain⟨k,gv,cv,VQ,qT,hk2,jc⟩:=hR.val 8;have e9:a2.tmps.getD 6 aw=_:=hR.val 9;have ha:=hR.lits 42 rfl;simp only[aS,cA,nh] at ha;rw[hR.kp 1,hR.kp 2,hR.kp 4,hR.kp 5] at ha;simp only[kY,gI,gH] at ha;clear hR;have e6:a2.tmps.getD 7 aw=pv k 0:=bp VQ;rw[e6,e9] at ha;generalize a2.tmps.getD=zz at ha;clear e6 VQ e9;subst ha;have tS:=hS.1;have sH:=hS.2;clear hS;have y1:=aK hk2 1 _ rfl;have f1:=cZ hk2 1
  have ZV:gv≠k:=by
   obtain⟨cur,q1,_⟩:=jc.2 gv rfl;rintro rfl;rw[hk2] at q1;cases q1
  have Hu:=ai hk2;have NC:=ai jc;have Gj:=ai sH;clear hk2 jc sH tS hk b1 WI;go_wp2
  go_loopw [24] (fun _ wr=>∃n:Nat,n<=100/\wr.heap[k]?=some (au ((b.dep ((n:Int)-1)).open (ae pm lm cm) (ae pn ln cn) (ae pk lk ck) (ae (some ⟨gv,0,none⟩) all.length cv)) 122 (0,0))/\iv wr w.heap.size (ae (some ⟨gv,0,none⟩) all.length cv) all/\Bw w wr/\o8 b all (bJ pl) 100=o8 b all (bJ pl) n) (fun _ wr=>(intOf ((wr.cell? ⟨k,1,none⟩).getD aw)+1).toNat)
  case atStart=>
   refine⟨100,oM,dc _ Hu.out,NC.out.at_ fun g hg=>bu _ _ _ _ ?_,Gj.out.setCell (p:=⟨k,1,none⟩) (by show _<=k;omega) _,rfl⟩;have:g=gv:=by simpa [jy] using hg.symm
   subst this;exact ZV
  case round=>
   obtain⟨n,hn,Yz,jc,sH,My⟩:=hrel;have z1:=aK Yz 1 _ rfl;have f1:=cZ Yz 1;have Ab:=(ah.1 Yz).1
   by_cases h0:0<n
   .obtain⟨m,rfl⟩:∃m,n=m+1:=⟨n-1,oM⟩
    have hd:(b.dep (((m+1:Nat):Int)-1))=b.dep m:=by congr 1;omega
    have hz:(((m+1:Nat):Int)-1)=m:=oM;rw[hz] at Yz z1;have z2:wr.cell? ⟨k,1,none⟩=some (ag af m):=z1;clear z1 hz hd;have hSu:=fun W (hb:Bw wr W)=>yo (b.dep m) (BB.acE hok oM oM) (ae pm lm cm) (ae pn ln cn) (ae pk lk ck) (ae (some ⟨gv,0,none⟩) all.length cv) all Tr.out (bJ pl) DW W ((jc.reads oM).below hb);have HSu:=ai hSu
    have Ht:Hid (∀w9,Bw wr w9->w9.heap[k]?=some (au ((b.dep m).open (ae pm lm cm) (ae pn ln cn) (ae pk lk ck) (ae (some ⟨gv,0,none⟩) all.length cv)) 122 (0,0))/\Reads w9 (ae qJ pl.length qX) pl.length (pl.map (aD af))):=ai fun w9 O5=>
     ⟨(O5.block _ Ab).trans Yz,KU.out.below (sH.trans (O5.mono sH.size))⟩
    have hdp:o8 b all (bJ pl) (m+1)=if (b.dep m).sure all (bJ pl) then some m else o8 b all (bJ pl) m:=rfl
    rw[hdp] at My;have HDe:=ai My;have HOr:=ai jc;have HKr:=ai Yz;have HBr:=ai sH;clear hSu My hdp jc Yz sH;obtain⟨r,hr⟩:∃r,(b.dep m).sure all (bJ pl)=r:=⟨_,rfl⟩
    rw[hr] at HSu HDe;clear hr;go_wp2
    refine cy kQ [
    pV (aR ((b.dep m).open (ae pm lm cm) (ae pn ln cn) (ae pk lk ck) (ae (some ⟨gv,0,none⟩) all.length cv))),
     pV (ae qJ pl.length qX),
     pV (ag af (bJ pl)),
     pV (aI r)]
     (fun w9=>Bw wr w9) [(1,ae qJ pl.length qX),(7,pv k 0)] kQ ?rst (fun w1 w2 h hb=>h.trans (hb.mono h.size)) ((aB _ _).drew) ⟨rfl,rfl,trivial⟩ ?reach ?rfin
    case rst=>
     refine⟨sV,sV,sV,sV,trivial⟩
    case reach=>
     refine⟨?_,?_,?_,?_,trivial⟩<;>rintro ev w1 hS hc hg hf ⟨b1,b7,-⟩ hd
     .have q:=Ht.out w1 hS;refine Lag.Yields.qP 122 _ rfl k b7 122 _ (0,0) _ q.1 jl rfl kQ ⟨rfl,cJ (aB _ _)⟩
     .exact tV
     .have d1:ev (aL 35)=_:=hd.1 rfl;have q:=Ht.out w1 hS;refine yq (args:=#[ae qJ pl.length qX]) (kH pl Zo.out _ _ q.2) ?_ fun _=>rfl;go_simp
     have d0:ev (aL 34)=_:=hd.1 rfl;have d2:ev (aL 36)=_:=hd.2.1 rfl;refine yc (HSu.out w1 hS) ?_ fun _=>rfl;go_simp
    case rfin=>
     intro a3 w3 hR;have hS:=hR.s;have e3:a3.tmps.getD 37 aw=_:=hR.val 3;have ha:=hR.lits 42 rfl;simp only[aS,cA,nh] at ha;rw[hR.kp 0,hR.kp 1,hR.kp 2,hR.kp 3,hR.kp 7,hR.kp 8,hR.kp 9,hR.kp 10,hR.kp 11,hR.kp 12,hR.kp 13,hR.kp 14,hR.kp 15,hR.kp 16,hR.kp 17,hR.kp 18,hR.kp 19,hR.kp 20] at ha;simp only[kY,gI,gH] at ha;clear hR;rw[e3] at ha;generalize a3.tmps.getD=zz at ha;have pF:=ai hS;clear e3 hS;subst ha;have q1:=(pF.out.block _ Ab).trans HKr.out;have x1:w3.cell? ⟨k,1,none⟩=some (ag af m):=aK q1 1 _ rfl;have x2:=cZ q1 1;have HQ:=ai q1;clear q1;cases r
     .have zz:IntKind.i64.wrap ((m:Int)-1)=(m:Int)-1:=by rw[IntKind.wrap_i64];omega
      go_wp2;have q2:=dc (i:=1) (ag af ((m:Int)-1)) HQ.out;have x3:=aK q2 1 (ag af ((m:Int)-1)) rfl;refine⟨⟨m,oM,q2,(HOr.out.old (Old.of_below pF.out)).at_ fun g hg=>bu _ _ _ _ ?_,(HBr.out.trans (pF.out.mono HBr.out.size)).setCell (p:=⟨k,1,none⟩) (by show _<=k;omega) _,by rw[HDe.out];simp⟩,?_⟩
      .have:g=gv:=by simpa [jy] using hg.symm
       subst this;exact ZV
      rw[x3,z2];simp[intOf]
     go_wp2
     go_ret3
     exact⟨by rw[HDe.out];rfl,HBr.out.trans (pF.out.mono HBr.out.size)⟩
   obtain rfl:n=0:=oM;have hz:(((0:Nat):Int)-1) = -1:=oM;rw[hz] at Yz z1;have z2:wr.cell? ⟨k,1,none⟩=some (ag af (-1)):=z1;have HDe:=ai My;have HBr:=ai sH;clear Yz z1 My sH jc hz;go_wp2
   go_ret3
   exact⟨by rw[HDe.out];rfl,HBr.out⟩
def jG(n L:Nat):Int:=if n=0 then 2 else if n=L then 1 else 0
def o6(b:BB)(all:List dS)(p:Nat):Nat:=all.countP fun a=>decide (b.bad (b.bS+a.used) p=0)
def M6{α:Type}(f:α->Bool)(l:List α){k:Nat}(h:k<l.length):(l.take (k+1)).countP f=(l.take k).countP f+(if f l[k] then 1 else 0):=by
 rw[bO h,List.countP_append,List.countP_singleton]
def KL(b:BB)(bq aM aC:aj)(ml:List Mn)(ss:List Int)(ms:List Mk)(w:ak)(hL:Laid w)(hB:cQ b bq aM aC ml ss ms w)(hne:bf b ml ss ms≠[])(pl:List Int)(hp:fM b pl)(lv:aj)(hl:Reads w lv pl.length (pl.map (aD af))) :
  bm aq 44 #[aR (b.cells bq aM aC),lv] w (Rt w (cH #[ag af (jG (o6 b (bf b ml ss ms) (bJ pl)) (bf b ml ss ms).length),ag af 0])):=by
 have hlen:=iR ss ms hB.ok hB.gS;have jX:0<(bf b ml ss ms).length:=cN.2 hne;have hok:=hB.ok;have hao:=oz (ss:=ss) (ms:=ms) hB.ok hB.gS;have xu:=hok.minutes;have nQ:∀s∈pl,1<=s/\s<=8:=fun s h=>by have:=hp.mem s h;omega
 have DW:bJ pl<512:=mM pl nQ;obtain⟨pm,cm,rfl,_⟩:=aT hB.rm;obtain⟨pn,cn,rfl,_⟩:=aT hB.rs;obtain⟨pk,ck,rfl,_⟩:=aT hB.rk;obtain⟨qJ,qX,rfl,_⟩:=aT hl;have b1:Bw w (w.alloc (au (b.sl pm ml.length cm pn ss.length cn pk ms.length ck) 28)):=dx;have hk:=az w (au (b.sl pm ml.length cm pn ss.length cn pk ms.length ck) 28)
 have WI:Hid (∀W cp,Bw w W->W.heap[cp]?=some (au #[ae qJ pl.length qX] 25 (0,0))->bm aq 103 #[aR (b.sl pm ml.length cm pn ss.length cn pk ms.length ck),.func (.func 164) #[] #[pv cp 0]] W fun e w'=>∃v,e=aY (cH #[aR (b.open (ae pm ml.length cm) (ae pn ss.length cn) (ae pk ms.length ck) v),ag af 0])/\iv w' W.heap.size v (bf b ml ss ms)/\Bw W w'):=
  ai fun W cp KR Vg=>DR b _ _ _ ml ss ms W (hL.below KR) (hB.below KR) hne cp fun W' hb'=>by
   have hlt:=(ah.1 Vg).1;exact D_ b hok _ _ _ pl hp cp _ W' ((hb'.block _ hlt).trans Vg) ((hl.below KR).below hb')
 have KU:=ai hl;have Tr:=ai hao;have Zo:=ai nQ;clear hL hB hl hao hp nQ;generalize bf b ml ss ms=all at *;generalize ml.length=lm at *;generalize ss.length=ln at *;generalize ms.length=lk at *
 go_enter Tryz.func44,Tryz.ntmps44
 go_wp2
 refine cy kQ [
 pV (aR (b.sl pm lm cm pn ln cn pk lk ck)),
  pV (ae qJ pl.length qX),
  fun v ds w9=>∃cp,v=.func (.func 164) #[] #[pv cp 0]/\w9.heap[cp]?=some (au #[ae qJ pl.length qX] 25 (0,0)),
  fun v ds w9=>∃gv cv,v=cH #[aR (b.open (ae pm lm cm) (ae pn ln cn) (ae pk lk ck) (ae (some ⟨gv,0,none⟩) all.length cv)),ag af 0]/\iv w9 w.heap.size (ae (some ⟨gv,0,none⟩) all.length cv) all,
  fun v ds w9=>∃gv cv,v=cH #[aR (b.open (ae pm lm cm) (ae pn ln cn) (ae pk lk ck) (ae (some ⟨gv,0,none⟩) all.length cv)),ag af 0]/\iv w9 w.heap.size (ae (some ⟨gv,0,none⟩) all.length cv) all,
  fun v ds w9=>∃gv cv,v=aR (b.open (ae pm lm cm) (ae pn ln cn) (ae pk lk ck) (ae (some ⟨gv,0,none⟩) all.length cv))/\iv w9 w.heap.size (ae (some ⟨gv,0,none⟩) all.length cv) all,
  pV (ag af 0),
  fun v ds w9=>∃k,∃z:Array aj,v=pv k 0/\w.heap.size+1<=k/\w9.heap[k]?=some (au z 122 (0,0))/\z.size=16,
  fun v ds w9=>∃k gv cv,ds[0]?=some (pv k 0)/\w.heap.size+1<=k/\w9.heap[k]?=some (au (b.open (ae pm lm cm) (ae pn ln cn) (ae pk lk ck) (ae (some ⟨gv,0,none⟩) all.length cv)) 122 (0,0))/\iv w9 w.heap.size (ae (some ⟨gv,0,none⟩) all.length cv) all,
  pV (ag af 0)]
  (fun w9=>w9.heap[w.heap.size]?=some (au (b.sl pm lm cm pn ln cn pk lk ck) 28 (0,0))/\Bw w w9) [(2,pv w.heap.size 0),(1,ae qJ pl.length qX)] kQ ?rst (fun w1 w2 h hb=>⟨(hb.block _ (ah.1 h.1).1).trans h.1,h.2.trans (hb.mono h.2.size)⟩) (⟨hk,b1.drew⟩) ⟨rfl,rfl,trivial⟩ ?reach ?rfin
 case rst=>
  refine⟨sV,sV,?_,?_,?_,?_,sV,?_,?_,sV,trivial⟩
  .rintro v ds w1 w2 hS ⟨cp,h1,h2⟩ hb;exact⟨cp,h1,(hb.block _ (ah.1 h2).1).trans h2⟩
  .rintro v ds w1 w2 hS ⟨gv,cv,h1,h2⟩ hb;exact⟨gv,cv,h1,h2.at_ fun g hg=>hb.block g (h2.1.lt g hg).2⟩
  .rintro v ds w1 w2 hS ⟨gv,cv,h1,h2⟩ hb;exact⟨gv,cv,h1,h2.at_ fun g hg=>hb.block g (h2.1.lt g hg).2⟩
  .rintro v ds w1 w2 hS ⟨gv,cv,h1,h2⟩ hb;exact⟨gv,cv,h1,h2.at_ fun g hg=>hb.block g (h2.1.lt g hg).2⟩
  .rintro v ds w1 w2 hS ⟨k,z,h1,h2,h3,h4⟩ hb;exact⟨k,z,h1,h2,(hb.block _ (ah.1 h3).1).trans h3,h4⟩
  rintro v ds w1 w2 hS ⟨k,gv,cv,h1,h0,h3,h2⟩ hb;exact⟨k,gv,cv,h1,h0,(hb.block _ (ah.1 h3).1).trans h3,h2.at_ fun g hg=>hb.block g (h2.1.lt g hg).2⟩
 case reach=>
  refine⟨?_,?_,?_,?_,?_,?_,?_,?_,?_,?_,trivial⟩<;>rintro ev w1 hS hc hg hf ⟨b2,b1,-⟩ hd
  .have x0:=cg hS.1;exact tV
  .exact tV
  .have d1:ev (aL 13)=_:=hd.1 rfl;refine jO (f:=104) (args:=#[ae qJ pl.length qX]) ?_ (Kw _ _ _ _) ?_
   .go_simp
   rintro e w2 ⟨rfl,rfl⟩;exact⟨_,rfl,⟨_,rfl,az _ _⟩,cJ dx⟩
  .have d0:ev (aL 12)=_:=hd.1 rfl;obtain⟨cp,Gv,wA⟩:=hd.2.1 rfl;replace Gv:ev (aL 14)=_:=Gv;refine jO (f:=103) (args:=#[aR (b.sl pm lm cm pn ln cn pk lk ck),.func (.func 164) #[] #[pv cp 0]]) ?_ (WI.out w1 cp hS.2 wA) ?_
   .go_simp
   rintro e w2 ⟨v,rfl,jc,hb⟩
   obtain⟨gv,cv,rfl⟩:∃gv cv,v=ae (some ⟨gv,0,none⟩) all.length cv:=by
    rcases jc.1.2 with⟨_,h0⟩|⟨g,cap,cur,rfl,_⟩
    .omega
    exact⟨g,cap,rfl⟩
   exact⟨_,rfl,⟨gv,cv,rfl,jc.base hS.2.size⟩,cJ hb⟩
  .exact yv rfl (hd.1 rfl)
  .obtain⟨gv,cv,e11,jc⟩:=hd.1 rfl;replace e11:ev (aL 11)=_:=e11;refine yv ?_ (⟨gv,cv,rfl,jc⟩);go_simp
  .obtain⟨gv,cv,e11,jc⟩:=hd.1 rfl;replace e11:ev (aL 11)=_:=e11;exact tV
  .refine Lag.Yields.value (v:=pv w1.heap.size 0) (w':=w1.alloc (au iE 122)) ?_ ⟨⟨_,_,rfl,(ah.1 hS.1).1,az _ _,rfl⟩,cJ dx⟩;go_simp
  .obtain⟨k,z,e6,qT,hk2,hz⟩:=hd.1 rfl;replace e6:ev (aL 6)=_:=e6;obtain⟨gv,cv,Pd,jc⟩:=hd.2.1 rfl;replace Pd:ev (aL 16)=_:=Pd;have DZ:∀g cs t,w1.heap[g]?=some (au cs t (0,0))->t≠122->g≠k:=by rintro g cs t h1 h2 rfl;rw[hk2] at h1;cases h1;exact h2 rfl
   have Fj:∀(v:aj),iv w1 w.heap.size v all->iv (w1.setRow k (b.open (ae pm lm cm) (ae pn ln cn) (ae pk lk ck) (ae (some ⟨gv,0,none⟩) all.length cv))) w.heap.size v all:=fun v ho=>ho.at_ fun g hg=>setRow_other (by
    obtain⟨cur,q1,_⟩:=ho.2 g hg
    exact DZ g _ _ q1 dC)
   refine Lag.Yields.nt 122 _ _ rfl k _ e6 Pd 122 z hk2 kQ hz (by simp[cD]) ⟨⟨k,gv,cv,congrArg some e6,qT,dg hk2,Fj _ jc⟩,.inr ⟨⟨(setRow_other oM).trans hS.1,dA hS.2 oM⟩,?_⟩⟩;intro j u ds hj hp
   match j,hp with
   |0,hp|1,hp=>exact hp
   |2,⟨cp,h1,h2⟩=>exact⟨cp,h1,(setRow_other (DZ _ _ _ h2 dC)).trans h2⟩
   |3,⟨Fu,FI,h1,h2⟩=>exact⟨Fu,FI,h1,Fj _ h2⟩
   |4,⟨Fu,FI,h1,h2⟩=>exact⟨Fu,FI,h1,Fj _ h2⟩
   |5,⟨Fu,FI,h1,h2⟩=>exact⟨Fu,FI,h1,Fj _ h2⟩
   |6,hp=>exact hp
   |7,⟨k',z',h1,h2,h3,h4⟩=>
    by_cases s5:k'=k
    .subst s5;exact⟨k',_,h1,h2,dg h3,rfl⟩
    exact⟨k',z',h1,h2,(setRow_other s5).trans h3,h4⟩
   |8,_=>exact(hj rfl).elim
   |9,hp=>exact hp
   |j+10,_=>trivial
  have d6:ev (aL 17)=_:=hd.1 rfl;refine yv (v:=ev (aL 17)) ?_ (d6);rfl
 case rfin=>
  intro a2 w2 hR;have hS:=hR.s;obtain⟨k,gv,cv,VQ,qT,hk2,jc⟩:=hR.val 8;have e9:a2.tmps.getD 7 aw=_:=hR.val 9;have ha:=hR.lits 46 rfl;simp only[aS,cA,nh] at ha;rw[hR.kp 1,hR.kp 2] at ha;simp only[kY,gI,gH] at ha;clear hR;have e6:a2.tmps.getD 6 aw=pv k 0:=bp VQ;rw[e6,e9] at ha;generalize a2.tmps.getD=zz at ha;clear e6 VQ e9;subst ha;have tS:=hS.1;have sH:=hS.2;clear hS;have Jd:=aK hk2 15 _ rfl;have CW:=jc.reads oM
  have HC:Hid (∀j u,(rowOf all)[j]?=some u->w2.cell? ⟨gv,0+j,none⟩=some u):=ai (by
   rcases CW with⟨h0,_⟩|⟨g,off,cap,h0,_,_,h1⟩
   .cases h0
   cases h0;exact h1)
  have CY:=(jc.1.lt gv rfl).2;have Ab:=(ah.1 hk2).1;have HK:=ai hk2;have HB:=ai tS;have Gj:=ai sH;have NC:=ai jc;clear hk2 CW tS sH jc hk b1 WI;generalize hL:all.length=L at *;have HL:=ai hL;clear hL;go_wp2
  go_loopw [8,10,24] (fun n _ i wr=>∃j:Nat,j<=L/\i=ag af j/\n=ag af ((all.take j).countP fun a=>decide (b.bad (b.bS+a.used) (bJ pl)=0):Nat)/\Bw w2 wr) (fun _ _ i _=>L-(intOf i).toNat)
  case atStart=>exact⟨0,oM,rfl,rfl,aB _ _⟩
  case round=>
   obtain⟨j,hj,rfl,rfl,eh⟩:=hrel;have hsz:=eh.size
   have hcj:(all.take j).countP (fun a=>decide (b.bad (b.bS+a.used) (bJ pl)=0))<=j:=by
    refine Nat.le_trans List.countP_le_length ?_;rw[List.length_take];omega
   by_cases hlt:j<L
   .have J9:j<all.length:=by rw[HL.out];exact hlt
    obtain⟨c0,c1,c2,c3⟩:=Reads.cell (w:=wr) (cap:=cv) (n:=L) (fun i u hi=>(eh.cell (p:=⟨gv,0+i,none⟩) CY).trans (HC.out i u hi)) j J9;simp only[dh] at c0 c1 c2 c3;have Xj:(all.take (j+1)).countP (fun a=>decide (b.bad (b.bS+a.used) (bJ pl)=0))=(all.take j).countP (fun a=>decide (b.bad (b.bS+a.used) (bJ pl)=0))+(if b.bad (b.bS+all[j].used) (bJ pl)=0 then 1 else 0):=by rw[M6 _ all J9];simp
    have Vm:=fun W=>Kz b hok (ae pm lm cm) (ae pn ln cn) (ae pk lk ck) all[j] (Tr.out _ (bQ J9)) (bJ pl) DW W;have KI:=ai Xj;have HBa:=ai Vm;have yh:=ai eh
    have Ht:Hid (∀w9,fV (wr.alloc (au all[j].cells 134)).heap.size (wr.alloc (au all[j].cells 134)) w9->w9.heap[k]?=some (au (b.open (ae pm lm cm) (ae pn ln cn) (ae pk lk ck) (ae (some ⟨gv,0,none⟩) L cv)) 122 (0,0))/\w9.heap[wr.heap.size]?=some (au all[j].cells 134 (0,0))/\Reads w9 (ae qJ pl.length qX) pl.length (pl.map (aD af))):=ai fun w9 O5=>by
     have hs:(wr.alloc (au all[j].cells 134)).heap.size=wr.heap.size+1:=sM;have hb0:Bw wr (wr.alloc (au all[j].cells 134)):=dx;have qu:=Gj.out.size;exact⟨(O5.block _ oM).trans ((hb0.block _ oM).trans ((eh.block _ Ab).trans HK.out)),(O5.block _ oM).trans (az wr _),KU.out.below (Gj.out.trans ((eh.mono qu).trans ((hb0.mono oM).trans (O5.mono oM))))⟩
    clear Xj Vm eh;generalize all[j]=a at *;generalize Ae:b.bad (b.bS+a.used) (bJ pl)=bd at *;obtain⟨r,hr⟩:∃r,(bd==0)=r:=⟨_,rfl⟩
    go_wp2
    refine cy kQ [
    pV (pv k 0),
     pV (aR (b.sl pm lm cm pn ln cn pk lk ck)),
     pV (aR a.cells),
     pV (ae qJ pl.length qX),
     pV (ag af (bJ pl)),
     pV (ag af bd),
     pV (aI r)]
     (fun w9=>fV (wr.alloc (au a.cells 134)).heap.size (wr.alloc (au a.cells 134)) w9) [(1,ae qJ pl.length qX),(6,pv k 0),(10,pv wr.heap.size 0)] kQ ?rst (fun w1 w2 h hb=>h.trans (hb.mono h.size)) ((aB _ _).drew) ⟨rfl,rfl,rfl,trivial⟩ ?reach ?rfin
    case rst=>
     refine⟨sV,sV,sV,sV,sV,sV,sV,trivial⟩
    case reach=>
     refine⟨?_,?_,?_,?_,?_,?_,?_,trivial⟩<;>rintro ev w1 hS hc hg hf ⟨b1,b6,xK,-⟩ hd
     .exact tV
     .have d0:ev (aL 28)=_:=hd.1 rfl;have q:=Ht.out w1 hS;have x0:=jJ q.1;exact tV
     .have q:=Ht.out w1 hS;obtain⟨y0,y1,y2,y3⟩:=qA q.2.1;exact tV
     .exact tV
     .have d3:ev (aL 31)=_:=hd.1 rfl;have q:=Ht.out w1 hS;refine yq (args:=#[ae qJ pl.length qX]) (kH pl Zo.out _ _ q.2.2) ?_ fun _=>rfl;go_simp
     .have d1:ev (aL 29)=_:=hd.1 rfl;have d2:ev (aL 30)=_:=hd.2.1 rfl;have d4:ev (aL 32)=_:=hd.2.2.1 rfl;refine yc (HBa.out w1) ?_ fun _=>rfl;go_simp
     have d5:ev (aL 33)=_:=hd.1 rfl;exact tV
    case rfin=>
     intro a3 w3 hR;have hS:=hR.s;have e6:a3.tmps.getD 34 aw=_:=hR.val 6;have ha:=hR.lits 46 rfl;simp only[aS,cA,nh] at ha;rw[hR.kp 0,hR.kp 1,hR.kp 2,hR.kp 3,hR.kp 4,hR.kp 5,hR.kp 6,hR.kp 7,hR.kp 8,hR.kp 9,hR.kp 11,hR.kp 12,hR.kp 13,hR.kp 14,hR.kp 15,hR.kp 16,hR.kp 17,hR.kp 18,hR.kp 19,hR.kp 20,hR.kp 21,hR.kp 22,hR.kp 23,hR.kp 24,hR.kp 38,hR.kp 39,hR.kp 40,hR.kp 41,hR.kp 42,hR.kp 43,hR.kp 44,hR.kp 45] at ha;simp only[kY,gI,gH] at ha;clear hR;rw[e6] at ha;generalize a3.tmps.getD=zz at ha;have pF:=ai hS;clear e6 hS;subst ha;have hwr:fV w2.heap.size wr w3:=((aB _ wr).alloc hsz _).trans (pF.out.mono sO);have HWr:=ai hwr;clear hwr;generalize hc0:List.countP (fun a=>decide (b.bad (b.bS+a.used) (bJ pl)=0)) (List.take j all)=cn0 at *;have HC0:=ai hc0;clear hc0;cases r
     .go_wp2;go_roundw
      case rel=>
       refine⟨j+1,oM,sM,?_,yh.out.trans HWr.out⟩;rw[KI.out,if_neg (by intro h;rw[h] at hr;cases hr)];simp
      case measure=>simp[intOf];omega
     go_wp2;go_roundw
     case rel=>
      refine⟨j+1,oM,sM,?_,yh.out.trans HWr.out⟩;rw[KI.out,if_pos (by simpa using hr)];simp
     case measure=>simp[intOf];omega
   obtain rfl:j=L:=oM;have KP:all.take j=all:=di (by rw[HL.out];exact aO _);have hgn:(all.take j).countP (fun a=>decide (b.bad (b.bS+a.used) (bJ pl)=0))=o6 b all (bJ pl):=by rw[KP];rfl
   obtain⟨gn,Fo⟩:∃gn,o6 b all (bJ pl)=gn:=⟨_,rfl⟩
   rw[hgn,Fo] at hcj;rw[hgn,Fo];have HGn:=ai Fo;clear Fo;have yh:=ai eh;have z15:=aK ((eh.block _ Ab).trans HK.out) 15 _ rfl;clear hgn KP eh;have qg:Bw w wr:=Gj.out.trans (yh.out.mono Gj.out.size);have WM:=ai qg;clear qg
   by_cases h0:gn=0
   .subst h0;have HQ:Hid (jG 0 j=2):=ai (by simp[jG]);go_wp2;go_ret2;exact⟨by(first|rw[HGn.out,HL.out,HQ.out]|rw[HGn.out,HQ.out]);rfl,WM.out⟩
   have g0:((gn:Int)==0)=false:=sO
   by_cases h1:gn=j
   .subst h1;have HQ:Hid (jG gn gn=1):=ai (by simp[jG,h0]);go_wp2;go_ret2;exact⟨by(first|rw[HGn.out,HL.out,HQ.out]|rw[HGn.out,HQ.out]);rfl,WM.out⟩
   have g1:((gn:Int)==(j:Int))=false:=sO;have HQ:Hid (jG gn j=0):=ai (by simp[jG,h0,h1]);go_wp2;go_ret2;exact⟨by(first|rw[HGn.out,HL.out,HQ.out]|rw[HGn.out,HQ.out]);rfl,WM.out⟩
def F9(b:BB)(used:Int)(p:Nat):0<=b.bad used p:=by
 have:=(Ga b (b.js used p b.minutes.toNat) 0).1;unfold BB.bad;omega
def JY(b:BB){all:List dS}(hne:all≠[])(p:Nat):jG (o6 b all p) all.length=1↔b.sure all p=true:=by
 have hl:0<all.length:=cN.2 hne
 have e:b.sure all p=true↔o6 b all p=all.length:=by
  unfold BB.sure o6;rw[List.all_eq_true,List.countP_eq_length];constructor
  .intro h a ha;have h1:=h a ha;have:=F9 b (b.bS+a.used) p;simp only[decide_eq_true_eq] at h1 ⊢;omega
  intro h a ha;have h1:=h a ha;simp only[decide_eq_true_eq] at h1 ⊢;omega
 rw[e];unfold jG
 by_cases h0:o6 b all p=0
 .rw[if_pos h0,h0];constructor
  .intro h;omega
  intro h;omega
 rw[if_neg h0]
 by_cases h1:o6 b all p=all.length
 .rw[if_pos h1];simp[h1]
 rw[if_neg h1];constructor
 .intro h;omega
 intro h;exact absurd h h1
section
variable{b:BB}{bq aM aC:aj}{ml:List Mn}{ss:List Int}{ms:List Mk}{W:ak}
end
def QQ(p:Nat)(W:ak)(v:aj)(W':ak):Prop:=
 ∃lv:aj,v=cH #[lv,aI true,ag af 0]/\Reads W' lv (ik p).length ((ik p).map (aD af))/\Old W W'
def VF{b:BB}{bq aM aC:aj}{ml:List Mn}{ss:List Int}{ms:List Mk}{W:ak}(hL:Laid W)(hB:cQ b bq aM aC ml ss ms W)(p1:Plain W bq)(p2:Plain W aM)(p3:Plain W aC)(hne:bf b ml ss ms≠[])
  (yL:j_ b (dD ss ms).toNat (bJ ss) (bf b ml ss ms) 512≠[]) (hlt:∀x∈j_ b (dD ss ms).toNat (bJ ss) (bf b ml ss ms) 512,x<512) (p:Nat)
  (hp:∀x r,(x::r).Perm (j_ b (dD ss ms).toNat (bJ ss) (bf b ml ss ms) 512)->jQ tN x r=p):j5 aq 20 #[aR (b.cells bq aM aC)] W (QQ p W):=by
 refine lr quiet Tryz.func20 rfl ?hR ?body
 case hR=>
  rintro v W' I d ⟨lv,h1,h2,h3⟩;exact⟨lv,h1,h2,w_ h3⟩
 simp only[Tryz.ntmps20,jM,fh,oO,DJ,DI,kj,ki,jN,iH,kC,gY];refine n9 quiet aW (fun a w=>a=⟨#[aR (b.cells bq aM aC),pv W.heap.size 0,ae none 0 0,aI false,ag af 0,aw,aw,aw,aw,aw],[]⟩/\Pk0 W W.heap.size (b.cells bq aM aC) 28 w) (fun I d=>?_) ?_
 .go_wp2;exact⟨EP (qs _ _),az (dH W I d) _⟩
 rintro a W1 ⟨rfl,⟨o1,x1⟩⟩;refine jE quiet (uh quiet ?_);refine gF (i:=0) (rest:=[1,2,3,4,5,6,7]) quiet rfl rfl fun I d=>?_;refine wp_load_row 28 (aL 1) rfl W.heap.size rfl 28 _ (0,0) _ (w:=dH W1 I d) x1 cM rfl kQ ?_;have o2:Old W (dH W1 I d):=mY I d o1;have Gr:=Uj (W:=dH W1 I d) 96 tN (hL.old o2) (hB.old o2) (p1.old o2) (p2.old o2) (p3.old o2) hne yL hlt Tc;refine rJ (i:=1) (rest:=[2,3,4,5,6,7]) quiet rfl rfl (f:=95) (args:=#[aR (b.cells bq aM aC),.func (.func 96) #[] #[]]) (fun w=>by kernel_rfl) Gr ?_;rintro out W3 _ ⟨x,r,lv,hperm,rfl,CW,o3⟩;rw[hp x r hperm] at CW;have o4:=o2.trans o3;refine gF (i:=2) (rest:=[3,4,5,6,7]) quiet rfl rfl fun τ2 d2=>?_;show eA aq _ _ [3,4,5,6,7] _ _;refine gF (i:=3) (rest:=[4,5,6,7]) quiet rfl rfl fun τ3 d3=>?_;show eA aq _ _ [4,5,6,7] _ _;refine gF (i:=4) (rest:=[5,6,7]) quiet rfl rfl fun τ4 d4=>?_;show eA aq _ _ [5,6,7] _ _;refine gF (i:=5) (rest:=[6,7]) quiet rfl rfl fun τ5 d5=>?_;show eA aq _ _ [6,7] _ _;refine gF (i:=6) (rest:=[7]) quiet rfl rfl fun τ6 d6=>?_;show eA aq _ _ [7] _ _;refine gF (i:=7) (rest:=[]) quiet rfl rfl fun τ7 d7=>?_;show eA aq _ _ [] _ _;refine rI (l:=[]) quiet (fun e a w h=>by cases e<;>first|rfl|exact(h:False).elim) fun τ8 d8=>?_;refine kO quiet aW fun τ9 d9=>yB ?_;refine wp_ret ?_;refine bj (results_tmp3 rfl _ _ _) rfl ⟨_,rfl,lv,?_,CW,⟨o4.os,o4.output,o4.size,o4.block⟩⟩
 kernel_rfl
def UO{b:BB}{bq aM aC:aj}{ml:List Mn}{ss:List Int}{ms:List Mk}{W:ak}(hL:Laid W)(hB:cQ b bq aM aC ml ss ms W)(p1:Plain W bq)(p2:Plain W aM)(p3:Plain W aC)(hne:bf b ml ss ms≠[])
  (yL:j_ b (dD ss ms).toNat (bJ ss) (bf b ml ss ms) 512≠[]) (hlt:∀x∈j_ b (dD ss ms).toNat (bJ ss) (bf b ml ss ms) 512,x<512) (p:Nat)
  (hp:∀x r,(x::r).Perm (j_ b (dD ss ms).toNat (bJ ss) (bf b ml ss ms) 512)->jQ tM x r=p):j5 aq 23 #[aR (b.cells bq aM aC)] W (QQ p W):=by
 refine lr quiet Tryz.func23 rfl ?hR ?body
 case hR=>
  rintro v W' I d ⟨lv,h1,h2,h3⟩;exact⟨lv,h1,h2,w_ h3⟩
 simp only[Tryz.ntmps23,jM,fh,oO,DJ,DI,kj,ki,jN,iH,kC,gY];refine n9 quiet aW (fun a w=>a=⟨#[aR (b.cells bq aM aC),pv W.heap.size 0,ae none 0 0,aI false,ag af 0,aw,aw,aw,aw,aw],[]⟩/\Pk0 W W.heap.size (b.cells bq aM aC) 28 w) (fun I d=>?_) ?_
 .go_wp2;exact⟨EP (qs _ _),az (dH W I d) _⟩
 rintro a W1 ⟨rfl,⟨o1,x1⟩⟩;refine jE quiet (uh quiet ?_);refine gF (i:=0) (rest:=[1,2,3,4,5,6,7]) quiet rfl rfl fun I d=>?_;refine wp_load_row 28 (aL 1) rfl W.heap.size rfl 28 _ (0,0) _ (w:=dH W1 I d) x1 cM rfl kQ ?_;have o2:Old W (dH W1 I d):=mY I d o1;have Gr:=Uj (W:=dH W1 I d) 102 tM (hL.old o2) (hB.old o2) (p1.old o2) (p2.old o2) (p3.old o2) hne yL hlt Tb;refine rJ (i:=1) (rest:=[2,3,4,5,6,7]) quiet rfl rfl (f:=95) (args:=#[aR (b.cells bq aM aC),.func (.func 102) #[] #[]]) (fun w=>by kernel_rfl) Gr ?_;rintro out W3 _ ⟨x,r,lv,hperm,rfl,CW,o3⟩;rw[hp x r hperm] at CW;have o4:=o2.trans o3;refine gF (i:=2) (rest:=[3,4,5,6,7]) quiet rfl rfl fun τ2 d2=>?_;show eA aq _ _ [3,4,5,6,7] _ _;refine gF (i:=3) (rest:=[4,5,6,7]) quiet rfl rfl fun τ3 d3=>?_;show eA aq _ _ [4,5,6,7] _ _;refine gF (i:=4) (rest:=[5,6,7]) quiet rfl rfl fun τ4 d4=>?_;show eA aq _ _ [5,6,7] _ _;refine gF (i:=5) (rest:=[6,7]) quiet rfl rfl fun τ5 d5=>?_;show eA aq _ _ [6,7] _ _;refine gF (i:=6) (rest:=[7]) quiet rfl rfl fun τ6 d6=>?_;show eA aq _ _ [7] _ _;refine gF (i:=7) (rest:=[]) quiet rfl rfl fun τ7 d7=>?_;show eA aq _ _ [] _ _;refine rI (l:=[]) quiet (fun e a w h=>by cases e<;>first|rfl|exact(h:False).elim) fun τ8 d8=>?_;refine kO quiet aW fun τ9 d9=>yB ?_;refine wp_ret ?_;refine bj (results_tmp3 rfl _ _ _) rfl ⟨_,rfl,lv,?_,CW,⟨o4.os,o4.output,o4.size,o4.block⟩⟩
 kernel_rfl
def A6(a b:Int)(w:ak):bm aq 94 #[ag af a,ag af b] w (Rt w (aR #[ag af a,ag af b])):=by
 go_enter Tryz.func94,Tryz.ntmps94
 go_wp2;exact bj (Hw rfl _ _ w.heap.size 23 #[ag af a,ag af b] (0,0) _ rfl (az w _) B_ rfl kQ) rfl ⟨rfl,dx⟩
def DT(a:Int)(w:ak):bm aq 86 #[ag af a] w (Rt w (aR #[ag af a,ag af a])):=by
 go_enter Tryz.func86,Tryz.ntmps86
 go_wp2_with (first
  |(go_at_call 94;refine(A6 a a _).mono ?_;rintro e w1 ⟨rfl,hb1⟩
    have hz:=(hb1.block w.heap.size sM).trans (az w (au #[ag af 0,ag af 0] 23));have HZ:=ai hz;have wO:=ai hb1
    clear hz hb1)
  |(refine wpList_store_row rfl 23 _ _ rfl _ _ rfl rfl 23 _ HZ.out kQ rfl (by simp[cD]) ?_))
 exact bj (Hw rfl _ _ w.heap.size 23 #[ag af a,ag af a] (0,0) _ rfl (dg HZ.out) B_ rfl kQ) rfl ⟨rfl,dA (dx.trans (wO.out.mono sM)) (aO _)⟩
abbrev Ux:Array Value:=AZ
def ex:BB:=⟨30,33,9,5,2,20,2,3,0,1,1,2⟩
def j7:List Mn:=[⟨⟨#[97,110,110]⟩,3,4⟩,⟨⟨#[98,111]⟩,4,4⟩]
def MV(w:ak):bm aq 93 #[] w fun e w'=>∃g c,e=aY (aR (ex.br (some ⟨g,0,none⟩) 2 c))/\Reads w' (ae (some ⟨g,0,none⟩) 2 c) 2 (fQ j7)/\w'.heap[g]?=some (au (fQ j7).toArray 79 (0,0))/\w.heap.size<=g/\Bw w w':=by
 have b0:Bw w (w.alloc (au Ux 28)):=dx;have h0:=az w (au Ux 28);have Jb:=ai b0;have HH0:=ai h0;clear b0 h0
 go_enter Tryz.func93,Tryz.ntmps93
 go_wp2_with fail
 refine(A6 _ _ _).mono ?_;rintro e w1 ⟨rfl,hb1⟩;have H1:=ai hb1;clear hb1
 go_wp2_with fail
 refine(A6 _ _ _).mono ?_;rintro e w2 ⟨rfl,hb2⟩;have H2:=ai hb2;clear hb2
 go_wp2_with fail
 refine(A6 _ _ _).mono ?_;rintro e w3 ⟨rfl,hb3⟩;have H3:=ai hb3;clear hb3
 go_wp2_with fail
 refine(DT _ _).mono ?_;rintro e w4 ⟨rfl,hb4⟩
 have hb:fV (w.heap.size+1) (w.alloc (au Ux 28)) w4:=by
  have h1:=H1.out;have h2:=H2.out;have h3:=H3.out;have s1:=h1.size;have s2:=h2.size;have s3:=h3.size;simp only[dY] at s1;exact((h1.mono sM).trans (h2.mono oM)).trans ((h3.mono oM).trans (hb4.mono oM))
 have hs:=hb.size;simp only[dY] at hs;have hz:=(Below.heap_alloc w4 (au (fQ j7).toArray 79) w.heap.size oM).trans ((hb.block w.heap.size oM).trans HH0.out);have HZ:=ai hz;have HW:Hid (Bw w w4):=ai (Jb.out.trans (hb.mono oM));clear hb hz hb4
 go_wp2_with (refine wpList_store_row rfl 28 _ _ rfl _ _ rfl rfl 28 _ HZ.out kQ rfl (by simp[cD]) ?_)
 have hg:((w4.alloc (au (fQ j7).toArray 79)).setRow w.heap.size (ex.br (some ⟨w4.heap.size,0,none⟩) 2 2)).heap[w4.heap.size]?=some (au (fQ j7).toArray 79 (0,0)):=(setRow_other oM).trans (az w4 _);refine bj (Hw rfl _ _ w.heap.size 28 (ex.br (some ⟨w4.heap.size,0,none⟩) 2 2) (0,0) _ rfl (dg HZ.out) cM rfl kQ) rfl ⟨w4.heap.size,2,rfl,?_,hg,oM,dA (HW.out.alloc oM _) (aO _)⟩
 exact .inr ⟨w4.heap.size,0,2,rfl,oM,by rw[setRow_size];simp,fun j u hj=>by
  have:=aK hg j u (by simpa using hj)
  rw[dh];exact this⟩
def EX(a b:Int)(w:ak):(Builtin.min_ #[3,3] 3 #[ag af a,ag af b]).run aq w=.ok (ag af (min a b)) w:=by
 go_simp;split<;>omega
abbrev sc(b:BB)(n:Int):BB:={ b with minutes:=n,iO:=0,pm:=min b.pm n }
def uJ(b:BB)(p:Nat)(s:Int × Bool)(a:dS):Int × Bool:=
 if b.bad (b.bS+a.used) p=0 then s else if s.2=false\/b.bad (b.bS+a.used) p<s.1 then(b.bad (b.bS+a.used) p,true) else s
def lW(b:BB)(all:List dS)(p:Nat):Int × Bool:=all.foldl (uJ b p) (0,false)
def PA(b:BB)(all:List dS)(p:Nat){j:Nat}(h:j<all.length):lW b (all.take (j+1)) p=uJ b p (lW b (all.take j) p) all[j]:=by
 unfold lW;rw[bO h,List.foldl_append];rfl
def W_(b:BB)(bq aM aC:aj)(ml:List Mn)(ss:List Int)(ms:List Mk)(w:ak)(hL:Laid w)(hB:cQ b bq aM aC ml ss ms w)(hne:bf b ml ss ms≠[])(pl:List Int)(hp:fM b pl)(lv:aj)(hl:Reads w lv pl.length (pl.map (aD af))) :
  bm aq 63 #[aR (b.cells bq aM aC),lv] w (Rt w (cH #[ag af (lW b (bf b ml ss ms) (bJ pl)).1,aI (lW b (bf b ml ss ms) (bJ pl)).2,ag af 0])):=by
 have hlen:=iR ss ms hB.ok hB.gS;have jX:0<(bf b ml ss ms).length:=cN.2 hne;have hok:=hB.ok;have hao:=oz (ss:=ss) (ms:=ms) hB.ok hB.gS;have xu:=hok.minutes;have nQ:∀s∈pl,1<=s/\s<=8:=fun s h=>by have:=hp.mem s h;omega
 have DW:bJ pl<512:=mM pl nQ;obtain⟨pm,cm,rfl,_⟩:=aT hB.rm;obtain⟨pn,cn,rfl,_⟩:=aT hB.rs;obtain⟨pk,ck,rfl,_⟩:=aT hB.rk;obtain⟨qJ,qX,rfl,_⟩:=aT hl;have b1:Bw w (w.alloc (au (b.sl pm ml.length cm pn ss.length cn pk ms.length ck) 28)):=dx;have hk:=az w (au (b.sl pm ml.length cm pn ss.length cn pk ms.length ck) 28)
 have WI:Hid (∀W cp,Bw w W->W.heap[cp]?=some (au #[ae qJ pl.length qX] 25 (0,0))->bm aq 103 #[aR (b.sl pm ml.length cm pn ss.length cn pk ms.length ck),.func (.func 164) #[] #[pv cp 0]] W fun e w'=>∃v,e=aY (cH #[aR (b.open (ae pm ml.length cm) (ae pn ss.length cn) (ae pk ms.length ck) v),ag af 0])/\iv w' W.heap.size v (bf b ml ss ms)/\Bw W w'):=
  ai fun W cp KR Vg=>DR b _ _ _ ml ss ms W (hL.below KR) (hB.below KR) hne cp fun W' hb'=>by
   have hlt:=(ah.1 Vg).1;exact D_ b hok _ _ _ pl hp cp _ W' ((hb'.block _ hlt).trans Vg) ((hl.below KR).below hb')
 have KU:=ai hl;have Tr:=ai hao;have Zo:=ai nQ;clear hL hB hl hao hp nQ;generalize bf b ml ss ms=all at *;generalize ml.length=lm at *;generalize ss.length=ln at *;generalize ms.length=lk at *
 go_enter Tryz.func63,Tryz.ntmps63
 go_wp2;refine wp_scope_straight ?_;go_wp2
 refine cy kQ [
 pV (aR (b.sl pm lm cm pn ln cn pk lk ck)),
  pV (ae qJ pl.length qX),
  fun v ds w9=>∃cp,v=.func (.func 164) #[] #[pv cp 0]/\w9.heap[cp]?=some (au #[ae qJ pl.length qX] 25 (0,0)),
  fun v ds w9=>∃gv cv,v=cH #[aR (b.open (ae pm lm cm) (ae pn ln cn) (ae pk lk ck) (ae (some ⟨gv,0,none⟩) all.length cv)),ag af 0]/\iv w9 w.heap.size (ae (some ⟨gv,0,none⟩) all.length cv) all,
  fun v ds w9=>∃gv cv,v=cH #[aR (b.open (ae pm lm cm) (ae pn ln cn) (ae pk lk ck) (ae (some ⟨gv,0,none⟩) all.length cv)),ag af 0]/\iv w9 w.heap.size (ae (some ⟨gv,0,none⟩) all.length cv) all,
  fun v ds w9=>∃gv cv,v=aR (b.open (ae pm lm cm) (ae pn ln cn) (ae pk lk ck) (ae (some ⟨gv,0,none⟩) all.length cv))/\iv w9 w.heap.size (ae (some ⟨gv,0,none⟩) all.length cv) all,
  pV (ag af 0),
  fun v ds w9=>∃k,∃z:Array aj,v=pv k 0/\w.heap.size+1<=k/\w9.heap[k]?=some (au z 122 (0,0))/\z.size=16,
  fun v ds w9=>∃k gv cv,ds[0]?=some (pv k 0)/\w.heap.size+1<=k/\w9.heap[k]?=some (au (b.open (ae pm lm cm) (ae pn ln cn) (ae pk lk ck) (ae (some ⟨gv,0,none⟩) all.length cv)) 122 (0,0))/\iv w9 w.heap.size (ae (some ⟨gv,0,none⟩) all.length cv) all,
  pV (ag af 0)]
  (fun w9=>w9.heap[w.heap.size]?=some (au (b.sl pm lm cm pn ln cn pk lk ck) 28 (0,0))/\Bw w w9) [(2,pv w.heap.size 0),(1,ae qJ pl.length qX)] kQ ?rst (fun w1 w2 h hb=>⟨(hb.block _ (ah.1 h.1).1).trans h.1,h.2.trans (hb.mono h.2.size)⟩) (⟨hk,b1.drew⟩) ⟨rfl,rfl,trivial⟩ ?reach ?rfin
 case rst=>
  refine⟨sV,sV,?_,?_,?_,?_,sV,?_,?_,sV,trivial⟩
  .rintro v ds w1 w2 hS ⟨cp,h1,h2⟩ hb;exact⟨cp,h1,(hb.block _ (ah.1 h2).1).trans h2⟩
  .rintro v ds w1 w2 hS ⟨gv,cv,h1,h2⟩ hb;exact⟨gv,cv,h1,h2.at_ fun g hg=>hb.block g (h2.1.lt g hg).2⟩
  .rintro v ds w1 w2 hS ⟨gv,cv,h1,h2⟩ hb;exact⟨gv,cv,h1,h2.at_ fun g hg=>hb.block g (h2.1.lt g hg).2⟩
  .rintro v ds w1 w2 hS ⟨gv,cv,h1,h2⟩ hb;exact⟨gv,cv,h1,h2.at_ fun g hg=>hb.block g (h2.1.lt g hg).2⟩
  .rintro v ds w1 w2 hS ⟨k,z,h1,h2,h3,h4⟩ hb;exact⟨k,z,h1,h2,(hb.block _ (ah.1 h3).1).trans h3,h4⟩
  rintro v ds w1 w2 hS ⟨k,gv,cv,h1,h0,h3,h2⟩ hb;exact⟨k,gv,cv,h1,h0,(hb.block _ (ah.1 h3).1).trans h3,h2.at_ fun g hg=>hb.block g (h2.1.lt g hg).2⟩
 case reach=>
  refine⟨?_,?_,?_,?_,?_,?_,?_,?_,?_,?_,trivial⟩<;>rintro ev w1 hS hc hg hf ⟨b2,b1,-⟩ hd
  .have x0:=cg hS.1;exact tV
  .exact tV
  .have d1:ev (aL 13)=_:=hd.1 rfl;refine jO (f:=104) (args:=#[ae qJ pl.length qX]) ?_ (Kw _ _ _ _) ?_
   .go_simp
   rintro e w2 ⟨rfl,rfl⟩;exact⟨_,rfl,⟨_,rfl,az _ _⟩,cJ dx⟩
  .have d0:ev (aL 12)=_:=hd.1 rfl;obtain⟨cp,Gv,wA⟩:=hd.2.1 rfl;replace Gv:ev (aL 14)=_:=Gv;refine jO (f:=103) (args:=#[aR (b.sl pm lm cm pn ln cn pk lk ck),.func (.func 164) #[] #[pv cp 0]]) ?_ (WI.out w1 cp hS.2 wA) ?_
   .go_simp
   rintro e w2 ⟨v,rfl,jc,hb⟩
   obtain⟨gv,cv,rfl⟩:∃gv cv,v=ae (some ⟨gv,0,none⟩) all.length cv:=by
    rcases jc.1.2 with⟨_,h0⟩|⟨g,cap,cur,rfl,_⟩
    .omega
    exact⟨g,cap,rfl⟩
   exact⟨_,rfl,⟨gv,cv,rfl,jc.base hS.2.size⟩,cJ hb⟩
  .exact yv rfl (hd.1 rfl)
  .obtain⟨gv,cv,e11,jc⟩:=hd.1 rfl;replace e11:ev (aL 11)=_:=e11;refine yv ?_ (⟨gv,cv,rfl,jc⟩);go_simp
  .obtain⟨gv,cv,e11,jc⟩:=hd.1 rfl;replace e11:ev (aL 11)=_:=e11;exact tV
  .refine Lag.Yields.value (v:=pv w1.heap.size 0) (w':=w1.alloc (au iE 122)) ?_ ⟨⟨_,_,rfl,(ah.1 hS.1).1,az _ _,rfl⟩,cJ dx⟩;go_simp
  .obtain⟨k,z,e6,qT,hk2,hz⟩:=hd.1 rfl;replace e6:ev (aL 7)=_:=e6;obtain⟨gv,cv,Pd,jc⟩:=hd.2.1 rfl;replace Pd:ev (aL 16)=_:=Pd;have DZ:∀g cs t,w1.heap[g]?=some (au cs t (0,0))->t≠122->g≠k:=by rintro g cs t h1 h2 rfl;rw[hk2] at h1;cases h1;exact h2 rfl
   have Fj:∀(v:aj),iv w1 w.heap.size v all->iv (w1.setRow k (b.open (ae pm lm cm) (ae pn ln cn) (ae pk lk ck) (ae (some ⟨gv,0,none⟩) all.length cv))) w.heap.size v all:=fun v ho=>ho.at_ fun g hg=>setRow_other (by
    obtain⟨cur,q1,_⟩:=ho.2 g hg
    exact DZ g _ _ q1 dC)
   refine Lag.Yields.nt 122 _ _ rfl k _ e6 Pd 122 z hk2 kQ hz (by simp[cD]) ⟨⟨k,gv,cv,congrArg some e6,qT,dg hk2,Fj _ jc⟩,.inr ⟨⟨(setRow_other oM).trans hS.1,dA hS.2 oM⟩,?_⟩⟩;intro j u ds hj hp
   match j,hp with
   |0,hp|1,hp=>exact hp
   |2,⟨cp,h1,h2⟩=>exact⟨cp,h1,(setRow_other (DZ _ _ _ h2 dC)).trans h2⟩
   |3,⟨Fu,FI,h1,h2⟩=>exact⟨Fu,FI,h1,Fj _ h2⟩
   |4,⟨Fu,FI,h1,h2⟩=>exact⟨Fu,FI,h1,Fj _ h2⟩
   |5,⟨Fu,FI,h1,h2⟩=>exact⟨Fu,FI,h1,Fj _ h2⟩
   |6,hp=>exact hp
   |7,⟨k',z',h1,h2,h3,h4⟩=>
    by_cases s5:k'=k
    .subst s5;exact⟨k',_,h1,h2,dg h3,rfl⟩
    exact⟨k',z',h1,h2,(setRow_other s5).trans h3,h4⟩
   |8,_=>exact(hj rfl).elim
   |9,hp=>exact hp
   |j+10,_=>trivial
  have d6:ev (aL 17)=_:=hd.1 rfl;refine yv (v:=ev (aL 17)) ?_ (d6);rfl
 case rfin=>
  intro a2 w2 hR;have hS:=hR.s;obtain⟨k,gv,cv,VQ,qT,hk2,jc⟩:=hR.val 8;have e9:a2.tmps.getD 6 aw=_:=hR.val 9;have ha:=hR.lits 47 rfl;simp only[aS,cA,nh] at ha;rw[hR.kp 1,hR.kp 2,hR.kp 4,hR.kp 5] at ha;simp only[kY,gI,gH] at ha;clear hR;have e6:a2.tmps.getD 7 aw=pv k 0:=bp VQ;rw[e6,e9] at ha;generalize a2.tmps.getD=zz at ha;clear e6 VQ e9;subst ha;have tS:=hS.1;have sH:=hS.2;clear hS;have Jd:=aK hk2 15 _ rfl;have CW:=jc.reads oM
  have HC:Hid (∀j u,(rowOf all)[j]?=some u->w2.cell? ⟨gv,0+j,none⟩=some u):=ai (by
   rcases CW with⟨h0,_⟩|⟨g,off,cap,h0,_,_,h1⟩
   .cases h0
   cases h0;exact h1)
  have CY:=(jc.1.lt gv rfl).2;have Ab:=(ah.1 hk2).1;have HK:=ai hk2;have HB:=ai tS;have Gj:=ai sH;have NC:=ai jc;clear hk2 CW tS sH jc hk b1 WI;generalize hL:all.length=L at *;have HL:=ai hL;clear hL;go_wp2;refine wp_label ?_;go_wp2
  go_loopw [4,5,9,10,24] (fun m f _ _ i wr=>∃j:Nat,j<=L/\i=ag af j/\m=ag af (lW b (all.take j) (bJ pl)).1/\f=aI (lW b (all.take j) (bJ pl)).2/\Bw w2 wr) (fun _ _ _ _ i _=>L-(intOf i).toNat)
  case atStart=>exact⟨0,oM,rfl,rfl,rfl,aB _ _⟩
  case round=>
   obtain⟨j,hj,rfl,rfl,rfl,eh⟩:=hrel;have hsz:=eh.size
   by_cases hlt:j<L
   .have J9:j<all.length:=by rw[HL.out];exact hlt
    obtain⟨c0,c1,c2,c3⟩:=Reads.cell (w:=wr) (cap:=cv) (n:=L) (fun i u hi=>(eh.cell (p:=⟨gv,0+i,none⟩) CY).trans (HC.out i u hi)) j J9;simp only[dh] at c0 c1 c2 c3;have Xj:lW b (all.take (j+1)) (bJ pl)=uJ b (bJ pl) (lW b (all.take j) (bJ pl)) all[j]:=PA b all (bJ pl) J9;have Vm:=fun W=>Kz b hok (ae pm lm cm) (ae pn ln cn) (ae pk lk ck) all[j] (Tr.out _ (bQ J9)) (bJ pl) DW W;have HBa:=ai Vm;have yh:=ai eh
    have Ht:Hid (∀w9,fV (wr.alloc (au all[j].cells 134)).heap.size (wr.alloc (au all[j].cells 134)) w9->w9.heap[k]?=some (au (b.open (ae pm lm cm) (ae pn ln cn) (ae pk lk ck) (ae (some ⟨gv,0,none⟩) L cv)) 122 (0,0))/\w9.heap[wr.heap.size]?=some (au all[j].cells 134 (0,0))/\Reads w9 (ae qJ pl.length qX) pl.length (pl.map (aD af))):=ai fun w9 O5=>by
     have hs:(wr.alloc (au all[j].cells 134)).heap.size=wr.heap.size+1:=sM;have hb0:Bw wr (wr.alloc (au all[j].cells 134)):=dx;have qu:=Gj.out.size;exact⟨(O5.block _ oM).trans ((hb0.block _ oM).trans ((eh.block _ Ab).trans HK.out)),(O5.block _ oM).trans (az wr _),KU.out.below (Gj.out.trans ((eh.mono qu).trans ((hb0.mono oM).trans (O5.mono oM))))⟩
    unfold uJ at Xj;clear Vm eh;generalize all[j]=a at *;generalize Ae:b.bad (b.bS+a.used) (bJ pl)=bd at *;generalize lW b (all.take j) (bJ pl)=s at *;obtain⟨sm,sf⟩:=s;simp only[] at Xj;have KI:=ai Xj;clear Xj;simp only[];go_wp2
    refine cy kQ [
    pV (pv k 0),
     pV (aR (b.sl pm lm cm pn ln cn pk lk ck)),
     pV (aR a.cells),
     pV (ae qJ pl.length qX),
     pV (ag af (bJ pl)),
     pV (ag af bd),
     pV (ag af bd)]
     (fun w9=>fV (wr.alloc (au a.cells 134)).heap.size (wr.alloc (au a.cells 134)) w9) [(1,ae qJ pl.length qX),(7,pv k 0),(9,pv wr.heap.size 0)] kQ ?rst (fun w1 w2 h hb=>h.trans (hb.mono h.size)) ((aB _ _).drew) ⟨rfl,rfl,rfl,trivial⟩ ?reach ?rfin
    case rst=>
     refine⟨sV,sV,sV,sV,sV,sV,sV,trivial⟩
    case reach=>
     refine⟨?_,?_,?_,?_,?_,?_,?_,trivial⟩<;>rintro ev w1 hS hc hg hf ⟨b1,b7,b9,-⟩ hd
     .exact tV
     .have d0:ev (aL 28)=_:=hd.1 rfl;have q:=Ht.out w1 hS;have x0:=jJ q.1;exact tV
     .have q:=Ht.out w1 hS;obtain⟨y0,y1,y2,y3⟩:=qA q.2.1;exact tV
     .exact tV
     .have d3:ev (aL 31)=_:=hd.1 rfl;have q:=Ht.out w1 hS;refine yq (args:=#[ae qJ pl.length qX]) (kH pl Zo.out _ _ q.2.2) ?_ fun _=>rfl;go_simp
     .have d1:ev (aL 29)=_:=hd.1 rfl;have d2:ev (aL 30)=_:=hd.2.1 rfl;have d4:ev (aL 32)=_:=hd.2.2.1 rfl;refine yc (HBa.out w1) ?_ fun _=>rfl;go_simp
     have d5:ev (aL 33)=_:=hd.1 rfl;refine yv (v:=ev (aL 33)) ?_ (d5);rfl
    case rfin=>
     intro a3 w3 hR;have hS:=hR.s;have e6:a3.tmps.getD 10 aw=_:=hR.val 6;have ha:=hR.lits 47 rfl;simp only[aS,cA,nh] at ha;rw[hR.kp 0,hR.kp 1,hR.kp 2,hR.kp 3,hR.kp 4,hR.kp 5,hR.kp 6,hR.kp 7,hR.kp 8,hR.kp 11,hR.kp 12,hR.kp 13,hR.kp 14,hR.kp 15,hR.kp 16,hR.kp 17,hR.kp 18,hR.kp 19,hR.kp 20,hR.kp 21,hR.kp 22,hR.kp 23,hR.kp 24,hR.kp 45,hR.kp 46] at ha;simp only[kY,gI,gH] at ha;clear hR;rw[e6] at ha;generalize a3.tmps.getD=zz at ha;have pF:=ai hS;clear e6 hS;subst ha;have hwr:fV w2.heap.size wr w3:=((aB _ wr).alloc hsz _).trans (pF.out.mono sO);have HWr:=ai hwr;clear hwr
     by_cases h0:bd=0
     .have g0:(bd==0)=true:=by simpa using h0
      clear h0;have H0:Hid (bd=0):=ai (by simpa using g0);go_wp2;go_roundw
      case rel=>
       refine⟨j+1,oM,sM,?_,?_,yh.out.trans HWr.out⟩
       .rw[KI.out];simp[H0.out]
       rw[KI.out];simp[H0.out]
      case measure=>simp[intOf];omega
     have g0:(bd==0)=false:=by simpa using h0
     have H0:=ai h0;clear h0;cases sf
     .go_wp2;go_roundw
      case rel=>
       refine⟨j+1,oM,sM,?_,?_,yh.out.trans HWr.out⟩
       .rw[KI.out];simp[H0.out]
       rw[KI.out];simp[H0.out]
      case measure=>simp[intOf];omega
     by_cases h1:bd<sm
     .have H1:=ai h1;go_wp2;go_roundw
      case rel=>
       refine⟨j+1,oM,sM,?_,?_,yh.out.trans HWr.out⟩
       .rw[KI.out];simp[H0.out,H1.out]
       rw[KI.out];simp[H0.out,H1.out]
      case measure=>simp[intOf];omega
     have H1:=ai h1;go_wp2;go_roundw
     case rel=>
      refine⟨j+1,oM,sM,?_,?_,yh.out.trans HWr.out⟩
      .rw[KI.out];simp[H0.out,H1.out]
      rw[KI.out];simp[H0.out,H1.out]
     case measure=>simp[intOf];omega
   obtain rfl:j=L:=oM;have KP:all.take j=all:=di (by rw[HL.out];exact aO _);obtain⟨s,hs⟩:∃s,lW b all (bJ pl)=s:=⟨_,rfl⟩
   rw[KP,hs];have yh:=ai eh;have TG:=ai hs;clear KP eh hs;have qg:Bw w wr:=Gj.out.trans (yh.out.mono Gj.out.size);have WM:=ai qg;clear qg;obtain⟨sm,sf⟩:=s;go_wp2
   (try simp only[Exit.inBlock,Exit.then,Exit.noGoto_ret])
   go_ret3
   exact⟨by rw[TG.out];rfl,WM.out⟩
end Go.Proofs.YtffladgmkiimjaaGreatDoor
namespace Go.Lag
open Go Go.RowKit Go.Conc Go.Proofs.YtffladgmkiimjaaGreatDoor
namespace Gd
section
variable{P:aN}{aP:Array Oper}{Q:Exit->Act->ak->Prop}{Vs:List Pred}{S:ak->Prop}{base:List (jR × aj)}{n:Nat}
end
end Gd
def jF(W:ak)(I:Nat->dQ->Nat)(d:Nat):Old W (dH W I d):=⟨rfl,rfl,aO _,fun _ _=>rfl⟩
section
variable{P:aN}{aP:Array Oper}{Q:Exit->Act->ak->Prop}{n:Nat}
theorem IY(T:Quiet P)(hm:P.follows .mixedOrders=true){id:Nat}{y:Code}{a0:Act}{W:ak}(hf:∀e a w,Q e a w->rT e=true)(Vs:List Pred)(base:List (jR × aj))(hok:ja aP n base=true)(hn:a0.tmps.size=n)(hbase:gh a0.eval base)(Bq:jo (Old W) Vs)
  (hE:Gd.Each (Yields P) aP Vs (Old W) base 0 aP.toList) (hy:∀a w,jh aP Vs (Old W) a0 (bF aP.size true) a w->vI P y Q a w):vI P (.seq (.region id aP true) y) Q a0 W:=
 n9 T hf (fun a w=>jh aP Vs (Old W) a0 (bF aP.size true) a w) (fun I d=>
  Gd.cy hm Vs (Old W) base (by rw[hn];exact hok) Bq (fun _ _ h hb=>h.trans (Old.of_below hb)) ((jF W I d).trans ⟨rfl,rfl,aO _,fun _ _=>rfl⟩) hbase hE fun a w h=>⟨rfl,h⟩) hy
theorem dz{R:Act->ak->Prop}(hf:∀e a w,Q e a w->rT e=true):∀e a w,Exit.then R Q e a w->rT e=true:=fun e a w h=>by cases e<;>first|rfl|exact hf _ a w h
theorem mJ(T:Quiet P){a:Act}{W:ak}(hf:∀e a w,Q e a w->rT e=true)(h:∀I d,Q .normal a (dH W I d)):vI P .skip Q a W:=kO T hf fun I d=>wp_skip (h I d)
def Zg(P:aN)(o:Oper)(ev:Operand->aj)(W:ak)(R:aj->ak->Prop):Prop:=
 ∃f args R2,(∀w,(execOp ev o).run P w=.ok (.enter f args) w)/\j5 P f args W R2/\∀v W',R2 v W'->R v W'
end
section
variable{P:aN}{aP:Array Oper}{Q:Exit->Act->ak->Prop}{n:Nat}
theorem A4(T:Quiet P){a:Act}{W:ak}{c:Operand}{x y:Code}{t:Bool}(hc:a.eval c=.bool t)(h1:t=true->vI P x Q a W)(h2:t=false->vI P y Q a W):vI P (.cond c x y) Q a W:=by
 cases t
 .exact mK T hc (h2 rfl)
 exact mK T hc (h1 rfl)
end
section
variable{P:aN}{aP:Array Oper}{base:List (jR × aj)}{C:Cf}{n:Nat}{S:ak->Prop}{outs:List (jR × aj)}{Q:Exit->Act->ak->Prop}{s:Sem Next}{w:ak}{v:aj}
theorem ags(T:Quiet P)(hmx:P.follows .mixedOrders=true)(hf:∀e a w,Q e a w->rT e=true)(C:Cf)(outs:List (jR × aj)){id:Nat}{y:Code}{a0:Act}{W:ak}(hF:gw n a0 base)(hm:nO (Old W) C.mem)(hh:KH aP base (fun _=>lY P) (Old W) (nN P aP base C) C.hs)(hy:sX (fun l=>∀a w,Old W w->gw n a l->vI P y Q a w) outs base)(hr:JA P aP n base C outs=zE P aP base C outs:=by kernel_rfl):vI P (.seq (.region id aP true) y) Q a0 W:=
 IY T hmx hf _ base (Jz hr) hF.size hF.base su (BR (fun _ _ h hb=>h.trans (Old.of_below hb)) hr hm hh) fun a w h=>hy.get a w h.s (ze hF hr h).rev
def WU(P:aN)(s:Sem Next)(w:ak)(v:aj):Prop:=∃f args R2,look P #[] s=some (.enter f args,[])/\j5 P f args w R2/\∀v' W',R2 v' W'->v'=v/\Old w W'
theorem gv{f:FuncId}{args:Array aj}(h:j5 P f args w fun u W'=>u=v/\Old w W')(he:look P #[] s=some (.enter f args,[]):=by kernel_rfl):WU P s w v:=⟨f,args,_,he,h,fun _ _ h=>h⟩
end
section
variable{P:aN}{aP:Array Oper}{base:List (jR × aj)}{C:Cf}{n:Nat}{S:ak->Prop}{a0:Act}
variable{Q:Exit->Act->ak->Prop}
def YV(P:aN):mQ:=fun o ev w R=>(∀I d,Yields P o ev (dH w I d) R)\/Zg P o ev w R
theorem Qn(T:Quiet P):xq aP (eA P aP Q) (YV P):=
 ⟨fun i rest o a w R ho hw hY hk=>by
  rcases hY with h|⟨f,args,R2,he,hc,h2⟩
  .exact gF T ho hw fun I d=>(h I d).wp fun v w' hv=>hk v w' hv
  exact rJ T ho hw he hc fun v W' _ hv=>hk v W' (h2 v W' hv),
 fun i rest o a w ho hw hk=>KZ T ho (by simpa using hw) hk⟩
theorem dt(T:Quiet P)(i k m:Nat)(C:Cf)(outs:List (jR × aj)){dE:List (jR × aj)}{W:ak}(hF:gw n a0 base)(hF2:gw n a0 dE)(hm:nO (Old W) C.mem)(hh:TF P aP base C (fun _=>lY P) (Old W) i C.hs)(hy:sX (fun l=>∀a w,Old W w->gw n a l->eA P aP Q (bN (i+k) m) a w) outs dE)(hr:vT P aP base C n dE i k outs=vS P aP base C i k outs:=by kernel_rfl):eA P aP Q (bN i (k+m)) a0 W:=
 JD (T:=Old) (Qn T) (fun _ _ h hb=>h.trans hb) Old.refl (fun i _ s w v h=>gr h)
  (fun i o ev w v R hS hg hR=>.inl fun I d=>(hg _ (hS.trans (jF w I d))).yields fun w' hb=>hR w' ((jF w I d).trans (Old.of_below hb))) hF hF2 hr (Old.refl _) hm hh hy
def GX(P:aN)(kv i:Nat):Sem Next->ak->aj->Prop:=match Nat.beq i kv with|true=>WU P|false=>lY P
theorem XR(T:Quiet P)(kv i k m:Nat)(C:Cf)(hkv:(mF C.hs kv).isSome=true)(outs:List (jR × aj)){dE:List (jR × aj)}{W:ak}(hF:gw n a0 base)(hF2:gw n a0 dE)(hm:nO (Old W) C.mem)(hh:TF P aP base C (GX P kv) (Old W) i C.hs)(hy:sX (fun l=>∀a w,Old W w->gw n a l->eA P aP Q (bN (i+k) m) a w) outs dE)(hr:vT P aP base C n dE i k outs=vS P aP base C i k outs:=by kernel_rfl):eA P aP Q (bN i (k+m)) a0 W:=
 JD (T:=Old) (Qn T) (fun _ _ h hb=>h.trans hb) Old.refl (fun i hi s w v h=>by
   unfold GX;cases hb:Nat.beq i kv with
   |true=>rw[Nat.eq_of_beq_eq_true hb] at hi;rw[hi] at hkv;cases hkv
   |false=>exact gr h)
  (fun i o ev w v R hS hg hR=>by
   unfold GX at hg;cases hb:Nat.beq i kv with
   |true=>
    simp only[hb] at hg;obtain⟨f,args,R2,h1,h2,h3⟩:=hg w hS;exact .inr ⟨f,args,R2,fun w9=>mO h1 sM,h2,fun v' W' hv=>by obtain⟨rfl,ho⟩:=h3 v' W' hv;exact hR _ ho⟩
   |false=>
    simp only[hb] at hg
    exact .inl fun I d=>(hg _ (hS.trans (jF w I d))).yields fun w' hb=>hR w' ((jF w I d).trans (Old.of_below hb))) hF hF2 hr (Old.refl _) hm hh hy
section
variable{id:Nat}{y:Code}{W:ak}{dE:List (jR × aj)}
theorem aaw(h:vI P y Q a0 W)(I:Nat->dQ->Nat)(d:Nat):vI P y Q a0 (dH W I d):=(Xv (I:=W.tape) (d:=W.drawn) h)
theorem lG(T:Quiet P){N:Nat}(hN:aP.size=N)(h:eA P aP (Exit.then (fun a w=>vI P y Q a w) Q) (bN 0 N) a0 W):vI P (.seq (.region id aP false) y) Q a0 W:=
 jE T (uh T (by rw[List.range_eq_range',hN];exact h))
theorem lF(T:Quiet P)(hf:∀e a w,Q e a w->rT e=true){i:Nat}(h:vI P y Q a0 W):eA P aP (Exit.then (fun a w=>vI P y Q a w) Q) (bN i 0) a0 W:=
 rI T (dz hf) fun I d=>aaw h I d
theorem FT(T:Quiet P)(hf:∀e a w,Q e a w->rT e=true)(C:Cf)(outs:List (jR × aj))(hF:gw n a0 base)(hF2:gw n a0 dE)(hm:nO (Old W) C.mem)(hh:TF P aP base C (fun _=>lY P) (Old W) 0 C.hs)(hy:sX (fun l=>∀a w,Old W w->gw n a l->vI P y Q a w) outs dE)(hr:vT P aP base C n dE 0 aP.size outs=vS P aP base C 0 aP.size outs:=by kernel_rfl):vI P (.seq (.region id aP false) y) Q a0 W:=
 lG T rfl (dt (hr:=hr) T 0 aP.size 0 C outs hF hF2 hm hh (hy.mono fun l h a w ho hl=>lF T hf (h a w ho hl)))
theorem ckX(T:Quiet P)(hf:∀e a w,Q e a w->rT e=true)(kv:Nat)(C:Cf)(hkv:(mF C.hs kv).isSome=true)(outs:List (jR × aj))(hF:gw n a0 base)(hF2:gw n a0 dE)(hm:nO (Old W) C.mem)(hh:TF P aP base C (GX P kv) (Old W) 0 C.hs)(hy:sX (fun l=>∀a w,Old W w->gw n a l->vI P y Q a w) outs dE)(hr:vT P aP base C n dE 0 aP.size outs=vS P aP base C 0 aP.size outs:=by kernel_rfl):vI P (.seq (.region id aP false) y) Q a0 W:=
 lG T rfl (XR (hr:=hr) T kv 0 aP.size 0 C hkv outs hF hF2 hm hh (hy.mono fun l h a w ho hl=>lF T hf (h a w ho hl)))
end
section
variable{dE:List (jR × aj)}{i m:Nat}{W:ak}
theorem XY(T:Quiet P)(C:Cf)(d:Option jR){R:aj->ak->Prop}(hF:gw n a0 base)(hF2:gw n a0 dE)(hc:zu P aP base C n dE i d=true)(hY:∀w,Old W w->Yields P (opAt aP i) (qW base []) w R)
  (hk:∀v w,R v w->∀a,gw n a (fj d v dE)->eA P aP Q (bN (i+1) m) a w):eA P aP Q (bN i (m+1)) a0 W:=
 Jj (Qn T) hF hF2 hc (fun ev he=>.inl fun I d=>(hY _ (jF W I d)).ex he) hk
theorem pS(T:Quiet P)(C:Cf)(d:Option jR){f:FuncId}{args:Array aj}{Φ:ak->Ending->ak->Prop}(hF:gw n a0 base)(hF2:gw n a0 dE)(hc:∀w,Old W w->bm P f args w (Φ w))(hk:∀w0 e w,Old W w0->Φ w0 e w->∃v,e=.returned v/\∀a,gw n a (fj d v dE)->eA P aP Q (bN (i+1) m) a w)(he:(zu P aP base C n dE i d,look P #[] (execOp (qW base []) (opAt aP i)))=(true,some (.enter f args,[])):=by kernel_rfl):eA P aP Q (bN i (m+1)) a0 W:=by
 rw[iq] at he;exact XY T C d (R:=fun v w=>∀a,gw n a (fj d v dE)->eA P aP Q (bN (i+1) m) a w) hF hF2 he.1 (fun w hw=>.call (mO he.2 sM) (hc w hw) fun e w' h=>hk w e w' hw h) fun v w h=>h
theorem V_(T:Quiet P)(C:Cf)(d:Option jR){f:FuncId}{args:Array aj}{Φ:aj->ak->Prop}(hF:gw n a0 base)(hF2:gw n a0 dE)(hc:j5 P f args W Φ)(hk:∀v w,Φ v w->∀a,gw n a (fj d v dE)->eA P aP Q (bN (i+1) m) a w)(he:(zu P aP base C n dE i d,look P #[] (execOp (qW base []) (opAt aP i)))=(true,some (.enter f args,[])):=by kernel_rfl):eA P aP Q (bN i (m+1)) a0 W:=by
 rw[iq] at he;exact Jj (Qn T) hF hF2 he.1 (fun ev hx=>.inr ⟨f,args,Φ,fun w=>by rw[hx];exact mO he.2 sM,hc,fun v W' h=>h⟩) hk
theorem nG(T:Quiet P)(C:Cf)(d:Option jR)(vf:Nat->aj)(cs:Array aj)(t:TypeId)(hF:gw n a0 base)(hF2:gw n a0 dE)(hk:∀B w a,W.heap.size<=B->Old W w->w.heap[B]?=some (.cells cs t (0,0))->gw n a (fj d (vf B) dE)->eA P aP Q (bN (i+1) m) a w)(hc:zu P aP base C n dE i d=true:=by kernel_rfl)(he:∀r,UA P r (execOp (qW base []) (opAt aP i))=some (cs,t,0,0,some (.value (vf r),[])):=by intro r;kernel_rfl):eA P aP Q (bN i (m+1)) a0 W:=
 XY T C d (R:=fun v w=>∃B,v=vf B/\W.heap.size<=B/\Old W w/\w.heap[B]?=some (.cells cs t (0,0))) hF hF2 hc (fun w hw=>.value (Qk (he _)) ⟨_,rfl,hw.size,hw.trans (Old.of_below dx),az _ _⟩)
  fun v w ⟨B,e,h1,h2,h3⟩ a hl=>hk B w a h1 h2 h3 (e▸hl)
theorem Zt.old{B:Nat}{V w w':ak}(h:Zt B w w')(ho:Old V w)(hB:V.heap.size<=B):Old V w':=⟨h.os.trans ho.os,h.output.trans ho.output,by rw[h.size];exact ho.size,fun k hk=>(h.block k oM).trans (ho.block k hk)⟩
theorem Qc(T:Quiet P)(C:Cf){B:Nat}(cs cs':Array aj){t:TypeId}(l:List Nat)(hF:gw n a0 base)(hF2:gw n a0 dE)(hB:W.heap[B]?=some (.cells cs t (0,0)))(hk:∀w a,(∀V,Old V W->V.heap.size<=B->Old V w)->w.heap[B]?=some (.cells cs' t (0,0))->gw n a dE->eA P aP Q (bN (i+1) m) a w)(he:(zu P aP base C n dE i none,(stores P (execOp (qW base []) (opAt aP i))).map fun q=>(q.map (·.1),(q.all fun p=>Nat.blt p.2.1 cs.size),yz cs q))=(true,some (l.map fun _=>B,true,cs')):=by kernel_rfl):eA P aP Q (bN i (m+1)) a0 W:=by
 obtain⟨h1,h2⟩:=Ua C cs cs' hB l he
 exact XY T C none (R:=fun v w=>(∀V,Old V W->V.heap.size<=B->Old V w)/\w.heap[B]?=some (.cells cs' t (0,0))) hF hF2 h1 (fun w hw=>by
  obtain⟨w',g1,g2,g3⟩:=h2 w ((hw.block B (ah.1 hB).1).trans hB)
  exact .skip g1 ⟨fun V hV hs=>g3.old (hV.trans hw) hs,g2⟩) fun v w h a hl=>hk w a h.1 h.2 hl
end
end
end Go.Lag
namespace Go.Proofs.YtffladgmkiimjaaGreatDoor
open Go.RowKit Go.Lag
def fM.nil{b:BB}(h:b.Ok):fM b []:=⟨sM,sM,by have:=h.eI;simpa using this.1⟩
def fM.next{b:BB}{pl:List Int}(h:fM b pl){k:Nat}(hk:∀p∈pl,p<=k)(h1:(k:Int)+1<=b.minutes)(h2:(pl.length:Int)<b.eI):fM b (pl++[((k:Int)+1)]):=by
 refine⟨fun p hp=>?_,fun i hi=>?_,sO⟩
 .rcases bB.1 hp with hp|hp
  .exact h.mem p hp
  simp at hp;omega
 simp at hi
 by_cases hi':i+1<pl.length
 .rw[List.getElem_append_left oM,List.getElem_append_left hi'];exact h.asc i hi'
 have:=hk pl[i] (bQ oM);rw[List.getElem_append_left oM,List.getElem_append_right oM];simp;omega
def LQ(b:BB)(hb:b.Ok)(p1 p2 p3:Option Addr)(n1 c1 n2 c2 n3 c3:Nat)(x:Int)(w:ak) :
  bm aq 31 #[aR (b.sl p1 n1 c1 p2 n2 c2 p3 n3 c3),ag .u16 x] w fun e w'=>∃v pl,e=aY v/\fM b pl/\w'.ownsRow w.heap.size 3 1 v pl.length (pl.map (aD af))/\Bw w w':=by
 obtain⟨i0,hi,hz0,hz1,hz2⟩:=info_parts info3;have hm:=hb.minutes;have hc:=hb.eI;have HN:=ai (fM.nil hb)
 go_enter Tryz.func31,Tryz.ntmps31
 go_wp2
 go_loopw [5,6] (fun v i wr=>∃(k:Nat) (pl:List Int),(k:Int)<=b.minutes/\i=ag af (k+1)/\fM b pl/\(∀p∈pl,p<=k)/\wr.ownsRow (w.heap.size+1) 3 1 v pl.length (pl.map (aD af))/\fV (w.heap.size+1) (w.alloc (au (b.sl p1 n1 c1 p2 n2 c2 p3 n3 c3) 28)) wr)
  (fun _ i _=>10-(intOf i).toNat)
 case atStart=>exact⟨0,[],oM,rfl,HN.out,sM,World.ownsRow_nil _ _ _ _,aB _ _⟩
 case round=>
  obtain⟨k,pl,hk,rfl,hpl,hle,hown,eh⟩:=hrel;obtain⟨po,co,rfl⟩:=dw hown;have K:=aK (aA (az w (au (b.sl p1 n1 c1 p2 n2 c2 p3 n3 c3) 28)) (eh.mono sM));have z3:wr.cell? ⟨w.heap.size,3,none⟩=some (ag af b.minutes):=K 3 _ rfl;have z6:wr.cell? ⟨w.heap.size,6,none⟩=some (ag af b.eI):=K 6 _ rfl;clear K;have H1:=ai hpl;have H2:=ai hle;clear hpl hle;have hB:w.heap.size+1<=wr.heap.size:=by simpa using eh.size
  have qg:Bw w wr:=dx.trans (eh.mono oM)
  by_cases hlt:(k:Int)+1<=b.minutes
  .by_cases hlc:(pl.length:Int)<b.eI
   .go_wp2_with (at_builtin;refine wpList_append_own _ rfl _ _ 25 rfl (w.heap.size+1) 3 i0 (ag af 0) 1 8 Tryz.underlying25 hi hz0 hz1 hz2 rfl dC _ _ _ rfl (hown.alloc _) ⟨wr.heap.size,0,none⟩ 1 1 [ag af (k+1)] rfl rfl ?c1 ?c2 ?c3 ?c4 ?c5 ?_)
    case c1=>
     intro j u hj
     match j,hj with
     |0,hj=>simp at hj;subst hj;simp[Addr.add]
    case c2=>intro u hu;simp at hu;subst hu;rfl
    case c3=>unfold maxLen;omega
    case c4=>omega
    case c5=>simp;omega
    .intro v' w1 hown' hgrow _;have hb1:fV (w.heap.size+1) _ w1:=qz hB hown eh hgrow;clear hgrow eh hown
     have ae7:∀p∈pl++[((k:Int)+1)],p<=((k+1:Nat):Int):=by
      intro p hp;rcases bB.1 hp with hp|hp
      .have:=H2.out p hp;omega
      simp at hp;omega
     have HL:=ai ae7;clear ae7;go_wp2;go_roundw
     case rel=>exact⟨k+1,pl++[((k:Int)+1)],oM,by go_num,H1.out.next H2.out hlt hlc,HL.out,by simpa using hown',hb1⟩
     case measure=>simp[intOf];omega
    go_roundw
    case rel=>exact⟨k+1,pl,oM,by go_num,H1.out,fun p hp=>by have:=H2.out p hp;omega,hown,eh⟩
    case measure=>simp[intOf];omega
   go_wp2
   go_ret
   exact⟨_,rfl,pl,H1.out,ownsRow_base hown oM,qg⟩
  go_wp2
  go_ret
  exact⟨_,rfl,pl,H1.out,ownsRow_base hown oM,qg⟩
end Go.Proofs.YtffladgmkiimjaaGreatDoor
