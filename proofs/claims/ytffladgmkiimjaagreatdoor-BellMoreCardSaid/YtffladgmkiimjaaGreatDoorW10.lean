/- pick (95): beside leavers. What good is handed. pick (95): its end, be .. -/
import Derived.Test.YtffladgmkiimjaaGreatDoorW09
import Derived.Test.YtffladgmkiimjaaGreatDoorW03
set_option linter.all false
set_option maxHeartbeats 0
set_option maxRecDepth 1000000
open Go.Lag.Yields renaming call -> jV
open Array renaming getElem?_eq_some_iff -> ag,replicate -> bz,replicate_zero -> kD,replicate_succ -> kE
open Go renaming Program -> aK,Value -> ai,World -> ak,undef -> au,bodyPost_ret -> bf,Calls -> bm,Question -> dV
open Go.Ending renaming returned -> aU
open Go.IntKind renaming i64 -> af
open Go.Lib renaming hid -> aj
open Go.Obj renaming cells -> ar
open Go.Operand renaming tmp -> aD
open Go.Proofs.Tryz renaming underlying23 -> CN,prog -> aq,underlying28 -> cF,underlying122 -> js
open Go.RowKit renaming Below -> gu
open Go.RowKit.Below renaming heap_setCell -> aW,refl -> ay
open Go.Value renaming bool -> aH,agg -> aO,slice -> ae,int -> ah,int -> ax,oneCell' -> bJ,tuple -> cR,ownBlock -> jD
open Go.World renaming alloc_heap_new -> aw,size_alloc -> eD
open List renaming range -> aP,take_succ_eq_append_getElem -> bH,mem_append -> bL,range' -> bN,mem_range -> bO,getElem_mem -> bS,take_of_length_le -> cQ,length_pos_iff -> dB,length_cons -> eT,cons_append -> fq,getD_cons_zero -> gH,getD_cons_succ -> gI,append_toArray -> iO,nil_append -> jE,size_toArray -> jS,push_toArray -> jT,length_nil -> o7,map -> oh
open List.range renaming loop -> cJ
open Nat renaming reduceSub -> Er,reduceAdd -> Et,le_refl -> aJ,lt_of_lt_of_le -> bA,zero_add -> dz
open Option.some renaming inj -> aT
open Or renaming inl -> bV
open Prod.mk renaming injEq -> iA
namespace Go.Proofs.YtffladgmkiimjaaGreatDoor
open Go.RowKit Go.Lag
open Go.Conc
def O6(u:ai):Prop:=(∃k n,u=.int k n)\/∃s,u=.string s
def Plain(w:ak)(v:ai):Prop:=∀g,v.ownBlock=some g->1<=g/\∃cs e z,w.heap[g]?=some (.cells cs e z)/\∀u∈cs,O6 u
def Plain.old{w w':ak}{v:ai}(h:Plain w v)(ho:Old w w'):Plain w' v:=fun g hg=>by
 obtain⟨h1,cs,e,z,h2,h3⟩:=h g hg;exact⟨h1,cs,e,z,(ho.block g (eY h2)).trans h2,h3⟩
def dh.old{b:BB}{bn aL az:ai}{ml:List Mn}{ss:List Int}{ms:List Mk}{w w':ak}(h:dh b bn aL az ml ss ms w)(ho:Old w w'):dh b bn aL az ml ss ms w':=
 ⟨h.ok,h.iF,h.ng,h.lK,h.rm.old ho,h.rs.old ho,h.rk.old ho⟩
def Laid.old{w w':ak}(h:Laid w)(hb:Old w w'):Laid w':=
 ⟨(hb.cell (a:=⟨0,0,none⟩) h.lt).trans h.c0,(hb.cell (a:=⟨0,1,none⟩) h.lt).trans h.c1,(hb.cell (a:=⟨0,2,none⟩) h.lt).trans h.c2,(hb.cell (a:=⟨0,3,none⟩) h.lt).trans h.c3,(hb.cell (a:=⟨0,4,none⟩) h.lt).trans h.c4,bA h.lt hb.size⟩
def iE.old{w w':ak}{base:Nat}{v:ai}{l:List eV}(h:iE w base v l)(ho:Old w w'):iE w' base v l:=h.at_ fun g hg=>ho.block g (h.1.lt g hg).2
def SE{w:ak}{base:Nat}{v:ai}{l:List eV}(h:iE w base v l)(hb:1<=base):Plain w v:=fun g hg=>by
 obtain⟨cur,h1,h2⟩:=h.2 g hg;have h3:=(h.1.lt g hg).1;exact⟨oM,cur,_,_,h1,fun u hu=>.inl ⟨_,h2 u hu⟩⟩
def Je(ok:eV->Bool):∀(r:List Mn) (mE:Nat) (a:eV),a.Ok->(∀m∈r,1<=m.lo/\m.hi<=99)->∀x∈leaves ok r mE a,x.Ok
 |[],mE,a,ha,_,x,hx=>by
  simp only[leaves] at hx;split at hx
  .simp at hx;subst hx;exact ha
  cases hx
 |m::r,mE,a,ha,hm,x,hx=>by
  simp only[leaves,List.mem_flatMap] at hx;obtain⟨n,hn,hx⟩:=hx;simp only[gU,List.mem_map,bO] at hn;obtain⟨i,hi,rfl⟩:=hn;have:=hm m sM;exact Je ok r (mE+1) _ (eV.OY ha mE oM oM) (fun m' h=>hm m' (by simp[h])) x hx
def oP{b:BB}{ml:List Mn}{ss:List Int}{ms:List Mk}(hb:b.Ok)(hm:xp ml):∀x∈bu b ml ss ms,x.Ok:=by
 intro x hx;simp only[bu,List.mem_flatMap] at hx;obtain⟨n,hn,hx⟩:=hx;simp only[gU,List.mem_map,bO] at hn;obtain⟨i,hi,rfl⟩:=hn;have:=hb.leak;exact Je _ ml 0 ⟨b.ll+i,0,0,0⟩ ⟨⟨by show 0<=b.ll+i;omega,by show b.ll+(i:Int)<=400;omega⟩,sM,sM,sM⟩ (fun m h=>⟨(hm.mem m h).2.1,(hm.mem m h).2.2.2.1⟩) x hx
def Zq{b:BB}{bn aL az all:ai}{ml:List Mn}{l:List eV}{ss:List Int}{ms:List Mk}{W:ak}(hB:dh b bn aL az ml ss ms W)(hl:∀x∈l,x.Ok)(h1:Plain W bn)(h2:Plain W aL)(h3:Plain W az)(h4:Plain W all)
  (ha:Reads W all l.length (rowOf l)) (hg:1<=W.heap.size):∃Y,XK aq b bn aL az all l ss ms Y W:=by
 have hm:=hB.ok.minutes
 have vr:∀(Y:Nat->Prop) (v:ai) (n:Nat) (xs:List ai),Reads W v n xs->(∀g,v.ownBlock=some g->Y g)->VR fw (zg Y) v v/\m_ Y W v n xs:=by
  intro Y v n xs hr hy;rcases hr with⟨rfl,rfl,rfl⟩|⟨g,off,cap,rfl,h,hg,hc⟩
  .exact⟨.FI _ _,.inl ⟨rfl,rfl,rfl⟩⟩
  exact⟨.slice _ _ ⟨wW (hy g rfl),rfl,rfl⟩,.inr ⟨g,off,cap,rfl,h,hy g rfl,hc⟩⟩
 refine⟨fun k=>bn.ownBlock=some k\/aL.ownBlock=some k\/az.ownBlock=some k\/all.ownBlock=some k,?_⟩
 have pl:∀(Y:Nat->Prop) (u:ai),O6 u->VR fw (zg Y) u u:=by
  rintro Y u (⟨k,n,rfl⟩|⟨s,rfl⟩)
  .exact .int _ _
  exact .string _
 have m1:=vr (fun k=>bn.ownBlock=some k\/aL.ownBlock=some k\/az.ownBlock=some k\/all.ownBlock=some k) bn _ _ hB.rm fun g h=>.inl h;have m2:=vr (fun k=>bn.ownBlock=some k\/aL.ownBlock=some k\/az.ownBlock=some k\/all.ownBlock=some k) aL _ _ hB.rs fun g h=>.inr (.inl h);have m3:=vr (fun k=>bn.ownBlock=some k\/aL.ownBlock=some k\/az.ownBlock=some k\/all.ownBlock=some k) az _ _ hB.rk fun g h=>.inr (.inr (.inl h));have m4:=vr (fun k=>bn.ownBlock=some k\/aL.ownBlock=some k\/az.ownBlock=some k\/all.ownBlock=some k) all _ _ ha fun g h=>.inr (.inr (.inr h))
 have Y8:∀c,(bn.ownBlock=some c\/aL.ownBlock=some c\/az.ownBlock=some c\/all.ownBlock=some c)->1<=c/\∃cs e z,W.heap[c]?=some (.cells cs e z)/\∀u∈cs,O6 u:=by
  rintro c (h|h|h|h)
  .exact h1 c h
  .exact h2 c h
  .exact h3 c h
  exact h4 c h
 have Dy:Tryz.prog.globals.size=1:=kQ
 exact⟨rfl,Tryz.func159,Tryz.func178,kQ,kQ,hB.ok,hl,fun s hs=>by have:=hB.ng.mem s hs;omega,fun m h=>by have:=hB.lK.mem m h;omega,
  fun c hc=>by obtain⟨_,cs,e,z,h,hu⟩:=Y8 c hc;exact⟨cs,e,z,h,fun u hu'=>pl _ u (hu u hu')⟩,fun c hc=>by rw[Dy];exact(Y8 c hc).1,by rw[Dy];exact hg,m1.1,m2.1,m3.1,m4.1,m2.2,m3.2,m4.2⟩
def aaW(lt:Nat->Nat->Bool)(acc:List Nat)(W:ak)(v:ai)(W':ak):Prop:=
 ∃(x:Nat) (r:List Nat) (lv:ai),(x::r).Perm acc/\v=cR #[lv,aH true,ah af 0]/\Reads W' lv (iu (jX lt x r)).length ((iu (jX lt x r)).map (ax af))/\Old W W'
noncomputable def UT:Code:=sR (sR (sR (sR (match Tryz.f95.body with|some c=>c|_=>.skip))))
def Fo{W W':ak}{v:ai}{n:Nat}{xs:List ai}(h:Reads W v n xs)(hb:Bw W W'):Reads W' v n xs:=h.below hb
def UX(g:FuncId)(lt:Nat->Nat->Bool)(Nd:∀(first:Nat),first<512->∀(more:List Nat),(∀x∈more,x<512)->∀(v:ai) (w:ak),Reads w v more.length (more.map fun(p:Nat)=>ax af (p:Int))->
   bm aq 160 #[.func (.func g) #[] #[],ah af first,v] w (Rt w (ah af (jX lt first more:Nat))))
  (x:Nat) (r:List Nat) (hx:x<512) (hr:∀y∈r,y<512) (out:ai) (W:ak) (ho:Reads W out (x::r).length (ints (x::r))) (acc:List Nat) (hp:(x::r).Perm acc) (W0:ak) (hold:Old W0 W)
  (t0 t2 t7 t8 t10 t11 t12 t13 t14 t15 t16 t17 t18 t19:ai) :
  UT.wp aq (bodyPost aq Tryz.f95 fun e w'=>∃v,e=aU v/\aaW lt acc W0 v w')
   ⟨#[t0,.func (.func g) #[] #[],t2,au,ae none 0 0,aH false,ah af 0,t7,t8,out,t10,t11,t12,t13,t14,t15,t16,t17,t18,t19,au,au,au,au,au,au,au,au,au,au,au],[]⟩ W:=by
 obtain⟨go,oo,cap,rfl,hlen,hgo,hcell⟩:∃go oo cap,out=ae (some ⟨go,oo,none⟩) (r.length+1) cap/\(r.length+1<=4294967296/\r.length+1<=cap)/\go<W.heap.size/\∀j u,(ints (x::r))[j]?=some u->W.cell? ⟨go,oo+j,none⟩=some u:=by
  rcases ho with⟨_,h,_⟩|h
  .simp at h
  exact h
 have HC0:Hid (∀w,Bw W w->w.cell? ⟨go,oo,none⟩=some (ah af x)):=aj fun w hb=>(hb.cell (p:=⟨go,oo,none⟩) hgo).trans (hcell 0 _ (by simp[ints]))
 have XB:Hid (∀w,Bw W w->Reads w (ae (if cap=1 then some ⟨go,oo,none⟩ else some ⟨go,oo+1,none⟩) r.length (cap-1)) r.length (r.map fun(p:Nat)=>ax af (p:Int))):=aj fun w hb=>
  if h1:cap=1 then by
   have h0:r=[]:=List.eq_nil_of_length_eq_zero oM;subst h0;rw[if_pos h1];exact .inr ⟨go,oo,cap-1,rfl,⟨sM,sM⟩,bA hgo hb.size,fun j u hj=>by simp at hj⟩
  else by
  rw[if_neg h1]
  exact .inr ⟨go,oo+1,cap-1,rfl,oM,bA hgo hb.size,fun j u hj=>(hb.cell (p:=⟨go,_,none⟩) hgo).trans (by
   have:=hcell (j+1) u (by simpa [ints] using hj)
   rwa [show oo+(j+1)=oo+1+j by omega] at this)⟩
 have HBe:=aj Nd;have HHx:=aj hr;have HPm:=aj hp;have HOl:=aj hold;clear Nd hr hp hold hcell ho;generalize hM:r.length=M at *;have HM:=aj hM;clear hM;have hbl:jX lt x r<512:=Bh lt r x hx HHx.out;have l1:((M:Int)+1==0)=false:=sO;have l2:(1:Int)<=(M:Int)+1:=oM;simp only[UT,sR,Tryz.f95];go_wp2
 refine cy kQ [
 pV (.func (.func g) #[] #[]),
  pV (ae (some ⟨go,oo,none⟩) (M+1) cap),
  pV (pv go oo),
  pV (ah af x),
  pV (ae (some ⟨go,oo,none⟩) (M+1) cap),
  pV ((ae (if cap=1 then some ⟨go,oo,none⟩ else some ⟨go,oo+1,none⟩) M (cap-1))),
  pV (ah af (jX lt x r:Nat)),
  fun v ds w9=>Reads w9 v (iu (jX lt x r)).length ((iu (jX lt x r)).map (ax af)),
  fun v ds w9=>Reads w9 v (iu (jX lt x r)).length ((iu (jX lt x r)).map (ax af)),
  pV (aH true),
  pV (ah af 0)]
  (fun w=>Bw W w) [(1,.func (.func g) #[] #[]),(9,ae (some ⟨go,oo,none⟩) (M+1) cap)] kQ ?rst (fun w1 w2 h hb=>h.trans (hb.mono h.size)) ((ay _ _).drew) ⟨rfl,rfl,trivial⟩ ?reach ?rfin
 case rst=>
  refine⟨sV,sV,sV,sV,sV,sV,sV,?_,?_,sV,sV,trivial⟩
  .rintro v ds w1 w2 hS h hb;exact Fo h hb
  rintro v ds w1 w2 hS h hb;exact Fo h hb
 case reach=>
  refine⟨?_,?_,?_,?_,?_,?_,?_,?_,?_,?_,?_,trivial⟩<;>rintro ev w1 hS hc hg hf ⟨b1,b9,-⟩ hd
  .exact tV
  .exact tV
  .have d1:ev (aD 24)=_:=hd.1 rfl;exact tV
  .have d2:ev (aD 25)=_:=hd.1 rfl;have z:=HC0.out w1 hS;exact tV
  .exact tV
  .have d4:ev (aD 27)=_:=hd.1 rfl;exact tV
  .have d0:ev (aD 23)=_:=hd.1 rfl;have d3:ev (aD 26)=_:=hd.2.1 rfl;have d5:ev (aD 28)=_:=hd.2.2.1 rfl;refine yc (args:=#[.func (.func g) #[] #[],ah af x,(ae (if cap=1 then some ⟨go,oo,none⟩ else some ⟨go,oo+1,none⟩) M (cap-1))]) (HBe.out x hx r HHx.out _ _ (by have:=XB.out w1 hS;rw[<-HM.out] at this;rw[<-HM.out];exact this)) ?_ fun _=>rfl;go_simp
  .have d6:ev (aD 29)=_:=hd.1 rfl;refine jV (f:=99) (args:=#[ah af (jX lt x r:Nat)]) ?_ (uh _ hbl _) ?_
   .go_simp
   rintro e w2 ⟨v,rfl,h1,hb⟩;exact⟨_,rfl,h1,bV hb⟩
  .exact yv rfl (hd.1 rfl)
  .exact tV
  exact tV
 case rfin=>
  intro a2 w2 hR;have hS:=hR.s;have e8:Reads w2 (a2.tmps.getD 4 au) (iu (jX lt x r)).length ((iu (jX lt x r)).map (ax af)):=hR.val 8;have e9:a2.tmps.getD 5 au=_:=hR.val 9;have Eh:a2.tmps.getD 6 au=_:=hR.val 10;have ha:=hR.lits 31 rfl;simp only[aP,cJ,oh] at ha;clear hR;rw[e9,Eh] at ha;generalize a2.tmps.getD 4 au=lv at *;generalize a2.tmps.getD=zz at ha;have ald:Hid (Old W w2):=aj (Old.of_below hS);have HE8:=aj e8;clear e8 e9 Eh hS;subst ha;go_wp2
  go_ret3
  exact⟨_,rfl,x,r,lv,HPm.out,rfl,HE8.out,HOl.out.trans ald.out⟩
def oB{P:aK}(T:Quiet P){x y:Code}{Q:Exit->Act->ak->Prop}{a:Act}{W:ak}(hf:∀e a w,Q e a w->rG e=true)(Q1:Act->ak->Prop)(hx:∀I d,x.wp P (fun e a w=>e=.normal/\Q1 a w) a (dR W I d))(hy:∀a w,Q1 a w->wD P y Q a w):wD P (.seq x y) Q a W:=
 RR T (fun e a w _ h=>hf e a w h) fun I d=>wp_mono (hx I d) (by rintro e a w ⟨rfl,h⟩;exact hy a w h)
def xI{W W':ak}{I:Nat->dV->Nat}{d:Nat}(h:Old W (dR W' I d)):Old W W':=⟨h.os,h.output,h.size,h.block⟩
def FC{W W':ak}{I:Nat->dV->Nat}{d:Nat}(h:Old (dR W I d) W'):Old W W':=⟨h.os,h.output,h.size,h.block⟩
def nQ{W W':ak}(I:Nat->dV->Nat)(d:Nat)(h:Old W W'):Old W (dR W' I d):=⟨h.os,h.output,h.size,h.block⟩
def Dp(b:BB)(bn aL az:ai)(w:ak):bm aq 122 #[aO (b.cells bn aL az)] w (Rt w (ah af 0)):=by
 go_enter Tryz.func122,Tryz.ntmps122
 go_wp2
 go_ret
 exact⟨rfl,dF⟩
structure Pk0(W:ak)(B:Nat)(cs:Array ai)(T:TypeId)(w:ak):Prop where
 old:Old W w
 blk:w.heap[B]?=some (ar cs T (0,0))
structure Pk1(W:ak)(b:BB)(bn aL az:ai)(all:List eV)(B7:Nat)(v:ai)(w:ak):Prop where
 old:Old W w
 blk:w.heap[B7]?=some (ar (b.open bn aL az v) 122 (0,0))
 own:iE w W.heap.size v all
section
variable{b:BB}{bn aL az:ai}{ml:List Mn}{ss:List Int}{ms:List Mk}{W:ak}
theorem UY(g:FuncId)(lt:Nat->Nat->Bool)(hL:Laid W)(hB:dh b bn aL az ml ss ms W)(p1:Plain W bn)(p2:Plain W aL)(p3:Plain W az)(hne:bu b ml ss ms≠[])
  (zm:kz b (dI ss ms).toNat (bE ss) (bu b ml ss ms) 512≠[]) (hlt:∀x∈kz b (dI ss ms).toNat (bE ss) (bu b ml ss ms) 512,x<512)
  (Nd:∀(first:Nat),first<512->∀(more:List Nat),(∀x∈more,x<512)->∀(v:ai) (w:ak),Reads w v more.length (more.map fun(p:Nat)=>ax af (p:Int))->
   bm aq 160 #[.func (.func g) #[] #[],ah af first,v] w (Rt w (ah af (jX lt first more:Nat)))) :
  ko aq 95 #[aO (b.cells bn aL az),.func (.func g) #[] #[]] W (aaW lt (kz b (dI ss ms).toNat (bE ss) (bu b ml ss ms) 512) W):=by
 refine lz quiet Tryz.func95 rfl ?hR ?body
 case hR=>
  rintro v W' I d ⟨x,r,lv,h1,h2,h3,h4⟩;exact⟨x,r,lv,h1,h2,h3,xI h4⟩
 simp only[Tryz.ntmps95,jS,eT,o7,Et,Er,kE,kD,jT,iO,jE,fq];refine oB quiet aX (fun a w=>a=⟨#[aO (b.cells bn aL az),.func (.func g) #[] #[],pv W.heap.size 0,au,ae none 0 0,aH false,ah af 0,au,au,au,au,au,au,au,au,au,au,au,au,au,au,au,au,au,au,au,au,au,au,au,au],[]⟩/\Pk0 W W.heap.size (b.cells bn aL az) 28 w) (fun I d=>?_) ?_
 .go_wp2;exact⟨FC (qQ _ _),aw (dR W I d) _⟩
 rintro a W1 ⟨rfl,⟨o1,x1⟩⟩;have kY:0<(bu b ml ss ms).length:=dB.2 hne;refine oB quiet aX (fun a w=>∃(B7:Nat) (v t10 t11 t12 t13 t14:ai),a=⟨#[aO (b.cells bn aL az),.func (.func g) #[] #[],pv W.heap.size 0,au,ae none 0 0,aH false,ah af 0,pv B7 0,ah af 0,au,t10,t11,t12,t13,t14,au,au,au,au,au,au,au,au,au,au,au,au,au,au,au,au],[]⟩/\Pk1 W b bn aL az (bu b ml ss ms) B7 v w) (fun I d=>?_) ?_
 .have o1':Old W (dR W1 I d):=nQ I d o1;obtain⟨c0,c1,c2,c3,c4,c5,c6,c7,c8,c9,c10,c11,c12,c13,c14⟩:=bZ (w:=dR W1 I d) x1;have HO:=aj (Aj b bn aL az ml ss ms (dR W1 I d) (hL.old o1') (hB.old o1') hne (fun W' _=>Dp b bn aL az W'));have HO1:=aj o1';obtain⟨pm,cm,rfl,_⟩:=aR hB.rm;obtain⟨pn,cn,rfl,_⟩:=aR hB.rs;obtain⟨pk,ck,rfl,_⟩:=aR hB.rk;clear hL hB p1 p2 p3 hne zm hlt Nd o1 o1' x1;generalize bu b ml ss ms=all at *;generalize ml.length=lm at *;generalize ss.length=ln at *;generalize ms.length=lk at *;generalize hW1:dR W1 I d=W2 at *
  go_wp2_with (first
   |(go_at_call 103;refine HO.out.mono ?_;clear HO;rintro e w3 ⟨v,rfl,jA,hb3⟩
     obtain⟨gv,pZ,rfl⟩:∃gv pZ,v=ae (some ⟨gv,0,none⟩) all.length pZ:=by
      rcases jA.1.2 with⟨_,h0⟩|⟨g,cap,cur,rfl,_⟩
      .omega
      exact⟨g,cap,rfl⟩
     have Oh:=aj jA;have qz:=aj hb3;clear jA hb3))
  have o3:Old W w3:=HO1.out.trans (Old.of_below qz.out);exact⟨_,o3.trans (qQ _ _),aw w3 _,(Oh.out.base HO1.out.size).old (qQ _ _)⟩
 rintro a W2 ⟨B7,v,t10,t11,t12,t13,t14,rfl,⟨o2,x2,jA⟩⟩;refine oB quiet aX (fun a w=>a=⟨#[aO (b.cells bn aL az),.func (.func g) #[] #[],pv W.heap.size 0,au,ae none 0 0,aH false,ah af 0,pv B7 0,ah af 0,au,t10,t11,t12,t13,t14,ah af 0,aH false,au,au,au,au,au,au,au,au,au,au,au,au,au,au],[]⟩/\Pk1 W b bn aL az (bu b ml ss ms) B7 v w) (fun I d=>?_) ?_
 .go_wp2;exact⟨nQ _ _ o2,x2,jA⟩
 rintro a W3 ⟨rfl,⟨o3,x3,ai0⟩⟩;clear o2 x2 jA;refine gR quiet (uM quiet ?_);refine gD (i:=0) (rest:=[1,2]) quiet rfl rfl fun I d=>?_;refine wp_load_row 122 (aD 7) rfl B7 rfl 122 _ (0,0) _ (w:=dR W3 I d) x3 js rfl kQ ?_;have Rl:=hB.old (nQ I d o3);have afk:iE (dR W3 I d) W.heap.size v (bu b ml ss ms):=ai0;have hW1:1<=W.heap.size:=hL.lt;obtain⟨Y,hG⟩:=Zq (all:=v) (l:=bu b ml ss ms) Rl (oP hB.ok hB.iF) (p1.old (nQ I d o3)) (p2.old (nQ I d o3)) (p3.old (nQ I d o3)) (SE afk hW1) (afk.reads (by have:=jQ ss ms hB.ok hB.iF;omega)) (Nat.le_trans hW1 o3.size);refine r_ (i:=1) (rest:=[2]) quiet rfl rfl (f:=159) (args:=#[aO (b.open bn aL az v)]) (fun w=>by kernel_rfl) (acH hG) ?_;rintro out W4 _ ⟨ld,hr,hperm,ho4⟩;have o4:Old W W4:=(nQ I d o3).trans ho4;refine gD (i:=2) (rest:=[]) quiet rfl rfl fun τ1 d1=>?_;show eQ aq _ _ [] _ _
 have ai3:ld≠[]:=by
  rintro rfl;exact zm hperm.symm.eq_nil
 obtain⟨x,r,rfl⟩:∃x r,ld=x::r:=by
  cases ld with
  |nil=>exact(ai3 rfl).elim
  |cons x r=>exact⟨x,r,rfl⟩
 have hx:=hlt x (hperm.subset sM);have hr2:∀y∈r,y<512:=fun y hy=>hlt y (hperm.subset (by simp[hy]));refine r9 (l:=[]) quiet (fun e a w h=>by cases e<;>first|rfl|exact(h:False).elim) fun τ2 d2=>?_;refine lU quiet aX fun τ3 d3=>yZ ?_;have hend:=UX g lt Nd x r hx hr2 out (dR (dR (dR W4 τ1 d1) τ2 d2) τ3 d3) hr _ hperm W ⟨o4.os,o4.output,o4.size,o4.block⟩ (aO (b.cells bn aL az)) (pv W.heap.size 0) (pv B7 0) (ah af 0) t10 t11 t12 t13 t14 (ah af 0) (aH false) au (aO (b.open bn aL az v)) out;exact hend
end
def Le(p:Option Addr)(n cap:Nat)(w:ak):bm aq 104 #[ae p n cap] w fun e w'=>e=aU (.func (.func 164) #[] #[pv w.heap.size 0])/\w'=w.alloc (ar #[ae p n cap] 25):=by
 go_enter Tryz.func104,Tryz.ntmps104
 go_wp2
 go_ret
 exact⟨rfl,rfl⟩
def EO(b:BB)(hb:b.Ok)(bn aL az:ai)(pl:List Int)(hp:eG b pl)(cp:Nat)(lv:ai)(w:ak)(zl:w.heap[cp]?=some (ar #[lv] 25 (0,0)))(hl:Reads w lv pl.length (pl.map (ax af))) :
  bm aq 164 #[aO (b.cells bn aL az),pv cp 0] w (Rt w (ah af 0)):=by
 have b1:Bw w (w.alloc (ar (b.cells bn aL az) 119)):=dF;have lp:=(ag.1 zl).1;have x1:=aF ((b1.block _ lp).trans zl) 0 _ rfl;have X9:=aj (rq b hb bn aL az lv pl hp _ (hl.below b1));have zQ:=aj b1;clear zl hl hp b1
 go_enter Tryz.func164,Tryz.ntmps164
 go_wp2_with (go_at_call 113;refine X9.out.mono ?_;clear X9;rintro e w1 ⟨rfl,hb1⟩;have qp:=aj hb1;clear hb1)
 go_ret
 exact⟨rfl,zQ.out.trans (qp.out.mono zQ.out.size)⟩
def BB.dep(b:BB)(d:Int):BB:={ b with depth:=d }
def BB.ac5{b:BB}(h:b.Ok){d:Int}(h1:0<=d)(h2:d<=99):(b.dep d).Ok:=⟨h.room,⟨h1,h2⟩,h.least,h.minutes,h.cI,h.jP,h.ey,h.iC,h.leak,h.Fs⟩
def pQ(b:BB)(all:List eV)(p:Nat):Nat->Option Nat
 |0=>none
 |n+1=>if (b.dep n).sure all p then some n else pQ b all p n
def aaR(o:Option Nat):ai × Bool:=match o with|some n=>(ah af n,true)|none=>(ah af 0,false)
def Qw(b:BB)(bn aL az:ai)(ml:List Mn)(ss:List Int)(ms:List Mk)(w:ak)(hL:Laid w)(hB:dh b bn aL az ml ss ms w)(hne:bu b ml ss ms≠[])(pl:List Int)(hp:eG b pl)(lv:ai)(hl:Reads w lv pl.length (pl.map (ax af))) :
  bm aq 25 #[aO (b.cells bn aL az),lv] w (Rt w (cR #[(aaR (pQ b (bu b ml ss ms) (bE pl) 100)).1,aH (aaR (pQ b (bu b ml ss ms) (bE pl) 100)).2,ah af 0])):=by
 have hlen:=jQ ss ms hB.ok hB.iF;have kY:0<(bu b ml ss ms).length:=dB.2 hne;have dp:=hB.ok;have hao:=oP (ss:=ss) (ms:=ms) hB.ok hB.iF;have AB:=dp.minutes;have oK:∀s∈pl,1<=s/\s<=8:=fun s h=>by have:=hp.mem s h;omega
 have Hh:bE pl<512:=mV pl oK;obtain⟨pm,cm,rfl,_⟩:=aR hB.rm;obtain⟨pn,cn,rfl,_⟩:=aR hB.rs;obtain⟨pk,ck,rfl,_⟩:=aR hB.rk;obtain⟨rj,rH,rfl,_⟩:=aR hl;have b1:Bw w (w.alloc (ar (b.sl pm ml.length cm pn ss.length cn pk ms.length ck) 28)):=dF;have hk:=aw w (ar (b.sl pm ml.length cm pn ss.length cn pk ms.length ck) 28)
 have XE:Hid (∀W cp,Bw w W->W.heap[cp]?=some (ar #[ae rj pl.length rH] 25 (0,0))->bm aq 103 #[aO (b.sl pm ml.length cm pn ss.length cn pk ms.length ck),.func (.func 164) #[] #[pv cp 0]] W fun e w'=>∃v,e=aU (cR #[aO (b.open (ae pm ml.length cm) (ae pn ss.length cn) (ae pk ms.length ck) v),ah af 0])/\iE w' W.heap.size v (bu b ml ss ms)/\Bw W w'):=
  aj fun W cp Lz V5=>Ey b _ _ _ ml ss ms W (hL.below Lz) (hB.below Lz) hne cp fun W' hb'=>by
   have hlt:=(ag.1 V5).1;exact EO b dp _ _ _ pl hp cp _ W' ((hb'.block _ hlt).trans V5) ((hl.below Lz).below hb')
 have LA:=aj hl;have T8:=aj hao;have ZY:=aj oK;clear hL hB hl hao hp oK;generalize bu b ml ss ms=all at *;generalize ml.length=lm at *;generalize ss.length=ln at *;generalize ms.length=lk at *
 go_enter Tryz.func25,Tryz.ntmps25
 go_wp2
 refine cy kQ [
 pV (aO (b.sl pm lm cm pn ln cn pk lk ck)),
  pV (ae rj pl.length rH),
  fun v ds w9=>∃cp,v=.func (.func 164) #[] #[pv cp 0]/\w9.heap[cp]?=some (ar #[ae rj pl.length rH] 25 (0,0)),
  fun v ds w9=>∃gv cv,v=cR #[aO (b.open (ae pm lm cm) (ae pn ln cn) (ae pk lk ck) (ae (some ⟨gv,0,none⟩) all.length cv)),ah af 0]/\iE w9 w.heap.size (ae (some ⟨gv,0,none⟩) all.length cv) all,
  fun v ds w9=>∃gv cv,v=cR #[aO (b.open (ae pm lm cm) (ae pn ln cn) (ae pk lk ck) (ae (some ⟨gv,0,none⟩) all.length cv)),ah af 0]/\iE w9 w.heap.size (ae (some ⟨gv,0,none⟩) all.length cv) all,
  fun v ds w9=>∃gv cv,v=aO (b.open (ae pm lm cm) (ae pn ln cn) (ae pk lk ck) (ae (some ⟨gv,0,none⟩) all.length cv))/\iE w9 w.heap.size (ae (some ⟨gv,0,none⟩) all.length cv) all,
  pV (ah af 0),
  fun v ds w9=>∃k,∃z:Array ai,v=pv k 0/\w.heap.size+1<=k/\w9.heap[k]?=some (ar z 122 (0,0))/\z.size=16,
  fun v ds w9=>∃k gv cv,ds[0]?=some (pv k 0)/\w.heap.size+1<=k/\w9.heap[k]?=some (ar (b.open (ae pm lm cm) (ae pn ln cn) (ae pk lk ck) (ae (some ⟨gv,0,none⟩) all.length cv)) 122 (0,0))/\iE w9 w.heap.size (ae (some ⟨gv,0,none⟩) all.length cv) all,
  pV (ah af 0)]
  (fun w9=>w9.heap[w.heap.size]?=some (ar (b.sl pm lm cm pn ln cn pk lk ck) 28 (0,0))/\Bw w w9) [(2,pv w.heap.size 0),(1,ae rj pl.length rH)] kQ ?rst (fun w1 w2 h hb=>⟨(hb.block _ (ag.1 h.1).1).trans h.1,h.2.trans (hb.mono h.2.size)⟩) (⟨hk,b1.drew⟩) ⟨rfl,rfl,trivial⟩ ?reach ?rfin
 case rst=>
  refine⟨sV,sV,?_,?_,?_,?_,sV,?_,?_,sV,trivial⟩
  .rintro v ds w1 w2 hS ⟨cp,h1,h2⟩ hb;exact⟨cp,h1,(hb.block _ (ag.1 h2).1).trans h2⟩
  .rintro v ds w1 w2 hS ⟨gv,cv,h1,h2⟩ hb;exact⟨gv,cv,h1,h2.at_ fun g hg=>hb.block g (h2.1.lt g hg).2⟩
  .rintro v ds w1 w2 hS ⟨gv,cv,h1,h2⟩ hb;exact⟨gv,cv,h1,h2.at_ fun g hg=>hb.block g (h2.1.lt g hg).2⟩
  .rintro v ds w1 w2 hS ⟨gv,cv,h1,h2⟩ hb;exact⟨gv,cv,h1,h2.at_ fun g hg=>hb.block g (h2.1.lt g hg).2⟩
  .rintro v ds w1 w2 hS ⟨k,z,h1,h2,h3,h4⟩ hb;exact⟨k,z,h1,h2,(hb.block _ (ag.1 h3).1).trans h3,h4⟩
  rintro v ds w1 w2 hS ⟨k,gv,cv,h1,h0,h3,h2⟩ hb;exact⟨k,gv,cv,h1,h0,(hb.block _ (ag.1 h3).1).trans h3,h2.at_ fun g hg=>hb.block g (h2.1.lt g hg).2⟩
 case reach=>
  refine⟨?_,?_,?_,?_,?_,?_,?_,?_,?_,?_,trivial⟩<;>rintro ev w1 hS hc hg hf ⟨b2,b1,-⟩ hd
  .have x0:=bZ hS.1;exact tV
  .exact tV
  .have d1:ev (aD 10)=_:=hd.1 rfl;refine jV (f:=104) (args:=#[ae rj pl.length rH]) ?_ (Le _ _ _ _) ?_
   .go_simp
   rintro e w2 ⟨rfl,rfl⟩;exact⟨_,rfl,⟨_,rfl,aw _ _⟩,bV dF⟩
  .have d0:ev (aD 9)=_:=hd.1 rfl;obtain⟨cp,EI,zl⟩:=hd.2.1 rfl;replace EI:ev (aD 11)=_:=EI;refine jV (f:=103) (args:=#[aO (b.sl pm lm cm pn ln cn pk lk ck),.func (.func 164) #[] #[pv cp 0]]) ?_ (XE.out w1 cp hS.2 zl) ?_
   .go_simp
   rintro e w2 ⟨v,rfl,jA,hb⟩
   obtain⟨gv,cv,rfl⟩:∃gv cv,v=ae (some ⟨gv,0,none⟩) all.length cv:=by
    rcases jA.1.2 with⟨_,h0⟩|⟨g,cap,cur,rfl,_⟩
    .omega
    exact⟨g,cap,rfl⟩
   exact⟨_,rfl,⟨gv,cv,rfl,jA.base hS.2.size⟩,bV hb⟩
  .exact yv rfl (hd.1 rfl)
  .obtain⟨gv,cv,e11,jA⟩:=hd.1 rfl;replace e11:ev (aD 8)=_:=e11;refine yv ?_ (⟨gv,cv,rfl,jA⟩);go_simp
  .obtain⟨gv,cv,e11,jA⟩:=hd.1 rfl;replace e11:ev (aD 8)=_:=e11;exact tV
  .refine Lag.Yields.value (v:=pv w1.heap.size 0) (w':=w1.alloc (ar iM 122)) ?_ ⟨⟨_,_,rfl,(ag.1 hS.1).1,aw _ _,rfl⟩,bV dF⟩;go_simp
  .obtain⟨k,z,e6,rC,hk2,hz⟩:=hd.1 rfl;replace e6:ev (aD 7)=_:=e6;obtain⟨gv,cv,ND,jA⟩:=hd.2.1 rfl;replace ND:ev (aD 13)=_:=ND;have ED:∀g cs t,w1.heap[g]?=some (ar cs t (0,0))->t≠122->g≠k:=by rintro g cs t h1 h2 rfl;rw[hk2] at h1;cases h1;exact h2 rfl
   have FY:∀(v:ai),iE w1 w.heap.size v all->iE (w1.setRow k (b.open (ae pm lm cm) (ae pn ln cn) (ae pk lk ck) (ae (some ⟨gv,0,none⟩) all.length cv))) w.heap.size v all:=fun v ho=>ho.at_ fun g hg=>setRow_other (by
    obtain⟨cur,q1,_⟩:=ho.2 g hg
    exact ED g _ _ q1 dC)
   refine Lag.Yields.iB 122 _ _ rfl k _ e6 ND 122 z hk2 kQ hz (by simp[bJ]) ⟨⟨k,gv,cv,congrArg some e6,rC,cD hk2,FY _ jA⟩,.inr ⟨⟨(setRow_other oM).trans hS.1,dx hS.2 oM⟩,?_⟩⟩;intro j u ds hj hp
   match j,hp with
   |0,hp|1,hp=>exact hp
   |2,⟨cp,h1,h2⟩=>exact⟨cp,h1,(setRow_other (ED _ _ _ h2 dC)).trans h2⟩
   |3,⟨F7,Gm,h1,h2⟩=>exact⟨F7,Gm,h1,FY _ h2⟩
   |4,⟨F7,Gm,h1,h2⟩=>exact⟨F7,Gm,h1,FY _ h2⟩
   |5,⟨F7,Gm,h1,h2⟩=>exact⟨F7,Gm,h1,FY _ h2⟩
   |6,hp=>exact hp
   |7,⟨k',z',h1,h2,h3,h4⟩=>
    by_cases tP:k'=k
    .subst tP;exact⟨k',_,h1,h2,cD h3,rfl⟩
    exact⟨k',z',h1,h2,(setRow_other tP).trans h3,h4⟩
   |8,_=>exact(hj rfl).elim
   |9,hp=>exact hp
   |j+10,_=>trivial
  have d6:ev (aD 14)=_:=hd.1 rfl;refine yv (v:=ev (aD 14)) ?_ (d6);rfl
 case rfin=>
  intro a2 w2 hR;have hS:=hR.s;obtain⟨k,gv,cv,WU,rC,hk2,jA⟩:=hR.val 8;have e9:a2.tmps.getD 6 au=_:=hR.val 9;have ha:=hR.lits 42 rfl;simp only[aP,cJ,oh] at ha;rw[hR.kp 1,hR.kp 2,hR.kp 4,hR.kp 5] at ha;simp only[lr,gI,gH] at ha;clear hR;have e6:a2.tmps.getD 7 au=pv k 0:=aT WU;rw[e6,e9] at ha;generalize a2.tmps.getD=zz at ha;clear e6 WU e9;subst ha;have ur:=hS.1;have tE:=hS.2;clear hS;have y1:=aF hk2 1 _ rfl;have f1:=dm hk2 1
  have hkg:gv≠k:=by
   obtain⟨cur,q1,_⟩:=jA.2 gv rfl;rintro rfl;rw[hk2] at q1;cases q1
  have Iz:=aj hk2;have Oh:=aj jA;have Hb:=aj tE;clear hk2 jA tE ur hk b1 XE;go_wp2
  go_loopw [24] (fun _ wr=>∃n:Nat,n<=100/\wr.heap[k]?=some (ar ((b.dep ((n:Int)-1)).open (ae pm lm cm) (ae pn ln cn) (ae pk lk ck) (ae (some ⟨gv,0,none⟩) all.length cv)) 122 (0,0))/\iE wr w.heap.size (ae (some ⟨gv,0,none⟩) all.length cv) all/\Bw w wr/\pQ b all (bE pl) 100=pQ b all (bE pl) n) (fun _ wr=>(intOf ((wr.cell? ⟨k,1,none⟩).getD au)+1).toNat)
  case atStart=>
   refine⟨100,oM,dn _ Iz.out,Oh.out.at_ fun g hg=>aW _ _ _ _ ?_,Hb.out.setCell (p:=⟨k,1,none⟩) (by show _<=k;omega) _,rfl⟩;have:g=gv:=by simpa [jD] using hg.symm
   subst this;exact hkg
  case round=>
   obtain⟨n,hn,Zc,jA,tE,M_⟩:=hrel;have z1:=aF Zc 1 _ rfl;have f1:=dm Zc 1;have yB:=(ag.1 Zc).1
   by_cases h0:0<n
   .obtain⟨m,rfl⟩:∃m,n=m+1:=⟨n-1,oM⟩
    have hd:(b.dep (((m+1:Nat):Int)-1))=b.dep m:=by congr 1;omega
    have hz:(((m+1:Nat):Int)-1)=m:=oM;rw[hz] at Zc z1;have z2:wr.cell? ⟨k,1,none⟩=some (ah af m):=z1;clear z1 hz hd;have hSu:=fun W (hb:Bw wr W)=>yT (b.dep m) (BB.ac5 dp oM oM) (ae pm lm cm) (ae pn ln cn) (ae pk lk ck) (ae (some ⟨gv,0,none⟩) all.length cv) all T8.out (bE pl) Hh W ((jA.reads oM).below hb);have HSu:=aj hSu
    have Iy:Hid (∀w9,Bw wr w9->w9.heap[k]?=some (ar ((b.dep m).open (ae pm lm cm) (ae pn ln cn) (ae pk lk ck) (ae (some ⟨gv,0,none⟩) all.length cv)) 122 (0,0))/\Reads w9 (ae rj pl.length rH) pl.length (pl.map (ax af))):=aj fun w9 PQ=>
     ⟨(PQ.block _ yB).trans Zc,LA.out.below (tE.trans (PQ.mono tE.size))⟩
    have hdp:pQ b all (bE pl) (m+1)=if (b.dep m).sure all (bE pl) then some m else pQ b all (bE pl) m:=rfl
    rw[hdp] at M_;have HDe:=aj M_;have HOr:=aj jA;have HKr:=aj Zc;have HBr:=aj tE;clear hSu M_ hdp jA Zc tE;obtain⟨r,hr⟩:∃r,(b.dep m).sure all (bE pl)=r:=⟨_,rfl⟩
    rw[hr] at HSu HDe;clear hr;go_wp2
    refine cy kQ [
    pV (aO ((b.dep m).open (ae pm lm cm) (ae pn ln cn) (ae pk lk ck) (ae (some ⟨gv,0,none⟩) all.length cv))),
     pV (ae rj pl.length rH),
     pV (ah af (bE pl)),
     pV (aH r)]
     (fun w9=>Bw wr w9) [(1,ae rj pl.length rH),(7,pv k 0)] kQ ?rst (fun w1 w2 h hb=>h.trans (hb.mono h.size)) ((ay _ _).drew) ⟨rfl,rfl,trivial⟩ ?reach ?rfin
    case rst=>
     refine⟨sV,sV,sV,sV,trivial⟩
    case reach=>
     refine⟨?_,?_,?_,?_,trivial⟩<;>rintro ev w1 hS hc hg hf ⟨b1,b7,-⟩ hd
     .have q:=Iy.out w1 hS;refine Lag.Yields.pD 122 _ rfl k b7 122 _ (0,0) _ q.1 js rfl kQ ⟨rfl,bV (ay _ _)⟩
     .exact tV
     .have d1:ev (aD 35)=_:=hd.1 rfl;have q:=Iy.out w1 hS;refine yq (args:=#[ae rj pl.length rH]) (kW pl ZY.out _ _ q.2) ?_ fun _=>rfl;go_simp
     have d0:ev (aD 34)=_:=hd.1 rfl;have d2:ev (aD 36)=_:=hd.2.1 rfl;refine yc (HSu.out w1 hS) ?_ fun _=>rfl;go_simp
    case rfin=>
     intro a3 w3 hR;have hS:=hR.s;have e3:a3.tmps.getD 37 au=_:=hR.val 3;have ha:=hR.lits 42 rfl;simp only[aP,cJ,oh] at ha;rw[hR.kp 0,hR.kp 1,hR.kp 2,hR.kp 3,hR.kp 7,hR.kp 8,hR.kp 9,hR.kp 10,hR.kp 11,hR.kp 12,hR.kp 13,hR.kp 14,hR.kp 15,hR.kp 16,hR.kp 17,hR.kp 18,hR.kp 19,hR.kp 20] at ha;simp only[lr,gI,gH] at ha;clear hR;rw[e3] at ha;generalize a3.tmps.getD=zz at ha;have qz:=aj hS;clear e3 hS;subst ha;have q1:=(qz.out.block _ yB).trans HKr.out;have x1:w3.cell? ⟨k,1,none⟩=some (ah af m):=aF q1 1 _ rfl;have x2:=dm q1 1;have HQ:=aj q1;clear q1;cases r
     .have zz:IntKind.i64.wrap ((m:Int)-1)=(m:Int)-1:=by rw[IntKind.wrap_i64];omega
      go_wp2;have q2:=dn (i:=1) (ah af ((m:Int)-1)) HQ.out;have x3:=aF q2 1 (ah af ((m:Int)-1)) rfl;refine⟨⟨m,oM,q2,(HOr.out.old (Old.of_below qz.out)).at_ fun g hg=>aW _ _ _ _ ?_,(HBr.out.trans (qz.out.mono HBr.out.size)).setCell (p:=⟨k,1,none⟩) (by show _<=k;omega) _,by rw[HDe.out];simp⟩,?_⟩
      .have:g=gv:=by simpa [jD] using hg.symm
       subst this;exact hkg
      rw[x3,z2];simp[intOf]
     go_wp2
     go_ret3
     exact⟨by rw[HDe.out];rfl,HBr.out.trans (qz.out.mono HBr.out.size)⟩
   obtain rfl:n=0:=oM;have hz:(((0:Nat):Int)-1) = -1:=oM;rw[hz] at Zc z1;have z2:wr.cell? ⟨k,1,none⟩=some (ah af (-1)):=z1;have HDe:=aj M_;have HBr:=aj tE;clear Zc z1 M_ tE jA hz;go_wp2
   go_ret3
   exact⟨by rw[HDe.out];rfl,HBr.out⟩
def qD(n L:Nat):Int:=if n=0 then 2 else if n=L then 1 else 0
def Nj(b:BB)(all:List eV)(p:Nat):Nat:=all.countP fun a=>decide (b.bad (b.cI+a.used) p=0)
def NI{α:Type}(f:α->Bool)(l:List α){k:Nat}(h:k<l.length):(l.take (k+1)).countP f=(l.take k).countP f+(if f l[k] then 1 else 0):=by
 rw[bH h,List.countP_append,List.countP_singleton]
def RQ(b:BB)(bn aL az:ai)(ml:List Mn)(ss:List Int)(ms:List Mk)(w:ak)(hL:Laid w)(hB:dh b bn aL az ml ss ms w)(hne:bu b ml ss ms≠[])(pl:List Int)(hp:eG b pl)(lv:ai)(hl:Reads w lv pl.length (pl.map (ax af))) :
  bm aq 44 #[aO (b.cells bn aL az),lv] w (Rt w (cR #[ah af (qD (Nj b (bu b ml ss ms) (bE pl)) (bu b ml ss ms).length),ah af 0])):=by
 have hlen:=jQ ss ms hB.ok hB.iF;have kY:0<(bu b ml ss ms).length:=dB.2 hne;have dp:=hB.ok;have hao:=oP (ss:=ss) (ms:=ms) hB.ok hB.iF;have AB:=dp.minutes;have oK:∀s∈pl,1<=s/\s<=8:=fun s h=>by have:=hp.mem s h;omega
 have Hh:bE pl<512:=mV pl oK;obtain⟨pm,cm,rfl,_⟩:=aR hB.rm;obtain⟨pn,cn,rfl,_⟩:=aR hB.rs;obtain⟨pk,ck,rfl,_⟩:=aR hB.rk;obtain⟨rj,rH,rfl,_⟩:=aR hl;have b1:Bw w (w.alloc (ar (b.sl pm ml.length cm pn ss.length cn pk ms.length ck) 28)):=dF;have hk:=aw w (ar (b.sl pm ml.length cm pn ss.length cn pk ms.length ck) 28)
 have XE:Hid (∀W cp,Bw w W->W.heap[cp]?=some (ar #[ae rj pl.length rH] 25 (0,0))->bm aq 103 #[aO (b.sl pm ml.length cm pn ss.length cn pk ms.length ck),.func (.func 164) #[] #[pv cp 0]] W fun e w'=>∃v,e=aU (cR #[aO (b.open (ae pm ml.length cm) (ae pn ss.length cn) (ae pk ms.length ck) v),ah af 0])/\iE w' W.heap.size v (bu b ml ss ms)/\Bw W w'):=
  aj fun W cp Lz V5=>Ey b _ _ _ ml ss ms W (hL.below Lz) (hB.below Lz) hne cp fun W' hb'=>by
   have hlt:=(ag.1 V5).1;exact EO b dp _ _ _ pl hp cp _ W' ((hb'.block _ hlt).trans V5) ((hl.below Lz).below hb')
 have LA:=aj hl;have T8:=aj hao;have ZY:=aj oK;clear hL hB hl hao hp oK;generalize bu b ml ss ms=all at *;generalize ml.length=lm at *;generalize ss.length=ln at *;generalize ms.length=lk at *
 go_enter Tryz.func44,Tryz.ntmps44
 go_wp2
 refine cy kQ [
 pV (aO (b.sl pm lm cm pn ln cn pk lk ck)),
  pV (ae rj pl.length rH),
  fun v ds w9=>∃cp,v=.func (.func 164) #[] #[pv cp 0]/\w9.heap[cp]?=some (ar #[ae rj pl.length rH] 25 (0,0)),
  fun v ds w9=>∃gv cv,v=cR #[aO (b.open (ae pm lm cm) (ae pn ln cn) (ae pk lk ck) (ae (some ⟨gv,0,none⟩) all.length cv)),ah af 0]/\iE w9 w.heap.size (ae (some ⟨gv,0,none⟩) all.length cv) all,
  fun v ds w9=>∃gv cv,v=cR #[aO (b.open (ae pm lm cm) (ae pn ln cn) (ae pk lk ck) (ae (some ⟨gv,0,none⟩) all.length cv)),ah af 0]/\iE w9 w.heap.size (ae (some ⟨gv,0,none⟩) all.length cv) all,
  fun v ds w9=>∃gv cv,v=aO (b.open (ae pm lm cm) (ae pn ln cn) (ae pk lk ck) (ae (some ⟨gv,0,none⟩) all.length cv))/\iE w9 w.heap.size (ae (some ⟨gv,0,none⟩) all.length cv) all,
  pV (ah af 0),
  fun v ds w9=>∃k,∃z:Array ai,v=pv k 0/\w.heap.size+1<=k/\w9.heap[k]?=some (ar z 122 (0,0))/\z.size=16,
  fun v ds w9=>∃k gv cv,ds[0]?=some (pv k 0)/\w.heap.size+1<=k/\w9.heap[k]?=some (ar (b.open (ae pm lm cm) (ae pn ln cn) (ae pk lk ck) (ae (some ⟨gv,0,none⟩) all.length cv)) 122 (0,0))/\iE w9 w.heap.size (ae (some ⟨gv,0,none⟩) all.length cv) all,
  pV (ah af 0)]
  (fun w9=>w9.heap[w.heap.size]?=some (ar (b.sl pm lm cm pn ln cn pk lk ck) 28 (0,0))/\Bw w w9) [(2,pv w.heap.size 0),(1,ae rj pl.length rH)] kQ ?rst (fun w1 w2 h hb=>⟨(hb.block _ (ag.1 h.1).1).trans h.1,h.2.trans (hb.mono h.2.size)⟩) (⟨hk,b1.drew⟩) ⟨rfl,rfl,trivial⟩ ?reach ?rfin
 case rst=>
  refine⟨sV,sV,?_,?_,?_,?_,sV,?_,?_,sV,trivial⟩
  .rintro v ds w1 w2 hS ⟨cp,h1,h2⟩ hb;exact⟨cp,h1,(hb.block _ (ag.1 h2).1).trans h2⟩
  .rintro v ds w1 w2 hS ⟨gv,cv,h1,h2⟩ hb;exact⟨gv,cv,h1,h2.at_ fun g hg=>hb.block g (h2.1.lt g hg).2⟩
  .rintro v ds w1 w2 hS ⟨gv,cv,h1,h2⟩ hb;exact⟨gv,cv,h1,h2.at_ fun g hg=>hb.block g (h2.1.lt g hg).2⟩
  .rintro v ds w1 w2 hS ⟨gv,cv,h1,h2⟩ hb;exact⟨gv,cv,h1,h2.at_ fun g hg=>hb.block g (h2.1.lt g hg).2⟩
  .rintro v ds w1 w2 hS ⟨k,z,h1,h2,h3,h4⟩ hb;exact⟨k,z,h1,h2,(hb.block _ (ag.1 h3).1).trans h3,h4⟩
  rintro v ds w1 w2 hS ⟨k,gv,cv,h1,h0,h3,h2⟩ hb;exact⟨k,gv,cv,h1,h0,(hb.block _ (ag.1 h3).1).trans h3,h2.at_ fun g hg=>hb.block g (h2.1.lt g hg).2⟩
 case reach=>
  refine⟨?_,?_,?_,?_,?_,?_,?_,?_,?_,?_,trivial⟩<;>rintro ev w1 hS hc hg hf ⟨b2,b1,-⟩ hd
  .have x0:=bZ hS.1;exact tV
  .exact tV
  .have d1:ev (aD 13)=_:=hd.1 rfl;refine jV (f:=104) (args:=#[ae rj pl.length rH]) ?_ (Le _ _ _ _) ?_
   .go_simp
   rintro e w2 ⟨rfl,rfl⟩;exact⟨_,rfl,⟨_,rfl,aw _ _⟩,bV dF⟩
  .have d0:ev (aD 12)=_:=hd.1 rfl;obtain⟨cp,EI,zl⟩:=hd.2.1 rfl;replace EI:ev (aD 14)=_:=EI;refine jV (f:=103) (args:=#[aO (b.sl pm lm cm pn ln cn pk lk ck),.func (.func 164) #[] #[pv cp 0]]) ?_ (XE.out w1 cp hS.2 zl) ?_
   .go_simp
   rintro e w2 ⟨v,rfl,jA,hb⟩
   obtain⟨gv,cv,rfl⟩:∃gv cv,v=ae (some ⟨gv,0,none⟩) all.length cv:=by
    rcases jA.1.2 with⟨_,h0⟩|⟨g,cap,cur,rfl,_⟩
    .omega
    exact⟨g,cap,rfl⟩
   exact⟨_,rfl,⟨gv,cv,rfl,jA.base hS.2.size⟩,bV hb⟩
  .exact yv rfl (hd.1 rfl)
  .obtain⟨gv,cv,e11,jA⟩:=hd.1 rfl;replace e11:ev (aD 11)=_:=e11;refine yv ?_ (⟨gv,cv,rfl,jA⟩);go_simp
  .obtain⟨gv,cv,e11,jA⟩:=hd.1 rfl;replace e11:ev (aD 11)=_:=e11;exact tV
  .refine Lag.Yields.value (v:=pv w1.heap.size 0) (w':=w1.alloc (ar iM 122)) ?_ ⟨⟨_,_,rfl,(ag.1 hS.1).1,aw _ _,rfl⟩,bV dF⟩;go_simp
  .obtain⟨k,z,e6,rC,hk2,hz⟩:=hd.1 rfl;replace e6:ev (aD 6)=_:=e6;obtain⟨gv,cv,ND,jA⟩:=hd.2.1 rfl;replace ND:ev (aD 16)=_:=ND;have ED:∀g cs t,w1.heap[g]?=some (ar cs t (0,0))->t≠122->g≠k:=by rintro g cs t h1 h2 rfl;rw[hk2] at h1;cases h1;exact h2 rfl
   have FY:∀(v:ai),iE w1 w.heap.size v all->iE (w1.setRow k (b.open (ae pm lm cm) (ae pn ln cn) (ae pk lk ck) (ae (some ⟨gv,0,none⟩) all.length cv))) w.heap.size v all:=fun v ho=>ho.at_ fun g hg=>setRow_other (by
    obtain⟨cur,q1,_⟩:=ho.2 g hg
    exact ED g _ _ q1 dC)
   refine Lag.Yields.iB 122 _ _ rfl k _ e6 ND 122 z hk2 kQ hz (by simp[bJ]) ⟨⟨k,gv,cv,congrArg some e6,rC,cD hk2,FY _ jA⟩,.inr ⟨⟨(setRow_other oM).trans hS.1,dx hS.2 oM⟩,?_⟩⟩;intro j u ds hj hp
   match j,hp with
   |0,hp|1,hp=>exact hp
   |2,⟨cp,h1,h2⟩=>exact⟨cp,h1,(setRow_other (ED _ _ _ h2 dC)).trans h2⟩
   |3,⟨F7,Gm,h1,h2⟩=>exact⟨F7,Gm,h1,FY _ h2⟩
   |4,⟨F7,Gm,h1,h2⟩=>exact⟨F7,Gm,h1,FY _ h2⟩
   |5,⟨F7,Gm,h1,h2⟩=>exact⟨F7,Gm,h1,FY _ h2⟩
   |6,hp=>exact hp
   |7,⟨k',z',h1,h2,h3,h4⟩=>
    by_cases tP:k'=k
    .subst tP;exact⟨k',_,h1,h2,cD h3,rfl⟩
    exact⟨k',z',h1,h2,(setRow_other tP).trans h3,h4⟩
   |8,_=>exact(hj rfl).elim
   |9,hp=>exact hp
   |j+10,_=>trivial
  have d6:ev (aD 17)=_:=hd.1 rfl;refine yv (v:=ev (aD 17)) ?_ (d6);rfl
 case rfin=>
  intro a2 w2 hR;have hS:=hR.s;obtain⟨k,gv,cv,WU,rC,hk2,jA⟩:=hR.val 8;have e9:a2.tmps.getD 7 au=_:=hR.val 9;have ha:=hR.lits 46 rfl;simp only[aP,cJ,oh] at ha;rw[hR.kp 1,hR.kp 2] at ha;simp only[lr,gI,gH] at ha;clear hR;have e6:a2.tmps.getD 6 au=pv k 0:=aT WU;rw[e6,e9] at ha;generalize a2.tmps.getD=zz at ha;clear e6 WU e9;subst ha;have ur:=hS.1;have tE:=hS.2;clear hS;have JL:=aF hk2 15 _ rfl;have Dw:=jA.reads oM
  have HC:Hid (∀j u,(rowOf all)[j]?=some u->w2.cell? ⟨gv,0+j,none⟩=some u):=aj (by
   rcases Dw with⟨h0,_⟩|⟨g,off,cap,h0,_,_,h1⟩
   .cases h0
   cases h0;exact h1)
  have Dy:=(jA.1.lt gv rfl).2;have yB:=(ag.1 hk2).1;have HK:=aj hk2;have HB:=aj ur;have Hb:=aj tE;have Oh:=aj jA;clear hk2 Dw ur tE jA hk b1 XE;generalize hL:all.length=L at *;have HL:=aj hL;clear hL;go_wp2
  go_loopw [8,10,24] (fun n _ i wr=>∃j:Nat,j<=L/\i=ah af j/\n=ah af ((all.take j).countP fun a=>decide (b.bad (b.cI+a.used) (bE pl)=0):Nat)/\Bw w2 wr) (fun _ _ i _=>L-(intOf i).toNat)
  case atStart=>exact⟨0,oM,rfl,rfl,ay _ _⟩
  case round=>
   obtain⟨j,hj,rfl,rfl,eE⟩:=hrel;have hsz:=eE.size
   have hcj:(all.take j).countP (fun a=>decide (b.bad (b.cI+a.used) (bE pl)=0))<=j:=by
    refine Nat.le_trans List.countP_le_length ?_;rw[List.length_take];omega
   by_cases hlt:j<L
   .have KL:j<all.length:=by rw[HL.out];exact hlt
    obtain⟨c0,c1,c2,c3⟩:=Reads.cell (w:=wr) (cap:=cv) (n:=L) (fun i u hi=>(eE.cell (p:=⟨gv,0+i,none⟩) Dy).trans (HC.out i u hi)) j KL;simp only[dz] at c0 c1 c2 c3;have XW:(all.take (j+1)).countP (fun a=>decide (b.bad (b.cI+a.used) (bE pl)=0))=(all.take j).countP (fun a=>decide (b.bad (b.cI+a.used) (bE pl)=0))+(if b.bad (b.cI+all[j].used) (bE pl)=0 then 1 else 0):=by rw[NI _ all KL];simp
    have V9:=fun W=>Lh b dp (ae pm lm cm) (ae pn ln cn) (ae pk lk ck) all[j] (T8.out _ (bS KL)) (bE pl) Hh W;have Lr:=aj XW;have HBa:=aj V9;have yL:=aj eE
    have Iy:Hid (∀w9,gu (wr.alloc (ar all[j].cells 134)).heap.size (wr.alloc (ar all[j].cells 134)) w9->w9.heap[k]?=some (ar (b.open (ae pm lm cm) (ae pn ln cn) (ae pk lk ck) (ae (some ⟨gv,0,none⟩) L cv)) 122 (0,0))/\w9.heap[wr.heap.size]?=some (ar all[j].cells 134 (0,0))/\Reads w9 (ae rj pl.length rH) pl.length (pl.map (ax af))):=aj fun w9 PQ=>by
     have hs:(wr.alloc (ar all[j].cells 134)).heap.size=wr.heap.size+1:=sM;have hb0:Bw wr (wr.alloc (ar all[j].cells 134)):=dF;have qG:=Hb.out.size;exact⟨(PQ.block _ oM).trans ((hb0.block _ oM).trans ((eE.block _ yB).trans HK.out)),(PQ.block _ oM).trans (aw wr _),LA.out.below (Hb.out.trans ((eE.mono qG).trans ((hb0.mono oM).trans (PQ.mono oM))))⟩
    clear XW V9 eE;generalize all[j]=a at *;generalize AH:b.bad (b.cI+a.used) (bE pl)=bd at *;obtain⟨r,hr⟩:∃r,(bd==0)=r:=⟨_,rfl⟩
    go_wp2
    refine cy kQ [
    pV (pv k 0),
     pV (aO (b.sl pm lm cm pn ln cn pk lk ck)),
     pV (aO a.cells),
     pV (ae rj pl.length rH),
     pV (ah af (bE pl)),
     pV (ah af bd),
     pV (aH r)]
     (fun w9=>gu (wr.alloc (ar a.cells 134)).heap.size (wr.alloc (ar a.cells 134)) w9) [(1,ae rj pl.length rH),(6,pv k 0),(10,pv wr.heap.size 0)] kQ ?rst (fun w1 w2 h hb=>h.trans (hb.mono h.size)) ((ay _ _).drew) ⟨rfl,rfl,rfl,trivial⟩ ?reach ?rfin
    case rst=>
     refine⟨sV,sV,sV,sV,sV,sV,sV,trivial⟩
    case reach=>
     refine⟨?_,?_,?_,?_,?_,?_,?_,trivial⟩<;>rintro ev w1 hS hc hg hf ⟨b1,b6,Ov,-⟩ hd
     .exact tV
     .have d0:ev (aD 28)=_:=hd.1 rfl;have q:=Iy.out w1 hS;have x0:=jO q.1;exact tV
     .have q:=Iy.out w1 hS;obtain⟨y0,y1,y2,y3⟩:=qV q.2.1;exact tV
     .exact tV
     .have d3:ev (aD 31)=_:=hd.1 rfl;have q:=Iy.out w1 hS;refine yq (args:=#[ae rj pl.length rH]) (kW pl ZY.out _ _ q.2.2) ?_ fun _=>rfl;go_simp
     .have d1:ev (aD 29)=_:=hd.1 rfl;have d2:ev (aD 30)=_:=hd.2.1 rfl;have d4:ev (aD 32)=_:=hd.2.2.1 rfl;refine yc (HBa.out w1) ?_ fun _=>rfl;go_simp
     have d5:ev (aD 33)=_:=hd.1 rfl;exact tV
    case rfin=>
     intro a3 w3 hR;have hS:=hR.s;have e6:a3.tmps.getD 34 au=_:=hR.val 6;have ha:=hR.lits 46 rfl;simp only[aP,cJ,oh] at ha;rw[hR.kp 0,hR.kp 1,hR.kp 2,hR.kp 3,hR.kp 4,hR.kp 5,hR.kp 6,hR.kp 7,hR.kp 8,hR.kp 9,hR.kp 11,hR.kp 12,hR.kp 13,hR.kp 14,hR.kp 15,hR.kp 16,hR.kp 17,hR.kp 18,hR.kp 19,hR.kp 20,hR.kp 21,hR.kp 22,hR.kp 23,hR.kp 24,hR.kp 38,hR.kp 39,hR.kp 40,hR.kp 41,hR.kp 42,hR.kp 43,hR.kp 44,hR.kp 45] at ha;simp only[lr,gI,gH] at ha;clear hR;rw[e6] at ha;generalize a3.tmps.getD=zz at ha;have qz:=aj hS;clear e6 hS;subst ha;have hwr:gu w2.heap.size wr w3:=((ay _ wr).alloc hsz _).trans (qz.out.mono sO);have HWr:=aj hwr;clear hwr;generalize hc0:List.countP (fun a=>decide (b.bad (b.cI+a.used) (bE pl)=0)) (List.take j all)=cn0 at *;have HC0:=aj hc0;clear hc0;cases r
     .go_wp2;go_roundw
      case rel=>
       refine⟨j+1,oM,sM,?_,yL.out.trans HWr.out⟩;rw[Lr.out,if_neg (by intro h;rw[h] at hr;cases hr)];simp
      case measure=>simp[intOf];omega
     go_wp2;go_roundw
     case rel=>
      refine⟨j+1,oM,sM,?_,yL.out.trans HWr.out⟩;rw[Lr.out,if_pos (by simpa using hr)];simp
     case measure=>simp[intOf];omega
   obtain rfl:j=L:=oM;have Pv:all.take j=all:=cQ (by rw[HL.out];exact aJ _);have hgn:(all.take j).countP (fun a=>decide (b.bad (b.cI+a.used) (bE pl)=0))=Nj b all (bE pl):=by rw[Pv];rfl
   obtain⟨gn,Cc⟩:∃gn,Nj b all (bE pl)=gn:=⟨_,rfl⟩
   rw[hgn,Cc] at hcj;rw[hgn,Cc];have HGn:=aj Cc;clear Cc;have yL:=aj eE;have z15:=aF ((eE.block _ yB).trans HK.out) 15 _ rfl;clear hgn Pv eE;have qF:Bw w wr:=Hb.out.trans (yL.out.mono Hb.out.size);have XF:=aj qF;clear qF
   by_cases h0:gn=0
   .subst h0;have HQ:Hid (qD 0 j=2):=aj (by simp[qD]);go_wp2;go_ret2;exact⟨by rw[HGn.out,HQ.out];rfl,XF.out⟩
   have g0:((gn:Int)==0)=false:=sO
   by_cases h1:gn=j
   .subst h1;have HQ:Hid (qD gn gn=1):=aj (by simp[qD,h0]);go_wp2;go_ret2;exact⟨by rw[HGn.out,HQ.out];rfl,XF.out⟩
   have g1:((gn:Int)==(j:Int))=false:=sO;have HQ:Hid (qD gn j=0):=aj (by simp[qD,h0,h1]);go_wp2;go_ret2;exact⟨by rw[HGn.out,HQ.out];rfl,XF.out⟩
section
variable{b:BB}{bn aL az:ai}{ml:List Mn}{ss:List Int}{ms:List Mk}{W:ak}
end
def RI(p:Nat)(W:ak)(v:ai)(W':ak):Prop:=
 ∃lv:ai,v=cR #[lv,aH true,ah af 0]/\Reads W' lv (iu p).length ((iu p).map (ax af))/\Old W W'
def Wy{b:BB}{bn aL az:ai}{ml:List Mn}{ss:List Int}{ms:List Mk}{W:ak}(hL:Laid W)(hB:dh b bn aL az ml ss ms W)(p1:Plain W bn)(p2:Plain W aL)(p3:Plain W az)(hne:bu b ml ss ms≠[])
  (zm:kz b (dI ss ms).toNat (bE ss) (bu b ml ss ms) 512≠[]) (hlt:∀x∈kz b (dI ss ms).toNat (bE ss) (bu b ml ss ms) 512,x<512) (p:Nat)
  (hp:∀x r,(x::r).Perm (kz b (dI ss ms).toNat (bE ss) (bu b ml ss ms) 512)->jX uj x r=p):ko aq 20 #[aO (b.cells bn aL az)] W (RI p W):=by
 refine lz quiet Tryz.func20 rfl ?hR ?body
 case hR=>
  rintro v W' I d ⟨lv,h1,h2,h3⟩;exact⟨lv,h1,h2,xI h3⟩
 simp only[Tryz.ntmps20,jS,eT,o7,Et,Er,kE,kD,jT,iO,jE,fq];refine oB quiet aX (fun a w=>a=⟨#[aO (b.cells bn aL az),pv W.heap.size 0,ae none 0 0,aH false,ah af 0,au,au,au,au,au],[]⟩/\Pk0 W W.heap.size (b.cells bn aL az) 28 w) (fun I d=>?_) ?_
 .go_wp2;exact⟨FC (qQ _ _),aw (dR W I d) _⟩
 rintro a W1 ⟨rfl,⟨o1,x1⟩⟩;refine gR quiet (uM quiet ?_);refine gD (i:=0) (rest:=[1,2,3,4,5,6,7]) quiet rfl rfl fun I d=>?_;refine wp_load_row 28 (aD 1) rfl W.heap.size rfl 28 _ (0,0) _ (w:=dR W1 I d) x1 cF rfl kQ ?_;have o2:Old W (dR W1 I d):=nQ I d o1;have Hi:=UY (W:=dR W1 I d) 96 uj (hL.old o2) (hB.old o2) (p1.old o2) (p2.old o2) (p3.old o2) hne zm hlt TU;refine r_ (i:=1) (rest:=[2,3,4,5,6,7]) quiet rfl rfl (f:=95) (args:=#[aO (b.cells bn aL az),.func (.func 96) #[] #[]]) (fun w=>by kernel_rfl) Hi ?_;rintro out W3 _ ⟨x,r,lv,hperm,rfl,Dw,o3⟩;rw[hp x r hperm] at Dw;have o4:=o2.trans o3;refine gD (i:=2) (rest:=[3,4,5,6,7]) quiet rfl rfl fun τ2 d2=>?_;show eQ aq _ _ [3,4,5,6,7] _ _;refine gD (i:=3) (rest:=[4,5,6,7]) quiet rfl rfl fun τ3 d3=>?_;show eQ aq _ _ [4,5,6,7] _ _;refine gD (i:=4) (rest:=[5,6,7]) quiet rfl rfl fun τ4 d4=>?_;show eQ aq _ _ [5,6,7] _ _;refine gD (i:=5) (rest:=[6,7]) quiet rfl rfl fun τ5 d5=>?_;show eQ aq _ _ [6,7] _ _;refine gD (i:=6) (rest:=[7]) quiet rfl rfl fun τ6 d6=>?_;show eQ aq _ _ [7] _ _;refine gD (i:=7) (rest:=[]) quiet rfl rfl fun τ7 d7=>?_;show eQ aq _ _ [] _ _;refine r9 (l:=[]) quiet (fun e a w h=>by cases e<;>first|rfl|exact(h:False).elim) fun τ8 d8=>?_;refine lU quiet aX fun τ9 d9=>yZ ?_;refine wp_ret ?_;refine bf (results_tmp3 rfl _ _ _) rfl ⟨_,rfl,lv,?_,Dw,⟨o4.os,o4.output,o4.size,o4.block⟩⟩
 kernel_rfl
def Vr{b:BB}{bn aL az:ai}{ml:List Mn}{ss:List Int}{ms:List Mk}{W:ak}(hL:Laid W)(hB:dh b bn aL az ml ss ms W)(p1:Plain W bn)(p2:Plain W aL)(p3:Plain W az)(hne:bu b ml ss ms≠[])
  (zm:kz b (dI ss ms).toNat (bE ss) (bu b ml ss ms) 512≠[]) (hlt:∀x∈kz b (dI ss ms).toNat (bE ss) (bu b ml ss ms) 512,x<512) (p:Nat)
  (hp:∀x r,(x::r).Perm (kz b (dI ss ms).toNat (bE ss) (bu b ml ss ms) 512)->jX ui x r=p):ko aq 23 #[aO (b.cells bn aL az)] W (RI p W):=by
 refine lz quiet Tryz.func23 rfl ?hR ?body
 case hR=>
  rintro v W' I d ⟨lv,h1,h2,h3⟩;exact⟨lv,h1,h2,xI h3⟩
 simp only[Tryz.ntmps23,jS,eT,o7,Et,Er,kE,kD,jT,iO,jE,fq];refine oB quiet aX (fun a w=>a=⟨#[aO (b.cells bn aL az),pv W.heap.size 0,ae none 0 0,aH false,ah af 0,au,au,au,au,au],[]⟩/\Pk0 W W.heap.size (b.cells bn aL az) 28 w) (fun I d=>?_) ?_
 .go_wp2;exact⟨FC (qQ _ _),aw (dR W I d) _⟩
 rintro a W1 ⟨rfl,⟨o1,x1⟩⟩;refine gR quiet (uM quiet ?_);refine gD (i:=0) (rest:=[1,2,3,4,5,6,7]) quiet rfl rfl fun I d=>?_;refine wp_load_row 28 (aD 1) rfl W.heap.size rfl 28 _ (0,0) _ (w:=dR W1 I d) x1 cF rfl kQ ?_;have o2:Old W (dR W1 I d):=nQ I d o1;have Hi:=UY (W:=dR W1 I d) 102 ui (hL.old o2) (hB.old o2) (p1.old o2) (p2.old o2) (p3.old o2) hne zm hlt TT;refine r_ (i:=1) (rest:=[2,3,4,5,6,7]) quiet rfl rfl (f:=95) (args:=#[aO (b.cells bn aL az),.func (.func 102) #[] #[]]) (fun w=>by kernel_rfl) Hi ?_;rintro out W3 _ ⟨x,r,lv,hperm,rfl,Dw,o3⟩;rw[hp x r hperm] at Dw;have o4:=o2.trans o3;refine gD (i:=2) (rest:=[3,4,5,6,7]) quiet rfl rfl fun τ2 d2=>?_;show eQ aq _ _ [3,4,5,6,7] _ _;refine gD (i:=3) (rest:=[4,5,6,7]) quiet rfl rfl fun τ3 d3=>?_;show eQ aq _ _ [4,5,6,7] _ _;refine gD (i:=4) (rest:=[5,6,7]) quiet rfl rfl fun τ4 d4=>?_;show eQ aq _ _ [5,6,7] _ _;refine gD (i:=5) (rest:=[6,7]) quiet rfl rfl fun τ5 d5=>?_;show eQ aq _ _ [6,7] _ _;refine gD (i:=6) (rest:=[7]) quiet rfl rfl fun τ6 d6=>?_;show eQ aq _ _ [7] _ _;refine gD (i:=7) (rest:=[]) quiet rfl rfl fun τ7 d7=>?_;show eQ aq _ _ [] _ _;refine r9 (l:=[]) quiet (fun e a w h=>by cases e<;>first|rfl|exact(h:False).elim) fun τ8 d8=>?_;refine lU quiet aX fun τ9 d9=>yZ ?_;refine wp_ret ?_;refine bf (results_tmp3 rfl _ _ _) rfl ⟨_,rfl,lv,?_,Dw,⟨o4.os,o4.output,o4.size,o4.block⟩⟩
 kernel_rfl
def EW(a b:Int)(w:ak):bm aq 94 #[ah af a,ah af b] w (Rt w (aO #[ah af a,ah af b])):=by
 go_enter Tryz.func94,Tryz.ntmps94
 go_wp2;exact bf (results_cell_row rfl _ _ w.heap.size 23 #[ah af a,ah af b] (0,0) _ rfl (aw w _) CN rfl kQ) rfl ⟨rfl,dF⟩
def Ez(a:Int)(w:ak):bm aq 86 #[ah af a] w (Rt w (aO #[ah af a,ah af a])):=by
 go_enter Tryz.func86,Tryz.ntmps86
 go_wp2_with (first
  |(go_at_call 94;refine(EW a a _).mono ?_;rintro e w1 ⟨rfl,hb1⟩
    have hz:=(hb1.block w.heap.size sM).trans (aw w (ar #[ah af 0,ah af 0] 23));have HZ:=aj hz;have zQ:=aj hb1
    clear hz hb1)
  |(refine wpList_store_row rfl 23 _ _ rfl _ _ rfl rfl 23 _ HZ.out kQ rfl (by simp[bJ]) ?_))
 exact bf (results_cell_row rfl _ _ w.heap.size 23 #[ah af a,ah af a] (0,0) _ rfl (cD HZ.out) CN rfl kQ) rfl ⟨rfl,dx (dF.trans (zQ.out.mono sM)) (aJ _)⟩
abbrev Vc:Array Value:=zP
def ex:BB:=⟨30,33,9,5,2,20,2,3,0,1,1,2⟩
def kr:List Mn:=[⟨⟨#[97,110,110]⟩,3,4⟩,⟨⟨#[98,111]⟩,4,4⟩]
def Ny(w:ak):bm aq 93 #[] w fun e w'=>∃g c,e=aU (aO (ex.br (some ⟨g,0,none⟩) 2 c))/\Reads w' (ae (some ⟨g,0,none⟩) 2 c) 2 (dX kr)/\w'.heap[g]?=some (ar (dX kr).toArray 79 (0,0))/\w.heap.size<=g/\Bw w w':=by
 have b0:Bw w (w.alloc (ar Vc 28)):=dF;have h0:=aw w (ar Vc 28);have LB:=aj b0;have HH0:=aj h0;clear b0 h0
 go_enter Tryz.func93,Tryz.ntmps93
 go_wp2_with fail
 refine(EW _ _ _).mono ?_;rintro e w1 ⟨rfl,hb1⟩;have H1:=aj hb1;clear hb1
 go_wp2_with fail
 refine(EW _ _ _).mono ?_;rintro e w2 ⟨rfl,hb2⟩;have H2:=aj hb2;clear hb2
 go_wp2_with fail
 refine(EW _ _ _).mono ?_;rintro e w3 ⟨rfl,hb3⟩;have H3:=aj hb3;clear hb3
 go_wp2_with fail
 refine(Ez _ _).mono ?_;rintro e w4 ⟨rfl,hb4⟩
 have hb:gu (w.heap.size+1) (w.alloc (ar Vc 28)) w4:=by
  have h1:=H1.out;have h2:=H2.out;have h3:=H3.out;have s1:=h1.size;have s2:=h2.size;have s3:=h3.size;simp only[eD] at s1;exact((h1.mono sM).trans (h2.mono oM)).trans ((h3.mono oM).trans (hb4.mono oM))
 have hs:=hb.size;simp only[eD] at hs;have hz:=(Below.heap_alloc w4 (ar (dX kr).toArray 79) w.heap.size oM).trans ((hb.block w.heap.size oM).trans HH0.out);have HZ:=aj hz;have HW:Hid (Bw w w4):=aj (LB.out.trans (hb.mono oM));clear hb hz hb4
 go_wp2_with (refine wpList_store_row rfl 28 _ _ rfl _ _ rfl rfl 28 _ HZ.out kQ rfl (by simp[bJ]) ?_)
 have hg:((w4.alloc (ar (dX kr).toArray 79)).setRow w.heap.size (ex.br (some ⟨w4.heap.size,0,none⟩) 2 2)).heap[w4.heap.size]?=some (ar (dX kr).toArray 79 (0,0)):=(setRow_other oM).trans (aw w4 _);refine bf (results_cell_row rfl _ _ w.heap.size 28 (ex.br (some ⟨w4.heap.size,0,none⟩) 2 2) (0,0) _ rfl (cD HZ.out) cF rfl kQ) rfl ⟨w4.heap.size,2,rfl,?_,hg,oM,dx (HW.out.alloc oM _) (aJ _)⟩
 exact .inr ⟨w4.heap.size,0,2,rfl,oM,by rw[setRow_size];simp,fun j u hj=>by
  have:=aF hg j u (by simpa using hj)
  rw[dz];exact this⟩
def Vg(a b:Int)(w:ak):(Builtin.min_ #[3,3] 3 #[ah af a,ah af b]).run aq w=.ok (ah af (min a b)) w:=by
 go_simp;split<;>omega
abbrev sc(b:BB)(n:Int):BB:={ b with minutes:=n,iC:=0,pm:=min b.pm n }
def EP(b:BB)(p:Nat)(s:Int × Bool)(a:eV):Int × Bool:=
 if b.bad (b.cI+a.used) p=0 then s else if s.2=false\/b.bad (b.cI+a.used) p<s.1 then(b.bad (b.cI+a.used) p,true) else s
def vN(b:BB)(all:List eV)(p:Nat):Int × Bool:=all.foldl (EP b p) (0,false)
def Qj(b:BB)(all:List eV)(p:Nat){j:Nat}(h:j<all.length):vN b (all.take (j+1)) p=EP b p (vN b (all.take j) p) all[j]:=by
 unfold vN;rw[bH h,List.foldl_append];rfl
def adx(b:BB)(bn aL az:ai)(ml:List Mn)(ss:List Int)(ms:List Mk)(w:ak)(hL:Laid w)(hB:dh b bn aL az ml ss ms w)(hne:bu b ml ss ms≠[])(pl:List Int)(hp:eG b pl)(lv:ai)(hl:Reads w lv pl.length (pl.map (ax af))) :
  bm aq 63 #[aO (b.cells bn aL az),lv] w (Rt w (cR #[ah af (vN b (bu b ml ss ms) (bE pl)).1,aH (vN b (bu b ml ss ms) (bE pl)).2,ah af 0])):=by
 have hlen:=jQ ss ms hB.ok hB.iF;have kY:0<(bu b ml ss ms).length:=dB.2 hne;have dp:=hB.ok;have hao:=oP (ss:=ss) (ms:=ms) hB.ok hB.iF;have AB:=dp.minutes;have oK:∀s∈pl,1<=s/\s<=8:=fun s h=>by have:=hp.mem s h;omega
 have Hh:bE pl<512:=mV pl oK;obtain⟨pm,cm,rfl,_⟩:=aR hB.rm;obtain⟨pn,cn,rfl,_⟩:=aR hB.rs;obtain⟨pk,ck,rfl,_⟩:=aR hB.rk;obtain⟨rj,rH,rfl,_⟩:=aR hl;have b1:Bw w (w.alloc (ar (b.sl pm ml.length cm pn ss.length cn pk ms.length ck) 28)):=dF;have hk:=aw w (ar (b.sl pm ml.length cm pn ss.length cn pk ms.length ck) 28)
 have XE:Hid (∀W cp,Bw w W->W.heap[cp]?=some (ar #[ae rj pl.length rH] 25 (0,0))->bm aq 103 #[aO (b.sl pm ml.length cm pn ss.length cn pk ms.length ck),.func (.func 164) #[] #[pv cp 0]] W fun e w'=>∃v,e=aU (cR #[aO (b.open (ae pm ml.length cm) (ae pn ss.length cn) (ae pk ms.length ck) v),ah af 0])/\iE w' W.heap.size v (bu b ml ss ms)/\Bw W w'):=
  aj fun W cp Lz V5=>Ey b _ _ _ ml ss ms W (hL.below Lz) (hB.below Lz) hne cp fun W' hb'=>by
   have hlt:=(ag.1 V5).1;exact EO b dp _ _ _ pl hp cp _ W' ((hb'.block _ hlt).trans V5) ((hl.below Lz).below hb')
 have LA:=aj hl;have T8:=aj hao;have ZY:=aj oK;clear hL hB hl hao hp oK;generalize bu b ml ss ms=all at *;generalize ml.length=lm at *;generalize ss.length=ln at *;generalize ms.length=lk at *
 go_enter Tryz.func63,Tryz.ntmps63
 go_wp2;refine wp_scope_straight ?_;go_wp2
 refine cy kQ [
 pV (aO (b.sl pm lm cm pn ln cn pk lk ck)),
  pV (ae rj pl.length rH),
  fun v ds w9=>∃cp,v=.func (.func 164) #[] #[pv cp 0]/\w9.heap[cp]?=some (ar #[ae rj pl.length rH] 25 (0,0)),
  fun v ds w9=>∃gv cv,v=cR #[aO (b.open (ae pm lm cm) (ae pn ln cn) (ae pk lk ck) (ae (some ⟨gv,0,none⟩) all.length cv)),ah af 0]/\iE w9 w.heap.size (ae (some ⟨gv,0,none⟩) all.length cv) all,
  fun v ds w9=>∃gv cv,v=cR #[aO (b.open (ae pm lm cm) (ae pn ln cn) (ae pk lk ck) (ae (some ⟨gv,0,none⟩) all.length cv)),ah af 0]/\iE w9 w.heap.size (ae (some ⟨gv,0,none⟩) all.length cv) all,
  fun v ds w9=>∃gv cv,v=aO (b.open (ae pm lm cm) (ae pn ln cn) (ae pk lk ck) (ae (some ⟨gv,0,none⟩) all.length cv))/\iE w9 w.heap.size (ae (some ⟨gv,0,none⟩) all.length cv) all,
  pV (ah af 0),
  fun v ds w9=>∃k,∃z:Array ai,v=pv k 0/\w.heap.size+1<=k/\w9.heap[k]?=some (ar z 122 (0,0))/\z.size=16,
  fun v ds w9=>∃k gv cv,ds[0]?=some (pv k 0)/\w.heap.size+1<=k/\w9.heap[k]?=some (ar (b.open (ae pm lm cm) (ae pn ln cn) (ae pk lk ck) (ae (some ⟨gv,0,none⟩) all.length cv)) 122 (0,0))/\iE w9 w.heap.size (ae (some ⟨gv,0,none⟩) all.length cv) all,
  pV (ah af 0)]
  (fun w9=>w9.heap[w.heap.size]?=some (ar (b.sl pm lm cm pn ln cn pk lk ck) 28 (0,0))/\Bw w w9) [(2,pv w.heap.size 0),(1,ae rj pl.length rH)] kQ ?rst (fun w1 w2 h hb=>⟨(hb.block _ (ag.1 h.1).1).trans h.1,h.2.trans (hb.mono h.2.size)⟩) (⟨hk,b1.drew⟩) ⟨rfl,rfl,trivial⟩ ?reach ?rfin
 case rst=>
  refine⟨sV,sV,?_,?_,?_,?_,sV,?_,?_,sV,trivial⟩
  .rintro v ds w1 w2 hS ⟨cp,h1,h2⟩ hb;exact⟨cp,h1,(hb.block _ (ag.1 h2).1).trans h2⟩
  .rintro v ds w1 w2 hS ⟨gv,cv,h1,h2⟩ hb;exact⟨gv,cv,h1,h2.at_ fun g hg=>hb.block g (h2.1.lt g hg).2⟩
  .rintro v ds w1 w2 hS ⟨gv,cv,h1,h2⟩ hb;exact⟨gv,cv,h1,h2.at_ fun g hg=>hb.block g (h2.1.lt g hg).2⟩
  .rintro v ds w1 w2 hS ⟨gv,cv,h1,h2⟩ hb;exact⟨gv,cv,h1,h2.at_ fun g hg=>hb.block g (h2.1.lt g hg).2⟩
  .rintro v ds w1 w2 hS ⟨k,z,h1,h2,h3,h4⟩ hb;exact⟨k,z,h1,h2,(hb.block _ (ag.1 h3).1).trans h3,h4⟩
  rintro v ds w1 w2 hS ⟨k,gv,cv,h1,h0,h3,h2⟩ hb;exact⟨k,gv,cv,h1,h0,(hb.block _ (ag.1 h3).1).trans h3,h2.at_ fun g hg=>hb.block g (h2.1.lt g hg).2⟩
 case reach=>
  refine⟨?_,?_,?_,?_,?_,?_,?_,?_,?_,?_,trivial⟩<;>rintro ev w1 hS hc hg hf ⟨b2,b1,-⟩ hd
  .have x0:=bZ hS.1;exact tV
  .exact tV
  .have d1:ev (aD 13)=_:=hd.1 rfl;refine jV (f:=104) (args:=#[ae rj pl.length rH]) ?_ (Le _ _ _ _) ?_
   .go_simp
   rintro e w2 ⟨rfl,rfl⟩;exact⟨_,rfl,⟨_,rfl,aw _ _⟩,bV dF⟩
  .have d0:ev (aD 12)=_:=hd.1 rfl;obtain⟨cp,EI,zl⟩:=hd.2.1 rfl;replace EI:ev (aD 14)=_:=EI;refine jV (f:=103) (args:=#[aO (b.sl pm lm cm pn ln cn pk lk ck),.func (.func 164) #[] #[pv cp 0]]) ?_ (XE.out w1 cp hS.2 zl) ?_
   .go_simp
   rintro e w2 ⟨v,rfl,jA,hb⟩
   obtain⟨gv,cv,rfl⟩:∃gv cv,v=ae (some ⟨gv,0,none⟩) all.length cv:=by
    rcases jA.1.2 with⟨_,h0⟩|⟨g,cap,cur,rfl,_⟩
    .omega
    exact⟨g,cap,rfl⟩
   exact⟨_,rfl,⟨gv,cv,rfl,jA.base hS.2.size⟩,bV hb⟩
  .exact yv rfl (hd.1 rfl)
  .obtain⟨gv,cv,e11,jA⟩:=hd.1 rfl;replace e11:ev (aD 11)=_:=e11;refine yv ?_ (⟨gv,cv,rfl,jA⟩);go_simp
  .obtain⟨gv,cv,e11,jA⟩:=hd.1 rfl;replace e11:ev (aD 11)=_:=e11;exact tV
  .refine Lag.Yields.value (v:=pv w1.heap.size 0) (w':=w1.alloc (ar iM 122)) ?_ ⟨⟨_,_,rfl,(ag.1 hS.1).1,aw _ _,rfl⟩,bV dF⟩;go_simp
  .obtain⟨k,z,e6,rC,hk2,hz⟩:=hd.1 rfl;replace e6:ev (aD 7)=_:=e6;obtain⟨gv,cv,ND,jA⟩:=hd.2.1 rfl;replace ND:ev (aD 16)=_:=ND;have ED:∀g cs t,w1.heap[g]?=some (ar cs t (0,0))->t≠122->g≠k:=by rintro g cs t h1 h2 rfl;rw[hk2] at h1;cases h1;exact h2 rfl
   have FY:∀(v:ai),iE w1 w.heap.size v all->iE (w1.setRow k (b.open (ae pm lm cm) (ae pn ln cn) (ae pk lk ck) (ae (some ⟨gv,0,none⟩) all.length cv))) w.heap.size v all:=fun v ho=>ho.at_ fun g hg=>setRow_other (by
    obtain⟨cur,q1,_⟩:=ho.2 g hg
    exact ED g _ _ q1 dC)
   refine Lag.Yields.iB 122 _ _ rfl k _ e6 ND 122 z hk2 kQ hz (by simp[bJ]) ⟨⟨k,gv,cv,congrArg some e6,rC,cD hk2,FY _ jA⟩,.inr ⟨⟨(setRow_other oM).trans hS.1,dx hS.2 oM⟩,?_⟩⟩;intro j u ds hj hp
   match j,hp with
   |0,hp|1,hp=>exact hp
   |2,⟨cp,h1,h2⟩=>exact⟨cp,h1,(setRow_other (ED _ _ _ h2 dC)).trans h2⟩
   |3,⟨F7,Gm,h1,h2⟩=>exact⟨F7,Gm,h1,FY _ h2⟩
   |4,⟨F7,Gm,h1,h2⟩=>exact⟨F7,Gm,h1,FY _ h2⟩
   |5,⟨F7,Gm,h1,h2⟩=>exact⟨F7,Gm,h1,FY _ h2⟩
   |6,hp=>exact hp
   |7,⟨k',z',h1,h2,h3,h4⟩=>
    by_cases tP:k'=k
    .subst tP;exact⟨k',_,h1,h2,cD h3,rfl⟩
    exact⟨k',z',h1,h2,(setRow_other tP).trans h3,h4⟩
   |8,_=>exact(hj rfl).elim
   |9,hp=>exact hp
   |j+10,_=>trivial
  have d6:ev (aD 17)=_:=hd.1 rfl;refine yv (v:=ev (aD 17)) ?_ (d6);rfl
 case rfin=>
  intro a2 w2 hR;have hS:=hR.s;obtain⟨k,gv,cv,WU,rC,hk2,jA⟩:=hR.val 8;have e9:a2.tmps.getD 6 au=_:=hR.val 9;have ha:=hR.lits 47 rfl;simp only[aP,cJ,oh] at ha;rw[hR.kp 1,hR.kp 2,hR.kp 4,hR.kp 5] at ha;simp only[lr,gI,gH] at ha;clear hR;have e6:a2.tmps.getD 7 au=pv k 0:=aT WU;rw[e6,e9] at ha;generalize a2.tmps.getD=zz at ha;clear e6 WU e9;subst ha;have ur:=hS.1;have tE:=hS.2;clear hS;have JL:=aF hk2 15 _ rfl;have Dw:=jA.reads oM
  have HC:Hid (∀j u,(rowOf all)[j]?=some u->w2.cell? ⟨gv,0+j,none⟩=some u):=aj (by
   rcases Dw with⟨h0,_⟩|⟨g,off,cap,h0,_,_,h1⟩
   .cases h0
   cases h0;exact h1)
  have Dy:=(jA.1.lt gv rfl).2;have yB:=(ag.1 hk2).1;have HK:=aj hk2;have HB:=aj ur;have Hb:=aj tE;have Oh:=aj jA;clear hk2 Dw ur tE jA hk b1 XE;generalize hL:all.length=L at *;have HL:=aj hL;clear hL;go_wp2;refine wp_label ?_;go_wp2
  go_loopw [4,5,9,10,24] (fun m f _ _ i wr=>∃j:Nat,j<=L/\i=ah af j/\m=ah af (vN b (all.take j) (bE pl)).1/\f=aH (vN b (all.take j) (bE pl)).2/\Bw w2 wr) (fun _ _ _ _ i _=>L-(intOf i).toNat)
  case atStart=>exact⟨0,oM,rfl,rfl,rfl,ay _ _⟩
  case round=>
   obtain⟨j,hj,rfl,rfl,rfl,eE⟩:=hrel;have hsz:=eE.size
   by_cases hlt:j<L
   .have KL:j<all.length:=by rw[HL.out];exact hlt
    obtain⟨c0,c1,c2,c3⟩:=Reads.cell (w:=wr) (cap:=cv) (n:=L) (fun i u hi=>(eE.cell (p:=⟨gv,0+i,none⟩) Dy).trans (HC.out i u hi)) j KL;simp only[dz] at c0 c1 c2 c3;have XW:vN b (all.take (j+1)) (bE pl)=EP b (bE pl) (vN b (all.take j) (bE pl)) all[j]:=Qj b all (bE pl) KL;have V9:=fun W=>Lh b dp (ae pm lm cm) (ae pn ln cn) (ae pk lk ck) all[j] (T8.out _ (bS KL)) (bE pl) Hh W;have HBa:=aj V9;have yL:=aj eE
    have Iy:Hid (∀w9,gu (wr.alloc (ar all[j].cells 134)).heap.size (wr.alloc (ar all[j].cells 134)) w9->w9.heap[k]?=some (ar (b.open (ae pm lm cm) (ae pn ln cn) (ae pk lk ck) (ae (some ⟨gv,0,none⟩) L cv)) 122 (0,0))/\w9.heap[wr.heap.size]?=some (ar all[j].cells 134 (0,0))/\Reads w9 (ae rj pl.length rH) pl.length (pl.map (ax af))):=aj fun w9 PQ=>by
     have hs:(wr.alloc (ar all[j].cells 134)).heap.size=wr.heap.size+1:=sM;have hb0:Bw wr (wr.alloc (ar all[j].cells 134)):=dF;have qG:=Hb.out.size;exact⟨(PQ.block _ oM).trans ((hb0.block _ oM).trans ((eE.block _ yB).trans HK.out)),(PQ.block _ oM).trans (aw wr _),LA.out.below (Hb.out.trans ((eE.mono qG).trans ((hb0.mono oM).trans (PQ.mono oM))))⟩
    unfold EP at XW;clear V9 eE;generalize all[j]=a at *;generalize AH:b.bad (b.cI+a.used) (bE pl)=bd at *;generalize vN b (all.take j) (bE pl)=s at *;obtain⟨sm,sf⟩:=s;simp only[] at XW;have Lr:=aj XW;clear XW;simp only[];go_wp2
    refine cy kQ [
    pV (pv k 0),
     pV (aO (b.sl pm lm cm pn ln cn pk lk ck)),
     pV (aO a.cells),
     pV (ae rj pl.length rH),
     pV (ah af (bE pl)),
     pV (ah af bd),
     pV (ah af bd)]
     (fun w9=>gu (wr.alloc (ar a.cells 134)).heap.size (wr.alloc (ar a.cells 134)) w9) [(1,ae rj pl.length rH),(7,pv k 0),(9,pv wr.heap.size 0)] kQ ?rst (fun w1 w2 h hb=>h.trans (hb.mono h.size)) ((ay _ _).drew) ⟨rfl,rfl,rfl,trivial⟩ ?reach ?rfin
    case rst=>
     refine⟨sV,sV,sV,sV,sV,sV,sV,trivial⟩
    case reach=>
     refine⟨?_,?_,?_,?_,?_,?_,?_,trivial⟩<;>rintro ev w1 hS hc hg hf ⟨b1,b7,b9,-⟩ hd
     .exact tV
     .have d0:ev (aD 28)=_:=hd.1 rfl;have q:=Iy.out w1 hS;have x0:=jO q.1;exact tV
     .have q:=Iy.out w1 hS;obtain⟨y0,y1,y2,y3⟩:=qV q.2.1;exact tV
     .exact tV
     .have d3:ev (aD 31)=_:=hd.1 rfl;have q:=Iy.out w1 hS;refine yq (args:=#[ae rj pl.length rH]) (kW pl ZY.out _ _ q.2.2) ?_ fun _=>rfl;go_simp
     .have d1:ev (aD 29)=_:=hd.1 rfl;have d2:ev (aD 30)=_:=hd.2.1 rfl;have d4:ev (aD 32)=_:=hd.2.2.1 rfl;refine yc (HBa.out w1) ?_ fun _=>rfl;go_simp
     have d5:ev (aD 33)=_:=hd.1 rfl;refine yv (v:=ev (aD 33)) ?_ (d5);rfl
    case rfin=>
     intro a3 w3 hR;have hS:=hR.s;have e6:a3.tmps.getD 10 au=_:=hR.val 6;have ha:=hR.lits 47 rfl;simp only[aP,cJ,oh] at ha;rw[hR.kp 0,hR.kp 1,hR.kp 2,hR.kp 3,hR.kp 4,hR.kp 5,hR.kp 6,hR.kp 7,hR.kp 8,hR.kp 11,hR.kp 12,hR.kp 13,hR.kp 14,hR.kp 15,hR.kp 16,hR.kp 17,hR.kp 18,hR.kp 19,hR.kp 20,hR.kp 21,hR.kp 22,hR.kp 23,hR.kp 24,hR.kp 45,hR.kp 46] at ha;simp only[lr,gI,gH] at ha;clear hR;rw[e6] at ha;generalize a3.tmps.getD=zz at ha;have qz:=aj hS;clear e6 hS;subst ha;have hwr:gu w2.heap.size wr w3:=((ay _ wr).alloc hsz _).trans (qz.out.mono sO);have HWr:=aj hwr;clear hwr
     by_cases h0:bd=0
     .have g0:(bd==0)=true:=by simpa using h0
      clear h0;have H0:Hid (bd=0):=aj (by simpa using g0);go_wp2;go_roundw
      case rel=>
       refine⟨j+1,oM,sM,?_,?_,yL.out.trans HWr.out⟩
       .rw[Lr.out];simp[H0.out]
       rw[Lr.out];simp[H0.out]
      case measure=>simp[intOf];omega
     have g0:(bd==0)=false:=by simpa using h0
     have H0:=aj h0;clear h0;cases sf
     .go_wp2;go_roundw
      case rel=>
       refine⟨j+1,oM,sM,?_,?_,yL.out.trans HWr.out⟩
       .rw[Lr.out];simp[H0.out]
       rw[Lr.out];simp[H0.out]
      case measure=>simp[intOf];omega
     by_cases h1:bd<sm
     .have H1:=aj h1;go_wp2;go_roundw
      case rel=>
       refine⟨j+1,oM,sM,?_,?_,yL.out.trans HWr.out⟩
       .rw[Lr.out];simp[H0.out,H1.out]
       rw[Lr.out];simp[H0.out,H1.out]
      case measure=>simp[intOf];omega
     have H1:=aj h1;go_wp2;go_roundw
     case rel=>
      refine⟨j+1,oM,sM,?_,?_,yL.out.trans HWr.out⟩
      .rw[Lr.out];simp[H0.out,H1.out]
      rw[Lr.out];simp[H0.out,H1.out]
     case measure=>simp[intOf];omega
   obtain rfl:j=L:=oM;have Pv:all.take j=all:=cQ (by rw[HL.out];exact aJ _);obtain⟨s,hs⟩:∃s,vN b all (bE pl)=s:=⟨_,rfl⟩
   rw[Pv,hs];have yL:=aj eE;have Ul:=aj hs;clear Pv eE hs;have qF:Bw w wr:=Hb.out.trans (yL.out.mono Hb.out.size);have XF:=aj qF;clear qF;obtain⟨sm,sf⟩:=s;go_wp2
   (try simp only[Exit.inBlock,Exit.then,Exit.noGoto_ret])
   go_ret3
   exact⟨by rw[Ul.out];rfl,XF.out⟩
end Go.Proofs.YtffladgmkiimjaaGreatDoor
namespace Go.Lag
open Go Go.RowKit Go.Conc Go.Proofs.YtffladgmkiimjaaGreatDoor
namespace Gd
section
variable{P:aK}{aM:Array Oper}{Q:Exit->Act->ak->Prop}{Vs:List Pred}{S:ak->Prop}{base:List (Tmp × ai)}{n:Nat}
end
end Gd
def m8(W:ak)(I:Nat->dV->Nat)(d:Nat):Old W (dR W I d):=⟨rfl,rfl,aJ _,fun _ _=>rfl⟩
section
variable{P:aK}{aM:Array Oper}{Q:Exit->Act->ak->Prop}{n:Nat}
theorem NF(T:Quiet P)(hm:P.follows .mixedOrders=true){id:Nat}{y:Code}{a0:Act}{W:ak}(hf:∀e a w,Q e a w->rG e=true)(Vs:List Pred)(base:List (Tmp × ai))(dp:ji aM n base=true)(hn:a0.tmps.size=n)(hbase:gi a0.eval base)(Cg:jy (Old W) Vs)
  (hE:Gd.Each (Yields P) aM Vs (Old W) base 0 aM.toList) (hy:∀a w,jq aM Vs (Old W) a0 (bz aM.size true) a w->wD P y Q a w):wD P (.seq (.region id aM true) y) Q a0 W:=
 oB T hf (fun a w=>jq aM Vs (Old W) a0 (bz aM.size true) a w) (fun I d=>
  Gd.cy hm Vs (Old W) base (by rw[hn];exact dp) Cg (fun _ _ h hb=>h.trans (Old.of_below hb)) ((m8 W I d).trans ⟨rfl,rfl,aJ _,fun _ _=>rfl⟩) hbase hE fun a w h=>⟨rfl,h⟩) hy
theorem dA{R:Act->ak->Prop}(hf:∀e a w,Q e a w->rG e=true):∀e a w,Exit.then R Q e a w->rG e=true:=fun e a w h=>by cases e<;>first|rfl|exact hf _ a w h
theorem wC(T:Quiet P){a:Act}{W:ak}(hf:∀e a w,Q e a w->rG e=true)(h:∀I d,Q .normal a (dR W I d)):wD P .skip Q a W:=lU T hf fun I d=>wp_skip (h I d)
def ZP(P:aK)(o:Oper)(ev:Operand->ai)(W:ak)(R:ai->ak->Prop):Prop:=
 ∃f args R2,(∀w,(execOp ev o).run P w=.ok (.enter f args) w)/\ko P f args W R2/\∀v W',R2 v W'->R v W'
end
section
variable{P:aK}{aM:Array Oper}{Q:Exit->Act->ak->Prop}{n:Nat}
theorem IK(T:Quiet P){a:Act}{W:ak}{c:Operand}{x y:Code}{t:Bool}(hc:a.eval c=.bool t)(h1:t=true->wD P x Q a W)(h2:t=false->wD P y Q a W):wD P (.cond c x y) Q a W:=by
 cases t
 .exact nN T hc (h2 rfl)
 exact nN T hc (h1 rfl)
end
section
variable{P:aK}{aM:Array Oper}{base:List (Tmp × ai)}{C:Cf}{n:Nat}{S:ak->Prop}{outs:List (Tmp × ai)}{Q:Exit->Act->ak->Prop}{s:Sem Next}{w:ak}{v:ai}
def XJ(P:aK)(s:Sem Next)(w:ak)(v:ai):Prop:=∃f args R2,look P #[] s=some (.enter f args,[])/\ko P f args w R2/\∀v' W',R2 v' W'->v'=v/\Old w W'
theorem gv{f:FuncId}{args:Array ai}(h:ko P f args w fun u W'=>u=v/\Old w W')(he:look P #[] s=some (.enter f args,[]):=by kernel_rfl):XJ P s w v:=⟨f,args,_,he,h,fun _ _ h=>h⟩
end
section
variable{P:aK}{aM:Array Oper}{base:List (Tmp × ai)}{C:Cf}{n:Nat}{S:ak->Prop}{a0:Act}
variable{Q:Exit->Act->ak->Prop}
def YV(P:aK):mY:=fun o ev w R=>(∀I d,Yields P o ev (dR w I d) R)\/ZP P o ev w R
theorem Q0(T:Quiet P):xV aM (eQ P aM Q) (YV P):=
 ⟨fun i rest o a w R ho hw hY hk=>by
  rcases hY with h|⟨f,args,R2,he,hc,h2⟩
  .exact gD T ho hw fun I d=>(h I d).wp fun v w' hv=>hk v w' hv
  exact r_ T ho hw he hc fun v W' _ hv=>hk v W' (h2 v W' hv),
 fun i rest o a w ho hw hk=>LH T ho (by simpa using hw) hk⟩
theorem dG(T:Quiet P)(i k m:Nat)(C:Cf)(outs:List (Tmp × ai)){dQ:List (Tmp × ai)}{W:ak}(hF:iw n a0 base)(hF2:iw n a0 dQ)(hm:oA (Old W) C.mem)(hh:Uk P aM base C (fun _=>mP P) (Old W) i C.hs)(hy:uK (fun l=>∀a w,Old W w->iw n a l->eQ P aM Q (bN (i+k) m) a w) outs dQ)(hr:wO P aM base C n dQ i k outs=wN P aM base C i k outs:=by kernel_rfl):eQ P aM Q (bN i (k+m)) a0 W:=
 J_ (T:=Old) (Q0 T) (fun _ _ h hb=>h.trans hb) Old.refl (fun i _ s w v h=>gr h)
  (fun i o ev w v R hS hg hR=>.inl fun I d=>(hg _ (hS.trans (m8 w I d))).yields fun w' hb=>hR w' ((m8 w I d).trans (Old.of_below hb))) hF hF2 hr (Old.refl _) hm hh hy
def GX(P:aK)(kv i:Nat):Sem Next->ak->ai->Prop:=match Nat.beq i kv with|true=>XJ P|false=>mP P
theorem YA(T:Quiet P)(kv i k m:Nat)(C:Cf)(hkv:(mQ C.hs kv).isSome=true)(outs:List (Tmp × ai)){dQ:List (Tmp × ai)}{W:ak}(hF:iw n a0 base)(hF2:iw n a0 dQ)(hm:oA (Old W) C.mem)(hh:Uk P aM base C (GX P kv) (Old W) i C.hs)(hy:uK (fun l=>∀a w,Old W w->iw n a l->eQ P aM Q (bN (i+k) m) a w) outs dQ)(hr:wO P aM base C n dQ i k outs=wN P aM base C i k outs:=by kernel_rfl):eQ P aM Q (bN i (k+m)) a0 W:=
 J_ (T:=Old) (Q0 T) (fun _ _ h hb=>h.trans hb) Old.refl (fun i hi s w v h=>by
   unfold GX;cases hb:Nat.beq i kv with
   |true=>rw[Nat.eq_of_beq_eq_true hb] at hi;rw[hi] at hkv;cases hkv
   |false=>exact gr h)
  (fun i o ev w v R hS hg hR=>by
   unfold GX at hg;cases hb:Nat.beq i kv with
   |true=>
    simp only[hb] at hg;obtain⟨f,args,R2,h1,h2,h3⟩:=hg w hS;exact .inr ⟨f,args,R2,fun w9=>mX h1 sM,h2,fun v' W' hv=>by obtain⟨rfl,ho⟩:=h3 v' W' hv;exact hR _ ho⟩
   |false=>
    simp only[hb] at hg
    exact .inl fun I d=>(hg _ (hS.trans (m8 w I d))).yields fun w' hb=>hR w' ((m8 w I d).trans (Old.of_below hb))) hF hF2 hr (Old.refl _) hm hh hy
section
variable{id:Nat}{y:Code}{W:ak}{dQ:List (Tmp × ai)}
theorem aa3(h:wD P y Q a0 W)(I:Nat->dV->Nat)(d:Nat):wD P y Q a0 (dR W I d):=(Yd (I:=W.tape) (d:=W.drawn) h)
theorem mg(T:Quiet P){N:Nat}(hN:aM.size=N)(h:eQ P aM (Exit.then (fun a w=>wD P y Q a w) Q) (bN 0 N) a0 W):wD P (.seq (.region id aM false) y) Q a0 W:=
 gR T (uM T (by rw[List.range_eq_range',hN];exact h))
theorem mf(T:Quiet P)(hf:∀e a w,Q e a w->rG e=true){i:Nat}(h:wD P y Q a0 W):eQ P aM (Exit.then (fun a w=>wD P y Q a w) Q) (bN i 0) a0 W:=
 r9 T (dA hf) fun I d=>aa3 h I d
theorem NL(T:Quiet P)(hf:∀e a w,Q e a w->rG e=true)(C:Cf)(outs:List (Tmp × ai))(hF:iw n a0 base)(hF2:iw n a0 dQ)(hm:oA (Old W) C.mem)(hh:Uk P aM base C (fun _=>mP P) (Old W) 0 C.hs)(hy:uK (fun l=>∀a w,Old W w->iw n a l->wD P y Q a w) outs dQ)(hr:wO P aM base C n dQ 0 aM.size outs=wN P aM base C 0 aM.size outs:=by kernel_rfl):wD P (.seq (.region id aM false) y) Q a0 W:=
 mg T rfl (dG (hr:=hr) T 0 aM.size 0 C outs hF hF2 hm hh (hy.mono fun l h a w ho hl=>mf T hf (h a w ho hl)))
theorem ckX(T:Quiet P)(hf:∀e a w,Q e a w->rG e=true)(kv:Nat)(C:Cf)(hkv:(mQ C.hs kv).isSome=true)(outs:List (Tmp × ai))(hF:iw n a0 base)(hF2:iw n a0 dQ)(hm:oA (Old W) C.mem)(hh:Uk P aM base C (GX P kv) (Old W) 0 C.hs)(hy:uK (fun l=>∀a w,Old W w->iw n a l->wD P y Q a w) outs dQ)(hr:wO P aM base C n dQ 0 aM.size outs=wN P aM base C 0 aM.size outs:=by kernel_rfl):wD P (.seq (.region id aM false) y) Q a0 W:=
 mg T rfl (YA (hr:=hr) T kv 0 aM.size 0 C hkv outs hF hF2 hm hh (hy.mono fun l h a w ho hl=>mf T hf (h a w ho hl)))
end
section
variable{dQ:List (Tmp × ai)}{i m:Nat}{W:ak}
theorem abg(T:Quiet P)(C:Cf)(d:Option Tmp){R:ai->ak->Prop}(hF:iw n a0 base)(hF2:iw n a0 dQ)(hc:BI P aM base C n dQ i d=true)(hY:∀w,Old W w->Yields P (opAt aM i) (rV base []) w R)
  (hk:∀v w,R v w->∀a,iw n a (ic d v dQ)->eQ P aM Q (bN (i+1) m) a w):eQ P aM Q (bN i (m+1)) a0 W:=
 JR (Q0 T) hF hF2 hc (fun ev he=>.inl fun I d=>(hY _ (m8 W I d)).ex he) hk
theorem tK(T:Quiet P)(C:Cf)(d:Option Tmp){f:FuncId}{args:Array ai}{Φ:ak->Ending->ak->Prop}(hF:iw n a0 base)(hF2:iw n a0 dQ)(hc:∀w,Old W w->bm P f args w (Φ w))(hk:∀w0 e w,Old W w0->Φ w0 e w->∃v,e=.returned v/\∀a,iw n a (ic d v dQ)->eQ P aM Q (bN (i+1) m) a w)(he:(BI P aM base C n dQ i d,look P #[] (execOp (rV base []) (opAt aM i)))=(true,some (.enter f args,[])):=by kernel_rfl):eQ P aM Q (bN i (m+1)) a0 W:=by
 rw[iA] at he;exact abg T C d (R:=fun v w=>∀a,iw n a (ic d v dQ)->eQ P aM Q (bN (i+1) m) a w) hF hF2 he.1 (fun w hw=>.call (mX he.2 sM) (hc w hw) fun e w' h=>hk w e w' hw h) fun v w h=>h
theorem Xi(T:Quiet P)(C:Cf)(d:Option Tmp){f:FuncId}{args:Array ai}{Φ:ai->ak->Prop}(hF:iw n a0 base)(hF2:iw n a0 dQ)(hc:ko P f args W Φ)(hk:∀v w,Φ v w->∀a,iw n a (ic d v dQ)->eQ P aM Q (bN (i+1) m) a w)(he:(BI P aM base C n dQ i d,look P #[] (execOp (rV base []) (opAt aM i)))=(true,some (.enter f args,[])):=by kernel_rfl):eQ P aM Q (bN i (m+1)) a0 W:=by
 rw[iA] at he;exact JR (Q0 T) hF hF2 he.1 (fun ev hx=>.inr ⟨f,args,Φ,fun w=>by rw[hx];exact mX he.2 sM,hc,fun v W' h=>h⟩) hk
theorem px(T:Quiet P)(C:Cf)(d:Option Tmp)(vf:Nat->ai)(cs:Array ai)(t:TypeId)(hF:iw n a0 base)(hF2:iw n a0 dQ)(hk:∀B w a,W.heap.size<=B->Old W w->w.heap[B]?=some (.cells cs t (0,0))->iw n a (ic d (vf B) dQ)->eQ P aM Q (bN (i+1) m) a w)(hc:BI P aM base C n dQ i d=true:=by kernel_rfl)(he:∀r,Vf P r (execOp (rV base []) (opAt aM i))=some (cs,t,0,0,some (.value (vf r),[])):=by intro r;kernel_rfl):eQ P aM Q (bN i (m+1)) a0 W:=
 abg T C d (R:=fun v w=>∃B,v=vf B/\W.heap.size<=B/\Old W w/\w.heap[B]?=some (.cells cs t (0,0))) hF hF2 hc (fun w hw=>.value (QX (he _)) ⟨_,rfl,hw.size,hw.trans (Old.of_below dF),aw _ _⟩)
  fun v w ⟨B,e,h1,h2,h3⟩ a hl=>hk B w a h1 h2 h3 (e▸hl)
theorem Uo.old{B:Nat}{V w w':ak}(h:Uo B w w')(ho:Old V w)(hB:V.heap.size<=B):Old V w':=⟨h.os.trans ho.os,h.output.trans ho.output,by rw[h.size];exact ho.size,fun k hk=>(h.block k oM).trans (ho.block k hk)⟩
theorem QP(T:Quiet P)(C:Cf){B:Nat}(cs cs':Array ai){t:TypeId}(l:List Nat)(hF:iw n a0 base)(hF2:iw n a0 dQ)(hB:W.heap[B]?=some (.cells cs t (0,0)))(hk:∀w a,(∀V,Old V W->V.heap.size<=B->Old V w)->w.heap[B]?=some (.cells cs' t (0,0))->iw n a dQ->eQ P aM Q (bN (i+1) m) a w)(he:(BI P aM base C n dQ i none,(stores P (execOp (rV base []) (opAt aM i))).map fun q=>(q.map (·.1),(q.all fun p=>Nat.blt p.2.1 cs.size),BM cs q))=(true,some (l.map fun _=>B,true,cs')):=by kernel_rfl):eQ P aM Q (bN i (m+1)) a0 W:=by
 obtain⟨h1,h2⟩:=aac C cs cs' hB l he
 exact abg T C none (R:=fun v w=>(∀V,Old V W->V.heap.size<=B->Old V w)/\w.heap[B]?=some (.cells cs' t (0,0))) hF hF2 h1 (fun w hw=>by
  obtain⟨w',g1,g2,g3⟩:=h2 w ((hw.block B (ag.1 hB).1).trans hB)
  exact .skip g1 ⟨fun V hV hs=>g3.old (hV.trans hw) hs,g2⟩) fun v w h a hl=>hk w a h.1 h.2 hl
end
end
end Go.Lag
namespace Go.Proofs.YtffladgmkiimjaaGreatDoor
open Go.RowKit Go.Lag
def eG.nil{b:BB}(h:b.Ok):eG b []:=⟨sM,sM,by have:=h.ey;simpa using this.1⟩
def eG.next{b:BB}{pl:List Int}(h:eG b pl){k:Nat}(hk:∀p∈pl,p<=k)(h1:(k:Int)+1<=b.minutes)(h2:(pl.length:Int)<b.ey):eG b (pl++[((k:Int)+1)]):=by
 refine⟨fun p hp=>?_,fun i hi=>?_,sO⟩
 .rcases bL.1 hp with hp|hp
  .exact h.mem p hp
  simp at hp;omega
 simp at hi
 by_cases hi':i+1<pl.length
 .rw[List.getElem_append_left oM,List.getElem_append_left hi'];exact h.Xn i hi'
 have:=hk pl[i] (bS oM);rw[List.getElem_append_left oM,List.getElem_append_right oM];simp;omega
def Mp(b:BB)(hb:b.Ok)(p1 p2 p3:Option Addr)(n1 c1 n2 c2 n3 c3:Nat)(x:Int)(w:ak) :
  bm aq 31 #[aO (b.sl p1 n1 c1 p2 n2 c2 p3 n3 c3),ah .u16 x] w fun e w'=>∃v pl,e=aU v/\eG b pl/\w'.ownsRow w.heap.size 3 1 v pl.length (pl.map (ax af))/\Bw w w':=by
 obtain⟨i0,hi,hz0,hz1,hz2⟩:=info_parts info3;have hm:=hb.minutes;have hc:=hb.ey;have HN:=aj (eG.nil hb)
 go_enter Tryz.func31,Tryz.ntmps31
 go_wp2
 go_loopw [5,6] (fun v i wr=>∃(k:Nat) (pl:List Int),(k:Int)<=b.minutes/\i=ah af (k+1)/\eG b pl/\(∀p∈pl,p<=k)/\wr.ownsRow (w.heap.size+1) 3 1 v pl.length (pl.map (ax af))/\gu (w.heap.size+1) (w.alloc (ar (b.sl p1 n1 c1 p2 n2 c2 p3 n3 c3) 28)) wr)
  (fun _ i _=>10-(intOf i).toNat)
 case atStart=>exact⟨0,[],oM,rfl,HN.out,sM,World.ownsRow_nil _ _ _ _,ay _ _⟩
 case round=>
  obtain⟨k,pl,hk,rfl,hpl,hle,hown,eE⟩:=hrel;obtain⟨po,co,rfl⟩:=bP hown;have K:=aF (aA (aw w (ar (b.sl p1 n1 c1 p2 n2 c2 p3 n3 c3) 28)) (eE.mono sM));have z3:wr.cell? ⟨w.heap.size,3,none⟩=some (ah af b.minutes):=K 3 _ rfl;have z6:wr.cell? ⟨w.heap.size,6,none⟩=some (ah af b.ey):=K 6 _ rfl;clear K;have H1:=aj hpl;have H2:=aj hle;clear hpl hle;have hB:w.heap.size+1<=wr.heap.size:=by simpa using eE.size
  have qF:Bw w wr:=dF.trans (eE.mono oM)
  by_cases hlt:(k:Int)+1<=b.minutes
  .by_cases hlc:(pl.length:Int)<b.ey
   .go_wp2_with (at_builtin;refine wpList_append_own _ rfl _ _ 25 rfl (w.heap.size+1) 3 i0 (ah af 0) 1 8 Tryz.underlying25 hi hz0 hz1 hz2 rfl dC _ _ _ rfl (hown.alloc _) ⟨wr.heap.size,0,none⟩ 1 1 [ah af (k+1)] rfl rfl ?c1 ?c2 ?c3 ?c4 ?c5 ?_)
    case c1=>
     intro j u hj
     match j,hj with
     |0,hj=>simp at hj;subst hj;simp[Addr.add]
    case c2=>intro u hu;simp at hu;subst hu;rfl
    case c3=>unfold maxLen;omega
    case c4=>omega
    case c5=>simp;omega
    .intro v' w1 hown' hgrow _;have hb1:gu (w.heap.size+1) _ w1:=uI hB hown eE hgrow;clear hgrow eE hown
     have afy:∀p∈pl++[((k:Int)+1)],p<=((k+1:Nat):Int):=by
      intro p hp;rcases bL.1 hp with hp|hp
      .have:=H2.out p hp;omega
      simp at hp;omega
     have HL:=aj afy;clear afy;go_wp2;go_roundw
     case rel=>exact⟨k+1,pl++[((k:Int)+1)],oM,by go_num,H1.out.next H2.out hlt hlc,HL.out,by simpa using hown',hb1⟩
     case measure=>simp[intOf];omega
    go_roundw
    case rel=>exact⟨k+1,pl,oM,by go_num,H1.out,fun p hp=>by have:=H2.out p hp;omega,hown,eE⟩
    case measure=>simp[intOf];omega
   go_wp2
   go_ret
   exact⟨_,rfl,pl,H1.out,ownsRow_base hown oM,qF⟩
  go_wp2
  go_ret
  exact⟨_,rfl,pl,H1.out,ownsRow_base hown oM,qF⟩
end Go.Proofs.YtffladgmkiimjaaGreatDoor
