/- pick (95): beside leavers. What good is handed. pick (95): its end, be .. -/
import Derived.Test.YtffladgmkiimjaaGreatDoorW11
import Derived.Test.YtffladgmkiimjaaGreatDoorW02
import Derived.Test.YtffladgmkiimjaaGreatDoorW00
import Derived.Test.YtffladgmkiimjaaGreatDoorW10
import Derived.Test.YtffladgmkiimjaaGreatDoorW03
import Derived.Test.YtffladgmkiimjaaGreatDoorW01
import Derived.WalkMore
import Derived.Test.YtffladgmkiimjaaGreatDoorW04
set_option linter.all false
set_option maxHeartbeats 100000000
set_option maxRecDepth 1000000
open Array renaming getElem?_eq_some_iff -> ai,replicate -> bE,replicate_zero -> j7,replicate_succ -> j8
open Go renaming Program -> aL,undef -> af,Value -> ak,World -> ar,bodyPost_ret -> bm,Calls -> bu,Question -> dK,results_cell_row -> vW
open Go.Ending renaming returned -> aF
open Go.IntKind renaming i64 -> ag
open Go.Lib renaming hid -> aj
open Go.Obj renaming cells -> aw
open Go.Operand renaming tmp -> aM
open Go.Proofs.Tryz renaming underlying23 -> BD,prog -> aq,underlying28 -> cJ,underlying122 -> jd
open Go.RowKit renaming Below -> az
open Go.RowKit.Below renaming refl -> au,heap_setCell -> bt
open Go.Value renaming int -> aB,bool -> aH,agg -> aR,pointer -> aS,slice -> ae,int -> ah,tuple -> cO,oneCell' -> cj,ownBlock -> jq
open Go.World renaming alloc_heap_new -> ay,size_alloc -> ej
open List renaming range -> aU,mem_append -> bI,take_succ_eq_append_getElem -> bN,mem_range -> bP,range' -> bR,getElem_mem -> bV,length_pos_iff -> dm,take_of_length_le -> dp,cons_append -> gP,getD_cons_zero -> gi,getD_cons_succ -> gp,length_cons -> iC,append_toArray -> iw,size_toArray -> jG,push_toArray -> jH,nil_append -> kn,map -> nD,length_nil -> oy
open List.range renaming loop -> cg
open Nat renaming reduceSub -> Dj,reduceAdd -> Dk,le_trans -> aO,le_refl -> ax,lt_of_lt_of_le -> bA,zero_add -> di
open Option.some renaming inj -> bj
open Or renaming inl -> cK
open Prod.mk renaming injEq -> iO
namespace Go.Proofs.YtffladgmkiimjaaGreatDoor
open Go.RowKit Go.Lag
open Go.Conc
def NA(u:ak):Prop:=(∃k n,u=.int k n)\/∃s,u=.string s
def Plain(w:ar)(v:ak):Prop:=∀g,v.ownBlock=some g->1<=g/\∃cs e z,w.heap[g]?=some (.cells cs e z)/\∀u∈cs,NA u
theorem Plain.old{w w':ar}{v:ak}(h:Plain w v)(ho:Old w w'):Plain w' v:=fun g hg=>by
 obtain⟨h1,cs,e,z,h2,h3⟩:=h g hg;exact⟨h1,cs,e,z,(ho.block g (eP h2)).trans h2,h3⟩
theorem cU.old{b:BB}{bq aK aA:ak}{ml:List Mn}{ss:List Int}{ms:List Mk}{w w':ar}(h:cU b bq aK aA ml ss ms w)(ho:Old w w'):cU b bq aK aA ml ss ms w':=
 ⟨h.ok,h.gZ,h.mK,h.lg,h.rm.old ho,h.rs.old ho,h.rk.old ho⟩
theorem Laid.old{w w':ar}(h:Laid w)(hb:Old w w'):Laid w':=
 ⟨(hb.cell (a:=⟨0,0,none⟩) h.lt).trans h.c0,(hb.cell (a:=⟨0,1,none⟩) h.lt).trans h.c1,(hb.cell (a:=⟨0,2,none⟩) h.lt).trans h.c2,(hb.cell (a:=⟨0,3,none⟩) h.lt).trans h.c3,(hb.cell (a:=⟨0,4,none⟩) h.lt).trans h.c4,bA h.lt hb.size⟩
theorem gY.old{w w':ar}{base:Nat}{v:ak}{l:List eN}(h:gY w base v l)(ho:Old w w'):gY w' base v l:=h.at_ fun g hg=>ho.block g (h.1.lt g hg).2
theorem QV{w:ar}{base:Nat}{v:ak}{l:List eN}(h:gY w base v l)(hb:1<=base):Plain w v:=fun g hg=>by
 obtain⟨cur,h1,h2⟩:=h.2 g hg;have h3:=(h.1.lt g hg).1;exact⟨by omega,cur,_,_,h1,fun u hu=>.inl ⟨_,h2 u hu⟩⟩
theorem Hn(ok:eN->Bool):∀(r:List Mn) (lM:Nat) (a:eN),a.Ok->(∀m∈r,1<=m.lo/\m.hi<=99)->∀x∈leaves ok r lM a,x.Ok
 |[],lM,a,ha,_,x,hx=>by
  simp only[leaves] at hx;split at hx
  .simp at hx;subst hx;exact ha
  cases hx
 |m::r,lM,a,ha,hm,x,hx=>by
  simp only[leaves,List.mem_flatMap] at hx;obtain⟨n,hn,hx⟩:=hx;simp only[gG,List.mem_map,bP] at hn;obtain⟨i,hi,rfl⟩:=hn;have:=hm m (by simp);exact Hn ok r (lM+1) _ (eN.Nu ha lM (by omega) (by omega)) (fun m' h=>hm m' (by simp[h])) x hx
theorem nZ{b:BB}{ml:List Mn}{ss:List Int}{ms:List Mk}(hb:b.Ok)(hm:CQ ml):∀x∈bw b ml ss ms,x.Ok:=by
 intro x hx;simp only[bw,List.mem_flatMap] at hx;obtain⟨n,hn,hx⟩:=hx;simp only[gG,List.mem_map,bP] at hn;obtain⟨i,hi,rfl⟩:=hn;have:=hb.leak;exact Hn _ ml 0 ⟨b.ll+i,0,0,0⟩ ⟨⟨by show 0<=b.ll+i;omega,by show b.ll+(i:Int)<=400;omega⟩,by simp,by simp,by simp⟩ (fun m h=>⟨(hm.mem m h).2.1,(hm.mem m h).2.2.2.1⟩) x hx
theorem XJ{b:BB}{bq aK aA all:ak}{ml:List Mn}{l:List eN}{ss:List Int}{ms:List Mk}{W:ar}(hB:cU b bq aK aA ml ss ms W)(hl:∀x∈l,x.Ok)(h1:Plain W bq)(h2:Plain W aK)(h3:Plain W aA)(h4:Plain W all)
  (ha:Reads W all l.length (rowOf l)) (hg:1<=W.heap.size):∃Y,VD aq b bq aK aA all l ss ms Y W:=by
 have hm:=hB.ok.minutes
 have vr:∀(Y:Nat->Prop) (v:ak) (n:Nat) (xs:List ak),Reads W v n xs->(∀g,v.ownBlock=some g->Y g)->VR fw (xU Y) v v/\mJ Y W v n xs:=by
  intro Y v n xs hr hy;rcases hr with⟨rfl,rfl,rfl⟩|⟨g,off,cap,rfl,h,hg,hc⟩
  .exact⟨.Ew _ _,.inl ⟨rfl,rfl,rfl⟩⟩
  exact⟨.slice _ _ ⟨vG (hy g rfl),rfl,rfl⟩,.inr ⟨g,off,cap,rfl,h,hy g rfl,hc⟩⟩
 refine⟨fun k=>bq.ownBlock=some k\/aK.ownBlock=some k\/aA.ownBlock=some k\/all.ownBlock=some k,?_⟩
 have pl:∀(Y:Nat->Prop) (u:ak),NA u->VR fw (xU Y) u u:=by
  rintro Y u (⟨k,n,rfl⟩|⟨s,rfl⟩)
  .exact .int _ _
  exact .string _
 have m1:=vr (fun k=>bq.ownBlock=some k\/aK.ownBlock=some k\/aA.ownBlock=some k\/all.ownBlock=some k) bq _ _ hB.rm fun g h=>.inl h;have m2:=vr (fun k=>bq.ownBlock=some k\/aK.ownBlock=some k\/aA.ownBlock=some k\/all.ownBlock=some k) aK _ _ hB.rs fun g h=>.inr (.inl h);have m3:=vr (fun k=>bq.ownBlock=some k\/aK.ownBlock=some k\/aA.ownBlock=some k\/all.ownBlock=some k) aA _ _ hB.rk fun g h=>.inr (.inr (.inl h));have m4:=vr (fun k=>bq.ownBlock=some k\/aK.ownBlock=some k\/aA.ownBlock=some k\/all.ownBlock=some k) all _ _ ha fun g h=>.inr (.inr (.inr h))
 have Xq:∀c,(bq.ownBlock=some c\/aK.ownBlock=some c\/aA.ownBlock=some c\/all.ownBlock=some c)->1<=c/\∃cs e z,W.heap[c]?=some (.cells cs e z)/\∀u∈cs,NA u:=by
  rintro c (h|h|h|h)
  .exact h1 c h
  .exact h2 c h
  .exact h3 c h
  exact h4 c h
 have Cq:Tryz.prog.globals.size=1:=by kernel_rfl
 exact⟨rfl,Tryz.func159,Tryz.func178,by kernel_rfl,by kernel_rfl,hB.ok,hl,fun s hs=>by have:=hB.mK.mem s hs;omega,fun m h=>by have:=hB.lg.mem m h;omega,
  fun c hc=>by obtain⟨_,cs,e,z,h,hu⟩:=Xq c hc;exact⟨cs,e,z,h,fun u hu'=>pl _ u (hu u hu')⟩,fun c hc=>by rw[Cq];exact(Xq c hc).1,by rw[Cq];exact hg,m1.1,m2.1,m3.1,m4.1,m2.2,m3.2,m4.2⟩
def Zi(lt:Nat->Nat->Bool)(acc:List Nat)(W:ar)(v:ak)(W':ar):Prop:=
 ∃(x:Nat) (r:List Nat) (lv:ak),(x::r).Perm acc/\v=cO #[lv,aH true,ah ag 0]/\Reads W' lv (gV (jK lt x r)).length ((gV (jK lt x r)).map (aB ag))/\Old W W'
noncomputable def Tm:Code:=sR (sR (sR (sR (match Tryz.f95.body with|some c=>c|_=>.skip))))
theorem Ef{W W':ar}{v:ak}{n:Nat}{xs:List ak}(h:Reads W v n xs)(hb:az W.heap.size W W'):Reads W' v n xs:=h.below hb
theorem Tq(g:FuncId)(lt:Nat->Nat->Bool)(LI:∀(first:Nat),first<512->∀(more:List Nat),(∀x∈more,x<512)->∀(v:ak) (w:ar),Reads w v more.length (more.map fun(p:Nat)=>aB ag (p:Int))->
   bu aq 160 #[.func (.func g) #[] #[],ah ag first,v] w fun e w'=>e=aF (ah ag (jK lt first more:Nat))/\az w.heap.size w w')
  (x:Nat) (r:List Nat) (hx:x<512) (hr:∀y∈r,y<512) (out:ak) (W:ar) (ho:Reads W out (x::r).length (ints (x::r))) (acc:List Nat) (hp:(x::r).Perm acc) (W0:ar) (hold:Old W0 W)
  (t0 t2 t7 t8 t10 t11 t12 t13 t14 t15 t16 t17 t18 t19:ak) :
  Tm.wp aq (bodyPost aq Tryz.f95 fun e w'=>∃v,e=aF v/\Zi lt acc W0 v w')
   ⟨#[t0,.func (.func g) #[] #[],t2,af,ae none 0 0,aH false,ah ag 0,t7,t8,out,t10,t11,t12,t13,t14,t15,t16,t17,t18,t19,af,af,af,af,af,af,af,af,af,af,af],[]⟩ W:=by
 obtain⟨go,oo,cap,rfl,hlen,hgo,hcell⟩:∃go oo cap,out=ae (some ⟨go,oo,none⟩) (r.length+1) cap/\(r.length+1<=4294967296/\r.length+1<=cap)/\go<W.heap.size/\∀j u,(ints (x::r))[j]?=some u->W.cell? ⟨go,oo+j,none⟩=some u:=by
  rcases ho with⟨_,h,_⟩|h
  .simp at h
  exact h
 have HC0:Hid (∀w,az W.heap.size W w->w.cell? ⟨go,oo,none⟩=some (ah ag x)):=aj fun w hb=>(hb.cell (p:=⟨go,oo,none⟩) hgo).trans (hcell 0 _ (by simp[ints]))
 have Vu:Hid (∀w,az W.heap.size W w->Reads w (ae (if cap=1 then some ⟨go,oo,none⟩ else some ⟨go,oo+1,none⟩) r.length (cap-1)) r.length (r.map fun(p:Nat)=>aB ag (p:Int))):=aj fun w hb=>
  if h1:cap=1 then by
   have h0:r=[]:=List.eq_nil_of_length_eq_zero (by omega);subst h0;rw[if_pos h1];exact .inr ⟨go,oo,cap-1,rfl,⟨by simp,by simp⟩,bA hgo hb.size,fun j u hj=>by simp at hj⟩
  else by
  rw[if_neg h1]
  exact .inr ⟨go,oo+1,cap-1,rfl,by omega,bA hgo hb.size,fun j u hj=>(hb.cell (p:=⟨go,_,none⟩) hgo).trans (by
   have:=hcell (j+1) u (by simpa [ints] using hj)
   rwa [show oo+(j+1)=oo+1+j by omega] at this)⟩
 have HBe:=aj LI;have HHx:=aj hr;have HPm:=aj hp;have HOl:=aj hold;clear LI hr hp hold hcell ho;generalize hM:r.length=M at *;have HM:=aj hM;clear hM;have hbl:jK lt x r<512:=Aj lt r x hx HHx.out;have l1:((M:Int)+1==0)=false:=by simp;omega
 have l2:(1:Int)<=(M:Int)+1:=by omega
 simp only[Tm,sR,Tryz.f95];go_wp2
 refine bY (by kernel_rfl) [
 pV (.func (.func g) #[] #[]),
  pV (ae (some ⟨go,oo,none⟩) (M+1) cap),
  pV (pv go oo),
  pV (ah ag x),
  pV (ae (some ⟨go,oo,none⟩) (M+1) cap),
  pV ((ae (if cap=1 then some ⟨go,oo,none⟩ else some ⟨go,oo+1,none⟩) M (cap-1))),
  pV (ah ag (jK lt x r:Nat)),
  fun v ds w9=>Reads w9 v (gV (jK lt x r)).length ((gV (jK lt x r)).map (aB ag)),
  fun v ds w9=>Reads w9 v (gV (jK lt x r)).length ((gV (jK lt x r)).map (aB ag)),
  pV (aH true),
  pV (ah ag 0)]
  (fun w=>az W.heap.size W w) [(1,.func (.func g) #[] #[]),(9,ae (some ⟨go,oo,none⟩) (M+1) cap)] (by kernel_rfl) ?rst (fun w1 w2 h hb=>h.trans (hb.mono h.size)) ((au _ _).drew) ⟨rfl,rfl,trivial⟩ ?reach ?rfin
 case rst=>
  refine⟨sV,sV,sV,sV,sV,sV,sV,?_,?_,sV,sV,trivial⟩
  .rintro v ds w1 w2 hS h hb;exact Ef h hb
  rintro v ds w1 w2 hS h hb;exact Ef h hb
 case reach=>
  refine⟨?_,?_,?_,?_,?_,?_,?_,?_,?_,?_,?_,trivial⟩<;>rintro ev w1 hS hc hg hf ⟨b1,b9,-⟩ hd
  .clear hd;exact tV
  .clear hd;exact tV
  .have d1:ev (aM 24)=_:=hd.1 rfl;clear hd;exact tV
  .have d2:ev (aM 25)=_:=hd.1 rfl;clear hd;have z:=HC0.out w1 hS;exact tV
  .clear hd;exact tV
  .have d4:ev (aM 27)=_:=hd.1 rfl;clear hd;exact tV
  .have d0:ev (aM 23)=_:=hd.1 rfl;have d3:ev (aM 26)=_:=hd.2.1 rfl;have d5:ev (aM 28)=_:=hd.2.2.1 rfl;clear hd;refine yc (args:=#[.func (.func g) #[] #[],ah ag x,(ae (if cap=1 then some ⟨go,oo,none⟩ else some ⟨go,oo+1,none⟩) M (cap-1))]) (HBe.out x hx r HHx.out _ _ (by have:=Vu.out w1 hS;rw[<-HM.out] at this;rw[<-HM.out];exact this)) ?_ fun _=>rfl;go_simp
  .have d6:ev (aM 29)=_:=hd.1 rfl;clear hd;refine Lag.Yields.call (f:=99) (args:=#[ah ag (jK lt x r:Nat)]) ?_ (sX _ hbl _) ?_
   .go_simp
   rintro e w2 ⟨v,rfl,h1,hb⟩;exact⟨_,rfl,h1,cK hb⟩
  .exact yv rfl (hd.1 rfl)
  .clear hd;exact tV
  clear hd;exact tV
 case rfin=>
  intro a2 w2 hR;have hS:=hR.s;have e8:Reads w2 (a2.tmps.getD 4 af) (gV (jK lt x r)).length ((gV (jK lt x r)).map (aB ag)):=hR.val 8 (by decide);have e9:a2.tmps.getD 5 af=_:=hR.val 9 (by decide);have JI:a2.tmps.getD 6 af=_:=hR.val 10 (by decide);have ha:=hR.lits 31 rfl;simp only[aU,cg,nD] at ha;clear hR;rw[e9,JI] at ha;generalize a2.tmps.getD 4 af=lv at *;generalize a2.tmps.getD=zz at ha;have ajp:Hid (Old W w2):=aj (Old.of_below hS);have HE8:=aj e8;clear e8 e9 JI hS;subst ha;go_wp2
  go_ret3
  exact⟨_,rfl,x,r,lv,HPm.out,rfl,HE8.out,HOl.out.trans ajp.out⟩
theorem nM{P:aL}(T:Quiet P){x y:Code}{Q:Exit->Act->ar->Prop}{a:Act}{W:ar}(hf:∀e a w,Q e a w->tv e=true)(Q1:Act->ar->Prop)(hx:∀I d,x.wp P (fun e a w=>e=.normal/\Q1 a w) a (dB W I d))(hy:∀a w,Q1 a w->nw P y Q a w):nw P (.seq x y) Q a W:=
 Qo T (fun e a w _ h=>hf e a w h) fun I d=>wp_mono (hx I d) (by rintro e a w ⟨rfl,h⟩;exact hy a w h)
theorem wD{W W':ar}{I:Nat->dK->Nat}{d:Nat}(h:Old W (dB W' I d)):Old W W':=⟨h.os,h.output,h.size,h.block⟩
theorem Er{W W':ar}{I:Nat->dK->Nat}{d:Nat}(h:Old (dB W I d) W'):Old W W':=⟨h.os,h.output,h.size,h.block⟩
theorem nS{W W':ar}(I:Nat->dK->Nat)(d:Nat)(h:Old W W'):Old W (dB W' I d):=⟨h.os,h.output,h.size,h.block⟩
theorem Cj(b:BB)(bq aK aA:ak)(w:ar):bu aq 122 #[aR (b.cells bq aK aA)] w fun e w'=>e=aF (ah ag 0)/\az w.heap.size w w':=by
 go_enter Tryz.func122,Tryz.ntmps122
 go_wp2
 go_ret
 exact⟨rfl,(au _ _).alloc (ax _) _⟩
structure Pk0(W:ar)(B:Nat)(cs:Array ak)(T:TypeId)(w:ar):Prop where
 old:Old W w
 blk:w.heap[B]?=some (aw cs T (0,0))
structure Pk1(W:ar)(b:BB)(bq aK aA:ak)(all:List eN)(B7:Nat)(v:ak)(w:ar):Prop where
 old:Old W w
 blk:w.heap[B7]?=some (aw (b.open bq aK aA v) 122 (0,0))
 own:gY w W.heap.size v all
section
variable{b:BB}{bq aK aA:ak}{ml:List Mn}{ss:List Int}{ms:List Mk}{W:ar}
theorem Tr(g:FuncId)(lt:Nat->Nat->Bool)(hL:Laid W)(hB:cU b bq aK aA ml ss ms W)(p1:Plain W bq)(p2:Plain W aK)(p3:Plain W aA)(hne:bw b ml ss ms≠[])
  (ya:j0 b (dx ss ms).toNat (bD ss) (bw b ml ss ms) 512≠[]) (hlt:∀x∈j0 b (dx ss ms).toNat (bD ss) (bw b ml ss ms) 512,x<512)
  (LI:∀(first:Nat),first<512->∀(more:List Nat),(∀x∈more,x<512)->∀(v:ak) (w:ar),Reads w v more.length (more.map fun(p:Nat)=>aB ag (p:Int))->
   bu aq 160 #[.func (.func g) #[] #[],ah ag first,v] w fun e w'=>e=aF (ah ag (jK lt first more:Nat))/\az w.heap.size w w') :
  jW aq 95 #[aR (b.cells bq aK aA),.func (.func g) #[] #[]] W (Zi lt (j0 b (dx ss ms).toNat (bD ss) (bw b ml ss ms) 512) W):=by
 refine kV quiet Tryz.func95 rfl ?hR ?body
 case hR=>
  rintro v W' I d ⟨x,r,lv,h1,h2,h3,h4⟩;exact⟨x,r,lv,h1,h2,h3,wD h4⟩
 simp only[Tryz.ntmps95,jG,iC,oy,Dk,Dj,j8,j7,jH,iw,kn,gP];refine nM quiet bp (fun a w=>a=⟨#[aR (b.cells bq aK aA),.func (.func g) #[] #[],pv W.heap.size 0,af,ae none 0 0,aH false,ah ag 0,af,af,af,af,af,af,af,af,af,af,af,af,af,af,af,af,af,af,af,af,af,af,af,af],[]⟩/\Pk0 W W.heap.size (b.cells bq aK aA) 28 w) (fun I d=>?_) ?_
 .go_wp2;exact⟨Er (qi _ _),ay (dB W I d) _⟩
 rintro a W1 ⟨rfl,⟨o1,x1⟩⟩;have kC:0<(bw b ml ss ms).length:=dm.2 hne;refine nM quiet bp (fun a w=>∃(B7:Nat) (v t10 t11 t12 t13 t14:ak),a=⟨#[aR (b.cells bq aK aA),.func (.func g) #[] #[],pv W.heap.size 0,af,ae none 0 0,aH false,ah ag 0,pv B7 0,ah ag 0,af,t10,t11,t12,t13,t14,af,af,af,af,af,af,af,af,af,af,af,af,af,af,af,af],[]⟩/\Pk1 W b bq aK aA (bw b ml ss ms) B7 v w) (fun I d=>?_) ?_
 .have o1':Old W (dB W1 I d):=nS I d o1;obtain⟨c0,c1,c2,c3,c4,c5,c6,c7,c8,c9,c10,c11,c12,c13,c14⟩:=bT (w:=dB W1 I d) x1;have HO:=aj (zm b bq aK aA ml ss ms (dB W1 I d) (hL.old o1') (hB.old o1') hne (fun W' _=>Cj b bq aK aA W'));have HO1:=aj o1';obtain⟨pm,cm,rfl,_⟩:=aW hB.rm;obtain⟨pn,cn,rfl,_⟩:=aW hB.rs;obtain⟨pk,ck,rfl,_⟩:=aW hB.rk;clear hL hB p1 p2 p3 hne ya hlt LI o1 o1' x1;generalize bw b ml ss ms=all at *;generalize ml.length=lm at *;generalize ss.length=ln at *;generalize ms.length=lk at *;generalize hW1:dB W1 I d=W2 at *
  go_wp2_with (first
   |(go_at_call 103;refine HO.out.mono ?_;clear HO;rintro e w3 ⟨v,rfl,jn,hb3⟩
     obtain⟨gv,oP,rfl⟩:∃gv oP,v=ae (some ⟨gv,0,none⟩) all.length oP:=by
      rcases jn.1.2 with⟨_,h0⟩|⟨g,cap,cur,rfl,_⟩
      .omega
      exact⟨g,cap,rfl⟩
     have MR:=aj jn;have pJ:=aj hb3;clear jn hb3))
  have o3:Old W w3:=HO1.out.trans (Old.of_below pJ.out);exact⟨_,o3.trans (qi _ _),ay w3 _,(MR.out.base HO1.out.size).old (qi _ _)⟩
 rintro a W2 ⟨B7,v,t10,t11,t12,t13,t14,rfl,⟨o2,x2,jn⟩⟩;refine nM quiet bp (fun a w=>a=⟨#[aR (b.cells bq aK aA),.func (.func g) #[] #[],pv W.heap.size 0,af,ae none 0 0,aH false,ah ag 0,pv B7 0,ah ag 0,af,t10,t11,t12,t13,t14,ah ag 0,aH false,af,af,af,af,af,af,af,af,af,af,af,af,af,af],[]⟩/\Pk1 W b bq aK aA (bw b ml ss ms) B7 v w) (fun I d=>?_) ?_
 .go_wp2;exact⟨nS _ _ o2,x2,jn⟩
 rintro a W3 ⟨rfl,⟨o3,x3,ag8⟩⟩;clear o2 x2 jn;refine kq quiet (tP quiet ?_);refine gg (i:=0) (rest:=[1,2]) quiet rfl rfl fun I d=>?_;refine wp_load_row 122 (aM 7) rfl B7 rfl 122 _ (0,0) _ (w:=dB W3 I d) x3 jd rfl (by kernel_rfl) ?_;have P0:=hB.old (nS I d o3);have adF:gY (dB W3 I d) W.heap.size v (bw b ml ss ms):=ag8;have hW1:1<=W.heap.size:=hL.lt;obtain⟨Y,hG⟩:=XJ (all:=v) (l:=bw b ml ss ms) P0 (nZ hB.ok hB.gZ) (p1.old (nS I d o3)) (p2.old (nS I d o3)) (p3.old (nS I d o3)) (QV adF hW1) (adF.reads (by have:=jE ss ms hB.ok hB.gZ;omega)) (aO hW1 o3.size);refine rr (i:=1) (rest:=[2]) quiet rfl rfl (f:=159) (args:=#[aR (b.open bq aK aA v)]) (fun w=>by kernel_rfl) (aaV hG) ?_;rintro out W4 _ ⟨kJ,hr,hperm,ho4⟩;have o4:Old W W4:=(nS I d o3).trans ho4;refine gg (i:=2) (rest:=[]) quiet rfl rfl fun τ1 d1=>?_;show eH aq _ _ [] _ _
 have ahb:kJ≠[]:=by
  rintro rfl;exact ya hperm.symm.eq_nil
 obtain⟨x,r,rfl⟩:∃x r,kJ=x::r:=by
  cases kJ with
  |nil=>exact(ahb rfl).elim
  |cons x r=>exact⟨x,r,rfl⟩
 have hx:=hlt x (hperm.subset (by simp));have hr2:∀y∈r,y<512:=fun y hy=>hlt y (hperm.subset (by simp[hy]));refine rq (l:=[]) quiet (fun e a w h=>by cases e<;>first|rfl|exact(h:False).elim) fun τ2 d2=>?_;refine kI quiet bp fun τ3 d3=>xN ?_;have hend:=Tq g lt LI x r hx hr2 out (dB (dB (dB W4 τ1 d1) τ2 d2) τ3 d3) hr _ hperm W ⟨o4.os,o4.output,o4.size,o4.block⟩ (aR (b.cells bq aK aA)) (pv W.heap.size 0) (pv B7 0) (ah ag 0) t10 t11 t12 t13 t14 (ah ag 0) (aH false) af (aR (b.open bq aK aA v)) out;exact hend
end
end Go.Proofs.YtffladgmkiimjaaGreatDoor
namespace Go.Proofs.YtffladgmkiimjaaGreatDoor
open Go.RowKit Go.Lag
theorem JQ(p:Option Addr)(n cap:Nat)(w:ar):bu aq 104 #[ae p n cap] w fun e w'=>e=aF (.func (.func 164) #[] #[pv w.heap.size 0])/\w'=w.alloc (aw #[ae p n cap] 25):=by
 go_enter Tryz.func104,Tryz.ntmps104
 go_wp2
 go_ret
 exact⟨rfl,rfl⟩
theorem DF(b:BB)(hb:b.Ok)(bq aK aA:ak)(pl:List Int)(hp:eU b pl)(cp:Nat)(lv:ak)(w:ar)(xZ:w.heap[cp]?=some (aw #[lv] 25 (0,0)))(hl:Reads w lv pl.length (pl.map (aB ag))) :
  bu aq 164 #[aR (b.cells bq aK aA),pv cp 0] w fun e w'=>e=aF (ah ag 0)/\az w.heap.size w w':=by
 have b1:az w.heap.size w (w.alloc (aw (b.cells bq aK aA) 119)):=(au _ _).alloc (ax _) _;have lp:=(ai.1 xZ).1;have x1:=aJ ((b1.block _ lp).trans xZ) 0 _ rfl;have VY:=aj (qB b hb bq aK aA lv pl hp _ (hl.below b1));have yL:=aj b1;clear xZ hl hp b1
 go_enter Tryz.func164,Tryz.ntmps164
 go_wp2_with (go_at_call 113;refine VY.out.mono ?_;clear VY;rintro e w1 ⟨rfl,hb1⟩;have px:=aj hb1;clear hb1)
 go_ret
 exact⟨rfl,yL.out.trans (px.out.mono yL.out.size)⟩
def BB.dep(b:BB)(d:Int):BB:={ b with depth:=d }
theorem BB.abl{b:BB}(h:b.Ok){d:Int}(h1:0<=d)(h2:d<=99):(b.dep d).Ok:=⟨h.room,⟨h1,h2⟩,h.least,h.minutes,h.cD,h.iL,h.eh,h.ie,h.leak,h.IU⟩
def oM(b:BB)(all:List eN)(p:Nat):Nat->Option Nat
 |0=>none
 |n+1=>if (b.dep n).sure all p then some n else oM b all p n
def Y7(o:Option Nat):ak × Bool:=match o with|some n=>(ah ag n,true)|none=>(ah ag 0,false)
theorem O6(b:BB)(bq aK aA:ak)(ml:List Mn)(ss:List Int)(ms:List Mk)(w:ar)(hL:Laid w)(hB:cU b bq aK aA ml ss ms w)(hne:bw b ml ss ms≠[])(pl:List Int)(hp:eU b pl)(lv:ak)(hl:Reads w lv pl.length (pl.map (aB ag))) :
  bu aq 25 #[aR (b.cells bq aK aA),lv] w fun e w'=>e=aF (cO #[(Y7 (oM b (bw b ml ss ms) (bD pl) 100)).1,aH (Y7 (oM b (bw b ml ss ms) (bD pl) 100)).2,ah ag 0])/\az w.heap.size w w':=by
 have hlen:=jE ss ms hB.ok hB.gZ;have kC:0<(bw b ml ss ms).length:=dm.2 hne;have cY:=hB.ok;have hao:=nZ (ss:=ss) (ms:=ms) hB.ok hB.gZ;have xW:=cY.minutes;have nW:∀s∈pl,1<=s/\s<=8:=fun s h=>by have:=hp.mem s h;omega
 have Jp:bD pl<512:=mA pl nW;obtain⟨pm,cm,rfl,_⟩:=aW hB.rm;obtain⟨pn,cn,rfl,_⟩:=aW hB.rs;obtain⟨pk,ck,rfl,_⟩:=aW hB.rk;obtain⟨qy,qL,rfl,_⟩:=aW hl;have b1:az w.heap.size w (w.alloc (aw (b.cells (ae pm ml.length cm) (ae pn ss.length cn) (ae pk ms.length ck)) 28)):=(au _ _).alloc (ax _) _;have hk:=ay w (aw (b.cells (ae pm ml.length cm) (ae pn ss.length cn) (ae pk ms.length ck)) 28)
 have Vx:Hid (∀W cp,az w.heap.size w W->W.heap[cp]?=some (aw #[ae qy pl.length qL] 25 (0,0))->bu aq 103 #[aR (b.cells (ae pm ml.length cm) (ae pn ss.length cn) (ae pk ms.length ck)),.func (.func 164) #[] #[pv cp 0]] W fun e w'=>∃v,e=aF (cO #[aR (b.open (ae pm ml.length cm) (ae pn ss.length cn) (ae pk ms.length ck) v),ah ag 0])/\gY w' W.heap.size v (bw b ml ss ms)/\az W.heap.size W w'):=
  aj fun W cp J9 Uo=>Dr b _ _ _ ml ss ms W (hL.below J9) (hB.below J9) hne cp fun W' hb'=>by
   have hlt:=(ai.1 Uo).1;exact DF b cY _ _ _ pl hp cp _ W' ((hb'.block _ hlt).trans Uo) ((hl.below J9).below hb')
 have Kb:=aj hl;have Sz:=aj hao;have Yh:=aj nW;clear hL hB hl hao hp nW;generalize bw b ml ss ms=all at *;generalize ml.length=lm at *;generalize ss.length=ln at *;generalize ms.length=lk at *
 go_enter Tryz.func25,Tryz.ntmps25
 go_wp2
 refine bY (by kernel_rfl) [
 pV (aR (b.cells (ae pm lm cm) (ae pn ln cn) (ae pk lk ck))),
  pV (ae qy pl.length qL),
  fun v ds w9=>∃cp,v=.func (.func 164) #[] #[pv cp 0]/\w9.heap[cp]?=some (aw #[ae qy pl.length qL] 25 (0,0)),
  fun v ds w9=>∃gv cv,v=cO #[aR (b.open (ae pm lm cm) (ae pn ln cn) (ae pk lk ck) (ae (some ⟨gv,0,none⟩) all.length cv)),ah ag 0]/\gY w9 w.heap.size (ae (some ⟨gv,0,none⟩) all.length cv) all,
  fun v ds w9=>∃gv cv,v=cO #[aR (b.open (ae pm lm cm) (ae pn ln cn) (ae pk lk ck) (ae (some ⟨gv,0,none⟩) all.length cv)),ah ag 0]/\gY w9 w.heap.size (ae (some ⟨gv,0,none⟩) all.length cv) all,
  fun v ds w9=>∃gv cv,v=aR (b.open (ae pm lm cm) (ae pn ln cn) (ae pk lk ck) (ae (some ⟨gv,0,none⟩) all.length cv))/\gY w9 w.heap.size (ae (some ⟨gv,0,none⟩) all.length cv) all,
  pV (ah ag 0),
  fun v ds w9=>∃k,∃z:Array ak,v=pv k 0/\w.heap.size+1<=k/\w9.heap[k]?=some (aw z 122 (0,0))/\z.size=16,
  fun v ds w9=>∃k gv cv,ds[0]?=some (pv k 0)/\w.heap.size+1<=k/\w9.heap[k]?=some (aw (b.open (ae pm lm cm) (ae pn ln cn) (ae pk lk ck) (ae (some ⟨gv,0,none⟩) all.length cv)) 122 (0,0))/\gY w9 w.heap.size (ae (some ⟨gv,0,none⟩) all.length cv) all,
  pV (ah ag 0)]
  (fun w9=>w9.heap[w.heap.size]?=some (aw (b.cells (ae pm lm cm) (ae pn ln cn) (ae pk lk ck)) 28 (0,0))/\az w.heap.size w w9) [(2,pv w.heap.size 0),(1,ae qy pl.length qL)] (by kernel_rfl) ?rst (fun w1 w2 h hb=>⟨(hb.block _ (ai.1 h.1).1).trans h.1,h.2.trans (hb.mono h.2.size)⟩) (⟨hk,b1.drew⟩) ⟨rfl,rfl,trivial⟩ ?reach ?rfin
 case rst=>
  refine⟨sV,sV,?_,?_,?_,?_,sV,?_,?_,sV,trivial⟩
  .rintro v ds w1 w2 hS ⟨cp,h1,h2⟩ hb;exact⟨cp,h1,(hb.block _ (ai.1 h2).1).trans h2⟩
  .rintro v ds w1 w2 hS ⟨gv,cv,h1,h2⟩ hb;exact⟨gv,cv,h1,h2.at_ fun g hg=>hb.block g (h2.1.lt g hg).2⟩
  .rintro v ds w1 w2 hS ⟨gv,cv,h1,h2⟩ hb;exact⟨gv,cv,h1,h2.at_ fun g hg=>hb.block g (h2.1.lt g hg).2⟩
  .rintro v ds w1 w2 hS ⟨gv,cv,h1,h2⟩ hb;exact⟨gv,cv,h1,h2.at_ fun g hg=>hb.block g (h2.1.lt g hg).2⟩
  .rintro v ds w1 w2 hS ⟨k,z,h1,h2,h3,h4⟩ hb;exact⟨k,z,h1,h2,(hb.block _ (ai.1 h3).1).trans h3,h4⟩
  rintro v ds w1 w2 hS ⟨k,gv,cv,h1,h0,h3,h2⟩ hb;exact⟨k,gv,cv,h1,h0,(hb.block _ (ai.1 h3).1).trans h3,h2.at_ fun g hg=>hb.block g (h2.1.lt g hg).2⟩
 case reach=>
  refine⟨?_,?_,?_,?_,?_,?_,?_,?_,?_,?_,trivial⟩<;>rintro ev w1 hS hc hg hf ⟨b2,b1,-⟩ hd
  .clear hd;obtain⟨x0,x1,x2,x3,x4,x5,x6,x7,x8,x9,oh,og,o6,oA,oW⟩:=bT hS.1;exact tV
  .clear hd;exact tV
  .have d1:ev (aM 10)=_:=hd.1 rfl;clear hd;refine Lag.Yields.call (f:=104) (args:=#[ae qy pl.length qL]) ?_ (JQ _ _ _ _) ?_
   .go_simp
   rintro e w2 ⟨rfl,rfl⟩;exact⟨_,rfl,⟨_,rfl,ay _ _⟩,cK ((au _ _).alloc (ax _) _)⟩
  .have d0:ev (aM 9)=_:=hd.1 rfl;obtain⟨cp,FU,xZ⟩:=hd.2.1 rfl;clear hd;replace FU:ev (aM 11)=_:=FU;refine Lag.Yields.call (f:=103) (args:=#[aR (b.cells (ae pm lm cm) (ae pn ln cn) (ae pk lk ck)),.func (.func 164) #[] #[pv cp 0]]) ?_ (Vx.out w1 cp hS.2 xZ) ?_
   .go_simp
   rintro e w2 ⟨v,rfl,jn,hb⟩
   obtain⟨gv,cv,rfl⟩:∃gv cv,v=ae (some ⟨gv,0,none⟩) all.length cv:=by
    rcases jn.1.2 with⟨_,h0⟩|⟨g,cap,cur,rfl,_⟩
    .omega
    exact⟨g,cap,rfl⟩
   exact⟨_,rfl,⟨gv,cv,rfl,jn.base hS.2.size⟩,cK hb⟩
  .exact yv rfl (hd.1 rfl)
  .obtain⟨gv,cv,e11,jn⟩:=hd.1 rfl;clear hd;replace e11:ev (aM 8)=_:=e11;refine yv ?_ (⟨gv,cv,rfl,jn⟩);go_simp
  .obtain⟨gv,cv,e11,jn⟩:=hd.1 rfl;clear hd;replace e11:ev (aM 8)=_:=e11;exact tV
  .clear hd;refine Lag.Yields.value (v:=pv w1.heap.size 0) (w':=w1.alloc (aw iu 122)) ?_ ⟨⟨_,_,rfl,(ai.1 hS.1).1,ay _ _,rfl⟩,cK ((au _ _).alloc (ax _) _)⟩;go_simp
  .obtain⟨k,z,e6,qG,hk2,hz⟩:=hd.1 rfl;replace e6:ev (aM 7)=_:=e6;obtain⟨gv,cv,Ow,jn⟩:=hd.2.1 rfl;clear hd;replace Ow:ev (aM 13)=_:=Ow;have Dv:∀g cs t,w1.heap[g]?=some (aw cs t (0,0))->t≠122->g≠k:=by rintro g cs t h1 h2 rfl;rw[hk2] at h1;cases h1;exact h2 rfl
   have EJ:∀(v:ak),gY w1 w.heap.size v all->gY (w1.setRow k (b.open (ae pm lm cm) (ae pn ln cn) (ae pk lk ck) (ae (some ⟨gv,0,none⟩) all.length cv))) w.heap.size v all:=fun v ho=>ho.at_ fun g hg=>setRow_other (by
    obtain⟨cur,q1,_⟩:=ho.2 g hg
    exact Dv g _ _ q1 (by decide))
   refine Lag.Yields.lN 122 _ _ rfl k _ e6 Ow 122 z hk2 (by kernel_rfl) hz (by simp[cj]) ⟨⟨k,gv,cv,congrArg some e6,qG,cV hk2,EJ _ jn⟩,.inr ⟨⟨(setRow_other (by omega)).trans hS.1,dv hS.2 (by omega)⟩,?_⟩⟩;intro j u ds hj hp
   match j,hp with
   |0,hp=>exact hp
   |1,hp=>exact hp
   |2,⟨cp,h1,h2⟩=>exact⟨cp,h1,(setRow_other (Dv _ _ _ h2 (by decide))).trans h2⟩
   |3,⟨ES,E7,h1,h2⟩=>exact⟨ES,E7,h1,EJ _ h2⟩
   |4,⟨ES,E7,h1,h2⟩=>exact⟨ES,E7,h1,EJ _ h2⟩
   |5,⟨ES,E7,h1,h2⟩=>exact⟨ES,E7,h1,EJ _ h2⟩
   |6,hp=>exact hp
   |7,⟨k',z',h1,h2,h3,h4⟩=>
    by_cases sA:k'=k
    .subst sA;exact⟨k',_,h1,h2,cV h3,rfl⟩
    exact⟨k',z',h1,h2,(setRow_other sA).trans h3,h4⟩
   |8,_=>exact(hj rfl).elim
   |9,hp=>exact hp
   |j+10,_=>trivial
  have d6:ev (aM 14)=_:=hd.1 rfl;clear hd;refine yv (v:=ev (aM 14)) ?_ (d6);rfl
 case rfin=>
  intro a2 w2 hR;have hS:=hR.s;obtain⟨k,gv,cv,U2,qG,hk2,jn⟩:=hR.val 8 (by decide);have e9:a2.tmps.getD 6 af=_:=hR.val 9 (by decide);have ha:=hR.lits 42 rfl;simp only[aU,cg,nD] at ha;rw[hR.kp 1 (by kernel_rfl),hR.kp 2 (by kernel_rfl),hR.kp 4 (by kernel_rfl),hR.kp 5 (by kernel_rfl)] at ha;simp only[kO,gp,gi] at ha;clear hR;have e6:a2.tmps.getD 7 af=pv k 0:=bj U2;rw[e6,e9] at ha;generalize a2.tmps.getD=zz at ha;clear e6 U2 e9;subst ha;have tq:=hS.1;have r5:=hS.2;clear hS;have y1:=aJ hk2 1 _ rfl;have f1:=dg hk2 1
  have YN:gv≠k:=by
   obtain⟨cur,q1,_⟩:=jn.2 gv rfl;rintro rfl;rw[hk2] at q1;cases q1
  have GG:=aj hk2;have MR:=aj jn;have FH:=aj r5;clear hk2 jn r5 tq hk b1 Vx;go_wp2
  go_loopw [24] (fun _ wr=>∃n:Nat,n<=100/\wr.heap[k]?=some (aw ((b.dep ((n:Int)-1)).open (ae pm lm cm) (ae pn ln cn) (ae pk lk ck) (ae (some ⟨gv,0,none⟩) all.length cv)) 122 (0,0))/\gY wr w.heap.size (ae (some ⟨gv,0,none⟩) all.length cv) all/\az w.heap.size w wr/\oM b all (bD pl) 100=oM b all (bD pl) n) (fun _ wr=>(intOf ((wr.cell? ⟨k,1,none⟩).getD af)+1).toNat)
  case atStart=>
   refine⟨100,by omega,dh _ GG.out,MR.out.at_ fun g hg=>bt _ _ _ _ ?_,FH.out.setCell (p:=⟨k,1,none⟩) (by show _<=k;omega) _,rfl⟩;have:g=gv:=by simpa [jq] using hg.symm
   subst this;exact YN
  case round=>
   obtain⟨n,hn,Xv,jn,r5,LG⟩:=hrel;have z1:=aJ Xv 1 _ rfl;have f1:=dg Xv 1;have zG:=(ai.1 Xv).1
   by_cases h0:0<n
   .obtain⟨m,rfl⟩:∃m,n=m+1:=⟨n-1,by omega⟩
    have hd:(b.dep (((m+1:Nat):Int)-1))=b.dep m:=by congr 1;omega
    have hz:(((m+1:Nat):Int)-1)=m:=by omega
    rw[hz] at Xv z1;have z2:wr.cell? ⟨k,1,none⟩=some (ah ag m):=z1;clear z1 hz hd;have hSu:=fun W (hb:az wr.heap.size wr W)=>xI (b.dep m) (BB.abl cY (by omega) (by omega)) (ae pm lm cm) (ae pn ln cn) (ae pk lk ck) (ae (some ⟨gv,0,none⟩) all.length cv) all Sz.out (bD pl) Jp W ((jn.reads (by omega)).below hb);have HSu:=aj hSu
    have GF:Hid (∀w9,az wr.heap.size wr w9->w9.heap[k]?=some (aw ((b.dep m).open (ae pm lm cm) (ae pn ln cn) (ae pk lk ck) (ae (some ⟨gv,0,none⟩) all.length cv)) 122 (0,0))/\Reads w9 (ae qy pl.length qL) pl.length (pl.map (aB ag))):=aj fun w9 Od=>
     ⟨(Od.block _ zG).trans Xv,Kb.out.below (r5.trans (Od.mono r5.size))⟩
    have hdp:oM b all (bD pl) (m+1)=if (b.dep m).sure all (bD pl) then some m else oM b all (bD pl) m:=rfl
    rw[hdp] at LG;have HDe:=aj LG;have HOr:=aj jn;have HKr:=aj Xv;have HBr:=aj r5;clear hSu LG hdp jn Xv r5;obtain⟨r,hr⟩:∃r,(b.dep m).sure all (bD pl)=r:=⟨_,rfl⟩
    rw[hr] at HSu HDe;clear hr;go_wp2
    refine bY (by kernel_rfl) [
    pV (aR ((b.dep m).open (ae pm lm cm) (ae pn ln cn) (ae pk lk ck) (ae (some ⟨gv,0,none⟩) all.length cv))),
     pV (ae qy pl.length qL),
     pV (ah ag (bD pl)),
     pV (aH r)]
     (fun w9=>az wr.heap.size wr w9) [(1,ae qy pl.length qL),(7,pv k 0)] (by kernel_rfl) ?rst (fun w1 w2 h hb=>h.trans (hb.mono h.size)) ((au _ _).drew) ⟨rfl,rfl,trivial⟩ ?reach ?rfin
    case rst=>
     refine⟨sV,sV,sV,sV,trivial⟩
    case reach=>
     refine⟨?_,?_,?_,?_,trivial⟩<;>rintro ev w1 hS hc hg hf ⟨b1,b7,-⟩ hd
     .clear hd;have q:=GF.out w1 hS;refine Lag.Yields.zy 122 _ rfl k b7 122 _ (0,0) _ q.1 jd rfl (by kernel_rfl) ⟨rfl,cK (au _ _)⟩
     .clear hd;exact tV
     .have d1:ev (aM 35)=_:=hd.1 rfl;clear hd;have q:=GF.out w1 hS;refine yq (args:=#[ae qy pl.length qL]) (kx pl Yh.out _ _ q.2) ?_ fun _=>rfl;go_simp
     have d0:ev (aM 34)=_:=hd.1 rfl;have d2:ev (aM 36)=_:=hd.2.1 rfl;clear hd;refine yc (HSu.out w1 hS) ?_ fun _=>rfl;go_simp
    case rfin=>
     intro a3 w3 hR;have hS:=hR.s;have e3:a3.tmps.getD 37 af=_:=hR.val 3 (by decide);have ha:=hR.lits 42 rfl;simp only[aU,cg,nD] at ha;rw[hR.kp 0 (by kernel_rfl),hR.kp 1 (by kernel_rfl),hR.kp 2 (by kernel_rfl),hR.kp 3 (by kernel_rfl),hR.kp 7 (by kernel_rfl),hR.kp 8 (by kernel_rfl),hR.kp 9 (by kernel_rfl),hR.kp 10 (by kernel_rfl),hR.kp 11 (by kernel_rfl),hR.kp 12 (by kernel_rfl),hR.kp 13 (by kernel_rfl),hR.kp 14 (by kernel_rfl),hR.kp 15 (by kernel_rfl),hR.kp 16 (by kernel_rfl),hR.kp 17 (by kernel_rfl),hR.kp 18 (by kernel_rfl),hR.kp 19 (by kernel_rfl),hR.kp 20 (by kernel_rfl)] at ha;simp only[kO,gp,gi] at ha;clear hR;rw[e3] at ha;generalize a3.tmps.getD=zz at ha;have pJ:=aj hS;clear e3 hS;subst ha;have q1:=(pJ.out.block _ zG).trans HKr.out;have x1:w3.cell? ⟨k,1,none⟩=some (ah ag m):=aJ q1 1 _ rfl;have x2:=dg q1 1;have HQ:=aj q1;clear q1;cases r
     .have zz:IntKind.i64.wrap ((m:Int)-1)=(m:Int)-1:=by rw[IntKind.wrap_i64];omega
      go_wp2;have q2:=dh (i:=1) (ah ag ((m:Int)-1)) HQ.out;have x3:=aJ q2 1 (ah ag ((m:Int)-1)) rfl;refine⟨⟨m,by omega,q2,(HOr.out.old (Old.of_below pJ.out)).at_ fun g hg=>bt _ _ _ _ ?_,(HBr.out.trans (pJ.out.mono HBr.out.size)).setCell (p:=⟨k,1,none⟩) (by show _<=k;omega) _,by rw[HDe.out];simp⟩,?_⟩
      .have:g=gv:=by simpa [jq] using hg.symm
       subst this;exact YN
      rw[x3,z2];simp[intOf]
     go_wp2
     go_ret3
     exact⟨by rw[HDe.out];rfl,HBr.out.trans (pJ.out.mono HBr.out.size)⟩
   obtain rfl:n=0:=by omega
   have hz:(((0:Nat):Int)-1) = -1:=by omega
   rw[hz] at Xv z1;have z2:wr.cell? ⟨k,1,none⟩=some (ah ag (-1)):=z1;have HDe:=aj LG;have HBr:=aj r5;clear Xv z1 LG r5 jn hz;go_wp2
   go_ret3
   exact⟨by rw[HDe.out];rfl,HBr.out⟩
def pQ(n L:Nat):Int:=if n=0 then 2 else if n=L then 1 else 0
def LL(b:BB)(all:List eN)(p:Nat):Nat:=all.countP fun a=>decide (b.bad (b.cD+a.used) p=0)
theorem Mg{α:Type}(f:α->Bool)(l:List α){k:Nat}(h:k<l.length):(l.take (k+1)).countP f=(l.take k).countP f+(if f l[k] then 1 else 0):=by
 rw[bN h,List.countP_append,List.countP_singleton]
theorem Qm(b:BB)(bq aK aA:ak)(ml:List Mn)(ss:List Int)(ms:List Mk)(w:ar)(hL:Laid w)(hB:cU b bq aK aA ml ss ms w)(hne:bw b ml ss ms≠[])(pl:List Int)(hp:eU b pl)(lv:ak)(hl:Reads w lv pl.length (pl.map (aB ag))) :
  bu aq 44 #[aR (b.cells bq aK aA),lv] w fun e w'=>e=aF (cO #[ah ag (pQ (LL b (bw b ml ss ms) (bD pl)) (bw b ml ss ms).length),ah ag 0])/\az w.heap.size w w':=by
 have hlen:=jE ss ms hB.ok hB.gZ;have kC:0<(bw b ml ss ms).length:=dm.2 hne;have cY:=hB.ok;have hao:=nZ (ss:=ss) (ms:=ms) hB.ok hB.gZ;have xW:=cY.minutes;have nW:∀s∈pl,1<=s/\s<=8:=fun s h=>by have:=hp.mem s h;omega
 have Jp:bD pl<512:=mA pl nW;obtain⟨pm,cm,rfl,_⟩:=aW hB.rm;obtain⟨pn,cn,rfl,_⟩:=aW hB.rs;obtain⟨pk,ck,rfl,_⟩:=aW hB.rk;obtain⟨qy,qL,rfl,_⟩:=aW hl;have b1:az w.heap.size w (w.alloc (aw (b.cells (ae pm ml.length cm) (ae pn ss.length cn) (ae pk ms.length ck)) 28)):=(au _ _).alloc (ax _) _;have hk:=ay w (aw (b.cells (ae pm ml.length cm) (ae pn ss.length cn) (ae pk ms.length ck)) 28)
 have Vx:Hid (∀W cp,az w.heap.size w W->W.heap[cp]?=some (aw #[ae qy pl.length qL] 25 (0,0))->bu aq 103 #[aR (b.cells (ae pm ml.length cm) (ae pn ss.length cn) (ae pk ms.length ck)),.func (.func 164) #[] #[pv cp 0]] W fun e w'=>∃v,e=aF (cO #[aR (b.open (ae pm ml.length cm) (ae pn ss.length cn) (ae pk ms.length ck) v),ah ag 0])/\gY w' W.heap.size v (bw b ml ss ms)/\az W.heap.size W w'):=
  aj fun W cp J9 Uo=>Dr b _ _ _ ml ss ms W (hL.below J9) (hB.below J9) hne cp fun W' hb'=>by
   have hlt:=(ai.1 Uo).1;exact DF b cY _ _ _ pl hp cp _ W' ((hb'.block _ hlt).trans Uo) ((hl.below J9).below hb')
 have Kb:=aj hl;have Sz:=aj hao;have Yh:=aj nW;clear hL hB hl hao hp nW;generalize bw b ml ss ms=all at *;generalize ml.length=lm at *;generalize ss.length=ln at *;generalize ms.length=lk at *
 go_enter Tryz.func44,Tryz.ntmps44
 go_wp2
 refine bY (by kernel_rfl) [
 pV (aR (b.cells (ae pm lm cm) (ae pn ln cn) (ae pk lk ck))),
  pV (ae qy pl.length qL),
  fun v ds w9=>∃cp,v=.func (.func 164) #[] #[pv cp 0]/\w9.heap[cp]?=some (aw #[ae qy pl.length qL] 25 (0,0)),
  fun v ds w9=>∃gv cv,v=cO #[aR (b.open (ae pm lm cm) (ae pn ln cn) (ae pk lk ck) (ae (some ⟨gv,0,none⟩) all.length cv)),ah ag 0]/\gY w9 w.heap.size (ae (some ⟨gv,0,none⟩) all.length cv) all,
  fun v ds w9=>∃gv cv,v=cO #[aR (b.open (ae pm lm cm) (ae pn ln cn) (ae pk lk ck) (ae (some ⟨gv,0,none⟩) all.length cv)),ah ag 0]/\gY w9 w.heap.size (ae (some ⟨gv,0,none⟩) all.length cv) all,
  fun v ds w9=>∃gv cv,v=aR (b.open (ae pm lm cm) (ae pn ln cn) (ae pk lk ck) (ae (some ⟨gv,0,none⟩) all.length cv))/\gY w9 w.heap.size (ae (some ⟨gv,0,none⟩) all.length cv) all,
  pV (ah ag 0),
  fun v ds w9=>∃k,∃z:Array ak,v=pv k 0/\w.heap.size+1<=k/\w9.heap[k]?=some (aw z 122 (0,0))/\z.size=16,
  fun v ds w9=>∃k gv cv,ds[0]?=some (pv k 0)/\w.heap.size+1<=k/\w9.heap[k]?=some (aw (b.open (ae pm lm cm) (ae pn ln cn) (ae pk lk ck) (ae (some ⟨gv,0,none⟩) all.length cv)) 122 (0,0))/\gY w9 w.heap.size (ae (some ⟨gv,0,none⟩) all.length cv) all,
  pV (ah ag 0)]
  (fun w9=>w9.heap[w.heap.size]?=some (aw (b.cells (ae pm lm cm) (ae pn ln cn) (ae pk lk ck)) 28 (0,0))/\az w.heap.size w w9) [(2,pv w.heap.size 0),(1,ae qy pl.length qL)] (by kernel_rfl) ?rst (fun w1 w2 h hb=>⟨(hb.block _ (ai.1 h.1).1).trans h.1,h.2.trans (hb.mono h.2.size)⟩) (⟨hk,b1.drew⟩) ⟨rfl,rfl,trivial⟩ ?reach ?rfin
 case rst=>
  refine⟨sV,sV,?_,?_,?_,?_,sV,?_,?_,sV,trivial⟩
  .rintro v ds w1 w2 hS ⟨cp,h1,h2⟩ hb;exact⟨cp,h1,(hb.block _ (ai.1 h2).1).trans h2⟩
  .rintro v ds w1 w2 hS ⟨gv,cv,h1,h2⟩ hb;exact⟨gv,cv,h1,h2.at_ fun g hg=>hb.block g (h2.1.lt g hg).2⟩
  .rintro v ds w1 w2 hS ⟨gv,cv,h1,h2⟩ hb;exact⟨gv,cv,h1,h2.at_ fun g hg=>hb.block g (h2.1.lt g hg).2⟩
  .rintro v ds w1 w2 hS ⟨gv,cv,h1,h2⟩ hb;exact⟨gv,cv,h1,h2.at_ fun g hg=>hb.block g (h2.1.lt g hg).2⟩
  .rintro v ds w1 w2 hS ⟨k,z,h1,h2,h3,h4⟩ hb;exact⟨k,z,h1,h2,(hb.block _ (ai.1 h3).1).trans h3,h4⟩
  rintro v ds w1 w2 hS ⟨k,gv,cv,h1,h0,h3,h2⟩ hb;exact⟨k,gv,cv,h1,h0,(hb.block _ (ai.1 h3).1).trans h3,h2.at_ fun g hg=>hb.block g (h2.1.lt g hg).2⟩
 case reach=>
  refine⟨?_,?_,?_,?_,?_,?_,?_,?_,?_,?_,trivial⟩<;>rintro ev w1 hS hc hg hf ⟨b2,b1,-⟩ hd
  .clear hd;obtain⟨x0,x1,x2,x3,x4,x5,x6,x7,x8,x9,oh,og,o6,oA,oW⟩:=bT hS.1;exact tV
  .clear hd;exact tV
  .have d1:ev (aM 13)=_:=hd.1 rfl;clear hd;refine Lag.Yields.call (f:=104) (args:=#[ae qy pl.length qL]) ?_ (JQ _ _ _ _) ?_
   .go_simp
   rintro e w2 ⟨rfl,rfl⟩;exact⟨_,rfl,⟨_,rfl,ay _ _⟩,cK ((au _ _).alloc (ax _) _)⟩
  .have d0:ev (aM 12)=_:=hd.1 rfl;obtain⟨cp,FU,xZ⟩:=hd.2.1 rfl;clear hd;replace FU:ev (aM 14)=_:=FU;refine Lag.Yields.call (f:=103) (args:=#[aR (b.cells (ae pm lm cm) (ae pn ln cn) (ae pk lk ck)),.func (.func 164) #[] #[pv cp 0]]) ?_ (Vx.out w1 cp hS.2 xZ) ?_
   .go_simp
   rintro e w2 ⟨v,rfl,jn,hb⟩
   obtain⟨gv,cv,rfl⟩:∃gv cv,v=ae (some ⟨gv,0,none⟩) all.length cv:=by
    rcases jn.1.2 with⟨_,h0⟩|⟨g,cap,cur,rfl,_⟩
    .omega
    exact⟨g,cap,rfl⟩
   exact⟨_,rfl,⟨gv,cv,rfl,jn.base hS.2.size⟩,cK hb⟩
  .exact yv rfl (hd.1 rfl)
  .obtain⟨gv,cv,e11,jn⟩:=hd.1 rfl;clear hd;replace e11:ev (aM 11)=_:=e11;refine yv ?_ (⟨gv,cv,rfl,jn⟩);go_simp
  .obtain⟨gv,cv,e11,jn⟩:=hd.1 rfl;clear hd;replace e11:ev (aM 11)=_:=e11;exact tV
  .clear hd;refine Lag.Yields.value (v:=pv w1.heap.size 0) (w':=w1.alloc (aw iu 122)) ?_ ⟨⟨_,_,rfl,(ai.1 hS.1).1,ay _ _,rfl⟩,cK ((au _ _).alloc (ax _) _)⟩;go_simp
  .obtain⟨k,z,e6,qG,hk2,hz⟩:=hd.1 rfl;replace e6:ev (aM 6)=_:=e6;obtain⟨gv,cv,Ow,jn⟩:=hd.2.1 rfl;clear hd;replace Ow:ev (aM 16)=_:=Ow;have Dv:∀g cs t,w1.heap[g]?=some (aw cs t (0,0))->t≠122->g≠k:=by rintro g cs t h1 h2 rfl;rw[hk2] at h1;cases h1;exact h2 rfl
   have EJ:∀(v:ak),gY w1 w.heap.size v all->gY (w1.setRow k (b.open (ae pm lm cm) (ae pn ln cn) (ae pk lk ck) (ae (some ⟨gv,0,none⟩) all.length cv))) w.heap.size v all:=fun v ho=>ho.at_ fun g hg=>setRow_other (by
    obtain⟨cur,q1,_⟩:=ho.2 g hg
    exact Dv g _ _ q1 (by decide))
   refine Lag.Yields.lN 122 _ _ rfl k _ e6 Ow 122 z hk2 (by kernel_rfl) hz (by simp[cj]) ⟨⟨k,gv,cv,congrArg some e6,qG,cV hk2,EJ _ jn⟩,.inr ⟨⟨(setRow_other (by omega)).trans hS.1,dv hS.2 (by omega)⟩,?_⟩⟩;intro j u ds hj hp
   match j,hp with
   |0,hp=>exact hp
   |1,hp=>exact hp
   |2,⟨cp,h1,h2⟩=>exact⟨cp,h1,(setRow_other (Dv _ _ _ h2 (by decide))).trans h2⟩
   |3,⟨ES,E7,h1,h2⟩=>exact⟨ES,E7,h1,EJ _ h2⟩
   |4,⟨ES,E7,h1,h2⟩=>exact⟨ES,E7,h1,EJ _ h2⟩
   |5,⟨ES,E7,h1,h2⟩=>exact⟨ES,E7,h1,EJ _ h2⟩
   |6,hp=>exact hp
   |7,⟨k',z',h1,h2,h3,h4⟩=>
    by_cases sA:k'=k
    .subst sA;exact⟨k',_,h1,h2,cV h3,rfl⟩
    exact⟨k',z',h1,h2,(setRow_other sA).trans h3,h4⟩
   |8,_=>exact(hj rfl).elim
   |9,hp=>exact hp
   |j+10,_=>trivial
  have d6:ev (aM 17)=_:=hd.1 rfl;clear hd;refine yv (v:=ev (aM 17)) ?_ (d6);rfl
 case rfin=>
  intro a2 w2 hR;have hS:=hR.s;obtain⟨k,gv,cv,U2,qG,hk2,jn⟩:=hR.val 8 (by decide);have e9:a2.tmps.getD 7 af=_:=hR.val 9 (by decide);have ha:=hR.lits 46 rfl;simp only[aU,cg,nD] at ha;rw[hR.kp 1 (by kernel_rfl),hR.kp 2 (by kernel_rfl)] at ha;simp only[kO,gp,gi] at ha;clear hR;have e6:a2.tmps.getD 6 af=pv k 0:=bj U2;rw[e6,e9] at ha;generalize a2.tmps.getD=zz at ha;clear e6 U2 e9;subst ha;have tq:=hS.1;have r5:=hS.2;clear hS;have Il:=aJ hk2 15 _ rfl;have Cp:=jn.reads (by omega)
  have HC:Hid (∀j u,(rowOf all)[j]?=some u->w2.cell? ⟨gv,0+j,none⟩=some u):=aj (by
   rcases Cp with⟨h0,_⟩|⟨g,off,cap,h0,_,_,h1⟩
   .cases h0
   cases h0;exact h1)
  have Cq:=(jn.1.lt gv rfl).2;have zG:=(ai.1 hk2).1;have HK:=aj hk2;have HB:=aj tq;have FH:=aj r5;have MR:=aj jn;clear hk2 Cp tq r5 jn hk b1 Vx;generalize hL:all.length=L at *;have HL:=aj hL;clear hL;go_wp2
  go_loopw [8,10,24] (fun n _ i wr=>∃j:Nat,j<=L/\i=ah ag j/\n=ah ag ((all.take j).countP fun a=>decide (b.bad (b.cD+a.used) (bD pl)=0):Nat)/\az w2.heap.size w2 wr) (fun _ _ i _=>L-(intOf i).toNat)
  case atStart=>exact⟨0,by omega,rfl,rfl,au _ _⟩
  case round=>
   obtain⟨j,hj,rfl,rfl,en⟩:=hrel;have hsz:=en.size
   have hcj:(all.take j).countP (fun a=>decide (b.bad (b.cD+a.used) (bD pl)=0))<=j:=by
    refine aO List.countP_le_length ?_;rw[List.length_take];omega
   by_cases hlt:j<L
   .have Js:j<all.length:=by rw[HL.out];exact hlt
    obtain⟨c0,c1,c2,c3⟩:=Reads.cell (w:=wr) (cap:=cv) (n:=L) (fun i u hi=>(en.cell (p:=⟨gv,0+i,none⟩) Cq).trans (HC.out i u hi)) j Js;simp only[di] at c0 c1 c2 c3;have VP:(all.take (j+1)).countP (fun a=>decide (b.bad (b.cD+a.used) (bD pl)=0))=(all.take j).countP (fun a=>decide (b.bad (b.cD+a.used) (bD pl)=0))+(if b.bad (b.cD+all[j].used) (bD pl)=0 then 1 else 0):=by rw[Mg _ all Js];simp
    have Uw:=fun W=>JS b cY (ae pm lm cm) (ae pn ln cn) (ae pk lk ck) all[j] (Sz.out _ (bV Js)) (bD pl) Jp W;have J3:=aj VP;have HBa:=aj Uw;have xC:=aj en
    have GF:Hid (∀w9,az (wr.alloc (aw all[j].cells 134)).heap.size (wr.alloc (aw all[j].cells 134)) w9->w9.heap[k]?=some (aw (b.open (ae pm lm cm) (ae pn ln cn) (ae pk lk ck) (ae (some ⟨gv,0,none⟩) L cv)) 122 (0,0))/\w9.heap[wr.heap.size]?=some (aw all[j].cells 134 (0,0))/\Reads w9 (ae qy pl.length qL) pl.length (pl.map (aB ag))):=aj fun w9 Od=>by
     have hs:(wr.alloc (aw all[j].cells 134)).heap.size=wr.heap.size+1:=by simp
     have hb0:az wr.heap.size wr (wr.alloc (aw all[j].cells 134)):=(au _ _).alloc (ax _) _;have tN:=FH.out.size;exact⟨(Od.block _ (by omega)).trans ((hb0.block _ (by omega)).trans ((en.block _ zG).trans HK.out)),(Od.block _ (by omega)).trans (ay wr _),Kb.out.below (FH.out.trans ((en.mono tN).trans ((hb0.mono (by omega)).trans (Od.mono (by omega)))))⟩
    clear VP Uw en;generalize all[j]=a at *;generalize zI:b.bad (b.cD+a.used) (bD pl)=bd at *;obtain⟨r,hr⟩:∃r,(bd==0)=r:=⟨_,rfl⟩
    go_wp2
    refine bY (by kernel_rfl) [
    pV (pv k 0),
     pV (aR (b.cells (ae pm lm cm) (ae pn ln cn) (ae pk lk ck))),
     pV (aR a.cells),
     pV (ae qy pl.length qL),
     pV (ah ag (bD pl)),
     pV (ah ag bd),
     pV (aH r)]
     (fun w9=>az (wr.alloc (aw a.cells 134)).heap.size (wr.alloc (aw a.cells 134)) w9) [(1,ae qy pl.length qL),(6,pv k 0),(10,pv wr.heap.size 0)] (by kernel_rfl) ?rst (fun w1 w2 h hb=>h.trans (hb.mono h.size)) ((au _ _).drew) ⟨rfl,rfl,rfl,trivial⟩ ?reach ?rfin
    case rst=>
     refine⟨sV,sV,sV,sV,sV,sV,sV,trivial⟩
    case reach=>
     refine⟨?_,?_,?_,?_,?_,?_,?_,trivial⟩<;>rintro ev w1 hS hc hg hf ⟨b1,b6,Ss,-⟩ hd
     .clear hd;exact tV
     .have d0:ev (aM 28)=_:=hd.1 rfl;clear hd;have q:=GF.out w1 hS;obtain⟨x0,x1,x2,x3,x4,x5,x6,x7,x8,x9,oh,og,o6,oA,oW,x15⟩:=jC q.1;exact tV
     .clear hd;have q:=GF.out w1 hS;obtain⟨y0,y1,y2,y3⟩:=qo q.2.1;exact tV
     .clear hd;exact tV
     .have d3:ev (aM 31)=_:=hd.1 rfl;clear hd;have q:=GF.out w1 hS;refine yq (args:=#[ae qy pl.length qL]) (kx pl Yh.out _ _ q.2.2) ?_ fun _=>rfl;go_simp
     .have d1:ev (aM 29)=_:=hd.1 rfl;have d2:ev (aM 30)=_:=hd.2.1 rfl;have d4:ev (aM 32)=_:=hd.2.2.1 rfl;clear hd;refine yc (HBa.out w1) ?_ fun _=>rfl;go_simp
     have d5:ev (aM 33)=_:=hd.1 rfl;clear hd;exact tV
    case rfin=>
     intro a3 w3 hR;have hS:=hR.s;have e6:a3.tmps.getD 34 af=_:=hR.val 6 (by decide);have ha:=hR.lits 46 rfl;simp only[aU,cg,nD] at ha;rw[hR.kp 0 (by kernel_rfl),hR.kp 1 (by kernel_rfl),hR.kp 2 (by kernel_rfl),hR.kp 3 (by kernel_rfl),hR.kp 4 (by kernel_rfl),hR.kp 5 (by kernel_rfl),hR.kp 6 (by kernel_rfl),hR.kp 7 (by kernel_rfl),hR.kp 8 (by kernel_rfl),hR.kp 9 (by kernel_rfl),hR.kp 11 (by kernel_rfl),hR.kp 12 (by kernel_rfl),hR.kp 13 (by kernel_rfl),hR.kp 14 (by kernel_rfl),hR.kp 15 (by kernel_rfl),hR.kp 16 (by kernel_rfl),hR.kp 17 (by kernel_rfl),hR.kp 18 (by kernel_rfl),hR.kp 19 (by kernel_rfl),hR.kp 20 (by kernel_rfl),hR.kp 21 (by kernel_rfl),hR.kp 22 (by kernel_rfl),hR.kp 23 (by kernel_rfl),hR.kp 24 (by kernel_rfl),hR.kp 38 (by kernel_rfl),hR.kp 39 (by kernel_rfl),hR.kp 40 (by kernel_rfl),hR.kp 41 (by kernel_rfl),hR.kp 42 (by kernel_rfl),hR.kp 43 (by kernel_rfl),hR.kp 44 (by kernel_rfl),hR.kp 45 (by kernel_rfl)] at ha;simp only[kO,gp,gi] at ha;clear hR;rw[e6] at ha;generalize a3.tmps.getD=zz at ha;have pJ:=aj hS;clear e6 hS;subst ha;have hwr:az w2.heap.size wr w3:=((au _ wr).alloc hsz _).trans (pJ.out.mono (by simp;omega));have HWr:=aj hwr;clear hwr;generalize hc0:List.countP (fun a=>decide (b.bad (b.cD+a.used) (bD pl)=0)) (List.take j all)=cn0 at *;have HC0:=aj hc0;clear hc0;cases r
     .go_wp2;go_roundw
      case rel=>
       refine⟨j+1,by omega,by simp,?_,xC.out.trans HWr.out⟩;rw[J3.out,if_neg (by intro h;rw[h] at hr;cases hr)];simp
      case measure=>simp[intOf];omega
     go_wp2;go_roundw
     case rel=>
      refine⟨j+1,by omega,by simp,?_,xC.out.trans HWr.out⟩;rw[J3.out,if_pos (by simpa using hr)];simp
     case measure=>simp[intOf];omega
   obtain rfl:j=L:=by omega
   have NY:all.take j=all:=dp (by rw[HL.out];exact ax _);have hgn:(all.take j).countP (fun a=>decide (b.bad (b.cD+a.used) (bD pl)=0))=LL b all (bD pl):=by rw[NY];rfl
   obtain⟨gn,EM⟩:∃gn,LL b all (bD pl)=gn:=⟨_,rfl⟩
   rw[hgn,EM] at hcj;rw[hgn,EM];have HGn:=aj EM;clear EM;have xC:=aj en;have z15:=aJ ((en.block _ zG).trans HK.out) 15 _ rfl;clear hgn NY en;have pW:az w.heap.size w wr:=FH.out.trans (xC.out.mono FH.out.size);have Vy:=aj pW;clear pW
   by_cases h0:gn=0
   .subst h0;have HQ:Hid (pQ 0 j=2):=aj (by simp[pQ]);go_wp2;go_ret2;exact⟨by rw[HGn.out,HL.out,HQ.out];rfl,Vy.out⟩
   have g0:((gn:Int)==0)=false:=by simp;omega
   by_cases h1:gn=j
   .subst h1;have HQ:Hid (pQ gn gn=1):=aj (by simp[pQ,h0]);go_wp2;go_ret2;exact⟨by rw[HGn.out,HL.out,HQ.out];rfl,Vy.out⟩
   have g1:((gn:Int)==(j:Int))=false:=by simp;omega
   have HQ:Hid (pQ gn j=0):=aj (by simp[pQ,h0,h1]);go_wp2;go_ret2;exact⟨by rw[HGn.out,HL.out,HQ.out];rfl,Vy.out⟩
end Go.Proofs.YtffladgmkiimjaaGreatDoor
namespace Go.Proofs.YtffladgmkiimjaaGreatDoor
open Go.RowKit Go.Lag
open Go.Conc
section
variable{b:BB}{bq aK aA:ak}{ml:List Mn}{ss:List Int}{ms:List Mk}{W:ar}
end
def Qf(p:Nat)(W:ar)(v:ak)(W':ar):Prop:=
 ∃lv:ak,v=cO #[lv,aH true,ah ag 0]/\Reads W' lv (gV p).length ((gV p).map (aB ag))/\Old W W'
theorem UR{b:BB}{bq aK aA:ak}{ml:List Mn}{ss:List Int}{ms:List Mk}{W:ar}(hL:Laid W)(hB:cU b bq aK aA ml ss ms W)(p1:Plain W bq)(p2:Plain W aK)(p3:Plain W aA)(hne:bw b ml ss ms≠[])
  (ya:j0 b (dx ss ms).toNat (bD ss) (bw b ml ss ms) 512≠[]) (hlt:∀x∈j0 b (dx ss ms).toNat (bD ss) (bw b ml ss ms) 512,x<512) (p:Nat)
  (hp:∀x r,(x::r).Perm (j0 b (dx ss ms).toNat (bD ss) (bw b ml ss ms) 512)->jK sZ x r=p):jW aq 20 #[aR (b.cells bq aK aA)] W (Qf p W):=by
 refine kV quiet Tryz.func20 rfl ?hR ?body
 case hR=>
  rintro v W' I d ⟨lv,h1,h2,h3⟩;exact⟨lv,h1,h2,wD h3⟩
 simp only[Tryz.ntmps20,jG,iC,oy,Dk,Dj,j8,j7,jH,iw,kn,gP];refine nM quiet bp (fun a w=>a=⟨#[aR (b.cells bq aK aA),pv W.heap.size 0,ae none 0 0,aH false,ah ag 0,af,af,af,af,af],[]⟩/\Pk0 W W.heap.size (b.cells bq aK aA) 28 w) (fun I d=>?_) ?_
 .go_wp2;exact⟨Er (qi _ _),ay (dB W I d) _⟩
 rintro a W1 ⟨rfl,⟨o1,x1⟩⟩;refine kq quiet (tP quiet ?_);refine gg (i:=0) (rest:=[1,2,3,4,5,6,7]) quiet rfl rfl fun I d=>?_;refine wp_load_row 28 (aM 1) rfl W.heap.size rfl 28 _ (0,0) _ (w:=dB W1 I d) x1 cJ rfl (by kernel_rfl) ?_;have o2:Old W (dB W1 I d):=nS I d o1;have FO:=Tr (W:=dB W1 I d) 96 sZ (hL.old o2) (hB.old o2) (p1.old o2) (p2.old o2) (p3.old o2) hne ya hlt Sd;refine rr (i:=1) (rest:=[2,3,4,5,6,7]) quiet rfl rfl (f:=95) (args:=#[aR (b.cells bq aK aA),.func (.func 96) #[] #[]]) (fun w=>by kernel_rfl) FO ?_;rintro out W3 _ ⟨x,r,lv,hperm,rfl,Cp,o3⟩;rw[hp x r hperm] at Cp;have o4:=o2.trans o3;refine gg (i:=2) (rest:=[3,4,5,6,7]) quiet rfl rfl fun τ2 d2=>?_;show eH aq _ _ [3,4,5,6,7] _ _;refine gg (i:=3) (rest:=[4,5,6,7]) quiet rfl rfl fun τ3 d3=>?_;show eH aq _ _ [4,5,6,7] _ _;refine gg (i:=4) (rest:=[5,6,7]) quiet rfl rfl fun τ4 d4=>?_;show eH aq _ _ [5,6,7] _ _;refine gg (i:=5) (rest:=[6,7]) quiet rfl rfl fun τ5 d5=>?_;show eH aq _ _ [6,7] _ _;refine gg (i:=6) (rest:=[7]) quiet rfl rfl fun τ6 d6=>?_;show eH aq _ _ [7] _ _;refine gg (i:=7) (rest:=[]) quiet rfl rfl fun τ7 d7=>?_;show eH aq _ _ [] _ _;refine rq (l:=[]) quiet (fun e a w h=>by cases e<;>first|rfl|exact(h:False).elim) fun τ8 d8=>?_;refine kI quiet bp fun τ9 d9=>xN ?_;refine wp_ret ?_;refine bm (results_tmp3 rfl _ _ _) rfl ⟨_,rfl,lv,?_,Cp,⟨o4.os,o4.output,o4.size,o4.block⟩⟩
 kernel_rfl
theorem TW{b:BB}{bq aK aA:ak}{ml:List Mn}{ss:List Int}{ms:List Mk}{W:ar}(hL:Laid W)(hB:cU b bq aK aA ml ss ms W)(p1:Plain W bq)(p2:Plain W aK)(p3:Plain W aA)(hne:bw b ml ss ms≠[])
  (ya:j0 b (dx ss ms).toNat (bD ss) (bw b ml ss ms) 512≠[]) (hlt:∀x∈j0 b (dx ss ms).toNat (bD ss) (bw b ml ss ms) 512,x<512) (p:Nat)
  (hp:∀x r,(x::r).Perm (j0 b (dx ss ms).toNat (bD ss) (bw b ml ss ms) 512)->jK sY x r=p):jW aq 23 #[aR (b.cells bq aK aA)] W (Qf p W):=by
 refine kV quiet Tryz.func23 rfl ?hR ?body
 case hR=>
  rintro v W' I d ⟨lv,h1,h2,h3⟩;exact⟨lv,h1,h2,wD h3⟩
 simp only[Tryz.ntmps23,jG,iC,oy,Dk,Dj,j8,j7,jH,iw,kn,gP];refine nM quiet bp (fun a w=>a=⟨#[aR (b.cells bq aK aA),pv W.heap.size 0,ae none 0 0,aH false,ah ag 0,af,af,af,af,af],[]⟩/\Pk0 W W.heap.size (b.cells bq aK aA) 28 w) (fun I d=>?_) ?_
 .go_wp2;exact⟨Er (qi _ _),ay (dB W I d) _⟩
 rintro a W1 ⟨rfl,⟨o1,x1⟩⟩;refine kq quiet (tP quiet ?_);refine gg (i:=0) (rest:=[1,2,3,4,5,6,7]) quiet rfl rfl fun I d=>?_;refine wp_load_row 28 (aM 1) rfl W.heap.size rfl 28 _ (0,0) _ (w:=dB W1 I d) x1 cJ rfl (by kernel_rfl) ?_;have o2:Old W (dB W1 I d):=nS I d o1;have FO:=Tr (W:=dB W1 I d) 102 sY (hL.old o2) (hB.old o2) (p1.old o2) (p2.old o2) (p3.old o2) hne ya hlt Sc;refine rr (i:=1) (rest:=[2,3,4,5,6,7]) quiet rfl rfl (f:=95) (args:=#[aR (b.cells bq aK aA),.func (.func 102) #[] #[]]) (fun w=>by kernel_rfl) FO ?_;rintro out W3 _ ⟨x,r,lv,hperm,rfl,Cp,o3⟩;rw[hp x r hperm] at Cp;have o4:=o2.trans o3;refine gg (i:=2) (rest:=[3,4,5,6,7]) quiet rfl rfl fun τ2 d2=>?_;show eH aq _ _ [3,4,5,6,7] _ _;refine gg (i:=3) (rest:=[4,5,6,7]) quiet rfl rfl fun τ3 d3=>?_;show eH aq _ _ [4,5,6,7] _ _;refine gg (i:=4) (rest:=[5,6,7]) quiet rfl rfl fun τ4 d4=>?_;show eH aq _ _ [5,6,7] _ _;refine gg (i:=5) (rest:=[6,7]) quiet rfl rfl fun τ5 d5=>?_;show eH aq _ _ [6,7] _ _;refine gg (i:=6) (rest:=[7]) quiet rfl rfl fun τ6 d6=>?_;show eH aq _ _ [7] _ _;refine gg (i:=7) (rest:=[]) quiet rfl rfl fun τ7 d7=>?_;show eH aq _ _ [] _ _;refine rq (l:=[]) quiet (fun e a w h=>by cases e<;>first|rfl|exact(h:False).elim) fun τ8 d8=>?_;refine kI quiet bp fun τ9 d9=>xN ?_;refine wp_ret ?_;refine bm (results_tmp3 rfl _ _ _) rfl ⟨_,rfl,lv,?_,Cp,⟨o4.os,o4.output,o4.size,o4.block⟩⟩
 kernel_rfl
end Go.Proofs.YtffladgmkiimjaaGreatDoor
namespace Go.Proofs.YtffladgmkiimjaaGreatDoor
open Go.RowKit Go.Lag
theorem AA(a b:Int)(w:ar):bu aq 94 #[ah ag a,ah ag b] w fun e w'=>e=aF (aR #[ah ag a,ah ag b])/\az w.heap.size w w':=by
 go_enter Tryz.func94,Tryz.ntmps94
 go_wp2;exact bm (vW rfl _ _ w.heap.size 23 #[ah ag a,ah ag b] (0,0) _ rfl (ay w _) BD rfl (by kernel_rfl)) rfl ⟨rfl,(au _ _).alloc (ax _) _⟩
theorem zn(a:Int)(w:ar):bu aq 86 #[ah ag a] w fun e w'=>e=aF (aR #[ah ag a,ah ag a])/\az w.heap.size w w':=by
 go_enter Tryz.func86,Tryz.ntmps86
 go_wp2_with (first
  |(go_at_call 94;refine(AA a a _).mono ?_;rintro e w1 ⟨rfl,hb1⟩
    have hz:=(hb1.block w.heap.size (by simp)).trans (ay w (aw #[ah ag 0,ah ag 0] 23));have HZ:=aj hz;have yL:=aj hb1
    clear hz hb1)
  |(refine wpList_store_row rfl 23 _ _ rfl _ _ rfl rfl 23 _ HZ.out (by kernel_rfl) rfl (by simp[cj]) ?_))
 exact bm (vW rfl _ _ w.heap.size 23 #[ah ag a,ah ag a] (0,0) _ rfl (cV HZ.out) BD rfl (by kernel_rfl)) rfl ⟨rfl,dv (((au _ _).alloc (ax _) _).trans (yL.out.mono (by simp))) (ax _)⟩
abbrev TG:Array Value:=#[ah ag 0,ah ag 0,ah ag 0,ah ag 0,ah ag 0,ah ag 0,ah ag 0,ah ag 0,ah ag 0,ah ag 0,ah ag 0,ah ag 0,ae none 0 0,ae none 0 0,ae none 0 0]
def ex:BB:=⟨30,33,9,5,2,20,2,3,0,1,1,2⟩
def jX:List Mn:=[⟨⟨#[97,110,110]⟩,3,4⟩,⟨⟨#[98,111]⟩,4,4⟩]
theorem LZ(w:ar):bu aq 93 #[] w fun e w'=>∃g c,e=aF (aR (ex.cells (ae (some ⟨g,0,none⟩) 2 c) (ae none 0 0) (ae none 0 0)))/\Reads w' (ae (some ⟨g,0,none⟩) 2 c) 2 (fF jX)/\w'.heap[g]?=some (aw (fF jX).toArray 79 (0,0))/\w.heap.size<=g/\az w.heap.size w w':=by
 have b0:az w.heap.size w (w.alloc (aw TG 28)):=(au _ _).alloc (ax _) _;have h0:=ay w (aw TG 28);have Kc:=aj b0;have HH0:=aj h0;clear b0 h0
 go_enter Tryz.func93,Tryz.ntmps93
 go_wp2_with fail
 refine(AA _ _ _).mono ?_;rintro e w1 ⟨rfl,hb1⟩;have H1:=aj hb1;clear hb1
 go_wp2_with fail
 refine(AA _ _ _).mono ?_;rintro e w2 ⟨rfl,hb2⟩;have H2:=aj hb2;clear hb2
 go_wp2_with fail
 refine(AA _ _ _).mono ?_;rintro e w3 ⟨rfl,hb3⟩;have H3:=aj hb3;clear hb3
 go_wp2_with fail
 refine(zn _ _).mono ?_;rintro e w4 ⟨rfl,hb4⟩
 have hb:az (w.heap.size+1) (w.alloc (aw TG 28)) w4:=by
  have h1:=H1.out;have h2:=H2.out;have h3:=H3.out;have s1:=h1.size;have s2:=h2.size;have s3:=h3.size;simp only[ej] at s1;exact((h1.mono (by simp)).trans (h2.mono (by omega))).trans ((h3.mono (by omega)).trans (hb4.mono (by omega)))
 have hs:=hb.size;simp only[ej] at hs;have hz:=(Below.heap_alloc w4 (aw (fF jX).toArray 79) w.heap.size (by omega)).trans ((hb.block w.heap.size (by omega)).trans HH0.out);have HZ:=aj hz;have HW:Hid (az w.heap.size w w4):=aj (Kc.out.trans (hb.mono (by omega)));clear hb hz hb4
 go_wp2_with (refine wpList_store_row rfl 28 _ _ rfl _ _ rfl rfl 28 _ HZ.out (by kernel_rfl) rfl (by simp[cj]) ?_)
 have hg:((w4.alloc (aw (fF jX).toArray 79)).setRow w.heap.size (ex.cells (ae (some ⟨w4.heap.size,0,none⟩) 2 2) (ae none 0 0) (ae none 0 0))).heap[w4.heap.size]?=some (aw (fF jX).toArray 79 (0,0)):=(setRow_other (by omega)).trans (ay w4 _);refine bm (vW rfl _ _ w.heap.size 28 (ex.cells (ae (some ⟨w4.heap.size,0,none⟩) 2 2) (ae none 0 0) (ae none 0 0)) (0,0) _ rfl (cV HZ.out) cJ rfl (by kernel_rfl)) rfl ⟨w4.heap.size,2,rfl,?_,hg,by omega,dv (HW.out.alloc (by omega) _) (ax _)⟩
 exact .inr ⟨w4.heap.size,0,2,rfl,by omega,by rw[setRow_size];simp,fun j u hj=>by
  have:=aJ hg j u (by simpa using hj)
  rw[di];exact this⟩
theorem TK(a b:Int)(w:ar):(Builtin.min_ #[3,3] 3 #[ah ag a,ah ag b]).run aq w=.ok (ah ag (min a b)) w:=by
 go_simp;split<;>omega
abbrev sa(b:BB)(n:Int):BB:={ b with minutes:=n }
abbrev sb(b:BB)(n:Int):BB:={ b with minutes:=n,pm:=min b.pm n }
abbrev sc(b:BB)(n:Int):BB:={ b with minutes:=n,ie:=0,pm:=min b.pm n }
abbrev sd(b:BB)(n:Int):BB:={ b with minutes:=n,ie:=0,pl:=1,pm:=1 }
def jh(b:BB)(n:Int):BB:=if b.pl>min b.pm n then { b with minutes:=n,ie:=0,pl:=1,pm:=1 } else { b with minutes:=n,pm:=min b.pm n }
theorem S5(b:BB)(p1 p2 p3:Option Addr)(n1 c1 n2 c2 n3 c3:Nat)(n:Int)(w:ar):bu aq 36 #[aR (b.cells (ae p1 n1 c1) (ae p2 n2 c2) (ae p3 n3 c3)),ah ag n] w fun e w'=>e=aF (aR ((jh b n).cells (ae p1 n1 c1) (ae none 0 0) (ae none 0 0)))/\az w.heap.size w w':=by
 refine qK Tryz.func36 rfl rfl [(1,ah ag n),(0,aR (b.cells (ae p1 n1 c1) (ae p2 n2 c2) (ae p3 n3 c3)))] ⟨kF rfl,kF rfl,trivial⟩ fun a W hF hw=>?_;refine qM (N:=2) rfl ?_;refine sU ⟨[],[],[],[]⟩ (some 2) (fun B=>pv B 0) (b.cells (ae p1 n1 c1) (ae p2 n2 c2) (ae p3 n3 c3)) 28 hF hF ?_;intro B2 W a G2 ho K2 hF;have aip:=aO hw.size G2;replace hw:=hw.tr ho;clear ho;rename ar=>W2;have h2:=au W2.heap.size W2;refine sU ⟨[],[],[],[]⟩ (some 4) (fun B=>pv B 0) (#[ah ag 0,ah ag 0,ah ag 0,ah ag 0,ah ag 0,ah ag 0,ah ag 0,ah ag 0,ah ag 0,ah ag 0,ah ag 0,ah ag 0,ae none 0 0,ae none 0 0,ae none 0 0]) 28 hF hF ?_;intro B4 W a G4 ho K4 hF;have UL:=aO (hw.tr h2).size G4;have aa5:=aO h2.size G4;replace h2:=h2.tr ho;clear ho;replace hw:=hw.tr h2;rename ar=>W4;have h4:=au W4.heap.size W4;refine rG ?_;refine qM (N:=3) rfl ?_;refine ig 0 1 2 ⟨[],[],[(B2,(b.cells (ae p1 n1 c1) (ae p2 n2 c2) (ae p3 n3 c3)))],[]⟩ [(6,aR (b.cells (ae p1 n1 c1) (ae p2 n2 c2) (ae p3 n3 c3)))] hF hF ⟨fun w1 hS=>⟨_,_,aG K2 (h2.tr (h4.tr hS))⟩,trivial⟩ trivial ?_;intro a W ho hF;replace h4:=h4.tr ho;clear ho;refine sU ⟨[],[],[],[]⟩ (some 5) (fun B=>pv B 0) (#[ah ag 0,ah ag 0,ah ag 0,ah ag 0,ah ag 0,ah ag 0,ah ag 0,ah ag 0,ah ag 0,ah ag 0,ah ag 0,ah ag 0,ae none 0 0,ae none 0 0,ae none 0 0]) 28 hF hF ?_;intro B5 W a G5 ho K5 hF;have Oo:=aO (hw.tr h4).size G5;have Ot:=aO (h2.tr h4).size G5;have Oq:=aO h4.size G5;replace h4:=h4.tr ho;clear ho;replace hw:=hw.tr h4;replace h2:=h2.tr h4;rename ar=>W5;have h5:=au W5.heap.size W5;refine sS ⟨[],[],[],[]⟩ (#[ah ag 0,ah ag 0,ah ag 0,ah ag 0,ah ag 0,ah ag 0,ah ag 0,ah ag 0,ah ag 0,ah ag 0,ah ag 0,ah ag 0,ae none 0 0,ae none 0 0,ae none 0 0]) (b.cells (ae p1 n1 c1) (ae p2 n2 c2) (ae p3 n3 c3)) (aU 15) hF hF (aG K5 h5) ?_;intro W a up K5 hF;replace hw:=up.below (hw.tr h5) Oo;replace h2:=up.below (h2.tr h5) Ot;replace h4:=up.below (h4.tr h5) Oq;clear up;rename ar=>Ao;have dU:=au Ao.heap.size Ao;refine rG ?_;refine qM (N:=7) rfl ?_;refine ig 0 2 5 ⟨[],[],[],[]⟩ [(7,ah ag n),(8,aS (some ⟨B5,3,none⟩))] hF hF trivial trivial ?_;intro a W ho hF;replace dU:=dU.tr ho;clear ho;refine sS ⟨[],[],[],[]⟩ (b.cells (ae p1 n1 c1) (ae p2 n2 c2) (ae p3 n3 c3)) ((sa b n).cells (ae p1 n1 c1) (ae p2 n2 c2) (ae p3 n3 c3)) [0] hF hF (aG K5 dU) ?_;intro W a up K5 hF;replace hw:=up.below (hw.tr dU) Oo;replace h2:=up.below (h2.tr dU) Ot;replace h4:=up.below (h4.tr dU) Oq;clear up;rename ar=>xu;have dL:=au xu.heap.size xu;refine ig 3 1 3 ⟨[],[],[],[]⟩ [(9,aS (some ⟨B5,13,none⟩))] hF hF trivial trivial ?_;intro a W ho hF;replace dL:=dL.tr ho;clear ho;refine sS ⟨[],[],[],[]⟩ ((sa b n).cells (ae p1 n1 c1) (ae p2 n2 c2) (ae p3 n3 c3)) ((sa b n).cells (ae p1 n1 c1) (ae none 0 0) (ae p3 n3 c3)) [0] hF hF (aG K5 dL) ?_;intro W a up K5 hF;replace hw:=up.below (hw.tr dL) Oo;replace h2:=up.below (h2.tr dL) Ot;replace h4:=up.below (h4.tr dL) Oq;clear up;rename ar=>MI;have zJ:=au MI.heap.size MI;refine ig 5 1 1 ⟨[],[],[],[]⟩ [(10,aS (some ⟨B5,14,none⟩))] hF hF trivial trivial ?_;intro a W ho hF;replace zJ:=zJ.tr ho;clear ho;refine sS ⟨[],[],[],[]⟩ ((sa b n).cells (ae p1 n1 c1) (ae none 0 0) (ae p3 n3 c3)) ((sa b n).cells (ae p1 n1 c1) (ae none 0 0) (ae none 0 0)) [0] hF hF (aG K5 zJ) ?_;intro W a up K5 hF;replace hw:=up.below (hw.tr zJ) Oo;replace h2:=up.below (h2.tr zJ) Ot;replace h4:=up.below (h4.tr zJ) Oq;clear up;rename ar=>Zf;have ER:=au Zf.heap.size Zf;refine rG ?_;refine qM (N:=11) rfl ?_;refine ig 0 10 1 ⟨[],[(7,ah ag (min b.pm n)),(8,aR #[ah ag b.pl,ah ag (min b.pm n)])],[(B2,(b.cells (ae p1 n1 c1) (ae p2 n2 c2) (ae p3 n3 c3)))],[]⟩ [(19,aR #[ah ag b.pl,ah ag (min b.pm n)]),(20,aS (some ⟨B5,10,none⟩))] hF hF ⟨fun w1 hS=>⟨_,_,aG K2 (h2.tr (ER.tr hS))⟩,trivial⟩ ⟨fun w1 hS _=>gs (Builtin.min_ #[3,3] 3 #[ah ag b.pm,ah ag n]) (TK _ _ w1),fun w1 hS _=>gc (AA b.pl (min b.pm n) w1),trivial⟩ ?_;intro a W ho hF;replace ER:=ER.tr ho;clear ho;refine sS ⟨[],[],[],[]⟩ ((sa b n).cells (ae p1 n1 c1) (ae none 0 0) (ae none 0 0)) ((sb b n).cells (ae p1 n1 c1) (ae none 0 0) (ae none 0 0)) (aU 2) hF hF (aG K5 ER) ?_;intro W a up K5 hF;replace hw:=up.below (hw.tr ER) Oo;replace h2:=up.below (h2.tr ER) Ot;replace h4:=up.below (h4.tr ER) Oq;clear up;rename ar=>Ze;have qI:=au Ze.heap.size Ze;refine rG ?_;refine wp_seq ?_;refine jz ⟨[],[],[(B5,((sb b n).cells (ae p1 n1 c1) (ae none 0 0) (ae none 0 0)))],[]⟩ [(27,aH (decide ((sb b n).pl>(sb b n).pm)))] hF hF ⟨fun w1 hS=>⟨_,_,aG K5 (qI.tr hS)⟩,trivial⟩ trivial ?_;intro a W ho hF;replace qI:=qI.tr ho;clear ho;refine wp_cond_split (t:=(decide ((sb b n).pl>(sb b n).pm))) (hF.g 0 rfl) (fun EP=>?_) (fun EP=>?_)
 .skip
  replace hF:=hF.tl;refine U7 (N:=5) rfl ?_;refine ig 0 2 3 ⟨[],[(0,aR #[ah ag 1,ah ag 1])],[],[]⟩ [(28,aR #[ah ag 1,ah ag 1]),(29,aS (some ⟨B5,7,none⟩))] hF hF trivial ⟨fun w1 hS _=>gc (zn 1 w1),trivial⟩ ?_;intro a W ho hF;replace qI:=qI.tr ho;clear ho;refine sS ⟨[],[],[],[]⟩ ((sb b n).cells (ae p1 n1 c1) (ae none 0 0) (ae none 0 0)) ((sc b n).cells (ae p1 n1 c1) (ae none 0 0) (ae none 0 0)) [0] hF hF (aG K5 qI) ?_;intro W a up K5 hF;replace hw:=up.below (hw.tr qI) Oo;replace h2:=up.below (h2.tr qI) Ot;replace h4:=up.below (h4.tr qI) Oq;clear up;rename ar=>Zd;have Hv:=au Zd.heap.size Zd;refine ig 3 1 1 ⟨[],[],[],[]⟩ [(30,aS (some ⟨B5,10,none⟩))] hF hF trivial trivial ?_;intro a W ho hF;replace Hv:=Hv.tr ho;clear ho;refine sS ⟨[],[],[],[]⟩ ((sc b n).cells (ae p1 n1 c1) (ae none 0 0) (ae none 0 0)) ((sd b n).cells (ae p1 n1 c1) (ae none 0 0) (ae none 0 0)) (aU 2) hF hF (aG K5 Hv) ?_;intro W a up K5 hF;replace hw:=up.below (hw.tr Hv) Oo;replace h2:=up.below (h2.tr Hv) Ot;replace h4:=up.below (h4.tr Hv) Oq;clear up;rename ar=>Zc;have Hu:=au Zc.heap.size Zc;refine Y3 ?_;show Code.wp aq _ _ _ _;refine qM (N:=2) rfl ?_;refine ig 0 1 1 ⟨[],[],[(B5,((sd b n).cells (ae p1 n1 c1) (ae none 0 0) (ae none 0 0)))],[]⟩ [(31,aR ((sd b n).cells (ae p1 n1 c1) (ae none 0 0) (ae none 0 0)))] hF hF ⟨fun w1 hS=>⟨_,_,aG K5 (Hu.tr hS)⟩,trivial⟩ trivial ?_;intro a W ho hF;replace Hu:=Hu.tr ho;clear ho;refine sS ⟨[],[],[],[]⟩ (#[ah ag 0,ah ag 0,ah ag 0,ah ag 0,ah ag 0,ah ag 0,ah ag 0,ah ag 0,ah ag 0,ah ag 0,ah ag 0,ah ag 0,ae none 0 0,ae none 0 0,ae none 0 0]) ((sd b n).cells (ae p1 n1 c1) (ae none 0 0) (ae none 0 0)) (aU 15) hF hF (aG K4 (h4.tr Hu)) ?_;intro W a up K4 hF;replace hw:=up.below (hw.tr Hu) UL;replace h2:=up.below (h2.tr Hu) aa5;clear up;rename ar=>Zb;have Y0:=au Zb.heap.size Zb;refine rG ?_;refine wp_ret ?_;show bodyPost aq Tryz.f36 (fun e w'=>e=aF (aR ((jh b n).cells (ae p1 n1 c1) (ae none 0 0) (ae none 0 0)))/\az w.heap.size w w') Exit.ret a _;have hst:((sd b n).cells (ae p1 n1 c1) (ae none 0 0) (ae none 0 0))=(jh b n).cells (ae p1 n1 c1) (ae none 0 0) (ae none 0 0):=by unfold jh;simp only[decide_eq_true_eq,decide_eq_false_iff_not] at EP;first|rw[if_pos EP]|rw[if_neg EP]
  exact bm (vW rfl _ _ B4 28 _ (0,0) _ (hF.g 12 rfl) (aG K4 Y0) cJ rfl (by kernel_rfl)) hF.defers ⟨by rw[hst],(hw.tr Y0)⟩
 skip
 replace hF:=hF.tl;refine wp_skip ?_;show Code.wp aq _ _ _ _;refine qM (N:=2) rfl ?_;refine ig 0 1 1 ⟨[],[],[(B5,((sb b n).cells (ae p1 n1 c1) (ae none 0 0) (ae none 0 0)))],[]⟩ [(31,aR ((sb b n).cells (ae p1 n1 c1) (ae none 0 0) (ae none 0 0)))] hF hF ⟨fun w1 hS=>⟨_,_,aG K5 (qI.tr hS)⟩,trivial⟩ trivial ?_;intro a W ho hF;replace qI:=qI.tr ho;clear ho;refine sS ⟨[],[],[],[]⟩ (#[ah ag 0,ah ag 0,ah ag 0,ah ag 0,ah ag 0,ah ag 0,ah ag 0,ah ag 0,ah ag 0,ah ag 0,ah ag 0,ah ag 0,ae none 0 0,ae none 0 0,ae none 0 0]) ((sb b n).cells (ae p1 n1 c1) (ae none 0 0) (ae none 0 0)) (aU 15) hF hF (aG K4 (h4.tr qI)) ?_;intro W a up K4 hF;replace hw:=up.below (hw.tr qI) UL;replace h2:=up.below (h2.tr qI) aa5;clear up;rename ar=>Za;have YZ:=au Za.heap.size Za;refine rG ?_;refine wp_ret ?_;show bodyPost aq Tryz.f36 (fun e w'=>e=aF (aR ((jh b n).cells (ae p1 n1 c1) (ae none 0 0) (ae none 0 0)))/\az w.heap.size w w') Exit.ret a _;have hst:((sb b n).cells (ae p1 n1 c1) (ae none 0 0) (ae none 0 0))=(jh b n).cells (ae p1 n1 c1) (ae none 0 0) (ae none 0 0):=by unfold jh;simp only[decide_eq_true_eq,decide_eq_false_iff_not] at EP;first|rw[if_pos EP]|rw[if_neg EP]
 exact bm (vW rfl _ _ B4 28 _ (0,0) _ (hF.g 9 rfl) (aG K4 YZ) cJ rfl (by kernel_rfl)) hF.defers ⟨by rw[hst],(hw.tr YZ)⟩
def DG(b:BB)(p:Nat)(s:Int × Bool)(a:eN):Int × Bool:=
 if b.bad (b.cD+a.used) p=0 then s else if s.2=false\/b.bad (b.cD+a.used) p<s.1 then(b.bad (b.cD+a.used) p,true) else s
def uK(b:BB)(all:List eN)(p:Nat):Int × Bool:=all.foldl (DG b p) (0,false)
theorem OO(b:BB)(all:List eN)(p:Nat){j:Nat}(h:j<all.length):uK b (all.take (j+1)) p=DG b p (uK b (all.take j) p) all[j]:=by
 unfold uK;rw[bN h,List.foldl_append];rfl
theorem abM(b:BB)(bq aK aA:ak)(ml:List Mn)(ss:List Int)(ms:List Mk)(w:ar)(hL:Laid w)(hB:cU b bq aK aA ml ss ms w)(hne:bw b ml ss ms≠[])(pl:List Int)(hp:eU b pl)(lv:ak)(hl:Reads w lv pl.length (pl.map (aB ag))) :
  bu aq 63 #[aR (b.cells bq aK aA),lv] w fun e w'=>e=aF (cO #[ah ag (uK b (bw b ml ss ms) (bD pl)).1,aH (uK b (bw b ml ss ms) (bD pl)).2,ah ag 0])/\az w.heap.size w w':=by
 have hlen:=jE ss ms hB.ok hB.gZ;have kC:0<(bw b ml ss ms).length:=dm.2 hne;have cY:=hB.ok;have hao:=nZ (ss:=ss) (ms:=ms) hB.ok hB.gZ;have xW:=cY.minutes;have nW:∀s∈pl,1<=s/\s<=8:=fun s h=>by have:=hp.mem s h;omega
 have Jp:bD pl<512:=mA pl nW;obtain⟨pm,cm,rfl,_⟩:=aW hB.rm;obtain⟨pn,cn,rfl,_⟩:=aW hB.rs;obtain⟨pk,ck,rfl,_⟩:=aW hB.rk;obtain⟨qy,qL,rfl,_⟩:=aW hl;have b1:az w.heap.size w (w.alloc (aw (b.cells (ae pm ml.length cm) (ae pn ss.length cn) (ae pk ms.length ck)) 28)):=(au _ _).alloc (ax _) _;have hk:=ay w (aw (b.cells (ae pm ml.length cm) (ae pn ss.length cn) (ae pk ms.length ck)) 28)
 have Vx:Hid (∀W cp,az w.heap.size w W->W.heap[cp]?=some (aw #[ae qy pl.length qL] 25 (0,0))->bu aq 103 #[aR (b.cells (ae pm ml.length cm) (ae pn ss.length cn) (ae pk ms.length ck)),.func (.func 164) #[] #[pv cp 0]] W fun e w'=>∃v,e=aF (cO #[aR (b.open (ae pm ml.length cm) (ae pn ss.length cn) (ae pk ms.length ck) v),ah ag 0])/\gY w' W.heap.size v (bw b ml ss ms)/\az W.heap.size W w'):=
  aj fun W cp J9 Uo=>Dr b _ _ _ ml ss ms W (hL.below J9) (hB.below J9) hne cp fun W' hb'=>by
   have hlt:=(ai.1 Uo).1;exact DF b cY _ _ _ pl hp cp _ W' ((hb'.block _ hlt).trans Uo) ((hl.below J9).below hb')
 have Kb:=aj hl;have Sz:=aj hao;have Yh:=aj nW;clear hL hB hl hao hp nW;generalize bw b ml ss ms=all at *;generalize ml.length=lm at *;generalize ss.length=ln at *;generalize ms.length=lk at *
 go_enter Tryz.func63,Tryz.ntmps63
 go_wp2;refine wp_scope_straight ?_;go_wp2
 refine bY (by kernel_rfl) [
 pV (aR (b.cells (ae pm lm cm) (ae pn ln cn) (ae pk lk ck))),
  pV (ae qy pl.length qL),
  fun v ds w9=>∃cp,v=.func (.func 164) #[] #[pv cp 0]/\w9.heap[cp]?=some (aw #[ae qy pl.length qL] 25 (0,0)),
  fun v ds w9=>∃gv cv,v=cO #[aR (b.open (ae pm lm cm) (ae pn ln cn) (ae pk lk ck) (ae (some ⟨gv,0,none⟩) all.length cv)),ah ag 0]/\gY w9 w.heap.size (ae (some ⟨gv,0,none⟩) all.length cv) all,
  fun v ds w9=>∃gv cv,v=cO #[aR (b.open (ae pm lm cm) (ae pn ln cn) (ae pk lk ck) (ae (some ⟨gv,0,none⟩) all.length cv)),ah ag 0]/\gY w9 w.heap.size (ae (some ⟨gv,0,none⟩) all.length cv) all,
  fun v ds w9=>∃gv cv,v=aR (b.open (ae pm lm cm) (ae pn ln cn) (ae pk lk ck) (ae (some ⟨gv,0,none⟩) all.length cv))/\gY w9 w.heap.size (ae (some ⟨gv,0,none⟩) all.length cv) all,
  pV (ah ag 0),
  fun v ds w9=>∃k,∃z:Array ak,v=pv k 0/\w.heap.size+1<=k/\w9.heap[k]?=some (aw z 122 (0,0))/\z.size=16,
  fun v ds w9=>∃k gv cv,ds[0]?=some (pv k 0)/\w.heap.size+1<=k/\w9.heap[k]?=some (aw (b.open (ae pm lm cm) (ae pn ln cn) (ae pk lk ck) (ae (some ⟨gv,0,none⟩) all.length cv)) 122 (0,0))/\gY w9 w.heap.size (ae (some ⟨gv,0,none⟩) all.length cv) all,
  pV (ah ag 0)]
  (fun w9=>w9.heap[w.heap.size]?=some (aw (b.cells (ae pm lm cm) (ae pn ln cn) (ae pk lk ck)) 28 (0,0))/\az w.heap.size w w9) [(2,pv w.heap.size 0),(1,ae qy pl.length qL)] (by kernel_rfl) ?rst (fun w1 w2 h hb=>⟨(hb.block _ (ai.1 h.1).1).trans h.1,h.2.trans (hb.mono h.2.size)⟩) (⟨hk,b1.drew⟩) ⟨rfl,rfl,trivial⟩ ?reach ?rfin
 case rst=>
  refine⟨sV,sV,?_,?_,?_,?_,sV,?_,?_,sV,trivial⟩
  .rintro v ds w1 w2 hS ⟨cp,h1,h2⟩ hb;exact⟨cp,h1,(hb.block _ (ai.1 h2).1).trans h2⟩
  .rintro v ds w1 w2 hS ⟨gv,cv,h1,h2⟩ hb;exact⟨gv,cv,h1,h2.at_ fun g hg=>hb.block g (h2.1.lt g hg).2⟩
  .rintro v ds w1 w2 hS ⟨gv,cv,h1,h2⟩ hb;exact⟨gv,cv,h1,h2.at_ fun g hg=>hb.block g (h2.1.lt g hg).2⟩
  .rintro v ds w1 w2 hS ⟨gv,cv,h1,h2⟩ hb;exact⟨gv,cv,h1,h2.at_ fun g hg=>hb.block g (h2.1.lt g hg).2⟩
  .rintro v ds w1 w2 hS ⟨k,z,h1,h2,h3,h4⟩ hb;exact⟨k,z,h1,h2,(hb.block _ (ai.1 h3).1).trans h3,h4⟩
  rintro v ds w1 w2 hS ⟨k,gv,cv,h1,h0,h3,h2⟩ hb;exact⟨k,gv,cv,h1,h0,(hb.block _ (ai.1 h3).1).trans h3,h2.at_ fun g hg=>hb.block g (h2.1.lt g hg).2⟩
 case reach=>
  refine⟨?_,?_,?_,?_,?_,?_,?_,?_,?_,?_,trivial⟩<;>rintro ev w1 hS hc hg hf ⟨b2,b1,-⟩ hd
  .clear hd;obtain⟨x0,x1,x2,x3,x4,x5,x6,x7,x8,x9,oh,og,o6,oA,oW⟩:=bT hS.1;exact tV
  .clear hd;exact tV
  .have d1:ev (aM 13)=_:=hd.1 rfl;clear hd;refine Lag.Yields.call (f:=104) (args:=#[ae qy pl.length qL]) ?_ (JQ _ _ _ _) ?_
   .go_simp
   rintro e w2 ⟨rfl,rfl⟩;exact⟨_,rfl,⟨_,rfl,ay _ _⟩,cK ((au _ _).alloc (ax _) _)⟩
  .have d0:ev (aM 12)=_:=hd.1 rfl;obtain⟨cp,FU,xZ⟩:=hd.2.1 rfl;clear hd;replace FU:ev (aM 14)=_:=FU;refine Lag.Yields.call (f:=103) (args:=#[aR (b.cells (ae pm lm cm) (ae pn ln cn) (ae pk lk ck)),.func (.func 164) #[] #[pv cp 0]]) ?_ (Vx.out w1 cp hS.2 xZ) ?_
   .go_simp
   rintro e w2 ⟨v,rfl,jn,hb⟩
   obtain⟨gv,cv,rfl⟩:∃gv cv,v=ae (some ⟨gv,0,none⟩) all.length cv:=by
    rcases jn.1.2 with⟨_,h0⟩|⟨g,cap,cur,rfl,_⟩
    .omega
    exact⟨g,cap,rfl⟩
   exact⟨_,rfl,⟨gv,cv,rfl,jn.base hS.2.size⟩,cK hb⟩
  .exact yv rfl (hd.1 rfl)
  .obtain⟨gv,cv,e11,jn⟩:=hd.1 rfl;clear hd;replace e11:ev (aM 11)=_:=e11;refine yv ?_ (⟨gv,cv,rfl,jn⟩);go_simp
  .obtain⟨gv,cv,e11,jn⟩:=hd.1 rfl;clear hd;replace e11:ev (aM 11)=_:=e11;exact tV
  .clear hd;refine Lag.Yields.value (v:=pv w1.heap.size 0) (w':=w1.alloc (aw iu 122)) ?_ ⟨⟨_,_,rfl,(ai.1 hS.1).1,ay _ _,rfl⟩,cK ((au _ _).alloc (ax _) _)⟩;go_simp
  .obtain⟨k,z,e6,qG,hk2,hz⟩:=hd.1 rfl;replace e6:ev (aM 7)=_:=e6;obtain⟨gv,cv,Ow,jn⟩:=hd.2.1 rfl;clear hd;replace Ow:ev (aM 16)=_:=Ow;have Dv:∀g cs t,w1.heap[g]?=some (aw cs t (0,0))->t≠122->g≠k:=by rintro g cs t h1 h2 rfl;rw[hk2] at h1;cases h1;exact h2 rfl
   have EJ:∀(v:ak),gY w1 w.heap.size v all->gY (w1.setRow k (b.open (ae pm lm cm) (ae pn ln cn) (ae pk lk ck) (ae (some ⟨gv,0,none⟩) all.length cv))) w.heap.size v all:=fun v ho=>ho.at_ fun g hg=>setRow_other (by
    obtain⟨cur,q1,_⟩:=ho.2 g hg
    exact Dv g _ _ q1 (by decide))
   refine Lag.Yields.lN 122 _ _ rfl k _ e6 Ow 122 z hk2 (by kernel_rfl) hz (by simp[cj]) ⟨⟨k,gv,cv,congrArg some e6,qG,cV hk2,EJ _ jn⟩,.inr ⟨⟨(setRow_other (by omega)).trans hS.1,dv hS.2 (by omega)⟩,?_⟩⟩;intro j u ds hj hp
   match j,hp with
   |0,hp=>exact hp
   |1,hp=>exact hp
   |2,⟨cp,h1,h2⟩=>exact⟨cp,h1,(setRow_other (Dv _ _ _ h2 (by decide))).trans h2⟩
   |3,⟨ES,E7,h1,h2⟩=>exact⟨ES,E7,h1,EJ _ h2⟩
   |4,⟨ES,E7,h1,h2⟩=>exact⟨ES,E7,h1,EJ _ h2⟩
   |5,⟨ES,E7,h1,h2⟩=>exact⟨ES,E7,h1,EJ _ h2⟩
   |6,hp=>exact hp
   |7,⟨k',z',h1,h2,h3,h4⟩=>
    by_cases sA:k'=k
    .subst sA;exact⟨k',_,h1,h2,cV h3,rfl⟩
    exact⟨k',z',h1,h2,(setRow_other sA).trans h3,h4⟩
   |8,_=>exact(hj rfl).elim
   |9,hp=>exact hp
   |j+10,_=>trivial
  have d6:ev (aM 17)=_:=hd.1 rfl;clear hd;refine yv (v:=ev (aM 17)) ?_ (d6);rfl
 case rfin=>
  intro a2 w2 hR;have hS:=hR.s;obtain⟨k,gv,cv,U2,qG,hk2,jn⟩:=hR.val 8 (by decide);have e9:a2.tmps.getD 6 af=_:=hR.val 9 (by decide);have ha:=hR.lits 47 rfl;simp only[aU,cg,nD] at ha;rw[hR.kp 1 (by kernel_rfl),hR.kp 2 (by kernel_rfl),hR.kp 4 (by kernel_rfl),hR.kp 5 (by kernel_rfl)] at ha;simp only[kO,gp,gi] at ha;clear hR;have e6:a2.tmps.getD 7 af=pv k 0:=bj U2;rw[e6,e9] at ha;generalize a2.tmps.getD=zz at ha;clear e6 U2 e9;subst ha;have tq:=hS.1;have r5:=hS.2;clear hS;have Il:=aJ hk2 15 _ rfl;have Cp:=jn.reads (by omega)
  have HC:Hid (∀j u,(rowOf all)[j]?=some u->w2.cell? ⟨gv,0+j,none⟩=some u):=aj (by
   rcases Cp with⟨h0,_⟩|⟨g,off,cap,h0,_,_,h1⟩
   .cases h0
   cases h0;exact h1)
  have Cq:=(jn.1.lt gv rfl).2;have zG:=(ai.1 hk2).1;have HK:=aj hk2;have HB:=aj tq;have FH:=aj r5;have MR:=aj jn;clear hk2 Cp tq r5 jn hk b1 Vx;generalize hL:all.length=L at *;have HL:=aj hL;clear hL;go_wp2;refine wp_label ?_;go_wp2
  go_loopw [4,5,9,10,24] (fun m f _ _ i wr=>∃j:Nat,j<=L/\i=ah ag j/\m=ah ag (uK b (all.take j) (bD pl)).1/\f=aH (uK b (all.take j) (bD pl)).2/\az w2.heap.size w2 wr) (fun _ _ _ _ i _=>L-(intOf i).toNat)
  case atStart=>exact⟨0,by omega,rfl,rfl,rfl,au _ _⟩
  case round=>
   obtain⟨j,hj,rfl,rfl,rfl,en⟩:=hrel;have hsz:=en.size
   by_cases hlt:j<L
   .have Js:j<all.length:=by rw[HL.out];exact hlt
    obtain⟨c0,c1,c2,c3⟩:=Reads.cell (w:=wr) (cap:=cv) (n:=L) (fun i u hi=>(en.cell (p:=⟨gv,0+i,none⟩) Cq).trans (HC.out i u hi)) j Js;simp only[di] at c0 c1 c2 c3;have VP:uK b (all.take (j+1)) (bD pl)=DG b (bD pl) (uK b (all.take j) (bD pl)) all[j]:=OO b all (bD pl) Js;have Uw:=fun W=>JS b cY (ae pm lm cm) (ae pn ln cn) (ae pk lk ck) all[j] (Sz.out _ (bV Js)) (bD pl) Jp W;have HBa:=aj Uw;have xC:=aj en
    have GF:Hid (∀w9,az (wr.alloc (aw all[j].cells 134)).heap.size (wr.alloc (aw all[j].cells 134)) w9->w9.heap[k]?=some (aw (b.open (ae pm lm cm) (ae pn ln cn) (ae pk lk ck) (ae (some ⟨gv,0,none⟩) L cv)) 122 (0,0))/\w9.heap[wr.heap.size]?=some (aw all[j].cells 134 (0,0))/\Reads w9 (ae qy pl.length qL) pl.length (pl.map (aB ag))):=aj fun w9 Od=>by
     have hs:(wr.alloc (aw all[j].cells 134)).heap.size=wr.heap.size+1:=by simp
     have hb0:az wr.heap.size wr (wr.alloc (aw all[j].cells 134)):=(au _ _).alloc (ax _) _;have tN:=FH.out.size;exact⟨(Od.block _ (by omega)).trans ((hb0.block _ (by omega)).trans ((en.block _ zG).trans HK.out)),(Od.block _ (by omega)).trans (ay wr _),Kb.out.below (FH.out.trans ((en.mono tN).trans ((hb0.mono (by omega)).trans (Od.mono (by omega)))))⟩
    unfold DG at VP;clear Uw en;generalize all[j]=a at *;generalize zI:b.bad (b.cD+a.used) (bD pl)=bd at *;generalize uK b (all.take j) (bD pl)=s at *;obtain⟨sm,sf⟩:=s;simp only[] at VP;have J3:=aj VP;clear VP;simp only[];go_wp2
    refine bY (by kernel_rfl) [
    pV (pv k 0),
     pV (aR (b.cells (ae pm lm cm) (ae pn ln cn) (ae pk lk ck))),
     pV (aR a.cells),
     pV (ae qy pl.length qL),
     pV (ah ag (bD pl)),
     pV (ah ag bd),
     pV (ah ag bd)]
     (fun w9=>az (wr.alloc (aw a.cells 134)).heap.size (wr.alloc (aw a.cells 134)) w9) [(1,ae qy pl.length qL),(7,pv k 0),(9,pv wr.heap.size 0)] (by kernel_rfl) ?rst (fun w1 w2 h hb=>h.trans (hb.mono h.size)) ((au _ _).drew) ⟨rfl,rfl,rfl,trivial⟩ ?reach ?rfin
    case rst=>
     refine⟨sV,sV,sV,sV,sV,sV,sV,trivial⟩
    case reach=>
     refine⟨?_,?_,?_,?_,?_,?_,?_,trivial⟩<;>rintro ev w1 hS hc hg hf ⟨b1,b7,b9,-⟩ hd
     .clear hd;exact tV
     .have d0:ev (aM 28)=_:=hd.1 rfl;clear hd;have q:=GF.out w1 hS;obtain⟨x0,x1,x2,x3,x4,x5,x6,x7,x8,x9,oh,og,o6,oA,oW,x15⟩:=jC q.1;exact tV
     .clear hd;have q:=GF.out w1 hS;obtain⟨y0,y1,y2,y3⟩:=qo q.2.1;exact tV
     .clear hd;exact tV
     .have d3:ev (aM 31)=_:=hd.1 rfl;clear hd;have q:=GF.out w1 hS;refine yq (args:=#[ae qy pl.length qL]) (kx pl Yh.out _ _ q.2.2) ?_ fun _=>rfl;go_simp
     .have d1:ev (aM 29)=_:=hd.1 rfl;have d2:ev (aM 30)=_:=hd.2.1 rfl;have d4:ev (aM 32)=_:=hd.2.2.1 rfl;clear hd;refine yc (HBa.out w1) ?_ fun _=>rfl;go_simp
     have d5:ev (aM 33)=_:=hd.1 rfl;clear hd;refine yv (v:=ev (aM 33)) ?_ (d5);rfl
    case rfin=>
     intro a3 w3 hR;have hS:=hR.s;have e6:a3.tmps.getD 10 af=_:=hR.val 6 (by decide);have ha:=hR.lits 47 rfl;simp only[aU,cg,nD] at ha;rw[hR.kp 0 (by kernel_rfl),hR.kp 1 (by kernel_rfl),hR.kp 2 (by kernel_rfl),hR.kp 3 (by kernel_rfl),hR.kp 4 (by kernel_rfl),hR.kp 5 (by kernel_rfl),hR.kp 6 (by kernel_rfl),hR.kp 7 (by kernel_rfl),hR.kp 8 (by kernel_rfl),hR.kp 11 (by kernel_rfl),hR.kp 12 (by kernel_rfl),hR.kp 13 (by kernel_rfl),hR.kp 14 (by kernel_rfl),hR.kp 15 (by kernel_rfl),hR.kp 16 (by kernel_rfl),hR.kp 17 (by kernel_rfl),hR.kp 18 (by kernel_rfl),hR.kp 19 (by kernel_rfl),hR.kp 20 (by kernel_rfl),hR.kp 21 (by kernel_rfl),hR.kp 22 (by kernel_rfl),hR.kp 23 (by kernel_rfl),hR.kp 24 (by kernel_rfl),hR.kp 45 (by kernel_rfl),hR.kp 46 (by kernel_rfl)] at ha;simp only[kO,gp,gi] at ha;clear hR;rw[e6] at ha;generalize a3.tmps.getD=zz at ha;have pJ:=aj hS;clear e6 hS;subst ha;have hwr:az w2.heap.size wr w3:=((au _ wr).alloc hsz _).trans (pJ.out.mono (by simp;omega));have HWr:=aj hwr;clear hwr
     by_cases h0:bd=0
     .have g0:(bd==0)=true:=by simpa using h0
      clear h0;have H0:Hid (bd=0):=aj (by simpa using g0);go_wp2;go_roundw
      case rel=>
       refine⟨j+1,by omega,by simp,?_,?_,xC.out.trans HWr.out⟩
       .rw[J3.out];simp[H0.out]
       rw[J3.out];simp[H0.out]
      case measure=>simp[intOf];omega
     have g0:(bd==0)=false:=by simpa using h0
     have H0:=aj h0;clear h0;cases sf
     .go_wp2;go_roundw
      case rel=>
       refine⟨j+1,by omega,by simp,?_,?_,xC.out.trans HWr.out⟩
       .rw[J3.out];simp[H0.out]
       rw[J3.out];simp[H0.out]
      case measure=>simp[intOf];omega
     by_cases h1:bd<sm
     .have H1:=aj h1;go_wp2;go_roundw
      case rel=>
       refine⟨j+1,by omega,by simp,?_,?_,xC.out.trans HWr.out⟩
       .rw[J3.out];simp[H0.out,H1.out]
       rw[J3.out];simp[H0.out,H1.out]
      case measure=>simp[intOf];omega
     have H1:=aj h1;go_wp2;go_roundw
     case rel=>
      refine⟨j+1,by omega,by simp,?_,?_,xC.out.trans HWr.out⟩
      .rw[J3.out];simp[H0.out,H1.out]
      rw[J3.out];simp[H0.out,H1.out]
     case measure=>simp[intOf];omega
   obtain rfl:j=L:=by omega
   have NY:all.take j=all:=dp (by rw[HL.out];exact ax _);obtain⟨s,hs⟩:∃s,uK b all (bD pl)=s:=⟨_,rfl⟩
   rw[NY,hs];have xC:=aj en;have SK:=aj hs;clear NY en hs;have pW:az w.heap.size w wr:=FH.out.trans (xC.out.mono FH.out.size);have Vy:=aj pW;clear pW;obtain⟨sm,sf⟩:=s;go_wp2
   (try simp only[Exit.inBlock,Exit.then,Exit.noGoto_ret])
   go_ret3
   exact⟨by rw[SK.out];rfl,Vy.out⟩
end Go.Proofs.YtffladgmkiimjaaGreatDoor
namespace Go.Lag
open Go Go.RowKit Go.Conc Go.Proofs.YtffladgmkiimjaaGreatDoor
namespace Gd
section
variable{P:aL}{aN:Array Oper}{Q:Exit->Act->ar->Prop}{Vs:List Pred}{S:ar->Prop}{base:List (Tmp × ak)}{n:Nat}
end
end Gd
theorem kz(W:ar)(I:Nat->dK->Nat)(d:Nat):Old W (dB W I d):=⟨rfl,rfl,ax _,fun _ _=>rfl⟩
section
variable{P:aL}{aN:Array Oper}{Q:Exit->Act->ar->Prop}{n:Nat}
theorem Mc(T:Quiet P)(hm:P.follows .mixedOrders=true){id:Nat}{y:Code}{a0:Act}{W:ar}(hf:∀e a w,Q e a w->tv e=true)(Vs:List Pred)(base:List (Tmp × ak))(cY:ji aN n base=true)(hn:a0.tmps.size=n)(hbase:fZ a0.eval base)(C9:jv (Old W) Vs)
  (hE:Gd.Each (Yields P) aN Vs (Old W) base 0 aN.toList) (hy:∀a w,jm aN Vs (Old W) a0 (bE aN.size true) a w->nw P y Q a w):nw P (.seq (.region id aN true) y) Q a0 W:=
 nM T hf (fun a w=>jm aN Vs (Old W) a0 (bE aN.size true) a w) (fun I d=>
  Gd.bY hm Vs (Old W) base (by rw[hn];exact cY) C9 (fun _ _ h hb=>h.trans (Old.of_below hb)) ((kz W I d).trans ⟨rfl,rfl,ax _,fun _ _=>rfl⟩) hbase hE fun a w h=>⟨rfl,h⟩) hy
theorem ek{R:Act->ar->Prop}(hf:∀e a w,Q e a w->tv e=true):∀e a w,Exit.then R Q e a w->tv e=true:=fun e a w h=>by cases e<;>first|rfl|exact hf _ a w h
theorem sG(T:Quiet P){a:Act}{W:ar}(hf:∀e a w,Q e a w->tv e=true)(h:∀I d,Q .normal a (dB W I d)):nw P .skip Q a W:=kI T hf fun I d=>wp_skip (h I d)
def Ya(P:aL)(o:Oper)(ev:Operand->ak)(W:ar)(R:ak->ar->Prop):Prop:=
 ∃f args R2,(∀w,(execOp ev o).run P w=.ok (.enter f args) w)/\jW P f args W R2/\∀v W',R2 v W'->R v W'
end
section
variable{P:aL}{aN:Array Oper}{Q:Exit->Act->ar->Prop}{n:Nat}
theorem Qn(T:Quiet P){a:Act}{W:ar}{c:Operand}{x y:Code}{t:Bool}(hc:a.eval c=.bool t)(h1:t=true->nw P x Q a W)(h2:t=false->nw P y Q a W):nw P (.cond c x y) Q a W:=by
 cases t
 .exact oB T hc (h2 rfl)
 exact oB T hc (h1 rfl)
end
section
variable{P:aL}{aN:Array Oper}{base:List (Tmp × ak)}{C:Cf}{n:Nat}{S:ar->Prop}{outs:List (Tmp × ak)}{Q:Exit->Act->ar->Prop}{s:Sem Next}{w:ar}{v:ak}
def VC(P:aL)(s:Sem Next)(w:ar)(v:ak):Prop:=∃f args R2,look P #[] s=some (.enter f args,[])/\jW P f args w R2/\∀v' W',R2 v' W'->v'=v/\Old w W'
theorem gv{f:FuncId}{args:Array ak}(h:jW P f args w fun u W'=>u=v/\Old w W')(he:look P #[] s=some (.enter f args,[]):=by kernel_rfl):VC P s w v:=⟨f,args,_,he,h,fun _ _ h=>h⟩
end
section
variable{P:aL}{aN:Array Oper}{base:List (Tmp × ak)}{C:Cf}{n:Nat}{S:ar->Prop}{a0:Act}
variable{Q:Exit->Act->ar->Prop}
def YV(P:aL):mE:=fun o ev w R=>(∀I d,Yields P o ev (dB w I d) R)\/Ya P o ev w R
theorem PI(T:Quiet P):wO aN (eH P aN Q) (YV P):=
 ⟨fun i rest o a w R ho hw hY hk=>by
  rcases hY with h|⟨f,args,R2,he,hc,h2⟩
  .exact gg T ho hw fun I d=>(h I d).wp fun v w' hv=>hk v w' hv
  exact rr T ho hw he hc fun v W' _ hv=>hk v W' (h2 v W' hv),
 fun i rest o a w ho hw hk=>Kh T ho (by simpa using hw) hk⟩
theorem dQ(T:Quiet P)(i k m:Nat)(C:Cf)(outs:List (Tmp × ak)){dM:List (Tmp × ak)}{W:ar}(hF:ij n a0 base)(hF2:ij n a0 dM)(hm:nL (Old W) C.mem)(hh:SJ P aN base C (fun _=>l7 P) (Old W) i C.hs)(hy:vd (fun l=>∀a w,Old W w->ij n a l->eH P aN Q (bR (i+k) m) a w) outs dM)(hr:zb P aN base C n dM i k outs=za P aN base C i k outs:=by kernel_rfl):eH P aN Q (bR i (k+m)) a0 W:=
 IX (T:=Old) (PI T) (fun _ _ h hb=>h.trans hb) Old.refl (fun i _ s w v h=>gr h)
  (fun i o ev w v R hS hg hR=>.inl fun I d=>(hg _ (hS.trans (kz w I d))).yields fun w' hb=>hR w' ((kz w I d).trans (Old.of_below hb))) hF hF2 hr (Old.refl _) hm hh hy
def GX(P:aL)(kv i:Nat):Sem Next->ar->ak->Prop:=match Nat.beq i kv with|true=>VC P|false=>l7 P
theorem Wx(T:Quiet P)(kv i k m:Nat)(C:Cf)(hkv:(l8 C.hs kv).isSome=true)(outs:List (Tmp × ak)){dM:List (Tmp × ak)}{W:ar}(hF:ij n a0 base)(hF2:ij n a0 dM)(hm:nL (Old W) C.mem)(hh:SJ P aN base C (GX P kv) (Old W) i C.hs)(hy:vd (fun l=>∀a w,Old W w->ij n a l->eH P aN Q (bR (i+k) m) a w) outs dM)(hr:zb P aN base C n dM i k outs=za P aN base C i k outs:=by kernel_rfl):eH P aN Q (bR i (k+m)) a0 W:=
 IX (T:=Old) (PI T) (fun _ _ h hb=>h.trans hb) Old.refl (fun i hi s w v h=>by
   unfold GX;cases hb:Nat.beq i kv with
   |true=>rw[Nat.eq_of_beq_eq_true hb] at hi;rw[hi] at hkv;cases hkv
   |false=>exact gr h)
  (fun i o ev w v R hS hg hR=>by
   unfold GX at hg;cases hb:Nat.beq i kv with
   |true=>
    simp only[hb] at hg;obtain⟨f,args,R2,h1,h2,h3⟩:=hg w hS;exact .inr ⟨f,args,R2,fun w9=>nj h1 (by simp),h2,fun v' W' hv=>by obtain⟨rfl,ho⟩:=h3 v' W' hv;exact hR _ ho⟩
   |false=>
    simp only[hb] at hg
    exact .inl fun I d=>(hg _ (hS.trans (kz w I d))).yields fun w' hb=>hR w' ((kz w I d).trans (Old.of_below hb))) hF hF2 hr (Old.refl _) hm hh hy
section
variable{id:Nat}{y:Code}{W:ar}{dM:List (Tmp × ak)}
theorem Zm(h:nw P y Q a0 W)(I:Nat->dK->Nat)(d:Nat):nw P y Q a0 (dB W I d):=(V4 (I:=W.tape) (d:=W.drawn) h)
theorem mZ(T:Quiet P){N:Nat}(hN:aN.size=N)(h:eH P aN (Exit.then (fun a w=>nw P y Q a w) Q) (bR 0 N) a0 W):nw P (.seq (.region id aN false) y) Q a0 W:=
 kq T (tP T (by rw[List.range_eq_range',hN];exact h))
theorem mY(T:Quiet P)(hf:∀e a w,Q e a w->tv e=true){i:Nat}(h:nw P y Q a0 W):eH P aN (Exit.then (fun a w=>nw P y Q a w) Q) (bR i 0) a0 W:=
 rq T (ek hf) fun I d=>Zm h I d
theorem Gq(T:Quiet P)(hf:∀e a w,Q e a w->tv e=true)(C:Cf)(outs:List (Tmp × ak))(hF:ij n a0 base)(hF2:ij n a0 dM)(hm:nL (Old W) C.mem)(hh:SJ P aN base C (fun _=>l7 P) (Old W) 0 C.hs)(hy:vd (fun l=>∀a w,Old W w->ij n a l->nw P y Q a w) outs dM)(hr:zb P aN base C n dM 0 aN.size outs=za P aN base C 0 aN.size outs:=by kernel_rfl):nw P (.seq (.region id aN false) y) Q a0 W:=
 mZ T rfl (dQ (hr:=hr) T 0 aN.size 0 C outs hF hF2 hm hh (hy.mono fun l h a w ho hl=>mY T hf (h a w ho hl)))
theorem ckX(T:Quiet P)(hf:∀e a w,Q e a w->tv e=true)(kv:Nat)(C:Cf)(hkv:(l8 C.hs kv).isSome=true)(outs:List (Tmp × ak))(hF:ij n a0 base)(hF2:ij n a0 dM)(hm:nL (Old W) C.mem)(hh:SJ P aN base C (GX P kv) (Old W) 0 C.hs)(hy:vd (fun l=>∀a w,Old W w->ij n a l->nw P y Q a w) outs dM)(hr:zb P aN base C n dM 0 aN.size outs=za P aN base C 0 aN.size outs:=by kernel_rfl):nw P (.seq (.region id aN false) y) Q a0 W:=
 mZ T rfl (Wx (hr:=hr) T kv 0 aN.size 0 C hkv outs hF hF2 hm hh (hy.mono fun l h a w ho hl=>mY T hf (h a w ho hl)))
end
section
variable{dM:List (Tmp × ak)}{i m:Nat}{W:ar}
theorem Zy(T:Quiet P)(C:Cf)(d:Option Tmp){R:ak->ar->Prop}(hF:ij n a0 base)(hF2:ij n a0 dM)(hc:CS P aN base C n dM i d=true)(hY:∀w,Old W w->Yields P (opAt aN i) (rh base []) w R)
  (hk:∀v w,R v w->∀a,ij n a (iD d v dM)->eH P aN Q (bR (i+1) m) a w):eH P aN Q (bR i (m+1)) a0 W:=
 Iu (PI T) hF hF2 hc (fun ev he=>.inl fun I d=>(hY _ (kz W I d)).ex he) hk
theorem yB(T:Quiet P)(C:Cf)(d:Option Tmp){f:FuncId}{args:Array ak}{Φ:ar->Ending->ar->Prop}(hF:ij n a0 base)(hF2:ij n a0 dM)(hc:∀w,Old W w->bu P f args w (Φ w))(hk:∀w0 e w,Old W w0->Φ w0 e w->∃v,e=.returned v/\∀a,ij n a (iD d v dM)->eH P aN Q (bR (i+1) m) a w)(he:(CS P aN base C n dM i d,look P #[] (execOp (rh base []) (opAt aN i)))=(true,some (.enter f args,[])):=by kernel_rfl):eH P aN Q (bR i (m+1)) a0 W:=by
 rw[iO] at he;exact Zy T C d (R:=fun v w=>∀a,ij n a (iD d v dM)->eH P aN Q (bR (i+1) m) a w) hF hF2 he.1 (fun w hw=>.call (nj he.2 (by simp)) (hc w hw) fun e w' h=>hk w e w' hw h) fun v w h=>h
theorem Vg(T:Quiet P)(C:Cf)(d:Option Tmp){f:FuncId}{args:Array ak}{Φ:ak->ar->Prop}(hF:ij n a0 base)(hF2:ij n a0 dM)(hc:jW P f args W Φ)(hk:∀v w,Φ v w->∀a,ij n a (iD d v dM)->eH P aN Q (bR (i+1) m) a w)(he:(CS P aN base C n dM i d,look P #[] (execOp (rh base []) (opAt aN i)))=(true,some (.enter f args,[])):=by kernel_rfl):eH P aN Q (bR i (m+1)) a0 W:=by
 rw[iO] at he;exact Iu (PI T) hF hF2 he.1 (fun ev hx=>.inr ⟨f,args,Φ,fun w=>by rw[hx];exact nj he.2 (by simp),hc,fun v W' h=>h⟩) hk
theorem nH(T:Quiet P)(C:Cf)(d:Option Tmp)(vf:Nat->ak)(cs:Array ak)(t:TypeId)(hF:ij n a0 base)(hF2:ij n a0 dM)(hk:∀B w a,W.heap.size<=B->Old W w->w.heap[B]?=some (.cells cs t (0,0))->ij n a (iD d (vf B) dM)->eH P aN Q (bR (i+1) m) a w)(hc:CS P aN base C n dM i d=true:=by kernel_rfl)(he:∀r,TJ P r (execOp (rh base []) (opAt aN i))=some (cs,t,0,0,some (.value (vf r),[])):=by intro r;kernel_rfl):eH P aN Q (bR i (m+1)) a0 W:=
 Zy T C d (R:=fun v w=>∃B,v=vf B/\W.heap.size<=B/\Old W w/\w.heap[B]?=some (.cells cs t (0,0))) hF hF2 hc (fun w hw=>.value (PD (he _)) ⟨_,rfl,hw.size,hw.trans (Old.of_below ((au _ _).alloc (ax _) _)),ay _ _⟩)
  fun v w ⟨B,e,h1,h2,h3⟩ a hl=>hk B w a h1 h2 h3 (e▸hl)
theorem Yn.old{B:Nat}{V w w':ar}(h:Yn B w w')(ho:Old V w)(hB:V.heap.size<=B):Old V w':=⟨h.os.trans ho.os,h.output.trans ho.output,by rw[h.size];exact ho.size,fun k hk=>(h.block k (by omega)).trans (ho.block k hk)⟩
theorem Tg(T:Quiet P)(C:Cf){B:Nat}(cs cs':Array ak){t:TypeId}(l:List Nat)(hF:ij n a0 base)(hF2:ij n a0 dM)(hB:W.heap[B]?=some (.cells cs t (0,0)))(hk:∀w a,(∀V,Old V W->V.heap.size<=B->Old V w)->w.heap[B]?=some (.cells cs' t (0,0))->ij n a dM->eH P aN Q (bR (i+1) m) a w)(he:(CS P aN base C n dM i none,(stores P (execOp (rh base []) (opAt aN i))).map fun q=>(q.map (·.1),(q.all fun p=>Nat.blt p.2.1 cs.size),AK cs q))=(true,some (l.map fun _=>B,true,cs')):=by kernel_rfl):eH P aN Q (bR i (m+1)) a0 W:=by
 obtain⟨h1,h2⟩:=Yr C cs cs' hB l he
 exact Zy T C none (R:=fun v w=>(∀V,Old V W->V.heap.size<=B->Old V w)/\w.heap[B]?=some (.cells cs' t (0,0))) hF hF2 h1 (fun w hw=>by
  obtain⟨w',g1,g2,g3⟩:=h2 w ((hw.block B (ai.1 hB).1).trans hB)
  exact .skip g1 ⟨fun V hV hs=>g3.old (hV.trans hw) hs,g2⟩) fun v w h a hl=>hk w a h.1 h.2 hl
end
end
end Go.Lag
namespace Go.Proofs.YtffladgmkiimjaaGreatDoor
open Go.RowKit Go.Lag
theorem eU.nil{b:BB}(h:b.Ok):eU b []:=⟨by simp,by simp,by have:=h.eh;simpa using this.1⟩
theorem eU.next{b:BB}{pl:List Int}(h:eU b pl){k:Nat}(hk:∀p∈pl,p<=k)(h1:(k:Int)+1<=b.minutes)(h2:(pl.length:Int)<b.eh):eU b (pl++[((k:Int)+1)]):=by
 refine⟨fun p hp=>?_,fun i hi=>?_,by simp;omega⟩
 .rcases bI.1 hp with hp|hp
  .exact h.mem p hp
  simp at hp;omega
 simp at hi
 by_cases hi':i+1<pl.length
 .rw[List.getElem_append_left (by omega),List.getElem_append_left hi'];exact h.asc i hi'
 have:=hk pl[i] (bV (by omega));rw[List.getElem_append_left (by omega),List.getElem_append_right (by omega)];simp;omega
theorem KT(b:BB)(hb:b.Ok)(p1 p2 p3:Option Addr)(n1 c1 n2 c2 n3 c3:Nat)(x:Int)(w:ar) :
  bu aq 31 #[aR (b.cells (ae p1 n1 c1) (ae p2 n2 c2) (ae p3 n3 c3)),ah .u16 x] w fun e w'=>∃v pl,e=aF v/\eU b pl/\w'.ownsRow w.heap.size 3 1 v pl.length (pl.map (aB ag))/\az w.heap.size w w':=by
 obtain⟨i0,hi,hz0,hz1,hz2⟩:=info_parts info3;have hm:=hb.minutes;have hc:=hb.eh;have HN:=aj (eU.nil hb)
 go_enter Tryz.func31,Tryz.ntmps31
 go_wp2
 go_loopw [5,6] (fun v i wr=>∃(k:Nat) (pl:List Int),(k:Int)<=b.minutes/\i=ah ag (k+1)/\eU b pl/\(∀p∈pl,p<=k)/\wr.ownsRow (w.heap.size+1) 3 1 v pl.length (pl.map (aB ag))/\az (w.heap.size+1) (w.alloc (aw (b.cells (ae p1 n1 c1) (ae p2 n2 c2) (ae p3 n3 c3)) 28)) wr)
  (fun _ i _=>10-(intOf i).toNat)
 case atStart=>exact⟨0,[],by omega,rfl,HN.out,by simp,World.ownsRow_nil _ _ _ _,au _ _⟩
 case round=>
  obtain⟨k,pl,hk,rfl,hpl,hle,hown,en⟩:=hrel;obtain⟨po,co,rfl⟩:=dA hown;have K:=aJ (aG (ay w (aw (b.cells (ae p1 n1 c1) (ae p2 n2 c2) (ae p3 n3 c3)) 28)) (en.mono (by simp)));have z3:wr.cell? ⟨w.heap.size,3,none⟩=some (ah ag b.minutes):=K 3 _ rfl;have z6:wr.cell? ⟨w.heap.size,6,none⟩=some (ah ag b.eh):=K 6 _ rfl;clear K;have H1:=aj hpl;have H2:=aj hle;clear hpl hle;have hB:w.heap.size+1<=wr.heap.size:=by simpa using en.size
  have pW:az w.heap.size w wr:=((au _ _).alloc (ax _) _).trans (en.mono (by omega))
  by_cases hlt:(k:Int)+1<=b.minutes
  .by_cases hlc:(pl.length:Int)<b.eh
   .go_wp2_with (at_builtin;refine wpList_append_own _ rfl _ _ 25 rfl (w.heap.size+1) 3 i0 (ah ag 0) 1 8 Tryz.underlying25 hi hz0 hz1 hz2 rfl (by decide) _ _ _ rfl (hown.alloc _) ⟨wr.heap.size,0,none⟩ 1 1 [ah ag (k+1)] rfl rfl ?c1 ?c2 ?c3 ?c4 ?c5 ?_)
    case c1=>
     intro j u hj
     match j,hj with
     |0,hj=>simp at hj;subst hj;simp[Addr.add]
    case c2=>intro u hu;simp at hu;subst hu;rfl
    case c3=>unfold maxLen;omega
    case c4=>omega
    case c5=>simp;omega
    .intro v' w1 hown' hgrow _;have hb1:az (w.heap.size+1) _ w1:=tM hB hown en hgrow;clear hgrow en hown
     have adS:∀p∈pl++[((k:Int)+1)],p<=((k+1:Nat):Int):=by
      intro p hp;rcases bI.1 hp with hp|hp
      .have:=H2.out p hp;omega
      simp at hp;omega
     have HL:=aj adS;clear adS;go_wp2;go_roundw
     case rel=>exact⟨k+1,pl++[((k:Int)+1)],by omega,by go_num,H1.out.next H2.out hlt hlc,HL.out,by simpa using hown',hb1⟩
     case measure=>simp[intOf];omega
    go_roundw
    case rel=>exact⟨k+1,pl,by omega,by go_num,H1.out,fun p hp=>by have:=H2.out p hp;omega,hown,en⟩
    case measure=>simp[intOf];omega
   go_wp2
   go_ret
   exact⟨_,rfl,pl,H1.out,ownsRow_base hown (by omega),pW⟩
  go_wp2
  go_ret
  exact⟨_,rfl,pl,H1.out,ownsRow_base hown (by omega),pW⟩
end Go.Proofs.YtffladgmkiimjaaGreatDoor
