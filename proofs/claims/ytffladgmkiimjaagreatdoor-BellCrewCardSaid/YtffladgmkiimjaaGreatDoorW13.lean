/- pick (95): beside leavers. What good is handed. pick (95): its end, be .. -/
import Derived.Test.YtffladgmkiimjaaGreatDoorW12
import Derived.Test.YtffladgmkiimjaaGreatDoorW02
import Derived.Test.YtffladgmkiimjaaGreatDoorW03
import Derived.Test.YtffladgmkiimjaaGreatDoorW01
import Derived.Test.YtffladgmkiimjaaGreatDoorW04
set_option linter.all false
set_option maxHeartbeats 100000000
set_option maxRecDepth 1000000
open Array renaming getElem?_eq_some_iff → ak,replicate_zero → jU,replicate_succ → jV
open Go renaming undef → af,Value → aj,World → ar,Calls → bm,bodyPost_ret → bn
open Go.Ending renaming returned → aC
open Go.IntKind renaming i64 → ag
open Go.Lib renaming hid → ai
open Go.Obj renaming cells → au
open Go.Operand renaming tmp → aJ
open Go.Proofs.Tryz renaming prog → aq,underlying28 → cG,underlying122 → iM
open Go.RowKit renaming Below → az
open Go.RowKit.Below renaming refl → aw,heap_setCell → bj
open Go.Value renaming bool → aF,int → aG,agg → aO,slice → ae,int → ah,tuple → cA,oneCell' → cu,ownBlock → jc
open Go.World renaming alloc_heap_new → ay,size_alloc → dW
open List renaming range → aT,mem_range → bt,length_pos_iff → cQ,getD_cons_zero → fS,getD_cons_succ → fT,length_cons → gi,append_toArray → ia,cons_append → ik,nil_append → j4,size_toArray → jw,push_toArray → jx,mem_flatMap → mG,map → nA,length_nil → od
open List.range renaming loop → bT
open Nat renaming reduceSub → CG,reduceAdd → CH,le_refl → ax,lt_of_lt_of_le → bB
namespace Go.Proofs.YtffladgmkiimjaaGreatDoor
open Go.RowKit Go.Lag
open Go.Conc
def MP(u:aj):Prop:=(∃k n,u=.int k n)∨∃s,u=.string s
def Plain(w:ar)(v:aj):Prop:=∀g,v.ownBlock=some g→1≤g∧∃cs e z,w.heap[g]?=some (.cells cs e z)∧∀u∈cs,MP u
theorem Plain.old{w w':ar}{v:aj}(h:Plain w v)(ho:Old w w'):Plain w' v:=fun g hg=>by
 obtain⟨h1,cs,e,z,h2,h3⟩:=h g hg;exact⟨h1,cs,e,z,(ho.block g (eE h2)).trans h2,h3⟩
theorem cI.old{b:BB}{men sent marks:aj}{ml:List Mn}{ss:List Int}{ms:List Mk}{w w':ar}(h:cI b men sent marks ml ss ms w)(ho:Old w w'):cI b men sent marks ml ss ms w':=
 ⟨h.ok,h.gX,h.l9,h.kE,h.rm.old ho,h.rs.old ho,h.rk.old ho⟩
theorem Laid.old{w w':ar}(h:Laid w)(hb:Old w w'):Laid w':=
 ⟨(hb.cell (a:=⟨0,0,none⟩) h.lt).trans h.c0,(hb.cell (a:=⟨0,1,none⟩) h.lt).trans h.c1,(hb.cell (a:=⟨0,2,none⟩) h.lt).trans h.c2,(hb.cell (a:=⟨0,3,none⟩) h.lt).trans h.c3,(hb.cell (a:=⟨0,4,none⟩) h.lt).trans h.c4,bB h.lt hb.size⟩
theorem gP.old{w w':ar}{base:Nat}{v:aj}{l:List dT}(h:gP w base v l)(ho:Old w w'):gP w' base v l:=h.at_ fun g hg=>ho.block g (h.1.lt g hg).2
theorem P8{w:ar}{base:Nat}{v:aj}{l:List dT}(h:gP w base v l)(hb:1≤base):Plain w v:=fun g hg=>by
 obtain⟨cur,h1,h2⟩:=h.2 g hg;have h3:=(h.1.lt g hg).1;exact⟨by omega,cur,_,_,h1,fun u hu=>.inl ⟨_,h2 u hu⟩⟩
theorem GM(ok:dT→Bool):∀(r:List Mn) (iX:Nat) (a:dT),a.Ok→(∀m∈r,1≤m.lo∧m.hi≤99)→∀x∈leaves ok r iX a,x.Ok
 |[],iX,a,ha,_,x,hx=>by
  simp only[leaves] at hx;split at hx
  ·simp at hx;subst hx;exact ha
  ·cases hx
 |m::r,iX,a,ha,hm,x,hx=>by
  simp only[leaves,mG] at hx;obtain⟨n,hn,hx⟩:=hx;simp only[fh,List.mem_map,bt] at hn;obtain⟨i,hi,rfl⟩:=hn;have:=hm m (by simp);exact GM ok r (iX+1) _ (dT.MI ha iX (by omega) (by omega)) (fun m' h=>hm m' (by simp[h])) x hx
theorem nT{b:BB}{ml:List Mn}{ss:List Int}{ms:List Mk}(hb:b.Ok)(hm:mR ml):∀x∈aX b ml ss ms,x.Ok:=by
 intro x hx;simp only[aX,mG] at hx;obtain⟨n,hn,hx⟩:=hx;simp only[fh,List.mem_map,bt] at hn;obtain⟨i,hi,rfl⟩:=hn;have:=hb.leak;exact GM _ ml 0 ⟨b.ll+i,0,0,0⟩ ⟨⟨by show 0≤b.ll+i;omega,by show b.ll+(i:Int)≤400;omega⟩,by simp,by simp,by simp⟩ (fun m h=>⟨(hm.mem m h).2.1,(hm.mem m h).2.2.2.1⟩) x hx
theorem WI{b:BB}{men sent marks all:aj}{ml:List Mn}{l:List dT}{ss:List Int}{ms:List Mk}{W:ar}(hB:cI b men sent marks ml ss ms W)(hl:∀x∈l,x.Ok)(h1:Plain W men)(h2:Plain W sent)(h3:Plain W marks)(h4:Plain W all)
  (ha:Reads W all l.length (rowOf l)) (hg:1≤W.heap.size):∃Y,UL aq b men sent marks all l ss ms Y W:=by
 have hm:=hB.ok.minutes
 have vr:∀(Y:Nat→Prop) (v:aj) (n:Nat) (xs:List aj),Reads W v n xs→(∀g,v.ownBlock=some g→Y g)→VR fw (xE Y) v v∧l8 Y W v n xs:=by
  intro Y v n xs hr hy;rcases hr with⟨rfl,rfl,rfl⟩|⟨g,off,cap,rfl,h,hg,hc⟩
  ·exact⟨.D6 _ _,.inl ⟨rfl,rfl,rfl⟩⟩
  ·exact⟨.slice _ _ ⟨uZ (hy g rfl),rfl,rfl⟩,.inr ⟨g,off,cap,rfl,h,hy g rfl,hc⟩⟩
 refine⟨fun k=>men.ownBlock=some k∨sent.ownBlock=some k∨marks.ownBlock=some k∨all.ownBlock=some k,?_⟩
 have pl:∀(Y:Nat→Prop) (u:aj),MP u→VR fw (xE Y) u u:=by
  rintro Y u (⟨k,n,rfl⟩|⟨s,rfl⟩)
  ·exact .int _ _
  ·exact .string _
 have m1:=vr (fun k=>men.ownBlock=some k∨sent.ownBlock=some k∨marks.ownBlock=some k∨all.ownBlock=some k) men _ _ hB.rm fun g h=>.inl h;have m2:=vr (fun k=>men.ownBlock=some k∨sent.ownBlock=some k∨marks.ownBlock=some k∨all.ownBlock=some k) sent _ _ hB.rs fun g h=>.inr (.inl h);have m3:=vr (fun k=>men.ownBlock=some k∨sent.ownBlock=some k∨marks.ownBlock=some k∨all.ownBlock=some k) marks _ _ hB.rk fun g h=>.inr (.inr (.inl h));have m4:=vr (fun k=>men.ownBlock=some k∨sent.ownBlock=some k∨marks.ownBlock=some k∨all.ownBlock=some k) all _ _ ha fun g h=>.inr (.inr (.inr h))
 have Wb:∀c,(men.ownBlock=some c∨sent.ownBlock=some c∨marks.ownBlock=some c∨all.ownBlock=some c)→1≤c∧∃cs e z,W.heap[c]?=some (.cells cs e z)∧∀u∈cs,MP u:=by
  rintro c (h|h|h|h)
  ·exact h1 c h
  ·exact h2 c h
  ·exact h3 c h
  ·exact h4 c h
 have BR:Tryz.prog.globals.size=1:=by kernel_rfl
 exact⟨rfl,Tryz.func159,Tryz.func178,by kernel_rfl,by kernel_rfl,hB.ok,hl,fun s hs=>by have:=hB.l9.mem s hs;omega,fun m h=>by have:=hB.kE.mem m h;omega,
  fun c hc=>by obtain⟨_,cs,e,z,h,hu⟩:=Wb c hc;exact⟨cs,e,z,h,fun u hu'=>pl _ u (hu u hu')⟩,fun c hc=>by rw[BR];exact(Wb c hc).1,by rw[BR];exact hg,m1.1,m2.1,m3.1,m4.1,m2.2,m3.2,m4.2⟩
def Yk(lt:Nat→Nat→Bool)(acc:List Nat)(W:ar)(v:aj)(W':ar):Prop:=
 ∃(x:Nat) (r:List Nat) (lv:aj),(x::r).Perm acc∧v=cA #[lv,aF true,ah ag 0]∧Reads W' lv (gJ (jB lt x r)).length ((gJ (jB lt x r)).map (aG ag))∧Old W W'
noncomputable def Sn:Code:=sR (sR (sR (sR (match Tryz.f95.body with|some c=>c|_=>.skip))))
theorem DG{W W':ar}{v:aj}{n:Nat}{xs:List aj}(h:Reads W v n xs)(hb:az W.heap.size W W'):Reads W' v n xs:=h.below hb
theorem Sr(g:FuncId)(lt:Nat→Nat→Bool)(KU:∀(first:Nat),first<512→∀(more:List Nat),(∀x∈more,x<512)→∀(v:aj) (w:ar),Reads w v more.length (more.map fun(p:Nat)=>aG ag (p:Int))→
   bm aq 160 #[.func (.func g) #[] #[],ah ag first,v] w fun e w'=>e=aC (ah ag (jB lt first more:Nat))∧az w.heap.size w w')
  (x:Nat) (r:List Nat) (hx:x<512) (hr:∀y∈r,y<512) (out:aj) (W:ar) (ho:Reads W out (x::r).length (ints (x::r))) (acc:List Nat) (hp:(x::r).Perm acc) (W0:ar) (hold:Old W0 W)
  (t0 t2 t7 t8 t10 t11 t12 t13 t14 t15 t16 t17 t18 t19:aj) :
  Sn.wp aq (bodyPost aq Tryz.f95 fun e w'=>∃v,e=aC v∧Yk lt acc W0 v w')
   ⟨#[t0,.func (.func g) #[] #[],t2,af,ae none 0 0,aF false,ah ag 0,t7,t8,out,t10,t11,t12,t13,t14,t15,t16,t17,t18,t19,af,af,af,af,af,af,af,af,af,af,af],[]⟩ W:=by
 obtain⟨go,oo,cap,rfl,hlen,hgo,hcell⟩:∃go oo cap,out=ae (some ⟨go,oo,none⟩) (r.length+1) cap∧(r.length+1≤4294967296∧r.length+1≤cap)∧go<W.heap.size∧∀j u,(ints (x::r))[j]?=some u→W.cell? ⟨go,oo+j,none⟩=some u:=by
  rcases ho with⟨_,h,_⟩|h
  ·simp at h
  ·exact h
 have HC0:Hid (∀w,az W.heap.size W w→w.cell? ⟨go,oo,none⟩=some (ah ag x)):=ai fun w hb=>(hb.cell (p:=⟨go,oo,none⟩) hgo).trans (hcell 0 _ (by simp[ints]))
 have UC:Hid (∀w,az W.heap.size W w→Reads w (ae (if cap=1 then some ⟨go,oo,none⟩ else some ⟨go,oo+1,none⟩) r.length (cap-1)) r.length (r.map fun(p:Nat)=>aG ag (p:Int))):=ai fun w hb=>
  if h1:cap=1 then by
   have h0:r=[]:=List.eq_nil_of_length_eq_zero (by omega);subst h0;rw[if_pos h1];exact .inr ⟨go,oo,cap-1,rfl,⟨by simp,by simp⟩,bB hgo hb.size,fun j u hj=>by simp at hj⟩
  else by
  rw[if_neg h1]
  exact .inr ⟨go,oo+1,cap-1,rfl,by omega,bB hgo hb.size,fun j u hj=>(hb.cell (p:=⟨go,_,none⟩) hgo).trans (by
   have:=hcell (j+1) u (by simpa [ints] using hj)
   rwa [show oo+(j+1)=oo+1+j by omega] at this)⟩
 have HBe:=ai KU;have HHx:=ai hr;have HPm:=ai hp;have HOl:=ai hold;clear KU hr hp hold hcell ho;generalize hM:r.length=M at *;have HM:=ai hM;clear hM;have hbl:jB lt x r<512:=zO lt r x hx HHx.out;have l1:((M:Int)+1==0)=false:=by simp;omega
 have l2:(1:Int)≤(M:Int)+1:=by omega
 simp only[Sn,sR,Tryz.f95];go_wp2
 refine bQ (by kernel_rfl) [
 pV (.func (.func g) #[] #[]),
  pV (ae (some ⟨go,oo,none⟩) (M+1) cap),
  pV (pv go oo),
  pV (ah ag x),
  pV (ae (some ⟨go,oo,none⟩) (M+1) cap),
  pV ((ae (if cap=1 then some ⟨go,oo,none⟩ else some ⟨go,oo+1,none⟩) M (cap-1))),
  pV (ah ag (jB lt x r:Nat)),
  fun v ds w9=>Reads w9 v (gJ (jB lt x r)).length ((gJ (jB lt x r)).map (aG ag)),
  fun v ds w9=>Reads w9 v (gJ (jB lt x r)).length ((gJ (jB lt x r)).map (aG ag)),
  pV (aF true),
  pV (ah ag 0)]
  (fun w=>az W.heap.size W w) [(1,.func (.func g) #[] #[]),(9,ae (some ⟨go,oo,none⟩) (M+1) cap)] (by kernel_rfl) ?rst (fun w1 w2 h hb=>h.trans (hb.mono h.size)) ((aw _ _).drew) ⟨rfl,rfl,trivial⟩ ?reach ?rfin
 case rst=>
  refine⟨sV,sV,sV,sV,sV,sV,sV,?_,?_,sV,sV,trivial⟩
  ·rintro v ds w1 w2 hS h hb;exact DG h hb
  ·rintro v ds w1 w2 hS h hb;exact DG h hb
 case reach=>
  refine⟨?_,?_,?_,?_,?_,?_,?_,?_,?_,?_,?_,trivial⟩<;>rintro ev w1 hS hc hg hf ⟨b1,b9,-⟩ hd
  ·clear hd;exact tV
  ·clear hd;exact tV
  ·have d1:ev (aJ 24)=_:=hd.1 rfl;clear hd;exact tV
  ·have d2:ev (aJ 25)=_:=hd.1 rfl;clear hd;have z:=HC0.out w1 hS;exact tV
  ·clear hd;exact tV
  ·have d4:ev (aJ 27)=_:=hd.1 rfl;clear hd;exact tV
  ·have d0:ev (aJ 23)=_:=hd.1 rfl;have d3:ev (aJ 26)=_:=hd.2.1 rfl;have d5:ev (aJ 28)=_:=hd.2.2.1 rfl;clear hd;refine yc (args:=#[.func (.func g) #[] #[],ah ag x,(ae (if cap=1 then some ⟨go,oo,none⟩ else some ⟨go,oo+1,none⟩) M (cap-1))]) (HBe.out x hx r HHx.out _ _ (by have:=UC.out w1 hS;rw[←HM.out] at this;rw[←HM.out];exact this)) ?_ fun _=>rfl;go_simp
  ·have d6:ev (aJ 29)=_:=hd.1 rfl;clear hd;refine Lag.Yields.call (f:=99) (args:=#[ah ag (jB lt x r:Nat)]) ?_ (r8 _ hbl _) ?_
   ·go_simp
   ·rintro e w2 ⟨v,rfl,h1,hb⟩;exact⟨_,rfl,h1,.inl hb⟩
  ·exact yv rfl (hd.1 rfl)
  ·clear hd;exact tV
  ·clear hd;exact tV
 case rfin=>
  intro a2 w2 hR;have hS:=hR.s;have e8:Reads w2 (a2.tmps.getD 4 af) (gJ (jB lt x r)).length ((gJ (jB lt x r)).map (aG ag)):=hR.val 8 (by decide);have e9:a2.tmps.getD 5 af=_:=hR.val 9 (by decide);have Nx:a2.tmps.getD 6 af=_:=hR.val 10 (by decide);have ha:=hR.lits 31 rfl;simp only[aT,bT,nA] at ha;clear hR;rw[e9,Nx] at ha;generalize a2.tmps.getD 4 af=lv at *;generalize a2.tmps.getD=zz at ha;have ahI:Hid (Old W w2):=ai (Old.of_below hS);have HE8:=ai e8;clear e8 e9 Nx hS;subst ha;go_wp2
  go_ret3
  exact⟨_,rfl,x,r,lv,HPm.out,rfl,HE8.out,HOl.out.trans ahI.out⟩
theorem nH{P:Program}(T:Quiet P){x y:Code}{Q:Exit→Act→ar→Prop}{a:Act}{W:ar}(hf:∀e a w,Q e a w→sB e=true)(Q1:Act→ar→Prop)(hx:∀τ d,x.wp P (fun e a w=>e=.normal∧Q1 a w) a (dx W τ d))(hy:∀a w,Q1 a w→nt P y Q a w):nt P (.seq x y) Q a W:=
 Px T (fun e a w _ h=>hf e a w h) fun τ d=>wp_mono (hx τ d) (by rintro e a w ⟨rfl,h⟩;exact hy a w h)
theorem vM{W W':ar}{τ:Nat→Question→Nat}{d:Nat}(h:Old W (dx W' τ d)):Old W W':=⟨h.os,h.output,h.size,h.block⟩
theorem DX{W W':ar}{τ:Nat→Question→Nat}{d:Nat}(h:Old (dx W τ d) W'):Old W W':=⟨h.os,h.output,h.size,h.block⟩
theorem mW{W W':ar}(τ:Nat→Question→Nat)(d:Nat)(h:Old W W'):Old W (dx W' τ d):=⟨h.os,h.output,h.size,h.block⟩
theorem BL(b:BB)(men sent marks:aj)(w:ar):bm aq 122 #[aO (b.cells men sent marks)] w fun e w'=>e=aC (ah ag 0)∧az w.heap.size w w':=by
 go_enter Tryz.func122,Tryz.ntmps122
 go_wp2
 go_ret
 exact⟨rfl,(aw _ _).alloc (ax _) _⟩
structure Pk0(W:ar)(B:Nat)(cs:Array aj)(T:TypeId)(w:ar):Prop where
 old:Old W w
 blk:w.heap[B]?=some (au cs T (0,0))
structure Pk1(W:ar)(b:BB)(men sent marks:aj)(all:List dT)(B7:Nat)(v:aj)(w:ar):Prop where
 old:Old W w
 blk:w.heap[B7]?=some (au (b.open men sent marks v) 122 (0,0))
 own:gP w W.heap.size v all
section
variable{b:BB}{men sent marks:aj}{ml:List Mn}{ss:List Int}{ms:List Mk}{W:ar}
theorem Ss(g:FuncId)(lt:Nat→Nat→Bool)(hL:Laid W)(hB:cI b men sent marks ml ss ms W)(p1:Plain W men)(p2:Plain W sent)(p3:Plain W marks)(hne:aX b ml ss ms≠[])
  (xK:jQ b (dv ss ms).toNat (bE ss) (aX b ml ss ms) 512≠[]) (hlt:∀x∈jQ b (dv ss ms).toNat (bE ss) (aX b ml ss ms) 512,x<512)
  (KU:∀(first:Nat),first<512→∀(more:List Nat),(∀x∈more,x<512)→∀(v:aj) (w:ar),Reads w v more.length (more.map fun(p:Nat)=>aG ag (p:Int))→
   bm aq 160 #[.func (.func g) #[] #[],ah ag first,v] w fun e w'=>e=aC (ah ag (jB lt first more:Nat))∧az w.heap.size w w') :
  iV aq 95 #[aO (b.cells men sent marks),.func (.func g) #[] #[]] W (Yk lt (jQ b (dv ss ms).toNat (bE ss) (aX b ml ss ms) 512) W):=by
 refine kx quiet Tryz.func95 rfl ?hR ?body
 case hR=>
  rintro v W' τ d ⟨x,r,lv,h1,h2,h3,h4⟩;exact⟨x,r,lv,h1,h2,h3,vM h4⟩
 simp only[Tryz.ntmps95,jw,gi,od,CH,CG,jV,jU,jx,ia,j4,ik];refine nH quiet a7 (fun a w=>a=⟨#[aO (b.cells men sent marks),.func (.func g) #[] #[],pv W.heap.size 0,af,ae none 0 0,aF false,ah ag 0,af,af,af,af,af,af,af,af,af,af,af,af,af,af,af,af,af,af,af,af,af,af,af,af],[]⟩∧Pk0 W W.heap.size (b.cells men sent marks) 28 w) (fun τ d=>?_) ?_
 ·go_wp2;exact⟨DX (pW _ _),ay (dx W τ d) _⟩
 rintro a W1 ⟨rfl,⟨o1,x1⟩⟩;have jJ:0<(aX b ml ss ms).length:=cQ.2 hne;refine nH quiet a7 (fun a w=>∃(B7:Nat) (v t10 t11 t12 t13 t14:aj),a=⟨#[aO (b.cells men sent marks),.func (.func g) #[] #[],pv W.heap.size 0,af,ae none 0 0,aF false,ah ag 0,pv B7 0,ah ag 0,af,t10,t11,t12,t13,t14,af,af,af,af,af,af,af,af,af,af,af,af,af,af,af,af],[]⟩∧Pk1 W b men sent marks (aX b ml ss ms) B7 v w) (fun τ d=>?_) ?_
 ·have o1':Old W (dx W1 τ d):=mW τ d o1;obtain⟨c0,c1,c2,c3,c4,c5,c6,c7,c8,c9,c10,c11,c12,c13,c14⟩:=bN (w:=dx W1 τ d) x1;have HO:=ai (yP b men sent marks ml ss ms (dx W1 τ d) (hL.old o1') (hB.old o1') hne (fun W' _=>BL b men sent marks W'));have HO1:=ai o1';obtain⟨pm,cm,rfl,_⟩:=aR hB.rm;obtain⟨pn,cn,rfl,_⟩:=aR hB.rs;obtain⟨pk,ck,rfl,_⟩:=aR hB.rk;clear hL hB p1 p2 p3 hne xK hlt KU o1 o1' x1;generalize aX b ml ss ms=all at *;generalize ml.length=lm at *;generalize ss.length=ln at *;generalize ms.length=lk at *;generalize hW1:dx W1 τ d=W2 at *
  go_wp2_with (first
   |(go_at_call 103;refine HO.out.mono ?_;clear HO;rintro e w3 ⟨v,rfl,iY,hb3⟩
     obtain⟨gv,oK,rfl⟩:∃gv oK,v=ae (some ⟨gv,0,none⟩) all.length oK:=by
      rcases iY.1.2 with⟨_,h0⟩|⟨g,cap,cur,rfl,_⟩
      ·omega
      ·exact⟨g,cap,rfl⟩
     have L8:=ai iY;have pw:=ai hb3;clear iY hb3))
  have o3:Old W w3:=HO1.out.trans (Old.of_below pw.out);exact⟨_,o3.trans (pW _ _),ay w3 _,(L8.out.base HO1.out.size).old (pW _ _)⟩
 rintro a W2 ⟨B7,v,t10,t11,t12,t13,t14,rfl,⟨o2,x2,iY⟩⟩;refine nH quiet a7 (fun a w=>a=⟨#[aO (b.cells men sent marks),.func (.func g) #[] #[],pv W.heap.size 0,af,ae none 0 0,aF false,ah ag 0,pv B7 0,ah ag 0,af,t10,t11,t12,t13,t14,ah ag 0,aF false,af,af,af,af,af,af,af,af,af,af,af,af,af,af],[]⟩∧Pk1 W b men sent marks (aX b ml ss ms) B7 v w) (fun τ d=>?_) ?_
 ·go_wp2;exact⟨mW _ _ o2,x2,iY⟩
 rintro a W3 ⟨rfl,⟨o3,x3,afM⟩⟩;clear o2 x2 iY;refine j7 quiet (sT quiet ?_);refine fR (i:=0) (rest:=[1,2]) quiet rfl rfl fun τ d=>?_;refine wp_load_row 122 (aJ 7) rfl B7 rfl 122 _ (0,0) _ (w:=dx W3 τ d) x3 iM rfl (by kernel_rfl) ?_;have O5:=hB.old (mW τ d o3);have acG:gP (dx W3 τ d) W.heap.size v (aX b ml ss ms):=afM;have hW1:1≤W.heap.size:=hL.lt;obtain⟨Y,hG⟩:=WI (all:=v) (l:=aX b ml ss ms) O5 (nT hB.ok hB.gX) (p1.old (mW τ d o3)) (p2.old (mW τ d o3)) (p3.old (mW τ d o3)) (P8 acG hW1) (acG.reads (by have:=ju ss ms hB.ok hB.gX;omega)) (Nat.le_trans hW1 o3.size);refine qN (i:=1) (rest:=[2]) quiet rfl rfl (f:=159) (args:=#[aO (b.open men sent marks v)]) (fun w=>by kernel_rfl) (ZZ hG) ?_;rintro out W4 _ ⟨km,hr,hperm,ho4⟩;have o4:Old W W4:=(mW τ d o3).trans ho4;refine fR (i:=2) (rest:=[]) quiet rfl rfl fun τ1 d1=>?_;show ey aq _ _ [] _ _
 have afP:km≠[]:=by
  rintro rfl;exact xK hperm.symm.eq_nil
 obtain⟨x,r,rfl⟩:∃x r,km=x::r:=by
  cases km with
  |nil=>exact(afP rfl).elim
  |cons x r=>exact⟨x,r,rfl⟩
 have hx:=hlt x (hperm.subset (by simp));have hr2:∀y∈r,y<512:=fun y hy=>hlt y (hperm.subset (by simp[hy]));refine qM (l:=[]) quiet (fun e a w h=>by cases e<;>first|rfl|exact(h:False).elim) fun τ2 d2=>?_;refine kO quiet a7 fun τ3 d3=>xp ?_;have hend:=Sr g lt KU x r hx hr2 out (dx (dx (dx W4 τ1 d1) τ2 d2) τ3 d3) hr _ hperm W ⟨o4.os,o4.output,o4.size,o4.block⟩ (aO (b.cells men sent marks)) (pv W.heap.size 0) (pv B7 0) (ah ag 0) t10 t11 t12 t13 t14 (ah ag 0) (aF false) af (aO (b.open men sent marks v)) out;exact hend
end
def Po(p:Nat)(W:ar)(v:aj)(W':ar):Prop:=
 ∃lv:aj,v=cA #[lv,aF true,ah ag 0]∧Reads W' lv (gJ p).length ((gJ p).map (aG ag))∧Old W W'
theorem TT{b:BB}{men sent marks:aj}{ml:List Mn}{ss:List Int}{ms:List Mk}{W:ar}(hL:Laid W)(hB:cI b men sent marks ml ss ms W)(p1:Plain W men)(p2:Plain W sent)(p3:Plain W marks)(hne:aX b ml ss ms≠[])
  (xK:jQ b (dv ss ms).toNat (bE ss) (aX b ml ss ms) 512≠[]) (hlt:∀x∈jQ b (dv ss ms).toNat (bE ss) (aX b ml ss ms) 512,x<512) (p:Nat)
  (hp:∀x r,(x::r).Perm (jQ b (dv ss ms).toNat (bE ss) (aX b ml ss ms) 512)→jB sj x r=p):iV aq 20 #[aO (b.cells men sent marks)] W (Po p W):=by
 refine kx quiet Tryz.func20 rfl ?hR ?body
 case hR=>
  rintro v W' τ d ⟨lv,h1,h2,h3⟩;exact⟨lv,h1,h2,vM h3⟩
 simp only[Tryz.ntmps20,jw,gi,od,CH,CG,jV,jU,jx,ia,j4,ik];refine nH quiet a7 (fun a w=>a=⟨#[aO (b.cells men sent marks),pv W.heap.size 0,ae none 0 0,aF false,ah ag 0,af,af,af,af,af],[]⟩∧Pk0 W W.heap.size (b.cells men sent marks) 28 w) (fun τ d=>?_) ?_
 ·go_wp2;exact⟨DX (pW _ _),ay (dx W τ d) _⟩
 rintro a W1 ⟨rfl,⟨o1,x1⟩⟩;refine j7 quiet (sT quiet ?_);refine fR (i:=0) (rest:=[1,2,3,4,5,6,7]) quiet rfl rfl fun τ d=>?_;refine wp_load_row 28 (aJ 1) rfl W.heap.size rfl 28 _ (0,0) _ (w:=dx W1 τ d) x1 cG rfl (by kernel_rfl) ?_;have o2:Old W (dx W1 τ d):=mW τ d o1;have RA:=Ss (W:=dx W1 τ d) 96 sj (hL.old o2) (hB.old o2) (p1.old o2) (p2.old o2) (p3.old o2) hne xK hlt Ri;refine qN (i:=1) (rest:=[2,3,4,5,6,7]) quiet rfl rfl (f:=95) (args:=#[aO (b.cells men sent marks),.func (.func 96) #[] #[]]) (fun w=>by kernel_rfl) RA ?_;rintro out W3 _ ⟨x,r,lv,hperm,rfl,vO,o3⟩;rw[hp x r hperm] at vO;have o4:=o2.trans o3;refine fR (i:=2) (rest:=[3,4,5,6,7]) quiet rfl rfl fun τ2 d2=>?_;show ey aq _ _ [3,4,5,6,7] _ _;refine fR (i:=3) (rest:=[4,5,6,7]) quiet rfl rfl fun τ3 d3=>?_;show ey aq _ _ [4,5,6,7] _ _;refine fR (i:=4) (rest:=[5,6,7]) quiet rfl rfl fun τ4 d4=>?_;show ey aq _ _ [5,6,7] _ _;refine fR (i:=5) (rest:=[6,7]) quiet rfl rfl fun τ5 d5=>?_;show ey aq _ _ [6,7] _ _;refine fR (i:=6) (rest:=[7]) quiet rfl rfl fun τ6 d6=>?_;show ey aq _ _ [7] _ _;refine fR (i:=7) (rest:=[]) quiet rfl rfl fun τ7 d7=>?_;show ey aq _ _ [] _ _;refine qM (l:=[]) quiet (fun e a w h=>by cases e<;>first|rfl|exact(h:False).elim) fun τ8 d8=>?_;refine kO quiet a7 fun τ9 d9=>xp ?_;refine wp_ret ?_;refine bn (results_tmp3 rfl _ _ _) rfl ⟨_,rfl,lv,?_,vO,⟨o4.os,o4.output,o4.size,o4.block⟩⟩
 kernel_rfl
theorem S4{b:BB}{men sent marks:aj}{ml:List Mn}{ss:List Int}{ms:List Mk}{W:ar}(hL:Laid W)(hB:cI b men sent marks ml ss ms W)(p1:Plain W men)(p2:Plain W sent)(p3:Plain W marks)(hne:aX b ml ss ms≠[])
  (xK:jQ b (dv ss ms).toNat (bE ss) (aX b ml ss ms) 512≠[]) (hlt:∀x∈jQ b (dv ss ms).toNat (bE ss) (aX b ml ss ms) 512,x<512) (p:Nat)
  (hp:∀x r,(x::r).Perm (jQ b (dv ss ms).toNat (bE ss) (aX b ml ss ms) 512)→jB si x r=p):iV aq 23 #[aO (b.cells men sent marks)] W (Po p W):=by
 refine kx quiet Tryz.func23 rfl ?hR ?body
 case hR=>
  rintro v W' τ d ⟨lv,h1,h2,h3⟩;exact⟨lv,h1,h2,vM h3⟩
 simp only[Tryz.ntmps23,jw,gi,od,CH,CG,jV,jU,jx,ia,j4,ik];refine nH quiet a7 (fun a w=>a=⟨#[aO (b.cells men sent marks),pv W.heap.size 0,ae none 0 0,aF false,ah ag 0,af,af,af,af,af],[]⟩∧Pk0 W W.heap.size (b.cells men sent marks) 28 w) (fun τ d=>?_) ?_
 ·go_wp2;exact⟨DX (pW _ _),ay (dx W τ d) _⟩
 rintro a W1 ⟨rfl,⟨o1,x1⟩⟩;refine j7 quiet (sT quiet ?_);refine fR (i:=0) (rest:=[1,2,3,4,5,6,7]) quiet rfl rfl fun τ d=>?_;refine wp_load_row 28 (aJ 1) rfl W.heap.size rfl 28 _ (0,0) _ (w:=dx W1 τ d) x1 cG rfl (by kernel_rfl) ?_;have o2:Old W (dx W1 τ d):=mW τ d o1;have RA:=Ss (W:=dx W1 τ d) 102 si (hL.old o2) (hB.old o2) (p1.old o2) (p2.old o2) (p3.old o2) hne xK hlt Rh;refine qN (i:=1) (rest:=[2,3,4,5,6,7]) quiet rfl rfl (f:=95) (args:=#[aO (b.cells men sent marks),.func (.func 102) #[] #[]]) (fun w=>by kernel_rfl) RA ?_;rintro out W3 _ ⟨x,r,lv,hperm,rfl,vO,o3⟩;rw[hp x r hperm] at vO;have o4:=o2.trans o3;refine fR (i:=2) (rest:=[3,4,5,6,7]) quiet rfl rfl fun τ2 d2=>?_;show ey aq _ _ [3,4,5,6,7] _ _;refine fR (i:=3) (rest:=[4,5,6,7]) quiet rfl rfl fun τ3 d3=>?_;show ey aq _ _ [4,5,6,7] _ _;refine fR (i:=4) (rest:=[5,6,7]) quiet rfl rfl fun τ4 d4=>?_;show ey aq _ _ [5,6,7] _ _;refine fR (i:=5) (rest:=[6,7]) quiet rfl rfl fun τ5 d5=>?_;show ey aq _ _ [6,7] _ _;refine fR (i:=6) (rest:=[7]) quiet rfl rfl fun τ6 d6=>?_;show ey aq _ _ [7] _ _;refine fR (i:=7) (rest:=[]) quiet rfl rfl fun τ7 d7=>?_;show ey aq _ _ [] _ _;refine qM (l:=[]) quiet (fun e a w h=>by cases e<;>first|rfl|exact(h:False).elim) fun τ8 d8=>?_;refine kO quiet a7 fun τ9 d9=>xp ?_;refine wp_ret ?_;refine bn (results_tmp3 rfl _ _ _) rfl ⟨_,rfl,lv,?_,vO,⟨o4.os,o4.output,o4.size,o4.block⟩⟩
 kernel_rfl
end Go.Proofs.YtffladgmkiimjaaGreatDoor
namespace Go.Proofs.YtffladgmkiimjaaGreatDoor
open Go.RowKit Go.Lag
theorem Df(a b:Int)(w:ar):bm aq 94 #[ah ag a,ah ag b] w fun e w'=>e=aC (aO #[ah ag a,ah ag b])∧az w.heap.size w w':=by
 go_enter Tryz.func94,Tryz.ntmps94
 go_wp2;exact bn (results_cell_row rfl _ _ w.heap.size 23 #[ah ag a,ah ag b] (0,0) _ rfl (ay w _) Tryz.underlying23 rfl (by kernel_rfl)) rfl ⟨rfl,(aw _ _).alloc (ax _) _⟩
theorem CR(a:Int)(w:ar):bm aq 86 #[ah ag a] w fun e w'=>e=aC (aO #[ah ag a,ah ag a])∧az w.heap.size w w':=by
 go_enter Tryz.func86,Tryz.ntmps86
 go_wp2_with (first
  |(go_at_call 94;refine(Df a a _).mono ?_;rintro e w1 ⟨rfl,hb1⟩
    have hz:=(hb1.block w.heap.size (by simp)).trans (ay w (au #[ah ag 0,ah ag 0] 23));have HZ:=ai hz;have yo:=ai hb1
    clear hz hb1)
  |(refine wpList_store_row rfl 23 _ _ rfl _ _ rfl rfl 23 _ HZ.out (by kernel_rfl) rfl (by simp[cu]) ?_))
 exact bn (results_cell_row rfl _ _ w.heap.size 23 #[ah ag a,ah ag a] (0,0) _ rfl (cV HZ.out) Tryz.underlying23 rfl (by kernel_rfl)) rfl ⟨rfl,dA (((aw _ _).alloc (ax _) _).trans (yo.out.mono (by simp))) (ax _)⟩
abbrev SH:Array Value:=#[ah ag 0,ah ag 0,ah ag 0,ah ag 0,ah ag 0,ah ag 0,ah ag 0,ah ag 0,ah ag 0,ah ag 0,ah ag 0,ah ag 0,ae none 0 0,ae none 0 0,ae none 0 0]
def ex:BB:=⟨30,33,9,5,2,20,2,3,0,1,1,2⟩
def jO:List Mn:=[⟨⟨#[97,110,110]⟩,3,4⟩,⟨⟨#[98,111]⟩,4,4⟩]
theorem Lc(w:ar):bm aq 93 #[] w fun e w'=>∃g c,e=aC (aO (ex.cells (ae (some ⟨g,0,none⟩) 2 c) (ae none 0 0) (ae none 0 0)))∧Reads w' (ae (some ⟨g,0,none⟩) 2 c) 2 (dS jO)∧w'.heap[g]?=some (au (dS jO).toArray 79 (0,0))∧w.heap.size≤g∧az w.heap.size w w':=by
 have b0:az w.heap.size w (w.alloc (au SH 28)):=(aw _ _).alloc (ax _) _;have h0:=ay w (au SH 28);have JH:=ai b0;have HH0:=ai h0;clear b0 h0
 go_enter Tryz.func93,Tryz.ntmps93
 go_wp2_with fail
 refine(Df _ _ _).mono ?_;rintro e w1 ⟨rfl,hb1⟩;have H1:=ai hb1;clear hb1
 go_wp2_with fail
 refine(Df _ _ _).mono ?_;rintro e w2 ⟨rfl,hb2⟩;have H2:=ai hb2;clear hb2
 go_wp2_with fail
 refine(Df _ _ _).mono ?_;rintro e w3 ⟨rfl,hb3⟩;have H3:=ai hb3;clear hb3
 go_wp2_with fail
 refine(CR _ _).mono ?_;rintro e w4 ⟨rfl,hb4⟩
 have hb:az (w.heap.size+1) (w.alloc (au SH 28)) w4:=by
  have h1:=H1.out;have h2:=H2.out;have h3:=H3.out;have s1:=h1.size;have s2:=h2.size;have s3:=h3.size;simp only[dW] at s1;exact((h1.mono (by simp)).trans (h2.mono (by omega))).trans ((h3.mono (by omega)).trans (hb4.mono (by omega)))
 have hs:=hb.size;simp only[dW] at hs;have hz:=(Below.heap_alloc w4 (au (dS jO).toArray 79) w.heap.size (by omega)).trans ((hb.block w.heap.size (by omega)).trans HH0.out);have HZ:=ai hz;have HW:Hid (az w.heap.size w w4):=ai (JH.out.trans (hb.mono (by omega)));clear hb hz hb4
 go_wp2_with (refine wpList_store_row rfl 28 _ _ rfl _ _ rfl rfl 28 _ HZ.out (by kernel_rfl) rfl (by simp[cu]) ?_)
 have hg:((w4.alloc (au (dS jO).toArray 79)).setRow w.heap.size (ex.cells (ae (some ⟨w4.heap.size,0,none⟩) 2 2) (ae none 0 0) (ae none 0 0))).heap[w4.heap.size]?=some (au (dS jO).toArray 79 (0,0)):=(setRow_other (by omega)).trans (ay w4 _);refine bn (results_cell_row rfl _ _ w.heap.size 28 (ex.cells (ae (some ⟨w4.heap.size,0,none⟩) 2 2) (ae none 0 0) (ae none 0 0)) (0,0) _ rfl (cV HZ.out) cG rfl (by kernel_rfl)) rfl ⟨w4.heap.size,2,rfl,?_,hg,by omega,dA (HW.out.alloc (by omega) _) (ax _)⟩
 exact .inr ⟨w4.heap.size,0,2,rfl,by omega,by rw[setRow_size];simp,fun j u hj=>by
  have:=aH hg j u (by simpa using hj)
  rw[Nat.zero_add];exact this⟩
theorem Jn(p:Option Addr)(n cap:Nat)(w:ar):bm aq 104 #[ae p n cap] w fun e w'=>e=aC (.func (.func 164) #[] #[pv w.heap.size 0])∧w'=w.alloc (au #[ae p n cap] 25):=by
 go_enter Tryz.func104,Tryz.ntmps104
 go_wp2
 go_ret
 exact⟨rfl,rfl⟩
theorem C8(b:BB)(hb:b.Ok)(men sent marks:aj)(pl:List Int)(hp:fj b pl)(cp:Nat)(lv:aj)(w:ar)(ym:w.heap[cp]?=some (au #[lv] 25 (0,0)))(hl:Reads w lv pl.length (pl.map (aG ag))) :
  bm aq 164 #[aO (b.cells men sent marks),pv cp 0] w fun e w'=>e=aC (ah ag 0)∧az w.heap.size w w':=by
 have b1:az w.heap.size w (w.alloc (au (b.cells men sent marks) 119)):=(aw _ _).alloc (ax _) _;have lp:=(ak.1 ym).1;have x1:=aH ((b1.block _ lp).trans ym) 0 _ rfl;have Yn:=ai (td b hb men sent marks lv pl hp _ (hl.below b1));have yo:=ai b1;clear ym hl hp b1
 go_enter Tryz.func164,Tryz.ntmps164
 go_wp2_with (go_at_call 113;refine Yn.out.mono ?_;clear Yn;rintro e w1 ⟨rfl,hb1⟩;have o7:=ai hb1;clear hb1)
 go_ret
 exact⟨rfl,yo.out.trans (o7.out.mono yo.out.size)⟩
def BB.dep(b:BB)(d:Int):BB:={ b with depth:=d }
theorem BB.aao{b:BB}(h:b.Ok){d:Int}(h1:0≤d)(h2:d≤99):(b.dep d).Ok:=⟨h.room,⟨h1,h2⟩,h.least,h.minutes,h.bM,h.fD,h.dc,h.fC,h.leak,h.MK⟩
def oG(b:BB)(all:List dT)(p:Nat):Nat→Option Nat
 |0=>none
 |n+1=>if (b.dep n).sure all p then some n else oG b all p n
def Ye(o:Option Nat):aj × Bool:=match o with|some n=>(ah ag n,true)|none=>(ah ag 0,false)
theorem N9(b:BB)(men sent marks:aj)(ml:List Mn)(ss:List Int)(ms:List Mk)(w:ar)(hL:Laid w)(hB:cI b men sent marks ml ss ms w)(hne:aX b ml ss ms≠[])(pl:List Int)(hp:fj b pl)(lv:aj)(hl:Reads w lv pl.length (pl.map (aG ag))) :
  bm aq 25 #[aO (b.cells men sent marks),lv] w fun e w'=>e=aC (cA #[(Ye (oG b (aX b ml ss ms) (bE pl) 100)).1,aF (Ye (oG b (aX b ml ss ms) (bE pl) 100)).2,ah ag 0])∧az w.heap.size w w':=by
 have hlen:=ju ss ms hB.ok hB.gX;have jJ:0<(aX b ml ss ms).length:=cQ.2 hne;have cN:=hB.ok;have hao:=nT (ss:=ss) (ms:=ms) hB.ok hB.gX;have Ay:=cN.minutes;have o6:∀s∈pl,1≤s∧s≤8:=fun s h=>by have:=hp.mem s h;omega
 have Qy:bE pl<512:=mU pl o6;obtain⟨pm,cm,rfl,_⟩:=aR hB.rm;obtain⟨pn,cn,rfl,_⟩:=aR hB.rs;obtain⟨pk,ck,rfl,_⟩:=aR hB.rk;obtain⟨qi,qw,rfl,_⟩:=aR hl;have b1:az w.heap.size w (w.alloc (au (b.cells (ae pm ml.length cm) (ae pn ss.length cn) (ae pk ms.length ck)) 28)):=(aw _ _).alloc (ax _) _;have hk:=ay w (au (b.cells (ae pm ml.length cm) (ae pn ss.length cn) (ae pk ms.length ck)) 28)
 have UF:Hid (∀W cp,az w.heap.size w W→W.heap[cp]?=some (au #[ae qi pl.length qw] 25 (0,0))→bm aq 103 #[aO (b.cells (ae pm ml.length cm) (ae pn ss.length cn) (ae pk ms.length ck)),.func (.func 164) #[] #[pv cp 0]] W fun e w'=>∃v,e=aC (cA #[aO (b.open (ae pm ml.length cm) (ae pn ss.length cn) (ae pk ms.length ck) v),ah ag 0])∧gP w' W.heap.size v (aX b ml ss ms)∧az W.heap.size W w'):=
  ai fun W cp JE Ty=>CQ b _ _ _ ml ss ms W (hL.below JE) (hB.below JE) hne cp fun W' hb'=>by
   have hlt:=(ak.1 Ty).1;exact C8 b cN _ _ _ pl hp cp _ W' ((hb'.block _ hlt).trans Ty) ((hl.below JE).below hb')
 have JG:=ai hl;have Rv:=ai hao;have Xo:=ai o6;clear hL hB hl hao hp o6;generalize aX b ml ss ms=all at *;generalize ml.length=lm at *;generalize ss.length=ln at *;generalize ms.length=lk at *
 go_enter Tryz.func25,Tryz.ntmps25
 go_wp2
 refine bQ (by kernel_rfl) [
 pV (aO (b.cells (ae pm lm cm) (ae pn ln cn) (ae pk lk ck))),
  pV (ae qi pl.length qw),
  fun v ds w9=>∃cp,v=.func (.func 164) #[] #[pv cp 0]∧w9.heap[cp]?=some (au #[ae qi pl.length qw] 25 (0,0)),
  fun v ds w9=>∃gv cv,v=cA #[aO (b.open (ae pm lm cm) (ae pn ln cn) (ae pk lk ck) (ae (some ⟨gv,0,none⟩) all.length cv)),ah ag 0]∧gP w9 w.heap.size (ae (some ⟨gv,0,none⟩) all.length cv) all,
  fun v ds w9=>∃gv cv,v=cA #[aO (b.open (ae pm lm cm) (ae pn ln cn) (ae pk lk ck) (ae (some ⟨gv,0,none⟩) all.length cv)),ah ag 0]∧gP w9 w.heap.size (ae (some ⟨gv,0,none⟩) all.length cv) all,
  fun v ds w9=>∃gv cv,v=aO (b.open (ae pm lm cm) (ae pn ln cn) (ae pk lk ck) (ae (some ⟨gv,0,none⟩) all.length cv))∧gP w9 w.heap.size (ae (some ⟨gv,0,none⟩) all.length cv) all,
  pV (ah ag 0),
  fun v ds w9=>∃k,∃z:Array aj,v=pv k 0∧w.heap.size+1≤k∧w9.heap[k]?=some (au z 122 (0,0))∧z.size=16,
  fun v ds w9=>∃k gv cv,ds[0]?=some (pv k 0)∧w.heap.size+1≤k∧w9.heap[k]?=some (au (b.open (ae pm lm cm) (ae pn ln cn) (ae pk lk ck) (ae (some ⟨gv,0,none⟩) all.length cv)) 122 (0,0))∧gP w9 w.heap.size (ae (some ⟨gv,0,none⟩) all.length cv) all,
  pV (ah ag 0)]
  (fun w9=>w9.heap[w.heap.size]?=some (au (b.cells (ae pm lm cm) (ae pn ln cn) (ae pk lk ck)) 28 (0,0))∧az w.heap.size w w9) [(2,pv w.heap.size 0),(1,ae qi pl.length qw)] (by kernel_rfl) ?rst (fun w1 w2 h hb=>⟨(hb.block _ (ak.1 h.1).1).trans h.1,h.2.trans (hb.mono h.2.size)⟩) (⟨hk,b1.drew⟩) ⟨rfl,rfl,trivial⟩ ?reach ?rfin
 case rst=>
  refine⟨sV,sV,?_,?_,?_,?_,sV,?_,?_,sV,trivial⟩
  ·rintro v ds w1 w2 hS ⟨cp,h1,h2⟩ hb;exact⟨cp,h1,(hb.block _ (ak.1 h2).1).trans h2⟩
  ·rintro v ds w1 w2 hS ⟨gv,cv,h1,h2⟩ hb;exact⟨gv,cv,h1,h2.at_ fun g hg=>hb.block g (h2.1.lt g hg).2⟩
  ·rintro v ds w1 w2 hS ⟨gv,cv,h1,h2⟩ hb;exact⟨gv,cv,h1,h2.at_ fun g hg=>hb.block g (h2.1.lt g hg).2⟩
  ·rintro v ds w1 w2 hS ⟨gv,cv,h1,h2⟩ hb;exact⟨gv,cv,h1,h2.at_ fun g hg=>hb.block g (h2.1.lt g hg).2⟩
  ·rintro v ds w1 w2 hS ⟨k,z,h1,h2,h3,h4⟩ hb;exact⟨k,z,h1,h2,(hb.block _ (ak.1 h3).1).trans h3,h4⟩
  ·rintro v ds w1 w2 hS ⟨k,gv,cv,h1,h0,h3,h2⟩ hb;exact⟨k,gv,cv,h1,h0,(hb.block _ (ak.1 h3).1).trans h3,h2.at_ fun g hg=>hb.block g (h2.1.lt g hg).2⟩
 case reach=>
  refine⟨?_,?_,?_,?_,?_,?_,?_,?_,?_,?_,trivial⟩<;>rintro ev w1 hS hc hg hf ⟨b2,b1,-⟩ hd
  ·clear hd;obtain⟨x0,x1,x2,x3,x4,x5,x6,x7,x8,x9,nX,nW,oU,oh,oP⟩:=bN hS.1;exact tV
  ·clear hd;exact tV
  ·have d1:ev (aJ 10)=_:=hd.1 rfl;clear hd;refine Lag.Yields.call (f:=104) (args:=#[ae qi pl.length qw]) ?_ (Jn _ _ _ _) ?_
   ·go_simp
   ·rintro e w2 ⟨rfl,rfl⟩;exact⟨_,rfl,⟨_,rfl,ay _ _⟩,.inl ((aw _ _).alloc (ax _) _)⟩
  ·have d0:ev (aJ 9)=_:=hd.1 rfl;obtain⟨cp,Fs,ym⟩:=hd.2.1 rfl;clear hd;replace Fs:ev (aJ 11)=_:=Fs;refine Lag.Yields.call (f:=103) (args:=#[aO (b.cells (ae pm lm cm) (ae pn ln cn) (ae pk lk ck)),.func (.func 164) #[] #[pv cp 0]]) ?_ (UF.out w1 cp hS.2 ym) ?_
   ·go_simp
   ·rintro e w2 ⟨v,rfl,iY,hb⟩
    obtain⟨gv,cv,rfl⟩:∃gv cv,v=ae (some ⟨gv,0,none⟩) all.length cv:=by
     rcases iY.1.2 with⟨_,h0⟩|⟨g,cap,cur,rfl,_⟩
     ·omega
     ·exact⟨g,cap,rfl⟩
    exact⟨_,rfl,⟨gv,cv,rfl,iY.base hS.2.size⟩,.inl hb⟩
  ·exact yv rfl (hd.1 rfl)
  ·obtain⟨gv,cv,e11,iY⟩:=hd.1 rfl;clear hd;replace e11:ev (aJ 8)=_:=e11;refine yv ?_ (⟨gv,cv,rfl,iY⟩);go_simp
  ·obtain⟨gv,cv,e11,iY⟩:=hd.1 rfl;clear hd;replace e11:ev (aJ 8)=_:=e11;exact tV
  ·clear hd;refine Lag.Yields.value (v:=pv w1.heap.size 0) (w':=w1.alloc (au gW 122)) ?_ ⟨⟨_,_,rfl,(ak.1 hS.1).1,ay _ _,rfl⟩,.inl ((aw _ _).alloc (ax _) _)⟩;go_simp
  ·obtain⟨k,z,e6,qq,hk2,hz⟩:=hd.1 rfl;replace e6:ev (aJ 7)=_:=e6;obtain⟨gv,cv,Nw,iY⟩:=hd.2.1 rfl;clear hd;replace Nw:ev (aJ 13)=_:=Nw;have CY:∀g cs t,w1.heap[g]?=some (au cs t (0,0))→t≠122→g≠k:=by rintro g cs t h1 h2 rfl;rw[hk2] at h1;cases h1;exact h2 rfl
   have Eo:∀(v:aj),gP w1 w.heap.size v all→gP (w1.setRow k (b.open (ae pm lm cm) (ae pn ln cn) (ae pk lk ck) (ae (some ⟨gv,0,none⟩) all.length cv))) w.heap.size v all:=fun v ho=>ho.at_ fun g hg=>setRow_other (by
    obtain⟨cur,q1,_⟩:=ho.2 g hg
    exact CY g _ _ q1 (by decide))
   refine Lag.Yields.nI 122 _ _ rfl k _ e6 Nw 122 z hk2 (by kernel_rfl) hz (by simp[cu]) ⟨⟨k,gv,cv,congrArg some e6,qq,cV hk2,Eo _ iY⟩,.inr ⟨⟨(setRow_other (by omega)).trans hS.1,dA hS.2 (by omega)⟩,?_⟩⟩;intro j u ds hj hp
   match j,hp with
   |0,hp=>exact hp
   |1,hp=>exact hp
   |2,⟨cp,h1,h2⟩=>exact⟨cp,h1,(setRow_other (CY _ _ _ h2 (by decide))).trans h2⟩
   |3,⟨Ex,EH,h1,h2⟩=>exact⟨Ex,EH,h1,Eo _ h2⟩
   |4,⟨Ex,EH,h1,h2⟩=>exact⟨Ex,EH,h1,Eo _ h2⟩
   |5,⟨Ex,EH,h1,h2⟩=>exact⟨Ex,EH,h1,Eo _ h2⟩
   |6,hp=>exact hp
   |7,⟨k',z',h1,h2,h3,h4⟩=>
    by_cases sS:k'=k
    ·subst sS;exact⟨k',_,h1,h2,cV h3,rfl⟩
    ·exact⟨k',z',h1,h2,(setRow_other sS).trans h3,h4⟩
   |8,_=>exact(hj rfl).elim
   |9,hp=>exact hp
   |j+10,_=>trivial
  ·have d6:ev (aJ 14)=_:=hd.1 rfl;clear hd;refine yv (v:=ev (aJ 14)) ?_ (d6);rfl
 case rfin=>
  intro a2 w2 hR;have hS:=hR.s;obtain⟨k,gv,cv,T4,qq,hk2,iY⟩:=hR.val 8 (by decide);have e9:a2.tmps.getD 6 af=_:=hR.val 9 (by decide);have ha:=hR.lits 42 rfl;simp only[aT,bT,nA] at ha;rw[hR.kp 1 (by kernel_rfl),hR.kp 2 (by kernel_rfl),hR.kp 4 (by kernel_rfl),hR.kp 5 (by kernel_rfl)] at ha;simp only[ko,fT,fS] at ha;clear hR;have e6:a2.tmps.getD 7 af=pv k 0:=Option.some.inj T4;rw[e6,e9] at ha;generalize a2.tmps.getD=zz at ha;clear e6 T4 e9;subst ha;have sA:=hS.1;have rD:=hS.2;clear hS;have y1:=aH hk2 1 _ rfl;have f1:=cM hk2 1
  have XT:gv≠k:=by
   obtain⟨cur,q1,_⟩:=iY.2 gv rfl;rintro rfl;rw[hk2] at q1;cases q1
  have Ga:=ai hk2;have L8:=ai iY;have Ff:=ai rD;clear hk2 iY rD sA hk b1 UF;go_wp2
  go_loopw [24] (fun _ wr=>∃n:Nat,n≤100∧wr.heap[k]?=some (au ((b.dep ((n:Int)-1)).open (ae pm lm cm) (ae pn ln cn) (ae pk lk ck) (ae (some ⟨gv,0,none⟩) all.length cv)) 122 (0,0))∧gP wr w.heap.size (ae (some ⟨gv,0,none⟩) all.length cv) all∧az w.heap.size w wr∧oG b all (bE pl) 100=oG b all (bE pl) n) (fun _ wr=>(intOf ((wr.cell? ⟨k,1,none⟩).getD af)+1).toNat)
  case atStart=>
   refine⟨100,by omega,cP _ Ga.out,L8.out.at_ fun g hg=>bj _ _ _ _ ?_,Ff.out.setCell (p:=⟨k,1,none⟩) (by show _≤k;omega) _,rfl⟩;have:g=gv:=by simpa [jc] using hg.symm
   subst this;exact XT
  case round=>
   obtain⟨n,hn,Wi,iY,rD,KR⟩:=hrel;have z1:=aH Wi 1 _ rfl;have f1:=cM Wi 1;have xI:=(ak.1 Wi).1
   by_cases h0:0<n
   ·obtain⟨m,rfl⟩:∃m,n=m+1:=⟨n-1,by omega⟩
    have hd:(b.dep (((m+1:Nat):Int)-1))=b.dep m:=by congr 1;omega
    have hz:(((m+1:Nat):Int)-1)=m:=by omega
    rw[hz] at Wi z1;have z2:wr.cell? ⟨k,1,none⟩=some (ah ag m):=z1;clear z1 hz hd;have hSu:=fun W (hb:az wr.heap.size wr W)=>xj (b.dep m) (BB.aao cN (by omega) (by omega)) (ae pm lm cm) (ae pn ln cn) (ae pk lk ck) (ae (some ⟨gv,0,none⟩) all.length cv) all Rv.out (bE pl) Qy W ((iY.reads (by omega)).below hb);have HSu:=ai hSu
    have F9:Hid (∀w9,az wr.heap.size wr w9→w9.heap[k]?=some (au ((b.dep m).open (ae pm lm cm) (ae pn ln cn) (ae pk lk ck) (ae (some ⟨gv,0,none⟩) all.length cv)) 122 (0,0))∧Reads w9 (ae qi pl.length qw) pl.length (pl.map (aG ag))):=ai fun w9 Nn=>
     ⟨(Nn.block _ xI).trans Wi,JG.out.below (rD.trans (Nn.mono rD.size))⟩
    have hdp:oG b all (bE pl) (m+1)=if (b.dep m).sure all (bE pl) then some m else oG b all (bE pl) m:=rfl
    rw[hdp] at KR;have HDe:=ai KR;have HOr:=ai iY;have HKr:=ai Wi;have HBr:=ai rD;clear hSu KR hdp iY Wi rD;obtain⟨r,hr⟩:∃r,(b.dep m).sure all (bE pl)=r:=⟨_,rfl⟩
    rw[hr] at HSu HDe;clear hr;go_wp2
    refine bQ (by kernel_rfl) [
    pV (aO ((b.dep m).open (ae pm lm cm) (ae pn ln cn) (ae pk lk ck) (ae (some ⟨gv,0,none⟩) all.length cv))),
     pV (ae qi pl.length qw),
     pV (ah ag (bE pl)),
     pV (aF r)]
     (fun w9=>az wr.heap.size wr w9) [(1,ae qi pl.length qw),(7,pv k 0)] (by kernel_rfl) ?rst (fun w1 w2 h hb=>h.trans (hb.mono h.size)) ((aw _ _).drew) ⟨rfl,rfl,trivial⟩ ?reach ?rfin
    case rst=>
     refine⟨sV,sV,sV,sV,trivial⟩
    case reach=>
     refine⟨?_,?_,?_,?_,trivial⟩<;>rintro ev w1 hS hc hg hf ⟨b1,b7,-⟩ hd
     ·clear hd;have q:=F9.out w1 hS;refine Lag.Yields.yZ 122 _ rfl k b7 122 _ (0,0) _ q.1 iM rfl (by kernel_rfl) ⟨rfl,.inl (aw _ _)⟩
     ·clear hd;exact tV
     ·have d1:ev (aJ 35)=_:=hd.1 rfl;clear hd;have q:=F9.out w1 hS;refine yq (args:=#[ae qi pl.length qw]) (kW pl Xo.out _ _ q.2) ?_ fun _=>rfl;go_simp
     ·have d0:ev (aJ 34)=_:=hd.1 rfl;have d2:ev (aJ 36)=_:=hd.2.1 rfl;clear hd;refine yc (HSu.out w1 hS) ?_ fun _=>rfl;go_simp
    case rfin=>
     intro a3 w3 hR;have hS:=hR.s;have e3:a3.tmps.getD 37 af=_:=hR.val 3 (by decide);have ha:=hR.lits 42 rfl;simp only[aT,bT,nA] at ha;rw[hR.kp 0 (by kernel_rfl),hR.kp 1 (by kernel_rfl),hR.kp 2 (by kernel_rfl),hR.kp 3 (by kernel_rfl),hR.kp 7 (by kernel_rfl),hR.kp 8 (by kernel_rfl),hR.kp 9 (by kernel_rfl),hR.kp 10 (by kernel_rfl),hR.kp 11 (by kernel_rfl),hR.kp 12 (by kernel_rfl),hR.kp 13 (by kernel_rfl),hR.kp 14 (by kernel_rfl),hR.kp 15 (by kernel_rfl),hR.kp 16 (by kernel_rfl),hR.kp 17 (by kernel_rfl),hR.kp 18 (by kernel_rfl),hR.kp 19 (by kernel_rfl),hR.kp 20 (by kernel_rfl)] at ha;simp only[ko,fT,fS] at ha;clear hR;rw[e3] at ha;generalize a3.tmps.getD=zz at ha;have pw:=ai hS;clear e3 hS;subst ha;have q1:=(pw.out.block _ xI).trans HKr.out;have x1:w3.cell? ⟨k,1,none⟩=some (ah ag m):=aH q1 1 _ rfl;have x2:=cM q1 1;have HQ:=ai q1;clear q1;cases r
     ·have zz:IntKind.i64.wrap ((m:Int)-1)=(m:Int)-1:=by rw[IntKind.wrap_i64];omega
      go_wp2;have q2:=cP (i:=1) (ah ag ((m:Int)-1)) HQ.out;have x3:=aH q2 1 (ah ag ((m:Int)-1)) rfl;refine⟨⟨m,by omega,q2,(HOr.out.old (Old.of_below pw.out)).at_ fun g hg=>bj _ _ _ _ ?_,(HBr.out.trans (pw.out.mono HBr.out.size)).setCell (p:=⟨k,1,none⟩) (by show _≤k;omega) _,by rw[HDe.out];simp⟩,?_⟩
      ·have:g=gv:=by simpa [jc] using hg.symm
       subst this;exact XT
      ·rw[x3,z2];simp[intOf]
     ·go_wp2
      go_ret3
      exact⟨by rw[HDe.out];rfl,HBr.out.trans (pw.out.mono HBr.out.size)⟩
   ·obtain rfl:n=0:=by omega
    have hz:(((0:Nat):Int)-1) = -1:=by omega
    rw[hz] at Wi z1;have z2:wr.cell? ⟨k,1,none⟩=some (ah ag (-1)):=z1;have HDe:=ai KR;have HBr:=ai rD;clear Wi z1 KR rD iY hz;go_wp2
    go_ret3
    exact⟨by rw[HDe.out];rfl,HBr.out⟩
end Go.Proofs.YtffladgmkiimjaaGreatDoor
