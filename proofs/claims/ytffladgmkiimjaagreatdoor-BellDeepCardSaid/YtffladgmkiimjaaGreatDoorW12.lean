/- pick (95): beside leavers. What good is handed. pick (95): its end, behind good. pick (95): beside leavers. A STRAIGHT REGION, EACH OPERATION BY ITSEL .. -/
import Derived.Test.YtffladgmkiimjaaGreatDoorW11
import Derived.Test.YtffladgmkiimjaaGreatDoorW01
import Derived.Test.YtffladgmkiimjaaGreatDoorW02
import Derived.Test.YtffladgmkiimjaaGreatDoorW00
set_option linter.unusedVariables false
set_option linter.unusedSimpArgs false
set_option maxHeartbeats 100000000
set_option maxRecDepth 1000000
open Array renaming getElem?_eq_getElem → aR,replicate → aU,getD_eq_getD_getElem? → aW,getElem?_eq_some_iff → aj,getElem?_setIfInBounds → bD,getElem?_replicate → jC
open Bool renaming and_eq_true → aS
open Go renaming Program → aN,undef → af,Value → ak,World → ar,Calls → bp,bodyPost_ret → bw,Operand → cB,results_tmp → cD,Oper → cU,wp_cond_split → dB,Question → dG,bodyPost → eU,wp_ret → iW,wp_skip → j7,wp_seq → kh,Act → ko,calls_of_wp → oy
open Go.Code renaming wp → dH
open Go.Ending renaming returned → aG,returned → aO
open Go.Exit renaming ret → fC
open Go.IntKind renaming i64 → ag,wrap_i64 → gU
open Go.Lib renaming hid → ai
open Go.Obj renaming cells → au
open Go.Operand renaming tmp → aB
open Go.Proofs.Tryz renaming underlying28 → aT,prog → aq
open Go.Region renaming ready → gV,binds → nK
open Go.RowKit renaming Below → aC
open Go.RowKit.Below renaming refl → aw
open Go.Value renaming pointer → a8,bool → aA,int → aM,agg → aQ,slice → ae,int → ah
open Go.World renaming alloc_heap_new → ax
open List renaming all_eq_true → bL,mem_range → bN,range → bf,mem_map → eX,map_append → gi,range' → oB,range_eq_range' → qU
open Nat renaming le_refl → ay,lt_of_lt_of_le → bE,le_trans → bq,zero_add → eo
namespace Go.Proofs.YtffladgmkiimjaaGreatDoor
open Go.RowKit Go.Lag
open Go.Conc
def LA(u:ak):Prop:=(∃k n,u=.int k n)∨∃s,u=.string s
def Plain(w:ar)(v:ak):Prop:=∀g,v.ownBlock=some g→1≤g∧∃cs e z,w.heap[g]?=some (.cells cs e z)∧∀u∈cs,LA u
theorem Plain.old{w w':ar}{v:ak}(h:Plain w v)(ho:Old w w'):Plain w' v:=fun g hg=>by
 obtain⟨h1,cs,e,z,h2,h3⟩:=h g hg;exact⟨h1,cs,e,z,(ho.block g (eY h2)).trans h2,h3⟩
theorem cK.old{b:BB}{men sent marks:ak}{ml:List Mn}{ss:List Int}{ms:List Mk}{w w':ar}(h:cK b men sent marks ml ss ms w)(ho:Old w w'):cK b men sent marks ml ss ms w':=
 ⟨h.ok,h.iw,h.mL,h.lh,h.rm.old ho,h.rs.old ho,h.rk.old ho⟩
theorem Laid.old{w w':ar}(h:Laid w)(hb:Old w w'):Laid w':=
 ⟨(hb.cell (a:=⟨0,0,none⟩) h.lt).trans h.c0,(hb.cell (a:=⟨0,1,none⟩) h.lt).trans h.c1,(hb.cell (a:=⟨0,2,none⟩) h.lt).trans h.c2,(hb.cell (a:=⟨0,3,none⟩) h.lt).trans h.c3,(hb.cell (a:=⟨0,4,none⟩) h.lt).trans h.c4,bE h.lt hb.size⟩
theorem ij.old{w w':ar}{base:Nat}{v:ak}{l:List eV}(h:ij w base v l)(ho:Old w w'):ij w' base v l:=h.at_ fun g hg=>ho.block g (h.1.lt g hg).2
theorem Oo{w:ar}{base:Nat}{v:ak}{l:List eV}(h:ij w base v l)(hb:1≤base):Plain w v:=fun g hg=>by
 obtain⟨cur,h1,h2⟩:=h.2 g hg;have h3:=(h.1.lt g hg).1;exact⟨by omega,cur,_,_,h1,fun u hu=>.inl ⟨_,h2 u hu⟩⟩
theorem F9(ok:eV→Bool) : ∀(r:List Mn) (l6:Nat) (a:eV),a.Ok→(∀m∈r,1≤m.lo∧m.hi≤99)→∀x∈leaves ok r l6 a,x.Ok
 |[],l6,a,ha,_,x,hx=>by
  simp only[leaves] at hx;split at hx
  ·simp at hx;subst hx;exact ha
  ·cases hx
 |m :: r,l6,a,ha,hm,x,hx=>by
  simp only[leaves,List.mem_flatMap] at hx;obtain⟨n,hn,hx⟩:=hx;simp only[gw,eX,bN] at hn;obtain⟨i,hi,rfl⟩:=hn;have:=hm m (by simp);exact F9 ok r (l6+1) _ (eV.Lt ha l6 (by omega) (by omega)) (fun m' h=>hm m' (by simp[h])) x hx
theorem n4{b:BB}{ml:List Mn}{ss:List Int}{ms:List Mk}(hb:b.Ok)(hm:wY ml) : ∀x∈bn b ml ss ms,x.Ok:=by
 intro x hx;simp only[bn,List.mem_flatMap] at hx;obtain⟨n,hn,hx⟩:=hx;simp only[gw,eX,bN] at hn;obtain⟨i,hi,rfl⟩:=hn;have:=hb.leak;exact F9 _ ml 0 ⟨b.ll+i,0,0,0⟩ ⟨⟨by show 0≤b.ll+i;omega,by show b.ll+(i:Int)≤400;omega⟩,by simp,by simp,by simp⟩ (fun m h=>⟨(hm.mem m h).2.1,(hm.mem m h).2.2.2.1⟩) x hx
theorem Us{b:BB}{men sent marks all:ak}{ml:List Mn}{l:List eV}{ss:List Int}{ms:List Mk}{W:ar}(hB:cK b men sent marks ml ss ms W)(hl : ∀x∈l,x.Ok)(h1:Plain W men)(h2:Plain W sent)(h3:Plain W marks)(h4:Plain W all)
  (ha:Reads W all l.length (rowOf l)) (hg:1≤W.heap.size) : ∃Y,SX aq b men sent marks all l ss ms Y W:=by
 have hm:=hB.ok.minutes
 have vr : ∀(Y:Nat→Prop) (v:ak) (n:Nat) (xs:List ak),Reads W v n xs→(∀g,v.ownBlock=some g→Y g)→VR fw (xr Y) v v∧mK Y W v n xs:=by
  intro Y v n xs hr hy;rcases hr with⟨rfl,rfl,rfl⟩|⟨g,off,cap,rfl,h,hg,hc⟩
  ·exact⟨.DG _ _,.inl ⟨rfl,rfl,rfl⟩⟩
  ·exact⟨.slice _ _ ⟨vh (hy g rfl),rfl,rfl⟩,.inr ⟨g,off,cap,rfl,h,hy g rfl,hc⟩⟩
 refine⟨fun k=>men.ownBlock=some k∨sent.ownBlock=some k∨marks.ownBlock=some k∨all.ownBlock=some k,?_⟩
 have pl : ∀(Y:Nat→Prop) (u:ak),LA u→VR fw (xr Y) u u:=by
  rintro Y u (⟨k,n,rfl⟩|⟨s,rfl⟩)
  ·exact .int _ _
  ·exact .string _
 have m1:=vr (fun k=>men.ownBlock=some k∨sent.ownBlock=some k∨marks.ownBlock=some k∨all.ownBlock=some k) men _ _ hB.rm fun g h=>.inl h;have m2:=vr (fun k=>men.ownBlock=some k∨sent.ownBlock=some k∨marks.ownBlock=some k∨all.ownBlock=some k) sent _ _ hB.rs fun g h=>.inr (.inl h);have m3:=vr (fun k=>men.ownBlock=some k∨sent.ownBlock=some k∨marks.ownBlock=some k∨all.ownBlock=some k) marks _ _ hB.rk fun g h=>.inr (.inr (.inl h));have m4:=vr (fun k=>men.ownBlock=some k∨sent.ownBlock=some k∨marks.ownBlock=some k∨all.ownBlock=some k) all _ _ ha fun g h=>.inr (.inr (.inr h))
 have T6 : ∀c,(men.ownBlock=some c∨sent.ownBlock=some c∨marks.ownBlock=some c∨all.ownBlock=some c)→1≤c∧∃cs e z,W.heap[c]?=some (.cells cs e z)∧∀u∈cs,LA u:=by
  rintro c (h|h|h|h)
  ·exact h1 c h
  ·exact h2 c h
  ·exact h3 c h
  ·exact h4 c h
 have Bv:Tryz.prog.globals.size=1:=by kernel_rfl
 exact⟨rfl,Tryz.func159,Tryz.func178,by kernel_rfl,by kernel_rfl,hB.ok,hl,fun s hs=>by have:=hB.mL.mem s hs;omega,fun m h=>by have:=hB.lh.mem m h;omega,
  fun c hc=>by obtain⟨_,cs,e,z,h,hu⟩:=T6 c hc;exact⟨cs,e,z,h,fun u hu'=>pl _ u (hu u hu')⟩,fun c hc=>by rw[Bv];exact(T6 c hc).1,by rw[Bv];exact hg,m1.1,m2.1,m3.1,m4.1,m2.2,m3.2,m4.2⟩
def VK(lt:Nat→Nat→Bool)(acc:List Nat)(W:ar)(v:ak)(W':ar):Prop:=
 ∃(x:Nat) (r:List Nat) (lv:ak),(x :: r).Perm acc∧v=.tuple #[lv,aA true,ah ag 0]∧Reads W' lv (ia (jM lt x r)).length ((ia (jM lt x r)).map (aM ag))∧Old W W'
noncomputable def QF:Code:=sR (sR (sR (sR (match Tryz.f95.body with|some c=>c|_=>.skip))))
theorem Dp{W W':ar}{v:ak}{n:Nat}{xs:List ak}(h:Reads W v n xs)(hb:aC W.heap.size W W'):Reads W' v n xs:=h.below hb
theorem QH(g:FuncId)(lt:Nat→Nat→Bool)(J8 : ∀(first:Nat),first<512→∀(more:List Nat),(∀x∈more,x<512)→∀(v:ak) (w:ar),Reads w v more.length (more.map fun(p:Nat)=>aM ag (p:Int))→
   bp aq 160 #[.func (.func g) #[] #[],ah ag first,v] w fun e w'=>e=aG (ah ag (jM lt first more:Nat))∧aC w.heap.size w w')
  (x:Nat) (r:List Nat) (hx:x<512) (hr : ∀y∈r,y<512) (out:ak) (W:ar) (ho:Reads W out (x :: r).length (ints (x :: r))) (acc:List Nat) (hp:(x :: r).Perm acc) (W0:ar) (hold:Old W0 W)
  (t0 t2 t7 t8 t10 t11 t12 t13 t14 t15 t16 t17 t18 t19:ak) :
  QF.wp aq (eU aq Tryz.f95 fun e w'=>∃v,e=aG v∧VK lt acc W0 v w')
   ⟨#[t0,.func (.func g) #[] #[],t2,af,ae none 0 0,aA false,ah ag 0,t7,t8,out,t10,t11,t12,t13,t14,t15,t16,t17,t18,t19,af,af,af,af,af,af,af,af,af,af,af],[]⟩ W:=by
 obtain⟨go,oo,cap,rfl,hlen,hgo,hcell⟩ : ∃go oo cap,out=ae (some ⟨go,oo,none⟩) (r.length+1) cap∧(r.length+1≤4294967296∧r.length+1≤cap)∧go<W.heap.size∧∀j u,(ints (x :: r))[j]?=some u→W.cell? ⟨go,oo+j,none⟩=some u:=by
  rcases ho with⟨_,h,_⟩|h
  ·simp at h
  ·exact h
 have HC0:Hid (∀w,aC W.heap.size W w→w.cell? ⟨go,oo,none⟩=some (ah ag x)):=ai fun w hb=>(hb.cell (p:=⟨go,oo,none⟩) hgo).trans (hcell 0 _ (by simp[ints]))
 have SJ:Hid (∀w,aC W.heap.size W w→Reads w (ae (if cap=1 then some ⟨go,oo,none⟩ else some ⟨go,oo+1,none⟩) r.length (cap - 1)) r.length (r.map fun(p:Nat)=>aM ag (p:Int))):=ai fun w hb=>
  if h1:cap=1 then by
   have h0:r=[]:=List.eq_nil_of_length_eq_zero (by omega);subst h0;rw[if_pos h1];exact .inr ⟨go,oo,cap - 1,rfl,⟨by simp,by simp⟩,bE hgo hb.size,fun j u hj=>by simp at hj⟩
  else by
  rw[if_neg h1]
  exact .inr ⟨go,oo+1,cap - 1,rfl,by omega,bE hgo hb.size,fun j u hj=>(hb.cell (p:=⟨go,_,none⟩) hgo).trans (by
   have:=hcell (j+1) u (by simpa [ints] using hj)
   rwa [show oo+(j+1)=oo+1+j by omega] at this)⟩
 have YU:=ai J8;have HHx:=ai hr;have HPm:=ai hp;have HOl:=ai hold;clear J8 hr hp hold hcell ho;generalize hM:r.length=M at *;have HM:=ai hM;clear hM;have hbl:jM lt x r<512:=zE lt r x hx HHx.out;have l1:((M:Int)+1==0)=false:=by simp;omega
 have l2:(1:Int)≤(M:Int)+1:=by omega
 simp only[QF,sR,Tryz.f95];go_wp2
 refine cj (by kernel_rfl) [
 pV (.func (.func g) #[] #[]),
  pV (ae (some ⟨go,oo,none⟩) (M+1) cap),
  pV (pv go oo),
  pV (ah ag x),
  pV (ae (some ⟨go,oo,none⟩) (M+1) cap),
  pV ((ae (if cap=1 then some ⟨go,oo,none⟩ else some ⟨go,oo+1,none⟩) M (cap - 1))),
  pV (ah ag (jM lt x r:Nat)),
  fun v ds w9=>Reads w9 v (ia (jM lt x r)).length ((ia (jM lt x r)).map (aM ag)),
  fun v ds w9=>Reads w9 v (ia (jM lt x r)).length ((ia (jM lt x r)).map (aM ag)),
  pV (aA true),
  pV (ah ag 0)]
  (fun w=>aC W.heap.size W w) [(1,.func (.func g) #[] #[]),(9,ae (some ⟨go,oo,none⟩) (M+1) cap)] (by kernel_rfl) ?rst (fun w1 w2 h hb=>h.trans (hb.mono h.size)) ((aw _ _).drew) ⟨rfl,rfl,trivial⟩ ?reach ?rfin
 case rst=>
  refine⟨sV,sV,sV,sV,sV,sV,sV,?_,?_,sV,sV,trivial⟩
  ·rintro v ds w1 w2 hS h hb;exact Dp h hb
  ·rintro v ds w1 w2 hS h hb;exact Dp h hb
 case reach=>
  refine⟨?_,?_,?_,?_,?_,?_,?_,?_,?_,?_,?_,trivial⟩<;>rintro ev w1 hS hc hg hf ⟨b1,b9,-⟩ hd
  ·clear hd;refine yv ?_ rfl;go_simp
  ·clear hd;refine yv ?_ rfl;go_simp
  ·have d1:ev (aB 24)=_:=hd.1 rfl;clear hd;refine yv ?_ rfl;go_simp
  ·have d2:ev (aB 25)=_:=hd.1 rfl;clear hd;have z:=HC0.out w1 hS;refine yv ?_ rfl;go_simp
  ·clear hd;refine yv ?_ rfl;go_simp
  ·have d4:ev (aB 27)=_:=hd.1 rfl;clear hd;refine yv ?_ rfl;go_simp
  ·have d0:ev (aB 23)=_:=hd.1 rfl;have d3:ev (aB 26)=_:=hd.2.1 rfl;have d5:ev (aB 28)=_:=hd.2.2.1 rfl;clear hd;refine yc (args:=#[.func (.func g) #[] #[],ah ag x,(ae (if cap=1 then some ⟨go,oo,none⟩ else some ⟨go,oo+1,none⟩) M (cap - 1))]) (YU.out x hx r HHx.out _ _ (by have:=SJ.out w1 hS;rw[←HM.out] at this;rw[←HM.out];exact this)) ?_ fun _=>rfl;go_simp
  ·have d6:ev (aB 29)=_:=hd.1 rfl;clear hd;refine Lag.Yields.call (f:=99) (args:=#[ah ag (jM lt x r:Nat)]) ?_ (sg _ hbl _) ?_
   ·go_simp
   ·rintro e w2 ⟨v,rfl,h1,hb⟩;exact⟨_,rfl,h1,.inl hb⟩
  ·exact yv rfl (hd.1 rfl)
  ·clear hd;refine yv ?_ rfl;go_simp
  ·clear hd;refine yv ?_ rfl;go_simp
 case rfin=>
  intro a2 w2 hR;have hS:=hR.s;have e8:Reads w2 (a2.tmps.getD 4 af) (ia (jM lt x r)).length ((ia (jM lt x r)).map (aM ag)):=hR.val 8 (by decide);have e9:a2.tmps.getD 5 af=_:=hR.val 9 (by decide);have Io:a2.tmps.getD 6 af=_:=hR.val 10 (by decide);have ha:=hR.lits 31 rfl;simp only[bf,List.range.loop,List.map] at ha;clear hR;rw[e9,Io] at ha;generalize a2.tmps.getD 4 af=lv at *;generalize a2.tmps.getD=zz at ha;have aeY:Hid (Old W w2):=ai (Old.of_below hS);have HE8:=ai e8;clear e8 e9 Io hS;subst ha;go_wp2
  go_ret3
  exact⟨_,rfl,x,r,lv,HPm.out,rfl,HE8.out,HOl.out.trans aeY.out⟩
theorem lG{P:aN}(T:Quiet P){x y:Code}{Q:Exit→ko→ar→Prop}{a:ko}{W:ar}(hf : ∀e a w,Q e a w→sD e=true)(Q1:ko→ar→Prop)(hx : ∀τ d,x.wp P (fun e a w=>e=.normal∧Q1 a w) a (cX W τ d))(hy : ∀a w,Q1 a w→nN P y Q a w):nN P (.seq x y) Q a W:=
 NU T (fun e a w _ h=>hf e a w h) fun τ d=>wp_mono (hx τ d) (by rintro e a w ⟨rfl,h⟩;exact hy a w h)
theorem vQ{W W':ar}{τ:Nat→dG→Nat}{d:Nat}(h:Old W (cX W' τ d)):Old W W':=⟨h.os,h.output,h.size,h.block⟩
theorem Dy{W W':ar}{τ:Nat→dG→Nat}{d:Nat}(h:Old (cX W τ d) W'):Old W W':=⟨h.os,h.output,h.size,h.block⟩
theorem np{W W':ar}(τ:Nat→dG→Nat)(d:Nat)(h:Old W W'):Old W (cX W' τ d):=⟨h.os,h.output,h.size,h.block⟩
theorem Bl(b:BB)(men sent marks:ak)(w:ar):bp aq 122 #[aQ (b.cells men sent marks)] w fun e w'=>e=aG (ah ag 0)∧aC w.heap.size w w':=by
 go_enter Tryz.func122,Tryz.ntmps122
 go_wp2
 go_ret
 exact⟨rfl,(aw _ _).alloc (ay _) _⟩
structure Pk0(W:ar)(B:Nat)(cs:Array ak)(T:TypeId)(w:ar):Prop where
 old:Old W w
 blk:w.heap[B]?=some (au cs T (0,0))
structure Pk1(W:ar)(b:BB)(men sent marks:ak)(all:List eV)(B7:Nat)(v:ak)(w:ar):Prop where
 old:Old W w
 blk:w.heap[B7]?=some (au (b.open men sent marks v) 122 (0,0))
 own:ij w W.heap.size v all
section
variable{b:BB}{men sent marks:ak}{ml:List Mn}{ss:List Int}{ms:List Mk}{W:ar}
theorem QI(g:FuncId)(lt:Nat→Nat→Bool)(hL:Laid W)(hB:cK b men sent marks ml ss ms W)(p1:Plain W men)(p2:Plain W sent)(p3:Plain W marks)(hne:bn b ml ss ms≠[])
  (xE:kg b (dw ss ms).toNat (bK ss) (bn b ml ss ms) 512≠[]) (hlt : ∀x∈kg b (dw ss ms).toNat (bK ss) (bn b ml ss ms) 512,x<512)
  (J8 : ∀(first:Nat),first<512→∀(more:List Nat),(∀x∈more,x<512)→∀(v:ak) (w:ar),Reads w v more.length (more.map fun(p:Nat)=>aM ag (p:Int))→
   bp aq 160 #[.func (.func g) #[] #[],ah ag first,v] w fun e w'=>e=aG (ah ag (jM lt first more:Nat))∧aC w.heap.size w w') :
  j6 aq 95 #[aQ (b.cells men sent marks),.func (.func g) #[] #[]] W (VK lt (kg b (dw ss ms).toNat (bK ss) (bn b ml ss ms) 512) W):=by
 refine kZ quiet Tryz.func95 rfl ?hR ?body
 case hR=>
  rintro v W' τ d ⟨x,r,lv,h1,h2,h3,h4⟩;exact⟨x,r,lv,h1,h2,h3,vQ h4⟩
 simp only[Tryz.ntmps95,List.size_toArray,List.length_cons,List.length_nil,Nat.reduceAdd,Nat.reduceSub,Array.replicate_succ,Array.replicate_zero,List.push_toArray,List.append_toArray,List.nil_append,List.cons_append];refine lG quiet bm (fun a w=>a=⟨#[aQ (b.cells men sent marks),.func (.func g) #[] #[],pv W.heap.size 0,af,ae none 0 0,aA false,ah ag 0,af,af,af,af,af,af,af,af,af,af,af,af,af,af,af,af,af,af,af,af,af,af,af,af],[]⟩∧Pk0 W W.heap.size (b.cells men sent marks) 28 w) (fun τ d=>?_) ?_
 ·go_wp2;exact⟨Dy (qh _ _),ax (cX W τ d) _⟩
 rintro a W1 ⟨rfl,⟨o1,x1⟩⟩;have kG:0<(bn b ml ss ms).length:=List.length_pos_iff.2 hne;refine lG quiet bm (fun a w=>∃(B7:Nat) (v t10 t11 t12 t13 t14:ak),a=⟨#[aQ (b.cells men sent marks),.func (.func g) #[] #[],pv W.heap.size 0,af,ae none 0 0,aA false,ah ag 0,pv B7 0,ah ag 0,af,t10,t11,t12,t13,t14,af,af,af,af,af,af,af,af,af,af,af,af,af,af,af,af],[]⟩∧Pk1 W b men sent marks (bn b ml ss ms) B7 v w) (fun τ d=>?_) ?_
 ·have o1':Old W (cX W1 τ d):=np τ d o1;obtain⟨c0,c1,c2,c3,c4,c5,c6,c7,c8,c9,c10,c11,c12,c13,c14⟩:=bQ (w:=cX W1 τ d) x1;have HO:=ai (yy b men sent marks ml ss ms (cX W1 τ d) (hL.old o1') (hB.old o1') hne (fun W' _=>Bl b men sent marks W'));have HO1:=ai o1';obtain⟨pm,cm,rfl,_⟩:=aV hB.rm;obtain⟨pn,cn,rfl,_⟩:=aV hB.rs;obtain⟨pk,ck,rfl,_⟩:=aV hB.rk;clear hL hB p1 p2 p3 hne xE hlt J8 o1 o1' x1;generalize bn b ml ss ms=all at *;generalize ml.length=lm at *;generalize ss.length=ln at *;generalize ms.length=lk at *;generalize hW1:cX W1 τ d=W2 at *
  go_wp2_with (first
   |(go_at_call 103;refine HO.out.mono ?_;clear HO;rintro e w3 ⟨v,rfl,jq,hb3⟩
     obtain⟨gv,oV,rfl⟩ : ∃gv oV,v=ae (some ⟨gv,0,none⟩) all.length oV:=by
      rcases jq.1.2 with⟨_,h0⟩|⟨g,cap,cur,rfl,_⟩
      ·omega
      ·exact⟨g,cap,rfl⟩
     have KT:=ai jq;have pI:=ai hb3;clear jq hb3))
  have o3:Old W w3:=HO1.out.trans (Old.of_below pI.out);exact⟨_,o3.trans (qh _ _),ax w3 _,(KT.out.base HO1.out.size).old (qh _ _)⟩
 rintro a W2 ⟨B7,v,t10,t11,t12,t13,t14,rfl,⟨o2,x2,jq⟩⟩;refine lG quiet bm (fun a w=>a=⟨#[aQ (b.cells men sent marks),.func (.func g) #[] #[],pv W.heap.size 0,af,ae none 0 0,aA false,ah ag 0,pv B7 0,ah ag 0,af,t10,t11,t12,t13,t14,ah ag 0,aA false,af,af,af,af,af,af,af,af,af,af,af,af,af,af],[]⟩∧Pk1 W b men sent marks (bn b ml ss ms) B7 v w) (fun τ d=>?_) ?_
 ·go_wp2;exact⟨np _ _ o2,x2,jq⟩
 rintro a W3 ⟨rfl,⟨o3,x3,adi⟩⟩;clear o2 x2 jq;refine jD quiet (nR quiet ?_);refine fU (i:=0) (rest:=[1,2]) quiet rfl rfl fun τ d=>?_;refine wp_load_row 122 (aB 7) rfl B7 rfl 122 _ (0,0) _ (w:=cX W3 τ d) x3 Tryz.underlying122 rfl (by kernel_rfl) ?_;have Nx:=hB.old (np τ d o3);have Z8:ij (cX W3 τ d) W.heap.size v (bn b ml ss ms):=adi;have hW1:1≤W.heap.size:=hL.lt;obtain⟨Y,hG⟩:=Us (all:=v) (l:=bn b ml ss ms) Nx (n4 hB.ok hB.iw) (p1.old (np τ d o3)) (p2.old (np τ d o3)) (p3.old (np τ d o3)) (Oo Z8 hW1) (Z8.reads (by have:=jH ss ms hB.ok hB.iw;omega)) (bq hW1 o3.size);refine mW (i:=1) (rest:=[2]) quiet rfl rfl (f:=159) (args:=#[aQ (b.open men sent marks v)]) (fun w=>by kernel_rfl) (XL hG) ?_;rintro out W4 _ ⟨kJ,hr,hperm,ho4⟩;have o4:Old W W4:=(np τ d o3).trans ho4;refine fU (i:=2) (rest:=[]) quiet rfl rfl fun τ1 d1=>?_;show ic aq _ _ [] _ _
 have adl:kJ≠[]:=by
  rintro rfl;exact xE hperm.symm.eq_nil
 obtain⟨x,r,rfl⟩ : ∃x r,kJ=x :: r:=by
  cases kJ with
  |nil=>exact(adl rfl).elim
  |cons x r=>exact⟨x,r,rfl⟩
 have hx:=hlt x (hperm.subset (by simp));have hr2 : ∀y∈r,y<512:=fun y hy=>hlt y (hperm.subset (by simp[hy]));refine mV (l:=[]) quiet (fun e a w h=>by cases e<;>first|rfl|exact(h:False).elim) fun τ2 d2=>?_;refine mg quiet bm fun τ3 d3=>xl ?_;have hend:=QH g lt J8 x r hx hr2 out (cX (cX (cX W4 τ1 d1) τ2 d2) τ3 d3) hr _ hperm W ⟨o4.os,o4.output,o4.size,o4.block⟩ (aQ (b.cells men sent marks)) (pv W.heap.size 0) (pv B7 0) (ah ag 0) t10 t11 t12 t13 t14 (ah ag 0) (aA false) af (aQ (b.open men sent marks v)) out;exact hend
end
end Go.Proofs.YtffladgmkiimjaaGreatDoor
namespace Go.Lag
open Go Go.RowKit Go.Conc Go.Proofs.YtffladgmkiimjaaGreatDoor
namespace Gd
section
variable{P:aN}{ops:Array cU}{Q:Exit→ko→ar→Prop}{Vs:List Pred}{S:ar→Prop}{base:List (Tmp × ak)}{n:Nat}
theorem Gz{i:Nat}{o:cU}{e:Edge}(cZ:kN ops n base=true)(ho:ops[i]?=some o)(he:e∈o.after.toList)(hb:nK .any e=true):e.on<i:=by
 have hi:i<ops.size:=(aj.1 ho).1;unfold kN at cZ;rw[aS,bL] at cZ;have h2:=cZ.1 i (bN.2 hi);rw[ho] at h2;simp only[aS] at h2;have h3:=bL.1 h2.1.1 e he;simpa [hb] using h3
theorem F2{L:Array Bool}{i:Nat}(cZ:kN ops n base=true)(hlt:i<ops.size)(hL:L.size=ops.size)(hk : ∀k,L.getD k false=decide (k<i)):i∈gV .any ops L:=by
 unfold gV;rw[List.mem_filter];have wh:ops[i]?=some ops[i]:=aR hlt;refine⟨bN.2 hlt,?_⟩;have tU:i<L.size:=by omega
 have h1:L.getD i true=false:=by
  have:=hk i;simp[Array.getD,tU] at this ⊢;exact this
 rw[h1,wh];simp only[Bool.not_false,Bool.true_and,Option.map_some,Option.getD_some];rw[Array.all_eq_true];intro k hk2;cases hb:nK .any ops[i].after[k] with
 |false=>rfl
 |true=>
  have:=Gz cZ wh (e:=ops[i].after[k]) (by simp) hb;rw[hk];simp[this]
theorem Nh{L:Array Bool}{i:Nat}(tU:i<L.size)(hk : ∀k,L.getD k false=decide (k<i))(k:Nat):(L.setIfInBounds i true).getD k false=decide (k<i+1):=by
 by_cases zJ:k=i
 ·subst zJ;simp[aW,bD,tU]
 ·have:=hk k;rw[aW,bD,if_neg (Ne.symm zJ),←aW,this];simp;omega
theorem tF(cZ:kN ops n base=true) : ∀(m i:Nat) (L:Array Bool) (a:ko) (w:ar),i+m=ops.size→L.size=ops.size→(∀k,L.getD k false=decide (k<i))→anyOf (wpOp P ops Q) ops Q m L a w→wpOps P ops Q (oB i m) a w
 |0,i,L,a,w,hi,hL,hk,h=>h.2
 |m+1,i,L,a,w,hi,hL,hk,h=>by
  show wpOps P ops Q (i :: oB (i+1) m) a w;rw[wpOps_cons];exact wpOp_mono (fun a w h=>tF cZ m (i+1) _ a w (by omega) (by simpa using hL) (Nh (by omega) hk) h) (h.2 i (F2 cZ (by omega) hL hk))
def LL(n i:Nat):Array Bool:=((bf n).map fun k=>decide (k<i)).toArray
theorem yG(n i k:Nat)(hi:i≤n):(LL n i).getD k false=decide (k<i):=by
 unfold LL;rw[aW]
 by_cases hk:k<n
 ·simp[hk]
 ·have : ¬k<i:=by omega
  simp[hk,this]
theorem tD{a0:ko}{w:ar}(i m:Nat)(him:i+m=ops.size)(Vs:List Pred)(S:ar→Prop)(base:List (Tmp × ak))(cZ:kN ops n base=true)(hn:a0.tmps.size=n)(ya:jz S Vs)(I4 : ∀w w',S w→aC w.heap.size w w'→S w')
  (hS:S w) (hbase:iF a0.eval base) (Ua : ∀k,k<i→gY Vs k (kq (gH ops k) a0.eval) (gQ ops a0.eval (gS ops k)) w) (hE:Each (Yields P) ops Vs S base i (ops.toList.drop i)) (hQ : ∀a w,iU ops Vs S a0 (aU ops.size true) a w→Q .normal a w):wpOps P ops Q (oB i m) a0 w:=by
 refine tF cZ m i (LL ops.size i) a0 w him (by simp[LL]) (fun k=>yG _ _ _ (by omega)) ?_
 refine tk (Y:=Yields P) (fun i o K a w R ho hw hy hk=>wpOp_step ho fun K' hK=>by rw[if_pos hw];exact hy.wp fun v w' hv=>hK _ _ (hk v w' hv))
  (fun i o K a w ho hw hk=>wpOp_step ho fun K' hK=>by rw[if_neg hw];exact hK _ _ hk) cZ ya I4 a0 hn hbase i (fun j o hj h=>by
   have:=hE.get (j:=j - i) (o:=o) (by rw[List.getElem?_drop,show i+(j - i)=j by omega];simpa using h)
   rwa [show i+(j - i)=j by omega] at this) hQ m _ a0 _ ?_ (fun k hk=>by rw[yG _ _ _ (by omega)];simpa using hk) ⟨by simp[LL],rfl,rfl,hS,fun _ _=>rfl,fun k e hk he hb=>?_,fun k hk=>?_⟩
 ·have e:(LL ops.size i).toList=(bf i).map (fun _=>true) ++ (oB i m).map fun _=>false:=by
   unfold LL;simp only
   have:bf ops.size=bf i ++ oB i m:=by
    rw[qU,qU,←him,←List.range'_append_1,eo]
   rw[this,gi]
   congr 1
   ·apply List.map_congr_left;intro k hk;simpa using hk
   ·apply List.map_congr_left;intro k hk;have:=(List.mem_range'_1.1 hk).1;simp;omega
  rw[e,List.countP_append]
  have h1:((bf i).map fun _=>true).countP (!·)=0:=by
   rw[List.countP_eq_zero];intro x hx;simp at hx;simp[hx.2]
  have h2:=List.countP_le_length (p:=(!·)) (l:=(oB i m).map fun _=>false);simp only[List.length_map,List.length_range'] at h2;omega
 ·rw[yG _ _ _ (by omega)] at hk ⊢;have zJ:k<i:=by simpa using hk
  unfold gS at he;have hko:ops[k]?=some ops[k]:=aR (by omega);rw[hko] at he;have:=Gz cZ hko he hb;simp;omega
 ·rw[yG _ _ _ (by omega)] at hk;exact Ua k (by simpa using hk)
theorem tE{id:Nat}{a0:ko}{w:ar}(Vs:List Pred)(S:ar→Prop)(base:List (Tmp × ak))(cZ:kN ops n base=true)(hn:a0.tmps.size=n)(ya:jz S Vs)(I4 : ∀w w',S w→aC w.heap.size w w'→S w')
  (hS:S w) (hbase:iF a0.eval base) (hE:Each (Yields P) ops Vs S base 0 ops.toList) (hQ : ∀a w,iU ops Vs S a0 (aU ops.size true) a w→Q .normal a w):(Code.region id ops false).wp P Q a0 w:=by
 refine wp_region ?_;rw[qU];exact tD 0 ops.size (by omega) Vs S base cZ hn ya I4 hS hbase (fun k hk=>by omega) hE hQ
end
end Gd
theorem cY(W:ar)(τ:Nat→dG→Nat)(d:Nat):Old W (cX W τ d):=⟨rfl,rfl,ay _,fun _ _=>rfl⟩
structure BU(n:Nat)(a:ko)(l:List (Tmp × ak)):Prop where
 size:a.tmps.size=n
 defers:a.defers=[]
 base:iF a.eval l
theorem iU.fr{ops:Array cU}{Vs:List Pred}{S:ar→Prop}{a0 a:ko}{L:Array Bool}{w:ar}{n:Nat}{l:List (Tmp × ak)}(h:iU ops Vs S a0 L a w)(h0:BU n a0 l)(hk:(l.all fun p=>keeps ops p.1)=true):BU n a l:=
 ⟨h.size.trans h0.size,h.defers.trans h0.defers,h0.base.congr fun p hp=>h.keep p.1 fun o ho=>by
  have h1:=bL.1 hk p hp;have:=bL.1 h1 o ho
  simpa using this⟩
theorem BU.g{n:Nat}{a:ko}{l:List (Tmp × ak)}(h:BU n a l)(k:Nat){t:Tmp}{v:ak}(hk:l[k]?=some (t,v)):a.eval (.tmp t)=v:=by
 have h1:=h.base;clear h
 induction l generalizing k with
 |nil=>simp at hk
 |cons p l ih=>cases k with
  |zero=>cases hk;exact h1.1
  |succ k=>exact ih k (by simpa using hk) h1.2
def TC:Op→Bool
 |.call c=>match c.callee with|.builtin _=>true|_=>false
 |.load ..=>false
 |_=>true
theorem yw{P:aN}{ops:Array cU}{Vs:List Pred}{S:ar→Prop}{o:cU}{ev:cB→ak}{w:ar}{i:Nat}{v:ak}(hq:TC o.op=true)(he:(execOp ev o).run P w=.ok (.value v) w)(hp:gY Vs i (match o.dst with|some _=>v|none=>af) (gQ ops ev o.after.toList) w):Yields P o ev w (Post ops ev Vs S i o w):=yv he hp
def sF(t:Tmp):List (Tmp × ak)→List (Tmp × ak)
 |[]=>[]
 |p :: l=>if p.1=t then l else p :: sF t l
theorem BU.del{n:Nat}{a:ko}{l:List (Tmp × ak)}(h:BU n a l)(t:Tmp):BU n a (sF t l):=⟨h.size,h.defers,by
 have h1:=h.base;clear h
 induction l with
 |nil=>trivial
 |cons p l ih=>
  unfold sF;split
  ·exact h1.2
  ·exact⟨h1.1,ih h1.2⟩⟩
theorem BU.tl{n:Nat}{a:ko}{p:Tmp × ak}{l:List (Tmp × ak)}(h:BU n a (p :: l)):BU n a l:=⟨h.size,h.defers,h.base.2⟩
theorem BU.put{n:Nat}{a:ko}{l:List (Tmp × ak)}(h:BU n a l)(d:Tmp)(v:ak)(hk:(l.all fun p=>!Nat.beq p.1 d)=true):BU n (a.put (some d) v) l:=
 ⟨(nh _ _ _).trans h.size,(put_defers _ _ _).trans h.defers,h.base.congr fun p hp=>uX _ _ _ _ fun e=>by
  have h1:=bL.1 hk p hp;cases e
  simp at h1⟩
theorem BU.cons{n:Nat}{a:ko}{l:List (Tmp × ak)}(h:BU n a l){t:Tmp}{v:ak}(hv:a.eval (.tmp t)=v):BU n a ((t,v) :: l):=⟨h.size,h.defers,hv,h.base⟩
section
variable{P:aN}{ops:Array cU}{Q:Exit→ko→ar→Prop}{n:Nat}
theorem iA(T:Quiet P){id:Nat}{y:Code}{a0:ko}{W:ar}(hf : ∀e a w,Q e a w→sD e=true)(Vs:List Pred)(base:List (Tmp × ak))(cZ:kN ops n base=true)(hn:a0.tmps.size=n)(hbase:iF a0.eval base)(ya:jz (Old W) Vs)
  (hE:Gd.Each (Yields P) ops Vs (Old W) base 0 ops.toList) (hy : ∀a w,iU ops Vs (Old W) a0 (aU ops.size true) a w→nN P y Q a w):nN P (.seq (.region id ops false) y) Q a0 W:=
 lG T hf (fun a w=>iU ops Vs (Old W) a0 (aU ops.size true) a w) (fun τ d=>
  Gd.tE Vs (Old W) base cZ hn ya (fun _ _ h hb=>h.trans (Old.of_below hb)) (cY W τ d) hbase hE fun a w h=>⟨rfl,h⟩) hy
theorem NC(T:Quiet P)(hm:P.follows .mixedOrders=true){id:Nat}{y:Code}{a0:ko}{W:ar}(hf : ∀e a w,Q e a w→sD e=true)(Vs:List Pred)(base:List (Tmp × ak))(cZ:kN ops n base=true)(hn:a0.tmps.size=n)(hbase:iF a0.eval base)(ya:jz (Old W) Vs)
  (hE:Gd.Each (Yields P) ops Vs (Old W) base 0 ops.toList) (hy : ∀a w,iU ops Vs (Old W) a0 (aU ops.size true) a w→nN P y Q a w):nN P (.seq (.region id ops true) y) Q a0 W:=
 lG T hf (fun a w=>iU ops Vs (Old W) a0 (aU ops.size true) a w) (fun τ d=>
  Gd.cj hm Vs (Old W) base (by rw[hn];exact cZ) ya (fun _ _ h hb=>h.trans (Old.of_below hb)) ((cY W τ d).trans ⟨rfl,rfl,ay _,fun _ _=>rfl⟩) hbase hE fun a w h=>⟨rfl,h⟩) hy
theorem dV{R:ko→ar→Prop}(hf : ∀e a w,Q e a w→sD e=true) : ∀e a w,Exit.then R Q e a w→sD e=true:=fun e a w h=>by cases e<;>first|rfl|exact hf _ a w h
theorem oF(T:Quiet P){a:ko}{W:ar}(hf : ∀e a w,Q e a w→sD e=true)(h : ∀τ d,Q .normal a (cX W τ d)):nN P .skip Q a W:=mg T hf fun τ d=>j7 (h τ d)
def CV(P:aN)(o:cU)(ev:cB→ak)(W:ar)(R:ak→ar→Prop):Prop:=
 ∃f args R2,(∀w,(execOp ev o).run P w=.ok (.enter f args) w)∧j6 P f args W R2∧∀v W',R2 v W'→R v W'
def rA(P:aN)(Hu:Nat→Bool)(i:Nat):qM:=match Hu i with|true=>CV P|false=>Yields P
def NT(P:aN)(Hu:Nat→Bool)(ops:Array cU)(Vs:List Pred)(S:ar→Prop)(base:List (Tmp × ak)):Nat→List cU→Prop
 |_,[]=>True
 |i,o :: l=>Gd.NL (rA P Hu i) ops Vs S base i o∧NT P Hu ops Vs S base (i+1) l
theorem NT.get{Hu:Nat→Bool}{Vs:List Pred}{S:ar→Prop}{base:List (Tmp × ak)}{i:Nat}{l:List cU}(h:NT P Hu ops Vs S base i l){j:Nat}{o:cU}(hj:l[j]?=some o):Gd.NL (rA P Hu (i+j)) ops Vs S base (i+j) o:=by
 induction l generalizing i j with
 |nil=>simp at hj
 |cons x l ih=>
  cases j with
  |zero=>simp at hj;subst hj;exact h.1
  |succ j=>have:=ih h.2 (j:=j) (by simpa using hj);rwa [Nat.add_assoc,Nat.add_comm 1 j] at this
def CW(Vs:List Pred):Prop:=∀i u ds w w',gY Vs i u ds w→Old w w'→gY Vs i u ds w'
def mJ:List Pred→Prop
 |[]=>True
 |V :: l=>(∀u ds w w',V u ds w→Old w w'→V u ds w')∧mJ l
theorem vV{x:ak} : ∀(u:ak) (ds:List ak) (w w':ar),pV x u ds w→Old w w'→pV x u ds w':=fun _ _ _ _ h _=>h
theorem mJ.all : ∀ {Vs:List Pred},mJ Vs→CW Vs
 |[],_=>fun i u ds w w' h _=>trivial
 |V :: l,h=>fun i u ds w w' hp ho=>by
  cases i with
  |zero=>exact h.1 u ds w w' hp ho
  |succ i=>exact mJ.all h.2 i u ds w w' hp ho
theorem mJ.below{S:ar→Prop} : ∀ {Vs:List Pred},mJ Vs→jz S Vs
 |[],_=>trivial
 |_ :: _,h=>⟨fun u ds w w' _ hv hb=>h.1 u ds w w' hv (Old.of_below hb),mJ.below h.2⟩
theorem uY{Vs:List Pred}{W0:ar}{ev:cB→ak}{i:Nat}{o:cU}{w w':ar}{v:ak}(hO:CW Vs)(hS:Old W0 w)(ho:Old w w')(h:gY Vs i (match o.dst with|some _=>v|none=>af) (gQ ops ev o.after.toList) w'):Post ops ev Vs (Old W0) i o w v w':=
 ⟨h,.inr ⟨hS.trans ho,fun k u ds _ hp=>hO k u ds w w' hp ho⟩⟩
theorem F3{Vs:List Pred}{W0:ar}{ev:cB→ak}{i:Nat}{o:cU}{w w':ar}{v:ak}{τ:Nat→dG→Nat}{d:Nat}(hO:CW Vs)(hS:Old W0 w)(h:Post ops ev Vs (Old W0) i o (cX w τ d) v w'):Post ops ev Vs (Old W0) i o w v w':=by
 rcases h.2 with hb|hb
 ·exact uY hO hS ((cY w τ d).trans (Old.of_below hb)) h.1
 ·exact⟨h.1,.inr ⟨hb.1,fun k u ds hk hp=>hb.2 k u ds hk (hO k u ds _ _ hp (cY w τ d))⟩⟩
theorem Ks{Vs:List Pred}{ev:cB→ak}{w w':ar}(hO:CW Vs)(ho:Old w w') : ∀ {l:List Edge},Cn ops Vs ev w l→Cn ops Vs ev w' l
 |[],_=>trivial
 |_ :: _,h=>⟨fun hb=>hO _ _ _ _ _ (h.1 hb) ho,Ks hO ho h.2⟩
theorem Yields.mono{o:cU}{ev:cB→ak}{w:ar}{R R':ak→ar→Prop}(h:Yields P o ev w R)(hr : ∀v w',R v w'→R' v w'):Yields P o ev w R':=by
 unfold Yields at *;generalize (execOp ev o).run P w=r at *;cases r with
 |halt x w'=>exact h.elim
 |ok n w'=>
  cases n<;>simp only[] at h ⊢
  ·exact hr _ _ h
  ·exact hr _ _ h
  all_goals first|exact h.elim|skip
  ·exact h.mono (by rintro e w'' ⟨v,rfl,hv⟩;exact⟨v,rfl,hr _ _ hv⟩)
theorem Ni(T:Quiet P){id:Nat}{y:Code}{a0:ko}{W:ar}(hf : ∀e a w,Q e a w→sD e=true)(Hu:Nat→Bool)(Vs:List Pred)(base:List (Tmp × ak))(cZ:kN ops n base=true)(hn:a0.tmps.size=n)(hbase:iF a0.eval base)(ya:mJ Vs)
  (hE:NT P Hu ops Vs (Old W) base 0 ops.toList) (hy : ∀a w,iU ops Vs (Old W) a0 (aU ops.size true) a w→nN P y Q a w):nN P (.seq (.region id ops false) y) Q a0 W:=by
 refine jD T (nR T ?_);rw[qU];have hO:=ya.all;let Y:qM:=fun o ev w R=>(∀τ d,Yields P o ev (cX w τ d) R)∨CV P o ev w R;let step:Nat→(ko→ar→Prop)→ko→ar→Prop:=fun i K a w=>∀rest,(∀a' w',K a' w'→ic P ops (Exit.then (fun a w=>nN P y Q a w) Q) rest a' w')→ic P ops (Exit.then (fun a w=>nN P y Q a w) Q) (i :: rest) a w
 have adZ:=Gd.tk (Q:=fun e a w=>e=.normal∧nN P y Q a w) (Y:=Y) (step:=step) (ops:=ops) (Vs:=Vs) (S:=Old W) (base:=base) (n:=n)
  (fun i o K a w R ho hw hY hk rest hr=>by
   rcases hY with h|⟨f,args,R2,he,hc,h2⟩
   ·exact fU T ho hw fun τ d=>(h τ d).wp fun v w' hv=>hr _ _ (hk v w' hv)
   ·exact mW T ho hw he hc fun v W' _ hv=>hr _ _ (hk v W' (h2 v W' hv)))
  (fun i o K a w ho hw hk rest hr=>Jc T ho (by simpa using hw) (hr _ _ hk))
  cZ ya.below (fun _ _ h hb=>h.trans (Old.of_below hb)) a0 hn hbase 0 (fun j o _ hj=>by
   have h1:=hE.get (j:=j) (o:=o) (by simpa using hj);rw[eo] at h1;intro ev w hS hc hg hfn hb hd
   have lift : ∀(R:ak→ar→Prop),R=Post ops ev Vs (Old W) j o w→Hu j=false→(∀τ d,Yields P o ev (cX w τ d) (Post ops ev Vs (Old W) j o (cX w τ d)))→Y o ev w R:=fun R hR hv h=>by
    subst hR;exact .inl fun τ d=>(h τ d).mono fun v w' hp=>F3 hO hS hp
   cases hv:Hu j with
   |true=>
    have e:rA P Hu j=CV P:=by unfold rA;rw[hv]
    rw[e] at h1;have h2:=h1 ev w hS hc hg hfn hb hd;cases hgd:o.guard with
    |none=>rw[hgd] at h2;exact .inr h2
    |some jb=>obtain⟨g,b⟩:=jb;rw[hgd] at h2;exact⟨fun h=>.inr (h2.1 h),h2.2⟩
   |false=>
    have e:rA P Hu j=Yields P:=by unfold rA;rw[hv]
    rw[e] at h1;have h2:=fun τ d=>h1 ev (cX w τ d) (hS.trans (cY w τ d)) hc hg hfn hb (Ks hO (cY w τ d) hd);cases hgd:o.guard with
    |none=>
     refine lift _ rfl hv fun τ d=>?_;have:=h2 τ d;rw[hgd] at this;exact this
    |some jb=>
     obtain⟨g,b⟩:=jb;refine⟨fun h=>lift _ rfl hv fun τ d=>?_,fun h=>?_⟩
     ·have:=h2 τ d;rw[hgd] at this;exact this.1 h
     ·have:=h2 w.tape w.drawn;rw[hgd] at this
      exact F3 hO hS (this.2 h)) (fun a w h=>⟨rfl,hy a w h⟩) ops.size _ a0 W oQ (fun k hk=>by omega) (qq (Old.refl W))
 have go : ∀(m i:Nat) (L:Array Bool) (a:ko) (w:ar),i+m=ops.size→L.size=ops.size→(∀k,L.getD k false=decide (k<i))→anyOf step ops (fun e a w=>e=.normal∧nN P y Q a w) m L a w→ic P ops (Exit.then (fun a w=>nN P y Q a w) Q) (oB i m) a w:=by
  intro m
  induction m with
  |zero=>
   intro i L a w hi hL hk h;exact mV T (l:=[]) (dV hf) fun τ d=>(Tk (τ:=w.tape) (d:=w.drawn) h.2.2:nN P y Q a (cX w τ d))
  |succ m ih=>
   intro i L a w hi hL hk h;exact h.2 i (Gd.F2 cZ (by omega) hL hk) (oB (i+1) m) fun a' w' h'=>ih (i+1) _ a' w' (by omega) (by simpa using hL) (Gd.Nh (by omega) hk) h'
 exact go ops.size 0 _ a0 W (by omega) (by simp) (fun k=>by simp[aW,jC];split<;>simp) adZ
end
open Go Go.RowKit Go.Proofs.YtffladgmkiimjaaGreatDoor
def XO(c:Bool)(v:ak):Value:=if c then v else af
theorem Gj{c x:Bool}:(XO c (.bool x)=.bool false)↔(c && !x)=true:=by cases c<;>cases x<;>simp[XO,af]
theorem jx{x:Bool}:((.bool x:ak)=.bool true)↔x=true:=by simp
theorem fo{x:Bool}:((.bool x:ak)=.bool false)↔(!x)=true:=by cases x<;>simp
theorem XM{c:Bool}{v:ak}(h : ¬c=true):af=XO c v:=by cases c<;>simp_all [XO]
theorem CN{c:Bool}{v:ak}(h:c=true):v=XO c v:=by subst h;rfl
abbrev pG(c:Bool)(x:ak):Pred:=fun v _ _=>v=XO c x
theorem sG{S:ar→Prop}{c:Bool}{x:ak} : ∀(u:ak) (ds:List ak) (w w':ar),S w→pG c x u ds w→aC w.heap.size w w'→pG c x u ds w':=fun _ _ _ _ _ h _=>h
theorem Ph.sG{S:Ph.Ls→ar→Prop}{c:Bool}{x:ak} : ∀(u:ak) (ds:List ak) (L:Ph.Ls) (w w':ar),S L w→pG c x u ds w→aC w.heap.size w w'→pG c x u ds w':=fun _ _ _ _ _ _ h _=>h
theorem gG{A b:Bool}{val V0 X:ak}{Y Z:Prop}{w:ar}(d:val=V0)(l:V0=.bool b↔A=true)(h:A=true→Y):(val=.bool b→Y)∧(val≠.bool b→(af=XO A X)∧(aC w.heap.size w w∨Z)):=
 ⟨fun e=>h (l.1 (d.symm.trans e)),fun e=>⟨XM fun hc=>absurd (d.trans (l.2 hc)) e,.inl (aw _ _)⟩⟩
end Go.Lag
namespace Go.RowKit
theorem Below.tr{w W W':ar}(h:aC w.heap.size w W)(ho:aC W.heap.size W W'):aC w.heap.size w W':=h.trans (ho.mono h.size)
end Go.RowKit
namespace Go.Lag
open Go Go.RowKit Go.Proofs.YtffladgmkiimjaaGreatDoor
theorem aK{W W':ar}{B:Nat}{o:Obj}(h:W.heap[B]?=some o)(ho:aC W.heap.size W W'):W'.heap[B]?=some o:=(ho.block _ (aj.1 h).1).trans h
section
variable{P:aN}{ops:Array cU}{Q:Exit→ko→ar→Prop}{n:Nat}
theorem cV{id:Nat}{y:Code}{a0:ko}{W:ar}(Vs:List Pred)(base:List (Tmp × ak))(cZ:kN ops n base=true)(hn:a0.tmps.size=n)(hbase:iF a0.eval base)(ya:jz (fun w=>aC W.heap.size W w) Vs)
  (hE:Gd.Each (Yields P) ops Vs (fun w=>aC W.heap.size W w) base 0 ops.toList) (hy : ∀a w,iU ops Vs (fun w=>aC W.heap.size W w) a0 (aU ops.size true) a w→y.wp P Q a w):(Code.seq (.region id ops false) y).wp P Q a0 W:=
 kh (Gd.tE Vs (fun w=>aC W.heap.size W w) base cZ hn ya (fun _ _ h hb=>h.trans (hb.mono h.size)) (aw _ _) hbase hE fun a w h=>hy a w h)
theorem Gn(hm:P.follows .mixedOrders=true){id:Nat}{y:Code}{a0:ko}{W:ar}(Vs:List Pred)(base:List (Tmp × ak))(cZ:kN ops n base=true)(hn:a0.tmps.size=n)(hbase:iF a0.eval base)(ya:jz (fun w=>aC W.heap.size W w) Vs)
  (hE:Gd.Each (Yields P) ops Vs (fun w=>aC W.heap.size W w) base 0 ops.toList) (hy : ∀a w,iU ops Vs (fun w=>aC W.heap.size W w) a0 (aU ops.size true) a w→y.wp P Q a w):(Code.seq (.region id ops true) y).wp P Q a0 W:=
 kh (Gd.cj hm Vs (fun w=>aC W.heap.size W w) base (by rw[hn];exact cZ) ya (fun _ _ h hb=>h.trans (hb.mono h.size)) (aw _ _).drew hbase hE fun a w h=>hy a w h)
theorem kD{id:Nat}{a0:ko}{W:ar}(Vs:List Pred)(base:List (Tmp × ak))(late:List (Nat × Tmp × ak))(cZ:kN ops n base=true)(hn:a0.tmps.size=n)(hbase:iF a0.eval base)(hlate:Ph.EH ops a0.eval late)(ya:Ph.jz (fun _ w=>aC W.heap.size W w) Vs)
  (hE:Ph.Each (Yields P) ops Vs (fun _ w=>aC W.heap.size W w) base late 0 ops.toList) (hy : ∀a w,Ph.iU ops Vs (fun _ w=>aC W.heap.size W w) a0 (aU ops.size true) a w→Q .normal a w):(Code.region id ops false).wp P Q a0 W:=by
 refine wp_region ?_;rw[qU];refine Gd.tF cZ ops.size 0 (aU ops.size false) a0 W (by omega) (by simp) (fun k=>by simp[aW,jC];split<;>simp) ?_
 exact Ph.tk (Y:=Yields P) (fun i o K a w R ho hw hy hk=>wpOp_step ho fun K' hK=>by rw[if_pos hw];exact hy.wp fun v w' hv=>hK _ _ (hk v w' hv))
  (fun i o K a w ho hw hk=>wpOp_step ho fun K' hK=>by rw[if_neg hw];exact hK _ _ hk) cZ ya (fun _ _ _ _ _ h hb=>h.trans (hb.mono h.size)) a0 hn hbase hlate hE hy ops.size _ a0 _ Ph.oQ (Ph.qq (aw _ _))
theorem Ph.iU.fr{Vs:List Pred}{S:Ph.Ls→ar→Prop}{a0 a:ko}{L:Array Bool}{w:ar}{n:Nat}{l:List (Tmp × ak)}(h:Ph.iU ops Vs S a0 L a w)(h0:BU n a0 l)(hk:(l.all fun p=>keeps ops p.1)=true):BU n a l:=
 ⟨h.size.trans h0.size,h.defers.trans h0.defers,h0.base.congr fun p hp=>h.keep p.1 fun o ho=>by
  have h1:=bL.1 hk p hp;have:=bL.1 h1 o ho
  simpa using this⟩
theorem oX{args:Array ak}{k t:Nat}{v:ak}(h:args[t]?=some v):(⟨args ++ aU k af,[]⟩:ko).eval (.tmp t)=v:=by
 have hl:=(aj.1 h).1;unfold Act.eval;simp only[aW];rw[Array.getElem?_append_left hl,h];rfl
theorem l9{args:Array ak}{n:Nat}(hn:args.size≤n)(l:List (Tmp × ak))(h:iF (⟨args ++ aU (n - args.size) af,[]⟩:ko).eval l):BU n ⟨args ++ aU (n - args.size) af,[]⟩ l:=⟨by simp;omega,rfl,h⟩
end
end Go.Lag
namespace Go.Proofs.YtffladgmkiimjaaGreatDoor
open Go.RowKit Go.Lag
theorem gF(n l m:Int)(w:ar):bp aq 35 #[ah ag n,ah ag l,ah ag m] w fun e w'=>e=aG (aA (aL n l m))∧aC w.heap.size w w':=by
 refine oy Tryz.func35 rfl ?_;have hF:=l9 (args:=#[ah ag n,ah ag l,ah ag m]) (n:=15) (by simp) [(2,ah ag m),(1,ah ag l),(0,ah ag n)] ⟨oX rfl,oX rfl,oX rfl,trivial⟩;rw[show Tryz.f35.ntmps=15 from rfl];generalize (⟨#[ah ag n,ah ag l,ah ag m] ++ aU (15 - (#[ah ag n,ah ag l,ah ag m]:Array ak).size) af,[]⟩:ko)=a at *;refine(fun h : ∀W,aC w.heap.size w W→dH aq _ _ a W=>h w (aw _ _)) ?_;intro W HB
 refine cV [pV (aA false)]
  _ (by kernel_rfl) hF.size hF.base ?_ ?_ ?_
 ·exact⟨sV,trivial⟩
 ·refine⟨?_,trivial⟩<;>rintro ev w1 hS hc hg hf hb hd
  ·clear hd;refine yv ?_ rfl;go_simp
 intro a W hR;have ho:=hR.s;replace HB:=HB.tr ho;replace hF:=(hR.fr hF (by kernel_rfl)).cons (t:=6) (hR.val 0 (by decide));clear hR ho;replace hF:=hF.tl
 refine cV [pV (ah ag l),pV (ah ag n),pV (aA (decide (l≤n))),pV (aA (decide (l≤n))),pC (decide (l≤n)) (ah ag n),pC (decide (l≤n)) (ah ag m),pC (decide (l≤n)) (aA (decide (n≤m))),pV (aA ((decide (l≤n))&&(decide (n≤m)))),pV (aA ((decide (l≤n))&&(decide (n≤m))))]
  _ (by kernel_rfl) hF.size hF.base ?_ ?_ ?_
 ·exact⟨sV,sV,sV,sV,sC,sC,sC,sV,sV,trivial⟩
 ·refine⟨?_,?_,?_,?_,?_,?_,?_,?_,?_,trivial⟩<;>rintro ev w1 hS hc hg hf ⟨b2,b1,b0,-⟩ hd
  all_goals try
   try have d0:ev (aB _)=_:=hd.1 rfl
   try have d1:ev (aB _)=_:=hd.2.1 rfl
   clear hd;refine yw rfl ?_ rfl;go_simp;done
  all_goals try
   try have d0:ev (aB _)=_:=hd.1 rfl
   try have c0:_→ev (aB _)=_:=hd.1 rfl
   try have c1:_→ev (aB _)=_:=hd.2.1 rfl
   try have d2:ev (aB _)=_:=hd.2.2.1 rfl
   clear hd
   first|refine gC d0 jx fun hA=>?_|refine gC d2 jx fun hA=>?_
   try replace c0:=c0 hA
   try replace c1:=c1 hA
   refine yw rfl ?_ (fun _=>rfl);go_simp;done
  ·have d3:ev (aB 10)=_:=hd.1 rfl;have d6:_→ev (aB 13)=_:=hd.2.1 rfl;clear hd;exact yA rfl hc d3 (fun hq=>d6 (by simp[hq])) (rfl)
 intro a W hR;have ho:=hR.s;replace HB:=HB.tr ho;replace hF:=(hR.fr hF (by kernel_rfl)).cons (t:=6) (hR.val 8 (by decide));clear hR ho;refine iW ?_;show eU aq Tryz.f35 (fun e w'=>e=aO (aA (aL n l m))∧aC w.heap.size w w') fC a W;exact bw (cD rfl _ _ _) hF.defers ⟨congrArg aO (((hF.g 0 rfl):a.eval (aB 6)=aA ((decide (l≤n))&&(decide (n≤m)))).trans (rfl)),HB⟩
def bZ(lo hi l m:Int):Bool:=(decide (l≤lo)&&decide (lo≤hi))&&decide (hi≤m)
theorem q7(lo hi l m:Int)(w:ar):bp aq 147 #[aQ #[ah ag lo,ah ag hi],ah ag l,ah ag m] w fun e w'=>e=aG (aA (bZ lo hi l m))∧aC w.heap.size w w':=by
 refine oy Tryz.func147 rfl ?_;have hF:=l9 (args:=#[aQ #[ah ag lo,ah ag hi],ah ag l,ah ag m]) (n:=24) (by simp) [(2,ah ag m),(1,ah ag l),(0,aQ #[ah ag lo,ah ag hi])] ⟨oX rfl,oX rfl,oX rfl,trivial⟩;rw[show Tryz.f147.ntmps=24 from rfl];generalize (⟨#[aQ #[ah ag lo,ah ag hi],ah ag l,ah ag m] ++ aU (24 - (#[aQ #[ah ag lo,ah ag hi],ah ag l,ah ag m]:Array ak).size) af,[]⟩:ko)=a at *;refine(fun h : ∀W,aC w.heap.size w W→dH aq _ _ a W=>h w (aw _ _)) ?_;intro W HB
 refine cV [fun v ds w9=>∃B,v=pv B 0∧w9.heap[B]?=some (au #[ah ag lo,ah ag hi] 23 (0,0)),pV (aA false)]
  _ (by kernel_rfl) hF.size hF.base ?_ ?_ ?_
 ·refine⟨?_,sV,trivial⟩
  ·rintro v ds w1 w2 hS ⟨B,h1,h2⟩ hb;exact⟨B,h1,aK h2 hb⟩
 ·refine⟨?_,?_,trivial⟩<;>rintro ev w1 hS hc hg hf ⟨-,-,b0,-⟩ hd
  ·clear hd;refine Lag.Yields.value (v:=pv w1.heap.size 0) (w':=w1.alloc (au #[ah ag lo,ah ag hi] 23)) ?_ ⟨⟨_,rfl,ax _ _⟩,.inl ((aw _ _).alloc (ay _) _)⟩;go_simp
  ·clear hd;refine yv ?_ rfl;go_simp
 intro a W hR;have ho:=hR.s;obtain⟨B3,e3,K3⟩:=hR.val 0 (by decide);replace e3:a.eval (aB 3)=a8 (some ⟨B3,0,none⟩):=e3;replace HB:=HB.tr ho;replace hF:=((hR.fr hF (by kernel_rfl)).cons (t:=3) e3).cons (t:=6) (hR.val 1 (by decide));clear hR ho e3;replace hF:=hF.tl
 refine cV [pV (ah ag l),pV (a8 (some ⟨B3,0,none⟩)),pV (ah ag lo),pV (aA (decide (l≤lo))),pV (aA (decide (l≤lo))),pC (decide (l≤lo)) (a8 (some ⟨B3,0,none⟩)),pC (decide (l≤lo)) (ah ag lo),pC (decide (l≤lo)) (a8 (some ⟨B3,1,none⟩)),pC (decide (l≤lo)) (ah ag hi),pC (decide (l≤lo)) (aA (decide (lo≤hi))),pV (aA ((decide (l≤lo))&&(decide (lo≤hi)))),pV (aA ((decide (l≤lo))&&(decide (lo≤hi)))),pC ((decide (l≤lo))&&(decide (lo≤hi))) (a8 (some ⟨B3,1,none⟩)),pC ((decide (l≤lo))&&(decide (lo≤hi))) (ah ag hi),pC ((decide (l≤lo))&&(decide (lo≤hi))) (ah ag m),pC ((decide (l≤lo))&&(decide (lo≤hi))) (aA (decide (hi≤m))),pV (aA (((decide (l≤lo))&&(decide (lo≤hi)))&&(decide (hi≤m)))),pV (aA (((decide (l≤lo))&&(decide (lo≤hi)))&&(decide (hi≤m))))]
  _ (by kernel_rfl) hF.size hF.base ?_ ?_ ?_
 ·exact⟨sV,sV,sV,sV,sV,sC,sC,sC,sC,sC,sV,sV,sC,sC,sC,sC,sV,sV,trivial⟩
 ·refine⟨?_,?_,?_,?_,?_,?_,?_,?_,?_,?_,?_,?_,?_,?_,?_,?_,?_,?_,trivial⟩<;>rintro ev w1 hS hc hg hf ⟨b3,b2,b1,-,-⟩ hd
  all_goals try
   try have d0:ev (aB _)=_:=hd.1 rfl
   try have d1:ev (aB _)=_:=hd.2.1 rfl
   clear hd;refine yw rfl ?_ rfl;go_simp;done
  all_goals try
   try have d0:ev (aB _)=_:=hd.1 rfl
   try have c0:_→ev (aB _)=_:=hd.1 rfl
   try have c1:_→ev (aB _)=_:=hd.2.1 rfl
   try have d2:ev (aB _)=_:=hd.2.2.1 rfl
   clear hd
   first|refine gC d0 jx fun hA=>?_|refine gC d2 jx fun hA=>?_
   try replace c0:=c0 hA
   try replace c1:=c1 hA
   refine yw rfl ?_ (fun _=>rfl);go_simp;done
  ·have d1:ev (aB 8)=_:=hd.1 rfl;clear hd;have z:=aH (aK K3 hS) 0 _ rfl;refine yv ?_ rfl;go_simp
  ·have d5:_→ev (aB 12)=_:=hd.1 rfl;have d4:ev (aB 11)=_:=hd.2.1 rfl;clear hd;refine gC d4 jx fun hA=>?_;have y5:=d5 hA;have z:=aH (aK K3 hS) 0 _ rfl;refine yv ?_ (fun _=>rfl);go_simp
  ·have d7:_→ev (aB 14)=_:=hd.1 rfl;have d4:ev (aB 11)=_:=hd.2.1 rfl;clear hd;refine gC d4 jx fun hA=>?_;have y7:=d7 hA;have z:=aH (aK K3 hS) 1 _ rfl;refine yv ?_ (fun _=>rfl);go_simp
  ·have d4:ev (aB 11)=_:=hd.1 rfl;have d9:_→ev (aB 16)=_:=hd.2.1 rfl;clear hd;exact yA rfl hc d4 (fun hq=>d9 (by simp[hq])) (rfl)
  ·have d12:_→ev (aB 19)=_:=hd.1 rfl;have d11:ev (aB 18)=_:=hd.2.1 rfl;clear hd;refine gC d11 jx fun hA=>?_;have I9:=d12 hA;have z:=aH (aK K3 hS) 1 _ rfl;refine yv ?_ (fun _=>rfl);go_simp
  ·have d11:ev (aB 18)=_:=hd.1 rfl;have d15:_→ev (aB 22)=_:=hd.2.1 rfl;clear hd;exact yA rfl hc d11 (fun hq=>d15 (by simp[hq])) (rfl)
 intro a W hR;have ho:=hR.s;replace HB:=HB.tr ho;replace K3:=aK K3 ho;replace hF:=(hR.fr hF (by kernel_rfl)).cons (t:=6) (hR.val 17 (by decide));clear hR ho;refine iW ?_;show eU aq Tryz.f147 (fun e w'=>e=aO (aA (bZ lo hi l m))∧aC w.heap.size w w') fC a W;exact bw (cD rfl _ _ _) hF.defers ⟨congrArg aO (((hF.g 0 rfl):a.eval (aB 6)=aA (((decide (l≤lo))&&(decide (lo≤hi)))&&(decide (hi≤m)))).trans (rfl)),HB⟩
theorem rB(b:BB)(men sent marks:ak)(n:Int)(w:ar):bp aq 134 #[aQ (b.cells men sent marks),ah ag n] w fun e w'=>e=aG (aA (aL n 1 b.minutes))∧aC w.heap.size w w':=by
 refine oy Tryz.func134 rfl ?_;have hF:=l9 (args:=#[aQ (b.cells men sent marks),ah ag n]) (n:=9) (by simp) [(1,ah ag n),(0,aQ (b.cells men sent marks))] ⟨oX rfl,oX rfl,trivial⟩;rw[show Tryz.f134.ntmps=9 from rfl];generalize (⟨#[aQ (b.cells men sent marks),ah ag n] ++ aU (9 - (#[aQ (b.cells men sent marks),ah ag n]:Array ak).size) af,[]⟩:ko)=a at *;refine(fun h : ∀W,aC w.heap.size w W→dH aq _ _ a W=>h w (aw _ _)) ?_;intro W HB
 refine cV [fun v ds w9=>∃B,v=pv B 0∧w9.heap[B]?=some (au (b.cells men sent marks) 28 (0,0)),pV (aA false)]
  _ (by kernel_rfl) hF.size hF.base ?_ ?_ ?_
 ·refine⟨?_,sV,trivial⟩
  ·rintro v ds w1 w2 hS ⟨B,h1,h2⟩ hb;exact⟨B,h1,aK h2 hb⟩
 ·refine⟨?_,?_,trivial⟩<;>rintro ev w1 hS hc hg hf ⟨-,b0,-⟩ hd
  ·clear hd;refine Lag.Yields.value (v:=pv w1.heap.size 0) (w':=w1.alloc (au (b.cells men sent marks) 28)) ?_ ⟨⟨_,rfl,ax _ _⟩,.inl ((aw _ _).alloc (ay _) _)⟩;go_simp
  ·clear hd;refine yv ?_ rfl;go_simp
 intro a W hR;have ho:=hR.s;obtain⟨B2,e2,K2⟩:=hR.val 0 (by decide);replace e2:a.eval (aB 2)=a8 (some ⟨B2,0,none⟩):=e2;replace HB:=HB.tr ho;replace hF:=((hR.fr hF (by kernel_rfl)).cons (t:=2) e2).cons (t:=4) (hR.val 1 (by decide));clear hR ho e2;replace hF:=hF.tl
 refine cV [pV (ah ag n),pV (a8 (some ⟨B2,3,none⟩)),pV (ah ag b.minutes),pV (aA (aL n 1 b.minutes)),pV (aA (aL n 1 b.minutes))]
  _ (by kernel_rfl) hF.size hF.base ?_ ?_ ?_
 ·exact⟨sV,sV,sV,sV,sV,trivial⟩
 ·refine⟨?_,?_,?_,?_,?_,trivial⟩<;>rintro ev w1 hS hc hg hf ⟨b2,b1,-,-⟩ hd
  all_goals try
   try have d0:ev (aB _)=_:=hd.1 rfl
   clear hd;refine yw rfl ?_ rfl;go_simp;done
  ·have d1:ev (aB 6)=_:=hd.1 rfl;clear hd;have z:=aH (aK K2 hS) 3 _ rfl;refine yv ?_ rfl;go_simp
  ·have d0:ev (aB 5)=_:=hd.1 rfl;have d2:ev (aB 7)=_:=hd.2.1 rfl;clear hd;refine yc (gF n 1 b.minutes w1) ?_ (fun _=>rfl);go_simp
 intro a W hR;have ho:=hR.s;replace HB:=HB.tr ho;replace K2:=aK K2 ho;replace hF:=(hR.fr hF (by kernel_rfl)).cons (t:=4) (hR.val 4 (by decide));clear hR ho;refine iW ?_;show eU aq Tryz.f134 (fun e w'=>e=aO (aA (aL n 1 b.minutes))∧aC w.heap.size w w') fC a W;exact bw (cD rfl _ _ _) hF.defers ⟨congrArg aO (((hF.g 0 rfl):a.eval (aB 4)=aA (aL n 1 b.minutes)).trans (rfl)),HB⟩
theorem P9{lo hi:Int}(h:bZ lo hi 0 99=true):IntKind.i64.wrap (hi - lo)=hi - lo:=by
 unfold bZ at h;simp at h;rw[gU];omega
def BQ(b:BB):Bool:=(((!(aL b.room 1 99))||(!(aL b.depth 0 99)))||(!(aL b.least 0 99)))||(!(aL b.minutes 1 8))
def Ez(b:BB):Bool:=(((!(aL b.cu 0 99))||(!(aL b.iB 0 99)))||(!(aL b.ji 0 99)))||(!(aL b.ek 0 3))
def Gt(b:BB):Bool:=((!(bZ b.pl b.pm 1 b.minutes))||(!(bZ b.ll b.lm 0 99)))||decide (b.lm - b.ll≥3)
def lO(b:BB):Int:=if BQ b then 1 else if Ez b then 1 else if Gt b then 1 else 0
theorem Fj(b:BB)(men sent marks:ak)(w:ar):bp aq 145 #[aQ (b.cells men sent marks)] w fun e w'=>e=aG (ah ag (lO b))∧aC w.heap.size w w':=by
 refine oy Tryz.func145 rfl ?_;have hF:=l9 (args:=#[aQ (b.cells men sent marks)]) (n:=69) (by simp) [(0,aQ (b.cells men sent marks))] ⟨oX rfl,trivial⟩;rw[show Tryz.f145.ntmps=69 from rfl];generalize (⟨#[aQ (b.cells men sent marks)] ++ aU (69 - (#[aQ (b.cells men sent marks)]:Array ak).size) af,[]⟩:ko)=a at *;refine(fun h : ∀W,aC w.heap.size w W→dH aq _ _ a W=>h w (aw _ _)) ?_;intro W HB
 refine cV [fun v ds w9=>∃B,v=pv B 0∧w9.heap[B]?=some (au (b.cells men sent marks) 28 (0,0)),pV (ah ag 0)]
  _ (by kernel_rfl) hF.size hF.base ?_ ?_ ?_
 ·refine⟨?_,sV,trivial⟩
  ·rintro v ds w1 w2 hS ⟨B,h1,h2⟩ hb;exact⟨B,h1,aK h2 hb⟩
 ·refine⟨?_,?_,trivial⟩<;>rintro ev w1 hS hc hg hf ⟨b0,-⟩ hd
  ·clear hd;refine Lag.Yields.value (v:=pv w1.heap.size 0) (w':=w1.alloc (au (b.cells men sent marks) 28)) ?_ ⟨⟨_,rfl,ax _ _⟩,.inl ((aw _ _).alloc (ay _) _)⟩;go_simp
  ·clear hd;refine yv ?_ rfl;go_simp
 intro a W hR;have ho:=hR.s;obtain⟨B1,e1,K1⟩:=hR.val 0 (by decide);replace e1:a.eval (aB 1)=a8 (some ⟨B1,0,none⟩):=e1;replace HB:=HB.tr ho;replace hF:=((hR.fr hF (by kernel_rfl)).cons (t:=1) e1).cons (t:=2) (hR.val 1 (by decide));clear hR ho e1;refine kh ?_
 refine cV [pV (a8 (some ⟨B1,0,none⟩)),pV (ah ag b.room),pV (aA (aL b.room 1 99)),pV (aA (!(aL b.room 1 99))),pV (aA (!(aL b.room 1 99))),pC (!(!(aL b.room 1 99))) (a8 (some ⟨B1,1,none⟩)),pC (!(!(aL b.room 1 99))) (ah ag b.depth),pC (!(!(aL b.room 1 99))) (aA (aL b.depth 0 99)),pC (!(!(aL b.room 1 99))) (aA (!(aL b.depth 0 99))),pV (aA ((!(aL b.room 1 99))||(!(aL b.depth 0 99)))),pV (aA ((!(aL b.room 1 99))||(!(aL b.depth 0 99)))),pC (!((!(aL b.room 1 99))||(!(aL b.depth 0 99)))) (a8 (some ⟨B1,2,none⟩)),pC (!((!(aL b.room 1 99))||(!(aL b.depth 0 99)))) (ah ag b.least),pC (!((!(aL b.room 1 99))||(!(aL b.depth 0 99)))) (aA (aL b.least 0 99)),pC (!((!(aL b.room 1 99))||(!(aL b.depth 0 99)))) (aA (!(aL b.least 0 99))),pV (aA (((!(aL b.room 1 99))||(!(aL b.depth 0 99)))||(!(aL b.least 0 99)))),pV (aA (((!(aL b.room 1 99))||(!(aL b.depth 0 99)))||(!(aL b.least 0 99)))),pC (!(((!(aL b.room 1 99))||(!(aL b.depth 0 99)))||(!(aL b.least 0 99)))) (a8 (some ⟨B1,3,none⟩)),pC (!(((!(aL b.room 1 99))||(!(aL b.depth 0 99)))||(!(aL b.least 0 99)))) (ah ag b.minutes),pC (!(((!(aL b.room 1 99))||(!(aL b.depth 0 99)))||(!(aL b.least 0 99)))) (aA (aL b.minutes 1 8)),pC (!(((!(aL b.room 1 99))||(!(aL b.depth 0 99)))||(!(aL b.least 0 99)))) (aA (!(aL b.minutes 1 8))),pV (aA ((((!(aL b.room 1 99))||(!(aL b.depth 0 99)))||(!(aL b.least 0 99)))||(!(aL b.minutes 1 8))))]
  _ (by kernel_rfl) hF.size hF.base ?_ ?_ ?_
 ·exact⟨sV,sV,sV,sV,sV,sC,sC,sC,sC,sV,sV,sC,sC,sC,sC,sV,sV,sC,sC,sC,sC,sV,trivial⟩
 ·refine⟨?_,?_,?_,?_,?_,?_,?_,?_,?_,?_,?_,?_,?_,?_,?_,?_,?_,?_,?_,?_,?_,?_,trivial⟩<;>rintro ev w1 hS hc hg hf ⟨-,b1,-,-⟩ hd
  all_goals try
   try have d0:ev (aB _)=_:=hd.1 rfl
   clear hd;refine yw rfl ?_ rfl;go_simp;done
  all_goals try
   try have d0:ev (aB _)=_:=hd.1 rfl
   try have c0:_→ev (aB _)=_:=hd.1 rfl
   try have d1:ev (aB _)=_:=hd.2.1 rfl
   clear hd
   first|refine gC d0 fo fun hA=>?_|refine gC d1 fo fun hA=>?_
   try replace c0:=c0 hA
   refine yw rfl ?_ (fun _=>rfl);go_simp;done
  ·have d0:ev (aB 3)=_:=hd.1 rfl;clear hd;have z:=aH (aK K1 hS) 0 _ rfl;refine yv ?_ rfl;go_simp
  ·have d1:ev (aB 4)=_:=hd.1 rfl;clear hd;refine yc (gF b.room 1 99 w1) ?_ (fun _=>rfl);go_simp
  ·have d5:_→ev (aB 8)=_:=hd.1 rfl;have d4:ev (aB 7)=_:=hd.2.1 rfl;clear hd;refine gC d4 fo fun hA=>?_;have y5:=d5 hA;have z:=aH (aK K1 hS) 1 _ rfl;refine yv ?_ (fun _=>rfl);go_simp
  ·have d6:_→ev (aB 9)=_:=hd.1 rfl;have d4:ev (aB 7)=_:=hd.2.1 rfl;clear hd;refine gC d4 fo fun hA=>?_;have y6:=d6 hA;refine yc (gF b.depth 0 99 w1) ?_ (fun _=>fun _=>rfl);go_simp
  ·have d4:ev (aB 7)=_:=hd.1 rfl;have d8:_→ev (aB 11)=_:=hd.2.1 rfl;clear hd;exact yO rfl hc d4 (fun hq=>d8 (by simp[hq])) (rfl)
  ·have d11:_→ev (aB 14)=_:=hd.1 rfl;have d10:ev (aB 13)=_:=hd.2.1 rfl;clear hd;refine gC d10 fo fun hA=>?_;have Ja:=d11 hA;have z:=aH (aK K1 hS) 2 _ rfl;refine yv ?_ (fun _=>rfl);go_simp
  ·have d12:_→ev (aB 15)=_:=hd.1 rfl;have d10:ev (aB 13)=_:=hd.2.1 rfl;clear hd;refine gC d10 fo fun hA=>?_;have I9:=d12 hA;refine yc (gF b.least 0 99 w1) ?_ (fun _=>fun _=>rfl);go_simp
  ·have d10:ev (aB 13)=_:=hd.1 rfl;have d14:_→ev (aB 17)=_:=hd.2.1 rfl;clear hd;exact yO rfl hc d10 (fun hq=>d14 (by simp[hq])) (rfl)
  ·have d17:_→ev (aB 20)=_:=hd.1 rfl;have d16:ev (aB 19)=_:=hd.2.1 rfl;clear hd;refine gC d16 fo fun hA=>?_;have YX:=d17 hA;have z:=aH (aK K1 hS) 3 _ rfl;refine yv ?_ (fun _=>rfl);go_simp
  ·have d18:_→ev (aB 21)=_:=hd.1 rfl;have d16:ev (aB 19)=_:=hd.2.1 rfl;clear hd;refine gC d16 fo fun hA=>?_;have YW:=d18 hA;refine yc (gF b.minutes 1 8 w1) ?_ (fun _=>fun _=>rfl);go_simp
  ·have d16:ev (aB 19)=_:=hd.1 rfl;have d20:_→ev (aB 23)=_:=hd.2.1 rfl;clear hd;exact yO rfl hc d16 (fun hq=>d20 (by simp[hq])) (rfl)
 intro a W hR;have ho:=hR.s;replace HB:=HB.tr ho;replace K1:=aK K1 ho;replace hF:=(hR.fr hF (by kernel_rfl)).cons (t:=24) (hR.val 21 (by decide));clear hR ho;refine dB (t:=((((!(aL b.room 1 99))||(!(aL b.depth 0 99)))||(!(aL b.least 0 99)))||(!(aL b.minutes 1 8)))) (hF.g 0 rfl) (fun Ic=>?_) (fun Ic=>?_)
 ·skip
  replace hF:=hF.tl;replace hF:=hF.tl
  refine cV [pV (ah ag 1)]
   _ (by kernel_rfl) hF.size hF.base ?_ ?_ ?_
  ·exact⟨sV,trivial⟩
  ·refine⟨?_,trivial⟩<;>rintro ev w1 hS hc hg hf hb hd
   ·clear hd;refine yv ?_ rfl;go_simp
  intro a W hR;have ho:=hR.s;replace HB:=HB.tr ho;replace K1:=aK K1 ho;replace hF:=(hR.fr hF (by kernel_rfl)).cons (t:=2) (hR.val 0 (by decide));clear hR ho;refine iW ?_;show eU aq Tryz.f145 (fun e w'=>e=aO (ah ag (lO b))∧aC w.heap.size w w') fC a W;exact bw (cD rfl _ _ _) hF.defers ⟨congrArg aO (((hF.g 0 rfl):a.eval (aB 2)=ah ag 1).trans (by unfold lO;rw[if_pos (show BQ b=true from Ic)])),HB⟩
 ·skip
  replace hF:=hF.tl;refine j7 ?_;show dH aq _ _ _ _;refine kh ?_
  refine cV [pV (a8 (some ⟨B1,4,none⟩)),pV (ah ag b.cu),pV (aA (aL b.cu 0 99)),pV (aA (!(aL b.cu 0 99))),pV (aA (!(aL b.cu 0 99))),pC (!(!(aL b.cu 0 99))) (a8 (some ⟨B1,5,none⟩)),pC (!(!(aL b.cu 0 99))) (ah ag b.iB),pC (!(!(aL b.cu 0 99))) (aA (aL b.iB 0 99)),pC (!(!(aL b.cu 0 99))) (aA (!(aL b.iB 0 99))),pV (aA ((!(aL b.cu 0 99))||(!(aL b.iB 0 99)))),pV (aA ((!(aL b.cu 0 99))||(!(aL b.iB 0 99)))),pC (!((!(aL b.cu 0 99))||(!(aL b.iB 0 99)))) (a8 (some ⟨B1,7,none⟩)),pC (!((!(aL b.cu 0 99))||(!(aL b.iB 0 99)))) (ah ag b.ji),pC (!((!(aL b.cu 0 99))||(!(aL b.iB 0 99)))) (aA (aL b.ji 0 99)),pC (!((!(aL b.cu 0 99))||(!(aL b.iB 0 99)))) (aA (!(aL b.ji 0 99))),pV (aA (((!(aL b.cu 0 99))||(!(aL b.iB 0 99)))||(!(aL b.ji 0 99)))),pV (aA (((!(aL b.cu 0 99))||(!(aL b.iB 0 99)))||(!(aL b.ji 0 99)))),pC (!(((!(aL b.cu 0 99))||(!(aL b.iB 0 99)))||(!(aL b.ji 0 99)))) (a8 (some ⟨B1,6,none⟩)),pC (!(((!(aL b.cu 0 99))||(!(aL b.iB 0 99)))||(!(aL b.ji 0 99)))) (ah ag b.ek),pC (!(((!(aL b.cu 0 99))||(!(aL b.iB 0 99)))||(!(aL b.ji 0 99)))) (aA (aL b.ek 0 3)),pC (!(((!(aL b.cu 0 99))||(!(aL b.iB 0 99)))||(!(aL b.ji 0 99)))) (aA (!(aL b.ek 0 3))),pV (aA ((((!(aL b.cu 0 99))||(!(aL b.iB 0 99)))||(!(aL b.ji 0 99)))||(!(aL b.ek 0 3))))]
   _ (by kernel_rfl) hF.size hF.base ?_ ?_ ?_
  ·exact⟨sV,sV,sV,sV,sV,sC,sC,sC,sC,sV,sV,sC,sC,sC,sC,sV,sV,sC,sC,sC,sC,sV,trivial⟩
  ·refine⟨?_,?_,?_,?_,?_,?_,?_,?_,?_,?_,?_,?_,?_,?_,?_,?_,?_,?_,?_,?_,?_,?_,trivial⟩<;>rintro ev w1 hS hc hg hf ⟨-,b1,-,-⟩ hd
   all_goals try
    try have d0:ev (aB _)=_:=hd.1 rfl
    clear hd;refine yw rfl ?_ rfl;go_simp;done
   all_goals try
    try have d0:ev (aB _)=_:=hd.1 rfl
    try have c0:_→ev (aB _)=_:=hd.1 rfl
    try have d1:ev (aB _)=_:=hd.2.1 rfl
    clear hd
    first|refine gC d0 fo fun hA=>?_|refine gC d1 fo fun hA=>?_
    try replace c0:=c0 hA
    refine yw rfl ?_ (fun _=>rfl);go_simp;done
   ·have d0:ev (aB 25)=_:=hd.1 rfl;clear hd;have z:=aH (aK K1 hS) 4 _ rfl;refine yv ?_ rfl;go_simp
   ·have d1:ev (aB 26)=_:=hd.1 rfl;clear hd;refine yc (gF b.cu 0 99 w1) ?_ (fun _=>rfl);go_simp
   ·have d5:_→ev (aB 30)=_:=hd.1 rfl;have d4:ev (aB 29)=_:=hd.2.1 rfl;clear hd;refine gC d4 fo fun hA=>?_;have y5:=d5 hA;have z:=aH (aK K1 hS) 5 _ rfl;refine yv ?_ (fun _=>rfl);go_simp
   ·have d6:_→ev (aB 31)=_:=hd.1 rfl;have d4:ev (aB 29)=_:=hd.2.1 rfl;clear hd;refine gC d4 fo fun hA=>?_;have y6:=d6 hA;refine yc (gF b.iB 0 99 w1) ?_ (fun _=>fun _=>rfl);go_simp
   ·have d4:ev (aB 29)=_:=hd.1 rfl;have d8:_→ev (aB 33)=_:=hd.2.1 rfl;clear hd;exact yO rfl hc d4 (fun hq=>d8 (by simp[hq])) (rfl)
   ·have d11:_→ev (aB 36)=_:=hd.1 rfl;have d10:ev (aB 35)=_:=hd.2.1 rfl;clear hd;refine gC d10 fo fun hA=>?_;have Ja:=d11 hA;have z:=aH (aK K1 hS) 7 _ rfl;refine yv ?_ (fun _=>rfl);go_simp
   ·have d12:_→ev (aB 37)=_:=hd.1 rfl;have d10:ev (aB 35)=_:=hd.2.1 rfl;clear hd;refine gC d10 fo fun hA=>?_;have I9:=d12 hA;refine yc (gF b.ji 0 99 w1) ?_ (fun _=>fun _=>rfl);go_simp
   ·have d10:ev (aB 35)=_:=hd.1 rfl;have d14:_→ev (aB 39)=_:=hd.2.1 rfl;clear hd;exact yO rfl hc d10 (fun hq=>d14 (by simp[hq])) (rfl)
   ·have d17:_→ev (aB 42)=_:=hd.1 rfl;have d16:ev (aB 41)=_:=hd.2.1 rfl;clear hd;refine gC d16 fo fun hA=>?_;have YX:=d17 hA;have z:=aH (aK K1 hS) 6 _ rfl;refine yv ?_ (fun _=>rfl);go_simp
   ·have d18:_→ev (aB 43)=_:=hd.1 rfl;have d16:ev (aB 41)=_:=hd.2.1 rfl;clear hd;refine gC d16 fo fun hA=>?_;have YW:=d18 hA;refine yc (gF b.ek 0 3 w1) ?_ (fun _=>fun _=>rfl);go_simp
   ·have d16:ev (aB 41)=_:=hd.1 rfl;have d20:_→ev (aB 45)=_:=hd.2.1 rfl;clear hd;exact yO rfl hc d16 (fun hq=>d20 (by simp[hq])) (rfl)
  intro a W hR;have ho:=hR.s;replace HB:=HB.tr ho;replace K1:=aK K1 ho;replace hF:=(hR.fr hF (by kernel_rfl)).cons (t:=46) (hR.val 21 (by decide));clear hR ho;refine dB (t:=((((!(aL b.cu 0 99))||(!(aL b.iB 0 99)))||(!(aL b.ji 0 99)))||(!(aL b.ek 0 3)))) (hF.g 0 rfl) (fun Ui=>?_) (fun Ui=>?_)
  ·skip
   replace hF:=hF.tl;replace hF:=hF.tl
   refine cV [pV (ah ag 1)]
    _ (by kernel_rfl) hF.size hF.base ?_ ?_ ?_
   ·exact⟨sV,trivial⟩
   ·refine⟨?_,trivial⟩<;>rintro ev w1 hS hc hg hf hb hd
    ·clear hd;refine yv ?_ rfl;go_simp
   intro a W hR;have ho:=hR.s;replace HB:=HB.tr ho;replace K1:=aK K1 ho;replace hF:=(hR.fr hF (by kernel_rfl)).cons (t:=2) (hR.val 0 (by decide));clear hR ho;refine iW ?_;show eU aq Tryz.f145 (fun e w'=>e=aO (ah ag (lO b))∧aC w.heap.size w w') fC a W;exact bw (cD rfl _ _ _) hF.defers ⟨congrArg aO (((hF.g 0 rfl):a.eval (aB 2)=ah ag 1).trans (by unfold lO;rw[if_neg (by rw[show BQ b=_ from Ic];simp),if_pos (show Ez b=true from Ui)])),HB⟩
  ·skip
   replace hF:=hF.tl;refine j7 ?_;show dH aq _ _ _ _;refine kh ?_
   refine cV [pV (a8 (some ⟨B1,10,none⟩)),pV (aQ #[ah ag b.pl,ah ag b.pm]),pV (a8 (some ⟨B1,3,none⟩)),pV (ah ag b.minutes),pV (aA (bZ b.pl b.pm 1 b.minutes)),pV (aA (!(bZ b.pl b.pm 1 b.minutes))),pV (aA (!(bZ b.pl b.pm 1 b.minutes))),pC (!(!(bZ b.pl b.pm 1 b.minutes))) (a8 (some ⟨B1,8,none⟩)),pC (!(!(bZ b.pl b.pm 1 b.minutes))) (aQ #[ah ag b.ll,ah ag b.lm]),pC (!(!(bZ b.pl b.pm 1 b.minutes))) (aA (bZ b.ll b.lm 0 99)),pC (!(!(bZ b.pl b.pm 1 b.minutes))) (aA (!(bZ b.ll b.lm 0 99))),pV (aA ((!(bZ b.pl b.pm 1 b.minutes))||(!(bZ b.ll b.lm 0 99)))),pV (aA ((!(bZ b.pl b.pm 1 b.minutes))||(!(bZ b.ll b.lm 0 99)))),pC (!((!(bZ b.pl b.pm 1 b.minutes))||(!(bZ b.ll b.lm 0 99)))) (a8 (some ⟨B1,8,none⟩)),pC (!((!(bZ b.pl b.pm 1 b.minutes))||(!(bZ b.ll b.lm 0 99)))) (a8 (some ⟨B1,9,none⟩)),pC (!((!(bZ b.pl b.pm 1 b.minutes))||(!(bZ b.ll b.lm 0 99)))) (ah ag b.lm),pC (!((!(bZ b.pl b.pm 1 b.minutes))||(!(bZ b.ll b.lm 0 99)))) (a8 (some ⟨B1,8,none⟩)),pC (!((!(bZ b.pl b.pm 1 b.minutes))||(!(bZ b.ll b.lm 0 99)))) (a8 (some ⟨B1,8,none⟩)),pC (!((!(bZ b.pl b.pm 1 b.minutes))||(!(bZ b.ll b.lm 0 99)))) (ah ag b.ll),pC (!((!(bZ b.pl b.pm 1 b.minutes))||(!(bZ b.ll b.lm 0 99)))) (ah ag (b.lm - b.ll)),pC (!((!(bZ b.pl b.pm 1 b.minutes))||(!(bZ b.ll b.lm 0 99)))) (aA (decide ((b.lm - b.ll)≥3))),pV (aA (((!(bZ b.pl b.pm 1 b.minutes))||(!(bZ b.ll b.lm 0 99)))||(decide ((b.lm - b.ll)≥3))))]
    _ (by kernel_rfl) hF.size hF.base ?_ ?_ ?_
   ·exact⟨sV,sV,sV,sV,sV,sV,sV,sC,sC,sC,sC,sV,sV,sC,sC,sC,sC,sC,sC,sC,sC,sV,trivial⟩
   ·refine⟨?_,?_,?_,?_,?_,?_,?_,?_,?_,?_,?_,?_,?_,?_,?_,?_,?_,?_,?_,?_,?_,?_,trivial⟩<;>rintro ev w1 hS hc hg hf ⟨-,b1,-,-⟩ hd
    all_goals try
     try have d0:ev (aB _)=_:=hd.1 rfl
     clear hd;refine yw rfl ?_ rfl;go_simp;done
    all_goals try
     try have d0:ev (aB _)=_:=hd.1 rfl
     try have c0:_→ev (aB _)=_:=hd.1 rfl
     try have d1:ev (aB _)=_:=hd.2.1 rfl
     clear hd
     first|refine gC d0 fo fun hA=>?_|refine gC d1 fo fun hA=>?_
     try replace c0:=c0 hA
     refine yw rfl ?_ (fun _=>rfl);go_simp;done
    ·have d0:ev (aB 47)=_:=hd.1 rfl;clear hd;have z10:=aH (aK K1 hS) 10 _ rfl;have z11:=aH (aK K1 hS) 11 _ rfl;refine yv ?_ rfl;go_simp
    ·have d2:ev (aB 49)=_:=hd.1 rfl;clear hd;have z:=aH (aK K1 hS) 3 _ rfl;refine yv ?_ rfl;go_simp
    ·have d1:ev (aB 48)=_:=hd.1 rfl;have d3:ev (aB 50)=_:=hd.2.1 rfl;clear hd;refine yc (q7 b.pl b.pm 1 b.minutes w1) ?_ (fun _=>rfl);go_simp
    ·have d7:_→ev (aB 54)=_:=hd.1 rfl;have d6:ev (aB 53)=_:=hd.2.1 rfl;clear hd;refine gC d6 fo fun hA=>?_;have y7:=d7 hA;have z8:=aH (aK K1 hS) 8 _ rfl;have z9:=aH (aK K1 hS) 9 _ rfl;refine yv ?_ (fun _=>rfl);go_simp
    ·have d8:_→ev (aB 55)=_:=hd.1 rfl;have d6:ev (aB 53)=_:=hd.2.1 rfl;clear hd;refine gC d6 fo fun hA=>?_;have y8:=d8 hA;refine yc (q7 b.ll b.lm 0 99 w1) ?_ (fun _=>fun _=>rfl);go_simp
    ·have d6:ev (aB 53)=_:=hd.1 rfl;have d10:_→ev (aB 57)=_:=hd.2.1 rfl;clear hd;exact yO rfl hc d6 (fun hq=>d10 (by simp[hq])) (rfl)
    ·have d14:_→ev (aB 61)=_:=hd.1 rfl;have d12:ev (aB 59)=_:=hd.2.1 rfl;clear hd;refine gC d12 fo fun hA=>?_;have I8:=d14 hA;have z:=aH (aK K1 hS) 9 _ rfl;refine yv ?_ (fun _=>rfl);go_simp
    ·have d17:_→ev (aB 64)=_:=hd.1 rfl;have d12:ev (aB 59)=_:=hd.2.1 rfl;clear hd;refine gC d12 fo fun hA=>?_;have YX:=d17 hA;have z:=aH (aK K1 hS) 8 _ rfl;refine yv ?_ (fun _=>rfl);go_simp
    ·have d15:_→ev (aB 62)=_:=hd.1 rfl;have d18:_→ev (aB 65)=_:=hd.2.1 rfl;have d12:ev (aB 59)=_:=hd.2.2.1 rfl;clear hd;refine gC d12 fo fun hA=>?_;have GL:=d15 hA;have YW:=d18 hA;have hw:=P9 (lo:=b.ll) (hi:=b.lm) (by revert hA;cases bZ b.ll b.lm 0 99<;>simp);refine yv ?_ (fun _=>rfl);go_simp
    ·have d12:ev (aB 59)=_:=hd.1 rfl;have d20:_→ev (aB 67)=_:=hd.2.1 rfl;clear hd;exact yO rfl hc d12 (fun hq=>d20 (by simp[hq])) (rfl)
   intro a W hR;have ho:=hR.s;replace HB:=HB.tr ho;replace K1:=aK K1 ho;replace hF:=(hR.fr hF (by kernel_rfl)).cons (t:=68) (hR.val 21 (by decide));clear hR ho;refine dB (t:=(((!(bZ b.pl b.pm 1 b.minutes))||(!(bZ b.ll b.lm 0 99)))||(decide ((b.lm - b.ll)≥3)))) (hF.g 0 rfl) (fun Xm=>?_) (fun Xm=>?_)
   ·skip
    replace hF:=hF.tl;replace hF:=hF.tl
    refine cV [pV (ah ag 1)]
     _ (by kernel_rfl) hF.size hF.base ?_ ?_ ?_
    ·exact⟨sV,trivial⟩
    ·refine⟨?_,trivial⟩<;>rintro ev w1 hS hc hg hf hb hd
     ·clear hd;refine yv ?_ rfl;go_simp
    intro a W hR;have ho:=hR.s;replace HB:=HB.tr ho;replace K1:=aK K1 ho;replace hF:=(hR.fr hF (by kernel_rfl)).cons (t:=2) (hR.val 0 (by decide));clear hR ho;refine iW ?_;show eU aq Tryz.f145 (fun e w'=>e=aO (ah ag (lO b))∧aC w.heap.size w w') fC a W;exact bw (cD rfl _ _ _) hF.defers ⟨congrArg aO (((hF.g 0 rfl):a.eval (aB 2)=ah ag 1).trans (by unfold lO;rw[if_neg (by rw[show BQ b=_ from Ic];simp),if_neg (by rw[show Ez b=_ from Ui];simp),if_pos (show Gt b=true from Xm)])),HB⟩
   ·skip
    replace hF:=hF.tl;refine j7 ?_;show dH aq _ _ _ _;replace hF:=hF.tl
    refine cV [pV (ah ag 0)]
     _ (by kernel_rfl) hF.size hF.base ?_ ?_ ?_
    ·exact⟨sV,trivial⟩
    ·refine⟨?_,trivial⟩<;>rintro ev w1 hS hc hg hf hb hd
     ·clear hd;refine yv ?_ rfl;go_simp
    intro a W hR;have ho:=hR.s;replace HB:=HB.tr ho;replace K1:=aK K1 ho;replace hF:=(hR.fr hF (by kernel_rfl)).cons (t:=2) (hR.val 0 (by decide));clear hR ho;refine iW ?_;show eU aq Tryz.f145 (fun e w'=>e=aO (ah ag (lO b))∧aC w.heap.size w w') fC a W;exact bw (cD rfl _ _ _) hF.defers ⟨congrArg aO (((hF.g 0 rfl):a.eval (aB 2)=ah ag 0).trans (by unfold lO;rw[if_neg (by rw[show BQ b=_ from Ic];simp),if_neg (by rw[show Ez b=_ from Ui];simp),if_neg (by rw[show Gt b=_ from Xm];simp)])),HB⟩
def fj(s:ByteArray)(k:Nat):Int:=if h:k<s.size then(s[k].toNat:Int) else 0
theorem vC(s:ByteArray)(k:Nat):0≤fj s k∧fj s k<256:=by
 unfold fj;split
 ·have:=s[k].toNat_lt;omega
 ·omega
theorem xq(s:ByteArray)(k:Nat)(h:k<s.size)(w:ar):(Instr.index 9 (.string s) (ah ag (k:Int))).run aq w=.ok (ah .u8 (fj s k)) w:=by
 rw[run_index_string w 9 s ag _ Tryz.underlying9,dif_pos ⟨by omega,by omega⟩];simp[fj,h]
theorem zg(c:Int)(h:0≤c∧c<256):IntKind.i64.wrap c=c:=by rw[gU];omega
def oL(s:ByteArray)(k:Nat):Bool:=aL (fj s k) 97 122||aL (fj s k) 48 57
def jw(s:ByteArray):Bool:=(aL s.size 1 12&&aL (fj s 0) 97 122)&&(oB 1 (s.size - 1)).all (oL s)
theorem OO{s:ByteArray}(h0:aL s.size 1 12=true)(h1:aL (fj s 0) 97 122=true)(h : ∀i,1≤i→i<s.size→oL s i=true):jw s=true:=by
 unfold jw;simp only[h0,h1,Bool.and_self,Bool.true_and,bL,List.mem_range'_1];intro x hx;exact h x hx.1 (by omega)
theorem LP{s:ByteArray}(h:(aL s.size 1 12&&aL (fj s 0) 97 122)=false):jw s=false:=by
 unfold jw;rw[h];rfl
theorem OP{s:ByteArray}(i:Nat)(h1:1≤i)(h2:i<s.size)(h:oL s i=false):jw s=false:=by
 unfold jw;rw[Bool.and_eq_false_iff];right;rw[List.all_eq_false];exact⟨i,List.mem_range'_1.2 ⟨h1,by omega⟩,by rw[h];simp⟩
theorem LO{s:ByteArray}(h:jw s=true):IV s:=by
 unfold jw at h;simp only[aS,bL,List.mem_range'_1] at h;obtain⟨⟨h0,h1⟩,h2⟩:=h;have h0:=gP.1 h0;refine⟨⟨by omega,by omega⟩,fun k hk=>?_⟩;rcases Nat.eq_zero_or_pos k with rfl|hp
 ·left;have:=gP.1 h1;unfold fj at this;rw[dif_pos hk] at this;exact⟨by omega,by omega⟩
 ·have h3:=h2 k ⟨hp,by omega⟩;unfold oL fj at h3;rw[dif_pos hk,Bool.or_eq_true,gP,gP] at h3;rcases h3 with h3|h3
  ·left;exact⟨by omega,by omega⟩
  ·right;exact⟨by omega,by omega,by omega⟩
theorem yJ(c:Int)(hc0:0≤c∧c<256)(w:ar):bp aq 183 #[ah .u8 c] w fun e w'=>e=aG (aA (aL c 97 122))∧aC w.heap.size w w':=by
 refine oy Tryz.func183 rfl ?_;have hF:=l9 (args:=#[ah .u8 c]) (n:=6) (by simp) [(0,ah .u8 c)] ⟨oX rfl,trivial⟩;rw[show Tryz.f183.ntmps=6 from rfl];generalize (⟨#[ah .u8 c] ++ aU (6 - (#[ah .u8 c]:Array ak).size) af,[]⟩:ko)=a at *;refine(fun h : ∀W,aC w.heap.size w W→dH aq _ _ a W=>h w (aw _ _)) ?_;intro W HB
 refine cV [pV (aA false)]
  _ (by kernel_rfl) hF.size hF.base ?_ ?_ ?_
 ·exact⟨sV,trivial⟩
 ·refine⟨?_,trivial⟩<;>rintro ev w1 hS hc hg hf hb hd
  ·clear hd;refine yv ?_ rfl;go_simp
 intro a W hR;have ho:=hR.s;replace HB:=HB.tr ho;replace hF:=(hR.fr hF (by kernel_rfl)).cons (t:=2) (hR.val 0 (by decide));clear hR ho;replace hF:=hF.tl
 refine cV [pV (ah .u8 c),pV (ah ag c),pV (aA (aL c 97 122)),pV (aA (aL c 97 122))]
  _ (by kernel_rfl) hF.size hF.base ?_ ?_ ?_
 ·exact⟨sV,sV,sV,sV,trivial⟩
 ·refine⟨?_,?_,?_,?_,trivial⟩<;>rintro ev w1 hS hc hg hf ⟨b0,-⟩ hd
  all_goals try
   try have d0:ev (aB _)=_:=hd.1 rfl
   clear hd;refine yw rfl ?_ rfl;go_simp;done
  ·have d0:ev (aB 3)=_:=hd.1 rfl;clear hd;have hw:=zg c hc0;refine yv ?_ rfl;go_simp
  ·have d1:ev (aB 4)=_:=hd.1 rfl;clear hd;refine yc (gF c 97 122 w1) ?_ (fun _=>rfl);go_simp
 intro a W hR;have ho:=hR.s;replace HB:=HB.tr ho;replace hF:=(hR.fr hF (by kernel_rfl)).cons (t:=2) (hR.val 3 (by decide));clear hR ho;refine iW ?_;show eU aq Tryz.f183 (fun e w'=>e=aO (aA (aL c 97 122))∧aC w.heap.size w w') fC a W;exact bw (cD rfl _ _ _) hF.defers ⟨congrArg aO ((hF.g 0 rfl):a.eval (aB 2)=aA (aL c 97 122)),HB⟩
theorem JR(c:Int)(hc0:0≤c∧c<256)(w:ar):bp aq 184 #[ah .u8 c] w fun e w'=>e=aG (aA (aL c 48 57))∧aC w.heap.size w w':=by
 refine oy Tryz.func184 rfl ?_;have hF:=l9 (args:=#[ah .u8 c]) (n:=6) (by simp) [(0,ah .u8 c)] ⟨oX rfl,trivial⟩;rw[show Tryz.f184.ntmps=6 from rfl];generalize (⟨#[ah .u8 c] ++ aU (6 - (#[ah .u8 c]:Array ak).size) af,[]⟩:ko)=a at *;refine(fun h : ∀W,aC w.heap.size w W→dH aq _ _ a W=>h w (aw _ _)) ?_;intro W HB
 refine cV [pV (aA false)]
  _ (by kernel_rfl) hF.size hF.base ?_ ?_ ?_
 ·exact⟨sV,trivial⟩
 ·refine⟨?_,trivial⟩<;>rintro ev w1 hS hc hg hf hb hd
  ·clear hd;refine yv ?_ rfl;go_simp
 intro a W hR;have ho:=hR.s;replace HB:=HB.tr ho;replace hF:=(hR.fr hF (by kernel_rfl)).cons (t:=2) (hR.val 0 (by decide));clear hR ho;replace hF:=hF.tl
 refine cV [pV (ah .u8 c),pV (ah ag c),pV (aA (aL c 48 57)),pV (aA (aL c 48 57))]
  _ (by kernel_rfl) hF.size hF.base ?_ ?_ ?_
 ·exact⟨sV,sV,sV,sV,trivial⟩
 ·refine⟨?_,?_,?_,?_,trivial⟩<;>rintro ev w1 hS hc hg hf ⟨b0,-⟩ hd
  all_goals try
   try have d0:ev (aB _)=_:=hd.1 rfl
   clear hd;refine yw rfl ?_ rfl;go_simp;done
  ·have d0:ev (aB 3)=_:=hd.1 rfl;clear hd;have hw:=zg c hc0;refine yv ?_ rfl;go_simp
  ·have d1:ev (aB 4)=_:=hd.1 rfl;clear hd;refine yc (gF c 48 57 w1) ?_ (fun _=>rfl);go_simp
 intro a W hR;have ho:=hR.s;replace HB:=HB.tr ho;replace hF:=(hR.fr hF (by kernel_rfl)).cons (t:=2) (hR.val 3 (by decide));clear hR ho;refine iW ?_;show eU aq Tryz.f184 (fun e w'=>e=aO (aA (aL c 48 57))∧aC w.heap.size w w') fC a W;exact bw (cD rfl _ _ _) hF.defers ⟨congrArg aO ((hF.g 0 rfl):a.eval (aB 2)=aA (aL c 48 57)),HB⟩
theorem OM(s:ByteArray)(w:ar):bp aq 177 #[.string s] w fun e w'=>e=aG (aA (jw s))∧aC w.heap.size w w':=by
 refine oy Tryz.func177 rfl ?_;have hF:=l9 (args:=#[.string s]) (n:=32) (by simp) [(0,.string s)] ⟨oX rfl,trivial⟩;rw[show Tryz.f177.ntmps=32 from rfl];generalize (⟨#[.string s] ++ aU (32 - (#[.string s]:Array ak).size) af,[]⟩:ko)=a at *;refine(fun h : ∀W,aC w.heap.size w W→dH aq _ _ a W=>h w (aw _ _)) ?_;intro W HB
 refine cV [pV (aA false)]
  _ (by kernel_rfl) hF.size hF.base ?_ ?_ ?_
 ·exact⟨sV,trivial⟩
 ·refine⟨?_,trivial⟩<;>rintro ev w1 hS hc hg hf hb hd
  ·clear hd;refine yv ?_ rfl;go_simp
 intro a W hR;have ho:=hR.s;replace HB:=HB.tr ho;replace hF:=(hR.fr hF (by kernel_rfl)).cons (t:=2) (hR.val 0 (by decide));clear hR ho;refine kh ?_
 refine cV [pV (.string s),pV (ah ag (s.size:Int)),pV (aA (aL (s.size:Int) 1 12)),pV (aA (!(aL (s.size:Int) 1 12))),pV (aA (!(aL (s.size:Int) 1 12))),pC (!(!(aL (s.size:Int) 1 12))) (.string s),pC (!(!(aL (s.size:Int) 1 12))) (ah .u8 (fj s 0)),pC (!(!(aL (s.size:Int) 1 12))) (aA (aL (fj s 0) 97 122)),pC (!(!(aL (s.size:Int) 1 12))) (aA (!(aL (fj s 0) 97 122))),pV (aA ((!(aL (s.size:Int) 1 12))||(!(aL (fj s 0) 97 122))))]
  _ (by kernel_rfl) hF.size hF.base ?_ ?_ ?_
 ·exact⟨sV,sV,sV,sV,sV,sC,sC,sC,sC,sV,trivial⟩
 ·refine⟨?_,?_,?_,?_,?_,?_,?_,?_,?_,?_,trivial⟩<;>rintro ev w1 hS hc hg hf ⟨-,b0,-⟩ hd
  all_goals try
   try have d0:ev (aB _)=_:=hd.1 rfl
   clear hd;refine yw rfl ?_ rfl;go_simp;done
  all_goals try
   try have d0:ev (aB _)=_:=hd.1 rfl
   try have c0:_→ev (aB _)=_:=hd.1 rfl
   try have d1:ev (aB _)=_:=hd.2.1 rfl
   clear hd
   first|refine gC d0 fo fun hA=>?_|refine gC d1 fo fun hA=>?_
   try replace c0:=c0 hA
   refine yw rfl ?_ (fun _=>rfl);go_simp;done
  ·have d1:ev (aB 5)=_:=hd.1 rfl;clear hd;refine yc (gF (s.size:Int) 1 12 w1) ?_ (fun _=>rfl);go_simp
  ·have d5:_→ev (aB 9)=_:=hd.1 rfl;have d4:ev (aB 8)=_:=hd.2.1 rfl;clear hd;refine gC d4 fo fun hA=>?_;have y5:=d5 hA
   have LY:0<s.size:=by
    have h9:aL (s.size:Int) 1 12=true:=by revert hA;simp
    have:=gP.1 h9;omega
   have hi:=xq s 0 LY w1;refine Lag.Yields.value (v:=(ah .u8 (fj s 0):ak)) (w':=w1) ?_ ⟨fun _=>rfl,.inl (aw _ _)⟩;rw[show fj s 0=((s[0]'LY).toNat:Int) from dif_pos LY];go_simp
  ·have d6:_→ev (aB 10)=_:=hd.1 rfl;have d4:ev (aB 8)=_:=hd.2.1 rfl;clear hd;refine gC d4 fo fun hA=>?_;have y6:=d6 hA;refine yc (args:=#[ah .u8 (fj s 0)]) (yJ (fj s 0) (vC _ _) w1) ?_ (fun _=>fun _=>rfl);go_simp
  ·have d4:ev (aB 8)=_:=hd.1 rfl;have d8:_→ev (aB 12)=_:=hd.2.1 rfl;clear hd;exact yO rfl hc d4 (fun hq=>d8 (by simp[hq])) (rfl)
 intro a W hR;have ho:=hR.s;replace HB:=HB.tr ho;replace hF:=(hR.fr hF (by kernel_rfl)).cons (t:=13) (hR.val 9 (by decide));clear hR ho;refine dB (t:=((!(aL (s.size:Int) 1 12))||(!(aL (fj s 0) 97 122)))) (hF.g 0 rfl) (fun O3=>?_) (fun O3=>?_)
 ·skip
  replace hF:=hF.tl;have hres:jw s=false:=LP (by revert O3;cases aL (s.size:Int) 1 12<;>cases aL (fj s 0) 97 122<;>simp);replace hF:=hF.tl
  refine cV [pV (aA false)]
   _ (by kernel_rfl) hF.size hF.base ?_ ?_ ?_
  ·exact⟨sV,trivial⟩
  ·refine⟨?_,trivial⟩<;>rintro ev w1 hS hc hg hf hb hd
   ·clear hd;refine yv ?_ rfl;go_simp
  intro a W hR;have ho:=hR.s;replace HB:=HB.tr ho;replace hF:=(hR.fr hF (by kernel_rfl)).cons (t:=2) (hR.val 0 (by decide));clear hR ho;refine iW ?_;show eU aq Tryz.f177 (fun e w'=>e=aO (aA (jw s))∧aC w.heap.size w w') fC a W;exact bw (cD rfl _ _ _) hF.defers ⟨congrArg aO (((hF.g 0 rfl):a.eval (aB 2)=aA false).trans (congrArg _ hres.symm)),HB⟩
 ·skip
  replace hF:=hF.tl;have h0:aL (s.size:Int) 1 12=true:=by revert O3;cases aL (s.size:Int) 1 12<;>simp
  have h1:aL (fj s 0) 97 122=true:=by revert O3;cases aL (fj s 0) 97 122<;>simp
  have hn:=gP.1 h0;refine j7 ?_;show dH aq _ _ _ _;refine kh ?_
  refine cV [pV (ah ag 1)]
   _ (by kernel_rfl) hF.size hF.base ?_ ?_ ?_
  ·exact⟨sV,trivial⟩
  ·refine⟨?_,trivial⟩<;>rintro ev w1 hS hc hg hf hb hd
   ·clear hd;refine yv ?_ rfl;go_simp
  intro a W hR;have ho:=hR.s;replace HB:=HB.tr ho;replace hF:=(hR.fr hF (by kernel_rfl)).cons (t:=3) (hR.val 0 (by decide));clear hR ho;refine wp_block ?_;refine wp_loop (fun a W=>∃k:Nat,k≤s.size∧(1≤k∧∀i,1≤i→i<k→oL s i=true)∧BU 32 a [(3,ah ag (k:Nat)),(0,.string s)]∧aC w.heap.size w W) (fun a _=>s.size - (intOf (a.eval (aB 3))).toNat) ⟨1,by omega,⟨ay _,fun i h1 h2=>by omega⟩,⟨hF.size,hF.defers,(by obtain⟨b3,-,b0,-⟩:=hF.base;exact⟨b3,b0,trivial⟩)⟩,HB⟩ ?_;clear hF HB
  try clear a
  try clear W
  rintro a W ⟨k,tv,oM,hF,HB⟩;have hk3:a.eval (aB 3)=ah ag (k:Nat):=(hF.g 0 rfl)
  refine kh ?_
  refine cV [pV (ah ag (k:Nat)),pV (.string s),pV (ah ag (s.size:Int)),pV (aA (decide ((k:Nat)<(s.size:Int))))]
   _ (by kernel_rfl) hF.size hF.base ?_ ?_ ?_
  ·exact⟨sV,sV,sV,sV,trivial⟩
  ·refine⟨?_,?_,?_,?_,trivial⟩<;>rintro ev w1 hS hc hg hf ⟨b3,b0,-⟩ hd
   all_goals try
    try have d0:ev (aB _)=_:=hd.1 rfl
    try have d1:ev (aB _)=_:=hd.2.1 rfl
    clear hd;refine yw rfl ?_ rfl;go_simp;done
  intro a W hR;have ho:=hR.s;replace HB:=HB.tr ho;replace hF:=(hR.fr hF (by kernel_rfl)).cons (t:=17) (hR.val 3 (by decide));clear hR ho;refine dB (t:=(decide ((k:Nat)<(s.size:Int)))) (hF.g 0 rfl) (fun Xx=>?_) (fun Xx=>?_)
  ·skip
   replace hF:=hF.tl;have xA:k<s.size:=by simpa using Xx
   have hw1:IntKind.i64.wrap ((k:Int)+1)=(k:Int)+1:=by rw[gU];omega
   refine j7 ?_;show dH aq _ _ _ _;refine kh ?_;refine wp_block ?_
   refine cV [pV (.string s),pV (ah ag (k:Nat)),pV (ah .u8 (fj s k)),pV (aA (aL (fj s k) 97 122)),pV (aA (!(aL (fj s k) 97 122))),pV (aA (!(aL (fj s k) 97 122))),pC (!(aL (fj s k) 97 122)) (.string s),pC (!(aL (fj s k) 97 122)) (ah ag (k:Nat)),pC (!(aL (fj s k) 97 122)) (ah .u8 (fj s k)),pC (!(aL (fj s k) 97 122)) (aA (aL (fj s k) 48 57)),pC (!(aL (fj s k) 97 122)) (aA (!(aL (fj s k) 48 57))),pV (aA ((!(aL (fj s k) 97 122))&&(!(aL (fj s k) 48 57))))]
    _ (by kernel_rfl) hF.size hF.base ?_ ?_ ?_
   ·exact⟨sV,sV,sV,sV,sV,sV,sC,sC,sC,sC,sC,sV,trivial⟩
   ·refine⟨?_,?_,?_,?_,?_,?_,?_,?_,?_,?_,?_,?_,trivial⟩<;>rintro ev w1 hS hc hg hf ⟨b3,b0,-⟩ hd
    all_goals try
     try have d0:ev (aB _)=_:=hd.1 rfl
     clear hd;refine yw rfl ?_ rfl;go_simp;done
    all_goals try
     try have d0:ev (aB _)=_:=hd.1 rfl
     try have c0:_→ev (aB _)=_:=hd.1 rfl
     try have d1:ev (aB _)=_:=hd.2.1 rfl
     clear hd
     first|refine gC d0 jx fun hA=>?_|refine gC d1 jx fun hA=>?_
     try replace c0:=c0 hA
     refine yw rfl ?_ (fun _=>rfl);go_simp;done
    ·have d0:ev (aB 20)=_:=hd.1 rfl;have d1:ev (aB 21)=_:=hd.2.1 rfl;clear hd;have hi:=xq s k xA w1;refine Lag.Yields.value (v:=(ah .u8 (fj s k):ak)) (w':=w1) ?_ ⟨rfl,.inl (aw _ _)⟩;go_simp
    ·have d2:ev (aB 22)=_:=hd.1 rfl;clear hd;refine yc (args:=#[ah .u8 (fj s k)]) (yJ (fj s k) (vC _ _) w1) ?_ (fun _=>rfl);go_simp
    ·have d6:_→ev (aB 26)=_:=hd.1 rfl;have d7:_→ev (aB 27)=_:=hd.2.1 rfl;have d5:ev (aB 25)=_:=hd.2.2.1 rfl;clear hd;refine gC d5 jx fun hA=>?_;have y6:=d6 hA;have y7:=d7 hA;have hi:=xq s k xA w1;refine Lag.Yields.value (v:=(ah .u8 (fj s k):ak)) (w':=w1) ?_ ⟨fun _=>rfl,.inl (aw _ _)⟩;go_simp
    ·have d8:_→ev (aB 28)=_:=hd.1 rfl;have d5:ev (aB 25)=_:=hd.2.1 rfl;clear hd;refine gC d5 jx fun hA=>?_;have y8:=d8 hA;refine yc (args:=#[ah .u8 (fj s k)]) (JR (fj s k) (vC _ _) w1) ?_ (fun _=>fun _=>rfl);go_simp
    ·have d5:ev (aB 25)=_:=hd.1 rfl;have d10:_→ev (aB 30)=_:=hd.2.1 rfl;clear hd;exact yA rfl hc d5 (fun hq=>d10 (by simp[hq])) (rfl)
   intro a W hR;have ho:=hR.s;replace HB:=HB.tr ho;replace hF:=(hR.fr hF (by kernel_rfl)).cons (t:=31) (hR.val 11 (by decide));clear hR ho;refine dB (t:=((!(aL (fj s k) 97 122))&&(!(aL (fj s k) 48 57)))) (hF.g 0 rfl) (fun Xr=>?_) (fun Xr=>?_)
   ·skip
    replace hF:=hF.tl;have hres:jw s=false:=OP k oM.1 xA (by unfold oL;revert Xr;cases aL (fj s k) 97 122<;>cases aL (fj s k) 48 57<;>simp)
    refine cV [pV (aA false)]
     _ (by kernel_rfl) hF.size hF.base ?_ ?_ ?_
    ·exact⟨sV,trivial⟩
    ·refine⟨?_,trivial⟩<;>rintro ev w1 hS hc hg hf hb hd
     ·clear hd;refine yv ?_ rfl;go_simp
    intro a W hR;have ho:=hR.s;replace HB:=HB.tr ho;replace hF:=(hR.fr hF (by kernel_rfl)).cons (t:=2) (hR.val 0 (by decide));clear hR ho;refine iW ?_;show eU aq Tryz.f177 (fun e w'=>e=aO (aA (jw s))∧aC w.heap.size w w') fC a W;exact bw (cD rfl _ _ _) hF.defers ⟨congrArg aO (((hF.g 0 rfl):a.eval (aB 2)=aA false).trans (congrArg _ hres.symm)),HB⟩
   ·skip
    replace hF:=hF.tl;have hz:oL s k=true:=by unfold oL;revert Xr;cases aL (fj s k) 97 122<;>cases aL (fj s k) 48 57<;>simp
    refine j7 ?_;show dH aq _ _ _ _;have Gi:=hF;replace hF:=hF.tl
    refine kD [pV (ah ag (k:Nat)),pV (ah ag ((k:Nat)+1)),pV (ah ag ((k:Nat)+1))]
     _ [(2,3,ah ag (k:Nat))] (by kernel_rfl) hF.size hF.base ⟨⟨rfl,(Gi.g 0 rfl)⟩,trivial⟩ ?_ ?_ ?_
    ·exact⟨Ph.sV,Ph.sV,Ph.sV,trivial⟩
    ·refine⟨?_,?_,?_,trivial⟩<;>rintro Lf ev w1 hn tU hS hc hg hf ⟨-,hl3,-⟩ hd
     all_goals try
      try have d0:ev (aB _)=_:=hd.1 rfl
      clear hd;refine Ph.yv ?_ rfl;go_simp;done
     ·have b3:=hl3 (hn 2 (by kernel_rfl));clear hd;refine Ph.yv ?_ rfl;go_simp
    intro a W hR;have ho:=hR.s;replace HB:=HB.tr ho;replace hF:=(hR.fr hF (by kernel_rfl)).cons (t:=3) (hR.val 2 (by decide));clear Gi;clear hR ho;refine⟨⟨k+1,by omega,⟨by omega,fun i h1 h2=>if hik:i<k then oM.2 i h1 hik else by have e:i=k:=(by omega);rw[e];exact hz⟩,⟨hF.size,hF.defers,hF.base⟩,HB⟩,?_⟩;rw[show a.eval (aB 3)=ah ag ((k:Nat)+1) from(hF.g 0 rfl)];simp only[hk3];simp[intOf];omega
  ·skip
   replace hF:=hF.tl;refine wp_exit ?_;have Ry:k=s.size:=by simp at Xx;omega
   have hres:jw s=true:=OO h0 h1 fun i KZ hi2=>oM.2 i KZ (by omega);show dH aq _ _ a W;show dH aq _ _ _ _
   refine cV [pV (aA true)]
    _ (by kernel_rfl) hF.size hF.base ?_ ?_ ?_
   ·exact⟨sV,trivial⟩
   ·refine⟨?_,trivial⟩<;>rintro ev w1 hS hc hg hf hb hd
    ·clear hd;refine yv ?_ rfl;go_simp
   intro a W hR;have ho:=hR.s;replace HB:=HB.tr ho;replace hF:=(hR.fr hF (by kernel_rfl)).cons (t:=2) (hR.val 0 (by decide));clear hR ho;refine iW ?_;show eU aq Tryz.f177 (fun e w'=>e=aO (aA (jw s))∧aC w.heap.size w w') fC a W;exact bw (cD rfl _ _ _) hF.defers ⟨congrArg aO (((hF.g 0 rfl):a.eval (aB 2)=aA true).trans (congrArg _ hres.symm)),HB⟩
def nW(b:BB)(pl:List Int)(i:Nat):Int:=if !(aL (pl.getD i 0) 1 b.minutes) then 6 else if 0<i∧pl.getD i 0≤pl.getD (i - 1) 0 then 7 else 0
def jv(b:BB)(pl:List Int):Int:=(((bf pl.length).map (nW b pl)).find? fun h=>h !=0).getD (if (pl.length:Int)>b.ek then 8 else 0)
theorem sB(f:Nat→Int) : ∀(n:Nat),(∀i,i<n→f i=0)→((bf n).map f).find? (fun h=>h !=0)=none:=by
 intro n h;rw[List.find?_eq_none];intro x hx;obtain⟨i,hi,rfl⟩:=eX.1 hx;simp[h i (bN.1 hi)]
theorem yT(f:Nat→Int)(n k:Nat)(hk:k<n)(h : ∀i,i<k→f i=0)(h0:f k≠0):((bf n).map f).find? (fun h=>h !=0)=some (f k):=by
 have e:bf n=bf k ++ k :: oB (k+1) (n - k - 1):=by
  rw[qU,qU,show n=k+(1+(n - k - 1)) by omega,←List.range'_append_1,eo,Nat.add_comm 1,List.range'_succ]
  congr 3
  omega
 have h1:(f k !=0)=true:=by simpa using h0
 rw[e,gi,List.find?_append,sB f k h,List.map_cons,List.find?_cons,h1];rfl
theorem Reads.atK{w:ar}{p:Option Addr}{n c:Nat}{zs:List Int}(h:Reads w (ae p n c) n (zs.map (aM ag)))(k:Nat)(hk:k<zs.length) : ∃g off,p=some ⟨g,off,none⟩∧g<w.heap.size∧∀j (hj:j<zs.length),w.cell? ⟨g,off+j,none⟩=some (ah ag (zs.getD j 0)):=by
 rcases h with⟨_,_,h⟩|⟨g,off,cap,h,_,hg,hc⟩
 ·rw[List.map_eq_nil_iff.1 h] at hk;simp at hk
 ·cases h;refine⟨g,off,rfl,hg,fun j hj=>hc j _ ?_⟩;simp[hj]
theorem Fi(b:BB)(men sent marks:ak)(p1:Option Addr)(c1:Nat)(pl:List Int)(hlen:pl.length≤1000)(w:ar)(hv:Reads w (ae p1 pl.length c1) pl.length (pl.map (aM ag))):bp aq 107 #[aQ (b.cells men sent marks),ae p1 pl.length c1] w fun e w'=>e=aG (ah ag (jv b pl))∧aC w.heap.size w w':=by
 refine oy Tryz.func107 rfl ?_;have hF:=l9 (args:=#[aQ (b.cells men sent marks),ae p1 pl.length c1]) (n:=38) (by simp) [(1,ae p1 pl.length c1),(0,aQ (b.cells men sent marks))] ⟨oX rfl,oX rfl,trivial⟩;rw[show Tryz.f107.ntmps=38 from rfl];generalize (⟨#[aQ (b.cells men sent marks),ae p1 pl.length c1] ++ aU (38 - (#[aQ (b.cells men sent marks),ae p1 pl.length c1]:Array ak).size) af,[]⟩:ko)=a at *;refine(fun h : ∀W,aC w.heap.size w W→dH aq _ _ a W=>h w (aw _ _)) ?_;intro W HB;have HC:Hid (∀k,k<pl.length→∃g off,p1=some ⟨g,off,none⟩∧g<w.heap.size∧∀j (hj:j<pl.length),w.cell? ⟨g,off+j,none⟩=some (ah ag (pl.getD j 0))):=ai fun k hk=>hv.atK k hk;clear hv
 refine cV [fun v ds w9=>∃B,v=pv B 0∧w9.heap[B]?=some (au (b.cells men sent marks) 28 (0,0)),pV (ah ag 0)]
  _ (by kernel_rfl) hF.size hF.base ?_ ?_ ?_
 ·refine⟨?_,sV,trivial⟩
  ·rintro v ds w1 w2 hS ⟨B,h1,h2⟩ hb;exact⟨B,h1,aK h2 hb⟩
 ·refine⟨?_,?_,trivial⟩<;>rintro ev w1 hS hc hg hf ⟨-,b0,-⟩ hd
  ·clear hd;refine Lag.Yields.value (v:=pv w1.heap.size 0) (w':=w1.alloc (au (b.cells men sent marks) 28)) ?_ ⟨⟨_,rfl,ax _ _⟩,.inl ((aw _ _).alloc (ay _) _)⟩;go_simp
  ·clear hd;refine yv ?_ rfl;go_simp
 intro a W hR;have ho:=hR.s;obtain⟨B2,e2,K2⟩:=hR.val 0 (by decide);replace e2:a.eval (aB 2)=a8 (some ⟨B2,0,none⟩):=e2;replace HB:=HB.tr ho;replace hF:=((hR.fr hF (by kernel_rfl)).cons (t:=2) e2).cons (t:=4) (hR.val 1 (by decide));clear hR ho e2;refine kh ?_
 refine cV [pV (ah ag 0)]
  _ (by kernel_rfl) hF.size hF.base ?_ ?_ ?_
 ·exact⟨sV,trivial⟩
 ·refine⟨?_,trivial⟩<;>rintro ev w1 hS hc hg hf hb hd
  ·clear hd;refine yv ?_ rfl;go_simp
 intro a W hR;have ho:=hR.s;replace HB:=HB.tr ho;replace K2:=aK K2 ho;replace hF:=(hR.fr hF (by kernel_rfl)).cons (t:=5) (hR.val 0 (by decide));clear hR ho;refine wp_block ?_;refine wp_loop (fun a W=>∃k:Nat,k≤pl.length∧(∀i,i<k→nW b pl i=0)∧BU 38 a [(5,ah ag (k:Nat)),(2,a8 (some ⟨B2,0,none⟩)),(1,ae p1 pl.length c1),(0,aQ (b.cells men sent marks))]∧W.heap[B2]?=some (au (b.cells men sent marks) 28 (0,0))∧aC w.heap.size w W) (fun a _=>pl.length - (intOf (a.eval (aB 5))).toNat) ⟨0,Nat.zero_le _,fun i hi=>by omega,⟨hF.size,hF.defers,(by obtain⟨b5,-,b2,b1,b0,-⟩:=hF.base;exact⟨b5,b2,b1,b0,trivial⟩)⟩,K2,HB⟩ ?_;clear hF K2 HB
 try clear a
 try clear W
 rintro a W ⟨k,hk,hpre,hF,K2,HB⟩;have hk5:a.eval (aB 5)=ah ag (k:Nat):=(hF.g 0 rfl)
 refine kh ?_
 refine cV [pV (ah ag (k:Nat)),pV (ae p1 pl.length c1),pV (ah ag pl.length),pV (aA (decide ((k:Nat)<pl.length)))]
  _ (by kernel_rfl) hF.size hF.base ?_ ?_ ?_
 ·exact⟨sV,sV,sV,sV,trivial⟩
 ·refine⟨?_,?_,?_,?_,trivial⟩<;>rintro ev w1 hS hc hg hf ⟨b5,-,b1,-,-⟩ hd
  all_goals try
   try have d0:ev (aB _)=_:=hd.1 rfl
   try have d1:ev (aB _)=_:=hd.2.1 rfl
   clear hd;refine yw rfl ?_ rfl;go_simp;done
 intro a W hR;have ho:=hR.s;replace HB:=HB.tr ho;replace K2:=aK K2 ho;replace hF:=(hR.fr hF (by kernel_rfl)).cons (t:=9) (hR.val 3 (by decide));clear hR ho;refine dB (t:=(decide ((k:Nat)<pl.length))) (hF.g 0 rfl) (fun Uh=>?_) (fun Uh=>?_)
 ·skip
  replace hF:=hF.tl;have hlt:k<pl.length:=by simpa using Uh
  obtain⟨g,off,rfl,hg,hcell⟩:=HC.out k hlt;have hW:w.heap.size≤W.heap.size:=HB.size;obtain⟨x,hx⟩ : ∃x,pl.getD k 0=x:=⟨_,rfl⟩
  have CX : ∀w9,aC w.heap.size w w9→w9.cell? ⟨g,off+k,none⟩=some (ah ag x):=fun w9 h9=>(h9.cell (p:=⟨g,off+k,none⟩) hg).trans (by rw[←hx];exact hcell k hlt);rcases k with _|j
  ·skip
   have Cx:Hid (∀w9,aC W.heap.size W w9→w9.cell? ⟨g,off,none⟩=some (ah ag x)):=ai fun w9 h9=>CX w9 (HB.trans (h9.mono hW));refine j7 ?_;show dH aq _ _ _ _;refine kh ?_;refine wp_block ?_;refine kh ?_
   refine Gn (by kernel_rfl) [pV (aQ (b.cells men sent marks)),pV (ae (some ⟨g,off,none⟩) pl.length c1),pV (ah ag ((0:Nat):Int)),pV (a8 (some ⟨g,off,none⟩)),pV (ah ag x),pV (aA (aL x 1 b.minutes)),pV (aA (!(aL x 1 b.minutes)))]
    _ (by kernel_rfl) hF.size hF.base ?_ ?_ ?_
   ·exact⟨sV,sV,sV,sV,sV,sV,sV,trivial⟩
   ·refine⟨?_,?_,?_,?_,?_,?_,?_,trivial⟩<;>rintro ev w1 hS hc hg hf ⟨b5,b2,b1,-,-⟩ hd
    all_goals try
     try have d0:ev (aB _)=_:=hd.1 rfl
     try have d1:ev (aB _)=_:=hd.2.1 rfl
     clear hd;refine yw rfl ?_ rfl;go_simp;done
    ·clear hd;have jG:=aK K2 hS;exact k8 28 rfl b2 jG aT rfl (by kernel_rfl) (rfl)
    ·have d3:ev (aB 15)=_:=hd.1 rfl;clear hd;have z:=Cx.out w1 hS;refine yv ?_ rfl;go_simp
    ·have d0:ev (aB 12)=_:=hd.1 rfl;have d4:ev (aB 16)=_:=hd.2.1 rfl;clear hd;refine yc (rB b men sent marks x w1) ?_ (fun _=>rfl);go_simp
   intro a W hR;have ho:=hR.s;replace HB:=HB.tr ho;replace K2:=aK K2 ho;replace hW:=bq hW ho.size;replace Cx:=ai fun w9 (h9:aC W.heap.size W w9)=>Cx.out w9 (ho.trans (h9.mono ho.size));replace hF:=(hR.fr hF (by kernel_rfl)).cons (t:=18) (hR.val 6 (by decide));clear hR ho;refine dB (t:=(!(aL x 1 b.minutes))) (hF.g 0 rfl) (fun Ad=>?_) (fun Ad=>?_)
   ·skip
    replace hF:=hF.tl
    have hres:jv b pl=6:=by
     have h6:nW b pl 0=6:=by unfold nW;rw[hx];simp at Ad;simp[Ad]
     unfold jv;rw[yT _ _ 0 hlt hpre (by rw[h6];decide),h6];rfl
    refine cV [pV (ah ag 6)]
     _ (by kernel_rfl) hF.size hF.base ?_ ?_ ?_
    ·exact⟨sV,trivial⟩
    ·refine⟨?_,trivial⟩<;>rintro ev w1 hS hc hg hf hb hd
     ·clear hd;refine yv ?_ rfl;go_simp
    intro a W hR;have ho:=hR.s;replace HB:=HB.tr ho;replace K2:=aK K2 ho;replace hW:=bq hW ho.size;replace Cx:=ai fun w9 (h9:aC W.heap.size W w9)=>Cx.out w9 (ho.trans (h9.mono ho.size));replace hF:=(hR.fr hF (by kernel_rfl)).cons (t:=4) (hR.val 0 (by decide));clear hR ho;refine iW ?_;show eU aq Tryz.f107 (fun e w'=>e=aO (ah ag (jv b pl))∧aC w.heap.size w w') fC a W;exact bw (cD rfl _ _ _) hF.defers ⟨congrArg aO (((hF.g 0 rfl):a.eval (aB 4)=ah ag 6).trans (congrArg _ hres.symm)),HB⟩
   ·skip
    replace hF:=hF.tl;refine j7 ?_;show dH aq _ _ _ _
    refine Gn (by kernel_rfl) [pV (ah ag ((0:Nat):Int)),pV (aA false),pV (aA false),fun v ds w9=>True,fun v ds w9=>True,fun v ds w9=>True,fun v ds w9=>True,fun v ds w9=>True,fun v ds w9=>True,fun v ds w9=>True,fun v ds w9=>True,fun v ds w9=>True,fun v ds w9=>True,pV (aA false)]
     _ (by kernel_rfl) hF.size hF.base ?_ ?_ ?_
    ·exact⟨sV,sV,sV,fun _ _ _ _ _ h _=>h,fun _ _ _ _ _ h _=>h,fun _ _ _ _ _ h _=>h,fun _ _ _ _ _ h _=>h,fun _ _ _ _ _ h _=>h,fun _ _ _ _ _ h _=>h,fun _ _ _ _ _ h _=>h,fun _ _ _ _ _ h _=>h,fun _ _ _ _ _ h _=>h,fun _ _ _ _ _ h _=>h,sV,trivial⟩
    ·refine⟨?_,?_,?_,?_,?_,?_,?_,?_,?_,?_,?_,?_,?_,?_,trivial⟩<;>rintro ev w1 hS hc hg hf ⟨b5,-,-,-,-⟩ hd
     all_goals try
      try have d0:ev (aB _)=_:=hd.1 rfl
      clear hd;refine yw rfl ?_ rfl;go_simp;done
     ·have d2:ev (aB 21)=_:=hd.1 rfl;clear hd;exact Lag.gN d2 rfl
     ·have d2:ev (aB 21)=_:=hd.1 rfl;clear hd;exact Lag.gN d2 rfl
     ·have d2:ev (aB 21)=_:=hd.2.2.1 rfl;clear hd;exact Lag.gN d2 rfl
     ·have d2:ev (aB 21)=_:=hd.2.1 rfl;clear hd;exact Lag.gN d2 rfl
     ·have d2:ev (aB 21)=_:=hd.1 rfl;clear hd;exact Lag.gN d2 rfl
     ·have d2:ev (aB 21)=_:=hd.1 rfl;clear hd;exact Lag.gN d2 rfl
     ·have d2:ev (aB 21)=_:=hd.2.1 rfl;clear hd;exact Lag.gN d2 rfl
     ·have d2:ev (aB 21)=_:=hd.2.2.1 rfl;clear hd;exact Lag.gN d2 rfl
     ·have d2:ev (aB 21)=_:=hd.2.1 rfl;clear hd;exact Lag.gN d2 rfl
     ·have d2:ev (aB 21)=_:=hd.2.2.1 rfl;clear hd;exact Lag.gN d2 rfl
    intro a W hR;have ho:=hR.s;replace HB:=HB.tr ho;replace K2:=aK K2 ho;replace hW:=bq hW ho.size;replace Cx:=ai fun w9 (h9:aC W.heap.size W w9)=>Cx.out w9 (ho.trans (h9.mono ho.size));replace hF:=(hR.fr hF (by kernel_rfl)).cons (t:=32) (hR.val 13 (by decide));clear hR ho;refine wp_cond (t:=false) (hF.g 0 rfl) ?_;show dH aq _ _ _ _;replace hF:=hF.tl;have hz:nW b pl 0=0:=by unfold nW;rw[hx];simp at Ad;simp[Ad]
    refine j7 ?_;show dH aq _ _ _ _;have Gi:=hF;replace hF:=hF.tl
    refine kD [pV (ah ag ((0:Nat):Int)),pV (ah ag (((0:Nat):Int)+1)),pV (ah ag (((0:Nat):Int)+1))]
     _ [(2,5,ah ag ((0:Nat):Int))] (by kernel_rfl) hF.size hF.base ⟨⟨rfl,(Gi.g 0 rfl)⟩,trivial⟩ ?_ ?_ ?_
    ·exact⟨Ph.sV,Ph.sV,Ph.sV,trivial⟩
    ·refine⟨?_,?_,?_,trivial⟩<;>rintro Lf ev w1 hn tU hS hc hg hf ⟨-,-,-,OX,-⟩ hd
     ·have b5:=OX (hn 2 (by kernel_rfl));clear hd;refine Ph.yv ?_ rfl;go_simp
     ·have d0:ev (aB 10)=_:=hd.1 rfl;clear hd;have hw:IntKind.i64.wrap 1=1:=by decide
      refine Ph.yv ?_ rfl;go_simp
     ·have d1:ev (aB 11)=_:=hd.1 rfl;clear hd;refine Ph.yv ?_ rfl;go_simp
    intro a W hR;have ho:=hR.s;replace HB:=HB.tr ho;replace K2:=aK K2 ho;replace hW:=bq hW ho.size;replace Cx:=ai fun w9 (h9:aC W.heap.size W w9)=>Cx.out w9 (ho.trans (h9.mono ho.size));replace hF:=(hR.fr hF (by kernel_rfl)).cons (t:=5) (hR.val 2 (by decide));clear Gi;clear hR ho;refine⟨⟨0+1,by omega,?_,⟨hF.size,hF.defers,hF.base⟩,K2,HB⟩,?_⟩
    ·intro i hi
     by_cases hik:i<0
     ·exact hpre i hik
     ·obtain rfl:i=0:=by omega
      exact hz
    ·rw[show a.eval (aB 5)=ah ag (((0:Nat):Int)+1) from(hF.g 0 rfl)];simp only[hk5];simp[intOf];omega
  ·skip
   have Cx:Hid (∀w9,aC W.heap.size W w9→w9.cell? ⟨g,off+(j+1),none⟩=some (ah ag x)):=ai fun w9 h9=>CX w9 (HB.trans (h9.mono hW));obtain⟨y,hy⟩ : ∃y,pl.getD j 0=y:=⟨_,rfl⟩
   have Cy:Hid (∀w9,aC W.heap.size W w9→w9.cell? ⟨g,off+j,none⟩=some (ah ag y)):=ai fun w9 h9=>((HB.trans (h9.mono hW)).cell (p:=⟨g,off+j,none⟩) hg).trans (by rw[←hy];exact hcell j (by omega));refine j7 ?_;show dH aq _ _ _ _;refine kh ?_;refine wp_block ?_;refine kh ?_
   refine Gn (by kernel_rfl) [pV (aQ (b.cells men sent marks)),pV (ae (some ⟨g,off,none⟩) pl.length c1),pV (ah ag ((j+1:Nat):Int)),pV (a8 (some ⟨g,off+(j+1),none⟩)),pV (ah ag x),pV (aA (aL x 1 b.minutes)),pV (aA (!(aL x 1 b.minutes)))]
    _ (by kernel_rfl) hF.size hF.base ?_ ?_ ?_
   ·exact⟨sV,sV,sV,sV,sV,sV,sV,trivial⟩
   ·refine⟨?_,?_,?_,?_,?_,?_,?_,trivial⟩<;>rintro ev w1 hS hc hg hf ⟨b5,b2,b1,-,-⟩ hd
    all_goals try
     try have d0:ev (aB _)=_:=hd.1 rfl
     clear hd;refine yw rfl ?_ rfl;go_simp;done
    ·clear hd;have jG:=aK K2 hS;exact k8 28 rfl b2 jG aT rfl (by kernel_rfl) (rfl)
    ·have d1:ev (aB 13)=_:=hd.1 rfl;have d2:ev (aB 14)=_:=hd.2.1 rfl;clear hd;have KZ : ¬((pl.length:Int)≤(j:Int)+1):=by omega
     have hi2:0≤(j:Int)+1:=by omega
     refine yv ?_ rfl;go_simp
    ·have d3:ev (aB 15)=_:=hd.1 rfl;clear hd;have z:=Cx.out w1 hS;refine yv ?_ rfl;go_simp
    ·have d0:ev (aB 12)=_:=hd.1 rfl;have d4:ev (aB 16)=_:=hd.2.1 rfl;clear hd;refine yc (rB b men sent marks x w1) ?_ (fun _=>rfl);go_simp
   intro a W hR;have ho:=hR.s;replace HB:=HB.tr ho;replace K2:=aK K2 ho;replace hW:=bq hW ho.size;replace Cx:=ai fun w9 (h9:aC W.heap.size W w9)=>Cx.out w9 (ho.trans (h9.mono ho.size));replace Cy:=ai fun w9 (h9:aC W.heap.size W w9)=>Cy.out w9 (ho.trans (h9.mono ho.size));replace hF:=(hR.fr hF (by kernel_rfl)).cons (t:=18) (hR.val 6 (by decide));clear hR ho;refine dB (t:=(!(aL x 1 b.minutes))) (hF.g 0 rfl) (fun Ad=>?_) (fun Ad=>?_)
   ·skip
    replace hF:=hF.tl
    have hres:jv b pl=6:=by
     have h6:nW b pl (j+1)=6:=by unfold nW;rw[hx];simp at Ad;simp[Ad]
     unfold jv;rw[yT _ _ (j+1) hlt hpre (by rw[h6];decide),h6];rfl
    refine cV [pV (ah ag 6)]
     _ (by kernel_rfl) hF.size hF.base ?_ ?_ ?_
    ·exact⟨sV,trivial⟩
    ·refine⟨?_,trivial⟩<;>rintro ev w1 hS hc hg hf hb hd
     ·clear hd;refine yv ?_ rfl;go_simp
    intro a W hR;have ho:=hR.s;replace HB:=HB.tr ho;replace K2:=aK K2 ho;replace hW:=bq hW ho.size;replace Cx:=ai fun w9 (h9:aC W.heap.size W w9)=>Cx.out w9 (ho.trans (h9.mono ho.size));replace Cy:=ai fun w9 (h9:aC W.heap.size W w9)=>Cy.out w9 (ho.trans (h9.mono ho.size));replace hF:=(hR.fr hF (by kernel_rfl)).cons (t:=4) (hR.val 0 (by decide));clear hR ho;refine iW ?_;show eU aq Tryz.f107 (fun e w'=>e=aO (ah ag (jv b pl))∧aC w.heap.size w w') fC a W;exact bw (cD rfl _ _ _) hF.defers ⟨congrArg aO (((hF.g 0 rfl):a.eval (aB 4)=ah ag 6).trans (congrArg _ hres.symm)),HB⟩
   ·skip
    replace hF:=hF.tl;refine j7 ?_;show dH aq _ _ _ _
    refine Gn (by kernel_rfl) [pV (ah ag ((j+1:Nat):Int)),pV (aA true),pV (aA true),pV (ae (some ⟨g,off,none⟩) pl.length c1),pV (ah ag ((j+1:Nat):Int)),pV (a8 (some ⟨g,off+(j+1),none⟩)),pV (ah ag x),pV (ae (some ⟨g,off,none⟩) pl.length c1),pV (ah ag ((j+1:Nat):Int)),pV (ah ag (j:Int)),pV (a8 (some ⟨g,off+j,none⟩)),pV (ah ag y),pV (aA (decide (x≤y))),pV (aA (decide (x≤y)))]
     _ (by kernel_rfl) hF.size hF.base ?_ ?_ ?_
    ·exact⟨sV,sV,sV,sV,sV,sV,sV,sV,sV,sV,sV,sV,sV,sV,trivial⟩
    ·refine⟨?_,?_,?_,?_,?_,?_,?_,?_,?_,?_,?_,?_,?_,?_,trivial⟩<;>rintro ev w1 hS hc hg hf ⟨b5,-,b1,-,-⟩ hd
     all_goals try
      try have d0:ev (aB _)=_:=hd.1 rfl
      try have d1:ev (aB _)=_:=hd.2.1 rfl
      clear hd;refine yw rfl ?_ rfl;go_simp;done
     ·have d2:ev (aB 21)=_:=hd.1 rfl;clear hd;refine gL d2 ?_;refine yv ?_ rfl;go_simp
     ·have d2:ev (aB 21)=_:=hd.1 rfl;clear hd;refine gL d2 ?_;refine yv ?_ rfl;go_simp
     ·have d3:ev (aB 22)=_:=hd.1 rfl;have d4:ev (aB 23)=_:=hd.2.1 rfl;have d2:ev (aB 21)=_:=hd.2.2.1 rfl;clear hd;refine gL d2 ?_;have KZ : ¬((pl.length:Int)≤(j:Int)+1):=by omega
      have hi2:0≤(j:Int)+1:=by omega
      refine yv ?_ rfl;go_simp
     ·have d5:ev (aB 24)=_:=hd.1 rfl;have d2:ev (aB 21)=_:=hd.2.1 rfl;clear hd;refine gL d2 ?_;have z:=Cx.out w1 hS;refine yv ?_ rfl;go_simp
     ·have d2:ev (aB 21)=_:=hd.1 rfl;clear hd;refine gL d2 ?_;refine yv ?_ rfl;go_simp
     ·have d2:ev (aB 21)=_:=hd.1 rfl;clear hd;refine gL d2 ?_;refine yv ?_ rfl;go_simp
     ·have d8:ev (aB 27)=_:=hd.1 rfl;have d2:ev (aB 21)=_:=hd.2.1 rfl;clear hd;refine gL d2 ?_;have hw:IntKind.i64.wrap (j:Int)=(j:Int):=by rw[gU];omega
      refine yv ?_ rfl;go_simp
     ·have d7:ev (aB 26)=_:=hd.1 rfl;have d9:ev (aB 28)=_:=hd.2.1 rfl;have d2:ev (aB 21)=_:=hd.2.2.1 rfl;clear hd;refine gL d2 ?_;have KZ : ¬(pl.length≤j):=by omega
      refine yv ?_ rfl;go_simp
     ·have d10:ev (aB 29)=_:=hd.1 rfl;have d2:ev (aB 21)=_:=hd.2.1 rfl;clear hd;refine gL d2 ?_;have z:=Cy.out w1 hS;refine yv ?_ rfl;go_simp
     ·have d6:ev (aB 25)=_:=hd.1 rfl;have d11:ev (aB 30)=_:=hd.2.1 rfl;have d2:ev (aB 21)=_:=hd.2.2.1 rfl;clear hd;refine gL d2 ?_;refine yv ?_ rfl;go_simp
    intro a W hR;have ho:=hR.s;replace HB:=HB.tr ho;replace K2:=aK K2 ho;replace hW:=bq hW ho.size;replace Cx:=ai fun w9 (h9:aC W.heap.size W w9)=>Cx.out w9 (ho.trans (h9.mono ho.size));replace Cy:=ai fun w9 (h9:aC W.heap.size W w9)=>Cy.out w9 (ho.trans (h9.mono ho.size));replace hF:=(hR.fr hF (by kernel_rfl)).cons (t:=32) (hR.val 13 (by decide));clear hR ho;refine dB (t:=(decide (x≤y))) (hF.g 0 rfl) (fun J7=>?_) (fun J7=>?_)
    ·skip
     replace hF:=hF.tl
     have hres:jv b pl=7:=by
      have h7:nW b pl (j+1)=7:=by unfold nW;rw[hx,show((j+1) - 1)=j from rfl,hy];simp at Ad J7;simp[Ad,J7]
      unfold jv;rw[yT _ _ (j+1) hlt hpre (by rw[h7];decide),h7];rfl
     refine cV [pV (ah ag 7)]
      _ (by kernel_rfl) hF.size hF.base ?_ ?_ ?_
     ·exact⟨sV,trivial⟩
     ·refine⟨?_,trivial⟩<;>rintro ev w1 hS hc hg hf hb hd
      ·clear hd;refine yv ?_ rfl;go_simp
     intro a W hR;have ho:=hR.s;replace HB:=HB.tr ho;replace K2:=aK K2 ho;replace hW:=bq hW ho.size;replace Cx:=ai fun w9 (h9:aC W.heap.size W w9)=>Cx.out w9 (ho.trans (h9.mono ho.size));replace Cy:=ai fun w9 (h9:aC W.heap.size W w9)=>Cy.out w9 (ho.trans (h9.mono ho.size));replace hF:=(hR.fr hF (by kernel_rfl)).cons (t:=4) (hR.val 0 (by decide));clear hR ho;refine iW ?_;show eU aq Tryz.f107 (fun e w'=>e=aO (ah ag (jv b pl))∧aC w.heap.size w w') fC a W;exact bw (cD rfl _ _ _) hF.defers ⟨congrArg aO (((hF.g 0 rfl):a.eval (aB 4)=ah ag 7).trans (congrArg _ hres.symm)),HB⟩
    ·skip
     replace hF:=hF.tl;have hz:nW b pl (j+1)=0:=by unfold nW;rw[hx,show((j+1) - 1)=j from rfl,hy];simp at Ad J7;simp[Ad];omega
     refine j7 ?_;show dH aq _ _ _ _;have Gi:=hF;replace hF:=hF.tl
     refine kD [pV (ah ag ((j+1:Nat):Int)),pV (ah ag (((j+1:Nat):Int)+1)),pV (ah ag (((j+1:Nat):Int)+1))]
      _ [(2,5,ah ag ((j+1:Nat):Int))] (by kernel_rfl) hF.size hF.base ⟨⟨rfl,(Gi.g 0 rfl)⟩,trivial⟩ ?_ ?_ ?_
     ·exact⟨Ph.sV,Ph.sV,Ph.sV,trivial⟩
     ·refine⟨?_,?_,?_,trivial⟩<;>rintro Lf ev w1 hn tU hS hc hg hf ⟨-,-,-,OX,-⟩ hd
      ·have b5:=OX (hn 2 (by kernel_rfl));clear hd;refine Ph.yv ?_ rfl;go_simp
      ·have d0:ev (aB 10)=_:=hd.1 rfl;clear hd;have hw:IntKind.i64.wrap ((j:Int)+1+1)=(j:Int)+1+1:=by rw[gU];omega
       refine Ph.yv ?_ rfl;go_simp
      ·have d1:ev (aB 11)=_:=hd.1 rfl;clear hd;refine Ph.yv ?_ rfl;go_simp
     intro a W hR;have ho:=hR.s;replace HB:=HB.tr ho;replace K2:=aK K2 ho;replace hW:=bq hW ho.size;replace Cx:=ai fun w9 (h9:aC W.heap.size W w9)=>Cx.out w9 (ho.trans (h9.mono ho.size));replace Cy:=ai fun w9 (h9:aC W.heap.size W w9)=>Cy.out w9 (ho.trans (h9.mono ho.size));replace hF:=(hR.fr hF (by kernel_rfl)).cons (t:=5) (hR.val 2 (by decide));clear Gi;clear hR ho;refine⟨⟨(j+1)+1,by omega,?_,⟨hF.size,hF.defers,hF.base⟩,K2,HB⟩,?_⟩
     ·intro i hi
      by_cases hik:i<(j+1)
      ·exact hpre i hik
      ·obtain rfl:i=(j+1):=by omega
       exact hz
     ·rw[show a.eval (aB 5)=ah ag (((j+1:Nat):Int)+1) from(hF.g 0 rfl)];simp only[hk5];simp[intOf];omega
 ·skip
  replace hF:=hF.tl;refine wp_exit ?_;have yN:k=pl.length:=by simp at Uh;omega
  rw[yN] at hpre;show dH aq _ _ a W;show dH aq _ _ _ _;refine kh ?_
  refine cV [pV (ae p1 pl.length c1),pV (ah ag pl.length),pV (a8 (some ⟨B2,6,none⟩)),pV (ah ag b.ek),pV (aA (decide (pl.length>b.ek)))]
   _ (by kernel_rfl) hF.size hF.base ?_ ?_ ?_
  ·exact⟨sV,sV,sV,sV,sV,trivial⟩
  ·refine⟨?_,?_,?_,?_,?_,trivial⟩<;>rintro ev w1 hS hc hg hf ⟨-,b2,b1,-,-⟩ hd
   all_goals try
    try have d0:ev (aB _)=_:=hd.1 rfl
    try have d1:ev (aB _)=_:=hd.2.1 rfl
    clear hd;refine yw rfl ?_ rfl;go_simp;done
   ·have d2:ev (aB 35)=_:=hd.1 rfl;clear hd;have z:=aH (aK K2 hS) 6 _ rfl;refine yv ?_ rfl;go_simp
  intro a W hR;have ho:=hR.s;replace HB:=HB.tr ho;replace K2:=aK K2 ho;replace hF:=(hR.fr hF (by kernel_rfl)).cons (t:=37) (hR.val 4 (by decide));clear hR ho;refine dB (t:=(decide (pl.length>b.ek))) (hF.g 0 rfl) (fun Uk=>?_) (fun Uk=>?_)
  ·skip
   replace hF:=hF.tl;have hres:jv b pl=8:=by unfold jv;rw[sB _ _ hpre];simp at Uk;simp[Uk]
   refine cV [pV (ah ag 8)]
    _ (by kernel_rfl) hF.size hF.base ?_ ?_ ?_
   ·exact⟨sV,trivial⟩
   ·refine⟨?_,trivial⟩<;>rintro ev w1 hS hc hg hf hb hd
    ·clear hd;refine yv ?_ rfl;go_simp
   intro a W hR;have ho:=hR.s;replace HB:=HB.tr ho;replace K2:=aK K2 ho;replace hF:=(hR.fr hF (by kernel_rfl)).cons (t:=4) (hR.val 0 (by decide));clear hR ho;refine iW ?_;show eU aq Tryz.f107 (fun e w'=>e=aO (ah ag (jv b pl))∧aC w.heap.size w w') fC a W;exact bw (cD rfl _ _ _) hF.defers ⟨congrArg aO (((hF.g 0 rfl):a.eval (aB 4)=ah ag 8).trans (congrArg _ hres.symm)),HB⟩
  ·skip
   replace hF:=hF.tl;have hres:jv b pl=0:=by unfold jv;rw[sB _ _ hpre];simp at Uk;simp;omega
   refine j7 ?_;show dH aq _ _ _ _
   refine cV [pV (ah ag 0)]
    _ (by kernel_rfl) hF.size hF.base ?_ ?_ ?_
   ·exact⟨sV,trivial⟩
   ·refine⟨?_,trivial⟩<;>rintro ev w1 hS hc hg hf hb hd
    ·clear hd;refine yv ?_ rfl;go_simp
   intro a W hR;have ho:=hR.s;replace HB:=HB.tr ho;replace K2:=aK K2 ho;replace hF:=(hR.fr hF (by kernel_rfl)).cons (t:=4) (hR.val 0 (by decide));clear hR ho;refine iW ?_;show eU aq Tryz.f107 (fun e w'=>e=aO (ah ag (jv b pl))∧aC w.heap.size w w') fC a W;exact bw (cD rfl _ _ _) hF.defers ⟨congrArg aO (((hF.g 0 rfl):a.eval (aB 4)=ah ag 0).trans (congrArg _ hres.symm)),HB⟩
end Go.Proofs.YtffladgmkiimjaaGreatDoor
