/- pick (95): beside leavers. What good is handed. LONE WALKS: by (104, 1 .. -/
import Derived.Test.YtffladgmkiimjaaGreatDoorW13
import Derived.Test.YtffladgmkiimjaaGreatDoorW02
import Derived.Test.YtffladgmkiimjaaGreatDoorW01
import Derived.Test.YtffladgmkiimjaaGreatDoorW12
import Derived.Test.YtffladgmkiimjaaGreatDoorW03
set_option linter.all false
set_option maxHeartbeats 100000000
set_option maxRecDepth 1000000
open Array renaming getElem?_eq_some_iff → ak
open Go renaming Value → aj,World → ar
open Go.Ending renaming returned → aF
open Go.IntKind renaming i64 → ag
open Go.Lib renaming hid → ai
open Go.Obj renaming cells → au
open Go.Operand renaming tmp → aK
open Go.Proofs.Tryz renaming prog → aq
open Go.RowKit renaming Below → az
open Go.RowKit.Below renaming refl → aw,heap_setCell → bj
open Go.Value renaming int → aD,agg → aO,slice → ae,int → ah,ownBlock → iY
open Go.World renaming alloc_heap_new → ay
open List renaming mem_range → bB,getD_cons_zero → fS,getD_cons_succ → fT
open List.range renaming loop → bT
open Nat renaming le_refl → ax
namespace Go.Proofs.YtffladgmkiimjaaGreatDoor
open Go.RowKit Go.Lag
open Go.Conc
def Ms(u:aj):Prop:=(∃k n,u=.int k n)∨∃s,u=.string s
def Plain(w:ar)(v:aj):Prop:=∀g,v.ownBlock=some g→1≤g∧∃cs e z,w.heap[g]?=some (.cells cs e z)∧∀u∈cs,Ms u
theorem Plain.old{w w':ar}{v:aj}(h:Plain w v)(ho:Old w w'):Plain w' v:=fun g hg=>by
 obtain⟨h1,cs,e,z,h2,h3⟩:=h g hg;exact⟨h1,cs,e,z,(ho.block g (ey h2)).trans h2,h3⟩
theorem cH.old{b:BB}{men sent marks:aj}{ml:List Mn}{ss:List Int}{ms:List Mk}{w w':ar}(h:cH b men sent marks ml ss ms w)(ho:Old w w'):cH b men sent marks ml ss ms w':=
 ⟨h.ok,h.gV,h.l5,h.kG,h.rm.old ho,h.rs.old ho,h.rk.old ho⟩
theorem Laid.old{w w':ar}(h:Laid w)(hb:Old w w'):Laid w':=
 ⟨(hb.cell (a:=⟨0,0,none⟩) h.lt).trans h.c0,(hb.cell (a:=⟨0,1,none⟩) h.lt).trans h.c1,(hb.cell (a:=⟨0,2,none⟩) h.lt).trans h.c2,(hb.cell (a:=⟨0,3,none⟩) h.lt).trans h.c3,(hb.cell (a:=⟨0,4,none⟩) h.lt).trans h.c4,Nat.lt_of_lt_of_le h.lt hb.size⟩
theorem gJ.old{w w':ar}{base:Nat}{v:aj}{l:List eA}(h:gJ w base v l)(ho:Old w w'):gJ w' base v l:=h.at_ fun g hg=>ho.block g (h.1.lt g hg).2
theorem PO{w:ar}{base:Nat}{v:aj}{l:List eA}(h:gJ w base v l)(hb:1≤base):Plain w v:=fun g hg=>by
 obtain⟨cur,h1,h2⟩:=h.2 g hg;have h3:=(h.1.lt g hg).1;exact⟨by omega,cur,_,_,h1,fun u hu=>.inl ⟨_,h2 u hu⟩⟩
theorem Gp(ok:eA→Bool):∀(r:List Mn) (lH:Nat) (a:eA),a.Ok→(∀m∈r,1≤m.lo∧m.hi≤99)→∀x∈leaves ok r lH a,x.Ok
 |[],lH,a,ha,_,x,hx=>by
  simp only[leaves] at hx;split at hx
  ·simp at hx;subst hx;exact ha
  ·cases hx
 |m::r,lH,a,ha,hm,x,hx=>by
  simp only[leaves,List.mem_flatMap] at hx;obtain⟨n,hn,hx⟩:=hx;simp only[fM,List.mem_map,bB] at hn;obtain⟨i,hi,rfl⟩:=hn;have:=hm m (by simp);exact Gp ok r (lH+1) _ (eA.Mj ha lH (by omega) (by omega)) (fun m' h=>hm m' (by simp[h])) x hx
theorem nO{b:BB}{ml:List Mn}{ss:List Int}{ms:List Mk}(hb:b.Ok)(hm:wQ ml):∀x∈bn b ml ss ms,x.Ok:=by
 intro x hx;simp only[bn,List.mem_flatMap] at hx;obtain⟨n,hn,hx⟩:=hx;simp only[fM,List.mem_map,bB] at hn;obtain⟨i,hi,rfl⟩:=hn;have:=hb.leak;exact Gp _ ml 0 ⟨b.ll+i,0,0,0⟩ ⟨⟨by show 0≤b.ll+i;omega,by show b.ll+(i:Int)≤400;omega⟩,by simp,by simp,by simp⟩ (fun m h=>⟨(hm.mem m h).2.1,(hm.mem m h).2.2.2.1⟩) x hx
theorem V6{b:BB}{men sent marks all:aj}{ml:List Mn}{l:List eA}{ss:List Int}{ms:List Mk}{W:ar}(hB:cH b men sent marks ml ss ms W)(hl:∀x∈l,x.Ok)(h1:Plain W men)(h2:Plain W sent)(h3:Plain W marks)(h4:Plain W all)
  (ha:Reads W all l.length (rowOf l)) (hg:1≤W.heap.size):∃Y,Uq aq b men sent marks all l ss ms Y W:=by
 have hm:=hB.ok.minutes
 have vr:∀(Y:Nat→Prop) (v:aj) (n:Nat) (xs:List aj),Reads W v n xs→(∀g,v.ownBlock=some g→Y g)→VR fw (xo Y) v v∧lZ Y W v n xs:=by
  intro Y v n xs hr hy;rcases hr with⟨rfl,rfl,rfl⟩|⟨g,off,cap,rfl,h,hg,hc⟩
  ·exact⟨.DJ _ _,.inl ⟨rfl,rfl,rfl⟩⟩
  ·exact⟨.slice _ _ ⟨uT (hy g rfl),rfl,rfl⟩,.inr ⟨g,off,cap,rfl,h,hy g rfl,hc⟩⟩
 refine⟨fun k=>men.ownBlock=some k∨sent.ownBlock=some k∨marks.ownBlock=some k∨all.ownBlock=some k,?_⟩
 have pl:∀(Y:Nat→Prop) (u:aj),Ms u→VR fw (xo Y) u u:=by
  rintro Y u (⟨k,n,rfl⟩|⟨s,rfl⟩)
  ·exact .int _ _
  ·exact .string _
 have m1:=vr (fun k=>men.ownBlock=some k∨sent.ownBlock=some k∨marks.ownBlock=some k∨all.ownBlock=some k) men _ _ hB.rm fun g h=>.inl h;have m2:=vr (fun k=>men.ownBlock=some k∨sent.ownBlock=some k∨marks.ownBlock=some k∨all.ownBlock=some k) sent _ _ hB.rs fun g h=>.inr (.inl h);have m3:=vr (fun k=>men.ownBlock=some k∨sent.ownBlock=some k∨marks.ownBlock=some k∨all.ownBlock=some k) marks _ _ hB.rk fun g h=>.inr (.inr (.inl h));have m4:=vr (fun k=>men.ownBlock=some k∨sent.ownBlock=some k∨marks.ownBlock=some k∨all.ownBlock=some k) all _ _ ha fun g h=>.inr (.inr (.inr h))
 have VF:∀c,(men.ownBlock=some c∨sent.ownBlock=some c∨marks.ownBlock=some c∨all.ownBlock=some c)→1≤c∧∃cs e z,W.heap[c]?=some (.cells cs e z)∧∀u∈cs,Ms u:=by
  rintro c (h|h|h|h)
  ·exact h1 c h
  ·exact h2 c h
  ·exact h3 c h
  ·exact h4 c h
 have BI:Tryz.prog.globals.size=1:=by kernel_rfl
 exact⟨rfl,Tryz.func159,Tryz.func178,by kernel_rfl,by kernel_rfl,hB.ok,hl,fun s hs=>by have:=hB.l5.mem s hs;omega,fun m h=>by have:=hB.kG.mem m h;omega,
  fun c hc=>by obtain⟨_,cs,e,z,h,hu⟩:=VF c hc;exact⟨cs,e,z,h,fun u hu'=>pl _ u (hu u hu')⟩,fun c hc=>by rw[BI];exact(VF c hc).1,by rw[BI];exact hg,m1.1,m2.1,m3.1,m4.1,m2.2,m3.2,m4.2⟩
end Go.Proofs.YtffladgmkiimjaaGreatDoor
namespace Go.Proofs.YtffladgmkiimjaaGreatDoor
open Go.RowKit Go.Lag
theorem I8(p:Option Addr)(n cap:Nat)(w:ar):Calls aq 104 #[ae p n cap] w fun e w'=>e=aF (.func (.func 164) #[] #[pv w.heap.size 0])∧w'=w.alloc (au #[ae p n cap] 25):=by
 go_enter Tryz.func104,Tryz.ntmps104
 go_wp2
 go_ret
 exact⟨rfl,rfl⟩
theorem CS(b:BB)(hb:b.Ok)(men sent marks:aj)(pl:List Int)(hp:js b pl)(cp:Nat)(lv:aj)(w:ar)(yf:w.heap[cp]?=some (au #[lv] 25 (0,0)))(hl:Reads w lv pl.length (pl.map (aD ag))) :
  Calls aq 164 #[aO (b.cells men sent marks),pv cp 0] w fun e w'=>e=aF (ah ag 0)∧az w.heap.size w w':=by
 have b1:az w.heap.size w (w.alloc (au (b.cells men sent marks) 119)):=(aw _ _).alloc (ax _) _;have lp:=(ak.1 yf).1;have x1:=aH ((b1.block _ lp).trans yf) 0 _ rfl;have XT:=ai (sS b hb men sent marks lv pl hp _ (hl.below b1));have yg:=ai b1;clear yf hl hp b1
 go_enter Tryz.func164,Tryz.ntmps164
 go_wp2_with (go_at_call 113;refine XT.out.mono ?_;clear XT;rintro e w1 ⟨rfl,hb1⟩;have oX:=ai hb1;clear hb1)
 go_ret
 exact⟨rfl,yg.out.trans (oX.out.mono yg.out.size)⟩
def BB.dep(b:BB)(d:Int):BB:={ b with depth:=d }
theorem BB.ZQ{b:BB}(h:b.Ok){d:Int}(h1:0≤d)(h2:d≤99):(b.dep d).Ok:=⟨h.room,⟨h1,h2⟩,h.least,h.minutes,h.cM,h.km,h.eT,h.j9,h.leak,h.Mm⟩
def oA(b:BB)(all:List eA)(p:Nat):Nat→Option Nat
 |0=>none
 |n+1=>if (b.dep n).sure all p then some n else oA b all p n
def XK(o:Option Nat):aj × Bool:=match o with|some n=>(ah ag n,true)|none=>(ah ag 0,false)
theorem NN(b:BB)(men sent marks:aj)(ml:List Mn)(ss:List Int)(ms:List Mk)(w:ar)(hL:Laid w)(hB:cH b men sent marks ml ss ms w)(hne:bn b ml ss ms≠[])(pl:List Int)(hp:js b pl)(lv:aj)(hl:Reads w lv pl.length (pl.map (aD ag))) :
  Calls aq 25 #[aO (b.cells men sent marks),lv] w fun e w'=>e=aF (.tuple #[(XK (oA b (bn b ml ss ms) (bG pl) 100)).1,.bool (XK (oA b (bn b ml ss ms) (bG pl) 100)).2,ah ag 0])∧az w.heap.size w w':=by
 have hlen:=jq ss ms hB.ok hB.gV;have kg:0<(bn b ml ss ms).length:=List.length_pos_iff.2 hne;have cS:=hB.ok;have hao:=nO (ss:=ss) (ms:=ms) hB.ok hB.gV;have xq:=cS.minutes;have oW:∀s∈pl,1≤s∧s≤8:=fun s h=>by have:=hp.mem s h;omega
 have Qh:bG pl<512:=mS pl oW;obtain⟨pm,cm,rfl,_⟩:=aR hB.rm;obtain⟨pn,cn,rfl,_⟩:=aR hB.rs;obtain⟨pk,ck,rfl,_⟩:=aR hB.rk;obtain⟨pZ,qj,rfl,_⟩:=aR hl;have b1:az w.heap.size w (w.alloc (au (b.cells (ae pm ml.length cm) (ae pn ss.length cn) (ae pk ms.length ck)) 28)):=(aw _ _).alloc (ax _) _;have hk:=ay w (au (b.cells (ae pm ml.length cm) (ae pn ss.length cn) (ae pk ms.length ck)) 28)
 have Uj:Hid (∀W cp,az w.heap.size w W→W.heap[cp]?=some (au #[ae pZ pl.length qj] 25 (0,0))→Calls aq 103 #[aO (b.cells (ae pm ml.length cm) (ae pn ss.length cn) (ae pk ms.length ck)),.func (.func 164) #[] #[pv cp 0]] W fun e w'=>∃v,e=aF (.tuple #[aO (b.open (ae pm ml.length cm) (ae pn ss.length cn) (ae pk ms.length ck) v),ah ag 0])∧gJ w' W.heap.size v (bn b ml ss ms)∧az W.heap.size W w'):=
  ai fun W cp Jo Td=>CB b _ _ _ ml ss ms W (hL.below Jo) (hB.below Jo) hne cp fun W' hb'=>by
   have hlt:=(ak.1 Td).1;exact CS b cS _ _ _ pl hp cp _ W' ((hb'.block _ hlt).trans Td) ((hl.below Jo).below hb')
 have Jp:=ai hl;have Ra:=ai hao;have WL:=ai oW;clear hL hB hl hao hp oW;generalize bn b ml ss ms=all at *;generalize ml.length=lm at *;generalize ss.length=ln at *;generalize ms.length=lk at *
 go_enter Tryz.func25,Tryz.ntmps25
 go_wp2
 refine bQ (by kernel_rfl) [
 pV (aO (b.cells (ae pm lm cm) (ae pn ln cn) (ae pk lk ck))),
  pV (ae pZ pl.length qj),
  fun v ds w9=>∃cp,v=.func (.func 164) #[] #[pv cp 0]∧w9.heap[cp]?=some (au #[ae pZ pl.length qj] 25 (0,0)),
  fun v ds w9=>∃gv cv,v=.tuple #[aO (b.open (ae pm lm cm) (ae pn ln cn) (ae pk lk ck) (ae (some ⟨gv,0,none⟩) all.length cv)),ah ag 0]∧gJ w9 w.heap.size (ae (some ⟨gv,0,none⟩) all.length cv) all,
  fun v ds w9=>∃gv cv,v=.tuple #[aO (b.open (ae pm lm cm) (ae pn ln cn) (ae pk lk ck) (ae (some ⟨gv,0,none⟩) all.length cv)),ah ag 0]∧gJ w9 w.heap.size (ae (some ⟨gv,0,none⟩) all.length cv) all,
  fun v ds w9=>∃gv cv,v=aO (b.open (ae pm lm cm) (ae pn ln cn) (ae pk lk ck) (ae (some ⟨gv,0,none⟩) all.length cv))∧gJ w9 w.heap.size (ae (some ⟨gv,0,none⟩) all.length cv) all,
  pV (ah ag 0),
  fun v ds w9=>∃k,∃z:Array aj,v=pv k 0∧w.heap.size+1≤k∧w9.heap[k]?=some (au z 122 (0,0))∧z.size=16,
  fun v ds w9=>∃k gv cv,ds[0]?=some (pv k 0)∧w.heap.size+1≤k∧w9.heap[k]?=some (au (b.open (ae pm lm cm) (ae pn ln cn) (ae pk lk ck) (ae (some ⟨gv,0,none⟩) all.length cv)) 122 (0,0))∧gJ w9 w.heap.size (ae (some ⟨gv,0,none⟩) all.length cv) all,
  pV (ah ag 0)]
  (fun w9=>w9.heap[w.heap.size]?=some (au (b.cells (ae pm lm cm) (ae pn ln cn) (ae pk lk ck)) 28 (0,0))∧az w.heap.size w w9) [(2,pv w.heap.size 0),(1,ae pZ pl.length qj)] (by kernel_rfl) ?rst (fun w1 w2 h hb=>⟨(hb.block _ (ak.1 h.1).1).trans h.1,h.2.trans (hb.mono h.2.size)⟩) (⟨hk,b1.drew⟩) ⟨rfl,rfl,trivial⟩ ?reach ?rfin
 case rst=>
  refine⟨sV,sV,?_,?_,?_,?_,sV,?_,?_,sV,trivial⟩
  ·rintro v ds w1 w2 hS ⟨cp,h1,h2⟩ hb;exact⟨cp,h1,(hb.block _ (ak.1 h2).1).trans h2⟩
  ·rintro v ds w1 w2 hS ⟨gv,cv,h1,h2⟩ hb;exact⟨gv,cv,h1,h2.at_ fun g hg=>hb.block g (h2.1.lt g hg).2⟩
  ·rintro v ds w1 w2 hS ⟨gv,cv,h1,h2⟩ hb;exact⟨gv,cv,h1,h2.at_ fun g hg=>hb.block g (h2.1.lt g hg).2⟩
  ·rintro v ds w1 w2 hS ⟨gv,cv,h1,h2⟩ hb;exact⟨gv,cv,h1,h2.at_ fun g hg=>hb.block g (h2.1.lt g hg).2⟩
  ·rintro v ds w1 w2 hS ⟨k,z,h1,h2,h3,h4⟩ hb;exact⟨k,z,h1,h2,(hb.block _ (ak.1 h3).1).trans h3,h4⟩
  ·rintro v ds w1 w2 hS ⟨k,gv,cv,h1,h0,h3,h2⟩ hb;exact⟨k,gv,cv,h1,h0,(hb.block _ (ak.1 h3).1).trans h3,h2.at_ fun g hg=>hb.block g (h2.1.lt g hg).2⟩
 case reach=>
  refine⟨?_,?_,?_,?_,?_,?_,?_,?_,?_,?_,trivial⟩<;>rintro ev w1 hS hc hg hf ⟨b2,b1,-⟩ hd
  ·clear hd;obtain⟨x0,x1,x2,x3,x4,x5,x6,x7,x8,x9,nS,nR,oO,n4,oK⟩:=bM hS.1;exact tV
  ·clear hd;exact tV
  ·have d1:ev (aK 10)=_:=hd.1 rfl;clear hd;refine Lag.Yields.call (f:=104) (args:=#[ae pZ pl.length qj]) ?_ (I8 _ _ _ _) ?_
   ·go_simp
   ·rintro e w2 ⟨rfl,rfl⟩;exact⟨_,rfl,⟨_,rfl,ay _ _⟩,.inl ((aw _ _).alloc (ax _) _)⟩
  ·have d0:ev (aK 9)=_:=hd.1 rfl;obtain⟨cp,Fb,yf⟩:=hd.2.1 rfl;clear hd;replace Fb:ev (aK 11)=_:=Fb;refine Lag.Yields.call (f:=103) (args:=#[aO (b.cells (ae pm lm cm) (ae pn ln cn) (ae pk lk ck)),.func (.func 164) #[] #[pv cp 0]]) ?_ (Uj.out w1 cp hS.2 yf) ?_
   ·go_simp
   ·rintro e w2 ⟨v,rfl,iU,hb⟩
    obtain⟨gv,cv,rfl⟩:∃gv cv,v=ae (some ⟨gv,0,none⟩) all.length cv:=by
     rcases iU.1.2 with⟨_,h0⟩|⟨g,cap,cur,rfl,_⟩
     ·omega
     ·exact⟨g,cap,rfl⟩
    exact⟨_,rfl,⟨gv,cv,rfl,iU.base hS.2.size⟩,.inl hb⟩
  ·exact yv rfl (hd.1 rfl)
  ·obtain⟨gv,cv,e11,iU⟩:=hd.1 rfl;clear hd;replace e11:ev (aK 8)=_:=e11;refine yv ?_ (⟨gv,cv,rfl,iU⟩);go_simp
  ·obtain⟨gv,cv,e11,iU⟩:=hd.1 rfl;clear hd;replace e11:ev (aK 8)=_:=e11;exact tV
  ·clear hd;refine Lag.Yields.value (v:=pv w1.heap.size 0) (w':=w1.alloc (au gU 122)) ?_ ⟨⟨_,_,rfl,(ak.1 hS.1).1,ay _ _,rfl⟩,.inl ((aw _ _).alloc (ax _) _)⟩;go_simp
  ·obtain⟨k,z,e6,qg,hk2,hz⟩:=hd.1 rfl;replace e6:ev (aK 7)=_:=e6;obtain⟨gv,cv,M8,iU⟩:=hd.2.1 rfl;clear hd;replace M8:ev (aK 13)=_:=M8;have CL:∀g cs t,w1.heap[g]?=some (au cs t (0,0))→t≠122→g≠k:=by rintro g cs t h1 h2 rfl;rw[hk2] at h1;cases h1;exact h2 rfl
   have D7:∀(v:aj),gJ w1 w.heap.size v all→gJ (w1.setRow k (b.open (ae pm lm cm) (ae pn ln cn) (ae pk lk ck) (ae (some ⟨gv,0,none⟩) all.length cv))) w.heap.size v all:=fun v ho=>ho.at_ fun g hg=>setRow_other (by
    obtain⟨cur,q1,_⟩:=ho.2 g hg
    exact CL g _ _ q1 (by decide))
   refine Lag.Yields.nC 122 _ _ rfl k _ e6 M8 122 z hk2 (by kernel_rfl) hz (by simp[Value.oneCell']) ⟨⟨k,gv,cv,congrArg some e6,qg,cV hk2,D7 _ iU⟩,.inr ⟨⟨(setRow_other (by omega)).trans hS.1,dv hS.2 (by omega)⟩,?_⟩⟩;intro j u ds hj hp
   match j,hp with
   |0,hp=>exact hp
   |1,hp=>exact hp
   |2,⟨cp,h1,h2⟩=>exact⟨cp,h1,(setRow_other (CL _ _ _ h2 (by decide))).trans h2⟩
   |3,⟨Ef,Er,h1,h2⟩=>exact⟨Ef,Er,h1,D7 _ h2⟩
   |4,⟨Ef,Er,h1,h2⟩=>exact⟨Ef,Er,h1,D7 _ h2⟩
   |5,⟨Ef,Er,h1,h2⟩=>exact⟨Ef,Er,h1,D7 _ h2⟩
   |6,hp=>exact hp
   |7,⟨k',z',h1,h2,h3,h4⟩=>
    by_cases sI:k'=k
    ·subst sI;exact⟨k',_,h1,h2,cV h3,rfl⟩
    ·exact⟨k',z',h1,h2,(setRow_other sI).trans h3,h4⟩
   |8,_=>exact(hj rfl).elim
   |9,hp=>exact hp
   |j+10,_=>trivial
  ·have d6:ev (aK 14)=_:=hd.1 rfl;clear hd;refine yv (v:=ev (aK 14)) ?_ (d6);rfl
 case rfin=>
  intro a2 w2 hR;have hS:=hR.s;obtain⟨k,gv,cv,TJ,qg,hk2,iU⟩:=hR.val 8 (by decide);have e9:a2.tmps.getD 6 undef=_:=hR.val 9 (by decide);have ha:=hR.lits 42 rfl;simp only[List.range,bT,List.map] at ha;rw[hR.kp 1 (by kernel_rfl),hR.kp 2 (by kernel_rfl),hR.kp 4 (by kernel_rfl),hR.kp 5 (by kernel_rfl)] at ha;simp only[ku,fT,fS] at ha;clear hR;have e6:a2.tmps.getD 7 undef=pv k 0:=Option.some.inj TJ;rw[e6,e9] at ha;generalize a2.tmps.getD=zz at ha;clear e6 TJ e9;subst ha;have sg:=hS.1;have rz:=hS.2;clear hS;have y1:=aH hk2 1 _ rfl;have f1:=cN hk2 1
  have Xr:gv≠k:=by
   obtain⟨cur,q1,_⟩:=iU.2 gv rfl;rintro rfl;rw[hk2] at q1;cases q1
  have FX:=ai hk2;have LB:=ai iU;have EZ:=ai rz;clear hk2 iU rz sg hk b1 Uj;go_wp2
  go_loopw [24] (fun _ wr=>∃n:Nat,n≤100∧wr.heap[k]?=some (au ((b.dep ((n:Int)-1)).open (ae pm lm cm) (ae pn ln cn) (ae pk lk ck) (ae (some ⟨gv,0,none⟩) all.length cv)) 122 (0,0))∧gJ wr w.heap.size (ae (some ⟨gv,0,none⟩) all.length cv) all∧az w.heap.size w wr∧oA b all (bG pl) 100=oA b all (bG pl) n) (fun _ wr=>(intOf ((wr.cell? ⟨k,1,none⟩).getD undef)+1).toNat)
  case atStart=>
   refine⟨100,by omega,cP _ FX.out,LB.out.at_ fun g hg=>bj _ _ _ _ ?_,EZ.out.setCell (p:=⟨k,1,none⟩) (by show _≤k;omega) _,rfl⟩;have:g=gv:=by simpa [iY] using hg.symm
   subst this;exact Xr
  case round=>
   obtain⟨n,hn,VJ,iU,rz,Ky⟩:=hrel;have z1:=aH VJ 1 _ rfl;have f1:=cN VJ 1;have xu:=(ak.1 VJ).1
   by_cases h0:0<n
   ·obtain⟨m,rfl⟩:∃m,n=m+1:=⟨n-1,by omega⟩
    have hd:(b.dep (((m+1:Nat):Int)-1))=b.dep m:=by congr 1;omega
    have hz:(((m+1:Nat):Int)-1)=m:=by omega
    rw[hz] at VJ z1;have z2:wr.cell? ⟨k,1,none⟩=some (ah ag m):=z1;clear z1 hz hd;have hSu:=fun W (hb:az wr.heap.size wr W)=>wZ (b.dep m) (BB.ZQ cS (by omega) (by omega)) (ae pm lm cm) (ae pn ln cn) (ae pk lk ck) (ae (some ⟨gv,0,none⟩) all.length cv) all Ra.out (bG pl) Qh W ((iU.reads (by omega)).below hb);have HSu:=ai hSu
    have FW:Hid (∀w9,az wr.heap.size wr w9→w9.heap[k]?=some (au ((b.dep m).open (ae pm lm cm) (ae pn ln cn) (ae pk lk ck) (ae (some ⟨gv,0,none⟩) all.length cv)) 122 (0,0))∧Reads w9 (ae pZ pl.length qj) pl.length (pl.map (aD ag))):=ai fun w9 MW=>
     ⟨(MW.block _ xu).trans VJ,Jp.out.below (rz.trans (MW.mono rz.size))⟩
    have hdp:oA b all (bG pl) (m+1)=if (b.dep m).sure all (bG pl) then some m else oA b all (bG pl) m:=rfl
    rw[hdp] at Ky;have HDe:=ai Ky;have HOr:=ai iU;have HKr:=ai VJ;have HBr:=ai rz;clear hSu Ky hdp iU VJ rz;obtain⟨r,hr⟩:∃r,(b.dep m).sure all (bG pl)=r:=⟨_,rfl⟩
    rw[hr] at HSu HDe;clear hr;go_wp2
    refine bQ (by kernel_rfl) [
    pV (aO ((b.dep m).open (ae pm lm cm) (ae pn ln cn) (ae pk lk ck) (ae (some ⟨gv,0,none⟩) all.length cv))),
     pV (ae pZ pl.length qj),
     pV (ah ag (bG pl)),
     pV (.bool r)]
     (fun w9=>az wr.heap.size wr w9) [(1,ae pZ pl.length qj),(7,pv k 0)] (by kernel_rfl) ?rst (fun w1 w2 h hb=>h.trans (hb.mono h.size)) ((aw _ _).drew) ⟨rfl,rfl,trivial⟩ ?reach ?rfin
    case rst=>
     refine⟨sV,sV,sV,sV,trivial⟩
    case reach=>
     refine⟨?_,?_,?_,?_,trivial⟩<;>rintro ev w1 hS hc hg hf ⟨b1,b7,-⟩ hd
     ·clear hd;have q:=FW.out w1 hS;refine Lag.Yields.yR 122 _ rfl k b7 122 _ (0,0) _ q.1 Tryz.underlying122 rfl (by kernel_rfl) ⟨rfl,.inl (aw _ _)⟩
     ·clear hd;exact tV
     ·have d1:ev (aK 35)=_:=hd.1 rfl;clear hd;have q:=FW.out w1 hS;refine yq (args:=#[ae pZ pl.length qj]) (kV pl WL.out _ _ q.2) ?_ fun _=>rfl;go_simp
     ·have d0:ev (aK 34)=_:=hd.1 rfl;have d2:ev (aK 36)=_:=hd.2.1 rfl;clear hd;refine yc (HSu.out w1 hS) ?_ fun _=>rfl;go_simp
    case rfin=>
     intro a3 w3 hR;have hS:=hR.s;have e3:a3.tmps.getD 37 undef=_:=hR.val 3 (by decide);have ha:=hR.lits 42 rfl;simp only[List.range,bT,List.map] at ha;rw[hR.kp 0 (by kernel_rfl),hR.kp 1 (by kernel_rfl),hR.kp 2 (by kernel_rfl),hR.kp 3 (by kernel_rfl),hR.kp 7 (by kernel_rfl),hR.kp 8 (by kernel_rfl),hR.kp 9 (by kernel_rfl),hR.kp 10 (by kernel_rfl),hR.kp 11 (by kernel_rfl),hR.kp 12 (by kernel_rfl),hR.kp 13 (by kernel_rfl),hR.kp 14 (by kernel_rfl),hR.kp 15 (by kernel_rfl),hR.kp 16 (by kernel_rfl),hR.kp 17 (by kernel_rfl),hR.kp 18 (by kernel_rfl),hR.kp 19 (by kernel_rfl),hR.kp 20 (by kernel_rfl)] at ha;simp only[ku,fT,fS] at ha;clear hR;rw[e3] at ha;generalize a3.tmps.getD=zz at ha;have o9:=ai hS;clear e3 hS;subst ha;have q1:=(o9.out.block _ xu).trans HKr.out;have x1:w3.cell? ⟨k,1,none⟩=some (ah ag m):=aH q1 1 _ rfl;have x2:=cN q1 1;have HQ:=ai q1;clear q1;cases r
     ·have zz:IntKind.i64.wrap ((m:Int)-1)=(m:Int)-1:=by rw[IntKind.wrap_i64];omega
      go_wp2;have q2:=cP (i:=1) (ah ag ((m:Int)-1)) HQ.out;have x3:=aH q2 1 (ah ag ((m:Int)-1)) rfl;refine⟨⟨m,by omega,q2,(HOr.out.old (Old.of_below o9.out)).at_ fun g hg=>bj _ _ _ _ ?_,(HBr.out.trans (o9.out.mono HBr.out.size)).setCell (p:=⟨k,1,none⟩) (by show _≤k;omega) _,by rw[HDe.out];simp⟩,?_⟩
      ·have:g=gv:=by simpa [iY] using hg.symm
       subst this;exact Xr
      ·rw[x3,z2];simp[intOf]
     ·go_wp2
      go_ret3
      exact⟨by rw[HDe.out];rfl,HBr.out.trans (o9.out.mono HBr.out.size)⟩
   ·obtain rfl:n=0:=by omega
    have hz:(((0:Nat):Int)-1) = -1:=by omega
    rw[hz] at VJ z1;have z2:wr.cell? ⟨k,1,none⟩=some (ah ag (-1)):=z1;have HDe:=ai Ky;have HBr:=ai rz;clear VJ z1 Ky rz iU hz;go_wp2
    go_ret3
    exact⟨by rw[HDe.out];rfl,HBr.out⟩
end Go.Proofs.YtffladgmkiimjaaGreatDoor
