/- LONE WALKS: checkMen (146) of the reference. LONE WALKS: Great (18), the reference's CheckBook (72), Fit (29). LONE WALKS: Great (18), Fit (29) of a b .. -/
import Derived.Test.YtffladgmkiimjaaGreatDoorW12
import Derived.Test.YtffladgmkiimjaaGreatDoorW02
import Derived.Test.YtffladgmkiimjaaGreatDoorW01
set_option linter.unusedVariables false
set_option linter.unusedSimpArgs false
set_option maxHeartbeats 100000000
set_option maxRecDepth 1000000
open Array renaming replicate → aU,getElem?_eq_some_iff → aj,replicate_zero → ki,replicate_succ → kj
open Classical renaming byContradiction → fM
open Go renaming undef → af,Value → ak,World → ar,Calls → bp,bodyPost_ret → bw,results_tmp → cD,wp_cond_split → dB,Addr → dc,bodyPost → eU,wp_ret → iW,wp_skip → j7,wp_seq → kh,calls_of_wp → oy
open Go.Code renaming wp → dH
open Go.Ending renaming returned → aG,returned → aO
open Go.Exit renaming ret → fC
open Go.IntKind renaming i64 → ag,wrap_i64 → gU
open Go.Lib renaming hid → ai
open Go.Obj renaming cells → au
open Go.Operand renaming tmp → aB
open Go.Proofs.Tryz renaming underlying28 → aT,prog → aq
open Go.RowKit renaming Below → aC
open Go.RowKit.Below renaming refl → aw,heap_setCell → bu
open Go.Value renaming pointer → a8,bool → aA,int → aM,agg → aQ,slice → ae,int → ah,tuple → bM,oneCell' → cy,ownBlock → ju
open Go.World renaming alloc_heap_new → ax,size_alloc → ey
open List renaming mem_append → bJ,mem_range → bN,range → bf,append_toArray → iG,cons_append → iM,length_cons → jB,size_toArray → jI,push_toArray → jJ,nil_append → kx,getElem_of_mem → lz,length_nil → oC
open List.range renaming loop → bR
open Nat renaming le_refl → ay,lt_of_lt_of_le → bE,reduceEqDiff → eQ
open Option.some renaming inj → bt
open Or renaming inl → bI
namespace Go.Proofs.YtffladgmkiimjaaGreatDoor
open Go.RowKit Go.Lag
def pq(l:List Mn)(i:Nat):Mn:=l.getD i ⟨⟨#[]⟩,0,0⟩
theorem yD(l:List Mn)(i:Nat)(h:i<l.length):pq l i=l[i]:=by simp[pq,h]
def wZ(ml:List Mn)(g off:Nat)(W:ar):Prop:=g<W.heap.size∧∀i,i<ml.length→W.cell? ⟨g,off+i*3,none⟩=some (.string (pq ml i).name)∧W.cell? ⟨g,off+i*3+1,none⟩=some (ah ag (pq ml i).lo)∧W.cell? ⟨g,off+i*3+2,none⟩=some (ah ag (pq ml i).hi)
theorem wZ.below{ml:List Mn}{g off:Nat}{W W':ar}(h:wZ ml g off W)(ho:aC W.heap.size W W'):wZ ml g off W':=
 ⟨bE h.1 ho.size,fun i hi=>⟨(ho.cell (p:=⟨g,off+i*3,none⟩) h.1).trans (h.2 i hi).1,(ho.cell (p:=⟨g,off+i*3+1,none⟩) h.1).trans (h.2 i hi).2.1,(ho.cell (p:=⟨g,off+i*3+2,none⟩) h.1).trans (h.2 i hi).2.2⟩⟩
theorem Reads.men{w:ar}{p:Option dc}{n c:Nat}{ml:List Mn}(h:Reads w (ae p n c) n (gu ml))(k:Nat)(hk:k<ml.length) : ∃g off,p=some ⟨g,off,none⟩∧wZ ml g off w:=by
 rcases h with⟨_,_,h⟩|⟨g,off,cap,h,_,hg,hc⟩
 ·have:=congrArg List.length h;rw[vM] at this;simp at this;omega
 ·cases h;refine⟨g,off,rfl,hg,fun i hi=>?_⟩;rw[yD ml i hi];exact CG hc i hi
def Dd(a b:ByteArray):Bool:=a.toList==b.toList
theorem Ob{a b:ByteArray}:Dd a b=true↔a=b:=by
 unfold Dd;constructor
 ·intro h
  by_cases e:a=b
  ·exact e
  ·exact absurd (by simpa using h) (KG e)
 ·rintro rfl;simp
def twice(l:List Mn)(i:Nat):Bool:=(bf i).any fun j=>Dd (pq l j).name (pq l i).name
theorem FQ{l:List Mn}{i:Nat}(j:Nat)(hj:j<i)(h:Dd (pq l j).name (pq l i).name=true):twice l i=true:=by
 unfold twice;rw[List.any_eq_true];exact⟨j,bN.2 hj,h⟩
theorem P7{l:List Mn}{i:Nat}(h : ∀j,j<i→Dd (pq l j).name (pq l i).name=false):twice l i=false:=by
 unfold twice;rw[List.any_eq_false];intro j hj;rw[h j (bN.1 hj)];simp
def ql(m:Mn):Bool:=(!(bZ m.lo m.hi 1 99))||decide (m.hi - m.lo≥3)
def nt(l:List Mn)(i:Nat):Int:=if (!(jw (pq l i).name))=true then 4 else if twice l i=true then 5 else if ql (pq l i)=true then 1 else 0
def m7(l:List Mn):Int:=if (l.length:Int)>3 then 2 else(((bf l.length).map (nt l)).find? fun h=>h !=0).getD 0
theorem N2{lo hi:Int}(h:bZ lo hi 1 99=true):IntKind.i64.wrap (hi - lo)=hi - lo:=by
 unfold bZ at h;simp at h;rw[gU];omega
theorem DJ{l:List Mn}{i:Nat}(h:nt l i=0):jw (pq l i).name=true∧twice l i=false∧ql (pq l i)=false:=by
 unfold nt at h;cases h1:jw (pq l i).name<;>cases h2:twice l i<;>cases h3:ql (pq l i)<;>simp_all
theorem QY{l:List Mn}(h:m7 l=0):wY l:=by
 unfold m7 at h
 have h3:(l.length:Int)≤3:=by
  refine Int.not_lt.1 fun h'=>?_;rw[if_pos h'] at h;cases h
 rw[if_neg (by omega)] at h
 have hz : ∀i,i<l.length→nt l i=0:=by
  intro i hi;refine fM fun hne=>?_
  have hs:((bf l.length).map (nt l)).find? (fun h=>h !=0)≠none:=by
   rw[Ne,List.find?_eq_none];intro hall;exact hall _ (List.mem_map.2 ⟨i,bN.2 hi,rfl⟩) (by simpa using hne)
  cases e:((bf l.length).map (nt l)).find? (fun h=>h !=0) with
  |none=>exact hs e
  |some x=>
   rw[e] at h;have:=List.find?_some e;simp at h this;exact this h
 refine⟨fun m hm=>?_,fun i k hi hk hik he=>?_,by omega⟩
 ·obtain⟨i,hi,rfl⟩:=lz hm;obtain⟨h1,-,h2⟩:=DJ (hz i hi);rw[yD l i hi] at h1 h2;unfold ql bZ at h2;simp at h2;exact⟨LO h1,by omega,by omega,by omega,by omega⟩
 ·obtain⟨-,h2,-⟩:=DJ (hz k hk);have:=FQ (l:=l) i hik (Ob.2 (by rw[yD l i hi,yD l k hk];exact he));rw[this] at h2;cases h2
theorem Hl{l:List Mn}(i:Nat)(h3 : ¬(l.length:Int)>3)(hi:i<l.length)(hpre : ∀k,k<i→nt l k=0)(h:nt l i≠0):m7 l=nt l i:=by
 unfold m7;rw[if_neg h3,yT _ _ i hi hpre h];rfl
theorem OD{l:List Mn}(h3 : ¬(l.length:Int)>3)(hpre : ∀k,k<l.length→nt l k=0):m7 l=0:=by
 unfold m7;rw[if_neg h3,sB _ _ hpre];rfl
theorem Iq(b:BB)(sent marks:ak)(p1:Option dc)(c1:Nat)(ml:List Mn)(hlen:ml.length≤1000000)(w:ar)(hv:Reads w (ae p1 ml.length c1) ml.length (gu ml)):bp aq 146 #[aQ (b.cells (ae p1 ml.length c1) sent marks)] w fun e w'=>e=aG (ah ag (m7 ml))∧aC w.heap.size w w':=by
 refine oy Tryz.func146 rfl ?_;have hF:=l9 (args:=#[aQ (b.cells (ae p1 ml.length c1) sent marks)]) (n:=54) (by simp) [(0,aQ (b.cells (ae p1 ml.length c1) sent marks))] ⟨oX rfl,trivial⟩;rw[show Tryz.f146.ntmps=54 from rfl];generalize (⟨#[aQ (b.cells (ae p1 ml.length c1) sent marks)] ++ aU (54 - (#[aQ (b.cells (ae p1 ml.length c1) sent marks)]:Array ak).size) af,[]⟩:Act)=a at *;refine(fun h : ∀W,aC w.heap.size w W→dH aq _ _ a W=>h w (aw _ _)) ?_;intro W HB;have HC:Hid (∀k,k<ml.length→∃g off,p1=some ⟨g,off,none⟩∧wZ ml g off w):=ai fun k hk=>hv.men k hk;clear hv
 refine cV [fun v ds w9=>∃B,v=pv B 0∧w9.heap[B]?=some (au (b.cells (ae p1 ml.length c1) sent marks) 28 (0,0)),pV (ah ag 0)]
  _ (by kernel_rfl) hF.size hF.base ?_ ?_ ?_
 ·refine⟨?_,sV,trivial⟩
  ·rintro v ds w1 w2 hS ⟨B,h1,h2⟩ hb;exact⟨B,h1,aK h2 hb⟩
 ·refine⟨?_,?_,trivial⟩<;>rintro ev w1 hS hc hg hf ⟨b0,-⟩ hd
  ·clear hd;refine Lag.Yields.value (v:=pv w1.heap.size 0) (w':=w1.alloc (au (b.cells (ae p1 ml.length c1) sent marks) 28)) ?_ ⟨⟨_,rfl,ax _ _⟩,bI ((aw _ _).alloc (ay _) _)⟩;go_simp
  ·clear hd;refine yv ?_ rfl;go_simp
 intro a W hR;have ho:=hR.s;obtain⟨B1,e1,K1⟩:=hR.val 0 (by decide);replace e1:a.eval (aB 1)=a8 (some ⟨B1,0,none⟩):=e1;replace HB:=HB.tr ho;replace hF:=((hR.fr hF (by kernel_rfl)).cons (t:=1) e1).cons (t:=2) (hR.val 1 (by decide));clear hR ho e1;refine kh ?_
 refine cV [pV (a8 (some ⟨B1,12,none⟩)),pV (ae p1 ml.length c1),pV (ah ag ml.length),pV (aA (decide ((ml.length:Int)>3)))]
  _ (by kernel_rfl) hF.size hF.base ?_ ?_ ?_
 ·exact⟨sV,sV,sV,sV,trivial⟩
 ·refine⟨?_,?_,?_,?_,trivial⟩<;>rintro ev w1 hS hc hg hf ⟨-,b1,-,-⟩ hd
  all_goals try
   try have d0:ev (aB _)=_:=hd.1 rfl
   clear hd;refine yw rfl ?_ rfl;go_simp;done
  ·have d0:ev (aB 6)=_:=hd.1 rfl;clear hd;have z:=aH (aK K1 hS) 12 _ rfl;refine yv ?_ rfl;go_simp
 intro a W hR;have ho:=hR.s;replace HB:=HB.tr ho;replace K1:=aK K1 ho;replace hF:=(hR.fr hF (by kernel_rfl)).cons (t:=9) (hR.val 3 (by decide));clear hR ho;refine dB (t:=(decide ((ml.length:Int)>3))) (hF.g 0 rfl) (fun Uh=>?_) (fun Uh=>?_)
 ·skip
  replace hF:=hF.tl;have hres:m7 ml=2:=by unfold m7;rw[if_pos (by simpa using Uh)]
  replace hF:=hF.tl
  refine cV [pV (ah ag 2)]
   _ (by kernel_rfl) hF.size hF.base ?_ ?_ ?_
  ·exact⟨sV,trivial⟩
  ·refine⟨?_,trivial⟩<;>rintro ev w1 hS hc hg hf hb hd
   ·clear hd;refine yv ?_ rfl;go_simp
  intro a W hR;have ho:=hR.s;replace HB:=HB.tr ho;replace K1:=aK K1 ho;replace hF:=(hR.fr hF (by kernel_rfl)).cons (t:=2) (hR.val 0 (by decide));clear hR ho;refine iW ?_;show eU aq Tryz.f146 (fun e w'=>e=aO (ah ag (m7 ml))∧aC w.heap.size w w') fC a W;exact bw (cD rfl _ _ _) hF.defers ⟨congrArg aO (((hF.g 0 rfl):a.eval (aB 2)=ah ag 2).trans (congrArg _ hres.symm)),HB⟩
 ·skip
  replace hF:=hF.tl;have h3 : ¬(ml.length:Int)>3:=by simpa using Uh
  refine j7 ?_;show dH aq _ _ _ _;refine kh ?_
  refine cV [pV (ah ag 0)]
   _ (by kernel_rfl) hF.size hF.base ?_ ?_ ?_
  ·exact⟨sV,trivial⟩
  ·refine⟨?_,trivial⟩<;>rintro ev w1 hS hc hg hf hb hd
   ·clear hd;refine yv ?_ rfl;go_simp
  intro a W hR;have ho:=hR.s;replace HB:=HB.tr ho;replace K1:=aK K1 ho;replace hF:=(hR.fr hF (by kernel_rfl)).cons (t:=3) (hR.val 0 (by decide));clear hR ho;refine wp_block ?_;refine wp_loop (fun a W=>∃k:Nat,k≤ml.length∧(∀i,i<k→nt ml i=0)∧BU 54 a [(3,ah ag (k:Nat)),(1,a8 (some ⟨B1,0,none⟩)),(0,aQ (b.cells (ae p1 ml.length c1) sent marks))]∧aC w.heap.size w W∧W.heap[B1]?=some (au (b.cells (ae p1 ml.length c1) sent marks) 28 (0,0))) (fun a _=>ml.length - (intOf (a.eval (aB 3))).toNat) ⟨0,by omega,fun i hi=>by omega,⟨hF.size,hF.defers,(by obtain⟨b3,-,b1,b0,-⟩:=hF.base;exact⟨b3,b1,b0,trivial⟩)⟩,HB,K1⟩ ?_;clear hF HB K1
  try clear a
  try clear W
  rintro a W ⟨k,tv,oM,hF,HB,K1⟩;have hk3:a.eval (aB 3)=ah ag (k:Nat):=(hF.g 0 rfl)
  refine kh ?_
  refine cV [pV (ah ag (k:Nat)),pV (a8 (some ⟨B1,12,none⟩)),pV (ae p1 ml.length c1),pV (ah ag ml.length),pV (aA (decide ((k:Nat)<ml.length)))]
   _ (by kernel_rfl) hF.size hF.base ?_ ?_ ?_
  ·exact⟨sV,sV,sV,sV,sV,trivial⟩
  ·refine⟨?_,?_,?_,?_,?_,trivial⟩<;>rintro ev w1 hS hc hg hf ⟨b3,b1,-,-⟩ hd
   all_goals try
    try have d0:ev (aB _)=_:=hd.1 rfl
    try have d1:ev (aB _)=_:=hd.2.1 rfl
    clear hd;refine yw rfl ?_ rfl;go_simp;done
   ·have d1:ev (aB 11)=_:=hd.1 rfl;clear hd;have z:=aH (aK K1 hS) 12 _ rfl;refine yv ?_ rfl;go_simp
  intro a W hR;have ho:=hR.s;replace HB:=HB.tr ho;replace K1:=aK K1 ho;replace hF:=(hR.fr hF (by kernel_rfl)).cons (t:=14) (hR.val 4 (by decide));clear hR ho;refine dB (t:=(decide ((k:Nat)<ml.length))) (hF.g 0 rfl) (fun RB=>?_) (fun RB=>?_)
  ·skip
   replace hF:=hF.tl;have xA:k<ml.length:=by simpa using RB
   obtain⟨g,off,rfl,hM⟩:=HC.out k xA;have CM:=hM.below HB;clear hM;obtain⟨m,hm⟩ : ∃m,pq ml k=m:=⟨_,rfl⟩
   have hw1:IntKind.i64.wrap ((k:Int)+1)=(k:Int)+1:=by rw[gU];omega
   refine j7 ?_;show dH aq _ _ _ _;refine kh ?_;refine wp_block ?_
   refine cV [pV (a8 (some ⟨B1,12,none⟩)),pV (ae (some ⟨g,off,none⟩) ml.length c1),pV (ah ag (k:Nat)),pV (a8 (some ⟨g,off+k*3,none⟩)),pV (aQ #[.string m.name,ah ag m.lo,ah ag m.hi]),fun v ds w9=>∃B,∃z:Array ak,v=pv B 0∧w9.heap[B]?=some (au z 79 (0,0))∧z.size=3∧W.heap.size≤B,fun v ds w9=>∃B,ds[0]?=some (pv B 0)∧W.heap.size≤B∧w9.heap[B]?=some (au #[.string m.name,ah ag m.lo,ah ag m.hi] 79 (0,0))]
    _ (by kernel_rfl) hF.size hF.base ?_ ?_ ?_
   ·refine⟨sV,sV,sV,sV,sV,?_,?_,trivial⟩
    ·rintro v ds w1 w2 hS ⟨B,z,h1,h2,h3,h4⟩ hb;exact⟨B,z,h1,aK h2 hb,h3,h4⟩
    ·rintro v ds w1 w2 hS ⟨B,h1,h4,h2⟩ hb;exact⟨B,h1,h4,aK h2 hb⟩
   ·refine⟨?_,?_,?_,?_,?_,?_,?_,trivial⟩<;>rintro ev w1 hS hc hg hf ⟨b3,b1,-,-⟩ hd
    all_goals try
     clear hd;refine yw rfl ?_ rfl;go_simp;done
    ·have d0:ev (aB 17)=_:=hd.1 rfl;clear hd;have z:=aH (aK K1 hS) 12 _ rfl;refine yv ?_ rfl;go_simp
    ·have d1:ev (aB 18)=_:=hd.1 rfl;have d2:ev (aB 19)=_:=hd.2.1 rfl;clear hd;have KZ : ¬(ml.length≤k):=by omega
     refine yv ?_ rfl;go_simp
    ·have d3:ev (aB 20)=_:=hd.1 rfl;clear hd;obtain⟨z1,z2,z3⟩:=(wZ.below CM hS).2 k (by omega);rw[hm] at z1 z2 z3;refine yv ?_ rfl;go_simp
    ·clear hd;refine Lag.Yields.value (v:=pv w1.heap.size 0) (w':=w1.alloc (au #[.string ⟨#[]⟩,ah ag 0,ah ag 0] 79)) ?_ ⟨⟨_,_,rfl,ax _ _,rfl,hS.size⟩,bI ((aw _ _).alloc (ay _) _)⟩;go_simp
    ·have d5 : ∃B,∃z:Array ak,(ev (aB 4))=pv B 0∧w1.heap[B]?=some (au z 79 (0,0))∧z.size=3∧W.heap.size≤B:=hd.1 rfl;have d4:ev (aB 21)=_:=hd.2.1 rfl;clear hd;obtain⟨B,z,eB,hB,hz,hge⟩:=d5;refine Lag.Yields.lR 79 _ _ rfl B #[.string m.name,ah ag m.lo,ah ag m.hi] eB d4 79 z hB (by kernel_rfl) hz (by simp[cy]) ⟨⟨B,congrArg some eB,hge,cM hB⟩,.inr ⟨dJ hS hge,?_⟩⟩;intro j u ds hj hp
     match j,hp with
     |0,hp=>exact hp
     |1,hp=>exact hp
     |2,hp=>exact hp
     |3,hp=>exact hp
     |4,hp=>exact hp
     |5,⟨B',z',h1,h2,h3,h4⟩=>
      by_cases D6:B'=B
      ·subst D6;rw[hB] at h2;cases h2;exact⟨B',_,h1,cM hB,hz.symm.trans h3,h4⟩
      ·exact⟨B',z',h1,(setRow_other D6).trans h2,h3,h4⟩
     |6,_=>exact(hj rfl).elim
     |j+7,_=>trivial
   intro a W hR;have ho:=hR.s;obtain⟨B4,q4,-,K4⟩:=hR.val 6 (by decide);have e4:a.eval (aB 4)=a8 (some ⟨B4,0,none⟩):=bt q4;clear q4;replace HB:=HB.tr ho;replace K1:=aK K1 ho;replace CM:=CM.below ho;replace hF:=(hR.fr hF (by kernel_rfl)).cons (t:=4) e4;clear hR ho e4;refine kh ?_
   refine cV [pV (a8 (some ⟨B4,0,none⟩)),pV (.string m.name),pV (aA (jw m.name)),pV (aA (!(jw m.name)))]
    _ (by kernel_rfl) hF.size hF.base ?_ ?_ ?_
   ·exact⟨sV,sV,sV,sV,trivial⟩
   ·refine⟨?_,?_,?_,?_,trivial⟩<;>rintro ev w1 hS hc hg hf ⟨b4,-,-,-,-⟩ hd
    all_goals try
     try have d0:ev (aB _)=_:=hd.1 rfl
     clear hd;refine yw rfl ?_ rfl;go_simp;done
    ·have d0:ev (aB 22)=_:=hd.1 rfl;clear hd;have z:=aH (aK K4 hS) 0 _ rfl;refine yv ?_ rfl;go_simp
    ·have d1:ev (aB 23)=_:=hd.1 rfl;clear hd;refine yc (OM m.name w1) ?_ (fun _=>rfl);go_simp
   intro a W hR;have ho:=hR.s;replace HB:=HB.tr ho;replace K1:=aK K1 ho;replace CM:=CM.below ho;replace K4:=aK K4 ho;replace hF:=(hR.fr hF (by kernel_rfl)).cons (t:=25) (hR.val 3 (by decide));clear hR ho;refine dB (t:=(!(jw m.name))) (hF.g 0 rfl) (fun Xv=>?_) (fun Xv=>?_)
   ·skip
    replace hF:=hF.tl;have h4:nt ml k=4:=by unfold nt;rw[hm,if_pos Xv]
    have hres:m7 ml=4:=(Hl k h3 xA oM (by rw[h4];decide)).trans h4
    refine cV [pV (ah ag 4)]
     _ (by kernel_rfl) hF.size hF.base ?_ ?_ ?_
    ·exact⟨sV,trivial⟩
    ·refine⟨?_,trivial⟩<;>rintro ev w1 hS hc hg hf hb hd
     ·clear hd;refine yv ?_ rfl;go_simp
    intro a W hR;have ho:=hR.s;replace HB:=HB.tr ho;replace K1:=aK K1 ho;replace CM:=CM.below ho;replace K4:=aK K4 ho;replace hF:=(hR.fr hF (by kernel_rfl)).cons (t:=2) (hR.val 0 (by decide));clear hR ho;refine iW ?_;show eU aq Tryz.f146 (fun e w'=>e=aO (ah ag (m7 ml))∧aC w.heap.size w w') fC a W;exact bw (cD rfl _ _ _) hF.defers ⟨congrArg aO (((hF.g 0 rfl):a.eval (aB 2)=ah ag 4).trans (congrArg _ hres.symm)),HB⟩
   ·skip
    replace hF:=hF.tl;have OW:(!(jw m.name))≠true:=by rw[Xv];simp
    refine j7 ?_;show dH aq _ _ _ _;refine kh ?_
    refine cV [pV (ah ag 0)]
     _ (by kernel_rfl) hF.size hF.base ?_ ?_ ?_
    ·exact⟨sV,trivial⟩
    ·refine⟨?_,trivial⟩<;>rintro ev w1 hS hc hg hf hb hd
     ·clear hd;refine yv ?_ rfl;go_simp
    intro a W hR;have ho:=hR.s;replace HB:=HB.tr ho;replace K1:=aK K1 ho;replace CM:=CM.below ho;replace K4:=aK K4 ho;replace hF:=(hR.fr hF (by kernel_rfl)).cons (t:=5) (hR.val 0 (by decide));clear hR ho;refine wp_block ?_;refine wp_loop (fun a W=>∃j:Nat,j≤k∧(∀i,i<j→Dd (pq ml i).name m.name=false)∧BU 54 a [(5,ah ag (j:Nat)),(4,a8 (some ⟨B4,0,none⟩)),(3,ah ag (k:Nat)),(1,a8 (some ⟨B1,0,none⟩)),(0,aQ (b.cells (ae (some ⟨g,off,none⟩) ml.length c1) sent marks))]∧aC w.heap.size w W∧W.heap[B1]?=some (au (b.cells (ae (some ⟨g,off,none⟩) ml.length c1) sent marks) 28 (0,0))∧wZ ml g off W∧W.heap[B4]?=some (au #[.string m.name,ah ag m.lo,ah ag m.hi] 79 (0,0))) (fun a _=>k - (intOf (a.eval (aB 5))).toNat) ⟨0,by omega,fun i hi=>by omega,⟨hF.size,hF.defers,hF.base⟩,HB,K1,CM,K4⟩ ?_;clear hF HB K1 CM K4
    try clear a
    try clear W
    rintro a W ⟨j,hkj,Vg,hF,HB,K1,CM,K4⟩;have hk5:a.eval (aB 5)=ah ag (j:Nat):=(hF.g 0 rfl)
    refine kh ?_
    refine cV [pV (ah ag (j:Nat)),pV (ah ag (k:Nat)),pV (aA (decide ((j:Nat)<(k:Nat))))]
     _ (by kernel_rfl) hF.size hF.base ?_ ?_ ?_
    ·exact⟨sV,sV,sV,trivial⟩
    ·refine⟨?_,?_,?_,trivial⟩<;>rintro ev w1 hS hc hg hf ⟨b5,-,b3,-,-,-⟩ hd
     all_goals try
      try have d0:ev (aB _)=_:=hd.1 rfl
      try have d1:ev (aB _)=_:=hd.2.1 rfl
      clear hd;refine yw rfl ?_ rfl;go_simp;done
    intro a W hR;have ho:=hR.s;replace HB:=HB.tr ho;replace K1:=aK K1 ho;replace CM:=CM.below ho;replace K4:=aK K4 ho;replace hF:=(hR.fr hF (by kernel_rfl)).cons (t:=28) (hR.val 2 (by decide));clear hR ho;refine dB (t:=(decide ((j:Nat)<(k:Nat)))) (hF.g 0 rfl) (fun Xt=>?_) (fun Xt=>?_)
    ·skip
     replace hF:=hF.tl;have adt:j<k:=by simpa using Xt
     have hw2:IntKind.i64.wrap ((j:Int)+1)=(j:Int)+1:=by rw[gU];omega
     refine j7 ?_;show dH aq _ _ _ _;refine kh ?_;refine wp_block ?_
     refine Gn (by kernel_rfl) [pV (a8 (some ⟨B1,12,none⟩)),pV (ae (some ⟨g,off,none⟩) ml.length c1),pV (ah ag (j:Nat)),pV (a8 (some ⟨g,off+j*3,none⟩)),pV (a8 (some ⟨g,off+j*3,none⟩)),pV (.string (pq ml j).name),pV (a8 (some ⟨B4,0,none⟩)),pV (.string m.name),pV (aA (((pq ml j).name).toList==m.name.toList))]
      _ (by kernel_rfl) hF.size hF.base ?_ ?_ ?_
     ·exact⟨sV,sV,sV,sV,sV,sV,sV,sV,sV,trivial⟩
     ·refine⟨?_,?_,?_,?_,?_,?_,?_,?_,?_,trivial⟩<;>rintro ev w1 hS hc hg hf ⟨b5,b4,-,b1,-,-⟩ hd
      all_goals try
       try have d0:ev (aB _)=_:=hd.1 rfl
       try have d1:ev (aB _)=_:=hd.2.1 rfl
       clear hd;refine yw rfl ?_ rfl;go_simp;done
      ·have d0:ev (aB 31)=_:=hd.1 rfl;clear hd;have z:=aH (aK K1 hS) 12 _ rfl;refine yv ?_ rfl;go_simp
      ·have d1:ev (aB 32)=_:=hd.1 rfl;have d2:ev (aB 33)=_:=hd.2.1 rfl;clear hd;have KZ : ¬(ml.length≤j):=by omega
       refine yv ?_ rfl;go_simp
      ·have d4:ev (aB 35)=_:=hd.1 rfl;clear hd;obtain⟨z1,z2,z3⟩:=(wZ.below CM hS).2 j (by omega);refine yv ?_ rfl;go_simp
      ·have d6:ev (aB 37)=_:=hd.1 rfl;clear hd;have z:=aH (aK K4 hS) 0 _ rfl;refine yv ?_ rfl;go_simp
     intro a W hR;have ho:=hR.s;replace HB:=HB.tr ho;replace K1:=aK K1 ho;replace CM:=CM.below ho;replace K4:=aK K4 ho;replace hF:=(hR.fr hF (by kernel_rfl)).cons (t:=39) (hR.val 8 (by decide));clear hR ho;refine dB (t:=(((pq ml j).name).toList==m.name.toList)) (hF.g 0 rfl) (fun Xp=>?_) (fun Xp=>?_)
     ·skip
      replace hF:=hF.tl;have h5:nt ml k=5:=by unfold nt;rw[hm,if_neg OW,if_pos (FQ j adt (by rw[hm];exact Xp))]
      have hres:m7 ml=5:=(Hl k h3 xA oM (by rw[h5];decide)).trans h5
      refine cV [pV (ah ag 5)]
       _ (by kernel_rfl) hF.size hF.base ?_ ?_ ?_
      ·exact⟨sV,trivial⟩
      ·refine⟨?_,trivial⟩<;>rintro ev w1 hS hc hg hf hb hd
       ·clear hd;refine yv ?_ rfl;go_simp
      intro a W hR;have ho:=hR.s;replace HB:=HB.tr ho;replace K1:=aK K1 ho;replace CM:=CM.below ho;replace K4:=aK K4 ho;replace hF:=(hR.fr hF (by kernel_rfl)).cons (t:=2) (hR.val 0 (by decide));clear hR ho;refine iW ?_;show eU aq Tryz.f146 (fun e w'=>e=aO (ah ag (m7 ml))∧aC w.heap.size w w') fC a W;exact bw (cD rfl _ _ _) hF.defers ⟨congrArg aO (((hF.g 0 rfl):a.eval (aB 2)=ah ag 5).trans (congrArg _ hres.symm)),HB⟩
     ·skip
      replace hF:=hF.tl;have hz:Dd (pq ml j).name m.name=false:=Xp;refine j7 ?_;show dH aq _ _ _ _;have Gi:=hF;replace hF:=hF.tl
      refine kD [pV (ah ag (j:Nat)),pV (ah ag ((j:Nat)+1)),pV (ah ag ((j:Nat)+1))]
       _ [(2,5,ah ag (j:Nat))] (by kernel_rfl) hF.size hF.base ⟨⟨rfl,(Gi.g 0 rfl)⟩,trivial⟩ ?_ ?_ ?_
      ·exact⟨Ph.sV,Ph.sV,Ph.sV,trivial⟩
      ·refine⟨?_,?_,?_,trivial⟩<;>rintro Lf ev w1 hn tU hS hc hg hf ⟨-,-,-,-,OX,-⟩ hd
       all_goals try
        try have d0:ev (aB _)=_:=hd.1 rfl
        clear hd;refine Ph.yv ?_ rfl;go_simp;done
       ·have b5:=OX (hn 2 (by kernel_rfl));clear hd;refine Ph.yv ?_ rfl;go_simp
      intro a W hR;have ho:=hR.s;replace HB:=HB.tr ho;replace K1:=aK K1 ho;replace CM:=CM.below ho;replace K4:=aK K4 ho;replace hF:=(hR.fr hF (by kernel_rfl)).cons (t:=5) (hR.val 2 (by decide));clear Gi;clear hR ho;refine⟨⟨j+1,by omega,fun i hi=>if hik:i<j then Vg i hik else by have e:i=j:=(by omega);rw[e];exact hz,⟨hF.size,hF.defers,hF.base⟩,HB,K1,CM,K4⟩,?_⟩;rw[show a.eval (aB 5)=ah ag ((j:Nat)+1) from(hF.g 0 rfl)];simp only[hk5];simp[intOf];omega
    ·skip
     replace hF:=hF.tl;refine wp_exit ?_;have afX:j=k:=by simp at Xt;omega
     have htw:twice ml k=false:=P7 fun i hi=>by rw[hm];exact Vg i (by omega)
     show dH aq _ _ a W;show dH aq _ _ _ _
     refine cV [pV (a8 (some ⟨B4,1,none⟩)),pV (aQ #[ah ag m.lo,ah ag m.hi]),pV (aA (bZ m.lo m.hi 1 99)),pV (aA (!(bZ m.lo m.hi 1 99))),pV (aA (!(bZ m.lo m.hi 1 99))),pC (!(!(bZ m.lo m.hi 1 99))) (a8 (some ⟨B4,1,none⟩)),pC (!(!(bZ m.lo m.hi 1 99))) (a8 (some ⟨B4,2,none⟩)),pC (!(!(bZ m.lo m.hi 1 99))) (ah ag m.hi),pC (!(!(bZ m.lo m.hi 1 99))) (a8 (some ⟨B4,1,none⟩)),pC (!(!(bZ m.lo m.hi 1 99))) (a8 (some ⟨B4,1,none⟩)),pC (!(!(bZ m.lo m.hi 1 99))) (ah ag m.lo),pC (!(!(bZ m.lo m.hi 1 99))) (ah ag (m.hi - m.lo)),pC (!(!(bZ m.lo m.hi 1 99))) (aA (decide ((m.hi - m.lo)≥3))),pV (aA ((!(bZ m.lo m.hi 1 99))||(decide ((m.hi - m.lo)≥3))))]
      _ (by kernel_rfl) hF.size hF.base ?_ ?_ ?_
     ·exact⟨sV,sV,sV,sV,sV,sC,sC,sC,sC,sC,sC,sC,sC,sV,trivial⟩
     ·refine⟨?_,?_,?_,?_,?_,?_,?_,?_,?_,?_,?_,?_,?_,?_,trivial⟩<;>rintro ev w1 hS hc hg hf ⟨-,b4,-,-,-,-⟩ hd
      all_goals try
       try have d0:ev (aB _)=_:=hd.1 rfl
       clear hd;refine yw rfl ?_ rfl;go_simp;done
      all_goals try
       try have d0:ev (aB _)=_:=hd.1 rfl
       try have c0:_→ev (aB _)=_:=hd.1 rfl
       try have d1:ev (aB _)=_:=hd.2.1 rfl
       clear hd
       first|refine gC d0 fo fun hA=>?_|refine gC d1 fo fun hA=>?_
       try replace c0:=c0 hA
       refine yw rfl ?_ (fun _=>rfl);go_simp;done
      ·have d0:ev (aB 40)=_:=hd.1 rfl;clear hd;have z1:=aH (aK K4 hS) 1 _ rfl;have z2:=aH (aK K4 hS) 2 _ rfl;refine yv ?_ rfl;go_simp
      ·have d1:ev (aB 41)=_:=hd.1 rfl;clear hd;refine yc (q7 m.lo m.hi 1 99 w1) ?_ (fun _=>rfl);go_simp
      ·have d6:_→ev (aB 46)=_:=hd.1 rfl;have d4:ev (aB 44)=_:=hd.2.1 rfl;clear hd;refine gC d4 fo fun hA=>?_;have y6:=d6 hA;have z:=aH (aK K4 hS) 2 _ rfl;refine yv ?_ (fun _=>rfl);go_simp
      ·have d9:_→ev (aB 49)=_:=hd.1 rfl;have d4:ev (aB 44)=_:=hd.2.1 rfl;clear hd;refine gC d4 fo fun hA=>?_;have y9:=d9 hA;have z:=aH (aK K4 hS) 1 _ rfl;refine yv ?_ (fun _=>rfl);go_simp
      ·have d7:_→ev (aB 47)=_:=hd.1 rfl;have d10:_→ev (aB 50)=_:=hd.2.1 rfl;have d4:ev (aB 44)=_:=hd.2.2.1 rfl;clear hd;refine gC d4 fo fun hA=>?_;have y7:=d7 hA;have K7:=d10 hA;have hw:=N2 (lo:=m.lo) (hi:=m.hi) (by revert hA;cases bZ m.lo m.hi 1 99<;>simp);refine yv ?_ (fun _=>rfl);go_simp
      ·have d4:ev (aB 44)=_:=hd.1 rfl;have d12:_→ev (aB 52)=_:=hd.2.1 rfl;clear hd;exact yO rfl hc d4 (fun hq=>d12 (by simp[hq])) (rfl)
     intro a W hR;have ho:=hR.s;replace HB:=HB.tr ho;replace K1:=aK K1 ho;replace CM:=CM.below ho;replace K4:=aK K4 ho;replace hF:=(hR.fr hF (by kernel_rfl)).cons (t:=53) (hR.val 13 (by decide));clear hR ho;refine dB (t:=((!(bZ m.lo m.hi 1 99))||(decide ((m.hi - m.lo)≥3)))) (hF.g 0 rfl) (fun Xn=>?_) (fun Xn=>?_)
     ·skip
      replace hF:=hF.tl;have h1:nt ml k=1:=by unfold nt;rw[hm,if_neg OW,if_neg (by rw[htw];simp),if_pos (show ql m=true from Xn)]
      have hres:m7 ml=1:=(Hl k h3 xA oM (by rw[h1];decide)).trans h1
      refine cV [pV (ah ag 1)]
       _ (by kernel_rfl) hF.size hF.base ?_ ?_ ?_
      ·exact⟨sV,trivial⟩
      ·refine⟨?_,trivial⟩<;>rintro ev w1 hS hc hg hf hb hd
       ·clear hd;refine yv ?_ rfl;go_simp
      intro a W hR;have ho:=hR.s;replace HB:=HB.tr ho;replace K1:=aK K1 ho;replace CM:=CM.below ho;replace K4:=aK K4 ho;replace hF:=(hR.fr hF (by kernel_rfl)).cons (t:=2) (hR.val 0 (by decide));clear hR ho;refine iW ?_;show eU aq Tryz.f146 (fun e w'=>e=aO (ah ag (m7 ml))∧aC w.heap.size w w') fC a W;exact bw (cD rfl _ _ _) hF.defers ⟨congrArg aO (((hF.g 0 rfl):a.eval (aB 2)=ah ag 1).trans (congrArg _ hres.symm)),HB⟩
     ·skip
      replace hF:=hF.tl;have hz:nt ml k=0:=by unfold nt;rw[hm,if_neg OW,if_neg (by rw[htw];simp),if_neg (by rw[show ql m=_ from Xn];simp)]
      refine j7 ?_;show dH aq _ _ _ _;have Gi:=hF;replace hF:=hF.del 3;simp only[sF,eQ,reduceIte] at hF
      refine kD [pV (ah ag (k:Nat)),pV (ah ag ((k:Nat)+1)),pV (ah ag ((k:Nat)+1))]
       _ [(2,3,ah ag (k:Nat))] (by kernel_rfl) hF.size hF.base ⟨⟨rfl,(Gi.g 2 rfl)⟩,trivial⟩ ?_ ?_ ?_
      ·exact⟨Ph.sV,Ph.sV,Ph.sV,trivial⟩
      ·refine⟨?_,?_,?_,trivial⟩<;>rintro Lf ev w1 hn tU hS hc hg hf ⟨-,-,-,-,hl3,-⟩ hd
       all_goals try
        try have d0:ev (aB _)=_:=hd.1 rfl
        clear hd;refine Ph.yv ?_ rfl;go_simp;done
       ·have b3:=hl3 (hn 2 (by kernel_rfl));clear hd;refine Ph.yv ?_ rfl;go_simp
      intro a W hR;have ho:=hR.s;replace HB:=HB.tr ho;replace K1:=aK K1 ho;replace CM:=CM.below ho;replace K4:=aK K4 ho;replace hF:=(hR.fr hF (by kernel_rfl)).cons (t:=3) (hR.val 2 (by decide));clear Gi;clear hR ho;refine⟨⟨k+1,by omega,fun i hi=>if hik:i<k then oM i hik else by have e:i=k:=(by omega);rw[e];exact hz,⟨hF.size,hF.defers,(by obtain⟨b3,-,-,b1,b0,-⟩:=hF.base;exact⟨b3,b1,b0,trivial⟩)⟩,HB,K1⟩,?_⟩;rw[show a.eval (aB 3)=ah ag ((k:Nat)+1) from(hF.g 0 rfl)];simp only[hk3];simp[intOf];omega
  ·skip
   replace hF:=hF.tl;refine wp_exit ?_;have Ry:k=ml.length:=by simp at RB;omega
   have hres:m7 ml=0:=OD h3 fun i hi=>oM i (by omega);show dH aq _ _ a W;show dH aq _ _ _ _
   refine cV [pV (ah ag 0)]
    _ (by kernel_rfl) hF.size hF.base ?_ ?_ ?_
   ·exact⟨sV,trivial⟩
   ·refine⟨?_,trivial⟩<;>rintro ev w1 hS hc hg hf hb hd
    ·clear hd;refine yv ?_ rfl;go_simp
   intro a W hR;have ho:=hR.s;replace HB:=HB.tr ho;replace K1:=aK K1 ho;replace hF:=(hR.fr hF (by kernel_rfl)).cons (t:=2) (hR.val 0 (by decide));clear hR ho;refine iW ?_;show eU aq Tryz.f146 (fun e w'=>e=aO (ah ag (m7 ml))∧aC w.heap.size w w') fC a W;exact bw (cD rfl _ _ _) hF.defers ⟨congrArg aO (((hF.g 0 rfl):a.eval (aB 2)=ah ag 0).trans (congrArg _ hres.symm)),HB⟩
def Hk(l:List Mk)(i:Nat):Mk:=l.getD i ⟨0,0,0⟩
theorem JI(l:List Mk)(i:Nat)(h:i<l.length):Hk l i=l[i]:=by simp[Hk,h]
def MO(ms:List Mk)(g off:Nat)(W:ar):Prop:=g<W.heap.size∧∀i,i<ms.length→W.cell? ⟨g,off+i*3,none⟩=some (ah ag (Hk ms i).minute)∧W.cell? ⟨g,off+i*3+1,none⟩=some (ah ag (Hk ms i).lo)∧W.cell? ⟨g,off+i*3+2,none⟩=some (ah ag (Hk ms i).hi)
theorem MO.below{ml:List Mk}{g off:Nat}{W W':ar}(h:MO ml g off W)(ho:aC W.heap.size W W'):MO ml g off W':=
 ⟨bE h.1 ho.size,fun i hi=>⟨(ho.cell (p:=⟨g,off+i*3,none⟩) h.1).trans (h.2 i hi).1,(ho.cell (p:=⟨g,off+i*3+1,none⟩) h.1).trans (h.2 i hi).2.1,(ho.cell (p:=⟨g,off+i*3+2,none⟩) h.1).trans (h.2 i hi).2.2⟩⟩
theorem Reads.Yz{w:ar}{p:Option dc}{n c:Nat}{ms:List Mk}(h:Reads w (ae p n c) n (eN ms))(k:Nat)(hk:k<ms.length) : ∃g off,p=some ⟨g,off,none⟩∧MO ms g off w:=by
 rcases h with⟨_,_,h⟩|⟨g,off,cap,h,_,hg,hc⟩
 ·have:=congrArg List.length h;rw[r5] at this;simp at this;omega
 ·cases h;refine⟨g,off,rfl,hg,fun i hi=>?_⟩;rw[JI ms i hi];exact vR hc i hi
def yC(l:List Mn)(i:Nat):Bool:=decide (((pq l i).name.size:Int)>100)
def Ig(ml:List Mn)(ss:List Int)(ms:List Mk):Bool:=(decide ((ml.length:Int)>20)||decide ((ss.length:Int)>20))||decide ((ms.length:Int)>20)
def jl(ml:List Mn)(ss:List Int)(ms:List Mk):Bool:=Ig ml ss ms||(bf ml.length).any (yC ml)
def nZ(b:BB)(ms:List Mk)(i:Nat):Int:=if (!(aL (Hk ms i).minute 1 b.minutes))=true then 6 else if (!(bZ (Hk ms i).lo (Hk ms i).hi 0 99))=true then 1 else 0
def tO(b:BB)(ms:List Mk):Int:=if (ms.length:Int)>3 then 2 else(((bf ms.length).map (nZ b ms)).find? fun h=>h !=0).getD 0
theorem F6{b:BB}{l:List Mk}(i:Nat)(h3 : ¬(l.length:Int)>3)(hi:i<l.length)(hpre : ∀k,k<i→nZ b l k=0)(h:nZ b l i≠0):tO b l=nZ b l i:=by
 unfold tO;rw[if_neg h3,yT _ _ i hi hpre h];rfl
theorem JJ{b:BB}{l:List Mk}(h3 : ¬(l.length:Int)>3)(hpre : ∀k,k<l.length→nZ b l k=0):tO b l=0:=by
 unfold tO;rw[if_neg h3,sB _ _ hpre];rfl
def j4(b:BB)(ml:List Mn)(ss:List Int)(ms:List Mk):Int:=if (lO b !=0)=true then lO b else if (m7 ml !=0)=true then m7 ml else if (jv b ss !=0)=true then jv b ss else tO b ms
theorem Pb(b:BB)(p1 p2 p3:Option dc)(c1 c2 c3:Nat)(ml:List Mn)(ss:List Int)(ms:List Mk)(w:ar)(hv:Reads w (ae p1 ml.length c1) ml.length (gu ml)):bp aq 18 #[aQ (b.cells (ae p1 ml.length c1) (ae p2 ss.length c2) (ae p3 ms.length c3))] w fun e w'=>e=aG (aA (jl ml ss ms))∧aC w.heap.size w w':=by
 refine oy Tryz.func18 rfl ?_;have hF:=l9 (args:=#[aQ (b.cells (ae p1 ml.length c1) (ae p2 ss.length c2) (ae p3 ms.length c3))]) (n:=35) (by simp) [(0,aQ (b.cells (ae p1 ml.length c1) (ae p2 ss.length c2) (ae p3 ms.length c3)))] ⟨oX rfl,trivial⟩;rw[show Tryz.f18.ntmps=35 from rfl];generalize (⟨#[aQ (b.cells (ae p1 ml.length c1) (ae p2 ss.length c2) (ae p3 ms.length c3))] ++ aU (35 - (#[aQ (b.cells (ae p1 ml.length c1) (ae p2 ss.length c2) (ae p3 ms.length c3))]:Array ak).size) af,[]⟩:Act)=a at *;refine(fun h : ∀W,aC w.heap.size w W→dH aq _ _ a W=>h w (aw _ _)) ?_;intro W HB;have HC:Hid (∀k,k<ml.length→∃g off,p1=some ⟨g,off,none⟩∧wZ ml g off w):=ai fun k hk=>hv.men k hk;clear hv
 refine cV [fun v ds w9=>∃B,v=pv B 0∧w9.heap[B]?=some (au (b.cells (ae p1 ml.length c1) (ae p2 ss.length c2) (ae p3 ms.length c3)) 28 (0,0)),pV (aA false)]
  _ (by kernel_rfl) hF.size hF.base ?_ ?_ ?_
 ·refine⟨?_,sV,trivial⟩
  ·rintro v ds w1 w2 hS ⟨B,h1,h2⟩ hb;exact⟨B,h1,aK h2 hb⟩
 ·refine⟨?_,?_,trivial⟩<;>rintro ev w1 hS hc hg hf ⟨b0,-⟩ hd
  ·clear hd;refine Lag.Yields.value (v:=pv w1.heap.size 0) (w':=w1.alloc (au (b.cells (ae p1 ml.length c1) (ae p2 ss.length c2) (ae p3 ms.length c3)) 28)) ?_ ⟨⟨_,rfl,ax _ _⟩,bI ((aw _ _).alloc (ay _) _)⟩;go_simp
  ·clear hd;refine yv ?_ rfl;go_simp
 intro a W hR;have ho:=hR.s;obtain⟨B1,e1,K1⟩:=hR.val 0 (by decide);replace e1:a.eval (aB 1)=a8 (some ⟨B1,0,none⟩):=e1;replace HB:=HB.tr ho;replace hF:=((hR.fr hF (by kernel_rfl)).cons (t:=1) e1).cons (t:=2) (hR.val 1 (by decide));clear hR ho e1;refine kh ?_
 refine cV [pV (a8 (some ⟨B1,12,none⟩)),pV (ae p1 ml.length c1),pV (ah ag ml.length),pV (aA (decide ((ml.length:Int)>20))),pV (aA (decide ((ml.length:Int)>20))),pC (!(decide ((ml.length:Int)>20))) (a8 (some ⟨B1,13,none⟩)),pC (!(decide ((ml.length:Int)>20))) (ae p2 ss.length c2),pC (!(decide ((ml.length:Int)>20))) (ah ag ss.length),pC (!(decide ((ml.length:Int)>20))) (aA (decide ((ss.length:Int)>20))),pV (aA ((decide ((ml.length:Int)>20))||(decide ((ss.length:Int)>20)))),pV (aA ((decide ((ml.length:Int)>20))||(decide ((ss.length:Int)>20)))),pC (!((decide ((ml.length:Int)>20))||(decide ((ss.length:Int)>20)))) (a8 (some ⟨B1,14,none⟩)),pC (!((decide ((ml.length:Int)>20))||(decide ((ss.length:Int)>20)))) (ae p3 ms.length c3),pC (!((decide ((ml.length:Int)>20))||(decide ((ss.length:Int)>20)))) (ah ag ms.length),pC (!((decide ((ml.length:Int)>20))||(decide ((ss.length:Int)>20)))) (aA (decide ((ms.length:Int)>20))),pV (aA (((decide ((ml.length:Int)>20))||(decide ((ss.length:Int)>20)))||(decide ((ms.length:Int)>20))))]
  _ (by kernel_rfl) hF.size hF.base ?_ ?_ ?_
 ·exact⟨sV,sV,sV,sV,sV,sC,sC,sC,sC,sV,sV,sC,sC,sC,sC,sV,trivial⟩
 ·refine⟨?_,?_,?_,?_,?_,?_,?_,?_,?_,?_,?_,?_,?_,?_,?_,?_,trivial⟩<;>rintro ev w1 hS hc hg hf ⟨-,b1,-,-⟩ hd
  all_goals try
   try have d0:ev (aB _)=_:=hd.1 rfl
   clear hd;refine yw rfl ?_ rfl;go_simp;done
  all_goals try
   try have d0:ev (aB _)=_:=hd.1 rfl
   try have c0:_→ev (aB _)=_:=hd.1 rfl
   try have d1:ev (aB _)=_:=hd.2.1 rfl
   clear hd
   first|refine gC d0 fo fun hA=>?_|refine gC d1 fo fun hA=>?_
   try replace c0:=c0 hA
   refine yw rfl ?_ (fun _=>rfl);go_simp;done
  ·have d0:ev (aB 4)=_:=hd.1 rfl;clear hd;have z:=aH (aK K1 hS) 12 _ rfl;refine yv ?_ rfl;go_simp
  ·have d5:_→ev (aB 9)=_:=hd.1 rfl;have d4:ev (aB 8)=_:=hd.2.1 rfl;clear hd;refine gC d4 fo fun hA=>?_;have y5:=d5 hA;have z:=aH (aK K1 hS) 13 _ rfl;refine yv ?_ (fun _=>rfl);go_simp
  ·have d4:ev (aB 8)=_:=hd.1 rfl;have d8:_→ev (aB 12)=_:=hd.2.1 rfl;clear hd;exact yO rfl hc d4 (fun hq=>d8 (by simp[hq])) (rfl)
  ·have d11:_→ev (aB 15)=_:=hd.1 rfl;have d10:ev (aB 14)=_:=hd.2.1 rfl;clear hd;refine gC d10 fo fun hA=>?_;have Ja:=d11 hA;have z:=aH (aK K1 hS) 14 _ rfl;refine yv ?_ (fun _=>rfl);go_simp
  ·have d10:ev (aB 14)=_:=hd.1 rfl;have d14:_→ev (aB 18)=_:=hd.2.1 rfl;clear hd;exact yO rfl hc d10 (fun hq=>d14 (by simp[hq])) (rfl)
 intro a W hR;have ho:=hR.s;replace HB:=HB.tr ho;replace K1:=aK K1 ho;replace hF:=(hR.fr hF (by kernel_rfl)).cons (t:=19) (hR.val 15 (by decide));clear hR ho;refine dB (t:=(((decide ((ml.length:Int)>20))||(decide ((ss.length:Int)>20)))||(decide ((ms.length:Int)>20)))) (hF.g 0 rfl) (fun Ul=>?_) (fun Ul=>?_)
 ·skip
  replace hF:=hF.tl;have hres:jl ml ss ms=true:=by unfold jl;rw[show Ig ml ss ms=true from Ul];rfl
  replace hF:=hF.tl
  refine cV [pV (aA true)]
   _ (by kernel_rfl) hF.size hF.base ?_ ?_ ?_
  ·exact⟨sV,trivial⟩
  ·refine⟨?_,trivial⟩<;>rintro ev w1 hS hc hg hf hb hd
   ·clear hd;refine yv ?_ rfl;go_simp
  intro a W hR;have ho:=hR.s;replace HB:=HB.tr ho;replace K1:=aK K1 ho;replace hF:=(hR.fr hF (by kernel_rfl)).cons (t:=2) (hR.val 0 (by decide));clear hR ho;refine iW ?_;show eU aq Tryz.f18 (fun e w'=>e=aO (aA (jl ml ss ms))∧aC w.heap.size w w') fC a W;exact bw (cD rfl _ _ _) hF.defers ⟨congrArg aO (((hF.g 0 rfl):a.eval (aB 2)=aA true).trans (congrArg _ hres.symm)),HB⟩
 ·skip
  replace hF:=hF.tl;have h20:ml.length≤20:=by revert Ul;simp;omega
  refine j7 ?_;show dH aq _ _ _ _;refine kh ?_
  refine cV [pV (ah ag 0)]
   _ (by kernel_rfl) hF.size hF.base ?_ ?_ ?_
  ·exact⟨sV,trivial⟩
  ·refine⟨?_,trivial⟩<;>rintro ev w1 hS hc hg hf hb hd
   ·clear hd;refine yv ?_ rfl;go_simp
  intro a W hR;have ho:=hR.s;replace HB:=HB.tr ho;replace K1:=aK K1 ho;replace hF:=(hR.fr hF (by kernel_rfl)).cons (t:=3) (hR.val 0 (by decide));clear hR ho;refine wp_block ?_;refine wp_loop (fun a W=>∃k:Nat,k≤ml.length∧(∀i,i<k→yC ml i=false)∧BU 35 a [(3,ah ag (k:Nat)),(1,a8 (some ⟨B1,0,none⟩)),(0,aQ (b.cells (ae p1 ml.length c1) (ae p2 ss.length c2) (ae p3 ms.length c3)))]∧aC w.heap.size w W∧W.heap[B1]?=some (au (b.cells (ae p1 ml.length c1) (ae p2 ss.length c2) (ae p3 ms.length c3)) 28 (0,0))) (fun a _=>ml.length - (intOf (a.eval (aB 3))).toNat) ⟨0,by omega,fun i hi=>by omega,⟨hF.size,hF.defers,(by obtain⟨b3,-,b1,b0,-⟩:=hF.base;exact⟨b3,b1,b0,trivial⟩)⟩,HB,K1⟩ ?_;clear hF HB K1
  try clear a
  try clear W
  rintro a W ⟨k,tv,oM,hF,HB,K1⟩;have hk3:a.eval (aB 3)=ah ag (k:Nat):=(hF.g 0 rfl)
  refine kh ?_
  refine cV [pV (ah ag (k:Nat)),pV (a8 (some ⟨B1,12,none⟩)),pV (ae p1 ml.length c1),pV (ah ag ml.length),pV (aA (decide ((k:Nat)<ml.length)))]
   _ (by kernel_rfl) hF.size hF.base ?_ ?_ ?_
  ·exact⟨sV,sV,sV,sV,sV,trivial⟩
  ·refine⟨?_,?_,?_,?_,?_,trivial⟩<;>rintro ev w1 hS hc hg hf ⟨b3,b1,-,-⟩ hd
   all_goals try
    try have d0:ev (aB _)=_:=hd.1 rfl
    try have d1:ev (aB _)=_:=hd.2.1 rfl
    clear hd;refine yw rfl ?_ rfl;go_simp;done
   ·have d1:ev (aB 21)=_:=hd.1 rfl;clear hd;have z:=aH (aK K1 hS) 12 _ rfl;refine yv ?_ rfl;go_simp
  intro a W hR;have ho:=hR.s;replace HB:=HB.tr ho;replace K1:=aK K1 ho;replace hF:=(hR.fr hF (by kernel_rfl)).cons (t:=24) (hR.val 4 (by decide));clear hR ho;refine dB (t:=(decide ((k:Nat)<ml.length))) (hF.g 0 rfl) (fun Ic=>?_) (fun Ic=>?_)
  ·skip
   replace hF:=hF.tl;have xA:k<ml.length:=by simpa using Ic
   obtain⟨g,off,rfl,hM⟩:=HC.out k xA;have CM:=hM.below HB;clear hM;obtain⟨m,hm⟩ : ∃m,pq ml k=m:=⟨_,rfl⟩
   have hw1:IntKind.i64.wrap ((k:Int)+1)=(k:Int)+1:=by rw[gU];omega
   refine j7 ?_;show dH aq _ _ _ _;refine kh ?_;refine wp_block ?_
   refine cV [pV (a8 (some ⟨B1,12,none⟩)),pV (ae (some ⟨g,off,none⟩) ml.length c1),pV (ah ag (k:Nat)),pV (a8 (some ⟨g,off+k*3,none⟩)),pV (a8 (some ⟨g,off+k*3,none⟩)),pV (.string m.name),pV (ah ag (m.name.size:Int)),pV (aA (decide ((m.name.size:Int)>100)))]
    _ (by kernel_rfl) hF.size hF.base ?_ ?_ ?_
   ·exact⟨sV,sV,sV,sV,sV,sV,sV,sV,trivial⟩
   ·refine⟨?_,?_,?_,?_,?_,?_,?_,?_,trivial⟩<;>rintro ev w1 hS hc hg hf ⟨b3,b1,-,-⟩ hd
    all_goals try
     try have d0:ev (aB _)=_:=hd.1 rfl
     clear hd;refine yw rfl ?_ rfl;go_simp;done
    ·have d0:ev (aB 27)=_:=hd.1 rfl;clear hd;have z:=aH (aK K1 hS) 12 _ rfl;refine yv ?_ rfl;go_simp
    ·have d1:ev (aB 28)=_:=hd.1 rfl;have d2:ev (aB 29)=_:=hd.2.1 rfl;clear hd;have KZ : ¬(ml.length≤k):=by omega
     refine yv ?_ rfl;go_simp
    ·have d4:ev (aB 31)=_:=hd.1 rfl;clear hd;obtain⟨z1,z2,z3⟩:=(wZ.below CM hS).2 k (by omega);rw[hm] at z1 z2 z3;refine yv ?_ rfl;go_simp
   intro a W hR;have ho:=hR.s;replace HB:=HB.tr ho;replace K1:=aK K1 ho;replace CM:=CM.below ho;replace hF:=(hR.fr hF (by kernel_rfl)).cons (t:=34) (hR.val 7 (by decide));clear hR ho;refine dB (t:=(decide ((m.name.size:Int)>100))) (hF.g 0 rfl) (fun Xq=>?_) (fun Xq=>?_)
   ·skip
    replace hF:=hF.tl;have hres:jl ml ss ms=true:=by unfold jl;rw[Bool.or_eq_true];right;rw[List.any_eq_true];exact⟨k,bN.2 xA,by unfold yC;rw[hm];exact Xq⟩
    refine cV [pV (aA true)]
     _ (by kernel_rfl) hF.size hF.base ?_ ?_ ?_
    ·exact⟨sV,trivial⟩
    ·refine⟨?_,trivial⟩<;>rintro ev w1 hS hc hg hf hb hd
     ·clear hd;refine yv ?_ rfl;go_simp
    intro a W hR;have ho:=hR.s;replace HB:=HB.tr ho;replace K1:=aK K1 ho;replace CM:=CM.below ho;replace hF:=(hR.fr hF (by kernel_rfl)).cons (t:=2) (hR.val 0 (by decide));clear hR ho;refine iW ?_;show eU aq Tryz.f18 (fun e w'=>e=aO (aA (jl ml ss ms))∧aC w.heap.size w w') fC a W;exact bw (cD rfl _ _ _) hF.defers ⟨congrArg aO (((hF.g 0 rfl):a.eval (aB 2)=aA true).trans (congrArg _ hres.symm)),HB⟩
   ·skip
    replace hF:=hF.tl;have hz:yC ml k=false:=by unfold yC;rw[hm];exact Xq
    refine j7 ?_;show dH aq _ _ _ _;have Gi:=hF;replace hF:=hF.tl
    refine kD [pV (ah ag (k:Nat)),pV (ah ag ((k:Nat)+1)),pV (ah ag ((k:Nat)+1))]
     _ [(2,3,ah ag (k:Nat))] (by kernel_rfl) hF.size hF.base ⟨⟨rfl,(Gi.g 0 rfl)⟩,trivial⟩ ?_ ?_ ?_
    ·exact⟨Ph.sV,Ph.sV,Ph.sV,trivial⟩
    ·refine⟨?_,?_,?_,trivial⟩<;>rintro Lf ev w1 hn tU hS hc hg hf ⟨-,-,hl3,-⟩ hd
     all_goals try
      try have d0:ev (aB _)=_:=hd.1 rfl
      clear hd;refine Ph.yv ?_ rfl;go_simp;done
     ·have b3:=hl3 (hn 2 (by kernel_rfl));clear hd;refine Ph.yv ?_ rfl;go_simp
    intro a W hR;have ho:=hR.s;replace HB:=HB.tr ho;replace K1:=aK K1 ho;replace CM:=CM.below ho;replace hF:=(hR.fr hF (by kernel_rfl)).cons (t:=3) (hR.val 2 (by decide));clear Gi;clear hR ho;refine⟨⟨k+1,by omega,fun i hi=>if hik:i<k then oM i hik else by have e:i=k:=(by omega);rw[e];exact hz,⟨hF.size,hF.defers,hF.base⟩,HB,K1⟩,?_⟩;rw[show a.eval (aB 3)=ah ag ((k:Nat)+1) from(hF.g 0 rfl)];simp only[hk3];simp[intOf];omega
  ·skip
   replace hF:=hF.tl;refine wp_exit ?_;have Ry:k=ml.length:=by simp at Ic;omega
   have hres:jl ml ss ms=false:=by
    unfold jl;rw[show Ig ml ss ms=false from Ul,Bool.false_or,List.any_eq_false];intro i hi;rw[oM i (by have:=bN.1 hi;omega)];simp
   show dH aq _ _ a W;show dH aq _ _ _ _
   refine cV [pV (aA false)]
    _ (by kernel_rfl) hF.size hF.base ?_ ?_ ?_
   ·exact⟨sV,trivial⟩
   ·refine⟨?_,trivial⟩<;>rintro ev w1 hS hc hg hf hb hd
    ·clear hd;refine yv ?_ rfl;go_simp
   intro a W hR;have ho:=hR.s;replace HB:=HB.tr ho;replace K1:=aK K1 ho;replace hF:=(hR.fr hF (by kernel_rfl)).cons (t:=2) (hR.val 0 (by decide));clear hR ho;refine iW ?_;show eU aq Tryz.f18 (fun e w'=>e=aO (aA (jl ml ss ms))∧aC w.heap.size w w') fC a W;exact bw (cD rfl _ _ _) hF.defers ⟨congrArg aO (((hF.g 0 rfl):a.eval (aB 2)=aA false).trans (congrArg _ hres.symm)),HB⟩
theorem Jz(b:BB)(p1 p2 p3:Option dc)(c1 c2 c3:Nat)(ml:List Mn)(ss:List Int)(ms:List Mk)(hl:ml.length≤20∧ss.length≤20)(w:ar)(hv:Reads w (ae p1 ml.length c1) ml.length (gu ml))(hu:Reads w (ae p2 ss.length c2) ss.length (ss.map (aM ag)))(hk3:Reads w (ae p3 ms.length c3) ms.length (eN ms)):bp aq 72 #[aQ (b.cells (ae p1 ml.length c1) (ae p2 ss.length c2) (ae p3 ms.length c3))] w fun e w'=>e=aG (ah ag (j4 b ml ss ms))∧aC w.heap.size w w':=by
 refine oy Tryz.func72 rfl ?_;have hF:=l9 (args:=#[aQ (b.cells (ae p1 ml.length c1) (ae p2 ss.length c2) (ae p3 ms.length c3))]) (n:=52) (by simp) [(0,aQ (b.cells (ae p1 ml.length c1) (ae p2 ss.length c2) (ae p3 ms.length c3)))] ⟨oX rfl,trivial⟩;rw[show Tryz.f72.ntmps=52 from rfl];generalize (⟨#[aQ (b.cells (ae p1 ml.length c1) (ae p2 ss.length c2) (ae p3 ms.length c3))] ++ aU (52 - (#[aQ (b.cells (ae p1 ml.length c1) (ae p2 ss.length c2) (ae p3 ms.length c3))]:Array ak).size) af,[]⟩:Act)=a at *;refine(fun h : ∀W,aC w.heap.size w W→dH aq _ _ a W=>h w (aw _ _)) ?_;intro W HB;have HC:Hid (∀k,k<ms.length→∃g off,p3=some ⟨g,off,none⟩∧MO ms g off w):=ai fun k hk=>hk3.Yz k hk;clear hk3
 refine cV [fun v ds w9=>∃B,v=pv B 0∧w9.heap[B]?=some (au (b.cells (ae p1 ml.length c1) (ae p2 ss.length c2) (ae p3 ms.length c3)) 28 (0,0)),pV (ah ag 0)]
  _ (by kernel_rfl) hF.size hF.base ?_ ?_ ?_
 ·refine⟨?_,sV,trivial⟩
  ·rintro v ds w1 w2 hS ⟨B,h1,h2⟩ hb;exact⟨B,h1,aK h2 hb⟩
 ·refine⟨?_,?_,trivial⟩<;>rintro ev w1 hS hc hg hf ⟨b0,-⟩ hd
  ·clear hd;refine Lag.Yields.value (v:=pv w1.heap.size 0) (w':=w1.alloc (au (b.cells (ae p1 ml.length c1) (ae p2 ss.length c2) (ae p3 ms.length c3)) 28)) ?_ ⟨⟨_,rfl,ax _ _⟩,bI ((aw _ _).alloc (ay _) _)⟩;go_simp
  ·clear hd;refine yv ?_ rfl;go_simp
 intro a W hR;have ho:=hR.s;obtain⟨B1,e1,K1⟩:=hR.val 0 (by decide);replace e1:a.eval (aB 1)=a8 (some ⟨B1,0,none⟩):=e1;replace HB:=HB.tr ho;replace hF:=((hR.fr hF (by kernel_rfl)).cons (t:=1) e1).cons (t:=2) (hR.val 1 (by decide));clear hR ho e1;refine kh ?_
 refine cV [pV (aQ (b.cells (ae p1 ml.length c1) (ae p2 ss.length c2) (ae p3 ms.length c3))),pV (ah ag (lO b)),pV (ah ag (lO b))]
  _ (by kernel_rfl) hF.size hF.base ?_ ?_ ?_
 ·exact⟨sV,sV,sV,trivial⟩
 ·refine⟨?_,?_,?_,trivial⟩<;>rintro ev w1 hS hc hg hf ⟨-,b1,-,-⟩ hd
  ·clear hd;have jG:=aK K1 hS;exact k8 28 rfl b1 jG aT rfl (by kernel_rfl) (rfl)
  ·have d0:ev (aB 7)=_:=hd.1 rfl;clear hd;refine yc (Fj b (ae p1 ml.length c1) (ae p2 ss.length c2) (ae p3 ms.length c3) w1) ?_ (fun _=>rfl);go_simp
  ·have d1:ev (aB 8)=_:=hd.1 rfl;clear hd;refine yv ?_ rfl;go_simp
 intro a W hR;have ho:=hR.s;replace HB:=HB.tr ho;replace K1:=aK K1 ho;replace hF:=(hR.fr hF (by kernel_rfl)).cons (t:=3) (hR.val 2 (by decide));clear hR ho
 refine cV [pV (ah ag (lO b)),pV (aA ((lO b) !=0))]
  _ (by kernel_rfl) hF.size hF.base ?_ ?_ ?_
 ·exact⟨sV,sV,trivial⟩
 ·refine⟨?_,?_,trivial⟩<;>rintro ev w1 hS hc hg hf ⟨b3,-,-,-,-⟩ hd
  all_goals try
   try have d0:ev (aB _)=_:=hd.1 rfl
   clear hd;refine yw rfl ?_ rfl;go_simp;done
 intro a W hR;have ho:=hR.s;replace HB:=HB.tr ho;replace K1:=aK K1 ho;replace hF:=(hR.fr hF (by kernel_rfl)).cons (t:=10) (hR.val 1 (by decide));clear hR ho;refine dB (t:=((lO b) !=0)) (hF.g 0 rfl) (fun Mb=>?_) (fun Mb=>?_)
 ·skip
  replace hF:=hF.tl;have hres:j4 b ml ss ms=lO b:=by unfold j4;rw[if_pos Mb]
  replace hF:=hF.del 2;simp only[sF,eQ,reduceIte] at hF
  refine cV [pV (ah ag (lO b)),pV (ah ag (lO b))]
   _ (by kernel_rfl) hF.size hF.base ?_ ?_ ?_
  ·exact⟨sV,sV,trivial⟩
  ·refine⟨?_,?_,trivial⟩<;>rintro ev w1 hS hc hg hf ⟨b3,-,-,-⟩ hd
   all_goals try
    try have d0:ev (aB _)=_:=hd.1 rfl
    clear hd;refine yw rfl ?_ rfl;go_simp;done
  intro a W hR;have ho:=hR.s;replace HB:=HB.tr ho;replace K1:=aK K1 ho;replace hF:=(hR.fr hF (by kernel_rfl)).cons (t:=2) (hR.val 1 (by decide));clear hR ho;refine iW ?_;show eU aq Tryz.f72 (fun e w'=>e=aO (ah ag (j4 b ml ss ms))∧aC w.heap.size w w') fC a W;exact bw (cD rfl _ _ _) hF.defers ⟨congrArg aO (((hF.g 0 rfl):a.eval (aB 2)=ah ag (lO b)).trans (congrArg _ hres.symm)),HB⟩
 ·skip
  replace hF:=hF.tl;refine j7 ?_;show dH aq _ _ _ _;refine kh ?_
  refine cV [pV (aQ (b.cells (ae p1 ml.length c1) (ae p2 ss.length c2) (ae p3 ms.length c3))),pV (ah ag (m7 ml)),pV (ah ag (m7 ml))]
   _ (by kernel_rfl) hF.size hF.base ?_ ?_ ?_
  ·exact⟨sV,sV,sV,trivial⟩
  ·refine⟨?_,?_,?_,trivial⟩<;>rintro ev w1 hS hc hg hf ⟨-,-,b1,-,-⟩ hd
   ·clear hd;have jG:=aK K1 hS;exact k8 28 rfl b1 jG aT rfl (by kernel_rfl) (rfl)
   ·have d0:ev (aB 12)=_:=hd.1 rfl;clear hd;refine yc (args:=#[aQ (b.cells (ae p1 ml.length c1) (ae p2 ss.length c2) (ae p3 ms.length c3))]) (Iq b (ae p2 ss.length c2) (ae p3 ms.length c3) _ _ ml (by omega) w1 (hv.below (HB.trans (hS.mono HB.size)))) ?_ (fun _=>rfl);go_simp
   ·have d1:ev (aB 13)=_:=hd.1 rfl;clear hd;refine yv ?_ rfl;go_simp
  intro a W hR;have ho:=hR.s;replace HB:=HB.tr ho;replace K1:=aK K1 ho;replace hF:=(hR.fr hF (by kernel_rfl)).cons (t:=4) (hR.val 2 (by decide));clear hR ho
  refine cV [pV (ah ag (m7 ml)),pV (aA ((m7 ml) !=0))]
   _ (by kernel_rfl) hF.size hF.base ?_ ?_ ?_
  ·exact⟨sV,sV,trivial⟩
  ·refine⟨?_,?_,trivial⟩<;>rintro ev w1 hS hc hg hf ⟨b4,-,-,-,-,-⟩ hd
   all_goals try
    try have d0:ev (aB _)=_:=hd.1 rfl
    clear hd;refine yw rfl ?_ rfl;go_simp;done
  intro a W hR;have ho:=hR.s;replace HB:=HB.tr ho;replace K1:=aK K1 ho;replace hF:=(hR.fr hF (by kernel_rfl)).cons (t:=15) (hR.val 1 (by decide));clear hR ho;refine dB (t:=((m7 ml) !=0)) (hF.g 0 rfl) (fun Um=>?_) (fun Um=>?_)
  ·skip
   replace hF:=hF.tl;have hres:j4 b ml ss ms=m7 ml:=by unfold j4;rw[if_neg (by rw[Mb];simp),if_pos Um]
   replace hF:=hF.del 2;simp only[sF,eQ,reduceIte] at hF
   refine cV [pV (ah ag (m7 ml)),pV (ah ag (m7 ml))]
    _ (by kernel_rfl) hF.size hF.base ?_ ?_ ?_
   ·exact⟨sV,sV,trivial⟩
   ·refine⟨?_,?_,trivial⟩<;>rintro ev w1 hS hc hg hf ⟨b4,-,-,-,-⟩ hd
    all_goals try
     try have d0:ev (aB _)=_:=hd.1 rfl
     clear hd;refine yw rfl ?_ rfl;go_simp;done
   intro a W hR;have ho:=hR.s;replace HB:=HB.tr ho;replace K1:=aK K1 ho;replace hF:=(hR.fr hF (by kernel_rfl)).cons (t:=2) (hR.val 1 (by decide));clear hR ho;refine iW ?_;show eU aq Tryz.f72 (fun e w'=>e=aO (ah ag (j4 b ml ss ms))∧aC w.heap.size w w') fC a W;exact bw (cD rfl _ _ _) hF.defers ⟨congrArg aO (((hF.g 0 rfl):a.eval (aB 2)=ah ag (m7 ml)).trans (congrArg _ hres.symm)),HB⟩
  ·skip
   replace hF:=hF.tl;refine j7 ?_;show dH aq _ _ _ _;refine kh ?_
   refine cV [pV (aQ (b.cells (ae p1 ml.length c1) (ae p2 ss.length c2) (ae p3 ms.length c3))),pV (a8 (some ⟨B1,13,none⟩)),pV (ae p2 ss.length c2),pV (ah ag (jv b ss)),pV (ah ag (jv b ss))]
    _ (by kernel_rfl) hF.size hF.base ?_ ?_ ?_
   ·exact⟨sV,sV,sV,sV,sV,trivial⟩
   ·refine⟨?_,?_,?_,?_,?_,trivial⟩<;>rintro ev w1 hS hc hg hf ⟨-,-,-,b1,-,-⟩ hd
    all_goals try
     try have d0:ev (aB _)=_:=hd.1 rfl
     clear hd;refine yw rfl ?_ rfl;go_simp;done
    ·clear hd;have jG:=aK K1 hS;exact k8 28 rfl b1 jG aT rfl (by kernel_rfl) (rfl)
    ·have d1:ev (aB 18)=_:=hd.1 rfl;clear hd;have z:=aH (aK K1 hS) 13 _ rfl;refine yv ?_ rfl;go_simp
    ·have d0:ev (aB 17)=_:=hd.1 rfl;have d2:ev (aB 19)=_:=hd.2.1 rfl;clear hd;refine yc (args:=#[aQ (b.cells (ae p1 ml.length c1) (ae p2 ss.length c2) (ae p3 ms.length c3)),ae p2 ss.length c2]) (Fi b (ae p1 ml.length c1) (ae p2 ss.length c2) (ae p3 ms.length c3) _ _ ss (by omega) w1 (hu.below (HB.trans (hS.mono HB.size)))) ?_ (fun _=>rfl);go_simp
   intro a W hR;have ho:=hR.s;replace HB:=HB.tr ho;replace K1:=aK K1 ho;replace hF:=(hR.fr hF (by kernel_rfl)).cons (t:=5) (hR.val 4 (by decide));clear hR ho
   refine cV [pV (ah ag (jv b ss)),pV (aA ((jv b ss) !=0))]
    _ (by kernel_rfl) hF.size hF.base ?_ ?_ ?_
   ·exact⟨sV,sV,trivial⟩
   ·refine⟨?_,?_,trivial⟩<;>rintro ev w1 hS hc hg hf ⟨b5,-,-,-,-,-,-⟩ hd
    all_goals try
     try have d0:ev (aB _)=_:=hd.1 rfl
     clear hd;refine yw rfl ?_ rfl;go_simp;done
   intro a W hR;have ho:=hR.s;replace HB:=HB.tr ho;replace K1:=aK K1 ho;replace hF:=(hR.fr hF (by kernel_rfl)).cons (t:=22) (hR.val 1 (by decide));clear hR ho;refine dB (t:=((jv b ss) !=0)) (hF.g 0 rfl) (fun Xw=>?_) (fun Xw=>?_)
   ·skip
    replace hF:=hF.tl;have hres:j4 b ml ss ms=jv b ss:=by unfold j4;rw[if_neg (by rw[Mb];simp),if_neg (by rw[Um];simp),if_pos Xw]
    replace hF:=hF.del 2;simp only[sF,eQ,reduceIte] at hF
    refine cV [pV (ah ag (jv b ss)),pV (ah ag (jv b ss))]
     _ (by kernel_rfl) hF.size hF.base ?_ ?_ ?_
    ·exact⟨sV,sV,trivial⟩
    ·refine⟨?_,?_,trivial⟩<;>rintro ev w1 hS hc hg hf ⟨b5,-,-,-,-,-⟩ hd
     all_goals try
      try have d0:ev (aB _)=_:=hd.1 rfl
      clear hd;refine yw rfl ?_ rfl;go_simp;done
    intro a W hR;have ho:=hR.s;replace HB:=HB.tr ho;replace K1:=aK K1 ho;replace hF:=(hR.fr hF (by kernel_rfl)).cons (t:=2) (hR.val 1 (by decide));clear hR ho;refine iW ?_;show eU aq Tryz.f72 (fun e w'=>e=aO (ah ag (j4 b ml ss ms))∧aC w.heap.size w w') fC a W;exact bw (cD rfl _ _ _) hF.defers ⟨congrArg aO (((hF.g 0 rfl):a.eval (aB 2)=ah ag (jv b ss)).trans (congrArg _ hres.symm)),HB⟩
   ·skip
    replace hF:=hF.tl;have hh:j4 b ml ss ms=tO b ms:=by unfold j4;rw[if_neg (by rw[Mb];simp),if_neg (by rw[Um];simp),if_neg (by rw[Xw];simp)]
    refine j7 ?_;show dH aq _ _ _ _;refine kh ?_
    refine cV [pV (a8 (some ⟨B1,14,none⟩)),pV (ae p3 ms.length c3),pV (ah ag ms.length),pV (aA (decide ((ms.length:Int)>3)))]
     _ (by kernel_rfl) hF.size hF.base ?_ ?_ ?_
    ·exact⟨sV,sV,sV,sV,trivial⟩
    ·refine⟨?_,?_,?_,?_,trivial⟩<;>rintro ev w1 hS hc hg hf ⟨-,-,-,-,b1,-,-⟩ hd
     all_goals try
      try have d0:ev (aB _)=_:=hd.1 rfl
      clear hd;refine yw rfl ?_ rfl;go_simp;done
     ·have d0:ev (aB 24)=_:=hd.1 rfl;clear hd;have z:=aH (aK K1 hS) 14 _ rfl;refine yv ?_ rfl;go_simp
    intro a W hR;have ho:=hR.s;replace HB:=HB.tr ho;replace K1:=aK K1 ho;replace hF:=(hR.fr hF (by kernel_rfl)).cons (t:=27) (hR.val 3 (by decide));clear hR ho;refine dB (t:=(decide ((ms.length:Int)>3))) (hF.g 0 rfl) (fun Xu=>?_) (fun Xu=>?_)
    ·skip
     replace hF:=hF.tl;have hres:j4 b ml ss ms=2:=by rw[hh];unfold tO;rw[if_pos (by simpa using Xu)]
     replace hF:=hF.del 2;simp only[sF,eQ,reduceIte] at hF
     refine cV [pV (ah ag 2)]
      _ (by kernel_rfl) hF.size hF.base ?_ ?_ ?_
     ·exact⟨sV,trivial⟩
     ·refine⟨?_,trivial⟩<;>rintro ev w1 hS hc hg hf hb hd
      ·clear hd;refine yv ?_ rfl;go_simp
     intro a W hR;have ho:=hR.s;replace HB:=HB.tr ho;replace K1:=aK K1 ho;replace hF:=(hR.fr hF (by kernel_rfl)).cons (t:=2) (hR.val 0 (by decide));clear hR ho;refine iW ?_;show eU aq Tryz.f72 (fun e w'=>e=aO (ah ag (j4 b ml ss ms))∧aC w.heap.size w w') fC a W;exact bw (cD rfl _ _ _) hF.defers ⟨congrArg aO (((hF.g 0 rfl):a.eval (aB 2)=ah ag 2).trans (congrArg _ hres.symm)),HB⟩
    ·skip
     replace hF:=hF.tl;have h3 : ¬(ms.length:Int)>3:=by simpa using Xu
     refine j7 ?_;show dH aq _ _ _ _;refine kh ?_
     refine cV [pV (ah ag 0)]
      _ (by kernel_rfl) hF.size hF.base ?_ ?_ ?_
     ·exact⟨sV,trivial⟩
     ·refine⟨?_,trivial⟩<;>rintro ev w1 hS hc hg hf hb hd
      ·clear hd;refine yv ?_ rfl;go_simp
     intro a W hR;have ho:=hR.s;replace HB:=HB.tr ho;replace K1:=aK K1 ho;replace hF:=(hR.fr hF (by kernel_rfl)).cons (t:=6) (hR.val 0 (by decide));clear hR ho;refine wp_block ?_;refine wp_loop (fun a W=>∃k:Nat,k≤ms.length∧(∀i,i<k→nZ b ms i=0)∧BU 52 a [(6,ah ag (k:Nat)),(1,a8 (some ⟨B1,0,none⟩)),(0,aQ (b.cells (ae p1 ml.length c1) (ae p2 ss.length c2) (ae p3 ms.length c3)))]∧aC w.heap.size w W∧W.heap[B1]?=some (au (b.cells (ae p1 ml.length c1) (ae p2 ss.length c2) (ae p3 ms.length c3)) 28 (0,0))) (fun a _=>ms.length - (intOf (a.eval (aB 6))).toNat) ⟨0,by omega,fun i hi=>by omega,⟨hF.size,hF.defers,(by obtain⟨b6,-,-,-,-,b1,b0,-⟩:=hF.base;exact⟨b6,b1,b0,trivial⟩)⟩,HB,K1⟩ ?_;clear hF HB K1
     try clear a
     try clear W
     rintro a W ⟨k,tv,oM,hF,HB,K1⟩;have hk6:a.eval (aB 6)=ah ag (k:Nat):=(hF.g 0 rfl)
     refine kh ?_
     refine cV [pV (ah ag (k:Nat)),pV (a8 (some ⟨B1,14,none⟩)),pV (ae p3 ms.length c3),pV (ah ag ms.length),pV (aA (decide ((k:Nat)<ms.length)))]
      _ (by kernel_rfl) hF.size hF.base ?_ ?_ ?_
     ·exact⟨sV,sV,sV,sV,sV,trivial⟩
     ·refine⟨?_,?_,?_,?_,?_,trivial⟩<;>rintro ev w1 hS hc hg hf ⟨b6,b1,-,-⟩ hd
      all_goals try
       try have d0:ev (aB _)=_:=hd.1 rfl
       try have d1:ev (aB _)=_:=hd.2.1 rfl
       clear hd;refine yw rfl ?_ rfl;go_simp;done
      ·have d1:ev (aB 29)=_:=hd.1 rfl;clear hd;have z:=aH (aK K1 hS) 14 _ rfl;refine yv ?_ rfl;go_simp
     intro a W hR;have ho:=hR.s;replace HB:=HB.tr ho;replace K1:=aK K1 ho;replace hF:=(hR.fr hF (by kernel_rfl)).cons (t:=32) (hR.val 4 (by decide));clear hR ho;refine dB (t:=(decide ((k:Nat)<ms.length))) (hF.g 0 rfl) (fun J7=>?_) (fun J7=>?_)
     ·skip
      replace hF:=hF.tl;have xA:k<ms.length:=by simpa using J7
      obtain⟨g,off,rfl,hM⟩:=HC.out k xA;have CM:=hM.below HB;clear hM;obtain⟨m,hm⟩ : ∃m,Hk ms k=m:=⟨_,rfl⟩
      have hw1:IntKind.i64.wrap ((k:Int)+1)=(k:Int)+1:=by rw[gU];omega
      refine j7 ?_;show dH aq _ _ _ _;refine kh ?_;refine wp_block ?_;refine kh ?_
      refine Gn (by kernel_rfl) [pV (aQ (b.cells (ae p1 ml.length c1) (ae p2 ss.length c2) (ae (some ⟨g,off,none⟩) ms.length c3))),pV (a8 (some ⟨B1,14,none⟩)),pV (ae (some ⟨g,off,none⟩) ms.length c3),pV (ah ag (k:Nat)),pV (a8 (some ⟨g,off+k*3,none⟩)),pV (a8 (some ⟨g,off+k*3,none⟩)),pV (ah ag m.minute),pV (aA (aL m.minute 1 b.minutes)),pV (aA (!(aL m.minute 1 b.minutes)))]
       _ (by kernel_rfl) hF.size hF.base ?_ ?_ ?_
      ·exact⟨sV,sV,sV,sV,sV,sV,sV,sV,sV,trivial⟩
      ·refine⟨?_,?_,?_,?_,?_,?_,?_,?_,?_,trivial⟩<;>rintro ev w1 hS hc hg hf ⟨b6,b1,-,-⟩ hd
       all_goals try
        try have d0:ev (aB _)=_:=hd.1 rfl
        clear hd;refine yw rfl ?_ rfl;go_simp;done
       ·clear hd;have jG:=aK K1 hS;exact k8 28 rfl b1 jG aT rfl (by kernel_rfl) (rfl)
       ·have d1:ev (aB 36)=_:=hd.1 rfl;clear hd;have z:=aH (aK K1 hS) 14 _ rfl;refine yv ?_ rfl;go_simp
       ·have d2:ev (aB 37)=_:=hd.1 rfl;have d3:ev (aB 38)=_:=hd.2.1 rfl;clear hd;have KZ : ¬(ms.length≤k):=by omega
        refine yv ?_ rfl;go_simp
       ·have d5:ev (aB 40)=_:=hd.1 rfl;clear hd;obtain⟨z1,z2,z3⟩:=(MO.below CM hS).2 k (by omega);rw[hm] at z1 z2 z3;refine yv ?_ rfl;go_simp
       ·have d0:ev (aB 35)=_:=hd.1 rfl;have d6:ev (aB 41)=_:=hd.2.1 rfl;clear hd;refine yc (rB b (ae p1 ml.length c1) (ae p2 ss.length c2) (ae (some ⟨g,off,none⟩) ms.length c3) m.minute w1) ?_ (fun _=>rfl);go_simp
      intro a W hR;have ho:=hR.s;replace HB:=HB.tr ho;replace K1:=aK K1 ho;replace CM:=CM.below ho;replace hF:=(hR.fr hF (by kernel_rfl)).cons (t:=43) (hR.val 8 (by decide));clear hR ho;refine dB (t:=(!(aL m.minute 1 b.minutes))) (hF.g 0 rfl) (fun Uj=>?_) (fun Uj=>?_)
      ·skip
       replace hF:=hF.tl;have h6:nZ b ms k=6:=by unfold nZ;rw[hm,if_pos Uj]
       have hres:j4 b ml ss ms=6:=hh.trans ((F6 k h3 xA oM (by rw[h6];decide)).trans h6)
       refine cV [pV (ah ag 6)]
        _ (by kernel_rfl) hF.size hF.base ?_ ?_ ?_
       ·exact⟨sV,trivial⟩
       ·refine⟨?_,trivial⟩<;>rintro ev w1 hS hc hg hf hb hd
        ·clear hd;refine yv ?_ rfl;go_simp
       intro a W hR;have ho:=hR.s;replace HB:=HB.tr ho;replace K1:=aK K1 ho;replace CM:=CM.below ho;replace hF:=(hR.fr hF (by kernel_rfl)).cons (t:=2) (hR.val 0 (by decide));clear hR ho;refine iW ?_;show eU aq Tryz.f72 (fun e w'=>e=aO (ah ag (j4 b ml ss ms))∧aC w.heap.size w w') fC a W;exact bw (cD rfl _ _ _) hF.defers ⟨congrArg aO (((hF.g 0 rfl):a.eval (aB 2)=ah ag 6).trans (congrArg _ hres.symm)),HB⟩
      ·skip
       replace hF:=hF.tl;refine j7 ?_;show dH aq _ _ _ _
       refine cV [pV (a8 (some ⟨B1,14,none⟩)),pV (ae (some ⟨g,off,none⟩) ms.length c3),pV (ah ag (k:Nat)),pV (a8 (some ⟨g,off+k*3,none⟩)),pV (a8 (some ⟨g,off+k*3+1,none⟩)),pV (aQ #[ah ag m.lo,ah ag m.hi]),pV (aA (bZ m.lo m.hi 0 99)),pV (aA (!(bZ m.lo m.hi 0 99)))]
        _ (by kernel_rfl) hF.size hF.base ?_ ?_ ?_
       ·exact⟨sV,sV,sV,sV,sV,sV,sV,sV,trivial⟩
       ·refine⟨?_,?_,?_,?_,?_,?_,?_,?_,trivial⟩<;>rintro ev w1 hS hc hg hf ⟨b6,b1,-,-⟩ hd
        all_goals try
         try have d0:ev (aB _)=_:=hd.1 rfl
         clear hd;refine yw rfl ?_ rfl;go_simp;done
        ·have d0:ev (aB 44)=_:=hd.1 rfl;clear hd;have z:=aH (aK K1 hS) 14 _ rfl;refine yv ?_ rfl;go_simp
        ·have d1:ev (aB 45)=_:=hd.1 rfl;have d2:ev (aB 46)=_:=hd.2.1 rfl;clear hd;have KZ : ¬(ms.length≤k):=by omega
         refine yv ?_ rfl;go_simp
        ·have d4:ev (aB 48)=_:=hd.1 rfl;clear hd;obtain⟨z1,z2,z3⟩:=(MO.below CM hS).2 k (by omega);rw[hm] at z1 z2 z3;refine yv ?_ rfl;go_simp
        ·have d5:ev (aB 49)=_:=hd.1 rfl;clear hd;refine yc (q7 m.lo m.hi 0 99 w1) ?_ (fun _=>rfl);go_simp
       intro a W hR;have ho:=hR.s;replace HB:=HB.tr ho;replace K1:=aK K1 ho;replace CM:=CM.below ho;replace hF:=(hR.fr hF (by kernel_rfl)).cons (t:=51) (hR.val 7 (by decide));clear hR ho;refine dB (t:=(!(bZ m.lo m.hi 0 99))) (hF.g 0 rfl) (fun Xo=>?_) (fun Xo=>?_)
       ·skip
        replace hF:=hF.tl;have h1:nZ b ms k=1:=by unfold nZ;rw[hm,if_neg (by rw[Uj];simp),if_pos Xo]
        have hres:j4 b ml ss ms=1:=hh.trans ((F6 k h3 xA oM (by rw[h1];decide)).trans h1)
        refine cV [pV (ah ag 1)]
         _ (by kernel_rfl) hF.size hF.base ?_ ?_ ?_
        ·exact⟨sV,trivial⟩
        ·refine⟨?_,trivial⟩<;>rintro ev w1 hS hc hg hf hb hd
         ·clear hd;refine yv ?_ rfl;go_simp
        intro a W hR;have ho:=hR.s;replace HB:=HB.tr ho;replace K1:=aK K1 ho;replace CM:=CM.below ho;replace hF:=(hR.fr hF (by kernel_rfl)).cons (t:=2) (hR.val 0 (by decide));clear hR ho;refine iW ?_;show eU aq Tryz.f72 (fun e w'=>e=aO (ah ag (j4 b ml ss ms))∧aC w.heap.size w w') fC a W;exact bw (cD rfl _ _ _) hF.defers ⟨congrArg aO (((hF.g 0 rfl):a.eval (aB 2)=ah ag 1).trans (congrArg _ hres.symm)),HB⟩
       ·skip
        replace hF:=hF.tl;have hz:nZ b ms k=0:=by unfold nZ;rw[hm,if_neg (by rw[Uj];simp),if_neg (by rw[Xo];simp)]
        refine j7 ?_;show dH aq _ _ _ _;have Gi:=hF;replace hF:=hF.tl
        refine kD [pV (ah ag (k:Nat)),pV (ah ag ((k:Nat)+1)),pV (ah ag ((k:Nat)+1))]
         _ [(2,6,ah ag (k:Nat))] (by kernel_rfl) hF.size hF.base ⟨⟨rfl,(Gi.g 0 rfl)⟩,trivial⟩ ?_ ?_ ?_
        ·exact⟨Ph.sV,Ph.sV,Ph.sV,trivial⟩
        ·refine⟨?_,?_,?_,trivial⟩<;>rintro Lf ev w1 hn tU hS hc hg hf ⟨-,-,hl6,-⟩ hd
         all_goals try
          try have d0:ev (aB _)=_:=hd.1 rfl
          clear hd;refine Ph.yv ?_ rfl;go_simp;done
         ·have b6:=hl6 (hn 2 (by kernel_rfl));clear hd;refine Ph.yv ?_ rfl;go_simp
        intro a W hR;have ho:=hR.s;replace HB:=HB.tr ho;replace K1:=aK K1 ho;replace CM:=CM.below ho;replace hF:=(hR.fr hF (by kernel_rfl)).cons (t:=6) (hR.val 2 (by decide));clear Gi;clear hR ho;refine⟨⟨k+1,by omega,fun i hi=>if hik:i<k then oM i hik else by have e:i=k:=(by omega);rw[e];exact hz,⟨hF.size,hF.defers,hF.base⟩,HB,K1⟩,?_⟩;rw[show a.eval (aB 6)=ah ag ((k:Nat)+1) from(hF.g 0 rfl)];simp only[hk6];simp[intOf];omega
     ·skip
      replace hF:=hF.tl;refine wp_exit ?_;have Ry:k=ms.length:=by simp at J7;omega
      have hres:j4 b ml ss ms=0:=hh.trans (JJ h3 fun i hi=>oM i (by omega));show dH aq _ _ a W;show dH aq _ _ _ _
      refine cV [pV (ah ag 0)]
       _ (by kernel_rfl) hF.size hF.base ?_ ?_ ?_
      ·exact⟨sV,trivial⟩
      ·refine⟨?_,trivial⟩<;>rintro ev w1 hS hc hg hf hb hd
       ·clear hd;refine yv ?_ rfl;go_simp
      intro a W hR;have ho:=hR.s;replace HB:=HB.tr ho;replace K1:=aK K1 ho;replace hF:=(hR.fr hF (by kernel_rfl)).cons (t:=2) (hR.val 0 (by decide));clear hR ho;refine iW ?_;show eU aq Tryz.f72 (fun e w'=>e=aO (ah ag (j4 b ml ss ms))∧aC w.heap.size w w') fC a W;exact bw (cD rfl _ _ _) hF.defers ⟨congrArg aO (((hF.g 0 rfl):a.eval (aB 2)=ah ag 0).trans (congrArg _ hres.symm)),HB⟩
def Ki(b:BB)(ml:List Mn)(ss:List Int)(ms:List Mk):Bool:=(!(jl ml ss ms))&&(j4 b ml ss ms==0)
theorem O9{ml:List Mn}{ss:List Int}{ms:List Mk}(h:jl ml ss ms=false):ml.length≤20∧ss.length≤20:=by
 unfold jl Ig at h;simp at h;omega
theorem Ux(b:BB)(p1 p2 p3:Option dc)(c1 c2 c3:Nat)(ml:List Mn)(ss:List Int)(ms:List Mk)(w:ar)(hv:Reads w (ae p1 ml.length c1) ml.length (gu ml))(hu:Reads w (ae p2 ss.length c2) ss.length (ss.map (aM ag)))(hk3:Reads w (ae p3 ms.length c3) ms.length (eN ms)):bp aq 29 #[aQ (b.cells (ae p1 ml.length c1) (ae p2 ss.length c2) (ae p3 ms.length c3))] w fun e w'=>e=aG (aA (Ki b ml ss ms))∧aC w.heap.size w w':=by
 refine oy Tryz.func29 rfl ?_;have hF:=l9 (args:=#[aQ (b.cells (ae p1 ml.length c1) (ae p2 ss.length c2) (ae p3 ms.length c3))]) (n:=11) (by simp) [(0,aQ (b.cells (ae p1 ml.length c1) (ae p2 ss.length c2) (ae p3 ms.length c3)))] ⟨oX rfl,trivial⟩;rw[show Tryz.f29.ntmps=11 from rfl];generalize (⟨#[aQ (b.cells (ae p1 ml.length c1) (ae p2 ss.length c2) (ae p3 ms.length c3))] ++ aU (11 - (#[aQ (b.cells (ae p1 ml.length c1) (ae p2 ss.length c2) (ae p3 ms.length c3))]:Array ak).size) af,[]⟩:Act)=a at *;refine(fun h : ∀W,aC w.heap.size w W→dH aq _ _ a W=>h w (aw _ _)) ?_;intro W HB
 refine cV [fun v ds w9=>∃B,v=pv B 0∧w9.heap[B]?=some (au (b.cells (ae p1 ml.length c1) (ae p2 ss.length c2) (ae p3 ms.length c3)) 28 (0,0)),pV (aA false)]
  _ (by kernel_rfl) hF.size hF.base ?_ ?_ ?_
 ·refine⟨?_,sV,trivial⟩
  ·rintro v ds w1 w2 hS ⟨B,h1,h2⟩ hb;exact⟨B,h1,aK h2 hb⟩
 ·refine⟨?_,?_,trivial⟩<;>rintro ev w1 hS hc hg hf ⟨b0,-⟩ hd
  ·clear hd;refine Lag.Yields.value (v:=pv w1.heap.size 0) (w':=w1.alloc (au (b.cells (ae p1 ml.length c1) (ae p2 ss.length c2) (ae p3 ms.length c3)) 28)) ?_ ⟨⟨_,rfl,ax _ _⟩,bI ((aw _ _).alloc (ay _) _)⟩;go_simp
  ·clear hd;refine yv ?_ rfl;go_simp
 intro a W hR;have ho:=hR.s;obtain⟨B1,e1,K1⟩:=hR.val 0 (by decide);replace e1:a.eval (aB 1)=a8 (some ⟨B1,0,none⟩):=e1;replace HB:=HB.tr ho;replace hF:=((hR.fr hF (by kernel_rfl)).cons (t:=1) e1).cons (t:=2) (hR.val 1 (by decide));clear hR ho e1;replace hF:=hF.tl
 refine cV [pV (aQ (b.cells (ae p1 ml.length c1) (ae p2 ss.length c2) (ae p3 ms.length c3))),pV (aA (jl ml ss ms)),pV (aA (!(jl ml ss ms))),pV (aA (!(jl ml ss ms))),pC (!(jl ml ss ms)) (aQ (b.cells (ae p1 ml.length c1) (ae p2 ss.length c2) (ae p3 ms.length c3))),pC (!(jl ml ss ms)) (ah ag (j4 b ml ss ms)),pC (!(jl ml ss ms)) (aA ((j4 b ml ss ms)==0)),pV (aA ((!(jl ml ss ms))&&((j4 b ml ss ms)==0))),pV (aA ((!(jl ml ss ms))&&((j4 b ml ss ms)==0)))]
  _ (by kernel_rfl) hF.size hF.base ?_ ?_ ?_
 ·exact⟨sV,sV,sV,sV,sC,sC,sC,sV,sV,trivial⟩
 ·refine⟨?_,?_,?_,?_,?_,?_,?_,?_,?_,trivial⟩<;>rintro ev w1 hS hc hg hf ⟨b1,-,-⟩ hd
  all_goals try
   try have d0:ev (aB _)=_:=hd.1 rfl
   clear hd;refine yw rfl ?_ rfl;go_simp;done
  ·clear hd;have jG:=aK K1 hS;exact k8 28 rfl b1 jG aT rfl (by kernel_rfl) (rfl)
  ·have d0:ev (aB 3)=_:=hd.1 rfl;clear hd;refine yc (args:=#[aQ (b.cells (ae p1 ml.length c1) (ae p2 ss.length c2) (ae p3 ms.length c3))]) (Pb b _ _ _ _ _ _ ml ss ms w1 (hv.below (HB.trans (hS.mono HB.size)))) ?_ (fun _=>rfl);go_simp
  ·have d3:ev (aB 6)=_:=hd.1 rfl;clear hd;refine gC d3 jx fun hA=>?_;have jG:=aK K1 hS;exact k8 28 rfl b1 jG aT rfl (by kernel_rfl) (fun _=>rfl)
  ·have d4:_→ev (aB 7)=_:=hd.1 rfl;have d3:ev (aB 6)=_:=hd.2.1 rfl;clear hd;refine gC d3 jx fun hA=>?_;have y4:=d4 hA;refine yc (args:=#[aQ (b.cells (ae p1 ml.length c1) (ae p2 ss.length c2) (ae p3 ms.length c3))]) (Jz b _ _ _ _ _ _ ml ss ms (O9 (ms:=ms) (by revert hA;cases jl ml ss ms<;>simp)) w1 (hv.below (HB.trans (hS.mono HB.size))) (hu.below (HB.trans (hS.mono HB.size))) (hk3.below (HB.trans (hS.mono HB.size)))) ?_ (fun _=>fun _=>rfl);go_simp
  ·have d5:_→ev (aB 8)=_:=hd.1 rfl;have d3:ev (aB 6)=_:=hd.2.1 rfl;clear hd;refine gC d3 jx fun hA=>?_;have y5:=d5 hA;refine yv ?_ (fun _=>rfl);go_simp
  ·have d3:ev (aB 6)=_:=hd.1 rfl;have d6:_→ev (aB 9)=_:=hd.2.1 rfl;clear hd;exact yA rfl hc d3 (fun hq=>d6 (by simp[hq])) (rfl)
 intro a W hR;have ho:=hR.s;replace HB:=HB.tr ho;replace K1:=aK K1 ho;replace hF:=(hR.fr hF (by kernel_rfl)).cons (t:=2) (hR.val 8 (by decide));clear hR ho;refine iW ?_;show eU aq Tryz.f29 (fun e w'=>e=aO (aA (Ki b ml ss ms))∧aC w.heap.size w w') fC a W;exact bw (cD rfl _ _ _) hF.defers ⟨congrArg aO (((hF.g 0 rfl):a.eval (aB 2)=aA ((!(jl ml ss ms))&&((j4 b ml ss ms)==0))).trans rfl),HB⟩
theorem Pa(b:BB)(p1:Option dc)(n1 c1:Nat)(hbig:20<n1)(w:ar):bp aq 18 #[aQ (b.cells (ae p1 n1 c1) (ae none 0 0) (ae none 0 0))] w fun e w'=>e=aG (aA true)∧aC w.heap.size w w':=by
 have hbI:(20:Int)<(n1:Int):=by omega
 refine oy Tryz.func18 rfl ?_;have hF:=l9 (args:=#[aQ (b.cells (ae p1 n1 c1) (ae none 0 0) (ae none 0 0))]) (n:=35) (by simp) [(0,aQ (b.cells (ae p1 n1 c1) (ae none 0 0) (ae none 0 0)))] ⟨oX rfl,trivial⟩;rw[show Tryz.f18.ntmps=35 from rfl];generalize (⟨#[aQ (b.cells (ae p1 n1 c1) (ae none 0 0) (ae none 0 0))] ++ aU (35 - (#[aQ (b.cells (ae p1 n1 c1) (ae none 0 0) (ae none 0 0))]:Array ak).size) af,[]⟩:Act)=a at *;refine(fun h : ∀W,aC w.heap.size w W→dH aq _ _ a W=>h w (aw _ _)) ?_;intro W HB
 refine cV [fun v ds w9=>∃B,v=pv B 0∧w9.heap[B]?=some (au (b.cells (ae p1 n1 c1) (ae none 0 0) (ae none 0 0)) 28 (0,0)),pV (aA false)]
  _ (by kernel_rfl) hF.size hF.base ?_ ?_ ?_
 ·refine⟨?_,sV,trivial⟩
  ·rintro v ds w1 w2 hS ⟨B,h1,h2⟩ hb;exact⟨B,h1,aK h2 hb⟩
 ·refine⟨?_,?_,trivial⟩<;>rintro ev w1 hS hc hg hf ⟨b0,-⟩ hd
  ·clear hd;refine Lag.Yields.value (v:=pv w1.heap.size 0) (w':=w1.alloc (au (b.cells (ae p1 n1 c1) (ae none 0 0) (ae none 0 0)) 28)) ?_ ⟨⟨_,rfl,ax _ _⟩,bI ((aw _ _).alloc (ay _) _)⟩;go_simp
  ·clear hd;refine yv ?_ rfl;go_simp
 intro a W hR;have ho:=hR.s;obtain⟨B1,e1,K1⟩:=hR.val 0 (by decide);replace e1:a.eval (aB 1)=a8 (some ⟨B1,0,none⟩):=e1;replace HB:=HB.tr ho;replace hF:=((hR.fr hF (by kernel_rfl)).cons (t:=1) e1).cons (t:=2) (hR.val 1 (by decide));clear hR ho e1;refine kh ?_
 refine cV [pV (a8 (some ⟨B1,12,none⟩)),pV (ae p1 n1 c1),pV (ah ag n1),pV (aA true),pV (aA true),fun v ds w9=>True,fun v ds w9=>True,fun v ds w9=>True,fun v ds w9=>True,pV (aA true),pV (aA true),fun v ds w9=>True,fun v ds w9=>True,fun v ds w9=>True,fun v ds w9=>True,pV (aA true)]
  _ (by kernel_rfl) hF.size hF.base ?_ ?_ ?_
 ·exact⟨sV,sV,sV,sV,sV,fun _ _ _ _ _ h _=>h,fun _ _ _ _ _ h _=>h,fun _ _ _ _ _ h _=>h,fun _ _ _ _ _ h _=>h,sV,sV,fun _ _ _ _ _ h _=>h,fun _ _ _ _ _ h _=>h,fun _ _ _ _ _ h _=>h,fun _ _ _ _ _ h _=>h,sV,trivial⟩
 ·refine⟨?_,?_,?_,?_,?_,?_,?_,?_,?_,?_,?_,?_,?_,?_,?_,?_,trivial⟩<;>rintro ev w1 hS hc hg hf ⟨-,b1,-,-⟩ hd
  all_goals try
   try have d0:ev (aB _)=_:=hd.1 rfl
   clear hd;refine yw rfl ?_ rfl;go_simp;done
  ·have d0:ev (aB 4)=_:=hd.1 rfl;clear hd;have z:=aH (aK K1 hS) 12 _ rfl;refine yv ?_ rfl;go_simp
  ·have d4:ev (aB 8)=_:=hd.1 rfl;clear hd;exact Lag.gN d4 rfl
  ·have d4:ev (aB 8)=_:=hd.2.1 rfl;clear hd;exact Lag.gN d4 rfl
  ·have d4:ev (aB 8)=_:=hd.2.1 rfl;clear hd;exact Lag.gN d4 rfl
  ·have d4:ev (aB 8)=_:=hd.2.1 rfl;clear hd;exact Lag.gN d4 rfl
  ·have d10:ev (aB 14)=_:=hd.1 rfl;clear hd;exact Lag.gN d10 rfl
  ·have d10:ev (aB 14)=_:=hd.2.1 rfl;clear hd;exact Lag.gN d10 rfl
  ·have d10:ev (aB 14)=_:=hd.2.1 rfl;clear hd;exact Lag.gN d10 rfl
  ·have d10:ev (aB 14)=_:=hd.2.1 rfl;clear hd;exact Lag.gN d10 rfl
 intro a W hR;have ho:=hR.s;replace HB:=HB.tr ho;replace K1:=aK K1 ho;replace hF:=(hR.fr hF (by kernel_rfl)).cons (t:=19) (hR.val 15 (by decide));clear hR ho;refine wp_cond (t:=true) (hF.g 0 rfl) ?_;show dH aq _ _ _ _;replace hF:=hF.tl;replace hF:=hF.tl
 refine cV [pV (aA true)]
  _ (by kernel_rfl) hF.size hF.base ?_ ?_ ?_
 ·exact⟨sV,trivial⟩
 ·refine⟨?_,trivial⟩<;>rintro ev w1 hS hc hg hf hb hd
  ·clear hd;refine yv ?_ rfl;go_simp
 intro a W hR;have ho:=hR.s;replace HB:=HB.tr ho;replace K1:=aK K1 ho;replace hF:=(hR.fr hF (by kernel_rfl)).cons (t:=2) (hR.val 0 (by decide));clear hR ho;refine iW ?_;show eU aq Tryz.f18 (fun e w'=>e=aO (aA true)∧aC w.heap.size w w') fC a W;exact bw (cD rfl _ _ _) hF.defers ⟨congrArg aO (((hF.g 0 rfl):a.eval (aB 2)=aA true).trans rfl),HB⟩
theorem Uw(b:BB)(p1:Option dc)(n1 c1:Nat)(hbig:20<n1)(w:ar):bp aq 29 #[aQ (b.cells (ae p1 n1 c1) (ae none 0 0) (ae none 0 0))] w fun e w'=>e=aG (aA false)∧aC w.heap.size w w':=by
 refine oy Tryz.func29 rfl ?_;have hF:=l9 (args:=#[aQ (b.cells (ae p1 n1 c1) (ae none 0 0) (ae none 0 0))]) (n:=11) (by simp) [(0,aQ (b.cells (ae p1 n1 c1) (ae none 0 0) (ae none 0 0)))] ⟨oX rfl,trivial⟩;rw[show Tryz.f29.ntmps=11 from rfl];generalize (⟨#[aQ (b.cells (ae p1 n1 c1) (ae none 0 0) (ae none 0 0))] ++ aU (11 - (#[aQ (b.cells (ae p1 n1 c1) (ae none 0 0) (ae none 0 0))]:Array ak).size) af,[]⟩:Act)=a at *;refine(fun h : ∀W,aC w.heap.size w W→dH aq _ _ a W=>h w (aw _ _)) ?_;intro W HB
 refine cV [fun v ds w9=>∃B,v=pv B 0∧w9.heap[B]?=some (au (b.cells (ae p1 n1 c1) (ae none 0 0) (ae none 0 0)) 28 (0,0)),pV (aA false)]
  _ (by kernel_rfl) hF.size hF.base ?_ ?_ ?_
 ·refine⟨?_,sV,trivial⟩
  ·rintro v ds w1 w2 hS ⟨B,h1,h2⟩ hb;exact⟨B,h1,aK h2 hb⟩
 ·refine⟨?_,?_,trivial⟩<;>rintro ev w1 hS hc hg hf ⟨b0,-⟩ hd
  ·clear hd;refine Lag.Yields.value (v:=pv w1.heap.size 0) (w':=w1.alloc (au (b.cells (ae p1 n1 c1) (ae none 0 0) (ae none 0 0)) 28)) ?_ ⟨⟨_,rfl,ax _ _⟩,bI ((aw _ _).alloc (ay _) _)⟩;go_simp
  ·clear hd;refine yv ?_ rfl;go_simp
 intro a W hR;have ho:=hR.s;obtain⟨B1,e1,K1⟩:=hR.val 0 (by decide);replace e1:a.eval (aB 1)=a8 (some ⟨B1,0,none⟩):=e1;replace HB:=HB.tr ho;replace hF:=((hR.fr hF (by kernel_rfl)).cons (t:=1) e1).cons (t:=2) (hR.val 1 (by decide));clear hR ho e1;replace hF:=hF.tl
 refine cV [pV (aQ (b.cells (ae p1 n1 c1) (ae none 0 0) (ae none 0 0))),pV (aA true),pV (aA false),pV (aA false),fun v ds w9=>True,fun v ds w9=>True,fun v ds w9=>True,pV (aA false),pV (aA false)]
  _ (by kernel_rfl) hF.size hF.base ?_ ?_ ?_
 ·exact⟨sV,sV,sV,sV,fun _ _ _ _ _ h _=>h,fun _ _ _ _ _ h _=>h,fun _ _ _ _ _ h _=>h,sV,sV,trivial⟩
 ·refine⟨?_,?_,?_,?_,?_,?_,?_,?_,?_,trivial⟩<;>rintro ev w1 hS hc hg hf ⟨b1,-,-⟩ hd
  all_goals try
   try have d0:ev (aB _)=_:=hd.1 rfl
   clear hd;refine yw rfl ?_ rfl;go_simp;done
  ·clear hd;have jG:=aK K1 hS;exact k8 28 rfl b1 jG aT rfl (by kernel_rfl) (rfl)
  ·have d0:ev (aB 3)=_:=hd.1 rfl;clear hd;refine yc (Pa b p1 n1 c1 hbig w1) ?_ (fun _=>rfl);go_simp
  ·have d3:ev (aB 6)=_:=hd.1 rfl;clear hd;exact Lag.gN d3 rfl
  ·have d3:ev (aB 6)=_:=hd.2.1 rfl;clear hd;exact Lag.gN d3 rfl
  ·have d3:ev (aB 6)=_:=hd.2.1 rfl;clear hd;exact Lag.gN d3 rfl
 intro a W hR;have ho:=hR.s;replace HB:=HB.tr ho;replace K1:=aK K1 ho;replace hF:=(hR.fr hF (by kernel_rfl)).cons (t:=2) (hR.val 8 (by decide));clear hR ho;refine iW ?_;show eU aq Tryz.f29 (fun e w'=>e=aO (aA false)∧aC w.heap.size w w') fC a W;exact bw (cD rfl _ _ _) hF.defers ⟨congrArg aO (((hF.g 0 rfl):a.eval (aB 2)=aA false).trans rfl),HB⟩
theorem Kb{l:List Int}{i:Nat}(h:i<l.length):l.getD i 0=l[i]:=by simp[h]
theorem Gl{f:Nat→Int}{n:Nat}{c:Int}(h:(((bf n).map f).find? fun h=>h !=0).getD c=0):(∀i,i<n→f i=0)∧c=0:=by
 cases e:((bf n).map f).find? (fun h=>h !=0) with
 |none=>
  rw[e] at h;rw[List.find?_eq_none] at e;refine⟨fun i hi=>?_,h⟩;have:=e _ (List.mem_map.2 ⟨i,bN.2 hi,rfl⟩);simpa using this
 |some x=>
  rw[e] at h;have:=List.find?_some e;simp at h this;exact absurd h this
theorem Pz{b:BB}(h:lO b=0):b.Ok:=by
 unfold lO at h;have h1:BQ b=false:=by cases e:BQ b<;>simp_all
 have h2:Ez b=false:=by cases e:Ez b<;>simp_all
 have h3:Gt b=false:=by cases e:Gt b<;>simp_all
 unfold BQ aL at h1;unfold Ez aL at h2;unfold Gt bZ at h3;simp at h1 h2 h3;constructor<;>omega
theorem Om{b:BB}{ss:List Int}(h:jv b ss=0):fp b ss:=by
 unfold jv at h;obtain⟨h1,h2⟩:=Gl h
 have hc:(ss.length:Int)≤b.ek:=by
  refine Int.not_lt.1 fun h'=>?_;rw[if_pos h'] at h2;cases h2
 have hk : ∀i (hi:i<ss.length),(1≤ss[i]∧ss[i]≤b.minutes)∧¬(0<i∧ss[i]≤ss.getD (i - 1) 0):=by
  intro i hi;have:=h1 i hi;unfold nW at this;rw[Kb hi] at this;cases e:aL ss[i] 1 b.minutes with
  |false=>rw[e] at this;simp at this
  |true=>
   refine⟨gP.1 e,fun h'=>?_⟩;rw[e,if_neg (by simp),if_pos h'] at this;cases this
 refine⟨fun p hp=>?_,fun k xC=>?_,hc⟩
 ·obtain⟨i,hi,rfl⟩:=lz hp;exact(hk i hi).1
 ·have:=(hk (k+1) xC).2;rw[show k+1 - 1=k from rfl,Kb (by omega)] at this;omega
theorem LI{b:BB}{ms:List Mk}(h:tO b ms=0):lu b ms:=by
 unfold tO at h
 have h3:(ms.length:Int)≤3:=by
  refine Int.not_lt.1 fun h'=>?_;rw[if_pos h'] at h;cases h
 rw[if_neg (by omega)] at h;obtain⟨h1,-⟩:=Gl h;refine⟨fun m hm=>?_,by omega⟩;obtain⟨i,hi,rfl⟩:=lz hm;have:=h1 i hi;unfold nZ at this;rw[JI ms i hi] at this;cases e:aL ms[i].minute 1 b.minutes with
 |false=>rw[e] at this;simp at this
 |true=>
  rw[e,if_neg (by simp)] at this;cases e2:bZ ms[i].lo ms[i].hi 0 99 with
  |false=>rw[e2] at this;simp at this
  |true=>
   have e:=gP.1 e;unfold bZ at e2;simp at e2;omega
theorem XX{b:BB}{ml:List Mn}{ss:List Int}{ms:List Mk}(h:Ki b ml ss ms=true):b.Ok∧wY ml∧fp b ss∧lu b ms:=by
 unfold Ki at h;rw[Bool.and_eq_true] at h;have h:=h.2;unfold j4 at h
 have h1:lO b=0:=by
  refine fM fun hn=>?_;rw[if_pos (by simpa using hn)] at h;simp at h;exact hn h
 rw[h1,if_neg (by simp)] at h
 have h2:m7 ml=0:=by
  refine fM fun hn=>?_;rw[if_pos (by simpa using hn)] at h;simp at h;exact hn h
 rw[h2,if_neg (by simp)] at h
 have h3:jv b ss=0:=by
  refine fM fun hn=>?_;rw[if_pos (by simpa using hn)] at h;simp at h;exact hn h
 rw[h3,if_neg (by simp)] at h;exact⟨Pz h1,QY h2,Om h3,LI (by simpa using h)⟩
theorem IE(p:Option dc)(n cap:Nat)(w:ar):bp aq 104 #[ae p n cap] w fun e w'=>e=aG (.func (.func 164) #[] #[pv w.heap.size 0])∧w'=w.alloc (au #[ae p n cap] 25):=by
 go_enter Tryz.func104,Tryz.ntmps104
 go_wp2
 go_ret
 exact⟨rfl,rfl⟩
theorem CR(b:BB)(hb:b.Ok)(men sent marks:ak)(pl:List Int)(hp:fp b pl)(cp:Nat)(lv:ak)(w:ar)(xZ:w.heap[cp]?=some (au #[lv] 25 (0,0)))(hl:Reads w lv pl.length (pl.map (aM ag))) :
  bp aq 164 #[aQ (b.cells men sent marks),pv cp 0] w fun e w'=>e=aG (ah ag 0)∧aC w.heap.size w w':=by
 have b1:aC w.heap.size w (w.alloc (au (b.cells men sent marks) 119)):=(aw _ _).alloc (ay _) _;have lp:=(aj.1 xZ).1;have x1:=aH ((b1.block _ lp).trans xZ) 0 _ rfl;have VN:=ai (tL b hb men sent marks lv pl hp _ (hl.below b1));have yb:=ai b1;clear xZ hl hp b1
 go_enter Tryz.func164,Tryz.ntmps164
 go_wp2_with (go_at_call 113;refine VN.out.mono ?_;clear VN;rintro e w1 ⟨rfl,hb1⟩;have px:=ai hb1;clear hb1)
 go_ret
 exact⟨rfl,yb.out.trans (px.out.mono yb.out.size)⟩
def BB.dep(b:BB)(d:Int):BB:={ b with depth:=d }
theorem BB.Mm{b:BB}(h:b.Ok){d:Int}(h1:0≤d)(h2:d≤99):(b.dep d).Ok:=⟨h.room,⟨h1,h2⟩,h.least,h.minutes,h.cu,h.iB,h.ek,h.ji,h.leak,h.Lu⟩
def jn(b:BB)(all:List eV)(p:Nat):Nat→Option Nat
 |0=>none
 |n+1=>if (b.dep n).sure all p then some n else jn b all p n
def VF(o:Option Nat):ak × Bool:=match o with|some n=>(ah ag n,true)|none=>(ah ag 0,false)
theorem EJ(b:BB)(men sent marks:ak)(ml:List Mn)(ss:List Int)(ms:List Mk)(w:ar)(hL:Laid w)(hB:cK b men sent marks ml ss ms w)(hne:bn b ml ss ms≠[])(pl:List Int)(hp:fp b pl)(lv:ak)(hl:Reads w lv pl.length (pl.map (aM ag))) :
  bp aq 25 #[aQ (b.cells men sent marks),lv] w fun e w'=>e=aG (bM #[(VF (jn b (bn b ml ss ms) (bK pl) 100)).1,aA (VF (jn b (bn b ml ss ms) (bK pl) 100)).2,ah ag 0])∧aC w.heap.size w w':=by
 have hlen:=jH ss ms hB.ok hB.iw;have kG:0<(bn b ml ss ms).length:=List.length_pos_iff.2 hne;have cZ:=hB.ok;have hao:=n4 (ss:=ss) (ms:=ms) hB.ok hB.iw;have Ac:=cZ.minutes;have pw : ∀s∈pl,1≤s∧s≤8:=fun s h=>by have:=hp.mem s h;omega
 have OV:bK pl<512:=ni pl pw;obtain⟨pm,cm,rfl,_⟩:=aV hB.rm;obtain⟨pn,cn,rfl,_⟩:=aV hB.rs;obtain⟨pk,ck,rfl,_⟩:=aV hB.rk;obtain⟨qu,qC,rfl,_⟩:=aV hl;have b1:aC w.heap.size w (w.alloc (au (b.cells (ae pm ml.length cm) (ae pn ss.length cn) (ae pk ms.length ck)) 28)):=(aw _ _).alloc (ay _) _;have hk:=ax w (au (b.cells (ae pm ml.length cm) (ae pn ss.length cn) (ae pk ms.length ck)) 28)
 have SN:Hid (∀W cp,aC w.heap.size w W→W.heap[cp]?=some (au #[ae qu pl.length qC] 25 (0,0))→bp aq 103 #[aQ (b.cells (ae pm ml.length cm) (ae pn ss.length cn) (ae pk ms.length ck)),.func (.func 164) #[] #[pv cp 0]] W fun e w'=>∃v,e=aG (bM #[aQ (b.open (ae pm ml.length cm) (ae pn ss.length cn) (ae pk ms.length ck) v),ah ag 0])∧ij w' W.heap.size v (bn b ml ss ms)∧aC W.heap.size W w'):=
  ai fun W cp I3 RA=>Cz b _ _ _ ml ss ms W (hL.below I3) (hB.below I3) hne cp fun W' hb'=>by
   have hlt:=(aj.1 RA).1;exact CR b cZ _ _ _ pl hp cp _ W' ((hb'.block _ hlt).trans RA) ((hl.below I3).below hb')
 have I5:=ai hl;have PN:=ai hao;have UT:=ai pw;clear hL hB hl hao hp pw;generalize bn b ml ss ms=all at *;generalize ml.length=lm at *;generalize ss.length=ln at *;generalize ms.length=lk at *
 go_enter Tryz.func25,Tryz.ntmps25
 go_wp2
 refine cj (by kernel_rfl) [
 pV (aQ (b.cells (ae pm lm cm) (ae pn ln cn) (ae pk lk ck))),
  pV (ae qu pl.length qC),
  fun v ds w9=>∃cp,v=.func (.func 164) #[] #[pv cp 0]∧w9.heap[cp]?=some (au #[ae qu pl.length qC] 25 (0,0)),
  fun v ds w9=>∃gv cv,v=bM #[aQ (b.open (ae pm lm cm) (ae pn ln cn) (ae pk lk ck) (ae (some ⟨gv,0,none⟩) all.length cv)),ah ag 0]∧ij w9 w.heap.size (ae (some ⟨gv,0,none⟩) all.length cv) all,
  fun v ds w9=>∃gv cv,v=bM #[aQ (b.open (ae pm lm cm) (ae pn ln cn) (ae pk lk ck) (ae (some ⟨gv,0,none⟩) all.length cv)),ah ag 0]∧ij w9 w.heap.size (ae (some ⟨gv,0,none⟩) all.length cv) all,
  fun v ds w9=>∃gv cv,v=aQ (b.open (ae pm lm cm) (ae pn ln cn) (ae pk lk ck) (ae (some ⟨gv,0,none⟩) all.length cv))∧ij w9 w.heap.size (ae (some ⟨gv,0,none⟩) all.length cv) all,
  pV (ah ag 0),
  fun v ds w9=>∃k,∃z:Array ak,v=pv k 0∧w.heap.size+1≤k∧w9.heap[k]?=some (au z 122 (0,0))∧z.size=16,
  fun v ds w9=>∃k gv cv,ds[0]?=some (pv k 0)∧w.heap.size+1≤k∧w9.heap[k]?=some (au (b.open (ae pm lm cm) (ae pn ln cn) (ae pk lk ck) (ae (some ⟨gv,0,none⟩) all.length cv)) 122 (0,0))∧ij w9 w.heap.size (ae (some ⟨gv,0,none⟩) all.length cv) all,
  pV (ah ag 0)]
  (fun w9=>w9.heap[w.heap.size]?=some (au (b.cells (ae pm lm cm) (ae pn ln cn) (ae pk lk ck)) 28 (0,0))∧aC w.heap.size w w9) [(2,pv w.heap.size 0),(1,ae qu pl.length qC)] (by kernel_rfl) ?rst (fun w1 w2 h hb=>⟨(hb.block _ (aj.1 h.1).1).trans h.1,h.2.trans (hb.mono h.2.size)⟩) (⟨hk,b1.drew⟩) ⟨rfl,rfl,trivial⟩ ?reach ?rfin
 case rst=>
  refine⟨sV,sV,?_,?_,?_,?_,sV,?_,?_,sV,trivial⟩
  ·rintro v ds w1 w2 hS ⟨cp,h1,h2⟩ hb;exact⟨cp,h1,(hb.block _ (aj.1 h2).1).trans h2⟩
  ·rintro v ds w1 w2 hS ⟨gv,cv,h1,h2⟩ hb;exact⟨gv,cv,h1,h2.at_ fun g hg=>hb.block g (h2.1.lt g hg).2⟩
  ·rintro v ds w1 w2 hS ⟨gv,cv,h1,h2⟩ hb;exact⟨gv,cv,h1,h2.at_ fun g hg=>hb.block g (h2.1.lt g hg).2⟩
  ·rintro v ds w1 w2 hS ⟨gv,cv,h1,h2⟩ hb;exact⟨gv,cv,h1,h2.at_ fun g hg=>hb.block g (h2.1.lt g hg).2⟩
  ·rintro v ds w1 w2 hS ⟨k,z,h1,h2,h3,h4⟩ hb;exact⟨k,z,h1,h2,(hb.block _ (aj.1 h3).1).trans h3,h4⟩
  ·rintro v ds w1 w2 hS ⟨k,gv,cv,h1,h0,h3,h2⟩ hb;exact⟨k,gv,cv,h1,h0,(hb.block _ (aj.1 h3).1).trans h3,h2.at_ fun g hg=>hb.block g (h2.1.lt g hg).2⟩
 case reach=>
  refine⟨?_,?_,?_,?_,?_,?_,?_,?_,?_,?_,trivial⟩<;>rintro ev w1 hS hc hg hf ⟨b2,b1,-⟩ hd
  ·clear hd;obtain⟨x0,x1,x2,x3,x4,x5,x6,x7,x8,x9,nG,nE,oh,nM,nQ⟩:=bQ hS.1;refine yv ?_ rfl;go_simp
  ·clear hd;refine yv ?_ rfl;go_simp
  ·have d1:ev (aB 10)=_:=hd.1 rfl;clear hd;refine Lag.Yields.call (f:=104) (args:=#[ae qu pl.length qC]) ?_ (IE _ _ _ _) ?_
   ·go_simp
   ·rintro e w2 ⟨rfl,rfl⟩;exact⟨_,rfl,⟨_,rfl,ax _ _⟩,bI ((aw _ _).alloc (ay _) _)⟩
  ·have d0:ev (aB 9)=_:=hd.1 rfl;obtain⟨cp,Ee,xZ⟩:=hd.2.1 rfl;clear hd;replace Ee:ev (aB 11)=_:=Ee;refine Lag.Yields.call (f:=103) (args:=#[aQ (b.cells (ae pm lm cm) (ae pn ln cn) (ae pk lk ck)),.func (.func 164) #[] #[pv cp 0]]) ?_ (SN.out w1 cp hS.2 xZ) ?_
   ·go_simp
   ·rintro e w2 ⟨v,rfl,jq,hb⟩
    obtain⟨gv,cv,rfl⟩ : ∃gv cv,v=ae (some ⟨gv,0,none⟩) all.length cv:=by
     rcases jq.1.2 with⟨_,h0⟩|⟨g,cap,cur,rfl,_⟩
     ·omega
     ·exact⟨g,cap,rfl⟩
    exact⟨_,rfl,⟨gv,cv,rfl,jq.base hS.2.size⟩,bI hb⟩
  ·exact yv rfl (hd.1 rfl)
  ·obtain⟨gv,cv,e11,jq⟩:=hd.1 rfl;clear hd;replace e11:ev (aB 8)=_:=e11;refine yv ?_ (⟨gv,cv,rfl,jq⟩);go_simp
  ·obtain⟨gv,cv,e11,jq⟩:=hd.1 rfl;clear hd;replace e11:ev (aB 8)=_:=e11;refine yv ?_ rfl;go_simp
  ·clear hd;refine Lag.Yields.value (v:=pv w1.heap.size 0) (w':=w1.alloc (au iv 122)) ?_ ⟨⟨_,_,rfl,(aj.1 hS.1).1,ax _ _,rfl⟩,bI ((aw _ _).alloc (ay _) _)⟩;go_simp
  ·obtain⟨k,z,e6,rF,hk2,hz⟩:=hd.1 rfl;replace e6:ev (aB 7)=_:=e6;obtain⟨gv,cv,Ml,jq⟩:=hd.2.1 rfl;clear hd;replace Ml:ev (aB 13)=_:=Ml;have CJ : ∀g cs t,w1.heap[g]?=some (au cs t (0,0))→t≠122→g≠k:=by rintro g cs t h1 h2 rfl;rw[hk2] at h1;cases h1;exact h2 rfl
   have DW : ∀(v:ak),ij w1 w.heap.size v all→ij (w1.setRow k (b.open (ae pm lm cm) (ae pn ln cn) (ae pk lk ck) (ae (some ⟨gv,0,none⟩) all.length cv))) w.heap.size v all:=fun v ho=>ho.at_ fun g hg=>setRow_other (by
    obtain⟨cur,q1,_⟩:=ho.2 g hg
    exact CJ g _ _ q1 (by decide))
   refine Lag.Yields.lR 122 _ _ rfl k _ e6 Ml 122 z hk2 (by kernel_rfl) hz (by simp[cy]) ⟨⟨k,gv,cv,congrArg some e6,rF,cM hk2,DW _ jq⟩,.inr ⟨⟨(setRow_other (by omega)).trans hS.1,dJ hS.2 (by omega)⟩,?_⟩⟩;intro j u ds hj hp
   match j,hp with
   |0,hp=>exact hp
   |1,hp=>exact hp
   |2,⟨cp,h1,h2⟩=>exact⟨cp,h1,(setRow_other (CJ _ _ _ h2 (by decide))).trans h2⟩
   |3,⟨D7,Eh,h1,h2⟩=>exact⟨D7,Eh,h1,DW _ h2⟩
   |4,⟨D7,Eh,h1,h2⟩=>exact⟨D7,Eh,h1,DW _ h2⟩
   |5,⟨D7,Eh,h1,h2⟩=>exact⟨D7,Eh,h1,DW _ h2⟩
   |6,hp=>exact hp
   |7,⟨k',z',h1,h2,h3,h4⟩=>
    by_cases tv:k'=k
    ·subst tv;exact⟨k',_,h1,h2,cM h3,rfl⟩
    ·exact⟨k',z',h1,h2,(setRow_other tv).trans h3,h4⟩
   |8,_=>exact(hj rfl).elim
   |9,hp=>exact hp
   |j+10,_=>trivial
  ·have d6:ev (aB 14)=_:=hd.1 rfl;clear hd;refine yv (v:=ev (aB 14)) ?_ (d6);rfl
 case rfin=>
  intro a2 w2 hR;have hS:=hR.s;obtain⟨k,gv,cv,Sc,rF,hk2,jq⟩:=hR.val 8 (by decide);have e9:a2.tmps.getD 6 af=_:=hR.val 9 (by decide);have ha:=hR.lits 42 rfl;simp only[bf,bR,List.map] at ha;rw[hR.kp 1 (by kernel_rfl),hR.kp 2 (by kernel_rfl),hR.kp 4 (by kernel_rfl),hR.kp 5 (by kernel_rfl)] at ha;simp only[kO,List.getD_cons_succ,List.getD_cons_zero] at ha;clear hR;have e6:a2.tmps.getD 7 af=pv k 0:=bt Sc;rw[e6,e9] at ha;generalize a2.tmps.getD=zz at ha;clear e6 Sc e9;subst ha;have sA:=hS.1;have rG:=hS.2;clear hS;have y1:=aH hk2 1 _ rfl;have f1:=cI hk2 1
  have Vo:gv≠k:=by
   obtain⟨cur,q1,_⟩:=jq.2 gv rfl;rintro rfl;rw[hk2] at q1;cases q1
  have FC:=ai hk2;have KT:=ai jq;have EI:=ai rG;clear hk2 jq rG sA hk b1 SN;go_wp2
  go_loopw [24] (fun _ wr=>∃n:Nat,n≤100∧wr.heap[k]?=some (au ((b.dep ((n:Int) - 1)).open (ae pm lm cm) (ae pn ln cn) (ae pk lk ck) (ae (some ⟨gv,0,none⟩) all.length cv)) 122 (0,0))∧ij wr w.heap.size (ae (some ⟨gv,0,none⟩) all.length cv) all∧aC w.heap.size w wr∧jn b all (bK pl) 100=jn b all (bK pl) n) (fun _ wr=>(intOf ((wr.cell? ⟨k,1,none⟩).getD af)+1).toNat)
  case atStart=>
   refine⟨100,by omega,bT _ FC.out,KT.out.at_ fun g hg=>bu _ _ _ _ ?_,EI.out.setCell (p:=⟨k,1,none⟩) (by show _≤k;omega) _,rfl⟩;have:g=gv:=by simpa [ju] using hg.symm
   subst this;exact Vo
  case round=>
   obtain⟨n,hn,Ub,jq,rG,J5⟩:=hrel;have z1:=aH Ub 1 _ rfl;have f1:=cI Ub 1;have yN:=(aj.1 Ub).1
   by_cases h0:0<n
   ·obtain⟨m,rfl⟩ : ∃m,n=m+1:=⟨n - 1,by omega⟩
    have hd:(b.dep (((m+1:Nat):Int) - 1))=b.dep m:=by congr 1;omega
    have hz:(((m+1:Nat):Int) - 1)=m:=by omega
    rw[hz] at Ub z1;have z2:wr.cell? ⟨k,1,none⟩=some (ah ag m):=z1;clear z1 hz hd;have hSu:=fun W (hb:aC wr.heap.size wr W)=>xi (b.dep m) (BB.Mm cZ (by omega) (by omega)) (ae pm lm cm) (ae pn ln cn) (ae pk lk ck) (ae (some ⟨gv,0,none⟩) all.length cv) all PN.out (bK pl) OV W ((jq.reads (by omega)).below hb);have HSu:=ai hSu
    have FB:Hid (∀w9,aC wr.heap.size wr w9→w9.heap[k]?=some (au ((b.dep m).open (ae pm lm cm) (ae pn ln cn) (ae pk lk ck) (ae (some ⟨gv,0,none⟩) all.length cv)) 122 (0,0))∧Reads w9 (ae qu pl.length qC) pl.length (pl.map (aM ag))):=ai fun w9 Md=>
     ⟨(Md.block _ yN).trans Ub,I5.out.below (rG.trans (Md.mono rG.size))⟩
    have hdp:jn b all (bK pl) (m+1)=if (b.dep m).sure all (bK pl) then some m else jn b all (bK pl) m:=rfl
    rw[hdp] at J5;have HDe:=ai J5;have HOr:=ai jq;have HKr:=ai Ub;have YT:=ai rG;clear hSu J5 hdp jq Ub rG;obtain⟨r,hr⟩ : ∃r,(b.dep m).sure all (bK pl)=r:=⟨_,rfl⟩
    rw[hr] at HSu HDe;clear hr;go_wp2
    refine cj (by kernel_rfl) [
    pV (aQ ((b.dep m).open (ae pm lm cm) (ae pn ln cn) (ae pk lk ck) (ae (some ⟨gv,0,none⟩) all.length cv))),
     pV (ae qu pl.length qC),
     pV (ah ag (bK pl)),
     pV (aA r)]
     (fun w9=>aC wr.heap.size wr w9) [(1,ae qu pl.length qC),(7,pv k 0)] (by kernel_rfl) ?rst (fun w1 w2 h hb=>h.trans (hb.mono h.size)) ((aw _ _).drew) ⟨rfl,rfl,trivial⟩ ?reach ?rfin
    case rst=>
     refine⟨sV,sV,sV,sV,trivial⟩
    case reach=>
     refine⟨?_,?_,?_,?_,trivial⟩<;>rintro ev w1 hS hc hg hf ⟨b1,b7,-⟩ hd
     ·clear hd;have q:=FB.out w1 hS;refine Lag.Yields.yH 122 _ rfl k b7 122 _ (0,0) _ q.1 Tryz.underlying122 rfl (by kernel_rfl) ⟨rfl,bI (aw _ _)⟩
     ·clear hd;refine yv ?_ rfl;go_simp
     ·have d1:ev (aB 35)=_:=hd.1 rfl;clear hd;have q:=FB.out w1 hS;refine yq (args:=#[ae qu pl.length qC]) (lL pl UT.out _ _ q.2) ?_ fun _=>rfl;go_simp
     ·have d0:ev (aB 34)=_:=hd.1 rfl;have d2:ev (aB 36)=_:=hd.2.1 rfl;clear hd;refine yc (HSu.out w1 hS) ?_ fun _=>rfl;go_simp
    case rfin=>
     intro a3 w3 hR;have hS:=hR.s;have e3:a3.tmps.getD 37 af=_:=hR.val 3 (by decide);have ha:=hR.lits 42 rfl;simp only[bf,bR,List.map] at ha;rw[hR.kp 0 (by kernel_rfl),hR.kp 1 (by kernel_rfl),hR.kp 2 (by kernel_rfl),hR.kp 3 (by kernel_rfl),hR.kp 7 (by kernel_rfl),hR.kp 8 (by kernel_rfl),hR.kp 9 (by kernel_rfl),hR.kp 10 (by kernel_rfl),hR.kp 11 (by kernel_rfl),hR.kp 12 (by kernel_rfl),hR.kp 13 (by kernel_rfl),hR.kp 14 (by kernel_rfl),hR.kp 15 (by kernel_rfl),hR.kp 16 (by kernel_rfl),hR.kp 17 (by kernel_rfl),hR.kp 18 (by kernel_rfl),hR.kp 19 (by kernel_rfl),hR.kp 20 (by kernel_rfl)] at ha;simp only[kO,List.getD_cons_succ,List.getD_cons_zero] at ha;clear hR;rw[e3] at ha;generalize a3.tmps.getD=zz at ha;have pI:=ai hS;clear e3 hS;subst ha;have q1:=(pI.out.block _ yN).trans HKr.out;have x1:w3.cell? ⟨k,1,none⟩=some (ah ag m):=aH q1 1 _ rfl;have x2:=cI q1 1;have HQ:=ai q1;clear q1;cases r
     ·have zz:IntKind.i64.wrap ((m:Int) - 1)=(m:Int) - 1:=by rw[gU];omega
      go_wp2;have q2:=bT (i:=1) (ah ag ((m:Int) - 1)) HQ.out;have x3:=aH q2 1 (ah ag ((m:Int) - 1)) rfl;refine⟨⟨m,by omega,q2,(HOr.out.old (Old.of_below pI.out)).at_ fun g hg=>bu _ _ _ _ ?_,(YT.out.trans (pI.out.mono YT.out.size)).setCell (p:=⟨k,1,none⟩) (by show _≤k;omega) _,by rw[HDe.out];simp⟩,?_⟩
      ·have:g=gv:=by simpa [ju] using hg.symm
       subst this;exact Vo
      ·rw[x3,z2];simp[intOf]
     ·go_wp2
      go_ret3
      exact⟨by rw[HDe.out];rfl,YT.out.trans (pI.out.mono YT.out.size)⟩
   ·obtain rfl:n=0:=by omega
    have hz:(((0:Nat):Int) - 1) = -1:=by omega
    rw[hz] at Ub z1;have z2:wr.cell? ⟨k,1,none⟩=some (ah ag (-1)):=z1;have HDe:=ai J5;have YT:=ai rG;clear Ub z1 J5 rG jq hz;go_wp2
    go_ret3
    exact⟨by rw[HDe.out];rfl,YT.out⟩
theorem vE(b:BB)(p1 p2 p3:Option dc)(n1 c1 n2 c2 n3 c3:Nat)(d:Int)(w:ar) :
  bp aq 47 #[aQ (b.cells (ae p1 n1 c1) (ae p2 n2 c2) (ae p3 n3 c3)),ah ag d] w fun e w'=>e=aG (aQ ((b.dep d).cells (ae p1 n1 c1) (ae p2 n2 c2) (ae p3 n3 c3)))∧aC w.heap.size w w':=by
 go_enter Tryz.func47,Tryz.ntmps47
 go_wp2_with fail
 refine bw (results_cell_row rfl _ _ (w.heap.size+1) 28 ((b.dep d).cells (ae p1 n1 c1) (ae p2 n2 c2) (ae p3 n3 c3)) (0,0) _ rfl ?_ aT rfl (by kernel_rfl)) rfl ⟨rfl,(((aw _ _).alloc (ay _) _).alloc (by simp) _).alloc (by simp;omega) _⟩;have h1:=ax (w.alloc (au (b.cells (ae p1 n1 c1) (ae p2 n2 c2) (ae p3 n3 c3)) 28)) (au ((b.dep d).cells (ae p1 n1 c1) (ae p2 n2 c2) (ae p3 n3 c3)) 28);rw[show(w.alloc (au (b.cells (ae p1 n1 c1) (ae p2 n2 c2) (ae p3 n3 c3)) 28)).heap.size=w.heap.size+1 by simp] at h1;exact aK h1 ((aw _ _).alloc (ay _) _)
theorem fp.nil{b:BB}(h:b.Ok):fp b []:=⟨by simp,by simp,by have:=h.ek;simpa using this.1⟩
theorem fp.next{b:BB}{pl:List Int}(h:fp b pl){k:Nat}(hk : ∀p∈pl,p≤k)(h1:(k:Int)+1≤b.minutes)(h2:(pl.length:Int)<b.ek):fp b (pl ++ [((k:Int)+1)]):=by
 refine⟨fun p hp=>?_,fun i hi=>?_,by simp;omega⟩
 ·rcases bJ.1 hp with hp|hp
  ·exact h.mem p hp
  ·simp at hp;omega
 ·simp at hi
  by_cases hi':i+1<pl.length
  ·rw[List.getElem_append_left (by omega),List.getElem_append_left hi'];exact h.asc i hi'
  ·have:=hk pl[i] (List.getElem_mem (by omega));rw[List.getElem_append_left (by omega),List.getElem_append_right (by omega)];simp;omega
theorem JB(b:BB)(hb:b.Ok)(p1 p2 p3:Option dc)(n1 c1 n2 c2 n3 c3:Nat)(x:Int)(w:ar) :
  bp aq 31 #[aQ (b.cells (ae p1 n1 c1) (ae p2 n2 c2) (ae p3 n3 c3)),ah .u16 x] w fun e w'=>∃v pl,e=aG v∧fp b pl∧w'.ownsRow w.heap.size 3 1 v pl.length (pl.map (aM ag))∧aC w.heap.size w w':=by
 obtain⟨i0,hi,hz0,hz1,hz2⟩:=info_parts info3;have hm:=hb.minutes;have hc:=hb.ek;have HN:=ai (fp.nil hb)
 go_enter Tryz.func31,Tryz.ntmps31
 go_wp2
 go_loopw [5,6] (fun v i wr=>∃(k:Nat) (pl:List Int),(k:Int)≤b.minutes∧i=ah ag (k+1)∧fp b pl∧(∀p∈pl,p≤k)∧wr.ownsRow (w.heap.size+1) 3 1 v pl.length (pl.map (aM ag))∧aC (w.heap.size+1) (w.alloc (au (b.cells (ae p1 n1 c1) (ae p2 n2 c2) (ae p3 n3 c3)) 28)) wr)
  (fun _ i _=>10 - (intOf i).toNat)
 case atStart=>exact⟨0,[],by omega,rfl,HN.out,by simp,World.ownsRow_nil _ _ _ _,aw _ _⟩
 case round=>
  obtain⟨k,pl,hk,rfl,hpl,hle,hown,eA⟩:=hrel;obtain⟨po,co,rfl⟩:=eu hown;have K:=aH (aK (ax w (au (b.cells (ae p1 n1 c1) (ae p2 n2 c2) (ae p3 n3 c3)) 28)) (eA.mono (by simp)));have z3:wr.cell? ⟨w.heap.size,3,none⟩=some (ah ag b.minutes):=K 3 _ rfl;have z6:wr.cell? ⟨w.heap.size,6,none⟩=some (ah ag b.ek):=K 6 _ rfl;clear K;have H1:=ai hpl;have H2:=ai hle;clear hpl hle;have hB:w.heap.size+1≤wr.heap.size:=by simpa using eA.size
  have nH:aC w.heap.size w wr:=((aw _ _).alloc (ay _) _).trans (eA.mono (by omega))
  by_cases hlt:(k:Int)+1≤b.minutes
  ·by_cases hlc:(pl.length:Int)<b.ek
   ·go_wp2_with (at_builtin;refine wpList_append_own _ rfl _ _ 25 rfl (w.heap.size+1) 3 i0 (ah ag 0) 1 8 Tryz.underlying25 hi hz0 hz1 hz2 rfl (by decide) _ _ _ rfl (hown.alloc _) ⟨wr.heap.size,0,none⟩ 1 1 [ah ag (k+1)] rfl rfl ?c1 ?c2 ?c3 ?c4 ?c5 ?_)
    case c1=>
     intro j u hj
     match j,hj with
     |0,hj=>simp at hj;subst hj;simp[Addr.add]
    case c2=>intro u hu;simp at hu;subst hu;rfl
    case c3=>unfold maxLen;omega
    case c4=>omega
    case c5=>simp;omega
    ·intro v' w1 hown' hgrow _;have hb1:aC (w.heap.size+1) _ w1:=td hB hown eA hgrow;clear hgrow eA hown
     have aak : ∀p∈pl ++ [((k:Int)+1)],p≤((k+1:Nat):Int):=by
      intro p hp;rcases bJ.1 hp with hp|hp
      ·have:=H2.out p hp;omega
      ·simp at hp;omega
     have HL:=ai aak;clear aak;go_wp2;go_roundw
     case rel=>exact⟨k+1,pl ++ [((k:Int)+1)],by omega,by go_num,H1.out.next H2.out hlt hlc,HL.out,by simpa using hown',hb1⟩
     case measure=>simp[intOf];omega
    ·go_roundw
     case rel=>exact⟨k+1,pl,by omega,by go_num,H1.out,fun p hp=>by have:=H2.out p hp;omega,hown,eA⟩
     case measure=>simp[intOf];omega
   ·go_wp2
    go_ret
    exact⟨_,rfl,pl,H1.out,ownsRow_base hown (by omega),nH⟩
  ·go_wp2
   go_ret
   exact⟨_,rfl,pl,H1.out,ownsRow_base hown (by omega),nH⟩
end Go.Proofs.YtffladgmkiimjaaGreatDoor
namespace Go.Proofs.YtffladgmkiimjaaGreatDoor
open Go.RowKit Go.Lag
open Go.Conc
def NK(p:Nat)(W:ar)(v:ak)(W':ar):Prop:=
 ∃lv:ak,v=bM #[lv,aA true,ah ag 0]∧Reads W' lv (ia p).length ((ia p).map (aM ag))∧Old W W'
theorem RV{b:BB}{men sent marks:ak}{ml:List Mn}{ss:List Int}{ms:List Mk}{W:ar}(hL:Laid W)(hB:cK b men sent marks ml ss ms W)(p1:Plain W men)(p2:Plain W sent)(p3:Plain W marks)(hne:bn b ml ss ms≠[])
  (xE:kg b (dw ss ms).toNat (bK ss) (bn b ml ss ms) 512≠[]) (hlt : ∀x∈kg b (dw ss ms).toNat (bK ss) (bn b ml ss ms) 512,x<512) (p:Nat)
  (hp : ∀x r,(x :: r).Perm (kg b (dw ss ms).toNat (bK ss) (bn b ml ss ms) 512)→jM sk x r=p):j6 aq 20 #[aQ (b.cells men sent marks)] W (NK p W):=by
 refine kZ quiet Tryz.func20 rfl ?hR ?body
 case hR=>
  rintro v W' τ d ⟨lv,h1,h2,h3⟩;exact⟨lv,h1,h2,vQ h3⟩
 simp only[Tryz.ntmps20,jI,jB,oC,Nat.reduceAdd,Nat.reduceSub,kj,ki,jJ,iG,kx,iM];refine lG quiet bm (fun a w=>a=⟨#[aQ (b.cells men sent marks),pv W.heap.size 0,ae none 0 0,aA false,ah ag 0,af,af,af,af,af],[]⟩∧Pk0 W W.heap.size (b.cells men sent marks) 28 w) (fun τ d=>?_) ?_
 ·go_wp2;exact⟨Dy (qh _ _),ax (cX W τ d) _⟩
 rintro a W1 ⟨rfl,⟨o1,x1⟩⟩;refine jD quiet (nR quiet ?_);refine fU (i:=0) (rest:=[1,2,3,4,5,6,7]) quiet rfl rfl fun τ d=>?_;refine wp_load_row 28 (aB 1) rfl W.heap.size rfl 28 _ (0,0) _ (w:=cX W1 τ d) x1 aT rfl (by kernel_rfl) ?_;have o2:Old W (cX W1 τ d):=np τ d o1;have YF:=QI (W:=cX W1 τ d) 96 sk (hL.old o2) (hB.old o2) (p1.old o2) (p2.old o2) (p3.old o2) hne xE hlt Py;refine mW (i:=1) (rest:=[2,3,4,5,6,7]) quiet rfl rfl (f:=95) (args:=#[aQ (b.cells men sent marks),.func (.func 96) #[] #[]]) (fun w=>by kernel_rfl) YF ?_;rintro out W3 _ ⟨x,r,lv,hperm,rfl,mC,o3⟩;rw[hp x r hperm] at mC;have o4:=o2.trans o3;refine fU (i:=2) (rest:=[3,4,5,6,7]) quiet rfl rfl fun τ2 d2=>?_;show ic aq _ _ [3,4,5,6,7] _ _;refine fU (i:=3) (rest:=[4,5,6,7]) quiet rfl rfl fun τ3 d3=>?_;show ic aq _ _ [4,5,6,7] _ _;refine fU (i:=4) (rest:=[5,6,7]) quiet rfl rfl fun τ4 d4=>?_;show ic aq _ _ [5,6,7] _ _;refine fU (i:=5) (rest:=[6,7]) quiet rfl rfl fun τ5 d5=>?_;show ic aq _ _ [6,7] _ _;refine fU (i:=6) (rest:=[7]) quiet rfl rfl fun τ6 d6=>?_;show ic aq _ _ [7] _ _;refine fU (i:=7) (rest:=[]) quiet rfl rfl fun τ7 d7=>?_;show ic aq _ _ [] _ _;refine mV (l:=[]) quiet (fun e a w h=>by cases e<;>first|rfl|exact(h:False).elim) fun τ8 d8=>?_;refine mg quiet bm fun τ9 d9=>xl ?_;refine iW ?_;refine bw (results_tmp3 rfl _ _ _) rfl ⟨_,rfl,lv,?_,mC,⟨o4.os,o4.output,o4.size,o4.block⟩⟩
 kernel_rfl
theorem Q6{b:BB}{men sent marks:ak}{ml:List Mn}{ss:List Int}{ms:List Mk}{W:ar}(hL:Laid W)(hB:cK b men sent marks ml ss ms W)(p1:Plain W men)(p2:Plain W sent)(p3:Plain W marks)(hne:bn b ml ss ms≠[])
  (xE:kg b (dw ss ms).toNat (bK ss) (bn b ml ss ms) 512≠[]) (hlt : ∀x∈kg b (dw ss ms).toNat (bK ss) (bn b ml ss ms) 512,x<512) (p:Nat)
  (hp : ∀x r,(x :: r).Perm (kg b (dw ss ms).toNat (bK ss) (bn b ml ss ms) 512)→jM sj x r=p):j6 aq 23 #[aQ (b.cells men sent marks)] W (NK p W):=by
 refine kZ quiet Tryz.func23 rfl ?hR ?body
 case hR=>
  rintro v W' τ d ⟨lv,h1,h2,h3⟩;exact⟨lv,h1,h2,vQ h3⟩
 simp only[Tryz.ntmps23,jI,jB,oC,Nat.reduceAdd,Nat.reduceSub,kj,ki,jJ,iG,kx,iM];refine lG quiet bm (fun a w=>a=⟨#[aQ (b.cells men sent marks),pv W.heap.size 0,ae none 0 0,aA false,ah ag 0,af,af,af,af,af],[]⟩∧Pk0 W W.heap.size (b.cells men sent marks) 28 w) (fun τ d=>?_) ?_
 ·go_wp2;exact⟨Dy (qh _ _),ax (cX W τ d) _⟩
 rintro a W1 ⟨rfl,⟨o1,x1⟩⟩;refine jD quiet (nR quiet ?_);refine fU (i:=0) (rest:=[1,2,3,4,5,6,7]) quiet rfl rfl fun τ d=>?_;refine wp_load_row 28 (aB 1) rfl W.heap.size rfl 28 _ (0,0) _ (w:=cX W1 τ d) x1 aT rfl (by kernel_rfl) ?_;have o2:Old W (cX W1 τ d):=np τ d o1;have YF:=QI (W:=cX W1 τ d) 102 sj (hL.old o2) (hB.old o2) (p1.old o2) (p2.old o2) (p3.old o2) hne xE hlt Px;refine mW (i:=1) (rest:=[2,3,4,5,6,7]) quiet rfl rfl (f:=95) (args:=#[aQ (b.cells men sent marks),.func (.func 102) #[] #[]]) (fun w=>by kernel_rfl) YF ?_;rintro out W3 _ ⟨x,r,lv,hperm,rfl,mC,o3⟩;rw[hp x r hperm] at mC;have o4:=o2.trans o3;refine fU (i:=2) (rest:=[3,4,5,6,7]) quiet rfl rfl fun τ2 d2=>?_;show ic aq _ _ [3,4,5,6,7] _ _;refine fU (i:=3) (rest:=[4,5,6,7]) quiet rfl rfl fun τ3 d3=>?_;show ic aq _ _ [4,5,6,7] _ _;refine fU (i:=4) (rest:=[5,6,7]) quiet rfl rfl fun τ4 d4=>?_;show ic aq _ _ [5,6,7] _ _;refine fU (i:=5) (rest:=[6,7]) quiet rfl rfl fun τ5 d5=>?_;show ic aq _ _ [6,7] _ _;refine fU (i:=6) (rest:=[7]) quiet rfl rfl fun τ6 d6=>?_;show ic aq _ _ [7] _ _;refine fU (i:=7) (rest:=[]) quiet rfl rfl fun τ7 d7=>?_;show ic aq _ _ [] _ _;refine mV (l:=[]) quiet (fun e a w h=>by cases e<;>first|rfl|exact(h:False).elim) fun τ8 d8=>?_;refine mg quiet bm fun τ9 d9=>xl ?_;refine iW ?_;refine bw (results_tmp3 rfl _ _ _) rfl ⟨_,rfl,lv,?_,mC,⟨o4.os,o4.output,o4.size,o4.block⟩⟩
 kernel_rfl
end Go.Proofs.YtffladgmkiimjaaGreatDoor
namespace Go.Proofs.YtffladgmkiimjaaGreatDoor
open Go.RowKit Go.Lag
theorem C0(a b:Int)(w:ar):bp aq 94 #[ah ag a,ah ag b] w fun e w'=>e=aG (aQ #[ah ag a,ah ag b])∧aC w.heap.size w w':=by
 go_enter Tryz.func94,Tryz.ntmps94
 go_wp2;exact bw (results_cell_row rfl _ _ w.heap.size 23 #[ah ag a,ah ag b] (0,0) _ rfl (ax w _) Tryz.underlying23 rfl (by kernel_rfl)) rfl ⟨rfl,(aw _ _).alloc (ay _) _⟩
theorem CA(a:Int)(w:ar):bp aq 86 #[ah ag a] w fun e w'=>e=aG (aQ #[ah ag a,ah ag a])∧aC w.heap.size w w':=by
 go_enter Tryz.func86,Tryz.ntmps86
 go_wp2_with (first
  |(go_at_call 94;refine(C0 a a _).mono ?_;rintro e w1 ⟨rfl,hb1⟩
    have hz:=(hb1.block w.heap.size (by simp)).trans (ax w (au #[ah ag 0,ah ag 0] 23));have HZ:=ai hz;have yb:=ai hb1
    clear hz hb1)
  |(refine wpList_store_row rfl 23 _ _ rfl _ _ rfl rfl 23 _ HZ.out (by kernel_rfl) rfl (by simp[cy]) ?_))
 exact bw (results_cell_row rfl _ _ w.heap.size 23 #[ah ag a,ah ag a] (0,0) _ rfl (cM HZ.out) Tryz.underlying23 rfl (by kernel_rfl)) rfl ⟨rfl,dJ (((aw _ _).alloc (ay _) _).trans (yb.out.mono (by simp))) (ay _)⟩
abbrev OA:Array Value:=#[ah ag 0,ah ag 0,ah ag 0,ah ag 0,ah ag 0,ah ag 0,ah ag 0,ah ag 0,ah ag 0,ah ag 0,ah ag 0,ah ag 0,ae none 0 0,ae none 0 0,ae none 0 0]
def ex:BB:=⟨30,33,9,5,2,20,2,3,0,1,1,2⟩
def j8:List Mn:=[⟨⟨#[97,110,110]⟩,3,4⟩,⟨⟨#[98,111]⟩,4,4⟩]
theorem Km(w:ar):bp aq 93 #[] w fun e w'=>∃g c,e=aG (aQ (ex.cells (ae (some ⟨g,0,none⟩) 2 c) (ae none 0 0) (ae none 0 0)))∧Reads w' (ae (some ⟨g,0,none⟩) 2 c) 2 (gu j8)∧w'.heap[g]?=some (au (gu j8).toArray 79 (0,0))∧w.heap.size≤g∧aC w.heap.size w w':=by
 have b0:aC w.heap.size w (w.alloc (au OA 28)):=(aw _ _).alloc (ay _) _;have h0:=ax w (au OA 28);have I6:=ai b0;have HH0:=ai h0;clear b0 h0
 go_enter Tryz.func93,Tryz.ntmps93
 go_wp2_with fail
 refine(C0 _ _ _).mono ?_;rintro e w1 ⟨rfl,hb1⟩;have H1:=ai hb1;clear hb1
 go_wp2_with fail
 refine(C0 _ _ _).mono ?_;rintro e w2 ⟨rfl,hb2⟩;have H2:=ai hb2;clear hb2
 go_wp2_with fail
 refine(C0 _ _ _).mono ?_;rintro e w3 ⟨rfl,hb3⟩;have H3:=ai hb3;clear hb3
 go_wp2_with fail
 refine(CA _ _).mono ?_;rintro e w4 ⟨rfl,hb4⟩
 have hb:aC (w.heap.size+1) (w.alloc (au OA 28)) w4:=by
  have h1:=H1.out;have h2:=H2.out;have h3:=H3.out;have s1:=h1.size;have s2:=h2.size;have s3:=h3.size;simp only[ey] at s1;exact((h1.mono (by simp)).trans (h2.mono (by omega))).trans ((h3.mono (by omega)).trans (hb4.mono (by omega)))
 have hs:=hb.size;simp only[ey] at hs;have hz:=(Below.heap_alloc w4 (au (gu j8).toArray 79) w.heap.size (by omega)).trans ((hb.block w.heap.size (by omega)).trans HH0.out);have HZ:=ai hz;have HW:Hid (aC w.heap.size w w4):=ai (I6.out.trans (hb.mono (by omega)));clear hb hz hb4
 go_wp2_with (refine wpList_store_row rfl 28 _ _ rfl _ _ rfl rfl 28 _ HZ.out (by kernel_rfl) rfl (by simp[cy]) ?_)
 have hg:((w4.alloc (au (gu j8).toArray 79)).setRow w.heap.size (ex.cells (ae (some ⟨w4.heap.size,0,none⟩) 2 2) (ae none 0 0) (ae none 0 0))).heap[w4.heap.size]?=some (au (gu j8).toArray 79 (0,0)):=(setRow_other (by omega)).trans (ax w4 _);refine bw (results_cell_row rfl _ _ w.heap.size 28 (ex.cells (ae (some ⟨w4.heap.size,0,none⟩) 2 2) (ae none 0 0) (ae none 0 0)) (0,0) _ rfl (cM HZ.out) aT rfl (by kernel_rfl)) rfl ⟨w4.heap.size,2,rfl,?_,hg,by omega,dJ (HW.out.alloc (by omega) _) (ay _)⟩
 exact .inr ⟨w4.heap.size,0,2,rfl,by omega,by rw[setRow_size];simp,fun j u hj=>by
  have:=aH hg j u (by simpa using hj)
  rw[Nat.zero_add];exact this⟩
end Go.Proofs.YtffladgmkiimjaaGreatDoor
