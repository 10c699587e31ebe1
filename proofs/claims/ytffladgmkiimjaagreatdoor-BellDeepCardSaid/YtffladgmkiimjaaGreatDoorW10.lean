/- A WORKER OF bell.good: its way to its sends and its end, out of what the lone walk of its first region says. A WORKER's QUESTION, ALONE: its first reg .. -/
import Derived.Test.YtffladgmkiimjaaGreatDoorW09
import Derived.Test.YtffladgmkiimjaaGreatDoorW00
import Derived.Deep.RegionHeld3
import Derived.Conc.LoneCalls
set_option linter.unusedVariables false
set_option linter.unusedSimpArgs false
set_option maxHeartbeats 100000000
set_option maxRecDepth 1000000
open Array renaming getElem?_setIfInBounds_self_of_lt → a7,getElem?_setIfInBounds_ne → aD,replicate → aU,getElem?_eq_some_iff → aj,append_empty → ep
open Bool renaming false_eq_true → bF
open Go renaming wp_mono → AP,Goroutine → aF,Program → aN,undef → af,Value → ak,World → ar,Frame → bP,TypeId → bg,Calls → bp,Operand → cB,Oper → cU,execOp → dX,Addr → dc,FuncId → eD,stepG → fK,Code → gZ,CallKind → jL,zeroValue → ja,Act → ko
open Go.Act renaming put → bS
open Go.Ending renaming returned → aG
open Go.Ground renaming data → eP,guard → kW
open Go.IntKind renaming i64 → ag
open Go.Operand renaming tmp → dI
open Go.Proofs.Tryz renaming prog → aq,f159 → kS
open Go.Region renaming wanted → dQ,ready → gV
open Go.RowKit renaming Below → aC
open Go.RowKit.Below renaming heap_alloc → aX,refl → aw
open Go.Value renaming bool → aA,int → aM,agg → aQ,int → ah
open Go.World renaming alloc_heap_new → ax,cell? → dU
open Go.stepG renaming apply → eE,oper → fG
open List renaming set_cons_zero → aI,set_cons_succ → aJ,setIfInBounds_toArray → az,range → bf,mem_cons → cC,map_cons → di,not_mem_nil → eR,map_nil → fW
open List.range renaming loop → bR
open Nat renaming le_refl → ay,lt_of_lt_of_le → bE,le_trans → bq
open Option renaming bind_some → iK
open Option.some renaming inj → bt
open Or renaming inl → bI
open Pure renaming pure → fA
namespace Go.Proofs.YtffladgmkiimjaaGreatDoor
open Go.Lag
open Go.Conc
noncomputable def w0:Code:=match Tryz.f178.body with|some (.seq (.seq a _) _)=>a|_=>.skip
noncomputable def w1:Code:=match Tryz.f178.body with|some (.seq (.seq _ (.cond _ a _)) _)=>a|_=>.skip
noncomputable def w2:Code:=match Tryz.f178.body with|some (.seq _ a)=>a|_=>.skip
def opsOf:gZ→Array cU|.region _ ops _=>ops|_=>#[]
theorem UG:Tryz.f178.body=some (.seq (.seq w0 (.cond (.tmp 6) w1 .skip)) w2):=by kernel_rfl
theorem Y2:w1=.region 1 (opsOf w1) false:=by kernel_rfl
theorem Y1:w2=.region 2 (opsOf w2) false:=by kernel_rfl
theorem Y3:iq aq fw w0=true:=by kernel_rfl
theorem VQ:eb w0=true:=by kernel_rfl
theorem Wj:vP aq 188=true:=by kernel_rfl
theorem Wi:vP aq 189=true:=by kernel_rfl
theorem Wl:vP aq 108=true:=by kernel_rfl
theorem Tn:(opsOf w1).size=3:=by kernel_rfl
theorem Tl:(opsOf w2).size=2:=by kernel_rfl
theorem Tq:(opsOf w1)[0]?=some ((opsOf w1).getD 0 default)∧((opsOf w1).getD 0 default).op=.load 188 (.tmp 2)∧((opsOf w1).getD 0 default).dst=some 7∧((opsOf w1).getD 0 default).guard=none:=⟨by kernel_rfl,by kernel_rfl,by kernel_rfl,by kernel_rfl⟩
theorem Tp:(opsOf w1)[1]?=some ((opsOf w1).getD 1 default)∧((opsOf w1).getD 1 default).op=.load 108 (.tmp 1)∧((opsOf w1).getD 1 default).dst=some 8∧((opsOf w1).getD 1 default).guard=none:=⟨by kernel_rfl,by kernel_rfl,by kernel_rfl,by kernel_rfl⟩
theorem P5:(opsOf w1)[2]?=some ((opsOf w1).getD 2 default)∧((opsOf w1).getD 2 default).op=.send (.tmp 7) (.tmp 8)∧((opsOf w1).getD 2 default).dst=none∧((opsOf w1).getD 2 default).guard=none:=⟨by kernel_rfl,by kernel_rfl,by kernel_rfl,by kernel_rfl⟩
theorem Tm:(opsOf w2)[0]?=some ((opsOf w2).getD 0 default)∧((opsOf w2).getD 0 default).op=.load 189 (.tmp 3)∧((opsOf w2).getD 0 default).dst=some 9∧((opsOf w2).getD 0 default).guard=none:=⟨by kernel_rfl,by kernel_rfl,by kernel_rfl,by kernel_rfl⟩
theorem P2:(opsOf w2)[1]?=some ((opsOf w2).getD 1 default)∧((opsOf w2).getD 1 default).op=.send (.tmp 9) (.const (.bool true))∧((opsOf w2).getD 1 default).dst=none∧((opsOf w2).getD 1 default).guard=none:=⟨by kernel_rfl,by kernel_rfl,by kernel_rfl,by kernel_rfl⟩
theorem VT:Tryz.f178.results = #[]:=by kernel_rfl
theorem Zn:Tryz.f178.ntmps=10:=by kernel_rfl
theorem Zp:(Tryz.f178.name == "runtime.NumGoroutine")=false:=by kernel_rfl
abbrev ptr(a:dc):Value:=.pointer (some a)
def Jb(xa pa fa ta:dc):Array Value:=#[ptr xa,ptr pa,ptr fa,ptr ta] ++ aU 6 af
section
variable{P:aN}{X:Nat→Prop}{w:ar}{xa pa fa ta:dc}{c0 c1:Nat}{p:ak}{s:Bool}{tmps:Array ak}{O:Nat→Prop}
structure WT(tmps:Array ak)(pa fa ta:dc)(s:Bool):Prop where
 size:tmps.size=10
 p:tmps[1]?=some (ptr pa)
 f:tmps[2]?=some (ptr fa)
 t:tmps[3]?=some (ptr ta)
 s:tmps[6]?=some (.bool s)
theorem bB{i:Nat}{v:ak}(h:tmps[i]?=some v):tmps.getD i af=v:=by
 rw[Array.getD_eq_getD_getElem?,h];rfl
theorem A1(e:P=aq)(hf:P.funcs[(178:Nat)]?=some Tryz.f178)(PS:X ta.block)(ht:w.cell? ta=some (.chan (some c1)))(hs:tmps.size=10)(h3:tmps[3]?=some (ptr ta)) :
  gX P c0 c1 X p false O (GK 178 tmps [.code w2] .deferred [mO P]) w:=by
 have Cc:CallKind.deferred≠.early:=by simp
 rw[Y1];refine .ctl rfl rfl (tY _ _) rfl rfl ?_;rw[Tl];show gX P c0 c1 X p false O (GK 178 tmps [.inRegion (opsOf w2) [0,1]] .deferred [mO P]) w;refine .one rfl rfl fun w' hr=>?_;have WL:w'.cell? ta=some (.chan (some c1)):=(jd (hr.keep _ (.inl PS))).trans ht;refine⟨_,_,zP Cc Tm.1 Tm.2.1 Tm.2.2.1 Tm.2.2.2 (by rw[e];exact Wi) (a:=ta) (bB h3) WL,Ec PS _,rfl,rfl,?_⟩;have h9:(tmps.setIfInBounds 9 (.chan (some c1)))[9]?=some (.chan (some c1)):=a7 (by omega);refine .A6 (n:=5) (FT Cc P2.1 P2.2.1 P2.2.2.2 (c:=c1) (v:=.bool true) (bB h9) rfl) ?_;rw[A5 P2.1 P2.2.2.1];exact Oj hf VT
theorem Je(e:P=aq)(hf:P.funcs[(178:Nat)]?=some Tryz.f178)(Vi:X pa.block)(Xj:X fa.block)(PS:X ta.block)(hp:w.cell? pa=some p)(hfc:w.cell? fa=some (.chan (some c0)))(ht:w.cell? ta=some (.chan (some c1)))(h:WT tmps pa fa ta s) :
  gX P c0 c1 X p s O (GK 178 tmps [.code (.cond (.tmp 6) w1 .skip),.code w2] .deferred [mO P]) w:=by
 have Cc:CallKind.deferred≠.early:=by simp
 refine .ctl rfl rfl (sH (x:=s) (bB h.s)) rfl rfl ?_;cases s with
 |false=>
  refine .ctl rfl rfl (fun w=>za w) rfl rfl ?_;exact A1 e hf PS ht h.size h.t
 |true=>
  show gX P c0 c1 X p true O (GK 178 tmps [.code w1,.code w2] .deferred [mO P]) w;rw[Y2];refine .ctl rfl rfl (tY _ _) rfl rfl ?_;rw[Tn];show gX P c0 c1 X p true O (GK 178 tmps [.inRegion (opsOf w1) [0,1,2],.code w2] .deferred [mO P]) w;refine .one rfl rfl fun w' hr=>?_;have adN:w'.cell? fa=some (.chan (some c0)):=(jd (hr.keep _ (.inl Xj))).trans hfc;have hp':w'.cell? pa=some p:=(jd (hr.keep _ (.inl Vi))).trans hp;have WL:w'.cell? ta=some (.chan (some c1)):=(jd (hr.keep _ (.inl PS))).trans ht;refine⟨_,_,zP Cc Tq.1 Tq.2.1 Tq.2.2.1 Tq.2.2.2 (by rw[e];exact Wj) (a:=fa) (bB h.f) adN,Ec Xj _,rfl,rfl,?_⟩;refine .one rfl rfl fun w'' hr'=>?_;have adh:w''.cell? pa=some p:=(jd (hr'.keep _ (.inl Vi))).trans hp';have acT:w''.cell? ta=some (.chan (some c1)):=(jd (hr'.keep _ (.inl PS))).trans WL;have hsz:=h.size;have h1':(tmps.setIfInBounds 7 (.chan (some c0)))[1]?=some (ptr pa):=by rw[aD (by omega)];exact h.p
  refine⟨_,_,zP Cc Tp.1 Tp.2.1 Tp.2.2.1 Tp.2.2.2 (by rw[e];exact Wl) (a:=pa) (bB h1') adh,Ec Vi _,rfl,rfl,?_⟩
  have h7:((tmps.setIfInBounds 7 (.chan (some c0))).setIfInBounds 8 p)[7]?=some (.chan (some c0)):=by
   rw[aD (by omega)];exact a7 (by omega)
  have h8:((tmps.setIfInBounds 7 (.chan (some c0))).setIfInBounds 8 p)[8]?=some p:=a7 (by simp;omega);refine .A7 (FT Cc P5.1 P5.2.1 P5.2.2.2 (c:=c0) (v:=p) (bB h7) (bB h8)) ?_;rw[A5 P5.1 P5.2.2.1];refine .ctl rfl rfl (ov _) rfl rfl ?_;refine A1 (tmps:=(tmps.setIfInBounds 7 (.chan (some c0))).setIfInBounds 8 p) e hf PS acT (by simp;omega) ?_;rw[aD (by omega),aD (by omega)];exact h.t
theorem worker(e:P=aq)(hf:P.funcs[(178:Nat)]?=some Tryz.f178)(hcl:Closed fw X w)(hX : ∀b,X b→P.globals.size≤b)(Bv:P.globals.size≤w.heap.size)(hin:P.inits.idxOf? 178=none)
  (wM:X xa.block) (Vi:X pa.block) (Xj:X fa.block) (PS:X ta.block) (hp:w.cell? pa=some p) (hfc:w.cell? fa=some (.chan (some c0))) (ht:w.cell? ta=some (.chan (some c1)))
  (h0 : ∀τ d,w0.wp P (fun e a W'=>e=.normal∧WT a.tmps pa fa ta s) ⟨Jb xa pa fa ta,[]⟩ (cX (shut X w) τ d)) :
  gX P c0 c1 X p s (fun _=>False) (vT P 178 #[ptr xa,ptr pa,ptr fa,ptr ta]) w:=by
 have hq:Quiet P:=quiet_of e;have OY:tq P fw:=Ke e;refine .ctl rfl rfl (Lc hf UG Zp _) rfl rfl ?_;rw[Zn];refine .ctl rfl rfl (jR _ _) rfl rfl (.ctl rfl rfl (jR _ _) rfl rfl ?_);have hwr:WR fw P.globals.size (fun b=>b<w.heap.size) (xr X) (shut X w) w:=M3 hcl hX;have PU : ∀a:dc,X a.block→VR fw (xr X) (ptr a) (ptr a):=fun a ha=>.ptr ⟨vh ha,rfl,rfl⟩
 have PW:iV fw (xr X) (Jb xa pa fa ta) (Jb xa pa fa ta):=by
  refine iV.append ?_ (.replicate tH 6);exact(((iV.one (PU xa wM)).push (PU pa Vi)).push (PU fa Xj)).push (PU ta PS)
 have U9:=xh (main:=false) (B:=fun b=>b<w.heap.size) hq OY (by rw[vI];exact Bv) (fn:=178) (kd:=.deferred) (by simp) hin (c:=w0) (by rw[e];exact Y3) VQ PW hwr Bv M4 (Q:=fun a _=>WT a.tmps pa fa ta s) (fun _ _ _ _ h=>h) h0 (S:=X) (A3 hcl) [.code (.cond (.tmp 6) w1 .skip),.code w2] [mO P];rw[FV hcl] at U9;have nx:=U9.keep w fun c hc=>⟨hcl.lt hc,id,rfl⟩
 refine gX.CB P c0 c1 nx ?_;rintro O g w' ⟨⟨lH,jh,jX,ρ1,rfl,Me,hQ,hkn⟩,hk⟩
 have same : ∀ {i:Nat} {a:dc},X a.block→lH[i]?=some (ptr a)→jh[i]?=some (ptr a):=by
  intro i a ha hi;obtain⟨y,hy,hv⟩:=Me.get hi;cases hv with
  |@ptr _ a' ER=>
   have h1:=hkn.le _ _ (vh ha);have h2:=ER.block;rw[h1] at h2;have h3:=bt h2;have h4:=ER.off;have h5:=ER.spot;obtain⟨b1,o1,s1⟩:=a;obtain⟨b2,o2,s2⟩:=a';dsimp only at h3 h4 h5;subst h3;subst h4;subst h5;exact hy
 have hs6:jh[6]?=some (.bool s):=by
  obtain⟨y,hy,hv⟩:=Me.get hQ.s;cases hv;exact hy
 have hc : ∀ {a:dc},X a.block→w'.cell? a=w.cell? a:=fun ha=>jd (hk _ ha).2.2;exact Je e hf Vi Xj PS ((hc Vi).trans hp) ((hc Xj).trans hfc) ((hc PS).trans ht) ⟨Me.size▸hQ.size,same Vi hQ.p,same Xj hQ.f,same PS hQ.t,hs6⟩
end
open Go.RowKit Go.Lag
theorem YZ(b:BB)(hb:b.Ok)(men sent marks v:ak)(l:List eV)(hl : ∀a∈l,a.Ok)(p:Nat)(hp:p<512)(xb pb fb tb:Nat)(w:ar)(hv:Reads w v l.length (rowOf l))
  (hx : ∀i u,(b.open men sent marks v)[i]?=some u→w.cell? ⟨xb,i,none⟩=some u) (hpc:w.cell? ⟨pb,0,none⟩=some (ah ag p)) :
  w0.wp aq (fun e a W'=>e=.normal∧WT a.tmps ⟨pb,0,none⟩ ⟨fb,0,none⟩ ⟨tb,0,none⟩ (b.sure l p)) ⟨Jb ⟨xb,0,none⟩ ⟨pb,0,none⟩ ⟨fb,0,none⟩ ⟨tb,0,none⟩,[]⟩ w:=by
 have x0:=hx 0 _ rfl;have x1:=hx 1 _ rfl;have x2:=hx 2 _ rfl;have x3:=hx 3 _ rfl;have x4:=hx 4 _ rfl;have x5:=hx 5 _ rfl;have x6:=hx 6 _ rfl;have x7:=hx 7 _ rfl;have x8:=hx 8 _ rfl;have x9:=hx 9 _ rfl;have nG:=hx 10 _ rfl;have nE:=hx 11 _ rfl;have oh:=hx 12 _ rfl;have nM:=hx 13 _ rfl;have nQ:=hx 14 _ rfl;have YY:=hx 15 _ rfl;clear hx;have hS:=xi b hb men sent marks v l hl p hp w hv;unfold w0 Jb;simp only[Tryz.f178]
 go_wp2_with (go_at_call 105;refine hS.mono ?_;rintro e w2 ⟨rfl,hb2⟩)
 exact⟨rfl,rfl,rfl,rfl,rfl⟩
def sL:gZ→gZ|.seq a _=>a|_=>.skip
def sR:gZ→gZ|.seq _ b=>b|_=>.skip
def bC:gZ→gZ|.block _ c=>c|_=>.skip
def lC:gZ→gZ|.loop c=>c|_=>.skip
def cT:gZ→gZ|.cond _ a _=>a|_=>.skip
def cE:gZ→gZ|.cond _ _ b=>b|_=>.skip
noncomputable def qQ:Code:=match Tryz.f159.body with|some c=>c|_=>.skip
noncomputable def gR0:Code:=sL qQ
noncomputable def gR1:Code:=sL (sR qQ)
noncomputable def gR2:Code:=sL (sR (sR qQ))
noncomputable def gR3:Code:=sL (sR (sR (sR qQ)))
noncomputable def gM:Code:=sL (sR (sR (sR (sR qQ))))
noncomputable def gN:Code:=sR (sR (sR (sR (sR qQ))))
noncomputable def gR4:Code:=sL gM
noncomputable def Ih:Code:=lC (bC (sR gM))
noncomputable def YN:Code:=sL Ih
noncomputable def Mh:Code:=bC (sL (sR (sR Ih)))
noncomputable def YM:Code:=sL Mh
noncomputable def YL:Code:=sL (sR Mh)
noncomputable def XR:Code:=sL (sL (sR (sR Mh)))
noncomputable def YK:Code:=sL (sR (sR (sR Mh)))
noncomputable def uD:Code:=sR (sR (sR (sR Mh)))
noncomputable def Kc:Code:=sR (sR (sR Ih))
noncomputable def Fe:Code:=sL gN
noncomputable def K6:Code:=lC (bC (sL (sR gN)))
noncomputable def Pd:Code:=sL (sL K6)
noncomputable def RR:Code:=bC (sR K6)
noncomputable def Ag:Code:=sL RR
noncomputable def nI:Code:=sL (sR RR)
noncomputable def RQ:Code:=bC (sR (sR RR))
noncomputable def Af:Code:=cT RQ
noncomputable def Pc:Code:=cT (cE RQ)
noncomputable def wy:Code:=sR (sR gN)
theorem UH:Tryz.f159.body=some (.seq gR0 (.seq gR1 (.seq gR2 (.seq gR3 (.seq (.seq gR4 (.block 0 (.loop Ih))) (.seq Fe (.seq (.block 2 (.loop K6)) wy))))))):=by kernel_rfl
theorem XT:Ih=.seq YN (.seq (.cond (.tmp 19) .skip (.exit 0)) (.seq (.block 1 Mh) Kc)):=by kernel_rfl
theorem XW:Mh=.seq YM (.seq YL (.seq (.seq XR (.cond (.tmp 50) (.exit 1) .skip)) (.seq YK uD))):=by kernel_rfl
theorem XS:K6=.seq (.seq Pd (.cond (.tmp 56) .skip (.exit 2))) (.block 3 RR):=by kernel_rfl
theorem XV:RR=.seq Ag (.seq nI (.block 4 RQ)):=by kernel_rfl
theorem XU:RQ=.cond (.tmp 61) Af (.cond (.tmp 62) Pc .skip):=by kernel_rfl
theorem Uu:uD=.region 10 (opsOf uD) false:=by kernel_rfl
theorem Ut:nI=.region 16 (opsOf nI) false:=by kernel_rfl
theorem acB:[YN,YM,YL,XR,YK,Kc,Fe,Pd,Ag,Af,Pc].all (fun c=>iq aq fw c&&eb c)=true:=by kernel_rfl
theorem abe(a:Array ak):a=((bf a.size).map fun i=>a.getD i af).toArray:=by
 apply Array.ext
 ·simp
 ·intro i h1 h2;simp[Array.getD,h1]
theorem tj(a:Array ak)(h:a.size=71):a=((bf 71).map fun i=>a.getD i af).toArray:=by
 have:=abe a;rw[h] at this;exact this
structure GT(xb fb tb:Nat)(sn:Nat)(tmps:Array ak)(many m:Int)(t8:ak):Prop where
 size:tmps.size=71
 t1:tmps[1]?=some (ptr ⟨xb,0,none⟩)
 t3:tmps[3]?=some (ah ag sn)
 t4:tmps[4]?=some (ptr ⟨fb,0,none⟩)
 t5:tmps[5]?=some (ptr ⟨tb,0,none⟩)
 t6:tmps[6]?=some (ah ag many)
 t18:tmps[18]?=some (ah ag m)
 t8:tmps[8]?=some t8
section
variable{xb fb tb sn:Nat}{tmps:Array ak}{many m:Int}{t8:ak}{lw:ar}
theorem pR5(h:GT xb fb tb sn tmps many m t8):YN.wp aq (fun e a W'=>e=.normal∧GT xb fb tb sn a.tmps many m t8∧a.tmps[19]?=some (aA (decide (m<512)))∧W'=lw) ⟨tmps,[]⟩ lw:=by
 have e1:=bB h.t1;have e3:=bB h.t3;have e4:=bB h.t4;have e5:=bB h.t5;have e6:=bB h.t6;have ES:=bB h.t18;have e8:=bB h.t8;rw[tj tmps h.size];simp only[bf,bR,di,fW,e1,e3,e4,e5,e6,ES,e8];clear e1 e3 e4 e5 e6 ES e8;simp only[YN,Ih,Mh,gM,gN,qQ,kS,sL,sR,bC,lC];go_wp2;exact⟨rfl,rfl,rfl,rfl,rfl,rfl,rfl,rfl⟩
theorem pR6(h:GT xb fb tb sn tmps many m t8):YM.wp aq (fun e a W'=>e=.normal∧GT xb fb tb sn a.tmps many m t8∧a.tmps[7]?=some (ah ag m)∧W'=lw) ⟨tmps,[]⟩ lw:=by
 have e1:=bB h.t1;have e3:=bB h.t3;have e4:=bB h.t4;have e5:=bB h.t5;have e6:=bB h.t6;have ES:=bB h.t18;have e8:=bB h.t8;rw[tj tmps h.size];simp only[bf,bR,di,fW,e1,e3,e4,e5,e6,ES,e8];clear e1 e3 e4 e5 e6 ES e8;simp only[YM,Ih,Mh,gM,gN,qQ,kS,sL,sR,bC,lC];go_wp2;exact⟨rfl,rfl,rfl,rfl,rfl,rfl,rfl,rfl⟩
def Q7(xb fb tb sn:Nat)(many:Int)(m:Nat)(lw:ar)(a:ko)(W':ar):Prop:=
 GT xb fb tb sn a.tmps many m (ptr ⟨lw.heap.size,0,none⟩)∧a.tmps[7]?=some (ah ag m)∧W'.heap[lw.heap.size]?=some (.cells #[ah ag ((sn ||| m:Nat):Int)] 108 (0,0))∧aC lw.heap.size lw W'
theorem pR7{m:Nat}(hs:sn<512)(hm:m<512)(h:GT xb fb tb sn tmps many m t8)(h7:tmps[7]?=some (ah ag m)):YL.wp aq (fun e a W'=>e=.normal∧Q7 xb fb tb sn many m lw a W') ⟨tmps,[]⟩ lw:=by
 have h64:=Zm sn m (by omega) (by omega);have e1:=bB h.t1;have e3:=bB h.t3;have e4:=bB h.t4;have e5:=bB h.t5;have e6:=bB h.t6;have ES:=bB h.t18;have e8:=bB h.t8;have e7:=bB h7;rw[tj tmps h.size];simp only[bf,bR,di,fW,e1,e3,e4,e5,e6,ES,e8,e7];clear e1 e3 e4 e5 e6 ES e8 e7;simp only[YL,Ih,Mh,gM,gN,qQ,kS,sL,sR,bC,lC];go_wp2;exact⟨⟨rfl,rfl,rfl,rfl,rfl,rfl,rfl,rfl⟩,rfl,ax _ _,(aw _ _).alloc (ay _) _⟩
theorem pR9(hm:0≤many∧many≤1000)(h:GT xb fb tb sn tmps many m t8):YK.wp aq (fun e a W'=>e=.normal∧GT xb fb tb sn a.tmps (many+1) m t8∧W'=lw) ⟨tmps,[]⟩ lw:=by
 have e1:=bB h.t1;have e3:=bB h.t3;have e4:=bB h.t4;have e5:=bB h.t5;have e6:=bB h.t6;have ES:=bB h.t18;have e8:=bB h.t8;rw[tj tmps h.size];simp only[bf,bR,di,fW,e1,e3,e4,e5,e6,ES,e8];clear e1 e3 e4 e5 e6 ES e8;simp only[YK,Ih,Mh,gM,gN,qQ,kS,sL,sR,bC,lC];go_wp2;exact⟨rfl,rfl,rfl,rfl,rfl,rfl,rfl,rfl⟩
theorem acy(hm:0≤m∧m≤1000)(h:GT xb fb tb sn tmps many m t8):Kc.wp aq (fun e a W'=>e=.normal∧GT xb fb tb sn a.tmps many (m+1) t8∧W'=lw) ⟨tmps,[]⟩ lw:=by
 have e1:=bB h.t1;have e3:=bB h.t3;have e4:=bB h.t4;have e5:=bB h.t5;have e6:=bB h.t6;have ES:=bB h.t18;have e8:=bB h.t8;rw[tj tmps h.size];simp only[bf,bR,di,fW,e1,e3,e4,e5,e6,ES,e8];clear e1 e3 e4 e5 e6 ES e8;simp only[Kc,Ih,Mh,gM,gN,qQ,kS,sL,sR,bC,lC];go_wp2;exact⟨rfl,rfl,rfl,rfl,rfl,rfl,rfl,rfl⟩
structure GH(fb tb:Nat)(tmps:Array ak)(many:Int)(v:ak):Prop where
 size:tmps.size=71
 t4:tmps[4]?=some (ptr ⟨fb,0,none⟩)
 t5:tmps[5]?=some (ptr ⟨tb,0,none⟩)
 t6:tmps[6]?=some (ah ag many)
 t9:tmps[9]?=some v
theorem acx(h:GT xb fb tb sn tmps many m t8):Fe.wp aq (fun e a W'=>e=.normal∧GH fb tb a.tmps many (.slice none 0 0)∧W'=lw) ⟨tmps,[]⟩ lw:=by
 have e1:=bB h.t1;have e3:=bB h.t3;have e4:=bB h.t4;have e5:=bB h.t5;have e6:=bB h.t6;have ES:=bB h.t18;have e8:=bB h.t8;rw[tj tmps h.size];simp only[bf,bR,di,fW,e1,e3,e4,e5,e6,ES,e8];clear e1 e3 e4 e5 e6 ES e8;simp only[Fe,Ih,Mh,gM,gN,qQ,kS,sL,sR,bC,lC];go_wp2;exact⟨rfl,rfl,rfl,rfl,rfl⟩
theorem acw{v:ak}(h:GH fb tb tmps many v):Pd.wp aq (fun e a W'=>e=.normal∧GH fb tb a.tmps many v∧a.tmps[56]?=some (aA (decide (0<many)))∧W'=lw) ⟨tmps,[]⟩ lw:=by
 have e4:=bB h.t4;have e5:=bB h.t5;have e6:=bB h.t6;have e9:=bB h.t9;rw[tj tmps h.size];simp only[bf,bR,di,fW,e4,e5,e6,e9];clear e4 e5 e6 e9;simp only[Pd,K6,RR,RQ,gN,qQ,kS,sL,sR,bC,lC,cT,cE];go_wp2;exact⟨rfl,rfl,rfl,rfl,rfl⟩
theorem Wh{v x y:ak}(h:GH fb tb tmps many v)(hf:lw.cell? ⟨fb,0,none⟩=some x)(ht:lw.cell? ⟨tb,0,none⟩=some y):Ag.wp aq (fun e a W'=>e=.normal∧GH fb tb a.tmps many v∧a.tmps[57]?=some x∧a.tmps[58]?=some y∧W'=lw) ⟨tmps,[]⟩ lw:=by
 have e4:=bB h.t4;have e5:=bB h.t5;have e6:=bB h.t6;have e9:=bB h.t9;rw[tj tmps h.size];simp only[bf,bR,di,fW,e4,e5,e6,e9];clear e4 e5 e6 e9;simp only[Ag,K6,RR,RQ,gN,qQ,kS,sL,sR,bC,lC,cT,cE];go_wp2;exact⟨rfl,rfl,rfl,rfl,rfl⟩
theorem acv{v:ak}(hm:0≤many∧many≤1000)(h:GH fb tb tmps many v):Pc.wp aq (fun e a W'=>e=.normal∧GH fb tb a.tmps (many - 1) v∧W'=lw) ⟨tmps,[]⟩ lw:=by
 have e4:=bB h.t4;have e5:=bB h.t5;have e6:=bB h.t6;have e9:=bB h.t9;rw[tj tmps h.size];simp only[bf,bR,di,fW,e4,e5,e6,e9];clear e4 e5 e6 e9;simp only[Pc,K6,RR,RQ,gN,qQ,kS,sL,sR,bC,lC,cT,cE];go_wp2;exact⟨rfl,rfl,rfl,rfl,rfl⟩
end
noncomputable def vd:Array Oper:=opsOf XR
theorem XQ:XR=.region 8 vd true:=by kernel_rfl
theorem Wp:Region.noSelect vd=true:=by kernel_rfl
theorem Y9:vd.size=27:=by kernel_rfl
abbrev Wa:Oper:={ dst:=some 24,op:=Op.move (dI 7),type:=3,pos:= "news.go:57",after:=#[],guard:=none }
abbrev V9:Oper:={ dst:=some 25,op:=Op.fieldAddr 122 (dI 1) 0,type:=0,pos:= "news.go:57",after:=#[],guard:=none }
abbrev V7:Oper:={ dst:=some 26,op:=Op.load 119 (dI 25),type:=119,pos:= "news.go:57",after:=#[{ on:=1,ground:=eP }],guard:=none }
abbrev V6:Oper:={ dst:=some 27,op:=Op.call { callee:=Callee.value (Operand.func 155),args:=#[dI 26],argTypes:=#[119] },type:=3,pos:= "news.go:57",after:=#[{ on:=2,ground:=eP }],guard:=none }
abbrev V5:Oper:={ dst:=some 28,op:=Op.binOp BinOp.shl 108 (Operand.const (aM IntKind.i64 1)) (dI 27) 3,type:=108,pos:= "news.go:57",after:=#[{ on:=3,ground:=eP }],guard:=none }
abbrev V4:Oper:={ dst:=some 29,op:=Op.binOp BinOp.sub 108 (dI 28) (Operand.const (aM IntKind.i64 1)) 108,type:=108,pos:= "news.go:57",after:=#[{ on:=4,ground:=eP }],guard:=none }
abbrev V3:Oper:={ dst:=some 30,op:=Op.binOp BinOp.and 108 (dI 24) (dI 29) 108,type:=108,pos:= "news.go:57",after:=#[{ on:=0,ground:=eP },{ on:=5,ground:=eP }],guard:=none }
abbrev VZ:Oper:={ dst:=some 31,op:=Op.binOp BinOp.neq 108 (dI 30) (Operand.const (aM IntKind.i64 0)) 108,type:=4,pos:= "news.go:57",after:=#[{ on:=6,ground:=eP }],guard:=none }
abbrev VY:Oper:={ dst:=some 32,op:=Op.move (dI 31),type:=4,pos:= "news.go:57",after:=#[{ on:=7,ground:=eP },{ on:=3,ground:=Ground.chain }],guard:=none }
abbrev VX:Oper:={ dst:=some 33,op:=Op.move (dI 7),type:=3,pos:= "news.go:57",after:=#[{ on:=8,ground:=kW }],guard:=some (8,false) }
abbrev QB:Oper:={ dst:=some 34,op:=Op.fieldAddr 122 (dI 1) 0,type:=0,pos:= "news.go:57",after:=#[{ on:=8,ground:=kW }],guard:=some (8,false) }
abbrev QA:Oper:={ dst:=some 35,op:=Op.fieldAddr 119 (dI 34) 0,type:=0,pos:= "news.go:57",after:=#[{ on:=10,ground:=eP },{ on:=8,ground:=kW }],guard:=some (8,false) }
abbrev Qz:Oper:={ dst:=some 36,op:=Op.fieldAddr 28 (dI 35) 3,type:=0,pos:= "news.go:57",after:=#[{ on:=11,ground:=eP },{ on:=8,ground:=kW }],guard:=some (8,false) }
abbrev Qy:Oper:={ dst:=some 37,op:=Op.load 3 (dI 36),type:=3,pos:= "news.go:57",after:=#[{ on:=12,ground:=eP },{ on:=8,ground:=kW }],guard:=some (8,false) }
abbrev Qx:Oper:={ dst:=some 38,op:=Op.binOp BinOp.add 3 (dI 37) (Operand.const (aM IntKind.i64 1)) 3,type:=3,pos:= "news.go:57",after:=#[{ on:=13,ground:=eP },{ on:=8,ground:=kW }],guard:=some (8,false) }
abbrev Qw:Oper:={ dst:=some 39,op:=Op.binOp BinOp.shl 3 (Operand.const (aM IntKind.i64 1)) (dI 38) 3,type:=3,pos:= "news.go:57",after:=#[{ on:=14,ground:=eP },{ on:=8,ground:=kW }],guard:=some (8,false) }
abbrev Qv:Oper:={ dst:=some 40,op:=Op.binOp BinOp.geq 3 (dI 33) (dI 39) 3,type:=4,pos:= "news.go:57",after:=#[{ on:=9,ground:=eP },{ on:=15,ground:=eP },{ on:=8,ground:=kW }],guard:=some (8,false) }
abbrev Qu:Oper:={ dst:=some 41,op:=Op.pick (dI 32) (Operand.const (Value.bool true)) (dI 40),type:=4,pos:= "news.go:57",after:=#[{ on:=8,ground:=eP },{ on:=16,ground:=eP }],guard:=none }
abbrev Qt:Oper:={ dst:=some 42,op:=Op.move (dI 41),type:=4,pos:= "news.go:57",after:=#[{ on:=17,ground:=eP },{ on:=8,ground:=Ground.chain }],guard:=none }
abbrev Qs:Oper:={ dst:=some 43,op:=Op.load 108 (dI 8),type:=108,pos:= "news.go:57",after:=#[{ on:=18,ground:=kW }],guard:=some (18,false) }
abbrev Qr:Oper:={ dst:=some 44,op:=Op.call { callee:=Callee.value (Operand.func 97),args:=#[dI 43],argTypes:=#[108] },type:=3,pos:= "news.go:57",after:=#[{ on:=19,ground:=eP },{ on:=18,ground:=Ground.chain },{ on:=18,ground:=kW }],guard:=some (18,false) }
abbrev Qq:Oper:={ dst:=some 45,op:=Op.fieldAddr 122 (dI 1) 0,type:=0,pos:= "news.go:57",after:=#[{ on:=18,ground:=kW }],guard:=some (18,false) }
abbrev Qp:Oper:={ dst:=some 46,op:=Op.fieldAddr 119 (dI 45) 0,type:=0,pos:= "news.go:57",after:=#[{ on:=21,ground:=eP },{ on:=18,ground:=kW }],guard:=some (18,false) }
abbrev Qo:Oper:={ dst:=some 47,op:=Op.fieldAddr 28 (dI 46) 6,type:=0,pos:= "news.go:57",after:=#[{ on:=22,ground:=eP },{ on:=18,ground:=kW }],guard:=some (18,false) }
abbrev Qn:Oper:={ dst:=some 48,op:=Op.load 3 (dI 47),type:=3,pos:= "news.go:57",after:=#[{ on:=23,ground:=eP },{ on:=18,ground:=kW }],guard:=some (18,false) }
abbrev Qm:Oper:={ dst:=some 49,op:=Op.binOp BinOp.gtr 3 (dI 44) (dI 48) 3,type:=4,pos:= "news.go:57",after:=#[{ on:=20,ground:=eP },{ on:=24,ground:=eP },{ on:=18,ground:=kW }],guard:=some (18,false) }
abbrev Ql:Oper:={ dst:=some 50,op:=Op.pick (dI 42) (Operand.const (Value.bool true)) (dI 49),type:=4,pos:= "news.go:57",after:=#[{ on:=18,ground:=eP },{ on:=25,ground:=eP }],guard:=none }
theorem dm{Q:Exit→ko→ar→Prop}{S:ar→Prop}(jN : ∀c a b w,Q (.panic c) a w→Q (.panic c) b w)(i:Nat)(oi:cU)(v:ak){fuel:Nat}{listed:Array Bool}{a:ko}{w:ar}
  (h1:vd[i]?=some oi) (h3:(Region.free .any vd listed i&&(gV .any vd listed).contains i)=true) (hy:YieldsIf aq vd S oi v a) (hS:S w) (h:wpAnyH aq .any vd Q S fuel (listed.setIfInBounds i true) (a.put oi.dst v) w) :
  wpAnyH aq .any vd Q S (fuel+1) listed a w:=wpAnyH_take h1 Wp (Bool.and_eq_true_iff.1 h3).1 (Bool.and_eq_true_iff.1 h3).2 (fun c a w h=>jN c _ _ w h) hy hS h
theorem K8{P:aN}{o:cU}{a:ko}{w:ar}{K:ko→ar→Prop}{Q:Exit→ko→ar→Prop}{f:eD}{args:Array ak}(he:(dX a.eval o).run P w=.ok (.enter f args) w){R:ak→ar→Prop}
  (hc:bp P f args w fun e w'=>∃v,e=aG v∧R v w') (h : ∀v w',R v w'→K (a.put o.dst v) w'):Oper.wp P o a w K Q:=by
 unfold Oper.wp;rw[he,Oper.upon_enter];exact hc.mono (by rintro e w' ⟨v,rfl,hv⟩;exact h v w' hv)
theorem call8{Q:Exit→ko→ar→Prop}{S:ar→Prop}(i:Nat)(oi:cU){fuel:Nat}{listed:Array Bool}{a:ko}{w:ar}(h1:vd[i]?=some oi)(h2:gV .any vd listed=[i])(hw:dQ oi (yielded vd a.tmps)=true)
  {f:eD} {args:Array ak} (he:(dX a.eval oi).run aq w=.ok (.enter f args) w) {R:ak→ar→Prop} (hc:bp aq f args w fun e w'=>∃v,e=aG v∧R v w')
  (h : ∀v w',R v w'→S w'∧wpAnyH aq .any vd Q S fuel (listed.setIfInBounds i true) (a.put oi.dst v) w'):wpAnyH aq .any vd Q S (fuel+1) listed a w:=by
 refine wpAnyH_ready (rs:=[i]) h2 (by simp) ?_;refine AllReadyH.cons (o:=oi) h1 (fun K hK=>?_) AllReadyH.nil;rw[if_pos hw];exact K8 he hc fun v w' hv=>hK.out _ _ (h v w' hv).1 fun _=>(h v w' hv).2
def ng(b:BB)(jr:Nat)(sn m:Nat):Bool:=decide (m &&& (2 ^ jr - 1)≠0)||decide (2 ^ (b.minutes.toNat+1)≤m)||decide (b.ek<((upTo (sn ||| m) 8).length:Int))
structure S8(b:BB)(men sent marks:ak)(xb pb p:Nat)(w:ar):Prop where
 x : ∀i u,(b.cells men sent marks)[i]?=some u→w.cell? ⟨xb,i,none⟩=some u
 p:w.cell? ⟨pb,0,none⟩=some (ah ag p)
structure F8(Y4:Array ak)(r:Bool)(a:ko):Prop where
 size:a.tmps.size=71
 d:a.defers=[]
 t50:a.tmps[50]?=some (aA r)
 keep : ∀i∈[1,3,4,5,6,8,18],a.tmps[i]?=Y4[i]?
theorem r8A{Q:Exit→ko→ar→Prop}{S:ar→Prop}(jN : ∀c a b w,Q (.panic c) a w→Q (.panic c) b w){b:BB}{men sent marks:ak}{xb pb p m jr mk mn n:Nat}{Y Z:Int}(O6 : ∀w,S w→S8 b men sent marks xb pb p w)
  (hB : ∀w,S w→bp aq 155 #[aQ (b.cells men sent marks)] w fun e w'=>∃v,e=aG v∧(v=ah ag jr∧S w')) (hC : ∀w,S w→bp aq 97 #[ah ag p] w fun e w'=>∃v,e=aG v∧(v=ah ag n∧S w'))
  (w1:IntKind.i64.wrap (2 ^ jr)=Y) (w2:IntKind.i64.wrap (Y - 1)=Y - 1) (a1:bits .and ag (m:Int) (Y - 1)=(mk:Int)) (w3:IntKind.i64.wrap (b.minutes+1)=((mn+1:Nat):Int)) (w4:IntKind.i64.wrap (2 ^ (mn+1))=Z) (Mc:jr≤9) (hmn:mn≤8) (d1:((mk:Int) !=0)=true)
  (t:Nat→ak) (hQ : ∀a w,F8 #[t 0,ptr ⟨xb,0,none⟩,t 2,t 3,t 4,t 5,t 6,ah ag m,ptr ⟨pb,0,none⟩,t 9,t 10,t 11,t 12,t 13,t 14,t 15,t 16,t 17,t 18,t 19,t 20,t 21,t 22,t 23,t 24,t 25,t 26,t 27,t 28,t 29,t 30,t 31,t 32,t 33,t 34,t 35,t 36,t 37,t 38,t 39,t 40,t 41,t 42,t 43,t 44,t 45,t 46,t 47,t 48,t 49,t 50,t 51,t 52,t 53,t 54,t 55,t 56,t 57,t 58,t 59,t 60,t 61,t 62,t 63,t 64,t 65,t 66,t 67,t 68,t 69,t 70] true a→S w→Q .normal a w) {w:ar} (hS:S w) :
  wpAnyH aq .any vd Q S 27 (aU 27 false) ⟨#[t 0,ptr ⟨xb,0,none⟩,t 2,t 3,t 4,t 5,t 6,ah ag m,ptr ⟨pb,0,none⟩,t 9,t 10,t 11,t 12,t 13,t 14,t 15,t 16,t 17,t 18,t 19,t 20,t 21,t 22,t 23,t 24,t 25,t 26,t 27,t 28,t 29,t 30,t 31,t 32,t 33,t 34,t 35,t 36,t 37,t 38,t 39,t 40,t 41,t 42,t 43,t 44,t 45,t 46,t 47,t 48,t 49,t 50,t 51,t 52,t 53,t 54,t 55,t 56,t 57,t 58,t 59,t 60,t 61,t 62,t 63,t 64,t 65,t 66,t 67,t 68,t 69,t 70],[]⟩ w:=by
 refine dm jN 0 Wa (ah ag m) rfl (by kernel_rfl) (bI ⟨by kernel_rfl,fun w9 hSw=>?_⟩) hS ?_
 ·go_simp
 simp only[bS,az,aI,aJ];refine dm jN 1 V9 (ptr ⟨xb,0,none⟩) rfl (by kernel_rfl) (bI ⟨by kernel_rfl,fun w9 hSw=>?_⟩) hS ?_
 ·go_simp
 simp only[bS,az,aI,aJ];refine dm jN 2 V7 (aQ (b.cells men sent marks)) rfl (by kernel_rfl) (bI ⟨by kernel_rfl,fun w9 hSw=>?_⟩) hS ?_
 ·replace hSw:=O6 _ hSw;have x0:=hSw.x 0 _ rfl;have x1:=hSw.x 1 _ rfl;have x2:=hSw.x 2 _ rfl;have x3:=hSw.x 3 _ rfl;have x4:=hSw.x 4 _ rfl;have x5:=hSw.x 5 _ rfl;have x6:=hSw.x 6 _ rfl;have x7:=hSw.x 7 _ rfl;have x8:=hSw.x 8 _ rfl;have x9:=hSw.x 9 _ rfl;have nG:=hSw.x 10 _ rfl;have nE:=hSw.x 11 _ rfl;have oh:=hSw.x 12 _ rfl;have nM:=hSw.x 13 _ rfl;have nQ:=hSw.x 14 _ rfl;go_simp
 simp only[bS,az,aI,aJ];refine call8 3 V6 rfl (by kernel_rfl) (by kernel_rfl) (f:=155) (args:=#[aQ (b.cells men sent marks)]) (by kernel_rfl) (R:=fun v w'=>v=ah ag jr∧S w') (hB _ hS) ?_;clear hS;rintro _ w1 ⟨rfl,hS⟩;refine⟨hS,?_⟩;simp only[bS,az,aI,aJ];refine dm jN 4 V5 (ah ag Y) rfl (by kernel_rfl) (bI ⟨by kernel_rfl,fun w9 hSw=>?_⟩) hS ?_
 ·go_simp
 simp only[bS,az,aI,aJ];refine dm jN 5 V4 (ah ag (Y - 1)) rfl (by kernel_rfl) (bI ⟨by kernel_rfl,fun w9 hSw=>?_⟩) hS ?_
 ·go_simp
 simp only[bS,az,aI,aJ];refine dm jN 6 V3 (ah ag mk) rfl (by kernel_rfl) (bI ⟨by kernel_rfl,fun w9 hSw=>?_⟩) hS ?_
 ·go_simp
 simp only[bS,az,aI,aJ];refine dm jN 7 VZ (aA true) rfl (by kernel_rfl) (bI ⟨by kernel_rfl,fun w9 hSw=>?_⟩) hS ?_
 ·go_simp
 simp only[bS,az,aI,aJ];refine dm jN 8 VY (aA true) rfl (by kernel_rfl) (bI ⟨by kernel_rfl,fun w9 hSw=>?_⟩) hS ?_
 ·go_simp
 simp only[bS,az,aI,aJ];refine dm jN 9 VX af rfl (by kernel_rfl) (.inr ⟨by kernel_rfl,rfl⟩) hS ?_;simp only[bS,az,aI,aJ];refine dm jN 10 QB af rfl (by kernel_rfl) (.inr ⟨by kernel_rfl,rfl⟩) hS ?_;simp only[bS,az,aI,aJ];refine dm jN 11 QA af rfl (by kernel_rfl) (.inr ⟨by kernel_rfl,rfl⟩) hS ?_;simp only[bS,az,aI,aJ];refine dm jN 12 Qz af rfl (by kernel_rfl) (.inr ⟨by kernel_rfl,rfl⟩) hS ?_;simp only[bS,az,aI,aJ];refine dm jN 13 Qy af rfl (by kernel_rfl) (.inr ⟨by kernel_rfl,rfl⟩) hS ?_;simp only[bS,az,aI,aJ];refine dm jN 14 Qx af rfl (by kernel_rfl) (.inr ⟨by kernel_rfl,rfl⟩) hS ?_;simp only[bS,az,aI,aJ];refine dm jN 15 Qw af rfl (by kernel_rfl) (.inr ⟨by kernel_rfl,rfl⟩) hS ?_;simp only[bS,az,aI,aJ];refine dm jN 16 Qv af rfl (by kernel_rfl) (.inr ⟨by kernel_rfl,rfl⟩) hS ?_;simp only[bS,az,aI,aJ];refine dm jN 17 Qu (aA true) rfl (by kernel_rfl) (bI ⟨by kernel_rfl,fun w9 hSw=>?_⟩) hS ?_
 ·go_simp
 simp only[bS,az,aI,aJ];refine dm jN 18 Qt (aA true) rfl (by kernel_rfl) (bI ⟨by kernel_rfl,fun w9 hSw=>?_⟩) hS ?_
 ·go_simp
 simp only[bS,az,aI,aJ];refine dm jN 19 Qs af rfl (by kernel_rfl) (.inr ⟨by kernel_rfl,rfl⟩) hS ?_;simp only[bS,az,aI,aJ];refine dm jN 20 Qr af rfl (by kernel_rfl) (.inr ⟨by kernel_rfl,rfl⟩) hS ?_;simp only[bS,az,aI,aJ];refine dm jN 21 Qq af rfl (by kernel_rfl) (.inr ⟨by kernel_rfl,rfl⟩) hS ?_;simp only[bS,az,aI,aJ];refine dm jN 22 Qp af rfl (by kernel_rfl) (.inr ⟨by kernel_rfl,rfl⟩) hS ?_;simp only[bS,az,aI,aJ];refine dm jN 23 Qo af rfl (by kernel_rfl) (.inr ⟨by kernel_rfl,rfl⟩) hS ?_;simp only[bS,az,aI,aJ];refine dm jN 24 Qn af rfl (by kernel_rfl) (.inr ⟨by kernel_rfl,rfl⟩) hS ?_;simp only[bS,az,aI,aJ];refine dm jN 25 Qm af rfl (by kernel_rfl) (.inr ⟨by kernel_rfl,rfl⟩) hS ?_;simp only[bS,az,aI,aJ];refine dm jN 26 Ql (aA true) rfl (by kernel_rfl) (bI ⟨by kernel_rfl,fun w9 hSw=>?_⟩) hS ?_
 ·go_simp
 simp only[bS,az,aI,aJ];refine wpAnyH_done (by kernel_rfl) (hQ _ _ ⟨rfl,rfl,rfl,fun i hi=>?_⟩ hS) _;simp only[cC,eR,or_false] at hi;rcases hi with rfl|rfl|rfl|rfl|rfl|rfl|rfl<;>rfl
theorem r8B{Q:Exit→ko→ar→Prop}{S:ar→Prop}(jN : ∀c a b w,Q (.panic c) a w→Q (.panic c) b w){b:BB}{men sent marks:ak}{xb pb p m jr mk mn n:Nat}{Y Z:Int}(O6 : ∀w,S w→S8 b men sent marks xb pb p w)
  (hB : ∀w,S w→bp aq 155 #[aQ (b.cells men sent marks)] w fun e w'=>∃v,e=aG v∧(v=ah ag jr∧S w')) (hC : ∀w,S w→bp aq 97 #[ah ag p] w fun e w'=>∃v,e=aG v∧(v=ah ag n∧S w'))
  (w1:IntKind.i64.wrap (2 ^ jr)=Y) (w2:IntKind.i64.wrap (Y - 1)=Y - 1) (a1:bits .and ag (m:Int) (Y - 1)=(mk:Int)) (w3:IntKind.i64.wrap (b.minutes+1)=((mn+1:Nat):Int)) (w4:IntKind.i64.wrap (2 ^ (mn+1))=Z) (Mc:jr≤9) (hmn:mn≤8) (d1:((mk:Int) !=0)=false) (d2:decide (Z≤(m:Int))=true)
  (t:Nat→ak) (hQ : ∀a w,F8 #[t 0,ptr ⟨xb,0,none⟩,t 2,t 3,t 4,t 5,t 6,ah ag m,ptr ⟨pb,0,none⟩,t 9,t 10,t 11,t 12,t 13,t 14,t 15,t 16,t 17,t 18,t 19,t 20,t 21,t 22,t 23,t 24,t 25,t 26,t 27,t 28,t 29,t 30,t 31,t 32,t 33,t 34,t 35,t 36,t 37,t 38,t 39,t 40,t 41,t 42,t 43,t 44,t 45,t 46,t 47,t 48,t 49,t 50,t 51,t 52,t 53,t 54,t 55,t 56,t 57,t 58,t 59,t 60,t 61,t 62,t 63,t 64,t 65,t 66,t 67,t 68,t 69,t 70] true a→S w→Q .normal a w) {w:ar} (hS:S w) :
  wpAnyH aq .any vd Q S 27 (aU 27 false) ⟨#[t 0,ptr ⟨xb,0,none⟩,t 2,t 3,t 4,t 5,t 6,ah ag m,ptr ⟨pb,0,none⟩,t 9,t 10,t 11,t 12,t 13,t 14,t 15,t 16,t 17,t 18,t 19,t 20,t 21,t 22,t 23,t 24,t 25,t 26,t 27,t 28,t 29,t 30,t 31,t 32,t 33,t 34,t 35,t 36,t 37,t 38,t 39,t 40,t 41,t 42,t 43,t 44,t 45,t 46,t 47,t 48,t 49,t 50,t 51,t 52,t 53,t 54,t 55,t 56,t 57,t 58,t 59,t 60,t 61,t 62,t 63,t 64,t 65,t 66,t 67,t 68,t 69,t 70],[]⟩ w:=by
 refine dm jN 0 Wa (ah ag m) rfl (by kernel_rfl) (bI ⟨by kernel_rfl,fun w9 hSw=>?_⟩) hS ?_
 ·go_simp
 simp only[bS,az,aI,aJ];refine dm jN 1 V9 (ptr ⟨xb,0,none⟩) rfl (by kernel_rfl) (bI ⟨by kernel_rfl,fun w9 hSw=>?_⟩) hS ?_
 ·go_simp
 simp only[bS,az,aI,aJ];refine dm jN 2 V7 (aQ (b.cells men sent marks)) rfl (by kernel_rfl) (bI ⟨by kernel_rfl,fun w9 hSw=>?_⟩) hS ?_
 ·replace hSw:=O6 _ hSw;have x0:=hSw.x 0 _ rfl;have x1:=hSw.x 1 _ rfl;have x2:=hSw.x 2 _ rfl;have x3:=hSw.x 3 _ rfl;have x4:=hSw.x 4 _ rfl;have x5:=hSw.x 5 _ rfl;have x6:=hSw.x 6 _ rfl;have x7:=hSw.x 7 _ rfl;have x8:=hSw.x 8 _ rfl;have x9:=hSw.x 9 _ rfl;have nG:=hSw.x 10 _ rfl;have nE:=hSw.x 11 _ rfl;have oh:=hSw.x 12 _ rfl;have nM:=hSw.x 13 _ rfl;have nQ:=hSw.x 14 _ rfl;go_simp
 simp only[bS,az,aI,aJ];refine call8 3 V6 rfl (by kernel_rfl) (by kernel_rfl) (f:=155) (args:=#[aQ (b.cells men sent marks)]) (by kernel_rfl) (R:=fun v w'=>v=ah ag jr∧S w') (hB _ hS) ?_;clear hS;rintro _ w1 ⟨rfl,hS⟩;refine⟨hS,?_⟩;simp only[bS,az,aI,aJ];refine dm jN 4 V5 (ah ag Y) rfl (by kernel_rfl) (bI ⟨by kernel_rfl,fun w9 hSw=>?_⟩) hS ?_
 ·go_simp
 simp only[bS,az,aI,aJ];refine dm jN 5 V4 (ah ag (Y - 1)) rfl (by kernel_rfl) (bI ⟨by kernel_rfl,fun w9 hSw=>?_⟩) hS ?_
 ·go_simp
 simp only[bS,az,aI,aJ];refine dm jN 6 V3 (ah ag mk) rfl (by kernel_rfl) (bI ⟨by kernel_rfl,fun w9 hSw=>?_⟩) hS ?_
 ·go_simp
 simp only[bS,az,aI,aJ];refine dm jN 7 VZ (aA false) rfl (by kernel_rfl) (bI ⟨by kernel_rfl,fun w9 hSw=>?_⟩) hS ?_
 ·go_simp
 simp only[bS,az,aI,aJ];refine dm jN 8 VY (aA false) rfl (by kernel_rfl) (bI ⟨by kernel_rfl,fun w9 hSw=>?_⟩) hS ?_
 ·go_simp
 simp only[bS,az,aI,aJ];refine dm jN 9 VX (ah ag m) rfl (by kernel_rfl) (bI ⟨by kernel_rfl,fun w9 hSw=>?_⟩) hS ?_
 ·go_simp
 simp only[bS,az,aI,aJ];refine dm jN 10 QB (ptr ⟨xb,0,none⟩) rfl (by kernel_rfl) (bI ⟨by kernel_rfl,fun w9 hSw=>?_⟩) hS ?_
 ·go_simp
 simp only[bS,az,aI,aJ];refine dm jN 11 QA (ptr ⟨xb,0,none⟩) rfl (by kernel_rfl) (bI ⟨by kernel_rfl,fun w9 hSw=>?_⟩) hS ?_
 ·go_simp
 simp only[bS,az,aI,aJ];refine dm jN 12 Qz (ptr ⟨xb,3,none⟩) rfl (by kernel_rfl) (bI ⟨by kernel_rfl,fun w9 hSw=>?_⟩) hS ?_
 ·go_simp
 simp only[bS,az,aI,aJ];refine dm jN 13 Qy (ah ag b.minutes) rfl (by kernel_rfl) (bI ⟨by kernel_rfl,fun w9 hSw=>?_⟩) hS ?_
 ·replace hSw:=O6 _ hSw;have x3:=hSw.x 3 _ rfl;go_simp
 simp only[bS,az,aI,aJ];refine dm jN 14 Qx (ah ag ((mn+1:Nat):Int)) rfl (by kernel_rfl) (bI ⟨by kernel_rfl,fun w9 hSw=>?_⟩) hS ?_
 ·go_simp
 simp only[bS,az,aI,aJ];refine dm jN 15 Qw (ah ag Z) rfl (by kernel_rfl) (bI ⟨by kernel_rfl,fun w9 hSw=>?_⟩) hS ?_
 ·go_simp
 simp only[bS,az,aI,aJ];refine dm jN 16 Qv (aA true) rfl (by kernel_rfl) (bI ⟨by kernel_rfl,fun w9 hSw=>?_⟩) hS ?_
 ·go_simp
 simp only[bS,az,aI,aJ];refine dm jN 17 Qu (aA true) rfl (by kernel_rfl) (bI ⟨by kernel_rfl,fun w9 hSw=>?_⟩) hS ?_
 ·go_simp
 simp only[bS,az,aI,aJ];refine dm jN 18 Qt (aA true) rfl (by kernel_rfl) (bI ⟨by kernel_rfl,fun w9 hSw=>?_⟩) hS ?_
 ·go_simp
 simp only[bS,az,aI,aJ];refine dm jN 19 Qs af rfl (by kernel_rfl) (.inr ⟨by kernel_rfl,rfl⟩) hS ?_;simp only[bS,az,aI,aJ];refine dm jN 20 Qr af rfl (by kernel_rfl) (.inr ⟨by kernel_rfl,rfl⟩) hS ?_;simp only[bS,az,aI,aJ];refine dm jN 21 Qq af rfl (by kernel_rfl) (.inr ⟨by kernel_rfl,rfl⟩) hS ?_;simp only[bS,az,aI,aJ];refine dm jN 22 Qp af rfl (by kernel_rfl) (.inr ⟨by kernel_rfl,rfl⟩) hS ?_;simp only[bS,az,aI,aJ];refine dm jN 23 Qo af rfl (by kernel_rfl) (.inr ⟨by kernel_rfl,rfl⟩) hS ?_;simp only[bS,az,aI,aJ];refine dm jN 24 Qn af rfl (by kernel_rfl) (.inr ⟨by kernel_rfl,rfl⟩) hS ?_;simp only[bS,az,aI,aJ];refine dm jN 25 Qm af rfl (by kernel_rfl) (.inr ⟨by kernel_rfl,rfl⟩) hS ?_;simp only[bS,az,aI,aJ];refine dm jN 26 Ql (aA true) rfl (by kernel_rfl) (bI ⟨by kernel_rfl,fun w9 hSw=>?_⟩) hS ?_
 ·go_simp
 simp only[bS,az,aI,aJ];refine wpAnyH_done (by kernel_rfl) (hQ _ _ ⟨rfl,rfl,rfl,fun i hi=>?_⟩ hS) _;simp only[cC,eR,or_false] at hi;rcases hi with rfl|rfl|rfl|rfl|rfl|rfl|rfl<;>rfl
theorem r8C{Q:Exit→ko→ar→Prop}{S:ar→Prop}(jN : ∀c a b w,Q (.panic c) a w→Q (.panic c) b w){b:BB}{men sent marks:ak}{xb pb p m jr mk mn n:Nat}{Y Z:Int}(O6 : ∀w,S w→S8 b men sent marks xb pb p w)
  (hB : ∀w,S w→bp aq 155 #[aQ (b.cells men sent marks)] w fun e w'=>∃v,e=aG v∧(v=ah ag jr∧S w')) (hC : ∀w,S w→bp aq 97 #[ah ag p] w fun e w'=>∃v,e=aG v∧(v=ah ag n∧S w'))
  (w1:IntKind.i64.wrap (2 ^ jr)=Y) (w2:IntKind.i64.wrap (Y - 1)=Y - 1) (a1:bits .and ag (m:Int) (Y - 1)=(mk:Int)) (w3:IntKind.i64.wrap (b.minutes+1)=((mn+1:Nat):Int)) (w4:IntKind.i64.wrap (2 ^ (mn+1))=Z) (Mc:jr≤9) (hmn:mn≤8) (d1:((mk:Int) !=0)=false) (d2:decide (Z≤(m:Int))=false)
  (t:Nat→ak) (hQ : ∀a w,F8 #[t 0,ptr ⟨xb,0,none⟩,t 2,t 3,t 4,t 5,t 6,ah ag m,ptr ⟨pb,0,none⟩,t 9,t 10,t 11,t 12,t 13,t 14,t 15,t 16,t 17,t 18,t 19,t 20,t 21,t 22,t 23,t 24,t 25,t 26,t 27,t 28,t 29,t 30,t 31,t 32,t 33,t 34,t 35,t 36,t 37,t 38,t 39,t 40,t 41,t 42,t 43,t 44,t 45,t 46,t 47,t 48,t 49,t 50,t 51,t 52,t 53,t 54,t 55,t 56,t 57,t 58,t 59,t 60,t 61,t 62,t 63,t 64,t 65,t 66,t 67,t 68,t 69,t 70] (decide (b.ek<(n:Int))) a→S w→Q .normal a w) {w:ar} (hS:S w) :
  wpAnyH aq .any vd Q S 27 (aU 27 false) ⟨#[t 0,ptr ⟨xb,0,none⟩,t 2,t 3,t 4,t 5,t 6,ah ag m,ptr ⟨pb,0,none⟩,t 9,t 10,t 11,t 12,t 13,t 14,t 15,t 16,t 17,t 18,t 19,t 20,t 21,t 22,t 23,t 24,t 25,t 26,t 27,t 28,t 29,t 30,t 31,t 32,t 33,t 34,t 35,t 36,t 37,t 38,t 39,t 40,t 41,t 42,t 43,t 44,t 45,t 46,t 47,t 48,t 49,t 50,t 51,t 52,t 53,t 54,t 55,t 56,t 57,t 58,t 59,t 60,t 61,t 62,t 63,t 64,t 65,t 66,t 67,t 68,t 69,t 70],[]⟩ w:=by
 refine dm jN 0 Wa (ah ag m) rfl (by kernel_rfl) (bI ⟨by kernel_rfl,fun w9 hSw=>?_⟩) hS ?_
 ·go_simp
 simp only[bS,az,aI,aJ];refine dm jN 1 V9 (ptr ⟨xb,0,none⟩) rfl (by kernel_rfl) (bI ⟨by kernel_rfl,fun w9 hSw=>?_⟩) hS ?_
 ·go_simp
 simp only[bS,az,aI,aJ];refine dm jN 2 V7 (aQ (b.cells men sent marks)) rfl (by kernel_rfl) (bI ⟨by kernel_rfl,fun w9 hSw=>?_⟩) hS ?_
 ·replace hSw:=O6 _ hSw;have x0:=hSw.x 0 _ rfl;have x1:=hSw.x 1 _ rfl;have x2:=hSw.x 2 _ rfl;have x3:=hSw.x 3 _ rfl;have x4:=hSw.x 4 _ rfl;have x5:=hSw.x 5 _ rfl;have x6:=hSw.x 6 _ rfl;have x7:=hSw.x 7 _ rfl;have x8:=hSw.x 8 _ rfl;have x9:=hSw.x 9 _ rfl;have nG:=hSw.x 10 _ rfl;have nE:=hSw.x 11 _ rfl;have oh:=hSw.x 12 _ rfl;have nM:=hSw.x 13 _ rfl;have nQ:=hSw.x 14 _ rfl;go_simp
 simp only[bS,az,aI,aJ];refine call8 3 V6 rfl (by kernel_rfl) (by kernel_rfl) (f:=155) (args:=#[aQ (b.cells men sent marks)]) (by kernel_rfl) (R:=fun v w'=>v=ah ag jr∧S w') (hB _ hS) ?_;clear hS;rintro _ w1 ⟨rfl,hS⟩;refine⟨hS,?_⟩;simp only[bS,az,aI,aJ];refine dm jN 4 V5 (ah ag Y) rfl (by kernel_rfl) (bI ⟨by kernel_rfl,fun w9 hSw=>?_⟩) hS ?_
 ·go_simp
 simp only[bS,az,aI,aJ];refine dm jN 5 V4 (ah ag (Y - 1)) rfl (by kernel_rfl) (bI ⟨by kernel_rfl,fun w9 hSw=>?_⟩) hS ?_
 ·go_simp
 simp only[bS,az,aI,aJ];refine dm jN 6 V3 (ah ag mk) rfl (by kernel_rfl) (bI ⟨by kernel_rfl,fun w9 hSw=>?_⟩) hS ?_
 ·go_simp
 simp only[bS,az,aI,aJ];refine dm jN 7 VZ (aA false) rfl (by kernel_rfl) (bI ⟨by kernel_rfl,fun w9 hSw=>?_⟩) hS ?_
 ·go_simp
 simp only[bS,az,aI,aJ];refine dm jN 8 VY (aA false) rfl (by kernel_rfl) (bI ⟨by kernel_rfl,fun w9 hSw=>?_⟩) hS ?_
 ·go_simp
 simp only[bS,az,aI,aJ];refine dm jN 9 VX (ah ag m) rfl (by kernel_rfl) (bI ⟨by kernel_rfl,fun w9 hSw=>?_⟩) hS ?_
 ·go_simp
 simp only[bS,az,aI,aJ];refine dm jN 10 QB (ptr ⟨xb,0,none⟩) rfl (by kernel_rfl) (bI ⟨by kernel_rfl,fun w9 hSw=>?_⟩) hS ?_
 ·go_simp
 simp only[bS,az,aI,aJ];refine dm jN 11 QA (ptr ⟨xb,0,none⟩) rfl (by kernel_rfl) (bI ⟨by kernel_rfl,fun w9 hSw=>?_⟩) hS ?_
 ·go_simp
 simp only[bS,az,aI,aJ];refine dm jN 12 Qz (ptr ⟨xb,3,none⟩) rfl (by kernel_rfl) (bI ⟨by kernel_rfl,fun w9 hSw=>?_⟩) hS ?_
 ·go_simp
 simp only[bS,az,aI,aJ];refine dm jN 13 Qy (ah ag b.minutes) rfl (by kernel_rfl) (bI ⟨by kernel_rfl,fun w9 hSw=>?_⟩) hS ?_
 ·replace hSw:=O6 _ hSw;have x3:=hSw.x 3 _ rfl;go_simp
 simp only[bS,az,aI,aJ];refine dm jN 14 Qx (ah ag ((mn+1:Nat):Int)) rfl (by kernel_rfl) (bI ⟨by kernel_rfl,fun w9 hSw=>?_⟩) hS ?_
 ·go_simp
 simp only[bS,az,aI,aJ];refine dm jN 15 Qw (ah ag Z) rfl (by kernel_rfl) (bI ⟨by kernel_rfl,fun w9 hSw=>?_⟩) hS ?_
 ·go_simp
 simp only[bS,az,aI,aJ];refine dm jN 16 Qv (aA false) rfl (by kernel_rfl) (bI ⟨by kernel_rfl,fun w9 hSw=>?_⟩) hS ?_
 ·go_simp
 simp only[bS,az,aI,aJ];refine dm jN 17 Qu (aA false) rfl (by kernel_rfl) (bI ⟨by kernel_rfl,fun w9 hSw=>?_⟩) hS ?_
 ·go_simp
 simp only[bS,az,aI,aJ];refine dm jN 18 Qt (aA false) rfl (by kernel_rfl) (bI ⟨by kernel_rfl,fun w9 hSw=>?_⟩) hS ?_
 ·go_simp
 simp only[bS,az,aI,aJ];refine dm jN 19 Qs (ah ag p) rfl (by kernel_rfl) (bI ⟨by kernel_rfl,fun w9 hSw=>?_⟩) hS ?_
 ·replace hSw:=O6 _ hSw;have xp:=hSw.p;go_simp
 simp only[bS,az,aI,aJ];refine dm jN 21 Qq (ptr ⟨xb,0,none⟩) rfl (by kernel_rfl) (bI ⟨by kernel_rfl,fun w9 hSw=>?_⟩) hS ?_
 ·go_simp
 simp only[bS,az,aI,aJ];refine dm jN 22 Qp (ptr ⟨xb,0,none⟩) rfl (by kernel_rfl) (bI ⟨by kernel_rfl,fun w9 hSw=>?_⟩) hS ?_
 ·go_simp
 simp only[bS,az,aI,aJ];refine dm jN 23 Qo (ptr ⟨xb,6,none⟩) rfl (by kernel_rfl) (bI ⟨by kernel_rfl,fun w9 hSw=>?_⟩) hS ?_
 ·go_simp
 simp only[bS,az,aI,aJ];refine dm jN 24 Qn (ah ag b.ek) rfl (by kernel_rfl) (bI ⟨by kernel_rfl,fun w9 hSw=>?_⟩) hS ?_
 ·replace hSw:=O6 _ hSw;have x6:=hSw.x 6 _ rfl;go_simp
 simp only[bS,az,aI,aJ];refine call8 20 Qr rfl (by kernel_rfl) (by kernel_rfl) (f:=97) (args:=#[ah ag p]) (by kernel_rfl) (R:=fun v w'=>v=ah ag n∧S w') (hC _ hS) ?_;clear hS;rintro _ w1 ⟨rfl,hS⟩;refine⟨hS,?_⟩;simp only[bS,az,aI,aJ];refine dm jN 25 Qm (aA (decide (b.ek<(n:Int)))) rfl (by kernel_rfl) (bI ⟨by kernel_rfl,fun w9 hSw=>?_⟩) hS ?_
 ·go_simp
 simp only[bS,az,aI,aJ];refine dm jN 26 Ql (aA (decide (b.ek<(n:Int)))) rfl (by kernel_rfl) (bI ⟨by kernel_rfl,fun w9 hSw=>?_⟩) hS ?_
 ·go_simp
 simp only[bS,az,aI,aJ];refine wpAnyH_done (by kernel_rfl) (hQ _ _ ⟨rfl,rfl,rfl,fun i hi=>?_⟩ hS) _;simp only[cC,eR,or_false] at hi;rcases hi with rfl|rfl|rfl|rfl|rfl|rfl|rfl<;>rfl
section
variable{xb fb tb sn:Nat}{tmps:Array ak}{many:Int}{m:Nat}{lw:ar}
def Q8(xb fb tb sn pb:Nat)(many:Int)(m:Nat)(r:Bool)(lw:ar)(a:ko)(W':ar):Prop:=
 GT xb fb tb sn a.tmps many m (ptr ⟨pb,0,none⟩)∧a.tmps[50]?=some (aA r)∧aC lw.heap.size lw W'
theorem pR8{b:BB}{men sent marks:ak}{pb:Nat}(hb:b.Ok)(OS:sn<512)(hm:m<512)(h:GT xb fb tb sn tmps many m (ptr ⟨pb,0,none⟩))(h7:tmps[7]?=some (ah ag m))
  (hx : ∀i u,(b.cells men sent marks)[i]?=some u→lw.cell? ⟨xb,i,none⟩=some u) (hp:lw.cell? ⟨pb,0,none⟩=some (ah ag ((sn ||| m:Nat):Int))) (hlt:xb<lw.heap.size∧pb<lw.heap.size)
  {jr:Nat} (Mc:1≤jr∧jr≤9) (hB : ∀w1,aC lw.heap.size lw w1→bp aq 155 #[aQ (b.cells men sent marks)] w1 fun e w'=>e=aG (ah ag jr)∧aC w1.heap.size w1 w') :
  XR.wp aq (fun e a W'=>e=.normal∧Q8 xb fb tb sn pb many m (ng b jr sn m) lw a W') ⟨tmps,[]⟩ lw:=by
 have hp9:sn ||| m<512:=Nat.or_lt_two_pow (n:=9) OS hm
 have Ac:=hb.minutes;have adU:=hb.ek;generalize hpp:sn ||| m=p at *
 obtain⟨Y,hY⟩ : ∃Y:Int,(2:Int) ^ jr=Y:=⟨_,rfl⟩
 have hYn:Y=((2 ^ jr:Nat):Int):=by rw[←hY];simp
 have hYb:(2:Nat) ^ jr≤512∧1≤(2:Nat) ^ jr:=⟨Nat.pow_le_pow_right (j:=9) (by omega) (by omega),Nat.one_le_two_pow⟩
 generalize hK2:(2:Nat) ^ jr=K2 at hYn hYb;have w1:IntKind.i64.wrap (2 ^ jr)=Y:=by rw[hY,hYn];exact fT _ (Int.natCast_nonneg _) (by omega)
 have w2:IntKind.i64.wrap (Y - 1)=Y - 1:=by rw[hYn];exact fT _ (by omega) (by omega)
 have a1:bits .and ag (m:Int) (Y - 1)=((m &&& (K2 - 1):Nat):Int):=by
  have e:Y - 1=((K2 - 1:Nat):Int):=by rw[hYn];omega
  rw[e];exact VH m (K2 - 1) (by omega) (by omega)
 obtain⟨mn,hmn⟩ : ∃mn:Nat,b.minutes=mn:=⟨b.minutes.toNat,by omega⟩
 have hZb:(2:Nat) ^ (mn+1)≤512∧1≤(2:Nat) ^ (mn+1):=⟨Nat.pow_le_pow_right (j:=9) (by omega) (by omega),Nat.one_le_two_pow⟩
 have w3:IntKind.i64.wrap (b.minutes+1)=((mn+1:Nat):Int):=by rw[hmn];exact fT _ (by omega) (by omega)
 obtain⟨Z,hZ⟩ : ∃Z:Int,(2:Int) ^ (mn+1)=Z:=⟨_,rfl⟩
 have hZn:Z=((2 ^ (mn+1):Nat):Int):=by rw[←hZ];simp
 have hSK:ng b jr sn m=(decide (m &&& (K2 - 1)≠0)||decide (2 ^ (mn+1)≤m)||decide (b.ek<((upTo p 8).length:Int))):=by unfold ng;rw[hpp,hK2,hmn];rfl
 generalize (2:Nat) ^ (mn+1)=Z2 at *;have w4:IntKind.i64.wrap (2 ^ (mn+1))=Z:=by rw[hZ,hZn];exact fT _ (Int.natCast_nonneg _) (by omega)
 have hS:(fun w'=>aC lw.heap.size lw w') lw.drew:=(aw _ _).drew;have O6 : ∀w',aC lw.heap.size lw w'→S8 b men sent marks xb pb p w':=fun w' hw=>⟨fun i u hi=>(hw.cell (p:=⟨xb,i,none⟩) hlt.1).trans (hx i u hi),(hw.cell (p:=⟨pb,0,none⟩) hlt.2).trans hp⟩
 have hB' : ∀w',aC lw.heap.size lw w'→bp aq 155 #[aQ (b.cells men sent marks)] w' fun e w2=>∃v,e=aG v∧(v=ah ag jr∧aC lw.heap.size lw w2):=fun w' hw=>
  (hB w' hw).mono fun e w2 h=>⟨_,h.1,rfl,hw.trans (h.2.mono hw.size)⟩
 have hC' : ∀w',aC lw.heap.size lw w'→bp aq 97 #[ah ag p] w' fun e w2=>∃v,e=aG v∧(v=ah ag ((upTo p 8).length:Nat)∧aC lw.heap.size lw w2):=fun w' hw=>
  (sI p hp9 w').mono fun e w2 h=>⟨_,h.1,rfl,hw.trans (h.2.mono hw.size)⟩
 have jN : ∀(c:List PanicEntry) (a b':ko) (w:ar),((Exit.panic c)=Exit.normal∧Q8 xb fb tb sn pb many m (ng b jr sn m) lw a w)→((Exit.panic c)=Exit.normal∧Q8 xb fb tb sn pb many m (ng b jr sn m) lw b' w):=fun c a b w h=>by cases h.1
 have e1:=bB h.t1;have e8:=bB h.t8;have e7:=bB h7;have E:=tj tmps h.size;simp only[bf,bR,di,fW,e1,e8,e7] at E
 have nH : ∀r,r=ng b jr sn m→∀a w,F8 tmps r a→aC lw.heap.size lw w→(Exit.normal=Exit.normal∧Q8 xb fb tb sn pb many m (ng b jr sn m) lw a w):=fun r hr a w hf hw=>
  ⟨rfl,⟨hf.size,(hf.keep 1 (by simp)).trans h.t1,(hf.keep 3 (by simp)).trans h.t3,(hf.keep 4 (by simp)).trans h.t4,(hf.keep 5 (by simp)).trans h.t5,(hf.keep 6 (by simp)).trans h.t6,(hf.keep 18 (by simp)).trans h.t18,(hf.keep 8 (by simp)).trans h.t8⟩,by rw[hf.t50,hr],hw⟩
 rw[XQ];refine wp_region_held_drew (S:=fun w'=>aC lw.heap.size lw w') (by kernel_rfl) hS (fun _=>?_);rw[Y9];clear hY hZ hK2 hYb hZb
 by_cases hc1:m &&& (K2 - 1)=0
 ·have d1:(((m &&& (K2 - 1):Nat):Int) !=0)=false:=by rw[hc1];rfl
  by_cases hc2:Z2≤m
  ·have d2:decide (Z≤(m:Int))=true:=by rw[hZn];simp;omega
   have hr:true=ng b jr sn m:=by rw[hSK,decide_eq_true hc2];simp
   have K:=r8B (Q:=fun e a W'=>e=.normal∧Q8 xb fb tb sn pb many m (ng b jr sn m) lw a W') (S:=fun w'=>aC lw.heap.size lw w') jN O6 hB' hC' w1 w2 a1 w3 w4 (by omega) (by omega) d1 d2 (fun i=>tmps.getD i af) (fun a w hf hw=>nH true hr a w (by rw[E];exact hf) hw) hS;rw[←E] at K;exact K
  ·have d2:decide (Z≤(m:Int))=false:=by rw[hZn];simp;omega
   have hr:decide (b.ek<(((upTo p 8).length:Nat):Int))=ng b jr sn m:=by rw[hSK,decide_eq_false hc2,decide_eq_false (not_not_intro hc1)];simp
   have K:=r8C (Q:=fun e a W'=>e=.normal∧Q8 xb fb tb sn pb many m (ng b jr sn m) lw a W') (S:=fun w'=>aC lw.heap.size lw w') jN O6 hB' hC' w1 w2 a1 w3 w4 (by omega) (by omega) d1 d2 (fun i=>tmps.getD i af) (fun a w hf hw=>nH _ hr a w (by rw[E];exact hf) hw) hS;rw[←E] at K;exact K
 ·have d1:(((m &&& (K2 - 1):Nat):Int) !=0)=true:=by simp;omega
  have hr:true=ng b jr sn m:=by rw[hSK,decide_eq_true hc1];simp
  have K:=r8A (Q:=fun e a W'=>e=.normal∧Q8 xb fb tb sn pb many m (ng b jr sn m) lw a W') (S:=fun w'=>aC lw.heap.size lw w') jN O6 hB' hC' w1 w2 a1 w3 w4 (by omega) (by omega) d1 (fun i=>tmps.getD i af) (fun a w hf hw=>nH true hr a w (by rw[E];exact hf) hw) hS;rw[←E] at K;exact K
theorem TT:(Tryz.prog.info? 108).map (fun i=>(i.zero,i.size,i.bytes))=some (some (ah ag 0),1,8):=by kernel_rfl
def Q18(fb tb:Nat)(many:Int)(out:List Nat)(B:Nat)(lw:ar)(a:ko)(W':ar):Prop:=
 ∃v,GH fb tb a.tmps many v∧W'.ownsRow B 108 1 v out.length (out.map fun(p:Nat)=>aM ag (p:Int))∧aC B lw W'
theorem Wd{v:ak}{x y z:ak}{out:List Nat}{p B:Nat}(ho:out.length≤1000)(h:GH fb tb tmps many v)(h59:tmps[59]?=some (.tuple #[x,y,ah ag p,z]))(hown:lw.ownsRow B 108 1 v out.length (out.map fun(p:Nat)=>aM ag (p:Int)))(hB:B≤lw.heap.size) :
  Af.wp aq (fun e a W'=>e=.normal∧Q18 fb tb many (out ++ [p]) B lw a W') ⟨tmps,[]⟩ lw:=by
 obtain⟨i0,hi,hz0,hz1,hz2⟩:=info_parts TT;have e4:=bB h.t4;have e5:=bB h.t5;have e6:=bB h.t6;have e9:=bB h.t9;have e59:=bB h59;rw[tj tmps h.size];simp only[bf,bR,di,fW,e4,e5,e6,e9,e59];clear e4 e5 e6 e9 e59;simp only[Af,K6,RR,RQ,gN,qQ,kS,sL,sR,bC,lC,cT,cE]
 go_wp2_with (at_builtin;refine wpList_append_own _ rfl _ _ 172 rfl B 108 i0 (ah ag 0) 1 8 Tryz.underlying172 hi hz0 hz1 hz2 rfl (by decide) _ _ _ rfl (hown.alloc _) ⟨lw.heap.size,0,none⟩ 1 1 [ah ag p] rfl rfl (U6 (KA _ _ _)) (QV rfl) (by unfold maxLen;omega) (by omega) (by simp;omega) ?_)
 intro v' w1 hown' hgrow _;have hb1:aC B lw w1:=((aw _ _).alloc hB _).grown hgrow (by simp;omega) (fun j hj=>(hown.lt j hj).1);clear hgrow;go_wp2;exact⟨v',⟨rfl,rfl,rfl,rfl,rfl⟩,by simpa using hown',hb1⟩
end
end Go.Proofs.YtffladgmkiimjaaGreatDoor
namespace Go.Lag
open Go.Conc
section
variable{P:aN}{c0 c1:Nat}{z0 z1:ak}{Fin:List ak→List ak→(Nat→Prop)→(Nat→Prop)→aF→ar→Prop}{f m:Nat}{acc out:List ak}{S O:Nat→Prop}{g:aF}{w:ar}
theorem MT.wide{S E:Nat→Prop}{O:Nat→Prop}{e:Event}(h:MT (fun c=>S c∨O c) O e):MT (fun c=>(S c∨E c)∨O c) O e:=
 h.mono (fun c hc=>hc.imp .inl id) fun c hc=>hc
theorem fS.wide{w0:ar}(h:fS P c0 c1 z0 z1 Fin f m acc out S O g w) : ∀(E:Nat→Prop),(∀c,E c→c<w.heap.size∧¬O c∧w.heap[c]?=w0.heap[c]?)→
  fS P c0 c1 z0 z1 (fun acc out _ O g w'=>∃S,Fin acc out S O g w'∧∀c,E c→¬O c∧w'.heap[c]?=w0.heap[c]?) f m acc out (fun c=>S c∨E c) O g w:=by
 have nar : ∀ {S O E:Nat→Prop} {w w1:ar},iD (fun c=>(S c∨E c)∨O c) w w1→iD (fun c=>S c∨O c) w w1:=fun hr=>⟨hr.grow,fun c hc=>hr.keep c (hc.imp .inl id)⟩
 induction h with
 |fin hs h=>
  intro E hE;exact .fin hs fun w1 hr=>⟨_,h w1 (nar hr),fun c hc=>⟨(hE c hc).2.1,(hr.keep c (.inl (.inr hc))).trans (hE c hc).2.2⟩⟩
 |@step f m acc out S O g w a b c d ih=>
  intro E hE;refine .step a b (fun w1 hr=>?_) fun w1 hr g2 w2 es he=>?_
  ·obtain⟨g2,w2,es,e,hg,h1,h2⟩:=c w1 (nar hr);exact⟨g2,w2,es,e,⟨hg.grow,hg.keep,hg.tape,hg.drawn,hg.os,hg.out,fun x hx=>(hg.evs x hx).mono (fun c hc=>hc.imp .inl id) fun c hc=>hc⟩,h1,h2⟩
  ·refine ih w1 (nar hr) g2 w2 es he E fun x hx=>?_;obtain⟨h1,h2,h3⟩:=hE x hx;obtain⟨g3,w3,es3,e3,hg,_,_⟩:=c w1 (nar hr);rw[he] at e3;injection e3 with e4 e5 e6
   subst e5;have hlt:x<w1.heap.size:=bE h1 hr.grow;exact⟨bE hlt hg.grow,fun ho=>ho.elim h2 fun hn=>by omega,by rw[hg.keep x hlt h2,hr.keep x (.inl (.inr hx))];exact h3⟩
 |spawn h1 h2 h2' h3 h4 h5 h6 _ ih=>
  intro E hE
  exact .spawn h1 h2 h2' (fun c hc=>(h3 c hc).imp .inl id) h4 (fun c hc=>hc.elim (fun hc=>(h5 c hc).imp .inl id) fun hc=>.inl (.inr hc)) (fun c hc=>⟨(h6 c hc).1,(h6 c hc).2.1,fun h=>h.elim (h6 c hc).2.2 fun he=>(hE c he).2.1 (h6 c hc).1⟩)
   (ih E fun c hc=>⟨(hE c hc).1,fun ho=>(hE c hc).2.1 (h6 c ho).1,(hE c hc).2.2⟩)
 |select h1 _ _ S5 WG=>
  intro E hE;exact .select h1 (fun v f' e hv=>S5 v f' e hv E hE) fun hf=>WG hf E hE
structure MS(P:aN)(F:Nat→Bool)(B S O:Nat→Prop)(tmps bA:Array ak)(lw w:ar)(ρ:Rn):Prop where
 av:iV F ρ tmps bA
 wr:WR F P.globals.size B ρ lw w
 tV:P.globals.size≤w.heap.size
 DM:P.globals.size≤lw.heap.size
 own:O=ρ.owns B
 shared : ∀c,S c↔∃b,B b∧ρ b=some c
 ok:dD lw
variable{F:Nat→Bool}{B:Nat→Prop}{tmps bA:Array ak}{lw:ar}{ρ:Rn}
theorem MS.rely(h:MS P F B S O tmps bA lw w ρ){w2:ar}(hr:iD (fun c=>S c∨O c) w w2):MS P F B S O tmps bA lw w2 ρ:=
 ⟨h.av,h.wr.rely (by
  have e:(fun c=>S c∨O c)=fun c=>(∃b,B b∧ρ b=some c)∨ρ.owns B c:=by funext c;rw[h.shared c,h.own]
  rwa [e] at hr),bq h.tV hr.grow,h.DM,h.own,h.shared,h.ok⟩
theorem MS.set(h:MS P F B S O tmps bA lw w ρ){v v':ak}(hv:VR F ρ v v')(i:Nat):MS P F B S O (tmps.setIfInBounds i v) (bA.setIfInBounds i v') lw w ρ:=
 ⟨h.av.set hv i,h.wr,h.tV,h.DM,h.own,h.shared,h.ok⟩
theorem MS.get(h:MS P F B S O tmps bA lw w ρ){i:Nat}{v:ak}(hv:tmps[i]?=some v) : ∃v',bA[i]?=some v'∧VR F ρ v v':=h.av.get hv
theorem fS.piece(T:Quiet P)(hF:tq P F){fn:eD}{kd:jL}(hE:kd≠.early)(hi:P.inits.idxOf? fn=none){c:gZ}(hc:iq P F c=true)(hc':eb c=true)
  (hm:MS P F B S O tmps bA lw w ρ) {Q:ko→ar→Prop} (hQ : ∀a W' τ d,Q a (cX W' τ d)→Q a W') (h : ∀τ d,c.wp P (fun e a W'=>e=.normal∧Q a W') ⟨tmps,[]⟩ (cX lw τ d)) {k:List Item} {cs:List bP}
  (cont : ∀lH jh jX ρ1 O1 w1,MS P F B S O1 lH jh jX w1 ρ1→Q ⟨lH,[]⟩ jX→Rn.le ρ ρ1→lw.heap.size≤jX.heap.size→(∀c,O c→O1 c)→fS P c0 c1 z0 z1 Fin f m acc out S O1 (G (js fn jh k .run kd) cs) w1) :
  fS P c0 c1 z0 z1 Fin f m acc out S O (G (js fn bA (.code c :: k) .run kd) cs) w:=by
 have hw:=xh (main:=true) T hF hm.DM hE hi hc hc' hm.av hm.wr hm.tV hm.ok hQ h hm.shared k cs;rw[←hm.own] at hw;refine fS.CB hw ?_;rintro O1 g1 w1 ⟨lH,jh,jX,ρ1,rfl,Me,hq,hkn⟩;refine cont lH jh jX ρ1 O1 w1 ⟨Me,hkn.wr,hkn.tV,bq hm.DM hkn.grow,hkn.own,hkn.shared,hkn.ok⟩ hq hkn.le hkn.grow fun c ho=>?_;rw[hm.own] at ho;obtain⟨b,h1,h2⟩:=ho;rw[hkn.own];exact⟨b,h1,hkn.le _ _ h2⟩
def oO(lw:ar)(b:Nat)(cs:Array ak)(e:bg)(n:Nat):World:={ lw with heap:=lw.heap.setIfInBounds b (.cells cs e (0,max cs.size n)) }
theorem wQ{b:Nat}{cs:Array ak}{e:bg}{n:Nat}:(oO lw b cs e n).heap.size=lw.heap.size:=by simp[oO]
theorem pQ{b:Nat}{cs:Array ak}{e:bg}{z:Nat × Nat}(h:lw.heap[b]?=some (.cells cs e z)){x:Nat}:(oO lw b cs e z.2).heap[x]?=if x=b then some (.cells cs e (0,max cs.size z.2)) else lw.heap[x]?:=by
 unfold oO
 by_cases hx:x=b
 ·subst hx;rw[if_pos rfl];exact a7 (eY h)
 ·rw[if_neg hx];exact aD (Ne.symm hx)
theorem WR.freeze{G:Nat}(h:WR F G B ρ lw w){b c:Nat}(hb:ρ b=some c){cs:Array ak}{e:bg}{z:Nat × Nat}(ho:lw.heap[b]?=some (.cells cs e z)):WR F G (fun x=>B x∨x=b) ρ (oO lw b cs e z.2) w:=by
 refine⟨h.inj,h.low,fun x hx=>?_,fun x y hx=>?_,fun x o hx=>?_⟩
 ·rw[wQ];exact hx.elim (h.base x) fun e=>e▸eY ho
 ·rw[pQ ho];obtain⟨o,o',h1,h2,h3,h4⟩:=h.at_ x y hx
  by_cases hxb:x=b
  ·subst hxb;rw[if_pos rfl];rw[ho] at h1;cases h1;refine⟨_,o',rfl,h2,?_,fun _=>⟨_,_,_,rfl,by omega⟩⟩;cases h3 with
   |cells ha hz=>exact .cells ha fun i h5 h6=>⟨Nat.zero_le _,by have:=(hz i h5 h6).2;simp only;omega⟩
  ·rw[if_neg hxb];exact⟨o,o',h1,h2,h3,fun hB=>h4 (hB.elim id fun e=>absurd e hxb)⟩
 ·rw[pQ ho] at hx;split at hx
  ·cases hx;rfl
  ·exact h.Hh _ _ hx
theorem Kf{b:Nat}{cs:Array ak}{e:bg}{z:Nat × Nat}(ho:lw.heap[b]?=some (.cells cs e z))(h:dD lw):dD (oO lw b cs e z.2):=by
 intro x o hx;rw[pQ ho] at hx;split at hx
 ·cases hx;exact .inl rfl
 ·exact h x o hx
theorem MS.freeze(h:MS P F B S O tmps bA lw w ρ){b c:Nat}(hb:ρ b=some c)(hB : ¬B b){cs:Array ak}{e:bg}{z:Nat × Nat}(ho:lw.heap[b]?=some (.cells cs e z)) :
  MS P F (fun x=>B x∨x=b) (fun x=>S x∨x=c) (fun x=>O x∧x≠c) tmps bA (oO lw b cs e z.2) w ρ:=by
 refine⟨h.av,h.wr.freeze hb ho,h.tV,by rw[wQ];exact h.DM,?_,fun x=>?_,Kf ho h.ok⟩
 ·funext x
  rw[h.own];refine propext ⟨fun⟨⟨y,h1,h2⟩,h3⟩=>⟨y,fun h4=>h4.elim h1 fun e=>h3 ?_,h2⟩,fun⟨y,h1,h2⟩=>⟨⟨y,fun hy=>h1 (.inl hy),h2⟩,fun e=>h1 (.inr ?_)⟩⟩
  ·subst e;rw[hb] at h2;exact(bt h2).symm
  ·subst e;exact h.wr.inj _ _ _ h2 hb
 ·constructor
  ·rintro(hx|rfl)
   ·obtain⟨y,h1,h2⟩:=(h.shared x).1 hx;exact⟨y,.inl h1,h2⟩
   ·exact⟨b,.inr rfl,hb⟩
  ·rintro⟨y,h1|rfl,h2⟩
   ·exact .inl ((h.shared x).2 ⟨y,h1,h2⟩)
   ·rw[hb] at h2;exact .inr (bt h2).symm
variable{fn:eD}{kd:jL}{k:List Item}{cs:List bP}{ops:Array cU}
theorem Tv{i:Nat}{rest:List Nat}{o:cU}{x:cB}{tys:Array bg}(Cc:kd≠.early)(ho:ops[i]?=some o)(hop:o.op=.go { callee:=.value x,args:=#[],argTypes:=tys })(hd:o.dst=none)(hg:o.guard=none)
  {fi:eD} {captured:Array ak} (hx:(js fn tmps (.inRegion ops (i :: rest) :: k) .run kd).eval x=.func (.func fi) #[] captured):AtGo P (GK fn tmps (.inRegion ops (i :: rest) :: k) kd cs) (GK fn tmps (.inRegion ops rest :: k) kd cs) (vT P fi captured):=by
 refine⟨rfl,rfl,fun w=>?_⟩;have hw:((ops[i]?).map (dQ · (yielded ops tmps))).getD false=true:=by rw[ho];simp[dQ,hg]
 have Uc:(kd == .early)=false:=beq_eq_false_iff_ne.2 Cc;have e1:fK P true (GK fn tmps (.inRegion ops (i :: rest) :: k) kd cs) w=fG P true (js fn tmps (.inRegion ops (i :: rest) :: k) .run kd) cs none w:=if_pos hw;rw[e1]
 have e2:dX (js fn tmps (.inRegion ops (i :: rest) :: k) .run kd).eval o=fA (Next.spawn { target:=.fn (.func fi) captured,args:=#[] }):=by
  unfold dX;rw[hop];simp only[resolve,hx,Deferred.ofValue,List.map_toArray,fW,ep,pure_bind]
 have e3:fG P true (js fn tmps (.inRegion ops (i :: rest) :: k) .run kd) cs none w=eE P true (js fn tmps (.inRegion ops (i :: rest) :: k) .run kd) cs none (dX (js fn tmps (.inRegion ops (i :: rest) :: k) .run kd).eval o) w:=by
  unfold fG;have:(js fn tmps (.inRegion ops (i :: rest) :: k) .run kd).oper?=some o:=ho;rw[this];rfl
 rw[e3,e2];unfold eE;have e4:(fA (Next.spawn { target:=.fn (.func fi) captured,args:=#[] }):Sem Next).runT P w #[]=(.ok (.spawn { target:=.fn (.func fi) captured,args:=#[] }) w,#[]):=rfl;simp only[if_true,e4];simp only[js,Uc,bF,if_false,GStep.after,ep,Frame.finish,ho,iK,hd,Bool.and_false,Bool.false_and];rfl
theorem Qa{i:Nat}{rest:List Nat}{o:cU}{x y:cB}{t0 t1:bg}(Cc:kd≠.early)(ho:ops[i]?=some o)(hop:o.op=.select #[{ chan:=x,send:=none,elem:=t0 },{ chan:=y,send:=none,elem:=t1 }] true)(hg:o.guard=none)
  (hz0 : ∀w es,(ja t0).runT P w es=(.ok z0 w,es)) (hz1 : ∀w es,(ja t1).runT P w es=(.ok z1 w,es))
  (hx:(js fn tmps (.inRegion ops (i :: rest) :: k) .run kd).eval x=.chan (some c0)) (hy:(js fn tmps (.inRegion ops (i :: rest) :: k) .run kd).eval y=.chan (some c1)):VP P c0 c1 z0 z1 (GK fn tmps (.inRegion ops (i :: rest) :: k) kd cs):=by
 refine⟨rfl,rfl,rfl,fun w=>?_⟩;have hw:((ops[i]?).map (dQ · (yielded ops tmps))).getD false=true:=by rw[ho];simp[dQ,hg]
 have Uc:(kd == .early)=false:=beq_eq_false_iff_ne.2 Cc;have e1:fK P true (GK fn tmps (.inRegion ops (i :: rest) :: k) kd cs) w=fG P true (js fn tmps (.inRegion ops (i :: rest) :: k) .run kd) cs none w:=if_pos hw;rw[e1]
 have e2:(dX (js fn tmps (.inRegion ops (i :: rest) :: k) .run kd).eval o).runT P w #[]=(.ok (Next.comm (jZ c0 c1 z0 z1) true .select) w,#[]):=by
  have h1:dX (js fn tmps (.inRegion ops (i :: rest) :: k) .run kd).eval o=((ja t0).bind fun a=>(ja t1).bind fun b=>fA (Next.comm #[{ chan:=.chan (some c0),send:=none,zero:=a },{ chan:=.chan (some c1),send:=none,zero:=b }] true .select)):=by
   unfold dX;rw[hop];simp only[Array.mapM_eq_mapM_toList,←List.mapM'_eq_mapM,List.mapM',hx,hy,Option.map_none,bind_assoc,pure_bind,map_eq_pure_bind];rfl
  rw[h1,Sem.runT_bind',hz0];simp only;rw[Sem.runT_bind',hz1];rfl
 have e3:fG P true (js fn tmps (.inRegion ops (i :: rest) :: k) .run kd) cs none w=eE P true (js fn tmps (.inRegion ops (i :: rest) :: k) .run kd) cs none (dX (js fn tmps (.inRegion ops (i :: rest) :: k) .run kd).eval o) w:=by
  unfold fG;have:(js fn tmps (.inRegion ops (i :: rest) :: k) .run kd).oper?=some o:=ho;rw[this];rfl
 rw[e3];unfold eE;simp only[if_true,e2];simp only[js,Uc,bF,if_false];rfl
theorem EA{i:Nat}{rest:List Nat}{o:cU}{d:Tmp}(ho:ops[i]?=some o)(hd:o.dst=some d)(kk:Nat)(v:ak) :
  iO P c0 c1 z0 z1 (GK fn tmps (.inRegion ops (i :: rest) :: k) kd cs) kk v=GK fn (tmps.setIfInBounds d (.tuple #[goInt kk,.bool true,if kk=0 then v else z0,if kk=1 then v else z1])) (.inRegion ops rest :: k) kd cs:=by
 have hc:commResult (jZ c0 c1 z0 z1) .select kk v true=.tuple #[goInt kk,.bool true,if kk=0 then v else z0,if kk=1 then v else z1]:=by
  simp only[commResult,jZ,rcase]
  congr 1
  have e0:(((0:Nat):Int)=(kk:Int))=(kk=0):=by apply propext;omega
  have e1:(((1:Nat):Int)=(kk:Int))=(kk=1):=by apply propext;omega
  simp;simp only[Int.natCast_zero,Int.natCast_one] at e0 e1;constructor
  ·by_cases h:kk=0<;>simp[h,e0]<;>omega
  ·by_cases h:kk=1<;>simp[h,e1]<;>omega
 simp only[iO,Goroutine.finishComm,GK,G,js,Frame.finish,ho,hd,iK,hc]
end
section
variable{P:aN}{c0 c1:Nat}{z0 z1:ak}{Fin:List ak→List ak→(Nat→Prop)→(Nat→Prop)→aF→ar→Prop}{f m:Nat}{acc out:List ak}{S O:Nat→Prop}{g:aF}{w:ar}
 {F:Nat→Bool} {B:Nat→Prop} {tmps bA:Array ak} {lw:ar} {ρ:Rn}
theorem MS.vK(h:MS P F B S O tmps bA lw w ρ){c:Nat}(hc:S c):c<w.heap.size∧¬O c:=by
 obtain⟨b,hB,hρ⟩:=(h.shared c).1 hc;obtain⟨o,o',_,h2,_⟩:=h.wr.at_ b c hρ;refine⟨eY h2,fun ho=>?_⟩;rw[h.own] at ho;obtain⟨b',h1,h3⟩:=ho;exact h1 (h.wr.inj _ _ _ hρ h3▸hB)
theorem fS.Wc(T:Quiet P)(hF:tq P F){fn:eD}{kd:jL}(hE:kd≠.early)(hi:P.inits.idxOf? fn=none){c:gZ}(hc:iq P F c=true)(hc':eb c=true)
  (hm:MS P F B S O tmps bA lw w ρ) {Q:ko→ar→Prop} (hQ : ∀a W' τ d,Q a (cX W' τ d)→Q a W') (h : ∀τ d,c.wp P (fun e a W'=>e=.normal∧Q a W') ⟨tmps,[]⟩ (cX lw τ d)) {k:List Item} {cs:List bP}
  (cont : ∀lH jh jX ρ1 O1 w1,MS P F B S O1 lH jh jX w1 ρ1→Q ⟨lH,[]⟩ jX→Rn.le ρ ρ1→(∀c,O c→O1 c)→(∀c,S c→w1.heap[c]?=w.heap[c]?)→fS P c0 c1 z0 z1 Fin f m acc out S O1 (G (js fn jh k .run kd) cs) w1) :
  fS P c0 c1 z0 z1 Fin f m acc out S O (G (js fn bA (.code c :: k) .run kd) cs) w:=by
 have hw:=xh (main:=true) T hF hm.DM hE hi hc hc' hm.av hm.wr hm.tV hm.ok hQ h hm.shared k cs;rw[←hm.own] at hw;have hw':=hw.keep w fun c hc=>⟨(hm.vK hc).1,(hm.vK hc).2,rfl⟩
 refine fS.CB hw' ?_;rintro O1 g1 w1 ⟨⟨lH,jh,jX,ρ1,rfl,Me,hq,hkn⟩,hk⟩;refine cont lH jh jX ρ1 O1 w1 ⟨Me,hkn.wr,hkn.tV,bq hm.DM hkn.grow,hkn.own,hkn.shared,hkn.ok⟩ hq hkn.le (fun c ho=>?_) fun c hc=>(hk c hc).2.2;rw[hm.own] at ho;obtain⟨b,h1,h2⟩:=ho;rw[hkn.own];exact⟨b,h1,hkn.le _ _ h2⟩
theorem fS.op{ops:Array cU}{i:Nat}{rest:List Nat}{o:cU}{fn:eD}{kd:jL}{k:List Item}{cs:List bP}{v:ak}{d:Tmp}(Cc:kd≠.early)(ho:ops[i]?=some o)(hg:o.guard=none)(hd:o.dst=some d)
  (h : ∀w,(dX (js fn bA (.inRegion ops (i :: rest) :: k) .run kd).eval o).runT P w #[]=(.ok (.value v) w,#[]))
  (hk:fS P c0 c1 z0 z1 Fin f m acc out S O (GK fn (bA.setIfInBounds d v) (.inRegion ops rest :: k) kd cs) w):fS P c0 c1 z0 z1 Fin f m acc out S O (GK fn bA (.inRegion ops (i :: rest) :: k) kd cs) w:=by
 refine .ctl rfl rfl (fun w=>?_) rfl rfl hk;have:=MZ (P:=P) (main:=true) (fn:=fn) (tmps:=bA) (kd:=kd) (k:=k) (cs:=cs) (rest:=rest) Cc ho hg (h w);rw[this];simp only[hd];rfl
end
end Go.Lag
namespace Go.Proofs.YtffladgmkiimjaaGreatDoor
open Go.RowKit Go.Lag
open Go.Conc
def mK(X:Nat→Prop)(w:ar)(v:ak)(n:Nat)(xs:List ak):Prop:=
 (v=.slice none 0 0∧n=0∧xs=[])∨∃g off cap,v=.slice (some ⟨g,off,none⟩) n cap∧(n≤4294967296∧n≤cap)∧X g∧∀j u,xs[j]?=some u→w.cell? ⟨g,off+j,none⟩=some u
theorem mK.to{X:Nat→Prop}{w0 w:ar}{v:ak}{n:Nat}{xs:List ak}(h:mK X w0 v n xs)(hlt : ∀c,X c→c<w.heap.size)(hc : ∀a:dc,X a.block→w.cell? a=w0.cell? a):Reads w v n xs:=by
 rcases h with h|⟨g,off,cap,h1,h2,h3,h4⟩
 ·exact .inl h
 ·exact .inr ⟨g,off,cap,h1,h2,hlt g h3,fun j u hj=>(hc ⟨g,off+j,none⟩ h3).trans (h4 j u hj)⟩
structure MR(P:aN)(b:BB)(men sent marks all:ak)(l:List eV)(ss:List Int)(ms:List Mk)(X0:Nat→Prop)(w0:ar)(xb fb tb c0 c1:Nat):Prop where
 e:P=aq
 f178:P.funcs[(178:Nat)]?=some Tryz.f178
 i159:P.inits.idxOf? 159=none
 i178:P.inits.idxOf? 178=none
 ok:b.Ok
 Yj : ∀a∈l,a.Ok
 FX : ∀s∈ss,1≤s∧s≤8
 Yz : ∀m∈ms,1≤m.minute∧m.minute≤8
 cl:Closed fw X0 w0
 low : ∀c,X0 c→P.globals.size≤c
 tV:P.globals.size≤w0.heap.size
 xx:X0 xb
 xf:X0 fb
 xt:X0 tb
 xc : ∀i u,(b.open men sent marks all)[i]?=some u→w0.cell? ⟨xb,i,none⟩=some u
 fc:w0.cell? ⟨fb,0,none⟩=some (.chan (some c0))
 tc:w0.cell? ⟨tb,0,none⟩=some (.chan (some c1))
 rs:mK X0 w0 sent ss.length (ss.map (aM .i64))
 rm:mK X0 w0 marks ms.length (eN ms)
 ra:mK X0 w0 all l.length (rowOf l)
def Kp(X0:Nat→Prop)(w0 lw:ar):Prop:=∀c,X0 c→lw.heap[c]?=(shut X0 w0).heap[c]?
section
variable{P:aN}{b:BB}{men sent marks all:ak}{l:List eV}{ss:List Int}{ms:List Mk}{X0:Nat→Prop}{w0:ar}{xb fb tb c0 c1:Nat}
 {S O:Nat→Prop} {tmps bA:Array ak} {lw w:ar} {ρ:Rn} {B:Nat→Prop}
theorem Kp.cell(h:Kp X0 w0 lw){a:dc}(ha:X0 a.block):lw.cell? a=w0.cell? a:=(jd (h _ ha)).trans (vJ ha)
theorem Kp.lt(E:MR P b men sent marks all l ss ms X0 w0 xb fb tb c0 c1)(h:Kp X0 w0 lw){c:Nat}(hc:X0 c):c<lw.heap.size:=by
 obtain⟨cs,e,z,h1,_⟩:=E.cl c hc;have:=h c hc;rw[C6 h1 hc] at this;exact eY this
theorem Kp.below(E:MR P b men sent marks all l ss ms X0 w0 xb fb tb c0 c1)(h:Kp X0 w0 lw){eM:ar}(hb:aC lw.heap.size lw eM):Kp X0 w0 eM:=fun c hc=>(hb.block c (h.lt E hc)).trans (h c hc)
theorem Kp.reads(E:MR P b men sent marks all l ss ms X0 w0 xb fb tb c0 c1)(h:Kp X0 w0 lw){v:ak}{n:Nat}{xs:List ak}(hr:mK X0 w0 v n xs):Reads lw v n xs:=hr.to (fun c hc=>h.lt E hc) fun a ha=>h.cell ha
theorem Kp.heap(h:Kp X0 w0 lw){eM:ar}(e:eM.heap=lw.heap):Kp X0 w0 eM:=fun c hc=>by rw[e];exact h c hc
structure St(P:aN)(X0:Nat→Prop)(w0:ar)(S O:Nat→Prop)(tmps bA:Array ak)(lw w:ar)(ρ:Rn)(B:Nat→Prop):Prop where
 ms:MS P fw B S O tmps bA lw w ρ
 id:Rn.le (xr X0) ρ
 xB : ∀c,X0 c→B c
 kp:Kp X0 w0 lw
 kw : ∀c,X0 c→w.heap[c]?=w0.heap[c]?
theorem St.xS(st:St P X0 w0 S O tmps bA lw w ρ B){c:Nat}(hc:X0 c):S c:=(st.ms.shared c).2 ⟨c,st.xB c hc,st.id _ _ (vh hc)⟩
theorem UI{ρ:Rn}(hid:Rn.le (xr X0) ρ){a a':dc}(ha:X0 a.block)(h:AR ρ a a'):a'=a:=by
 have h1:=hid _ _ (vh ha);have h2:=h.block;rw[h1] at h2;have h3:=bt h2;have h4:=h.off;have h5:=h.spot;obtain⟨b1,o1,s1⟩:=a;obtain⟨b2,o2,s2⟩:=a';dsimp only at h3 h4 h5;subst h3;subst h4;subst h5;rfl
theorem St.ptr(st:St P X0 w0 S O tmps bA lw w ρ B){i:Nat}{a:dc}(ha:X0 a.block)(hi:tmps[i]?=some (ptr a)):bA[i]?=some (ptr a):=by
 obtain⟨y,hy,hv⟩:=st.ms.get hi;cases hv with
 |@ptr _ a' ER=>rw[UI st.id ha ER] at hy;exact hy
theorem St.flat(st:St P X0 w0 S O tmps bA lw w ρ B){i:Nat}{v:ak}(hv:v.oneCell'=true∧(match v with|.bool _|.int ..|.chan _=>true|_=>false)=true)(hi:tmps[i]?=some v):bA[i]?=some v:=by
 obtain⟨y,hy,h⟩:=st.ms.get hi;obtain⟨_,h2⟩:=hv;cases h<;>first|exact hy|cases h2
theorem St.bool(st:St P X0 w0 S O tmps bA lw w ρ B){i:Nat}{x:Bool}(hi:tmps[i]?=some (.bool x)):bA[i]?=some (.bool x):=st.flat ⟨rfl,rfl⟩ hi
theorem St.chan(st:St P X0 w0 S O tmps bA lw w ρ B){i:Nat}{x:Option Nat}(hi:tmps[i]?=some (.chan x)):bA[i]?=some (.chan x):=st.flat ⟨rfl,rfl⟩ hi
variable{z0 z1:ak}{Fin:List ak→List ak→(Nat→Prop)→(Nat→Prop)→aF→ar→Prop}{f m:Nat}{acc out:List ak}
theorem St.piece(E:MR P b men sent marks all l ss ms X0 w0 xb fb tb c0 c1)(st:St P X0 w0 S O tmps bA lw w ρ B){c:gZ}(hc:(iq aq fw c&&eb c)=true){R:ko→ar→Prop}(hR : ∀a W' τ d,R a (cX W' τ d)→R a W')
  (h : ∀eM,eM.heap=lw.heap→c.wp aq (fun e a W'=>e=.normal∧R a W'∧Kp X0 w0 W') ⟨tmps,[]⟩ eM) {k:List Item} {cs:List bP}
  (cont : ∀lH jh jX ρ1 O1 w1,St P X0 w0 S O1 lH jh jX w1 ρ1 B→R ⟨lH,[]⟩ jX→Rn.le ρ ρ1→(∀c,O c→O1 c)→fS P c0 c1 z0 z1 Fin f m acc out S O1 (GK 159 jh k .normal cs) w1) :
  fS P c0 c1 z0 z1 Fin f m acc out S O (GK 159 bA (.code c :: k) .normal cs) w:=by
 have hq:Quiet P:=quiet_of E.e;have OY:tq P fw:=Ke E.e;rw[Bool.and_eq_true] at hc;refine fS.Wc hq OY (by simp) E.i159 (by rw[E.e];exact hc.1) hc.2 st.ms (Q:=fun a W'=>R a W'∧Kp X0 w0 W') (fun a W' τ d hq=>⟨hR _ _ _ _ hq.1,hq.2⟩) (fun τ d=>by rw[E.e];exact h (cX lw τ d) rfl) ?_;intro lH jh jX ρ1 O1 w1 JZ hq hle hO hS;exact cont lH jh jX ρ1 O1 w1 ⟨JZ,fun b c h=>hle _ _ (st.id _ _ h),st.xB,hq.2,fun c hc=>(hS c (st.xS hc)).trans (st.kw c hc)⟩ hq.1 hle hO
end
theorem ve{c:gZ}(h:c∈[YN,YM,YL,XR,YK,Kc,Fe,Pd,Ag,Af,Pc]):(iq aq fw c&&eb c)=true:=List.all_eq_true.1 acB c h
theorem acm : ∀w es,(ja 108).runT aq w es=(.ok (.int .i64 0) w,es):=fun _ _=>by kernel_rfl
theorem z4 : ∀w es,(ja 4).runT aq w es=(.ok (.bool false) w,es):=fun _ _=>by kernel_rfl
theorem s16:(opsOf nI).size=4:=by kernel_rfl
theorem DF:(opsOf nI)[0]?=some ((opsOf nI).getD 0 default)∧((opsOf nI).getD 0 default).op=.select #[{ chan:=.tmp 57,send:=none,elem:=108 },{ chan:=.tmp 58,send:=none,elem:=4 }] true∧((opsOf nI).getD 0 default).dst=some 59∧((opsOf nI).getD 0 default).guard=none:=⟨by kernel_rfl,by kernel_rfl,by kernel_rfl,by kernel_rfl⟩
theorem Bj:(opsOf nI)[1]?=some ((opsOf nI).getD 1 default)∧((opsOf nI).getD 1 default).op=.extract (.tmp 59) 0∧((opsOf nI).getD 1 default).dst=some 60∧((opsOf nI).getD 1 default).guard=none:=⟨by kernel_rfl,by kernel_rfl,by kernel_rfl,by kernel_rfl⟩
theorem Bi:(opsOf nI)[2]?=some ((opsOf nI).getD 2 default)∧((opsOf nI).getD 2 default).op=.binOp .eql 3 (.tmp 60) (.const (.int .i64 0)) 3∧((opsOf nI).getD 2 default).dst=some 61∧((opsOf nI).getD 2 default).guard=none:=⟨by kernel_rfl,by kernel_rfl,by kernel_rfl,by kernel_rfl⟩
theorem Bh:(opsOf nI)[3]?=some ((opsOf nI).getD 3 default)∧((opsOf nI).getD 3 default).op=.binOp .eql 3 (.tmp 60) (.const (.int .i64 1)) 3∧((opsOf nI).getD 3 default).dst=some 62∧((opsOf nI).getD 3 default).guard=none:=⟨by kernel_rfl,by kernel_rfl,by kernel_rfl,by kernel_rfl⟩
theorem Bg{fr:bP}{o:cU}{x:cB}{i:Nat}{vs:Array ak}{v:ak}(ho:o.op=.extract x i)(hx:fr.eval x=.tuple vs)(hv:vs[i]?=some v)(P:aN)(w:ar):(dX fr.eval o).runT P w #[]=(.ok (.value v) w,#[]):=by
 unfold dX;rw[ho];simp only[hx,Instr.extract,hv];rfl
theorem aa3{fr:bP}{o:cU}{x:cB}(ho:o.op=.binOp .eql 3 x (.const (.int .i64 0)) 3)(hx:fr.eval x=.int .i64 0)(w:ar):(dX fr.eval o).runT aq w #[]=(.ok (.value (.bool true)) w,#[]):=by
 unfold dX;rw[ho];simp only[hx]
 kernel_rfl
theorem aa2{fr:bP}{o:cU}{x:cB}(ho:o.op=.binOp .eql 3 x (.const (.int .i64 1)) 3)(hx:fr.eval x=.int .i64 0)(w:ar):(dX fr.eval o).runT aq w #[]=(.ok (.value (.bool false)) w,#[]):=by
 unfold dX;rw[ho];simp only[hx]
 kernel_rfl
theorem aa1{fr:bP}{o:cU}{x:cB}(ho:o.op=.binOp .eql 3 x (.const (.int .i64 0)) 3)(hx:fr.eval x=.int .i64 1)(w:ar):(dX fr.eval o).runT aq w #[]=(.ok (.value (.bool false)) w,#[]):=by
 unfold dX;rw[ho];simp only[hx]
 kernel_rfl
theorem aa0{fr:bP}{o:cU}{x:cB}(ho:o.op=.binOp .eql 3 x (.const (.int .i64 1)) 3)(hx:fr.eval x=.int .i64 1)(w:ar):(dX fr.eval o).runT aq w #[]=(.ok (.value (.bool true)) w,#[]):=by
 unfold dX;rw[ho];simp only[hx]
 kernel_rfl
theorem pN{w w':ar}{B:Nat}{e:bg}{size:Nat}{v:ak}{n:Nat}{xs:List ak}(h:w.ownsRow B e size v n xs)(he:w'.heap=w.heap):w'.ownsRow B e size v n xs:=by
 unfold World.ownsRow at *;rw[he];exact h
def ints(l:List Nat):List Value:=l.map fun(p:Nat)=>aM .i64 (p:Int)
theorem GH.set{fb tb:Nat}{tmps:Array ak}{many:Int}{v:ak}(h:GH fb tb tmps many v)(i:Nat)(x:ak)(hi:i≠4∧i≠5∧i≠6∧i≠9):GH fb tb (tmps.setIfInBounds i x) many v:=
 ⟨by simp[h.size],by rw[aD (by omega)];exact h.t4,by rw[aD (by omega)];exact h.t5,by rw[aD (by omega)];exact h.t6,by rw[aD (by omega)];exact h.t9⟩
section
variable{P:aN}{b:BB}{men sent marks all:ak}{l:List eV}{ss:List Int}{ms:List Mk}{X0:Nat→Prop}{w0:ar}{xb fb tb c0 c1:Nat}
 {S O:Nat→Prop} {tmps bA:Array ak} {lw w:ar} {ρ:Rn} {B:Nat→Prop} {cs:List bP} {K:List Item}
theorem St.set(st:St P X0 w0 S O tmps bA lw w ρ B){v v':ak}(hv:VR fw ρ v v')(i:Nat):St P X0 w0 S O (tmps.setIfInBounds i v) (bA.setIfInBounds i v') lw w ρ B:=⟨st.ms.set hv i,st.id,st.xB,st.kp,st.kw⟩
theorem St.size(st:St P X0 w0 S O tmps bA lw w ρ B):tmps.size=bA.size:=st.ms.av.size
theorem St.row(st:St P X0 w0 S O tmps bA lw w ρ B){i:Nat}{v:ak}{B0:Nat}{out:List Nat}(hi:tmps[i]?=some v)(ho:lw.ownsRow B0 108 1 v out.length (ints out))(hn:out.length≤1000) : ∃v',bA[i]?=some v'∧Reads w v' out.length (ints out):=by
 obtain⟨v',hy,hv⟩:=st.ms.get hi;refine⟨v',hy,?_⟩;have hc:=fun g hg=>ho.cells (g:=g) hg;have hlen:out.length=0→ints out=[]:=fun h0=>by rw[List.eq_nil_of_length_eq_zero h0];rfl
 rcases ho.2 with⟨rfl,h0⟩|⟨g,cap,cur,rfl,h9⟩
 ·cases hv with
  |DG=>exact .inl ⟨rfl,h0,hlen h0⟩
 ·cases hv with
  |@slice _ a' _ _ ER=>
   obtain⟨o,o',h1,h2,_⟩:=st.ms.wr.at_ _ _ ER.block
   have e:a'=⟨a'.block,0,none⟩:=by
    have h4:=ER.off;have h5:=ER.spot;obtain⟨x,y,z⟩:=a';dsimp only at h4 h5 ⊢;subst h4;subst h5;rfl
   refine .inr ⟨a'.block,0,cap,by rw[e],⟨by omega,h9.2.2.1⟩,eY h2,fun j u hj=>?_⟩
   have hl:lw.cell? ⟨g,0+j,none⟩=some u:=by
    have:=hc g rfl j u hj;cases j<;>simpa [Addr.add] using this
   obtain⟨u',hu,hvu⟩:=st.ms.wr.cell (a:=⟨g,0+j,none⟩) (a':=⟨a'.block,0+j,none⟩) ⟨ER.block,rfl,rfl⟩ hl;obtain⟨p,_,rfl⟩:=List.mem_map.1 (List.mem_of_getElem? hj);cases hvu;exact hu
def UX(A:List ak)(K:List Item)(cs:List bP)(acc out:List ak)(S O:Nat→Prop)(g:aF)(w:ar):Prop:=
 ∃(bA:Array ak) (v:ak) (kJ:List Nat),g=GK 159 bA (.code wy :: K) .normal cs∧bA.size=71∧bA[9]?=some v∧out=ints kJ∧Reads w v kJ.length (ints kJ)∧acc=A
section
variable{k:List Item}{kd:jL}
theorem aa6(w:ar):fK P true (GK 159 bA (.code K6 :: k) kd cs) w=.go (GK 159 bA (.code (.seq Pd (.cond (.tmp 56) .skip (.exit 2))) :: .code (.block 3 RR) :: k) kd cs) w #[]:=by rw[XS];exact jR _ _ w
theorem aa8(w:ar):fK P true (GK 159 bA (.code RR :: k) kd cs) w=.go (GK 159 bA (.code Ag :: .code (.seq nI (.block 4 RQ)) :: k) kd cs) w #[]:=by rw[XV];exact jR _ _ w
theorem Yb(w:ar):fK P true (GK 159 bA (.code nI :: k) kd cs) w=.go (GK 159 bA (.inRegion (opsOf nI) [0,1,2,3] :: k) kd cs) w #[]:=by
 have h:=tY (P:=P) (main:=true) (fn:=159) (tmps:=bA) (kd:=kd) (k:=k) (cs:=cs) 16 (opsOf nI) w;rw[←Ut,s16] at h;exact h
theorem VG{x:Bool}(h:(js 159 bA (.code RQ :: k) .run kd).eval (.tmp 61)=.bool x)(w:ar):fK P true (GK 159 bA (.code RQ :: k) kd cs) w=.go (GK 159 bA (.code (if x then Af else .cond (.tmp 62) Pc .skip) :: k) kd cs) w #[]:=by rw[XU] at h ⊢;exact sH h w
end
theorem XP(t:Array ak)(h:t.size=71)(a b c d:ak):((((t.setIfInBounds 59 a).setIfInBounds 60 b).setIfInBounds 61 c).setIfInBounds 62 d)[59]?=some a∧((((t.setIfInBounds 59 a).setIfInBounds 60 b).setIfInBounds 61 c).setIfInBounds 62 d)[61]?=some c∧((((t.setIfInBounds 59 a).setIfInBounds 60 b).setIfInBounds 61 c).setIfInBounds 62 d)[62]?=some d∧
  (t.setIfInBounds 59 a)[59]?=some a∧((t.setIfInBounds 59 a).setIfInBounds 60 b)[60]?=some b∧(((t.setIfInBounds 59 a).setIfInBounds 60 b).setIfInBounds 61 c)[60]?=some b:=by
 refine⟨?_,?_,?_,?_,?_,?_⟩<;>simp[Array.getElem?_setIfInBounds,h]
theorem GH.Ze{fb tb:Nat}{tmps:Array ak}{many:Int}{v:ak}(h:GH fb tb tmps many v)(a b c d:ak):GH fb tb ((((tmps.setIfInBounds 59 a).setIfInBounds 60 b).setIfInBounds 61 c).setIfInBounds 62 d) many v:=
 (((h.set 59 a (by omega)).set 60 b (by omega)).set 61 c (by omega)).set 62 d (by omega)
theorem rb{F:Nat→Bool}{ρ:Rn}{v:ak}(h:Eb v=true):VR F ρ v v:=yR h
theorem ZL(E:MR P b men sent marks all l ss ms X0 w0 xb fb tb c0 c1) : ∀(N f many:Nat) (kg kJ:List Nat) (S O:Nat→Prop) (tmps bA:Array ak) (lw w:ar) (ρ:Rn) (B:Nat→Prop) (v:ak) (B0:Nat),
  f+many=N→f≤many→many≤600→kJ.length+f≤600→St P X0 w0 S O tmps bA lw w ρ B→GH fb tb tmps many v→lw.ownsRow B0 108 1 v kJ.length (ints kJ)→B0≤lw.heap.size→(∀c,X0 c→c<B0)→
  fS P c0 c1 (.int .i64 0) (.bool false) (UX (ints kg) K cs) f many (ints kg) (ints kJ) S O (GK 159 bA (.code K6 :: .inLoop K6 :: .inBlock 2 :: .code wy :: K) .normal cs) w:=by
 intro N
 induction N using Nat.strongRecOn with
 |ind N ih=>
  intro f many kg kJ S O tmps bA lw w ρ B v B0 hN hfm hm6 hof st Fb hown hB0 Tc;refine .ctl rfl rfl aa6 rfl rfl (.ctl rfl rfl (jR _ _) rfl rfl ?_);refine st.piece E (ve (by simp)) (R:=fun a W'=>(GH fb tb a.tmps many v∧a.tmps[56]?=some (.bool (decide ((0:Int)<many))))∧W'.ownsRow B0 108 1 v kJ.length (ints kJ)∧B0≤W'.heap.size) (fun _ _ _ _ h=>h) (fun eM vo=>?_) ?_
  ·refine AP (acw Fb) ?_;rintro e a W' ⟨rfl,h1,h2,rfl⟩;exact⟨rfl,⟨⟨h1,h2⟩,pN hown vo,by rw[vo];exact hB0⟩,st.kp.heap vo⟩
  clear st Fb hown hB0;rintro tmps bA lw ρ O w st ⟨⟨Fb,h56⟩,hown,hB0⟩ - -;have aaP:=st.bool h56;refine .ctl rfl rfl (sH (bB aaP)) rfl rfl ?_
  by_cases hz:many=0
  ·subst hz;obtain rfl:f=0:=by omega
   rw[show decide ((0:Int)<((0:Nat):Int))=false from rfl];refine .ctl rfl rfl (Ei (k':=.code wy :: K) rfl) rfl rfl ?_;refine .fin rfl fun w1 hr=>?_;have st':St P X0 w0 S O tmps bA lw w1 ρ B:=⟨st.ms.rely hr,st.id,st.xB,st.kp,fun c hc=>(hr.keep c (.inl (st.xS hc))).trans (st.kw c hc)⟩
   obtain⟨v',hv',mC⟩:=st'.row Fb.t9 hown (by omega);exact⟨bA,v',kJ,rfl,by rw[←st'.size];exact Fb.size,hv',rfl,mC,rfl⟩
  obtain⟨m,rfl⟩ : ∃m,many=m+1:=⟨many - 1,by omega⟩
  rw[show decide ((0:Int)<((m+1:Nat):Int))=true from decide_eq_true (by omega)];refine .ctl rfl rfl (fun w=>za w) rfl rfl (.ctl rfl rfl (qi _ _) rfl rfl (.ctl rfl rfl aa8 rfl rfl ?_));have hcf:lw.cell? ⟨fb,0,none⟩=some (.chan (some c0)):=(st.kp.cell E.xf).trans E.fc;have Ta:lw.cell? ⟨tb,0,none⟩=some (.chan (some c1)):=(st.kp.cell E.xt).trans E.tc;refine st.piece E (ve (by simp)) (R:=fun a W'=>(GH fb tb a.tmps (m+1:Nat) v∧a.tmps[57]?=some (.chan (some c0))∧a.tmps[58]?=some (.chan (some c1)))∧W'.ownsRow B0 108 1 v kJ.length (ints kJ)∧B0≤W'.heap.size) (fun _ _ _ _ h=>h) (fun eM vo=>?_) ?_
  ·refine AP (Wh Fb ((jd (by rw[vo])).trans hcf) ((jd (by rw[vo])).trans Ta)) ?_;rintro e a W' ⟨rfl,h1,h2,h3,rfl⟩;exact⟨rfl,⟨⟨h1,h2,h3⟩,pN hown vo,by rw[vo];exact hB0⟩,st.kp.heap vo⟩
  clear st Fb hown hB0 hcf Ta h56 aaP;rintro tmps bA lw ρ O w st ⟨⟨Fb,h57,h58⟩,hown,hB0⟩ - -;have XJ:=st.chan h57;have XI:=st.chan h58;refine .ctl rfl rfl (jR _ _) rfl rfl (.ctl rfl rfl Yb rfl rfl ?_);refine .select (Qa (t0:=108) (t1:=4) (by simp) DF.1 DF.2.1 DF.2.2.2 (by rw[E.e];exact acm) (by rw[E.e];exact z4) (bB XJ) (bB XI)) (fun x f' hf' hx=>?_) (fun adK=>?_)
  ·obtain⟨p,hp,rfl⟩:=List.mem_map.1 hx;subst hf';rw[EA DF.1 DF.2.2.1];have ev:(Value.tuple #[goInt ((0:Nat):Int),.bool true,if (0:Nat)=0 then .int .i64 (p:Int) else .int .i64 0,if (0:Nat)=1 then .int .i64 (p:Int) else .bool false])=.tuple #[.int .i64 0,.bool true,.int .i64 (p:Int),.bool false]:=by simp[goInt]
   rw[ev];have hsz:bA.size=71:=by rw[←st.size];exact Fb.size
   obtain⟨g1,g2,g3,g4,g5,g6⟩:=XP bA hsz (.tuple #[.int .i64 0,.bool true,.int .i64 (p:Int),.bool false]) (.int .i64 0) (.bool true) (.bool false);obtain⟨l1,-,-,-,-,-⟩:=XP tmps Fb.size (.tuple #[.int .i64 0,.bool true,.int .i64 (p:Int),.bool false]) (.int .i64 0) (.bool true) (.bool false);refine .op (by simp) Bj.1 Bj.2.2.2 Bj.2.2.1 (fun w=>Bg (v:=.int .i64 0) Bj.2.1 (bB g4) rfl P w) ?_;refine .op (by simp) Bi.1 Bi.2.2.2 Bi.2.2.1 (fun w=>by rw[E.e];exact aa3 Bi.2.1 (bB g5) w) ?_;refine .op (by simp) Bh.1 Bh.2.2.2 Bh.2.2.1 (fun w=>by rw[E.e];exact aa2 Bh.2.1 (bB g6) w) ?_;refine .ctl rfl rfl (ov _) rfl rfl (.ctl rfl rfl (qi _ _) rfl rfl (.ctl rfl rfl (VG (x:=true) (bB g2)) rfl rfl ?_));have Y7:=(((st.set (rb (v:=.tuple #[.int .i64 0,.bool true,.int .i64 (p:Int),.bool false]) (by simp[Eb,yS])) 59).set (rb (v:=.int .i64 0) rfl) 60).set (rb (v:=.bool true) rfl) 61).set (rb (v:=.bool false) rfl) 62;have hg4:=Fb.Ze (.tuple #[.int .i64 0,.bool true,.int .i64 (p:Int),.bool false]) (.int .i64 0) (.bool true) (.bool false);refine Y7.piece E (ve (by simp)) (R:=fun a W'=>∃v',GH fb tb a.tmps (m+1:Nat) v'∧W'.ownsRow B0 108 1 v' (kJ ++ [p]).length (ints (kJ ++ [p]))∧B0≤W'.heap.size) (fun _ _ _ _ h=>h) (fun eM vo=>?_) ?_
   ·refine AP (Wd (B:=B0) (out:=kJ) (by omega) hg4 l1 (pN hown vo) (by rw[vo];exact hB0)) ?_;rintro e a W' ⟨rfl,v',h1,h2,h3⟩;exact⟨rfl,⟨v',h1,h2,bq (by rw[vo];exact hB0) h3.size⟩,fun c hc=>(h3.block c (Tc c hc)).trans ((st.kp.heap vo) c hc)⟩
   clear Y7 hg4 st Fb hown hB0 h57 h58 XJ XI g1 g2 g3 g4 g5 g6 l1 ev hsz;rintro tmps bA lw ρ O w st ⟨v',Fb,hown,hB0⟩ - -;refine .ctl rfl rfl (fun w=>oP _ w) rfl rfl (.ctl rfl rfl (fun w=>oP _ w) rfl rfl (.ctl rfl rfl (fun w=>xI _ w) rfl rfl ?_));have e:ints kJ ++ [aM .i64 (p:Int)]=ints (kJ ++ [p]):=by simp[ints]
   rw[e];exact ih (f'+(m+1)) (by omega) f' (m+1) kg (kJ ++ [p]) S O tmps bA lw w ρ B v' B0 rfl (by omega) hm6 (by simp;omega) st Fb hown hB0 Tc
  ·rw[EA DF.1 DF.2.2.1];have ev:(Value.tuple #[goInt ((1:Nat):Int),.bool true,if (1:Nat)=0 then .bool true else .int .i64 0,if (1:Nat)=1 then .bool true else .bool false])=.tuple #[.int .i64 1,.bool true,.int .i64 0,.bool true]:=by simp[goInt]
   rw[ev];have hsz:bA.size=71:=by rw[←st.size];exact Fb.size
   obtain⟨g1,g2,g3,g4,g5,g6⟩:=XP bA hsz (.tuple #[.int .i64 1,.bool true,.int .i64 0,.bool true]) (.int .i64 1) (.bool false) (.bool true);refine .op (by simp) Bj.1 Bj.2.2.2 Bj.2.2.1 (fun w=>Bg (v:=.int .i64 1) Bj.2.1 (bB g4) rfl P w) ?_;refine .op (by simp) Bi.1 Bi.2.2.2 Bi.2.2.1 (fun w=>by rw[E.e];exact aa1 Bi.2.1 (bB g5) w) ?_;refine .op (by simp) Bh.1 Bh.2.2.2 Bh.2.2.1 (fun w=>by rw[E.e];exact aa0 Bh.2.1 (bB g6) w) ?_;refine .ctl rfl rfl (ov _) rfl rfl (.ctl rfl rfl (qi _ _) rfl rfl (.ctl rfl rfl (VG (x:=false) (bB g2)) rfl rfl (.ctl rfl rfl (sH (x:=true) (bB g3)) rfl rfl ?_)));have Y7:=(((st.set (rb (v:=.tuple #[.int .i64 1,.bool true,.int .i64 0,.bool true]) (by simp[Eb,yS])) 59).set (rb (v:=.int .i64 1) rfl) 60).set (rb (v:=.bool false) rfl) 61).set (rb (v:=.bool true) rfl) 62;have hg4:=Fb.Ze (.tuple #[.int .i64 1,.bool true,.int .i64 0,.bool true]) (.int .i64 1) (.bool false) (.bool true);refine Y7.piece E (ve (by simp)) (R:=fun a W'=>GH fb tb a.tmps m v∧W'.ownsRow B0 108 1 v kJ.length (ints kJ)∧B0≤W'.heap.size) (fun _ _ _ _ h=>h) (fun eM vo=>?_) ?_
   ·refine AP (acv (many:=((m+1:Nat):Int)) (by omega) hg4) ?_;rintro e a W' ⟨rfl,h1,rfl⟩;refine⟨rfl,⟨?_,pN hown vo,by rw[vo];exact hB0⟩,st.kp.heap vo⟩;have e:((m+1:Nat):Int) - 1=(m:Int):=by omega
    rw[e] at h1;exact h1
   clear Y7 hg4 st Fb hown hB0 h57 h58 XJ XI g1 g2 g3 g4 g5 g6 ev hsz;rintro tmps bA lw ρ O w st ⟨Fb,hown,hB0⟩ - -;refine .ctl rfl rfl (fun w=>oP _ w) rfl rfl (.ctl rfl rfl (fun w=>oP _ w) rfl rfl (.ctl rfl rfl (fun w=>xI _ w) rfl rfl ?_));exact ih (f+m) (by omega) f m kg kJ S O tmps bA lw w ρ B v B0 rfl adK (by omega) hof st Fb hown hB0 Tc
end
theorem s10:(opsOf uD).size=2:=by kernel_rfl
theorem Nd:(opsOf uD)[0]?=some ((opsOf uD).getD 0 default)∧((opsOf uD).getD 0 default).op=.makeFunc (.func 178) #[] #[.tmp 1,.tmp 8,.tmp 4,.tmp 5]∧((opsOf uD).getD 0 default).dst=some 53∧((opsOf uD).getD 0 default).guard=none:=⟨by kernel_rfl,by kernel_rfl,by kernel_rfl,by kernel_rfl⟩
theorem Nc:(opsOf uD)[1]?=some ((opsOf uD).getD 1 default)∧((opsOf uD).getD 1 default).op=.go { callee:=.value (.tmp 53),args:=#[],argTypes:=#[] }∧((opsOf uD).getD 1 default).dst=none∧((opsOf uD).getD 1 default).guard=none:=⟨by kernel_rfl,by kernel_rfl,by kernel_rfl,by kernel_rfl⟩
theorem G8{fr:bP}{o:cU}{f:eD}{x y z u:cB}(ho:o.op=.makeFunc (.func f) #[] #[x,y,z,u]){a b c d:ak}(hx:fr.eval x=a)(hy:fr.eval y=b)(hz:fr.eval z=c)(hu:fr.eval u=d)(P:aN)(w:ar) :
  (dX fr.eval o).runT P w #[]=(.ok (.value (.func (.func f) #[] #[a,b,c,d])) w,#[]):=by
 unfold dX;rw[ho];simp only[List.map_toArray,di,fW,hx,hy,hz,hu];rfl
def manyN(b:BB)(jr sn:Nat):Nat→Nat
 |0=>0
 |m+1=>manyN b jr sn m+if ng b jr sn m then 0 else 1
def kg(b:BB)(jr sn:Nat)(l:List eV):Nat→List Nat
 |0=>[]
 |m+1=>kg b jr sn l m ++ if !ng b jr sn m&&b.sure l (sn ||| m) then[sn ||| m] else[]
theorem JK(b:BB)(jr sn:Nat) : ∀m,manyN b jr sn m≤m
 |0=>ay _
 |m+1=>by have:=JK b jr sn m;unfold manyN;split<;>omega
theorem NI(b:BB)(jr sn:Nat)(l:List eV) : ∀m,(kg b jr sn l m).length≤manyN b jr sn m
 |0=>ay _
 |m+1=>by
  have:=NI b jr sn l m;unfold kg manyN;cases hs:ng b jr sn m
  ·cases h2:b.sure l (sn ||| m)<;>simp<;>omega
  ·simp;omega
theorem GT.Zd{xb fb tb sn:Nat}{tmps:Array ak}{many m:Int}{t8:ak}(h:GT xb fb tb sn tmps many m t8)(x:ak):GT xb fb tb sn (tmps.setIfInBounds 53 x) many m t8:=
 ⟨by simp[h.size],by rw[aD (by omega)];exact h.t1,by rw[aD (by omega)];exact h.t3,by rw[aD (by omega)];exact h.t4,by rw[aD (by omega)];exact h.t5,
  by rw[aD (by omega)];exact h.t6,by rw[aD (by omega)];exact h.t18,by rw[aD (by omega)];exact h.t8⟩
section
variable{P:aN}{b:BB}{men sent marks all:ak}{l:List eV}{ss:List Int}{ms:List Mk}{X0:Nat→Prop}{w0:ar}{xb fb tb c0 c1:Nat}
 {S O:Nat→Prop} {tmps bA:Array ak} {lw w:ar} {ρ:Rn} {B:Nat→Prop} {cs:List bP} {K k:List Item} {kd:jL}
theorem aa7(w:ar):fK P true (GK 159 bA (.code Ih :: k) kd cs) w=.go (GK 159 bA (.code YN :: .code (.seq (.cond (.tmp 19) .skip (.exit 0)) (.seq (.block 1 Mh) Kc)) :: k) kd cs) w #[]:=by rw[XT];exact jR _ _ w
theorem aa9(w:ar):fK P true (GK 159 bA (.code Mh :: k) kd cs) w=.go (GK 159 bA (.code YM :: .code (.seq YL (.seq (.seq XR (.cond (.tmp 50) (.exit 1) .skip)) (.seq YK uD))) :: k) kd cs) w #[]:=by rw[XW];exact jR _ _ w
theorem Yc(w:ar):fK P true (GK 159 bA (.code uD :: k) kd cs) w=.go (GK 159 bA (.inRegion (opsOf uD) [0,1] :: k) kd cs) w #[]:=by
 have h:=tY (P:=P) (main:=true) (fn:=159) (tmps:=bA) (kd:=kd) (k:=k) (cs:=cs) 10 (opsOf uD) w;rw[←Uu,s10] at h;exact h
theorem Ow(st:St P X0 w0 S O tmps bA lw w ρ B){i pb:Nat}{p:ak}(hf:yS p=true)(hi:tmps[i]?=some (ptr ⟨pb,0,none⟩))(ho:lw.heap[pb]?=some (.cells #[p] 108 (0,0))) :
  ∃pc,bA[i]?=some (ptr ⟨pc,0,none⟩)∧ρ pb=some pc∧(∃e z,w.heap[pc]?=some (.cells #[p] e z)):=by
 obtain⟨y,hy,hv⟩:=st.ms.get hi;cases hv with
 |@ptr _ a' ER=>
  have e:a'=⟨a'.block,0,none⟩:=by
   have h4:=ER.off;have h5:=ER.spot;obtain⟨x,y,z⟩:=a';dsimp only at h4 h5 ⊢;subst h4;subst h5;rfl
  refine⟨a'.block,by rw[←e];exact hy,ER.block,?_⟩;obtain⟨o,o',h1,h2,h3,_⟩:=st.ms.wr.at_ _ _ ER.block;rw[ho] at h1;cases h1;cases h3 with
  |@cells cs cs' e z z' PW hz=>
   have hs:cs'.size=1:=PW.size.symm;obtain⟨y,hy,hv⟩:=PW.get (i:=0) (x:=p) rfl
   have e1:cs' = #[y]:=by
    apply Array.ext
    ·simpa using hs
    ·intro j h1 h2;have hj:j=0:=by simp at h2;exact h2
     subst hj;have:=(aj.1 hy).2;simpa using this
   have e2:y=p:=by
    revert hf;cases hv<;>intro hf<;>first|rfl|cases hf
   exact⟨_,_,by rw[h2,e1,e2]⟩
theorem ZM(E:MR P b men sent marks all l ss ms X0 w0 xb fb tb c0 c1) : ∀(j m:Nat),m+j=512→∀(S O:Nat→Prop) (tmps bA:Array ak) (lw w:ar) (ρ:Rn) (B:Nat→Prop) (t8:ak),
  St P X0 w0 S O tmps bA lw w ρ B→GT xb fb tb (bK ss) tmps (manyN b (dw ss ms).toNat (bK ss) m) m t8→
  fS P c0 c1 (.int .i64 0) (.bool false) (UX (ints (kg b (dw ss ms).toNat (bK ss) l 512)) K cs) (kg b (dw ss ms).toNat (bK ss) l m).length (manyN b (dw ss ms).toNat (bK ss) m) (ints (kg b (dw ss ms).toNat (bK ss) l m)) [] S O
   (GK 159 bA (.code Ih :: .inLoop Ih :: .inBlock 0 :: .code (.seq Fe (.seq (.block 2 (.loop K6)) wy)) :: K) .normal cs) w:=by
 have OS:=ni ss E.FX;have D6:=PG ss ms (fun s hs=>(E.FX s hs).2) (fun s hs=>(E.Yz s hs).2);obtain⟨jr,Mc⟩ : ∃jr:Nat,dw ss ms=jr:=⟨(dw ss ms).toNat,by omega⟩
 rw[Mc,Int.toNat_natCast];rw[Mc] at D6;have aaB:1≤jr∧jr≤9:=by omega
 generalize ahY:bK ss=sn at *;intro j
 induction j with
 |zero|succ j ih=>?_
 all_goals
  intro m hm S O tmps bA lw w ρ B t8 st uM;have afH:=JK b jr sn m;have xE:=NI b jr sn l m;refine .ctl rfl rfl aa7 rfl rfl ?_;refine st.piece E (ve (by simp)) (R:=fun a W'=>GT xb fb tb sn a.tmps (manyN b jr sn m) m t8∧a.tmps[19]?=some (.bool (decide ((m:Int)<512)))) (fun _ _ _ _ h=>h) (fun eM vo=>?_) ?_
  ·refine AP (pR5 uM) ?_;rintro e a W' ⟨rfl,h1,h2,rfl⟩;exact⟨rfl,⟨h1,h2⟩,st.kp.heap vo⟩
  clear st uM;rintro tmps bA lw ρ O w st ⟨uM,h19⟩ - -;refine .ctl rfl rfl (jR _ _) rfl rfl (.ctl rfl rfl (sH (bB (st.bool h19))) rfl rfl ?_)
 ·have aaj:m=512:=by omega
  rw[show decide ((m:Int)<512)=false from decide_eq_false (by omega)];refine .ctl rfl rfl (Ei (k':=.code (.seq Fe (.seq (.block 2 (.loop K6)) wy)) :: K) rfl) rfl rfl (.ctl rfl rfl (jR _ _) rfl rfl ?_);refine st.piece E (ve (by simp)) (R:=fun a W'=>GH fb tb a.tmps (manyN b jr sn m) (.slice none 0 0)) (fun _ _ _ _ h=>h) (fun eM vo=>?_) ?_
  ·refine AP (acx uM) ?_;rintro e a W' ⟨rfl,h1,rfl⟩;exact⟨rfl,h1,st.kp.heap vo⟩
  clear st uM h19;rintro tmps bA lw ρ O w st Fb - -;refine .ctl rfl rfl (jR _ _) rfl rfl (.ctl rfl rfl (qi _ _) rfl rfl (.ctl rfl rfl (Kv _) rfl rfl ?_));subst aaj;exact ZL E _ _ _ _ [] S O tmps bA lw w ρ B _ lw.heap.size rfl xE (by omega) (by simp;omega) st Fb (World.ownsRow_nil _ _ _ _) (ay _) (fun c hc=>st.kp.lt E hc)
 ·rw[show decide ((m:Int)<512)=true from decide_eq_true (by omega)];refine .ctl rfl rfl (fun w=>za w) rfl rfl (.ctl rfl rfl (jR _ _) rfl rfl (.ctl rfl rfl (qi _ _) rfl rfl (.ctl rfl rfl aa9 rfl rfl ?_)));refine st.piece E (ve (by simp)) (R:=fun a W'=>GT xb fb tb sn a.tmps (manyN b jr sn m) m t8∧a.tmps[7]?=some (.int .i64 m)) (fun _ _ _ _ h=>h) (fun eM vo=>?_) ?_
  ·refine AP (pR6 uM) ?_;rintro e a W' ⟨rfl,h1,h2,rfl⟩;exact⟨rfl,⟨h1,h2⟩,st.kp.heap vo⟩
  clear st uM h19;rintro tmps bA lw ρ O w st ⟨uM,h7⟩ - -;refine .ctl rfl rfl (jR _ _) rfl rfl ?_;obtain⟨pb,hpb⟩ : ∃pb,lw.heap.size=pb:=⟨_,rfl⟩
  have aee : ∀c,B c→c<pb:=fun c hc=>hpb▸st.ms.wr.base c hc;refine st.piece E (ve (by simp)) (R:=fun a W'=>(GT xb fb tb sn a.tmps (manyN b jr sn m) m (ptr ⟨pb,0,none⟩)∧a.tmps[7]?=some (.int .i64 m))∧W'.heap[pb]?=some (.cells #[.int .i64 ((sn ||| m:Nat):Int)] 108 (0,0))) (fun _ _ _ _ h=>h) (fun eM vo=>?_) ?_
  ·refine AP (pR7 OS (by omega) uM h7) ?_;rintro e a W' ⟨rfl,h1,h2,h3,h4⟩;have hs:eM.heap.size=pb:=by rw[vo,hpb]
   rw[hs] at h1 h3;exact⟨rfl,⟨⟨h1,h2⟩,h3⟩,(st.kp.heap vo).below E h4⟩
  clear st uM h7 hpb;rintro tmps bA lw ρ O w st ⟨⟨uM,h7⟩,OU⟩ - -;refine .ctl rfl rfl (jR _ _) rfl rfl (.ctl rfl rfl (jR _ _) rfl rfl ?_);refine st.piece E (ve (by simp)) (R:=fun a W'=>(GT xb fb tb sn a.tmps (manyN b jr sn m) m (ptr ⟨pb,0,none⟩)∧a.tmps[50]?=some (.bool (ng b jr sn m)))∧W'.heap[pb]?=some (.cells #[.int .i64 ((sn ||| m:Nat):Int)] 108 (0,0))) (fun _ _ _ _ h=>h) (fun eM vo=>?_) ?_
  ·have kp':=st.kp.heap vo;have T7:eM.heap[pb]?=some (.cells #[.int .i64 ((sn ||| m:Nat):Int)] 108 (0,0)):=by rw[vo];exact OU
   refine AP (pR8 (b:=b) (men:=men) (sent:=sent) (marks:=marks) (pb:=pb) (lw:=eM) E.ok OS (by omega) uM h7 (fun i u hi=>(kp'.cell E.xx).trans (E.xc i u ?_)) ?_ ⟨kp'.lt E E.xx,eY T7⟩ aaB (fun w1 hb1=>?_)) ?_
   ·have adA:i<(b.cells men sent marks).size:=(aj.1 hi).1;rw[Array.getElem?_append_left adA];exact hi
   ·unfold dU;rw[T7];rfl
   ·have kw1:=kp'.below E hb1;have:=EB b men sent marks ss ms E.FX E.Yz w1 (kw1.reads E E.rs) (kw1.reads E E.rm);rw[Mc] at this;exact this
   ·rintro e a W' ⟨rfl,h1,h2,h3⟩;exact⟨rfl,⟨⟨h1,h2⟩,(h3.block pb (eY T7)).trans T7⟩,kp'.below E h3⟩
  clear st uM h7 OU;rintro tmps bA lw ρ O w st ⟨⟨uM,h50⟩,OU⟩ - -;refine .ctl rfl rfl (sH (bB (st.bool h50))) rfl rfl ?_
  have last : ∀(S O:Nat→Prop) (tmps bA:Array ak) (lw w:ar) (ρ:Rn) (B:Nat→Prop),St P X0 w0 S O tmps bA lw w ρ B→GT xb fb tb sn tmps (manyN b jr sn (m+1)) m (ptr ⟨pb,0,none⟩)→
    fS P c0 c1 (.int .i64 0) (.bool false) (UX (ints (kg b jr sn l 512)) K cs) (kg b jr sn l (m+1)).length (manyN b jr sn (m+1)) (ints (kg b jr sn l (m+1))) [] S O (GK 159 bA (.code Kc :: .inLoop Ih :: .inBlock 0 :: .code (.seq Fe (.seq (.block 2 (.loop K6)) wy)) :: K) .normal cs) w:=by
   clear st uM h50 OU;intro S O tmps bA lw w ρ B st uM;refine st.piece E (ve (by simp)) (R:=fun a W'=>GT xb fb tb sn a.tmps (manyN b jr sn (m+1)) ((m+1:Nat):Int) (ptr ⟨pb,0,none⟩)) (fun _ _ _ _ h=>h) (fun eM vo=>?_) ?_
   ·refine AP (acy (by omega) uM) ?_;rintro e a W' ⟨rfl,h1,rfl⟩;exact⟨rfl,h1,st.kp.heap vo⟩
   clear st uM;rintro tmps bA lw ρ O w st uM - -;refine .ctl rfl rfl (fun w=>xI _ w) rfl rfl ?_;exact ih (m+1) (by omega) S O tmps bA lw w ρ B _ st uM
  cases hsk:ng b jr sn m
  ·have em:manyN b jr sn (m+1)=manyN b jr sn m+1:=by show manyN b jr sn m+(if ng b jr sn m then 0 else 1)=_;rw[hsk];rfl
   refine .ctl rfl rfl (fun w=>za w) rfl rfl (.ctl rfl rfl (jR _ _) rfl rfl ?_);refine st.piece E (ve (by simp)) (R:=fun a W'=>GT xb fb tb sn a.tmps (manyN b jr sn (m+1)) m (ptr ⟨pb,0,none⟩)∧W'.heap[pb]?=some (.cells #[.int .i64 ((sn ||| m:Nat):Int)] 108 (0,0))) (fun _ _ _ _ h=>h) (fun eM vo=>?_) ?_
   ·refine AP (pR9 (by omega) uM) ?_;rintro e a W' ⟨rfl,h1,rfl⟩;refine⟨rfl,⟨?_,by rw[vo];exact OU⟩,st.kp.heap vo⟩;rw[em];exact h1
   clear st uM h50 OU;rintro tmps bA lw ρ O w st ⟨uM,OU⟩ - -;obtain⟨pc,h8',hρ,e0,zz,hpc⟩:=Ow st rfl uM.t8 OU;have hnB : ¬B pb:=fun h=>absurd (aee pb h) (Nat.lt_irrefl _);have aaJ:O pc:=by rw[st.ms.own];exact⟨pb,hnB,hρ⟩
   have hSO : ∀c,S c→¬O c:=fun c hc=>(st.ms.vK hc).2;have JZ:=st.ms.freeze hρ hnB OU
   have st2:St P X0 w0 (fun x=>S x∨x=pc) (fun x=>O x∧x≠pc) tmps bA (oO lw pb #[.int .i64 ((sn ||| m:Nat):Int)] 108 0) w ρ (fun x=>B x∨x=pb):=
    ⟨JZ,st.id,fun c hc=>.inl (st.xB c hc),fun c hc=>by
     have hne:c≠pb:=fun e=>hnB (e▸st.xB c hc);have:=pQ OU (x:=c);rw[if_neg hne] at this
     exact this.trans (st.kp c hc),st.kw⟩
   have acM : ∀c,X0 c→c<w.heap.size:=fun c hc=>(st.ms.vK (st.xS hc)).1;have Ib : ∀a:dc,X0 a.block→w.cell? a=w0.cell? a:=fun a ha=>jd (st.kw _ ha);have t1':=st.ptr E.xx uM.t1;have t4':=st.ptr E.xf uM.t4;have t5':=st.ptr E.xt uM.t5;refine .ctl rfl rfl Yc rfl rfl ?_;refine .op (by simp) Nd.1 Nd.2.2.2 Nd.2.2.1 (fun w=>G8 Nd.2.1 (bB t1') (bB h8') (bB t4') (bB t5') P w) ?_;have hsz:bA.size=71:=by rw[←st.size];exact uM.size
   have h53:(bA.setIfInBounds 53 (.func (.func 178) #[] #[ptr ⟨xb,0,none⟩,ptr ⟨pc,0,none⟩,ptr ⟨fb,0,none⟩,ptr ⟨tb,0,none⟩]))[53]?=some (.func (.func 178) #[] #[ptr ⟨xb,0,none⟩,ptr ⟨pc,0,none⟩,ptr ⟨fb,0,none⟩,ptr ⟨tb,0,none⟩]):=a7 (by omega);have hp9:sn ||| m<512:=Nat.or_lt_two_pow (n:=9) OS (by omega)
   have TX:gX P c0 c1 (fun c=>X0 c∨c=pc) (.int .i64 ((sn ||| m:Nat):Int)) (b.sure l (sn ||| m)) (fun _=>False) (vT P 178 #[ptr ⟨xb,0,none⟩,ptr ⟨pc,0,none⟩,ptr ⟨fb,0,none⟩,ptr ⟨tb,0,none⟩]) w:=by
    refine worker E.e E.f178 (fun c hc=>?_) (fun c hc=>?_) st.ms.tV E.i178 (.inl E.xx) (.inr rfl) (.inl E.xf) (.inl E.xt) ?_ ((Ib _ E.xf).trans E.fc) ((Ib _ E.xt).trans E.tc) (fun τ d=>?_)
    ·rcases hc with hc|rfl
     ·obtain⟨cs,e,z,h1,h2⟩:=E.cl c hc;exact⟨cs,e,z,by rw[st.kw c hc];exact h1,fun v hv=>(h2 v hv).mono (su fun _ h=>.inl h)⟩
     ·exact⟨_,e0,zz,hpc,fun v hv=>by simp at hv;subst hv;exact .int _ _⟩
    ·rcases hc with hc|rfl
     ·exact E.low c hc
     ·exact(st.ms.wr.low _ _ hρ).2
    ·unfold dU;rw[hpc];rfl
    ·rw[E.e];refine YZ b E.ok men sent marks all l E.Yj (sn ||| m) hp9 xb pc fb tb _ (E.ra.to (fun c hc=>?_) fun a ha=>?_) (fun i u hi=>?_) ?_
     ·show c<(shut _ w).heap.size;rw[vI];exact acM c hc
     ·exact(vJ (X:=fun c=>X0 c∨c=pc) (w:=w) (.inl ha)).trans (Ib a ha)
     ·exact(vJ (X:=fun c=>X0 c∨c=pc) (w:=w) (a:=⟨xb,i,none⟩) (.inl E.xx)).trans ((Ib _ E.xx).trans (E.xc i u hi))
     ·refine(vJ (X:=fun c=>X0 c∨c=pc) (w:=w) (a:=⟨pc,0,none⟩) (.inr rfl)).trans ?_;unfold dU;rw[hpc];rfl
   refine .spawn (Sk:=fun c=>X0 c∨c=pc) (S':=fun c=>S c∨c=pc) (O':=fun c=>O c∧c≠pc) (Tv (by simp) Nc.1 Nc.2.1 Nc.2.2.1 Nc.2.2.2 (bB h53)) rfl rfl (fun c hc=>?_) TX (fun c hc=>?_) (fun c hc=>?_) ?_
   ·rcases hc with hc|rfl
    ·exact .inl (st.xS hc)
    ·exact .inr aaJ
   ·rcases hc with hc|rfl
    ·exact .inl hc
    ·exact .inr aaJ
   ·exact⟨hc.1,fun h=>h.elim (fun h=>hSO c (st.xS h) hc.1) hc.2,fun h=>h.elim (fun h=>hSO c h hc.1) hc.2⟩
   ·refine .ctl rfl rfl (ov _) rfl rfl (.ctl rfl rfl (fun w=>oP _ w) rfl rfl ?_)
    have hvf:VR fw ρ (.func (.func 178) #[] #[ptr ⟨xb,0,none⟩,ptr ⟨pb,0,none⟩,ptr ⟨fb,0,none⟩,ptr ⟨tb,0,none⟩]) (.func (.func 178) #[] #[ptr ⟨xb,0,none⟩,ptr ⟨pc,0,none⟩,ptr ⟨fb,0,none⟩,ptr ⟨tb,0,none⟩]):=by
     have PU : ∀a:dc,X0 a.block→VR fw ρ (ptr a) (ptr a):=fun a ha=>.ptr ⟨st.id _ _ (vh ha),rfl,rfl⟩
     have PW:iV fw ρ #[ptr ⟨xb,0,none⟩,ptr ⟨pb,0,none⟩,ptr ⟨fb,0,none⟩,ptr ⟨tb,0,none⟩] #[ptr ⟨xb,0,none⟩,ptr ⟨pc,0,none⟩,ptr ⟨fb,0,none⟩,ptr ⟨tb,0,none⟩]:=
      (((iV.one (PU ⟨xb,0,none⟩ E.xx)).push (VR.ptr (a:=⟨pb,0,none⟩) (a':=⟨pc,0,none⟩) ⟨hρ,rfl,rfl⟩)).push (PU ⟨fb,0,none⟩ E.xf)).push (PU ⟨tb,0,none⟩ E.xt)
     exact .func (by rfl) rfl (fun i x y h=>by simp at h) PW.size PW.at_
    have:=last (fun x=>S x∨x=pc) (fun x=>O x∧x≠pc) _ _ _ w ρ _ (st2.set hvf 53) (uM.Zd _)
    have ea:kg b jr sn l (m+1)=kg b jr sn l m ++ if b.sure l (sn ||| m) then[sn ||| m] else[]:=by
     show kg b jr sn l m ++ (if !ng b jr sn m&&b.sure l (sn ||| m) then[sn ||| m] else[])=_;rw[hsk];rfl
    have ei:ints (kg b jr sn l (m+1))=ints (kg b jr sn l m) ++ if b.sure l (sn ||| m) then[.int .i64 ((sn ||| m:Nat):Int)] else[]:=by
     rw[ea];cases b.sure l (sn ||| m)<;>simp[ints]
    have el:(kg b jr sn l (m+1)).length=(kg b jr sn l m).length+(b.sure l (sn ||| m)).toNat:=by
     rw[ea];cases b.sure l (sn ||| m)<;>simp
    rw[ei,el,em] at this;exact this
  ·have em:manyN b jr sn (m+1)=manyN b jr sn m:=by show manyN b jr sn m+(if ng b jr sn m then 0 else 1)=_;rw[hsk];rfl
   have ea:kg b jr sn l (m+1)=kg b jr sn l m:=by show kg b jr sn l m ++ (if !ng b jr sn m&&b.sure l (sn ||| m) then[sn ||| m] else[])=_;rw[hsk];simp
   refine .ctl rfl rfl (Ei (k':=.code Kc :: .inLoop Ih :: .inBlock 0 :: .code (.seq Fe (.seq (.block 2 (.loop K6)) wy)) :: K) rfl) rfl rfl ?_;have:=last S O tmps bA lw w ρ B st (by rw[em];exact uM);rw[em,ea] at this;exact this
end
section
variable{b:BB}{men sent marks all:ak}{xb sn c0 c1 fb tb:Nat}{W:ar}
theorem pR0(hxb:W.heap.size=xb):gR0.wp aq (fun e a W'=>e=.normal∧a=⟨#[.agg (b.open men sent marks all),ptr ⟨xb,0,none⟩,.slice none 0 0,af,af,af,af,af,af,af,af,af,af,af,af,af,af,af,af,af,af,af,af,af,af,af,af,af,af,af,af,af,af,af,af,af,af,af,af,af,af,af,af,af,af,af,af,af,af,af,af,af,af,af,af,af,af,af,af,af,af,af,af,af,af,af,af,af,af,af,af],[]⟩∧W'=W.alloc (.cells (b.open men sent marks all) 122)) ⟨#[.agg (b.open men sent marks all),af,af,af,af,af,af,af,af,af,af,af,af,af,af,af,af,af,af,af,af,af,af,af,af,af,af,af,af,af,af,af,af,af,af,af,af,af,af,af,af,af,af,af,af,af,af,af,af,af,af,af,af,af,af,af,af,af,af,af,af,af,af,af,af,af,af,af,af,af,af],[]⟩ W:=by
 subst hxb;simp only[gR0,gM,qQ,kS,sL,sR];go_wp2
theorem pR1{ss:List Int}(pw : ∀s∈ss,1≤s∧s≤8)(hc:W.cell? ⟨xb,13,none⟩=some sent)(hs:Reads W sent ss.length (ss.map (aM .i64)))(OS:bK ss=sn):gR1.wp aq (fun e a W'=>e=.normal∧a=⟨#[.agg (b.open men sent marks all),ptr ⟨xb,0,none⟩,.slice none 0 0,.int .i64 sn,af,af,af,af,af,af,af,ptr ⟨xb,0,none⟩,ptr ⟨xb,0,none⟩,ptr ⟨xb,13,none⟩,sent,.int .i64 sn,af,af,af,af,af,af,af,af,af,af,af,af,af,af,af,af,af,af,af,af,af,af,af,af,af,af,af,af,af,af,af,af,af,af,af,af,af,af,af,af,af,af,af,af,af,af,af,af,af,af,af,af,af,af,af],[]⟩∧W'=W) ⟨#[.agg (b.open men sent marks all),ptr ⟨xb,0,none⟩,.slice none 0 0,af,af,af,af,af,af,af,af,af,af,af,af,af,af,af,af,af,af,af,af,af,af,af,af,af,af,af,af,af,af,af,af,af,af,af,af,af,af,af,af,af,af,af,af,af,af,af,af,af,af,af,af,af,af,af,af,af,af,af,af,af,af,af,af,af,af,af,af],[]⟩ W:=by
 have hP:=lL ss pw sent W hs;rw[OS] at hP;clear hs pw OS;simp only[gR1,gM,qQ,kS,sL,sR]
 go_wp2_with (go_at_call 106;refine hP.mono ?_;rintro e w' ⟨rfl,rfl⟩)
theorem UJ(W:ar)(o0 o1 o2 o3:Obj):(((((W.alloc o0).alloc o1).alloc o2).alloc o3).drew).heap[W.heap.size]?=some o0∧(((((W.alloc o0).alloc o1).alloc o2).alloc o3).drew).heap[W.heap.size+1]?=some o1∧(((((W.alloc o0).alloc o1).alloc o2).alloc o3).drew).heap[W.heap.size+1+1]?=some o2∧(((((W.alloc o0).alloc o1).alloc o2).alloc o3).drew).heap[W.heap.size+1+1+1]?=some o3∧aC W.heap.size W ((((W.alloc o0).alloc o1).alloc o2).alloc o3).drew:=by
 refine⟨?_,?_,?_,?_,(((((aw _ _).alloc (ay _) _).alloc (by simp) _).alloc (by simp<;>omega) _).alloc (by simp<;>omega) _).drew⟩
 ·show((((W.alloc o0).alloc o1).alloc o2).alloc o3).heap[_]?=_;rw[aX _ _ _ (by simp<;>omega),aX _ _ _ (by simp<;>omega),aX _ _ _ (by simp)];exact ax W o0
 ·show((((W.alloc o0).alloc o1).alloc o2).alloc o3).heap[_]?=_;rw[aX _ _ _ (by simp<;>omega),aX _ _ _ (by simp)];have:=ax (W.alloc o0) o1;simpa using this
 ·show((((W.alloc o0).alloc o1).alloc o2).alloc o3).heap[_]?=_;rw[aX _ _ _ (by simp)];have:=ax ((W.alloc o0).alloc o1) o2;simpa using this
 ·show((((W.alloc o0).alloc o1).alloc o2).alloc o3).heap[_]?=_;have:=ax (((W.alloc o0).alloc o1).alloc o2) o3;simpa using this
def Q2(b:BB)(men sent marks all:ak)(xb sn:Nat)(W:ar)(a:ko)(W':ar):Prop:=
 ∃c0 c1 fb tb:Nat,a=⟨#[.agg (b.open men sent marks all),ptr ⟨xb,0,none⟩,.slice none 0 0,.int .i64 sn,ptr ⟨fb,0,none⟩,ptr ⟨tb,0,none⟩,af,af,af,af,af,ptr ⟨xb,0,none⟩,ptr ⟨xb,0,none⟩,ptr ⟨xb,13,none⟩,sent,.int .i64 sn,.chan (some c0),.chan (some c1),af,af,af,af,af,af,af,af,af,af,af,af,af,af,af,af,af,af,af,af,af,af,af,af,af,af,af,af,af,af,af,af,af,af,af,af,af,af,af,af,af,af,af,af,af,af,af,af,af,af,af,af,af],[]⟩∧Chan c0 W'∧Chan c1 W'∧W'.heap[fb]?=some (.cells #[.chan (some c0)] 188 (0,0))∧W'.heap[tb]?=some (.cells #[.chan (some c1)] 189 (0,0))∧c0≠c1∧W.heap.size≤c0∧W.heap.size≤c1∧W.heap.size≤fb∧W.heap.size≤tb∧aC W.heap.size W W'
theorem pR2:gR2.wp aq (fun e a W'=>e=.normal∧Q2 b men sent marks all xb sn W a W') ⟨#[.agg (b.open men sent marks all),ptr ⟨xb,0,none⟩,.slice none 0 0,.int .i64 sn,af,af,af,af,af,af,af,ptr ⟨xb,0,none⟩,ptr ⟨xb,0,none⟩,ptr ⟨xb,13,none⟩,sent,.int .i64 sn,af,af,af,af,af,af,af,af,af,af,af,af,af,af,af,af,af,af,af,af,af,af,af,af,af,af,af,af,af,af,af,af,af,af,af,af,af,af,af,af,af,af,af,af,af,af,af,af,af,af,af,af,af,af,af],[]⟩ W:=by
 have ahG : ∀w,(Instr.makeChan 188 (.int .i64 0)).run aq w=.ok (.chan (some w.heap.size)) (w.alloc (.chan 0 #[] false 0 0 false)):=fun w=>by kernel_rfl
 have ahF : ∀w,(Instr.makeChan 189 (.int .i64 0)).run aq w=.ok (.chan (some w.heap.size)) (w.alloc (.chan 0 #[] false 0 0 false)):=fun w=>by kernel_rfl
 simp only[gR2,gM,qQ,kS,sL,sR]
 go_region
 all_goals refine⟨rfl,_,_,_,_,rfl,?_,?_,?_,?_,by omega,by omega,by omega,by omega,by omega,(UJ W _ _ _ _).2.2.2.2⟩
 all_goals first
  |exact⟨0,false,(UJ W _ _ _ _).1⟩
  |exact⟨0,false,(UJ W _ _ _ _).2.1⟩
  |exact⟨0,false,(UJ W _ _ _ _).2.2.1⟩
  |exact⟨0,false,(UJ W _ _ _ _).2.2.2.1⟩
  |exact(UJ W _ _ _ _).1
  |exact(UJ W _ _ _ _).2.1
  |exact(UJ W _ _ _ _).2.2.1
  |exact(UJ W _ _ _ _).2.2.2.1
theorem pR3:gR3.wp aq (fun e a W'=>e=.normal∧a=⟨#[.agg (b.open men sent marks all),ptr ⟨xb,0,none⟩,.slice none 0 0,.int .i64 sn,ptr ⟨fb,0,none⟩,ptr ⟨tb,0,none⟩,.int .i64 0,af,af,af,af,ptr ⟨xb,0,none⟩,ptr ⟨xb,0,none⟩,ptr ⟨xb,13,none⟩,sent,.int .i64 sn,.chan (some c0),.chan (some c1),af,af,af,af,af,af,af,af,af,af,af,af,af,af,af,af,af,af,af,af,af,af,af,af,af,af,af,af,af,af,af,af,af,af,af,af,af,af,af,af,af,af,af,af,af,af,af,af,af,af,af,af,af],[]⟩∧W'=W) ⟨#[.agg (b.open men sent marks all),ptr ⟨xb,0,none⟩,.slice none 0 0,.int .i64 sn,ptr ⟨fb,0,none⟩,ptr ⟨tb,0,none⟩,af,af,af,af,af,ptr ⟨xb,0,none⟩,ptr ⟨xb,0,none⟩,ptr ⟨xb,13,none⟩,sent,.int .i64 sn,.chan (some c0),.chan (some c1),af,af,af,af,af,af,af,af,af,af,af,af,af,af,af,af,af,af,af,af,af,af,af,af,af,af,af,af,af,af,af,af,af,af,af,af,af,af,af,af,af,af,af,af,af,af,af,af,af,af,af,af,af],[]⟩ W:=by
 simp only[gR3,gM,qQ,kS,sL,sR];go_wp2
theorem pR4:gR4.wp aq (fun e a W'=>e=.normal∧a=⟨#[.agg (b.open men sent marks all),ptr ⟨xb,0,none⟩,.slice none 0 0,.int .i64 sn,ptr ⟨fb,0,none⟩,ptr ⟨tb,0,none⟩,.int .i64 0,af,af,af,af,ptr ⟨xb,0,none⟩,ptr ⟨xb,0,none⟩,ptr ⟨xb,13,none⟩,sent,.int .i64 sn,.chan (some c0),.chan (some c1),.int .i64 0,af,af,af,af,af,af,af,af,af,af,af,af,af,af,af,af,af,af,af,af,af,af,af,af,af,af,af,af,af,af,af,af,af,af,af,af,af,af,af,af,af,af,af,af,af,af,af,af,af,af,af,af],[]⟩∧W'=W) ⟨#[.agg (b.open men sent marks all),ptr ⟨xb,0,none⟩,.slice none 0 0,.int .i64 sn,ptr ⟨fb,0,none⟩,ptr ⟨tb,0,none⟩,.int .i64 0,af,af,af,af,ptr ⟨xb,0,none⟩,ptr ⟨xb,0,none⟩,ptr ⟨xb,13,none⟩,sent,.int .i64 sn,.chan (some c0),.chan (some c1),af,af,af,af,af,af,af,af,af,af,af,af,af,af,af,af,af,af,af,af,af,af,af,af,af,af,af,af,af,af,af,af,af,af,af,af,af,af,af,af,af,af,af,af,af,af,af,af,af,af,af,af,af],[]⟩ W:=by
 simp only[gR4,gM,qQ,kS,sL,sR];go_wp2
end
end Go.Proofs.YtffladgmkiimjaaGreatDoor
