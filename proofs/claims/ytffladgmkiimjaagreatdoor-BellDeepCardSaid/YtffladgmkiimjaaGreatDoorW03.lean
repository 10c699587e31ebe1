/- LONE WALKS: Clash (50). LONE WALKS: open (103) with a question. LONE W .. -/
import Derived.Test.YtffladgmkiimjaaGreatDoorW02
import Derived.Test.YtffladgmkiimjaaGreatDoorW01
import Derived.Test.YtffladgmkiimjaaGreatDoorW00
set_option linter.all false
set_option maxHeartbeats 100000000
set_option maxRecDepth 1000000
open Array renaming getElem?_eq_some_iff → aj
open Go renaming undef → af,Value → ak,World → ar,Calls → bp,bodyPost_ret → bw,wpList_store_row → gT,maxLen → kQ,run_loadVar_row → ku,info_parts → mE,wpList_load_row → ox
open Go.Addr renaming add → l5
open Go.Ending renaming returned → aG
open Go.IntKind renaming i64 → ag
open Go.Lib renaming hid → ai
open Go.Obj renaming cells → au
open Go.Operand renaming tmp → aB
open Go.Proofs.Tryz renaming underlying28 → aT,prog → aq,underlying122 → jf
open Go.RowKit renaming Below → aC,Hid → mf
open Go.RowKit.Below renaming heap_alloc → aX,refl → aw,heap_setCell → bu
open Go.Value renaming pointer → a8,bool → aA,int → aM,agg → aQ,slice → ae,int → ah,tuple → bM,oneCell' → cy,ownBlock → ju
open Go.World renaming alloc_heap_new → ax,ownsRow_nil → eO,size_alloc → ey
open List renaming mem_range → bN,range → bf,length_pos_iff → cP,drop_eq_getElem_cons → dW,mem_cons_of_mem → eG,map_append → gi,length_map → iH,map → nL,length_append → qb
open List.range renaming loop → bR
open Nat renaming le_refl → ay,lt_of_lt_of_le → bE,le_trans → bq,zero_le → oA
open Option.some renaming inj → bt
open Or renaming inl → bI
namespace Go.Proofs.YtffladgmkiimjaaGreatDoor
open Go.RowKit Go.Lag
def nj(ms:List Mk)(l:List Nat):List Mk:=l.filterMap fun i=>ms[i]?
theorem Ou(ms:List Mk)(l:List Nat):(nj ms l).length≤l.length:=List.length_filterMap_le _ _
theorem Ot{ms:List Mk}{l:List Nat}{m:Mk}(h:m∈nj ms l):m∈ms:=by
 obtain⟨i,_,hi⟩:=List.mem_filterMap.1 h;exact List.mem_of_getElem? hi
theorem LB(ms:List Mk)(l:List Nat)(j:Nat)(hj:j<ms.length):nj ms (l++[j])=nj ms l++[ms[j]]:=by
 unfold nj;rw[List.filterMap_append];simp[hj]
theorem JC(ms:List Mk)(l:List Nat)(h:∀i∈l,i<ms.length):(nj ms l).length=l.length:=by
 induction l with
 |nil=>rfl
 |cons a l ih=>
  have ha:=h a (by simp);have:=ih fun i hi=>h i (by simp[hi])
  have e:nj ms (a::l)=ms[a]::nj ms l:=by
   unfold nj;rw[List.filterMap_cons];simp[ha]
  rw[e];simp[this]
theorem QJ{b:BB}{ms:List Mk}(h:lu b ms){n mask:Nat}(hn:n≤ms.length):lu b (nj ms (eh n mask)):=
 ⟨fun m hm=>h.mem m (Ot hm),by have:=Ou ms (eh n mask);have:=qD n mask;have:=h.len;omega⟩
def pW(b:BB)(ml:List Mn)(ss:List Int)(ms:List Mk)(mask:Nat):Bool:=decide (bn b ml ss (nj ms (eh ms.length mask))=[])
def DC(b:BB)(ml:List Mn)(ss:List Int)(ms:List Mk)(M:Nat):List (List Int):=((bf M).filter (pW b ml ss ms)).map (zb ms.length)
theorem Oz(b:BB)(ml:List Mn)(ss:List Int)(ms:List Mk)(M:Nat):DC b ml ss ms (M+1)=DC b ml ss ms M++if pW b ml ss ms M then[zb ms.length M] else[]:=by
 unfold DC;rw[List.range_succ,List.filter_append,gi];cases h:pW b ml ss ms M<;>simp[h]
def Ss(first:List Int)(more:List (List Int)):List Int:=more.foldl (fun b x=>if si x b then x else b) first
theorem Gs:∀(more:List VL) (first:VL),(nP first more).2=Ss first.2 (more.map (·.2))
 |[],_=>rfl
 |x::more,first=>by
  show(nP (if si x.2 first.2=true then x else first) more).2=Ss (if si x.2 first.2=true then x.2 else first.2) (more.map (·.2));rw[Gs more]
  by_cases h:si x.2 first.2=true
  ·rw[if_pos h,if_pos h]
  ·rw[if_neg h,if_neg h]
def qE(b:BB)(ml:List Mn)(ss:List Int)(ms:List Mk):List Int:=
 if bn b ml ss ms≠[] then[] else match DC b ml ss ms (2 ^ ms.length) with|[]=>[]|f::r=>Ss f r
theorem Po(n:Nat):eh n (2 ^ n-1)=bf n:=by
 unfold eh;rw[List.filter_eq_self];intro i hi;rw[bN] at hi;rw[Nat.testBit_two_pow_sub_one];simp[hi]
theorem Oq(ms:List Mk):nj ms (bf ms.length)=ms:=by
 unfold nj;apply List.ext_getElem?;intro i
 have key:∀k,k≤ms.length→(bf k).filterMap (fun i=>ms[i]?)=ms.take k:=by
  intro k
  induction k with
  |zero=>simp
  |succ k ih=>
   intro hk;rw[List.range_succ,List.filterMap_append,ih (by omega),List.take_succ_eq_append_getElem (by omega)];simp[show k<ms.length by omega]
 rw[key _ (ay _),List.take_length]
theorem Wn{b:BB}{ml:List Mn}{ss:List Int}{ms:List Mk}(h:bn b ml ss ms=[]):DC b ml ss ms (2 ^ ms.length)≠[]:=by
 unfold DC;intro h2;have h3:=List.map_eq_nil_iff.1 h2
 have h4:2 ^ ms.length-1∈(bf (2 ^ ms.length)).filter (pW b ml ss ms):=by
  rw[List.mem_filter];have:0<2 ^ ms.length:=Nat.two_pow_pos _;refine⟨bN.2 (by omega),?_⟩;unfold pW;rw[Po,Oq];simp[h]
 rw[h3] at h4;cases h4
theorem WE:(Tryz.prog.info? 25).map (fun i=>(i.zero,i.size,i.bytes))=some (some (ae none 0 0),1,24):=by kernel_rfl
theorem Lq(l:List Mk)(m:Mk):eN (l++[m])=eN l++m.cells.toList:=by simp[eN]
structure KW(ob mb:Nat)(bc:ak→Array ak)(V8 ML:ak)(k:Nat)(xs ys:List ak)(mc:Array ak)(wo:ar)(A B C:Bool)(w:ar):Prop where
 Hd:A=false→w.ownsRow (ob+1) 3 1 V8 k xs
 yx:B=false→w.ownsRow (ob+1) 81 3 ML k ys
 Wo:C=false→w.heap[ob]?=some (au (bc ML) 119 (0,0))
 S4:w.heap[mb]?=some (au mc 81 (0,0))
 below:aC ob wo w
 size:ob+1≤w.heap.size
section
variable{ob mb:Nat}{bc:ak→Array ak}{V8 ML:ak}{k:Nat}{xs ys:List ak}{mc:Array ak}{wo w1 w2:ar}{A B C A' B' C':Bool}
theorem KW.next(hA:A'=false→A=false)(hB:B'=false→B=false)(hC:C'=false→C=false)(h:KW ob mb bc V8 ML k xs ys mc wo A B C w1)(hb:aC w1.heap.size w1 w2):KW ob mb bc V8 ML k xs ys mc wo A' B' C' w2:=
 ⟨fun e=>eJ (h.Hd (hA e)) hb,fun e=>eJ (h.yx (hB e)) hb,fun e=>(hb.block _ (by have:=h.size;omega)).trans (h.Wo (hC e)),(hb.block _ (aj.1 h.S4).1).trans h.S4,h.below.trans (hb.mono (by have:=h.size;omega)),bq h.size hb.size⟩
theorem KW.aeK(h:KW ob mb bc V8 ML k xs ys mc wo A B C w1)(hA:A=false)(g:w1.grownBy w2 V8.ownBlock)(hB:B'=B)(hC:C'=C):KW ob mb bc V8 ML k xs ys mc wo true B' C' w2:=by
 subst hB;subst hC;have h8:=h.Hd hA;have hm:=(aj.1 h.S4).1;refine⟨fun e=>(by cases e),fun e=>ie (h.yx e) fun q hq=>g.block q ((h.yx e).lt q hq).2 (yu (h.yx e) h8 (by decide) hq),fun e=>(g.block ob (by have:=h.size;omega) fun hq=>?_).trans (h.Wo e),(g.block mb hm (mX h8 h.S4 (by decide))).trans h.S4,h.below.grown g (by have:=h.size;omega) fun q hq=>by have:=(h8.lt q hq).1;omega,bq h.size g.size⟩;have:=(h8.lt ob hq.symm).1;omega
theorem KW.abf(h:KW ob mb bc V8 ML k xs ys mc wo A B C w1)(hB:B=false)(g:w1.grownBy w2 ML.ownBlock)(hm:some mb≠ML.ownBlock)(hA:A'=A)(hC:C'=C):KW ob mb bc V8 ML k xs ys mc wo A' true C' w2:=by
 subst hA;subst hC;have h14:=h.yx hB;have Ru:=(aj.1 h.S4).1;refine⟨fun e=>ie (h.Hd e) fun q hq=>g.block q ((h.Hd e).lt q hq).2 (yu (h.Hd e) h14 (by decide) hq),fun e=>(by cases e),fun e=>(g.block ob (by have:=h.size;omega) fun hq=>?_).trans (h.Wo e),(g.block mb Ru hm).trans h.S4,h.below.grown g (by have:=h.size;omega) fun q hq=>by have:=(h14.lt q hq).1;omega,bq h.size g.size⟩;have:=(h14.lt ob hq.symm).1;omega
theorem KW.drew(h:KW ob mb bc V8 ML k xs ys mc wo A B C w1):KW ob mb bc V8 ML k xs ys mc wo A B C w1.drew:=⟨h.Hd,h.yx,h.Wo,h.S4,h.below.drew,h.size⟩
theorem ME{w:ar}{a b:Nat}{x y:Array ak}{t u:TypeId}(h1:w.heap[a]?=some (au x t (0,0)))(h2:w.heap[b]?=some (au y u (0,0)))(h:t≠u):a≠b:=by
 rintro rfl;rw[h1] at h2;cases h2;exact h rfl
theorem KW.put(h:KW ob mb bc V8 ML k xs ys mc wo A B C w1)(hC:C=false)(hm:mb≠ob)(u:ak)(hA:A'=A)(hB:B'=B):KW ob mb bc V8 ML k xs ys mc wo A' B' true (w1.setCell ⟨ob,14,none⟩ u):=by
 subst hA;subst hB;have ho:=h.Wo hC;exact⟨fun e=>dC (h.Hd e) ho (by decide),fun e=>dC (h.yx e) ho (by decide),fun e=>(by cases e),(bu _ _ _ _ hm).trans h.S4,h.below.setCell (p:=⟨ob,14,none⟩) (ay _) _,by simpa using h.size⟩
end
theorem S1(b:BB)(men sent marks:ak)(ml:List Mn)(ss:List Int)(ms:List Mk)(w:ar)(hL:Laid w)(hB:cK b men sent marks ml ss ms w) :
  bp aq 50 #[aQ (b.cells men sent marks)] w fun e w'=>∃v,e=aG (bM #[v,ah ag 0])∧Reads w' v (qE b ml ss ms).length ((qE b ml ss ms).map (aM ag))∧aC w.heap.size w w':=by
 have cZ:=hB.ok;have hk3:=hB.lh.len;obtain⟨i0,hi,hz0,hz1,hz2⟩:=mE info3;obtain⟨i1,KZ,PR,hy1,hy2⟩:=mE Hw;obtain⟨i2,hi2,hx0,hx1,hx2⟩:=mE WE;obtain⟨pm,cm,rfl,_⟩:=aV hB.rm;obtain⟨pn,cn,rfl,_⟩:=aV hB.rs;obtain⟨pk,ck,rfl,_⟩:=aV hB.rk;have b1:aC w.heap.size w (w.alloc (au (b.cells (ae pm ml.length cm) (ae pn ss.length cn) (ae pk ms.length ck)) 28)):=(aw _ _).alloc (ay _) _;have hk:=ax w (au (b.cells (ae pm ml.length cm) (ae pn ss.length cn) (ae pk ms.length ck)) 28);have uz:=ai (fV b _ _ _ ml ss ms _ (hL.below b1) (hB.below b1))
 have HSo:mf (∀(k:ak) (l:List Mk) (r:Bool),decide (bn b ml ss l≠[])=r→lu b l→∀W,aC w.heap.size w W→Reads W k l.length (eN l)→bp aq 119 #[aQ (b.cells (ae pm ml.length cm) (ae pn ss.length cn) k)] W fun e w'=>e=aG (aA r)∧aC W.heap.size W w'):=
  ai fun k l r hr hl W hW hk=>by
   have:=Jm b _ _ k ml ss l W ⟨hB.ok,hB.iw,hB.mL,hl,hB.rm.below hW,hB.rs.below hW,hk⟩;rw[hr] at this;exact this
 obtain⟨r,hr⟩:∃r,decide (bn b ml ss ms≠[])=r:=⟨_,rfl⟩
 have HR0:=ai hr;clear hr;have HB:=ai hB;have yb:=ai b1;have HK:=ai hk;have HMo:=ai hB.lh;clear hL hB b1 hk;have HML:=ai (rfl:ml.length=ml.length);generalize ml.length=lm at *;generalize ss.length=ln at *;generalize hlk:ms.length=lk at *;have VO:=ai hlk;clear hlk
 go_enter Tryz.func50,Tryz.ntmps50
 go_wp2_with (first
  |(go_at_call 71;refine uz.out.mono ?_;clear uz;rintro e w1 ⟨rfl,hb1⟩
    have rF:=(hb1.block w.heap.size (by simp)).trans HK.out;obtain⟨x0,x1,x2,x3,x4,x5,x6,x7,x8,x9,nG,nE,oh,nM,nQ⟩:=bQ rF;have HK1:=ai rF;have hw1:w.heap.size<w1.heap.size:=(aj.1 rF).1;have px:mf (aC w.heap.size w w1):=ai (yb.out.trans (hb1.mono (by simp)))
    clear rF hb1)
  |(go_at_call 119;refine(HSo.out _ ms r HR0.out HMo.out _ (px.out.alloc (by omega) _) (HB.out.rk.below (px.out.alloc (by omega) _))).mono ?_;rintro e w2 ⟨rfl,hb2⟩
    have hs2:=hb2.size;simp only[ey] at hs2;have hk2:=(hb2.block w.heap.size (by simp;omega)).trans ((aX w1 (au (b.cells (ae pm lm cm) (ae pn ln cn) (ae pk lk ck)) 119) _ hw1).trans HK1.out);have hx2:=(hb2.block w1.heap.size (by simp)).trans (ax w1 (au (b.cells (ae pm lm cm) (ae pn ln cn) (ae pk lk ck)) 119));have FC:=ai hk2;have HX2:=ai hx2;have pI:mf (aC w.heap.size w w2):=ai ((px.out.alloc (by omega) _).trans (hb2.mono (by simp;omega)));have z14:=aH hk2 14 (ae pk lk ck) rfl;have f14:=cI hk2 14
    clear hk2 hx2 hb2 x0 x1 x2 x3 x4 x5 x6 x7 x8 x9 nG nE oh nM nQ))
 ·have hr1:r=true:=by assumption
  have HQ:mf (qE b ml ss ms=[]):=ai (by have:=HR0.out;rw[hr1] at this;unfold qE;rw[if_pos (by simpa using this)]);go_ret2;exact⟨_,rfl,by rw[HQ.out];exact bI ⟨rfl,rfl,rfl⟩,pI.out⟩
 ·obtain rfl:r=false:=by assumption
  have HE:mf (bn b ml ss ms=[]):=ai (by have:=HR0.out;simpa using this);obtain⟨N,XE⟩:∃N,N=2 ^ lk:=⟨_,rfl⟩
  have hN8:N≤8:=by
   have:lk=0∨lk=1∨lk=2∨lk=3:=by omega
   rcases this with h|h|h|h<;>subst h<;>omega
  have hN:wrap64 (2 ^ lk)=(N:Int):=by
   have:lk=0∨lk=1∨lk=2∨lk=3:=by omega
   rcases this with h|h|h|h<;>subst h<;>subst XE<;>simp[wrap64]
  have YR:=ai XE
  have HBk:mf (∀w9,aC w.heap.size w w9→∀(k:Nat) (hk:k<ms.length),∃g off,pk=some ⟨g,off,none⟩∧w9.cell? ⟨g,off+k*3,none⟩=some (ah ag ms[k].minute)∧w9.cell? ⟨g,off+k*3+1,none⟩=some (ah ag ms[k].lo)∧w9.cell? ⟨g,off+k*3+2,none⟩=some (ah ag ms[k].hi)):=ai fun w9 h9 k hk=>by
   rcases HB.out.rk.below h9 with⟨_,h0,_⟩|⟨g,off,cap,h0,_,_,h1⟩
   ·omega
   ·cases h0;exact⟨g,off,rfl,vR h1 k hk⟩
  rw[hN];clear hN XE
  go_loopw [6,7,8,9,10,11,25,34] (fun v6 _ _ _ _ _ i _ wr=>∃(M:Nat) (rows:List VL),M≤N∧i=ah ag M∧rows.map (·.2)=DC b ml ss ms M∧wr.ownsRow w.heap.size 25 1 v6 rows.length (rows.map (·.1))∧(∀r∈rows,wr.ownsRow w.heap.size 3 1 r.1 r.2.length (r.2.map (aM ag)))∧wr.heap[w.heap.size]?=some (au (b.cells (ae pm lm cm) (ae pn ln cn) (ae pk lk ck)) 28 (0,0))∧wr.heap[w1.heap.size]?=some (au (b.cells (ae pm lm cm) (ae pn ln cn) (ae pk lk ck)) 119 (0,0))∧aC w.heap.size w wr) (fun _ _ _ _ _ _ i _ _=>N-(intOf i).toNat)
  case atStart=>exact⟨0,[],oA _,by simp,rfl,eO _ _ _ _,by simp,FC.out,HX2.out,pI.out⟩
  case round=>
   obtain⟨M,rows,hM,rfl,DU,JW,Nr,hkw,hxw,eA⟩:=hrel;rename ar=>wo
   by_cases hlt:M<N
   ·have HRw:=ai DU;have HO6:=ai JW;have HOr:=ai Nr;have HKw:=ai hkw;have HXw:=ai hxw;have w8:=ai eA;have I1:=eA.size;have TX:=(aj.1 hkw).1;have hwx:=(aj.1 hxw).1;obtain⟨x0,x1,x2,x3,x4,x5,x6,x7,x8,x9,nG,nE,oh,nM,nQ⟩:=bQ hxw;have g2:(wo.alloc (au #[ah ag b.room,ah ag b.depth,ah ag b.least,ah ag b.minutes,ah ag b.cu,ah ag b.iB,ah ag b.ek,ah ag b.ji,ah ag b.ll,ah ag b.lm,ah ag b.pl,ah ag b.pm,ae pm lm cm,ae pn ln cn,ae none 0 0] 119)).heap[w.heap.size]?=some (au (b.cells (ae pm lm cm) (ae pn ln cn) (ae pk lk ck)) 28 (0,0)):=(aX _ _ _ TX).trans hkw;have z14:=aH g2 14 (ae pk lk ck) rfl;have aeq:=cI g2 14;have hb2:aC wo.heap.size wo (wo.alloc (au #[ah ag b.room,ah ag b.depth,ah ag b.least,ah ag b.minutes,ah ag b.cu,ah ag b.iB,ah ag b.ek,ah ag b.ji,ah ag b.ll,ah ag b.lm,ah ag b.pl,ah ag b.pm,ae pm lm cm,ae pn ln cn,ae none 0 0] 119)):=(aw _ _).alloc (ay _) _;have ho2:=ax wo (au #[ah ag b.room,ah ag b.depth,ah ag b.least,ah ag b.minutes,ah ag b.cu,ah ag b.iB,ah ag b.ek,ah ag b.ji,ah ag b.ll,ah ag b.lm,ah ag b.pl,ah ag b.pm,ae pm lm cm,ae pn ln cn,ae none 0 0] 119);have afa:=ai hb2;have aeX:=ai ho2;have ZW:(wo.alloc (au #[ah ag b.room,ah ag b.depth,ah ag b.least,ah ag b.minutes,ah ag b.cu,ah ag b.iB,ah ag b.ek,ah ag b.ji,ah ag b.ll,ah ag b.lm,ah ag b.pl,ah ag b.pm,ae pm lm cm,ae pn ln cn,ae none 0 0] 119)).heap.size=wo.heap.size+1:=by simp
    clear DU JW Nr hkw hxw eA f14 g2 hb2 ho2;go_wp2
    go_loopw [8,10,11,34] (fun v8 _ _ i wr=>∃(j:Nat) (v14:ak),j≤lk∧i=ah ag j∧wr.ownsRow (wo.heap.size+1) 3 1 v8 (eh j M).length ((eh j M).map fun(i:Nat)=>aM ag (i:Int))∧wr.ownsRow (wo.heap.size+1) 81 3 v14 (eh j M).length (eN (nj ms (eh j M)))∧wr.heap[wo.heap.size]?=some (au (b.cells (ae pm lm cm) (ae pn ln cn) v14) 119 (0,0))∧aC wo.heap.size wo wr) (fun _ _ _ i _=>lk-(intOf i).toNat)
    case atStart=>exact⟨0,ae none 0 0,oA _,by simp,eO _ _ _ _,eO _ _ _ _,aeX.out,afa.out⟩
    case round=>
     obtain⟨j,v14,hj,rfl,Gf,Ab,S7,xY⟩:=hrel;have WQ:=xY.size;have hcl:=qD j M;have hM5:M<512:=bE hlt (bq hN8 (by decide))
     by_cases Ud:j<lk
     ·have O4:=vY M j hM5;have H9:j<ms.length:=by rw[VO.out];exact Ud
      obtain⟨g,off,rfl,c0,c1,c2⟩:=HBk.out wr (w8.out.trans (xY.mono I1)) j H9;obtain⟨p8,c8,rfl⟩:=eu Gf;obtain⟨QK,c14,rfl⟩:=eu Ab;have T6:=LB ms (eh j M) j H9;have abm:=ai Gf;have SK:=ai Ab;have HOj:=ai S7;have PK:=ai xY;have HPs:=ai T6;have Np:=(aj.1 S7).1;clear Gf Ab S7 xY T6;generalize hmk:ms[j]=mk at *;cases hb:M.testBit j
      ·have e1:eh (j+1) M=eh j M:=by rw[rh,hb];simp
       rw[hb] at O4;have H1:=ai e1;clear e1;go_wp2;go_roundw
       case rel=>exact⟨j+1,ae QK (eh j M).length c14,by omega,by simp,by rw[H1.out];exact abm.out.alloc _,by rw[H1.out];exact SK.out.alloc _,(aX _ _ _ Np).trans HOj.out,PK.out.alloc (by omega) _⟩
       case measure=>simp[intOf];omega
      ·have e1:eh (j+1) M=eh j M++[j]:=by rw[rh,hb];simp
       rw[hb] at O4;have H1:=ai e1;clear e1;have KY:∃xs,((eh j M).map fun(i:Nat)=>aM ag (i:Int))=xs:=⟨_,rfl⟩
       have hys:∃ys,eN (nj ms (eh j M))=ys:=⟨_,rfl⟩
       obtain⟨xs,KY⟩:=KY;obtain⟨ys,hys⟩:=hys;have HXs:=ai KY;have HYs:=ai hys;generalize hk:(eh j M).length=k at *;have HKk:=ai hk;clear hk KY hys
       have HS0:mf (KW wo.heap.size wr.heap.size (fun v=>(b.cells (ae pm lm cm) (ae pn ln cn) v)) (ae p8 k c8) (ae QK k c14) k xs ys mk.cells wo false false false (wr.alloc (au mk.cells 81))):=
        ai ⟨fun _=>by have:=abm.out.alloc (au mk.cells 81);rw[HXs.out] at this;exact this,fun _=>by have:=SK.out.alloc (au mk.cells 81);rw[HYs.out] at this;exact this,fun _=>(aX wr (au mk.cells 81) _ Np).trans HOj.out,ax _ _,PK.out.alloc (by omega) _,by simp;omega⟩
       have aag:some wr.heap.size≠(ae QK k c14:ak).ownBlock:=fun h=>by
        have:=(SK.out.lt _ h.symm).2;omega
       have ads:wr.heap.size≠wo.heap.size:=by omega
       go_wp2
       refine Ph.uO (late:=[(10,8,ae p8 k c8)]) (hlate:=⟨⟨rfl,rfl⟩,trivial⟩) (by kernel_rfl) [
       pV (ae p8 k c8),
        pV (ah ag j),
        fun v ds w9=>∃q,v=ae (some ⟨q,0,none⟩) 1 1∧w9.heap[q]?=some (au #[ah ag j] 3 (0,0))∧some q≠(ae p8 k c8:ak).ownBlock,
        fun v ds w9=>∃p c,v=ae p (k+1) c∧w9.ownsRow (wo.heap.size+1) 3 1 v (k+1) (xs++[ah ag j]),
        pV (a8 (some ⟨wo.heap.size,0,none⟩)),
        pV (a8 (some ⟨wo.heap.size,14,none⟩)),
        pV (ae QK k c14),
        pV (aQ mk.cells),
        fun v ds w9=>∃q,v=ae (some ⟨q,0,none⟩) 1 1∧w9.heap[q]?=some (au mk.cells 81 (0,0))∧some q≠(ae QK k c14:ak).ownBlock,
        fun v ds w9=>∃p c,v=ae p (k+1) c∧w9.ownsRow (wo.heap.size+1) 81 3 v (k+1) (ys++mk.cells.toList),
        fun v ds w9=>∃p c,v=ae p (k+1) c∧w9.ownsRow (wo.heap.size+1) 3 1 v (k+1) (xs++[ah ag j]),
        pV (a8 (some ⟨wo.heap.size,0,none⟩)),
        pV (a8 (some ⟨wo.heap.size,14,none⟩)),
        fun v ds w9=>∃x,ds[1]?=some x∧w9.heap[wo.heap.size]?=some (au (b.cells (ae pm lm cm) (ae pn ln cn) x) 119 (0,0))]
        (fun L w9=>KW wo.heap.size wr.heap.size (fun v=>(b.cells (ae pm lm cm) (ae pn ln cn) v)) (ae p8 k c8) (ae QK k c14) k xs ys mk.cells wo (L 3) (L 9) (L 13) w9) [(9,pv wo.heap.size 0),(10,ah ag j),(11,pv wr.heap.size 0)] (by kernel_rfl) ?rst (fun L L2 w1 w2 PV h hb=>h.next (PV 3) (PV 9) (PV 13) hb) (HS0.out.drew) ⟨rfl,rfl,rfl,trivial⟩ ?reach ?rfin
       case rst=>
        refine⟨Ph.sV,Ph.sV,?_,?_,Ph.sV,Ph.sV,Ph.sV,Ph.sV,?_,?_,?_,Ph.sV,Ph.sV,?_,trivial⟩
        ·rintro v ds L w1 w2 hS ⟨q,h1,h2,h3⟩ hb;exact⟨q,h1,(hb.block _ (aj.1 h2).1).trans h2,h3⟩
        ·rintro v ds L w1 w2 hS ⟨p,c,h1,h2⟩ hb;exact⟨p,c,h1,eJ h2 hb⟩
        ·rintro v ds L w1 w2 hS ⟨q,h1,h2,h3⟩ hb;exact⟨q,h1,(hb.block _ (aj.1 h2).1).trans h2,h3⟩
        ·rintro v ds L w1 w2 hS ⟨p,c,h1,h2⟩ hb;exact⟨p,c,h1,eJ h2 hb⟩
        ·rintro v ds L w1 w2 hS ⟨p,c,h1,h2⟩ hb;exact⟨p,c,h1,eJ h2 hb⟩
        ·rintro v ds L w1 w2 hS ⟨x,h1,h2⟩ hb;exact⟨x,h1,(hb.block _ (aj.1 h2).1).trans h2⟩
       case reach=>
        refine⟨?_,?_,?_,?_,?_,?_,?_,?_,?_,?_,?_,?_,?_,?_,trivial⟩<;>rintro Lf ev w1 hn tU hS hc hg hf ⟨b9,Sw,b11,hlt⟩ hd
        ·clear hd;have b8:=hlt.1 (hn 10 (by kernel_rfl));refine Ph.yv ?_ rfl;go_simp
        ·clear hd;refine Ph.yv ?_ rfl;go_simp
        ·have d1:ev (aB 45)=_:=hd.1 rfl;clear hd;refine Lag.Yields.value (v:=ae (some ⟨w1.heap.size,0,none⟩) 1 1) (w':=w1.alloc (au #[ah ag j] 3)) ?_ ⟨⟨_,rfl,ax _ _,fun h=>absurd ((hS.Hd (hn 3 (by kernel_rfl))).lt _ h.symm).2 (Nat.lt_irrefl _)⟩,bI ((aw _ _).alloc (ay _) _)⟩;go_simp
        ·have d0:ev (aB 44)=_:=hd.1 rfl;obtain⟨q,e46,LV,Rm⟩:=hd.2.1 rfl;clear hd;replace e46:ev (aB 46)=_:=e46;have hown:=hS.Hd tU;refine Yields.ED (aB 44) (aB 46) 25 rfl (wo.heap.size+1) 3 i0 (ah ag 0) 1 8 Tryz.underlying25 hi hz0 hz1 hz2 rfl (by decide) (ae p8 k c8) k _ d0 hown ⟨q,0,none⟩ 1 1 [ah ag j] e46 rfl ?_ (by simp[cy]) (by unfold kQ;omega) (by omega) hS.size ?_
         ·intro n u hn;have h5:=aH LV n u (by simpa using hn);have e:(⟨q,0,none⟩:Addr).add n=⟨q,n,none⟩:=by cases n<;>simp[l5]
          rw[e];exact h5
         intro v' w' hown' hgrow hnil;obtain⟨p',c',rfl⟩:=eu hown';refine⟨⟨p',c',rfl,hown'⟩,.inr ⟨hS.aeK tU hgrow (by simp[Ph.upd]) (by simp[Ph.upd]),?_⟩⟩;intro t u ds hj hL hp
         match t,hp with
         |0,hp=>exact hp
         |1,hp=>exact hp
         |2,⟨q2,h1,h2,h3⟩=>exact⟨q2,h1,(hgrow.block q2 (aj.1 h2).1 h3).trans h2,h3⟩
         |3,_=>exact(hj rfl).elim
         |4,hp=>exact hp
         |5,hp=>exact hp
         |6,hp=>exact hp
         |7,hp=>exact hp
         |8,⟨q2,h1,h2,h3⟩=>exact⟨q2,h1,(hgrow.block q2 (aj.1 h2).1 (mX hown h2 (by decide))).trans h2,h3⟩
         |9,_=>rw[hn 9 (by kernel_rfl)] at hL;cases hL
         |10,_=>rw[hn 10 (by kernel_rfl)] at hL;cases hL
         |11,hp=>exact hp
         |12,hp=>exact hp
         |13,_=>rw[hn 13 (by kernel_rfl)] at hL;cases hL
         |t+14,_=>trivial
        ·clear hd;refine Ph.yv ?_ rfl;go_simp
        ·have d4:ev (aB 48)=_:=hd.1 rfl;clear hd;refine Ph.yv ?_ rfl;go_simp
        ·have d5:ev (aB 49)=_:=hd.1 rfl;clear hd;have aiW:=aH (hS.Wo (hn 13 (by kernel_rfl))) 14 (ae QK k c14) rfl;refine Ph.yv ?_ rfl;go_simp
        ·clear hd;refine Lag.Yields.yH 81 _ rfl _ b11 81 _ (0,0) _ hS.S4 Tryz.underlying81 rfl (by kernel_rfl) ⟨rfl,bI (aw _ _)⟩
        ·have d7:ev (aB 51)=_:=hd.1 rfl;clear hd;refine Lag.Yields.value (v:=ae (some ⟨w1.heap.size,0,none⟩) 1 1) (w':=w1.alloc (au mk.cells 81)) ?_ ⟨⟨_,rfl,ax _ _,fun h=>absurd ((hS.yx (hn 9 (by kernel_rfl))).lt _ h.symm).2 (Nat.lt_irrefl _)⟩,bI ((aw _ _).alloc (ay _) _)⟩;go_simp
        ·have d6:ev (aB 50)=_:=hd.1 rfl;obtain⟨q,e52,LV,Rm⟩:=hd.2.1 rfl;clear hd;replace e52:ev (aB 52)=_:=e52;have hown:=hS.yx tU;refine Yields.ED (aB 50) (aB 52) 26 rfl (wo.heap.size+1) 81 i1 (aQ #[ah ag 0,ah ag 0,ah ag 0]) 3 24 Tryz.underlying26 KZ PR hy1 hy2 rfl (by decide) (ae QK k c14) k _ d6 hown ⟨q,0,none⟩ 1 1 mk.cells.toList e52 rfl ?_ (by simp[cy]) (by unfold kQ;omega) (by omega) hS.size ?_
         ·intro n u hn;have h5:=aH LV n u (by simpa using hn);have e:(⟨q,0,none⟩:Addr).add n=⟨q,n,none⟩:=by cases n<;>simp[l5]
          rw[e];exact h5
         intro v' w' hown' hgrow hnil;obtain⟨p',c',rfl⟩:=eu hown';refine⟨⟨p',c',rfl,hown'⟩,.inr ⟨hS.abf tU hgrow aag (by simp[Ph.upd]) (by simp[Ph.upd]),?_⟩⟩;intro t u ds hj hL hp
         match t,hp with
         |0,hp=>exact hp
         |1,hp=>exact hp
         |2,⟨q2,h1,h2,h3⟩=>exact⟨q2,h1,(hgrow.block q2 (aj.1 h2).1 (mX hown h2 (by decide))).trans h2,h3⟩
         |3,⟨p,c,h1,h2⟩=>exact⟨p,c,h1,ie h2 fun g hg=>hgrow.block g (h2.lt g hg).2 (yu h2 hown (by decide) hg)⟩
         |4,hp=>exact hp
         |5,hp=>exact hp
         |6,hp=>exact hp
         |7,hp=>exact hp
         |8,⟨q2,h1,h2,h3⟩=>exact⟨q2,h1,(hgrow.block q2 (aj.1 h2).1 h3).trans h2,h3⟩
         |9,_=>exact(hj rfl).elim
         |10,_=>rw[hn 10 (by kernel_rfl)] at hL;cases hL
         |11,hp=>exact hp
         |12,hp=>exact hp
         |13,_=>rw[hn 13 (by kernel_rfl)] at hL;cases hL
         |t+14,_=>trivial
        ·have d3:∃p c,(ev (aB 47))=ae p (k+1) c∧w1.ownsRow (wo.heap.size+1) 3 1 (ev (aB 47)) (k+1) (xs++[ah ag j]):=hd.1 rfl;clear hd;obtain⟨p,c,h1,h2⟩:=d3;refine Lag.Yields.value (v:=ev (aB 47)) (w':=w1) rfl ⟨⟨p,c,h1,h2⟩,bI (aw _ _)⟩
        ·clear hd;refine Ph.yv ?_ rfl;go_simp
        ·have d11:ev (aB 54)=_:=hd.1 rfl;clear hd;refine Ph.yv ?_ rfl;go_simp
        ·have d12:ev (aB 55)=_:=hd.1 rfl;have d9:∃p c,(ev (aB 53))=ae p (k+1) c∧w1.ownsRow (wo.heap.size+1) 81 3 (ev (aB 53)) (k+1) (ys++mk.cells.toList):=hd.2.1 rfl;clear hd;obtain⟨p,c,h1,h2⟩:=d9;have yM:=hS.Wo tU;have c1:=aH yM 14 (ae QK k c14) rfl;have f1:=cI yM 14;refine Lag.Yields.skip (w':=w1.setCell ⟨wo.heap.size,14,none⟩ (ev (aB 53))) ?_ ⟨⟨_,rfl,bT _ yM⟩,.inr ⟨hS.put tU ads (ev (aB 53)) (by simp[Ph.upd]) (by simp[Ph.upd]),?_⟩⟩
         ·rw[h1];go_simp
         ·intro t u ds hj hL hp
          match t,hp with
          |0,hp=>exact hp
          |1,hp=>exact hp
          |2,⟨q2,g1,g2,g3⟩=>exact⟨q2,g1,(bu _ _ _ _ (ME g2 yM (by decide))).trans g2,g3⟩
          |3,⟨p2,c2,g1,g2⟩=>exact⟨p2,c2,g1,dC g2 yM (by decide)⟩
          |4,hp=>exact hp
          |5,hp=>exact hp
          |6,hp=>exact hp
          |7,hp=>exact hp
          |8,⟨q2,g1,g2,g3⟩=>exact⟨q2,g1,(bu _ _ _ _ (ME g2 yM (by decide))).trans g2,g3⟩
          |9,⟨p2,c2,g1,g2⟩=>exact⟨p2,c2,g1,dC g2 yM (by decide)⟩
          |10,⟨p2,c2,g1,g2⟩=>exact⟨p2,c2,g1,dC g2 yM (by decide)⟩
          |11,hp=>exact hp
          |12,hp=>exact hp
          |13,_=>exact(hj rfl).elim
          |t+14,_=>trivial
       case rfin=>
        intro a3 w3 hR;have hS:=hR.s;have e9:∃p c,(a3.tmps.getD 53 af)=ae p (k+1) c∧w3.ownsRow (wo.heap.size+1) 81 3 (a3.tmps.getD 53 af) (k+1) (ys++mk.cells.toList):=hR.val 9 (by decide);have Io:∃p c,(a3.tmps.getD 8 af)=ae p (k+1) c∧w3.ownsRow (wo.heap.size+1) 3 1 (a3.tmps.getD 8 af) (k+1) (xs++[ah ag j]):=hR.val 10 (by decide);have YP:∃x,([a3.tmps.getD 55 af,a3.tmps.getD 53 af,a3.tmps.getD 8 af,a3.tmps.getD 44 af,a3.tmps.getD 45 af,a3.tmps.getD 46 af,a3.tmps.getD 47 af,a3.tmps.getD 48 af,a3.tmps.getD 49 af,a3.tmps.getD 50 af,a3.tmps.getD 51 af,a3.tmps.getD 52 af,a3.tmps.getD 53 af,a3.tmps.getD 8 af]:List ak)[1]?=some x∧w3.heap[wo.heap.size]?=some (au (b.cells (ae pm lm cm) (ae pn ln cn) x) 119 (0,0)):=hR.val 13 (by decide);have ha:=hR.lits 71 rfl;simp only[bf,bR,nL] at ha;rw[hR.kp 0 (by kernel_rfl),hR.kp 1 (by kernel_rfl),hR.kp 2 (by kernel_rfl),hR.kp 3 (by kernel_rfl),hR.kp 4 (by kernel_rfl),hR.kp 5 (by kernel_rfl),hR.kp 6 (by kernel_rfl),hR.kp 7 (by kernel_rfl),hR.kp 9 (by kernel_rfl),hR.kp 12 (by kernel_rfl),hR.kp 13 (by kernel_rfl),hR.kp 14 (by kernel_rfl),hR.kp 15 (by kernel_rfl),hR.kp 16 (by kernel_rfl),hR.kp 17 (by kernel_rfl),hR.kp 18 (by kernel_rfl),hR.kp 19 (by kernel_rfl),hR.kp 20 (by kernel_rfl),hR.kp 21 (by kernel_rfl),hR.kp 22 (by kernel_rfl),hR.kp 23 (by kernel_rfl),hR.kp 24 (by kernel_rfl),hR.kp 25 (by kernel_rfl),hR.kp 26 (by kernel_rfl),hR.kp 27 (by kernel_rfl),hR.kp 28 (by kernel_rfl),hR.kp 29 (by kernel_rfl),hR.kp 30 (by kernel_rfl),hR.kp 31 (by kernel_rfl),hR.kp 32 (by kernel_rfl),hR.kp 33 (by kernel_rfl),hR.kp 34 (by kernel_rfl),hR.kp 57 (by kernel_rfl),hR.kp 58 (by kernel_rfl),hR.kp 59 (by kernel_rfl),hR.kp 60 (by kernel_rfl),hR.kp 61 (by kernel_rfl),hR.kp 62 (by kernel_rfl),hR.kp 63 (by kernel_rfl),hR.kp 64 (by kernel_rfl),hR.kp 65 (by kernel_rfl),hR.kp 66 (by kernel_rfl),hR.kp 67 (by kernel_rfl),hR.kp 68 (by kernel_rfl),hR.kp 69 (by kernel_rfl),hR.kp 70 (by kernel_rfl)] at ha;simp only[kO,List.getD_cons_succ,List.getD_cons_zero] at ha;clear hR;obtain⟨p8n,c8n,e8,ho8⟩:=Io;obtain⟨p53,c53,e53,WX⟩:=e9;obtain⟨x,ex,yM⟩:=YP;have ex2:a3.tmps.getD 53 af=x:=bt ex;rw[e53] at ex2 WX;subst ex2;rw[e8] at ho8;rw[e8] at ha;generalize a3.tmps.getD=zz at ha;have pI:=ai hS.below;have HOb:=ai yM;have HN8:=ai ho8;have ae5:=ai WX;clear e8 e53 ex ho8 WX yM hS;subst ha;go_wp2;go_roundw
        case rel=>
         refine⟨j+1,ae p53 (k+1) c53,by omega,by simp,?_,?_,HOb.out,pI.out⟩
         ·rw[H1.out,qb,gi,HKk.out,HXs.out];exact HN8.out
         ·rw[H1.out,qb,HKk.out,HPs.out,Lq,HYs.out];exact ae5.out
        case measure=>simp[intOf];omega
     ·obtain rfl:lk=j:=by omega
      rename ar=>wc;obtain⟨p8,c8,rfl⟩:=eu Gf;obtain⟨QK,c14,rfl⟩:=eu Ab;obtain⟨p6,c6,rfl⟩:=eu HO6.out;have hpl:(nj ms (eh lk M)).length=(eh lk M).length:=JC ms _ fun i hi=>by rw[VO.out];simp[eh] at hi;exact hi.1
      have W6:=QJ HMo.out (n:=lk) (mask:=M) (by rw[VO.out];exact ay _)
      have hrk:Reads wc (ae QK (eh lk M).length c14) (nj ms (eh lk M)).length (eN (nj ms (eh lk M))):=by
       rw[hpl];exact Reads.jP Ab (by omega) (by rw[r5,hpl];omega)
      have hwc:aC w.heap.size w wc:=w8.out.trans (xY.mono I1);obtain⟨r2,hr2⟩:∃r2,decide (bn b ml ss (nj ms (eh lk M))≠[])=r2:=⟨_,rfl⟩
      have hso:=HSo.out _ _ r2 hr2 W6 wc hwc hrk;have aau:pW b ml ss ms M = !r2:=by unfold pW;rw[VO.out,←hr2];simp
      have T9:=Oz b ml ss ms M;rw[aau] at T9;have hcI:zb ms.length M=(eh lk M).map fun(i:Nat)=>(i:Int):=by rw[VO.out];rfl
      rw[hcI] at T9;obtain⟨y0,y1,y2,y3,y4,y5,y6,y7,y8,y9,K7,Ja,I9,MU,I8⟩:=bQ S7;have Ro:wc.ownsRow w.heap.size 3 1 (ae p8 (eh lk M).length c8) (eh lk M).length ((eh lk M).map fun(i:Nat)=>aM ag (i:Int)):=ownsRow_base Gf (by omega);have abh:=ai hso;have HOd:=ai T9;have HO8:=ai Ro;have HWc:=ai hwc;have PK:=ai xY
      have hrl:rows.length≤M:=by
       have h1:=congrArg List.length HRw.out;have h2:=List.length_filter_le (pW b ml ss ms) (bf M);unfold DC at h1;simp at h1 h2;omega
      clear hso T9 Ro Gf Ab hwc xY S7 W6 hrk hpl hcI aau x0 x1 x2 x3 x4 x5 x6 x7 x8 x9 nG nE oh nM nQ z14 aeq;generalize eh lk M=C at *
      go_wp2_with (first
       |(go_at_call 119;refine abh.out.mono ?_;clear abh;rintro e w5 ⟨rfl,hb5⟩
         have Ys:=ai hb5;have hs5:=hb5.size;clear hb5 y0 y1 y2 y3 y4 y5 y6 y7 y8 y9 K7 Ja I9 MU I8)
       |(at_builtin
         have hQ1:∀(i:Nat) (u:ak),([ae p8 C.length c8]:List ak)[i]?=some u→(w5.alloc (au #[ae p8 C.length c8] 25)).cell? ((⟨w5.heap.size,0,none⟩:Addr).add i)=some u:=fun i u hj=>by
          match i,hj with
          |0,hj=>simp at hj;subst hj;simp[l5]
         have Hz:aC wo.heap.size wo w5:=PK.out.trans (Ys.out.mono (by omega));have XC:w5.ownsRow w.heap.size 25 1 (ae p6 rows.length c6) rows.length (rows.map (·.1)):=eJ HO6.out Hz;have UW:=ai XC;refine wpList_append_own _ rfl _ _ 116 rfl w.heap.size 25 i2 (ae none 0 0) 1 24 Tryz.underlying116 hi2 hx0 hx1 hx2 rfl (by decide) (ae p6 rows.length c6) rows.length (rows.map (·.1)) rfl (XC.alloc _) ⟨w5.heap.size,0,none⟩ 1 1 [ae p8 C.length c8] rfl rfl hQ1 (by simp[cy]) (by unfold kQ;omega) (by omega) (by simp;omega) ?_;intro v' w7 Rp hgrow hnil
         obtain⟨p7,c7,rfl⟩:=eu Rp))
      ·have e2:r2=false:=by simp_all
       subst e2;have Bv:∀q,(ae p6 rows.length c6:ak).ownBlock=some q→w.heap.size≤q:=fun q hq=>(UW.out.lt q hq).1;have hb7:aC w.heap.size w w7:=((w8.out.trans (Hz.mono I1)).alloc (by omega) _).grown hgrow (by simp;omega) Bv;have hn5:∀q,q<w5.heap.size→some q≠(ae p6 rows.length c6:ak).ownBlock→w7.heap[q]?=w5.heap[q]?:=fun q hq hne=>(hgrow.block q (by simp;omega) hne).trans (aX _ _ _ hq);have nx:∀ {base size v n xs},w5.ownsRow base 3 size v n xs→w7.ownsRow base 3 size v n xs:=fun h=>ie h fun q hq=>hn5 q (h.lt q hq).2 (yu h UW.out (by decide) hq);have hk5:=(Hz.block _ TX).trans HKw.out;have hx5:=(Hz.block _ hwx).trans HXw.out;have hk7:=(hn5 _ (by omega) (mX UW.out hk5 (by decide))).trans hk5;have hx7:=(hn5 _ (by omega) (mX UW.out hx5 (by decide))).trans hx5
       have HR7:mf (∀r∈rows++[((ae p8 C.length c8:ak),C.map fun(i:Nat)=>(i:Int))],w7.ownsRow w.heap.size 3 1 r.1 r.2.length (r.2.map (aM ag))):=ai fun r hr=>by
        rcases List.mem_append.1 hr with h|h
        ·exact nx (eJ (HOr.out r h) Hz)
        ·rw[List.mem_singleton] at h;subst h;simp only[iH,List.map_map];exact nx (eJ HO8.out Ys.out)
       have HB7:=ai hb7;have HK7:=ai hk7;have HX7:=ai hx7;have HO7:=ai Rp;clear hb7 hn5 nx hk5 hx5 hk7 hx7 Rp hgrow hnil hQ1 XC Hz Bv;go_roundw
       case rel=>
        refine⟨M+1,rows++[((ae p8 C.length c8:ak),C.map fun(i:Nat)=>(i:Int))],by omega,by simp,?_,?_,HR7.out,HK7.out,HX7.out,HB7.out⟩
        ·rw[HOd.out,gi,HRw.out];rfl
        ·rw[qb,gi];exact HO7.out
       case measure=>simp[intOf];omega
      ·have e2:r2=true:=by simp_all
       subst e2;have Hz:aC wo.heap.size wo w5:=PK.out.trans (Ys.out.mono (by omega));have Ym:=ai Hz;clear Hz;go_roundw
       case rel=>
        refine⟨M+1,rows,by omega,by simp,?_,eJ HO6.out Ym.out,fun r hr=>eJ (HOr.out r hr) Ym.out,(Ym.out.block _ TX).trans HKw.out,(Ym.out.block _ hwx).trans HXw.out,w8.out.trans (Ym.out.mono I1)⟩;rw[HOd.out,HRw.out];simp
       case measure=>simp[intOf];omega
   ·obtain rfl:N=M:=by omega
    rename ar=>wz;have hz:=eA.size
    obtain⟨f,rest,rfl⟩:∃f rest,rows=f::rest:=by
     cases rows with
     |nil=>
      have h1:=Wn HE.out;rw[VO.out,←YR.out] at h1;exact absurd DU.symm h1
     |cons f rest=>exact⟨f,rest,rfl⟩
    have hfr:∀r∈f::rest,rN wz r:=fun r hr=>Reads.jP (Nr r hr) (by
     have h1:r.2∈DC b ml ss ms N:=by rw[←DU];exact List.mem_map_of_mem hr
     unfold DC at h1;obtain⟨m,_,h2⟩:=List.mem_map.1 h1;rw[←h2];unfold zb;have:=qD ms.length m;rw[iH,VO.out] at *
     omega) (by simp)
    have hcl:qE b ml ss ms=(nP f rest).2:=by
     unfold qE;rw[if_neg (by simp[HE.out]),VO.out,←YR.out,←DU,Gs];rfl
    have Xy:rN wz (nP f rest):=hfr _ (by
     rcases s5 rest f with h|h
     ·rw[h];simp
     ·exact eG _ h)
    have hrl:rest.length+1≤N:=by
     have h1:=congrArg List.length DU;have h2:=List.length_filter_le (pW b ml ss ms) (bf N);unfold DC at h1;simp at h1 h2;omega
    obtain⟨go,cap,rfl,hgo,J6,hcell⟩:∃go cap,u6=ae (some ⟨go,0,none⟩) (rest.length+1) cap∧go<wz.heap.size∧rest.length+1≤cap∧∀j u,((f::rest).map (·.1))[j]?=some u→wz.cell? ⟨go,0+j,none⟩=some u:=by
     have h1:=Reads.jP JW (by simp;omega) (by simp);rcases JW.2 with⟨_,h0⟩|⟨g,cap,cur,rfl,_,hg,_⟩
     ·simp at h0
     ·rcases h1 with⟨h2,_⟩|⟨g2,off,Ye,h2,h3,h4,h5⟩
      ·cases h2
      ·cases h2;exact⟨g,cap,rfl,h4,h3.2,h5⟩
    have HC0:mf (∀w,aC wz.heap.size wz w→w.cell? ⟨go,0,none⟩=some f.1):=ai fun w hb=>(hb.cell (p:=⟨go,0,none⟩) hgo).trans (hcell 0 _ rfl)
    have SJ:mf (∀w,aC wz.heap.size wz w→Reads w (ae (if cap=1 then some ⟨go,0,none⟩ else some ⟨go,1,none⟩) rest.length (cap-1)) rest.length (rest.map (·.1))):=ai fun w hb=>
     if h1:cap=1 then by
      have h0:rest=[]:=List.eq_nil_of_length_eq_zero (by omega);subst h0;rw[if_pos h1];exact .inr ⟨go,0,cap-1,rfl,⟨by simp,by simp⟩,bE hgo hb.size,fun j u hj=>by simp at hj⟩
     else by
     rw[if_neg h1]
     exact .inr ⟨go,1,cap-1,rfl,by omega,bE hgo hb.size,fun j u hj=>(hb.cell (p:=⟨go,_,none⟩) hgo).trans (by
      have:=hcell (j+1) u (by simpa using hj)
      rwa [show 0+(j+1)=1+j by omega] at this)⟩
    have YU:mf (∀W,aC wz.heap.size wz W→bp aq 120 #[.func (.func 121) #[] #[],f.1,ae (if cap=1 then some ⟨go,0,none⟩ else some ⟨go,1,none⟩) rest.length (cap-1)] W fun e w'=>e=aG (nP f rest).1∧aC W.heap.size W w'):=ai fun W hb=>
     Pv f rest _ W ((hfr f (by simp)).below hb) (fun r hr=>(hfr r (eG _ hr)).below hb) (SJ.out W hb)
    obtain⟨pf,cf,Vt,_⟩:=aV (hfr f (by simp));obtain⟨pb,cb,Tb,_⟩:=aV Xy
    have HBm:mf (∀W,aC wz.heap.size wz W→Reads W (ae pb (qE b ml ss ms).length cb) (qE b ml ss ms).length ((qE b ml ss ms).map (aM ag))):=ai fun W hb=>by
     have:=Xy.below hb;unfold rN at this;rw[Tb] at this;rw[hcl];exact this
    rw[Vt] at HC0 YU;rw[Tb,←hcl] at YU;generalize YH:(qE b ml ss ms).length=cn at *;have HCn:=ai YH;clear YH;generalize f.2.length=fn at *;have HNz:=ai eA;clear DU JW Nr hkw hxw eA hfr hcl Xy hcell Vt Tb SJ;generalize rest.length=Rn at *;have l2:(1:Int)≤(Rn:Int)+1:=by omega
    go_wp2
    refine cj (by kernel_rfl) [
    pV (ae (some ⟨go,0,none⟩) (Rn+1) cap),
     pV (pv go 0),
     pV (ae pf fn cf),
     pV (ae (some ⟨go,0,none⟩) (Rn+1) cap),
     pV (ae (if cap=1 then some ⟨go,0,none⟩ else some ⟨go,1,none⟩) Rn (cap-1)),
     pV (ae pb cn cb),
     pV (ae pb cn cb),
     pV (ah ag 0)]
     (fun w9=>aC wz.heap.size wz w9) [(6,ae (some ⟨go,0,none⟩) (Rn+1) cap)] (by kernel_rfl) ?rst (fun w1 w2 h hb=>h.trans (hb.mono h.size)) ((aw _ _).drew) ⟨rfl,trivial⟩ ?reach ?rfin
    case rst=>
     refine⟨sV,sV,sV,sV,sV,sV,sV,sV,trivial⟩
    case reach=>
     refine⟨?_,?_,?_,?_,?_,?_,?_,?_,trivial⟩<;>rintro ev w1 hS hc hg hf ⟨b6,-⟩ hd
     ·clear hd;refine yv ?_ rfl;go_simp
     ·have d0:ev (aB 65)=_:=hd.1 rfl;clear hd;refine yv ?_ rfl;go_simp
     ·have d1:ev (aB 66)=_:=hd.1 rfl;clear hd;have z:=HC0.out w1 hS;refine yv ?_ rfl;go_simp
     ·clear hd;refine yv ?_ rfl;go_simp
     ·have d3:ev (aB 68)=_:=hd.1 rfl;clear hd;refine yv ?_ rfl;go_simp
     ·have d2:ev (aB 67)=_:=hd.1 rfl;have d4:ev (aB 69)=_:=hd.2.1 rfl;clear hd;refine yc (YU.out w1 hS) ?_ fun _=>rfl;go_simp
     ·have d5:ev (aB 70)=_:=hd.1 rfl;clear hd;refine yv ?_ rfl;go_simp
     ·clear hd;refine yv ?_ rfl;go_simp
    case rfin=>
     intro a3 w3 hR;have hS:=hR.s;have e6:a3.tmps.getD 2 af=_:=hR.val 6 (by decide);have e7:a3.tmps.getD 3 af=_:=hR.val 7 (by decide);have ha:=hR.lits 71 rfl;simp only[bf,bR,nL] at ha;clear hR;rw[e6,e7] at ha;generalize a3.tmps.getD=zz at ha;have pI:=ai hS;clear e6 e7 hS;subst ha;go_wp2;go_ret2;exact⟨_,rfl,by rw[HCn.out];exact HBm.out _ pI.out,HNz.out.trans (pI.out.mono (by omega))⟩
theorem TF(b:BB)(men sent marks:ak)(ml:List Mn)(ss:List Int)(ms:List Mk)(w:ar)(hL:Laid w)(hB:cK b men sent marks ml ss ms w)(hne:bn b ml ss ms≠[])(cp:Nat)
  (hown:∀W,aC w.heap.size w W→bp aq 126 #[aQ (b.cells men sent marks),pv cp 0] W fun e W'=>e=aG (ah ag 0)∧aC W.heap.size W W') :
  bp aq 103 #[aQ (b.cells men sent marks),.func (.func 126) #[] #[pv cp 0]] w fun e w'=>∃v,e=aG (bM #[aQ (b.open men sent marks v),ah ag 0])∧ij w' w.heap.size v (bn b ml ss ms)∧aC w.heap.size w w':=by
 have uz:mf (∀W,aC w.heap.size w W→bp aq 71 #[aQ (b.cells men sent marks)] W fun e w'=>e=aG (ah ag 0)∧aC W.heap.size W w'):=ai fun W hb=>fV b men sent marks ml ss ms W (hL.below hb) (hB.below hb);have SS:mf (∀W,aC w.heap.size w W→bp aq 116 #[.func (.func 117) #[aQ (b.cells men sent marks)] #[]] W fun e w'=>∃v,e=aG v∧ij w' W.heap.size v (bn b ml ss ms)∧aC W.heap.size W w'):=ai fun W hb=>oT b men sent marks ml ss ms W (hB.below hb);have KS:=ai hown;obtain⟨pm,cm,rfl,_⟩:=aV hB.rm;obtain⟨pn,cn,rfl,_⟩:=aV hB.rs;obtain⟨pk,ck,rfl,_⟩:=aV hB.rk;have kG:0<(bn b ml ss ms).length:=cP.2 hne;clear hL hB hne hown;generalize bn b ml ss ms=all at *;generalize ml.length=lm at *;generalize ss.length=ln at *;generalize ms.length=lk at *;have b0:aC w.heap.size w ((w.alloc (au (b.cells (ae pm lm cm) (ae pn ln cn) (ae pk lk ck)) 28)).alloc (au iv 122)):=((aw _ _).alloc (ay _) _).alloc (by simp) _;have HT:mf (Two w (b.cells (ae pm lm cm) (ae pn ln cn) (ae pk lk ck)) 28 iv 122 ((w.alloc (au (b.cells (ae pm lm cm) (ae pn ln cn) (ae pk lk ck)) 28)).alloc (au iv 122))):=ai ⟨(Two.mk' w _ _ _ _).one,(Two.mk' w _ _ _ _).two,b0,by simp⟩;have I6:=ai b0;clear b0
 go_enter Tryz.func103,Tryz.ntmps103
 go_wp2_with (first
  |(refine ox rfl 122 _ rfl _ rfl 122 _ (0,0) _ Yq.out jf rfl (by kernel_rfl) ?_)
  |(refine gT rfl 122 _ _ rfl _ _ rfl rfl 122 _ MQ.out (by kernel_rfl) rfl (by simp[cy]) ?_)
  |(go_at_call 71;refine(uz.out _ I6.out).mono ?_;clear uz;rintro e w1 ⟨rfl,hb1⟩
    have rQ:=HT.out.next hb1;have o6:=ai rQ
    obtain⟨x0,x1,x2,x3,x4,x5,x6,x7,x8,x9,nG,nE,oh,nM,nQ⟩:=bQ rQ.one
    clear rQ hb1)
  |(go_at_call 126;refine(KS.out _ (o6.out.below.alloc (by have:=o6.out.size;omega) _)).mono ?_;clear KS;rintro e w2 ⟨rfl,hb2⟩
    have B8:=(o6.out.next ((aw _ _).alloc (ay _) (au (b.open (ae pm lm cm) (ae pn ln cn) (ae pk lk ck) (ae none 0 0)) 122))).next hb2;have FA:=ai B8
    have hk2:=(hb2.block w1.heap.size (by simp)).trans (ax w1 _);have FC:=ai hk2;have hs1:=o6.out.size;have hs2:=hb2.size;obtain⟨y0,y1,y2,y3,y4,y5,y6,y7,y8,y9,K7,Ja,I9,MU,I8,GL⟩:=jF hk2
    clear B8 hk2 hb2)
  |(go_at_call 116;refine(SS.out _ FA.out.below).mono ?_;clear SS;rintro e w3 ⟨v,rfl,jq,hb3⟩
    have EO:=FA.out.next hb3;have NP:=ai EO;have KT:=ai jq
    simp only[ey] at hs2;have hk3:=(hb3.block w1.heap.size (by omega)).trans FC.out;have YS:=ai hk3;have hs3:=hb3.size;clear y0 y1 y2 y3 y4 y5 y6 y7 y8 y9 K7 Ja I9 MU I8 GL;have GL:=aH hk3 15 _ rfl;have f7:=cI hk3 15;have pI:=ai hb3
    obtain⟨gv,oV,rfl,DW⟩:∃gv oV,v=ae (some ⟨gv,0,none⟩) all.length oV∧w2.heap.size≤gv:=by
     rcases jq.1.2 with⟨_,h0⟩|⟨g,cap,cur,rfl,hg,_⟩
     ·omega
     ·exact⟨g,cap,rfl,hg⟩
    have Yq:mf ((w3.setCell ⟨w1.heap.size,15,none⟩ (ae (some ⟨gv,0,none⟩) all.length oV)).heap[w1.heap.size]?=some (au (b.open (ae pm lm cm) (ae pn ln cn) (ae pk lk ck) (ae (some ⟨gv,0,none⟩) all.length oV)) 122 (0,0))):=ai (bT _ hk3);have MQ:mf ((w3.setCell ⟨w1.heap.size,15,none⟩ (ae (some ⟨gv,0,none⟩) all.length oV)).heap[w.heap.size+1]?=some (au iv 122 (0,0))):=ai ((bu _ _ _ _ (by show w.heap.size+1≠w1.heap.size;omega)).trans EO.two)
    clear EO hk3 hb3 jq))
 refine bw (results_cell_tmp (g:=w.heap.size+1) rfl rfl (ku _ _ 122 122 _ (0,0) _ (cM MQ.out) jf rfl (by kernel_rfl))) rfl ⟨_,rfl,?_,?_⟩
 ·have hs1:=o6.out.size;refine(KT.out.at_ fun g hg=>?_).base (by omega);have DY:g=gv:=by simpa [ju] using hg.symm
  subst DY;exact(setRow_other (by omega)).trans (bu _ _ _ _ (by show g≠w1.heap.size;omega))
 ·have hs1:=o6.out.size;exact dJ (NP.out.below.setCell (p:=⟨w1.heap.size,15,none⟩) (by show _≤w1.heap.size;omega) _) (by omega)
theorem QN(b:BB)(men sent marks:ak)(ml:List Mn)(ss:List Int)(ms:List Mk)(w:ar)(hL:Laid w)(hB:cK b men sent marks ml ss ms w)(hne:bn b ml ss ms≠[])(cp cq:Nat)
  (hown:∀W,aC w.heap.size w W→bp aq 131 #[aQ (b.cells men sent marks),pv cp 0,pv cq 0] W fun e W'=>e=aG (ah ag 0)∧aC W.heap.size W W') :
  bp aq 103 #[aQ (b.cells men sent marks),.func (.func 131) #[] #[pv cp 0,pv cq 0]] w fun e w'=>∃v,e=aG (bM #[aQ (b.open men sent marks v),ah ag 0])∧ij w' w.heap.size v (bn b ml ss ms)∧aC w.heap.size w w':=by
 have uz:mf (∀W,aC w.heap.size w W→bp aq 71 #[aQ (b.cells men sent marks)] W fun e w'=>e=aG (ah ag 0)∧aC W.heap.size W w'):=ai fun W hb=>fV b men sent marks ml ss ms W (hL.below hb) (hB.below hb);have SS:mf (∀W,aC w.heap.size w W→bp aq 116 #[.func (.func 117) #[aQ (b.cells men sent marks)] #[]] W fun e w'=>∃v,e=aG v∧ij w' W.heap.size v (bn b ml ss ms)∧aC W.heap.size W w'):=ai fun W hb=>oT b men sent marks ml ss ms W (hB.below hb);have KS:=ai hown;obtain⟨pm,cm,rfl,_⟩:=aV hB.rm;obtain⟨pn,cn,rfl,_⟩:=aV hB.rs;obtain⟨pk,ck,rfl,_⟩:=aV hB.rk;have kG:0<(bn b ml ss ms).length:=cP.2 hne;clear hL hB hne hown;generalize bn b ml ss ms=all at *;generalize ml.length=lm at *;generalize ss.length=ln at *;generalize ms.length=lk at *;have b0:aC w.heap.size w ((w.alloc (au (b.cells (ae pm lm cm) (ae pn ln cn) (ae pk lk ck)) 28)).alloc (au iv 122)):=((aw _ _).alloc (ay _) _).alloc (by simp) _;have HT:mf (Two w (b.cells (ae pm lm cm) (ae pn ln cn) (ae pk lk ck)) 28 iv 122 ((w.alloc (au (b.cells (ae pm lm cm) (ae pn ln cn) (ae pk lk ck)) 28)).alloc (au iv 122))):=ai ⟨(Two.mk' w _ _ _ _).one,(Two.mk' w _ _ _ _).two,b0,by simp⟩;have I6:=ai b0;clear b0
 go_enter Tryz.func103,Tryz.ntmps103
 go_wp2_with (first
  |(refine ox rfl 122 _ rfl _ rfl 122 _ (0,0) _ Yq.out jf rfl (by kernel_rfl) ?_)
  |(refine gT rfl 122 _ _ rfl _ _ rfl rfl 122 _ MQ.out (by kernel_rfl) rfl (by simp[cy]) ?_)
  |(go_at_call 71;refine(uz.out _ I6.out).mono ?_;clear uz;rintro e w1 ⟨rfl,hb1⟩
    have rQ:=HT.out.next hb1;have o6:=ai rQ
    obtain⟨x0,x1,x2,x3,x4,x5,x6,x7,x8,x9,nG,nE,oh,nM,nQ⟩:=bQ rQ.one
    clear rQ hb1)
  |(go_at_call 131;refine(KS.out _ (o6.out.below.alloc (by have:=o6.out.size;omega) _)).mono ?_;clear KS;rintro e w2 ⟨rfl,hb2⟩
    have B8:=(o6.out.next ((aw _ _).alloc (ay _) (au (b.open (ae pm lm cm) (ae pn ln cn) (ae pk lk ck) (ae none 0 0)) 122))).next hb2;have FA:=ai B8
    have hk2:=(hb2.block w1.heap.size (by simp)).trans (ax w1 _);have FC:=ai hk2;have hs1:=o6.out.size;have hs2:=hb2.size;obtain⟨y0,y1,y2,y3,y4,y5,y6,y7,y8,y9,K7,Ja,I9,MU,I8,GL⟩:=jF hk2
    clear B8 hk2 hb2)
  |(go_at_call 116;refine(SS.out _ FA.out.below).mono ?_;clear SS;rintro e w3 ⟨v,rfl,jq,hb3⟩
    have EO:=FA.out.next hb3;have NP:=ai EO;have KT:=ai jq
    simp only[ey] at hs2;have hk3:=(hb3.block w1.heap.size (by omega)).trans FC.out;have YS:=ai hk3;have hs3:=hb3.size;clear y0 y1 y2 y3 y4 y5 y6 y7 y8 y9 K7 Ja I9 MU I8 GL;have GL:=aH hk3 15 _ rfl;have f7:=cI hk3 15;have pI:=ai hb3
    obtain⟨gv,oV,rfl,DW⟩:∃gv oV,v=ae (some ⟨gv,0,none⟩) all.length oV∧w2.heap.size≤gv:=by
     rcases jq.1.2 with⟨_,h0⟩|⟨g,cap,cur,rfl,hg,_⟩
     ·omega
     ·exact⟨g,cap,rfl,hg⟩
    have Yq:mf ((w3.setCell ⟨w1.heap.size,15,none⟩ (ae (some ⟨gv,0,none⟩) all.length oV)).heap[w1.heap.size]?=some (au (b.open (ae pm lm cm) (ae pn ln cn) (ae pk lk ck) (ae (some ⟨gv,0,none⟩) all.length oV)) 122 (0,0))):=ai (bT _ hk3);have MQ:mf ((w3.setCell ⟨w1.heap.size,15,none⟩ (ae (some ⟨gv,0,none⟩) all.length oV)).heap[w.heap.size+1]?=some (au iv 122 (0,0))):=ai ((bu _ _ _ _ (by show w.heap.size+1≠w1.heap.size;omega)).trans EO.two)
    clear EO hk3 hb3 jq))
 refine bw (results_cell_tmp (g:=w.heap.size+1) rfl rfl (ku _ _ 122 122 _ (0,0) _ (cM MQ.out) jf rfl (by kernel_rfl))) rfl ⟨_,rfl,?_,?_⟩
 ·have hs1:=o6.out.size;refine(KT.out.at_ fun g hg=>?_).base (by omega);have DY:g=gv:=by simpa [ju] using hg.symm
  subst DY;exact(setRow_other (by omega)).trans (bu _ _ _ _ (by show g≠w1.heap.size;omega))
 ·have hs1:=o6.out.size;exact dJ (NP.out.below.setCell (p:=⟨w1.heap.size,15,none⟩) (by show _≤w1.heap.size;omega) _) (by omega)
abbrev gK:Array Value:=#[ah ag 0,ah ag 0,ah ag 0,ah ag 0,ah ag 0,ah ag 0,ah ag 0,ah ag 0,ah ag 0,ah ag 0,ah ag 0,ah ag 0,ae none 0 0,ae none 0 0,ae none 0 0]
theorem Gy(b:BB)(men sent marks:ak)(ml:List Mn)(ss:List Int)(ms:List Mk)(w:ar)(hL:Laid w)(hB:cK b men sent marks ml ss ms w)(hne:bn b ml ss ms≠[]) :
  bp aq 150 #[aQ (b.cells men sent marks)] w fun e w'=>∃m' s' k',e=aG (bM #[aQ (b.cells m' s' k'),ah ag 0])∧gg b m' s' k' ml ss ms w'∧rO w.heap.size m' s' k'∧aC w.heap.size w w':=by
 obtain⟨pm,cm,rfl,_⟩:=aV hB.rm;obtain⟨pn,cn,rfl,_⟩:=aV hB.rs;obtain⟨pk,ck,rfl,_⟩:=aV hB.rk;have b0:aC w.heap.size w ((w.alloc (au (b.cells (ae pm ml.length cm) (ae pn ss.length cn) (ae pk ms.length ck)) 28)).alloc (au gK 28)):=((aw _ _).alloc (ay _) _).alloc (by simp) _;have HT:mf (Two w (b.cells (ae pm ml.length cm) (ae pn ss.length cn) (ae pk ms.length ck)) 28 gK 28 ((w.alloc (au (b.cells (ae pm ml.length cm) (ae pn ss.length cn) (ae pk ms.length ck)) 28)).alloc (au gK 28))):=ai ⟨(Two.mk' w _ _ _ _).one,(Two.mk' w _ _ _ _).two,b0,by simp⟩;have uz:=ai (fV b _ _ _ ml ss ms _ (hL.below b0) (hB.below b0))
 have HSo:mf (∀W,aC w.heap.size w W→bp aq 119 #[aQ (b.cells (ae pm ml.length cm) (ae pn ss.length cn) (ae pk ms.length ck))] W fun e w'=>e=aG (aA true)∧aC W.heap.size W w'):=ai fun W hb=>by
  have:=Jm b _ _ _ ml ss ms W (hB.below hb);rw[decide_eq_true hne] at this;exact this
 have KS:mf (∀W,aC w.heap.size w W→bp aq 157 #[aQ (b.cells (ae pm ml.length cm) (ae pn ss.length cn) (ae pk ms.length ck))] W fun e w'=>∃m' s' k',e=aG (aQ (b.cells m' s' k'))∧gg b m' s' k' ml ss ms w'∧rO W.heap.size m' s' k'∧aC W.heap.size W w'):=ai fun W hb=>TE b _ _ _ ml ss ms W (hB.below hb);have HML:=ai hB.iw;clear hL hB hne b0
 go_enter Tryz.func150,Tryz.ntmps150
 go_wp2_with (first
  |(refine gT rfl 28 _ _ rfl _ _ rfl rfl 28 _ HZ.out (by kernel_rfl) rfl (by simp[cy]) ?_)
  |(go_at_call 71;refine uz.out.mono ?_;clear uz;rintro e w1 ⟨rfl,hb1⟩
    have rQ:=HT.out.next hb1;have o6:=ai rQ
    obtain⟨x0,x1,x2,x3,x4,x5,x6,x7,x8,x9,nG,nE,oh,nM,nQ⟩:=bQ rQ.one
    clear rQ hb1)
  |(go_at_call 119;refine(HSo.out _ o6.out.below).mono ?_;clear HSo;rintro e w2 ⟨rfl,hb2⟩
    have B8:=o6.out.next hb2;have FA:=ai B8
    clear x0 x1 x2 x3 x4 x5 x6 x7 x8 x9 nG nE oh nM nQ;obtain⟨x0,x1,x2,x3,x4,x5,x6,x7,x8,x9,nG,nE,oh,nM,nQ⟩:=bQ B8.one
    clear B8 hb2)
  |(go_at_call 157;refine(KS.out _ FA.out.below).mono ?_;clear KS;rintro e w3 ⟨m',s',k',rfl,Nx,hf3,hb3⟩
    have NP:=ai (FA.out.next hb3);have HZ:=ai NP.out.two;obtain⟨p5,c5,rfl,_⟩:=aV Nx.rm;obtain⟨p8,c8,rfl,_⟩:=aV Nx.rs;obtain⟨S3,c11,rfl,_⟩:=aV Nx.rk;have pI:=ai Nx;have SM:mf (gg b (ae p5 ml.length c5) (ae p8 ss.length c8) (ae S3 ms.length c11) ml ss ms (w3.setRow (w.heap.size+1) (b.cells (ae p5 ml.length c5) (ae p8 ss.length c8) (ae S3 ms.length c11)))):=ai (Nx.setRow hf3 (by have:=FA.out.size;omega));have HF3:=ai (hf3.base FA.out.below.size)
    clear Nx hb3 hf3))
 refine bw (results_cell_tmp (g:=w.heap.size+1) rfl rfl (ku _ _ 28 28 _ (0,0) _ (cM HZ.out) aT rfl (by kernel_rfl))) rfl ⟨_,_,_,rfl,SM.out,HF3.out,dJ NP.out.below (by omega)⟩
theorem yE(a1 a2 b1 b2 m1 m2:Int)(w:ar)(a:Act)(h4:a.tmps.getD 4 af=a8 (some ⟨w.heap.size+1+1,0,none⟩))(h5:a.tmps.getD 5 af=aA (decide (m1≤m2)))(hd:a.defers=[]) :
  bodyPost aq Tryz.f153 (fun e w'=>e=aG (bM #[aQ #[ah ag m1,ah ag m2],aA (decide (m1≤m2))])∧aC w.heap.size w w') Exit.ret a
   ((((w.alloc (au #[ah ag a1,ah ag a2] 23)).alloc (au #[ah ag b1,ah ag b2] 23)).alloc (au #[ah ag m1,ah ag m2] 23)).alloc (au #[ah ag m1,ah ag m2] 23)).drew:=by
 have b0:=(((((aw w.heap.size w).alloc (ay _) (au #[ah ag a1,ah ag a2] 23)).alloc (by simp) (au #[ah ag b1,ah ag b2] 23)).alloc (by simp;omega) (au #[ah ag m1,ah ag m2] 23)).alloc (by simp;omega) (au #[ah ag m1,ah ag m2] 23)).drew;have hk:=(oG w #[ah ag a1,ah ag a2] #[ah ag b1,ah ag b2] #[ah ag m1,ah ag m2] 23 23 23).2.2;have hk2:=(aX _ (au #[ah ag m1,ah ag m2] 23) _ (aj.1 hk).1).trans hk;refine bw (results_cell_tmp (g:=w.heap.size+1+1) rfl h4 (ku _ _ 23 23 _ (0,0) _ hk2 Tryz.underlying23 rfl (by kernel_rfl))) hd ⟨by rw[h5],b0⟩
theorem QZ(a1 a2 b1 b2:Int)(w:ar) :
  bp aq 153 #[aQ #[ah ag a1,ah ag a2],aQ #[ah ag b1,ah ag b2]] w fun e w'=>e=aG (bM #[aQ #[ah ag (max a1 b1),ah ag (min a2 b2)],aA (decide (max a1 b1≤min a2 b2))])∧aC w.heap.size w w':=by
 have key:∀(m1 m2:Int),max a1 b1=m1→min a2 b2=m2→bp aq 153 #[aQ #[ah ag a1,ah ag a2],aQ #[ah ag b1,ah ag b2]] w fun e w'=>e=aG (bM #[aQ #[ah ag m1,ah ag m2],aA (decide (m1≤m2))])∧aC w.heap.size w w':=by
  intro m1 m2 h1 h2
  go_enter Tryz.func153,Tryz.ntmps153
  rcases Int.lt_or_le a1 b1 with q1|q1<;>rcases Int.lt_or_le b2 a2 with q2|q2
  ·obtain rfl:m1=b1:=by omega
   obtain rfl:m2=b2:=by omega
   clear h1 h2;go_wp2
   go_region
   go_wp2;exact yE a1 a2 m1 m2 m1 m2 w _ rfl rfl rfl
  ·obtain rfl:m1=b1:=by omega
   obtain rfl:m2=a2:=by omega
   clear h1 h2;go_wp2
   go_region
   go_wp2;exact yE a1 m2 m1 b2 m1 m2 w _ rfl rfl rfl
  ·obtain rfl:m1=a1:=by omega
   obtain rfl:m2=b2:=by omega
   clear h1 h2;go_wp2
   go_region
   go_wp2;exact yE m1 a2 b1 m2 m1 m2 w _ rfl rfl rfl
  ·obtain rfl:m1=a1:=by omega
   obtain rfl:m2=a2:=by omega
   clear h1 h2;go_wp2
   go_region
   go_wp2;exact yE m1 m2 b1 b2 m1 m2 w _ rfl rfl rfl
 exact key _ _ rfl rfl
def BB.lk(b:BB)(l m:Int):BB:={ b with ll:=l,lm:=m }
theorem BB.ZN{b:BB}(h:b.Ok){l m:Int}(h0:0≤l)(h1:l≤m)(h2:m≤99)(h3:m-l<3):(b.lk l m).Ok:=⟨h.room,h.depth,h.least,h.minutes,h.cu,h.iB,h.ek,h.ji,⟨h0,h1,h2,h3⟩,h.Lu⟩
theorem cK.lk{b:BB}{men sent marks:ak}{ml:List Mn}{ss:List Int}{ms:List Mk}{w:ar}(h:cK b men sent marks ml ss ms w){l m:Int}(h0:0≤l)(h1:l≤m)(h2:m≤99)(h3:m-l<3):cK (b.lk l m) men sent marks ml ss ms w:=
 ⟨BB.ZN h.ok h0 h1 h2 h3,h.iw,⟨h.mL.mem,h.mL.asc,h.mL.len⟩,⟨h.lh.mem,h.lh.len⟩,h.rm,h.rs,h.rk⟩
theorem S2(b:BB)(men sent marks:ak)(ml:List Mn)(ss:List Int)(ms:List Mk)(w:ar)(hL:Laid w)(hB:cK b men sent marks ml ss ms w)(lo hi:Int)(h0:0≤lo)(h1:lo≤hi)(h2:hi≤99)(z1 z2:Int)(hz1:max b.ll lo=z1)(hz2:min b.lm hi=z2)(hz:z1≤z2)
  (hne:bn (b.lk z1 z2) ml ss ms≠[]) :
  bp aq 80 #[aQ (b.cells men sent marks),aQ #[ah ag lo,ah ag hi]] w fun e w'=>∃m' s' k',e=aG (bM #[aQ ((b.lk z1 z2).cells m' s' k'),ah ag 0])∧gg (b.lk z1 z2) m' s' k' ml ss ms w'∧aC w.heap.size w w':=by
 have hlk:=hB.ok.leak;obtain⟨pm,cm,rfl,_⟩:=aV hB.rm;obtain⟨pn,cn,rfl,_⟩:=aV hB.rs;obtain⟨pk,ck,rfl,_⟩:=aV hB.rk;have RD:=oG w (b.cells (ae pm ml.length cm) (ae pn ss.length cn) (ae pk ms.length ck)) #[ah ag lo,ah ag hi] gK 28 23 28;have b0:aC w.heap.size w (((w.alloc (au (b.cells (ae pm ml.length cm) (ae pn ss.length cn) (ae pk ms.length ck)) 28)).alloc (au #[ah ag lo,ah ag hi] 23)).alloc (au gK 28)):=(((aw _ _).alloc (ay _) _).alloc (by simp) _).alloc (by simp;omega) _;have HT:mf (Two w (b.cells (ae pm ml.length cm) (ae pn ss.length cn) (ae pk ms.length ck)) 28 #[ah ag lo,ah ag hi] 23 (((w.alloc (au (b.cells (ae pm ml.length cm) (ae pn ss.length cn) (ae pk ms.length ck)) 28)).alloc (au #[ah ag lo,ah ag hi] 23)).alloc (au gK 28))):=ai ⟨RD.1,RD.2.1,b0,by simp⟩;have HZ0:=ai RD.2.2;have uz:=ai (fV b _ _ _ ml ss ms _ (hL.below b0) (hB.below b0))
 have HAg:mf (∀W,aC w.heap.size w W→bp aq 150 #[aQ ((b.lk z1 z2).cells (ae pm ml.length cm) (ae pn ss.length cn) (ae pk ms.length ck))] W fun e w'=>∃m' s' k',e=aG (bM #[aQ ((b.lk z1 z2).cells m' s' k'),ah ag 0])∧gg (b.lk z1 z2) m' s' k' ml ss ms w'∧rO W.heap.size m' s' k'∧aC W.heap.size W w'):=ai fun W hb=>
  Gy (b.lk z1 z2) _ _ _ ml ss ms W (hL.below hb) ((hB.below hb).lk (by omega) hz (by omega) (by omega)) hne
 have hmt:=fun W=>QZ b.ll b.lm lo hi W;rw[hz1,hz2,decide_eq_true hz] at hmt;have HMt:=ai hmt;clear hL hB hne b0 RD hmt hz1 hz2
 go_enter Tryz.func80,Tryz.ntmps80
 go_wp2_with (first
  |(refine ox rfl 28 _ rfl _ rfl 28 _ (0,0) _ HK4.out aT rfl (by kernel_rfl) ?_)
  |(refine gT rfl 28 _ _ rfl _ _ rfl rfl 28 _ HZ5.out (by kernel_rfl) rfl (by simp[cy]) ?_)
  |(go_at_call 71;refine uz.out.mono ?_;clear uz;rintro e w1 ⟨rfl,hb1⟩
    have rQ:=HT.out.next hb1;have o6:=ai rQ
    have UR:=ai ((hb1.block (w.heap.size+2) (by simp)).trans HZ0.out);have y0:=aH rQ.two 0 _ rfl;have y1:=aH rQ.two 1 _ rfl
    clear rQ hb1)
  |(go_at_call 152;refine(r8 lo hi 0 99 _ h0 h1 h2).mono ?_;rintro e w2 ⟨rfl,hb2⟩
    have B8:=o6.out.next hb2;have FA:=ai B8
    have HZ2:=ai ((hb2.block _ (aj.1 UR.out).1).trans UR.out);have x8:=aH B8.one 8 _ rfl;have x9:=aH B8.one 9 _ rfl;have v0:=aH B8.two 0 _ rfl;have v1:=aH B8.two 1 _ rfl
    clear B8 hb2)
  |(go_at_call 153;refine(HMt.out _).mono ?_;rintro e w3 ⟨rfl,hb3⟩
    have EO:=FA.out.next hb3;have NP:=ai EO
    have HZ3:=ai ((hb3.block _ (aj.1 HZ2.out).1).trans HZ2.out);have hx3:=(aX w3 (au #[ah ag z1,ah ag z2] 23) _ (aj.1 EO.one).1).trans EO.one;have u8:=aH hx3 8 _ rfl;have u9:=aH hx3 9 _ rfl;have f8:=cI hx3 8;have f9:=cI hx3 9;have HK4:mf ((((w3.alloc (au #[ah ag z1,ah ag z2] 23)).setCell ⟨w.heap.size,8,none⟩ (ah ag z1)).setCell ⟨w.heap.size,9,none⟩ (ah ag z2)).heap[w.heap.size]?=some (au ((b.lk z1 z2).cells (ae pm ml.length cm) (ae pn ss.length cn) (ae pk ms.length ck)) 28 (0,0))):=ai (bT _ (bT _ hx3));have YV:mf (aC w.heap.size w (((w3.alloc (au #[ah ag z1,ah ag z2] 23)).setCell ⟨w.heap.size,8,none⟩ (ah ag z1)).setCell ⟨w.heap.size,9,none⟩ (ah ag z2))):=ai (((EO.below.alloc EO.below.size _).setCell (p:=⟨w.heap.size,8,none⟩) (ay _) _).setCell (p:=⟨w.heap.size,9,none⟩) (ay _) _);have MQ:mf ((((w3.alloc (au #[ah ag z1,ah ag z2] 23)).setCell ⟨w.heap.size,8,none⟩ (ah ag z1)).setCell ⟨w.heap.size,9,none⟩ (ah ag z2)).heap[w.heap.size+2]?=some (au gK 28 (0,0))):=ai ((bu _ _ _ _ (by show w.heap.size+2≠w.heap.size;omega)).trans ((bu _ _ _ _ (by show w.heap.size+2≠w.heap.size;omega)).trans ((aX _ _ _ (aj.1 HZ3.out).1).trans HZ3.out)))
    clear EO hb3 hx3)
  |(go_at_call 150;refine(HAg.out _ YV.out).mono ?_;clear HAg;rintro e w5 ⟨m',s',k',rfl,RN,hf5,hb5⟩
    have HZ5:=ai ((hb5.block _ (aj.1 MQ.out).1).trans MQ.out);obtain⟨p5,c5,rfl,_⟩:=aV RN.rm;obtain⟨p8,c8,rfl,_⟩:=aV RN.rs;obtain⟨S3,c11,rfl,_⟩:=aV RN.rk;have SM:mf (gg (b.lk z1 z2) (ae p5 ml.length c5) (ae p8 ss.length c8) (ae S3 ms.length c11) ml ss ms (w5.setRow (w.heap.size+2) ((b.lk z1 z2).cells (ae p5 ml.length c5) (ae p8 ss.length c8) (ae S3 ms.length c11)))):=ai (RN.setRow hf5 (aj.1 MQ.out).1);have Ys:=ai (YV.out.trans (hb5.mono YV.out.size))
    clear RN hb5 hf5))
 refine bw (results_cell_tmp (g:=w.heap.size+2) rfl rfl (ku _ _ 28 28 _ (0,0) _ (cM HZ5.out) aT rfl (by kernel_rfl))) rfl ⟨_,_,_,rfl,SM.out,dJ Ys.out (by omega)⟩
theorem En(w:ar):bp aq 149 #[ae none 0 0] w fun e w'=>e=aG (ae none 0 0)∧w=w':=by
 have hq:∀w,(binOp BinOp.eql 26 (Value.slice none 0 0) (Value.slice none 0 0)).run aq w=.ok (aA true) w:=fun w=>by kernel_rfl
 go_enter Tryz.func149,Tryz.ntmps149
 go_wp2
 go_ret
 exact⟨rfl,rfl⟩
theorem AG(m:Mk)(w:ar)(k:Nat)(hk:w.heap[k]?=some (au m.cells 81 (0,0))):∃v' w',(Builtin.append_ #[26,26] 26 #[ae none 0 0,ae (some ⟨k,0,none⟩) 1 1]).run aq w=.ok v' w'∧w'.ownsRow w.heap.size 81 3 v' 1 (eN [m])∧aC w.heap.size w w':=by
 obtain⟨i0,hi,hz0,hz1,hz2⟩:=mE Hw
 obtain⟨v',w',hr,h2,h3,_⟩:=run_append_own (P:=aq) w w.heap.size 26 26 81 i0 (aQ #[ah ag 0,ah ag 0,ah ag 0]) 3 24 Tryz.underlying26 hi hz0 hz1 hz2 rfl (by decide) (ae none 0 0) 0 [] (eO _ _ _ _) ⟨k,0,none⟩ 1 1 m.cells.toList rfl
  (fun j u hj=>by
   have h5:=aH hk j u (by simpa using hj);have e:(⟨k,0,none⟩:Addr).add j=⟨k,j,none⟩:=by cases j<;>simp[l5]
   rw[e];exact h5) (by simp[cy]) (by unfold kQ;omega) (by omega) (ay _)
 exact⟨v',w',hr,by simpa [eN] using h2,(aw _ _).grown h3 (ay _) fun j hj=>by simp[ju] at hj⟩
theorem UO(b:BB)(men sent:ak)(ml:List Mn)(ss:List Int)(w:ar)(hL:Laid w)(hB:cK b men sent (ae none 0 0) ml ss [] w)(m:Mk)(hm:lu b [m])(hne:bn b ml ss [m]≠[]) :
  bp aq 75 #[aQ (b.cells men sent (ae none 0 0)),aQ m.cells] w fun e w'=>∃m' s' k',e=aG (bM #[aQ (b.cells m' s' k'),ah ag 0])∧gg b m' s' k' ml ss [m] w'∧aC w.heap.size w w':=by
 obtain⟨pm,cm,rfl,_⟩:=aV hB.rm;obtain⟨pn,cn,rfl,_⟩:=aV hB.rs;have RD:=oG w (b.cells (ae pm ml.length cm) (ae pn ss.length cn) (ae none 0 0)) m.cells gK 28 81 28;have b0:aC w.heap.size w (((w.alloc (au (b.cells (ae pm ml.length cm) (ae pn ss.length cn) (ae none 0 0)) 28)).alloc (au m.cells 81)).alloc (au gK 28)):=(((aw _ _).alloc (ay _) _).alloc (by simp) _).alloc (by simp;omega) _;have HT:mf (Two w (b.cells (ae pm ml.length cm) (ae pn ss.length cn) (ae none 0 0)) 28 m.cells 81 (((w.alloc (au (b.cells (ae pm ml.length cm) (ae pn ss.length cn) (ae none 0 0)) 28)).alloc (au m.cells 81)).alloc (au gK 28))):=ai ⟨RD.1,RD.2.1,b0,by simp⟩;have HZ0:=ai RD.2.2;have uz:=ai (fV b _ _ _ ml ss [] _ (hL.below b0) (hB.below b0))
 have HAg:mf (∀W k,aC w.heap.size w W→Reads W k 1 (eN [m])→bp aq 150 #[aQ (b.cells (ae pm ml.length cm) (ae pn ss.length cn) k)] W fun e w'=>∃m' s' k',e=aG (bM #[aQ (b.cells m' s' k'),ah ag 0])∧gg b m' s' k' ml ss [m] w'∧rO W.heap.size m' s' k'∧aC W.heap.size W w'):=ai fun W k hb hr=>
  Gy b _ _ _ ml ss [m] W (hL.below hb) ⟨hB.ok,hB.iw,hB.mL,hm,hB.rm.below hb,hB.rs.below hb,hr⟩ hne
 clear hL hB hne b0 RD hm
 go_enter Tryz.func75,Tryz.ntmps75
 go_wp2_with (first
  |(go_at_call 71;refine uz.out.mono ?_;clear uz;rintro e w1 ⟨rfl,hb1⟩
    have o6:=ai (HT.out.next hb1);have UR:=ai ((hb1.block (w.heap.size+2) (by simp)).trans HZ0.out)
    clear hb1))
 refine Ph.cj (by kernel_rfl) [
 pV (pv w.heap.size 14),
  pV (ae none 0 0),
  pV (ae none 0 0),
  pV (aQ m.cells),
  fun v ds w9=>∃k,v=ae (some ⟨k,0,none⟩) 1 1∧w9.heap[k]?=some (au m.cells 81 (0,0)),
  fun v ds w9=>w9.ownsRow (w.heap.size+3) 81 3 v 1 (eN [m]),
  pV (pv w.heap.size 14),
  fun v ds w9=>∃x,ds[1]?=some x∧w9.heap[w.heap.size]?=some (au (b.cells (ae pm ml.length cm) (ae pn ss.length cn) x) 28 (0,0))]
  (fun L w9=>∃k0,w9.heap[w.heap.size]?=some (au (b.cells (ae pm ml.length cm) (ae pn ss.length cn) k0) 28 (0,0))∧(L 7=false→k0=ae none 0 0)∧w9.heap[w.heap.size+1]?=some (au m.cells 81 (0,0))∧w9.heap[w.heap.size+2]?=some (au gK 28 (0,0))∧aC w.heap.size w w9∧w.heap.size+3≤w9.heap.size) [(2,pv w.heap.size 0),(3,pv (w.heap.size+1) 0)] (by kernel_rfl) ?rst (fun L L2 w1 w2 PV h hb=>by
  obtain⟨k0,h1,h2,h3,h4,h5,h6⟩:=h
  exact⟨k0,(hb.block _ (aj.1 h1).1).trans h1,fun q=>h2 (PV 7 q),(hb.block _ (aj.1 h3).1).trans h3,(hb.block _ (aj.1 h4).1).trans h4,h5.trans (hb.mono (by omega)),bq h6 hb.size⟩) (⟨_,o6.out.one,fun _=>rfl,o6.out.two,UR.out,o6.out.below.drew,(aj.1 UR.out).1⟩) ⟨rfl,rfl,trivial⟩ ?reach ?rfin
 case rst=>
  refine⟨Ph.sV,Ph.sV,Ph.sV,Ph.sV,?_,?_,Ph.sV,?_,trivial⟩
  ·rintro v ds L w1 w2 hS ⟨k,h1,h2⟩ hb;exact⟨k,h1,(hb.block _ (aj.1 h2).1).trans h2⟩
  ·rintro v ds L w1 w2 hS h hb;exact eJ h hb
  ·rintro v ds L w1 w2 hS ⟨x,h1,h2⟩ hb;exact⟨x,h1,(hb.block _ (aj.1 h2).1).trans h2⟩
 case reach=>
  refine⟨?_,?_,?_,?_,?_,?_,?_,?_,trivial⟩<;>rintro Lf ev w1 hn tU hS hc hg hf ⟨b2,b3,-⟩ hd
  ·clear hd;refine Ph.yv ?_ rfl;go_simp
  ·have d0:ev (aB 13)=_:=hd.1 rfl;clear hd;obtain⟨k0,hb0,q1,_⟩:=hS;obtain rfl:=q1 (hn 7 (by kernel_rfl));have x:=aH hb0 14 _ rfl;refine Ph.yv ?_ rfl;go_simp
  ·have d1:ev (aB 14)=_:=hd.1 rfl;clear hd;refine Lag.Yields.call (f:=149) (args:=#[ae none 0 0]) ?_ (En w1) ?_
   ·go_simp
   ·rintro e w2 ⟨rfl,rfl⟩;exact⟨_,rfl,rfl,bI (aw _ _)⟩
  ·clear hd;obtain⟨k0,hb0,q1,hm1,_⟩:=hS;have x0:=aH hm1 0 _ rfl;have x1:=aH hm1 1 _ rfl;have x2:=aH hm1 2 _ rfl;refine Ph.yv ?_ rfl;go_simp
  ·have d3:ev (aB 16)=_:=hd.1 rfl;clear hd;refine Lag.Yields.value (v:=ae (some ⟨w1.heap.size,0,none⟩) 1 1) (w':=w1.alloc (au m.cells 81)) ?_ ⟨⟨_,rfl,ax _ _⟩,bI ((aw _ _).alloc (ay _) _)⟩;go_simp
  ·have d2:ev (aB 15)=_:=hd.1 rfl;obtain⟨k,e17,hk⟩:=hd.2.1 rfl;clear hd;replace e17:ev (aB 17)=_:=e17;obtain⟨v',w',hr,ho,hb⟩:=AG m w1 k hk;refine Lag.Yields.value (v:=v') (w':=w') ?_ ⟨ownsRow_base ho (by obtain⟨_,_,_,_,_,_,h⟩:=hS;exact h),bI hb⟩;simp[execOp,resolve,invoke,builtin,d2,e17,hr,Result.andThen]
  ·clear hd;refine Ph.yv ?_ rfl;go_simp
  ·have d6:ev (aB 19)=_:=hd.1 rfl;have d5:w1.ownsRow (w.heap.size+3) 81 3 (ev (aB 18)) 1 (eN [m]):=hd.2.1 rfl;clear hd;obtain⟨p5,c5,ES⟩:=eu d5;obtain⟨k0,hb0,q1,hm1,hz1,hbl,hsz⟩:=hS;have c1:=aH hb0 14 _ rfl;have f1:=cI hb0 14;refine Lag.Yields.skip (w':=w1.setCell ⟨w.heap.size,14,none⟩ (ev (aB 18))) ?_ ⟨⟨_,rfl,bT _ hb0⟩,.inr ⟨⟨_,bT _ hb0,(by intro h;simp[Ph.upd] at h),(bu _ _ _ _ (by show _≠w.heap.size;omega)).trans hm1,(bu _ _ _ _ (by show _≠w.heap.size;omega)).trans hz1,hbl.setCell (p:=⟨w.heap.size,14,none⟩) (ay _) _,by simpa using hsz⟩,?_⟩⟩
   ·rw[ES];go_simp
   ·intro j u ds hj hL hp
    match j,hp with
    |0,hp=>exact hp
    |1,hp=>exact hp
    |2,hp=>exact hp
    |3,hp=>exact hp
    |4,⟨k,h1,h2⟩=>exact⟨k,h1,(bu _ _ _ _ (by rintro rfl;rw[hb0] at h2;simp at h2)).trans h2⟩
    |5,hp=>exact dC hp hb0 (by decide)
    |6,hp=>exact hp
    |7,_=>exact(hj rfl).elim
    |j+8,_=>trivial
 case rfin=>
  intro a2 w2 hR;have hS:=hR.s;have e5:w2.ownsRow (w.heap.size+3) 81 3 (a2.tmps.getD 18 af) 1 (eN [m]):=hR.val 5 (by decide);obtain⟨x,h18,jG⟩:=hR.val 7 (by decide);have k2:a2.tmps.getD 2 af=pv w.heap.size 0:=hR.kept (by kernel_rfl);have k4:a2.tmps.getD 4 af=a8 (some ⟨w.heap.size+1+1,0,none⟩):=hR.kept (by kernel_rfl);have ha:=hR.lits 24 rfl;simp only[bf,bR,nL] at ha;clear hR;have ES:a2.tmps.getD 18 af=x:=bt h18;rw[ES] at e5;rw[k2,k4] at ha;generalize a2.tmps.getD=zz at ha;obtain⟨p5,c5,rfl⟩:=eu e5;obtain⟨_,_,_,_,hz,hbl,hsz⟩:=hS;have HK:=ai jG;have HZ:=ai hz;have EI:=ai hbl;have SJ:=ai (Reads.jP e5 (by omega) (by rfl));clear k2 k4 h18 ES e5 jG hz hbl;subst ha
  go_wp2_with (first
   |(refine ox rfl 28 _ rfl _ rfl 28 _ (0,0) _ HK.out aT rfl (by kernel_rfl) ?_)
   |(refine gT rfl 28 _ _ rfl _ _ rfl rfl 28 _ HZ5.out (by kernel_rfl) rfl (by simp[cy]) ?_)
   |(go_at_call 150;refine(HAg.out _ _ EI.out SJ.out).mono ?_;clear HAg;rintro e w5 ⟨m',s',k',rfl,RN,hf5,hb5⟩
     have HZ5:=ai ((hb5.block _ (aj.1 HZ.out).1).trans HZ.out);obtain⟨p6,c6,rfl,_⟩:=aV RN.rm;obtain⟨p8,c8,rfl,_⟩:=aV RN.rs;obtain⟨S3,c11,rfl,_⟩:=aV RN.rk;have SM:mf (gg b (ae p6 ml.length c6) (ae p8 ss.length c8) (ae S3 ([m]:List Mk).length c11) ml ss [m] (w5.setRow (w.heap.size+2) (b.cells (ae p6 ml.length c6) (ae p8 ss.length c8) (ae S3 ([m]:List Mk).length c11)))):=ai (RN.setRow hf5 (aj.1 HZ.out).1);have Ys:=ai (EI.out.trans (hb5.mono EI.out.size))
     clear RN hb5 hf5))
  refine bw (results_cell_tmp (g:=w.heap.size+2) rfl rfl (ku _ _ 28 28 _ (0,0) _ (cM HZ5.out) aT rfl (by kernel_rfl))) rfl ⟨_,_,_,rfl,SM.out,dJ Ys.out (by omega)⟩
theorem IQ(b:BB)(men sent marks:ak)(ml:List Mn)(ss:List Int)(ms:List Mk)(w:ar)(hL:Laid w)(hB:cK b men sent marks ml ss ms w)(mi:Int)(h1:1≤mi)(h2:mi≤b.minutes)(h3:mi<dw ss ms) :
  bp aq 82 #[aQ (b.cells men sent marks),ah ag mi] w fun e w'=>e=aG (bM #[aQ gK,ah ag 7])∧aC w.heap.size w w':=by
 have Ac:=hB.ok.minutes;have pw:∀s∈ss,1≤s∧s≤8:=fun s h=>by have:=hB.mL.mem s h;omega
 have JZ:∀m∈ms,1≤m.minute∧m.minute≤8:=fun m h=>by have:=hB.lh.mem m h;omega
 obtain⟨pm,cm,rfl,_⟩:=aV hB.rm;obtain⟨pn,cn,rfl,_⟩:=aV hB.rs;obtain⟨pk,ck,rfl,_⟩:=aV hB.rk;have b0:aC w.heap.size w ((w.alloc (au (b.cells (ae pm ml.length cm) (ae pn ss.length cn) (ae pk ms.length ck)) 28)).alloc (au gK 28)):=((aw _ _).alloc (ay _) _).alloc (by simp) _;have HT:mf (Two w (b.cells (ae pm ml.length cm) (ae pn ss.length cn) (ae pk ms.length ck)) 28 gK 28 ((w.alloc (au (b.cells (ae pm ml.length cm) (ae pn ss.length cn) (ae pk ms.length ck)) 28)).alloc (au gK 28))):=ai ⟨(Two.mk' w _ _ _ _).one,(Two.mk' w _ _ _ _).two,b0,by simp⟩;have uz:=ai (fV b _ _ _ ml ss ms _ (hL.below b0) (hB.below b0));have HBh:mf (∀W,aC w.heap.size w W→bp aq 155 #[aQ (b.cells (ae pm ml.length cm) (ae pn ss.length cn) (ae pk ms.length ck))] W fun e w'=>e=aG (ah ag (dw ss ms))∧aC W.heap.size W w'):=ai fun W hb=>EB b _ _ _ ss ms pw JZ W (hB.below hb).rs (hB.below hb).rk;clear hL hB b0 pw JZ;generalize dw ss ms=bh at *;generalize ml.length=lm at *;generalize ss.length=ln at *;generalize ms.length=lk at *
 go_enter Tryz.func82,Tryz.ntmps82
 go_wp2_with (first
  |(refine gT rfl 28 _ _ rfl _ _ rfl rfl 28 _ HZ.out (by kernel_rfl) rfl (by simp[cy]) ?_)
  |(go_at_call 71;refine uz.out.mono ?_;clear uz;rintro e w1 ⟨rfl,hb1⟩
    have rQ:=HT.out.next hb1;have o6:=ai rQ
    obtain⟨x0,x1,x2,x3,x4,x5,x6,x7,x8,x9,nG,nE,oh,nM,nQ⟩:=bQ rQ.one
    clear rQ hb1)
  |(go_at_call 132;refine(nw b _ _ _ mi h1 h2 _).mono ?_;rintro e w2 ⟨rfl,hb2⟩
    have FC:=ai ((hb2.block w1.heap.size (by simp)).trans (ax w1 _));have FA:=ai ((o6.out.next ((aw _ _).alloc (ay _) (au (b.cells (ae pm lm cm) (ae pn ln cn) (ae pk lk ck)) 119))).next hb2);clear x0 x1 x2 x3 x4 x5 x6 x7 x8 x9 nG nE oh nM nQ;obtain⟨x0,x1,x2,x3,x4,x5,x6,x7,x8,x9,nG,nE,oh,nM,nQ⟩:=bQ FC.out
    clear hb2)
  |(go_at_call 155;refine(HBh.out _ FA.out.below).mono ?_;clear HBh;rintro e w3 ⟨rfl,hb3⟩
    have NP:=ai (FA.out.next hb3);have HZ:=ai NP.out.two
    clear hb3))
 (try simp only[Exit.inBlock,Exit.then])
 exact bw (results_cell_tmp (g:=w.heap.size+1) rfl rfl (ku _ _ 28 28 _ (0,0) _ (cM HZ.out) aT rfl (by kernel_rfl))) rfl ⟨rfl,dJ NP.out.below (by omega)⟩
theorem Og(l:List Mk)(m:Mk):eN (l++[m])=eN l++m.cells.toList:=by simp[eN]
theorem Reads.src{w:ar}{v:ak}{n:Nat}{xs:List ak}(h:Reads w v n xs):Src w v n xs:=by
 rcases h with⟨h1,h2,h3⟩|⟨g,off,cap,h1,_,_,h4⟩
 ·exact bI ⟨h1,h2,h3⟩
 ·exact .inr ⟨⟨g,off,none⟩,cap,h1,fun j u hj=>by
   have:=h4 j u hj
   cases j<;>simpa [l5] using this⟩
structure NN(k:Nat)(bk mk:Array ak)(w0:ar)(C:Bool)(w:ar):Prop where
 one:w.heap[k]?=some (au bk 28 (0,0))
 two:w.heap[k+1]?=some (au mk 81 (0,0))
 three:w.heap[k+2]?=some (au #[ah ag 0,ah ag 0,ah ag 0,ah ag 0,ah ag 0,ah ag 0,ah ag 0,ah ag 0,ah ag 0,ah ag 0,ah ag 0,ah ag 0,ae none 0 0,ae none 0 0,ae none 0 0] 28 (0,0))
 four:C=false→w.heap[k+3]?=some (au bk 28 (0,0))
 below:aC k w0 w
 size:k+4≤w.heap.size
section
variable{k:Nat}{bk mk:Array ak}{w0 w1 w2:ar}{C C':Bool}
theorem NN.next(hC:C'=false→C=false)(h:NN k bk mk w0 C w1)(hb:aC w1.heap.size w1 w2):NN k bk mk w0 C' w2:=by
 have hs:=h.size;exact⟨(hb.block _ (by omega)).trans h.one,(hb.block _ (by omega)).trans h.two,(hb.block _ (by omega)).trans h.three,fun e=>(hb.block _ (by omega)).trans (h.four (hC e)),h.below.trans (hb.mono (by omega)),bq hs hb.size⟩
theorem NN.grown{row:Option Nat}(hC:C'=C)(h:NN k bk mk w0 C w1)(g:w1.grownBy w2 row)(hr:∀q,row=some q→k+4≤q):NN k bk mk w0 C' w2:=by
 subst hC;have hs:=h.size;have hn:∀q,q<k+4→some q≠row:=fun q hq e=>by have:=hr q e.symm;omega
 exact⟨(g.block _ (by omega) (hn _ (by omega))).trans h.one,(g.block _ (by omega) (hn _ (by omega))).trans h.two,(g.block _ (by omega) (hn _ (by omega))).trans h.three,fun e=>(g.block _ (by omega) (hn _ (by omega))).trans (h.four e),h.below.grown g (by omega) (fun q hq=>by have:=hr q hq;omega),bq hs g.size⟩
theorem NN.put(h:NN k bk mk w0 C w1)(u:ak)(i:Nat):NN k bk mk w0 true (w1.setCell ⟨k+3,i,none⟩ u):=by
 have hn:∀q,q≠k+3→(w1.setCell ⟨k+3,i,none⟩ u).heap[q]?=w1.heap[q]?:=fun q hq=>bu _ _ _ _ hq;exact⟨(hn _ (by omega)).trans h.one,(hn _ (by omega)).trans h.two,(hn _ (by omega)).trans h.three,fun e=>(by cases e),h.below.setCell (p:=⟨k+3,i,none⟩) (by show k≤k+3;omega) _,by simpa using h.size⟩
theorem NN.drew(h:NN k bk mk w0 C w1):NN k bk mk w0 C w1.drew:=⟨h.one,h.two,h.three,h.four,h.below.drew,h.size⟩
end
theorem MP(b:BB)(men sent marks:ak)(hv:(∃p n c,men=ae p n c)∧(∃p n c,sent=ae p n c))(ms:List Mk)(hlen:ms.length≤20)(m:Mk)(w:ar)(hk:Reads w marks ms.length (eN ms)) :
  bp aq 88 #[aQ (b.cells men sent marks),aQ m.cells] w fun e w'=>∃k',e=aG (aQ (b.cells men sent k'))∧Reads w' k' (ms++[m]).length (eN (ms++[m]))∧(∃g,k'.ownBlock=some g∧w.heap.size≤g∧∃cs,w'.heap[g]?=some (au cs 81 (0,0)))∧aC w.heap.size w w':=by
 obtain⟨i1,KZ,PR,hy1,hy2⟩:=mE Hw;obtain⟨⟨pm,nm,cm,rfl⟩,⟨pn,nn,cn,rfl⟩⟩:=hv;obtain⟨pk,ck,rfl,_⟩:=aV hk;have HL:=ai (r5 ms);have pw:(((w.alloc (au (b.cells (ae pm nm cm) (ae pn nn cn) (ae pk ms.length ck)) 28)).alloc (au m.cells 81)).alloc (au #[ah ag 0,ah ag 0,ah ag 0,ah ag 0,ah ag 0,ah ag 0,ah ag 0,ah ag 0,ah ag 0,ah ag 0,ah ag 0,ah ag 0,ae none 0 0,ae none 0 0,ae none 0 0] 28)).heap.size=w.heap.size+3:=by simp
 have hb3:aC w.heap.size w (((w.alloc (au (b.cells (ae pm nm cm) (ae pn nn cn) (ae pk ms.length ck)) 28)).alloc (au m.cells 81)).alloc (au #[ah ag 0,ah ag 0,ah ag 0,ah ag 0,ah ag 0,ah ag 0,ah ag 0,ah ag 0,ah ag 0,ah ag 0,ah ag 0,ah ag 0,ae none 0 0,ae none 0 0,ae none 0 0] 28)):=(((aw _ _).alloc (ay _) _).alloc (by simp) _).alloc (by simp;omega) _;have h0:(((w.alloc (au (b.cells (ae pm nm cm) (ae pn nn cn) (ae pk ms.length ck)) 28)).alloc (au m.cells 81)).alloc (au #[ah ag 0,ah ag 0,ah ag 0,ah ag 0,ah ag 0,ah ag 0,ah ag 0,ah ag 0,ah ag 0,ah ag 0,ah ag 0,ah ag 0,ae none 0 0,ae none 0 0,ae none 0 0] 28)).heap[w.heap.size]?=some (au (b.cells (ae pm nm cm) (ae pn nn cn) (ae pk ms.length ck)) 28 (0,0)):=(aX _ _ _ (by simp;omega)).trans ((aX _ _ _ (by simp)).trans (ax w _));have h1:(((w.alloc (au (b.cells (ae pm nm cm) (ae pn nn cn) (ae pk ms.length ck)) 28)).alloc (au m.cells 81)).alloc (au #[ah ag 0,ah ag 0,ah ag 0,ah ag 0,ah ag 0,ah ag 0,ah ag 0,ah ag 0,ah ag 0,ah ag 0,ah ag 0,ah ag 0,ae none 0 0,ae none 0 0,ae none 0 0] 28)).heap[w.heap.size+1]?=some (au m.cells 81 (0,0)):=(aX _ _ _ (by simp)).trans (by have:=ax (w.alloc (au (b.cells (ae pm nm cm) (ae pn nn cn) (ae pk ms.length ck)) 28)) (au m.cells 81);simpa using this);have h2:(((w.alloc (au (b.cells (ae pm nm cm) (ae pn nn cn) (ae pk ms.length ck)) 28)).alloc (au m.cells 81)).alloc (au #[ah ag 0,ah ag 0,ah ag 0,ah ag 0,ah ag 0,ah ag 0,ah ag 0,ah ag 0,ah ag 0,ah ag 0,ah ag 0,ah ag 0,ae none 0 0,ae none 0 0,ae none 0 0] 28)).heap[w.heap.size+2]?=some (au #[ah ag 0,ah ag 0,ah ag 0,ah ag 0,ah ag 0,ah ag 0,ah ag 0,ah ag 0,ah ag 0,ah ag 0,ah ag 0,ah ag 0,ae none 0 0,ae none 0 0,ae none 0 0] 28 (0,0)):=by have:=ax ((w.alloc (au (b.cells (ae pm nm cm) (ae pn nn cn) (ae pk ms.length ck)) 28)).alloc (au m.cells 81)) (au #[ah ag 0,ah ag 0,ah ag 0,ah ag 0,ah ag 0,ah ag 0,ah ag 0,ah ag 0,ah ag 0,ah ag 0,ah ag 0,ah ag 0,ae none 0 0,ae none 0 0,ae none 0 0] 28);simpa using this
 have h3:((((w.alloc (au (b.cells (ae pm nm cm) (ae pn nn cn) (ae pk ms.length ck)) 28)).alloc (au m.cells 81)).alloc (au #[ah ag 0,ah ag 0,ah ag 0,ah ag 0,ah ag 0,ah ag 0,ah ag 0,ah ag 0,ah ag 0,ah ag 0,ah ag 0,ah ag 0,ae none 0 0,ae none 0 0,ae none 0 0] 28)).alloc (au (b.cells (ae pm nm cm) (ae pn nn cn) (ae pk ms.length ck)) 28)).heap[w.heap.size+3]?=some (au (b.cells (ae pm nm cm) (ae pn nn cn) (ae pk ms.length ck)) 28 (0,0)):=by have:=ax (((w.alloc (au (b.cells (ae pm nm cm) (ae pn nn cn) (ae pk ms.length ck)) 28)).alloc (au m.cells 81)).alloc (au #[ah ag 0,ah ag 0,ah ag 0,ah ag 0,ah ag 0,ah ag 0,ah ag 0,ah ag 0,ah ag 0,ah ag 0,ah ag 0,ah ag 0,ae none 0 0,ae none 0 0,ae none 0 0] 28)) (au (b.cells (ae pm nm cm) (ae pn nn cn) (ae pk ms.length ck)) 28);rw[pw] at this;exact this
 have HS0:mf (NN w.heap.size (b.cells (ae pm nm cm) (ae pn nn cn) (ae pk ms.length ck)) m.cells w false ((((w.alloc (au (b.cells (ae pm nm cm) (ae pn nn cn) (ae pk ms.length ck)) 28)).alloc (au m.cells 81)).alloc (au #[ah ag 0,ah ag 0,ah ag 0,ah ag 0,ah ag 0,ah ag 0,ah ag 0,ah ag 0,ah ag 0,ah ag 0,ah ag 0,ah ag 0,ae none 0 0,ae none 0 0,ae none 0 0] 28)).alloc (au (b.cells (ae pm nm cm) (ae pn nn cn) (ae pk ms.length ck)) 28))):=
  ai ⟨(aX _ _ _ (by rw[pw];omega)).trans h0,(aX _ _ _ (by rw[pw];omega)).trans h1,(aX _ _ _ (by rw[pw];omega)).trans h2,fun _=>h3,hb3.alloc (by rw[pw];omega) _,by simp⟩
 have HRk:mf (∀w9,aC w.heap.size w w9→Src w9 (ae pk ms.length ck) ms.length (eN ms)):=ai fun w9 h9=>(hk.below h9).src;clear h0 h1 h2 h3 hb3 hk pw
 go_enter Tryz.func88,Tryz.ntmps88
 go_wp2
 refine Ph.cj (by kernel_rfl) [
 fun v ds w9=>∃q,v=ae (some ⟨q,0,none⟩) 0 0∧w9.ownsRow (w.heap.size+4) 81 3 v 0 [],
  pV (a8 (some ⟨w.heap.size,14,none⟩)),
  pV (ae pk ms.length ck),
  fun v ds w9=>∃p c,v=ae p ms.length c∧w9.ownsRow (w.heap.size+4) 81 3 v ms.length (eN ms)∧(ms.length=0→c=0),
  pV (aQ m.cells),
  fun v ds w9=>∃q,v=ae (some ⟨q,0,none⟩) 1 1∧w9.ownsRow (w.heap.size+4) 81 3 v 1 m.cells.toList,
  fun v ds w9=>∃p c,v=ae p (ms.length+1) c∧w9.ownsRow (w.heap.size+4) 81 3 v (ms.length+1) (eN ms++m.cells.toList),
  pV (a8 (some ⟨w.heap.size+1+1+1,14,none⟩)),
  fun v ds w9=>∃x,ds[1]?=some x∧w9.heap[w.heap.size+3]?=some (au (b.cells (ae pm nm cm) (ae pn nn cn) x) 28 (0,0))]
  (fun L w9=>NN w.heap.size (b.cells (ae pm nm cm) (ae pn nn cn) (ae pk ms.length ck)) m.cells w (L 8) w9) [(2,a8 (some ⟨w.heap.size,0,none⟩)),(3,a8 (some ⟨w.heap.size+1,0,none⟩)),(5,a8 (some ⟨w.heap.size+1+1+1,0,none⟩))] (by kernel_rfl) ?rst (fun L L2 w1 w2 PV h hb=>h.next (PV 8) hb) (HS0.out.drew) ⟨rfl,rfl,rfl,trivial⟩ ?reach ?rfin
 case rst=>
  refine⟨?_,Ph.sV,Ph.sV,?_,Ph.sV,?_,?_,Ph.sV,?_,trivial⟩
  ·rintro v ds L w1 w2 hS ⟨q,h1,h2⟩ hb;exact⟨q,h1,eJ h2 hb⟩
  ·rintro v ds L w1 w2 hS ⟨p,c,h1,h2,h3⟩ hb;exact⟨p,c,h1,eJ h2 hb,h3⟩
  ·rintro v ds L w1 w2 hS ⟨q,h1,h2⟩ hb;exact⟨q,h1,eJ h2 hb⟩
  ·rintro v ds L w1 w2 hS ⟨p,c,h1,h2⟩ hb;exact⟨p,c,h1,eJ h2 hb⟩
  ·rintro v ds L w1 w2 hS ⟨x,h1,h2⟩ hb;exact⟨x,h1,(hb.block _ (aj.1 h2).1).trans h2⟩
 case reach=>
  refine⟨?_,?_,?_,?_,?_,?_,?_,?_,?_,trivial⟩<;>rintro Lf ev w1 hn tU hS hc hg hf ⟨b2,b3,b5,-⟩ hd
  ·clear hd;have ZY:=hS.size;refine Lag.Yields.value (v:=ae (some ⟨w1.heap.size,0,none⟩) 0 0) (w':=w1.alloc (au #[] 81)) ?_ ⟨⟨_,rfl,⟨by simp,.inr ⟨w1.heap.size,0,#[],rfl,ZY,ax _ _,ay _,oA _,by simp,by simp⟩⟩⟩,bI ((aw _ _).alloc (ay _) _)⟩;go_simp
  ·clear hd;refine Ph.yv ?_ rfl;go_simp
  ·have d1:ev (aB 8)=_:=hd.1 rfl;clear hd;have c14:=aH hS.one 14 (ae pk ms.length ck) rfl;refine Ph.yv ?_ rfl;go_simp
  ·have d0:∃q,(ev (aB 7))=ae (some ⟨q,0,none⟩) 0 0∧w1.ownsRow (w.heap.size+4) 81 3 (ev (aB 7)) 0 []:=hd.1 rfl;have d2:ev (aB 9)=_:=hd.2.1 rfl;clear hd;obtain⟨q,e7,hq⟩:=d0;rw[e7] at hq;obtain⟨g,c,cur,h1,h2,h3,_,_,h4,_⟩:=hq.2.resolve_left (by simp);cases h1;obtain rfl:cur = #[]:=Array.eq_empty_of_size_eq_zero (by simpa using h4);refine Lag.Yields.append_empty (aB 7) (aB 9) 26 rfl (w.heap.size+4) 81 i1 (aQ #[ah ag 0,ah ag 0,ah ag 0]) 3 24 Tryz.underlying26 KZ PR hy1 hy2 rfl (by decide) q e7 h3 h2 (ae pk ms.length ck) ms.length (eN ms) d2 (by have:=HL.out;omega) (HRk.out w1 hS.below) (F5 ms) (by unfold kQ;omega) (by omega) ?_;intro v' w' hown' hb' hz;obtain⟨p',c',rfl⟩:=eu hown';exact⟨⟨p',c',rfl,hown',fun h0=>by have:=hz h0;simp at this;exact this.2.2⟩,bI hb'⟩
  ·clear hd;have q:w1.heap[w.heap.size+1]?=some (au m.cells 81 (0,0)):=hS.two;refine Lag.Yields.yH 81 _ rfl _ b3 81 _ (0,0) _ q Tryz.underlying81 rfl (by kernel_rfl) ⟨rfl,bI (aw _ _)⟩
  ·have d4:ev (aB 11)=_:=hd.1 rfl;clear hd;have ZY:=hS.size;refine Lag.Yields.value (v:=ae (some ⟨w1.heap.size,0,none⟩) 1 1) (w':=w1.alloc (au m.cells 81)) ?_ ⟨⟨_,rfl,World.ownsRow_lit w1 m.cells 1 ZY (by unfold kQ;omega) rfl⟩,bI ((aw _ _).alloc (ay _) _)⟩;go_simp
  ·have d3:∃p c,(ev (aB 10))=ae p ms.length c∧w1.ownsRow (w.heap.size+4) 81 3 (ev (aB 10)) ms.length (eN ms)∧(ms.length=0→c=0):=hd.1 rfl;have d5:∃q,(ev (aB 12))=ae (some ⟨q,0,none⟩) 1 1∧w1.ownsRow (w.heap.size+4) 81 3 (ev (aB 12)) 1 m.cells.toList:=hd.2.1 rfl;clear hd;obtain⟨p,c,Io,hown,hz⟩:=d3;obtain⟨q,VE,hq⟩:=d5;have OT:=HL.out;rw[Io] at hown;have hown1:=hq;rw[VE] at hq;obtain⟨g,c2,cur,h1,h2,h3,_,_,h4,h5⟩:=hq.2.resolve_left (by simp);cases h1
   have adR:cur=m.cells:=by
    apply Array.ext';have h6:cur.toList.length=3:=by simpa using h4
    rw[List.take_of_length_le (by omega)] at h5;exact h5
   subst adR;refine Lag.Yields.MH (aB 10) (aB 12) 26 rfl (w.heap.size+4) 81 i1 (aQ #[ah ag 0,ah ag 0,ah ag 0]) 3 24 Tryz.underlying26 KZ PR hy1 hy2 rfl (by decide) (ae p ms.length c) ms.length (eN ms) Io hown (ae (some ⟨q,0,none⟩) 1 1) 1 m.cells.toList VE rfl (.inr ⟨_,_,rfl,?_⟩) (by simp[cy]) (by unfold kQ;omega) (by omega) hS.size ?_
   ·intro n u hn;have h5:=aH h3 n u (by simpa using hn);have e:(⟨q,0,none⟩:Addr).add n=⟨q,n,none⟩:=by cases n<;>simp[l5]
    rw[e];exact h5
   intro v' w' hown' hgrow nx;obtain⟨p',c',rfl⟩:=eu hown';refine⟨⟨p',c',rfl,hown'⟩,.inr ⟨hS.grown (by simp[Ph.upd]) hgrow (fun q hq=>(hown.lt q hq).1),?_⟩⟩;intro t u ds hj hL hp
   match t,hp with
   |0,⟨q2,h1,h2⟩=>exact⟨q2,h1,nx (oA _) h2⟩
   |1,hp=>exact hp
   |2,hp=>exact hp
   |3,⟨p2,c2,h1,h2,h3⟩=>exact⟨p2,c2,h1,nx (ay _) h2,h3⟩
   |4,hp=>exact hp
   |5,⟨q2,h1,h2⟩=>
    refine⟨q2,h1,?_⟩
    by_cases h0:ms.length=0
    ·have hc:=hz h0;refine ie h2 fun g2 hg2=>hgrow.block g2 (h2.lt g2 hg2).2 fun DY=>?_;rw[h1] at h2;obtain⟨g3,c3,aiU,k1,_,k3,_,_,k4,_⟩:=h2.2.resolve_left (by simp);cases k1;have e2:q2=g2:=by rw[h1] at hg2;exact bt hg2
     subst e2;rcases hown.2 with⟨k5,_⟩|⟨g4,c4,aiT,k5,_,k6,_,_,k7,_⟩
     ·rw[k5] at DY;cases DY
     ·cases k5;have e4:q2=g4:=bt DY;subst e4;rw[k3] at k6;cases k6;omega
    ·exact nx (by omega) h2
   |6,_=>exact(hj rfl).elim
   |7,hp=>exact hp
   |8,_=>rw[hn 8 (by kernel_rfl)] at hL;cases hL
   |t+9,_=>trivial
  ·clear hd;refine Ph.yv ?_ rfl;go_simp
  ·have d7:ev (aB 14)=_:=hd.1 rfl;have d6:∃p c,(ev (aB 13))=ae p (ms.length+1) c∧w1.ownsRow (w.heap.size+4) 81 3 (ev (aB 13)) (ms.length+1) (eN ms++m.cells.toList):=hd.2.1 rfl;clear hd;obtain⟨p,c,h1,h2⟩:=d6;have yM:w1.heap[w.heap.size+1+1+1]?=some (au (b.cells (ae pm nm cm) (ae pn nn cn) (ae pk ms.length ck)) 28 (0,0)):=hS.four tU;have c1:=aH yM 14 (ae pk ms.length ck) rfl;have f1:=cI yM 14;refine Lag.Yields.skip (w':=w1.setCell ⟨w.heap.size+1+1+1,14,none⟩ (ev (aB 13))) ?_ ⟨⟨_,rfl,bT _ yM⟩,.inr ⟨(hS.put (ev (aB 13)) 14),?_⟩⟩
   ·rw[h1];go_simp
   ·intro t u ds hj hL hp
    match t,hp with
    |0,⟨q2,g1,g2⟩=>exact⟨q2,g1,dC g2 yM (by decide)⟩
    |1,hp=>exact hp
    |2,hp=>exact hp
    |3,⟨p2,c2,g1,g2,g3⟩=>exact⟨p2,c2,g1,dC g2 yM (by decide),g3⟩
    |4,hp=>exact hp
    |5,⟨q2,g1,g2⟩=>exact⟨q2,g1,dC g2 yM (by decide)⟩
    |6,⟨p2,c2,g1,g2⟩=>exact⟨p2,c2,g1,dC g2 yM (by decide)⟩
    |7,hp=>exact hp
    |8,_=>exact(hj rfl).elim
    |t+9,_=>trivial
 case rfin=>
  intro a3 w3 hR;have hS:=hR.s;have e6:∃p c,(a3.tmps.getD 13 af)=ae p (ms.length+1) c∧w3.ownsRow (w.heap.size+4) 81 3 (a3.tmps.getD 13 af) (ms.length+1) (eN ms++m.cells.toList):=hR.val 6 (by decide);have e8:∃x,([a3.tmps.getD 14 af,a3.tmps.getD 13 af,a3.tmps.getD 13 af,a3.tmps.getD 7 af,a3.tmps.getD 8 af,a3.tmps.getD 9 af,a3.tmps.getD 10 af,a3.tmps.getD 11 af,a3.tmps.getD 12 af,a3.tmps.getD 13 af]:List ak)[1]?=some x∧w3.heap[w.heap.size+3]?=some (au (b.cells (ae pm nm cm) (ae pn nn cn) x) 28 (0,0)):=hR.val 8 (by decide);have k4:a3.tmps.getD 4 af=a8 (some ⟨w.heap.size+1+1,0,none⟩):=hR.kept (by kernel_rfl);have k5:a3.tmps.getD 5 af=a8 (some ⟨w.heap.size+1+1+1,0,none⟩):=hR.kept (by kernel_rfl);have ha:=hR.lits 16 rfl;simp only[bf,bR,nL] at ha;clear hR;obtain⟨x,ex,yM⟩:=e8;have ex2:a3.tmps.getD 13 af=x:=bt ex;obtain⟨p13,c13,YP,WY⟩:=e6;rw[YP] at ex2 WY;subst ex2;rw[k4,k5] at ha;generalize a3.tmps.getD=zz at ha;have HOb:mf (w3.heap[w.heap.size+1+1+1]?=some (au (b.cells (ae pm nm cm) (ae pn nn cn) (ae p13 (ms.length+1) c13)) 28 (0,0))):=ai yM;have HZ:mf (w3.heap[w.heap.size+1+1]?=some (au #[ah ag 0,ah ag 0,ah ag 0,ah ag 0,ah ag 0,ah ag 0,ah ag 0,ah ag 0,ah ag 0,ah ag 0,ah ag 0,ah ag 0,ae none 0 0,ae none 0 0,ae none 0 0] 28 (0,0))):=ai hS.three;have HB:=ai hS.below;have KS:=ai WY;clear YP ex yM WY hS k4 k5;subst ha
  go_wp2_with (first
   |(refine ox rfl 28 _ rfl _ rfl 28 _ (0,0) _ HOb.out aT rfl (by kernel_rfl) ?_)
   |(refine gT rfl 28 _ _ rfl _ _ rfl rfl 28 _ HZ.out (by kernel_rfl) rfl (by simp[cy]) ?_))
  have ho:(w3.setRow (w.heap.size+1+1) (b.cells (ae pm nm cm) (ae pn nn cn) (ae p13 (ms.length+1) c13))).ownsRow (w.heap.size+4) 81 3 (ae p13 (ms.length+1) c13) (ms.length+1) (eN ms++m.cells.toList):=ie KS.out fun g hg=>setRow_other (by have:=(KS.out.lt g hg).1;omega);refine bw (results_cell_row rfl _ _ (w.heap.size+1+1) 28 _ (0,0) _ rfl (cM HZ.out) aT rfl (by kernel_rfl)) rfl ⟨_,rfl,?_,?_,dJ HB.out (by omega)⟩
  ·rw[Og];exact Reads.jP ho (by simp;omega) (by have:=HL.out;simp;omega)
  ·obtain⟨g,cap,cur,h1,h2,h3,_⟩:=ho.2.resolve_left (by simp);exact⟨g,by rw[h1];rfl,by omega,cur,h3⟩
def jm:List Int→List Int→Bool
 |_,[]=>false
 |[],_::_=>true
 |x::xs,y::ys=>if x<y then true else if y<x then false else jm xs ys
theorem Il(xs ys:List Int)(k:Nat)(h1:k<xs.length)(h2:k<ys.length):jm (xs.drop k) (ys.drop k)=if xs[k]<ys[k] then true else if ys[k]<xs[k] then false else jm (xs.drop (k+1)) (ys.drop (k+1)):=by
 rw[dW h1,dW h2];rfl
theorem yV:∀(xs ys:List Int),(!jm xs ys && !jm ys xs)=decide (xs=ys)
 |[],[]=>rfl
 |[],_::_=>by simp[jm]
 |_::_,[]=>by simp[jm]
 |x::xs,y::ys=>by
  have ih:=yV xs ys;unfold jm
  by_cases h1:x<y
  ·have:x≠y:=by omega
   simp[h1,this]
  ·by_cases h2:y<x
   ·have:x≠y:=by omega
    simp[h2,this]
   ·have:x=y:=by omega
    subst this;simp only[Int.lt_irrefl,if_false,List.cons.injEq,true_and];exact ih
theorem BD(xs ys:List Int)(v1 v2:ak)(w:ar)(h1:Reads w v1 xs.length (xs.map (aM ag)))(h2:Reads w v2 ys.length (ys.map (aM ag))) :
  bp aq 46 #[v1,v2] w fun e w'=>e=aG (aA (jm xs ys))∧aC w.heap.size w w':=by
 obtain⟨p1,c1,rfl,hb1⟩:=aV h1;obtain⟨p2,c2,rfl,hb2⟩:=aV h2
 have cell:∀ {zs:List Int} {p:Option Addr} {c:Nat},Reads w (ae p zs.length c) zs.length (zs.map (aM ag))→∀k (hk:k<zs.length),∃g off,p=some ⟨g,off,none⟩∧g<w.heap.size∧w.cell? ⟨g,off+k,none⟩=some (ah ag zs[k]):=by
  rintro zs p c (⟨h,_⟩|⟨g,off,cap,h,_,hg,hc⟩) k hk
  ·cases zs with
   |nil=>simp at hk
   |cons z zs=>simp at h
  ·cases h;exact⟨g,off,rfl,hg,hc k _ (by simp[hk])⟩
 have NS:=ai (cell h1);have Yr:=ai (cell h2);clear cell h1 h2
 go_enter Tryz.func46,Tryz.ntmps46
 go_wp2
 go_loopw [5] (fun i wr=>∃k:Nat,k≤ys.length∧k≤xs.length∧i=ah ag k∧jm xs ys=jm (xs.drop k) (ys.drop k)∧aC w.heap.size w wr) (fun i _=>ys.length-(intOf i).toNat)
 case atStart=>exact⟨0,by omega,by omega,rfl,by simp,aw _ _⟩
 case round=>
  obtain⟨k,hk2,rF,rfl,he,eA⟩:=hrel;have hsz:=eA.size;have HE:=ai he;have w8:=ai eA;clear he eA
  by_cases hlt:k<ys.length
  ·obtain⟨g2,o2,Z7,hg2,hc2⟩:=Yr.out k hlt;have HY:mf (∀w9,aC wr.heap.size wr w9→w9.cell? ⟨g2,o2+k,none⟩=some (ah ag ys[k])):=ai fun w9 h9=>((w8.out.trans (h9.mono hsz)).cell (p:=⟨g2,o2+k,none⟩) hg2).trans hc2
   by_cases hx:k<xs.length
   ·obtain⟨g1,o1,hp1,hg1,hc1⟩:=NS.out k hx;have HX:mf (∀w9,aC wr.heap.size wr w9→w9.cell? ⟨g1,o1+k,none⟩=some (ah ag xs[k])):=ai fun w9 h9=>((w8.out.trans (h9.mono hsz)).cell (p:=⟨g1,o1+k,none⟩) hg1).trans hc1;have hst:=Il xs ys k hx hlt;subst hp1;subst Z7;clear hc1 hc2 NS Yr;generalize xs[k]=x at *;generalize ys[k]=y at *;generalize sw:xs.length=n1 at *;generalize xw:ys.length=n2 at *;have HN1:=ai sw;have HN2:=ai xw;have SI:=ai hst;clear sw xw hst;have hge:decide ((n1:Int)≤(k:Int))=false:=decide_eq_false (by omega);have Xh:decide (n1≤k)=false:=decide_eq_false (by omega);obtain⟨lt,Cb⟩:∃lt,decide (x<y)=lt:=⟨_,rfl⟩
    go_wp2
    refine Gd.cj (by kernel_rfl) [
    pV (ah ag k),
     pV (ae (some ⟨g1,o1,none⟩) n1 c1),
     pV (ah ag n1),
     pV (aA false),
     pV (aA false),
     pV (ae (some ⟨g1,o1,none⟩) n1 c1),
     pV (ah ag k),
     pV (a8 (some ⟨g1,o1+k,none⟩)),
     pV (ah ag x),
     pV (ae (some ⟨g2,o2,none⟩) n2 c2),
     pV (ah ag k),
     pV (a8 (some ⟨g2,o2+k,none⟩)),
     pV (ah ag y),
     pV (aA lt),
     pV (aA lt)]
     (fun w9=>aC wr.heap.size wr w9) [(0,ae (some ⟨g1,o1,none⟩) n1 c1),(1,ae (some ⟨g2,o2,none⟩) n2 c2),(5,ah ag k)] (by kernel_rfl) ?rst (fun w1 w2 h hb=>h.trans (hb.mono h.size)) ((aw _ _).drew) ⟨rfl,rfl,rfl,trivial⟩ ?reach ?rfin
    case rst=>
     refine⟨sV,sV,sV,sV,sV,sV,sV,sV,sV,sV,sV,sV,sV,sV,sV,trivial⟩
    case reach=>
     refine⟨?_,?_,?_,?_,?_,?_,?_,?_,?_,?_,?_,?_,?_,?_,?_,trivial⟩<;>rintro ev w1 hS hc hg hf ⟨b0,b1,b5,-⟩ hd
     ·clear hd;refine yv ?_ rfl;go_simp
     ·clear hd;refine yv ?_ rfl;go_simp
     ·have d1:ev (aB 13)=_:=hd.1 rfl;clear hd;refine yv ?_ rfl;go_simp
     ·have d0:ev (aB 12)=_:=hd.1 rfl;have d2:ev (aB 14)=_:=hd.2.1 rfl;clear hd;refine yv ?_ rfl;go_simp
     ·have d3:ev (aB 15)=_:=hd.1 rfl;clear hd;refine yv ?_ rfl;go_simp
     ·have d4:ev (aB 16)=_:=hd.1 rfl;clear hd;refine gL d4 ?_;refine yv ?_ rfl;go_simp
     ·have d4:ev (aB 16)=_:=hd.1 rfl;clear hd;refine gL d4 ?_;refine yv ?_ rfl;go_simp
     ·have d5:ev (aB 17)=_:=hd.1 rfl;have d6:ev (aB 18)=_:=hd.2.1 rfl;have d4:ev (aB 16)=_:=hd.2.2.1 rfl;clear hd;refine gL d4 ?_;refine yv ?_ rfl;go_simp
     ·have d7:ev (aB 19)=_:=hd.1 rfl;have d4:ev (aB 16)=_:=hd.2.1 rfl;clear hd;refine gL d4 ?_;have z:=HX.out w1 hS;refine yv ?_ rfl;go_simp
     ·have d4:ev (aB 16)=_:=hd.1 rfl;clear hd;refine gL d4 ?_;refine yv ?_ rfl;go_simp
     ·have d4:ev (aB 16)=_:=hd.1 rfl;clear hd;refine gL d4 ?_;refine yv ?_ rfl;go_simp
     ·have d9:ev (aB 21)=_:=hd.1 rfl;have d10:ev (aB 22)=_:=hd.2.1 rfl;have d4:ev (aB 16)=_:=hd.2.2.1 rfl;clear hd;refine gL d4 ?_;refine yv ?_ rfl;go_simp
     ·have d11:ev (aB 23)=_:=hd.1 rfl;have d4:ev (aB 16)=_:=hd.2.1 rfl;clear hd;refine gL d4 ?_;have z:=HY.out w1 hS;refine yv ?_ rfl;go_simp
     ·have d8:ev (aB 20)=_:=hd.1 rfl;have d12:ev (aB 24)=_:=hd.2.1 rfl;have d4:ev (aB 16)=_:=hd.2.2.1 rfl;clear hd;refine gL d4 ?_;refine yv ?_ rfl;rw[←Cb];go_simp
     ·have d4:ev (aB 16)=_:=hd.1 rfl;have d13:ev (aB 25)=_:=hd.2.1 rfl;clear hd;refine yv ?_ rfl;go_simp
    case rfin=>
     intro a3 w3 hR;have hS:=hR.s;have Ee:a3.tmps.getD 26 af=_:=hR.val 14 (by decide);have ha:=hR.lits 36 rfl;simp only[bf,bR,nL] at ha;rw[hR.kp 0 (by kernel_rfl),hR.kp 1 (by kernel_rfl),hR.kp 2 (by kernel_rfl),hR.kp 3 (by kernel_rfl),hR.kp 4 (by kernel_rfl),hR.kp 5 (by kernel_rfl)] at ha;simp only[kO,List.getD_cons_succ,List.getD_cons_zero] at ha;clear hR;rw[Ee] at ha;generalize a3.tmps.getD=zz at ha;have pI:=ai hS;clear Ee hS;subst ha;cases lt
     ·have h3:¬x<y:=by simpa using Cb
      obtain⟨gt,Xe⟩:∃gt,decide (y<x)=gt:=⟨_,rfl⟩
      go_wp2
      refine Gd.cj (by kernel_rfl) [
      pV (ae (some ⟨g1,o1,none⟩) n1 c1),
       pV (ah ag k),
       pV (a8 (some ⟨g1,o1+k,none⟩)),
       pV (ah ag x),
       pV (ae (some ⟨g2,o2,none⟩) n2 c2),
       pV (ah ag k),
       pV (a8 (some ⟨g2,o2+k,none⟩)),
       pV (ah ag y),
       pV (aA gt)]
       (fun w9=>aC w3.heap.size w3 w9) [(0,ae (some ⟨g1,o1,none⟩) n1 c1),(1,ae (some ⟨g2,o2,none⟩) n2 c2),(5,ah ag k)] (by kernel_rfl) ?rst (fun w1 w2 h hb=>h.trans (hb.mono h.size)) ((aw _ _).drew) ⟨rfl,rfl,rfl,trivial⟩ ?reach ?rfin
      case rst=>
       refine⟨sV,sV,sV,sV,sV,sV,sV,sV,sV,trivial⟩
      case reach=>
       refine⟨?_,?_,?_,?_,?_,?_,?_,?_,?_,trivial⟩<;>rintro ev w1 hS hc hg hf ⟨b0,b1,b5,-⟩ hd
       ·clear hd;refine yv ?_ rfl;go_simp
       ·clear hd;refine yv ?_ rfl;go_simp
       ·have d0:ev (aB 27)=_:=hd.1 rfl;have d1:ev (aB 28)=_:=hd.2.1 rfl;clear hd;refine yv ?_ rfl;go_simp
       ·have d2:ev (aB 29)=_:=hd.1 rfl;clear hd;have z:=HX.out w1 (pI.out.trans (hS.mono pI.out.size));refine yv ?_ rfl;go_simp
       ·clear hd;refine yv ?_ rfl;go_simp
       ·clear hd;refine yv ?_ rfl;go_simp
       ·have d4:ev (aB 31)=_:=hd.1 rfl;have d5:ev (aB 32)=_:=hd.2.1 rfl;clear hd;refine yv ?_ rfl;go_simp
       ·have d6:ev (aB 33)=_:=hd.1 rfl;clear hd;have z:=HY.out w1 (pI.out.trans (hS.mono pI.out.size));refine yv ?_ rfl;go_simp
       ·have d3:ev (aB 30)=_:=hd.1 rfl;have d7:ev (aB 34)=_:=hd.2.1 rfl;clear hd;refine yv ?_ rfl;rw[←Xe];go_simp
      case rfin=>
       intro a4 w4 hR;have hS:=hR.s;have e8:a4.tmps.getD 35 af=_:=hR.val 8 (by decide);have ha:=hR.lits 36 rfl;simp only[bf,bR,nL] at ha;rw[hR.kp 0 (by kernel_rfl),hR.kp 1 (by kernel_rfl),hR.kp 2 (by kernel_rfl),hR.kp 3 (by kernel_rfl),hR.kp 4 (by kernel_rfl),hR.kp 5 (by kernel_rfl)] at ha;simp only[kO,List.getD_cons_succ,List.getD_cons_zero] at ha;clear hR;rw[e8] at ha;generalize a4.tmps.getD=zz at ha;have YV:=ai hS;clear e8 hS;subst ha;cases gt
       ·have h4:¬y<x:=by simpa using Xe
        have hs:=SI.out;rw[if_neg (show ¬x<y by omega),if_neg (show ¬y<x by omega)] at hs;have HS:=ai hs;clear hs;go_wp2;go_roundw
        case rel=>exact⟨k+1,by omega,by omega,by go_num,by rw[HE.out,HS.out],w8.out.trans ((pI.out.trans (YV.out.mono pI.out.size)).mono hsz)⟩
        case measure=>simp[intOf];omega
       ·have h4:y<x:=by simpa using Xe
        have hs:=SI.out;rw[if_neg (show ¬x<y by omega),if_pos (show y<x by omega)] at hs;have HS:=ai hs;clear hs;go_wp2
        go_ret
        exact⟨by rw[HE.out,HS.out];rfl,w8.out.trans ((pI.out.trans (YV.out.mono pI.out.size)).mono hsz)⟩
     ·have h3:x<y:=by simpa using Cb
      have hs:=SI.out;rw[if_pos (show x<y by omega)] at hs;have HS:=ai hs;clear hs;go_wp2
      go_ret
      exact⟨by rw[HE.out,HS.out];rfl,w8.out.trans (pI.out.mono hsz)⟩
   ·obtain rfl:xs.length=k:=by omega
    have hres:jm xs ys=true:=by
     rw[HE.out,List.drop_length,dW hlt];rfl
    have Yn:=ai hres;clear hres hc2 HY NS Yr;generalize sw:xs.length=n1 at *;generalize xw:ys.length=n2 at *;clear sw xw;have hge:decide ((n1:Int)≤(n1:Int))=true:=decide_eq_true (by omega);go_wp2
    refine Gd.cj (by kernel_rfl) [
    pV (ah ag n1),
     pV (ae p1 n1 c1),
     pV (ah ag n1),
     pV (aA true),
     pV (aA true),
     fun v ds w9=>True,
     fun v ds w9=>True,
     fun v ds w9=>True,
     fun v ds w9=>True,
     fun v ds w9=>True,
     fun v ds w9=>True,
     fun v ds w9=>True,
     fun v ds w9=>True,
     fun v ds w9=>True,
     pV (aA true)]
     (fun w9=>aC wr.heap.size wr w9) [(0,ae p1 n1 c1),(1,ae p2 n2 c2),(5,ah ag n1)] (by kernel_rfl) ?rst (fun w1 w2 h hb=>h.trans (hb.mono h.size)) ((aw _ _).drew) ⟨rfl,rfl,rfl,trivial⟩ ?reach ?rfin
    case rst=>
     refine⟨sV,sV,sV,sV,sV,fun _ _ _ _ _ h _=>h,fun _ _ _ _ _ h _=>h,fun _ _ _ _ _ h _=>h,fun _ _ _ _ _ h _=>h,fun _ _ _ _ _ h _=>h,fun _ _ _ _ _ h _=>h,fun _ _ _ _ _ h _=>h,fun _ _ _ _ _ h _=>h,fun _ _ _ _ _ h _=>h,sV,trivial⟩
    case reach=>
     refine⟨?_,?_,?_,?_,?_,?_,?_,?_,?_,?_,?_,?_,?_,?_,?_,trivial⟩<;>rintro ev w1 hS hc hg hf ⟨b0,b1,b5,-⟩ hd
     ·clear hd;refine yv ?_ rfl;go_simp
     ·clear hd;refine yv ?_ rfl;go_simp
     ·have d1:ev (aB 13)=_:=hd.1 rfl;clear hd;refine yv ?_ rfl;go_simp
     ·have d0:ev (aB 12)=_:=hd.1 rfl;have d2:ev (aB 14)=_:=hd.2.1 rfl;clear hd;refine yv ?_ rfl;go_simp
     ·have d3:ev (aB 15)=_:=hd.1 rfl;clear hd;refine yv ?_ rfl;go_simp
     ·have d4:ev (aB 16)=_:=hd.1 rfl;clear hd;refine⟨fun hgd=>absurd (d4.symm.trans hgd) (by simp),fun hgd=>⟨trivial,bI (aw _ _)⟩⟩
     ·have d4:ev (aB 16)=_:=hd.1 rfl;clear hd;refine⟨fun hgd=>absurd (d4.symm.trans hgd) (by simp),fun hgd=>⟨trivial,bI (aw _ _)⟩⟩
     ·have d4:ev (aB 16)=_:=hd.2.2.1 rfl;clear hd;refine⟨fun hgd=>absurd (d4.symm.trans hgd) (by simp),fun hgd=>⟨trivial,bI (aw _ _)⟩⟩
     ·have d4:ev (aB 16)=_:=hd.2.1 rfl;clear hd;refine⟨fun hgd=>absurd (d4.symm.trans hgd) (by simp),fun hgd=>⟨trivial,bI (aw _ _)⟩⟩
     ·have d4:ev (aB 16)=_:=hd.1 rfl;clear hd;refine⟨fun hgd=>absurd (d4.symm.trans hgd) (by simp),fun hgd=>⟨trivial,bI (aw _ _)⟩⟩
     ·have d4:ev (aB 16)=_:=hd.1 rfl;clear hd;refine⟨fun hgd=>absurd (d4.symm.trans hgd) (by simp),fun hgd=>⟨trivial,bI (aw _ _)⟩⟩
     ·have d4:ev (aB 16)=_:=hd.2.2.1 rfl;clear hd;refine⟨fun hgd=>absurd (d4.symm.trans hgd) (by simp),fun hgd=>⟨trivial,bI (aw _ _)⟩⟩
     ·have d4:ev (aB 16)=_:=hd.2.1 rfl;clear hd;refine⟨fun hgd=>absurd (d4.symm.trans hgd) (by simp),fun hgd=>⟨trivial,bI (aw _ _)⟩⟩
     ·have d4:ev (aB 16)=_:=hd.2.2.1 rfl;clear hd;refine⟨fun hgd=>absurd (d4.symm.trans hgd) (by simp),fun hgd=>⟨trivial,bI (aw _ _)⟩⟩
     ·have d4:ev (aB 16)=_:=hd.1 rfl;clear hd;refine yv ?_ rfl;go_simp
    case rfin=>
     intro a3 w3 hR;have hS:=hR.s;have Ee:a3.tmps.getD 26 af=_:=hR.val 14 (by decide);have ha:=hR.lits 36 rfl;simp only[bf,bR,nL] at ha;rw[hR.kp 0 (by kernel_rfl),hR.kp 1 (by kernel_rfl),hR.kp 2 (by kernel_rfl),hR.kp 3 (by kernel_rfl),hR.kp 4 (by kernel_rfl),hR.kp 5 (by kernel_rfl)] at ha;simp only[kO,List.getD_cons_succ,List.getD_cons_zero] at ha;clear hR;rw[Ee] at ha;generalize a3.tmps.getD=zz at ha;have pI:=ai hS;clear Ee hS;subst ha;go_wp2
     go_ret
     exact⟨by rw[Yn.out];rfl,w8.out.trans (pI.out.mono hsz)⟩
  ·obtain rfl:ys.length=k:=by omega
   have hres:jm xs ys=false:=by
    rw[HE.out,List.drop_length];cases(xs.drop ys.length)<;>rfl
   have Yn:=ai hres;clear hres NS Yr;generalize sw:xs.length=n1 at *;generalize xw:ys.length=n2 at *;clear sw xw;go_wp2
   go_ret
   exact⟨by rw[Yn.out];rfl,w8.out⟩
theorem G5(xs ys:List Int)(v1 v2:ak)(w:ar)(h1:Reads w v1 xs.length (xs.map (aM ag)))(h2:Reads w v2 ys.length (ys.map (aM ag))) :
  bp aq 22 #[v1,v2] w fun e w'=>e=aG (aA (decide (xs=ys)))∧aC w.heap.size w w':=by
 have hA:∀W,aC w.heap.size w W→bp aq 46 #[v1,v2] W fun e w'=>e=aG (aA (jm xs ys))∧aC W.heap.size W w':=fun W hb=>BD xs ys v1 v2 W (h1.below hb) (h2.below hb);have hB:∀W,aC w.heap.size w W→bp aq 46 #[v2,v1] W fun e w'=>e=aG (aA (jm ys xs))∧aC W.heap.size W w':=fun W hb=>BD ys xs v2 v1 W (h2.below hb) (h1.below hb);obtain⟨p1,c1,rfl,_⟩:=aV h1;obtain⟨p2,c2,rfl,_⟩:=aV h2;rw[←yV];generalize jm xs ys=r at *;generalize jm ys xs=s at *;generalize xs.length=n1 at *;generalize ys.length=n2 at *;have HA:=ai hA;have HB:=ai hB;clear hA hB h1 h2;cases r
 ·go_enter Tryz.func22,Tryz.ntmps22
  go_wp2_with fail
  refine(HA.out w (aw _ _)).mono ?_;rintro e w1 ⟨rfl,hb1⟩;have H1:=ai hb1;clear hb1
  go_wp2_with fail
  refine(HB.out w1 H1.out).mono ?_;rintro e w2 ⟨rfl,hb2⟩;have H2:=ai hb2;clear hb2;go_wp2
  go_ret
  exact⟨rfl,H1.out.trans (H2.out.mono H1.out.size)⟩
 ·go_enter Tryz.func22,Tryz.ntmps22
  go_wp2_with fail
  refine(HA.out w (aw _ _)).mono ?_;rintro e w1 ⟨rfl,hb1⟩;have H1:=ai hb1;clear hb1;go_wp2
  go_ret
  exact⟨rfl,H1.out⟩
section
variable(b:BB)(men sent marks:ak)(ml:List Mn)(ss:List Int)(ms:List Mk)(w:ar)
theorem SH(hL:Laid w)(hB:cK b men sent marks ml ss ms w) :
  bp aq 33 #[aQ (b.cells men sent marks)] w fun e w'=>e=aG (bM #[ah ag b.holds,ah ag 0])∧aC w.heap.size w w':=by
 have b0:aC w.heap.size w (w.alloc (au (b.cells men sent marks) 28)):=(aw _ _).alloc (ay _) _;have uz:=ai (fV b men sent marks ml ss ms _ (hL.below b0) (hB.below b0));have cZ:=hB.ok;have HOk:=ai cZ;have I6:=ai b0;clear hL hB b0 cZ
 go_enter Tryz.func33,Tryz.ntmps33
 go_wp2_with (first
  |(go_at_call 71;refine uz.out.mono ?_;clear uz;rintro e w1 ⟨rfl,hb1⟩
    have jG:=(hb1.block w.heap.size (by simp)).trans (ax w _);obtain⟨x0,x1,x2,x3,x4,x5,x6,x7,x8,x9,nG,nE,oh,nM,nQ⟩:=bQ jG
    have yb:=ai hb1;clear jG hb1)
  |(go_at_call 115;refine(Gg b HOk.out men sent marks _).mono ?_;rintro e w2 ⟨rfl,hb2⟩;have px:=ai hb2;clear hb2))
 go_ret2;have h1:=I6.out.trans (yb.out.mono I6.out.size);exact⟨rfl,h1.trans (px.out.mono h1.size)⟩
theorem Yt(hL:Laid w)(hB:cK b men sent marks ml ss ms w)(n:Int)(hn:0≤n∧n≤999) :
  bp aq 65 #[aQ (b.cells men sent marks),ah ag n] w fun e w'=>e=aG (bM #[ah ag (b.Sd n),ah ag 0])∧aC w.heap.size w w':=by
 have b0:aC w.heap.size w (w.alloc (au (b.cells men sent marks) 28)):=(aw _ _).alloc (ay _) _;have uz:=ai (fV b men sent marks ml ss ms _ (hL.below b0) (hB.below b0));have cZ:=hB.ok;have HOk:=ai cZ;have I6:=ai b0;clear hL hB b0 cZ
 go_enter Tryz.func65,Tryz.ntmps65
 go_wp2_with (first
  |(go_at_call 71;refine uz.out.mono ?_;clear uz;rintro e w1 ⟨rfl,hb1⟩
    have jG:=(hb1.block w.heap.size (by simp)).trans (ax w _);obtain⟨x0,x1,x2,x3,x4,x5,x6,x7,x8,x9,nG,nE,oh,nM,nQ⟩:=bQ jG
    have yb:=ai hb1;clear jG hb1)
  |(go_at_call 138;refine(jk _ _ _ (by omega) (by omega) _).mono ?_;rintro e w' ⟨rfl,rfl⟩)
  |(go_at_call 139;refine(Ip b HOk.out men sent marks n hn _).mono ?_;rintro e w2 ⟨rfl,hb2⟩;have px:=ai hb2;clear hb2))
 go_ret2;have h1:=I6.out.trans (yb.out.mono I6.out.size);exact⟨rfl,h1.trans (px.out.mono h1.size)⟩
theorem KX(hL:Laid w)(hB:cK b men sent marks ml ss ms w) :
  bp aq 42 #[aQ (b.cells men sent marks)] w fun e w'=>e=aG (bM #[ah ag (bn b ml ss ms).length,ah ag 0])∧aC w.heap.size w w':=by
 have b0:aC w.heap.size w (w.alloc (au (b.cells men sent marks) 28)):=(aw _ _).alloc (ay _) _;have uz:=ai (fV b men sent marks ml ss ms _ (hL.below b0) (hB.below b0));have HBk:=ai (hB.below b0);have I6:=ai b0;have hlen:=jH ss ms hB.ok hB.iw;clear hL hB b0
 go_enter Tryz.func42,Tryz.ntmps42
 go_wp2_with (first
  |(go_at_call 71;refine uz.out.mono ?_;clear uz;rintro e w1 ⟨rfl,hb1⟩
    have jG:=(hb1.block w.heap.size (by simp)).trans (ax w _);obtain⟨x0,x1,x2,x3,x4,x5,x6,x7,x8,x9,nG,nE,oh,nM,nQ⟩:=bQ jG
    have yb:=ai hb1;clear jG hb1)
  |(go_at_call 116;refine(oT b men sent marks ml ss ms _ (HBk.out.below yb.out)).mono ?_;rintro e w2 ⟨v,rfl,jq,hb2⟩;have px:=ai hb2
    obtain⟨p,cap,rfl,_⟩:=aV (jq.reads (by omega));clear hb2 jq))
 go_ret2;have h1:=I6.out.trans (yb.out.mono I6.out.size);exact⟨rfl,h1.trans (px.out.mono h1.size)⟩
end
end Go.Proofs.YtffladgmkiimjaaGreatDoor
