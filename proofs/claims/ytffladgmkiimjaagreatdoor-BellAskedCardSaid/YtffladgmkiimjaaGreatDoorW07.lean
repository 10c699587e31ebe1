/- DERIVED: THE SHELF's CONTRACTS AT THIS DUMP, IN PLAIN WORDS (tools/lay .. -/
import Derived.Ground.NamesProg
import Derived.Ground.Names2Prog
import Derived.Shelf.Slices.CompactI
import Derived.Shelf.Slices.Clone
import Derived.Shelf.Sort.Plain
import Derived.Test.YtffladgmkiimjaaGreatDoorProg
import Derived.Test.YtffladgmkiimjaaGreatDoorW02
import Derived.Sort.OwnSortedInts
import Derived.Lib.OwnBridge
import Derived.Test.YtffladgmkiimjaaGreatDoorW03
set_option linter.all false
set_option maxHeartbeats 100000000
set_option maxRecDepth 1000000
open Array renaming getElem?_eq_some_iff → ak
open Go renaming undef → af,Value → aj,World → ar,Calls → bm
open Go.Ending renaming returned → aF
open Go.IntKind renaming i64 → ag
open Go.Lib renaming hid → ai
open Go.Obj renaming cells → au
open Go.Operand renaming tmp → aK
open Go.Proofs.Tryz renaming prog → aq,underlying3 → eo,underlying25 → fC
open Go.RowKit renaming Below → az
open Go.RowKit.Below renaming refl → aw
open Go.Value renaming int → aD,agg → aO,slice → ae,int → ah,oneCell' → cj
open Go.World renaming alloc_heap_new → ay,ownsRow_nil → dM,size_alloc → dU
open List renaming eq_nil_of_length_eq_zero → aY,take_succ_eq_append_getElem → bN,take_of_length_le → cQ,length_pos_iff → cX,getElem_mem → cu,length_map → dI,map_append → fD,length_mergeSort → wU
open Nat renaming le_refl → ax
namespace Go.Proofs
open Go.Shelf
def Tryz.Kg:Go.Shelf.Ren:=⟨fun|189=>172|125=>181|257=>180|128=>194|129=>195|294=>185|295=>186|296=>187|297=>188|298=>189|299=>190|216=>191|300=>192|301=>193|328=>196|329=>197|330=>198|331=>199|332=>200|215=>179|343=>201|n=>n,fun|28=>25|3=>3|46=>192|0=>0|51=>204|53=>206|4=>4|183=>197|182=>196|131=>72|5=>5|9=>9|218=>207|222=>211|228=>213|229=>214|n=>n,fun|n=>n⟩
theorem Tryz.Vq:Go.Proofs.Lays.n189 aq Tryz.Kg:={
 mixed:=by kernel_rfl
 f125:=Tryz.func181.trans (congrArg some (by kernel_rfl))
 f128:=Tryz.func194.trans (congrArg some (by kernel_rfl))
 f129:=Tryz.func195.trans (congrArg some (by kernel_rfl))
 f189:=Tryz.func172.trans (congrArg some (by kernel_rfl))
 f215:=Tryz.func179.trans (congrArg some (by kernel_rfl))
 f216:=Tryz.func191.trans (congrArg some (by kernel_rfl))
 f257:=Tryz.func180.trans (congrArg some (by kernel_rfl))
 f294:=Tryz.func185.trans (congrArg some (by kernel_rfl))
 f295:=Tryz.func186.trans (congrArg some (by kernel_rfl))
 f296:=Tryz.func187.trans (congrArg some (by kernel_rfl))
 f297:=Tryz.func188.trans (congrArg some (by kernel_rfl))
 f298:=Tryz.func189.trans (congrArg some (by kernel_rfl))
 f299:=Tryz.func190.trans (congrArg some (by kernel_rfl))
 f300:=Tryz.func192.trans (congrArg some (by kernel_rfl))
 f301:=Tryz.func193.trans (congrArg some (by kernel_rfl))
 f328:=Tryz.func196.trans (congrArg some (by kernel_rfl))
 f329:=Tryz.func197.trans (congrArg some (by kernel_rfl))
 f330:=Tryz.func198.trans (congrArg some (by kernel_rfl))
 f331:=Tryz.func199.trans (congrArg some (by kernel_rfl))
 f332:=Tryz.func200.trans (congrArg some (by kernel_rfl))
 f343:=Tryz.func201.trans (congrArg some (by kernel_rfl))
 t0:=Tryz.underlying0
 a0:=Tryz.isAgg0
 z0:=Tryz.sizeOf0
 v0:=Tryz.zeroValue0
 t3:=eo
 a3:=Tryz.isAgg3
 z3:=Tryz.sizeOf3
 v3:=Tryz.zeroValue3
 t4:=Tryz.underlying4
 a4:=Tryz.isAgg4
 z4:=Tryz.sizeOf4
 v4:=Tryz.zeroValue4
 t5:=Tryz.underlying5
 a5:=Tryz.isAgg5
 z5:=Tryz.sizeOf5
 v5:=Tryz.zeroValue5
 t9:=Tryz.underlying9
 a9:=Tryz.isAgg9
 z9:=Tryz.sizeOf9
 v9:=Tryz.zeroValue9
 t28:=fC
 a28:=Tryz.isAgg25
 z28:=Tryz.sizeOf25
 v28:=Tryz.zeroValue25
 t46:=Tryz.underlying192
 a46:=Tryz.isAgg192
 z46:=Tryz.sizeOf192
 v46:=Tryz.zeroValue192
 t51:=Tryz.underlying204
 a51:=Tryz.isAgg204
 z51:=Tryz.sizeOf204
 v51:=Tryz.zeroValue204
 t53:=Tryz.underlying206
 a53:=Tryz.isAgg206
 z53:=Tryz.sizeOf206
 v53:=Tryz.zeroValue206
 t131:=Tryz.underlying72
 a131:=Tryz.isAgg72
 z131:=Tryz.sizeOf72
 v131:=Tryz.zeroValue72
 t182:=Tryz.underlying196
 a182:=Tryz.isAgg196
 z182:=Tryz.sizeOf196
 v182:=Tryz.zeroValue196
 t183:=Tryz.underlying197
 a183:=Tryz.isAgg197
 z183:=Tryz.sizeOf197
 v183:=Tryz.zeroValue197
 t218:=Tryz.underlying207
 a218:=Tryz.isAgg207
 z218:=Tryz.sizeOf207
 v218:=Tryz.zeroValue207
 t222:=Tryz.underlying211
 a222:=Tryz.isAgg211
 z222:=Tryz.sizeOf211
 v222:=Tryz.zeroValue211
 t228:=Tryz.underlying213
 a228:=Tryz.isAgg213
 z228:=Tryz.sizeOf213
 v228:=Tryz.zeroValue213
 t229:=Tryz.underlying214
 a229:=Tryz.isAgg214
 z229:=Tryz.sizeOf214
 v229:=Tryz.zeroValue214 }
def Tryz.MD:Go.Shelf.Ren:=⟨fun|20=>173|n=>n,fun|22=>25|3=>3|4=>4|0=>0|n=>n,fun|n=>n⟩
theorem Tryz.Yu:Go.Proofs.Lays2.n20 aq Tryz.MD:={
 mixed:=by kernel_rfl
 f20:=Tryz.func173.trans (congrArg some (by kernel_rfl))
 t0:=Tryz.underlying0
 a0:=Tryz.isAgg0
 z0:=Tryz.sizeOf0
 v0:=Tryz.zeroValue0
 t3:=eo
 a3:=Tryz.isAgg3
 z3:=Tryz.sizeOf3
 v3:=Tryz.zeroValue3
 t4:=Tryz.underlying4
 a4:=Tryz.isAgg4
 z4:=Tryz.sizeOf4
 v4:=Tryz.zeroValue4
 t22:=fC
 a22:=Tryz.isAgg25
 z22:=Tryz.sizeOf25
 v22:=Tryz.zeroValue25
 i3:=by kernel_rfl }
end Go.Proofs
namespace Go.Proofs.YtffladgmkiimjaaGreatDoor
open Go.RowKit Go.Lag Go.Sort
def sorted(zs:List Int):List Int:=zs.mergeSort fun x y=>decide (x≤y)
theorem JG{w:ar}{base g cap:Nat}{zs:List Int}(h:w.ownsRow base 3 1 (ae (some ⟨g,0,none⟩) zs.length cap) zs.length (zs.map (aD ag)))(hlen:zs.length<4611686018427387904)(hb0:base≤w.heap.size) :
  bm aq 172 #[ae (some ⟨g,0,none⟩) zs.length cap] w fun e w'=>e=aF (.tuple #[])∧w'.ownsRow base 3 1 (ae (some ⟨g,0,none⟩) zs.length cap) zs.length ((sorted zs).map (aD ag))∧az base w w':=by
 rcases h.2 with⟨h0,_⟩|⟨g',cap',cur,hv,hbase,hb,h1,h2,h3,h4⟩
 ·cases h0
 cases hv;have hl2:(sorted zs).length=zs.length:=wU zs;have hH:Holds (aD ag) w g 0 zs.toArray:=holds_of_blockI hb (by rw[Nat.mul_one] at h4;exact h4);have BI:g<w.heap.size:=(ak.1 hb).1;refine(show bm aq 172 #[ae (some ⟨g,0,none⟩) zs.length cap] w _ from Any.slices_Sort_int Tryz.Vq g 0 cap zs w hH BI hlen).mono ?_;rintro e w' ⟨rfl,n,os,rfl⟩;exact⟨rfl,ownsRow_sortedI (ts:=sorted zs) hl2 hbase hb h1 h2 h3,(aw _ _).grown (grownBy_sortedI _) hb0 fun j hj=>by cases hj;exact hbase⟩
theorem BP{w:ar}{base g cap:Nat}{zs:List Int}(h:w.ownsRow base 3 1 (ae (some ⟨g,0,none⟩) zs.length cap) zs.length (zs.map (aD ag)))(hlen:zs.length≤9223372036854775807) :
  bm aq 173 #[ae (some ⟨g,0,none⟩) zs.length cap] w fun e w'=>e=aF (ae (some ⟨g,0,none⟩) (Lib.compact zs).length cap)∧w'.ownsRow base 3 1 (ae (some ⟨g,0,none⟩) (Lib.compact zs).length cap) (Lib.compact zs).length ((Lib.compact zs).map (aD ag))∧az base w w':=by
 have h':=h;rcases h.2 with⟨h0,_⟩|⟨g',cap',cur,hv,hbase,hb,h1,h2,h3,h4⟩
 ·cases h0
 cases hv;have hle:=Lib.compact_length_le zs;have hH:Holds (aD ag) w g 0 zs.toArray:=holds_of_blockI hb (by rw[Nat.mul_one] at h4;exact h4);refine(show bm aq 173 #[ae (some ⟨g,0,none⟩) zs.length cap] w _ from Any.slices_Compact_int Tryz.Yu g 0 cap zs w hH hlen h1).mono ?_;rintro e w' ⟨rfl,q,rfl⟩;have hc:=Lib.ownsRow_putRow (q:=q) (k:=(Lib.compact zs).length) (ys:=Lib.compact zs++List.replicate (zs.length-(Lib.compact zs).length) 0) h' (by simp;omega) (by omega);rw[List.take_left] at hc;exact⟨rfl,hc,Lib.below_putRow (aw _ _) hbase⟩
end Go.Proofs.YtffladgmkiimjaaGreatDoor
namespace Go.Proofs.YtffladgmkiimjaaGreatDoor
open Go.RowKit Go.Lag
def gI(of:eA→Int)(l:List eA):List Int:=Lib.compact (sorted (l.map of))
theorem Mx(b:BB)(men sent marks:aj)(l:List eA)(hl:l≠[])(hl2:l.length≤1000)(of:eA→Int)(cp:Nat)(w:ar)(v:aj)(hv:Reads w v l.length (rowOf l))
  (Gx:∀a∈l,∀W,az w.heap.size w W→bm aq 128 #[aO a.cells,pv cp 0] W fun e W'=>e=aF (ah ag (of a))∧az W.heap.size W W') :
  bm aq 124 #[aO (b.open men sent marks v),.func (.func 128) #[] #[pv cp 0]] w fun e w'=>∃gn cn,e=aF (ae (some ⟨gn,0,none⟩) (gI of l).length cn)∧w'.ownsRow w.heap.size 3 1 (ae (some ⟨gn,0,none⟩) (gI of l).length cn) (gI of l).length ((gI of l).map (aD ag))∧az w.heap.size w w':=by
 obtain⟨i0,hi,hz0,hz1,hz2⟩:=info_parts info3
 obtain⟨g,off,cap,rfl,hn,hg,hc⟩:∃g off cap,v=ae (some ⟨g,off,none⟩) l.length cap∧(l.length≤4294967296∧l.length≤cap)∧g<w.heap.size∧∀j u,(rowOf l)[j]?=some u→w.cell? ⟨g,off+j,none⟩=some u:=by
  rcases hv with⟨_,h,_⟩|h
  ·exact(hl (aY h)).elim
  ·exact h
 have kg:0<l.length:=cX.2 hl;have HC:=ai hc;have Um:=ai Gx;clear hc Gx hv hl;generalize hL:l.length=L at *;have HL:=ai hL;clear hL;have b1:az w.heap.size w (w.alloc (au (b.open men sent marks (ae (some ⟨g,off,none⟩) L cap)) 122)):=(aw _ _).alloc (ax _) _;have yg:=ai b1;clear b1
 go_enter Tryz.func124,Tryz.ntmps124
 go_wp2
 go_loopw [5,7,11] (fun out _ i wr=>∃k:Nat,k≤L∧i=ah ag k∧wr.ownsRow (w.heap.size+1) 3 1 out k ((l.take k).map fun a=>aD ag (of a))∧az (w.heap.size+1) (w.alloc (au (b.open men sent marks (ae (some ⟨g,off,none⟩) L cap)) 122)) wr) (fun _ _ i _=>L-(intOf i).toNat)
 case atStart=>exact⟨0,by omega,rfl,by simpa using dM _ _ _ _,aw _ _⟩
 case round=>
  obtain⟨k,hk,rfl,hown,eh⟩:=hrel;have hsz:=eh.size;simp at hsz;have uo:az w.heap.size w wr:=yg.out.trans (eh.mono (by omega))
  by_cases hlt:k<L
  ·have kh:k<l.length:=by rw[HL.out];exact hlt
   obtain⟨hc0,hc1,hc2,hc3⟩:=Reads.cell (w:=wr) (cap:=cap) (n:=L) (fun j u hj=>(uo.cell (p:=⟨g,off+j,none⟩) hg).trans (HC.out j u hj)) k kh;have sX:(l.take (k+1)).map (fun a=>aD ag (of a))=(l.take k).map (fun a=>aD ag (of a))++[ah ag (of l[k])]:=by rw[bN kh,fD];rfl
   have hcl:=fun W hb=>Um.out l[k] (cu kh) W hb;have HT:=ai sX;have HK:=ai hcl;clear sX hcl;generalize l[k]=a at *;have UL:=ai uo;clear uo
   go_wp2_with (first
    |(go_at_call 128;refine(HK.out _ (UL.out.alloc (by omega) _)).mono ?_;rintro e w2 ⟨rfl,hb2⟩
      have hs2:=hb2.size;simp only[dU] at hs2;have hown2:w2.ownsRow (w.heap.size+1) 3 1 u5 k ((l.take k).map fun a=>aD ag (of a)):=fY (hown.alloc _) fun g hg=>hb2.block g (by have:=(hown.lt g hg).2;simp;omega);have oX:=ai hb2
      have WM:Hid (∀(j:Nat) (u:aj),([ah ag (of a)]:List aj)[j]?=some u→(w2.alloc (au #[ah ag (of a)] 3)).cell? ((⟨w2.heap.size,0,none⟩:Addr).add j)=some u):=ai fun j u hj=>by
       match j,hj with
       |0,hj=>simp at hj;subst hj;simp[Addr.add]
      clear hb2)
    |(at_builtin;refine wpList_append_own _ rfl _ _ 25 rfl (w.heap.size+1) 3 i0 (ah ag 0) 1 8 fC hi hz0 hz1 hz2 rfl (by decide) _ _ _ rfl (hown2.alloc _) ⟨w2.heap.size,0,none⟩ 1 1 [ah ag (of a)] rfl rfl WM.out (by simp[cj]) (by unfold maxLen;omega) (by omega) (by simp;omega) ?_;intro v' w3 Ko hgrow hnil))
   go_roundw
   case rel=>
    have h1:az (w.heap.size+1) wr w2:=((aw _ wr).alloc (by omega) _).trans (oX.out.mono (by simp;omega));exact⟨k+1,by omega,by simp,by rw[HT.out];exact Ko,eh.trans (vP (by omega) hown2 h1 hgrow)⟩
   case measure=>simp[intOf];omega
  ·obtain rfl:k=L:=by omega
   have MI:l.take k=l:=cQ (by rw[HL.out];exact ax _);rw[MI,show(fun a=>aD ag (of a))=(aD ag ∘ of) from rfl,←List.map_map] at hown;have Xq:(l.map of).length=k:=by rw[dI];exact HL.out
   obtain⟨k',rfl⟩:∃k',k=k'+1:=⟨k-1,by omega⟩
   obtain⟨go,co,rfl⟩:=ownsRow_succ hown;rw[←Xq] at hown;have HO:=ai hown;have UL:=ai uo;have HLM:=ai Xq;have HN:=ai eh;clear hown uo MI eh Xq;have MK:=JG HO.out (by rw[HLM.out];omega) (by omega);rw[HLM.out] at MK;have HSO:=ai MK;clear MK
   go_wp2_with (first
    |(go_at_call 172;refine HSO.out.mono ?_;rintro e w2 ⟨rfl,ho2,hb2⟩
      have hs2:(sorted (l.map of)).length=k'+1:=(wU _).trans HLM.out;rw[←hs2] at ho2;have yf:=BP ho2 (by omega);rw[hs2] at yf;have HCP:=ai yf;have oX:=ai hb2
      clear yf ho2 hb2 hs2)
    |(go_at_call 173;refine HCP.out.mono ?_;rintro e w3 ⟨rfl,ho3,hb3⟩;have HO3:=ai ho3;have o9:=ai hb3;clear ho3 hb3))
   go_ret
   refine⟨go,co,rfl,ownsRow_base HO3.out (by omega),UL.out.trans ((oX.out.mono (by omega)).trans (o9.out.mono (by omega)))⟩
def eA.get(a:eA)(lH:Nat):Int:=
 match lH with
 |0=>a.m0
 |1=>a.m1
 |_=>a.m2
theorem Qd(b:BB)(men sent marks:aj)(n:Nat)(L:Nat)(p:Option Addr)(cap:Nat)(hm:men=ae p L cap)(h:n<L)(hL:L≤3)(w:ar):bm aq 127 #[aO (b.cells men sent marks),ah ag n] w fun e w'=>e=aF (.bool true)∧az w.heap.size w w':=by
 subst hm;have z:IntKind.i64.wrap ((L:Int)-1)=(L:Int)-1:=eX _ (by omega) (by omega)
 go_enter Tryz.func127,Tryz.ntmps127
 go_wp2_with (go_at_call 138;refine(iM _ _ _ (by omega) (by omega) _).mono ?_;rintro e w' ⟨rfl,rfl⟩)
 go_ret
 exact⟨rfl,(aw _ _).alloc (ax _) _⟩
theorem Wn(b:BB)(men sent marks:aj)(n:Nat)(L:Nat)(p:Option Addr)(cap:Nat)(hm:men=ae p L cap)(h:n<L)(hL:L≤3)(cp:Nat)(w:ar)(hcl:cp<w.heap.size)(hc:w.cell? ⟨cp,0,none⟩=some (ah ag n)) :
  bm aq 126 #[aO (b.cells men sent marks),pv cp 0] w fun e w'=>e=aF (ah ag 0)∧az w.heap.size w w':=by
 have b1:az w.heap.size w (w.alloc (au (b.cells men sent marks) 119)):=(aw _ _).alloc (ax _) _;have hc1:=(b1.cell (p:=⟨cp,0,none⟩) hcl).trans hc;have HI:=ai (Qd b men sent marks n L p cap hm h hL);have yg:=ai b1;clear b1 hc hm
 go_enter Tryz.func126,Tryz.ntmps126
 go_wp2_with (go_at_call 127;refine(HI.out _).mono ?_;rintro e w' ⟨rfl,hb⟩;have HB:=ai hb;clear hb)
 go_ret
 exact⟨rfl,yg.out.trans (HB.out.mono yg.out.size)⟩
theorem Wm(a:eA)(n:Nat)(h:n<3)(cp:Nat)(w:ar)(hcl:cp<w.heap.size)(hc:w.cell? ⟨cp,0,none⟩=some (ah ag n)) :
  bm aq 128 #[aO a.cells,pv cp 0] w fun e w'=>e=aF (ah ag (a.get n))∧az w.heap.size w w':=by
 have b1:az w.heap.size w (w.alloc (au a.cells 134)):=(aw _ _).alloc (ax _) _;have hc1:=(b1.cell (p:=⟨cp,0,none⟩) hcl).trans hc;have hb:=ay w (au a.cells 134)
 have hx:(w.alloc (au a.cells 134)).cell? ⟨w.heap.size,1+n,none⟩=some (ah ag (a.get n)):=by
  match n,h with
  |0,_=>exact aH hb 1 _ rfl
  |1,_=>exact aH hb 2 _ rfl
  |2,_=>exact aH hb 3 _ rfl
 have yg:=ai b1;clear b1 hc hb
 go_enter Tryz.func128,Tryz.ntmps128
 go_wp2
 go_ret
 exact⟨rfl,yg.out⟩
theorem E5(b:BB)(men sent marks:aj)(ml:List Mn)(ss:List Int)(ms:List Mk)(w:ar)(hL:Laid w)(hB:cH b men sent marks ml ss ms w)(hne:bn b ml ss ms≠[])(n:Nat)(hn:n<ml.length) :
  bm aq 58 #[aO (b.cells men sent marks),ah ag n] w fun e w'=>∃v,e=aF (.tuple #[v,ah ag 0])∧Reads w' v (gI (fun a=>a.get n) (bn b ml ss ms)).length ((gI (fun a=>a.get n) (bn b ml ss ms)).map (aD ag))∧az w.heap.size w w':=by
 have hlen:=jq ss ms hB.ok hB.gV;have kg:0<(bn b ml ss ms).length:=cX.2 hne;have Xp:=hB.gV.len;obtain⟨pm,cm,rfl,_⟩:=aR hB.rm;obtain⟨pn,cn,rfl,_⟩:=aR hB.rs;obtain⟨pk,ck,rfl,_⟩:=aR hB.rk;have b0:az w.heap.size w ((w.alloc (au (b.cells (ae pm ml.length cm) (ae pn ss.length cn) (ae pk ms.length ck)) 28)).alloc (au #[ah ag n] 3)):=((aw _ _).alloc (ax _) _).alloc (by simp) _
 have ht:Two w (b.cells (ae pm ml.length cm) (ae pn ss.length cn) (ae pk ms.length ck)) 28 #[ah ag n] 3 ((w.alloc (au (b.cells (ae pm ml.length cm) (ae pn ss.length cn) (ae pk ms.length ck)) 28)).alloc (au #[ah ag n] 3)):=
  ⟨(Two.mk' w _ _ _ _).one,(Two.mk' w _ _ _ _).two,b0,by simp⟩
 have hop:=Vd b (ae pm ml.length cm) (ae pn ss.length cn) (ae pk ms.length ck) ml ss ms _ (hL.below b0) (hB.below b0) hne (w.heap.size+1) (fun W hb=>by
  have h1:=(hb.block (w.heap.size+1) (by simp)).trans ht.two
  exact Wn b _ _ _ n ml.length pm cm rfl hn Xp _ W (ak.1 h1).1 (aH h1 0 _ rfl))
 have HO:=ai hop;have HT:=ai ht;clear hop ht hL hB b0;generalize bn b ml ss ms=all at *;generalize hM:ml.length=lm at *;generalize ss.length=ln at *;generalize ms.length=lk at *;clear hM
 go_enter Tryz.func58,Tryz.ntmps58
 go_wp2_with (first
  |(go_at_call 103;refine HO.out.mono ?_;clear HO;rintro e w1 ⟨v,rfl,iU,hb1⟩
    have rI:=HT.out.next hb1
    obtain⟨gv,cv,rfl⟩:∃gv cv,v=ae (some ⟨gv,0,none⟩) all.length cv:=by
     rcases iU.1.2 with⟨_,h0⟩|⟨g,cap,cur,rfl,_⟩
     ·omega
     ·exact⟨g,cap,rfl⟩
    have oL:=ai rI;have Ug:Hid (Reads (w1.alloc (au (b.open (ae pm lm cm) (ae pn ln cn) (ae pk lk ck) (ae (some ⟨gv,0,none⟩) all.length cv)) 122)) (ae (some ⟨gv,0,none⟩) all.length cv) all.length (rowOf all)):=ai ((iU.reads (by omega)).below ((aw _ _).alloc (ax _) _))
    have HNu:=ai (Mx b (ae pm lm cm) (ae pn ln cn) (ae pk lk ck) all hne (by omega) (fun a=>a.get n) (w.heap.size+1) _ _ Ug.out (fun a _ W hb=>by
     have h1:=((oL.out.next ((aw _ _).alloc (ax _) (au (b.open (ae pm lm cm) (ae pn ln cn) (ae pk lk ck) (ae (some ⟨gv,0,none⟩) all.length cv)) 122))).next hb).two
     exact Wm a n (by omega) _ W (ak.1 h1).1 (aH h1 0 _ rfl)))
    clear rI iU hb1)
  |(go_at_call 124;refine HNu.out.mono ?_;rintro e w2 ⟨gn,cgn,rfl,ho2,hb2⟩;have HO2:=ai ho2;have oX:=ai hb2;clear ho2 hb2))
 go_ret2;have hb3:=oL.out.below.alloc (by have:=oL.out.size;omega) (au (b.open (ae pm lm cm) (ae pn ln cn) (ae pk lk ck) (ae (some ⟨gv,0,none⟩) all.length cv)) 122)
 have hnl:(gI (fun a=>a.get n) all).length≤1000:=by
  have h1:=Lib.compact_length_le (sorted (all.map fun a=>a.get n));have h2:(sorted (all.map fun a=>a.get n)).length=all.length:=(wU _).trans (dI _);unfold gI;omega
 exact⟨_,rfl,Reads.iT HO2.out (by omega) (by simp),hb3.trans (oX.out.mono hb3.size)⟩
theorem J4(b:BB)(men sent marks:aj)(l:List eA)(hl:l≠[])(hl2:l.length≤1000)(of:eA→Int)(cp cq cr:Nat)(w:ar)(v:aj)(hv:Reads w v l.length (rowOf l))
  (Gx:∀a∈l,∀W,az w.heap.size w W→bm aq 133 #[aO a.cells,pv cp 0,pv cq 0,pv cr 0] W fun e W'=>e=aF (ah ag (of a))∧az W.heap.size W W') :
  bm aq 124 #[aO (b.open men sent marks v),.func (.func 133) #[] #[pv cp 0,pv cq 0,pv cr 0]] w fun e w'=>∃gn cn,e=aF (ae (some ⟨gn,0,none⟩) (gI of l).length cn)∧w'.ownsRow w.heap.size 3 1 (ae (some ⟨gn,0,none⟩) (gI of l).length cn) (gI of l).length ((gI of l).map (aD ag))∧az w.heap.size w w':=by
 obtain⟨i0,hi,hz0,hz1,hz2⟩:=info_parts info3
 obtain⟨g,off,cap,rfl,hn,hg,hc⟩:∃g off cap,v=ae (some ⟨g,off,none⟩) l.length cap∧(l.length≤4294967296∧l.length≤cap)∧g<w.heap.size∧∀j u,(rowOf l)[j]?=some u→w.cell? ⟨g,off+j,none⟩=some u:=by
  rcases hv with⟨_,h,_⟩|h
  ·exact(hl (aY h)).elim
  ·exact h
 have kg:0<l.length:=cX.2 hl;have HC:=ai hc;have Um:=ai Gx;clear hc Gx hv hl;generalize hL:l.length=L at *;have HL:=ai hL;clear hL;have b1:az w.heap.size w (w.alloc (au (b.open men sent marks (ae (some ⟨g,off,none⟩) L cap)) 122)):=(aw _ _).alloc (ax _) _;have yg:=ai b1;clear b1
 go_enter Tryz.func124,Tryz.ntmps124
 go_wp2
 go_loopw [5,7,11] (fun out _ i wr=>∃k:Nat,k≤L∧i=ah ag k∧wr.ownsRow (w.heap.size+1) 3 1 out k ((l.take k).map fun a=>aD ag (of a))∧az (w.heap.size+1) (w.alloc (au (b.open men sent marks (ae (some ⟨g,off,none⟩) L cap)) 122)) wr) (fun _ _ i _=>L-(intOf i).toNat)
 case atStart=>exact⟨0,by omega,rfl,by simpa using dM _ _ _ _,aw _ _⟩
 case round=>
  obtain⟨k,hk,rfl,hown,eh⟩:=hrel;have hsz:=eh.size;simp at hsz;have uo:az w.heap.size w wr:=yg.out.trans (eh.mono (by omega))
  by_cases hlt:k<L
  ·have kh:k<l.length:=by rw[HL.out];exact hlt
   obtain⟨hc0,hc1,hc2,hc3⟩:=Reads.cell (w:=wr) (cap:=cap) (n:=L) (fun j u hj=>(uo.cell (p:=⟨g,off+j,none⟩) hg).trans (HC.out j u hj)) k kh;have sX:(l.take (k+1)).map (fun a=>aD ag (of a))=(l.take k).map (fun a=>aD ag (of a))++[ah ag (of l[k])]:=by rw[bN kh,fD];rfl
   have hcl:=fun W hb=>Um.out l[k] (cu kh) W hb;have HT:=ai sX;have HK:=ai hcl;clear sX hcl;generalize l[k]=a at *;have UL:=ai uo;clear uo
   go_wp2_with (first
    |(go_at_call 133;refine(HK.out _ (UL.out.alloc (by omega) _)).mono ?_;rintro e w2 ⟨rfl,hb2⟩
      have hs2:=hb2.size;simp only[dU] at hs2;have hown2:w2.ownsRow (w.heap.size+1) 3 1 u5 k ((l.take k).map fun a=>aD ag (of a)):=fY (hown.alloc _) fun g hg=>hb2.block g (by have:=(hown.lt g hg).2;simp;omega);have oX:=ai hb2
      have WM:Hid (∀(j:Nat) (u:aj),([ah ag (of a)]:List aj)[j]?=some u→(w2.alloc (au #[ah ag (of a)] 3)).cell? ((⟨w2.heap.size,0,none⟩:Addr).add j)=some u):=ai fun j u hj=>by
       match j,hj with
       |0,hj=>simp at hj;subst hj;simp[Addr.add]
      clear hb2)
    |(at_builtin;refine wpList_append_own _ rfl _ _ 25 rfl (w.heap.size+1) 3 i0 (ah ag 0) 1 8 fC hi hz0 hz1 hz2 rfl (by decide) _ _ _ rfl (hown2.alloc _) ⟨w2.heap.size,0,none⟩ 1 1 [ah ag (of a)] rfl rfl WM.out (by simp[cj]) (by unfold maxLen;omega) (by omega) (by simp;omega) ?_;intro v' w3 Ko hgrow hnil))
   go_roundw
   case rel=>
    have h1:az (w.heap.size+1) wr w2:=((aw _ wr).alloc (by omega) _).trans (oX.out.mono (by simp;omega));exact⟨k+1,by omega,by simp,by rw[HT.out];exact Ko,eh.trans (vP (by omega) hown2 h1 hgrow)⟩
   case measure=>simp[intOf];omega
  ·obtain rfl:k=L:=by omega
   have MI:l.take k=l:=cQ (by rw[HL.out];exact ax _);rw[MI,show(fun a=>aD ag (of a))=(aD ag ∘ of) from rfl,←List.map_map] at hown;have Xq:(l.map of).length=k:=by rw[dI];exact HL.out
   obtain⟨k',rfl⟩:∃k',k=k'+1:=⟨k-1,by omega⟩
   obtain⟨go,co,rfl⟩:=ownsRow_succ hown;rw[←Xq] at hown;have HO:=ai hown;have UL:=ai uo;have HLM:=ai Xq;have HN:=ai eh;clear hown uo MI eh Xq;have MK:=JG HO.out (by rw[HLM.out];omega) (by omega);rw[HLM.out] at MK;have HSO:=ai MK;clear MK
   go_wp2_with (first
    |(go_at_call 172;refine HSO.out.mono ?_;rintro e w2 ⟨rfl,ho2,hb2⟩
      have hs2:(sorted (l.map of)).length=k'+1:=(wU _).trans HLM.out;rw[←hs2] at ho2;have yf:=BP ho2 (by omega);rw[hs2] at yf;have HCP:=ai yf;have oX:=ai hb2
      clear yf ho2 hb2 hs2)
    |(go_at_call 173;refine HCP.out.mono ?_;rintro e w3 ⟨rfl,ho3,hb3⟩;have HO3:=ai ho3;have o9:=ai hb3;clear ho3 hb3))
   go_ret
   refine⟨go,co,rfl,ownsRow_base HO3.out (by omega),UL.out.trans ((oX.out.mono (by omega)).trans (o9.out.mono (by omega)))⟩
theorem T6(b:BB)(hb:b.Ok)(men sent marks:aj)(pl:List Int)(hp:js b pl)(mi:Nat)(h1:1≤mi)(h2:(mi:Int)≤b.minutes)(cp cq:Nat)(lv:aj)(w:ar)(yf:w.heap[cp]?=some (au #[lv] 25 (0,0)))(VP:w.heap[cq]?=some (au #[ah ag mi] 3 (0,0)))(hl:Reads w lv pl.length (pl.map (aD ag))) :
  bm aq 131 #[aO (b.cells men sent marks),pv cp 0,pv cq 0] w fun e w'=>e=aF (ah ag 0)∧az w.heap.size w w':=by
 have b1:az w.heap.size w (w.alloc (au (b.cells men sent marks) 119)):=(aw _ _).alloc (ax _) _;have lp:=(ak.1 yf).1;have lq:=(ak.1 VP).1;have x1:=aH ((b1.block _ lp).trans yf) 0 _ rfl;have XT:=ai (sS b hb men sent marks lv pl hp _ (hl.below b1));have yg:=ai b1;have HQ:=ai VP;have HK:=ai (ay w (au (b.cells men sent marks) 119));clear yf VP hl hp b1
 go_enter Tryz.func131,Tryz.ntmps131
 go_wp2_with (first
  |(go_at_call 113;refine XT.out.mono ?_;clear XT;rintro e w1 ⟨rfl,hb1⟩
    have oX:=ai hb1;obtain⟨y0,y1,y2,y3,y4,y5,y6,y7,y8,y9,LR,NS,NQ,NP,Js⟩:=bM ((hb1.block w.heap.size (by simp)).trans HK.out);have x2:=aH ((hb1.block _ (by simp;omega)).trans ((yg.out.block _ lq).trans HQ.out)) 0 _ rfl
    clear hb1)
  |(go_at_call 132;refine(mZ b men sent marks mi (by omega) h2 _).mono ?_;rintro e w2 ⟨rfl,hb2⟩;have o9:=ai hb2;clear hb2))
 go_ret
 have h1:=yg.out.trans (oX.out.mono yg.out.size);exact⟨rfl,h1.trans (o9.out.mono h1.size)⟩
theorem T4(b:BB)(hb:b.Ok)(men sent marks v:aj)(pl:List Int)(hp:js b pl)(mi:Nat)(h1:1≤mi)(h2:(mi:Int)≤b.minutes)(a:eA)(ha:a.Ok)(ob cp cq:Nat)(lv:aj)(w:ar)(r8:w.heap[ob]?=some (au (b.open men sent marks v) 122 (0,0)))
  (yf:w.heap[cp]?=some (au #[lv] 25 (0,0))) (VP:w.heap[cq]?=some (au #[ah ag mi] 3 (0,0))) (hl:Reads w lv pl.length (pl.map (aD ag))) :
  bm aq 133 #[aO a.cells,pv ob 0,pv cp 0,pv cq 0] w fun e w'=>e=aF (ah ag (b.B5 (b.cM+a.used) (bG pl) mi))∧az w.heap.size w w':=by
 have xq:=hb.minutes;have oW:∀s∈pl,1≤s∧s≤8:=fun s h=>by have:=hp.mem s h;omega
 have Qh:bG pl<512:=mS pl oW;have b1:az w.heap.size w (w.alloc (au a.cells 134)):=(aw _ _).alloc (ax _) _;have hk:=ay w (au a.cells 134);have lo:=(ak.1 r8).1;have lp:=(ak.1 yf).1;have lq:=(ak.1 VP).1
 have hS:∀w',az (w.alloc (au a.cells 134)).heap.size (w.alloc (au a.cells 134)) w'→w'.heap[ob]?=some (au (b.open men sent marks v) 122 (0,0))∧w'.heap[w.heap.size]?=some (au a.cells 134 (0,0))∧w'.heap[cp]?=some (au #[lv] 25 (0,0))∧w'.heap[cq]?=some (au #[ah ag mi] 3 (0,0))∧Reads w' lv pl.length (pl.map (aD ag))∧az w.heap.size w w':=fun w' hb'=>by
  have hs:(w.alloc (au a.cells 134)).heap.size=w.heap.size+1:=by simp
  exact⟨(hb'.block _ (by omega)).trans ((b1.block _ lo).trans r8),(hb'.block _ (by omega)).trans hk,(hb'.block _ (by omega)).trans ((b1.block _ lp).trans yf),(hb'.block _ (by omega)).trans ((b1.block _ lq).trans VP),(hl.below b1).below hb',b1.trans (hb'.mono (by omega))⟩
 have HS:=ai hS;clear hS r8 yf VP hl b1 hk;have hw1:IntKind.i64.wrap ((mi:Int)-1)=((mi-1:Nat):Int):=by rw[eX _ (by omega) (by omega)];omega
 have hlt:((mi-1:Nat):Int)<(b.minutes.toNat:Int):=by omega
 have hnn:(0:Int)≤((mi-1:Nat):Int):=by omega
 have Y3:((b.mR (b.cM+a.used) (bG pl) b.minutes.toNat).map (aD ag))[mi-1]?=some (ah ag (b.B5 (b.cM+a.used) (bG pl) mi)):=by
  have h3:mi-1<b.minutes.toNat:=by omega
  have h4:mi-1+1=mi:=by omega
  simp[BB.mR,h3,h4]
 go_enter Tryz.func133,Tryz.ntmps133
 go_wp2
 refine bQ (by kernel_rfl) [
 pV (pv ob 0),
  pV (aO (b.cells men sent marks)),
  pV (aO a.cells),
  pV (lv),
  pV (ah ag (bG pl)),
  fun v ds w9=>∃g cap,∃cur:Array aj,v=ae (some ⟨g,0,none⟩) b.minutes.toNat cap∧b.minutes.toNat≤cap∧w9.heap[g]?=some (au cur 3 (0,0))∧∀(j:Nat) (u:aj),((b.mR (b.cM+a.used) (bG pl) b.minutes.toNat).map (aD ag))[j]?=some u→cur[j]?=some u,
  pV (ah ag mi),
  pV (ah ag ((mi-1:Nat):Int)),
  fun v ds w9=>∃g,v=pv g (mi-1)∧w9.cell? ⟨g,mi-1,none⟩=some (ah ag (b.B5 (b.cM+a.used) (bG pl) mi))∧g<w9.heap.size,
  pV (ah ag (b.B5 (b.cM+a.used) (bG pl) mi)),
  pV (ah ag (b.B5 (b.cM+a.used) (bG pl) mi))]
  (fun w9=>az (w.alloc (au a.cells 134)).heap.size (w.alloc (au a.cells 134)) w9) [(1,pv ob 0),(2,pv cp 0),(3,pv cq 0),(4,pv w.heap.size 0)] (by kernel_rfl) ?rst (fun w1 w2 h hb=>h.trans (hb.mono h.size)) ((aw _ _).drew) ⟨rfl,rfl,rfl,rfl,trivial⟩ ?reach ?rfin
 case rst=>
  refine⟨sV,sV,sV,sV,sV,?_,sV,sV,?_,sV,sV,trivial⟩
  ·rintro v ds w1 w2 hS ⟨g,cap,cur,h1,h2,h3,h4⟩ hb;exact⟨g,cap,cur,h1,h2,(hb.block g (ak.1 h3).1).trans h3,h4⟩
  ·rintro v ds w1 w2 hS ⟨g,h1,h2,h3⟩ hb;exact⟨g,h1,(hb.cell (p:=⟨g,mi-1,none⟩) h3).trans h2,Nat.lt_of_lt_of_le h3 hb.size⟩
 case reach=>
  refine⟨?_,?_,?_,?_,?_,?_,?_,?_,?_,?_,?_,trivial⟩<;>rintro ev w1 hS hc hg hf ⟨b1,b2,b3,b4,-⟩ hd
  ·clear hd;exact tV
  ·have d0:ev (aK 6)=_:=hd.1 rfl;clear hd;have q:=HS.out w1 hS;obtain⟨x0,x1,x2,x3,x4,x5,x6,x7,x8,x9,nS,nR,oO,n4,oK,x15⟩:=jo q.1;exact tV
  ·clear hd;have q:=HS.out w1 hS;obtain⟨y0,y1,y2,y3⟩:=pQ q.2.1;exact tV
  ·clear hd;have q:=HS.out w1 hS;have y:=aH q.2.2.1 0 _ rfl;exact tV
  ·have d3:ev (aK 9)=_:=hd.1 rfl;clear hd;have q:=HS.out w1 hS;refine yq (args:=#[lv]) (kV pl oW lv _ q.2.2.2.2.1) ?_ fun _=>rfl;go_simp
  ·have d1:ev (aK 7)=_:=hd.1 rfl;have d2:ev (aK 8)=_:=hd.2.1 rfl;have d4:ev (aK 10)=_:=hd.2.2.1 rfl;clear hd;refine Lag.Yields.call (f:=114) (args:=#[aO (b.cells men sent marks),aO a.cells,ah ag (bG pl)]) ?_ (Du b hb men sent marks a ha (bG pl) Qh _) ?_
   ·go_simp
   ·rintro e w2 ⟨g,cap,cur,rfl,h1,h2,h3,h4,h5,h6⟩;exact⟨_,rfl,⟨g,cap,cur,rfl,h3,h4,h5⟩,.inl h6⟩
  ·clear hd;have q:=HS.out w1 hS;have y:=aH q.2.2.2.1 0 _ rfl;exact tV
  ·have d6:ev (aK 12)=_:=hd.1 rfl;clear hd;exact tV
  ·have d7:ev (aK 13)=_:=hd.2.1 rfl;obtain⟨g,cap,cur,e11,Kz,hgb,qh⟩:=hd.1 rfl;clear hd;replace e11:ev (aK 11)=_:=e11;refine yv (v:=pv g (mi-1)) ?_ (⟨g,rfl,aH hgb _ _ (qh _ _ Y3),(ak.1 hgb).1⟩);go_simp;intro hx;exfalso;omega
  ·obtain⟨g,Fb,hcl,_⟩:=hd.1 rfl;clear hd;replace Fb:ev (aK 14)=_:=Fb;exact tV
  ·have d9:ev (aK 15)=_:=hd.1 rfl;clear hd;refine yv (v:=ev (aK 15)) ?_ (d9);rfl
 case rfin=>
  intro a2 w2 hR;have hS:=hR.s;have M9:a2.tmps.getD 5 af=_:=hR.val 10 (by decide);have Qq:a2=⟨#[a2.tmps.getD 0 af,a2.tmps.getD 1 af,a2.tmps.getD 2 af,a2.tmps.getD 3 af,a2.tmps.getD 4 af,a2.tmps.getD 5 af,a2.tmps.getD 6 af,a2.tmps.getD 7 af,a2.tmps.getD 8 af,a2.tmps.getD 9 af,a2.tmps.getD 10 af,a2.tmps.getD 11 af,a2.tmps.getD 12 af,a2.tmps.getD 13 af,a2.tmps.getD 14 af,a2.tmps.getD 15 af],[]⟩:=hR.act;clear hR;rw[M9] at Qq;clear M9;generalize a2.tmps.getD 0 af=s0,a2.tmps.getD 1 af=s1,a2.tmps.getD 2 af=s2,a2.tmps.getD 3 af=s3,a2.tmps.getD 4 af=s4,a2.tmps.getD 6 af=s6,a2.tmps.getD 7 af=s7,a2.tmps.getD 8 af=s8,a2.tmps.getD 9 af=s9,a2.tmps.getD 10 af=s10,a2.tmps.getD 11 af=s11,a2.tmps.getD 12 af=s12,a2.tmps.getD 13 af=s13,a2.tmps.getD 14 af=s14,a2.tmps.getD 15 af=s15 at Qq;have HF:=ai (HS.out w2 hS).2.2.2.2.2;clear hS;subst Qq;go_wp2
  go_ret
  exact⟨rfl,HF.out⟩
end Go.Proofs.YtffladgmkiimjaaGreatDoor
