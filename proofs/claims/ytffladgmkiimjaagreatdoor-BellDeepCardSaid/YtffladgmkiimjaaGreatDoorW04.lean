/- DERIVED: THE SHELF's CONTRACTS AT THIS DUMP, IN PLAIN WORDS (tools/lay .. -/
import Derived.Ground.NamesProg
import Derived.Ground.Names2Prog
import Derived.Shelf.Slices.CompactI
import Derived.Shelf.Slices.Clone
import Derived.Shelf.Sort.Plain
import Derived.Test.YtffladgmkiimjaaGreatDoorProg
import Derived.Test.YtffladgmkiimjaaGreatDoorW01
import Derived.Sort.OwnSortedInts
import Derived.Lib.OwnBridge
import Derived.Test.YtffladgmkiimjaaGreatDoorW03
set_option linter.all false
set_option maxHeartbeats 100000000
set_option maxRecDepth 1000000
open Array renaming getElem?_eq_some_iff → aj
open Go renaming undef → af,Value → ak,World → ar,Calls → bp
open Go.Ending renaming returned → aG
open Go.IntKind renaming i64 → ag
open Go.Lib renaming hid → ai
open Go.Obj renaming cells → au
open Go.Operand renaming tmp → aB
open Go.Proofs.Tryz renaming prog → aq,underlying3 → iJ,underlying25 → iR
open Go.RowKit renaming Below → aC
open Go.RowKit.Below renaming refl → aw
open Go.Value renaming int → aM,agg → aQ,slice → ae,int → ah,oneCell' → cy
open Go.World renaming alloc_heap_new → ax,ownsRow_nil → eO,size_alloc → ey
open List renaming eq_nil_of_length_eq_zero → aZ,take_succ_eq_append_getElem → cF,length_pos_iff → cP,getElem_mem → cz,take_of_length_le → dg,map_append → gi,length_map → iH,length_mergeSort → xe
open Nat renaming le_refl → ay
namespace Go.Proofs
open Go.Shelf
def Tryz.JP:Go.Shelf.Ren:=⟨fun|189=>172|125=>181|257=>180|128=>194|129=>195|294=>185|295=>186|296=>187|297=>188|298=>189|299=>190|216=>191|300=>192|301=>193|328=>196|329=>197|330=>198|331=>199|332=>200|215=>179|343=>201|n=>n,fun|28=>25|3=>3|46=>192|0=>0|51=>204|53=>206|4=>4|183=>197|182=>196|131=>72|5=>5|9=>9|218=>207|222=>211|228=>213|229=>214|n=>n,fun|n=>n⟩
theorem Tryz.TQ:Go.Proofs.Lays.n189 aq Tryz.JP:={
 mixed:=by kernel_rfl
 f125:=Tryz.func181.trans (congrArg some (by kernel_rfl))
 f128:=Tryz.func194.trans (congrArg some (by kernel_rfl))
 f129:=Tryz.func195.trans (congrArg some (by kernel_rfl))
 f189:=Tryz.func172.trans (congrArg some (by kernel_rfl))
 f215:=Tryz.func179.trans (congrArg some (by kernel_rfl))
 f216:=Tryz.func191.trans (congrArg some (by kernel_rfl))
 f257:=Tryz.func180.trans (congrArg some (by kernel_rfl))
 f294:=Tryz.func185.trans (congrArg some (by kernel_rfl))
 f295:=Tryz.func186.trans (congrArg some (by kernel_rfl))
 f296:=Tryz.func187.trans (congrArg some (by kernel_rfl))
 f297:=Tryz.func188.trans (congrArg some (by kernel_rfl))
 f298:=Tryz.func189.trans (congrArg some (by kernel_rfl))
 f299:=Tryz.func190.trans (congrArg some (by kernel_rfl))
 f300:=Tryz.func192.trans (congrArg some (by kernel_rfl))
 f301:=Tryz.func193.trans (congrArg some (by kernel_rfl))
 f328:=Tryz.func196.trans (congrArg some (by kernel_rfl))
 f329:=Tryz.func197.trans (congrArg some (by kernel_rfl))
 f330:=Tryz.func198.trans (congrArg some (by kernel_rfl))
 f331:=Tryz.func199.trans (congrArg some (by kernel_rfl))
 f332:=Tryz.func200.trans (congrArg some (by kernel_rfl))
 f343:=Tryz.func201.trans (congrArg some (by kernel_rfl))
 t0:=Tryz.underlying0
 a0:=Tryz.isAgg0
 z0:=Tryz.sizeOf0
 v0:=Tryz.zeroValue0
 t3:=iJ
 a3:=Tryz.isAgg3
 z3:=Tryz.sizeOf3
 v3:=Tryz.zeroValue3
 t4:=Tryz.underlying4
 a4:=Tryz.isAgg4
 z4:=Tryz.sizeOf4
 v4:=Tryz.zeroValue4
 t5:=Tryz.underlying5
 a5:=Tryz.isAgg5
 z5:=Tryz.sizeOf5
 v5:=Tryz.zeroValue5
 t9:=Tryz.underlying9
 a9:=Tryz.isAgg9
 z9:=Tryz.sizeOf9
 v9:=Tryz.zeroValue9
 t28:=iR
 a28:=Tryz.isAgg25
 z28:=Tryz.sizeOf25
 v28:=Tryz.zeroValue25
 t46:=Tryz.underlying192
 a46:=Tryz.isAgg192
 z46:=Tryz.sizeOf192
 v46:=Tryz.zeroValue192
 t51:=Tryz.underlying204
 a51:=Tryz.isAgg204
 z51:=Tryz.sizeOf204
 v51:=Tryz.zeroValue204
 t53:=Tryz.underlying206
 a53:=Tryz.isAgg206
 z53:=Tryz.sizeOf206
 v53:=Tryz.zeroValue206
 t131:=Tryz.underlying72
 a131:=Tryz.isAgg72
 z131:=Tryz.sizeOf72
 v131:=Tryz.zeroValue72
 t182:=Tryz.underlying196
 a182:=Tryz.isAgg196
 z182:=Tryz.sizeOf196
 v182:=Tryz.zeroValue196
 t183:=Tryz.underlying197
 a183:=Tryz.isAgg197
 z183:=Tryz.sizeOf197
 v183:=Tryz.zeroValue197
 t218:=Tryz.underlying207
 a218:=Tryz.isAgg207
 z218:=Tryz.sizeOf207
 v218:=Tryz.zeroValue207
 t222:=Tryz.underlying211
 a222:=Tryz.isAgg211
 z222:=Tryz.sizeOf211
 v222:=Tryz.zeroValue211
 t228:=Tryz.underlying213
 a228:=Tryz.isAgg213
 z228:=Tryz.sizeOf213
 v228:=Tryz.zeroValue213
 t229:=Tryz.underlying214
 a229:=Tryz.isAgg214
 z229:=Tryz.sizeOf214
 v229:=Tryz.zeroValue214 }
def Tryz.LM:Go.Shelf.Ren:=⟨fun|20=>173|n=>n,fun|22=>25|3=>3|4=>4|0=>0|n=>n,fun|n=>n⟩
theorem Tryz.WB:Go.Proofs.Lays2.n20 aq Tryz.LM:={
 mixed:=by kernel_rfl
 f20:=Tryz.func173.trans (congrArg some (by kernel_rfl))
 t0:=Tryz.underlying0
 a0:=Tryz.isAgg0
 z0:=Tryz.sizeOf0
 v0:=Tryz.zeroValue0
 t3:=iJ
 a3:=Tryz.isAgg3
 z3:=Tryz.sizeOf3
 v3:=Tryz.zeroValue3
 t4:=Tryz.underlying4
 a4:=Tryz.isAgg4
 z4:=Tryz.sizeOf4
 v4:=Tryz.zeroValue4
 t22:=iR
 a22:=Tryz.isAgg25
 z22:=Tryz.sizeOf25
 v22:=Tryz.zeroValue25
 i3:=by kernel_rfl }
end Go.Proofs
namespace Go.Proofs.YtffladgmkiimjaaGreatDoor
open Go.RowKit Go.Lag Go.Sort
def sorted(zs:List Int):List Int:=zs.mergeSort fun x y=>decide (x≤y)
theorem Jl{w:ar}{base g cap:Nat}{zs:List Int}(h:w.ownsRow base 3 1 (ae (some ⟨g,0,none⟩) zs.length cap) zs.length (zs.map (aM ag)))(hlen:zs.length<4611686018427387904)(hb0:base≤w.heap.size) :
  bp aq 172 #[ae (some ⟨g,0,none⟩) zs.length cap] w fun e w'=>e=aG (.tuple #[])∧w'.ownsRow base 3 1 (ae (some ⟨g,0,none⟩) zs.length cap) zs.length ((sorted zs).map (aM ag))∧aC base w w':=by
 rcases h.2 with⟨h0,_⟩|⟨g',cap',cur,hv,hbase,hb,h1,h2,h3,h4⟩
 ·cases h0
 cases hv;have hl2:(sorted zs).length=zs.length:=xe zs;have hH:Holds (aM ag) w g 0 zs.toArray:=holds_of_blockI hb (by rw[Nat.mul_one] at h4;exact h4);have Bv:g<w.heap.size:=(aj.1 hb).1;refine(show bp aq 172 #[ae (some ⟨g,0,none⟩) zs.length cap] w _ from Any.slices_Sort_int Tryz.TQ g 0 cap zs w hH Bv hlen).mono ?_;rintro e w' ⟨rfl,n,os,rfl⟩;exact⟨rfl,ownsRow_sortedI (ts:=sorted zs) hl2 hbase hb h1 h2 h3,(aw _ _).grown (grownBy_sortedI _) hb0 fun j hj=>by cases hj;exact hbase⟩
theorem BF{w:ar}{base g cap:Nat}{zs:List Int}(h:w.ownsRow base 3 1 (ae (some ⟨g,0,none⟩) zs.length cap) zs.length (zs.map (aM ag)))(hlen:zs.length≤9223372036854775807) :
  bp aq 173 #[ae (some ⟨g,0,none⟩) zs.length cap] w fun e w'=>e=aG (ae (some ⟨g,0,none⟩) (Lib.compact zs).length cap)∧w'.ownsRow base 3 1 (ae (some ⟨g,0,none⟩) (Lib.compact zs).length cap) (Lib.compact zs).length ((Lib.compact zs).map (aM ag))∧aC base w w':=by
 have h':=h;rcases h.2 with⟨h0,_⟩|⟨g',cap',cur,hv,hbase,hb,h1,h2,h3,h4⟩
 ·cases h0
 cases hv;have hle:=Lib.compact_length_le zs;have hH:Holds (aM ag) w g 0 zs.toArray:=holds_of_blockI hb (by rw[Nat.mul_one] at h4;exact h4);refine(show bp aq 173 #[ae (some ⟨g,0,none⟩) zs.length cap] w _ from Any.slices_Compact_int Tryz.WB g 0 cap zs w hH hlen h1).mono ?_;rintro e w' ⟨rfl,q,rfl⟩;have hc:=Lib.ownsRow_putRow (q:=q) (k:=(Lib.compact zs).length) (ys:=Lib.compact zs++List.replicate (zs.length-(Lib.compact zs).length) 0) h' (by simp;omega) (by omega);rw[List.take_left] at hc;exact⟨rfl,hc,Lib.below_putRow (aw _ _) hbase⟩
end Go.Proofs.YtffladgmkiimjaaGreatDoor
namespace Go.Proofs.YtffladgmkiimjaaGreatDoor
open Go.RowKit Go.Lag
def ig(of:eV→Int)(l:List eV):List Int:=Lib.compact (sorted (l.map of))
theorem LH(b:BB)(men sent marks:ak)(l:List eV)(hl:l≠[])(hl2:l.length≤1000)(of:eV→Int)(cp:Nat)(w:ar)(v:ak)(hv:Reads w v l.length (rowOf l))
  (Gh:∀a∈l,∀W,aC w.heap.size w W→bp aq 128 #[aQ a.cells,pv cp 0] W fun e W'=>e=aG (ah ag (of a))∧aC W.heap.size W W') :
  bp aq 124 #[aQ (b.open men sent marks v),.func (.func 128) #[] #[pv cp 0]] w fun e w'=>∃gn cn,e=aG (ae (some ⟨gn,0,none⟩) (ig of l).length cn)∧w'.ownsRow w.heap.size 3 1 (ae (some ⟨gn,0,none⟩) (ig of l).length cn) (ig of l).length ((ig of l).map (aM ag))∧aC w.heap.size w w':=by
 obtain⟨i0,hi,hz0,hz1,hz2⟩:=info_parts info3
 obtain⟨g,off,cap,rfl,hn,hg,hc⟩:∃g off cap,v=ae (some ⟨g,off,none⟩) l.length cap∧(l.length≤4294967296∧l.length≤cap)∧g<w.heap.size∧∀j u,(rowOf l)[j]?=some u→w.cell? ⟨g,off+j,none⟩=some u:=by
  rcases hv with⟨_,h,_⟩|h
  ·exact(hl (aZ h)).elim
  ·exact h
 have kG:0<l.length:=cP.2 hl;have HC:=ai hc;have SU:=ai Gh;clear hc Gh hv hl;generalize hL:l.length=L at *;have HL:=ai hL;clear hL;have b1:aC w.heap.size w (w.alloc (au (b.open men sent marks (ae (some ⟨g,off,none⟩) L cap)) 122)):=(aw _ _).alloc (ay _) _;have yb:=ai b1;clear b1
 go_enter Tryz.func124,Tryz.ntmps124
 go_wp2
 go_loopw [5,7,11] (fun out _ i wr=>∃k:Nat,k≤L∧i=ah ag k∧wr.ownsRow (w.heap.size+1) 3 1 out k ((l.take k).map fun a=>aM ag (of a))∧aC (w.heap.size+1) (w.alloc (au (b.open men sent marks (ae (some ⟨g,off,none⟩) L cap)) 122)) wr) (fun _ _ i _=>L-(intOf i).toNat)
 case atStart=>exact⟨0,by omega,rfl,by simpa using eO _ _ _ _,aw _ _⟩
 case round=>
  obtain⟨k,hk,rfl,hown,eA⟩:=hrel;have hsz:=eA.size;simp at hsz;have uC:aC w.heap.size w wr:=yb.out.trans (eA.mono (by omega))
  by_cases hlt:k<L
  ·have kH:k<l.length:=by rw[HL.out];exact hlt
   obtain⟨hc0,hc1,hc2,hc3⟩:=Reads.cell (w:=wr) (cap:=cap) (n:=L) (fun j u hj=>(uC.cell (p:=⟨g,off+j,none⟩) hg).trans (HC.out j u hj)) k kH;have tR:(l.take (k+1)).map (fun a=>aM ag (of a))=(l.take k).map (fun a=>aM ag (of a))++[ah ag (of l[k])]:=by rw[cF kH,gi];rfl
   have hcl:=fun W hb=>SU.out l[k] (cz kH) W hb;have HT:=ai tR;have HK:=ai hcl;clear tR hcl;generalize l[k]=a at *;have Ti:=ai uC;clear uC
   go_wp2_with (first
    |(go_at_call 128;refine(HK.out _ (Ti.out.alloc (by omega) _)).mono ?_;rintro e w2 ⟨rfl,hb2⟩
      have hs2:=hb2.size;simp only[ey] at hs2;have hown2:w2.ownsRow (w.heap.size+1) 3 1 u5 k ((l.take k).map fun a=>aM ag (of a)):=ie (hown.alloc _) fun g hg=>hb2.block g (by have:=(hown.lt g hg).2;simp;omega);have px:=ai hb2
      have UU:Hid (∀(j:Nat) (u:ak),([ah ag (of a)]:List ak)[j]?=some u→(w2.alloc (au #[ah ag (of a)] 3)).cell? ((⟨w2.heap.size,0,none⟩:Addr).add j)=some u):=ai fun j u hj=>by
       match j,hj with
       |0,hj=>simp at hj;subst hj;simp[Addr.add]
      clear hb2)
    |(at_builtin;refine wpList_append_own _ rfl _ _ 25 rfl (w.heap.size+1) 3 i0 (ah ag 0) 1 8 iR hi hz0 hz1 hz2 rfl (by decide) _ _ _ rfl (hown2.alloc _) ⟨w2.heap.size,0,none⟩ 1 1 [ah ag (of a)] rfl rfl UU.out (by simp[cy]) (by unfold maxLen;omega) (by omega) (by simp;omega) ?_;intro v' w3 JX hgrow hnil))
   go_roundw
   case rel=>
    have h1:aC (w.heap.size+1) wr w2:=((aw _ wr).alloc (by omega) _).trans (px.out.mono (by simp;omega));exact⟨k+1,by omega,by simp,by rw[HT.out];exact JX,eA.trans (td (by omega) hown2 h1 hgrow)⟩
   case measure=>simp[intOf];omega
  ·obtain rfl:k=L:=by omega
   have LR:l.take k=l:=dg (by rw[HL.out];exact ay _);rw[LR,show(fun a=>aM ag (of a))=(aM ag ∘ of) from rfl,←List.map_map] at hown;have Vn:(l.map of).length=k:=by rw[iH];exact HL.out
   obtain⟨k',rfl⟩:∃k',k=k'+1:=⟨k-1,by omega⟩
   obtain⟨go,co,rfl⟩:=ownsRow_succ hown;rw[←Vn] at hown;have HO:=ai hown;have Ti:=ai uC;have Yp:=ai Vn;have HN:=ai eA;clear hown uC LR eA Vn;have LU:=Jl HO.out (by rw[Yp.out];omega) (by omega);rw[Yp.out] at LU;have HSO:=ai LU;clear LU
   go_wp2_with (first
    |(go_at_call 172;refine HSO.out.mono ?_;rintro e w2 ⟨rfl,ho2,hb2⟩
      have hs2:(sorted (l.map of)).length=k'+1:=(xe _).trans Yp.out;rw[←hs2] at ho2;have xZ:=BF ho2 (by omega);rw[hs2] at xZ;have HCP:=ai xZ;have px:=ai hb2
      clear xZ ho2 hb2 hs2)
    |(go_at_call 173;refine HCP.out.mono ?_;rintro e w3 ⟨rfl,LW,hb3⟩;have HO3:=ai LW;have pI:=ai hb3;clear LW hb3))
   go_ret
   refine⟨go,co,rfl,ownsRow_base HO3.out (by omega),Ti.out.trans ((px.out.mono (by omega)).trans (pI.out.mono (by omega)))⟩
def eV.get(a:eV)(l6:Nat):Int:=
 match l6 with
 |0=>a.m0
 |1=>a.m1
 |_=>a.m2
theorem OQ(b:BB)(men sent marks:ak)(n:Nat)(L:Nat)(p:Option Addr)(cap:Nat)(hm:men=ae p L cap)(h:n<L)(hL:L≤3)(w:ar):bp aq 127 #[aQ (b.cells men sent marks),ah ag n] w fun e w'=>e=aG (.bool true)∧aC w.heap.size w w':=by
 subst hm;have z:IntKind.i64.wrap ((L:Int)-1)=(L:Int)-1:=fT _ (by omega) (by omega)
 go_enter Tryz.func127,Tryz.ntmps127
 go_wp2_with (go_at_call 138;refine(jk _ _ _ (by omega) (by omega) _).mono ?_;rintro e w' ⟨rfl,rfl⟩)
 go_ret
 exact⟨rfl,(aw _ _).alloc (ay _) _⟩
theorem UE(b:BB)(men sent marks:ak)(n:Nat)(L:Nat)(p:Option Addr)(cap:Nat)(hm:men=ae p L cap)(h:n<L)(hL:L≤3)(cp:Nat)(w:ar)(hcl:cp<w.heap.size)(hc:w.cell? ⟨cp,0,none⟩=some (ah ag n)) :
  bp aq 126 #[aQ (b.cells men sent marks),pv cp 0] w fun e w'=>e=aG (ah ag 0)∧aC w.heap.size w w':=by
 have b1:aC w.heap.size w (w.alloc (au (b.cells men sent marks) 119)):=(aw _ _).alloc (ay _) _;have hc1:=(b1.cell (p:=⟨cp,0,none⟩) hcl).trans hc;have HI:=ai (OQ b men sent marks n L p cap hm h hL);have yb:=ai b1;clear b1 hc hm
 go_enter Tryz.func126,Tryz.ntmps126
 go_wp2_with (go_at_call 127;refine(HI.out _).mono ?_;rintro e w' ⟨rfl,hb⟩;have HB:=ai hb;clear hb)
 go_ret
 exact⟨rfl,yb.out.trans (HB.out.mono yb.out.size)⟩
theorem UD(a:eV)(n:Nat)(h:n<3)(cp:Nat)(w:ar)(hcl:cp<w.heap.size)(hc:w.cell? ⟨cp,0,none⟩=some (ah ag n)) :
  bp aq 128 #[aQ a.cells,pv cp 0] w fun e w'=>e=aG (ah ag (a.get n))∧aC w.heap.size w w':=by
 have b1:aC w.heap.size w (w.alloc (au a.cells 134)):=(aw _ _).alloc (ay _) _;have hc1:=(b1.cell (p:=⟨cp,0,none⟩) hcl).trans hc;have hb:=ax w (au a.cells 134)
 have hx:(w.alloc (au a.cells 134)).cell? ⟨w.heap.size,1+n,none⟩=some (ah ag (a.get n)):=by
  match n,h with
  |0,_=>exact aH hb 1 _ rfl
  |1,_=>exact aH hb 2 _ rfl
  |2,_=>exact aH hb 3 _ rfl
 have yb:=ai b1;clear b1 hc hb
 go_enter Tryz.func128,Tryz.ntmps128
 go_wp2
 go_ret
 exact⟨rfl,yb.out⟩
theorem EN(b:BB)(men sent marks:ak)(ml:List Mn)(ss:List Int)(ms:List Mk)(w:ar)(hL:Laid w)(hB:cK b men sent marks ml ss ms w)(hne:bn b ml ss ms≠[])(n:Nat)(hn:n<ml.length) :
  bp aq 58 #[aQ (b.cells men sent marks),ah ag n] w fun e w'=>∃v,e=aG (.tuple #[v,ah ag 0])∧Reads w' v (ig (fun a=>a.get n) (bn b ml ss ms)).length ((ig (fun a=>a.get n) (bn b ml ss ms)).map (aM ag))∧aC w.heap.size w w':=by
 have hlen:=jH ss ms hB.ok hB.iw;have kG:0<(bn b ml ss ms).length:=cP.2 hne;have Vm:=hB.iw.len;obtain⟨pm,cm,rfl,_⟩:=aV hB.rm;obtain⟨pn,cn,rfl,_⟩:=aV hB.rs;obtain⟨pk,ck,rfl,_⟩:=aV hB.rk;have b0:aC w.heap.size w ((w.alloc (au (b.cells (ae pm ml.length cm) (ae pn ss.length cn) (ae pk ms.length ck)) 28)).alloc (au #[ah ag n] 3)):=((aw _ _).alloc (ay _) _).alloc (by simp) _
 have ht:Two w (b.cells (ae pm ml.length cm) (ae pn ss.length cn) (ae pk ms.length ck)) 28 #[ah ag n] 3 ((w.alloc (au (b.cells (ae pm ml.length cm) (ae pn ss.length cn) (ae pk ms.length ck)) 28)).alloc (au #[ah ag n] 3)):=
  ⟨(Two.mk' w _ _ _ _).one,(Two.mk' w _ _ _ _).two,b0,by simp⟩
 have hop:=TF b (ae pm ml.length cm) (ae pn ss.length cn) (ae pk ms.length ck) ml ss ms _ (hL.below b0) (hB.below b0) hne (w.heap.size+1) (fun W hb=>by
  have h1:=(hb.block (w.heap.size+1) (by simp)).trans ht.two
  exact UE b _ _ _ n ml.length pm cm rfl hn Vm _ W (aj.1 h1).1 (aH h1 0 _ rfl))
 have HO:=ai hop;have HT:=ai ht;clear hop ht hL hB b0;generalize bn b ml ss ms=all at *;generalize hM:ml.length=lm at *;generalize ss.length=ln at *;generalize ms.length=lk at *;clear hM
 go_enter Tryz.func58,Tryz.ntmps58
 go_wp2_with (first
  |(go_at_call 103;refine HO.out.mono ?_;clear HO;rintro e w1 ⟨v,rfl,jq,hb1⟩
    have rQ:=HT.out.next hb1
    obtain⟨gv,cv,rfl⟩:∃gv cv,v=ae (some ⟨gv,0,none⟩) all.length cv:=by
     rcases jq.1.2 with⟨_,h0⟩|⟨g,cap,cur,rfl,_⟩
     ·omega
     ·exact⟨g,cap,rfl⟩
    have o6:=ai rQ;have SJ:Hid (Reads (w1.alloc (au (b.open (ae pm lm cm) (ae pn ln cn) (ae pk lk ck) (ae (some ⟨gv,0,none⟩) all.length cv)) 122)) (ae (some ⟨gv,0,none⟩) all.length cv) all.length (rowOf all)):=ai ((jq.reads (by omega)).below ((aw _ _).alloc (ay _) _))
    have HNu:=ai (LH b (ae pm lm cm) (ae pn ln cn) (ae pk lk ck) all hne (by omega) (fun a=>a.get n) (w.heap.size+1) _ _ SJ.out (fun a _ W hb=>by
     have h1:=((o6.out.next ((aw _ _).alloc (ay _) (au (b.open (ae pm lm cm) (ae pn ln cn) (ae pk lk ck) (ae (some ⟨gv,0,none⟩) all.length cv)) 122))).next hb).two
     exact UD a n (by omega) _ W (aj.1 h1).1 (aH h1 0 _ rfl)))
    clear rQ jq hb1)
  |(go_at_call 124;refine HNu.out.mono ?_;rintro e w2 ⟨gn,cgn,rfl,ho2,hb2⟩;have YQ:=ai ho2;have px:=ai hb2;clear ho2 hb2))
 go_ret2;have hb3:=o6.out.below.alloc (by have:=o6.out.size;omega) (au (b.open (ae pm lm cm) (ae pn ln cn) (ae pk lk ck) (ae (some ⟨gv,0,none⟩) all.length cv)) 122)
 have hnl:(ig (fun a=>a.get n) all).length≤1000:=by
  have h1:=Lib.compact_length_le (sorted (all.map fun a=>a.get n));have h2:(sorted (all.map fun a=>a.get n)).length=all.length:=(xe _).trans (iH _);unfold ig;omega
 exact⟨_,rfl,Reads.jP YQ.out (by omega) (by simp),hb3.trans (px.out.mono hb3.size)⟩
theorem JF(b:BB)(men sent marks:ak)(l:List eV)(hl:l≠[])(hl2:l.length≤1000)(of:eV→Int)(cp cq cr:Nat)(w:ar)(v:ak)(hv:Reads w v l.length (rowOf l))
  (Gh:∀a∈l,∀W,aC w.heap.size w W→bp aq 133 #[aQ a.cells,pv cp 0,pv cq 0,pv cr 0] W fun e W'=>e=aG (ah ag (of a))∧aC W.heap.size W W') :
  bp aq 124 #[aQ (b.open men sent marks v),.func (.func 133) #[] #[pv cp 0,pv cq 0,pv cr 0]] w fun e w'=>∃gn cn,e=aG (ae (some ⟨gn,0,none⟩) (ig of l).length cn)∧w'.ownsRow w.heap.size 3 1 (ae (some ⟨gn,0,none⟩) (ig of l).length cn) (ig of l).length ((ig of l).map (aM ag))∧aC w.heap.size w w':=by
 obtain⟨i0,hi,hz0,hz1,hz2⟩:=info_parts info3
 obtain⟨g,off,cap,rfl,hn,hg,hc⟩:∃g off cap,v=ae (some ⟨g,off,none⟩) l.length cap∧(l.length≤4294967296∧l.length≤cap)∧g<w.heap.size∧∀j u,(rowOf l)[j]?=some u→w.cell? ⟨g,off+j,none⟩=some u:=by
  rcases hv with⟨_,h,_⟩|h
  ·exact(hl (aZ h)).elim
  ·exact h
 have kG:0<l.length:=cP.2 hl;have HC:=ai hc;have SU:=ai Gh;clear hc Gh hv hl;generalize hL:l.length=L at *;have HL:=ai hL;clear hL;have b1:aC w.heap.size w (w.alloc (au (b.open men sent marks (ae (some ⟨g,off,none⟩) L cap)) 122)):=(aw _ _).alloc (ay _) _;have yb:=ai b1;clear b1
 go_enter Tryz.func124,Tryz.ntmps124
 go_wp2
 go_loopw [5,7,11] (fun out _ i wr=>∃k:Nat,k≤L∧i=ah ag k∧wr.ownsRow (w.heap.size+1) 3 1 out k ((l.take k).map fun a=>aM ag (of a))∧aC (w.heap.size+1) (w.alloc (au (b.open men sent marks (ae (some ⟨g,off,none⟩) L cap)) 122)) wr) (fun _ _ i _=>L-(intOf i).toNat)
 case atStart=>exact⟨0,by omega,rfl,by simpa using eO _ _ _ _,aw _ _⟩
 case round=>
  obtain⟨k,hk,rfl,hown,eA⟩:=hrel;have hsz:=eA.size;simp at hsz;have uC:aC w.heap.size w wr:=yb.out.trans (eA.mono (by omega))
  by_cases hlt:k<L
  ·have kH:k<l.length:=by rw[HL.out];exact hlt
   obtain⟨hc0,hc1,hc2,hc3⟩:=Reads.cell (w:=wr) (cap:=cap) (n:=L) (fun j u hj=>(uC.cell (p:=⟨g,off+j,none⟩) hg).trans (HC.out j u hj)) k kH;have tR:(l.take (k+1)).map (fun a=>aM ag (of a))=(l.take k).map (fun a=>aM ag (of a))++[ah ag (of l[k])]:=by rw[cF kH,gi];rfl
   have hcl:=fun W hb=>SU.out l[k] (cz kH) W hb;have HT:=ai tR;have HK:=ai hcl;clear tR hcl;generalize l[k]=a at *;have Ti:=ai uC;clear uC
   go_wp2_with (first
    |(go_at_call 133;refine(HK.out _ (Ti.out.alloc (by omega) _)).mono ?_;rintro e w2 ⟨rfl,hb2⟩
      have hs2:=hb2.size;simp only[ey] at hs2;have hown2:w2.ownsRow (w.heap.size+1) 3 1 u5 k ((l.take k).map fun a=>aM ag (of a)):=ie (hown.alloc _) fun g hg=>hb2.block g (by have:=(hown.lt g hg).2;simp;omega);have px:=ai hb2
      have UU:Hid (∀(j:Nat) (u:ak),([ah ag (of a)]:List ak)[j]?=some u→(w2.alloc (au #[ah ag (of a)] 3)).cell? ((⟨w2.heap.size,0,none⟩:Addr).add j)=some u):=ai fun j u hj=>by
       match j,hj with
       |0,hj=>simp at hj;subst hj;simp[Addr.add]
      clear hb2)
    |(at_builtin;refine wpList_append_own _ rfl _ _ 25 rfl (w.heap.size+1) 3 i0 (ah ag 0) 1 8 iR hi hz0 hz1 hz2 rfl (by decide) _ _ _ rfl (hown2.alloc _) ⟨w2.heap.size,0,none⟩ 1 1 [ah ag (of a)] rfl rfl UU.out (by simp[cy]) (by unfold maxLen;omega) (by omega) (by simp;omega) ?_;intro v' w3 JX hgrow hnil))
   go_roundw
   case rel=>
    have h1:aC (w.heap.size+1) wr w2:=((aw _ wr).alloc (by omega) _).trans (px.out.mono (by simp;omega));exact⟨k+1,by omega,by simp,by rw[HT.out];exact JX,eA.trans (td (by omega) hown2 h1 hgrow)⟩
   case measure=>simp[intOf];omega
  ·obtain rfl:k=L:=by omega
   have LR:l.take k=l:=dg (by rw[HL.out];exact ay _);rw[LR,show(fun a=>aM ag (of a))=(aM ag ∘ of) from rfl,←List.map_map] at hown;have Vn:(l.map of).length=k:=by rw[iH];exact HL.out
   obtain⟨k',rfl⟩:∃k',k=k'+1:=⟨k-1,by omega⟩
   obtain⟨go,co,rfl⟩:=ownsRow_succ hown;rw[←Vn] at hown;have HO:=ai hown;have Ti:=ai uC;have Yp:=ai Vn;have HN:=ai eA;clear hown uC LR eA Vn;have LU:=Jl HO.out (by rw[Yp.out];omega) (by omega);rw[Yp.out] at LU;have HSO:=ai LU;clear LU
   go_wp2_with (first
    |(go_at_call 172;refine HSO.out.mono ?_;rintro e w2 ⟨rfl,ho2,hb2⟩
      have hs2:(sorted (l.map of)).length=k'+1:=(xe _).trans Yp.out;rw[←hs2] at ho2;have xZ:=BF ho2 (by omega);rw[hs2] at xZ;have HCP:=ai xZ;have px:=ai hb2
      clear xZ ho2 hb2 hs2)
    |(go_at_call 173;refine HCP.out.mono ?_;rintro e w3 ⟨rfl,LW,hb3⟩;have HO3:=ai LW;have pI:=ai hb3;clear LW hb3))
   go_ret
   refine⟨go,co,rfl,ownsRow_base HO3.out (by omega),Ti.out.trans ((px.out.mono (by omega)).trans (pI.out.mono (by omega)))⟩
theorem Sz(b:BB)(hb:b.Ok)(men sent marks:ak)(pl:List Int)(hp:fp b pl)(mi:Nat)(h1:1≤mi)(h2:(mi:Int)≤b.minutes)(cp cq:Nat)(lv:ak)(w:ar)(xZ:w.heap[cp]?=some (au #[lv] 25 (0,0)))(Xk:w.heap[cq]?=some (au #[ah ag mi] 3 (0,0)))(hl:Reads w lv pl.length (pl.map (aM ag))) :
  bp aq 131 #[aQ (b.cells men sent marks),pv cp 0,pv cq 0] w fun e w'=>e=aG (ah ag 0)∧aC w.heap.size w w':=by
 have b1:aC w.heap.size w (w.alloc (au (b.cells men sent marks) 119)):=(aw _ _).alloc (ay _) _;have lp:=(aj.1 xZ).1;have lq:=(aj.1 Xk).1;have x1:=aH ((b1.block _ lp).trans xZ) 0 _ rfl;have VN:=ai (tL b hb men sent marks lv pl hp _ (hl.below b1));have yb:=ai b1;have HQ:=ai Xk;have HK:=ai (ax w (au (b.cells men sent marks) 119));clear xZ Xk hl hp b1
 go_enter Tryz.func131,Tryz.ntmps131
 go_wp2_with (first
  |(go_at_call 113;refine VN.out.mono ?_;clear VN;rintro e w1 ⟨rfl,hb1⟩
    have px:=ai hb1;obtain⟨y0,y1,y2,y3,y4,y5,y6,y7,y8,y9,K7,Ja,I9,MU,I8⟩:=bQ ((hb1.block w.heap.size (by simp)).trans HK.out);have x2:=aH ((hb1.block _ (by simp;omega)).trans ((yb.out.block _ lq).trans HQ.out)) 0 _ rfl
    clear hb1)
  |(go_at_call 132;refine(nw b men sent marks mi (by omega) h2 _).mono ?_;rintro e w2 ⟨rfl,hb2⟩;have pI:=ai hb2;clear hb2))
 go_ret
 have h1:=yb.out.trans (px.out.mono yb.out.size);exact⟨rfl,h1.trans (pI.out.mono h1.size)⟩
theorem Sy(b:BB)(hb:b.Ok)(men sent marks v:ak)(pl:List Int)(hp:fp b pl)(mi:Nat)(h1:1≤mi)(h2:(mi:Int)≤b.minutes)(a:eV)(ha:a.Ok)(ob cp cq:Nat)(lv:ak)(w:ar)(yM:w.heap[ob]?=some (au (b.open men sent marks v) 122 (0,0)))
  (xZ:w.heap[cp]?=some (au #[lv] 25 (0,0))) (Xk:w.heap[cq]?=some (au #[ah ag mi] 3 (0,0))) (hl:Reads w lv pl.length (pl.map (aM ag))) :
  bp aq 133 #[aQ a.cells,pv ob 0,pv cp 0,pv cq 0] w fun e w'=>e=aG (ah ag (b.BS (b.cu+a.used) (bK pl) mi))∧aC w.heap.size w w':=by
 have Ac:=hb.minutes;have pw:∀s∈pl,1≤s∧s≤8:=fun s h=>by have:=hp.mem s h;omega
 have OV:bK pl<512:=ni pl pw;have b1:aC w.heap.size w (w.alloc (au a.cells 134)):=(aw _ _).alloc (ay _) _;have hk:=ax w (au a.cells 134);have lo:=(aj.1 yM).1;have lp:=(aj.1 xZ).1;have lq:=(aj.1 Xk).1
 have hS:∀w',aC (w.alloc (au a.cells 134)).heap.size (w.alloc (au a.cells 134)) w'→w'.heap[ob]?=some (au (b.open men sent marks v) 122 (0,0))∧w'.heap[w.heap.size]?=some (au a.cells 134 (0,0))∧w'.heap[cp]?=some (au #[lv] 25 (0,0))∧w'.heap[cq]?=some (au #[ah ag mi] 3 (0,0))∧Reads w' lv pl.length (pl.map (aM ag))∧aC w.heap.size w w':=fun w' hb'=>by
  have hs:(w.alloc (au a.cells 134)).heap.size=w.heap.size+1:=by simp
  exact⟨(hb'.block _ (by omega)).trans ((b1.block _ lo).trans yM),(hb'.block _ (by omega)).trans hk,(hb'.block _ (by omega)).trans ((b1.block _ lp).trans xZ),(hb'.block _ (by omega)).trans ((b1.block _ lq).trans Xk),(hl.below b1).below hb',b1.trans (hb'.mono (by omega))⟩
 have HS:=ai hS;clear hS yM xZ Xk hl b1 hk;have hw1:IntKind.i64.wrap ((mi:Int)-1)=((mi-1:Nat):Int):=by rw[fT _ (by omega) (by omega)];omega
 have hlt:((mi-1:Nat):Int)<(b.minutes.toNat:Int):=by omega
 have hnn:(0:Int)≤((mi-1:Nat):Int):=by omega
 have Xg:((b.m6 (b.cu+a.used) (bK pl) b.minutes.toNat).map (aM ag))[mi-1]?=some (ah ag (b.BS (b.cu+a.used) (bK pl) mi)):=by
  have h3:mi-1<b.minutes.toNat:=by omega
  have h4:mi-1+1=mi:=by omega
  simp[BB.m6,h3,h4]
 go_enter Tryz.func133,Tryz.ntmps133
 go_wp2
 refine cj (by kernel_rfl) [
 pV (pv ob 0),
  pV (aQ (b.cells men sent marks)),
  pV (aQ a.cells),
  pV (lv),
  pV (ah ag (bK pl)),
  fun v ds w9=>∃g cap,∃cur:Array ak,v=ae (some ⟨g,0,none⟩) b.minutes.toNat cap∧b.minutes.toNat≤cap∧w9.heap[g]?=some (au cur 3 (0,0))∧∀(j:Nat) (u:ak),((b.m6 (b.cu+a.used) (bK pl) b.minutes.toNat).map (aM ag))[j]?=some u→cur[j]?=some u,
  pV (ah ag mi),
  pV (ah ag ((mi-1:Nat):Int)),
  fun v ds w9=>∃g,v=pv g (mi-1)∧w9.cell? ⟨g,mi-1,none⟩=some (ah ag (b.BS (b.cu+a.used) (bK pl) mi))∧g<w9.heap.size,
  pV (ah ag (b.BS (b.cu+a.used) (bK pl) mi)),
  pV (ah ag (b.BS (b.cu+a.used) (bK pl) mi))]
  (fun w9=>aC (w.alloc (au a.cells 134)).heap.size (w.alloc (au a.cells 134)) w9) [(1,pv ob 0),(2,pv cp 0),(3,pv cq 0),(4,pv w.heap.size 0)] (by kernel_rfl) ?rst (fun w1 w2 h hb=>h.trans (hb.mono h.size)) ((aw _ _).drew) ⟨rfl,rfl,rfl,rfl,trivial⟩ ?reach ?rfin
 case rst=>
  refine⟨sV,sV,sV,sV,sV,?_,sV,sV,?_,sV,sV,trivial⟩
  ·rintro v ds w1 w2 hS ⟨g,cap,cur,h1,h2,h3,h4⟩ hb;exact⟨g,cap,cur,h1,h2,(hb.block g (aj.1 h3).1).trans h3,h4⟩
  ·rintro v ds w1 w2 hS ⟨g,h1,h2,h3⟩ hb;exact⟨g,h1,(hb.cell (p:=⟨g,mi-1,none⟩) h3).trans h2,Nat.lt_of_lt_of_le h3 hb.size⟩
 case reach=>
  refine⟨?_,?_,?_,?_,?_,?_,?_,?_,?_,?_,?_,trivial⟩<;>rintro ev w1 hS hc hg hf ⟨b1,b2,b3,b4,-⟩ hd
  ·clear hd;refine yv ?_ rfl;go_simp
  ·have d0:ev (aB 6)=_:=hd.1 rfl;clear hd;have q:=HS.out w1 hS;obtain⟨x0,x1,x2,x3,x4,x5,x6,x7,x8,x9,nG,nE,oh,nM,nQ,YY⟩:=jF q.1;refine yv ?_ rfl;go_simp
  ·clear hd;have q:=HS.out w1 hS;obtain⟨y0,y1,y2,y3⟩:=qm q.2.1;refine yv ?_ rfl;go_simp
  ·clear hd;have q:=HS.out w1 hS;have y:=aH q.2.2.1 0 _ rfl;refine yv ?_ rfl;go_simp
  ·have d3:ev (aB 9)=_:=hd.1 rfl;clear hd;have q:=HS.out w1 hS;refine yq (args:=#[lv]) (lL pl pw lv _ q.2.2.2.2.1) ?_ fun _=>rfl;go_simp
  ·have d1:ev (aB 7)=_:=hd.1 rfl;have d2:ev (aB 8)=_:=hd.2.1 rfl;have d4:ev (aB 10)=_:=hd.2.2.1 rfl;clear hd;refine Lag.Yields.call (f:=114) (args:=#[aQ (b.cells men sent marks),aQ a.cells,ah ag (bK pl)]) ?_ (Ds b hb men sent marks a ha (bK pl) OV _) ?_
   ·go_simp
   ·rintro e w2 ⟨g,cap,cur,rfl,h1,h2,h3,h4,h5,h6⟩;exact⟨_,rfl,⟨g,cap,cur,rfl,h3,h4,h5⟩,.inl h6⟩
  ·clear hd;have q:=HS.out w1 hS;have y:=aH q.2.2.2.1 0 _ rfl;refine yv ?_ rfl;go_simp
  ·have d6:ev (aB 12)=_:=hd.1 rfl;clear hd;refine yv ?_ rfl;go_simp
  ·have d7:ev (aB 13)=_:=hd.2.1 rfl;obtain⟨g,cap,cur,e11,J6,hgb,qA⟩:=hd.1 rfl;clear hd;replace e11:ev (aB 11)=_:=e11;refine yv (v:=pv g (mi-1)) ?_ (⟨g,rfl,aH hgb _ _ (qA _ _ Xg),(aj.1 hgb).1⟩);go_simp;intro hx;exfalso;omega
  ·obtain⟨g,Ee,hcl,_⟩:=hd.1 rfl;clear hd;replace Ee:ev (aB 14)=_:=Ee;refine yv ?_ rfl;go_simp
  ·have d9:ev (aB 15)=_:=hd.1 rfl;clear hd;refine yv (v:=ev (aB 15)) ?_ (d9);rfl
 case rfin=>
  intro a2 w2 hR;have hS:=hR.s;have Io:a2.tmps.getD 5 af=_:=hR.val 10 (by decide);have O5:a2=⟨#[a2.tmps.getD 0 af,a2.tmps.getD 1 af,a2.tmps.getD 2 af,a2.tmps.getD 3 af,a2.tmps.getD 4 af,a2.tmps.getD 5 af,a2.tmps.getD 6 af,a2.tmps.getD 7 af,a2.tmps.getD 8 af,a2.tmps.getD 9 af,a2.tmps.getD 10 af,a2.tmps.getD 11 af,a2.tmps.getD 12 af,a2.tmps.getD 13 af,a2.tmps.getD 14 af,a2.tmps.getD 15 af],[]⟩:=hR.act;clear hR;rw[Io] at O5;clear Io;generalize a2.tmps.getD 0 af=s0,a2.tmps.getD 1 af=s1,a2.tmps.getD 2 af=s2,a2.tmps.getD 3 af=s3,a2.tmps.getD 4 af=s4,a2.tmps.getD 6 af=s6,a2.tmps.getD 7 af=s7,a2.tmps.getD 8 af=s8,a2.tmps.getD 9 af=s9,a2.tmps.getD 10 af=s10,a2.tmps.getD 11 af=s11,a2.tmps.getD 12 af=s12,a2.tmps.getD 13 af=s13,a2.tmps.getD 14 af=s14,a2.tmps.getD 15 af=s15 at O5;have HF:=ai (HS.out w2 hS).2.2.2.2.2;clear hS;subst O5;go_wp2
  go_ret
  exact⟨rfl,HF.out⟩
end Go.Proofs.YtffladgmkiimjaaGreatDoor
