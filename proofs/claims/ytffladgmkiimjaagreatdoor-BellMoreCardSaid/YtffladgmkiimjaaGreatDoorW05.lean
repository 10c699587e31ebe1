/- DERIVED: THE SHELF's CONTRACTS AT THIS DUMP, IN PLAIN WORDS (tools/lay .. -/
import Derived.Shelf.Slices.CompactI
import Derived.Shelf.Slices.Clone
import Derived.Shelf.Sort.Plain
import Derived.Sort.OwnSortedInts
import Derived.Lib.OwnBridge
import Derived.Test.YtffladgmkiimjaaGreatDoorW02
set_option linter.all false
set_option maxHeartbeats 0
set_option maxRecDepth 1000000
open Array renaming getElem?_eq_some_iff -> ag
open Go renaming Value -> ai,World -> ak,undef -> au,Calls -> bm
open Go.Ending renaming returned -> aU
open Go.IntKind renaming i64 -> af
open Go.Lib renaming hid -> aj
open Go.Obj renaming cells -> ar
open Go.Operand renaming tmp -> aD
open Go.Proofs.Tryz renaming prog -> aq,underlying25 -> dt,underlying3 -> eR
open Go.RowKit renaming Below -> gu
open Go.RowKit.Below renaming refl -> ay
open Go.Value renaming agg -> aO,slice -> ae,int -> ah,int -> ax,oneCell' -> bJ
open Go.World renaming alloc_heap_new -> aw,ownsRow_nil -> dw,size_alloc -> eD
open List renaming eq_nil_of_length_eq_zero -> a_,take_succ_eq_append_getElem -> bH,getElem_mem -> bS,take_of_length_le -> cQ,length_pos_iff -> dB,map_append -> d_,length_map -> eJ,length_mergeSort -> yP
open Nat renaming le_refl -> aJ
namespace Go.Proofs
open Go.Shelf
def Tryz.ML:Go.Shelf.Ren:=⟨fun|189=>172|125=>181|257=>180|128=>194|129=>195|294=>185|295=>186|296=>187|297=>188|298=>189|299=>190|216=>191|300=>192|301=>193|328=>196|329=>197|330=>198|331=>199|332=>200|215=>179|343=>201|n=>n,fun|28=>25|3=>3|46=>192|0=>0|51=>204|53=>206|4=>4|183=>197|182=>196|131=>72|5=>5|9=>9|218=>207|222=>211|228=>213|229=>214|n=>n,fun|n=>n⟩
def Tryz.YS:Go.Proofs.Lays.n189 aq Tryz.ML:={
 mixed:=by kernel_rfl
 f125:=Tryz.func181.trans (congrArg some (by kernel_rfl))
 f128:=Tryz.func194.trans (congrArg some (by kernel_rfl))
 f129:=Tryz.func195.trans (congrArg some (by kernel_rfl))
 f189:=Tryz.func172.trans (congrArg some (by kernel_rfl))
 f215:=Tryz.func179.trans (congrArg some (by kernel_rfl))
 f216:=Tryz.func191.trans (congrArg some (by kernel_rfl))
 f257:=Tryz.func180.trans (congrArg some (by kernel_rfl))
 f294:=Tryz.func185.trans (congrArg some (by kernel_rfl))
 f295:=Tryz.func186.trans (congrArg some (by kernel_rfl))
 f296:=Tryz.func187.trans (congrArg some (by kernel_rfl))
 f297:=Tryz.func188.trans (congrArg some (by kernel_rfl))
 f298:=Tryz.func189.trans (congrArg some (by kernel_rfl))
 f299:=Tryz.func190.trans (congrArg some (by kernel_rfl))
 f300:=Tryz.func192.trans (congrArg some (by kernel_rfl))
 f301:=Tryz.func193.trans (congrArg some (by kernel_rfl))
 f328:=Tryz.func196.trans (congrArg some (by kernel_rfl))
 f329:=Tryz.func197.trans (congrArg some (by kernel_rfl))
 f330:=Tryz.func198.trans (congrArg some (by kernel_rfl))
 f331:=Tryz.func199.trans (congrArg some (by kernel_rfl))
 f332:=Tryz.func200.trans (congrArg some (by kernel_rfl))
 f343:=Tryz.func201.trans (congrArg some (by kernel_rfl))
 t0:=Tryz.underlying0
 a0:=Tryz.isAgg0
 z0:=Tryz.sizeOf0
 v0:=Tryz.zeroValue0
 t3:=eR
 a3:=Tryz.isAgg3
 z3:=Tryz.sizeOf3
 v3:=Tryz.zeroValue3
 t4:=Tryz.underlying4
 a4:=Tryz.isAgg4
 z4:=Tryz.sizeOf4
 v4:=Tryz.zeroValue4
 t5:=Tryz.underlying5
 a5:=Tryz.isAgg5
 z5:=Tryz.sizeOf5
 v5:=Tryz.zeroValue5
 t9:=Tryz.underlying9
 a9:=Tryz.isAgg9
 z9:=Tryz.sizeOf9
 v9:=Tryz.zeroValue9
 t28:=dt
 a28:=Tryz.isAgg25
 z28:=Tryz.sizeOf25
 v28:=Tryz.zeroValue25
 t46:=Tryz.underlying192
 a46:=Tryz.isAgg192
 z46:=Tryz.sizeOf192
 v46:=Tryz.zeroValue192
 t51:=Tryz.underlying204
 a51:=Tryz.isAgg204
 z51:=Tryz.sizeOf204
 v51:=Tryz.zeroValue204
 t53:=Tryz.underlying206
 a53:=Tryz.isAgg206
 z53:=Tryz.sizeOf206
 v53:=Tryz.zeroValue206
 t131:=Tryz.underlying72
 a131:=Tryz.isAgg72
 z131:=Tryz.sizeOf72
 v131:=Tryz.zeroValue72
 t182:=Tryz.underlying196
 a182:=Tryz.isAgg196
 z182:=Tryz.sizeOf196
 v182:=Tryz.zeroValue196
 t183:=Tryz.underlying197
 a183:=Tryz.isAgg197
 z183:=Tryz.sizeOf197
 v183:=Tryz.zeroValue197
 t218:=Tryz.underlying207
 a218:=Tryz.isAgg207
 z218:=Tryz.sizeOf207
 v218:=Tryz.zeroValue207
 t222:=Tryz.underlying211
 a222:=Tryz.isAgg211
 z222:=Tryz.sizeOf211
 v222:=Tryz.zeroValue211
 t228:=Tryz.underlying213
 a228:=Tryz.isAgg213
 z228:=Tryz.sizeOf213
 v228:=Tryz.zeroValue213
 t229:=Tryz.underlying214
 a229:=Tryz.isAgg214
 z229:=Tryz.sizeOf214
 v229:=Tryz.zeroValue214 }
def Tryz.Pq:Go.Shelf.Ren:=⟨fun|20=>173|n=>n,fun|22=>25|3=>3|4=>4|0=>0|n=>n,fun|n=>n⟩
def Tryz.abB:Go.Proofs.Lays2.n20 aq Tryz.Pq:={
 mixed:=by kernel_rfl
 f20:=Tryz.func173.trans (congrArg some (by kernel_rfl))
 t0:=Tryz.underlying0
 a0:=Tryz.isAgg0
 z0:=Tryz.sizeOf0
 v0:=Tryz.zeroValue0
 t3:=eR
 a3:=Tryz.isAgg3
 z3:=Tryz.sizeOf3
 v3:=Tryz.zeroValue3
 t4:=Tryz.underlying4
 a4:=Tryz.isAgg4
 z4:=Tryz.sizeOf4
 v4:=Tryz.zeroValue4
 t22:=dt
 a22:=Tryz.isAgg25
 z22:=Tryz.sizeOf25
 v22:=Tryz.zeroValue25
 i3:=by kernel_rfl }
end Go.Proofs
namespace Go.Proofs.YtffladgmkiimjaaGreatDoor
open Go.RowKit Go.Lag Go.Sort
def sorted(zs:List Int):List Int:=zs.mergeSort fun x y=>decide (x<=y)
def LU{w:ak}{base g cap:Nat}{zs:List Int}(h:w.ownsRow base 3 1 (ae (some ⟨g,0,none⟩) zs.length cap) zs.length (zs.map (ax af)))(hlen:zs.length<4611686018427387904)(hb0:base<=w.heap.size) :
  bm aq 172 #[ae (some ⟨g,0,none⟩) zs.length cap] w fun e w'=>e=aU (.tuple #[])/\w'.ownsRow base 3 1 (ae (some ⟨g,0,none⟩) zs.length cap) zs.length ((sorted zs).map (ax af))/\gu base w w':=by
 rcases h.2 with⟨h0,_⟩|⟨g',cap',cur,hv,hbase,hb,h1,h2,h3,h4⟩
 .cases h0
 cases hv;have hl2:(sorted zs).length=zs.length:=yP zs;have hH:Holds (ax af) w g 0 zs.toArray:=holds_of_blockI hb (by rw[Nat.mul_one] at h4;exact h4);have Dy:g<w.heap.size:=(ag.1 hb).1;refine(show bm aq 172 #[ae (some ⟨g,0,none⟩) zs.length cap] w _ from Any.slices_Sort_int Tryz.YS g 0 cap zs w hH Dy hlen).mono ?_;rintro e w' ⟨rfl,n,os,rfl⟩;exact⟨rfl,ownsRow_sortedI (ts:=sorted zs) hl2 hbase hb h1 h2 h3,(ay _ _).grown (grownBy_sortedI _) hb0 fun j hj=>by cases hj;exact hbase⟩
def DM{w:ak}{base g cap:Nat}{zs:List Int}(h:w.ownsRow base 3 1 (ae (some ⟨g,0,none⟩) zs.length cap) zs.length (zs.map (ax af)))(hlen:zs.length<=9223372036854775807) :
  bm aq 173 #[ae (some ⟨g,0,none⟩) zs.length cap] w fun e w'=>e=aU (ae (some ⟨g,0,none⟩) (Lib.compact zs).length cap)/\w'.ownsRow base 3 1 (ae (some ⟨g,0,none⟩) (Lib.compact zs).length cap) (Lib.compact zs).length ((Lib.compact zs).map (ax af))/\gu base w w':=by
 have h':=h;rcases h.2 with⟨h0,_⟩|⟨g',cap',cur,hv,hbase,hb,h1,h2,h3,h4⟩
 .cases h0
 cases hv;have hle:=Lib.compact_length_le zs;have hH:Holds (ax af) w g 0 zs.toArray:=holds_of_blockI hb (by rw[Nat.mul_one] at h4;exact h4);refine(show bm aq 173 #[ae (some ⟨g,0,none⟩) zs.length cap] w _ from Any.slices_Compact_int Tryz.abB g 0 cap zs w hH hlen h1).mono ?_;rintro e w' ⟨rfl,q,rfl⟩;have hc:=Lib.ownsRow_putRow (q:=q) (k:=(Lib.compact zs).length) (ys:=Lib.compact zs++List.replicate (zs.length-(Lib.compact zs).length) 0) h' sO oM;rw[List.take_left] at hc;exact⟨rfl,hc,Lib.below_putRow (ay _ _) hbase⟩
def iD(of:eV->Int)(l:List eV):List Int:=Lib.compact (sorted (l.map of))
def Pc(b:BB)(bn aL az:ai)(l:List eV)(hl:l≠[])(hl2:l.length<=1000)(of:eV->Int)(cp:Nat)(w:ak)(v:ai)(hv:Reads w v l.length (rowOf l))
  (Jm:∀a∈l,∀W,Bw w W->bm aq 128 #[aO a.cells,pv cp 0] W fun e W'=>e=aU (ah af (of a))/\Bw W W') :
  bm aq 124 #[aO (b.open bn aL az v),.func (.func 128) #[] #[pv cp 0]] w fun e w'=>∃gn cn,e=aU (ae (some ⟨gn,0,none⟩) (iD of l).length cn)/\w'.ownsRow w.heap.size 3 1 (ae (some ⟨gn,0,none⟩) (iD of l).length cn) (iD of l).length ((iD of l).map (ax af))/\Bw w w':=by
 obtain⟨i0,hi,hz0,hz1,hz2⟩:=info_parts info3
 obtain⟨g,off,cap,rfl,hn,hg,hc⟩:∃g off cap,v=ae (some ⟨g,off,none⟩) l.length cap/\(l.length<=4294967296/\l.length<=cap)/\g<w.heap.size/\∀j u,(rowOf l)[j]?=some u->w.cell? ⟨g,off+j,none⟩=some u:=by
  rcases hv with⟨_,h,_⟩|h
  .exact(hl (a_ h)).elim
  exact h
 have kY:0<l.length:=dB.2 hl;have HC:=aj hc;have XH:=aj Jm;clear hc Jm hv hl;generalize hL:l.length=L at *;have HL:=aj hL;clear hL;have b1:Bw w (w.alloc (ar (b.open bn aL az (ae (some ⟨g,off,none⟩) L cap)) 122)):=dF;have zQ:=aj b1;clear b1
 go_enter Tryz.func124,Tryz.ntmps124
 go_wp2
 go_loopw [5,7,11] (fun out _ i wr=>∃k:Nat,k<=L/\i=ah af k/\wr.ownsRow (w.heap.size+1) 3 1 out k ((l.take k).map fun a=>ax af (of a))/\gu (w.heap.size+1) (w.alloc (ar (b.open bn aL az (ae (some ⟨g,off,none⟩) L cap)) 122)) wr) (fun _ _ i _=>L-(intOf i).toNat)
 case atStart=>exact⟨0,oM,rfl,by simpa using dw _ _ _ _,ay _ _⟩
 case round=>
  obtain⟨k,hk,rfl,hown,eE⟩:=hrel;have hsz:=eE.size;simp at hsz;have vV:Bw w wr:=zQ.out.trans (eE.mono oM)
  by_cases hlt:k<L
  .have kq:k<l.length:=by rw[HL.out];exact hlt
   obtain⟨hc0,hc1,hc2,hc3⟩:=Reads.cell (w:=wr) (cap:=cap) (n:=L) (fun j u hj=>(vV.cell (p:=⟨g,off+j,none⟩) hg).trans (HC.out j u hj)) k kq;have uX:(l.take (k+1)).map (fun a=>ax af (of a))=(l.take k).map (fun a=>ax af (of a))++[ah af (of l[k])]:=by rw[bH kq,d_];rfl
   have hcl:=fun W hb=>XH.out l[k] (bS kq) W hb;have HT:=aj uX;have HK:=aj hcl;clear uX hcl;generalize l[k]=a at *;have X_:=aj vV;clear vV
   go_wp2_with (first
    |(go_at_call 128;refine(HK.out _ (X_.out.alloc oM _)).mono ?_;rintro e w2 ⟨rfl,hb2⟩
      have hs2:=hb2.size;simp only[eD] at hs2;have hown2:w2.ownsRow (w.heap.size+1) 3 1 u5 k ((l.take k).map fun a=>ax af (of a)):=dY (hown.alloc _) fun g hg=>hb2.block g (by have:=(hown.lt g hg).2;simp;omega);have qp:=aj hb2
      have Z1:Hid (∀(j:Nat) (u:ai),([ah af (of a)]:List ai)[j]?=some u->(w2.alloc (ar #[ah af (of a)] 3)).cell? ((⟨w2.heap.size,0,none⟩:Addr).add j)=some u):=aj fun j u hj=>by
       match j,hj with
       |0,hj=>simp at hj;subst hj;simp[Addr.add]
      clear hb2)
    |(at_builtin;refine wpList_append_own _ rfl _ _ 25 rfl (w.heap.size+1) 3 i0 (ah af 0) 1 8 dt hi hz0 hz1 hz2 rfl dC _ _ _ rfl (hown2.alloc _) ⟨w2.heap.size,0,none⟩ 1 1 [ah af (of a)] rfl rfl Z1.out (by simp[bJ]) (by unfold maxLen;omega) oM sO ?_;intro v' w3 MX hgrow hnil))
   go_roundw
   case rel=>
    have h1:gu (w.heap.size+1) wr w2:=((ay _ wr).alloc oM _).trans (qp.out.mono sO);exact⟨k+1,oM,sM,by rw[HT.out];exact MX,eE.trans (uI oM hown2 h1 hgrow)⟩
   case measure=>simp[intOf];omega
  obtain rfl:k=L:=oM;have Pv:l.take k=l:=cQ (by rw[HL.out];exact aJ _);rw[Pv,show(fun a=>ax af (of a))=(ax af ∘ of) from rfl,<-List.map_map] at hown;have hlm:(l.map of).length=k:=by rw[eJ];exact HL.out
  obtain⟨k',rfl⟩:∃k',k=k'+1:=⟨k-1,oM⟩
  obtain⟨go,co,rfl⟩:=ownsRow_succ hown;rw[<-hlm] at hown;have HO:=aj hown;have X_:=aj vV;have HLM:=aj hlm;have HN:=aj eE;clear hown vV Pv eE hlm;have Py:=LU HO.out (by rw[HLM.out];omega) oM;rw[HLM.out] at Py;have HSO:=aj Py;clear Py
  go_wp2_with (first
   |(go_at_call 172;refine HSO.out.mono ?_;rintro e w2 ⟨rfl,ho2,hb2⟩
     have hs2:(sorted (l.map of)).length=k'+1:=(yP _).trans HLM.out;rw[<-hs2] at ho2;have zl:=DM ho2 oM;rw[hs2] at zl;have HCP:=aj zl;have qp:=aj hb2
     clear zl ho2 hb2 hs2)
   |(go_at_call 173;refine HCP.out.mono ?_;rintro e w3 ⟨rfl,ho3,hb3⟩;have HO3:=aj ho3;have qz:=aj hb3;clear ho3 hb3))
  go_ret
  refine⟨go,co,rfl,ownsRow_base HO3.out oM,X_.out.trans ((qp.out.mono oM).trans (qz.out.mono oM))⟩
def eV.get(a:eV)(mE:Nat):Int:=
 match mE with
 |0=>a.m0
 |1=>a.m1
 |_=>a.m2
def Ta(b:BB)(bn aL az:ai)(n:Nat)(L:Nat)(p:Option Addr)(cap:Nat)(hm:bn=ae p L cap)(h:n<L)(hL:L<=3)(w:ak):bm aq 127 #[aO (b.cells bn aL az),ah af n] w (Rt w (.bool true)):=by
 subst hm;have z:IntKind.i64.wrap ((L:Int)-1)=(L:Int)-1:=fO _ oM oM
 go_enter Tryz.func127,Tryz.ntmps127
 go_wp2_with (go_at_call 138;refine(iX _ _ _ oM oM _).mono ?_;rintro e w' ⟨rfl,rfl⟩)
 go_ret
 exact⟨rfl,dF⟩
def ZG(b:BB)(bn aL az:ai)(n:Nat)(L:Nat)(p:Option Addr)(cap:Nat)(hm:bn=ae p L cap)(h:n<L)(hL:L<=3)(cp:Nat)(w:ak)(hcl:cp<w.heap.size)(hc:w.cell? ⟨cp,0,none⟩=some (ah af n)) :
  bm aq 126 #[aO (b.cells bn aL az),pv cp 0] w (Rt w (ah af 0)):=by
 have b1:Bw w (w.alloc (ar (b.cells bn aL az) 119)):=dF;have hc1:=(b1.cell (p:=⟨cp,0,none⟩) hcl).trans hc;have HI:=aj (Ta b bn aL az n L p cap hm h hL);have zQ:=aj b1;clear b1 hc hm
 go_enter Tryz.func126,Tryz.ntmps126
 go_wp2_with (go_at_call 127;refine(HI.out _).mono ?_;rintro e w' ⟨rfl,hb⟩;have HB:=aj hb;clear hb)
 go_ret
 exact⟨rfl,zQ.out.trans (HB.out.mono zQ.out.size)⟩
def ZF(a:eV)(n:Nat)(h:n<3)(cp:Nat)(w:ak)(hcl:cp<w.heap.size)(hc:w.cell? ⟨cp,0,none⟩=some (ah af n)) :
  bm aq 128 #[aO a.cells,pv cp 0] w (Rt w (ah af (a.get n))):=by
 have b1:Bw w (w.alloc (ar a.cells 134)):=dF;have hc1:=(b1.cell (p:=⟨cp,0,none⟩) hcl).trans hc;have hb:=aw w (ar a.cells 134)
 have hx:(w.alloc (ar a.cells 134)).cell? ⟨w.heap.size,1+n,none⟩=some (ah af (a.get n)):=by
  match n,h with
  |0,_=>exact aF hb 1 _ rfl
  |1,_=>exact aF hb 2 _ rfl
  |2,_=>exact aF hb 3 _ rfl
 have zQ:=aj b1;clear b1 hc hb
 go_enter Tryz.func128,Tryz.ntmps128
 go_wp2
 go_ret
 exact⟨rfl,zQ.out⟩
def Hf(b:BB)(bn aL az:ai)(ml:List Mn)(ss:List Int)(ms:List Mk)(w:ak)(hL:Laid w)(hB:dh b bn aL az ml ss ms w)(hne:bu b ml ss ms≠[])(n:Nat)(hn:n<ml.length) :
  bm aq 58 #[aO (b.cells bn aL az),ah af n] w fun e w'=>∃v,e=aU (.tuple #[v,ah af 0])/\Reads w' v (iD (fun a=>a.get n) (bu b ml ss ms)).length ((iD (fun a=>a.get n) (bu b ml ss ms)).map (ax af))/\Bw w w':=by
 have hlen:=jQ ss ms hB.ok hB.iF;have kY:0<(bu b ml ss ms).length:=dB.2 hne;have M3:=hB.iF.len;obtain⟨pm,cm,rfl,_⟩:=aR hB.rm;obtain⟨pn,cn,rfl,_⟩:=aR hB.rs;obtain⟨pk,ck,rfl,_⟩:=aR hB.rk;have b0:Bw w ((w.alloc (ar (b.sl pm ml.length cm pn ss.length cn pk ms.length ck) 28)).alloc (ar #[ah af n] 3)):=dF.alloc sM _
 have ht:Two w (b.sl pm ml.length cm pn ss.length cn pk ms.length ck) 28 #[ah af n] 3 ((w.alloc (ar (b.sl pm ml.length cm pn ss.length cn pk ms.length ck) 28)).alloc (ar #[ah af n] 3)):=
  ⟨(Two.mk' w _ _ _ _).one,(Two.mk' w _ _ _ _).two,b0,sM⟩
 have hop:=YF b (ae pm ml.length cm) (ae pn ss.length cn) (ae pk ms.length ck) ml ss ms _ (hL.below b0) (hB.below b0) hne (w.heap.size+1) (fun W hb=>by
  have h1:=(hb.block (w.heap.size+1) sM).trans ht.two
  exact ZG b _ _ _ n ml.length pm cm rfl hn M3 _ W (ag.1 h1).1 (aF h1 0 _ rfl))
 have HO:=aj hop;have HT:=aj ht;clear hop ht hL hB b0;generalize bu b ml ss ms=all at *;generalize hM:ml.length=lm at *;generalize ss.length=ln at *;generalize ms.length=lk at *;clear hM
 go_enter Tryz.func58,Tryz.ntmps58
 go_wp2_with (first
  |(go_at_call 103;refine HO.out.mono ?_;clear HO;rintro e w1 ⟨v,rfl,jA,hb1⟩
    have tO:=HT.out.next hb1
    obtain⟨gv,cv,rfl⟩:∃gv cv,v=ae (some ⟨gv,0,none⟩) all.length cv:=by
     rcases jA.1.2 with⟨_,h0⟩|⟨g,cap,cur,rfl,_⟩
     .omega
     exact⟨g,cap,rfl⟩
    have qf:=aj tO;have XB:Hid (Reads (w1.alloc (ar (b.open (ae pm lm cm) (ae pn ln cn) (ae pk lk ck) (ae (some ⟨gv,0,none⟩) all.length cv)) 122)) (ae (some ⟨gv,0,none⟩) all.length cv) all.length (rowOf all)):=aj ((jA.reads oM).below dF)
    have HNu:=aj (Pc b (ae pm lm cm) (ae pn ln cn) (ae pk lk ck) all hne oM (fun a=>a.get n) (w.heap.size+1) _ _ XB.out (fun a _ W hb=>by
     have h1:=((qf.out.next ((ay _ _).alloc (aJ _) (ar (b.open (ae pm lm cm) (ae pn ln cn) (ae pk lk ck) (ae (some ⟨gv,0,none⟩) all.length cv)) 122))).next hb).two
     exact ZF a n oM _ W (ag.1 h1).1 (aF h1 0 _ rfl)))
    clear tO jA hb1)
  |(go_at_call 124;refine HNu.out.mono ?_;rintro e w2 ⟨gn,cgn,rfl,ho2,hb2⟩;have HO2:=aj ho2;have qp:=aj hb2;clear ho2 hb2))
 go_ret2;have hb3:=qf.out.below.alloc (by have:=qf.out.size;omega) (ar (b.open (ae pm lm cm) (ae pn ln cn) (ae pk lk ck) (ae (some ⟨gv,0,none⟩) all.length cv)) 122)
 have hnl:(iD (fun a=>a.get n) all).length<=1000:=by
  have h1:=Lib.compact_length_le (sorted (all.map fun a=>a.get n));have h2:(sorted (all.map fun a=>a.get n)).length=all.length:=(yP _).trans (eJ _);unfold iD;omega
 exact⟨_,rfl,Reads.gG HO2.out oM sM,hb3.trans (qp.out.mono hb3.size)⟩
def Mu(b:BB)(bn aL az:ai)(l:List eV)(hl:l≠[])(hl2:l.length<=1000)(of:eV->Int)(cp cq cr:Nat)(w:ak)(v:ai)(hv:Reads w v l.length (rowOf l))
  (Jm:∀a∈l,∀W,Bw w W->bm aq 133 #[aO a.cells,pv cp 0,pv cq 0,pv cr 0] W fun e W'=>e=aU (ah af (of a))/\Bw W W') :
  bm aq 124 #[aO (b.open bn aL az v),.func (.func 133) #[] #[pv cp 0,pv cq 0,pv cr 0]] w fun e w'=>∃gn cn,e=aU (ae (some ⟨gn,0,none⟩) (iD of l).length cn)/\w'.ownsRow w.heap.size 3 1 (ae (some ⟨gn,0,none⟩) (iD of l).length cn) (iD of l).length ((iD of l).map (ax af))/\Bw w w':=by
 obtain⟨i0,hi,hz0,hz1,hz2⟩:=info_parts info3
 obtain⟨g,off,cap,rfl,hn,hg,hc⟩:∃g off cap,v=ae (some ⟨g,off,none⟩) l.length cap/\(l.length<=4294967296/\l.length<=cap)/\g<w.heap.size/\∀j u,(rowOf l)[j]?=some u->w.cell? ⟨g,off+j,none⟩=some u:=by
  rcases hv with⟨_,h,_⟩|h
  .exact(hl (a_ h)).elim
  exact h
 have kY:0<l.length:=dB.2 hl;have HC:=aj hc;have XH:=aj Jm;clear hc Jm hv hl;generalize hL:l.length=L at *;have HL:=aj hL;clear hL;have b1:Bw w (w.alloc (ar (b.open bn aL az (ae (some ⟨g,off,none⟩) L cap)) 122)):=dF;have zQ:=aj b1;clear b1
 go_enter Tryz.func124,Tryz.ntmps124
 go_wp2
 go_loopw [5,7,11] (fun out _ i wr=>∃k:Nat,k<=L/\i=ah af k/\wr.ownsRow (w.heap.size+1) 3 1 out k ((l.take k).map fun a=>ax af (of a))/\gu (w.heap.size+1) (w.alloc (ar (b.open bn aL az (ae (some ⟨g,off,none⟩) L cap)) 122)) wr) (fun _ _ i _=>L-(intOf i).toNat)
 case atStart=>exact⟨0,oM,rfl,by simpa using dw _ _ _ _,ay _ _⟩
 case round=>
  obtain⟨k,hk,rfl,hown,eE⟩:=hrel;have hsz:=eE.size;simp at hsz;have vV:Bw w wr:=zQ.out.trans (eE.mono oM)
  by_cases hlt:k<L
  .have kq:k<l.length:=by rw[HL.out];exact hlt
   obtain⟨hc0,hc1,hc2,hc3⟩:=Reads.cell (w:=wr) (cap:=cap) (n:=L) (fun j u hj=>(vV.cell (p:=⟨g,off+j,none⟩) hg).trans (HC.out j u hj)) k kq;have uX:(l.take (k+1)).map (fun a=>ax af (of a))=(l.take k).map (fun a=>ax af (of a))++[ah af (of l[k])]:=by rw[bH kq,d_];rfl
   have hcl:=fun W hb=>XH.out l[k] (bS kq) W hb;have HT:=aj uX;have HK:=aj hcl;clear uX hcl;generalize l[k]=a at *;have X_:=aj vV;clear vV
   go_wp2_with (first
    |(go_at_call 133;refine(HK.out _ (X_.out.alloc oM _)).mono ?_;rintro e w2 ⟨rfl,hb2⟩
      have hs2:=hb2.size;simp only[eD] at hs2;have hown2:w2.ownsRow (w.heap.size+1) 3 1 u5 k ((l.take k).map fun a=>ax af (of a)):=dY (hown.alloc _) fun g hg=>hb2.block g (by have:=(hown.lt g hg).2;simp;omega);have qp:=aj hb2
      have Z1:Hid (∀(j:Nat) (u:ai),([ah af (of a)]:List ai)[j]?=some u->(w2.alloc (ar #[ah af (of a)] 3)).cell? ((⟨w2.heap.size,0,none⟩:Addr).add j)=some u):=aj fun j u hj=>by
       match j,hj with
       |0,hj=>simp at hj;subst hj;simp[Addr.add]
      clear hb2)
    |(at_builtin;refine wpList_append_own _ rfl _ _ 25 rfl (w.heap.size+1) 3 i0 (ah af 0) 1 8 dt hi hz0 hz1 hz2 rfl dC _ _ _ rfl (hown2.alloc _) ⟨w2.heap.size,0,none⟩ 1 1 [ah af (of a)] rfl rfl Z1.out (by simp[bJ]) (by unfold maxLen;omega) oM sO ?_;intro v' w3 MX hgrow hnil))
   go_roundw
   case rel=>
    have h1:gu (w.heap.size+1) wr w2:=((ay _ wr).alloc oM _).trans (qp.out.mono sO);exact⟨k+1,oM,sM,by rw[HT.out];exact MX,eE.trans (uI oM hown2 h1 hgrow)⟩
   case measure=>simp[intOf];omega
  obtain rfl:k=L:=oM;have Pv:l.take k=l:=cQ (by rw[HL.out];exact aJ _);rw[Pv,show(fun a=>ax af (of a))=(ax af ∘ of) from rfl,<-List.map_map] at hown;have hlm:(l.map of).length=k:=by rw[eJ];exact HL.out
  obtain⟨k',rfl⟩:∃k',k=k'+1:=⟨k-1,oM⟩
  obtain⟨go,co,rfl⟩:=ownsRow_succ hown;rw[<-hlm] at hown;have HO:=aj hown;have X_:=aj vV;have HLM:=aj hlm;have HN:=aj eE;clear hown vV Pv eE hlm;have Py:=LU HO.out (by rw[HLM.out];omega) oM;rw[HLM.out] at Py;have HSO:=aj Py;clear Py
  go_wp2_with (first
   |(go_at_call 172;refine HSO.out.mono ?_;rintro e w2 ⟨rfl,ho2,hb2⟩
     have hs2:(sorted (l.map of)).length=k'+1:=(yP _).trans HLM.out;rw[<-hs2] at ho2;have zl:=DM ho2 oM;rw[hs2] at zl;have HCP:=aj zl;have qp:=aj hb2
     clear zl ho2 hb2 hs2)
   |(go_at_call 173;refine HCP.out.mono ?_;rintro e w3 ⟨rfl,ho3,hb3⟩;have HO3:=aj ho3;have qz:=aj hb3;clear ho3 hb3))
  go_ret
  refine⟨go,co,rfl,ownsRow_base HO3.out oM,X_.out.trans ((qp.out.mono oM).trans (qz.out.mono oM))⟩
def Xq(b:BB)(hb:b.Ok)(bn aL az:ai)(pl:List Int)(hp:eG b pl)(mi:Nat)(h1:1<=mi)(h2:(mi:Int)<=b.minutes)(cp cq:Nat)(lv:ai)(w:ak)(zl:w.heap[cp]?=some (ar #[lv] 25 (0,0)))(hcq:w.heap[cq]?=some (ar #[ah af mi] 3 (0,0)))(hl:Reads w lv pl.length (pl.map (ax af))) :
  bm aq 131 #[aO (b.cells bn aL az),pv cp 0,pv cq 0] w (Rt w (ah af 0)):=by
 have b1:Bw w (w.alloc (ar (b.cells bn aL az) 119)):=dF;have lp:=(ag.1 zl).1;have lq:=(ag.1 hcq).1;have x1:=aF ((b1.block _ lp).trans zl) 0 _ rfl;have X9:=aj (rq b hb bn aL az lv pl hp _ (hl.below b1));have zQ:=aj b1;have HQ:=aj hcq;have HK:=aj (aw w (ar (b.cells bn aL az) 119));clear zl hcq hl hp b1
 go_enter Tryz.func131,Tryz.ntmps131
 go_wp2_with (first
  |(go_at_call 113;refine X9.out.mono ?_;clear X9;rintro e w1 ⟨rfl,hb1⟩
    have qp:=aj hb1;obtain⟨y0,y1,y2,y3,y4,y5,y6,y7,y8,y9,Ow,Qz,Qy,Qx,LD⟩:=bZ ((hb1.block w.heap.size sM).trans HK.out);have x2:=aF ((hb1.block _ sO).trans ((zQ.out.block _ lq).trans HQ.out)) 0 _ rfl
    clear hb1)
  |(go_at_call 132;refine(nV b bn aL az mi oM h2 _).mono ?_;rintro e w2 ⟨rfl,hb2⟩;have qz:=aj hb2;clear hb2))
 go_ret
 have h1:=zQ.out.trans (qp.out.mono zQ.out.size);exact⟨rfl,h1.trans (qz.out.mono h1.size)⟩
def Xp(b:BB)(hb:b.Ok)(bn aL az v:ai)(pl:List Int)(hp:eG b pl)(mi:Nat)(h1:1<=mi)(h2:(mi:Int)<=b.minutes)(a:eV)(ha:a.Ok)(ob cp cq:Nat)(lv:ai)(w:ak)(nW:w.heap[ob]?=some (ar (b.open bn aL az v) 122 (0,0)))
  (zl:w.heap[cp]?=some (ar #[lv] 25 (0,0))) (hcq:w.heap[cq]?=some (ar #[ah af mi] 3 (0,0))) (hl:Reads w lv pl.length (pl.map (ax af))) :
  bm aq 133 #[aO a.cells,pv ob 0,pv cp 0,pv cq 0] w (Rt w (ah af (b.Bx (b.cI+a.used) (bE pl) mi))):=by
 have AB:=hb.minutes;have oK:∀s∈pl,1<=s/\s<=8:=fun s h=>by have:=hp.mem s h;omega
 have Hh:bE pl<512:=mV pl oK;have b1:Bw w (w.alloc (ar a.cells 134)):=dF;have hk:=aw w (ar a.cells 134);have lo:=(ag.1 nW).1;have lp:=(ag.1 zl).1;have lq:=(ag.1 hcq).1
 have hS:∀w',gu (w.alloc (ar a.cells 134)).heap.size (w.alloc (ar a.cells 134)) w'->w'.heap[ob]?=some (ar (b.open bn aL az v) 122 (0,0))/\w'.heap[w.heap.size]?=some (ar a.cells 134 (0,0))/\w'.heap[cp]?=some (ar #[lv] 25 (0,0))/\w'.heap[cq]?=some (ar #[ah af mi] 3 (0,0))/\Reads w' lv pl.length (pl.map (ax af))/\Bw w w':=fun w' hb'=>by
  have hs:(w.alloc (ar a.cells 134)).heap.size=w.heap.size+1:=sM;exact⟨(hb'.block _ oM).trans ((b1.block _ lo).trans nW),(hb'.block _ oM).trans hk,(hb'.block _ oM).trans ((b1.block _ lp).trans zl),(hb'.block _ oM).trans ((b1.block _ lq).trans hcq),(hl.below b1).below hb',b1.trans (hb'.mono oM)⟩
 have HS:=aj hS;clear hS nW zl hcq hl b1 hk;have hw1:IntKind.i64.wrap ((mi:Int)-1)=((mi-1:Nat):Int):=by rw[fO _ oM oM];omega
 have hlt:((mi-1:Nat):Int)<(b.minutes.toNat:Int):=oM;have hnn:(0:Int)<=((mi-1:Nat):Int):=oM
 have ab8:((b.j9 (b.cI+a.used) (bE pl) b.minutes.toNat).map (ax af))[mi-1]?=some (ah af (b.Bx (b.cI+a.used) (bE pl) mi)):=by
  have h3:mi-1<b.minutes.toNat:=oM;have h4:mi-1+1=mi:=oM;simp[BB.j9,h3,h4]
 go_enter Tryz.func133,Tryz.ntmps133
 go_wp2
 refine cy kQ [
 pV (pv ob 0),
  pV (aO (b.cells bn aL az)),
  pV (aO a.cells),
  pV (lv),
  pV (ah af (bE pl)),
  fun v ds w9=>∃g cap,∃cur:Array ai,v=ae (some ⟨g,0,none⟩) b.minutes.toNat cap/\b.minutes.toNat<=cap/\w9.heap[g]?=some (ar cur 3 (0,0))/\∀(j:Nat) (u:ai),((b.j9 (b.cI+a.used) (bE pl) b.minutes.toNat).map (ax af))[j]?=some u->cur[j]?=some u,
  pV (ah af mi),
  pV (ah af ((mi-1:Nat):Int)),
  fun v ds w9=>∃g,v=pv g (mi-1)/\w9.cell? ⟨g,mi-1,none⟩=some (ah af (b.Bx (b.cI+a.used) (bE pl) mi))/\g<w9.heap.size,
  pV (ah af (b.Bx (b.cI+a.used) (bE pl) mi)),
  pV (ah af (b.Bx (b.cI+a.used) (bE pl) mi))]
  (fun w9=>gu (w.alloc (ar a.cells 134)).heap.size (w.alloc (ar a.cells 134)) w9) [(1,pv ob 0),(2,pv cp 0),(3,pv cq 0),(4,pv w.heap.size 0)] kQ ?rst (fun w1 w2 h hb=>h.trans (hb.mono h.size)) ((ay _ _).drew) ⟨rfl,rfl,rfl,rfl,trivial⟩ ?reach ?rfin
 case rst=>
  refine⟨sV,sV,sV,sV,sV,?_,sV,sV,?_,sV,sV,trivial⟩
  .rintro v ds w1 w2 hS ⟨g,cap,cur,h1,h2,h3,h4⟩ hb;exact⟨g,cap,cur,h1,h2,(hb.block g (ag.1 h3).1).trans h3,h4⟩
  rintro v ds w1 w2 hS ⟨g,h1,h2,h3⟩ hb;exact⟨g,h1,(hb.cell (p:=⟨g,mi-1,none⟩) h3).trans h2,Nat.lt_of_lt_of_le h3 hb.size⟩
 case reach=>
  refine⟨?_,?_,?_,?_,?_,?_,?_,?_,?_,?_,?_,trivial⟩<;>rintro ev w1 hS hc hg hf ⟨b1,b2,b3,b4,-⟩ hd
  .exact tV
  .have d0:ev (aD 6)=_:=hd.1 rfl;have q:=HS.out w1 hS;have x0:=jO q.1;exact tV
  .have q:=HS.out w1 hS;obtain⟨y0,y1,y2,y3⟩:=qV q.2.1;exact tV
  .have q:=HS.out w1 hS;have y:=aF q.2.2.1 0 _ rfl;exact tV
  .have d3:ev (aD 9)=_:=hd.1 rfl;have q:=HS.out w1 hS;refine yq (args:=#[lv]) (kW pl oK lv _ q.2.2.2.2.1) ?_ fun _=>rfl;go_simp
  .have d1:ev (aD 7)=_:=hd.1 rfl;have d2:ev (aD 8)=_:=hd.2.1 rfl;have d4:ev (aD 10)=_:=hd.2.2.1 rfl;refine Lag.Yields.call (f:=114) (args:=#[aO (b.cells bn aL az),aO a.cells,ah af (bE pl)]) ?_ (Fv b hb bn aL az a ha (bE pl) Hh _) ?_
   .go_simp
   rintro e w2 ⟨g,cap,cur,rfl,h1,h2,h3,h4,h5,h6⟩;exact⟨_,rfl,⟨g,cap,cur,rfl,h3,h4,h5⟩,.inl h6⟩
  .have q:=HS.out w1 hS;have y:=aF q.2.2.2.1 0 _ rfl;exact tV
  .have d6:ev (aD 12)=_:=hd.1 rfl;exact tV
  .have d7:ev (aD 13)=_:=hd.2.1 rfl;obtain⟨g,cap,cur,e11,H9,hgb,rD⟩:=hd.1 rfl;replace e11:ev (aD 11)=_:=e11;refine yv (v:=pv g (mi-1)) ?_ (⟨g,rfl,aF hgb _ _ (rD _ _ ab8),(ag.1 hgb).1⟩);go_simp;intro hx;exfalso;omega
  .obtain⟨g,EI,hcl,_⟩:=hd.1 rfl;replace EI:ev (aD 14)=_:=EI;exact tV
  have d9:ev (aD 15)=_:=hd.1 rfl;refine yv (v:=ev (aD 15)) ?_ (d9);rfl
 case rfin=>
  intro a2 w2 hR;have hS:=hR.s;have Eh:a2.tmps.getD 5 au=_:=hR.val 10;have Tp:a2=⟨#[a2.tmps.getD 0 au,a2.tmps.getD 1 au,a2.tmps.getD 2 au,a2.tmps.getD 3 au,a2.tmps.getD 4 au,a2.tmps.getD 5 au,a2.tmps.getD 6 au,a2.tmps.getD 7 au,a2.tmps.getD 8 au,a2.tmps.getD 9 au,a2.tmps.getD 10 au,a2.tmps.getD 11 au,a2.tmps.getD 12 au,a2.tmps.getD 13 au,a2.tmps.getD 14 au,a2.tmps.getD 15 au],[]⟩:=hR.act;clear hR;rw[Eh] at Tp;clear Eh;generalize a2.tmps.getD 0 au=s0,a2.tmps.getD 1 au=s1,a2.tmps.getD 2 au=s2,a2.tmps.getD 3 au=s3,a2.tmps.getD 4 au=s4,a2.tmps.getD 6 au=s6,a2.tmps.getD 7 au=s7,a2.tmps.getD 8 au=s8,a2.tmps.getD 9 au=s9,a2.tmps.getD 10 au=s10,a2.tmps.getD 11 au=s11,a2.tmps.getD 12 au=s12,a2.tmps.getD 13 au=s13,a2.tmps.getD 14 au=s14,a2.tmps.getD 15 au=s15 at Tp;have HF:=aj (HS.out w2 hS).2.2.2.2.2;clear hS;subst Tp;go_wp2
  go_ret
  exact⟨rfl,HF.out⟩
end Go.Proofs.YtffladgmkiimjaaGreatDoor
