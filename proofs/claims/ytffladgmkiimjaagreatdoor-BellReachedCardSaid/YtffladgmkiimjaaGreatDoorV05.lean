/- DERIVED: THE SHELF's CONTRACTS AT THIS DUMP, IN PLAIN WORDS (tools/lay .. -/
import Derived.Shelf.Slices.CompactI
import Derived.Shelf.Slices.Clone
import Derived.Shelf.Sort.Plain
import Derived.Sort.OwnSortedInts
import Derived.Lib.OwnBridge
import Derived.Test.YtffladgmkiimjaaGreatDoorV02
set_option linter.all false
set_option maxHeartbeats 0
set_option maxRecDepth 1000000
open Array renaming getElem?_eq_some_iff -> ah
open Go renaming Calls -> a_,Value -> aj,World -> ak,undef -> ar,wpList_append_own -> iM
open Go.Addr renaming add -> mg
open Go.Ending renaming returned -> aU
open Go.IntKind renaming i64 -> af
open Go.Lib renaming hid -> ai,compact -> u_
open Go.Obj renaming cells -> au
open Go.Operand renaming tmp -> aI
open Go.Proofs.Tryz renaming prog -> aq,underlying3 -> dR,underlying25 -> gO
open Go.RowKit renaming Below -> fX
open Go.RowKit.Below renaming refl -> ay
open Go.Value renaming int -> aD,agg -> aN,slice -> ae,int -> ag,oneCell' -> bK
open Go.World renaming alloc_heap_new -> ax,size_alloc -> dQ,ownsRow_nil -> eD
open List renaming eq_nil_of_length_eq_zero -> aX,getElem_mem -> bG,take_succ_eq_append_getElem -> bV,length_pos_iff -> cB,take_of_length_le -> cU,map_append -> eG,length_map -> fM,length_mergeSort -> lV
open Nat renaming le_refl -> aJ
namespace Go.Proofs
open Go.Shelf
def Tryz.Li:Go.Shelf.Ren:=⟨fun|189=>172|125=>181|257=>180|128=>194|129=>195|294=>185|295=>186|296=>187|297=>188|298=>189|299=>190|216=>191|300=>192|301=>193|328=>196|329=>197|330=>198|331=>199|332=>200|215=>179|343=>201|n=>n,fun|28=>25|3=>3|46=>192|0=>0|51=>204|53=>206|4=>4|183=>197|182=>196|131=>72|5=>5|9=>9|218=>207|222=>211|228=>213|229=>214|n=>n,fun|n=>n⟩
def Tryz.Xe:Go.Proofs.Lays.n189 aq Tryz.Li:={
 mixed:=by kernel_rfl
 f125:=Tryz.func181.trans (congrArg some (by kernel_rfl))
 f128:=Tryz.func194.trans (congrArg some (by kernel_rfl))
 f129:=Tryz.func195.trans (congrArg some (by kernel_rfl))
 f189:=Tryz.func172.trans (congrArg some (by kernel_rfl))
 f215:=Tryz.func179.trans (congrArg some (by kernel_rfl))
 f216:=Tryz.func191.trans (congrArg some (by kernel_rfl))
 f257:=Tryz.func180.trans (congrArg some (by kernel_rfl))
 f294:=Tryz.func185.trans (congrArg some (by kernel_rfl))
 f295:=Tryz.func186.trans (congrArg some (by kernel_rfl))
 f296:=Tryz.func187.trans (congrArg some (by kernel_rfl))
 f297:=Tryz.func188.trans (congrArg some (by kernel_rfl))
 f298:=Tryz.func189.trans (congrArg some (by kernel_rfl))
 f299:=Tryz.func190.trans (congrArg some (by kernel_rfl))
 f300:=Tryz.func192.trans (congrArg some (by kernel_rfl))
 f301:=Tryz.func193.trans (congrArg some (by kernel_rfl))
 f328:=Tryz.func196.trans (congrArg some (by kernel_rfl))
 f329:=Tryz.func197.trans (congrArg some (by kernel_rfl))
 f330:=Tryz.func198.trans (congrArg some (by kernel_rfl))
 f331:=Tryz.func199.trans (congrArg some (by kernel_rfl))
 f332:=Tryz.func200.trans (congrArg some (by kernel_rfl))
 f343:=Tryz.func201.trans (congrArg some (by kernel_rfl))
 t0:=Tryz.underlying0
 a0:=Tryz.isAgg0
 z0:=Tryz.sizeOf0
 v0:=Tryz.zeroValue0
 t3:=dR
 a3:=Tryz.isAgg3
 z3:=Tryz.sizeOf3
 v3:=Tryz.zeroValue3
 t4:=Tryz.underlying4
 a4:=Tryz.isAgg4
 z4:=Tryz.sizeOf4
 v4:=Tryz.zeroValue4
 t5:=Tryz.underlying5
 a5:=Tryz.isAgg5
 z5:=Tryz.sizeOf5
 v5:=Tryz.zeroValue5
 t9:=Tryz.underlying9
 a9:=Tryz.isAgg9
 z9:=Tryz.sizeOf9
 v9:=Tryz.zeroValue9
 t28:=gO
 a28:=Tryz.isAgg25
 z28:=Tryz.sizeOf25
 v28:=Tryz.zeroValue25
 t46:=Tryz.underlying192
 a46:=Tryz.isAgg192
 z46:=Tryz.sizeOf192
 v46:=Tryz.zeroValue192
 t51:=Tryz.underlying204
 a51:=Tryz.isAgg204
 z51:=Tryz.sizeOf204
 v51:=Tryz.zeroValue204
 t53:=Tryz.underlying206
 a53:=Tryz.isAgg206
 z53:=Tryz.sizeOf206
 v53:=Tryz.zeroValue206
 t131:=Tryz.underlying72
 a131:=Tryz.isAgg72
 z131:=Tryz.sizeOf72
 v131:=Tryz.zeroValue72
 t182:=Tryz.underlying196
 a182:=Tryz.isAgg196
 z182:=Tryz.sizeOf196
 v182:=Tryz.zeroValue196
 t183:=Tryz.underlying197
 a183:=Tryz.isAgg197
 z183:=Tryz.sizeOf197
 v183:=Tryz.zeroValue197
 t218:=Tryz.underlying207
 a218:=Tryz.isAgg207
 z218:=Tryz.sizeOf207
 v218:=Tryz.zeroValue207
 t222:=Tryz.underlying211
 a222:=Tryz.isAgg211
 z222:=Tryz.sizeOf211
 v222:=Tryz.zeroValue211
 t228:=Tryz.underlying213
 a228:=Tryz.isAgg213
 z228:=Tryz.sizeOf213
 v228:=Tryz.zeroValue213
 t229:=Tryz.underlying214
 a229:=Tryz.isAgg214
 z229:=Tryz.sizeOf214
 v229:=Tryz.zeroValue214 }
def Tryz.NL:Go.Shelf.Ren:=⟨fun|20=>173|n=>n,fun|22=>25|3=>3|4=>4|0=>0|n=>n,fun|n=>n⟩
def Tryz.ZU:Go.Proofs.Lays2.n20 aq Tryz.NL:={
 mixed:=by kernel_rfl
 f20:=Tryz.func173.trans (congrArg some (by kernel_rfl))
 t0:=Tryz.underlying0
 a0:=Tryz.isAgg0
 z0:=Tryz.sizeOf0
 v0:=Tryz.zeroValue0
 t3:=dR
 a3:=Tryz.isAgg3
 z3:=Tryz.sizeOf3
 v3:=Tryz.zeroValue3
 t4:=Tryz.underlying4
 a4:=Tryz.isAgg4
 z4:=Tryz.sizeOf4
 v4:=Tryz.zeroValue4
 t22:=gO
 a22:=Tryz.isAgg25
 z22:=Tryz.sizeOf25
 v22:=Tryz.zeroValue25
 i3:=by kernel_rfl }
end Go.Proofs
namespace Go.Proofs.YtffladgmkiimjaaGreatDoor
open Go.RowKit Go.Lag Go.Sort
def sorted(zs:List Int):List Int:=zs.mergeSort fun x y=>decide (x<=y)
def DF{w:ak}{base g cap:Nat}{zs:List Int}(h:w.ownsRow base 3 1 (ae (some ⟨g,0,none⟩) zs.length cap) zs.length (zs.map (aD af)))(hlen:zs.length<4611686018427387904)(hb0:base<=w.heap.size) :
  a_ aq 172 #[ae (some ⟨g,0,none⟩) zs.length cap] w fun e w'=>e=aU (.tuple #[])/\w'.ownsRow base 3 1 (ae (some ⟨g,0,none⟩) zs.length cap) zs.length ((sorted zs).map (aD af))/\fX base w w':=by
 rcases h.2 with⟨h0,_⟩|⟨g',cap',cur,hv,hbase,hb,h1,h2,h3,h4⟩
 .cases h0
 cases hv;have hl2:(sorted zs).length=zs.length:=lV zs;have hH:Holds (aD af) w g 0 zs.toArray:=holds_of_blockI hb (by rw[Nat.mul_one] at h4;exact h4);have Cl:g<w.heap.size:=(ah.1 hb).1;refine(show a_ aq 172 #[ae (some ⟨g,0,none⟩) zs.length cap] w _ from Any.slices_Sort_int Tryz.Xe g 0 cap zs w hH Cl hlen).mono ?_;rintro e w' ⟨rfl,n,os,rfl⟩;exact⟨rfl,ownsRow_sortedI (ts:=sorted zs) hl2 hbase hb h1 h2 h3,(ay _ _).grown (grownBy_sortedI _) hb0 fun j hj=>by cases hj;exact hbase⟩
def vK{w:ak}{base g cap:Nat}{zs:List Int}(h:w.ownsRow base 3 1 (ae (some ⟨g,0,none⟩) zs.length cap) zs.length (zs.map (aD af)))(hlen:zs.length<=9223372036854775807) :
  a_ aq 173 #[ae (some ⟨g,0,none⟩) zs.length cap] w fun e w'=>e=aU (ae (some ⟨g,0,none⟩) (u_ zs).length cap)/\w'.ownsRow base 3 1 (ae (some ⟨g,0,none⟩) (u_ zs).length cap) (u_ zs).length ((u_ zs).map (aD af))/\fX base w w':=by
 have h':=h;rcases h.2 with⟨h0,_⟩|⟨g',cap',cur,hv,hbase,hb,h1,h2,h3,h4⟩
 .cases h0
 cases hv;have hle:=Lib.compact_length_le zs;have hH:Holds (aD af) w g 0 zs.toArray:=holds_of_blockI hb (by rw[Nat.mul_one] at h4;exact h4);refine(show a_ aq 173 #[ae (some ⟨g,0,none⟩) zs.length cap] w _ from Any.slices_Compact_int Tryz.ZU g 0 cap zs w hH hlen h1).mono ?_;rintro e w' ⟨rfl,q,rfl⟩;have hc:=Lib.ownsRow_putRow (q:=q) (k:=(u_ zs).length) (ys:=u_ zs++List.replicate (zs.length-(u_ zs).length) 0) h' sO oM;rw[List.take_left] at hc;exact⟨rfl,hc,Lib.below_putRow (ay _ _) hbase⟩
def dE(of:dS->Int)(l:List dS):List Int:=u_ (sorted (l.map of))
def NF(b:BB)(bm aH az:aj)(l:List dS)(hl:l≠[])(hl2:l.length<=1000)(of:dS->Int)(cp:Nat)(w:ak)(v:aj)(hv:Reads w v l.length (rowOf l))
  (zG:∀a∈l,∀W,Bw w W->a_ aq 128 #[aN a.cells,pv cp 0] W fun e W'=>e=aU (ag af (of a))/\Bw W W') :
  a_ aq 124 #[aN (b.open bm aH az v),.func (.func 128) #[] #[pv cp 0]] w fun e w'=>∃gn cn,e=aU (ae (some ⟨gn,0,none⟩) (dE of l).length cn)/\w'.ownsRow w.heap.size 3 1 (ae (some ⟨gn,0,none⟩) (dE of l).length cn) (dE of l).length ((dE of l).map (aD af))/\Bw w w':=by
 obtain⟨i0,hi,hz0,hz1,hz2⟩:=info_parts info3
 obtain⟨g,off,cap,rfl,hn,hg,hc⟩:∃g off cap,v=ae (some ⟨g,off,none⟩) l.length cap/\(l.length<=4294967296/\l.length<=cap)/\g<w.heap.size/\∀j u,(rowOf l)[j]?=some u->w.cell? ⟨g,off+j,none⟩=some u:=by
  rcases hv with⟨_,h,_⟩|h
  .exact(hl (aX h)).elim
  exact h
 have jS:0<l.length:=cB.2 hl;have HC:=ai hc;have MP:=ai zG;clear hc zG hv hl;generalize hL:l.length=L at *;have HL:=ai hL;clear hL;have b1:Bw w (w.alloc (au (b.open bm aH az (ae (some ⟨g,off,none⟩) L cap)) 122)):=cY;have vV:=ai b1;clear b1
 go_enter Tryz.func124,Tryz.ntmps124
 go_wp2
 go_loopw [5,7,11] (fun out _ i wr=>∃k:Nat,k<=L/\i=ag af k/\wr.ownsRow (w.heap.size+1) 3 1 out k ((l.take k).map fun a=>aD af (of a))/\fX (w.heap.size+1) (w.alloc (au (b.open bm aH az (ae (some ⟨g,off,none⟩) L cap)) 122)) wr) (fun _ _ i _=>L-(intOf i).toNat)
 case atStart=>exact⟨0,oM,rfl,by simpa using eD _ _ _ _,ay _ _⟩
 case round=>
  obtain⟨k,hk,rfl,hown,eb⟩:=hrel;have hsz:=eb.size;simp at hsz;have r5:Bw w wr:=vV.out.trans (eb.mono oM)
  by_cases hlt:k<L
  .have jT:k<l.length:=by rw[HL.out];exact hlt
   obtain⟨hc0,hc1,hc2,hc3⟩:=Reads.cell (w:=wr) (cap:=cap) (n:=L) (fun j u hj=>(r5.cell (p:=⟨g,off+j,none⟩) hg).trans (HC.out j u hj)) k jT;have su:(l.take (k+1)).map (fun a=>aD af (of a))=(l.take k).map (fun a=>aD af (of a))++[ag af (of l[k])]:=by rw[bV jT,eG];rfl
   have hcl:=fun W hb=>MP.out l[k] (bG jT) W hb;have HT:=ai su;have HK:=ai hcl;clear su hcl;generalize l[k]=a at *;have Qg:=ai r5;clear r5
   go_wp2_with (first
    |(go_at_call 128;refine(HK.out _ (Qg.out.alloc oM _)).mono ?_;rintro e w2 ⟨rfl,hb2⟩
      have hs2:=hb2.size;simp only[dQ] at hs2;have hown2:w2.ownsRow (w.heap.size+1) 3 1 u5 k ((l.take k).map fun a=>aD af (of a)):=fV (hown.alloc _) fun g hg=>hb2.block g (by have:=(hown.lt g hg).2;simp;omega);have nN:=ai hb2
      have Vz:Hid (∀(j:Nat) (u:aj),([ag af (of a)]:List aj)[j]?=some u->(w2.alloc (au #[ag af (of a)] 3)).cell? ((⟨w2.heap.size,0,none⟩:Addr).add j)=some u):=ai fun j u hj=>by
       match j,hj with
       |0,hj=>simp at hj;subst hj;simp[mg]
      clear hb2)
    |(at_builtin;refine iM _ rfl _ _ 25 rfl (w.heap.size+1) 3 i0 (ag af 0) 1 8 gO hi hz0 hz1 hz2 rfl dC _ _ _ rfl (hown2.alloc _) ⟨w2.heap.size,0,none⟩ 1 1 [ag af (of a)] rfl rfl Vz.out (by simp[bK]) (by unfold maxLen;omega) oM sO ?_;intro v' w3 EH hgrow hnil))
   go_roundw
   case rel=>
    have h1:fX (w.heap.size+1) wr w2:=((ay _ wr).alloc oM _).trans (nN.out.mono sO);exact⟨k+1,oM,sM,by rw[HT.out];exact EH,eb.trans (tI oM hown2 h1 hgrow)⟩
   case measure=>simp[intOf];omega
  obtain rfl:k=L:=oM;have Kc:l.take k=l:=cU (by rw[HL.out];exact aJ _);rw[Kc,show(fun a=>aD af (of a))=(aD af ∘ of) from rfl,<-List.map_map] at hown;have SM:(l.map of).length=k:=by rw[fM];exact HL.out
  obtain⟨k',rfl⟩:∃k',k=k'+1:=⟨k-1,oM⟩
  obtain⟨go,co,rfl⟩:=ownsRow_succ hown;rw[<-SM] at hown;have HO:=ai hown;have Qg:=ai r5;have VD:=ai SM;have HN:=ai eb;clear hown r5 Kc eb SM;have EC:=DF HO.out (by rw[VD.out];omega) oM;rw[VD.out] at EC;have HSO:=ai EC;clear EC
  go_wp2_with (first
   |(go_at_call 172;refine HSO.out.mono ?_;rintro e w2 ⟨rfl,ho2,hb2⟩
     have hs2:(sorted (l.map of)).length=k'+1:=(lV _).trans VD.out;rw[<-hs2] at ho2;have wE:=vK ho2 oM;rw[hs2] at wE;have HCP:=ai wE;have nN:=ai hb2
     clear wE ho2 hb2 hs2)
   |(go_at_call 173;refine HCP.out.mono ?_;rintro e w3 ⟨rfl,YM,hb3⟩;have HO3:=ai YM;have o8:=ai hb3;clear YM hb3))
  go_ret
  refine⟨go,co,rfl,ownsRow_base HO3.out oM,Qg.out.trans ((nN.out.mono oM).trans (o8.out.mono oM))⟩
def dS.get(a:dS)(lU:Nat):Int:=
 match lU with
 |0=>a.m0
 |1=>a.m1
 |_=>a.m2
def AQ(b:BB)(bm aH az:aj)(n:Nat)(L:Nat)(p:Option Addr)(cap:Nat)(hm:bm=ae p L cap)(h:n<L)(hL:L<=3)(w:ak):a_ aq 127 #[aN (b.cells bm aH az),ag af n] w (Rt w (.bool true)):=by
 subst hm;have z:IntKind.i64.wrap ((L:Int)-1)=(L:Int)-1:=fC _ oM oM
 go_enter Tryz.func127,Tryz.ntmps127
 go_wp2_with (go_at_call 138;refine(je _ _ _ oM oM _).mono ?_;rintro e w' ⟨rfl,rfl⟩)
 go_ret
 exact⟨rfl,cY⟩
def P1(b:BB)(bm aH az:aj)(n:Nat)(L:Nat)(p:Option Addr)(cap:Nat)(hm:bm=ae p L cap)(h:n<L)(hL:L<=3)(cp:Nat)(w:ak)(hcl:cp<w.heap.size)(hc:w.cell? ⟨cp,0,none⟩=some (ag af n)) :
  a_ aq 126 #[aN (b.cells bm aH az),pv cp 0] w (Rt w (ag af 0)):=by
 have b1:Bw w (w.alloc (au (b.cells bm aH az) 119)):=cY;have hc1:=(b1.cell (p:=⟨cp,0,none⟩) hcl).trans hc;have HI:=ai (AQ b bm aH az n L p cap hm h hL);have vV:=ai b1;clear b1 hc hm
 go_enter Tryz.func126,Tryz.ntmps126
 go_wp2_with (go_at_call 127;refine(HI.out _).mono ?_;rintro e w' ⟨rfl,hb⟩;have HB:=ai hb;clear hb)
 go_ret
 exact⟨rfl,vV.out.trans (HB.out.mono vV.out.size)⟩
def X6(a:dS)(n:Nat)(h:n<3)(cp:Nat)(w:ak)(hcl:cp<w.heap.size)(hc:w.cell? ⟨cp,0,none⟩=some (ag af n)) :
  a_ aq 128 #[aN a.cells,pv cp 0] w (Rt w (ag af (a.get n))):=by
 have b1:Bw w (w.alloc (au a.cells 134)):=cY;have hc1:=(b1.cell (p:=⟨cp,0,none⟩) hcl).trans hc;have hb:=ax w (au a.cells 134)
 have hx:(w.alloc (au a.cells 134)).cell? ⟨w.heap.size,1+n,none⟩=some (ag af (a.get n)):=by
  match n,h with
  |0,_=>exact aK hb 1 _ rfl
  |1,_=>exact aK hb 2 _ rfl
  |2,_=>exact aK hb 3 _ rfl
 have vV:=ai b1;clear b1 hc hb
 go_enter Tryz.func128,Tryz.ntmps128
 go_wp2
 go_ret
 exact⟨rfl,vV.out⟩
def yL(b:BB)(bm aH az:aj)(ml:List Mn)(ss:List Int)(ms:List Mk)(w:ak)(hL:Laid w)(hB:bW b bm aH az ml ss ms w)(hne:aT b ml ss ms≠[])(n:Nat)(hn:n<ml.length) :
  a_ aq 58 #[aN (b.cells bm aH az),ag af n] w fun e w'=>∃v,e=aU (.tuple #[v,ag af 0])/\Reads w' v (dE (fun a=>a.get n) (aT b ml ss ms)).length ((dE (fun a=>a.get n) (aT b ml ss ms)).map (aD af))/\Bw w w':=by
 have hlen:=ic ss ms hB.ok hB.eT;have jS:0<(aT b ml ss ms).length:=cB.2 hne;have NU:=hB.eT.len;obtain⟨pm,cm,rfl,_⟩:=aR hB.rm;obtain⟨pn,cn,rfl,_⟩:=aR hB.rs;obtain⟨pk,ck,rfl,_⟩:=aR hB.rk;have b0:Bw w ((w.alloc (au (b.sl pm ml.length cm pn ss.length cn pk ms.length ck) 28)).alloc (au #[ag af n] 3)):=cY.alloc sM _
 have ht:Two w (b.sl pm ml.length cm pn ss.length cn pk ms.length ck) 28 #[ag af n] 3 ((w.alloc (au (b.sl pm ml.length cm pn ss.length cn pk ms.length ck) 28)).alloc (au #[ag af n] 3)):=
  ⟨(Two.mk' w _ _ _ _).one,(Two.mk' w _ _ _ _).two,b0,sM⟩
 have hop:=WI b (ae pm ml.length cm) (ae pn ss.length cn) (ae pk ms.length ck) ml ss ms _ (hL.below b0) (hB.below b0) hne (w.heap.size+1) (fun W hb=>by
  have h1:=(hb.block (w.heap.size+1) sM).trans ht.two
  exact P1 b _ _ _ n ml.length pm cm rfl hn NU _ W (ah.1 h1).1 (aK h1 0 _ rfl))
 have HO:=ai hop;have HT:=ai ht;clear hop ht hL hB b0;generalize aT b ml ss ms=all at *;generalize hM:ml.length=lm at *;generalize ss.length=ln at *;generalize ms.length=lk at *;clear hM
 go_enter Tryz.func58,Tryz.ntmps58
 go_wp2_with (first
  |(go_at_call 103;refine HO.out.mono ?_;clear HO;rintro e w1 ⟨v,rfl,iH,hb1⟩
    have sw:=HT.out.next hb1
    obtain⟨gv,cv,rfl⟩:∃gv cv,v=ae (some ⟨gv,0,none⟩) all.length cv:=by
     rcases iH.1.2 with⟨_,h0⟩|⟨g,cap,cur,rfl,_⟩
     .omega
     exact⟨g,cap,rfl⟩
    have o7:=ai sw;have Sv:Hid (Reads (w1.alloc (au (b.open (ae pm lm cm) (ae pn ln cn) (ae pk lk ck) (ae (some ⟨gv,0,none⟩) all.length cv)) 122)) (ae (some ⟨gv,0,none⟩) all.length cv) all.length (rowOf all)):=ai ((iH.reads oM).below cY)
    have HNu:=ai (NF b (ae pm lm cm) (ae pn ln cn) (ae pk lk ck) all hne oM (fun a=>a.get n) (w.heap.size+1) _ _ Sv.out (fun a _ W hb=>by
     have h1:=((o7.out.next ((ay _ _).alloc (aJ _) (au (b.open (ae pm lm cm) (ae pn ln cn) (ae pk lk ck) (ae (some ⟨gv,0,none⟩) all.length cv)) 122))).next hb).two
     exact X6 a n oM _ W (ah.1 h1).1 (aK h1 0 _ rfl)))
    clear sw iH hb1)
  |(go_at_call 124;refine HNu.out.mono ?_;rintro e w2 ⟨gn,cgn,rfl,ho2,hb2⟩;have Zm:=ai ho2;have nN:=ai hb2;clear ho2 hb2))
 go_ret2;have hb3:=o7.out.below.alloc (by have:=o7.out.size;omega) (au (b.open (ae pm lm cm) (ae pn ln cn) (ae pk lk ck) (ae (some ⟨gv,0,none⟩) all.length cv)) 122)
 have hnl:(dE (fun a=>a.get n) all).length<=1000:=by
  have h1:=Lib.compact_length_le (sorted (all.map fun a=>a.get n));have h2:(sorted (all.map fun a=>a.get n)).length=all.length:=(lV _).trans (fM _);unfold dE;omega
 exact⟨_,rfl,Reads.jL Zm.out oM sM,hb3.trans (nN.out.mono hb3.size)⟩
def KW(b:BB)(bm aH az:aj)(l:List dS)(hl:l≠[])(hl2:l.length<=1000)(of:dS->Int)(cp cq cr:Nat)(w:ak)(v:aj)(hv:Reads w v l.length (rowOf l))
  (zG:∀a∈l,∀W,Bw w W->a_ aq 133 #[aN a.cells,pv cp 0,pv cq 0,pv cr 0] W fun e W'=>e=aU (ag af (of a))/\Bw W W') :
  a_ aq 124 #[aN (b.open bm aH az v),.func (.func 133) #[] #[pv cp 0,pv cq 0,pv cr 0]] w fun e w'=>∃gn cn,e=aU (ae (some ⟨gn,0,none⟩) (dE of l).length cn)/\w'.ownsRow w.heap.size 3 1 (ae (some ⟨gn,0,none⟩) (dE of l).length cn) (dE of l).length ((dE of l).map (aD af))/\Bw w w':=by
 obtain⟨i0,hi,hz0,hz1,hz2⟩:=info_parts info3
 obtain⟨g,off,cap,rfl,hn,hg,hc⟩:∃g off cap,v=ae (some ⟨g,off,none⟩) l.length cap/\(l.length<=4294967296/\l.length<=cap)/\g<w.heap.size/\∀j u,(rowOf l)[j]?=some u->w.cell? ⟨g,off+j,none⟩=some u:=by
  rcases hv with⟨_,h,_⟩|h
  .exact(hl (aX h)).elim
  exact h
 have jS:0<l.length:=cB.2 hl;have HC:=ai hc;have MP:=ai zG;clear hc zG hv hl;generalize hL:l.length=L at *;have HL:=ai hL;clear hL;have b1:Bw w (w.alloc (au (b.open bm aH az (ae (some ⟨g,off,none⟩) L cap)) 122)):=cY;have vV:=ai b1;clear b1
 go_enter Tryz.func124,Tryz.ntmps124
 go_wp2
 go_loopw [5,7,11] (fun out _ i wr=>∃k:Nat,k<=L/\i=ag af k/\wr.ownsRow (w.heap.size+1) 3 1 out k ((l.take k).map fun a=>aD af (of a))/\fX (w.heap.size+1) (w.alloc (au (b.open bm aH az (ae (some ⟨g,off,none⟩) L cap)) 122)) wr) (fun _ _ i _=>L-(intOf i).toNat)
 case atStart=>exact⟨0,oM,rfl,by simpa using eD _ _ _ _,ay _ _⟩
 case round=>
  obtain⟨k,hk,rfl,hown,eb⟩:=hrel;have hsz:=eb.size;simp at hsz;have r5:Bw w wr:=vV.out.trans (eb.mono oM)
  by_cases hlt:k<L
  .have jT:k<l.length:=by rw[HL.out];exact hlt
   obtain⟨hc0,hc1,hc2,hc3⟩:=Reads.cell (w:=wr) (cap:=cap) (n:=L) (fun j u hj=>(r5.cell (p:=⟨g,off+j,none⟩) hg).trans (HC.out j u hj)) k jT;have su:(l.take (k+1)).map (fun a=>aD af (of a))=(l.take k).map (fun a=>aD af (of a))++[ag af (of l[k])]:=by rw[bV jT,eG];rfl
   have hcl:=fun W hb=>MP.out l[k] (bG jT) W hb;have HT:=ai su;have HK:=ai hcl;clear su hcl;generalize l[k]=a at *;have Qg:=ai r5;clear r5
   go_wp2_with (first
    |(go_at_call 133;refine(HK.out _ (Qg.out.alloc oM _)).mono ?_;rintro e w2 ⟨rfl,hb2⟩
      have hs2:=hb2.size;simp only[dQ] at hs2;have hown2:w2.ownsRow (w.heap.size+1) 3 1 u5 k ((l.take k).map fun a=>aD af (of a)):=fV (hown.alloc _) fun g hg=>hb2.block g (by have:=(hown.lt g hg).2;simp;omega);have nN:=ai hb2
      have Vz:Hid (∀(j:Nat) (u:aj),([ag af (of a)]:List aj)[j]?=some u->(w2.alloc (au #[ag af (of a)] 3)).cell? ((⟨w2.heap.size,0,none⟩:Addr).add j)=some u):=ai fun j u hj=>by
       match j,hj with
       |0,hj=>simp at hj;subst hj;simp[mg]
      clear hb2)
    |(at_builtin;refine iM _ rfl _ _ 25 rfl (w.heap.size+1) 3 i0 (ag af 0) 1 8 gO hi hz0 hz1 hz2 rfl dC _ _ _ rfl (hown2.alloc _) ⟨w2.heap.size,0,none⟩ 1 1 [ag af (of a)] rfl rfl Vz.out (by simp[bK]) (by unfold maxLen;omega) oM sO ?_;intro v' w3 EH hgrow hnil))
   go_roundw
   case rel=>
    have h1:fX (w.heap.size+1) wr w2:=((ay _ wr).alloc oM _).trans (nN.out.mono sO);exact⟨k+1,oM,sM,by rw[HT.out];exact EH,eb.trans (tI oM hown2 h1 hgrow)⟩
   case measure=>simp[intOf];omega
  obtain rfl:k=L:=oM;have Kc:l.take k=l:=cU (by rw[HL.out];exact aJ _);rw[Kc,show(fun a=>aD af (of a))=(aD af ∘ of) from rfl,<-List.map_map] at hown;have SM:(l.map of).length=k:=by rw[fM];exact HL.out
  obtain⟨k',rfl⟩:∃k',k=k'+1:=⟨k-1,oM⟩
  obtain⟨go,co,rfl⟩:=ownsRow_succ hown;rw[<-SM] at hown;have HO:=ai hown;have Qg:=ai r5;have VD:=ai SM;have HN:=ai eb;clear hown r5 Kc eb SM;have EC:=DF HO.out (by rw[VD.out];omega) oM;rw[VD.out] at EC;have HSO:=ai EC;clear EC
  go_wp2_with (first
   |(go_at_call 172;refine HSO.out.mono ?_;rintro e w2 ⟨rfl,ho2,hb2⟩
     have hs2:(sorted (l.map of)).length=k'+1:=(lV _).trans VD.out;rw[<-hs2] at ho2;have wE:=vK ho2 oM;rw[hs2] at wE;have HCP:=ai wE;have nN:=ai hb2
     clear wE ho2 hb2 hs2)
   |(go_at_call 173;refine HCP.out.mono ?_;rintro e w3 ⟨rfl,YM,hb3⟩;have HO3:=ai YM;have o8:=ai hb3;clear YM hb3))
  go_ret
  refine⟨go,co,rfl,ownsRow_base HO3.out oM,Qg.out.trans ((nN.out.mono oM).trans (o8.out.mono oM))⟩
def ND(b:BB)(bm aH az:aj)(l:List dS)(hl:l≠[])(hl2:l.length<=1000)(of:dS->Int)(w:ak)(v:aj)(hv:Reads w v l.length (rowOf l))
  (zG:∀a∈l,∀W,Bw w W->a_ aq 125 #[aN a.cells] W fun e W'=>e=aU (ag af (of a))/\Bw W W') :
  a_ aq 124 #[aN (b.open bm aH az v),.func (.func 125) #[] #[]] w fun e w'=>∃gn cn,e=aU (ae (some ⟨gn,0,none⟩) (dE of l).length cn)/\w'.ownsRow w.heap.size 3 1 (ae (some ⟨gn,0,none⟩) (dE of l).length cn) (dE of l).length ((dE of l).map (aD af))/\Bw w w':=by
 obtain⟨i0,hi,hz0,hz1,hz2⟩:=info_parts info3
 obtain⟨g,off,cap,rfl,hn,hg,hc⟩:∃g off cap,v=ae (some ⟨g,off,none⟩) l.length cap/\(l.length<=4294967296/\l.length<=cap)/\g<w.heap.size/\∀j u,(rowOf l)[j]?=some u->w.cell? ⟨g,off+j,none⟩=some u:=by
  rcases hv with⟨_,h,_⟩|h
  .exact(hl (aX h)).elim
  exact h
 have jS:0<l.length:=cB.2 hl;have HC:=ai hc;have MP:=ai zG;clear hc zG hv hl;generalize hL:l.length=L at *;have HL:=ai hL;clear hL;have b1:Bw w (w.alloc (au (b.open bm aH az (ae (some ⟨g,off,none⟩) L cap)) 122)):=cY;have vV:=ai b1;clear b1
 go_enter Tryz.func124,Tryz.ntmps124
 go_wp2
 go_loopw [5,7,11] (fun out _ i wr=>∃k:Nat,k<=L/\i=ag af k/\wr.ownsRow (w.heap.size+1) 3 1 out k ((l.take k).map fun a=>aD af (of a))/\fX (w.heap.size+1) (w.alloc (au (b.open bm aH az (ae (some ⟨g,off,none⟩) L cap)) 122)) wr) (fun _ _ i _=>L-(intOf i).toNat)
 case atStart=>exact⟨0,oM,rfl,by simpa using eD _ _ _ _,ay _ _⟩
 case round=>
  obtain⟨k,hk,rfl,hown,eb⟩:=hrel;have hsz:=eb.size;simp at hsz;have r5:Bw w wr:=vV.out.trans (eb.mono oM)
  by_cases hlt:k<L
  .have jT:k<l.length:=by rw[HL.out];exact hlt
   obtain⟨hc0,hc1,hc2,hc3⟩:=Reads.cell (w:=wr) (cap:=cap) (n:=L) (fun j u hj=>(r5.cell (p:=⟨g,off+j,none⟩) hg).trans (HC.out j u hj)) k jT;have su:(l.take (k+1)).map (fun a=>aD af (of a))=(l.take k).map (fun a=>aD af (of a))++[ag af (of l[k])]:=by rw[bV jT,eG];rfl
   have hcl:=fun W hb=>MP.out l[k] (bG jT) W hb;have HT:=ai su;have HK:=ai hcl;clear su hcl;generalize l[k]=a at *;have Qg:=ai r5;clear r5
   go_wp2_with (first
    |(go_at_call 125;refine(HK.out _ (Qg.out.alloc oM _)).mono ?_;rintro e w2 ⟨rfl,hb2⟩
      have hs2:=hb2.size;simp only[dQ] at hs2;have hown2:w2.ownsRow (w.heap.size+1) 3 1 u5 k ((l.take k).map fun a=>aD af (of a)):=fV (hown.alloc _) fun g hg=>hb2.block g (by have:=(hown.lt g hg).2;simp;omega);have nN:=ai hb2
      have Vz:Hid (∀(j:Nat) (u:aj),([ag af (of a)]:List aj)[j]?=some u->(w2.alloc (au #[ag af (of a)] 3)).cell? ((⟨w2.heap.size,0,none⟩:Addr).add j)=some u):=ai fun j u hj=>by
       match j,hj with
       |0,hj=>simp at hj;subst hj;simp[mg]
      clear hb2)
    |(at_builtin;refine iM _ rfl _ _ 25 rfl (w.heap.size+1) 3 i0 (ag af 0) 1 8 gO hi hz0 hz1 hz2 rfl dC _ _ _ rfl (hown2.alloc _) ⟨w2.heap.size,0,none⟩ 1 1 [ag af (of a)] rfl rfl Vz.out (by simp[bK]) (by unfold maxLen;omega) oM sO ?_;intro v' w3 EH hgrow hnil))
   go_roundw
   case rel=>
    have h1:fX (w.heap.size+1) wr w2:=((ay _ wr).alloc oM _).trans (nN.out.mono sO);exact⟨k+1,oM,sM,by rw[HT.out];exact EH,eb.trans (tI oM hown2 h1 hgrow)⟩
   case measure=>simp[intOf];omega
  obtain rfl:k=L:=oM;have Kc:l.take k=l:=cU (by rw[HL.out];exact aJ _);rw[Kc,show(fun a=>aD af (of a))=(aD af ∘ of) from rfl,<-List.map_map] at hown;have SM:(l.map of).length=k:=by rw[fM];exact HL.out
  obtain⟨k',rfl⟩:∃k',k=k'+1:=⟨k-1,oM⟩
  obtain⟨go,co,rfl⟩:=ownsRow_succ hown;rw[<-SM] at hown;have HO:=ai hown;have Qg:=ai r5;have VD:=ai SM;have HN:=ai eb;clear hown r5 Kc eb SM;have EC:=DF HO.out (by rw[VD.out];omega) oM;rw[VD.out] at EC;have HSO:=ai EC;clear EC
  go_wp2_with (first
   |(go_at_call 172;refine HSO.out.mono ?_;rintro e w2 ⟨rfl,ho2,hb2⟩
     have hs2:(sorted (l.map of)).length=k'+1:=(lV _).trans VD.out;rw[<-hs2] at ho2;have wE:=vK ho2 oM;rw[hs2] at wE;have HCP:=ai wE;have nN:=ai hb2
     clear wE ho2 hb2 hs2)
   |(go_at_call 173;refine HCP.out.mono ?_;rintro e w3 ⟨rfl,YM,hb3⟩;have HO3:=ai YM;have o8:=ai hb3;clear YM hb3))
  go_ret
  refine⟨go,co,rfl,ownsRow_base HO3.out oM,Qg.out.trans ((nN.out.mono oM).trans (o8.out.mono oM))⟩
def Vn(b:BB)(hb:b.Ok)(bm aH az:aj)(pl:List Int)(hp:jD b pl)(mi:Nat)(h1:1<=mi)(h2:(mi:Int)<=b.minutes)(cp cq:Nat)(lv:aj)(w:ak)(wE:w.heap[cp]?=some (au #[lv] 25 (0,0)))(hcq:w.heap[cq]?=some (au #[ag af mi] 3 (0,0)))(hl:Reads w lv pl.length (pl.map (aD af))) :
  a_ aq 131 #[aN (b.cells bm aH az),pv cp 0,pv cq 0] w (Rt w (ag af 0)):=by
 have b1:Bw w (w.alloc (au (b.cells bm aH az) 119)):=cY;have lp:=(ah.1 wE).1;have lq:=(ah.1 hcq).1;have x1:=aK ((b1.block _ lp).trans wE) 0 _ rfl;have Zl:=ai (tT b hb bm aH az lv pl hp _ (hl.below b1));have vV:=ai b1;have HQ:=ai hcq;have HK:=ai (ax w (au (b.cells bm aH az) 119));clear wE hcq hl hp b1
 go_enter Tryz.func131,Tryz.ntmps131
 go_wp2_with (first
  |(go_at_call 113;refine Zl.out.mono ?_;clear Zl;rintro e w1 ⟨rfl,hb1⟩
    have nN:=ai hb1;obtain⟨y0,y1,y2,y3,y4,y5,y6,y7,y8,y9,M7,O3,OZ,OY,Ki⟩:=bU ((hb1.block w.heap.size sM).trans HK.out);have x2:=aK ((hb1.block _ sO).trans ((vV.out.block _ lq).trans HQ.out)) 0 _ rfl
    clear hb1)
  |(go_at_call 132;refine(nH b bm aH az mi oM h2 _).mono ?_;rintro e w2 ⟨rfl,hb2⟩;have o8:=ai hb2;clear hb2))
 go_ret
 have h1:=vV.out.trans (nN.out.mono vV.out.size);exact⟨rfl,h1.trans (o8.out.mono h1.size)⟩
def Vm(b:BB)(hb:b.Ok)(bm aH az v:aj)(pl:List Int)(hp:jD b pl)(mi:Nat)(h1:1<=mi)(h2:(mi:Int)<=b.minutes)(a:dS)(ha:a.Ok)(ob cp cq:Nat)(lv:aj)(w:ak)(zE:w.heap[ob]?=some (au (b.open bm aH az v) 122 (0,0)))
  (wE:w.heap[cp]?=some (au #[lv] 25 (0,0))) (hcq:w.heap[cq]?=some (au #[ag af mi] 3 (0,0))) (hl:Reads w lv pl.length (pl.map (aD af))) :
  a_ aq 133 #[aN a.cells,pv ob 0,pv cp 0,pv cq 0] w (Rt w (ag af (b.yG (b.cM+a.used) (bM pl) mi))):=by
 have AX:=hb.minutes;have pw:∀s∈pl,1<=s/\s<=8:=fun s h=>by have:=hp.mem s h;omega
 have Rk:bM pl<512:=nA pl pw;have b1:Bw w (w.alloc (au a.cells 134)):=cY;have hk:=ax w (au a.cells 134);have lo:=(ah.1 zE).1;have lp:=(ah.1 wE).1;have lq:=(ah.1 hcq).1
 have hS:∀w',fX (w.alloc (au a.cells 134)).heap.size (w.alloc (au a.cells 134)) w'->w'.heap[ob]?=some (au (b.open bm aH az v) 122 (0,0))/\w'.heap[w.heap.size]?=some (au a.cells 134 (0,0))/\w'.heap[cp]?=some (au #[lv] 25 (0,0))/\w'.heap[cq]?=some (au #[ag af mi] 3 (0,0))/\Reads w' lv pl.length (pl.map (aD af))/\Bw w w':=fun w' hb'=>by
  have hs:(w.alloc (au a.cells 134)).heap.size=w.heap.size+1:=sM;exact⟨(hb'.block _ oM).trans ((b1.block _ lo).trans zE),(hb'.block _ oM).trans hk,(hb'.block _ oM).trans ((b1.block _ lp).trans wE),(hb'.block _ oM).trans ((b1.block _ lq).trans hcq),(hl.below b1).below hb',b1.trans (hb'.mono oM)⟩
 have HS:=ai hS;clear hS zE wE hcq hl b1 hk;have hw1:IntKind.i64.wrap ((mi:Int)-1)=((mi-1:Nat):Int):=by rw[fC _ oM oM];omega
 have hlt:((mi-1:Nat):Int)<(b.minutes.toNat:Int):=oM;have hnn:(0:Int)<=((mi-1:Nat):Int):=oM
 have aau:((b.nz (b.cM+a.used) (bM pl) b.minutes.toNat).map (aD af))[mi-1]?=some (ag af (b.yG (b.cM+a.used) (bM pl) mi)):=by
  have h3:mi-1<b.minutes.toNat:=oM;have h4:mi-1+1=mi:=oM;simp[BB.nz,h3,h4]
 go_enter Tryz.func133,Tryz.ntmps133
 go_wp2
 refine cj kQ [
 pV (pv ob 0),
  pV (aN (b.cells bm aH az)),
  pV (aN a.cells),
  pV (lv),
  pV (ag af (bM pl)),
  fun v ds w9=>∃g cap,∃cur:Array aj,v=ae (some ⟨g,0,none⟩) b.minutes.toNat cap/\b.minutes.toNat<=cap/\w9.heap[g]?=some (au cur 3 (0,0))/\∀(j:Nat) (u:aj),((b.nz (b.cM+a.used) (bM pl) b.minutes.toNat).map (aD af))[j]?=some u->cur[j]?=some u,
  pV (ag af mi),
  pV (ag af ((mi-1:Nat):Int)),
  fun v ds w9=>∃g,v=pv g (mi-1)/\w9.cell? ⟨g,mi-1,none⟩=some (ag af (b.yG (b.cM+a.used) (bM pl) mi))/\g<w9.heap.size,
  pV (ag af (b.yG (b.cM+a.used) (bM pl) mi)),
  pV (ag af (b.yG (b.cM+a.used) (bM pl) mi))]
  (fun w9=>fX (w.alloc (au a.cells 134)).heap.size (w.alloc (au a.cells 134)) w9) [(1,pv ob 0),(2,pv cp 0),(3,pv cq 0),(4,pv w.heap.size 0)] kQ ?rst (fun w1 w2 h hb=>h.trans (hb.mono h.size)) ((ay _ _).drew) ⟨rfl,rfl,rfl,rfl,trivial⟩ ?reach ?rfin
 case rst=>
  refine⟨sV,sV,sV,sV,sV,?_,sV,sV,?_,sV,sV,trivial⟩
  .rintro v ds w1 w2 hS ⟨g,cap,cur,h1,h2,h3,h4⟩ hb;exact⟨g,cap,cur,h1,h2,(hb.block g (ah.1 h3).1).trans h3,h4⟩
  rintro v ds w1 w2 hS ⟨g,h1,h2,h3⟩ hb;exact⟨g,h1,(hb.cell (p:=⟨g,mi-1,none⟩) h3).trans h2,Nat.lt_of_lt_of_le h3 hb.size⟩
 case reach=>
  refine⟨?_,?_,?_,?_,?_,?_,?_,?_,?_,?_,?_,trivial⟩<;>rintro ev w1 hS hc hg hf ⟨b1,b2,b3,b4,-⟩ hd
  .exact tV
  .have d0:ev (aI 6)=_:=hd.1 rfl;have q:=HS.out w1 hS;have x0:=jy q.1;exact tV
  .have q:=HS.out w1 hS;obtain⟨y0,y1,y2,y3⟩:=qi q.2.1;exact tV
  .have q:=HS.out w1 hS;have y:=aK q.2.2.1 0 _ rfl;exact tV
  .have d3:ev (aI 9)=_:=hd.1 rfl;have q:=HS.out w1 hS;refine yq (args:=#[lv]) (lL pl pw lv _ q.2.2.2.2.1) ?_ fun _=>rfl;go_simp
  .have d1:ev (aI 7)=_:=hd.1 rfl;have d2:ev (aI 8)=_:=hd.2.1 rfl;have d4:ev (aI 10)=_:=hd.2.2.1 rfl;refine Lag.Yields.call (f:=114) (args:=#[aN (b.cells bm aH az),aN a.cells,ag af (bM pl)]) ?_ (Ef b hb bm aH az a ha (bM pl) Rk _) ?_
   .go_simp
   rintro e w2 ⟨g,cap,cur,rfl,h1,h2,h3,h4,h5,h6⟩;exact⟨_,rfl,⟨g,cap,cur,rfl,h3,h4,h5⟩,.inl h6⟩
  .have q:=HS.out w1 hS;have y:=aK q.2.2.2.1 0 _ rfl;exact tV
  .have d6:ev (aI 12)=_:=hd.1 rfl;exact tV
  .have d7:ev (aI 13)=_:=hd.2.1 rfl;obtain⟨g,cap,cur,e11,LG,hgb,qE⟩:=hd.1 rfl;replace e11:ev (aI 11)=_:=e11;refine yv (v:=pv g (mi-1)) ?_ (⟨g,rfl,aK hgb _ _ (qE _ _ aau),(ah.1 hgb).1⟩);go_simp;intro hx;exfalso;omega
  .obtain⟨g,F4,hcl,_⟩:=hd.1 rfl;replace F4:ev (aI 14)=_:=F4;exact tV
  have d9:ev (aI 15)=_:=hd.1 rfl;refine yv (v:=ev (aI 15)) ?_ (d9);rfl
 case rfin=>
  intro a2 w2 hR;have hS:=hR.s;have Oj:a2.tmps.getD 5 ar=_:=hR.val 10;have Rx:a2=⟨#[a2.tmps.getD 0 ar,a2.tmps.getD 1 ar,a2.tmps.getD 2 ar,a2.tmps.getD 3 ar,a2.tmps.getD 4 ar,a2.tmps.getD 5 ar,a2.tmps.getD 6 ar,a2.tmps.getD 7 ar,a2.tmps.getD 8 ar,a2.tmps.getD 9 ar,a2.tmps.getD 10 ar,a2.tmps.getD 11 ar,a2.tmps.getD 12 ar,a2.tmps.getD 13 ar,a2.tmps.getD 14 ar,a2.tmps.getD 15 ar],[]⟩:=hR.act;clear hR;rw[Oj] at Rx;clear Oj;generalize a2.tmps.getD 0 ar=s0,a2.tmps.getD 1 ar=s1,a2.tmps.getD 2 ar=s2,a2.tmps.getD 3 ar=s3,a2.tmps.getD 4 ar=s4,a2.tmps.getD 6 ar=s6,a2.tmps.getD 7 ar=s7,a2.tmps.getD 8 ar=s8,a2.tmps.getD 9 ar=s9,a2.tmps.getD 10 ar=s10,a2.tmps.getD 11 ar=s11,a2.tmps.getD 12 ar=s12,a2.tmps.getD 13 ar=s13,a2.tmps.getD 14 ar=s14,a2.tmps.getD 15 ar=s15 at Rx;have HF:=ai (HS.out w2 hS).2.2.2.2.2;clear hS;subst Rx;go_wp2
  go_ret
  exact⟨rfl,HF.out⟩
end Go.Proofs.YtffladgmkiimjaaGreatDoor
