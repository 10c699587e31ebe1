/- DERIVED: THE SHELF's CONTRACTS AT THIS DUMP, IN PLAIN WORDS (tools/lay .. -/
import Derived.Shelf.Slices.CompactI
import Derived.Shelf.Slices.Clone
import Derived.Shelf.Sort.Plain
import Derived.Sort.OwnSortedInts
import Derived.Lib.OwnBridge
import Derived.Test.YtffladgmkiimjaaGreatDoorU02
set_option linter.all false
set_option maxHeartbeats 0
set_option maxRecDepth 1000000
open Array renaming getElem?_eq_some_iff -> ah
open Go renaming Value -> aj,World -> ak,undef -> aw,Calls -> bm,wpList_append_own -> g_
open Go.Addr renaming add -> jP
open Go.Ending renaming returned -> aY
open Go.IntKind renaming i64 -> af
open Go.Lib renaming hid -> ai,compact -> vG
open Go.Obj renaming cells -> au
open Go.Operand renaming tmp -> aL
open Go.Proofs.Tryz renaming prog -> aq,underlying25 -> ek,underlying3 -> ep
open Go.RowKit renaming Below -> fV
open Go.RowKit.Below renaming refl -> aB
open Go.Value renaming int -> aD,agg -> aR,slice -> ae,int -> ag,oneCell' -> cD
open Go.World renaming alloc_heap_new -> az,ownsRow_nil -> dG,size_alloc -> dY
open List renaming eq_nil_of_length_eq_zero -> a8,take_succ_eq_append_getElem -> bO,getElem_mem -> bQ,length_pos_iff -> cN,take_of_length_le -> di,map_append -> eF,length_map -> fC,length_mergeSort -> lZ
open Nat renaming le_refl -> aO
namespace Go.Proofs
open Go.Shelf
def Tryz.Mg:Go.Shelf.Ren:=⟨fun|189=>172|125=>181|257=>180|128=>194|129=>195|294=>185|295=>186|296=>187|297=>188|298=>189|299=>190|216=>191|300=>192|301=>193|328=>196|329=>197|330=>198|331=>199|332=>200|215=>179|343=>201|n=>n,fun|28=>25|3=>3|46=>192|0=>0|51=>204|53=>206|4=>4|183=>197|182=>196|131=>72|5=>5|9=>9|218=>207|222=>211|228=>213|229=>214|n=>n,fun|n=>n⟩
def Tryz.Yi:Go.Proofs.Lays.n189 aq Tryz.Mg:={
 mixed:=by kernel_rfl
 f125:=Tryz.func181.trans (congrArg some (by kernel_rfl))
 f128:=Tryz.func194.trans (congrArg some (by kernel_rfl))
 f129:=Tryz.func195.trans (congrArg some (by kernel_rfl))
 f189:=Tryz.func172.trans (congrArg some (by kernel_rfl))
 f215:=Tryz.func179.trans (congrArg some (by kernel_rfl))
 f216:=Tryz.func191.trans (congrArg some (by kernel_rfl))
 f257:=Tryz.func180.trans (congrArg some (by kernel_rfl))
 f294:=Tryz.func185.trans (congrArg some (by kernel_rfl))
 f295:=Tryz.func186.trans (congrArg some (by kernel_rfl))
 f296:=Tryz.func187.trans (congrArg some (by kernel_rfl))
 f297:=Tryz.func188.trans (congrArg some (by kernel_rfl))
 f298:=Tryz.func189.trans (congrArg some (by kernel_rfl))
 f299:=Tryz.func190.trans (congrArg some (by kernel_rfl))
 f300:=Tryz.func192.trans (congrArg some (by kernel_rfl))
 f301:=Tryz.func193.trans (congrArg some (by kernel_rfl))
 f328:=Tryz.func196.trans (congrArg some (by kernel_rfl))
 f329:=Tryz.func197.trans (congrArg some (by kernel_rfl))
 f330:=Tryz.func198.trans (congrArg some (by kernel_rfl))
 f331:=Tryz.func199.trans (congrArg some (by kernel_rfl))
 f332:=Tryz.func200.trans (congrArg some (by kernel_rfl))
 f343:=Tryz.func201.trans (congrArg some (by kernel_rfl))
 t0:=Tryz.underlying0
 a0:=Tryz.isAgg0
 z0:=Tryz.sizeOf0
 v0:=Tryz.zeroValue0
 t3:=ep
 a3:=Tryz.isAgg3
 z3:=Tryz.sizeOf3
 v3:=Tryz.zeroValue3
 t4:=Tryz.underlying4
 a4:=Tryz.isAgg4
 z4:=Tryz.sizeOf4
 v4:=Tryz.zeroValue4
 t5:=Tryz.underlying5
 a5:=Tryz.isAgg5
 z5:=Tryz.sizeOf5
 v5:=Tryz.zeroValue5
 t9:=Tryz.underlying9
 a9:=Tryz.isAgg9
 z9:=Tryz.sizeOf9
 v9:=Tryz.zeroValue9
 t28:=ek
 a28:=Tryz.isAgg25
 z28:=Tryz.sizeOf25
 v28:=Tryz.zeroValue25
 t46:=Tryz.underlying192
 a46:=Tryz.isAgg192
 z46:=Tryz.sizeOf192
 v46:=Tryz.zeroValue192
 t51:=Tryz.underlying204
 a51:=Tryz.isAgg204
 z51:=Tryz.sizeOf204
 v51:=Tryz.zeroValue204
 t53:=Tryz.underlying206
 a53:=Tryz.isAgg206
 z53:=Tryz.sizeOf206
 v53:=Tryz.zeroValue206
 t131:=Tryz.underlying72
 a131:=Tryz.isAgg72
 z131:=Tryz.sizeOf72
 v131:=Tryz.zeroValue72
 t182:=Tryz.underlying196
 a182:=Tryz.isAgg196
 z182:=Tryz.sizeOf196
 v182:=Tryz.zeroValue196
 t183:=Tryz.underlying197
 a183:=Tryz.isAgg197
 z183:=Tryz.sizeOf197
 v183:=Tryz.zeroValue197
 t218:=Tryz.underlying207
 a218:=Tryz.isAgg207
 z218:=Tryz.sizeOf207
 v218:=Tryz.zeroValue207
 t222:=Tryz.underlying211
 a222:=Tryz.isAgg211
 z222:=Tryz.sizeOf211
 v222:=Tryz.zeroValue211
 t228:=Tryz.underlying213
 a228:=Tryz.isAgg213
 z228:=Tryz.sizeOf213
 v228:=Tryz.zeroValue213
 t229:=Tryz.underlying214
 a229:=Tryz.isAgg214
 z229:=Tryz.sizeOf214
 v229:=Tryz.zeroValue214 }
def Tryz.OE:Go.Shelf.Ren:=⟨fun|20=>173|n=>n,fun|22=>25|3=>3|4=>4|0=>0|n=>n,fun|n=>n⟩
def Tryz.aa0:Go.Proofs.Lays2.n20 aq Tryz.OE:={
 mixed:=by kernel_rfl
 f20:=Tryz.func173.trans (congrArg some (by kernel_rfl))
 t0:=Tryz.underlying0
 a0:=Tryz.isAgg0
 z0:=Tryz.sizeOf0
 v0:=Tryz.zeroValue0
 t3:=ep
 a3:=Tryz.isAgg3
 z3:=Tryz.sizeOf3
 v3:=Tryz.zeroValue3
 t4:=Tryz.underlying4
 a4:=Tryz.isAgg4
 z4:=Tryz.sizeOf4
 v4:=Tryz.zeroValue4
 t22:=ek
 a22:=Tryz.isAgg25
 z22:=Tryz.sizeOf25
 v22:=Tryz.zeroValue25
 i3:=by kernel_rfl }
end Go.Proofs
namespace Go.Proofs.YtffladgmkiimjaaGreatDoor
open Go.RowKit Go.Lag Go.Sort
def sorted(zs:List Int):List Int:=zs.mergeSort fun x y=>decide (x<=y)
def Eh{w:ak}{base g cap:Nat}{zs:List Int}(h:w.ownsRow base 3 1 (ae (some ⟨g,0,none⟩) zs.length cap) zs.length (zs.map (aD af)))(hlen:zs.length<4611686018427387904)(hb0:base<=w.heap.size) :
  bm aq 172 #[ae (some ⟨g,0,none⟩) zs.length cap] w fun e w'=>e=aY (.tuple #[])/\w'.ownsRow base 3 1 (ae (some ⟨g,0,none⟩) zs.length cap) zs.length ((sorted zs).map (aD af))/\fV base w w':=by
 rcases h.2 with⟨h0,_⟩|⟨g',cap',cur,hv,hbase,hb,h1,h2,h3,h4⟩
 .cases h0
 cases hv;have hl2:(sorted zs).length=zs.length:=lZ zs;have hH:Holds (aD af) w g 0 zs.toArray:=holds_of_blockI hb (by rw[Nat.mul_one] at h4;exact h4);have CY:g<w.heap.size:=(ah.1 hb).1;refine(show bm aq 172 #[ae (some ⟨g,0,none⟩) zs.length cap] w _ from Any.slices_Sort_int Tryz.Yi g 0 cap zs w hH CY hlen).mono ?_;rintro e w' ⟨rfl,n,os,rfl⟩;exact⟨rfl,ownsRow_sortedI (ts:=sorted zs) hl2 hbase hb h1 h2 h3,(aB _ _).grown (grownBy_sortedI _) hb0 fun j hj=>by cases hj;exact hbase⟩
def wE{w:ak}{base g cap:Nat}{zs:List Int}(h:w.ownsRow base 3 1 (ae (some ⟨g,0,none⟩) zs.length cap) zs.length (zs.map (aD af)))(hlen:zs.length<=9223372036854775807) :
  bm aq 173 #[ae (some ⟨g,0,none⟩) zs.length cap] w fun e w'=>e=aY (ae (some ⟨g,0,none⟩) (vG zs).length cap)/\w'.ownsRow base 3 1 (ae (some ⟨g,0,none⟩) (vG zs).length cap) (vG zs).length ((vG zs).map (aD af))/\fV base w w':=by
 have h':=h;rcases h.2 with⟨h0,_⟩|⟨g',cap',cur,hv,hbase,hb,h1,h2,h3,h4⟩
 .cases h0
 cases hv;have hle:=Lib.compact_length_le zs;have hH:Holds (aD af) w g 0 zs.toArray:=holds_of_blockI hb (by rw[Nat.mul_one] at h4;exact h4);refine(show bm aq 173 #[ae (some ⟨g,0,none⟩) zs.length cap] w _ from Any.slices_Compact_int Tryz.aa0 g 0 cap zs w hH hlen h1).mono ?_;rintro e w' ⟨rfl,q,rfl⟩;have hc:=Lib.ownsRow_putRow (q:=q) (k:=(vG zs).length) (ys:=vG zs++List.replicate (zs.length-(vG zs).length) 0) h' sO oM;rw[List.take_left] at hc;exact⟨rfl,hc,Lib.below_putRow (aB _ _) hbase⟩
def dT(of:dS->Int)(l:List dS):List Int:=vG (sorted (l.map of))
def Oz(b:BB)(bq aM aC:aj)(l:List dS)(hl:l≠[])(hl2:l.length<=1000)(of:dS->Int)(cp:Nat)(w:ak)(v:aj)(hv:Reads w v l.length (rowOf l))
  (Ad:∀a∈l,∀W,Bw w W->bm aq 128 #[aR a.cells,pv cp 0] W fun e W'=>e=aY (ag af (of a))/\Bw W W') :
  bm aq 124 #[aR (b.open bq aM aC v),.func (.func 128) #[] #[pv cp 0]] w fun e w'=>∃gn cn,e=aY (ae (some ⟨gn,0,none⟩) (dT of l).length cn)/\w'.ownsRow w.heap.size 3 1 (ae (some ⟨gn,0,none⟩) (dT of l).length cn) (dT of l).length ((dT of l).map (aD af))/\Bw w w':=by
 obtain⟨i0,hi,hz0,hz1,hz2⟩:=info_parts info3
 obtain⟨g,off,cap,rfl,hn,hg,hc⟩:∃g off cap,v=ae (some ⟨g,off,none⟩) l.length cap/\(l.length<=4294967296/\l.length<=cap)/\g<w.heap.size/\∀j u,(rowOf l)[j]?=some u->w.cell? ⟨g,off+j,none⟩=some u:=by
  rcases hv with⟨_,h,_⟩|h
  .exact(hl (a8 h)).elim
  exact h
 have jX:0<l.length:=cN.2 hl;have HC:=ai hc;have ND:=ai Ad;clear hc Ad hv hl;generalize hL:l.length=L at *;have HL:=ai hL;clear hL;have b1:Bw w (w.alloc (au (b.open bq aM aC (ae (some ⟨g,off,none⟩) L cap)) 122)):=dx;have wO:=ai b1;clear b1
 go_enter Tryz.func124,Tryz.ntmps124
 go_wp2
 go_loopw [5,7,11] (fun out _ i wr=>∃k:Nat,k<=L/\i=ag af k/\wr.ownsRow (w.heap.size+1) 3 1 out k ((l.take k).map fun a=>aD af (of a))/\fV (w.heap.size+1) (w.alloc (au (b.open bq aM aC (ae (some ⟨g,off,none⟩) L cap)) 122)) wr) (fun _ _ i _=>L-(intOf i).toNat)
 case atStart=>exact⟨0,oM,rfl,by simpa using dG _ _ _ _,aB _ _⟩
 case round=>
  obtain⟨k,hk,rfl,hown,eh⟩:=hrel;have hsz:=eh.size;simp at hsz;have sG:Bw w wr:=wO.out.trans (eh.mono oM)
  by_cases hlt:k<L
  .have jY:k<l.length:=by rw[HL.out];exact hlt
   obtain⟨hc0,hc1,hc2,hc3⟩:=Reads.cell (w:=wr) (cap:=cap) (n:=L) (fun j u hj=>(sG.cell (p:=⟨g,off+j,none⟩) hg).trans (HC.out j u hj)) k jY;have sY:(l.take (k+1)).map (fun a=>aD af (of a))=(l.take k).map (fun a=>aD af (of a))++[ag af (of l[k])]:=by rw[bO jY,eF];rfl
   have hcl:=fun W hb=>ND.out l[k] (bQ jY) W hb;have HT:=ai sY;have HK:=ai hcl;clear sY hcl;generalize l[k]=a at *;have QX:=ai sG;clear sG
   go_wp2_with (first
    |(go_at_call 128;refine(HK.out _ (QX.out.alloc oM _)).mono ?_;rintro e w2 ⟨rfl,hb2⟩
      have hs2:=hb2.size;simp only[dY] at hs2;have hown2:w2.ownsRow (w.heap.size+1) 3 1 u5 k ((l.take k).map fun a=>aD af (of a)):=eN (hown.alloc _) fun g hg=>hb2.block g (by have:=(hown.lt g hg).2;simp;omega);have nS:=ai hb2
      have WA:Hid (∀(j:Nat) (u:aj),([ag af (of a)]:List aj)[j]?=some u->(w2.alloc (au #[ag af (of a)] 3)).cell? ((⟨w2.heap.size,0,none⟩:Addr).add j)=some u):=ai fun j u hj=>by
       match j,hj with
       |0,hj=>simp at hj;subst hj;simp[jP]
      clear hb2)
    |(at_builtin;refine g_ _ rfl _ _ 25 rfl (w.heap.size+1) 3 i0 (ag af 0) 1 8 ek hi hz0 hz1 hz2 rfl dC _ _ _ rfl (hown2.alloc _) ⟨w2.heap.size,0,none⟩ 1 1 [ag af (of a)] rfl rfl WA.out (by simp[cD]) (by unfold maxLen;omega) oM sO ?_;intro v' w3 Fh hgrow hnil))
   go_roundw
   case rel=>
    have h1:fV (w.heap.size+1) wr w2:=((aB _ wr).alloc oM _).trans (nS.out.mono sO);exact⟨k+1,oM,sM,by rw[HT.out];exact Fh,eh.trans (qz oM hown2 h1 hgrow)⟩
   case measure=>simp[intOf];omega
  obtain rfl:k=L:=oM;have KP:l.take k=l:=di (by rw[HL.out];exact aO _);rw[KP,show(fun a=>aD af (of a))=(aD af ∘ of) from rfl,<-List.map_map] at hown;have Tx:(l.map of).length=k:=by rw[fC];exact HL.out
  obtain⟨k',rfl⟩:∃k',k=k'+1:=⟨k-1,oM⟩
  obtain⟨go,co,rfl⟩:=ownsRow_succ hown;rw[<-Tx] at hown;have HO:=ai hown;have QX:=ai sG;have WL:=ai Tx;have HN:=ai eh;clear hown sG KP eh Tx;have Fb:=Eh HO.out (by rw[WL.out];omega) oM;rw[WL.out] at Fb;have HSO:=ai Fb;clear Fb
  go_wp2_with (first
   |(go_at_call 172;refine HSO.out.mono ?_;rintro e w2 ⟨rfl,ho2,hb2⟩
     have hs2:(sorted (l.map of)).length=k'+1:=(lZ _).trans WL.out;rw[<-hs2] at ho2;have wA:=wE ho2 oM;rw[hs2] at wA;have HCP:=ai wA;have nS:=ai hb2
     clear wA ho2 hb2 hs2)
   |(go_at_call 173;refine HCP.out.mono ?_;rintro e w3 ⟨rfl,ZT,hb3⟩;have HO3:=ai ZT;have pF:=ai hb3;clear ZT hb3))
  go_ret
  refine⟨go,co,rfl,ownsRow_base HO3.out oM,QX.out.trans ((nS.out.mono oM).trans (pF.out.mono oM))⟩
def dS.get(a:dS)(kr:Nat):Int:=
 match kr with
 |0=>a.m0
 |1=>a.m1
 |_=>a.m2
def Sc(b:BB)(bq aM aC:aj)(n:Nat)(L:Nat)(p:Option Addr)(cap:Nat)(hm:bq=ae p L cap)(h:n<L)(hL:L<=3)(w:ak):bm aq 127 #[aR (b.cells bq aM aC),ag af n] w (Rt w (.bool true)):=by
 subst hm;have z:IntKind.i64.wrap ((L:Int)-1)=(L:Int)-1:=fO _ oM oM
 go_enter Tryz.func127,Tryz.ntmps127
 go_wp2_with (go_at_call 138;refine(iQ _ _ _ oM oM _).mono ?_;rintro e w' ⟨rfl,rfl⟩)
 go_ret
 exact⟨rfl,dx⟩
def Y7(b:BB)(bq aM aC:aj)(n:Nat)(L:Nat)(p:Option Addr)(cap:Nat)(hm:bq=ae p L cap)(h:n<L)(hL:L<=3)(cp:Nat)(w:ak)(hcl:cp<w.heap.size)(hc:w.cell? ⟨cp,0,none⟩=some (ag af n)) :
  bm aq 126 #[aR (b.cells bq aM aC),pv cp 0] w (Rt w (ag af 0)):=by
 have b1:Bw w (w.alloc (au (b.cells bq aM aC) 119)):=dx;have hc1:=(b1.cell (p:=⟨cp,0,none⟩) hcl).trans hc;have HI:=ai (Sc b bq aM aC n L p cap hm h hL);have wO:=ai b1;clear b1 hc hm
 go_enter Tryz.func126,Tryz.ntmps126
 go_wp2_with (go_at_call 127;refine(HI.out _).mono ?_;rintro e w' ⟨rfl,hb⟩;have HB:=ai hb;clear hb)
 go_ret
 exact⟨rfl,wO.out.trans (HB.out.mono wO.out.size)⟩
def Y6(a:dS)(n:Nat)(h:n<3)(cp:Nat)(w:ak)(hcl:cp<w.heap.size)(hc:w.cell? ⟨cp,0,none⟩=some (ag af n)) :
  bm aq 128 #[aR a.cells,pv cp 0] w (Rt w (ag af (a.get n))):=by
 have b1:Bw w (w.alloc (au a.cells 134)):=dx;have hc1:=(b1.cell (p:=⟨cp,0,none⟩) hcl).trans hc;have hb:=az w (au a.cells 134)
 have hx:(w.alloc (au a.cells 134)).cell? ⟨w.heap.size,1+n,none⟩=some (ag af (a.get n)):=by
  match n,h with
  |0,_=>exact aK hb 1 _ rfl
  |1,_=>exact aK hb 2 _ rfl
  |2,_=>exact aK hb 3 _ rfl
 have wO:=ai b1;clear b1 hc hb
 go_enter Tryz.func128,Tryz.ntmps128
 go_wp2
 go_ret
 exact⟨rfl,wO.out⟩
def zm(b:BB)(bq aM aC:aj)(ml:List Mn)(ss:List Int)(ms:List Mk)(w:ak)(hL:Laid w)(hB:cQ b bq aM aC ml ss ms w)(hne:bf b ml ss ms≠[])(n:Nat)(hn:n<ml.length) :
  bm aq 58 #[aR (b.cells bq aM aC),ag af n] w fun e w'=>∃v,e=aY (.tuple #[v,ag af 0])/\Reads w' v (dT (fun a=>a.get n) (bf b ml ss ms)).length ((dT (fun a=>a.get n) (bf b ml ss ms)).map (aD af))/\Bw w w':=by
 have hlen:=iR ss ms hB.ok hB.gS;have jX:0<(bf b ml ss ms).length:=cN.2 hne;have KQ:=hB.gS.len;obtain⟨pm,cm,rfl,_⟩:=aT hB.rm;obtain⟨pn,cn,rfl,_⟩:=aT hB.rs;obtain⟨pk,ck,rfl,_⟩:=aT hB.rk;have b0:Bw w ((w.alloc (au (b.sl pm ml.length cm pn ss.length cn pk ms.length ck) 28)).alloc (au #[ag af n] 3)):=dx.alloc sM _
 have ht:Two w (b.sl pm ml.length cm pn ss.length cn pk ms.length ck) 28 #[ag af n] 3 ((w.alloc (au (b.sl pm ml.length cm pn ss.length cn pk ms.length ck) 28)).alloc (au #[ag af n] 3)):=
  ⟨(Two.mk' w _ _ _ _).one,(Two.mk' w _ _ _ _).two,b0,sM⟩
 have hop:=XX b (ae pm ml.length cm) (ae pn ss.length cn) (ae pk ms.length ck) ml ss ms _ (hL.below b0) (hB.below b0) hne (w.heap.size+1) (fun W hb=>by
  have h1:=(hb.block (w.heap.size+1) sM).trans ht.two
  exact Y7 b _ _ _ n ml.length pm cm rfl hn KQ _ W (ah.1 h1).1 (aK h1 0 _ rfl))
 have HO:=ai hop;have HT:=ai ht;clear hop ht hL hB b0;generalize bf b ml ss ms=all at *;generalize hM:ml.length=lm at *;generalize ss.length=ln at *;generalize ms.length=lk at *;clear hM
 go_enter Tryz.func58,Tryz.ntmps58
 go_wp2_with (first
  |(go_at_call 103;refine HO.out.mono ?_;clear HO;rintro e w1 ⟨v,rfl,jc,hb1⟩
    have sZ:=HT.out.next hb1
    obtain⟨gv,cv,rfl⟩:∃gv cv,v=ae (some ⟨gv,0,none⟩) all.length cv:=by
     rcases jc.1.2 with⟨_,h0⟩|⟨g,cap,cur,rfl,_⟩
     .omega
     exact⟨g,cap,rfl⟩
    have pE:=ai sZ;have Tp:Hid (Reads (w1.alloc (au (b.open (ae pm lm cm) (ae pn ln cn) (ae pk lk ck) (ae (some ⟨gv,0,none⟩) all.length cv)) 122)) (ae (some ⟨gv,0,none⟩) all.length cv) all.length (rowOf all)):=ai ((jc.reads oM).below dx)
    have HNu:=ai (Oz b (ae pm lm cm) (ae pn ln cn) (ae pk lk ck) all hne oM (fun a=>a.get n) (w.heap.size+1) _ _ Tp.out (fun a _ W hb=>by
     have h1:=((pE.out.next ((aB _ _).alloc (aO _) (au (b.open (ae pm lm cm) (ae pn ln cn) (ae pk lk ck) (ae (some ⟨gv,0,none⟩) all.length cv)) 122))).next hb).two
     exact Y6 a n oM _ W (ah.1 h1).1 (aK h1 0 _ rfl)))
    clear sZ jc hb1)
  |(go_at_call 124;refine HNu.out.mono ?_;rintro e w2 ⟨gn,cgn,rfl,ho2,hb2⟩;have HO2:=ai ho2;have nS:=ai hb2;clear ho2 hb2))
 go_ret2;have hb3:=pE.out.below.alloc (by have:=pE.out.size;omega) (au (b.open (ae pm lm cm) (ae pn ln cn) (ae pk lk ck) (ae (some ⟨gv,0,none⟩) all.length cv)) 122)
 have hnl:(dT (fun a=>a.get n) all).length<=1000:=by
  have h1:=Lib.compact_length_le (sorted (all.map fun a=>a.get n));have h2:(sorted (all.map fun a=>a.get n)).length=all.length:=(lZ _).trans (fC _);unfold dT;omega
 exact⟨_,rfl,Reads.iA HO2.out oM sM,hb3.trans (nS.out.mono hb3.size)⟩
def LX(b:BB)(bq aM aC:aj)(l:List dS)(hl:l≠[])(hl2:l.length<=1000)(of:dS->Int)(cp cq cr:Nat)(w:ak)(v:aj)(hv:Reads w v l.length (rowOf l))
  (Ad:∀a∈l,∀W,Bw w W->bm aq 133 #[aR a.cells,pv cp 0,pv cq 0,pv cr 0] W fun e W'=>e=aY (ag af (of a))/\Bw W W') :
  bm aq 124 #[aR (b.open bq aM aC v),.func (.func 133) #[] #[pv cp 0,pv cq 0,pv cr 0]] w fun e w'=>∃gn cn,e=aY (ae (some ⟨gn,0,none⟩) (dT of l).length cn)/\w'.ownsRow w.heap.size 3 1 (ae (some ⟨gn,0,none⟩) (dT of l).length cn) (dT of l).length ((dT of l).map (aD af))/\Bw w w':=by
 obtain⟨i0,hi,hz0,hz1,hz2⟩:=info_parts info3
 obtain⟨g,off,cap,rfl,hn,hg,hc⟩:∃g off cap,v=ae (some ⟨g,off,none⟩) l.length cap/\(l.length<=4294967296/\l.length<=cap)/\g<w.heap.size/\∀j u,(rowOf l)[j]?=some u->w.cell? ⟨g,off+j,none⟩=some u:=by
  rcases hv with⟨_,h,_⟩|h
  .exact(hl (a8 h)).elim
  exact h
 have jX:0<l.length:=cN.2 hl;have HC:=ai hc;have ND:=ai Ad;clear hc Ad hv hl;generalize hL:l.length=L at *;have HL:=ai hL;clear hL;have b1:Bw w (w.alloc (au (b.open bq aM aC (ae (some ⟨g,off,none⟩) L cap)) 122)):=dx;have wO:=ai b1;clear b1
 go_enter Tryz.func124,Tryz.ntmps124
 go_wp2
 go_loopw [5,7,11] (fun out _ i wr=>∃k:Nat,k<=L/\i=ag af k/\wr.ownsRow (w.heap.size+1) 3 1 out k ((l.take k).map fun a=>aD af (of a))/\fV (w.heap.size+1) (w.alloc (au (b.open bq aM aC (ae (some ⟨g,off,none⟩) L cap)) 122)) wr) (fun _ _ i _=>L-(intOf i).toNat)
 case atStart=>exact⟨0,oM,rfl,by simpa using dG _ _ _ _,aB _ _⟩
 case round=>
  obtain⟨k,hk,rfl,hown,eh⟩:=hrel;have hsz:=eh.size;simp at hsz;have sG:Bw w wr:=wO.out.trans (eh.mono oM)
  by_cases hlt:k<L
  .have jY:k<l.length:=by rw[HL.out];exact hlt
   obtain⟨hc0,hc1,hc2,hc3⟩:=Reads.cell (w:=wr) (cap:=cap) (n:=L) (fun j u hj=>(sG.cell (p:=⟨g,off+j,none⟩) hg).trans (HC.out j u hj)) k jY;have sY:(l.take (k+1)).map (fun a=>aD af (of a))=(l.take k).map (fun a=>aD af (of a))++[ag af (of l[k])]:=by rw[bO jY,eF];rfl
   have hcl:=fun W hb=>ND.out l[k] (bQ jY) W hb;have HT:=ai sY;have HK:=ai hcl;clear sY hcl;generalize l[k]=a at *;have QX:=ai sG;clear sG
   go_wp2_with (first
    |(go_at_call 133;refine(HK.out _ (QX.out.alloc oM _)).mono ?_;rintro e w2 ⟨rfl,hb2⟩
      have hs2:=hb2.size;simp only[dY] at hs2;have hown2:w2.ownsRow (w.heap.size+1) 3 1 u5 k ((l.take k).map fun a=>aD af (of a)):=eN (hown.alloc _) fun g hg=>hb2.block g (by have:=(hown.lt g hg).2;simp;omega);have nS:=ai hb2
      have WA:Hid (∀(j:Nat) (u:aj),([ag af (of a)]:List aj)[j]?=some u->(w2.alloc (au #[ag af (of a)] 3)).cell? ((⟨w2.heap.size,0,none⟩:Addr).add j)=some u):=ai fun j u hj=>by
       match j,hj with
       |0,hj=>simp at hj;subst hj;simp[jP]
      clear hb2)
    |(at_builtin;refine g_ _ rfl _ _ 25 rfl (w.heap.size+1) 3 i0 (ag af 0) 1 8 ek hi hz0 hz1 hz2 rfl dC _ _ _ rfl (hown2.alloc _) ⟨w2.heap.size,0,none⟩ 1 1 [ag af (of a)] rfl rfl WA.out (by simp[cD]) (by unfold maxLen;omega) oM sO ?_;intro v' w3 Fh hgrow hnil))
   go_roundw
   case rel=>
    have h1:fV (w.heap.size+1) wr w2:=((aB _ wr).alloc oM _).trans (nS.out.mono sO);exact⟨k+1,oM,sM,by rw[HT.out];exact Fh,eh.trans (qz oM hown2 h1 hgrow)⟩
   case measure=>simp[intOf];omega
  obtain rfl:k=L:=oM;have KP:l.take k=l:=di (by rw[HL.out];exact aO _);rw[KP,show(fun a=>aD af (of a))=(aD af ∘ of) from rfl,<-List.map_map] at hown;have Tx:(l.map of).length=k:=by rw[fC];exact HL.out
  obtain⟨k',rfl⟩:∃k',k=k'+1:=⟨k-1,oM⟩
  obtain⟨go,co,rfl⟩:=ownsRow_succ hown;rw[<-Tx] at hown;have HO:=ai hown;have QX:=ai sG;have WL:=ai Tx;have HN:=ai eh;clear hown sG KP eh Tx;have Fb:=Eh HO.out (by rw[WL.out];omega) oM;rw[WL.out] at Fb;have HSO:=ai Fb;clear Fb
  go_wp2_with (first
   |(go_at_call 172;refine HSO.out.mono ?_;rintro e w2 ⟨rfl,ho2,hb2⟩
     have hs2:(sorted (l.map of)).length=k'+1:=(lZ _).trans WL.out;rw[<-hs2] at ho2;have wA:=wE ho2 oM;rw[hs2] at wA;have HCP:=ai wA;have nS:=ai hb2
     clear wA ho2 hb2 hs2)
   |(go_at_call 173;refine HCP.out.mono ?_;rintro e w3 ⟨rfl,ZT,hb3⟩;have HO3:=ai ZT;have pF:=ai hb3;clear ZT hb3))
  go_ret
  refine⟨go,co,rfl,ownsRow_base HO3.out oM,QX.out.trans ((nS.out.mono oM).trans (pF.out.mono oM))⟩
def Wi(b:BB)(hb:b.Ok)(bq aM aC:aj)(pl:List Int)(hp:fM b pl)(mi:Nat)(h1:1<=mi)(h2:(mi:Int)<=b.minutes)(cp cq:Nat)(lv:aj)(w:ak)(wA:w.heap[cp]?=some (au #[lv] 25 (0,0)))(hcq:w.heap[cq]?=some (au #[ag af mi] 3 (0,0)))(hl:Reads w lv pl.length (pl.map (aD af))) :
  bm aq 131 #[aR (b.cells bq aM aC),pv cp 0,pv cq 0] w (Rt w (ag af 0)):=by
 have b1:Bw w (w.alloc (au (b.cells bq aM aC) 119)):=dx;have lp:=(ah.1 wA).1;have lq:=(ah.1 hcq).1;have x1:=aK ((b1.block _ lp).trans wA) 0 _ rfl;have Xt:=ai (qL b hb bq aM aC lv pl hp _ (hl.below b1));have wO:=ai b1;have HQ:=ai hcq;have HK:=ai (az w (au (b.cells bq aM aC) 119));clear wA hcq hl hp b1
 go_enter Tryz.func131,Tryz.ntmps131
 go_wp2_with (first
  |(go_at_call 113;refine Xt.out.mono ?_;clear Xt;rintro e w1 ⟨rfl,hb1⟩
    have nS:=ai hb1;obtain⟨y0,y1,y2,y3,y4,y5,y6,y7,y8,y9,NS,PW,PV,PU,KX⟩:=cg ((hb1.block w.heap.size sM).trans HK.out);have x2:=aK ((hb1.block _ sO).trans ((wO.out.block _ lq).trans HQ.out)) 0 _ rfl
    clear hb1)
  |(go_at_call 132;refine(nK b bq aM aC mi oM h2 _).mono ?_;rintro e w2 ⟨rfl,hb2⟩;have pF:=ai hb2;clear hb2))
 go_ret
 have h1:=wO.out.trans (nS.out.mono wO.out.size);exact⟨rfl,h1.trans (pF.out.mono h1.size)⟩
def Wh(b:BB)(hb:b.Ok)(bq aM aC v:aj)(pl:List Int)(hp:fM b pl)(mi:Nat)(h1:1<=mi)(h2:(mi:Int)<=b.minutes)(a:dS)(ha:a.Ok)(ob cp cq:Nat)(lv:aj)(w:ak)(qf:w.heap[ob]?=some (au (b.open bq aM aC v) 122 (0,0)))
  (wA:w.heap[cp]?=some (au #[lv] 25 (0,0))) (hcq:w.heap[cq]?=some (au #[ag af mi] 3 (0,0))) (hl:Reads w lv pl.length (pl.map (aD af))) :
  bm aq 133 #[aR a.cells,pv ob 0,pv cp 0,pv cq 0] w (Rt w (ag af (b.rj (b.bS+a.used) (bJ pl) mi))):=by
 have xu:=hb.minutes;have nQ:∀s∈pl,1<=s/\s<=8:=fun s h=>by have:=hp.mem s h;omega
 have DW:bJ pl<512:=mM pl nQ;have b1:Bw w (w.alloc (au a.cells 134)):=dx;have hk:=az w (au a.cells 134);have lo:=(ah.1 qf).1;have lp:=(ah.1 wA).1;have lq:=(ah.1 hcq).1
 have hS:∀w',fV (w.alloc (au a.cells 134)).heap.size (w.alloc (au a.cells 134)) w'->w'.heap[ob]?=some (au (b.open bq aM aC v) 122 (0,0))/\w'.heap[w.heap.size]?=some (au a.cells 134 (0,0))/\w'.heap[cp]?=some (au #[lv] 25 (0,0))/\w'.heap[cq]?=some (au #[ag af mi] 3 (0,0))/\Reads w' lv pl.length (pl.map (aD af))/\Bw w w':=fun w' hb'=>by
  have hs:(w.alloc (au a.cells 134)).heap.size=w.heap.size+1:=sM;exact⟨(hb'.block _ oM).trans ((b1.block _ lo).trans qf),(hb'.block _ oM).trans hk,(hb'.block _ oM).trans ((b1.block _ lp).trans wA),(hb'.block _ oM).trans ((b1.block _ lq).trans hcq),(hl.below b1).below hb',b1.trans (hb'.mono oM)⟩
 have HS:=ai hS;clear hS qf wA hcq hl b1 hk;have hw1:IntKind.i64.wrap ((mi:Int)-1)=((mi-1:Nat):Int):=by rw[fO _ oM oM];omega
 have hlt:((mi-1:Nat):Int)<(b.minutes.toNat:Int):=oM;have hnn:(0:Int)<=((mi-1:Nat):Int):=oM
 have abz:((b.js (b.bS+a.used) (bJ pl) b.minutes.toNat).map (aD af))[mi-1]?=some (ag af (b.rj (b.bS+a.used) (bJ pl) mi)):=by
  have h3:mi-1<b.minutes.toNat:=oM;have h4:mi-1+1=mi:=oM;simp[BB.js,h3,h4]
 go_enter Tryz.func133,Tryz.ntmps133
 go_wp2
 refine cy kQ [
 pV (pv ob 0),
  pV (aR (b.cells bq aM aC)),
  pV (aR a.cells),
  pV (lv),
  pV (ag af (bJ pl)),
  fun v ds w9=>∃g cap,∃cur:Array aj,v=ae (some ⟨g,0,none⟩) b.minutes.toNat cap/\b.minutes.toNat<=cap/\w9.heap[g]?=some (au cur 3 (0,0))/\∀(j:Nat) (u:aj),((b.js (b.bS+a.used) (bJ pl) b.minutes.toNat).map (aD af))[j]?=some u->cur[j]?=some u,
  pV (ag af mi),
  pV (ag af ((mi-1:Nat):Int)),
  fun v ds w9=>∃g,v=pv g (mi-1)/\w9.cell? ⟨g,mi-1,none⟩=some (ag af (b.rj (b.bS+a.used) (bJ pl) mi))/\g<w9.heap.size,
  pV (ag af (b.rj (b.bS+a.used) (bJ pl) mi)),
  pV (ag af (b.rj (b.bS+a.used) (bJ pl) mi))]
  (fun w9=>fV (w.alloc (au a.cells 134)).heap.size (w.alloc (au a.cells 134)) w9) [(1,pv ob 0),(2,pv cp 0),(3,pv cq 0),(4,pv w.heap.size 0)] kQ ?rst (fun w1 w2 h hb=>h.trans (hb.mono h.size)) ((aB _ _).drew) ⟨rfl,rfl,rfl,rfl,trivial⟩ ?reach ?rfin
 case rst=>
  refine⟨sV,sV,sV,sV,sV,?_,sV,sV,?_,sV,sV,trivial⟩
  .rintro v ds w1 w2 hS ⟨g,cap,cur,h1,h2,h3,h4⟩ hb;exact⟨g,cap,cur,h1,h2,(hb.block g (ah.1 h3).1).trans h3,h4⟩
  rintro v ds w1 w2 hS ⟨g,h1,h2,h3⟩ hb;exact⟨g,h1,(hb.cell (p:=⟨g,mi-1,none⟩) h3).trans h2,Nat.lt_of_lt_of_le h3 hb.size⟩
 case reach=>
  refine⟨?_,?_,?_,?_,?_,?_,?_,?_,?_,?_,?_,trivial⟩<;>rintro ev w1 hS hc hg hf ⟨b1,b2,b3,b4,-⟩ hd
  .exact tV
  .have d0:ev (aL 6)=_:=hd.1 rfl;have q:=HS.out w1 hS;have x0:=jJ q.1;exact tV
  .have q:=HS.out w1 hS;obtain⟨y0,y1,y2,y3⟩:=qA q.2.1;exact tV
  .have q:=HS.out w1 hS;have y:=aK q.2.2.1 0 _ rfl;exact tV
  .have d3:ev (aL 9)=_:=hd.1 rfl;have q:=HS.out w1 hS;refine yq (args:=#[lv]) (kH pl nQ lv _ q.2.2.2.2.1) ?_ fun _=>rfl;go_simp
  .have d1:ev (aL 7)=_:=hd.1 rfl;have d2:ev (aL 8)=_:=hd.2.1 rfl;have d4:ev (aL 10)=_:=hd.2.2.1 rfl;refine Lag.Yields.call (f:=114) (args:=#[aR (b.cells bq aM aC),aR a.cells,ag af (bJ pl)]) ?_ (EI b hb bq aM aC a ha (bJ pl) DW _) ?_
   .go_simp
   rintro e w2 ⟨g,cap,cur,rfl,h1,h2,h3,h4,h5,h6⟩;exact⟨_,rfl,⟨g,cap,cur,rfl,h3,h4,h5⟩,.inl h6⟩
  .have q:=HS.out w1 hS;have y:=aK q.2.2.2.1 0 _ rfl;exact tV
  .have d6:ev (aL 12)=_:=hd.1 rfl;exact tV
  .have d7:ev (aL 13)=_:=hd.2.1 rfl;obtain⟨g,cap,cur,e11,Hb,hgb,qU⟩:=hd.1 rfl;replace e11:ev (aL 11)=_:=e11;refine yv (v:=pv g (mi-1)) ?_ (⟨g,rfl,aK hgb _ _ (qU _ _ abz),(ah.1 hgb).1⟩);go_simp;intro hx;exfalso;omega
  .obtain⟨g,Gv,hcl,_⟩:=hd.1 rfl;replace Gv:ev (aL 14)=_:=Gv;exact tV
  have d9:ev (aL 15)=_:=hd.1 rfl;refine yv (v:=ev (aL 15)) ?_ (d9);rfl
 case rfin=>
  intro a2 w2 hR;have hS:=hR.s;have Pe:a2.tmps.getD 5 aw=_:=hR.val 10;have Sz:a2=⟨#[a2.tmps.getD 0 aw,a2.tmps.getD 1 aw,a2.tmps.getD 2 aw,a2.tmps.getD 3 aw,a2.tmps.getD 4 aw,a2.tmps.getD 5 aw,a2.tmps.getD 6 aw,a2.tmps.getD 7 aw,a2.tmps.getD 8 aw,a2.tmps.getD 9 aw,a2.tmps.getD 10 aw,a2.tmps.getD 11 aw,a2.tmps.getD 12 aw,a2.tmps.getD 13 aw,a2.tmps.getD 14 aw,a2.tmps.getD 15 aw],[]⟩:=hR.act;clear hR;rw[Pe] at Sz;clear Pe;generalize a2.tmps.getD 0 aw=s0,a2.tmps.getD 1 aw=s1,a2.tmps.getD 2 aw=s2,a2.tmps.getD 3 aw=s3,a2.tmps.getD 4 aw=s4,a2.tmps.getD 6 aw=s6,a2.tmps.getD 7 aw=s7,a2.tmps.getD 8 aw=s8,a2.tmps.getD 9 aw=s9,a2.tmps.getD 10 aw=s10,a2.tmps.getD 11 aw=s11,a2.tmps.getD 12 aw=s12,a2.tmps.getD 13 aw=s13,a2.tmps.getD 14 aw=s14,a2.tmps.getD 15 aw=s15 at Sz;have HF:=ai (HS.out w2 hS).2.2.2.2.2;clear hS;subst Sz;go_wp2
  go_ret
  exact⟨rfl,HF.out⟩
def Oy(b:BB)(bq aM aC:aj)(l:List dS)(hl:l≠[])(hl2:l.length<=1000)(of:dS->Int)(w:ak)(v:aj)(hv:Reads w v l.length (rowOf l))
  (Ad:∀a∈l,∀W,Bw w W->bm aq 125 #[aR a.cells] W fun e W'=>e=aY (ag af (of a))/\Bw W W') :
  bm aq 124 #[aR (b.open bq aM aC v),.func (.func 125) #[] #[]] w fun e w'=>∃gn cn,e=aY (ae (some ⟨gn,0,none⟩) (dT of l).length cn)/\w'.ownsRow w.heap.size 3 1 (ae (some ⟨gn,0,none⟩) (dT of l).length cn) (dT of l).length ((dT of l).map (aD af))/\Bw w w':=by
 obtain⟨i0,hi,hz0,hz1,hz2⟩:=info_parts info3
 obtain⟨g,off,cap,rfl,hn,hg,hc⟩:∃g off cap,v=ae (some ⟨g,off,none⟩) l.length cap/\(l.length<=4294967296/\l.length<=cap)/\g<w.heap.size/\∀j u,(rowOf l)[j]?=some u->w.cell? ⟨g,off+j,none⟩=some u:=by
  rcases hv with⟨_,h,_⟩|h
  .exact(hl (a8 h)).elim
  exact h
 have jX:0<l.length:=cN.2 hl;have HC:=ai hc;have ND:=ai Ad;clear hc Ad hv hl;generalize hL:l.length=L at *;have HL:=ai hL;clear hL;have b1:Bw w (w.alloc (au (b.open bq aM aC (ae (some ⟨g,off,none⟩) L cap)) 122)):=dx;have wO:=ai b1;clear b1
 go_enter Tryz.func124,Tryz.ntmps124
 go_wp2
 go_loopw [5,7,11] (fun out _ i wr=>∃k:Nat,k<=L/\i=ag af k/\wr.ownsRow (w.heap.size+1) 3 1 out k ((l.take k).map fun a=>aD af (of a))/\fV (w.heap.size+1) (w.alloc (au (b.open bq aM aC (ae (some ⟨g,off,none⟩) L cap)) 122)) wr) (fun _ _ i _=>L-(intOf i).toNat)
 case atStart=>exact⟨0,oM,rfl,by simpa using dG _ _ _ _,aB _ _⟩
 case round=>
  obtain⟨k,hk,rfl,hown,eh⟩:=hrel;have hsz:=eh.size;simp at hsz;have sG:Bw w wr:=wO.out.trans (eh.mono oM)
  by_cases hlt:k<L
  .have jY:k<l.length:=by rw[HL.out];exact hlt
   obtain⟨hc0,hc1,hc2,hc3⟩:=Reads.cell (w:=wr) (cap:=cap) (n:=L) (fun j u hj=>(sG.cell (p:=⟨g,off+j,none⟩) hg).trans (HC.out j u hj)) k jY;have sY:(l.take (k+1)).map (fun a=>aD af (of a))=(l.take k).map (fun a=>aD af (of a))++[ag af (of l[k])]:=by rw[bO jY,eF];rfl
   have hcl:=fun W hb=>ND.out l[k] (bQ jY) W hb;have HT:=ai sY;have HK:=ai hcl;clear sY hcl;generalize l[k]=a at *;have QX:=ai sG;clear sG
   go_wp2_with (first
    |(go_at_call 125;refine(HK.out _ (QX.out.alloc oM _)).mono ?_;rintro e w2 ⟨rfl,hb2⟩
      have hs2:=hb2.size;simp only[dY] at hs2;have hown2:w2.ownsRow (w.heap.size+1) 3 1 u5 k ((l.take k).map fun a=>aD af (of a)):=eN (hown.alloc _) fun g hg=>hb2.block g (by have:=(hown.lt g hg).2;simp;omega);have nS:=ai hb2
      have WA:Hid (∀(j:Nat) (u:aj),([ag af (of a)]:List aj)[j]?=some u->(w2.alloc (au #[ag af (of a)] 3)).cell? ((⟨w2.heap.size,0,none⟩:Addr).add j)=some u):=ai fun j u hj=>by
       match j,hj with
       |0,hj=>simp at hj;subst hj;simp[jP]
      clear hb2)
    |(at_builtin;refine g_ _ rfl _ _ 25 rfl (w.heap.size+1) 3 i0 (ag af 0) 1 8 ek hi hz0 hz1 hz2 rfl dC _ _ _ rfl (hown2.alloc _) ⟨w2.heap.size,0,none⟩ 1 1 [ag af (of a)] rfl rfl WA.out (by simp[cD]) (by unfold maxLen;omega) oM sO ?_;intro v' w3 Fh hgrow hnil))
   go_roundw
   case rel=>
    have h1:fV (w.heap.size+1) wr w2:=((aB _ wr).alloc oM _).trans (nS.out.mono sO);exact⟨k+1,oM,sM,by rw[HT.out];exact Fh,eh.trans (qz oM hown2 h1 hgrow)⟩
   case measure=>simp[intOf];omega
  obtain rfl:k=L:=oM;have KP:l.take k=l:=di (by rw[HL.out];exact aO _);rw[KP,show(fun a=>aD af (of a))=(aD af ∘ of) from rfl,<-List.map_map] at hown;have Tx:(l.map of).length=k:=by rw[fC];exact HL.out
  obtain⟨k',rfl⟩:∃k',k=k'+1:=⟨k-1,oM⟩
  obtain⟨go,co,rfl⟩:=ownsRow_succ hown;rw[<-Tx] at hown;have HO:=ai hown;have QX:=ai sG;have WL:=ai Tx;have HN:=ai eh;clear hown sG KP eh Tx;have Fb:=Eh HO.out (by rw[WL.out];omega) oM;rw[WL.out] at Fb;have HSO:=ai Fb;clear Fb
  go_wp2_with (first
   |(go_at_call 172;refine HSO.out.mono ?_;rintro e w2 ⟨rfl,ho2,hb2⟩
     have hs2:(sorted (l.map of)).length=k'+1:=(lZ _).trans WL.out;rw[<-hs2] at ho2;have wA:=wE ho2 oM;rw[hs2] at wA;have HCP:=ai wA;have nS:=ai hb2
     clear wA ho2 hb2 hs2)
   |(go_at_call 173;refine HCP.out.mono ?_;rintro e w3 ⟨rfl,ZT,hb3⟩;have HO3:=ai ZT;have pF:=ai hb3;clear ZT hb3))
  go_ret
  refine⟨go,co,rfl,ownsRow_base HO3.out oM,QX.out.trans ((nS.out.mono oM).trans (pF.out.mono oM))⟩
end Go.Proofs.YtffladgmkiimjaaGreatDoor
