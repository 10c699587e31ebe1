/- DERIVED: THE SHELF's CONTRACTS AT THIS DUMP, IN PLAIN WORDS (tools/lay .. -/
import Derived.Ground.NamesProg
import Derived.Ground.Names2Prog
import Derived.Shelf.Slices.CompactI
import Derived.Shelf.Slices.Clone
import Derived.Shelf.Sort.Plain
import Derived.Test.YtffladgmkiimjaaGreatDoorProg
import Derived.Test.YtffladgmkiimjaaGreatDoorW02
import Derived.Sort.OwnSortedInts
import Derived.Lib.OwnBridge
import Derived.Test.YtffladgmkiimjaaGreatDoorW01
set_option linter.all false
set_option maxHeartbeats 100000000
set_option maxRecDepth 1000000
open Array renaming getElem?_eq_some_iff -> ai
open Go renaming undef -> af,Value -> ak,World -> ar,Calls -> bu
open Go.Ending renaming returned -> aF
open Go.IntKind renaming i64 -> ag
open Go.Lib renaming hid -> aj
open Go.Obj renaming cells -> aw
open Go.Operand renaming tmp -> aM
open Go.Proofs.Tryz renaming prog -> aq,underlying25 -> eJ,underlying3 -> eL
open Go.RowKit renaming Below -> az
open Go.RowKit.Below renaming refl -> au
open Go.Value renaming int -> aB,agg -> aR,slice -> ae,int -> ah,oneCell' -> cj
open Go.World renaming alloc_heap_new -> ay,ownsRow_nil -> dR,size_alloc -> ej
open List renaming take_succ_eq_append_getElem -> bN,getElem_mem -> bV,eq_nil_of_length_eq_zero -> bf,length_pos_iff -> dm,take_of_length_le -> dp,length_map -> fR,map_append -> fh,length_mergeSort -> xE
open Nat renaming le_refl -> ax
namespace Go.Proofs
open Go.Shelf
def Tryz.Li:Go.Shelf.Ren:=⟨fun|189=>172|125=>181|257=>180|128=>194|129=>195|294=>185|295=>186|296=>187|297=>188|298=>189|299=>190|216=>191|300=>192|301=>193|328=>196|329=>197|330=>198|331=>199|332=>200|215=>179|343=>201|n=>n,fun|28=>25|3=>3|46=>192|0=>0|51=>204|53=>206|4=>4|183=>197|182=>196|131=>72|5=>5|9=>9|218=>207|222=>211|228=>213|229=>214|n=>n,fun|n=>n⟩
theorem Tryz.Xe:Go.Proofs.Lays.n189 aq Tryz.Li:={
 mixed:=by kernel_rfl
 f125:=Tryz.func181.trans (congrArg some (by kernel_rfl))
 f128:=Tryz.func194.trans (congrArg some (by kernel_rfl))
 f129:=Tryz.func195.trans (congrArg some (by kernel_rfl))
 f189:=Tryz.func172.trans (congrArg some (by kernel_rfl))
 f215:=Tryz.func179.trans (congrArg some (by kernel_rfl))
 f216:=Tryz.func191.trans (congrArg some (by kernel_rfl))
 f257:=Tryz.func180.trans (congrArg some (by kernel_rfl))
 f294:=Tryz.func185.trans (congrArg some (by kernel_rfl))
 f295:=Tryz.func186.trans (congrArg some (by kernel_rfl))
 f296:=Tryz.func187.trans (congrArg some (by kernel_rfl))
 f297:=Tryz.func188.trans (congrArg some (by kernel_rfl))
 f298:=Tryz.func189.trans (congrArg some (by kernel_rfl))
 f299:=Tryz.func190.trans (congrArg some (by kernel_rfl))
 f300:=Tryz.func192.trans (congrArg some (by kernel_rfl))
 f301:=Tryz.func193.trans (congrArg some (by kernel_rfl))
 f328:=Tryz.func196.trans (congrArg some (by kernel_rfl))
 f329:=Tryz.func197.trans (congrArg some (by kernel_rfl))
 f330:=Tryz.func198.trans (congrArg some (by kernel_rfl))
 f331:=Tryz.func199.trans (congrArg some (by kernel_rfl))
 f332:=Tryz.func200.trans (congrArg some (by kernel_rfl))
 f343:=Tryz.func201.trans (congrArg some (by kernel_rfl))
 t0:=Tryz.underlying0
 a0:=Tryz.isAgg0
 z0:=Tryz.sizeOf0
 v0:=Tryz.zeroValue0
 t3:=eL
 a3:=Tryz.isAgg3
 z3:=Tryz.sizeOf3
 v3:=Tryz.zeroValue3
 t4:=Tryz.underlying4
 a4:=Tryz.isAgg4
 z4:=Tryz.sizeOf4
 v4:=Tryz.zeroValue4
 t5:=Tryz.underlying5
 a5:=Tryz.isAgg5
 z5:=Tryz.sizeOf5
 v5:=Tryz.zeroValue5
 t9:=Tryz.underlying9
 a9:=Tryz.isAgg9
 z9:=Tryz.sizeOf9
 v9:=Tryz.zeroValue9
 t28:=eJ
 a28:=Tryz.isAgg25
 z28:=Tryz.sizeOf25
 v28:=Tryz.zeroValue25
 t46:=Tryz.underlying192
 a46:=Tryz.isAgg192
 z46:=Tryz.sizeOf192
 v46:=Tryz.zeroValue192
 t51:=Tryz.underlying204
 a51:=Tryz.isAgg204
 z51:=Tryz.sizeOf204
 v51:=Tryz.zeroValue204
 t53:=Tryz.underlying206
 a53:=Tryz.isAgg206
 z53:=Tryz.sizeOf206
 v53:=Tryz.zeroValue206
 t131:=Tryz.underlying72
 a131:=Tryz.isAgg72
 z131:=Tryz.sizeOf72
 v131:=Tryz.zeroValue72
 t182:=Tryz.underlying196
 a182:=Tryz.isAgg196
 z182:=Tryz.sizeOf196
 v182:=Tryz.zeroValue196
 t183:=Tryz.underlying197
 a183:=Tryz.isAgg197
 z183:=Tryz.sizeOf197
 v183:=Tryz.zeroValue197
 t218:=Tryz.underlying207
 a218:=Tryz.isAgg207
 z218:=Tryz.sizeOf207
 v218:=Tryz.zeroValue207
 t222:=Tryz.underlying211
 a222:=Tryz.isAgg211
 z222:=Tryz.sizeOf211
 v222:=Tryz.zeroValue211
 t228:=Tryz.underlying213
 a228:=Tryz.isAgg213
 z228:=Tryz.sizeOf213
 v228:=Tryz.zeroValue213
 t229:=Tryz.underlying214
 a229:=Tryz.isAgg214
 z229:=Tryz.sizeOf214
 v229:=Tryz.zeroValue214 }
def Tryz.NP:Go.Shelf.Ren:=⟨fun|20=>173|n=>n,fun|22=>25|3=>3|4=>4|0=>0|n=>n,fun|n=>n⟩
theorem Tryz.ZR:Go.Proofs.Lays2.n20 aq Tryz.NP:={
 mixed:=by kernel_rfl
 f20:=Tryz.func173.trans (congrArg some (by kernel_rfl))
 t0:=Tryz.underlying0
 a0:=Tryz.isAgg0
 z0:=Tryz.sizeOf0
 v0:=Tryz.zeroValue0
 t3:=eL
 a3:=Tryz.isAgg3
 z3:=Tryz.sizeOf3
 v3:=Tryz.zeroValue3
 t4:=Tryz.underlying4
 a4:=Tryz.isAgg4
 z4:=Tryz.sizeOf4
 v4:=Tryz.zeroValue4
 t22:=eJ
 a22:=Tryz.isAgg25
 z22:=Tryz.sizeOf25
 v22:=Tryz.zeroValue25
 i3:=by kernel_rfl }
end Go.Proofs
namespace Go.Proofs.YtffladgmkiimjaaGreatDoor
open Go.RowKit Go.Lag Go.Sort
def sorted(zs:List Int):List Int:=zs.mergeSort fun x y=>decide (x<=y)
theorem Kv{w:ar}{base g cap:Nat}{zs:List Int}(h:w.ownsRow base 3 1 (ae (some ⟨g,0,none⟩) zs.length cap) zs.length (zs.map (aB ag)))(hlen:zs.length<4611686018427387904)(hb0:base<=w.heap.size) :
  bu aq 172 #[ae (some ⟨g,0,none⟩) zs.length cap] w fun e w'=>e=aF (.tuple #[])/\w'.ownsRow base 3 1 (ae (some ⟨g,0,none⟩) zs.length cap) zs.length ((sorted zs).map (aB ag))/\az base w w':=by
 rcases h.2 with⟨h0,_⟩|⟨g',cap',cur,hv,hbase,hb,h1,h2,h3,h4⟩
 .cases h0
 cases hv;have hl2:(sorted zs).length=zs.length:=xE zs;have hH:Holds (aB ag) w g 0 zs.toArray:=holds_of_blockI hb (by rw[Nat.mul_one] at h4;exact h4);have Cq:g<w.heap.size:=(ai.1 hb).1;refine(show bu aq 172 #[ae (some ⟨g,0,none⟩) zs.length cap] w _ from Any.slices_Sort_int Tryz.Xe g 0 cap zs w hH Cq hlen).mono ?_;rintro e w' ⟨rfl,n,os,rfl⟩;exact⟨rfl,ownsRow_sortedI (ts:=sorted zs) hl2 hbase hb h1 h2 h3,(au _ _).grown (grownBy_sortedI _) hb0 fun j hj=>by cases hj;exact hbase⟩
theorem CD{w:ar}{base g cap:Nat}{zs:List Int}(h:w.ownsRow base 3 1 (ae (some ⟨g,0,none⟩) zs.length cap) zs.length (zs.map (aB ag)))(hlen:zs.length<=9223372036854775807) :
  bu aq 173 #[ae (some ⟨g,0,none⟩) zs.length cap] w fun e w'=>e=aF (ae (some ⟨g,0,none⟩) (Lib.compact zs).length cap)/\w'.ownsRow base 3 1 (ae (some ⟨g,0,none⟩) (Lib.compact zs).length cap) (Lib.compact zs).length ((Lib.compact zs).map (aB ag))/\az base w w':=by
 have h':=h;rcases h.2 with⟨h0,_⟩|⟨g',cap',cur,hv,hbase,hb,h1,h2,h3,h4⟩
 .cases h0
 cases hv;have hle:=Lib.compact_length_le zs;have hH:Holds (aB ag) w g 0 zs.toArray:=holds_of_blockI hb (by rw[Nat.mul_one] at h4;exact h4);refine(show bu aq 173 #[ae (some ⟨g,0,none⟩) zs.length cap] w _ from Any.slices_Compact_int Tryz.ZR g 0 cap zs w hH hlen h1).mono ?_;rintro e w' ⟨rfl,q,rfl⟩;have hc:=Lib.ownsRow_putRow (q:=q) (k:=(Lib.compact zs).length) (ys:=Lib.compact zs++List.replicate (zs.length-(Lib.compact zs).length) 0) h' (by simp;omega) (by omega);rw[List.take_left] at hc;exact⟨rfl,hc,Lib.below_putRow (au _ _) hbase⟩
end Go.Proofs.YtffladgmkiimjaaGreatDoor
namespace Go.Proofs.YtffladgmkiimjaaGreatDoor
open Go.RowKit Go.Lag
def gX(of:eN->Int)(l:List eN):List Int:=Lib.compact (sorted (l.map of))
theorem NH(b:BB)(bq aK aA:ak)(l:List eN)(hl:l≠[])(hl2:l.length<=1000)(of:eN->Int)(cp:Nat)(w:ar)(v:ak)(hv:Reads w v l.length (rowOf l))
  (Ht:∀a∈l,∀W,az w.heap.size w W->bu aq 128 #[aR a.cells,pv cp 0] W fun e W'=>e=aF (ah ag (of a))/\az W.heap.size W W') :
  bu aq 124 #[aR (b.open bq aK aA v),.func (.func 128) #[] #[pv cp 0]] w fun e w'=>∃gn cn,e=aF (ae (some ⟨gn,0,none⟩) (gX of l).length cn)/\w'.ownsRow w.heap.size 3 1 (ae (some ⟨gn,0,none⟩) (gX of l).length cn) (gX of l).length ((gX of l).map (aB ag))/\az w.heap.size w w':=by
 obtain⟨i0,hi,hz0,hz1,hz2⟩:=info_parts info3
 obtain⟨g,off,cap,rfl,hn,hg,hc⟩:∃g off cap,v=ae (some ⟨g,off,none⟩) l.length cap/\(l.length<=4294967296/\l.length<=cap)/\g<w.heap.size/\∀j u,(rowOf l)[j]?=some u->w.cell? ⟨g,off+j,none⟩=some u:=by
  rcases hv with⟨_,h,_⟩|h
  .exact(hl (bf h)).elim
  exact h
 have kC:0<l.length:=dm.2 hl;have HC:=aj hc;have VA:=aj Ht;clear hc Ht hv hl;generalize hL:l.length=L at *;have HL:=aj hL;clear hL;have b1:az w.heap.size w (w.alloc (aw (b.open bq aK aA (ae (some ⟨g,off,none⟩) L cap)) 122)):=(au _ _).alloc (ax _) _;have yL:=aj b1;clear b1
 go_enter Tryz.func124,Tryz.ntmps124
 go_wp2
 go_loopw [5,7,11] (fun out _ i wr=>∃k:Nat,k<=L/\i=ah ag k/\wr.ownsRow (w.heap.size+1) 3 1 out k ((l.take k).map fun a=>aB ag (of a))/\az (w.heap.size+1) (w.alloc (aw (b.open bq aK aA (ae (some ⟨g,off,none⟩) L cap)) 122)) wr) (fun _ _ i _=>L-(intOf i).toNat)
 case atStart=>exact⟨0,by omega,rfl,by simpa using dR _ _ _ _,au _ _⟩
 case round=>
  obtain⟨k,hk,rfl,hown,en⟩:=hrel;have hsz:=en.size;simp at hsz;have uS:az w.heap.size w wr:=yL.out.trans (en.mono (by omega))
  by_cases hlt:k<L
  .have kD:k<l.length:=by rw[HL.out];exact hlt
   obtain⟨hc0,hc1,hc2,hc3⟩:=Reads.cell (w:=wr) (cap:=cap) (n:=L) (fun j u hj=>(uS.cell (p:=⟨g,off+j,none⟩) hg).trans (HC.out j u hj)) k kD;have tZ:(l.take (k+1)).map (fun a=>aB ag (of a))=(l.take k).map (fun a=>aB ag (of a))++[ah ag (of l[k])]:=by rw[bN kD,fh];rfl
   have hcl:=fun W hb=>VA.out l[k] (bV kD) W hb;have HT:=aj tZ;have HK:=aj hcl;clear tZ hcl;generalize l[k]=a at *;have VZ:=aj uS;clear uS
   go_wp2_with (first
    |(go_at_call 128;refine(HK.out _ (VZ.out.alloc (by omega) _)).mono ?_;rintro e w2 ⟨rfl,hb2⟩
      have hs2:=hb2.size;simp only[ej] at hs2;have hown2:w2.ownsRow (w.heap.size+1) 3 1 u5 k ((l.take k).map fun a=>aB ag (of a)):=fY (hown.alloc _) fun g hg=>hb2.block g (by have:=(hown.lt g hg).2;simp;omega);have px:=aj hb2
      have Yi:Hid (∀(j:Nat) (u:ak),([ah ag (of a)]:List ak)[j]?=some u->(w2.alloc (aw #[ah ag (of a)] 3)).cell? ((⟨w2.heap.size,0,none⟩:Addr).add j)=some u):=aj fun j u hj=>by
       match j,hj with
       |0,hj=>simp at hj;subst hj;simp[Addr.add]
      clear hb2)
    |(at_builtin;refine wpList_append_own _ rfl _ _ 25 rfl (w.heap.size+1) 3 i0 (ah ag 0) 1 8 eJ hi hz0 hz1 hz2 rfl (by decide) _ _ _ rfl (hown2.alloc _) ⟨w2.heap.size,0,none⟩ 1 1 [ah ag (of a)] rfl rfl Yi.out (by simp[cj]) (by unfold maxLen;omega) (by omega) (by simp;omega) ?_;intro v' w3 Lr hgrow hnil))
   go_roundw
   case rel=>
    have h1:az (w.heap.size+1) wr w2:=((au _ wr).alloc (by omega) _).trans (px.out.mono (by simp;omega));exact⟨k+1,by omega,by simp,by rw[HT.out];exact Lr,en.trans (tM (by omega) hown2 h1 hgrow)⟩
   case measure=>simp[intOf];omega
  obtain rfl:k=L:=by omega
  have NY:l.take k=l:=dp (by rw[HL.out];exact ax _);rw[NY,show(fun a=>aB ag (of a))=(aB ag ∘ of) from rfl,<-List.map_map] at hown;have YM:(l.map of).length=k:=by rw[fR];exact HL.out
  obtain⟨k',rfl⟩:∃k',k=k'+1:=⟨k-1,by omega⟩
  obtain⟨go,co,rfl⟩:=ownsRow_succ hown;rw[<-YM] at hown;have HO:=aj hown;have VZ:=aj uS;have HLM:=aj YM;have HN:=aj en;clear hown uS NY en YM;have N0:=Kv HO.out (by rw[HLM.out];omega) (by omega);rw[HLM.out] at N0;have HSO:=aj N0;clear N0
  go_wp2_with (first
   |(go_at_call 172;refine HSO.out.mono ?_;rintro e w2 ⟨rfl,ho2,hb2⟩
     have hs2:(sorted (l.map of)).length=k'+1:=(xE _).trans HLM.out;rw[<-hs2] at ho2;have xZ:=CD ho2 (by omega);rw[hs2] at xZ;have HCP:=aj xZ;have px:=aj hb2
     clear xZ ho2 hb2 hs2)
   |(go_at_call 173;refine HCP.out.mono ?_;rintro e w3 ⟨rfl,ho3,hb3⟩;have HO3:=aj ho3;have pJ:=aj hb3;clear ho3 hb3))
  go_ret
  refine⟨go,co,rfl,ownsRow_base HO3.out (by omega),VZ.out.trans ((px.out.mono (by omega)).trans (pJ.out.mono (by omega)))⟩
def eN.get(a:eN)(lM:Nat):Int:=
 match lM with
 |0=>a.m0
 |1=>a.m1
 |_=>a.m2
theorem Ro(b:BB)(bq aK aA:ak)(n:Nat)(L:Nat)(p:Option Addr)(cap:Nat)(hm:bq=ae p L cap)(h:n<L)(hL:L<=3)(w:ar):bu aq 127 #[aR (b.cells bq aK aA),ah ag n] w fun e w'=>e=aF (.bool true)/\az w.heap.size w w':=by
 subst hm;have z:IntKind.i64.wrap ((L:Int)-1)=(L:Int)-1:=fE _ (by omega) (by omega)
 go_enter Tryz.func127,Tryz.ntmps127
 go_wp2_with (go_at_call 138;refine(iK _ _ _ (by omega) (by omega) _).mono ?_;rintro e w' ⟨rfl,rfl⟩)
 go_ret
 exact⟨rfl,(au _ _).alloc (ax _) _⟩
theorem XY(b:BB)(bq aK aA:ak)(n:Nat)(L:Nat)(p:Option Addr)(cap:Nat)(hm:bq=ae p L cap)(h:n<L)(hL:L<=3)(cp:Nat)(w:ar)(hcl:cp<w.heap.size)(hc:w.cell? ⟨cp,0,none⟩=some (ah ag n)) :
  bu aq 126 #[aR (b.cells bq aK aA),pv cp 0] w fun e w'=>e=aF (ah ag 0)/\az w.heap.size w w':=by
 have b1:az w.heap.size w (w.alloc (aw (b.cells bq aK aA) 119)):=(au _ _).alloc (ax _) _;have hc1:=(b1.cell (p:=⟨cp,0,none⟩) hcl).trans hc;have HI:=aj (Ro b bq aK aA n L p cap hm h hL);have yL:=aj b1;clear b1 hc hm
 go_enter Tryz.func126,Tryz.ntmps126
 go_wp2_with (go_at_call 127;refine(HI.out _).mono ?_;rintro e w' ⟨rfl,hb⟩;have HB:=aj hb;clear hb)
 go_ret
 exact⟨rfl,yL.out.trans (HB.out.mono yL.out.size)⟩
theorem XX(a:eN)(n:Nat)(h:n<3)(cp:Nat)(w:ar)(hcl:cp<w.heap.size)(hc:w.cell? ⟨cp,0,none⟩=some (ah ag n)) :
  bu aq 128 #[aR a.cells,pv cp 0] w fun e w'=>e=aF (ah ag (a.get n))/\az w.heap.size w w':=by
 have b1:az w.heap.size w (w.alloc (aw a.cells 134)):=(au _ _).alloc (ax _) _;have hc1:=(b1.cell (p:=⟨cp,0,none⟩) hcl).trans hc;have hb:=ay w (aw a.cells 134)
 have hx:(w.alloc (aw a.cells 134)).cell? ⟨w.heap.size,1+n,none⟩=some (ah ag (a.get n)):=by
  match n,h with
  |0,_=>exact aJ hb 1 _ rfl
  |1,_=>exact aJ hb 2 _ rfl
  |2,_=>exact aJ hb 3 _ rfl
 have yL:=aj b1;clear b1 hc hb
 go_enter Tryz.func128,Tryz.ntmps128
 go_wp2
 go_ret
 exact⟨rfl,yL.out⟩
theorem FM(b:BB)(bq aK aA:ak)(ml:List Mn)(ss:List Int)(ms:List Mk)(w:ar)(hL:Laid w)(hB:cU b bq aK aA ml ss ms w)(hne:bw b ml ss ms≠[])(n:Nat)(hn:n<ml.length) :
  bu aq 58 #[aR (b.cells bq aK aA),ah ag n] w fun e w'=>∃v,e=aF (.tuple #[v,ah ag 0])/\Reads w' v (gX (fun a=>a.get n) (bw b ml ss ms)).length ((gX (fun a=>a.get n) (bw b ml ss ms)).map (aB ag))/\az w.heap.size w w':=by
 have hlen:=jE ss ms hB.ok hB.gZ;have kC:0<(bw b ml ss ms).length:=dm.2 hne;have N2:=hB.gZ.len;obtain⟨pm,cm,rfl,_⟩:=aW hB.rm;obtain⟨pn,cn,rfl,_⟩:=aW hB.rs;obtain⟨pk,ck,rfl,_⟩:=aW hB.rk;have b0:az w.heap.size w ((w.alloc (aw (b.cells (ae pm ml.length cm) (ae pn ss.length cn) (ae pk ms.length ck)) 28)).alloc (aw #[ah ag n] 3)):=((au _ _).alloc (ax _) _).alloc (by simp) _
 have ht:Two w (b.cells (ae pm ml.length cm) (ae pn ss.length cn) (ae pk ms.length ck)) 28 #[ah ag n] 3 ((w.alloc (aw (b.cells (ae pm ml.length cm) (ae pn ss.length cn) (ae pk ms.length ck)) 28)).alloc (aw #[ah ag n] 3)):=
  ⟨(Two.mk' w _ _ _ _).one,(Two.mk' w _ _ _ _).two,b0,by simp⟩
 have hop:=WJ b (ae pm ml.length cm) (ae pn ss.length cn) (ae pk ms.length ck) ml ss ms _ (hL.below b0) (hB.below b0) hne (w.heap.size+1) (fun W hb=>by
  have h1:=(hb.block (w.heap.size+1) (by simp)).trans ht.two
  exact XY b _ _ _ n ml.length pm cm rfl hn N2 _ W (ai.1 h1).1 (aJ h1 0 _ rfl))
 have HO:=aj hop;have HT:=aj ht;clear hop ht hL hB b0;generalize bw b ml ss ms=all at *;generalize hM:ml.length=lm at *;generalize ss.length=ln at *;generalize ms.length=lk at *;clear hM
 go_enter Tryz.func58,Tryz.ntmps58
 go_wp2_with (first
  |(go_at_call 103;refine HO.out.mono ?_;clear HO;rintro e w1 ⟨v,rfl,jn,hb1⟩
    have sw:=HT.out.next hb1
    obtain⟨gv,cv,rfl⟩:∃gv cv,v=ae (some ⟨gv,0,none⟩) all.length cv:=by
     rcases jn.1.2 with⟨_,h0⟩|⟨g,cap,cur,rfl,_⟩
     .omega
     exact⟨g,cap,rfl⟩
    have oX:=aj sw;have Vu:Hid (Reads (w1.alloc (aw (b.open (ae pm lm cm) (ae pn ln cn) (ae pk lk ck) (ae (some ⟨gv,0,none⟩) all.length cv)) 122)) (ae (some ⟨gv,0,none⟩) all.length cv) all.length (rowOf all)):=aj ((jn.reads (by omega)).below ((au _ _).alloc (ax _) _))
    have HNu:=aj (NH b (ae pm lm cm) (ae pn ln cn) (ae pk lk ck) all hne (by omega) (fun a=>a.get n) (w.heap.size+1) _ _ Vu.out (fun a _ W hb=>by
     have h1:=((oX.out.next ((au _ _).alloc (ax _) (aw (b.open (ae pm lm cm) (ae pn ln cn) (ae pk lk ck) (ae (some ⟨gv,0,none⟩) all.length cv)) 122))).next hb).two
     exact XX a n (by omega) _ W (ai.1 h1).1 (aJ h1 0 _ rfl)))
    clear sw jn hb1)
  |(go_at_call 124;refine HNu.out.mono ?_;rintro e w2 ⟨gn,cgn,rfl,ho2,hb2⟩;have HO2:=aj ho2;have px:=aj hb2;clear ho2 hb2))
 go_ret2;have hb3:=oX.out.below.alloc (by have:=oX.out.size;omega) (aw (b.open (ae pm lm cm) (ae pn ln cn) (ae pk lk ck) (ae (some ⟨gv,0,none⟩) all.length cv)) 122)
 have hnl:(gX (fun a=>a.get n) all).length<=1000:=by
  have h1:=Lib.compact_length_le (sorted (all.map fun a=>a.get n));have h2:(sorted (all.map fun a=>a.get n)).length=all.length:=(xE _).trans (fR _);unfold gX;omega
 exact⟨_,rfl,Reads.iT HO2.out (by omega) (by simp),hb3.trans (px.out.mono hb3.size)⟩
theorem KY(b:BB)(bq aK aA:ak)(l:List eN)(hl:l≠[])(hl2:l.length<=1000)(of:eN->Int)(cp cq cr:Nat)(w:ar)(v:ak)(hv:Reads w v l.length (rowOf l))
  (Ht:∀a∈l,∀W,az w.heap.size w W->bu aq 133 #[aR a.cells,pv cp 0,pv cq 0,pv cr 0] W fun e W'=>e=aF (ah ag (of a))/\az W.heap.size W W') :
  bu aq 124 #[aR (b.open bq aK aA v),.func (.func 133) #[] #[pv cp 0,pv cq 0,pv cr 0]] w fun e w'=>∃gn cn,e=aF (ae (some ⟨gn,0,none⟩) (gX of l).length cn)/\w'.ownsRow w.heap.size 3 1 (ae (some ⟨gn,0,none⟩) (gX of l).length cn) (gX of l).length ((gX of l).map (aB ag))/\az w.heap.size w w':=by
 obtain⟨i0,hi,hz0,hz1,hz2⟩:=info_parts info3
 obtain⟨g,off,cap,rfl,hn,hg,hc⟩:∃g off cap,v=ae (some ⟨g,off,none⟩) l.length cap/\(l.length<=4294967296/\l.length<=cap)/\g<w.heap.size/\∀j u,(rowOf l)[j]?=some u->w.cell? ⟨g,off+j,none⟩=some u:=by
  rcases hv with⟨_,h,_⟩|h
  .exact(hl (bf h)).elim
  exact h
 have kC:0<l.length:=dm.2 hl;have HC:=aj hc;have VA:=aj Ht;clear hc Ht hv hl;generalize hL:l.length=L at *;have HL:=aj hL;clear hL;have b1:az w.heap.size w (w.alloc (aw (b.open bq aK aA (ae (some ⟨g,off,none⟩) L cap)) 122)):=(au _ _).alloc (ax _) _;have yL:=aj b1;clear b1
 go_enter Tryz.func124,Tryz.ntmps124
 go_wp2
 go_loopw [5,7,11] (fun out _ i wr=>∃k:Nat,k<=L/\i=ah ag k/\wr.ownsRow (w.heap.size+1) 3 1 out k ((l.take k).map fun a=>aB ag (of a))/\az (w.heap.size+1) (w.alloc (aw (b.open bq aK aA (ae (some ⟨g,off,none⟩) L cap)) 122)) wr) (fun _ _ i _=>L-(intOf i).toNat)
 case atStart=>exact⟨0,by omega,rfl,by simpa using dR _ _ _ _,au _ _⟩
 case round=>
  obtain⟨k,hk,rfl,hown,en⟩:=hrel;have hsz:=en.size;simp at hsz;have uS:az w.heap.size w wr:=yL.out.trans (en.mono (by omega))
  by_cases hlt:k<L
  .have kD:k<l.length:=by rw[HL.out];exact hlt
   obtain⟨hc0,hc1,hc2,hc3⟩:=Reads.cell (w:=wr) (cap:=cap) (n:=L) (fun j u hj=>(uS.cell (p:=⟨g,off+j,none⟩) hg).trans (HC.out j u hj)) k kD;have tZ:(l.take (k+1)).map (fun a=>aB ag (of a))=(l.take k).map (fun a=>aB ag (of a))++[ah ag (of l[k])]:=by rw[bN kD,fh];rfl
   have hcl:=fun W hb=>VA.out l[k] (bV kD) W hb;have HT:=aj tZ;have HK:=aj hcl;clear tZ hcl;generalize l[k]=a at *;have VZ:=aj uS;clear uS
   go_wp2_with (first
    |(go_at_call 133;refine(HK.out _ (VZ.out.alloc (by omega) _)).mono ?_;rintro e w2 ⟨rfl,hb2⟩
      have hs2:=hb2.size;simp only[ej] at hs2;have hown2:w2.ownsRow (w.heap.size+1) 3 1 u5 k ((l.take k).map fun a=>aB ag (of a)):=fY (hown.alloc _) fun g hg=>hb2.block g (by have:=(hown.lt g hg).2;simp;omega);have px:=aj hb2
      have Yi:Hid (∀(j:Nat) (u:ak),([ah ag (of a)]:List ak)[j]?=some u->(w2.alloc (aw #[ah ag (of a)] 3)).cell? ((⟨w2.heap.size,0,none⟩:Addr).add j)=some u):=aj fun j u hj=>by
       match j,hj with
       |0,hj=>simp at hj;subst hj;simp[Addr.add]
      clear hb2)
    |(at_builtin;refine wpList_append_own _ rfl _ _ 25 rfl (w.heap.size+1) 3 i0 (ah ag 0) 1 8 eJ hi hz0 hz1 hz2 rfl (by decide) _ _ _ rfl (hown2.alloc _) ⟨w2.heap.size,0,none⟩ 1 1 [ah ag (of a)] rfl rfl Yi.out (by simp[cj]) (by unfold maxLen;omega) (by omega) (by simp;omega) ?_;intro v' w3 Lr hgrow hnil))
   go_roundw
   case rel=>
    have h1:az (w.heap.size+1) wr w2:=((au _ wr).alloc (by omega) _).trans (px.out.mono (by simp;omega));exact⟨k+1,by omega,by simp,by rw[HT.out];exact Lr,en.trans (tM (by omega) hown2 h1 hgrow)⟩
   case measure=>simp[intOf];omega
  obtain rfl:k=L:=by omega
  have NY:l.take k=l:=dp (by rw[HL.out];exact ax _);rw[NY,show(fun a=>aB ag (of a))=(aB ag ∘ of) from rfl,<-List.map_map] at hown;have YM:(l.map of).length=k:=by rw[fR];exact HL.out
  obtain⟨k',rfl⟩:∃k',k=k'+1:=⟨k-1,by omega⟩
  obtain⟨go,co,rfl⟩:=ownsRow_succ hown;rw[<-YM] at hown;have HO:=aj hown;have VZ:=aj uS;have HLM:=aj YM;have HN:=aj en;clear hown uS NY en YM;have N0:=Kv HO.out (by rw[HLM.out];omega) (by omega);rw[HLM.out] at N0;have HSO:=aj N0;clear N0
  go_wp2_with (first
   |(go_at_call 172;refine HSO.out.mono ?_;rintro e w2 ⟨rfl,ho2,hb2⟩
     have hs2:(sorted (l.map of)).length=k'+1:=(xE _).trans HLM.out;rw[<-hs2] at ho2;have xZ:=CD ho2 (by omega);rw[hs2] at xZ;have HCP:=aj xZ;have px:=aj hb2
     clear xZ ho2 hb2 hs2)
   |(go_at_call 173;refine HCP.out.mono ?_;rintro e w3 ⟨rfl,ho3,hb3⟩;have HO3:=aj ho3;have pJ:=aj hb3;clear ho3 hb3))
  go_ret
  refine⟨go,co,rfl,ownsRow_base HO3.out (by omega),VZ.out.trans ((px.out.mono (by omega)).trans (pJ.out.mono (by omega)))⟩
theorem Vl(b:BB)(hb:b.Ok)(bq aK aA:ak)(pl:List Int)(hp:eU b pl)(mi:Nat)(h1:1<=mi)(h2:(mi:Int)<=b.minutes)(cp cq:Nat)(lv:ak)(w:ar)(xZ:w.heap[cp]?=some (aw #[lv] 25 (0,0)))(hcq:w.heap[cq]?=some (aw #[ah ag mi] 3 (0,0)))(hl:Reads w lv pl.length (pl.map (aB ag))) :
  bu aq 131 #[aR (b.cells bq aK aA),pv cp 0,pv cq 0] w fun e w'=>e=aF (ah ag 0)/\az w.heap.size w w':=by
 have b1:az w.heap.size w (w.alloc (aw (b.cells bq aK aA) 119)):=(au _ _).alloc (ax _) _;have lp:=(ai.1 xZ).1;have lq:=(ai.1 hcq).1;have x1:=aJ ((b1.block _ lp).trans xZ) 0 _ rfl;have VY:=aj (qB b hb bq aK aA lv pl hp _ (hl.below b1));have yL:=aj b1;have HQ:=aj hcq;have HK:=aj (ay w (aw (b.cells bq aK aA) 119));clear xZ hcq hl hp b1
 go_enter Tryz.func131,Tryz.ntmps131
 go_wp2_with (first
  |(go_at_call 113;refine VY.out.mono ?_;clear VY;rintro e w1 ⟨rfl,hb1⟩
    have px:=aj hb1;obtain⟨y0,y1,y2,y3,y4,y5,y6,y7,y8,y9,M6,O9,O8,O7,Kf⟩:=bT ((hb1.block w.heap.size (by simp)).trans HK.out);have x2:=aJ ((hb1.block _ (by simp;omega)).trans ((yL.out.block _ lq).trans HQ.out)) 0 _ rfl
    clear hb1)
  |(go_at_call 132;refine(np b bq aK aA mi (by omega) h2 _).mono ?_;rintro e w2 ⟨rfl,hb2⟩;have pJ:=aj hb2;clear hb2))
 go_ret
 have h1:=yL.out.trans (px.out.mono yL.out.size);exact⟨rfl,h1.trans (pJ.out.mono h1.size)⟩
theorem Vk(b:BB)(hb:b.Ok)(bq aK aA v:ak)(pl:List Int)(hp:eU b pl)(mi:Nat)(h1:1<=mi)(h2:(mi:Int)<=b.minutes)(a:eN)(ha:a.Ok)(ob cp cq:Nat)(lv:ak)(w:ar)(tj:w.heap[ob]?=some (aw (b.open bq aK aA v) 122 (0,0)))
  (xZ:w.heap[cp]?=some (aw #[lv] 25 (0,0))) (hcq:w.heap[cq]?=some (aw #[ah ag mi] 3 (0,0))) (hl:Reads w lv pl.length (pl.map (aB ag))) :
  bu aq 133 #[aR a.cells,pv ob 0,pv cp 0,pv cq 0] w fun e w'=>e=aF (ah ag (b.rR (b.cD+a.used) (bD pl) mi))/\az w.heap.size w w':=by
 have xW:=hb.minutes;have nW:∀s∈pl,1<=s/\s<=8:=fun s h=>by have:=hp.mem s h;omega
 have Jp:bD pl<512:=mA pl nW;have b1:az w.heap.size w (w.alloc (aw a.cells 134)):=(au _ _).alloc (ax _) _;have hk:=ay w (aw a.cells 134);have lo:=(ai.1 tj).1;have lp:=(ai.1 xZ).1;have lq:=(ai.1 hcq).1
 have hS:∀w',az (w.alloc (aw a.cells 134)).heap.size (w.alloc (aw a.cells 134)) w'->w'.heap[ob]?=some (aw (b.open bq aK aA v) 122 (0,0))/\w'.heap[w.heap.size]?=some (aw a.cells 134 (0,0))/\w'.heap[cp]?=some (aw #[lv] 25 (0,0))/\w'.heap[cq]?=some (aw #[ah ag mi] 3 (0,0))/\Reads w' lv pl.length (pl.map (aB ag))/\az w.heap.size w w':=fun w' hb'=>by
  have hs:(w.alloc (aw a.cells 134)).heap.size=w.heap.size+1:=by simp
  exact⟨(hb'.block _ (by omega)).trans ((b1.block _ lo).trans tj),(hb'.block _ (by omega)).trans hk,(hb'.block _ (by omega)).trans ((b1.block _ lp).trans xZ),(hb'.block _ (by omega)).trans ((b1.block _ lq).trans hcq),(hl.below b1).below hb',b1.trans (hb'.mono (by omega))⟩
 have HS:=aj hS;clear hS tj xZ hcq hl b1 hk;have hw1:IntKind.i64.wrap ((mi:Int)-1)=((mi-1:Nat):Int):=by rw[fE _ (by omega) (by omega)];omega
 have hlt:((mi-1:Nat):Int)<(b.minutes.toNat:Int):=by omega
 have hnn:(0:Int)<=((mi-1:Nat):Int):=by omega
 have aar:((b.jL (b.cD+a.used) (bD pl) b.minutes.toNat).map (aB ag))[mi-1]?=some (ah ag (b.rR (b.cD+a.used) (bD pl) mi)):=by
  have h3:mi-1<b.minutes.toNat:=by omega
  have h4:mi-1+1=mi:=by omega
  simp[BB.jL,h3,h4]
 go_enter Tryz.func133,Tryz.ntmps133
 go_wp2
 refine bY (by kernel_rfl) [
 pV (pv ob 0),
  pV (aR (b.cells bq aK aA)),
  pV (aR a.cells),
  pV (lv),
  pV (ah ag (bD pl)),
  fun v ds w9=>∃g cap,∃cur:Array ak,v=ae (some ⟨g,0,none⟩) b.minutes.toNat cap/\b.minutes.toNat<=cap/\w9.heap[g]?=some (aw cur 3 (0,0))/\∀(j:Nat) (u:ak),((b.jL (b.cD+a.used) (bD pl) b.minutes.toNat).map (aB ag))[j]?=some u->cur[j]?=some u,
  pV (ah ag mi),
  pV (ah ag ((mi-1:Nat):Int)),
  fun v ds w9=>∃g,v=pv g (mi-1)/\w9.cell? ⟨g,mi-1,none⟩=some (ah ag (b.rR (b.cD+a.used) (bD pl) mi))/\g<w9.heap.size,
  pV (ah ag (b.rR (b.cD+a.used) (bD pl) mi)),
  pV (ah ag (b.rR (b.cD+a.used) (bD pl) mi))]
  (fun w9=>az (w.alloc (aw a.cells 134)).heap.size (w.alloc (aw a.cells 134)) w9) [(1,pv ob 0),(2,pv cp 0),(3,pv cq 0),(4,pv w.heap.size 0)] (by kernel_rfl) ?rst (fun w1 w2 h hb=>h.trans (hb.mono h.size)) ((au _ _).drew) ⟨rfl,rfl,rfl,rfl,trivial⟩ ?reach ?rfin
 case rst=>
  refine⟨sV,sV,sV,sV,sV,?_,sV,sV,?_,sV,sV,trivial⟩
  .rintro v ds w1 w2 hS ⟨g,cap,cur,h1,h2,h3,h4⟩ hb;exact⟨g,cap,cur,h1,h2,(hb.block g (ai.1 h3).1).trans h3,h4⟩
  rintro v ds w1 w2 hS ⟨g,h1,h2,h3⟩ hb;exact⟨g,h1,(hb.cell (p:=⟨g,mi-1,none⟩) h3).trans h2,Nat.lt_of_lt_of_le h3 hb.size⟩
 case reach=>
  refine⟨?_,?_,?_,?_,?_,?_,?_,?_,?_,?_,?_,trivial⟩<;>rintro ev w1 hS hc hg hf ⟨b1,b2,b3,b4,-⟩ hd
  .clear hd;exact tV
  .have d0:ev (aM 6)=_:=hd.1 rfl;clear hd;have q:=HS.out w1 hS;obtain⟨x0,x1,x2,x3,x4,x5,x6,x7,x8,x9,oh,og,o6,oA,oW,x15⟩:=jC q.1;exact tV
  .clear hd;have q:=HS.out w1 hS;obtain⟨y0,y1,y2,y3⟩:=qo q.2.1;exact tV
  .clear hd;have q:=HS.out w1 hS;have y:=aJ q.2.2.1 0 _ rfl;exact tV
  .have d3:ev (aM 9)=_:=hd.1 rfl;clear hd;have q:=HS.out w1 hS;refine yq (args:=#[lv]) (kx pl nW lv _ q.2.2.2.2.1) ?_ fun _=>rfl;go_simp
  .have d1:ev (aM 7)=_:=hd.1 rfl;have d2:ev (aM 8)=_:=hd.2.1 rfl;have d4:ev (aM 10)=_:=hd.2.2.1 rfl;clear hd;refine Lag.Yields.call (f:=114) (args:=#[aR (b.cells bq aK aA),aR a.cells,ah ag (bD pl)]) ?_ (Ej b hb bq aK aA a ha (bD pl) Jp _) ?_
   .go_simp
   rintro e w2 ⟨g,cap,cur,rfl,h1,h2,h3,h4,h5,h6⟩;exact⟨_,rfl,⟨g,cap,cur,rfl,h3,h4,h5⟩,.inl h6⟩
  .clear hd;have q:=HS.out w1 hS;have y:=aJ q.2.2.2.1 0 _ rfl;exact tV
  .have d6:ev (aM 12)=_:=hd.1 rfl;clear hd;exact tV
  .have d7:ev (aM 13)=_:=hd.2.1 rfl;obtain⟨g,cap,cur,e11,Gi,hgb,qH⟩:=hd.1 rfl;clear hd;replace e11:ev (aM 11)=_:=e11;refine yv (v:=pv g (mi-1)) ?_ (⟨g,rfl,aJ hgb _ _ (qH _ _ aar),(ai.1 hgb).1⟩);go_simp;intro hx;exfalso;omega
  .obtain⟨g,FU,hcl,_⟩:=hd.1 rfl;clear hd;replace FU:ev (aM 14)=_:=FU;exact tV
  have d9:ev (aM 15)=_:=hd.1 rfl;clear hd;refine yv (v:=ev (aM 15)) ?_ (d9);rfl
 case rfin=>
  intro a2 w2 hR;have hS:=hR.s;have JI:a2.tmps.getD 5 af=_:=hR.val 10 (by decide);have RA:a2=⟨#[a2.tmps.getD 0 af,a2.tmps.getD 1 af,a2.tmps.getD 2 af,a2.tmps.getD 3 af,a2.tmps.getD 4 af,a2.tmps.getD 5 af,a2.tmps.getD 6 af,a2.tmps.getD 7 af,a2.tmps.getD 8 af,a2.tmps.getD 9 af,a2.tmps.getD 10 af,a2.tmps.getD 11 af,a2.tmps.getD 12 af,a2.tmps.getD 13 af,a2.tmps.getD 14 af,a2.tmps.getD 15 af],[]⟩:=hR.act;clear hR;rw[JI] at RA;clear JI;generalize a2.tmps.getD 0 af=s0,a2.tmps.getD 1 af=s1,a2.tmps.getD 2 af=s2,a2.tmps.getD 3 af=s3,a2.tmps.getD 4 af=s4,a2.tmps.getD 6 af=s6,a2.tmps.getD 7 af=s7,a2.tmps.getD 8 af=s8,a2.tmps.getD 9 af=s9,a2.tmps.getD 10 af=s10,a2.tmps.getD 11 af=s11,a2.tmps.getD 12 af=s12,a2.tmps.getD 13 af=s13,a2.tmps.getD 14 af=s14,a2.tmps.getD 15 af=s15 at RA;have HF:=aj (HS.out w2 hS).2.2.2.2.2;clear hS;subst RA;go_wp2
  go_ret
  exact⟨rfl,HF.out⟩
end Go.Proofs.YtffladgmkiimjaaGreatDoor
