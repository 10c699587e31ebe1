/- LONE WALKS: Ask (53). PLAIN LAW of BellAsked (10): the man whose breat .. -/
import Derived.Test.YtffladgmkiimjaaGreatDoorW12
import Derived.Test.YtffladgmkiimjaaGreatDoorW06
import Derived.Maps.OwnOps
import Derived.Maps.Views
import Derived.Test.YtffladgmkiimjaaGreatDoorW03
import Derived.Test.YtffladgmkiimjaaGreatDoorW02
import Derived.Test.YtffladgmkiimjaaGreatDoorW11
import Derived.Test.YtffladgmkiimjaaGreatDoorW01
import Derived.Test.YtffladgmkiimjaaGreatDoorW00
import Derived.Test.YtffladgmkiimjaaGreatDoorW04
set_option linter.all false
set_option maxHeartbeats 100000000
set_option maxRecDepth 1000000
open Array renaming getElem?_eq_some_iff -> ai
open Go renaming undef -> af,Value -> ak,World -> ar,Calls -> bu
open Go.Addr renaming add -> k8
open Go.Code renaming wp -> bZ
open Go.Ending renaming returned -> aF
open Go.IntKind renaming wrap_i64 -> a8,i64 -> ag
open Go.Lib renaming hid -> aj
open Go.Obj renaming cells -> aw
open Go.Operand renaming tmp -> aM
open Go.Proofs.Tryz renaming prog -> aq,underlying25 -> eJ,underlying3 -> eL
open Go.RowKit renaming Below -> az
open Go.RowKit.Below renaming heap_alloc -> aX,refl -> au,heap_setCell -> bt
open Go.Value renaming int -> aB,bool -> aH,agg -> aR,pointer -> aS,slice -> ae,int -> ah,tuple -> cO,oneCell' -> cj,bool -> nC
open Go.World renaming alloc_heap_new -> ay,ownsRow_nil -> dR
open List renaming take_length -> GN,all_eq_true -> a7,range -> aU,take_succ_eq_append_getElem -> bN,getElem_mem -> bV,mem_cons -> cy,length_pos_iff -> dm,getElem?_eq_getElem -> fK,mem_filter -> fQ,length_map -> fR,map_append -> fh,getD_cons_zero -> gi,getD_cons_succ -> gp,map -> nD,any_eq_true -> qb,length_take -> vX,length_mergeSort -> xE,countP_le_length -> xF
open List.range renaming loop -> cg
open Nat renaming le_trans -> aO,le_refl -> ax,reduceEqDiff -> bU,zero_add -> di,zero_le -> iW
open Option.some renaming inj -> bj
open Or renaming inl -> cK
namespace Go.Proofs.YtffladgmkiimjaaGreatDoor
open Go.RowKit Go.Lag Go.Maps
theorem wfI{n:Int}(h0 : -9223372036854775808<=n)(h1:n<=9223372036854775807):(Lit.int .i64 n).wf=true:=by
 simp[Lit.wf,IntKind.min,IntKind.max,IntKind.signed,IntKind.bits];omega
def cnt(i:Nat)(l:List eN)(n:Int):Nat:=l.countP fun a=>a.get i==n
def qq(i:Nat)(all:List eN):Nat->Nat
 |0=>0
 |j+1=>max (qq i all j) (cnt i (all.take (j+1)) ((all.getD j ⟨0,0,0,0⟩).get i))
def rQ(all:List eN):Nat->Int × Nat
 |0=>(-1,all.length)
 |i+1=>if qq i all all.length<(rQ all i).2 then((i:Int),qq i all all.length) else rQ all i
theorem AY:Keyed aq 3:=int_keyed eL
theorem Dp(w:ar):(zeroValue 3).run aq w=.ok (.int .i64 0) w:=by kernel_rfl
def yI(D:DataW Unit)(i:Nat)(l:List eN):Prop:=IsMap D/\∀n:Int,D.atKey (.int .i64 n) (.lit (.int .i64 0))=.lit (.int .i64 (cnt i l n))
theorem yI.nil(i:Nat):yI (.map []) i []:=⟨⟨_,rfl⟩,fun n=>rfl⟩
theorem yI.put{D:DataW Unit}{i:Nat}{l:List eN}(h:yI D i l)(a:eN):yI (D.put (.int .i64 (a.get i)) (.lit (.int .i64 ((cnt i l (a.get i):Int)+1)))) i (l++[a]):=by
 refine⟨h.1.put _ _,fun n=>?_⟩
 by_cases hn:a.get i=n
 .subst hn;rw[atKey_put_same h.1 (by trivial)];simp[cnt,List.countP_append]
 rw[atKey_put_other (by simpa using fun e=>hn e.symm),h.2 n];simp[cnt,List.countP_append,hn]
theorem Ki(i:Nat)(all:List eN):∀j,j<=all.length->qq i all j<=j
 |0,_=>ax _
 |j+1,h=>by
  have h1:=Ki i all j (by omega);have h2:cnt i (all.take (j+1)) ((all.getD j ⟨0,0,0,0⟩).get i)<=(all.take (j+1)).length:=xF;simp only[vX] at h2;unfold qq;omega
theorem MC(all:List eN):∀i,(rQ all i).2<=all.length
 |0=>ax _
 |i+1=>by
  have:=MC all i;unfold rQ;split<;>simp<;>omega
theorem abN(b:BB)(bq aK aA:ak)(ml:List Mn)(ss:List Int)(ms:List Mk)(w:ar)(hL:Laid w)(hB:cU b bq aK aA ml ss ms w)(hne:bw b ml ss ms≠[]) :
  bu aq 53 #[.agg (b.cells bq aK aA)] w fun e w'=>e=.returned (.tuple #[.int .i64 (rQ (bw b ml ss ms) ml.length).1,.int .i64 (rQ (bw b ml ss ms) ml.length).2,.int .i64 0])/\az w.heap.size w w':=by
 have hlen:=jE ss ms hB.ok hB.gZ;have kC:0<(bw b ml ss ms).length:=dm.2 hne;have cY:=hB.ok;have hao:=nZ (ss:=ss) (ms:=ms) hB.ok hB.gZ;have Uh:=hB.gZ.len;obtain⟨pm,cm,rfl,_⟩:=aW hB.rm;obtain⟨pn,cn,rfl,_⟩:=aW hB.rs;obtain⟨pk,ck,rfl,_⟩:=aW hB.rk;have b1:az w.heap.size w (w.alloc (.cells (b.cells (.slice pm ml.length cm) (.slice pn ss.length cn) (.slice pk ms.length ck)) 28)):=(au _ _).alloc (ax _) _;have HX:=aj (ay w (.cells (b.cells (.slice pm ml.length cm) (.slice pn ss.length cn) (.slice pk ms.length ck)) 28));have HO:=aj (zm b _ _ _ ml ss ms _ (hL.below b1) (hB.below b1) hne (fun W' _=>Cj b _ _ _ W'));have yL:=aj b1;have Sz:=aj hao;clear hL hB hne hao b1;generalize bw b ml ss ms=all at *;generalize ml.length=lm at *;generalize ss.length=ln at *;generalize ms.length=lk at *;have hmm:=@run_makeMap aq
 go_enter Tryz.func53,Tryz.ntmps53
 go_wp2_with (first
  |(refine wpList_load_row rfl 28 _ rfl _ rfl 28 _ (0,0) _ HX.out Tryz.underlying28 rfl (by kernel_rfl) ?_)
  |(refine wpList_store_row rfl 122 _ _ rfl _ _ rfl rfl 122 _ Yg.out (by kernel_rfl) rfl (by simp[cj]) ?_)
  |(go_at_call 103;refine HO.out.mono ?_;clear HO;rintro e w1 ⟨v,rfl,jn,hb1⟩
    obtain⟨gv,cv,rfl⟩:∃gv cv,v=.slice (some ⟨gv,0,none⟩) all.length cv:=by
     rcases jn.1.2 with⟨_,h0⟩|⟨g,cap,cur,rfl,_⟩
     .omega
     exact⟨g,cap,rfl⟩
    have MR:=aj jn;have px:=aj hb1;have Yg:=aj (ay w1 (.cells iu 122))
    clear jn hb1))
 have hk2:((w1.alloc (.cells iu 122)).setRow w1.heap.size (b.open (.slice pm lm cm) (.slice pn ln cn) (.slice pk lk ck) (.slice (some ⟨gv,0,none⟩) all.length cv))).heap[w1.heap.size]?=some (.cells (b.open (.slice pm lm cm) (.slice pn ln cn) (.slice pk lk ck) (.slice (some ⟨gv,0,none⟩) all.length cv)) 122 (0,0)):=cV Yg.out
 have uS:az w.heap.size w ((w1.alloc (.cells iu 122)).setRow w1.heap.size (b.open (.slice pm lm cm) (.slice pn ln cn) (.slice pk lk ck) (.slice (some ⟨gv,0,none⟩) all.length cv))):=by
  have h1:=yL.out.trans (px.out.mono yL.out.size);exact dv (h1.alloc h1.size _) h1.size
 have Cq:=(MR.out.1.lt gv rfl).2
 have Z8:=MR.out.at_ (W':=((w1.alloc (.cells iu 122)).setRow w1.heap.size (b.open (.slice pm lm cm) (.slice pn ln cn) (.slice pk lk ck) (.slice (some ⟨gv,0,none⟩) all.length cv)))) fun g hg=>by
  have:g=gv:=by simpa [Value.ownBlock] using hg.symm
  subst this;exact(setRow_other (by omega)).trans (aX _ _ _ Cq)
 have kD:w.heap.size<w1.heap.size:=by have:=px.out.size;simp at this;omega
 have hx2:((w1.alloc (.cells iu 122)).setRow w1.heap.size (b.open (.slice pm lm cm) (.slice pn ln cn) (.slice pk lk ck) (.slice (some ⟨gv,0,none⟩) all.length cv))).heap[w.heap.size]?=some (.cells (b.cells (.slice pm lm cm) (.slice pn ln cn) (.slice pk lk ck)) 28 (0,0)):=by
  refine(setRow_other (by omega)).trans ((aX _ _ _ (by omega)).trans ((px.out.block _ ?_).trans HX.out));simp
 have Cp:=Z8.reads (by omega);generalize hWe:((w1.alloc (.cells iu 122)).setRow w1.heap.size (b.open (.slice pm lm cm) (.slice pn ln cn) (.slice pk lk ck) (.slice (some ⟨gv,0,none⟩) all.length cv)))=W2 at *;generalize w1.heap.size=k at *
 have HC:Hid (∀j u,(rowOf all)[j]?=some u->W2.cell? ⟨gv,0+j,none⟩=some u):=aj (by
  rcases Cp with⟨h0,_⟩|⟨g,off,cap,h0,_,_,h1⟩
  .cases h0
  cases h0;exact h1)
 have ahz:=(Z8.1.lt gv rfl).2;have y1:=aJ hk2 15 _ rfl;have f1:=dg hk2 15;have GG:=aj hk2;have HX2:=aj hx2;have VZ:=aj uS;have HWe:=aj hWe;clear hWe Cp Z8 MR yL px HX Yg uS Cq hk2 hx2
 have GF:Hid (∀w9,az W2.heap.size W2 w9->w9.cell? ⟨k,15,none⟩=some (.slice (some ⟨gv,0,none⟩) all.length cv)/\w9.heap[k]?=some (.cells (b.open (.slice pm lm cm) (.slice pn ln cn) (.slice pk lk ck) (.slice (some ⟨gv,0,none⟩) all.length cv)) 122 (0,0))/\w9.heap[w.heap.size]?=some (.cells (b.cells (.slice pm lm cm) (.slice pn ln cn) (.slice pk lk ck)) 28 (0,0))):=aj fun w9 Od=>by
  have h1:=(Od.block _ (ai.1 GG.out).1).trans GG.out;exact⟨aJ h1 15 _ rfl,h1,(Od.block _ (ai.1 HX2.out).1).trans HX2.out⟩
 refine bY (by kernel_rfl) [
 pV (.pointer (some ⟨k,15,none⟩)),
  pV (.slice (some ⟨gv,0,none⟩) all.length cv),
  pV (.int .i64 all.length),
  pV (.int .i64 (-1)),
  pV (.int .i64 all.length)]
  (fun w9=>az W2.heap.size W2 w9) [(1,pv w.heap.size 0),(5,pv k 0)] (by kernel_rfl) ?rst (fun w1 w2 h hb=>h.trans (hb.mono h.size)) (by have:=HWe.out;subst this;exact(au _ _).drew) ⟨rfl,rfl,trivial⟩ ?reach ?rfin
 case rst=>
  refine⟨sV,sV,sV,sV,sV,trivial⟩
 case reach=>
  refine⟨?_,?_,?_,?_,?_,trivial⟩<;>rintro ev w1 hS hc hg hf ⟨b1,b5,-⟩ hd
  .clear hd;exact tV
  .have d0:ev (.tmp 19)=_:=hd.1 rfl;clear hd;obtain y1:=(GF.out w1 hS).1;exact tV
  .have d1:ev (.tmp 20)=_:=hd.1 rfl;clear hd;exact tV
  .clear hd;exact tV
  have d2:ev (.tmp 21)=_:=hd.1 rfl;clear hd;exact tV
 case rfin=>
  intro a2 w2 hR;have hS:=hR.s;have e3:a2.tmps.getD 2 af=_:=hR.val 3 (by decide);have e4:a2.tmps.getD 3 af=_:=hR.val 4 (by decide);have k1:a2.tmps.getD 1 af=pv w.heap.size 0:=hR.kept (by kernel_rfl);have k4:a2.tmps.getD 4 af=.int .i64 0:=hR.kept (by kernel_rfl);have k5:a2.tmps.getD 5 af=pv k 0:=hR.kept (by kernel_rfl);have ha:=hR.lits 60 rfl;simp only[aU,cg,nD] at ha;clear hR;rw[e3,e4,k1,k4,k5] at ha;generalize a2.tmps.getD=zz at ha;have px:=aj hS;clear e3 e4 k1 k4 k5 hS y1 f1;subst ha;obtain⟨y1,hk2,hx2⟩:=GF.out w2 px.out;have f1:=dg hk2 15;obtain⟨x0,x1,x2,x3,x4,x5,x6,x7,x8,x9,oh,og,o6,oA,oW⟩:=bT hx2;have fx:=dg hx2 12;clear hk2 hx2;generalize hL:all.length=L at *;have HL:=aj hL;clear hL x0 x1 x2 x3 x4 x5 x6 x7 x8 x9 oh og oA oW;go_wp2
  go_loopw [2,3,6,7,8,10,25] (fun mn lf _ _ _ _ i wr=>∃m:Nat,m<=lm/\i=.int .i64 m/\mn=.int .i64 (rQ all m).1/\lf=.int .i64 (rQ all m).2/\az w2.heap.size w2 wr) (fun _ _ _ _ _ _ i _=>lm-(intOf i).toNat)
  case atStart=>exact⟨0,by omega,rfl,rfl,by simp[rQ,HL.out],au _ _⟩
  case round=>
   obtain⟨m,hm,rfl,rfl,rfl,en⟩:=hrel;rename ar=>wo;have hsz:=en.size
   by_cases hlt:m<lm
   .have Il:=(en.cell (p:=⟨k,15,none⟩) (ai.1 (GF.out w2 px.out).2.1).1).trans y1;have xC:=aj en
    have hkb:k<wo.heap.size:=by
     have:=(ai.1 (GF.out w2 px.out).2.1).1;omega
    have hgb:gv<wo.heap.size:=by have:=px.out.size;omega
    have fz:(wo.alloc (.map #[] 0)).frozen? ⟨k,15,none⟩=false:=by
     have:=(GF.out wo (px.out.trans (en.mono px.out.size))).2.1;exact dg ((aX _ _ _ hkb).trans this) 15
    have HCr:Hid (∀W,az (wo.heap.size) wo W->∀i u,(rowOf all)[i]?=some u->W.cell? ⟨gv,0+i,none⟩=some u):=aj fun W hW i u hi=>by
     have:=HC.out i u hi;have h2:=(px.out.trans ((en.mono px.out.size).trans (hW.mono (by have:=px.out.size;omega)))).cell (p:=⟨gv,0+i,none⟩) ahz;exact h2.trans this
    have HAs:Hid (rQ all (m+1)=if qq m all all.length<(rQ all m).2 then((m:Int),qq m all all.length) else rQ all m):=aj rfl;have hal:=MC all m;generalize rQ all m=am at *;obtain⟨am,al⟩:=am;simp only[] at hal;clear en;go_wp2
    go_loopw [8,10,32] (fun wst _ i wq=>∃j:Nat,j<=L/\i=.int .i64 j/\wst=.int .i64 (qq m all j)/\(∃D,yI D m (all.take j)/\wq.ownsMap aq 3 (plainElem (H:=Unit) aq 3) wo.heap.size j D)/\az wo.heap.size wo wq) (fun _ _ i _=>L-(intOf i).toNat)
    case atStart=>exact⟨0,by omega,rfl,rfl,⟨_,yI.nil _,World.ownsMap_made _ _ _ _⟩,(au _ _).alloc (ax _) _⟩
    case round=>
     obtain⟨j,hj,rfl,rfl,⟨D,hD,hown⟩,yJ⟩:=hrel
     by_cases MW:j<L
     .have Js:j<all.length:=by rw[HL.out];exact MW
      have Z6:=yJ.size;have hql:=hown.lt;have hbq:=px.out.size;obtain⟨c0,c1,c2,c3⟩:=Reads.cell (w:=wr) (cap:=cv) (n:=L) (fun i u hi=>HCr.out wr yJ i u hi) j Js;simp only[di] at c0 c1 c2 c3;have hw1:qq m all (j+1)=max (qq m all j) (cnt m (all.take (j+1)) ((all.getD j ⟨0,0,0,0⟩).get m)):=rfl;have hwl:=Ki m all j (by omega);have hgd:all.getD j ⟨0,0,0,0⟩=all[j]:=by simp[List.getD,fK Js]
      have tZ:all.take (j+1)=all.take j++[all[j]]:=List.take_append_getElem Js |>.symm
      have hcl:cnt m (all.take j) (all[j].get m)<=(all.take j).length:=xF
      have hcn:cnt m (all.take (j+1)) (all[j].get m)=cnt m (all.take j) (all[j].get m)+1:=by
       show List.countP _ (all.take (j+1))=_;rw[tZ,List.countP_append,List.countP_singleton];simp[cnt]
      have hDp:=hD.put all[j];rw[<-tZ] at hDp;have hDk:=hD.2 (all[j].get m);simp only[vX] at hcl
      have hgo:0<=all[j].get m/\all[j].get m<=99:=by
       have:=Sz.out _ (bV Js);unfold eN.get;split
       .exact this.m0
       .exact this.m1
       exact this.m2
      rw[hgd,hcn] at hw1;have HCn:=aj hcn;have Uw:=ay wr (.cells all[j].cells 134)
      have hx:(wr.alloc (.cells all[j].cells 134)).cell? ⟨wr.heap.size,1+m,none⟩=some (.int .i64 (all[j].get m)):=by
       have h3:m<3:=by omega
       match m,h3 with
       |0,_=>exact aJ Uw 1 _ rfl
       |1,_=>exact aJ Uw 2 _ rfl
       |2,_=>exact aJ Uw 3 _ rfl
      have hoa:=hown.alloc (.cells all[j].cells 134);have HBa:=aj Uw;have Sy:=aj yJ;have HDp:=aj hDp;have HDk:=aj hDk;have HW1:=aj hw1;clear hD hown tZ hgd hcn Uw yJ hDp hDk;generalize all[j]=a at *;generalize hcc:cnt m (all.take j) (a.get m)=cc at *;generalize hww:qq m all j=ww at *;have hkey:keyOf aq 3 (.int .i64 (a.get m))=some (.int .i64 (a.get m)):=keyOf_int_mk eL (wfI (by omega) (by omega));have zz:IntKind.i64.wrap ((cc:Int)+1)=(cc:Int)+1:=by rw[a8];omega
      have HNe:Hid (wr.heap.size≠wo.heap.size):=aj (by omega);rcases Int.lt_or_le (ww:Int) ((cc:Int)+1) with q1|q1
      .go_wp2_with (first
        |(at_lookup;refine wpList_lookup_own_int _ rfl _ _ 146 rfl 3 3 .i64 AY Tryz.underlying146 eL (Dp _) wo.heap.size j _ rfl hoa _ _ rfl hkey ?_;intro c hat hwc
          obtain rfl:c=(cc:Int):=by rw[HDk.out] at hat;simpa using hat.symm)
        |(at_lookup;refine wpList_lookup_own_int _ rfl _ _ 146 rfl 3 3 .i64 AY Tryz.underlying146 eL (Dp _) wo.heap.size (j+1) _ rfl hown1 _ _ rfl hkey ?_;intro c hat hwc
          obtain rfl:c=(cc:Int)+1:=by have:=HDp.out.2 (a.get m);rw[HCn.out] at this;rw[this] at hat;simpa using hat.symm)
        |(at_mapUpdate;refine wpList_mapUpdate_own _ rfl _ _ _ 146 rfl 3 3 AY Tryz.underlying146 _ wo.heap.size j _ rfl hoa (by unfold maxLen;omega) _ _ _ rfl rfl hkey _ [] (plainElem_int eL (wfI (by omega) (by omega))) ?_;intro w1 hown1 EK
          have hx1:=(EK.cell hx (by simpa using HNe.out))
          clear hx)
        |go_in)
       go_roundw
       case rel=>
        refine⟨j+1,by omega,by simp,?_,⟨_,HDp.out,hown1⟩,(Sy.out.alloc (by omega) _).grown EK (by simp;omega) (fun k hk=>by cases hk;exact ax _)⟩;exact congrArg (aB .i64) (by have:=HW1.out;omega)
       case measure=>simp[intOf];omega
      go_wp2_with (first
       |(at_lookup;refine wpList_lookup_own_int _ rfl _ _ 146 rfl 3 3 .i64 AY Tryz.underlying146 eL (Dp _) wo.heap.size j _ rfl hoa _ _ rfl hkey ?_;intro c hat hwc
         obtain rfl:c=(cc:Int):=by rw[HDk.out] at hat;simpa using hat.symm)
       |(at_lookup;refine wpList_lookup_own_int _ rfl _ _ 146 rfl 3 3 .i64 AY Tryz.underlying146 eL (Dp _) wo.heap.size (j+1) _ rfl hown1 _ _ rfl hkey ?_;intro c hat hwc
         obtain rfl:c=(cc:Int)+1:=by have:=HDp.out.2 (a.get m);rw[HCn.out] at this;rw[this] at hat;simpa using hat.symm)
       |(at_mapUpdate;refine wpList_mapUpdate_own _ rfl _ _ _ 146 rfl 3 3 AY Tryz.underlying146 _ wo.heap.size j _ rfl hoa (by unfold maxLen;omega) _ _ _ rfl rfl hkey _ [] (plainElem_int eL (wfI (by omega) (by omega))) ?_;intro w1 hown1 EK
         have hx1:=(EK.cell hx (by simpa using HNe.out))
         clear hx)
       |go_in)
      go_roundw
      case rel=>
       refine⟨j+1,by omega,by simp,?_,⟨_,HDp.out,hown1⟩,(Sy.out.alloc (by omega) _).grown EK (by simp;omega) (fun k hk=>by cases hk;exact ax _)⟩;exact congrArg (aB .i64) (by have:=HW1.out;omega)
      case measure=>simp[intOf];omega
     obtain rfl:j=L:=by omega
     have Sy:=aj yJ;have HHm:=hmm;rw[HL.out] at HAs;clear hown yJ hD;generalize qq m all j=ww at *
     by_cases h9:(ww:Int)<al
     .go_wp2;go_roundw
      case rel=>
       refine⟨m+1,by omega,by simp,?_,?_,xC.out.trans (Sy.out.mono hsz)⟩
       .rw[HAs.out,if_pos (by omega)]
       rw[HAs.out,if_pos (by omega)]
      case measure=>simp[intOf];omega
     go_wp2;go_roundw
     case rel=>
      refine⟨m+1,by omega,by simp,?_,?_,xC.out.trans (Sy.out.mono hsz)⟩
      .rw[HAs.out,if_neg (by omega)]
      rw[HAs.out,if_neg (by omega)]
     case measure=>simp[intOf];omega
   obtain rfl:m=lm:=by omega
   have xC:=aj en;clear en;go_wp2
   go_ret3
   exact⟨rfl,VZ.out.trans ((px.out.trans (xC.out.mono px.out.size)).mono VZ.out.size)⟩
end Go.Proofs.YtffladgmkiimjaaGreatDoor
namespace Go.Proofs.YtffladgmkiimjaaGreatDoor
open Go.RowKit Go.Lag
structure alY(all:List eN)(k:Nat)(lM:Int)(left:Nat):Prop where
 le:left<=all.length
 none:lM<0->lM = -1/\left=all.length
 some:0<=lM->lM<k/\left<all.length/\qq lM.toNat all all.length=left/\∀j:Nat,(j:Int)<lM->left<qq j all all.length
 all:∀j,j<k->left<=qq j all all.length
def pZ(lo hi:Int)(k:Nat):Int:=lo+((k % (hi-lo+1).toNat:Nat):Int)
theorem yh{lo hi:Int}(h:lo<=hi)(k:Nat):lo<=pZ lo hi k/\pZ lo hi k<=hi:=by
 unfold pZ;have h1:k % (hi-lo+1).toNat<(hi-lo+1).toNat:=Nat.mod_lt _ (by omega);omega
def qx(b:BB)(pk:Nat->Nat):Int:=pZ b.ll b.lm (pk 0)
def iF(pk:Nat->Nat):List Mn->Nat->List Int
 |[],_=>[]
 |m::r,i=>pZ m.lo m.hi (pk (1+i))::iF pk r (i+1)
theorem Cb(pk:Nat->Nat):∀(l:List Mn) (i:Nat),(iF pk l i).length=l.length
 |[],_=>rfl
 |m::r,i=>by simp[iF,Cb pk r (i+1)]
theorem ze(pk:Nat->Nat):∀(l:List Mn) (i k:Nat) (hk:k<l.length),iF pk (l.take (k+1)) i=iF pk (l.take k) i++[pZ l[k].lo l[k].hi (pk (1+(i+k)))]
 |[],_,k,hk=>by simp at hk
 |m::r,i,0,_=>by simp[iF]
 |m::r,i,k+1,hk=>by
  have h:=ze pk r (i+1) k (by simpa using hk);rw[List.take_succ_cons,List.take_succ_cons];simp only[iF,List.cons_append,h,List.getElem_cons_succ];rw[show i+1+k=i+(k+1) by omega]
theorem Ee(pk:Nat->Nat):∀(l:List Mn) (i:Nat),(∀m∈l,1<=m.lo/\m.lo<=m.hi/\m.hi<=99)->∀x∈iF pk l i,0<=x/\x<=99
 |[],_,_,x,hx=>by simp[iF] at hx
 |m::r,i,h,x,hx=>by
  simp only[iF,cy] at hx;rcases hx with rfl|hx
  .have h1:=h m (by simp);have h2:=yh h1.2.1 (pk (1+i));omega
  exact Ee pk r (i+1) (fun m hm=>h m (List.mem_cons_of_mem _ hm)) x hx
theorem Cc{b:BB}(hb:b.Ok)(pk:Nat->Nat):0<=qx b pk/\qx b pk<=99:=by
 have h1:=hb.leak;have h2:=yh h1.2.1 (pk 0);unfold qx;omega
theorem KL(a n:Nat)(hn:0<n)(w:ar):(Go.binOp .rem 3 (ah ag (a:Int)) (ah ag (n:Int))).run aq w=.ok (ah ag ((a % n:Nat):Int)) w:=by
 have h1:¬((n:Int)=0):=by omega
 have h2:(a:Int).tmod (n:Int)=((a % n:Nat):Int):=by rw[Int.tmod_eq_emod_of_nonneg (by omega)];rfl
 rw[<-h2];go_simp;omega
theorem LY{o:Oper}{ev:Operand->ak}{w:ar}{x y:Operand}{a n:Nat}(ho:o.op=.binOp .rem 3 x y 3)(hx:ev x=ah ag (a:Int))(hy:ev y=ah ag (n:Int))(hn:0<n){r:Nat}(hr:a % n=r):(execOp ev o).run aq w=.ok (.value (ah ag (r:Int))) w:=by
 have h:=KL a n hn w;rw[hr] at h;unfold execOp;simp only[ho,hx,hy,Sem.run_bind,eqGuard,Bool.not_false,if_true,Sem.run_pure,h,Result.andThen_ok]
theorem AO{W:ar}{b1 b2:Nat}{e:TypeId}{s n:Nat}{v:ak}{xs:List ak}(h:W.ownsRow b1 e s v n xs)(hb:b2<=b1):W.ownsRow b2 e s v n xs:=by
 obtain⟨hl,h|⟨G,cap,cur,h1,hG,h2⟩⟩:=h
 .exact⟨hl,cK h⟩
 exact⟨hl,.inr ⟨G,cap,cur,h1,aO hb hG,h2⟩⟩
theorem XT{P:Program}{aN:Array Oper}{Q:Exit->Act->ar->Prop}{n:Nat}{id:Nat}{a0:Act}{w:ar}(hm:P.follows .mixedOrders=true)(Vs:List Pred)(S:Ph.Ls->ar->Prop)(base:List (Tmp × ak))(cY:ji aN n base=true)(hn:a0.tmps.size=n)(C9:Ph.jv S Vs)
  (Ka:∀(L L':Ph.Ls) w w',(∀t,L' t=false->L t=false)->S L w->az w.heap.size w w'->S L' w') (hS:S (fun _=>false) w.drew) (hbase:fZ a0.eval base) (hE:Ph.Each (Lag.Yields P) aN Vs S base [] 0 aN.toList) (hQ:∀a w,Ph.jm aN Vs S a0 (Array.replicate aN.size true) a w->Q .normal a w):(Code.region id aN true).wp P Q a0 w:=
 Ph.bY hm Vs S base (by rw[hn];exact cY) C9 Ka hS hbase hE hQ
structure Qd(B2 B4 B5 B7 E0 E n:Nat)(bk z4:Array ak)(lk lo hi:Int)(w0:ar)(mv:ak)(rows:List ak)(A C:Bool)(w:ar):Prop where
 k2:w.heap[B2]?=some (aw bk 28 (0,0))
 k4:w.heap[B4]?=some (aw z4 42 (0,0))
 k5:C=false->w.heap[B5]?=some (aw #[ah ag lk,mv] 42 (0,0))
 k7:w.heap[B7]?=some (aw #[ah ag lo,ah ag hi] 23 (0,0))
 own:A=false->w.ownsRow E 3 1 mv n rows
 below:az E0 w0 w
 sz:E0<=w.heap.size/\B5<w.heap.size/\E<=w.heap.size
section
variable{B2 B4 B5 B7 E0 E n:Nat}{bk z4:Array ak}{lk lo hi:Int}{w0 w1 w2:ar}{mv:ak}{rows:List ak}{A A' C C':Bool}
theorem Qd.next(hA:A'=false->A=false)(hC:C'=false->C=false)(h:Qd B2 B4 B5 B7 E0 E n bk z4 lk lo hi w0 mv rows A C w1)(hb:az w1.heap.size w1 w2):Qd B2 B4 B5 B7 E0 E n bk z4 lk lo hi w0 mv rows A' C' w2:=by
 have hs:=h.sz;have h9:=hb.size;exact⟨aG h.k2 hb,aG h.k4 hb,fun e=>aG (h.k5 (hC e)) hb,aG h.k7 hb,fun e=>cN (h.own (hA e)) hb,h.below.trans (hb.mono hs.1),by omega⟩
theorem Qd.grown{row:Option Nat}(hA:A'=true)(hC:C'=C)(h:Qd B2 B4 B5 B7 E0 E n bk z4 lk lo hi w0 mv rows A C w1)(g:w1.grownBy w2 row)(hr:∀q,row=some q->E<=q/\q≠B7)(hE:B2<E/\B4<E/\B5<E/\E0<=E):Qd B2 B4 B5 B7 E0 E n bk z4 lk lo hi w0 mv rows A' C' w2:=by
 subst hC;have hs:=h.sz;have hn:∀q,(q<E\/q=B7)->some q≠row:=fun q hq e=>by have:=hr q e.symm;omega
 have lt:∀ {B:Nat} {o:Obj},w1.heap[B]?=some o->B<w1.heap.size:=fun e=>(ai.1 e).1;exact⟨(g.block _ (lt h.k2) (hn _ (by omega))).trans h.k2,(g.block _ (lt h.k4) (hn _ (by omega))).trans h.k4,fun e=>(g.block _ hs.2.1 (hn _ (by omega))).trans (h.k5 e),(g.block _ (lt h.k7) (hn _ (.inr rfl))).trans h.k7,(fun e=>by rw[hA] at e;cases e),h.below.grown g hs.1 (fun q hq=>by have:=hr q hq;omega),by have:=g.size;omega⟩
theorem Qd.put(h:Qd B2 B4 B5 B7 E0 E n bk z4 lk lo hi w0 mv rows A C w1){cs:Array ak}(hB:w1.heap[B5]?=some (aw cs 42 (0,0)))(hA:A'=A)(u:ak)(i:Nat)(hE:B2≠B5/\B4≠B5/\B7≠B5/\E0<=B5):Qd B2 B4 B5 B7 E0 E n bk z4 lk lo hi w0 mv rows A' true (w1.setCell ⟨B5,i,none⟩ u):=by
 subst hA;have hn:∀q,q≠B5->(w1.setCell ⟨B5,i,none⟩ u).heap[q]?=w1.heap[q]?:=fun q hq=>bt _ _ _ _ hq;exact⟨(hn _ hE.1).trans h.k2,(hn _ hE.2.1).trans h.k4,(fun e=>by cases e),(hn _ hE.2.2.1).trans h.k7,fun e=>dn (h.own e) hB (by decide),h.below.setCell (p:=⟨B5,i,none⟩) hE.2.2.2 _,by simpa using h.sz⟩
theorem Qd.drew(h:Qd B2 B4 B5 B7 E0 E n bk z4 lk lo hi w0 mv rows A C w1):Qd B2 B4 B5 B7 E0 E n bk z4 lk lo hi w0 mv rows A C w1.drew:=⟨h.k2,h.k4,h.k5,h.k7,fun e=>cN (h.own e) (au _ _).drew,h.below.drew,h.sz⟩
end
theorem Td(b:BB)(hb:b.Ok)(p1 p2 p3 pq:Option Addr)(c1 n2 c2 n3 c3 nq cq:Nat)(ml:List Mn)(hm:CQ ml)(pk:Nat->Nat)(w:ar)(hv:Reads w (ae p1 ml.length c1) ml.length (fF ml))(FO:rS w pq nq cq pk):bu aq 30 #[aR (b.cells (ae p1 ml.length c1) (ae p2 n2 c2) (ae p3 n3 c3)),ae pq nq cq] w fun e w'=>∃v,e=aF (aR #[ah ag (qx b pk),v])/\w'.ownsRow w.heap.size 3 1 v ml.length ((iF pk ml 0).map (aB ag))/\az w.heap.size w w':=by
 obtain⟨i0,hi,hz0,hz1,hz2⟩:=info_parts info3;have hlk:=hb.leak;have N2:=hm.len;obtain⟨n0,Xu⟩:∃n0:Nat,(n0:Int)=b.lm-b.ll+1:=⟨(b.lm-b.ll+1).toNat,by omega⟩
 obtain⟨lk,adR⟩:∃lk,qx b pk=lk:=⟨_,rfl⟩
 obtain⟨y0,NU⟩:∃y0,pk 0 % n0=y0:=⟨_,rfl⟩
 have ank:b.ll+(y0:Int)=lk:=by rw[<-NU];rw[<-adR];unfold qx pZ;rw[show(b.lm-b.ll+1).toNat=n0 by omega]
 have ahj:=Cc hb pk;have hp0:=FO.lt 0;rw[adR] at ahj ⊢;have HP:∀k,∀w9,az w.heap.size w w9->_:=fun k w9 h9=>Wy pq nq cq k pk w9 (FO.below h9);have hvm:∀w9,az w.heap.size w w9->_:=fun w9 h9=>hv.below h9;clear hv;refine qK Tryz.func30 rfl rfl [(1,ae pq nq cq),(0,aR (b.cells (ae p1 ml.length c1) (ae p2 n2 c2) (ae p3 n3 c3)))] ⟨kF rfl,kF rfl,trivial⟩ fun a W hF hw=>?_;refine qM (N:=2) rfl ?_;refine sU ⟨[],[],[],[]⟩ (some 2) (fun B=>pv B 0) (b.cells (ae p1 ml.length c1) (ae p2 n2 c2) (ae p3 n3 c3)) 28 hF hF ?_;intro B2 W a G2 ho K2 hF;have aip:=aO hw.size G2;replace hw:=hw.tr ho;clear ho;rename ar=>W2;have h2:=au W2.heap.size W2;refine sU ⟨[],[],[],[]⟩ (some 4) (fun B=>pv B 0) (#[ah ag 0,ae none 0 0]) 42 hF hF ?_;intro B4 W a G4 ho K4 hF;have UL:=aO (hw.tr h2).size G4;have aa5:=aO h2.size G4;replace h2:=h2.tr ho;clear ho;replace hw:=hw.tr h2;rename ar=>W4;have h4:=au W4.heap.size W4;refine rG ?_;replace K2:=aG K2 (h2.tr h4);replace K4:=aG K4 h4;replace hw:=(hw.tr h4)
 try clear h2 h4
 rename ar=>W;have hwz:=hw.size;have j2:=(ai.1 K2).1;have j4:=(ai.1 K4).1
 refine Md (by kernel_rfl) [pV (aS (some ⟨B2,8,none⟩)),pV (aS (some ⟨B2,8,none⟩)),pV (ah ag b.ll),pV (ae pq nq cq),pV (ah ag (pk 0:Int)),pV (aS (some ⟨B2,8,none⟩)),pV (aS (some ⟨B2,9,none⟩)),pV (ah ag b.lm),pV (aS (some ⟨B2,8,none⟩)),pV (aS (some ⟨B2,8,none⟩)),pV (ah ag b.ll),pV (ah ag (b.lm-b.ll)),pV (ah ag (n0:Int)),pV (ah ag (y0:Int)),pV (ah ag lk),pV (aR #[ah ag lk,ae none 0 0]),fun v ds w9=>∃B,∃z:Array ak,v=pv B 0/\w9.heap[B]?=some (aw z 42 (0,0))/\z.size=2/\W.heap.size<=B,fun v ds w9=>∃B,ds[0]?=some (pv B 0)/\W.heap.size<=B/\w9.heap[B]?=some (aw #[ah ag lk,ae none 0 0] 42 (0,0))]
  _ (by kernel_rfl) hF.size hF.base ?_ ?_ ?_
 .refine⟨sV,sV,sV,sV,sV,sV,sV,sV,sV,sV,sV,sV,sV,sV,sV,sV,?_,?_,trivial⟩
  .rintro v ds w1 w2 hS ⟨B,z,h1,h2,h3,h4⟩ hb;exact⟨B,z,h1,aG h2 hb,h3,h4⟩
  rintro v ds w1 w2 hS ⟨B,h1,h4,h2⟩ hb;exact⟨B,h1,h4,aG h2 hb⟩
 .refine⟨?_,?_,?_,?_,?_,?_,?_,?_,?_,?_,?_,?_,?_,?_,?_,?_,?_,?_,trivial⟩<;>rintro ev w1 hS hc hg hf ⟨-,b2,b1,-,-⟩ hd
  all_goals try
   try have d0:ev (aM _)=_:=hd.1 rfl
   clear hd;refine yw rfl ?_ rfl;go_simp;done
  .have d1:ev (aM 9)=_:=hd.1 rfl;clear hd;have z:=aJ (aG K2 hS) 8 _ rfl;exact tV
  .have d3:ev (aM 11)=_:=hd.1 rfl;clear hd;refine yc (HP 0 w1 (hw.tr hS)) ?_ (fun _=>rfl);go_simp
  .have d6:ev (aM 14)=_:=hd.1 rfl;clear hd;have z:=aJ (aG K2 hS) 9 _ rfl;exact tV
  .have d9:ev (aM 17)=_:=hd.1 rfl;clear hd;have z:=aJ (aG K2 hS) 8 _ rfl;exact tV
  .have d7:ev (aM 15)=_:=hd.1 rfl;have d10:ev (aM 18)=_:=hd.2.1 rfl;clear hd;have hwr:IntKind.i64.wrap (b.lm-b.ll)=b.lm-b.ll:=by rw[a8];omega
   exact tV
  .have d11:ev (aM 19)=_:=hd.1 rfl;clear hd;have hwr:IntKind.i64.wrap ((b.lm-b.ll)+1)=(n0:Int):=by rw[a8];omega
   exact tV
  .have d4:ev (aM 12)=_:=hd.1 rfl;have d12:ev (aM 20)=_:=hd.2.1 rfl;clear hd;refine Lag.Yields.value (v:=(ah ag (y0:Int):ak)) (w':=w1) ?_ ⟨rfl,cK (au _ _)⟩;exact LY rfl d4 d12 (by omega) NU
  .have d2:ev (aM 10)=_:=hd.1 rfl;have d13:ev (aM 21)=_:=hd.2.1 rfl;clear hd;have hwr:IntKind.i64.wrap (b.ll+(y0:Int))=lk:=by rw[a8];omega
   have agN:IntKind.i64.wrap lk=lk:=by rw[a8];omega
   exact tV
  .clear hd;refine Lag.Yields.value (v:=pv w1.heap.size 0) (w':=w1.alloc (aw #[ah ag 0,ae none 0 0] 42)) ?_ ⟨⟨_,_,rfl,ay _ _,rfl,hS.size⟩,cK ((au _ _).alloc (ax _) _)⟩;go_simp
  .have d16:∃B,∃z:Array ak,(ev (aM 5))=pv B 0/\w1.heap[B]?=some (aw z 42 (0,0))/\z.size=2/\W.heap.size<=B:=hd.1 rfl;have d15:ev (aM 23)=_:=hd.2.1 rfl;clear hd;obtain⟨B,z,eB,hB,hz,hge⟩:=d16;refine Lag.Yields.lN 42 _ _ rfl B #[ah ag lk,ae none 0 0] eB d15 42 z hB (by kernel_rfl) hz (by simp[cj]) ⟨⟨B,congrArg some eB,hge,cV hB⟩,.inr ⟨dv hS hge,?_⟩⟩;intro j u ds hj hp
   match j,hp with
   |0,hp=>exact hp
   |1,hp=>exact hp
   |2,hp=>exact hp
   |3,hp=>exact hp
   |4,hp=>exact hp
   |5,hp=>exact hp
   |6,hp=>exact hp
   |7,hp=>exact hp
   |8,hp=>exact hp
   |9,hp=>exact hp
   |10,hp=>exact hp
   |11,hp=>exact hp
   |12,hp=>exact hp
   |13,hp=>exact hp
   |14,hp=>exact hp
   |15,hp=>exact hp
   |16,⟨B',z',h1,h2,h3,h4⟩=>
    by_cases tN:B'=B
    .subst tN;rw[hB] at h2;cases h2;exact⟨B',_,h1,cV hB,hz.symm.trans h3,h4⟩
    exact⟨B',z',h1,(setRow_other tN).trans h2,h3,h4⟩
   |17,_=>exact(hj rfl).elim
   |j+18,_=>trivial
 intro a W hR;have ho:=hR.s;obtain⟨B5,q5,G5,K5⟩:=hR.val 17 (by decide);have e5:a.eval (aM 5)=aS (some ⟨B5,0,none⟩):=bj q5;clear q5;replace hw:=hw.tr ho;replace K2:=aG K2 ho;replace K4:=aG K4 ho;replace hF:=(hR.fr hF (by kernel_rfl)).cons (t:=5) e5;clear hR ho e5;have hw5:w.heap.size<=B5:=aO hwz G5;have h45:B2≠B5/\B4≠B5:=⟨by omega,by omega⟩
 rename ar=>WV;have hV:=au WV.heap.size WV;refine wp_seq ?_;refine jz ⟨[],[],[],[]⟩ [(6,ah ag 0)] hF hF trivial trivial ?_;intro a W ho hF;replace hV:=hV.tr ho;clear ho;refine wp_block ?_;replace hF:=hF.del 0;simp only[lS,iD,bU,reduceIte] at hF;replace K2:=aG K2 hV;replace K4:=aG K4 hV;replace K5:=aG K5 hV;replace hw:=(hw.tr hV)
 have g5:=(ai.1 K5).1;obtain⟨E,hE⟩:∃E,E=W.heap.size:=⟨_,rfl⟩
 have agP:w.heap.size<=B5:=by have:=hw5;omega
 have gE:B2<E/\B4<E/\B5<E/\w.heap.size<=E:=⟨by rw[hE];exact(ai.1 K2).1,by rw[hE];exact(ai.1 K4).1,by omega,by rw[hE];exact hw.size⟩
 refine wp_loop (fun a W=>∃(k:Nat) (mv:ak),k<=ml.length/\ij 57 a [(6,ah ag (k:Int)),(5,aS (some ⟨B5,0,none⟩)),(4,aS (some ⟨B4,0,none⟩)),(2,aS (some ⟨B2,0,none⟩)),(1,ae pq nq cq)]/\W.heap[B2]?=some (aw (b.cells (ae p1 ml.length c1) (ae p2 n2 c2) (ae p3 n3 c3)) 28 (0,0))/\W.heap[B4]?=some (aw #[ah ag 0,ae none 0 0] 42 (0,0))/\W.heap[B5]?=some (aw #[ah ag lk,mv] 42 (0,0))/\W.ownsRow E 3 1 mv k ((iF pk (ml.take k) 0).map (aB ag))/\az w.heap.size w W/\E<=W.heap.size) (fun a _=>ml.length-(intOf (a.eval (aM 6))).toNat) ⟨0,ae none 0 0,iW _,⟨hF.size,hF.defers,hF.base⟩,K2,K4,K5,dR _ _ _ _,hw,by omega⟩ ?_;clear hF K2 K4 K5 hw g5 hE
 try clear a
 try clear W
 rintro a W ⟨k,mv,hk,hF,K2,K4,K5,hown,hw,hEW⟩;have hk6:a.eval (aM 6)=ah ag (k:Int):=(hF.g 0 rfl)
 obtain⟨pz,cz,rfl⟩:=dA hown;rename ar=>WQ;have hQ:=au WQ.heap.size WQ;refine wp_seq ?_;refine jz ⟨[],[],[(B2,(b.cells (ae p1 ml.length c1) (ae p2 n2 c2) (ae p3 n3 c3)))],[]⟩ [(28,aH (decide ((k:Int)<(ml.length:Int))))] hF hF ⟨fun w1 hS=>⟨_,_,aG K2 (hQ.tr hS)⟩,trivial⟩ trivial ?_;intro a W ho hF;replace hQ:=hQ.tr ho;clear ho;refine wp_cond_split (t:=(decide ((k:Int)<(ml.length:Int)))) (hF.g 0 rfl) (fun Gj=>?_) (fun Gj=>?_)
 .skip
  replace hF:=hF.tl;have hlt:k<ml.length:=by simpa using Gj
  obtain⟨m,hme⟩:∃m,ml[k]=m:=⟨_,rfl⟩
  have Lv:=hm.mem m (hme▸bV hlt);obtain⟨nm,hnm⟩:∃nm:Nat,(nm:Int)=m.hi-m.lo+1:=⟨(m.hi-m.lo+1).toNat,by omega⟩
  obtain⟨x,hx⟩:∃x,pZ m.lo m.hi (pk (1+k))=x:=⟨_,rfl⟩
  obtain⟨ym,hym⟩:∃ym,pk (1+k) % nm=ym:=⟨_,rfl⟩
  have hx2:m.lo+(ym:Int)=x:=by rw[<-hym];rw[<-hx];unfold pZ;rw[show(m.hi-m.lo+1).toNat=nm by omega]
  have hx3:=yh Lv.2.2.1 (pk (1+k));rw[hx] at hx3;have am8:=FO.lt (1+k);have UC:=hF
  obtain⟨g,off,rfl,hcell⟩:∃g off,p1=some ⟨g,off,none⟩/\∀w9,az w.heap.size w w9->w9.cell? ⟨g,off+k*3+1,none⟩=some (ah ag m.lo)/\w9.cell? ⟨g,off+k*3+2,none⟩=some (ah ag m.hi):=by
   rcases hvm w (au _ _) with⟨_,h0,_⟩|⟨g,off,cap,h0,_,hg,h4⟩
   .omega
   cases h0;refine⟨g,off,rfl,fun w9 h9=>⟨?_,?_⟩⟩
   .have:=(h9.cell (p:=⟨g,off+(3*k+1),none⟩) hg).trans (h4 (3*k+1) (ah ag m.lo) (by rw[nQ ml k 1 hlt (by omega),hme];rfl));rwa [show off+(3*k+1)=off+k*3+1 by omega] at this
   have:=(h9.cell (p:=⟨g,off+(3*k+2),none⟩) hg).trans (h4 (3*k+2) (ah ag m.hi) (by rw[nQ ml k 2 hlt (by omega),hme];rfl));rwa [show off+(3*k+2)=off+k*3+2 by omega] at this
  replace hF:=UC;clear UC;refine wp_skip ?_;show bZ aq _ _ _ _;refine wp_seq ?_;refine wp_block ?_;refine qM (N:=8) rfl ?_;refine ig 0 6 2 ⟨[],[(3,aS (some ⟨g,off+k*3,none⟩)),(5,aR #[ah ag m.lo,ah ag m.hi])],[(B2,(b.cells (ae (some ⟨g,off,none⟩) ml.length c1) (ae p2 n2 c2) (ae p3 n3 c3)))],[]⟩ [(36,aR #[ah ag m.lo,ah ag m.hi])] hF hF ⟨fun w1 hS=>⟨_,_,aG K2 (hQ.tr hS)⟩,trivial⟩ ⟨fun w1 hS _=>gs (Instr.indexAt 24 (ae (some ⟨g,off,none⟩) ml.length c1) (ah ag (k:Int))) (by have Au:¬(ml.length<=k):=(by omega);go_simp),fun w1 hS _=>gs (Instr.loadAt 23 (aS (some ⟨g,off+k*3+1,none⟩))) (by have z1:=(hcell w1 (hw.tr (hQ.tr hS))).1;have z2:=(hcell w1 (hw.tr (hQ.tr hS))).2;go_simp),trivial⟩ ?_;intro a W ho hF;replace hQ:=hQ.tr ho;clear ho;refine sU ⟨[],[],[],[]⟩ (some 7) (fun B=>pv B 0) (#[ah ag 0,ah ag 0]) 23 hF hF ?_;intro B7 W a G7 ho K7 hF;have ain:=aO (hw.tr hQ).size G7;have aa4:=aO hQ.size G7;replace hQ:=hQ.tr ho;clear ho;replace hw:=hw.tr hQ;rename ar=>W7;have h7:=au W7.heap.size W7;refine sS ⟨[],[],[],[]⟩ (#[ah ag 0,ah ag 0]) (#[ah ag m.lo,ah ag m.hi]) (aU 2) hF hF (aG K7 h7) ?_;intro W a up K7 hF;replace hw:=up.below (hw.tr h7) ain;replace hQ:=up.below (hQ.tr h7) aa4;clear up;rename ar=>xu;have dL:=au xu.heap.size xu;refine rG ?_;replace K2:=aG K2 (hQ.tr dL);replace K4:=aG K4 (hQ.tr dL);replace K5:=aG K5 (hQ.tr dL);replace K7:=aG K7 dL;have hmv:∀q,(Value.slice pz k cz).ownBlock=some q->E<=q/\q≠B7:=fun q hq=>by have:=hown.lt q hq;exact⟨this.1,by have:=aa4;omega⟩
  have h7E:B7≠B5:=by have:=aa4;have:=gE;omega
  replace hw:=(hw.tr dL)
  replace hown:=cN hown (hQ.tr dL);replace hEW:E<=_:=aO hEW ((hQ.tr dL)).size;rename ar=>W;have HS:Qd B2 B4 B5 B7 w.heap.size E k (b.cells (ae (some ⟨g,off,none⟩) ml.length c1) (ae p2 n2 c2) (ae p3 n3 c3)) #[ah ag 0,ae none 0 0] lk m.lo m.hi w (ae pz k cz) ((iF pk (ml.take k) 0).map (aB ag)) false false W:=⟨K2,K4,fun _=>K5,K7,fun _=>hown,hw,by have:=hw.size;have:=(ai.1 K5).1;omega⟩
  refine XT (by kernel_rfl) [
  fun v ds w9=>v=aS (some ⟨B5,1,none⟩),
   fun v ds w9=>v=ae pz k cz,
   fun v ds w9=>v=aS (some ⟨B7,0,none⟩),
   fun v ds w9=>v=ah ag m.lo,
   fun v ds w9=>v=ae pq nq cq,
   fun v ds w9=>v=ah ag (k:Int),
   fun v ds w9=>v=ah ag ((1+k:Nat):Int),
   fun v ds w9=>v=ah ag (pk (1+k):Int),
   fun v ds w9=>v=aS (some ⟨B7,1,none⟩),
   fun v ds w9=>v=ah ag m.hi,
   fun v ds w9=>v=aS (some ⟨B7,0,none⟩),
   fun v ds w9=>v=ah ag m.lo,
   fun v ds w9=>v=ah ag (m.hi-m.lo),
   fun v ds w9=>v=ah ag (nm:Int),
   fun v ds w9=>v=ah ag (ym:Int),
   fun v ds w9=>v=ah ag x,
   fun v ds w9=>∃q,v=ae (some ⟨q,0,none⟩) 1 1/\E<=q/\w9.heap[q]?=some (aw #[ah ag x] 3 (0,0))/\some q≠(ae pz k cz:ak).ownBlock,
   fun v ds w9=>∃p c9,v=ae p (k+1) c9/\w9.ownsRow E 3 1 v (k+1) (((iF pk (ml.take k) 0).map (aB ag))++[ah ag x]),
   fun v ds w9=>v=aS (some ⟨B5,1,none⟩),
   fun v ds w9=>∃u,ds[1]?=some u/\w9.heap[B5]?=some (aw #[ah ag lk,u] 42 (0,0))]
   (fun L9 w9=>Qd B2 B4 B5 B7 w.heap.size E k (b.cells (ae (some ⟨g,off,none⟩) ml.length c1) (ae p2 n2 c2) (ae p3 n3 c3)) #[ah ag 0,ae none 0 0] lk m.lo m.hi w (ae pz k cz) ((iF pk (ml.take k) 0).map (aB ag)) (L9 17) (L9 19) w9) [(1,ae pq nq cq),(5,aS (some ⟨B5,0,none⟩)),(6,ah ag (k:Int)),(7,aS (some ⟨B7,0,none⟩))] (by kernel_rfl) hF.size ?rst (fun L1 L2 w1 w2 hl h hb=>h.next (hl 17) (hl 19) hb) (HS.drew) (by obtain⟨b7,-,b6,b5,-,-,b1,-⟩:=hF.base;exact⟨b1,b5,b6,b7,trivial⟩) ?reach ?rfin
  case rst=>
   refine⟨fun _ _ _ _ _ _ h _=>h,fun _ _ _ _ _ _ h _=>h,fun _ _ _ _ _ _ h _=>h,fun _ _ _ _ _ _ h _=>h,fun _ _ _ _ _ _ h _=>h,fun _ _ _ _ _ _ h _=>h,fun _ _ _ _ _ _ h _=>h,fun _ _ _ _ _ _ h _=>h,fun _ _ _ _ _ _ h _=>h,fun _ _ _ _ _ _ h _=>h,fun _ _ _ _ _ _ h _=>h,fun _ _ _ _ _ _ h _=>h,fun _ _ _ _ _ _ h _=>h,fun _ _ _ _ _ _ h _=>h,fun _ _ _ _ _ _ h _=>h,fun _ _ _ _ _ _ h _=>h,?_,?_,fun _ _ _ _ _ _ h _=>h,?_,trivial⟩
   .rintro v ds L9 w1 w2 hS ⟨q,h1,h2,h3,h4⟩ hb;exact⟨q,h1,h2,(hb.block _ (ai.1 h3).1).trans h3,h4⟩
   .rintro v ds L9 w1 w2 hS ⟨p,c9,h1,h2⟩ hb;exact⟨p,c9,h1,cN h2 hb⟩
   rintro v ds L9 w1 w2 hS ⟨x,h1,h2⟩ hb;exact⟨x,h1,(hb.block _ (ai.1 h2).1).trans h2⟩
  case reach=>
   refine⟨?_,?_,?_,?_,?_,?_,?_,?_,?_,?_,?_,?_,?_,?_,?_,?_,?_,?_,?_,?_,trivial⟩<;>(intro Lf ev w1 hn vK hS hc hg hf hb hd;obtain⟨b1,b5,b6,b7,-⟩:=hb)
   .clear hd;refine Ph.yv ?_ rfl;go_simp
   .have d0:(ev (aM 37))=aS (some ⟨B5,1,none⟩):=hd.1 rfl;clear hd;have tj:=hS.k5 (hn 19 (by kernel_rfl));have z:=aJ tj 1 (ae pz k cz) rfl;refine Ph.yv ?_ rfl;go_simp
   .clear hd;refine Ph.yv ?_ rfl;go_simp
   .have d2:(ev (aM 39))=aS (some ⟨B7,0,none⟩):=hd.1 rfl;clear hd;have z:=aJ hS.k7 0 (ah ag m.lo) rfl;refine Ph.yv ?_ rfl;go_simp
   .clear hd;refine Ph.yv ?_ rfl;go_simp
   .clear hd;refine Ph.yv ?_ rfl;go_simp
   .have d5:(ev (aM 42))=ah ag (k:Int):=hd.1 rfl;clear hd;have hwr:IntKind.i64.wrap (1+(k:Int))=((1+k:Nat):Int):=by rw[a8];omega
    refine Ph.yv ?_ rfl;go_simp
   .have d4:(ev (aM 41))=ae pq nq cq:=hd.1 rfl;have d6:(ev (aM 43))=ah ag ((1+k:Nat):Int):=hd.2.1 rfl;clear hd;refine Lag.Yields.call (f:=111) (args:=#[ae pq nq cq,ah ag ((1+k:Nat):Int)]) ?_ (HP (1+k) w1 hS.below) ?_
    .go_simp
    rintro e w2 ⟨rfl,hb⟩;exact⟨_,rfl,rfl,cK hb⟩
   .clear hd;refine Ph.yv ?_ rfl;go_simp
   .have d8:(ev (aM 45))=aS (some ⟨B7,1,none⟩):=hd.1 rfl;clear hd;have z:=aJ hS.k7 1 (ah ag m.hi) rfl;refine Ph.yv ?_ rfl;go_simp
   .clear hd;refine Ph.yv ?_ rfl;go_simp
   .have d10:(ev (aM 47))=aS (some ⟨B7,0,none⟩):=hd.1 rfl;clear hd;have z:=aJ hS.k7 0 (ah ag m.lo) rfl;refine Ph.yv ?_ rfl;go_simp
   .have d9:(ev (aM 46))=ah ag m.hi:=hd.1 rfl;have d11:(ev (aM 48))=ah ag m.lo:=hd.2.1 rfl;clear hd;have hwr:IntKind.i64.wrap (m.hi-m.lo)=m.hi-m.lo:=by rw[a8];omega
    refine Ph.yv ?_ rfl;go_simp
   .have d12:(ev (aM 49))=ah ag (m.hi-m.lo):=hd.1 rfl;clear hd;have hwr:IntKind.i64.wrap ((m.hi-m.lo)+1)=(nm:Int):=by rw[a8];omega
    refine Ph.yv ?_ rfl;go_simp
   .have d7:(ev (aM 44))=ah ag (pk (1+k):Int):=hd.1 rfl;have d13:(ev (aM 50))=ah ag (nm:Int):=hd.2.1 rfl;clear hd;refine Lag.Yields.value (v:=(ah ag (ym:Int):ak)) (w':=w1) ?_ ⟨rfl,cK (au _ _)⟩;exact LY rfl d7 d13 (by omega) hym
   .have d3:(ev (aM 40))=ah ag m.lo:=hd.1 rfl;have d14:(ev (aM 51))=ah ag (ym:Int):=hd.2.1 rfl;clear hd;have hwr:IntKind.i64.wrap (m.lo+(ym:Int))=x:=by rw[a8];omega
    have agN:IntKind.i64.wrap x=x:=by rw[a8];omega
    refine Ph.yv ?_ rfl;go_simp
   .have d15:(ev (aM 52))=ah ag x:=hd.1 rfl;clear hd;have hs3:=hS.sz;refine Lag.Yields.value (v:=ae (some ⟨w1.heap.size,0,none⟩) 1 1) (w':=w1.alloc (aw #[ah ag x] 3)) ?_ ⟨⟨_,rfl,hs3.2.2,ay _ _,fun h=>absurd ((hS.own (hn 17 (by kernel_rfl))).lt _ h.symm).2 (by omega)⟩,cK ((au _ _).alloc (ax _) _)⟩;go_simp
   .have d1:(ev (aM 38))=ae pz k cz:=hd.1 rfl;have d16:∃q,(ev (aM 53))=ae (some ⟨q,0,none⟩) 1 1/\E<=q/\w1.heap[q]?=some (aw #[ah ag x] 3 (0,0))/\some q≠(ae pz k cz:ak).ownBlock:=hd.2.1 rfl;clear hd;obtain⟨q,e53,hq0,hq,VN⟩:=d16;have hown:=hS.own vK;refine Yields.uq (aM 38) (aM 53) 25 rfl E 3 i0 (ah ag 0) 1 8 eJ hi hz0 hz1 hz2 rfl (by decide) (ae pz k cz) k ((iF pk (ml.take k) 0).map (aB ag)) d1 hown ⟨q,0,none⟩ 1 1 [ah ag x] e53 rfl ?_ (by intro u hu;simp at hu;subst hu;rfl) (by unfold maxLen;omega) (by omega) hS.sz.2.2 ?_
    .intro n u hn9;have h5:=aJ hq n u (by simpa using hn9);have e:(⟨q,0,none⟩:Addr).add n=⟨q,n,none⟩:=by cases n<;>simp[k8]
     rw[e];exact h5
    intro v' w' hown' hgrow _;obtain⟨p',c',rfl⟩:=dA hown';refine⟨⟨p',c',rfl,hown'⟩,.inr ⟨hS.grown (by simp[Ph.upd]) (by simp[Ph.upd]) hgrow hmv gE,?_⟩⟩;intro t u ds hj hL hp
    match t,hp with
    |0,hp=>exact hp
    |1,hp=>exact hp
    |2,hp=>exact hp
    |3,hp=>exact hp
    |4,hp=>exact hp
    |5,hp=>exact hp
    |6,hp=>exact hp
    |7,hp=>exact hp
    |8,hp=>exact hp
    |9,hp=>exact hp
    |10,hp=>exact hp
    |11,hp=>exact hp
    |12,hp=>exact hp
    |13,hp=>exact hp
    |14,hp=>exact hp
    |15,hp=>exact hp
    |16,⟨q2,h1,h2,h3,h4⟩=>exact⟨q2,h1,h2,(hgrow.block q2 (ai.1 h3).1 h4).trans h3,h4⟩
    |17,_=>exact(hj rfl).elim
    |18,hp=>exact hp
    |19,_=>rw[hn 19 (by kernel_rfl)] at hL;cases hL
    |t+20,_=>trivial
   .clear hd;refine Ph.yv ?_ rfl;go_simp
   have d18:(ev (aM 55))=aS (some ⟨B5,1,none⟩):=hd.1 rfl;have d17:∃p c9,(ev (aM 54))=ae p (k+1) c9/\w1.ownsRow E 3 1 (ev (aM 54)) (k+1) (((iF pk (ml.take k) 0).map (aB ag))++[ah ag x]):=hd.2.1 rfl;have d1:(ev (aM 38))=ae pz k cz:=hd.2.2.2.2.1 rfl;clear hd;obtain⟨p,c9,h1,h2⟩:=d17;have tj:=hS.k5 vK;have z:=aJ tj 1 (ae pz k cz) rfl;have f:=dg tj 1;refine Lag.Yields.skip (w':=w1.setCell ⟨B5,1,none⟩ (ev (aM 54))) ?_ ⟨⟨_,rfl,dh _ tj⟩,.inr ⟨(hS.put tj (by simp[Ph.upd]) (ev (aM 54)) 1 ⟨h45.1,h45.2,h7E,agP⟩),?_⟩⟩
   .rw[h1];go_simp
   .intro t u ds hj hL hp
    match t,hp with
    |0,hp=>exact hp
    |1,hp=>exact hp
    |2,hp=>exact hp
    |3,hp=>exact hp
    |4,hp=>exact hp
    |5,hp=>exact hp
    |6,hp=>exact hp
    |7,hp=>exact hp
    |8,hp=>exact hp
    |9,hp=>exact hp
    |10,hp=>exact hp
    |11,hp=>exact hp
    |12,hp=>exact hp
    |13,hp=>exact hp
    |14,hp=>exact hp
    |15,hp=>exact hp
    |16,⟨q2,g1,g2,g3,g4⟩=>exact⟨q2,g1,g2,(bt _ _ _ _ (by rintro rfl;rw[tj] at g3;cases g3)).trans g3,g4⟩
    |17,⟨p2,c8,g1,g2⟩=>exact⟨p2,c8,g1,dn g2 tj (by decide)⟩
    |18,hp=>exact hp
    |19,_=>exact(hj rfl).elim
    |t+20,_=>trivial
  case rfin=>
   intro a W hR;have hS:=hR.s;obtain⟨p54,c54,e54,Ue⟩:=hR.val 17 (by decide);obtain⟨u,eu,tj⟩:=hR.val 19 (by decide);have eu2:a.eval (aM 54)=u:=bj eu;replace e54:a.eval (aM 54)=_:=e54;rw[e54] at eu2;replace Ue:W.ownsRow E 3 1 (a.eval (aM 54)) _ _:=Ue;rw[e54] at Ue;subst eu2;replace hF:=hR.fr hF (by kernel_rfl);clear hR eu e54;replace K2:=hS.k2;replace K4:=hS.k4;replace K5:=tj;replace hw:=hS.below;replace hEW:=hS.sz.2.2
   replace hown:W.ownsRow E 3 1 (ae p54 (k+1) c54) (k+1) ((iF pk (ml.take (k+1)) 0).map (aB ag)):=by
    rw[ze pk ml 0 k hlt,hme,di,hx,fh];exact Ue
   clear hS HS tj Ue;show bZ aq _ _ _ _;have q7:=hF;replace hF:=hF.del 6;simp only[lS,iD,bU,reduceIte] at hF;refine Mj ⟨[],[(1,ah ag ((k:Int)+1))],[],[]⟩ [(6,ah ag ((k:Int)+1))] q7 hF trivial ⟨fun w1 hS _=>ge (congrArg (aB ag) (show IntKind.i64.wrap ((k:Int)+1)=((k:Int)+1) by rw[a8];omega)),trivial⟩ ?_;intro a W ho hF;clear q7;replace hw:=hw.tr ho;replace K2:=aG K2 ho;replace K4:=aG K4 ho;replace K5:=aG K5 ho;replace hown:=cN hown ho;replace hEW:=aO hEW ho.size;clear ho;refine⟨⟨k+1,_,by omega,⟨hF.size,hF.defers,(by obtain⟨b6,-,-,b5,b4,b2,b1,-⟩:=hF.base;exact⟨b6,b5,b4,b2,b1,trivial⟩)⟩,K2,K4,K5,hown,hw,hEW⟩,?_⟩;rw[show a.eval (aM 6)=ah ag ((k:Int)+1) from(hF.g 0 rfl)];simp only[hk6];simp[intOf];omega
 skip
 replace hF:=hF.tl;refine wp_exit ?_;obtain rfl:k=ml.length:=by simp at Gj;omega
 show bZ aq _ _ _ _;show bZ aq _ _ _ _;refine qM (N:=2) rfl ?_;refine ig 0 1 1 ⟨[],[],[(B5,#[ah ag lk,ae pz ml.length cz])],[]⟩ [(56,aR #[ah ag lk,ae pz ml.length cz])] hF hF ⟨fun w1 hS=>⟨_,_,aG K5 (hQ.tr hS)⟩,trivial⟩ trivial ?_;intro a W ho hF;replace hQ:=hQ.tr ho;clear ho;refine sS ⟨[],[],[],[]⟩ (#[ah ag 0,ae none 0 0]) (#[ah ag lk,ae pz ml.length cz]) (aU 2) hF hF (aG K4 hQ) ?_;intro W a up K4 hF;replace hown:=fY (cN hown hQ) fun g hg=>up.block g (fun e=>by have:=(hown.lt g hg).1;have:=gE;omega);replace hw:=up.below (hw.tr hQ) UL;clear up;rename ar=>MI;have zJ:=au MI.heap.size MI;refine rG ?_;refine wp_ret ?_;show bodyPost aq Tryz.f30 (fun e w'=>∃v,e=aF (aR #[ah ag lk,v])/\w'.ownsRow w.heap.size 3 1 v ml.length ((iF pk ml 0).map (aB ag))/\az w.heap.size w w') Exit.ret a _;refine bodyPost_ret (results_cell_row rfl _ _ B4 42 _ (0,0) _ (hF.g 3 rfl) (aG K4 zJ) Tryz.underlying42 rfl (by kernel_rfl)) hF.defers ⟨_,rfl,?_,(hw.tr zJ)⟩;rw[GN] at hown;exact AO hown gE.2.2.2
theorem gA{bs:Bool}:(nC bs=aH true)↔bs=true:=by simp
theorem gB{bs x:Bool}:((if bs=true then nC x else af)=aH false)↔(bs && !x)=true:=by cases bs<;>cases x<;>simp[af]
theorem Y1{bs x:Bool}:((if bs=true then nC x else af)=aH true)↔(bs&&x)=true:=by cases bs<;>cases x<;>simp[af]
theorem eN.UH{a:eN}(h:a.Ok)(i:Nat):0<=a.get i/\a.get i<=99:=by
 unfold eN.get;split
 .exact h.m0
 .exact h.m1
 exact h.m2
def eN.only(a:eN)(c:List Nat):eN:=c.foldl (fun k i=>k.put i (a.get i)) ⟨a.leak,0,0,0⟩
def Fa(b:BB)(all:List eN)(p n mask:Nat):Bool:=b.sure (all.map fun a=>a.only (dV n mask)) p
def E9(bs f:Bool)(c l:List Int):Bool:=bs&&((!f||decide ((c.length:Int)>l.length))||(((c.length:Int)==(l.length:Int))&&decide (jZ c l<0)))
theorem eN.WL{a:eN}(h:a.Ok)(c:List Nat):(a.only c).Ok:=by
 unfold eN.only
 have:∀(c:List Nat) (k:eN),k.Ok->(c.foldl (fun k i=>k.put i (a.get i)) k).Ok:=by
  intro c
  induction c with
  |nil=>exact fun k hk=>hk
  |cons i c ih=>exact fun k hk=>ih _ (eN.Nu hk i (eN.UH h i).1 (eN.UH h i).2)
 exact this c _ ⟨h.leak,by simp,by simp,by simp⟩
def iU(b:BB)(all:List eN)(p n:Nat):Nat->List Int × Bool
 |0=>([],false)
 |m+1=>if E9 (Fa b all p n m) (iU b all p n m).2 (uG n m) (iU b all p n m).1 then(uG n m,true) else iU b all p n m
theorem Yl(b:BB)(bq aK aA:ak)(ml:List Mn)(ss:List Int)(ms:List Mk)(w:ar)(hL:Laid w)(hB:cU b bq aK aA ml ss ms w)(hne:bw b ml ss ms≠[])(pl:List Int)(hp:eU b pl)(lv:ak)(hl:Reads w lv pl.length (pl.map (aB ag))) :
  bu aq 27 #[aR (b.cells bq aK aA),lv] w fun e w'=>∃v,e=aF (cO #[v,aH (iU b (bw b ml ss ms) (bD pl) ml.length (2 ^ ml.length)).2,ah ag 0])/\Reads w' v (iU b (bw b ml ss ms) (bD pl) ml.length (2 ^ ml.length)).1.length ((iU b (bw b ml ss ms) (bD pl) ml.length (2 ^ ml.length)).1.map (aB ag))/\az w.heap.size w w':=by
 have Uh:=hB.gZ.len;obtain⟨i0,hi,hz0,hz1,hz2⟩:=info_parts info3;obtain⟨i1,Au,NU,hy1,hy2⟩:=info_parts PN;have hlen:=jE ss ms hB.ok hB.gZ;have kC:0<(bw b ml ss ms).length:=dm.2 hne;have cY:=hB.ok;have hao:=nZ (ss:=ss) (ms:=ms) hB.ok hB.gZ;have xW:=cY.minutes;have nW:∀s∈pl,1<=s/\s<=8:=fun s h=>by have:=hp.mem s h;omega
 have Jp:bD pl<512:=mA pl nW;obtain⟨pm,cm,rfl,_⟩:=aW hB.rm;obtain⟨pn,cn,rfl,_⟩:=aW hB.rs;obtain⟨pk,ck,rfl,_⟩:=aW hB.rk;obtain⟨qy,qL,rfl,_⟩:=aW hl;have b1:az w.heap.size w (w.alloc (aw (b.cells (ae pm ml.length cm) (ae pn ss.length cn) (ae pk ms.length ck)) 28)):=(au _ _).alloc (ax _) _;have hk:=ay w (aw (b.cells (ae pm ml.length cm) (ae pn ss.length cn) (ae pk ms.length ck)) 28)
 have Vx:Hid (∀W cp,az w.heap.size w W->W.heap[cp]?=some (aw #[ae qy pl.length qL] 25 (0,0))->bu aq 103 #[aR (b.cells (ae pm ml.length cm) (ae pn ss.length cn) (ae pk ms.length ck)),.func (.func 164) #[] #[pv cp 0]] W fun e w'=>∃v,e=aF (cO #[aR (b.open (ae pm ml.length cm) (ae pn ss.length cn) (ae pk ms.length ck) v),ah ag 0])/\gY w' W.heap.size v (bw b ml ss ms)/\az W.heap.size W w'):=
  aj fun W cp J9 Uo=>Dr b _ _ _ ml ss ms W (hL.below J9) (hB.below J9) hne cp fun W' hb'=>by
   have hlt:=(ai.1 Uo).1;exact DF b cY _ _ _ pl hp cp _ W' ((hb'.block _ hlt).trans Uo) ((hl.below J9).below hb')
 have Kb:=aj hl;have Sz:=aj hao;have Yh:=aj nW;clear hL hB hl hao hp nW;generalize bw b ml ss ms=all at *;generalize ml.length=lm at *;generalize ss.length=ln at *;generalize ms.length=lk at *
 go_enter Tryz.func27,Tryz.ntmps27
 go_wp2
 refine bY (by kernel_rfl) [
 pV (aR (b.cells (ae pm lm cm) (ae pn ln cn) (ae pk lk ck))),
  pV (ae qy pl.length qL),
  fun v ds w9=>∃cp,v=.func (.func 164) #[] #[pv cp 0]/\w9.heap[cp]?=some (aw #[ae qy pl.length qL] 25 (0,0)),
  fun v ds w9=>∃gv cv,v=cO #[aR (b.open (ae pm lm cm) (ae pn ln cn) (ae pk lk ck) (ae (some ⟨gv,0,none⟩) all.length cv)),ah ag 0]/\gY w9 w.heap.size (ae (some ⟨gv,0,none⟩) all.length cv) all,
  fun v ds w9=>∃gv cv,v=cO #[aR (b.open (ae pm lm cm) (ae pn ln cn) (ae pk lk ck) (ae (some ⟨gv,0,none⟩) all.length cv)),ah ag 0]/\gY w9 w.heap.size (ae (some ⟨gv,0,none⟩) all.length cv) all,
  fun v ds w9=>∃gv cv,v=aR (b.open (ae pm lm cm) (ae pn ln cn) (ae pk lk ck) (ae (some ⟨gv,0,none⟩) all.length cv))/\gY w9 w.heap.size (ae (some ⟨gv,0,none⟩) all.length cv) all,
  pV (ah ag 0),
  fun v ds w9=>∃k,∃z:Array ak,v=pv k 0/\w.heap.size+1<=k/\w9.heap[k]?=some (aw z 122 (0,0))/\z.size=16,
  fun v ds w9=>∃k gv cv,ds[0]?=some (pv k 0)/\w.heap.size+1<=k/\w9.heap[k]?=some (aw (b.open (ae pm lm cm) (ae pn ln cn) (ae pk lk ck) (ae (some ⟨gv,0,none⟩) all.length cv)) 122 (0,0))/\gY w9 w.heap.size (ae (some ⟨gv,0,none⟩) all.length cv) all,
  pV (ah ag 0)]
  (fun w9=>w9.heap[w.heap.size]?=some (aw (b.cells (ae pm lm cm) (ae pn ln cn) (ae pk lk ck)) 28 (0,0))/\az w.heap.size w w9) [(2,pv w.heap.size 0),(1,ae qy pl.length qL)] (by kernel_rfl) ?rst (fun w1 w2 h hb=>⟨(hb.block _ (ai.1 h.1).1).trans h.1,h.2.trans (hb.mono h.2.size)⟩) (⟨hk,b1.drew⟩) ⟨rfl,rfl,trivial⟩ ?reach ?rfin
 case rst=>
  refine⟨sV,sV,?_,?_,?_,?_,sV,?_,?_,sV,trivial⟩
  .rintro v ds w1 w2 hS ⟨cp,h1,h2⟩ hb;exact⟨cp,h1,(hb.block _ (ai.1 h2).1).trans h2⟩
  .rintro v ds w1 w2 hS ⟨gv,cv,h1,h2⟩ hb;exact⟨gv,cv,h1,h2.at_ fun g hg=>hb.block g (h2.1.lt g hg).2⟩
  .rintro v ds w1 w2 hS ⟨gv,cv,h1,h2⟩ hb;exact⟨gv,cv,h1,h2.at_ fun g hg=>hb.block g (h2.1.lt g hg).2⟩
  .rintro v ds w1 w2 hS ⟨gv,cv,h1,h2⟩ hb;exact⟨gv,cv,h1,h2.at_ fun g hg=>hb.block g (h2.1.lt g hg).2⟩
  .rintro v ds w1 w2 hS ⟨k,z,h1,h2,h3,h4⟩ hb;exact⟨k,z,h1,h2,(hb.block _ (ai.1 h3).1).trans h3,h4⟩
  rintro v ds w1 w2 hS ⟨k,gv,cv,h1,h0,h3,h2⟩ hb;exact⟨k,gv,cv,h1,h0,(hb.block _ (ai.1 h3).1).trans h3,h2.at_ fun g hg=>hb.block g (h2.1.lt g hg).2⟩
 case reach=>
  refine⟨?_,?_,?_,?_,?_,?_,?_,?_,?_,?_,trivial⟩<;>rintro ev w1 hS hc hg hf ⟨b2,b1,-⟩ hd
  .clear hd;obtain⟨x0,x1,x2,x3,x4,x5,x6,x7,x8,x9,oh,og,o6,oA,oW⟩:=bT hS.1;exact tV
  .clear hd;exact tV
  .have d1:ev (aM 19)=_:=hd.1 rfl;clear hd;refine Lag.Yields.call (f:=104) (args:=#[ae qy pl.length qL]) ?_ (JQ _ _ _ _) ?_
   .go_simp
   rintro e w2 ⟨rfl,rfl⟩;exact⟨_,rfl,⟨_,rfl,ay _ _⟩,cK ((au _ _).alloc (ax _) _)⟩
  .have d0:ev (aM 18)=_:=hd.1 rfl;obtain⟨cp,FU,xZ⟩:=hd.2.1 rfl;clear hd;replace FU:ev (aM 20)=_:=FU;refine Lag.Yields.call (f:=103) (args:=#[aR (b.cells (ae pm lm cm) (ae pn ln cn) (ae pk lk ck)),.func (.func 164) #[] #[pv cp 0]]) ?_ (Vx.out w1 cp hS.2 xZ) ?_
   .go_simp
   rintro e w2 ⟨v,rfl,jn,hb⟩
   obtain⟨gv,cv,rfl⟩:∃gv cv,v=ae (some ⟨gv,0,none⟩) all.length cv:=by
    rcases jn.1.2 with⟨_,h0⟩|⟨g,cap,cur,rfl,_⟩
    .omega
    exact⟨g,cap,rfl⟩
   exact⟨_,rfl,⟨gv,cv,rfl,jn.base hS.2.size⟩,cK hb⟩
  .exact yv rfl (hd.1 rfl)
  .obtain⟨gv,cv,e11,jn⟩:=hd.1 rfl;clear hd;replace e11:ev (aM 17)=_:=e11;refine yv ?_ (⟨gv,cv,rfl,jn⟩);go_simp
  .obtain⟨gv,cv,e11,jn⟩:=hd.1 rfl;clear hd;replace e11:ev (aM 17)=_:=e11;exact tV
  .clear hd;refine Lag.Yields.value (v:=pv w1.heap.size 0) (w':=w1.alloc (aw iu 122)) ?_ ⟨⟨_,_,rfl,(ai.1 hS.1).1,ay _ _,rfl⟩,cK ((au _ _).alloc (ax _) _)⟩;go_simp
  .obtain⟨k,z,e6,qG,hk2,hz⟩:=hd.1 rfl;replace e6:ev (aM 7)=_:=e6;obtain⟨gv,cv,Ow,jn⟩:=hd.2.1 rfl;clear hd;replace Ow:ev (aM 22)=_:=Ow;have Dv:∀g cs t,w1.heap[g]?=some (aw cs t (0,0))->t≠122->g≠k:=by rintro g cs t h1 h2 rfl;rw[hk2] at h1;cases h1;exact h2 rfl
   have EJ:∀(v:ak),gY w1 w.heap.size v all->gY (w1.setRow k (b.open (ae pm lm cm) (ae pn ln cn) (ae pk lk ck) (ae (some ⟨gv,0,none⟩) all.length cv))) w.heap.size v all:=fun v ho=>ho.at_ fun g hg=>setRow_other (by
    obtain⟨cur,q1,_⟩:=ho.2 g hg
    exact Dv g _ _ q1 (by decide))
   refine Lag.Yields.lN 122 _ _ rfl k _ e6 Ow 122 z hk2 (by kernel_rfl) hz (by simp[cj]) ⟨⟨k,gv,cv,congrArg some e6,qG,cV hk2,EJ _ jn⟩,.inr ⟨⟨(setRow_other (by omega)).trans hS.1,dv hS.2 (by omega)⟩,?_⟩⟩;intro j u ds hj hp
   match j,hp with
   |0,hp=>exact hp
   |1,hp=>exact hp
   |2,⟨cp,h1,h2⟩=>exact⟨cp,h1,(setRow_other (Dv _ _ _ h2 (by decide))).trans h2⟩
   |3,⟨ES,E7,h1,h2⟩=>exact⟨ES,E7,h1,EJ _ h2⟩
   |4,⟨ES,E7,h1,h2⟩=>exact⟨ES,E7,h1,EJ _ h2⟩
   |5,⟨ES,E7,h1,h2⟩=>exact⟨ES,E7,h1,EJ _ h2⟩
   |6,hp=>exact hp
   |7,⟨k',z',h1,h2,h3,h4⟩=>
    by_cases sA:k'=k
    .subst sA;exact⟨k',_,h1,h2,cV h3,rfl⟩
    exact⟨k',z',h1,h2,(setRow_other sA).trans h3,h4⟩
   |8,_=>exact(hj rfl).elim
   |9,hp=>exact hp
   |j+10,_=>trivial
  have d6:ev (aM 23)=_:=hd.1 rfl;clear hd;refine yv (v:=ev (aM 23)) ?_ (d6);rfl
 case rfin=>
  intro a2 w2 hR;have hS:=hR.s;obtain⟨k,gv,cv,U2,qG,hk2,jn⟩:=hR.val 8 (by decide);have e9:a2.tmps.getD 6 af=_:=hR.val 9 (by decide);have ha:=hR.lits 116 rfl;simp only[aU,cg,nD] at ha;rw[hR.kp 1 (by kernel_rfl),hR.kp 2 (by kernel_rfl),hR.kp 4 (by kernel_rfl),hR.kp 5 (by kernel_rfl)] at ha;simp only[kO,gp,gi] at ha;clear hR;have e6:a2.tmps.getD 7 af=pv k 0:=bj U2;rw[e6,e9] at ha;generalize a2.tmps.getD=zz at ha;clear e6 U2 e9;subst ha;have tq:=hS.1;have r5:=hS.2;clear hS;obtain⟨x0,x1,x2,x3,x4,x5,x6,x7,x8,x9,oh,og,o6,oA,oW⟩:=bT tq;have fx:=dg tq 12;have Cp:=jn.reads (by omega)
  have HC:Hid (∀j u,(rowOf all)[j]?=some u->w2.cell? ⟨gv,0+j,none⟩=some u):=aj (by
   rcases Cp with⟨h0,_⟩|⟨g,off,cap,h0,_,_,h1⟩
   .cases h0
   cases h0;exact h1)
  have Cq:=(jn.1.lt gv rfl).2;have zG:=(ai.1 hk2).1;have hbl:=(ai.1 tq).1;have HK:=aj hk2;have HBo:=aj tq;have FH:=aj r5;clear hk2 Cp tq r5 jn hk b1 Vx x0 x1 x2 x3 x4 x5 x6 x7 x8 x9 oh og oA oW;generalize hL:all.length=L at *;have HL:=aj hL;clear hL;obtain⟨N,hN0⟩:∃N,N=2 ^ lm:=⟨_,rfl⟩
  have hN8:N<=8:=by
   have:lm=0\/lm=1\/lm=2\/lm=3:=by omega
   rcases this with h|h|h|h<;>subst h<;>omega
  have hN:wrap64 (2 ^ lm)=(N:Int):=by
   have:lm=0\/lm=1\/lm=2\/lm=3:=by omega
   rcases this with h|h|h|h<;>subst h<;>subst hN0<;>simp[wrap64]
  have HN0:=aj hN0;clear hN0;have HBe:Hid (az w2.heap.size w2 w2):=aj (au _ _);go_wp2;rw[hN];clear hN
  go_loopw [4,5,8,9,10,11,13,14,16,31] (fun v4 f _ _ _ _ _ _ _ i wr=>∃(M:Nat) (p4:Option Addr) (c4:Nat),M<=N/\i=ah ag M/\f=aH (iU b all (bD pl) lm M).2/\v4=ae p4 (iU b all (bD pl) lm M).1.length c4/\Reads wr (ae p4 (iU b all (bD pl) lm M).1.length c4) (iU b all (bD pl) lm M).1.length ((iU b all (bD pl) lm M).1.map (aB ag))/\az w2.heap.size w2 wr) (fun _ _ _ _ _ _ _ _ _ i _=>N-(intOf i).toNat)
  case atStart=>exact⟨0,none,0,iW _,by simp,by simp[iU],by simp[iU],cK ⟨rfl,by simp[iU],by simp[iU]⟩,au _ _⟩
  case round=>
   obtain⟨M,p4,c4,hM,rfl,rfl,rfl,hr4,en⟩:=hrel;rename ar=>wo;have hsz:=en.size
   by_cases hlt:M<N
   .have hst:iU b all (bD pl) lm (M+1)=if E9 (Fa b all (bD pl) lm M) (iU b all (bD pl) lm M).2 (uG lm M) (iU b all (bD pl) lm M).1 then(uG lm M,true) else iU b all (bD pl) lm M:=rfl
    generalize iU b all (bD pl) lm M=st at *;obtain⟨lc,f⟩:=st;simp only[] at hst hr4;have Sx:=aj hst;have HR4:=aj hr4;have xC:=aj en
    have GF:Hid (∀w9,az wo.heap.size wo w9->w9.heap[k]?=some (aw (b.open (ae pm lm cm) (ae pn ln cn) (ae pk lk ck) (ae (some ⟨gv,0,none⟩) L cv)) 122 (0,0))/\w9.heap[w.heap.size]?=some (aw (b.cells (ae pm lm cm) (ae pn ln cn) (ae pk lk ck)) 28 (0,0))/\(∀i u,(rowOf all)[i]?=some u->w9.cell? ⟨gv,0+i,none⟩=some u)):=aj fun w9 Od=>by
     have h:=en.trans (Od.mono hsz);exact⟨(h.block _ zG).trans HK.out,(h.block _ hbl).trans HBo.out,fun i u hi=>(h.cell (p:=⟨gv,0+i,none⟩) Cq).trans (HC.out i u hi)⟩
    obtain⟨q1,q2,-⟩:=GF.out wo (au _ _);obtain⟨y0,y1,y2,y3,y4,y5,y6,y7,y8,y9,M6,O9,O8,O7,Kf,Il⟩:=jC q1;have g2:(wo.alloc (aw #[ah ag b.room,ah ag b.depth,ah ag b.least,ah ag b.minutes,ah ag b.cD,ah ag b.iL,ah ag b.eh,ah ag b.ie,ah ag b.ll,ah ag b.lm,ah ag b.pl,ah ag b.pm,ae pm lm cm,ae pn ln cn,ae pk lk ck,ae none 0 0] 122)).heap[w.heap.size]?=some (aw (b.cells (ae pm lm cm) (ae pn ln cn) (ae pk lk ck)) 28 (0,0)):=(aX _ _ _ (ai.1 q2).1).trans q2;have z12:=aJ g2 12 (ae pm lm cm) rfl;have aiB:=dg g2 12;clear hst hr4 en q1 q2 g2 o6 fx;have hb2:az wo.heap.size wo (wo.alloc (aw #[ah ag b.room,ah ag b.depth,ah ag b.least,ah ag b.minutes,ah ag b.cD,ah ag b.iL,ah ag b.eh,ah ag b.ie,ah ag b.ll,ah ag b.lm,ah ag b.pl,ah ag b.pm,ae pm lm cm,ae pn ln cn,ae pk lk ck,ae none 0 0] 122)):=(au _ _).alloc (ax _) _;have ho2:=ay wo (aw #[ah ag b.room,ah ag b.depth,ah ag b.least,ah ag b.minutes,ah ag b.cD,ah ag b.iL,ah ag b.eh,ah ag b.ie,ah ag b.ll,ah ag b.lm,ah ag b.pl,ah ag b.pm,ae pm lm cm,ae pn ln cn,ae pk lk ck,ae none 0 0] 122);have px:=aj hb2;have HO2:=aj ho2;have adq:(wo.alloc (aw #[ah ag b.room,ah ag b.depth,ah ag b.least,ah ag b.minutes,ah ag b.cD,ah ag b.iL,ah ag b.eh,ah ag b.ie,ah ag b.ll,ah ag b.lm,ah ag b.pl,ah ag b.pm,ae pm lm cm,ae pn ln cn,ae pk lk ck,ae none 0 0] 122)).heap.size=wo.heap.size+1:=by simp
    clear hb2 ho2;go_wp2
    go_loopw [9,11,40] (fun v9 _ i wr=>∃j:Nat,j<=lm/\i=ah ag j/\wr.ownsRow (wo.heap.size+1) 3 1 v9 (dV j M).length ((dV j M).map fun(i:Nat)=>aB ag (i:Int))/\az (wo.heap.size+1) (wo.alloc (aw #[ah ag b.room,ah ag b.depth,ah ag b.least,ah ag b.minutes,ah ag b.cD,ah ag b.iL,ah ag b.eh,ah ag b.ie,ah ag b.ll,ah ag b.lm,ah ag b.pl,ah ag b.pm,ae pm lm cm,ae pn ln cn,ae pk lk ck,ae none 0 0] 122)) wr) (fun _ _ i _=>lm-(intOf i).toNat)
    case atStart=>exact⟨0,iW _,by simp,dR _ _ _ _,au _ _⟩
    case round=>
     obtain⟨j,hj,rfl,hown,yJ⟩:=hrel;have Z6:=yJ.size;rw[adq] at Z6;have hcl:=qN j M;have hM5:M<512:=Nat.lt_of_lt_of_le hlt (aO hN8 (by decide))
     by_cases MW:j<lm
     .cases hb:M.testBit j
      .have e1:dV (j+1) M=dV j M:=by rw[rI,hb];simp
       have Ry:=wL M j hM5;rw[hb] at Ry;have H1:=aj e1;clear e1;go_wp2;go_roundw
       case rel=>exact⟨j+1,by omega,by simp,by rw[H1.out];exact hown,yJ⟩
       case measure=>simp[intOf];omega
      have e1:dV (j+1) M=dV j M++[j]:=by rw[rI,hb];simp
      have Ry:=wL M j hM5;rw[hb] at Ry;have H1:=aj e1
      have Yi:Hid (∀(i:Nat) (u:ak),([ah ag (j:Int)]:List ak)[i]?=some u->(wr.alloc (aw #[ah ag (j:Int)] 3)).cell? ((⟨wr.heap.size,0,none⟩:Addr).add i)=some u):=aj fun i u hj=>by
       match i,hj with
       |0,hj=>simp at hj;subst hj;simp[k8]
      clear e1
      go_wp2_with (at_builtin;refine wpList_append_own _ rfl _ _ 25 rfl (wo.heap.size+1) 3 i0 (ah ag 0) 1 8 eJ hi hz0 hz1 hz2 rfl (by decide) u9 _ _ rfl (hown.alloc _) ⟨wr.heap.size,0,none⟩ 1 1 [ah ag (j:Int)] rfl rfl Yi.out (by simp[cj]) (by unfold maxLen;omega) (by omega) (by simp;omega) ?_;intro v' w3 Lr hgrow hnil)
      go_roundw
      case rel=>exact⟨j+1,by omega,by simp,by rw[H1.out,List.length_append,fh];exact Lr,tM (by omega) hown yJ hgrow⟩
      case measure=>simp[intOf];omega
     obtain rfl:lm=j:=by omega
     rename ar=>wc;obtain⟨p9,c9,rfl⟩:=dA hown;have YU:az wo.heap.size wo wc:=px.out.trans (yJ.mono (by simp));have hoc:wc.heap[wo.heap.size]?=some (aw #[ah ag b.room,ah ag b.depth,ah ag b.least,ah ag b.minutes,ah ag b.cD,ah ag b.iL,ah ag b.eh,ah ag b.ie,ah ag b.ll,ah ag b.lm,ah ag b.pl,ah ag b.pm,ae pm lm cm,ae pn ln cn,ae pk lk ck,ae none 0 0] 122 (0,0)):=(yJ.block _ (by simp)).trans HO2.out;have al5:=aJ (GF.out wc YU).1 15 (ae (some ⟨gv,0,none⟩) L cv) rfl;have anZ:=dg (GF.out wc YU).1 15;have ajn:=aj hown;have HBc:=aj YU;have HOc:=aj hoc;have hcs:wo.heap.size+1<=wc.heap.size:=Z6;have hCb:∀i∈dV lm M,i<lm:=fun i hi=>by simp[dV] at hi;exact hi.1
     have RF:=qN lm M;unfold Fa uG at Sx;clear hown yJ YU hoc y0 y1 y2 y3 y4 y5 y6 y7 y8 y9 M6 O9 O8 O7 Kf Il z12 aiB Z6;go_wp2;generalize dV lm M=C at *
     go_loopw [13,14,16,56] (fun _ _ _ i wr=>∃(j:Nat) (SA:Option Addr) (c15:Nat),j<=L/\i=ah ag j/\wr.heap[wo.heap.size]?=some (aw #[ah ag b.room,ah ag b.depth,ah ag b.least,ah ag b.minutes,ah ag b.cD,ah ag b.iL,ah ag b.eh,ah ag b.ie,ah ag b.ll,ah ag b.lm,ah ag b.pl,ah ag b.pm,ae pm lm cm,ae pn ln cn,ae pk lk ck,ae SA j c15] 122 (0,0))/\wr.ownsRow (wo.heap.size+1) 134 4 (ae SA j c15) j (rowOf ((all.take j).map fun a=>a.only C))/\wr.ownsRow (wo.heap.size+1) 3 1 (ae p9 C.length c9) C.length (C.map fun(i:Nat)=>aB ag (i:Int))/\az wo.heap.size wo wr) (fun _ _ _ i _=>L-(intOf i).toNat)
     case atStart=>exact⟨0,none,0,iW _,by simp,HOc.out,dR _ _ _ _,ajn.out,HBc.out⟩
     case round=>
      obtain⟨j,SA,c15,hj,rfl,VO,Lp,PU,yJ⟩:=hrel;have Z6:=yJ.size
      by_cases MW:j<L
      .rename ar=>wj;have Js:j<all.length:=by rw[HL.out];exact MW
       obtain⟨c0,c1,c2,c3⟩:=Reads.cell (w:=wj) (cap:=cv) (n:=L) (GF.out wj yJ).2.2 j Js;simp only[di] at c0 c1 c2 c3;have hao:=Sz.out _ (bV Js);have tZ:(all.take (j+1)).map (fun a=>a.only C)=(all.take j).map (fun a=>a.only C)++[all[j].only C]:=by rw[bN Js,fh];rfl
       have HTk:=aj tZ;have Sy:=aj yJ;have HOj:=aj VO;have HOA:=aj Lp;have HOC:=aj PU;have HAk:=aj hao;clear tZ yJ VO Lp PU hao;generalize all[j]=a at *;go_wp2;have hWs:((wj.alloc (aw a.cells 134)).alloc (aw (⟨a.leak,0,0,0⟩:eN).cells 134)).heap.size=wj.heap.size+2:=by simp
       have hAw:((wj.alloc (aw a.cells 134)).alloc (aw (⟨a.leak,0,0,0⟩:eN).cells 134)).heap[wj.heap.size]?=some (aw a.cells 134 (0,0)):=(aX _ _ _ (by simp)).trans (ay wj _)
       have hKw:((wj.alloc (aw a.cells 134)).alloc (aw (⟨a.leak,0,0,0⟩:eN).cells 134)).heap[wj.heap.size+1]?=some (aw (⟨a.leak,0,0,0⟩:eN).cells 134 (0,0)):=by
        have:=ay (wj.alloc (aw a.cells 134)) (aw (⟨a.leak,0,0,0⟩:eN).cells 134);simpa using this
       have J9:az wj.heap.size wj ((wj.alloc (aw a.cells 134)).alloc (aw (⟨a.leak,0,0,0⟩:eN).cells 134)):=((au _ _).alloc (ax _) _).alloc (by simp) _;have HAw:=aj hAw;have HKw:=aj hKw;have HbW:=aj J9;clear hAw hKw J9 c0 c1 c2 c3
       go_loopw [16,65] (fun _ i wr=>∃t:Nat,t<=C.length/\i=ah ag t/\wr.heap[wj.heap.size+1]?=some (aw ((C.take t).foldl (fun k i=>k.put i (a.get i)) (⟨a.leak,0,0,0⟩:eN)).cells 134 (0,0))/\az (wj.heap.size+1) ((wj.alloc (aw a.cells 134)).alloc (aw (⟨a.leak,0,0,0⟩:eN).cells 134)) wr) (fun _ i _=>C.length-(intOf i).toNat)
       case atStart=>exact⟨0,iW _,by simp,HKw.out,au _ _⟩
       case round=>
        obtain⟨t,ht,rfl,PV,htx⟩:=hrel;have hts:=htx.size;rw[hWs] at hts;have Ry:az wj.heap.size wj wr:=HbW.out.trans (htx.mono (by simp));have hAt:=(htx.block wj.heap.size (by simp)).trans HAw.out;have hCt:=cN HOC.out Ry;have HTx:=aj htx;have HBt:=aj Ry;have HKt:=aj PV
        by_cases NY:t<C.length
        .obtain⟨g9,rfl⟩:∃g9,p9=some ⟨g9,0,none⟩:=by
          rcases hCt.2 with⟨h1,h2⟩|⟨g,cap,cur,h1,_⟩
          .exfalso;simp at h1;omega
          exact⟨g,by simp at h1;exact h1.1⟩
         have hci:=hCt.cells (g:=g9) rfl t (ah ag (C[t]:Nat)) (by simp[fK NY]);have e9:(⟨g9,0,none⟩:Addr).add t=⟨g9,t,none⟩:=by cases t<;>simp[k8]
         rw[e9] at hci;have hi3:C[t]<3:=by have:=hCb _ (bV NY);omega
         have hfo:(C.take (t+1)).foldl (fun k i=>k.put i (a.get i)) (⟨a.leak,0,0,0⟩:eN)=((C.take t).foldl (fun k i=>k.put i (a.get i)) (⟨a.leak,0,0,0⟩:eN)).put C[t] (a.get C[t]):=by rw[bN NY,List.foldl_append];rfl
         have HFo:=aj hfo;generalize (C.take t).foldl (fun k i=>k.put i (a.get i)) (⟨a.leak,0,0,0⟩:eN)=kk at *;generalize C[t]=i at *
         have hx1:wr.cell? ⟨wj.heap.size,1+i,none⟩=some (ah ag (a.get i)):=by
          match i,hi3 with
          |0,_=>exact aJ hAt 1 _ rfl
          |1,_=>exact aJ hAt 2 _ rfl
          |2,_=>exact aJ hAt 3 _ rfl
         have hx2:wr.cell? ⟨wj.heap.size+1,1+i,none⟩=some (ah ag (kk.get i)):=by
          match i,hi3 with
          |0,_=>exact aJ PV 1 _ rfl
          |1,_=>exact aJ PV 2 _ rfl
          |2,_=>exact aJ PV 3 _ rfl
         have hx3:=dg PV (1+i);have hst:=Qb i hi3 (a.get i) PV;have HSe:=aj hst;clear hst hfo htx Ry hAt hCt PV e9;go_wp2;go_roundw
         case rel=>exact⟨t+1,by omega,by simp,by rw[HFo.out];exact HSe.out,HTx.out.setCell (p:=⟨wj.heap.size+1,1+i,none⟩) (ax _) _⟩
         case measure=>simp[intOf];omega
        obtain rfl:C.length=t:=by omega
        have sA:(C.take C.length).foldl (fun k i=>k.put i (a.get i)) (⟨a.leak,0,0,0⟩:eN)=a.only C:=by rw[GN];rfl
        rw[sA] at PV;have HKt:=aj PV;generalize a.only C=kk at *;have k0:=aJ PV 0 (ah ag kk.leak) rfl;have k1:=aJ PV 1 (ah ag kk.m0) rfl;have k2:=aJ PV 2 (ah ag kk.m1) rfl;have k3:=aJ PV 3 (ah ag kk.m2) rfl;have hot:wr.heap[wo.heap.size]?=some (aw #[ah ag b.room,ah ag b.depth,ah ag b.least,ah ag b.minutes,ah ag b.cD,ah ag b.iL,ah ag b.eh,ah ag b.ie,ah ag b.ll,ah ag b.lm,ah ag b.pl,ah ag b.pm,ae pm lm cm,ae pn ln cn,ae pk lk ck,ae SA j c15] 122 (0,0)):=(Ry.block _ (ai.1 HOj.out).1).trans HOj.out;have hAA:=cN HOA.out Ry;have hol:=(ai.1 hot).1;have Il:=aJ hot 15 (ae SA j c15) rfl
        have Yi:Hid (∀(i:Nat) (u:ak),kk.cells.toList[i]?=some u->(wr.alloc (aw kk.cells 134)).cell? ((⟨wr.heap.size,0,none⟩:Addr).add i)=some u):=aj fun i u hj=>by
         have:=ay wr (aw kk.cells 134);have h5:=aJ this i u (by simpa using hj);have e:(⟨wr.heap.size,0,none⟩:Addr).add i=⟨wr.heap.size,i,none⟩:=by cases i<;>simp[k8]
         rw[e];exact h5
        have J3:=aj hCt;have HAA:=aj hAA;have HOt:=aj hot;have hbo:wo.heap.size+1<=wr.heap.size:=by omega
        clear PV htx Ry hAt hCt sA hot
        go_wp2_with (first
         |(at_builtin;refine wpList_append_own _ rfl _ _ 120 rfl (wo.heap.size+1) 134 i1 (aR #[ah ag 0,ah ag 0,ah ag 0,ah ag 0]) 4 32 Tryz.underlying120 Au NU hy1 hy2 rfl (by decide) (ae SA j c15) j (rowOf ((all.take j).map fun a=>a.only C)) rfl (hAA.alloc (aw kk.cells 134)) ⟨wr.heap.size,0,none⟩ 1 1 kk.cells.toList rfl rfl Yi.out (by simp[cj]) (by unfold maxLen;omega) (by omega) (by first|omega|(simp;omega)) ?_;intro v' w5 Ud hgrow hnil
           obtain⟨p16,c16,rfl⟩:=dA Ud;have ho5:w5.heap[wo.heap.size]?=some (aw #[ah ag b.room,ah ag b.depth,ah ag b.least,ah ag b.minutes,ah ag b.cD,ah ag b.iL,ah ag b.eh,ah ag b.ie,ah ag b.ll,ah ag b.lm,ah ag b.pl,ah ag b.pm,ae pm lm cm,ae pn ln cn,ae pk lk ck,ae SA j c15] 122 (0,0)):=(hgrow.block _ (by simp;omega) (lH hAA HOt.out (by decide))).trans ((aX _ _ _ hol).trans HOt.out);have hC5:=fY (W':=w5) (J3.out.alloc (aw kk.cells 134)) fun g hg=>hgrow.block g ((J3.out.alloc (aw kk.cells 134)).lt g hg).2 (zk J3.out hAA (by decide) hg);have HO5:=aj ho5;have HC5:=aj hC5;have HW5:=aj Ud;have HG5:=aj hgrow;have f15:=dg ho5 15;have z15:=aJ ho5 15 (ae SA j c15) rfl
           clear ho5 hC5 Ud hgrow hnil))
        go_roundw
        case rel=>
         refine⟨j+1,p16,c16,by omega,by simp,dh _ HO5.out,?_,dn HC5.out HO5.out (by decide),(((Sy.out.trans (HBt.out.mono Z6)).alloc (by omega) _).grown HG5.out (by simp;omega) (fun g hg=>by have:=(HAA.out.lt g hg).1;omega)).setCell (p:=⟨wo.heap.size,15,none⟩) (ax _) _⟩;rw[HTk.out,Ec];exact dn HW5.out HO5.out (by decide)
        case measure=>simp[intOf];omega
      obtain rfl:L=j:=by omega
      rename ar=>wd;have tZ:all.take L=all:=List.take_of_length_le (by rw[HL.out];exact ax _);rw[tZ] at Lp;have hall:(all.map fun a=>a.only C).length=L:=by rw[fR];exact HL.out
      have hrA:Reads wd (ae SA L c15) (all.map fun a=>a.only C).length (rowOf (all.map fun a=>a.only C)):=by
       rw[hall];exact Reads.iT Lp (by omega) (by rw[QM,hall];omega)
      have hrC:Reads wd (ae p9 C.length c9) (C.map fun(i:Nat)=>(i:Int)).length ((C.map fun(i:Nat)=>(i:Int)).map (aB ag)):=by
       have h1:=Reads.iT PU (by omega) (by simp);rw[fR,List.map_map];exact h1
      have hSu:=fun W (hb:az wd.heap.size wd W)=>xI b cY (ae pm lm cm) (ae pn ln cn) (ae pk lk ck) (ae SA L c15) (all.map fun a=>a.only C) (fun a ha=>by
       obtain⟨x,hx,rfl⟩:=List.mem_map.1 ha
       exact eN.WL (Sz.out x hx) C) (bD pl) Jp W (hrA.below hb)
      have YF:Reads wd (ae p4 lc.length c4) lc.length (lc.map (aB ag)):=HR4.out.below yJ;have hpl:Reads wd (ae qy pl.length qL) pl.length (pl.map (aB ag)):=Kb.out.below (FH.out.trans ((xC.out.mono FH.out.size).trans (yJ.mono (by have:=FH.out.size;omega))));have hcm:=fun W (hb:az wd.heap.size wd W)=>rK (C.map fun(i:Nat)=>(i:Int)) lc (ae p9 C.length c9) (ae p4 lc.length c4) W (hrC.below hb) (YF.below hb);have Rq:=fun W (hb:az wd.heap.size wd W)=>kx pl Yh.out (ae qy pl.length qL) W (hpl.below hb);have HSu:=aj hSu;have HCm:=aj hcm;have HPo:=aj Rq;have HRC:=aj hrC;have HRL:=aj YF;have HQd:=aj yJ;have HOd:=aj VO;clear hSu hcm Rq hrC YF hrA hpl yJ VO Lp PU tZ hall;unfold E9 at Sx;obtain⟨g12,XI⟩:∃r,decide ((C.length:Int)>lc.length)=r:=⟨_,rfl⟩
      obtain⟨g20,h20⟩:∃r,((C.length:Int)==(lc.length:Int))=r:=⟨_,rfl⟩
      obtain⟨Qa,h24⟩:∃r,decide (jZ (C.map fun(i:Nat)=>(i:Int)) lc<0)=r:=⟨_,rfl⟩
      simp only[fR] at Sx;rw[XI,h20,h24] at Sx;generalize b.sure (all.map fun a=>a.only C) (bD pl)=bs at *;go_wp2
      refine Gd.bY (by kernel_rfl) [
      pV (aR (b.open (ae pm lm cm) (ae pn ln cn) (ae pk lk ck) (ae SA L c15))),
       pV (ae qy pl.length qL),
       pV (ah ag (bD pl)),
       pV (aH bs),
       pV (aH bs),
       fun v ds w9=>bs=true->v=aH f,
       fun v ds w9=>bs=true->v=aH (!f),
       pV ((if bs=true then nC (!f) else af)),
       fun v ds w9=>(bs && !(!f))=true->v=ae p9 C.length c9,
       fun v ds w9=>(bs && !(!f))=true->v=ah ag C.length,
       fun v ds w9=>(bs && !(!f))=true->v=ae p4 lc.length c4,
       fun v ds w9=>(bs && !(!f))=true->v=ah ag lc.length,
       fun v ds w9=>(bs && !(!f))=true->v=aH g12,
       fun v ds w9=>bs=true->v=aH (!f||g12),
       pV ((if bs=true then nC (!f||g12) else af)),
       fun v ds w9=>(bs && !(!f||g12))=true->v=ae p9 C.length c9,
       fun v ds w9=>(bs && !(!f||g12))=true->v=ah ag C.length,
       fun v ds w9=>(bs && !(!f||g12))=true->v=ae p4 lc.length c4,
       fun v ds w9=>(bs && !(!f||g12))=true->v=ah ag lc.length,
       fun v ds w9=>(bs && !(!f||g12))=true->v=aH g20,
       pV ((if (bs && !(!f||g12))=true then nC g20 else af)),
       fun v ds w9=>((bs && !(!f||g12))&&g20)=true->v=ae p9 C.length c9,
       fun v ds w9=>((bs && !(!f||g12))&&g20)=true->v=ae p4 lc.length c4,
       fun v ds w9=>((bs && !(!f||g12))&&g20)=true->v=ah ag (jZ (C.map fun(i:Nat)=>(i:Int)) lc),
       fun v ds w9=>((bs && !(!f||g12))&&g20)=true->v=aH Qa,
       fun v ds w9=>(bs && !(!f||g12))=true->v=aH (g20&&Qa),
       fun v ds w9=>bs=true->v=aH ((!f||g12)||(g20&&Qa)),
       pV (aH (bs&&((!f||g12)||(g20&&Qa))))]
       (fun w9=>az wd.heap.size wd w9) [(1,ae qy pl.length qL),(4,ae p4 lc.length c4),(5,aH f),(9,ae p9 C.length c9),(10,pv wo.heap.size 0)] (by kernel_rfl) ?rst (fun w1 w2 h hb=>h.trans (hb.mono h.size)) ((au _ _).drew) ⟨rfl,rfl,rfl,rfl,rfl,trivial⟩ ?reach ?rfin
      case rst=>
       refine⟨sV,sV,sV,sV,sV,fun _ _ _ _ _ h _=>h,fun _ _ _ _ _ h _=>h,sV,fun _ _ _ _ _ h _=>h,fun _ _ _ _ _ h _=>h,fun _ _ _ _ _ h _=>h,fun _ _ _ _ _ h _=>h,fun _ _ _ _ _ h _=>h,fun _ _ _ _ _ h _=>h,sV,fun _ _ _ _ _ h _=>h,fun _ _ _ _ _ h _=>h,fun _ _ _ _ _ h _=>h,fun _ _ _ _ _ h _=>h,fun _ _ _ _ _ h _=>h,sV,fun _ _ _ _ _ h _=>h,fun _ _ _ _ _ h _=>h,fun _ _ _ _ _ h _=>h,fun _ _ _ _ _ h _=>h,fun _ _ _ _ _ h _=>h,fun _ _ _ _ _ h _=>h,sV,trivial⟩
      case reach=>
       refine⟨?_,?_,?_,?_,?_,?_,?_,?_,?_,?_,?_,?_,?_,?_,?_,?_,?_,?_,?_,?_,?_,?_,?_,?_,?_,?_,?_,?_,trivial⟩<;>rintro ev w1 hS hc hg hf ⟨b1,b4,b5,b9,Ss,-⟩ hd
       .clear hd;have q:=(Below.block hS _ (ai.1 HOd.out).1).trans HOd.out;exact CZ 122 rfl Ss q Tryz.underlying122 rfl (by kernel_rfl) (rfl)
       .clear hd;exact tV
       .have d1:ev (aM 85)=_:=hd.1 rfl;clear hd;refine yq (args:=#[ae qy pl.length qL]) (HPo.out _ hS) ?_ fun _=>rfl;go_simp
       .have d0:ev (aM 84)=_:=hd.1 rfl;have d2:ev (aM 86)=_:=hd.2.1 rfl;clear hd;refine yc (args:=#[aR (b.open (ae pm lm cm) (ae pn ln cn) (ae pk lk ck) (ae SA L c15)),ah ag (bD pl)]) (HSu.out _ hS) ?_ fun _=>rfl;go_simp
       .have d3:ev (aM 87)=_:=hd.1 rfl;clear hd;exact tV
       .have d4:ev (aM 88)=_:=hd.1 rfl;clear hd;refine⟨fun hgd=>?_,fun hgd=>⟨?_,cK (au _ _)⟩⟩
        .have hA:=gA.1 (d4.symm.trans hgd);refine yv (v:=(aH f:ak)) ?_ (fun _=>rfl);go_simp
        intro hc;exact absurd (d4.trans (gA.2 hc)) hgd
       .have d5:bs=true->(ev (aM 89))=aH f:=hd.1 rfl;have d4:ev (aM 88)=_:=hd.2.1 rfl;clear hd;refine⟨fun hgd=>?_,fun hgd=>⟨?_,cK (au _ _)⟩⟩
        .have hA:=gA.1 (d4.symm.trans hgd);have y5:=d5 hA;refine yv (v:=(aH (!f):ak)) ?_ (fun _=>rfl);go_simp
        intro hc;exact absurd (d4.trans (gA.2 hc)) hgd
       .have d6:bs=true->(ev (aM 90))=aH (!f):=hd.1 rfl;have d4:ev (aM 88)=_:=hd.2.1 rfl;clear hd;refine⟨fun hgd=>?_,fun hgd=>⟨?_,cK (au _ _)⟩⟩
        .have hA:=gA.1 (d4.symm.trans hgd);have y6:=d6 hA;refine yv (v:=aH (!f)) ?_ ((if_pos hA).symm);go_simp
        exact(if_neg (fun hc=>absurd (d4.trans (gA.2 hc)) hgd)).symm
       .have d7:ev (aM 91)=_:=hd.1 rfl;clear hd;refine⟨fun hgd=>?_,fun hgd=>⟨?_,cK (au _ _)⟩⟩
        .have hA:=gB.1 (d7.symm.trans hgd);refine yv (v:=(ae p9 C.length c9:ak)) ?_ (fun _=>rfl);go_simp
        intro hc;exact absurd (d7.trans (gB.2 hc)) hgd
       .have d8:(bs && !(!f))=true->(ev (aM 92))=ae p9 C.length c9:=hd.1 rfl;have d7:ev (aM 91)=_:=hd.2.1 rfl;clear hd;refine⟨fun hgd=>?_,fun hgd=>⟨?_,cK (au _ _)⟩⟩
        .have hA:=gB.1 (d7.symm.trans hgd);have y8:=d8 hA;refine yv (v:=(ah ag C.length:ak)) ?_ (fun _=>rfl);go_simp
        intro hc;exact absurd (d7.trans (gB.2 hc)) hgd
       .have d7:ev (aM 91)=_:=hd.1 rfl;clear hd;refine⟨fun hgd=>?_,fun hgd=>⟨?_,cK (au _ _)⟩⟩
        .have hA:=gB.1 (d7.symm.trans hgd);refine yv (v:=(ae p4 lc.length c4:ak)) ?_ (fun _=>rfl);go_simp
        intro hc;exact absurd (d7.trans (gB.2 hc)) hgd
       .have d10:(bs && !(!f))=true->(ev (aM 94))=ae p4 lc.length c4:=hd.1 rfl;have d7:ev (aM 91)=_:=hd.2.1 rfl;clear hd;refine⟨fun hgd=>?_,fun hgd=>⟨?_,cK (au _ _)⟩⟩
        .have hA:=gB.1 (d7.symm.trans hgd);have M6:=d10 hA;refine yv (v:=(ah ag lc.length:ak)) ?_ (fun _=>rfl);go_simp
        intro hc;exact absurd (d7.trans (gB.2 hc)) hgd
       .have d9:(bs && !(!f))=true->(ev (aM 93))=ah ag C.length:=hd.1 rfl;have d11:(bs && !(!f))=true->(ev (aM 95))=ah ag lc.length:=hd.2.1 rfl;have d7:ev (aM 91)=_:=hd.2.2.1 rfl;clear hd;refine⟨fun hgd=>?_,fun hgd=>⟨?_,cK (au _ _)⟩⟩
        .have hA:=gB.1 (d7.symm.trans hgd);have y9:=d9 hA;have O9:=d11 hA;refine yv (v:=aH g12) ?_ (fun _=>rfl);rw[<-XI];go_simp
        intro hc;exact absurd (d7.trans (gB.2 hc)) hgd
       .have d7:ev (aM 91)=_:=hd.1 rfl;have d12:(bs && !(!f))=true->(ev (aM 96))=aH g12:=hd.2.1 rfl;have d4:ev (aM 88)=_:=hd.2.2.1 rfl;clear hd;refine⟨fun hgd=>?_,fun hgd=>⟨?_,cK (au _ _)⟩⟩
        .have hA:=gA.1 (d4.symm.trans hgd);rcases Bool.eq_false_or_eq_true f with hf|hf
         .have y7:ev (aM 91)=aH false:=by rw[d7,if_pos hA,hf];rfl
          clear d7;have O8:=d12 (by rw[hA,hf];rfl);refine yv (v:=aH g12) ?_ (fun _=>by rw[hf];simp);go_simp
         have y7:ev (aM 91)=aH true:=by rw[d7,if_pos hA,hf];rfl
         clear d7;refine yv (v:=aH true) ?_ (fun _=>by rw[hf];simp);go_simp
        intro hc;exact absurd (d4.trans (gA.2 hc)) hgd
       .have d13:bs=true->(ev (aM 97))=aH (!f||g12):=hd.1 rfl;have d4:ev (aM 88)=_:=hd.2.2.1 rfl;clear hd;refine⟨fun hgd=>?_,fun hgd=>⟨?_,cK (au _ _)⟩⟩
        .have hA:=gA.1 (d4.symm.trans hgd);have O7:=d13 hA;refine yv (v:=aH (!f||g12)) ?_ ((if_pos hA).symm);go_simp
        exact(if_neg (fun hc=>absurd (d4.trans (gA.2 hc)) hgd)).symm
       .have d14:ev (aM 98)=_:=hd.1 rfl;clear hd;refine⟨fun hgd=>?_,fun hgd=>⟨?_,cK (au _ _)⟩⟩
        .have hA:=gB.1 (d14.symm.trans hgd);refine yv (v:=(ae p9 C.length c9:ak)) ?_ (fun _=>rfl);go_simp
        intro hc;exact absurd (d14.trans (gB.2 hc)) hgd
       .have d15:(bs && !(!f||g12))=true->(ev (aM 99))=ae p9 C.length c9:=hd.1 rfl;have d14:ev (aM 98)=_:=hd.2.1 rfl;clear hd;refine⟨fun hgd=>?_,fun hgd=>⟨?_,cK (au _ _)⟩⟩
        .have hA:=gB.1 (d14.symm.trans hgd);have Il:=d15 hA;refine yv (v:=(ah ag C.length:ak)) ?_ (fun _=>rfl);go_simp
        intro hc;exact absurd (d14.trans (gB.2 hc)) hgd
       .have d14:ev (aM 98)=_:=hd.1 rfl;clear hd;refine⟨fun hgd=>?_,fun hgd=>⟨?_,cK (au _ _)⟩⟩
        .have hA:=gB.1 (d14.symm.trans hgd);refine yv (v:=(ae p4 lc.length c4:ak)) ?_ (fun _=>rfl);go_simp
        intro hc;exact absurd (d14.trans (gB.2 hc)) hgd
       .have d17:(bs && !(!f||g12))=true->(ev (aM 101))=ae p4 lc.length c4:=hd.1 rfl;have d14:ev (aM 98)=_:=hd.2.1 rfl;clear hd;refine⟨fun hgd=>?_,fun hgd=>⟨?_,cK (au _ _)⟩⟩
        .have hA:=gB.1 (d14.symm.trans hgd);have y17:=d17 hA;refine yv (v:=(ah ag lc.length:ak)) ?_ (fun _=>rfl);go_simp
        intro hc;exact absurd (d14.trans (gB.2 hc)) hgd
       .have d16:(bs && !(!f||g12))=true->(ev (aM 100))=ah ag C.length:=hd.1 rfl;have d18:(bs && !(!f||g12))=true->(ev (aM 102))=ah ag lc.length:=hd.2.1 rfl;have d14:ev (aM 98)=_:=hd.2.2.1 rfl;clear hd;refine⟨fun hgd=>?_,fun hgd=>⟨?_,cK (au _ _)⟩⟩
        .have hA:=gB.1 (d14.symm.trans hgd);have y16:=d16 hA;have y18:=d18 hA;refine yv (v:=aH g20) ?_ (fun _=>rfl);rw[<-h20];go_simp
        intro hc;exact absurd (d14.trans (gB.2 hc)) hgd
       .have d19:(bs && !(!f||g12))=true->(ev (aM 103))=aH g20:=hd.1 rfl;have d14:ev (aM 98)=_:=hd.2.1 rfl;clear hd;refine⟨fun hgd=>?_,fun hgd=>⟨?_,cK (au _ _)⟩⟩
        .have hA:=gB.1 (d14.symm.trans hgd);have y19:=d19 hA;refine yv (v:=aH g20) ?_ ((if_pos hA).symm);go_simp
        exact(if_neg (fun hc=>absurd (d14.trans (gB.2 hc)) hgd)).symm
       .have d20:ev (aM 104)=_:=hd.1 rfl;clear hd;refine⟨fun hgd=>?_,fun hgd=>⟨?_,cK (au _ _)⟩⟩
        .have hA:=Y1.1 (d20.symm.trans hgd);refine yv (v:=(ae p9 C.length c9:ak)) ?_ (fun _=>rfl);go_simp
        intro hc;exact absurd (d20.trans (Y1.2 hc)) hgd
       .have d20:ev (aM 104)=_:=hd.1 rfl;clear hd;refine⟨fun hgd=>?_,fun hgd=>⟨?_,cK (au _ _)⟩⟩
        .have hA:=Y1.1 (d20.symm.trans hgd);refine yv (v:=(ae p4 lc.length c4:ak)) ?_ (fun _=>rfl);go_simp
        intro hc;exact absurd (d20.trans (Y1.2 hc)) hgd
       .have d21:((bs && !(!f||g12))&&g20)=true->(ev (aM 105))=ae p9 C.length c9:=hd.1 rfl;have d22:((bs && !(!f||g12))&&g20)=true->(ev (aM 106))=ae p4 lc.length c4:=hd.2.1 rfl;have d20:ev (aM 104)=_:=hd.2.2.1 rfl;clear hd;refine⟨fun hgd=>?_,fun hgd=>⟨?_,cK (au _ _)⟩⟩
        .have hA:=Y1.1 (d20.symm.trans hgd);have y21:=d21 hA;have y22:=d22 hA;refine Lag.Yields.call (f:=98) (args:=#[ae p9 C.length c9,ae p4 lc.length c4]) ?_ (HCm.out _ hS) ?_
         .go_simp
         rintro e w2 ⟨rfl,rfl⟩;exact⟨_,rfl,fun _=>rfl,cK (au _ _)⟩
        intro hc;exact absurd (d20.trans (Y1.2 hc)) hgd
       .have d23:((bs && !(!f||g12))&&g20)=true->(ev (aM 107))=ah ag (jZ (C.map fun(i:Nat)=>(i:Int)) lc):=hd.1 rfl;have d20:ev (aM 104)=_:=hd.2.1 rfl;clear hd;refine⟨fun hgd=>?_,fun hgd=>⟨?_,cK (au _ _)⟩⟩
        .have hA:=Y1.1 (d20.symm.trans hgd);have y23:=d23 hA;refine yv (v:=aH Qa) ?_ (fun _=>rfl);rw[<-h24];go_simp
        intro hc;exact absurd (d20.trans (Y1.2 hc)) hgd
       .have d20:ev (aM 104)=_:=hd.1 rfl;have d24:((bs && !(!f||g12))&&g20)=true->(ev (aM 108))=aH Qa:=hd.2.1 rfl;have d14:ev (aM 98)=_:=hd.2.2.1 rfl;clear hd;refine⟨fun hgd=>?_,fun hgd=>⟨?_,cK (au _ _)⟩⟩
        .have hA:=gB.1 (d14.symm.trans hgd);have y20:ev (aM 104)=aH g20:=by rw[d20,if_pos hA]
         clear d20;rcases Bool.eq_false_or_eq_true g20 with hf|hf
         .have y24:=d24 (by rw[hA,hf];rfl);rw[hf] at y20;refine yv (v:=aH Qa) ?_ (fun _=>by rw[hf];simp);go_simp
         rw[hf] at y20;refine yv (v:=aH false) ?_ (fun _=>by rw[hf];simp);go_simp
        intro hc;exact absurd (d14.trans (gB.2 hc)) hgd
       .have d14:ev (aM 98)=_:=hd.1 rfl;have d25:(bs && !(!f||g12))=true->(ev (aM 109))=aH (g20&&Qa):=hd.2.1 rfl;have d4:ev (aM 88)=_:=hd.2.2.1 rfl;clear hd;refine⟨fun hgd=>?_,fun hgd=>⟨?_,cK (au _ _)⟩⟩
        .have hA:=gA.1 (d4.symm.trans hgd);have Kf:ev (aM 98)=aH (!f||g12):=by rw[d14,if_pos hA]
         clear d14;rcases Bool.eq_false_or_eq_true (!f||g12) with hf | hf
         .rw[hf] at Kf;refine yv (v:=aH true) ?_ (fun _=>by rw[hf];simp);go_simp
         have y25:=d25 (by rw[hA,hf];rfl);rw[hf] at Kf;refine yv (v:=aH (g20&&Qa)) ?_ (fun _=>by rw[hf];simp);go_simp
        intro hc;exact absurd (d4.trans (gA.2 hc)) hgd
       have d4:ev (aM 88)=_:=hd.1 rfl;have d26:bs=true->(ev (aM 110))=aH ((!f||g12)||(g20&&Qa)):=hd.2.1 rfl;clear hd;rcases Bool.eq_false_or_eq_true bs with hf|hf
       .have y26:=d26 hf;have y4:ev (aM 88)=aH true:=d4.trans (gA.2 hf);refine yv (v:=aH ((!f||g12)||(g20&&Qa))) ?_ (by show _=nC _;rw[hf];simp);go_simp
       have y4:ev (aM 88)=aH false:=d4.trans (by rw[hf]);refine yv (v:=aH false) ?_ (by show _=nC _;rw[hf];simp);go_simp
      case rfin=>
       intro a3 w3 hR;have hS:=hR.s;have e27:a3.tmps.getD 111 af=_:=hR.val 27 (by decide);have ha:=hR.lits 116 rfl;simp only[aU,cg,nD] at ha;rw[hR.kp 0 (by kernel_rfl),hR.kp 1 (by kernel_rfl),hR.kp 2 (by kernel_rfl),hR.kp 3 (by kernel_rfl),hR.kp 4 (by kernel_rfl),hR.kp 5 (by kernel_rfl),hR.kp 6 (by kernel_rfl),hR.kp 7 (by kernel_rfl),hR.kp 8 (by kernel_rfl),hR.kp 9 (by kernel_rfl),hR.kp 10 (by kernel_rfl),hR.kp 12 (by kernel_rfl),hR.kp 15 (by kernel_rfl),hR.kp 17 (by kernel_rfl),hR.kp 18 (by kernel_rfl),hR.kp 19 (by kernel_rfl),hR.kp 20 (by kernel_rfl),hR.kp 21 (by kernel_rfl),hR.kp 22 (by kernel_rfl),hR.kp 23 (by kernel_rfl),hR.kp 24 (by kernel_rfl),hR.kp 25 (by kernel_rfl),hR.kp 26 (by kernel_rfl),hR.kp 27 (by kernel_rfl),hR.kp 28 (by kernel_rfl),hR.kp 29 (by kernel_rfl),hR.kp 30 (by kernel_rfl),hR.kp 31 (by kernel_rfl),hR.kp 114 (by kernel_rfl),hR.kp 115 (by kernel_rfl)] at ha;simp only[kO,gp,gi] at ha;clear hR;rw[e27] at ha;generalize a3.tmps.getD=zz at ha;have pJ:=aj hS;clear e27 hS;subst ha;obtain⟨r,hr⟩:∃r,(bs&&((!f||g12)||(g20&&Qa)))=r:=⟨_,rfl⟩
       rw[hr] at Sx;rw[hr];clear hr;have ajk:=aj (HRL.out.below pJ.out);have ajj:=aj (HRC.out.below pJ.out);have HBf:=aj (xC.out.trans ((HQd.out.trans (pJ.out.mono HQd.out.size)).mono hsz));cases r
       .have hs:iU b all (bD pl) lm (M+1)=(lc,f):=by rw[Sx.out];rfl
        have HS:=aj hs;clear hs;go_wp2;go_roundw
        case rel=>
         refine⟨M+1,p4,c4,by omega,by simp,?_,?_,?_,HBf.out⟩
         .rw[HS.out]
         .rw[HS.out]
         rw[HS.out];exact ajk.out
        case measure=>simp[intOf];omega
       have hs:iU b all (bD pl) lm (M+1)=(C.map fun(i:Nat)=>(i:Int),true):=by rw[Sx.out];rfl
       have HS:=aj hs;clear hs;go_wp2;go_roundw
       case rel=>
        refine⟨M+1,p9,c9,by omega,by simp,?_,?_,?_,HBf.out⟩
        .rw[HS.out]
        .rw[HS.out];simp
        rw[HS.out];have:=ajj.out;simp only[fR] at this ⊢;exact this
       case measure=>simp[intOf];omega
   obtain rfl:N=M:=by omega
   have HN1:=aj en;have HR1:=aj hr4;clear en hr4;rw[HN0.out] at HR1;go_wp2
   go_ret3
   exact⟨ae p4 (iU b all (bD pl) lm N).1.length c4,by rw[<-HN0.out];rfl,by rw[<-HN0.out] at HR1 ⊢;exact HR1.out,FH.out.trans (HN1.out.mono FH.out.size)⟩
def aht(ml:List Mn)(i:Nat):Int:=match ml[i]? with|some m=>m.hi|none=>0
def most(b:BB)(ml:List Mn)(c:List Nat):Int:=b.lm+(c.map (aht ml)).sum
structure Cl9(b:BB)(ml:List Mn)(ss:List Int)(ms:List Mk)(L:List Int):Prop where
 alr:abo (ms.length:Int) L=0
 len:L.length<=3
 some:bw b ml ss ms≠[]->L=[]
 none:bw b ml ss ms=[]->L≠[]/\∃q,q<2 ^ ms.length/\L=uG ms.length q/\mI b ml ss ms q=true/\(∀m,m<2 ^ ms.length->mI b ml ss ms m=true->rC (uG ms.length m) L=false)/\
  ∀i,i<L.length->∃r,r<2 ^ ms.length/\L.eraseIdx i=uG ms.length r/\mI b ml ss ms r=false
structure Low(l:List Int):Prop where
 bd:∀x∈l,1<=x/\x<=8
 asc:l.Pairwise (· < ·)
theorem Ce:∀(l:List Int) (n k:Nat),(l.foldl (fun p s=>p ||| 2 ^ s.toNat) n).testBit k=(n.testBit k||l.any fun s=>decide (s.toNat=k))
 |[],n,k=>by simp
 |a::l,n,k=>by
  rw[List.foldl_cons,Ce l,Nat.testBit_or,Nat.testBit_two_pow];simp[List.any_cons,Bool.or_assoc]
theorem AL(l:List Int)(k:Nat):(bD l).testBit k=l.any fun s=>decide (s.toNat=k):=by
 unfold bD;rw[Ce];simp
theorem Nx{b:BB}(hb:b.Ok){l:List Int}(h:eU b l):Low l:=by
 have hm:=hb.minutes;refine⟨fun x hx=>by have:=h.mem x hx;omega,?_⟩;rw[List.pairwise_iff_getElem];intro i j hi hj Uk
 induction j with
 |zero=>omega
 |succ j ih=>
  have h1:=h.asc j hj;rcases Nat.lt_or_ge i j with e|e
  .have:=ih (by omega) e;omega
  obtain rfl:i=j:=by omega
  exact h1
theorem NN{b:BB}{l:List Int}(h:Low l)(hm:∀x∈l,x<=b.minutes)(hl:(l.length:Int)<=b.eh):eU b l:=
 ⟨fun p hp=>⟨(h.bd p hp).1,hm p hp⟩,fun k hk=>List.pairwise_iff_getElem.1 h.asc k (k+1) (by omega) hk (by omega),hl⟩
structure Goes(b:BB)(ss:List Int)(kW:Int)(xs:List Int):Prop where
 ok:eU b xs
 rest:∃r,xs=ss++r/\∀y∈r,kW<=y
structure Pl6(b:BB)(ss:List Int)(kW:Int)(l:List eN)(x y:List Int):Prop where
 gx:Goes b ss kW x
 gy:Goes b ss kW y
 sx:b.sure l (bD x)=true
 sy:b.sure l (bD y)=true
 len:x.length=y.length
 no:gW y x=false
 all:∀xs,Goes b ss kW xs->b.sure l (bD xs)=true->¬xs.length<x.length/\(xs.length=x.length->gW xs x=false/\gW y xs=false)
def oH(b:BB)(p m:Nat):Int:=(if p.testBit m then b.iL else 0)+if b.pl<=m/\m<=b.pm then b.ie else 0
theorem AB(b:BB)(used:Int)(p m:Nat)(n:Int):b.step used p m n=max 0 (min (n+oH b p m) b.holds-used):=by
 unfold BB.step oH;rw[Int.add_assoc]
theorem PE{b:BB}(h:b.Ok)(p m:Nat):0<=oH b p m:=by
 have h1:=h.iL;have h2:=h.ie;unfold oH;split<;>split<;>omega
theorem S4{b:BB}(h:b.Ok){used:Int}(hu:0<=used)(p m:Nat){rR:Int}(ha:0<=rR) :
  0<=b.step used p m rR/\b.step used p m rR<=max 0 (b.holds-used)/\b.step used p m rR<=max 0 (rR+oH b p m-used)/\(oH b p m=0->b.step used p m rR<=rR)/\(rR+oH b p m<=b.holds->b.step used p m rR=max 0 (rR+oH b p m-used)):=by
 have h1:=PE h p m;rw[AB];generalize oH b p m=x at *;generalize b.holds=y at *;refine⟨by omega,by omega,by omega,fun e=>by omega,fun e=>?_⟩
 congr 1
 omega
def jD(pl:List Int)(n:Int):List Int:=pl.filter fun x=>decide (x<=n)
theorem RN(pl:List Int)(hp:∀x∈pl,1<=x)(n:Int)(m:Nat)(hm:(m:Int)<=n):(bD (jD pl n)).testBit m=(bD pl).testBit m:=by
 rw[AL,AL,Bool.eq_iff_iff,qb,qb];unfold jD;constructor
 .rintro⟨s,h1,h2⟩;exact⟨s,(fQ.1 h1).1,h2⟩
 rintro⟨s,h1,h2⟩;have h3:s.toNat=m:=by simpa using h2
 have:=hp s h1;exact⟨s,fQ.2 ⟨h1,by simp;omega⟩,h2⟩
theorem Nd(b:BB)(n:Int):(jh b n).holds=b.holds:=by
 unfold jh;split<;>rfl
theorem Qz(b:BB)(pl:List Int)(hp:∀x∈pl,1<=x)(n:Int)(m:Nat)(hm:(m:Int)<=n)(h1:1<=m):oH (jh b n) (bD (jD pl n)) m=oH b (bD pl) m:=by
 unfold oH;rw[RN pl hp n m hm];have hc:(jh b n).iL=b.iL:=by unfold jh;split<;>rfl
 rw[hc]
 congr 1
 unfold jh
 by_cases h:b.pl>min b.pm n
 .rw[if_pos h];simp only[];have:¬(b.pl<=(m:Int)/\(m:Int)<=b.pm):=by omega
  rw[if_neg this];split<;>rfl
 rw[if_neg h];simp only[]
 by_cases h2:b.pl<=(m:Int)/\(m:Int)<=b.pm
 .rw[if_pos h2,if_pos (by omega)]
 rw[if_neg h2,if_neg (by omega)]
theorem Ku(b:BB)(pl:List Int)(hp:∀x∈pl,1<=x)(n used:Int):∀m:Nat,(m:Int)<=n->(jh b n).rR used (bD (jD pl n)) m=b.rR used (bD pl) m
 |0,_=>by
  show(jh b n).room=b.room;unfold jh;split<;>rfl
 |m+1,h=>by
  show(jh b n).step used _ (m+1) _=b.step used _ (m+1) _;rw[Ku b pl hp n used m (by omega),AB,AB,Nd,Qz b pl hp n (m+1) h (by omega)]
theorem Qy(b:BB)(pl:List Int)(hp:∀x∈pl,1<=x)(n:Nat)(used:Int)(k:Nat)(hk:n<=k):(jh b n).jL used (bD (jD pl n)) n=(b.jL used (bD pl) k).take n:=by
 refine List.ext_getElem (by simp[BB.jL];omega) fun i h1 h2=>?_;simp only[BB.jL,List.getElem_map,List.getElem_range,List.getElem_take];have h3:i<n:=by simpa [BB.jL] using h1
 exact Ku b pl hp n used (i+1) (by omega)
theorem Wn{b:BB}(h:b.Ok){n:Int}(h1:1<=n)(h2:n<=b.minutes):(jh b n).Ok:=by
 have hm:=h.minutes;have hp:=h.IU;unfold jh;split
 .exact⟨h.room,h.depth,h.least,by show 1<=n/\n<=8;omega,h.cD,h.iL,h.eh,by show(0:Int)<=0/\(0:Int)<=99;decide,h.leak,by show(1:Int)<=1/\(1:Int)<=1/\1<=n;omega⟩
 exact⟨h.room,h.depth,h.least,by show 1<=n/\n<=8;omega,h.cD,h.iL,h.eh,h.ie,h.leak,by show 1<=b.pl/\b.pl<=min b.pm n/\min b.pm n<=n;omega⟩
theorem UQ{b:BB}(h:b.Ok){pl:List Int}(hp:eU b pl)(n:Int):eU (jh b n) (jD pl n):=by
 have hl:=Nx h hp;have Rt:Low (jD pl n):=⟨fun x hx=>hl.bd x (fQ.1 hx).1,hl.asc.filter _⟩
 have hmi:(jh b n).minutes=n:=by unfold jh;split<;>rfl
 have hc:(jh b n).eh=b.eh:=by unfold jh;split<;>rfl
 refine NN Rt (fun x hx=>?_) ?_
 .rw[hmi];simpa using (fQ.1 hx).2
 rw[hc];have h1:(jD pl n).length<=pl.length:=List.length_filter_le _ _;have:=hp.len;omega
theorem Ez(a b:Int)(w:ar):(Builtin.max_ #[3,3] 3 #[ah ag a,ah ag b]).run aq w=.ok (ah ag (max a b)) w:=by
 go_simp
theorem QA{p:Option Addr}{n c:Nat}(h:(p=none/\n=0/\c=0)\/∃g off,p=some ⟨g,off,none⟩/\n<=c)(m:Nat)(hm:m<=n)(w:ar):(Instr.sliceAt 25 (ae p n c) none (some (ah ag (m:Int))) none).run aq w=.ok (ae p m c) w:=by
 rcases h with⟨rfl,rfl,rfl⟩|⟨g,off,rfl,hc⟩
 .obtain rfl:m=0:=by omega
  go_simp
 have h1:(m:Int)<=(c:Int):=by omega
 have h2:(0:Int)<=(m:Int):=by omega
 go_simp
structure xD(w:ar)(os:List Obj)(w':ar):Prop where
 at_:∀i o,os[i]?=some o->w'.heap[w.heap.size+i]?=some o
 below:az w.heap.size w w'
 size:w.heap.size+os.length<=w'.heap.size
theorem xD.nil(w:ar):xD w [] w:=⟨by simp,au _ _,by simp⟩
theorem xD.alloc{w w':ar}{os:List Obj}(h:xD w os w')(hs:w'.heap.size=w.heap.size+os.length)(o:Obj):xD w (os++[o]) (w'.alloc o):=by
 refine⟨fun i p hi=>?_,h.below.alloc (by omega) o,by simp;omega⟩;rcases Nat.lt_trichotomy i os.length with h1|h1|h1
 .rw[List.getElem?_append_left h1] at hi;exact(aX _ _ _ (by omega)).trans (h.at_ i p hi)
 .subst h1;simp at hi;subst hi;rw[<-hs];exact ay w' _
 rw[List.getElem?_eq_none (by simp;omega)] at hi;cases hi
theorem xD.next{w w1 w2:ar}{os:List Obj}(h:xD w os w1)(hb:az w1.heap.size w1 w2):xD w os w2:=by
 have hs:=h.size;refine⟨fun i p hi=>(hb.block _ ?_).trans (h.at_ i p hi),h.below.trans (hb.mono (by omega)),aO hs hb.size⟩;have:=(List.getElem?_eq_some_iff.1 hi).1;omega
theorem abu(w:ar)(A B C D:Obj):xD w [A,B,C,D] ((((w.alloc A).alloc B).alloc C).alloc D):=
 ((((xD.nil w).alloc (by simp) A).alloc (by simp) B).alloc (by simp) C).alloc (by simp) D
theorem OB{zs:List Int}(h:zs≠[]):Lib.compact zs≠[]:=by
 intro hc;unfold Lib.compact Lib.compactUpTo at hc;have h1:=List.map_eq_nil_iff.1 hc;have h2:(0:Nat)∈(aU zs.length).filter (Lib.keeps zs.toArray):=fQ.2 ⟨List.mem_range.2 (dm.2 h),Lib.keeps_lt_one _ 0 (by omega)⟩;rw[h1] at h2;cases h2
theorem abP(b:BB)(bq aK aA:ak)(ml:List Mn)(ss:List Int)(ms:List Mk)(w:ar)(hL:Laid w)(hB:cU b bq aK aA ml ss ms w)(hne:bw b ml ss ms≠[])(pl:List Int)(hp:eU b pl)(mi:Nat)(h1:1<=mi)(h2:(mi:Int)<=b.minutes)
  (lv:ak) (hl:Reads w lv pl.length (pl.map (aB ag))) :
  bu aq 60 #[aR (b.cells bq aK aA),lv,ah ag mi] w fun e w'=>∃x y r,gX (fun a=>b.rR (b.cD+a.used) (bD pl) mi) (bw b ml ss ms)=x::r/\(x::r).getLast?=some y/\e=aF (cO #[aR #[ah ag x,ah ag y],ah ag 0])/\az w.heap.size w w':=by
 have hlen:=jE ss ms hB.ok hB.gZ;have kC:0<(bw b ml ss ms).length:=dm.2 hne;have cY:=hB.ok;have hao:=nZ (ss:=ss) (ms:=ms) hB.ok hB.gZ;obtain⟨pm,cm,rfl,_⟩:=aW hB.rm;obtain⟨pn,cn,rfl,_⟩:=aW hB.rs;obtain⟨pk,ck,rfl,_⟩:=aW hB.rk;obtain⟨qy,qL,rfl,_⟩:=aW hl;have ht:=abu w (aw (b.cells (ae pm ml.length cm) (ae pn ss.length cn) (ae pk ms.length ck)) 28) (aw #[ae qy pl.length qL] 25) (aw #[ah ag mi] 3) (aw #[ah ag 0,ah ag 0] 23)
 have hop:=Tx b (ae pm ml.length cm) (ae pn ss.length cn) (ae pk ms.length ck) ml ss ms _ (hL.below ht.below) (hB.below ht.below) hne (w.heap.size+1) (w.heap.size+2) (fun W hb=>by
  have hw:=hb
  exact Vl b cY _ _ _ pl hp mi h1 h2 _ _ _ W ((hb.block (w.heap.size+1) (by simp)).trans (ht.at_ 1 _ rfl)) ((hb.block (w.heap.size+2) (by simp)).trans (ht.at_ 2 _ rfl)) ((hl.below ht.below).below hb))
 have HO:=aj hop;have HT:=aj ht;have HRl:=aj hl;have Sz:=aj hao;clear hop ht hL hB hl hao;generalize hall:bw b ml ss ms=all at *;clear hall;generalize ml.length=lm at *;generalize ss.length=ln at *;generalize ms.length=lk at *;obtain⟨of,hof⟩:∃of:eN->Int,(fun a=>b.rR (b.cD+a.used) (bD pl) mi)=of:=⟨_,rfl⟩
 rw[hof];have HOf:=aj hof;clear hof
 go_enter Tryz.func60,Tryz.ntmps60
 go_wp2_with (first
  |(go_at_call 103;refine HO.out.mono ?_;clear HO;rintro e w1 ⟨v,rfl,jn,hb1⟩
    have sw:=HT.out.next hb1
    obtain⟨gv,cv,rfl⟩:∃gv cv,v=ae (some ⟨gv,0,none⟩) all.length cv:=by
     rcases jn.1.2 with⟨_,h0⟩|⟨g,cap,cur,rfl,_⟩
     .omega
     exact⟨g,cap,rfl⟩
    have oX:=aj sw;have Vu:Hid (Reads (w1.alloc (aw (b.open (ae pm lm cm) (ae pn ln cn) (ae pk lk ck) (ae (some ⟨gv,0,none⟩) all.length cv)) 122)) (ae (some ⟨gv,0,none⟩) all.length cv) all.length (rowOf all)):=aj ((jn.reads (by omega)).below ((au _ _).alloc (ax _) _))
    have HNu:=aj (KY b (ae pm lm cm) (ae pn ln cn) (ae pk lk ck) all hne (by omega) of w1.heap.size (w.heap.size+1) (w.heap.size+2) _ _ Vu.out (fun a ha W hb=>by
     have q:=(oX.out.next ((au _ _).alloc (ax _) (aw (b.open (ae pm lm cm) (ae pn ln cn) (ae pk lk ck) (ae (some ⟨gv,0,none⟩) all.length cv)) 122))).next hb
     have q1:=(hb.block w1.heap.size (by simp)).trans (ay w1 _);rw[<-HOf.out]
     exact Vk b cY _ _ _ _ pl hp mi h1 h2 a (Sz.out a ha) _ _ _ _ W q1 (q.at_ 1 _ rfl) (q.at_ 2 _ rfl) (HRl.out.below q.below)))
    clear sw jn hb1)
  |(go_at_call 124;refine HNu.out.mono ?_;rintro e w2 ⟨gn,cgn,rfl,ho2,hb2⟩;have HO2:=aj ho2;have px:=aj hb2;clear ho2 hb2))
 have hq:=(oX.out.next ((au _ _).alloc (ax _) (aw (b.open (ae pm lm cm) (ae pn ln cn) (ae pk lk ck) (ae (some ⟨gv,0,none⟩) all.length cv)) 122))).next px.out
 have MV:gX of all≠[]:=by
  have h1:sorted (all.map of)≠[]:=by
   intro h;have h2:(sorted (all.map of)).length=(all.map of).length:=xE _;rw[h] at h2;simp at h2;exact hne (List.eq_nil_of_length_eq_zero h2.symm)
  exact OB h1
 have hnl:(gX of all).length<=1000:=by
  have h1:=Lib.compact_length_le (sorted (all.map of));have h2:(sorted (all.map of)).length=all.length:=(xE _).trans (fR _);unfold gX;omega
 obtain⟨x,r,hxr⟩:∃x r,gX of all=x::r:=by
  cases h:gX of all with
  |nil=>exact(MV h).elim
  |cons x r=>exact⟨x,r,rfl⟩
 have hN:∃N,(gX of all).length=N:=⟨_,rfl⟩
 obtain⟨N,hN⟩:=hN;have hN1:1<=N:=by rw[<-hN,hxr];simp
 obtain⟨y,hy⟩:∃y,(gX of all)[N-1]?=some y:=⟨_,fK (by omega)⟩
 obtain⟨cur,hgb,Cq,hc0,hcl⟩:∃cur:Array ak,w2.heap[gn]?=some (aw cur 3 (0,0))/\w1.heap.size+1<=gn/\cur[0]?=some (ah ag x)/\cur[N-1]?=some (ah ag y):=by
  rcases HO2.out.2 with⟨h0,_⟩|⟨g',cap',cur,h0,hb0,h1,h2,h3,h4,h5⟩
  .cases h0
  cases h0;rw[Nat.mul_one,hN] at h5
  have hz:∀(j:Nat) (u:Int),(gX of all)[j]?=some u->cur[j]?=some (ah ag u):=fun j u hj=>by
   have h6:(cur.toList.take N)[j]?=some (aB ag u):=by rw[h5,List.getElem?_map,hj];rfl
   rw[List.getElem?_take] at h6;split at h6
   .simpa using h6
   cases h6
  refine⟨cur,h1,by simpa using hb0,hz 0 x (by rw[hxr];rfl),hz _ _ hy⟩
 have agU:=oX.out.size;simp at agU;have hwr:IntKind.i64.wrap ((N:Int)-1)=((N-1:Nat):Int):=by rw[fE _ (by omega) (by omega)];omega
 have i1:((N-1:Nat):Int)<(N:Int):=by omega
 have i2:(0:Int)<=((N-1:Nat):Int):=by omega
 have i3:(0:Int)<(N:Int):=by omega
 have hgB:gn≠w.heap.size+1+1+1:=by omega
 have HXR:=aj hxr;have HY:=aj hy;have HNN:=aj hN;rw[hN];clear hxr hy MV hnl hN Vu HNu HO2 HRl Sz HT
 refine bY (by kernel_rfl) [
 pV (ae (some ⟨gn,0,none⟩) N cgn),
  pV (pv gn 0),
  pV (ah ag x),
  pV (ae (some ⟨gn,0,none⟩) N cgn),
  pV (ae (some ⟨gn,0,none⟩) N cgn),
  pV (ah ag N),
  pV (ah ag ((N-1:Nat):Int)),
  pV (pv gn (N-1)),
  pV (ah ag y),
  pV (aR #[ah ag x,ah ag y]),
  fun v ds w9=>w9.heap[w.heap.size+1+1+1]?=some (aw #[ah ag x,ah ag y] 23 (0,0)),
  pV (ah ag 0)]
  (fun w9=>w9.heap[gn]?=some (aw cur 3 (0,0))/\(∃z1 z2,w9.heap[w.heap.size+1+1+1]?=some (aw #[z1,z2] 23 (0,0)))/\az w.heap.size w w9) [(10,ae (some ⟨gn,0,none⟩) N cgn),(6,pv (w.heap.size+1+1+1) 0)] (by kernel_rfl) ?rst (fun w1 w2 h hb=>⟨(hb.block _ (ai.1 h.1).1).trans h.1,h.2.1.imp fun z1 h1=>h1.imp fun z2 h2=>(hb.block _ (ai.1 h2).1).trans h2,h.2.2.trans (hb.mono h.2.2.size)⟩) (⟨hgb,⟨_,_,hq.at_ 3 _ rfl⟩,hq.below.drew⟩) ⟨rfl,rfl,trivial⟩ ?reach ?rfin
 case rst=>
  refine⟨sV,sV,sV,sV,sV,sV,sV,sV,sV,sV,?_,sV,trivial⟩;rintro v ds w1 w2 hS h hb;exact(hb.block _ (ai.1 h).1).trans h
 case reach=>
  refine⟨?_,?_,?_,?_,?_,?_,?_,?_,?_,?_,?_,?_,trivial⟩<;>rintro ev w1 hS hc hg hf ⟨Ss,b6,-⟩ hd
  .clear hd;exact tV
  .have d0:ev (aM 24)=_:=hd.1 rfl;clear hd;refine yv ?_ rfl;go_simp;intro hx;exfalso;omega
  .have d1:ev (aM 25)=_:=hd.1 rfl;clear hd;have z:=aJ hS.1 0 _ hc0;exact tV
  .clear hd;exact tV
  .clear hd;exact tV
  .have d4:ev (aM 28)=_:=hd.1 rfl;clear hd;exact tV
  .have d5:ev (aM 29)=_:=hd.1 rfl;clear hd;exact tV
  .have d3:ev (aM 27)=_:=hd.1 rfl;have d6:ev (aM 30)=_:=hd.2.1 rfl;clear hd;exact tV
  .have d7:ev (aM 31)=_:=hd.1 rfl;clear hd;have z:=aJ hS.1 _ _ hcl;exact tV
  .have d2:ev (aM 26)=_:=hd.1 rfl;have d8:ev (aM 32)=_:=hd.2.1 rfl;clear hd;exact tV
  .have d9:ev (aM 33)=_:=hd.1 rfl;clear hd;obtain⟨hg1,⟨z1,z2,hz⟩,uS⟩:=hS;have c0:=aJ hz 0 _ rfl;have c1:=aJ hz 1 _ rfl;have f0:=dg hz 0;have f1:=dg hz 1;refine Lag.Yields.skip (w':=(w1.setCell ⟨w.heap.size+1+1+1,0,none⟩ (ah ag x)).setCell ⟨w.heap.size+1+1+1,1,none⟩ (ah ag y)) ?_ ⟨dh _ (dh _ hz),.inr ⟨⟨(bt _ _ _ _ hgB).trans ((bt _ _ _ _ hgB).trans hg1),⟨_,_,dh _ (dh _ hz)⟩,(uS.setCell (p:=⟨_,0,none⟩) (by show _<=w.heap.size+1+1+1;omega) _).setCell (p:=⟨_,1,none⟩) (by show _<=w.heap.size+1+1+1;omega) _⟩,?_⟩⟩
   .go_simp
   .intro j u ds hj hp
    match j,hp with
    |0,hp=>exact hp
    |1,hp=>exact hp
    |2,hp=>exact hp
    |3,hp=>exact hp
    |4,hp=>exact hp
    |5,hp=>exact hp
    |6,hp=>exact hp
    |7,hp=>exact hp
    |8,hp=>exact hp
    |9,hp=>exact hp
    |10,_=>exact(hj rfl).elim
    |11,hp=>exact hp
    |j+12,_=>trivial
  clear hd;exact tV
 case rfin=>
  intro a2 w2 hR;have hS:=hR.s;have JI:w2.heap[w.heap.size+1+1+1]?=some (aw #[ah ag x,ah ag y] 23 (0,0)):=hR.val 10 (by decide);have e11:a2.tmps.getD 7 af=_:=hR.val 11 (by decide);have k6:a2.tmps.getD 6 af=pv (w.heap.size+1+1+1) 0:=hR.kept (by kernel_rfl);have ha:=hR.lits 34 rfl;simp only[aU,cg,nD] at ha;clear hR;rw[e11,k6] at ha;clear e11;generalize a2.tmps.getD=zz at ha;have HE:=aj JI;have HF:=aj hS.2.2;clear JI hS k6;subst ha;go_wp2;refine bodyPost_ret (results_cell_tmp (g:=w.heap.size+1+1+1) rfl rfl (run_loadVar_row _ _ 23 23 _ (0,0) _ HE.out Tryz.underlying23 rfl (by kernel_rfl))) rfl ⟨x,y,r,HXR.out,?_,rfl,HF.out⟩;rw[<-HXR.out,List.getLast?_eq_getElem?,HNN.out];exact HY.out
end Go.Proofs.YtffladgmkiimjaaGreatDoor
namespace Go.Proofs.YtffladgmkiimjaaGreatDoor
open Go.RowKit Go.Lag
open Go.Conc
theorem UU:ex.Ok:=⟨by decide,by decide,by decide,by decide,by decide,by decide,by decide,by decide,by decide,by decide⟩
theorem P5:CQ jX:=by
 refine⟨fun m h=>?_,fun i k hi hk hik=>?_,by decide⟩
 .simp only[jX,cy,List.not_mem_nil,or_false] at h;rcases h with rfl|rfl
  .refine⟨⟨by decide,fun k h=>?_⟩,by decide⟩;have h3:k<3:=h
   match k,h3 with
   |0,_=>exact cK (show 97<=97/\97<=122 from by decide)
   |1,_=>exact cK (show 97<=110/\110<=122 from by decide)
   |2,_=>exact cK (show 97<=110/\110<=122 from by decide)
  .refine⟨⟨by decide,fun k h=>?_⟩,by decide⟩;have h3:k<2:=h
   match k,h3 with
   |0,_=>exact cK (show 97<=98/\98<=122 from by decide)
   |1,_=>exact cK (show 97<=111/\111<=122 from by decide)
 have h2:k<2:=hk;obtain⟨rfl,rfl⟩:i=0/\k=1:=by omega
 show(⟨#[97,110,110]⟩:ByteArray)≠⟨#[98,111]⟩;decide
def rW:Mk:=⟨1,11,11⟩
def ZK:Mk:=⟨1,12,12⟩
theorem ZL:lr ex [rW]:=⟨by decide,by decide⟩
theorem Xa:lr ex [rW,ZK]:=⟨by decide,by decide⟩
theorem P6:bw ex jX [] []=[⟨0,3,4,0⟩,⟨0,4,4,0⟩,⟨1,3,4,0⟩,⟨1,4,4,0⟩]:=by decide+kernel
theorem L8:bw ex jX [] [rW]=[⟨0,4,4,0⟩,⟨1,3,4,0⟩,⟨1,4,4,0⟩]:=by decide+kernel
theorem U1:bw (ex.lk 0 0) jX [] [rW]=[⟨0,4,4,0⟩]:=by decide+kernel
theorem L6:bw ex jX [] []≠[]:=by rw[P6];simp
theorem UW:bw ex jX [] [rW]≠[]:=by rw[L8];simp
theorem Y4:bw (ex.lk 0 0) jX [] [rW]≠[]:=by rw[U1];simp
theorem IW{b:BB}{pl:List Int}(h:(pl.all fun p=>decide (1<=p/\p<=b.minutes))=true)(ha:∀(k:Nat) (h:k+1<pl.length),pl[k]<pl[k+1])(hl:(pl.length:Int)<=b.eh):eU b pl:=
 ⟨fun p hp=>by have:=a7.1 h p hp;simpa using this,ha,hl⟩
theorem Nz:eU ex [1,3]:=IW (by decide) (fun k h=>by have h2:k+1<2:=h;obtain rfl:k=0:=(by omega);simp) (by decide)
theorem Zt:eU ex [1,2]:=IW (by decide) (fun k h=>by have h2:k+1<2:=h;obtain rfl:k=0:=(by omega);simp) (by decide)
theorem Ys:eU ex [1]:=IW (by decide) (fun k h=>by have h2:k+1<1:=h;omega) (by decide)
theorem Tl(b:BB)(h:b.Ok):eU b []:=⟨by simp,fun k h=>by simp at h,by have:=h.eh;simpa using this.1⟩
theorem AG{zs ys:List Int}(hp:zs.Perm ys)(hs:ys.Pairwise (·<=·)):sorted zs=ys:=by
 have h1:(sorted zs).Pairwise (fun a b=>(decide (a<=b))=true):=List.pairwise_mergeSort (fun a b c h1 h2=>by simp at *;omega) (fun a b=>by simp;omega) zs;exact List.Perm.eq_of_pairwise (le:=fun a b=>a<=b) (fun a b _ _ h1 h2=>by omega) (h1.imp fun h=>by simpa using h) hs ((List.mergeSort_perm zs _).trans hp)
theorem vU(lt:Nat->Nat->Bool)(p:Nat):∀(r:List Nat) (x:Nat),p∈x::r->(∀y∈x::r,(y==p||(lt p y && !lt y p))=true)->jK lt x r=p
 |[],x,hm,_=>(List.mem_singleton.1 hm).symm
 |y::r,x,hm,h=>by
  show jK lt (if lt y x=true then y else x) r=p;have hx:=h x (by simp);have hy:=h y (by simp);have hr:∀z∈r,(z==p||(lt p z && !lt z p))=true:=fun z hz=>h z (by simp[hz])
  by_cases e1:x=p
  .subst e1
   have:(if lt y x=true then y else x)=x:=by
    by_cases hl:lt y x=true
    .simp[hl] at hy;rw[if_pos hl];exact hy
    rw[if_neg hl]
   rw[this]
   exact vU lt x r x (by simp) fun z hz=>by
    rcases cy.1 hz with rfl|hz
    .simp
    exact hr z hz
  by_cases e2:y=p
  .subst e2
   have hx':lt y x=true:=by
    rw[Bool.or_eq_true,Bool.and_eq_true] at hx;rcases hx with hx|hx
    .exact absurd (by simpa using hx) e1
    exact hx.1
   rw[if_pos hx']
   exact vU lt y r y (by simp) fun z hz=>by
    rcases cy.1 hz with rfl|hz
    .simp
    exact hr z hz
  have hp:p∈r:=by
   rcases cy.1 hm with h1|h1
   .exact absurd h1.symm e1
   rcases cy.1 h1 with h2|h2
   .exact absurd h2.symm e2
   exact h2
  refine vU lt p r _ (by simp[hp]) fun z hz=>?_;rcases cy.1 hz with rfl|hz
  .by_cases hl:lt y x=true
   .rw[if_pos hl];exact hy
   rw[if_neg hl];exact hx
  exact hr z hz
theorem CA:j0 ex (dx [] []).toNat (bD []) (bw ex jX [] []) 512=[10,12,18,20]:=by decide+kernel
section
variable{w:ar}{m s k:ak}
theorem XP(hL:Laid w)(hB:cU ex m s k jX [] [] w):bu aq 33 #[aR (ex.cells m s k)] w fun e w'=>e=aF (cO #[ah ag 60,ah ag 0])/\az w.heap.size w w':=MP ex m s k jX [] [] w hL hB
theorem aeM(hL:Laid w)(hB:cU ex m s k jX [] [] w):bu aq 65 #[aR (ex.cells m s k),ah ag 37] w fun e w'=>e=aF (cO #[ah ag 18,ah ag 0])/\az w.heap.size w w':=abL ex m s k jX [] [] w hL hB 37 (by decide)
theorem iZ{q:Nat}{l:List Int}{t:TypeId}(h:w.heap[q]?=some (aw ((l.map (aB ag)).toArray) t (0,0)))(hl:l.length<=100):Reads w (ae (some ⟨q,0,none⟩) l.length l.length) l.length (l.map (aB ag)):=
 .inr ⟨q,0,l.length,rfl,by omega,(ai.1 h).1,fun j u hj=>by rw[di];exact aJ h j u (by simpa using hj)⟩
theorem abd(hL:Laid w)(hB:cU ex m s k jX [] [] w)(q q2:Nat)(h1:w.heap[q]?=some (aw #[ah ag 3,ah ag 4] 3 (0,0)))(h2:w.heap[q2]?=some (aw #[ah ag 1] 3 (0,0))) :
  bu aq 32 #[aR (ex.cells m s k),aR #[ah ag 0,ae (some ⟨q,0,none⟩) 2 2],ae (some ⟨q2,0,none⟩) 1 1] w fun e w'=>∃v,e=aF (cO #[v,ah ag 0])/\Reads w' v 5 ([44,38,29,20,11].map (aB ag))/\az w.heap.size w w':=by
 have h:=Yc ex m s k jX [] [] w hL hB 0 (by decide) [3,4] (by decide) rfl q 0 2 (ai.1 h1).1 (by decide) (fun j u hj=>by rw[di];exact aJ h1 j u (by simpa using hj)) [1] Ys _ (iZ (l:=[1]) h2 (by decide));have e:ex.jL (ex.cD+(kj 0 [3,4]).used) (bD [1]) ex.minutes.toNat=[44,38,29,20,11]:=by decide+kernel
 rw[e] at h;exact h
theorem U0(hL:Laid w)(hB:cU ex m s k jX [] [] w):bu aq 42 #[aR (ex.cells m s k)] w fun e w'=>e=aF (cO #[ah ag 4,ah ag 0])/\az w.heap.size w w':=by
 have h:=MU ex m s k jX [] [] w hL hB;rw[P6] at h;exact h
theorem aeP(hL:Laid w)(hB:cU ex m s k jX [] [] w)(q:Nat)(h1:w.heap[q]?=some (aw #[ah ag 1,ah ag 3] 3 (0,0))) :
  bu aq 60 #[aR (ex.cells m s k),ae (some ⟨q,0,none⟩) 2 2,ah ag 5] w fun e w'=>e=aF (cO #[aR #[ah ag 21,ah ag 31],ah ag 0])/\az w.heap.size w w':=by
 have h:=abP ex m s k jX [] [] w hL hB L6 [1,3] Nz 5 (by decide) (by decide) _ (iZ (l:=[1,3]) h1 (by decide));refine h.mono ?_;rintro e w' ⟨x,y,r,hn,hy,rfl,hb⟩
 have e1:gX (fun a=>ex.rR (ex.cD+a.used) (bD [1,3]) 5) (bw ex jX [] [])=[21,26,31]:=by
  unfold gX;rw[AG (ys:=[21,26,26,31]) (by decide+kernel) (by decide)];decide+kernel
 rw[e1] at hn;cases hn;cases hy;exact⟨rfl,hb⟩
theorem abf(hL:Laid w)(hB:cU ex m s k jX [] [] w)(q:Nat)(h1:w.heap[q]?=some (aw #[ah ag 1,ah ag 3] 3 (0,0))) :
  bu aq 44 #[aR (ex.cells m s k),ae (some ⟨q,0,none⟩) 2 2] w fun e w'=>e=aF (cO #[ah ag 1,ah ag 0])/\az w.heap.size w w':=by
 have h:=Qm ex m s k jX [] [] w hL hB L6 [1,3] Nz _ (iZ (l:=[1,3]) h1 (by decide));have e:pQ (LL ex (bw ex jX [] []) (bD [1,3])) (bw ex jX [] []).length=1:=by decide+kernel
 rw[e] at h;exact h
theorem XQ(hL:Laid w)(hB:cU ex m s k jX [] [] w)(q:Nat)(h1:w.heap[q]?=some (aw #[ah ag 1,ah ag 2] 3 (0,0))) :
  bu aq 44 #[aR (ex.cells m s k),ae (some ⟨q,0,none⟩) 2 2] w fun e w'=>e=aF (cO #[ah ag 0,ah ag 0])/\az w.heap.size w w':=by
 have h:=Qm ex m s k jX [] [] w hL hB L6 [1,2] Zt _ (iZ (l:=[1,2]) h1 (by decide));have e:pQ (LL ex (bw ex jX [] []) (bD [1,2])) (bw ex jX [] []).length=0:=by decide+kernel
 rw[e] at h;exact h
theorem aeN(hL:Laid w)(hB:cU ex m s k jX [] [] w) :
  bu aq 63 #[aR (ex.cells m s k),ae none 0 0] w fun e w'=>e=aF (cO #[ah ag 2,aH true,ah ag 0])/\az w.heap.size w w':=by
 have h:=abM ex m s k jX [] [] w hL hB L6 [] (Tl _ UU) (ae none 0 0) (cK ⟨rfl,rfl,rfl⟩);have e:uK ex (bw ex jX [] []) (bD [])=(2,true):=by decide+kernel
 rw[e] at h;exact h
theorem UZ(hL:Laid w)(hB:cU ex m s k jX [] [] w)(p1:Plain w m)(p2:Plain w s)(p3:Plain w k) :
  jW aq 20 #[aR (ex.cells m s k)] w fun v w'=>∃lv:ak,v=cO #[lv,aH true,ah ag 0]/\Reads w' lv 2 ([1,3].map (aB ag))/\Old w w':=by
 have h:=UR hL hB p1 p2 p3 L6 (by rw[CA];simp) (by rw[CA];decide) 10 (fun x r hp=>vU sZ 10 r x (hp.mem_iff.2 (by rw[CA];decide)) fun y hy=>by
  have:=hp.mem_iff.1 hy;rw[CA] at this;have h2:([10,12,18,20].all fun y=>y==10||(sZ 10 y && !sZ y 10))=true:=by decide+kernel
  exact a7.1 h2 y this)
 have e:gV 10=[1,3]:=by decide+kernel
 unfold Qf at h;rw[e] at h;exact h
theorem UY(hL:Laid w)(hB:cU ex m s k jX [] [] w)(p1:Plain w m)(p2:Plain w s)(p3:Plain w k) :
  jW aq 23 #[aR (ex.cells m s k)] w fun v w'=>∃lv:ak,v=cO #[lv,aH true,ah ag 0]/\Reads w' lv 2 ([2,4].map (aB ag))/\Old w w':=by
 have h:=TW hL hB p1 p2 p3 L6 (by rw[CA];simp) (by rw[CA];decide) 20 (fun x r hp=>vU sY 20 r x (hp.mem_iff.2 (by rw[CA];decide)) fun y hy=>by
  have:=hp.mem_iff.1 hy;rw[CA] at this;have h2:([10,12,18,20].all fun y=>y==20||(sY 20 y && !sY y 20))=true:=by decide+kernel
  exact a7.1 h2 y this)
 have e:gV 20=[2,4]:=by decide+kernel
 unfold Qf at h;rw[e] at h;exact h
theorem RQ(hL:Laid w)(hB:cU ex m s k jX [] [] w)(q:Nat)(h1:w.heap[q]?=some (aw #[ah ag 1,ah ag 3] 3 (0,0))) :
  bu aq 25 #[aR (ex.cells m s k),ae (some ⟨q,0,none⟩) 2 2] w fun e w'=>e=aF (cO #[ah ag 44,aH true,ah ag 0])/\az w.heap.size w w':=by
 have h:=O6 ex m s k jX [] [] w hL hB L6 [1,3] Nz _ (iZ (l:=[1,3]) h1 (by decide));have e:oM ex (bw ex jX [] []) (bD [1,3]) 100=some 44:=by decide+kernel
 rw[e] at h;exact h
theorem abg(hL:Laid w)(hB:cU ex m s k jX [] [] w)(q:Nat)(h1:w.heap[q]?=some (aw #[ah ag 1] 3 (0,0))) :
  bu aq 27 #[aR (ex.cells m s k),ae (some ⟨q,0,none⟩) 1 1] w fun e w'=>∃v,e=aF (cO #[v,aH true,ah ag 0])/\Reads w' v 1 ([0].map (aB ag))/\az w.heap.size w w':=by
 have h:=Yl ex m s k jX [] [] w hL hB L6 [1] Ys _ (iZ (l:=[1]) h1 (by decide));have e:iU ex (bw ex jX [] []) (bD [1]) jX.length (2 ^ jX.length)=([0],true):=by decide+kernel
 rw[e] at h;exact h
theorem abe(hL:Laid w)(hB:cU ex m s (ae none 0 0) jX [] [] w) :
  bu aq 75 #[aR (ex.cells m s (ae none 0 0)),aR #[ah ag 1,ah ag 11,ah ag 11]] w fun e w'=>∃m' s' k',e=aF (cO #[aR (ex.cells m' s' k'),ah ag 0])/\fM ex m' s' k' jX [] [rW] w'/\az w.heap.size w w':=Yd ex m s jX [] w hL hB rW ZL UW
theorem RR(hL:Laid w)(hB:cU ex m s k jX [] [rW] w):bu aq 42 #[aR (ex.cells m s k)] w fun e w'=>e=aF (cO #[ah ag 3,ah ag 0])/\az w.heap.size w w':=by
 have h:=MU ex m s k jX [] [rW] w hL hB;rw[L8] at h;exact h
theorem RS(hL:Laid w)(hB:cU ex m s k jX [] [rW] w) :
  bu aq 58 #[aR (ex.cells m s k),ah ag 0] w fun e w'=>∃v,e=aF (cO #[v,ah ag 0])/\Reads w' v 2 ([3,4].map (aB ag))/\az w.heap.size w w':=by
 have h:=FM ex m s k jX [] [rW] w hL hB UW 0 (by decide)
 have e:gX (fun a=>a.get 0) (bw ex jX [] [rW])=[3,4]:=by
  unfold gX;rw[AG (ys:=[3,4,4]) (by decide+kernel) (by decide)];decide+kernel
 rw[e] at h;exact h
theorem aeO(hL:Laid w)(hB:cU ex m s k jX [] [rW] w):bu aq 53 #[aR (ex.cells m s k)] w fun e w'=>e=aF (cO #[ah ag 0,ah ag 2,ah ag 0])/\az w.heap.size w w':=by
 have h:=abN ex m s k jX [] [rW] w hL hB UW;have e:rQ (bw ex jX [] [rW]) jX.length=(0,2):=by decide+kernel
 rw[e] at h;exact h
theorem XS(hL:Laid w)(hB:cU ex m s k jX [] [rW] w) :
  bu aq 80 #[aR (ex.cells m s k),aR #[ah ag 0,ah ag 0]] w fun e w'=>∃m' s' k',e=aF (cO #[aR ((ex.lk 0 0).cells m' s' k'),ah ag 0])/\fM (ex.lk 0 0) m' s' k' jX [] [rW] w'/\az w.heap.size w w':=
 VH ex m s k jX [] [rW] w hL hB 0 0 (by decide) (by decide) (by decide) 0 0 (by decide) (by decide) (by decide) Y4
theorem Ov(hL:Laid w)(hB:cU (ex.lk 0 0) m s k jX [] [rW] w) :
  bu aq 58 #[aR ((ex.lk 0 0).cells m s k),ah ag 0] w fun e w'=>∃v,e=aF (cO #[v,ah ag 0])/\Reads w' v 1 ([4].map (aB ag))/\az w.heap.size w w':=by
 have h:=FM (ex.lk 0 0) m s k jX [] [rW] w hL hB Y4 0 (by decide)
 have e:gX (fun a=>a.get 0) (bw (ex.lk 0 0) jX [] [rW])=[4]:=by
  unfold gX;rw[AG (ys:=[4]) (by decide+kernel) (by decide)];decide+kernel
 rw[e] at h;exact h
theorem abb(hL:Laid w)(hB:cU ex m s k jX [] [rW] w):bu aq 82 #[aR (ex.cells m s k),ah ag 1] w fun e w'=>e=aF (cO #[aR iq,ah ag 7])/\az w.heap.size w w':=
 JZ ex m s k jX [] [rW] w hL hB 1 (by decide) (by decide) (by decide+kernel)
theorem UX(hB:cU ex m s k jX [] [rW] w) :
  bu aq 88 #[aR (ex.cells m s k),aR #[ah ag 1,ah ag 12,ah ag 12]] w fun e w'=>∃k',e=aF (aR (ex.cells m s k'))/\cU ex m s k' jX [] [rW,ZK] w'/\az w.heap.size w w':=by
 obtain⟨p1,c1,e1,_⟩:=aW hB.rm;obtain⟨p2,c2,e2,_⟩:=aW hB.rs;refine(OY ex m s k ⟨⟨_,_,_,e1⟩,⟨_,_,_,e2⟩⟩ [rW] (by decide) ZK w hB.rk).mono ?_;rintro e w' ⟨k',rfl,h1,_,hb⟩;exact⟨k',rfl,⟨UU,P5,Tl _ UU,Xa,hB.rm.below hb,hB.rs.below hb,h1⟩,hb⟩
theorem XR(hL:Laid w)(hB:cU ex m s k jX [] [rW,ZK] w) :
  bu aq 50 #[aR (ex.cells m s k)] w fun e w'=>∃v,e=aF (cO #[v,ah ag 0])/\Reads w' v 2 ([0,1].map (aB ag))/\az w.heap.size w w':=by
 have h:=VG ex m s k jX [] [rW,ZK] w hL hB;have e:qO ex jX [] [rW,ZK]=[0,1]:=by decide+kernel
 rw[e] at h;exact h
end
structure ExB(m:ak)(w:ar):Prop where
 own:fM ex m (ae none 0 0) (ae none 0 0) jX [] [] w
 pl:Plain w m
theorem RP{w:ar}(h0:1<=w.heap.size):bu aq 93 #[] w fun e w'=>∃m,e=aF (aR (ex.cells m (ae none 0 0) (ae none 0 0)))/\ExB m w'/\az w.heap.size w w':=by
 refine(LZ w).mono ?_;rintro e w' ⟨g,c,rfl,hr,hg,hge,hb⟩;refine⟨_,rfl,⟨⟨⟨UU,P5,Tl _ UU,⟨by simp,by simp⟩,hr,cK ⟨rfl,rfl,rfl⟩,cK ⟨rfl,rfl,rfl⟩⟩,fun g' h'=>?_,fun g' h'=>(by cases h'),fun g' h'=>(by cases h')⟩,fun g' h'=>?_⟩,hb⟩
 .obtain rfl:g=g':=bj h';exact⟨_,hg⟩
 obtain rfl:g=g':=bj h';refine⟨by omega,_,_,_,hg,fun u hu=>?_⟩;simp only[fF,jX,List.flatMap_cons,List.flatMap_nil,List.append_nil] at hu;simp at hu;rcases hu with rfl|rfl|rfl|rfl|rfl|rfl
 .exact .inr ⟨_,rfl⟩
 .exact cK ⟨_,_,rfl⟩
 .exact cK ⟨_,_,rfl⟩
 .exact .inr ⟨_,rfl⟩
 exact cK ⟨_,_,rfl⟩
end Go.Proofs.YtffladgmkiimjaaGreatDoor
