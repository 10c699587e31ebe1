/- LONE WALKS: Ask (53). PLAIN LAW of BellAsked (10): the man whose breat .. -/
import Derived.Test.YtffladgmkiimjaaGreatDoorW10
import Derived.Test.YtffladgmkiimjaaGreatDoorW05
set_option linter.all false
set_option maxHeartbeats 0
set_option maxRecDepth 1000000
open Go.Lag.Yields renaming call -> jV,value -> yN
open Array renaming getElem?_eq_some_iff -> ag
open Go renaming Value -> ai,World -> ak,undef -> au,wp_cond_split -> b_,bodyPost_ret -> bf,Calls -> bm,wp_seq -> dZ,Addr -> dc,wp_skip -> eN,maxLen -> gP,info_parts -> gQ,wp_block -> jC
open Go.Addr renaming add -> jh
open Go.Ending renaming returned -> aU,returned -> bq
open Go.Instr renaming indexAt -> eX
open Go.IntKind renaming i64 -> af,wrap_i64 -> bp
open Go.Lib renaming hid -> aj
open Go.Obj renaming cells -> ar
open Go.Operand renaming tmp -> aD
open Go.Proofs.Tryz renaming prog -> aq,underlying25 -> dt,underlying3 -> eR
open Go.RowKit.Below renaming heap_setCell -> aW,heap_alloc -> aY,refl -> ay
open Go.Value renaming bool -> aH,agg -> aO,slice -> ae,int -> ah,int -> ax,oneCell' -> bJ,tuple -> cR,bool -> jM
open Go.World renaming alloc_heap_new -> aw,ownsRow_nil -> dw
open List renaming pairwise_iff_getElem -> Bq,take_length -> IG,length_take -> II,all_eq_true -> a7,range -> aP,take_succ_eq_append_getElem -> bH,mem_range -> bO,mem_cons -> bQ,getElem_mem -> bS,getElem?_eq_getElem -> bT,mem_cons_of_mem -> bW,take_of_length_le -> cQ,map_cons -> cV,length_pos_iff -> dB,map_append -> d_,length_map -> eJ,length_cons -> eT,cons_append -> fq,getD_cons_zero -> gH,getD_cons_succ -> gI,map -> oh,foldl_append -> ot,any_eq_true -> xq,length_mergeSort -> yP,countP_le_length -> yQ
open List.range renaming loop -> cJ
open Nat renaming le_trans -> aG,le_refl -> aJ,reduceEqDiff -> bR,zero_add -> dz,zero_le -> fF
open Option.some renaming inj -> aT
open Or renaming inl -> bV
namespace Go.Proofs.YtffladgmkiimjaaGreatDoor
open Go.RowKit Go.Lag Go.Maps
def wfI{n:Int}(h0 : -9223372036854775808<=n)(h1:n<=9223372036854775807):(Lit.int .i64 n).wf=true:=by
 simp[Lit.wf,IntKind.min,IntKind.max,IntKind.signed,IntKind.bits];omega
def cnt(i:Nat)(l:List eV)(n:Int):Nat:=l.countP fun a=>a.get i==n
def q7(i:Nat)(all:List eV):Nat->Nat
 |0=>0
 |j+1=>max (q7 i all j) (cnt i (all.take (j+1)) ((all.getD j ⟨0,0,0,0⟩).get i))
def sY(all:List eV):Nat->Int × Nat
 |0=>(-1,all.length)
 |i+1=>if q7 i all all.length<(sY all i).2 then((i:Int),q7 i all all.length) else sY all i
def BV:Keyed aq 3:=int_keyed eR
def Ew(w:ak):(zeroValue 3).run aq w=.ok (.int .i64 0) w:=kQ
def zM(D:DataW Unit)(i:Nat)(l:List eV):Prop:=IsMap D/\∀n:Int,D.atKey (.int .i64 n) (.lit (.int .i64 0))=.lit (.int .i64 (cnt i l n))
def zM.nil(i:Nat):zM (.map []) i []:=⟨⟨_,rfl⟩,fun n=>rfl⟩
def zM.put{D:DataW Unit}{i:Nat}{l:List eV}(h:zM D i l)(a:eV):zM (D.put (.int .i64 (a.get i)) (.lit (.int .i64 ((cnt i l (a.get i):Int)+1)))) i (l++[a]):=by
 refine⟨h.1.put _ _,fun n=>?_⟩
 by_cases hn:a.get i=n
 .subst hn;rw[atKey_put_same h.1 (by trivial)];simp[cnt,List.countP_append]
 rw[atKey_put_other (by simpa using fun e=>hn e.symm),h.2 n];simp[cnt,List.countP_append,hn]
def LI(i:Nat)(all:List eV):∀j,j<=all.length->q7 i all j<=j
 |0,_=>aJ _
 |j+1,h=>by
  have h1:=LI i all j oM;have h2:cnt i (all.take (j+1)) ((all.getD j ⟨0,0,0,0⟩).get i)<=(all.take (j+1)).length:=yQ;simp only[II] at h2;unfold q7;omega
def N5(all:List eV):∀i,(sY all i).2<=all.length
 |0=>aJ _
 |i+1=>by
  have:=N5 all i;unfold sY;split<;>simp<;>omega
def ady(b:BB)(bn aL az:ai)(ml:List Mn)(ss:List Int)(ms:List Mk)(w:ak)(hL:Laid w)(hB:dh b bn aL az ml ss ms w)(hne:bu b ml ss ms≠[]) :
  bm aq 53 #[.agg (b.cells bn aL az)] w (Rt w (.tuple #[.int .i64 (sY (bu b ml ss ms) ml.length).1,.int .i64 (sY (bu b ml ss ms) ml.length).2,.int .i64 0])):=by
 have hlen:=jQ ss ms hB.ok hB.iF;have kY:0<(bu b ml ss ms).length:=dB.2 hne;have dp:=hB.ok;have hao:=oP (ss:=ss) (ms:=ms) hB.ok hB.iF;have VT:=hB.iF.len;obtain⟨pm,cm,rfl,_⟩:=aR hB.rm;obtain⟨pn,cn,rfl,_⟩:=aR hB.rs;obtain⟨pk,ck,rfl,_⟩:=aR hB.rk;have b1:Bw w (w.alloc (.cells (b.sl pm ml.length cm pn ss.length cn pk ms.length ck) 28)):=dF;have HX:=aj (aw w (.cells (b.sl pm ml.length cm pn ss.length cn pk ms.length ck) 28));have HO:=aj (Aj b _ _ _ ml ss ms _ (hL.below b1) (hB.below b1) hne (fun W' _=>Dp b _ _ _ W'));have zQ:=aj b1;have T8:=aj hao;clear hL hB hne hao b1;generalize bu b ml ss ms=all at *;generalize ml.length=lm at *;generalize ss.length=ln at *;generalize ms.length=lk at *;have hmm:=@run_makeMap aq
 go_enter Tryz.func53,Tryz.ntmps53
 go_wp2_with (first
  |(refine wpList_load_row rfl 28 _ rfl _ rfl 28 _ (0,0) _ HX.out Tryz.underlying28 rfl kQ ?_)
  |(refine wpList_store_row rfl 122 _ _ rfl _ _ rfl rfl 122 _ ZX.out kQ rfl (by simp[bJ]) ?_)
  |(go_at_call 103;refine HO.out.mono ?_;clear HO;rintro e w1 ⟨v,rfl,jA,hb1⟩
    obtain⟨gv,cv,rfl⟩:∃gv cv,v=.slice (some ⟨gv,0,none⟩) all.length cv:=by
     rcases jA.1.2 with⟨_,h0⟩|⟨g,cap,cur,rfl,_⟩
     .omega
     exact⟨g,cap,rfl⟩
    have Oh:=aj jA;have qp:=aj hb1;have ZX:=aj (aw w1 (.cells iM 122))
    clear jA hb1))
 have hk2:((w1.alloc (.cells iM 122)).setRow w1.heap.size (b.open (.slice pm lm cm) (.slice pn ln cn) (.slice pk lk ck) (.slice (some ⟨gv,0,none⟩) all.length cv))).heap[w1.heap.size]?=some (.cells (b.open (.slice pm lm cm) (.slice pn ln cn) (.slice pk lk ck) (.slice (some ⟨gv,0,none⟩) all.length cv)) 122 (0,0)):=cD ZX.out
 have vV:Bw w ((w1.alloc (.cells iM 122)).setRow w1.heap.size (b.open (.slice pm lm cm) (.slice pn ln cn) (.slice pk lk ck) (.slice (some ⟨gv,0,none⟩) all.length cv))):=by
  have h1:=zQ.out.trans (qp.out.mono zQ.out.size);exact dx (h1.alloc h1.size _) h1.size
 have Dy:=(Oh.out.1.lt gv rfl).2
 have abR:=Oh.out.at_ (W':=((w1.alloc (.cells iM 122)).setRow w1.heap.size (b.open (.slice pm lm cm) (.slice pn ln cn) (.slice pk lk ck) (.slice (some ⟨gv,0,none⟩) all.length cv)))) fun g hg=>by
  have:g=gv:=by simpa [Value.ownBlock] using hg.symm
  subst this;exact(setRow_other oM).trans (aY _ _ _ Dy)
 have kq:w.heap.size<w1.heap.size:=by have:=qp.out.size;simp at this;omega
 have hx2:((w1.alloc (.cells iM 122)).setRow w1.heap.size (b.open (.slice pm lm cm) (.slice pn ln cn) (.slice pk lk ck) (.slice (some ⟨gv,0,none⟩) all.length cv))).heap[w.heap.size]?=some (.cells (b.sl pm lm cm pn ln cn pk lk ck) 28 (0,0)):=by
  refine(setRow_other oM).trans ((aY _ _ _ oM).trans ((qp.out.block _ ?_).trans HX.out));simp
 have Dw:=abR.reads oM;generalize hWe:((w1.alloc (.cells iM 122)).setRow w1.heap.size (b.open (.slice pm lm cm) (.slice pn ln cn) (.slice pk lk ck) (.slice (some ⟨gv,0,none⟩) all.length cv)))=W2 at *;generalize w1.heap.size=k at *
 have HC:Hid (∀j u,(rowOf all)[j]?=some u->W2.cell? ⟨gv,0+j,none⟩=some u):=aj (by
  rcases Dw with⟨h0,_⟩|⟨g,off,cap,h0,_,_,h1⟩
  .cases h0
  cases h0;exact h1)
 have ajk:=(abR.1.lt gv rfl).2;have y1:=aF hk2 15 _ rfl;have f1:=dm hk2 15;have Iz:=aj hk2;have HX2:=aj hx2;have X_:=aj vV;have HWe:=aj hWe;clear hWe Dw abR Oh zQ qp HX ZX vV Dy hk2 hx2
 have Iy:Hid (∀w9,Bw W2 w9->w9.cell? ⟨k,15,none⟩=some (.slice (some ⟨gv,0,none⟩) all.length cv)/\w9.heap[k]?=some (.cells (b.open (.slice pm lm cm) (.slice pn ln cn) (.slice pk lk ck) (.slice (some ⟨gv,0,none⟩) all.length cv)) 122 (0,0))/\w9.heap[w.heap.size]?=some (.cells (b.sl pm lm cm pn ln cn pk lk ck) 28 (0,0))):=aj fun w9 PQ=>by
  have h1:=(PQ.block _ (ag.1 Iz.out).1).trans Iz.out;exact⟨aF h1 15 _ rfl,h1,(PQ.block _ (ag.1 HX2.out).1).trans HX2.out⟩
 refine cy kQ [
 pV (pv k 15),
  pV (.slice (some ⟨gv,0,none⟩) all.length cv),
  pV (.int .i64 all.length),
  pV (.int .i64 (-1)),
  pV (.int .i64 all.length)]
  (fun w9=>Bw W2 w9) [(1,pv w.heap.size 0),(5,pv k 0)] kQ ?rst (fun w1 w2 h hb=>h.trans (hb.mono h.size)) (by have:=HWe.out;subst this;exact(ay _ _).drew) ⟨rfl,rfl,trivial⟩ ?reach ?rfin
 case rst=>
  refine⟨sV,sV,sV,sV,sV,trivial⟩
 case reach=>
  refine⟨?_,?_,?_,?_,?_,trivial⟩<;>rintro ev w1 hS hc hg hf ⟨b1,b5,-⟩ hd
  .exact tV
  .have d0:ev (.tmp 19)=_:=hd.1 rfl;obtain y1:=(Iy.out w1 hS).1;exact tV
  .have d1:ev (.tmp 20)=_:=hd.1 rfl;exact tV
  .exact tV
  have d2:ev (.tmp 21)=_:=hd.1 rfl;exact tV
 case rfin=>
  intro a2 w2 hR;have hS:=hR.s;have e3:a2.tmps.getD 2 au=_:=hR.val 3;have e4:a2.tmps.getD 3 au=_:=hR.val 4;have k1:a2.tmps.getD 1 au=pv w.heap.size 0:=hR.kept kQ;have k4:a2.tmps.getD 4 au=.int .i64 0:=hR.kept kQ;have k5:a2.tmps.getD 5 au=pv k 0:=hR.kept kQ;have ha:=hR.lits 60 rfl;simp only[aP,cJ,oh] at ha;clear hR;rw[e3,e4,k1,k4,k5] at ha;generalize a2.tmps.getD=zz at ha;have qp:=aj hS;clear e3 e4 k1 k4 k5 hS y1 f1;subst ha;obtain⟨y1,hk2,hx2⟩:=Iy.out w2 qp.out;have f1:=dm hk2 15;obtain⟨x0,x1,x2,x3,x4,x5,x6,x7,x8,x9,qY,qX,r8,rT,rW⟩:=bZ hx2;have fx:=dm hx2 12;clear hk2 hx2;generalize hL:all.length=L at *;have HL:=aj hL;clear hL x0 x1 x2 x3 x4 x5 x6 x7 x8 x9 qY qX rT rW;go_wp2
  go_loopw [2,3,6,7,8,10,25] (fun mn lf _ _ _ _ i wr=>∃m:Nat,m<=lm/\i=.int .i64 m/\mn=.int .i64 (sY all m).1/\lf=.int .i64 (sY all m).2/\Bw w2 wr) (fun _ _ _ _ _ _ i _=>lm-(intOf i).toNat)
  case atStart=>exact⟨0,oM,rfl,rfl,by simp[sY,HL.out],ay _ _⟩
  case round=>
   obtain⟨m,hm,rfl,rfl,rfl,eE⟩:=hrel;rename ak=>wo;have hsz:=eE.size
   by_cases hlt:m<lm
   .have JL:=(eE.cell (p:=⟨k,15,none⟩) (ag.1 (Iy.out w2 qp.out).2.1).1).trans y1;have yL:=aj eE
    have hkb:k<wo.heap.size:=by
     have:=(ag.1 (Iy.out w2 qp.out).2.1).1;omega
    have hgb:gv<wo.heap.size:=by have:=qp.out.size;omega
    have fz:(wo.alloc (.map #[] 0)).frozen? ⟨k,15,none⟩=false:=by
     have:=(Iy.out wo (qp.out.trans (eE.mono qp.out.size))).2.1;exact dm ((aY _ _ _ hkb).trans this) 15
    have HCr:Hid (∀W,Below (wo.heap.size) wo W->∀i u,(rowOf all)[i]?=some u->W.cell? ⟨gv,0+i,none⟩=some u):=aj fun W hW i u hi=>by
     have:=HC.out i u hi;have h2:=(qp.out.trans ((eE.mono qp.out.size).trans (hW.mono (by have:=qp.out.size;omega)))).cell (p:=⟨gv,0+i,none⟩) ajk;exact h2.trans this
    have HAs:Hid (sY all (m+1)=if q7 m all all.length<(sY all m).2 then((m:Int),q7 m all all.length) else sY all m):=aj rfl;have hal:=N5 all m;generalize sY all m=am at *;obtain⟨am,al⟩:=am;simp only[] at hal;clear eE;go_wp2
    go_loopw [8,10,32] (fun wst _ i wq=>∃j:Nat,j<=L/\i=.int .i64 j/\wst=.int .i64 (q7 m all j)/\(∃D,zM D m (all.take j)/\wq.ownsMap aq 3 (plainElem (H:=Unit) aq 3) wo.heap.size j D)/\Bw wo wq) (fun _ _ i _=>L-(intOf i).toNat)
    case atStart=>exact⟨0,oM,rfl,rfl,⟨_,zM.nil _,World.ownsMap_made _ _ _ _⟩,dF⟩
    case round=>
     obtain⟨j,hj,rfl,rfl,⟨D,hD,hown⟩,zN⟩:=hrel
     by_cases M6:j<L
     .have KL:j<all.length:=by rw[HL.out];exact M6
      have hqs:=zN.size;have hql:=hown.lt;have hbq:=qp.out.size;obtain⟨c0,c1,c2,c3⟩:=Reads.cell (w:=wr) (cap:=cv) (n:=L) (fun i u hi=>HCr.out wr zN i u hi) j KL;simp only[dz] at c0 c1 c2 c3;have hw1:q7 m all (j+1)=max (q7 m all j) (cnt m (all.take (j+1)) ((all.getD j ⟨0,0,0,0⟩).get m)):=rfl;have hwl:=LI m all j oM;have hgd:all.getD j ⟨0,0,0,0⟩=all[j]:=by simp[List.getD,bT KL]
      have uX:all.take (j+1)=all.take j++[all[j]]:=List.take_append_getElem KL |>.symm
      have hcl:cnt m (all.take j) (all[j].get m)<=(all.take j).length:=yQ
      have hcn:cnt m (all.take (j+1)) (all[j].get m)=cnt m (all.take j) (all[j].get m)+1:=by
       show List.countP _ (all.take (j+1))=_;rw[uX,List.countP_append,List.countP_singleton];simp[cnt]
      have hDp:=hD.put all[j];rw[<-uX] at hDp;have hDk:=hD.2 (all[j].get m);simp only[II] at hcl
      have hgo:0<=all[j].get m/\all[j].get m<=99:=by
       have:=T8.out _ (bS KL);unfold eV.get;split
       .exact this.m0
       .exact this.m1
       exact this.m2
      rw[hgd,hcn] at hw1;have HCn:=aj hcn;have V9:=aw wr (.cells all[j].cells 134)
      have hx:(wr.alloc (.cells all[j].cells 134)).cell? ⟨wr.heap.size,1+m,none⟩=some (.int .i64 (all[j].get m)):=by
       have h3:m<3:=oM
       match m,h3 with
       |0,_=>exact aF V9 1 _ rfl
       |1,_=>exact aF V9 2 _ rfl
       |2,_=>exact aF V9 3 _ rfl
      have hoa:=hown.alloc (.cells all[j].cells 134);have HBa:=aj V9;have T7:=aj zN;have HDp:=aj hDp;have HDk:=aj hDk;have HW1:=aj hw1;clear hD hown uX hgd hcn V9 zN hDp hDk;generalize all[j]=a at *;generalize hcc:cnt m (all.take j) (a.get m)=cc at *;generalize hww:q7 m all j=ww at *;have hkey:keyOf aq 3 (.int .i64 (a.get m))=some (.int .i64 (a.get m)):=keyOf_int_mk eR (wfI oM oM);have zz:IntKind.i64.wrap ((cc:Int)+1)=(cc:Int)+1:=by rw[bp];omega
      have HNe:Hid (wr.heap.size≠wo.heap.size):=aj oM;rcases Int.lt_or_le (ww:Int) ((cc:Int)+1) with q1|q1
      .go_wp2_with (first
        |(at_lookup;refine wpList_lookup_own_int _ rfl _ _ 146 rfl 3 3 .i64 BV Tryz.underlying146 eR (Ew _) wo.heap.size j _ rfl hoa _ _ rfl hkey ?_;intro c hat hwc
          obtain rfl:c=(cc:Int):=by rw[HDk.out] at hat;simpa using hat.symm)
        |(at_lookup;refine wpList_lookup_own_int _ rfl _ _ 146 rfl 3 3 .i64 BV Tryz.underlying146 eR (Ew _) wo.heap.size (j+1) _ rfl hown1 _ _ rfl hkey ?_;intro c hat hwc
          obtain rfl:c=(cc:Int)+1:=by have:=HDp.out.2 (a.get m);rw[HCn.out] at this;rw[this] at hat;simpa using hat.symm)
        |(at_mapUpdate;refine wpList_mapUpdate_own _ rfl _ _ _ 146 rfl 3 3 BV Tryz.underlying146 _ wo.heap.size j _ rfl hoa (by unfold gP;omega) _ _ _ rfl rfl hkey _ [] (plainElem_int eR (wfI oM oM)) ?_;intro w1 hown1 FZ
          have hx1:=(FZ.cell hx (by simpa using HNe.out))
          clear hx)
        |go_in)
       go_roundw
       case rel=>
        refine⟨j+1,oM,sM,?_,⟨_,HDp.out,hown1⟩,(T7.out.alloc oM _).grown FZ sO (fun k hk=>by cases hk;exact aJ _)⟩;exact congrArg (ax .i64) (by have:=HW1.out;omega)
       case measure=>simp[intOf];omega
      go_wp2_with (first
       |(at_lookup;refine wpList_lookup_own_int _ rfl _ _ 146 rfl 3 3 .i64 BV Tryz.underlying146 eR (Ew _) wo.heap.size j _ rfl hoa _ _ rfl hkey ?_;intro c hat hwc
         obtain rfl:c=(cc:Int):=by rw[HDk.out] at hat;simpa using hat.symm)
       |(at_lookup;refine wpList_lookup_own_int _ rfl _ _ 146 rfl 3 3 .i64 BV Tryz.underlying146 eR (Ew _) wo.heap.size (j+1) _ rfl hown1 _ _ rfl hkey ?_;intro c hat hwc
         obtain rfl:c=(cc:Int)+1:=by have:=HDp.out.2 (a.get m);rw[HCn.out] at this;rw[this] at hat;simpa using hat.symm)
       |(at_mapUpdate;refine wpList_mapUpdate_own _ rfl _ _ _ 146 rfl 3 3 BV Tryz.underlying146 _ wo.heap.size j _ rfl hoa (by unfold gP;omega) _ _ _ rfl rfl hkey _ [] (plainElem_int eR (wfI oM oM)) ?_;intro w1 hown1 FZ
         have hx1:=(FZ.cell hx (by simpa using HNe.out))
         clear hx)
       |go_in)
      go_roundw
      case rel=>
       refine⟨j+1,oM,sM,?_,⟨_,HDp.out,hown1⟩,(T7.out.alloc oM _).grown FZ sO (fun k hk=>by cases hk;exact aJ _)⟩;exact congrArg (ax .i64) (by have:=HW1.out;omega)
      case measure=>simp[intOf];omega
     obtain rfl:j=L:=oM;have T7:=aj zN;have HHm:=hmm;rw[HL.out] at HAs;clear hown zN hD;generalize q7 m all j=ww at *
     by_cases h9:(ww:Int)<al
     .go_wp2;go_roundw
      case rel=>
       refine⟨m+1,oM,sM,?_,?_,yL.out.trans (T7.out.mono hsz)⟩
       .rw[HAs.out,if_pos oM]
       rw[HAs.out,if_pos oM]
      case measure=>simp[intOf];omega
     go_wp2;go_roundw
     case rel=>
      refine⟨m+1,oM,sM,?_,?_,yL.out.trans (T7.out.mono hsz)⟩
      .rw[HAs.out,if_neg oM]
      rw[HAs.out,if_neg oM]
     case measure=>simp[intOf];omega
   obtain rfl:m=lm:=oM;have yL:=aj eE;clear eE;go_wp2
   go_ret3
   exact⟨rfl,X_.out.trans ((qp.out.trans (yL.out.mono qp.out.size)).mono X_.out.size)⟩
structure aou(all:List eV)(k:Nat)(mE:Int)(left:Nat):Prop where
 le:left<=all.length
 none:mE<0->mE = -1/\left=all.length
 some:0<=mE->mE<k/\left<all.length/\q7 mE.toNat all all.length=left/\∀j:Nat,(j:Int)<mE->left<q7 j all all.length
 all:∀j,j<k->left<=q7 j all all.length
def qJ(lo hi:Int)(k:Nat):Int:=lo+((k % (hi-lo+1).toNat:Nat):Int)
def zu{lo hi:Int}(h:lo<=hi)(k:Nat):lo<=qJ lo hi k/\qJ lo hi k<=hi:=by
 unfold qJ;have h1:k % (hi-lo+1).toNat<(hi-lo+1).toNat:=Nat.mod_lt _ oM;omega
def ri(b:BB)(pk:Nat->Nat):Int:=qJ b.ll b.lm (pk 0)
def jc(pk:Nat->Nat):List Mn->Nat->List Int
 |[],_=>[]
 |m::r,i=>qJ m.lo m.hi (pk (1+i))::jc pk r (i+1)
def Dh(pk:Nat->Nat):∀(l:List Mn) (i:Nat),(jc pk l i).length=l.length
 |[],_=>rfl
 |m::r,i=>by simp[jc,Dh pk r (i+1)]
def Ad(pk:Nat->Nat):∀(l:List Mn) (i k:Nat) (hk:k<l.length),jc pk (l.take (k+1)) i=jc pk (l.take k) i++[qJ l[k].lo l[k].hi (pk (1+(i+k)))]
 |[],_,k,hk=>by simp at hk
 |m::r,i,0,_=>by simp[jc]
 |m::r,i,k+1,hk=>by
  have h:=Ad pk r (i+1) k (by simpa using hk);rw[List.take_succ_cons,List.take_succ_cons];simp only[jc,fq,h,List.getElem_cons_succ];rw[show i+1+k=i+(k+1) by omega]
def Fl(pk:Nat->Nat):∀(l:List Mn) (i:Nat),(∀m∈l,1<=m.lo/\m.lo<=m.hi/\m.hi<=99)->∀x∈jc pk l i,0<=x/\x<=99
 |[],_,_,x,hx=>by simp[jc] at hx
 |m::r,i,h,x,hx=>by
  simp only[jc,bQ] at hx;rcases hx with rfl|hx
  .have h1:=h m sM;have h2:=zu h1.2.1 (pk (1+i));omega
  exact Fl pk r (i+1) (fun m hm=>h m (bW _ hm)) x hx
def Di{b:BB}(hb:b.Ok)(pk:Nat->Nat):0<=ri b pk/\ri b pk<=99:=by
 have h1:=hb.leak;have h2:=zu h1.2.1 (pk 0);unfold ri;omega
def Mf(a n:Nat)(hn:0<n)(w:ak):(Go.binOp .rem 3 (ah af (a:Int)) (ah af (n:Int))).run aq w=.ok (ah af ((a % n:Nat):Int)) w:=by
 have h1:¬((n:Int)=0):=oM;have h2:(a:Int).tmod (n:Int)=((a % n:Nat):Int):=by rw[Int.tmod_eq_emod_of_nonneg oM];rfl
 rw[<-h2];go_simp;omega
def Gf{o:Oper}{ev:Operand->ai}{w:ak}{x y:Operand}{a n:Nat}(ho:o.op=.binOp .rem 3 x y 3)(hx:ev x=ah af (a:Int))(hy:ev y=ah af (n:Int))(hn:0<n){r:Nat}(hr:a % n=r):(execOp ev o).run aq w=.ok (.value (ah af (r:Int))) w:=by
 have h:=Mf a n hn w;rw[hr] at h;unfold execOp;simp only[ho,hx,hy,Sem.run_bind,eqGuard,Bool.not_false,if_true,Sem.run_pure,h,Result.andThen_ok]
def jn{W:ak}{b1 b2:Nat}{e:TypeId}{s n:Nat}{v:ai}{xs:List ai}(h:W.ownsRow b1 e s v n xs)(hb:b2<=b1):W.ownsRow b2 e s v n xs:=by
 obtain⟨hl,h|⟨G,cap,cur,h1,hG,h2⟩⟩:=h
 .exact⟨hl,bV h⟩
 exact⟨hl,.inr ⟨G,cap,cur,h1,aG hb hG,h2⟩⟩
def EJ{P:Program}{aM:Array Oper}{Q:Exit->Act->ak->Prop}{n:Nat}{id:Nat}{a0:Act}{w:ak}(hm:P.follows .mixedOrders=true)(Vs:List Pred)(S:Ph.Ls->ak->Prop)(base:List (Tmp × ai))(dp:ji aM n base=true)(hn:a0.tmps.size=n)(Cg:Ph.jy S Vs)
  (Jn:∀(L L':Ph.Ls) w w',(∀t,L' t=false->L t=false)->S L w->Bw w w'->S L' w') (hS:S (fun _=>false) w.drew) (hbase:gi a0.eval base) (hE:Ph.Each (Lag.Yields P) aM Vs S base [] 0 aM.toList) (hQ:∀a w,Ph.jq aM Vs S a0 (Array.replicate aM.size true) a w->Q .normal a w):(Code.region id aM true).wp P Q a0 w:=
 Ph.cy hm Vs S base (by rw[hn];exact dp) Cg Jn hS hbase hE hQ
structure RG(B2 B4 B5 B7 E0 E n:Nat)(bk z4:Array ai)(lk lo hi:Int)(w0:ak)(mv:ai)(rows:List ai)(A C:Bool)(w:ak):Prop where
 k2:w.heap[B2]?=some (ar bk 28 (0,0))
 k4:w.heap[B4]?=some (ar z4 42 (0,0))
 k5:C=false->w.heap[B5]?=some (ar #[ah af lk,mv] 42 (0,0))
 k7:w.heap[B7]?=some (ar #[ah af lo,ah af hi] 23 (0,0))
 own:A=false->w.ownsRow E 3 1 mv n rows
 below:Below E0 w0 w
 sz:E0<=w.heap.size/\B5<w.heap.size/\E<=w.heap.size
section
variable{B2 B4 B5 B7 E0 E n:Nat}{bk z4:Array ai}{lk lo hi:Int}{w0 w1 w2:ak}{mv:ai}{rows:List ai}{A A' C C':Bool}
theorem RG.next(hA:A'=false->A=false)(hC:C'=false->C=false)(h:RG B2 B4 B5 B7 E0 E n bk z4 lk lo hi w0 mv rows A C w1)(hb:Bw w1 w2):RG B2 B4 B5 B7 E0 E n bk z4 lk lo hi w0 mv rows A' C' w2:=by
 have hs:=h.sz;have h9:=hb.size;exact⟨aA h.k2 hb,aA h.k4 hb,fun e=>aA (h.k5 (hC e)) hb,aA h.k7 hb,fun e=>a8 (h.own (hA e)) hb,h.below.trans (hb.mono hs.1),oM⟩
theorem RG.grown{row:Option Nat}(hA:A'=true)(hC:C'=C)(h:RG B2 B4 B5 B7 E0 E n bk z4 lk lo hi w0 mv rows A C w1)(g:w1.grownBy w2 row)(hr:∀q,row=some q->E<=q/\q≠B7)(hE:B2<E/\B4<E/\B5<E/\E0<=E):RG B2 B4 B5 B7 E0 E n bk z4 lk lo hi w0 mv rows A' C' w2:=by
 subst hC;have hs:=h.sz;have hn:∀q,(q<E\/q=B7)->some q≠row:=fun q hq e=>by have:=hr q e.symm;omega
 have lt:∀ {B:Nat} {o:Obj},w1.heap[B]?=some o->B<w1.heap.size:=fun e=>(ag.1 e).1;exact⟨(g.block _ (lt h.k2) (hn _ oM)).trans h.k2,(g.block _ (lt h.k4) (hn _ oM)).trans h.k4,fun e=>(g.block _ hs.2.1 (hn _ oM)).trans (h.k5 e),(g.block _ (lt h.k7) (hn _ (.inr rfl))).trans h.k7,(fun e=>by rw[hA] at e;cases e),h.below.grown g hs.1 (fun q hq=>by have:=hr q hq;omega),by have:=g.size;omega⟩
theorem RG.put(h:RG B2 B4 B5 B7 E0 E n bk z4 lk lo hi w0 mv rows A C w1){cs:Array ai}(hB:w1.heap[B5]?=some (ar cs 42 (0,0)))(hA:A'=A)(u:ai)(i:Nat)(hE:B2≠B5/\B4≠B5/\B7≠B5/\E0<=B5):RG B2 B4 B5 B7 E0 E n bk z4 lk lo hi w0 mv rows A' true (w1.setCell ⟨B5,i,none⟩ u):=by
 subst hA;have hn:∀q,q≠B5->(w1.setCell ⟨B5,i,none⟩ u).heap[q]?=w1.heap[q]?:=fun q hq=>aW _ _ _ _ hq;exact⟨(hn _ hE.1).trans h.k2,(hn _ hE.2.1).trans h.k4,(fun e=>by cases e),(hn _ hE.2.2.1).trans h.k7,fun e=>di (h.own e) hB dC,h.below.setCell (p:=⟨B5,i,none⟩) hE.2.2.2 _,by simpa using h.sz⟩
theorem RG.drew(h:RG B2 B4 B5 B7 E0 E n bk z4 lk lo hi w0 mv rows A C w1):RG B2 B4 B5 B7 E0 E n bk z4 lk lo hi w0 mv rows A C w1.drew:=⟨h.k2,h.k4,h.k5,h.k7,fun e=>a8 (h.own e) (ay _ _).drew,h.below.drew,h.sz⟩
end
def UL(b:BB)(hb:b.Ok)(p1 p2 p3 pq:Option dc)(c1 n2 c2 n3 c3 nq cq:Nat)(ml:List Mn)(hm:xp ml)(pk:Nat->Nat)(w:ak)(hv:Reads w (ae p1 ml.length c1) ml.length (dX ml))(Hi:sZ w pq nq cq pk):bm aq 30 #[aO (b.sl p1 ml.length c1 p2 n2 c2 p3 n3 c3),ae pq nq cq] w fun e w'=>∃v,e=aU (aO #[ah af (ri b pk),v])/\w'.ownsRow w.heap.size 3 1 v ml.length ((jc pk ml 0).map (ax af))/\Bw w w':=by
 obtain⟨i0,hi,hz0,hz1,hz2⟩:=gQ info3;have hlk:=hb.leak;have M3:=hm.len;obtain⟨n0,Za⟩:∃n0:Nat,(n0:Int)=b.lm-b.ll+1:=⟨(b.lm-b.ll+1).toNat,oM⟩
 obtain⟨lk,afx⟩:∃lk,ri b pk=lk:=⟨_,rfl⟩
 obtain⟨y0,MT⟩:∃y0,pk 0 % n0=y0:=⟨_,rfl⟩
 have apU:b.ll+(y0:Int)=lk:=by rw[<-MT];rw[<-afx];unfold ri qJ;rw[show(b.lm-b.ll+1).toNat=n0 by omega]
 have ai_:=Di hb pk;have hp0:=Hi.lt 0;rw[afx] at ai_ ⊢;have HP:∀k,∀w9,Bw w w9->_:=fun k w9 h9=>YB pq nq cq k pk w9 (Hi.below h9);have hvm:∀w9,Bw w w9->_:=fun w9 h9=>hv.below h9;clear hv;refine nY Tryz.func30 rfl rfl [(1,ae pq nq cq),(0,aO (b.sl p1 ml.length c1 p2 n2 c2 p3 n3 c3))] ⟨jB rfl,jB rfl,trivial⟩ fun a W hF hw=>?_;refine vI (N:=2) rfl ?_;refine nR ⟨[],[],[],[]⟩ (some 2) (fun B=>pv B 0) (b.sl p1 ml.length c1 p2 n2 c2 p3 n3 c3) 28 hF hF ?_;intro B2 W a G2 ho K2 hF;have aqM:=aG hw.size G2;replace hw:=hw.tr ho;rename ak=>W2;have h2:=ay W2.heap.size W2;refine nR ⟨[],[],[],[]⟩ (some 4) (fun B=>pv B 0) (#[ah af 0,ae none 0 0]) 42 hF hF ?_;intro B4 W a G4 ho K4 hF;have acT:=aG (hw.tr h2).size G4;have aqL:=aG h2.size G4;replace h2:=h2.tr ho;replace hw:=hw.tr h2;rename ak=>W4;have h4:=ay W4.heap.size W4;refine xd ?_;replace K2:=aA K2 (h2.tr h4);replace K4:=aA K4 h4;replace hw:=(hw.tr h4)
 try clear h2 h4
 rename ak=>W;have hwz:=hw.size;have j2:=(ag.1 K2).1;have j4:=(ag.1 K4).1
 refine Jt kQ [pV (pv B2 8),pV (pv B2 8),pV (ah af b.ll),pV (ae pq nq cq),pV (ah af (pk 0:Int)),pV (pv B2 8),pV (pv B2 9),pV (ah af b.lm),pV (pv B2 8),pV (pv B2 8),pV (ah af b.ll),pV (ah af (b.lm-b.ll)),pV (ah af (n0:Int)),pV (ah af (y0:Int)),pV (ah af lk),pV (aO #[ah af lk,ae none 0 0]),fun v ds w9=>∃B,∃z:Array ai,v=pv B 0/\w9.heap[B]?=some (ar z 42 (0,0))/\z.size=2/\W.heap.size<=B,fun v ds w9=>∃B,ds[0]?=some (pv B 0)/\W.heap.size<=B/\w9.heap[B]?=some (ar #[ah af lk,ae none 0 0] 42 (0,0))]
  _ kQ hF.size hF.base ?_ ?_ ?_
 .refine⟨sV,sV,sV,sV,sV,sV,sV,sV,sV,sV,sV,sV,sV,sV,sV,sV,?_,?_,trivial⟩
  .rintro v ds w1 w2 hS ⟨B,z,h1,h2,h3,h4⟩ hb;exact⟨B,z,h1,aA h2 hb,h3,h4⟩
  rintro v ds w1 w2 hS ⟨B,h1,h4,h2⟩ hb;exact⟨B,h1,h4,aA h2 hb⟩
 .refine⟨?_,?_,?_,?_,?_,?_,?_,?_,?_,?_,?_,?_,?_,?_,?_,?_,?_,?_,trivial⟩<;>rintro ev w1 hS hc hg hf ⟨-,b2,b1,-,-⟩ hd
  all_goals try
   try have d0:ev (aD _)=_:=hd.1 rfl
   refine yw rfl ?_ rfl;go_simp;done
  .have d1:ev (aD 9)=_:=hd.1 rfl;have z:=aF (aA K2 hS) 8 _ rfl;exact tV
  .have d3:ev (aD 11)=_:=hd.1 rfl;refine yc (HP 0 w1 (hw.tr hS)) ?_ (fun _=>rfl);go_simp
  .have d6:ev (aD 14)=_:=hd.1 rfl;have z:=aF (aA K2 hS) 9 _ rfl;exact tV
  .have d9:ev (aD 17)=_:=hd.1 rfl;have z:=aF (aA K2 hS) 8 _ rfl;exact tV
  .have d7:ev (aD 15)=_:=hd.1 rfl;have d10:ev (aD 18)=_:=hd.2.1 rfl;have hwr:IntKind.i64.wrap (b.lm-b.ll)=b.lm-b.ll:=by rw[bp];omega
   exact tV
  .have d11:ev (aD 19)=_:=hd.1 rfl;have hwr:IntKind.i64.wrap ((b.lm-b.ll)+1)=(n0:Int):=by rw[bp];omega
   exact tV
  .have d4:ev (aD 12)=_:=hd.1 rfl;have d12:ev (aD 20)=_:=hd.2.1 rfl;refine yN (v:=(ah af (y0:Int):ai)) (w':=w1) ?_ ⟨rfl,bV (ay _ _)⟩;exact Gf rfl d4 d12 oM MT
  .have d2:ev (aD 10)=_:=hd.1 rfl;have d13:ev (aD 21)=_:=hd.2.1 rfl;have hwr:IntKind.i64.wrap (b.ll+(y0:Int))=lk:=by rw[bp];omega
   have aiF:IntKind.i64.wrap lk=lk:=by rw[bp];omega
   exact tV
  .refine yN (v:=pv w1.heap.size 0) (w':=w1.alloc (ar #[ah af 0,ae none 0 0] 42)) ?_ ⟨⟨_,_,rfl,aw _ _,rfl,hS.size⟩,bV dF⟩;go_simp
  .have d16:∃B,∃z:Array ai,(ev (aD 5))=pv B 0/\w1.heap[B]?=some (ar z 42 (0,0))/\z.size=2/\W.heap.size<=B:=hd.1 rfl;have d15:ev (aD 23)=_:=hd.2.1 rfl;obtain⟨B,z,eB,hB,hz,hge⟩:=d16;refine Lag.Yields.iB 42 _ _ rfl B #[ah af lk,ae none 0 0] eB d15 42 z hB kQ hz (by simp[bJ]) ⟨⟨B,congrArg some eB,hge,cD hB⟩,.inr ⟨dx hS hge,?_⟩⟩;intro j u ds hj hp
   match j,hp with
   |0,hp|1,hp|2,hp|3,hp|4,hp|5,hp|6,hp|7,hp|8,hp|9,hp|10,hp|11,hp|12,hp|13,hp|14,hp|15,hp=>exact hp
   |16,⟨B',z',h1,h2,h3,h4⟩=>
    by_cases qG:B'=B
    .subst qG;rw[hB] at h2;cases h2;exact⟨B',_,h1,cD hB,hz.symm.trans h3,h4⟩
    exact⟨B',z',h1,(setRow_other qG).trans h2,h3,h4⟩
   |17,_=>exact(hj rfl).elim
   |j+18,_=>trivial
 intro a W hR;have ho:=hR.s;obtain⟨B5,q5,G5,K5⟩:=hR.val 17;have e5:a.eval (aD 5)=pv B5 0:=aT q5;clear q5;replace hw:=hw.tr ho;replace K2:=aA K2 ho;replace K4:=aA K4 ho;replace hF:=(hR.fr hF kQ).cons (t:=5) e5;clear hR ho e5;have hw5:w.heap.size<=B5:=aG hwz G5;have nH:B2≠B5/\B4≠B5:=⟨oM,oM⟩
 rename ak=>WV;have hV:=ay WV.heap.size WV;refine dZ ?_;refine fe [(6,ah af 0)] hF ?_;intro a W ho hF;replace hV:=hV.tr ho;refine jC ?_;replace hF:=hF.del 0;simp only[lQ,ic,bR,reduceIte] at hF;replace K2:=aA K2 hV;replace K4:=aA K4 hV;replace K5:=aA K5 hV;replace hw:=(hw.tr hV)
 have g5:=(ag.1 K5).1;obtain⟨E,hE⟩:∃E,E=W.heap.size:=⟨_,rfl⟩
 have aiH:w.heap.size<=B5:=by have:=hw5;omega
 have gE:B2<E/\B4<E/\B5<E/\w.heap.size<=E:=⟨by rw[hE];exact(ag.1 K2).1,by rw[hE];exact(ag.1 K4).1,oM,by rw[hE];exact hw.size⟩
 refine wp_loop (fun a W=>∃(k:Nat) (mv:ai),k<=ml.length/\iw 57 a [(6,ah af (k:Int)),(5,pv B5 0),(4,pv B4 0),(2,pv B2 0),(1,ae pq nq cq)]/\W.heap[B2]?=some (ar (b.sl p1 ml.length c1 p2 n2 c2 p3 n3 c3) 28 (0,0))/\W.heap[B4]?=some (ar #[ah af 0,ae none 0 0] 42 (0,0))/\W.heap[B5]?=some (ar #[ah af lk,mv] 42 (0,0))/\W.ownsRow E 3 1 mv k ((jc pk (ml.take k) 0).map (ax af))/\Bw w W/\E<=W.heap.size) (fun a _=>ml.length-(intOf (a.eval (aD 6))).toNat) ⟨0,ae none 0 0,fF _,⟨hF.size,hF.defers,hF.base⟩,K2,K4,K5,dw _ _ _ _,hw,oM⟩ ?_;clear hF K2 K4 K5 hw g5 hE
 try clear a
 try clear W
 rintro a W ⟨k,mv,hk,hF,K2,K4,K5,hown,hw,hEW⟩;have hk6:a.eval (aD 6)=ah af (k:Int):=(hF.g 0 rfl)
 obtain⟨pz,cz,rfl⟩:=bP hown;rename ak=>WQ;have hQ:=ay WQ.heap.size WQ;refine dZ ?_;refine EN ⟨[],[],[(B2,(b.sl p1 ml.length c1 p2 n2 c2 p3 n3 c3))],[]⟩ [(28,aH (decide ((k:Int)<(ml.length:Int))))] hF hF ⟨fun w1 hS=>⟨_,_,aA K2 (hQ.tr hS)⟩,trivial⟩ trivial ?_;intro a W ho hF;replace hQ:=hQ.tr ho;refine b_ (t:=(decide ((k:Int)<(ml.length:Int)))) (hF.g 0 rfl) (fun PO=>?_) (fun PO=>?_)
 .replace hF:=hF.tl;have hlt:k<ml.length:=by simpa using PO
  obtain⟨m,hme⟩:∃m,ml[k]=m:=⟨_,rfl⟩
  have Zb:=hm.mem m (hme▸bS hlt);obtain⟨nm,hnm⟩:∃nm:Nat,(nm:Int)=m.hi-m.lo+1:=⟨(m.hi-m.lo+1).toNat,oM⟩
  obtain⟨x,hx⟩:∃x,qJ m.lo m.hi (pk (1+k))=x:=⟨_,rfl⟩
  obtain⟨ym,hym⟩:∃ym,pk (1+k) % nm=ym:=⟨_,rfl⟩
  have hx2:m.lo+(ym:Int)=x:=by rw[<-hym];rw[<-hx];unfold qJ;rw[show(m.hi-m.lo+1).toNat=nm by omega]
  have hx3:=zu Zb.2.2.1 (pk (1+k));rw[hx] at hx3;have apF:=Hi.lt (1+k);have Nh:=hF
  obtain⟨g,off,rfl,hcell⟩:∃g off,p1=some ⟨g,off,none⟩/\∀w9,Bw w w9->w9.cell? ⟨g,off+k*3+1,none⟩=some (ah af m.lo)/\w9.cell? ⟨g,off+k*3+2,none⟩=some (ah af m.hi):=by
   rcases hvm w (ay _ _) with⟨_,h0,_⟩|⟨g,off,cap,h0,_,hg,h4⟩
   .omega
   cases h0;refine⟨g,off,rfl,fun w9 h9=>⟨?_,?_⟩⟩
   .have:=(h9.cell (p:=⟨g,off+(3*k+1),none⟩) hg).trans (h4 (3*k+1) (ah af m.lo) (by rw[nC ml k 1 hlt oM,hme];rfl));rwa [show off+(3*k+1)=off+k*3+1 by omega] at this
   have:=(h9.cell (p:=⟨g,off+(3*k+2),none⟩) hg).trans (h4 (3*k+2) (ah af m.hi) (by rw[nC ml k 2 hlt oM,hme];rfl));rwa [show off+(3*k+2)=off+k*3+2 by omega] at this
  replace hF:=Nh;clear Nh;refine eN ?_;refine dZ ?_;refine jC ?_;refine vI (N:=8) rfl ?_;refine jZ 0 6 2 ⟨[],[(3,.pointer (some ⟨g,off+k*3,none⟩)),(5,aO #[ah af m.lo,ah af m.hi])],[(B2,(b.sl (some ⟨g,off,none⟩) ml.length c1 p2 n2 c2 p3 n3 c3))],[]⟩ [(36,aO #[ah af m.lo,ah af m.hi])] hF hF ⟨fun w1 hS=>⟨_,_,aA K2 (hQ.tr hS)⟩,trivial⟩ ⟨fun w1 hS _=>gs (eX 24 (ae (some ⟨g,off,none⟩) ml.length c1) (ah af (k:Int))) (by have Bv:¬(ml.length<=k):=(by omega);go_simp),fun w1 hS _=>gs (Instr.loadAt 23 (.pointer (some ⟨g,off+k*3+1,none⟩))) (by have z1:=(hcell w1 (hw.tr (hQ.tr hS))).1;have z2:=(hcell w1 (hw.tr (hQ.tr hS))).2;go_simp),trivial⟩ ?_;intro a W ho hF;replace hQ:=hQ.tr ho;refine nR ⟨[],[],[],[]⟩ (some 7) (fun B=>pv B 0) (#[ah af 0,ah af 0]) 23 hF hF ?_;intro B7 W a G7 ho K7 hF;have acQ:=aG (hw.tr hQ).size G7;have acR:=aG hQ.size G7;replace hQ:=hQ.tr ho;replace hw:=hw.tr hQ;rename ak=>W7;have h7:=ay W7.heap.size W7;refine wP ⟨[],[],[],[]⟩ (#[ah af 0,ah af 0]) (#[ah af m.lo,ah af m.hi]) (aP 2) hF hF (aA K7 h7) ?_;intro W a up K7 hF;replace hw:=up.below (hw.tr h7) acQ;replace hQ:=up.below (hQ.tr h7) acR;clear up;rename ak=>Bo;have bU:=ay Bo.heap.size Bo;refine xd ?_;replace K2:=aA K2 (hQ.tr bU);replace K4:=aA K4 (hQ.tr bU);replace K5:=aA K5 (hQ.tr bU);replace K7:=aA K7 bU;have hmv:∀q,(Value.slice pz k cz).ownBlock=some q->E<=q/\q≠B7:=fun q hq=>by have:=hown.lt q hq;exact⟨this.1,by have:=acR;omega⟩
  have h7E:B7≠B5:=by have:=acR;have:=gE;omega
  replace hw:=(hw.tr bU)
  replace hown:=a8 hown (hQ.tr bU);replace hEW:E<=_:=aG hEW ((hQ.tr bU)).size;rename ak=>W;have HS:RG B2 B4 B5 B7 w.heap.size E k (b.sl (some ⟨g,off,none⟩) ml.length c1 p2 n2 c2 p3 n3 c3) #[ah af 0,ae none 0 0] lk m.lo m.hi w (ae pz k cz) ((jc pk (ml.take k) 0).map (ax af)) false false W:=⟨K2,K4,fun _=>K5,K7,fun _=>hown,hw,by have:=hw.size;have:=(ag.1 K5).1;omega⟩
  refine EJ kQ [
  fun v ds w9=>v=pv B5 1,
   fun v ds w9=>v=ae pz k cz,
   fun v ds w9=>v=pv B7 0,
   fun v ds w9=>v=ah af m.lo,
   fun v ds w9=>v=ae pq nq cq,
   fun v ds w9=>v=ah af (k:Int),
   fun v ds w9=>v=ah af ((1+k:Nat):Int),
   fun v ds w9=>v=ah af (pk (1+k):Int),
   fun v ds w9=>v=pv B7 1,
   fun v ds w9=>v=ah af m.hi,
   fun v ds w9=>v=pv B7 0,
   fun v ds w9=>v=ah af m.lo,
   fun v ds w9=>v=ah af (m.hi-m.lo),
   fun v ds w9=>v=ah af (nm:Int),
   fun v ds w9=>v=ah af (ym:Int),
   fun v ds w9=>v=ah af x,
   fun v ds w9=>∃q,v=ae (some ⟨q,0,none⟩) 1 1/\E<=q/\w9.heap[q]?=some (ar #[ah af x] 3 (0,0))/\some q≠(ae pz k cz:ai).ownBlock,
   fun v ds w9=>∃p c9,v=ae p (k+1) c9/\w9.ownsRow E 3 1 v (k+1) (((jc pk (ml.take k) 0).map (ax af))++[ah af x]),
   fun v ds w9=>v=pv B5 1,
   fun v ds w9=>∃u,ds[1]?=some u/\w9.heap[B5]?=some (ar #[ah af lk,u] 42 (0,0))]
   (fun L9 w9=>RG B2 B4 B5 B7 w.heap.size E k (b.sl (some ⟨g,off,none⟩) ml.length c1 p2 n2 c2 p3 n3 c3) #[ah af 0,ae none 0 0] lk m.lo m.hi w (ae pz k cz) ((jc pk (ml.take k) 0).map (ax af)) (L9 17) (L9 19) w9) [(1,ae pq nq cq),(5,pv B5 0),(6,ah af (k:Int)),(7,pv B7 0)] kQ hF.size ?rst (fun L1 L2 w1 w2 hl h hb=>h.next (hl 17) (hl 19) hb) (HS.drew) (by obtain⟨b7,-,b6,b5,-,-,b1,-⟩:=hF.base;exact⟨b1,b5,b6,b7,trivial⟩) ?reach ?rfin
  case rst=>
   refine⟨Ph.kS,Ph.kS,Ph.kS,Ph.kS,Ph.kS,Ph.kS,Ph.kS,Ph.kS,Ph.kS,Ph.kS,Ph.kS,Ph.kS,Ph.kS,Ph.kS,Ph.kS,Ph.kS,?_,?_,Ph.kS,?_,trivial⟩
   .rintro v ds L9 w1 w2 hS ⟨q,h1,h2,h3,h4⟩ hb;exact⟨q,h1,h2,(hb.block _ (ag.1 h3).1).trans h3,h4⟩
   .rintro v ds L9 w1 w2 hS ⟨p,c9,h1,h2⟩ hb;exact⟨p,c9,h1,a8 h2 hb⟩
   rintro v ds L9 w1 w2 hS ⟨x,h1,h2⟩ hb;exact⟨x,h1,(hb.block _ (ag.1 h2).1).trans h2⟩
  case reach=>
   refine⟨?_,?_,?_,?_,?_,?_,?_,?_,?_,?_,?_,?_,?_,?_,?_,?_,?_,?_,?_,?_,trivial⟩<;>(intro Lf ev w1 hn nG hS hc hg hf hb hd;obtain⟨b1,b5,b6,b7,-⟩:=hb)
   .exact Ph.t9
   .have d0:(ev (aD 37))=pv B5 1:=hd.1 rfl;have nW:=hS.k5 (hn 19 kQ);have z:=aF nW 1 (ae pz k cz) rfl;exact Ph.t9
   .exact Ph.t9
   .have d2:(ev (aD 39))=pv B7 0:=hd.1 rfl;have z:=aF hS.k7 0 (ah af m.lo) rfl;exact Ph.t9
   .exact Ph.t9
   .exact Ph.t9
   .have d5:(ev (aD 42))=ah af (k:Int):=hd.1 rfl;have hwr:IntKind.i64.wrap (1+(k:Int))=((1+k:Nat):Int):=by rw[bp];omega
    exact Ph.t9
   .have d4:(ev (aD 41))=ae pq nq cq:=hd.1 rfl;have d6:(ev (aD 43))=ah af ((1+k:Nat):Int):=hd.2.1 rfl;refine jV (f:=111) (args:=#[ae pq nq cq,ah af ((1+k:Nat):Int)]) ?_ (HP (1+k) w1 hS.below) ?_
    .go_simp
    rintro e w2 ⟨rfl,hb⟩;exact⟨_,rfl,rfl,bV hb⟩
   .exact Ph.t9
   .have d8:(ev (aD 45))=pv B7 1:=hd.1 rfl;have z:=aF hS.k7 1 (ah af m.hi) rfl;exact Ph.t9
   .exact Ph.t9
   .have d10:(ev (aD 47))=pv B7 0:=hd.1 rfl;have z:=aF hS.k7 0 (ah af m.lo) rfl;exact Ph.t9
   .have d9:(ev (aD 46))=ah af m.hi:=hd.1 rfl;have d11:(ev (aD 48))=ah af m.lo:=hd.2.1 rfl;have hwr:IntKind.i64.wrap (m.hi-m.lo)=m.hi-m.lo:=by rw[bp];omega
    exact Ph.t9
   .have d12:(ev (aD 49))=ah af (m.hi-m.lo):=hd.1 rfl;have hwr:IntKind.i64.wrap ((m.hi-m.lo)+1)=(nm:Int):=by rw[bp];omega
    exact Ph.t9
   .have d7:(ev (aD 44))=ah af (pk (1+k):Int):=hd.1 rfl;have d13:(ev (aD 50))=ah af (nm:Int):=hd.2.1 rfl;refine yN (v:=(ah af (ym:Int):ai)) (w':=w1) ?_ ⟨rfl,bV (ay _ _)⟩;exact Gf rfl d7 d13 oM hym
   .have d3:(ev (aD 40))=ah af m.lo:=hd.1 rfl;have d14:(ev (aD 51))=ah af (ym:Int):=hd.2.1 rfl;have hwr:IntKind.i64.wrap (m.lo+(ym:Int))=x:=by rw[bp];omega
    have aiF:IntKind.i64.wrap x=x:=by rw[bp];omega
    exact Ph.t9
   .have d15:(ev (aD 52))=ah af x:=hd.1 rfl;have hs3:=hS.sz;refine yN (v:=ae (some ⟨w1.heap.size,0,none⟩) 1 1) (w':=w1.alloc (ar #[ah af x] 3)) ?_ ⟨⟨_,rfl,hs3.2.2,aw _ _,fun h=>absurd ((hS.own (hn 17 kQ)).lt _ h.symm).2 oM⟩,bV dF⟩;go_simp
   .have d1:(ev (aD 38))=ae pz k cz:=hd.1 rfl;have d16:∃q,(ev (aD 53))=ae (some ⟨q,0,none⟩) 1 1/\E<=q/\w1.heap[q]?=some (ar #[ah af x] 3 (0,0))/\some q≠(ae pz k cz:ai).ownBlock:=hd.2.1 rfl;obtain⟨q,e53,hq0,hq,Uc⟩:=d16;have hown:=hS.own nG;refine Yields.mC (aD 38) (aD 53) 25 rfl E 3 i0 (ah af 0) 1 8 dt hi hz0 hz1 hz2 rfl dC (ae pz k cz) k ((jc pk (ml.take k) 0).map (ax af)) d1 hown ⟨q,0,none⟩ 1 1 [ah af x] e53 rfl ?_ (by intro u hu;simp at hu;subst hu;rfl) (by unfold gP;omega) oM hS.sz.2.2 ?_
    .intro n u hn9;have h5:=aF hq n u (by simpa using hn9);have e:(⟨q,0,none⟩:dc).add n=⟨q,n,none⟩:=by cases n<;>simp[jh]
     rw[e];exact h5
    intro v' w' hown' hgrow _;obtain⟨p',c',rfl⟩:=bP hown';refine⟨⟨p',c',rfl,hown'⟩,.inr ⟨hS.grown (by simp[Ph.upd]) (by simp[Ph.upd]) hgrow hmv gE,?_⟩⟩;intro t u ds hj hL hp
    match t,hp with
    |0,hp|1,hp|2,hp|3,hp|4,hp|5,hp|6,hp|7,hp|8,hp|9,hp|10,hp|11,hp|12,hp|13,hp|14,hp|15,hp=>exact hp
    |16,⟨q2,h1,h2,h3,h4⟩=>exact⟨q2,h1,h2,(hgrow.block q2 (ag.1 h3).1 h4).trans h3,h4⟩
    |17,_=>exact(hj rfl).elim
    |18,hp=>exact hp
    |19,_=>rw[hn 19 kQ] at hL;cases hL
    |t+20,_=>trivial
   .exact Ph.t9
   have d18:(ev (aD 55))=pv B5 1:=hd.1 rfl;have d17:∃p c9,(ev (aD 54))=ae p (k+1) c9/\w1.ownsRow E 3 1 (ev (aD 54)) (k+1) (((jc pk (ml.take k) 0).map (ax af))++[ah af x]):=hd.2.1 rfl;have d1:(ev (aD 38))=ae pz k cz:=hd.2.2.2.2.1 rfl;obtain⟨p,c9,h1,h2⟩:=d17;have nW:=hS.k5 nG;have z:=aF nW 1 (ae pz k cz) rfl;have f:=dm nW 1;refine Lag.Yields.skip (w':=w1.setCell ⟨B5,1,none⟩ (ev (aD 54))) ?_ ⟨⟨_,rfl,dn _ nW⟩,.inr ⟨(hS.put nW (by simp[Ph.upd]) (ev (aD 54)) 1 ⟨nH.1,nH.2,h7E,aiH⟩),?_⟩⟩
   .rw[h1];go_simp
   .intro t u ds hj hL hp
    match t,hp with
    |0,hp|1,hp|2,hp|3,hp|4,hp|5,hp|6,hp|7,hp|8,hp|9,hp|10,hp|11,hp|12,hp|13,hp|14,hp|15,hp=>exact hp
    |16,⟨q2,g1,g2,g3,g4⟩=>exact⟨q2,g1,g2,(aW _ _ _ _ (by rintro rfl;rw[nW] at g3;cases g3)).trans g3,g4⟩
    |17,⟨p2,c8,g1,g2⟩=>exact⟨p2,c8,g1,di g2 nW dC⟩
    |18,hp=>exact hp
    |19,_=>exact(hj rfl).elim
    |t+20,_=>trivial
  case rfin=>
   intro a W hR;have hS:=hR.s;obtain⟨p54,c54,e54,VN⟩:=hR.val 17;obtain⟨u,eu,nW⟩:=hR.val 19;have eu2:a.eval (aD 54)=u:=aT eu;replace e54:a.eval (aD 54)=_:=e54;rw[e54] at eu2;replace VN:W.ownsRow E 3 1 (a.eval (aD 54)) _ _:=VN;rw[e54] at VN;subst eu2;replace hF:=hR.fr hF kQ;clear hR eu e54;replace K2:=hS.k2;replace K4:=hS.k4;replace K5:=nW;replace hw:=hS.below;replace hEW:=hS.sz.2.2
   replace hown:W.ownsRow E 3 1 (ae p54 (k+1) c54) (k+1) ((jc pk (ml.take (k+1)) 0).map (ax af)):=by
    rw[Ad pk ml 0 k hlt,hme,dz,hx,d_];exact VN
   clear hS HS nW VN;have qo:=hF;replace hF:=hF.del 6;simp only[lQ,ic,bR,reduceIte] at hF;refine Ou ⟨[],[(1,ah af ((k:Int)+1))],[],[]⟩ [(6,ah af ((k:Int)+1))] qo hF trivial ⟨fun w1 hS _=>ge (congrArg (ax af) (show IntKind.i64.wrap ((k:Int)+1)=((k:Int)+1) by rw[bp];omega)),trivial⟩ ?_;intro a W ho hF;clear qo;replace hw:=hw.tr ho;replace K2:=aA K2 ho;replace K4:=aA K4 ho;replace K5:=aA K5 ho;replace hown:=a8 hown ho;replace hEW:=aG hEW ho.size;refine⟨⟨k+1,_,oM,⟨hF.size,hF.defers,(by obtain⟨b6,-,-,b5,b4,b2,b1,-⟩:=hF.base;exact⟨b6,b5,b4,b2,b1,trivial⟩)⟩,K2,K4,K5,hown,hw,hEW⟩,?_⟩;rw[show a.eval (aD 6)=ah af ((k:Int)+1) from(hF.g 0 rfl)];simp only[hk6];simp[intOf];omega
 replace hF:=hF.tl;refine wp_exit ?_;obtain rfl:k=ml.length:=by simp at PO;omega
 refine vI (N:=2) rfl ?_;refine jZ 0 1 1 ⟨[],[],[(B5,#[ah af lk,ae pz ml.length cz])],[]⟩ [(56,aO #[ah af lk,ae pz ml.length cz])] hF hF ⟨fun w1 hS=>⟨_,_,aA K5 (hQ.tr hS)⟩,trivial⟩ trivial ?_;intro a W ho hF;replace hQ:=hQ.tr ho;refine wP ⟨[],[],[],[]⟩ (#[ah af 0,ae none 0 0]) (#[ah af lk,ae pz ml.length cz]) (aP 2) hF hF (aA K4 hQ) ?_;intro W a up K4 hF;replace hown:=dY (a8 hown hQ) fun g hg=>up.block g (fun e=>by have:=(hown.lt g hg).1;have:=gE;omega);replace hw:=up.below (hw.tr hQ) acT;clear up;rename ak=>RF;have sG:=ay RF.heap.size RF;refine xd ?_;refine wp_ret ?_;refine bf (results_cell_row rfl _ _ B4 42 _ (0,0) _ (hF.g 3 rfl) (aA K4 sG) Tryz.underlying42 rfl kQ) hF.defers ⟨_,rfl,?_,(hw.tr sG)⟩;rw[IG] at hown;exact jn hown gE.2.2.2
def PR(b:BB)(bn aL az v:ai)(ml:List Mn)(M3:ml.length<=3)(lk:Int)(h0:0<=lk/\lk<=99)(br:List Int)(hbr:∀x∈br,0<=x/\x<=99)(hl:br.length=ml.length)(w:ak)(hm:Reads w bn ml.length (dX ml))(hv:Reads w v br.length (br.map (ax af))) :
  bm aq 112 #[aO (b.cells bn aL az),aO #[ah af lk,v]] w (Rt w (cR #[aO (jL lk br).cells,ah af 0])):=by
 rcases hv with⟨rfl,h1,-⟩|⟨g,off,cap,rfl,⟨-,H9⟩,hg,hcc⟩
 .obtain rfl:br=[]:=List.length_eq_zero_iff.1 h1;exact Nf b bn aL az ml M3 lk h0 hl.symm w hm
 exact Dz b bn aL az ml M3 lk h0 br hbr hl g off cap w hm hg H9 hcc
def uJ(b:BB)(p1 p2 p3 pb pq:Option dc)(c1 c2 c3 cb cq:Nat)(ml:List Mn)(ss:List Int)(ms:List Mk)(w:ak)(hL:Laid w)(hB:dh b (ae p1 ml.length c1) (ae p2 ss.length c2) (ae p3 ms.length c3) ml ss ms w)(lk:Int)(h0:0<=lk/\lk<=99)(br:List Int)(hbr:∀x∈br,0<=x/\x<=99)(hl:br.length=ml.length)(hv:Reads w (ae pb br.length cb) br.length (br.map (ax af)))(pl:List Int)(hp:eG b pl)(hq:Reads w (ae pq pl.length cq) pl.length (pl.map (ax af))):bm aq 32 #[aO (b.sl p1 ml.length c1 p2 ss.length c2 p3 ms.length c3),aO #[ah af lk,ae pb br.length cb],ae pq pl.length cq] w fun e w'=>∃v,e=aU (cR #[v,ah af 0])/\w'.ownsRow w.heap.size 3 1 v b.minutes.toNat ((b.j9 (b.cI+(jL lk br).used) (bE pl) b.minutes.toNat).map (ax af))/\Bw w w':=by
 have dp:=hB.ok;have AB:=dp.minutes;have oK:∀s∈pl,1<=s/\s<=8:=fun s h=>by have:=hp.mem s h;omega
 have Hh:bE pl<512:=mV pl oK;have M3:=hB.iF.len;have hao:=N8 h0 oM hbr;have uL:∀w9,Bw w w9->_:=fun w9 h9=>fh b _ _ _ ml ss ms w9 (hL.below h9) (hB.below h9);have HHd:∀w9,Bw w w9->_:=fun w9 h9=>PR b (ae p1 ml.length c1) (ae p2 ss.length c2) (ae p3 ms.length c3) (ae pb br.length cb) ml M3 lk h0 br hbr hl w9 (hB.below h9).rm (hv.below h9);have HPd:∀w9,Bw w w9->_:=fun w9 h9=>rq b dp (ae p1 ml.length c1) (ae p2 ss.length c2) (ae p3 ms.length c3) (ae pq pl.length cq) pl hp w9 (hq.below h9);have HPo:∀w9,Bw w w9->_:=fun w9 h9=>kW pl oK (ae pq pl.length cq) w9 (hq.below h9);clear hp oK hbr hv hq hL hB;generalize jL lk br=A at *;generalize bE pl=pn at *;have HPy:∀w9,_:=fun w9=>Af b dp (ae p1 ml.length c1) (ae p2 ss.length c2) (ae p3 ms.length c3) A hao pn Hh w9;generalize ml.length=n1 at *;generalize ss.length=n2 at *;generalize ms.length=n3 at *;generalize br.length=n4 at *;generalize pl.length=n5 at *;refine nY Tryz.func32 rfl rfl [(2,ae pq n5 cq),(1,aO #[ah af lk,ae pb n4 cb]),(0,aO (b.sl p1 n1 c1 p2 n2 c2 p3 n3 c3))] ⟨jB rfl,jB rfl,jB rfl,trivial⟩ fun a W hF hw=>?_;refine vI (N:=4) rfl ?_;refine nR ⟨[],[],[],[]⟩ (some 3) (fun B=>pv B 0) (b.sl p1 n1 c1 p2 n2 c2 p3 n3 c3) 28 hF hF ?_;intro B3 W a G3 ho K3 hF;have ake:=aG hw.size G3;replace hw:=hw.tr ho;rename ak=>W3;have h3:=ay W3.heap.size W3;refine nR ⟨[],[],[],[]⟩ (some 4) (fun B=>pv B 0) (#[ah af lk,ae pb n4 cb]) 42 hF hF ?_;intro B4 W a G4 ho K4 hF;have acT:=aG (hw.tr h3).size G4;have akd:=aG h3.size G4;replace h3:=h3.tr ho;replace hw:=hw.tr h3;rename ak=>W4;have h4:=ay W4.heap.size W4;refine lZ 2 2 0 [(6,ae none 0 0),(7,ah af 0)] hF ?_;intro a W ho hF;replace h4:=h4.tr ho;refine xd ?_;refine dZ ?_;refine EN ⟨[],[(1,ah af 0)],[(B3,(b.sl p1 n1 c1 p2 n2 c2 p3 n3 c3))],[]⟩ [(8,ah af 0)] hF hF ⟨fun w1 hS=>⟨_,_,aA K3 (h3.tr (h4.tr hS))⟩,trivial⟩ ⟨fun w1 hS _=>gc (uL w1 (hw.tr (h4.tr hS))),trivial⟩ ?_;intro a W ho hF;replace h4:=h4.tr ho;refine fe [(16,aH false)] hF ?_;intro a W ho hF;replace h4:=h4.tr ho;refine wp_cond (t:=false) (hF.g 0 rfl) ?_;replace hF:=hF.tl;refine eN ?_;refine vI (N:=4) rfl ?_;refine jZ 0 2 2 ⟨[],[],[(B3,(b.sl p1 n1 c1 p2 n2 c2 p3 n3 c3))],[]⟩ [(19,aO (b.sl p1 n1 c1 p2 n2 c2 p3 n3 c3))] hF hF ⟨fun w1 hS=>⟨_,_,aA K3 (h3.tr (h4.tr hS))⟩,trivial⟩ trivial ?_;intro a W ho hF;replace h4:=h4.tr ho;refine nR ⟨[],[],[],[]⟩ (some 9) (fun B=>pv B 0) (zP) 119 hF hF ?_;intro B9 W a G9 ho K9 hF;have aj7:=aG (hw.tr h4).size G9;have aj9:=aG (h3.tr h4).size G9;have aj8:=aG h4.size G9;replace h4:=h4.tr ho;replace hw:=hw.tr h4;replace h3:=h3.tr h4;rename ak=>W9;have h9:=ay W9.heap.size W9;refine wP ⟨[],[],[],[]⟩ (zP) (b.sl p1 n1 c1 p2 n2 c2 p3 n3 c3) (aP 15) hF hF (aA K9 h9) ?_;intro W a up K9 hF;replace hw:=up.below (hw.tr h9) aj7;replace h3:=up.below (h3.tr h9) aj9;replace h4:=up.below (h4.tr h9) aj8;clear up;rename ak=>JG;have ij:=ay JG.heap.size JG;refine xd ?_;refine vI (N:=9) rfl ?_;refine jZ 0 6 3 ⟨[],[(2,cR #[aO A.cells,ah af 0])],[(B9,(b.sl p1 n1 c1 p2 n2 c2 p3 n3 c3)),(B4,#[ah af lk,ae pb n4 cb])],[(1,1)]⟩ [(24,aO A.cells),(25,ah af 0)] hF hF ⟨fun w1 hS=>⟨_,_,aA K9 (ij.tr hS)⟩,fun w1 hS=>⟨_,_,aA K4 (h4.tr (ij.tr hS))⟩,trivial⟩ ⟨fun w1 hS _=>gc (HHd w1 (hw.tr (ij.tr hS))),trivial⟩ ?_;intro a W ho hF;replace ij:=ij.tr ho;refine nR ⟨[],[],[],[]⟩ (some 10) (fun B=>pv B 0) (#[ah af 0,ah af 0,ah af 0,ah af 0]) 134 hF hF ?_;intro B10 W a Ya ho Ha hF;have agh:=aG (hw.tr ij).size Ya;have agk:=aG (h3.tr ij).size Ya;have agj:=aG (h4.tr ij).size Ya;have F_:=aG ij.size Ya;replace ij:=ij.tr ho;replace hw:=hw.tr ij;replace h3:=h3.tr ij;replace h4:=h4.tr ij;rename ak=>W10;have h10:=ay W10.heap.size W10;refine wP ⟨[],[],[],[]⟩ (#[ah af 0,ah af 0,ah af 0,ah af 0]) A.cells (aP 4) hF hF (aA Ha h10) ?_;intro W a up Ha hF;replace hw:=up.below (hw.tr h10) agh;replace h3:=up.below (h3.tr h10) agk;replace h4:=up.below (h4.tr h10) agj;replace ij:=up.below (ij.tr h10) F_;clear up;rename ak=>Bo;have bU:=ay Bo.heap.size Bo;refine lZ 8 1 0 [(11,ah af 0)] hF ?_;intro a W ho hF;replace bU:=bU.tr ho;refine xd ?_;refine dZ ?_;refine fe [(27,aH false)] hF ?_;intro a W ho hF;replace bU:=bU.tr ho;refine wp_cond (t:=false) (hF.g 0 rfl) ?_;replace hF:=hF.tl;refine eN ?_;refine dZ ?_;refine EN ⟨[],[(2,ah af 0)],[(B9,(b.sl p1 n1 c1 p2 n2 c2 p3 n3 c3))],[]⟩ [(12,ah af 0)] hF hF ⟨fun w1 hS=>⟨_,_,aA K9 (ij.tr (bU.tr hS))⟩,trivial⟩ ⟨fun w1 hS _=>gc (HPd w1 (hw.tr (bU.tr hS))),trivial⟩ ?_;intro a W ho hF;replace bU:=bU.tr ho;refine fe [(33,aH false)] hF ?_;intro a W ho hF;replace bU:=bU.tr ho;refine wp_cond (t:=false) (hF.g 0 rfl) ?_;replace hF:=hF.tl;refine eN ?_;replace hF:=(hF.del 7).del 6;simp only[lQ,ic,bR,reduceIte] at hF;refine Jt kQ [pV (aO (b.sl p1 n1 c1 p2 n2 c2 p3 n3 c3)),pV (aO A.cells),pV (ae pq n5 cq),pV (ah af (pn:Int)),fun v _ w9=>w9.ownsRow w.heap.size 3 1 v b.minutes.toNat ((b.j9 (b.cI+A.used) pn b.minutes.toNat).map (ax af)),fun v _ w9=>w9.ownsRow w.heap.size 3 1 v b.minutes.toNat ((b.j9 (b.cI+A.used) pn b.minutes.toNat).map (ax af)),pV (ah af 0)] _ kQ hF.size hF.base ?_ ?_ ?_
 .refine⟨sV,sV,sV,sV,?_,?_,sV,trivial⟩<;>(rintro v ds w1 w2 hS h1 hb;exact a8 h1 hb)
 .refine⟨?_,?_,?_,?_,?_,?_,?_,trivial⟩<;>rintro ev w1 hS hc hg hf ⟨-,-,Ov,-,-,b9,-,-,-,-,b2,-,-,-⟩ hd
  .have lj:=aA K9 (ij.tr (bU.tr hS));exact BU 119 rfl b9 lj Tryz.underlying119 rfl kQ rfl
  .have lj:=aA Ha (bU.tr hS);exact BU 134 rfl Ov lj Tryz.underlying134 rfl kQ rfl
  .exact tV
  .have d2:ev (aD 37)=_:=hd.1 rfl;refine yq (HPo w1 (hw.tr (bU.tr hS))) ?_ (fun _=>rfl);go_simp
  .have d0:ev (aD 35)=_:=hd.1 rfl;have d1:ev (aD 36)=_:=hd.2.1 rfl;have d3:ev (aD 38)=_:=hd.2.2.1 rfl;refine jV (f:=114) (args:=#[aO (b.sl p1 n1 c1 p2 n2 c2 p3 n3 c3),aO A.cells,ah af (pn:Int)]) ?_ (HPy w1) ?_
   .go_simp
   rintro e w2 ⟨v,rfl,h1,hb⟩;exact⟨_,rfl,jn h1 (hw.tr (bU.tr hS)).size,bV hb⟩
  .have d4:w1.ownsRow w.heap.size 3 1 (ev (aD 39)) _ _:=hd.1 rfl;exact yN (v:=ev (aD 39)) (w':=w1) rfl ⟨d4,bV (ay _ _)⟩
  exact tV
 intro a W hR;have ho:=hR.s;have h6:W.ownsRow w.heap.size 3 1 (a.eval (aD 6)) _ _:=hR.val 5;have h7:a.eval (aD 7)=_:=hR.val 6;replace hF:=hR.fr hF kQ;clear hR;replace bU:=bU.tr ho;refine wp_ret ?_;refine bf (results_tmp2 rfl _ _ _) hF.defers ⟨_,congrArg (fun x=>bq (cR #[a.eval (aD 6),x])) h7,h6,(hw.tr bU)⟩
def gA{bs:Bool}:(jM bs=aH true)↔bs=true:=sM
def gB{bs x:Bool}:((if bs=true then jM x else au)=aH false)↔(bs && !x)=true:=by cases bs<;>cases x<;>simp[au]
def gCw{bs x:Bool}:((if bs=true then jM x else au)=aH true)↔(bs&&x)=true:=by cases bs<;>cases x<;>simp[au]
def eV.Wo{a:eV}(h:a.Ok)(i:Nat):0<=a.get i/\a.get i<=99:=by
 unfold eV.get;split
 .exact h.m0
 .exact h.m1
 exact h.m2
def eV.only(a:eV)(c:List Nat):eV:=c.foldl (fun k i=>k.put i (a.get i)) ⟨a.leak,0,0,0⟩
def Gq(b:BB)(all:List eV)(p n mask:Nat):Bool:=b.sure (all.map fun a=>a.only (ek n mask)) p
def Gp(bs f:Bool)(c l:List Int):Bool:=bs&&((!f||decide ((c.length:Int)>l.length))||(((c.length:Int)==(l.length:Int))&&decide (kx c l<0)))
def eV.YG{a:eV}(h:a.Ok)(c:List Nat):(a.only c).Ok:=by
 unfold eV.only
 have:∀(c:List Nat) (k:eV),k.Ok->(c.foldl (fun k i=>k.put i (a.get i)) k).Ok:=by
  intro c
  induction c with
  |nil=>exact fun k hk=>hk
  |cons i c ih=>exact fun k hk=>ih _ (eV.OY hk i (eV.Wo h i).1 (eV.Wo h i).2)
 exact this c _ ⟨h.leak,sM,sM,sM⟩
def jf(b:BB)(all:List eV)(p n:Nat):Nat->List Int × Bool
 |0=>([],false)
 |m+1=>if Gp (Gq b all p n m) (jf b all p n m).2 (vJ n m) (jf b all p n m).1 then(vJ n m,true) else jf b all p n m
def Z6(b:BB)(bn aL az:ai)(ml:List Mn)(ss:List Int)(ms:List Mk)(w:ak)(hL:Laid w)(hB:dh b bn aL az ml ss ms w)(hne:bu b ml ss ms≠[])(pl:List Int)(hp:eG b pl)(lv:ai)(hl:Reads w lv pl.length (pl.map (ax af))) :
  bm aq 27 #[aO (b.cells bn aL az),lv] w fun e w'=>∃v,e=aU (cR #[v,aH (jf b (bu b ml ss ms) (bE pl) ml.length (2 ^ ml.length)).2,ah af 0])/\Reads w' v (jf b (bu b ml ss ms) (bE pl) ml.length (2 ^ ml.length)).1.length ((jf b (bu b ml ss ms) (bE pl) ml.length (2 ^ ml.length)).1.map (ax af))/\Bw w w':=by
 have VT:=hB.iF.len;obtain⟨i0,hi,hz0,hz1,hz2⟩:=gQ info3;obtain⟨i1,Bv,MT,hy1,hy2⟩:=gQ Q6;have hlen:=jQ ss ms hB.ok hB.iF;have kY:0<(bu b ml ss ms).length:=dB.2 hne;have dp:=hB.ok;have hao:=oP (ss:=ss) (ms:=ms) hB.ok hB.iF;have AB:=dp.minutes;have oK:∀s∈pl,1<=s/\s<=8:=fun s h=>by have:=hp.mem s h;omega
 have Hh:bE pl<512:=mV pl oK;obtain⟨pm,cm,rfl,_⟩:=aR hB.rm;obtain⟨pn,cn,rfl,_⟩:=aR hB.rs;obtain⟨pk,ck,rfl,_⟩:=aR hB.rk;obtain⟨rj,rH,rfl,_⟩:=aR hl;have b1:Bw w (w.alloc (ar (b.sl pm ml.length cm pn ss.length cn pk ms.length ck) 28)):=dF;have hk:=aw w (ar (b.sl pm ml.length cm pn ss.length cn pk ms.length ck) 28)
 have XE:Hid (∀W cp,Bw w W->W.heap[cp]?=some (ar #[ae rj pl.length rH] 25 (0,0))->bm aq 103 #[aO (b.sl pm ml.length cm pn ss.length cn pk ms.length ck),.func (.func 164) #[] #[pv cp 0]] W fun e w'=>∃v,e=aU (cR #[aO (b.open (ae pm ml.length cm) (ae pn ss.length cn) (ae pk ms.length ck) v),ah af 0])/\iE w' W.heap.size v (bu b ml ss ms)/\Bw W w'):=
  aj fun W cp Lz V5=>Ey b _ _ _ ml ss ms W (hL.below Lz) (hB.below Lz) hne cp fun W' hb'=>by
   have hlt:=(ag.1 V5).1;exact EO b dp _ _ _ pl hp cp _ W' ((hb'.block _ hlt).trans V5) ((hl.below Lz).below hb')
 have LA:=aj hl;have T8:=aj hao;have ZY:=aj oK;clear hL hB hl hao hp oK;generalize bu b ml ss ms=all at *;generalize ml.length=lm at *;generalize ss.length=ln at *;generalize ms.length=lk at *
 go_enter Tryz.func27,Tryz.ntmps27
 go_wp2
 refine cy kQ [
 pV (aO (b.sl pm lm cm pn ln cn pk lk ck)),
  pV (ae rj pl.length rH),
  fun v ds w9=>∃cp,v=.func (.func 164) #[] #[pv cp 0]/\w9.heap[cp]?=some (ar #[ae rj pl.length rH] 25 (0,0)),
  fun v ds w9=>∃gv cv,v=cR #[aO (b.open (ae pm lm cm) (ae pn ln cn) (ae pk lk ck) (ae (some ⟨gv,0,none⟩) all.length cv)),ah af 0]/\iE w9 w.heap.size (ae (some ⟨gv,0,none⟩) all.length cv) all,
  fun v ds w9=>∃gv cv,v=cR #[aO (b.open (ae pm lm cm) (ae pn ln cn) (ae pk lk ck) (ae (some ⟨gv,0,none⟩) all.length cv)),ah af 0]/\iE w9 w.heap.size (ae (some ⟨gv,0,none⟩) all.length cv) all,
  fun v ds w9=>∃gv cv,v=aO (b.open (ae pm lm cm) (ae pn ln cn) (ae pk lk ck) (ae (some ⟨gv,0,none⟩) all.length cv))/\iE w9 w.heap.size (ae (some ⟨gv,0,none⟩) all.length cv) all,
  pV (ah af 0),
  fun v ds w9=>∃k,∃z:Array ai,v=pv k 0/\w.heap.size+1<=k/\w9.heap[k]?=some (ar z 122 (0,0))/\z.size=16,
  fun v ds w9=>∃k gv cv,ds[0]?=some (pv k 0)/\w.heap.size+1<=k/\w9.heap[k]?=some (ar (b.open (ae pm lm cm) (ae pn ln cn) (ae pk lk ck) (ae (some ⟨gv,0,none⟩) all.length cv)) 122 (0,0))/\iE w9 w.heap.size (ae (some ⟨gv,0,none⟩) all.length cv) all,
  pV (ah af 0)]
  (fun w9=>w9.heap[w.heap.size]?=some (ar (b.sl pm lm cm pn ln cn pk lk ck) 28 (0,0))/\Bw w w9) [(2,pv w.heap.size 0),(1,ae rj pl.length rH)] kQ ?rst (fun w1 w2 h hb=>⟨(hb.block _ (ag.1 h.1).1).trans h.1,h.2.trans (hb.mono h.2.size)⟩) (⟨hk,b1.drew⟩) ⟨rfl,rfl,trivial⟩ ?reach ?rfin
 case rst=>
  refine⟨sV,sV,?_,?_,?_,?_,sV,?_,?_,sV,trivial⟩
  .rintro v ds w1 w2 hS ⟨cp,h1,h2⟩ hb;exact⟨cp,h1,(hb.block _ (ag.1 h2).1).trans h2⟩
  .rintro v ds w1 w2 hS ⟨gv,cv,h1,h2⟩ hb;exact⟨gv,cv,h1,h2.at_ fun g hg=>hb.block g (h2.1.lt g hg).2⟩
  .rintro v ds w1 w2 hS ⟨gv,cv,h1,h2⟩ hb;exact⟨gv,cv,h1,h2.at_ fun g hg=>hb.block g (h2.1.lt g hg).2⟩
  .rintro v ds w1 w2 hS ⟨gv,cv,h1,h2⟩ hb;exact⟨gv,cv,h1,h2.at_ fun g hg=>hb.block g (h2.1.lt g hg).2⟩
  .rintro v ds w1 w2 hS ⟨k,z,h1,h2,h3,h4⟩ hb;exact⟨k,z,h1,h2,(hb.block _ (ag.1 h3).1).trans h3,h4⟩
  rintro v ds w1 w2 hS ⟨k,gv,cv,h1,h0,h3,h2⟩ hb;exact⟨k,gv,cv,h1,h0,(hb.block _ (ag.1 h3).1).trans h3,h2.at_ fun g hg=>hb.block g (h2.1.lt g hg).2⟩
 case reach=>
  refine⟨?_,?_,?_,?_,?_,?_,?_,?_,?_,?_,trivial⟩<;>rintro ev w1 hS hc hg hf ⟨b2,b1,-⟩ hd
  .have x0:=bZ hS.1;exact tV
  .exact tV
  .have d1:ev (aD 19)=_:=hd.1 rfl;refine jV (f:=104) (args:=#[ae rj pl.length rH]) ?_ (Le _ _ _ _) ?_
   .go_simp
   rintro e w2 ⟨rfl,rfl⟩;exact⟨_,rfl,⟨_,rfl,aw _ _⟩,bV dF⟩
  .have d0:ev (aD 18)=_:=hd.1 rfl;obtain⟨cp,EI,zl⟩:=hd.2.1 rfl;replace EI:ev (aD 20)=_:=EI;refine jV (f:=103) (args:=#[aO (b.sl pm lm cm pn ln cn pk lk ck),.func (.func 164) #[] #[pv cp 0]]) ?_ (XE.out w1 cp hS.2 zl) ?_
   .go_simp
   rintro e w2 ⟨v,rfl,jA,hb⟩
   obtain⟨gv,cv,rfl⟩:∃gv cv,v=ae (some ⟨gv,0,none⟩) all.length cv:=by
    rcases jA.1.2 with⟨_,h0⟩|⟨g,cap,cur,rfl,_⟩
    .omega
    exact⟨g,cap,rfl⟩
   exact⟨_,rfl,⟨gv,cv,rfl,jA.base hS.2.size⟩,bV hb⟩
  .exact yv rfl (hd.1 rfl)
  .obtain⟨gv,cv,e11,jA⟩:=hd.1 rfl;replace e11:ev (aD 17)=_:=e11;refine yv ?_ (⟨gv,cv,rfl,jA⟩);go_simp
  .obtain⟨gv,cv,e11,jA⟩:=hd.1 rfl;replace e11:ev (aD 17)=_:=e11;exact tV
  .refine yN (v:=pv w1.heap.size 0) (w':=w1.alloc (ar iM 122)) ?_ ⟨⟨_,_,rfl,(ag.1 hS.1).1,aw _ _,rfl⟩,bV dF⟩;go_simp
  .obtain⟨k,z,e6,rC,hk2,hz⟩:=hd.1 rfl;replace e6:ev (aD 7)=_:=e6;obtain⟨gv,cv,ND,jA⟩:=hd.2.1 rfl;replace ND:ev (aD 22)=_:=ND;have ED:∀g cs t,w1.heap[g]?=some (ar cs t (0,0))->t≠122->g≠k:=by rintro g cs t h1 h2 rfl;rw[hk2] at h1;cases h1;exact h2 rfl
   have FY:∀(v:ai),iE w1 w.heap.size v all->iE (w1.setRow k (b.open (ae pm lm cm) (ae pn ln cn) (ae pk lk ck) (ae (some ⟨gv,0,none⟩) all.length cv))) w.heap.size v all:=fun v ho=>ho.at_ fun g hg=>setRow_other (by
    obtain⟨cur,q1,_⟩:=ho.2 g hg
    exact ED g _ _ q1 dC)
   refine Lag.Yields.iB 122 _ _ rfl k _ e6 ND 122 z hk2 kQ hz (by simp[bJ]) ⟨⟨k,gv,cv,congrArg some e6,rC,cD hk2,FY _ jA⟩,.inr ⟨⟨(setRow_other oM).trans hS.1,dx hS.2 oM⟩,?_⟩⟩;intro j u ds hj hp
   match j,hp with
   |0,hp|1,hp=>exact hp
   |2,⟨cp,h1,h2⟩=>exact⟨cp,h1,(setRow_other (ED _ _ _ h2 dC)).trans h2⟩
   |3,⟨F7,Gm,h1,h2⟩=>exact⟨F7,Gm,h1,FY _ h2⟩
   |4,⟨F7,Gm,h1,h2⟩=>exact⟨F7,Gm,h1,FY _ h2⟩
   |5,⟨F7,Gm,h1,h2⟩=>exact⟨F7,Gm,h1,FY _ h2⟩
   |6,hp=>exact hp
   |7,⟨k',z',h1,h2,h3,h4⟩=>
    by_cases tP:k'=k
    .subst tP;exact⟨k',_,h1,h2,cD h3,rfl⟩
    exact⟨k',z',h1,h2,(setRow_other tP).trans h3,h4⟩
   |8,_=>exact(hj rfl).elim
   |9,hp=>exact hp
   |j+10,_=>trivial
  have d6:ev (aD 23)=_:=hd.1 rfl;refine yv (v:=ev (aD 23)) ?_ (d6);rfl
 case rfin=>
  intro a2 w2 hR;have hS:=hR.s;obtain⟨k,gv,cv,WU,rC,hk2,jA⟩:=hR.val 8;have e9:a2.tmps.getD 6 au=_:=hR.val 9;have ha:=hR.lits 116 rfl;simp only[aP,cJ,oh] at ha;rw[hR.kp 1,hR.kp 2,hR.kp 4,hR.kp 5] at ha;simp only[lr,gI,gH] at ha;clear hR;have e6:a2.tmps.getD 7 au=pv k 0:=aT WU;rw[e6,e9] at ha;generalize a2.tmps.getD=zz at ha;clear e6 WU e9;subst ha;have ur:=hS.1;have tE:=hS.2;clear hS;obtain⟨x0,x1,x2,x3,x4,x5,x6,x7,x8,x9,qY,qX,r8,rT,rW⟩:=bZ ur;have fx:=dm ur 12;have Dw:=jA.reads oM
  have HC:Hid (∀j u,(rowOf all)[j]?=some u->w2.cell? ⟨gv,0+j,none⟩=some u):=aj (by
   rcases Dw with⟨h0,_⟩|⟨g,off,cap,h0,_,_,h1⟩
   .cases h0
   cases h0;exact h1)
  have Dy:=(jA.1.lt gv rfl).2;have yB:=(ag.1 hk2).1;have hbl:=(ag.1 ur).1;have HK:=aj hk2;have HBo:=aj ur;have Hb:=aj tE;clear hk2 Dw ur tE jA hk b1 XE x0 x1 x2 x3 x4 x5 x6 x7 x8 x9 qY qX rT rW;generalize hL:all.length=L at *;have HL:=aj hL;clear hL;obtain⟨N,hN0⟩:∃N,N=2 ^ lm:=⟨_,rfl⟩
  have hN8:N<=8:=by
   have:lm=0\/lm=1\/lm=2\/lm=3:=oM;rcases this with h|h|h|h<;>subst h<;>omega
  have hN:wrap64 (2 ^ lm)=(N:Int):=by
   have:lm=0\/lm=1\/lm=2\/lm=3:=oM;rcases this with h|h|h|h<;>subst h<;>subst hN0<;>simp[wrap64]
  have HN0:=aj hN0;clear hN0;have HBe:Hid (Bw w2 w2):=aj (ay _ _);go_wp2;rw[hN];clear hN
  go_loopw [4,5,8,9,10,11,13,14,16,31] (fun v4 f _ _ _ _ _ _ _ i wr=>∃(M:Nat) (p4:Option dc) (c4:Nat),M<=N/\i=ah af M/\f=aH (jf b all (bE pl) lm M).2/\v4=ae p4 (jf b all (bE pl) lm M).1.length c4/\Reads wr (ae p4 (jf b all (bE pl) lm M).1.length c4) (jf b all (bE pl) lm M).1.length ((jf b all (bE pl) lm M).1.map (ax af))/\Bw w2 wr) (fun _ _ _ _ _ _ _ _ _ i _=>N-(intOf i).toNat)
  case atStart=>exact⟨0,none,0,fF _,sM,by simp[jf],by simp[jf],bV ⟨rfl,by simp[jf],by simp[jf]⟩,ay _ _⟩
  case round=>
   obtain⟨M,p4,c4,hM,rfl,rfl,rfl,hr4,eE⟩:=hrel;rename ak=>wo;have hsz:=eE.size
   by_cases hlt:M<N
   .have hst:jf b all (bE pl) lm (M+1)=if Gp (Gq b all (bE pl) lm M) (jf b all (bE pl) lm M).2 (vJ lm M) (jf b all (bE pl) lm M).1 then(vJ lm M,true) else jf b all (bE pl) lm M:=rfl
    generalize jf b all (bE pl) lm M=st at *;obtain⟨lc,f⟩:=st;simp only[] at hst hr4;have XA:=aj hst;have HR4:=aj hr4;have yL:=aj eE
    have Iy:Hid (∀w9,Bw wo w9->w9.heap[k]?=some (ar (b.open (ae pm lm cm) (ae pn ln cn) (ae pk lk ck) (ae (some ⟨gv,0,none⟩) L cv)) 122 (0,0))/\w9.heap[w.heap.size]?=some (ar (b.sl pm lm cm pn ln cn pk lk ck) 28 (0,0))/\(∀i u,(rowOf all)[i]?=some u->w9.cell? ⟨gv,0+i,none⟩=some u)):=aj fun w9 PQ=>by
     have h:=eE.trans (PQ.mono hsz);exact⟨(h.block _ yB).trans HK.out,(h.block _ hbl).trans HBo.out,fun i u hi=>(h.cell (p:=⟨gv,0+i,none⟩) Dy).trans (HC.out i u hi)⟩
    obtain⟨q1,q2,-⟩:=Iy.out wo (ay _ _);obtain⟨y0,y1,y2,y3,y4,y5,y6,y7,y8,y9,Ow,Qz,Qy,Qx,LD,JL⟩:=jO q1;have g2:(wo.alloc (ar #[ah af b.room,ah af b.depth,ah af b.least,ah af b.minutes,ah af b.cI,ah af b.jP,ah af b.ey,ah af b.iC,ah af b.ll,ah af b.lm,ah af b.pl,ah af b.pm,ae pm lm cm,ae pn ln cn,ae pk lk ck,ae none 0 0] 122)).heap[w.heap.size]?=some (ar (b.sl pm lm cm pn ln cn pk lk ck) 28 (0,0)):=(aY _ _ _ (ag.1 q2).1).trans q2;have z12:=aF g2 12 (ae pm lm cm) rfl;have aki:=dm g2 12;clear hst hr4 eE q1 q2 g2 r8 fx;have hb2:Bw wo (wo.alloc (ar #[ah af b.room,ah af b.depth,ah af b.least,ah af b.minutes,ah af b.cI,ah af b.jP,ah af b.ey,ah af b.iC,ah af b.ll,ah af b.lm,ah af b.pl,ah af b.pm,ae pm lm cm,ae pn ln cn,ae pk lk ck,ae none 0 0] 122)):=dF;have ho2:=aw wo (ar #[ah af b.room,ah af b.depth,ah af b.least,ah af b.minutes,ah af b.cI,ah af b.jP,ah af b.ey,ah af b.iC,ah af b.ll,ah af b.lm,ah af b.pl,ah af b.pm,ae pm lm cm,ae pn ln cn,ae pk lk ck,ae none 0 0] 122);have qp:=aj hb2;have HO2:=aj ho2;have ae6:(wo.alloc (ar #[ah af b.room,ah af b.depth,ah af b.least,ah af b.minutes,ah af b.cI,ah af b.jP,ah af b.ey,ah af b.iC,ah af b.ll,ah af b.lm,ah af b.pl,ah af b.pm,ae pm lm cm,ae pn ln cn,ae pk lk ck,ae none 0 0] 122)).heap.size=wo.heap.size+1:=sM;clear hb2 ho2;go_wp2
    go_loopw [9,11,40] (fun v9 _ i wr=>∃j:Nat,j<=lm/\i=ah af j/\wr.ownsRow (wo.heap.size+1) 3 1 v9 (ek j M).length ((ek j M).map fun(i:Nat)=>ax af (i:Int))/\Below (wo.heap.size+1) (wo.alloc (ar #[ah af b.room,ah af b.depth,ah af b.least,ah af b.minutes,ah af b.cI,ah af b.jP,ah af b.ey,ah af b.iC,ah af b.ll,ah af b.lm,ah af b.pl,ah af b.pm,ae pm lm cm,ae pn ln cn,ae pk lk ck,ae none 0 0] 122)) wr) (fun _ _ i _=>lm-(intOf i).toNat)
    case atStart=>exact⟨0,fF _,sM,dw _ _ _ _,ay _ _⟩
    case round=>
     obtain⟨j,hj,rfl,hown,zN⟩:=hrel;have hqs:=zN.size;rw[ae6] at hqs;have hcl:=rI j M;have hM5:M<512:=Nat.lt_of_lt_of_le hlt (aG hN8 dC)
     by_cases M6:j<lm
     .cases hb:M.testBit j
      .have e1:ek (j+1) M=ek j M:=by rw[sJ,hb];simp
       have Tm:=xR M j hM5;rw[hb] at Tm;have H1:=aj e1;clear e1;go_wp2;go_roundw
       case rel=>exact⟨j+1,oM,sM,by rw[H1.out];exact hown,zN⟩
       case measure=>simp[intOf];omega
      have e1:ek (j+1) M=ek j M++[j]:=by rw[sJ,hb];simp
      have Tm:=xR M j hM5;rw[hb] at Tm;have H1:=aj e1
      have Z1:Hid (∀(i:Nat) (u:ai),([ah af (j:Int)]:List ai)[i]?=some u->(wr.alloc (ar #[ah af (j:Int)] 3)).cell? ((⟨wr.heap.size,0,none⟩:dc).add i)=some u):=aj fun i u hj=>by
       match i,hj with
       |0,hj=>simp at hj;subst hj;simp[jh]
      clear e1
      go_wp2_with (at_builtin;refine wpList_append_own _ rfl _ _ 25 rfl (wo.heap.size+1) 3 i0 (ah af 0) 1 8 dt hi hz0 hz1 hz2 rfl dC u9 _ _ rfl (hown.alloc _) ⟨wr.heap.size,0,none⟩ 1 1 [ah af (j:Int)] rfl rfl Z1.out (by simp[bJ]) (by unfold gP;omega) oM sO ?_;intro v' w3 MX hgrow hnil)
      go_roundw
      case rel=>exact⟨j+1,oM,sM,by rw[H1.out,List.length_append,d_];exact MX,uI oM hown zN hgrow⟩
      case measure=>simp[intOf];omega
     obtain rfl:lm=j:=oM;rename ak=>wc;obtain⟨p9,c9,rfl⟩:=bP hown;have hbc:Bw wo wc:=qp.out.trans (zN.mono sM);have hoc:wc.heap[wo.heap.size]?=some (ar #[ah af b.room,ah af b.depth,ah af b.least,ah af b.minutes,ah af b.cI,ah af b.jP,ah af b.ey,ah af b.iC,ah af b.ll,ah af b.lm,ah af b.pl,ah af b.pm,ae pm lm cm,ae pn ln cn,ae pk lk ck,ae none 0 0] 122 (0,0)):=(zN.block _ sM).trans HO2.out;have aoA:=aF (Iy.out wc hbc).1 15 (ae (some ⟨gv,0,none⟩) L cv) rfl;have aqN:=dm (Iy.out wc hbc).1 15;have alb:=aj hown;have HBc:=aj hbc;have HOc:=aj hoc;have hcs:wo.heap.size+1<=wc.heap.size:=hqs;have hCb:∀i∈ek lm M,i<lm:=fun i hi=>by simp[ek] at hi;exact hi.1
     have Ts:=rI lm M;unfold Gq vJ at XA;clear hown zN hbc hoc y0 y1 y2 y3 y4 y5 y6 y7 y8 y9 Ow Qz Qy Qx LD JL z12 aki hqs;go_wp2;generalize ek lm M=C at *
     go_loopw [13,14,16,56] (fun _ _ _ i wr=>∃(j:Nat) (T9:Option dc) (c15:Nat),j<=L/\i=ah af j/\wr.heap[wo.heap.size]?=some (ar #[ah af b.room,ah af b.depth,ah af b.least,ah af b.minutes,ah af b.cI,ah af b.jP,ah af b.ey,ah af b.iC,ah af b.ll,ah af b.lm,ah af b.pl,ah af b.pm,ae pm lm cm,ae pn ln cn,ae pk lk ck,ae T9 j c15] 122 (0,0))/\wr.ownsRow (wo.heap.size+1) 134 4 (ae T9 j c15) j (rowOf ((all.take j).map fun a=>a.only C))/\wr.ownsRow (wo.heap.size+1) 3 1 (ae p9 C.length c9) C.length (C.map fun(i:Nat)=>ax af (i:Int))/\Bw wo wr) (fun _ _ _ i _=>L-(intOf i).toNat)
     case atStart=>exact⟨0,none,0,fF _,sM,HOc.out,dw _ _ _ _,alb.out,HBc.out⟩
     case round=>
      obtain⟨j,T9,c15,hj,rfl,XU,MV,Rf,zN⟩:=hrel;have hqs:=zN.size
      by_cases M6:j<L
      .rename ak=>wj;have KL:j<all.length:=by rw[HL.out];exact M6
       obtain⟨c0,c1,c2,c3⟩:=Reads.cell (w:=wj) (cap:=cv) (n:=L) (Iy.out wj zN).2.2 j KL;simp only[dz] at c0 c1 c2 c3;have hao:=T8.out _ (bS KL);have uX:(all.take (j+1)).map (fun a=>a.only C)=(all.take j).map (fun a=>a.only C)++[all[j].only C]:=by rw[bH KL,d_];rfl
       have HTk:=aj uX;have T7:=aj zN;have HOj:=aj XU;have HOA:=aj MV;have HOC:=aj Rf;have HAk:=aj hao;clear uX zN XU MV Rf hao;generalize all[j]=a at *;go_wp2;have hWs:((wj.alloc (ar a.cells 134)).alloc (ar (⟨a.leak,0,0,0⟩:eV).cells 134)).heap.size=wj.heap.size+2:=sM;have hAw:((wj.alloc (ar a.cells 134)).alloc (ar (⟨a.leak,0,0,0⟩:eV).cells 134)).heap[wj.heap.size]?=some (ar a.cells 134 (0,0)):=(aY _ _ _ sM).trans (aw wj _)
       have hKw:((wj.alloc (ar a.cells 134)).alloc (ar (⟨a.leak,0,0,0⟩:eV).cells 134)).heap[wj.heap.size+1]?=some (ar (⟨a.leak,0,0,0⟩:eV).cells 134 (0,0)):=by
        have:=aw (wj.alloc (ar a.cells 134)) (ar (⟨a.leak,0,0,0⟩:eV).cells 134);simpa using this
       have Lz:Bw wj ((wj.alloc (ar a.cells 134)).alloc (ar (⟨a.leak,0,0,0⟩:eV).cells 134)):=dF.alloc sM _;have HAw:=aj hAw;have HKw:=aj hKw;have HbW:=aj Lz;clear hAw hKw Lz c0 c1 c2 c3
       go_loopw [16,65] (fun _ i wr=>∃t:Nat,t<=C.length/\i=ah af t/\wr.heap[wj.heap.size+1]?=some (ar ((C.take t).foldl (fun k i=>k.put i (a.get i)) (⟨a.leak,0,0,0⟩:eV)).cells 134 (0,0))/\Below (wj.heap.size+1) ((wj.alloc (ar a.cells 134)).alloc (ar (⟨a.leak,0,0,0⟩:eV).cells 134)) wr) (fun _ i _=>C.length-(intOf i).toNat)
       case atStart=>exact⟨0,fF _,sM,HKw.out,ay _ _⟩
       case round=>
        obtain⟨t,ht,rfl,Rg,htx⟩:=hrel;have hts:=htx.size;rw[hWs] at hts;have Tm:Bw wj wr:=HbW.out.trans (htx.mono sM);have hAt:=(htx.block wj.heap.size sM).trans HAw.out;have hCt:=a8 HOC.out Tm;have HTx:=aj htx;have HBt:=aj Tm;have HKt:=aj Rg
        by_cases Pv:t<C.length
        .obtain⟨g9,rfl⟩:∃g9,p9=some ⟨g9,0,none⟩:=by
          rcases hCt.2 with⟨h1,h2⟩|⟨g,cap,cur,h1,_⟩
          .exfalso;simp at h1;omega
          exact⟨g,by simp at h1;exact h1.1⟩
         have hci:=hCt.cells (g:=g9) rfl t (ah af (C[t]:Nat)) (by simp[bT Pv]);have e9:(⟨g9,0,none⟩:dc).add t=⟨g9,t,none⟩:=by cases t<;>simp[jh]
         rw[e9] at hci;have hi3:C[t]<3:=by have:=hCb _ (bS Pv);omega
         have hfo:(C.take (t+1)).foldl (fun k i=>k.put i (a.get i)) (⟨a.leak,0,0,0⟩:eV)=((C.take t).foldl (fun k i=>k.put i (a.get i)) (⟨a.leak,0,0,0⟩:eV)).put C[t] (a.get C[t]):=by rw[bH Pv,ot];rfl
         have HFo:=aj hfo;generalize (C.take t).foldl (fun k i=>k.put i (a.get i)) (⟨a.leak,0,0,0⟩:eV)=kk at *;generalize C[t]=i at *
         have hx1:wr.cell? ⟨wj.heap.size,1+i,none⟩=some (ah af (a.get i)):=by
          match i,hi3 with
          |0,_=>exact aF hAt 1 _ rfl
          |1,_=>exact aF hAt 2 _ rfl
          |2,_=>exact aF hAt 3 _ rfl
         have hx2:wr.cell? ⟨wj.heap.size+1,1+i,none⟩=some (ah af (kk.get i)):=by
          match i,hi3 with
          |0,_=>exact aF Rg 1 _ rfl
          |1,_=>exact aF Rg 2 _ rfl
          |2,_=>exact aF Rg 3 _ rfl
         have hx3:=dm Rg (1+i);have hst:=RB i hi3 (a.get i) Rg;have HSe:=aj hst;clear hst hfo htx Tm hAt hCt Rg e9;go_wp2;go_roundw
         case rel=>exact⟨t+1,oM,sM,by rw[HFo.out];exact HSe.out,HTx.out.setCell (p:=⟨wj.heap.size+1,1+i,none⟩) (aJ _) _⟩
         case measure=>simp[intOf];omega
        obtain rfl:C.length=t:=oM;have tP:(C.take C.length).foldl (fun k i=>k.put i (a.get i)) (⟨a.leak,0,0,0⟩:eV)=a.only C:=by rw[IG];rfl
        rw[tP] at Rg;have HKt:=aj Rg;generalize a.only C=kk at *;have k0:=aF Rg 0 (ah af kk.leak) rfl;have k1:=aF Rg 1 (ah af kk.m0) rfl;have k2:=aF Rg 2 (ah af kk.m1) rfl;have k3:=aF Rg 3 (ah af kk.m2) rfl;have hot:wr.heap[wo.heap.size]?=some (ar #[ah af b.room,ah af b.depth,ah af b.least,ah af b.minutes,ah af b.cI,ah af b.jP,ah af b.ey,ah af b.iC,ah af b.ll,ah af b.lm,ah af b.pl,ah af b.pm,ae pm lm cm,ae pn ln cn,ae pk lk ck,ae T9 j c15] 122 (0,0)):=(Tm.block _ (ag.1 HOj.out).1).trans HOj.out;have hAA:=a8 HOA.out Tm;have hol:=(ag.1 hot).1;have JL:=aF hot 15 (ae T9 j c15) rfl
        have Z1:Hid (∀(i:Nat) (u:ai),kk.cells.toList[i]?=some u->(wr.alloc (ar kk.cells 134)).cell? ((⟨wr.heap.size,0,none⟩:dc).add i)=some u):=aj fun i u hj=>by
         have:=aw wr (ar kk.cells 134);have h5:=aF this i u (by simpa using hj);have e:(⟨wr.heap.size,0,none⟩:dc).add i=⟨wr.heap.size,i,none⟩:=by cases i<;>simp[jh]
         rw[e];exact h5
        have Lr:=aj hCt;have HAA:=aj hAA;have HOt:=aj hot;have hbo:wo.heap.size+1<=wr.heap.size:=oM;clear Rg htx Tm hAt hCt tP hot
        go_wp2_with (first
         |(at_builtin;refine wpList_append_own _ rfl _ _ 120 rfl (wo.heap.size+1) 134 i1 (aO #[ah af 0,ah af 0,ah af 0,ah af 0]) 4 32 Tryz.underlying120 Bv MT hy1 hy2 rfl dC (ae T9 j c15) j (rowOf ((all.take j).map fun a=>a.only C)) rfl (hAA.alloc (ar kk.cells 134)) ⟨wr.heap.size,0,none⟩ 1 1 kk.cells.toList rfl rfl Z1.out (by simp[bJ]) (by unfold gP;omega) oM (by first|omega|(simp;omega)) ?_;intro v' w5 VK hgrow hnil
           obtain⟨p16,c16,rfl⟩:=bP VK;have ho5:w5.heap[wo.heap.size]?=some (ar #[ah af b.room,ah af b.depth,ah af b.least,ah af b.minutes,ah af b.cI,ah af b.jP,ah af b.ey,ah af b.iC,ah af b.ll,ah af b.lm,ah af b.pl,ah af b.pm,ae pm lm cm,ae pn ln cn,ae pk lk ck,ae T9 j c15] 122 (0,0)):=(hgrow.block _ sO (gF hAA HOt.out dC)).trans ((aY _ _ _ hol).trans HOt.out);have hC5:=dY (W':=w5) (Lr.out.alloc (ar kk.cells 134)) fun g hg=>hgrow.block g ((Lr.out.alloc (ar kk.cells 134)).lt g hg).2 (su Lr.out hAA dC hg);have HO5:=aj ho5;have HC5:=aj hC5;have HW5:=aj VK;have HG5:=aj hgrow;have f15:=dm ho5 15;have z15:=aF ho5 15 (ae T9 j c15) rfl
           clear ho5 hC5 VK hgrow hnil))
        go_roundw
        case rel=>
         refine⟨j+1,p16,c16,oM,sM,dn _ HO5.out,?_,di HC5.out HO5.out dC,(((T7.out.trans (HBt.out.mono hqs)).alloc oM _).grown HG5.out sO (fun g hg=>by have:=(HAA.out.lt g hg).1;omega)).setCell (p:=⟨wo.heap.size,15,none⟩) (aJ _) _⟩;rw[HTk.out,Fh];exact di HW5.out HO5.out dC
        case measure=>simp[intOf];omega
      obtain rfl:L=j:=oM;rename ak=>wd;have uX:all.take L=all:=cQ (by rw[HL.out];exact aJ _);rw[uX] at MV;have hall:(all.map fun a=>a.only C).length=L:=by rw[eJ];exact HL.out
      have hrA:Reads wd (ae T9 L c15) (all.map fun a=>a.only C).length (rowOf (all.map fun a=>a.only C)):=by
       rw[hall];exact Reads.gG MV oM (by rw[Ss,hall];omega)
      have hrC:Reads wd (ae p9 C.length c9) (C.map fun(i:Nat)=>(i:Int)).length ((C.map fun(i:Nat)=>(i:Int)).map (ax af)):=by
       have h1:=Reads.gG Rf oM sM;rw[eJ,List.map_map];exact h1
      have hSu:=fun W (hb:Bw wd W)=>yT b dp (ae pm lm cm) (ae pn ln cn) (ae pk lk ck) (ae T9 L c15) (all.map fun a=>a.only C) (fun a ha=>by
       obtain⟨x,hx,rfl⟩:=List.mem_map.1 ha
       exact eV.YG (T8.out x hx) C) (bE pl) Hh W (hrA.below hb)
      have hrL:Reads wd (ae p4 lc.length c4) lc.length (lc.map (ax af)):=HR4.out.below zN;have hpl:Reads wd (ae rj pl.length rH) pl.length (pl.map (ax af)):=LA.out.below (Hb.out.trans ((yL.out.mono Hb.out.size).trans (zN.mono (by have:=Hb.out.size;omega))));have hcm:=fun W (hb:Bw wd W)=>sQ (C.map fun(i:Nat)=>(i:Int)) lc (ae p9 C.length c9) (ae p4 lc.length c4) W (hrC.below hb) (hrL.below hb);have Tc:=fun W (hb:Bw wd W)=>kW pl ZY.out (ae rj pl.length rH) W (hpl.below hb);have HSu:=aj hSu;have HCm:=aj hcm;have HPo:=aj Tc;have HRC:=aj hrC;have HRL:=aj hrL;have HQd:=aj zN;have HOd:=aj XU;clear hSu hcm Tc hrC hrL hrA hpl zN XU MV Rf uX hall;unfold Gp at XA;obtain⟨g12,PV⟩:∃r,decide ((C.length:Int)>lc.length)=r:=⟨_,rfl⟩
      obtain⟨g20,h20⟩:∃r,((C.length:Int)==(lc.length:Int))=r:=⟨_,rfl⟩
      obtain⟨Rz,Wl⟩:∃r,decide (kx (C.map fun(i:Nat)=>(i:Int)) lc<0)=r:=⟨_,rfl⟩
      simp only[eJ] at XA;rw[PV,h20,Wl] at XA;generalize b.sure (all.map fun a=>a.only C) (bE pl)=bs at *;go_wp2
      refine Gd.cy kQ [
      pV (aO (b.open (ae pm lm cm) (ae pn ln cn) (ae pk lk ck) (ae T9 L c15))),
       pV (ae rj pl.length rH),
       pV (ah af (bE pl)),
       pV (aH bs),
       pV (aH bs),
       fun v ds w9=>bs=true->v=aH f,
       fun v ds w9=>bs=true->v=aH (!f),
       pV ((if bs=true then jM (!f) else au)),
       fun v ds w9=>(bs && !(!f))=true->v=ae p9 C.length c9,
       fun v ds w9=>(bs && !(!f))=true->v=ah af C.length,
       fun v ds w9=>(bs && !(!f))=true->v=ae p4 lc.length c4,
       fun v ds w9=>(bs && !(!f))=true->v=ah af lc.length,
       fun v ds w9=>(bs && !(!f))=true->v=aH g12,
       fun v ds w9=>bs=true->v=aH (!f||g12),
       pV ((if bs=true then jM (!f||g12) else au)),
       fun v ds w9=>(bs && !(!f||g12))=true->v=ae p9 C.length c9,
       fun v ds w9=>(bs && !(!f||g12))=true->v=ah af C.length,
       fun v ds w9=>(bs && !(!f||g12))=true->v=ae p4 lc.length c4,
       fun v ds w9=>(bs && !(!f||g12))=true->v=ah af lc.length,
       fun v ds w9=>(bs && !(!f||g12))=true->v=aH g20,
       pV ((if (bs && !(!f||g12))=true then jM g20 else au)),
       fun v ds w9=>((bs && !(!f||g12))&&g20)=true->v=ae p9 C.length c9,
       fun v ds w9=>((bs && !(!f||g12))&&g20)=true->v=ae p4 lc.length c4,
       fun v ds w9=>((bs && !(!f||g12))&&g20)=true->v=ah af (kx (C.map fun(i:Nat)=>(i:Int)) lc),
       fun v ds w9=>((bs && !(!f||g12))&&g20)=true->v=aH Rz,
       fun v ds w9=>(bs && !(!f||g12))=true->v=aH (g20&&Rz),
       fun v ds w9=>bs=true->v=aH ((!f||g12)||(g20&&Rz)),
       pV (aH (bs&&((!f||g12)||(g20&&Rz))))]
       (fun w9=>Bw wd w9) [(1,ae rj pl.length rH),(4,ae p4 lc.length c4),(5,aH f),(9,ae p9 C.length c9),(10,pv wo.heap.size 0)] kQ ?rst (fun w1 w2 h hb=>h.trans (hb.mono h.size)) ((ay _ _).drew) ⟨rfl,rfl,rfl,rfl,rfl,trivial⟩ ?reach ?rfin
      case rst=>
       refine⟨sV,sV,sV,sV,sV,kS,kS,sV,kS,kS,kS,kS,kS,kS,sV,kS,kS,kS,kS,kS,sV,kS,kS,kS,kS,kS,kS,sV,trivial⟩
      case reach=>
       refine⟨?_,?_,?_,?_,?_,?_,?_,?_,?_,?_,?_,?_,?_,?_,?_,?_,?_,?_,?_,?_,?_,?_,?_,?_,?_,?_,?_,?_,trivial⟩<;>rintro ev w1 hS hc hg hf ⟨b1,b4,b5,b9,Ov,-⟩ hd
       .have q:=(Below.block hS _ (ag.1 HOd.out).1).trans HOd.out;exact BU 122 rfl Ov q Tryz.underlying122 rfl kQ (rfl)
       .exact tV
       .have d1:ev (aD 85)=_:=hd.1 rfl;refine yq (args:=#[ae rj pl.length rH]) (HPo.out _ hS) ?_ fun _=>rfl;go_simp
       .have d0:ev (aD 84)=_:=hd.1 rfl;have d2:ev (aD 86)=_:=hd.2.1 rfl;refine yc (args:=#[aO (b.open (ae pm lm cm) (ae pn ln cn) (ae pk lk ck) (ae T9 L c15)),ah af (bE pl)]) (HSu.out _ hS) ?_ fun _=>rfl;go_simp
       .have d3:ev (aD 87)=_:=hd.1 rfl;exact tV
       .have d4:ev (aD 88)=_:=hd.1 rfl;refine⟨fun hgd=>?_,fun hgd=>⟨?_,bV (ay _ _)⟩⟩
        .have hA:=gA.1 (d4.symm.trans hgd);refine yv (v:=(aH f:ai)) ?_ (fun _=>rfl);go_simp
        intro hc;exact absurd (d4.trans (gA.2 hc)) hgd
       .have d5:bs=true->(ev (aD 89))=aH f:=hd.1 rfl;have d4:ev (aD 88)=_:=hd.2.1 rfl;refine⟨fun hgd=>?_,fun hgd=>⟨?_,bV (ay _ _)⟩⟩
        .have hA:=gA.1 (d4.symm.trans hgd);have y5:=d5 hA;refine yv (v:=(aH (!f):ai)) ?_ (fun _=>rfl);go_simp
        intro hc;exact absurd (d4.trans (gA.2 hc)) hgd
       .have d6:bs=true->(ev (aD 90))=aH (!f):=hd.1 rfl;have d4:ev (aD 88)=_:=hd.2.1 rfl;refine⟨fun hgd=>?_,fun hgd=>⟨?_,bV (ay _ _)⟩⟩
        .have hA:=gA.1 (d4.symm.trans hgd);have y6:=d6 hA;refine yv (v:=aH (!f)) ?_ ((if_pos hA).symm);go_simp
        exact(if_neg (fun hc=>absurd (d4.trans (gA.2 hc)) hgd)).symm
       .have d7:ev (aD 91)=_:=hd.1 rfl;refine⟨fun hgd=>?_,fun hgd=>⟨?_,bV (ay _ _)⟩⟩
        .have hA:=gB.1 (d7.symm.trans hgd);refine yv (v:=(ae p9 C.length c9:ai)) ?_ (fun _=>rfl);go_simp
        intro hc;exact absurd (d7.trans (gB.2 hc)) hgd
       .have d8:(bs && !(!f))=true->(ev (aD 92))=ae p9 C.length c9:=hd.1 rfl;have d7:ev (aD 91)=_:=hd.2.1 rfl;refine⟨fun hgd=>?_,fun hgd=>⟨?_,bV (ay _ _)⟩⟩
        .have hA:=gB.1 (d7.symm.trans hgd);have y8:=d8 hA;refine yv (v:=(ah af C.length:ai)) ?_ (fun _=>rfl);go_simp
        intro hc;exact absurd (d7.trans (gB.2 hc)) hgd
       .have d7:ev (aD 91)=_:=hd.1 rfl;refine⟨fun hgd=>?_,fun hgd=>⟨?_,bV (ay _ _)⟩⟩
        .have hA:=gB.1 (d7.symm.trans hgd);refine yv (v:=(ae p4 lc.length c4:ai)) ?_ (fun _=>rfl);go_simp
        intro hc;exact absurd (d7.trans (gB.2 hc)) hgd
       .have d10:(bs && !(!f))=true->(ev (aD 94))=ae p4 lc.length c4:=hd.1 rfl;have d7:ev (aD 91)=_:=hd.2.1 rfl;refine⟨fun hgd=>?_,fun hgd=>⟨?_,bV (ay _ _)⟩⟩
        .have hA:=gB.1 (d7.symm.trans hgd);have Ow:=d10 hA;refine yv (v:=(ah af lc.length:ai)) ?_ (fun _=>rfl);go_simp
        intro hc;exact absurd (d7.trans (gB.2 hc)) hgd
       .have d9:(bs && !(!f))=true->(ev (aD 93))=ah af C.length:=hd.1 rfl;have d11:(bs && !(!f))=true->(ev (aD 95))=ah af lc.length:=hd.2.1 rfl;have d7:ev (aD 91)=_:=hd.2.2.1 rfl;refine⟨fun hgd=>?_,fun hgd=>⟨?_,bV (ay _ _)⟩⟩
        .have hA:=gB.1 (d7.symm.trans hgd);have y9:=d9 hA;have Qz:=d11 hA;refine yv (v:=aH g12) ?_ (fun _=>rfl);rw[<-PV];go_simp
        intro hc;exact absurd (d7.trans (gB.2 hc)) hgd
       .have d7:ev (aD 91)=_:=hd.1 rfl;have d12:(bs && !(!f))=true->(ev (aD 96))=aH g12:=hd.2.1 rfl;have d4:ev (aD 88)=_:=hd.2.2.1 rfl;refine⟨fun hgd=>?_,fun hgd=>⟨?_,bV (ay _ _)⟩⟩
        .have hA:=gA.1 (d4.symm.trans hgd);rcases Bool.eq_false_or_eq_true f with hf|hf
         .have y7:ev (aD 91)=aH false:=by rw[d7,if_pos hA,hf];rfl
          clear d7;have Qy:=d12 (by rw[hA,hf];rfl);refine yv (v:=aH g12) ?_ (fun _=>by rw[hf];simp);go_simp
         have y7:ev (aD 91)=aH true:=by rw[d7,if_pos hA,hf];rfl
         clear d7;refine yv (v:=aH true) ?_ (fun _=>by rw[hf];simp);go_simp
        intro hc;exact absurd (d4.trans (gA.2 hc)) hgd
       .have d13:bs=true->(ev (aD 97))=aH (!f||g12):=hd.1 rfl;have d4:ev (aD 88)=_:=hd.2.2.1 rfl;refine⟨fun hgd=>?_,fun hgd=>⟨?_,bV (ay _ _)⟩⟩
        .have hA:=gA.1 (d4.symm.trans hgd);have Qx:=d13 hA;refine yv (v:=aH (!f||g12)) ?_ ((if_pos hA).symm);go_simp
        exact(if_neg (fun hc=>absurd (d4.trans (gA.2 hc)) hgd)).symm
       .have d14:ev (aD 98)=_:=hd.1 rfl;refine⟨fun hgd=>?_,fun hgd=>⟨?_,bV (ay _ _)⟩⟩
        .have hA:=gB.1 (d14.symm.trans hgd);refine yv (v:=(ae p9 C.length c9:ai)) ?_ (fun _=>rfl);go_simp
        intro hc;exact absurd (d14.trans (gB.2 hc)) hgd
       .have d15:(bs && !(!f||g12))=true->(ev (aD 99))=ae p9 C.length c9:=hd.1 rfl;have d14:ev (aD 98)=_:=hd.2.1 rfl;refine⟨fun hgd=>?_,fun hgd=>⟨?_,bV (ay _ _)⟩⟩
        .have hA:=gB.1 (d14.symm.trans hgd);have JL:=d15 hA;refine yv (v:=(ah af C.length:ai)) ?_ (fun _=>rfl);go_simp
        intro hc;exact absurd (d14.trans (gB.2 hc)) hgd
       .have d14:ev (aD 98)=_:=hd.1 rfl;refine⟨fun hgd=>?_,fun hgd=>⟨?_,bV (ay _ _)⟩⟩
        .have hA:=gB.1 (d14.symm.trans hgd);refine yv (v:=(ae p4 lc.length c4:ai)) ?_ (fun _=>rfl);go_simp
        intro hc;exact absurd (d14.trans (gB.2 hc)) hgd
       .have d17:(bs && !(!f||g12))=true->(ev (aD 101))=ae p4 lc.length c4:=hd.1 rfl;have d14:ev (aD 98)=_:=hd.2.1 rfl;refine⟨fun hgd=>?_,fun hgd=>⟨?_,bV (ay _ _)⟩⟩
        .have hA:=gB.1 (d14.symm.trans hgd);have y17:=d17 hA;refine yv (v:=(ah af lc.length:ai)) ?_ (fun _=>rfl);go_simp
        intro hc;exact absurd (d14.trans (gB.2 hc)) hgd
       .have d16:(bs && !(!f||g12))=true->(ev (aD 100))=ah af C.length:=hd.1 rfl;have d18:(bs && !(!f||g12))=true->(ev (aD 102))=ah af lc.length:=hd.2.1 rfl;have d14:ev (aD 98)=_:=hd.2.2.1 rfl;refine⟨fun hgd=>?_,fun hgd=>⟨?_,bV (ay _ _)⟩⟩
        .have hA:=gB.1 (d14.symm.trans hgd);have y16:=d16 hA;have y18:=d18 hA;refine yv (v:=aH g20) ?_ (fun _=>rfl);rw[<-h20];go_simp
        intro hc;exact absurd (d14.trans (gB.2 hc)) hgd
       .have d19:(bs && !(!f||g12))=true->(ev (aD 103))=aH g20:=hd.1 rfl;have d14:ev (aD 98)=_:=hd.2.1 rfl;refine⟨fun hgd=>?_,fun hgd=>⟨?_,bV (ay _ _)⟩⟩
        .have hA:=gB.1 (d14.symm.trans hgd);have y19:=d19 hA;refine yv (v:=aH g20) ?_ ((if_pos hA).symm);go_simp
        exact(if_neg (fun hc=>absurd (d14.trans (gB.2 hc)) hgd)).symm
       .have d20:ev (aD 104)=_:=hd.1 rfl;refine⟨fun hgd=>?_,fun hgd=>⟨?_,bV (ay _ _)⟩⟩
        .have hA:=gCw.1 (d20.symm.trans hgd);refine yv (v:=(ae p9 C.length c9:ai)) ?_ (fun _=>rfl);go_simp
        intro hc;exact absurd (d20.trans (gCw.2 hc)) hgd
       .have d20:ev (aD 104)=_:=hd.1 rfl;refine⟨fun hgd=>?_,fun hgd=>⟨?_,bV (ay _ _)⟩⟩
        .have hA:=gCw.1 (d20.symm.trans hgd);refine yv (v:=(ae p4 lc.length c4:ai)) ?_ (fun _=>rfl);go_simp
        intro hc;exact absurd (d20.trans (gCw.2 hc)) hgd
       .have d21:((bs && !(!f||g12))&&g20)=true->(ev (aD 105))=ae p9 C.length c9:=hd.1 rfl;have d22:((bs && !(!f||g12))&&g20)=true->(ev (aD 106))=ae p4 lc.length c4:=hd.2.1 rfl;have d20:ev (aD 104)=_:=hd.2.2.1 rfl;refine⟨fun hgd=>?_,fun hgd=>⟨?_,bV (ay _ _)⟩⟩
        .have hA:=gCw.1 (d20.symm.trans hgd);have y21:=d21 hA;have y22:=d22 hA;refine jV (f:=98) (args:=#[ae p9 C.length c9,ae p4 lc.length c4]) ?_ (HCm.out _ hS) ?_
         .go_simp
         rintro e w2 ⟨rfl,rfl⟩;exact⟨_,rfl,fun _=>rfl,bV (ay _ _)⟩
        intro hc;exact absurd (d20.trans (gCw.2 hc)) hgd
       .have d23:((bs && !(!f||g12))&&g20)=true->(ev (aD 107))=ah af (kx (C.map fun(i:Nat)=>(i:Int)) lc):=hd.1 rfl;have d20:ev (aD 104)=_:=hd.2.1 rfl;refine⟨fun hgd=>?_,fun hgd=>⟨?_,bV (ay _ _)⟩⟩
        .have hA:=gCw.1 (d20.symm.trans hgd);have y23:=d23 hA;refine yv (v:=aH Rz) ?_ (fun _=>rfl);rw[<-Wl];go_simp
        intro hc;exact absurd (d20.trans (gCw.2 hc)) hgd
       .have d20:ev (aD 104)=_:=hd.1 rfl;have d24:((bs && !(!f||g12))&&g20)=true->(ev (aD 108))=aH Rz:=hd.2.1 rfl;have d14:ev (aD 98)=_:=hd.2.2.1 rfl;refine⟨fun hgd=>?_,fun hgd=>⟨?_,bV (ay _ _)⟩⟩
        .have hA:=gB.1 (d14.symm.trans hgd);have y20:ev (aD 104)=aH g20:=by rw[d20,if_pos hA]
         clear d20;rcases Bool.eq_false_or_eq_true g20 with hf|hf
         .have y24:=d24 (by rw[hA,hf];rfl);rw[hf] at y20;refine yv (v:=aH Rz) ?_ (fun _=>by rw[hf];simp);go_simp
         rw[hf] at y20;refine yv (v:=aH false) ?_ (fun _=>by rw[hf];simp);go_simp
        intro hc;exact absurd (d14.trans (gB.2 hc)) hgd
       .have d14:ev (aD 98)=_:=hd.1 rfl;have d25:(bs && !(!f||g12))=true->(ev (aD 109))=aH (g20&&Rz):=hd.2.1 rfl;have d4:ev (aD 88)=_:=hd.2.2.1 rfl;refine⟨fun hgd=>?_,fun hgd=>⟨?_,bV (ay _ _)⟩⟩
        .have hA:=gA.1 (d4.symm.trans hgd);have LD:ev (aD 98)=aH (!f||g12):=by rw[d14,if_pos hA]
         clear d14;rcases Bool.eq_false_or_eq_true (!f||g12) with hf | hf
         .rw[hf] at LD;refine yv (v:=aH true) ?_ (fun _=>by rw[hf];simp);go_simp
         have y25:=d25 (by rw[hA,hf];rfl);rw[hf] at LD;refine yv (v:=aH (g20&&Rz)) ?_ (fun _=>by rw[hf];simp);go_simp
        intro hc;exact absurd (d4.trans (gA.2 hc)) hgd
       have d4:ev (aD 88)=_:=hd.1 rfl;have d26:bs=true->(ev (aD 110))=aH ((!f||g12)||(g20&&Rz)):=hd.2.1 rfl;rcases Bool.eq_false_or_eq_true bs with hf|hf
       .have y26:=d26 hf;have y4:ev (aD 88)=aH true:=d4.trans (gA.2 hf);refine yv (v:=aH ((!f||g12)||(g20&&Rz))) ?_ (by show _=jM _;rw[hf];simp);go_simp
       have y4:ev (aD 88)=aH false:=d4.trans (by rw[hf]);refine yv (v:=aH false) ?_ (by show _=jM _;rw[hf];simp);go_simp
      case rfin=>
       intro a3 w3 hR;have hS:=hR.s;have e27:a3.tmps.getD 111 au=_:=hR.val 27;have ha:=hR.lits 116 rfl;simp only[aP,cJ,oh] at ha;rw[hR.kp 0,hR.kp 1,hR.kp 2,hR.kp 3,hR.kp 4,hR.kp 5,hR.kp 6,hR.kp 7,hR.kp 8,hR.kp 9,hR.kp 10,hR.kp 12,hR.kp 15,hR.kp 17,hR.kp 18,hR.kp 19,hR.kp 20,hR.kp 21,hR.kp 22,hR.kp 23,hR.kp 24,hR.kp 25,hR.kp 26,hR.kp 27,hR.kp 28,hR.kp 29,hR.kp 30,hR.kp 31,hR.kp 114,hR.kp 115] at ha;simp only[lr,gI,gH] at ha;clear hR;rw[e27] at ha;generalize a3.tmps.getD=zz at ha;have qz:=aj hS;clear e27 hS;subst ha;obtain⟨r,hr⟩:∃r,(bs&&((!f||g12)||(g20&&Rz)))=r:=⟨_,rfl⟩
       rw[hr] at XA;rw[hr];clear hr;have ak8:=aj (HRL.out.below qz.out);have ak7:=aj (HRC.out.below qz.out);have HBf:=aj (yL.out.trans ((HQd.out.trans (qz.out.mono HQd.out.size)).mono hsz));cases r
       .have hs:jf b all (bE pl) lm (M+1)=(lc,f):=by rw[XA.out];rfl
        have HS:=aj hs;clear hs;go_wp2;go_roundw
        case rel=>
         refine⟨M+1,p4,c4,oM,sM,?_,?_,?_,HBf.out⟩
         .rw[HS.out]
         .rw[HS.out]
         rw[HS.out];exact ak8.out
        case measure=>simp[intOf];omega
       have hs:jf b all (bE pl) lm (M+1)=(C.map fun(i:Nat)=>(i:Int),true):=by rw[XA.out];rfl
       have HS:=aj hs;clear hs;go_wp2;go_roundw
       case rel=>
        refine⟨M+1,p9,c9,oM,sM,?_,?_,?_,HBf.out⟩
        .rw[HS.out]
        .rw[HS.out];simp
        rw[HS.out];have:=ak7.out;simp only[eJ] at this ⊢;exact this
       case measure=>simp[intOf];omega
   obtain rfl:N=M:=oM;have HN1:=aj eE;have HR1:=aj hr4;clear eE hr4;rw[HN0.out] at HR1;go_wp2
   go_ret3
   exact⟨ae p4 (jf b all (bE pl) lm N).1.length c4,by rw[<-HN0.out];rfl,by rw[<-HN0.out] at HR1 ⊢;exact HR1.out,Hb.out.trans (HN1.out.mono Hb.out.size)⟩
def Zf(ml:List Mn)(i:Nat):Int:=match ml[i]? with|some m=>m.hi|none=>0
def most(b:BB)(ml:List Mn)(c:List Nat):Int:=b.lm+(c.map (Zf ml)).sum
def ig(ml:List Mn)(c:List Nat):List Mn:=c.filterMap fun i=>ml[i]?
def MJ(ml:List Mn):∀(c:List Nat),(∀i∈c,i<ml.length)->((ig ml c).map (·.hi)).sum=(c.map (Zf ml)).sum/\(ig ml c).length=c.length/\∀m∈ig ml c,m∈ml
 |[],_=>by simp[ig]
 |i::c,h=>by
  obtain⟨h1,h2,h3⟩:=MJ ml c fun j hj=>h j (bW _ hj);have hi:=h i sM;have e:ml[i]?=some ml[i]:=bT hi;have e2:ig ml (i::c)=ml[i]::ig ml c:=by unfold ig;rw[List.filterMap_cons,e]
  have e3:Zf ml i=ml[i].hi:=by unfold Zf;rw[e]
  rw[e2];refine⟨by simp only[cV,List.sum_cons,h1,e3],by simp[h2],fun m hm=>?_⟩;rcases bQ.1 hm with rfl|hm
  .exact bS _
  exact h3 m hm
structure Cl9(b:BB)(ml:List Mn)(ss:List Int)(ms:List Mk)(L:List Int):Prop where
 anO:ac8 (ms.length:Int) L=0
 len:L.length<=3
 some:bu b ml ss ms≠[]->L=[]
 none:bu b ml ss ms=[]->L≠[]/\∃q,q<2 ^ ms.length/\L=vJ ms.length q/\m9 b ml ss ms q=true/\(∀m,m<2 ^ ms.length->m9 b ml ss ms m=true->sA (vJ ms.length m) L=false)/\
  ∀i,i<L.length->∃r,r<2 ^ ms.length/\L.eraseIdx i=vJ ms.length r/\m9 b ml ss ms r=false
structure Low(l:List Int):Prop where
 bd:∀x∈l,1<=x/\x<=8
 Xn:l.Pairwise (· < ·)
def Dj:∀(l:List Int) (n k:Nat),(l.foldl (fun p s=>p ||| 2 ^ s.toNat) n).testBit k=(n.testBit k||l.any fun s=>decide (s.toNat=k))
 |[],n,k=>by simp
 |a::l,n,k=>by
  rw[List.foldl_cons,Dj l,Nat.testBit_or,Nat.testBit_two_pow];simp[List.any_cons,Bool.or_assoc]
def I_(l:List Int)(k:Nat):(bE l).testBit k=l.any fun s=>decide (s.toNat=k):=by
 unfold bE;rw[Dj];simp
def Fw{b:BB}(hb:b.Ok){l:List Int}(h:eG b l):Low l:=by
 have hm:=hb.minutes;refine⟨fun x hx=>by have:=h.mem x hx;omega,?_⟩;rw[Bq];intro i j hi hj VY
 induction j with
 |zero=>omega
 |succ j ih=>
  have h1:=h.Xn j hj;rcases Nat.lt_or_ge i j with e|e
  .have:=ih oM e;omega
  obtain rfl:i=j:=oM;exact h1
def Pn{b:BB}{l:List Int}(h:Low l)(hm:∀x∈l,x<=b.minutes)(hl:(l.length:Int)<=b.ey):eG b l:=
 ⟨fun p hp=>⟨(h.bd p hp).1,hm p hp⟩,fun k hk=>Bq.1 h.Xn k (k+1) oM hk oM,hl⟩
structure Goes(b:BB)(ss:List Int)(lD:Int)(xs:List Int):Prop where
 ok:eG b xs
 rest:∃r,xs=ss++r/\∀y∈r,lD<=y
structure Pl6(b:BB)(ss:List Int)(lD:Int)(l:List eV)(x y:List Int):Prop where
 gx:Goes b ss lD x
 gy:Goes b ss lD y
 sx:b.sure l (bE x)=true
 sy:b.sure l (bE y)=true
 len:x.length=y.length
 no:iv y x=false
 all:∀xs,Goes b ss lD xs->b.sure l (bE xs)=true->¬xs.length<x.length/\(xs.length=x.length->iv xs x=false/\iv y xs=false)
def nD(b:BB)(p m:Nat):Int:=(if p.testBit m then b.jP else 0)+if b.pl<=m/\m<=b.pm then b.iC else 0
def I0(b:BB)(used:Int)(p m:Nat)(n:Int):b.step used p m n=max 0 (min (n+nD b p m) b.holds-used):=by
 unfold BB.step nD;rw[Int.add_assoc]
def zV(L:List Int)(i k:Nat)(hk:k<L.length):(L.take (k+1)).eraseIdx i=if k=i then(L.take k).eraseIdx i else(L.take k).eraseIdx i++[L[k]]:=by
 rw[bH hk];have hl:(L.take k).length=k:=sO
 by_cases h:i<k
 .rw[if_neg oM,List.eraseIdx_append_of_lt_length oM]
 rw[List.eraseIdx_append_of_length_le oM,hl]
 by_cases e:k=i
 .subst e;rw[if_pos rfl,Nat.sub_self,List.eraseIdx_of_length_le (l:=L.take k) oM];simp
 rw[if_neg e,List.eraseIdx_of_length_le (l:=L.take k) oM];have h1:i-k=(i-k-1)+1:=oM;rw[h1];simp
def WX(L:List Int)(hL3:L.length<=3)(p1:Option dc)(c1 i:Nat)(w:ak)(hv:Reads w (ae p1 L.length c1) L.length (L.map (ax af))):bm aq 40 #[ae p1 L.length c1,ah af (i:Int)] w fun e w'=>∃v,e=bq v/\w'.ownsRow w.heap.size 3 1 v (L.eraseIdx i).length ((L.eraseIdx i).map (ax af))/\Bw w w':=by
 refine nY Tryz.func40 rfl rfl [(1,ah af (i:Int)),(0,ae p1 L.length c1)] ⟨jB rfl,jB rfl,trivial⟩ fun a W hF hw=>?_;refine fe [(4,ae none 0 0)] hF ?_;intro a W ho hF;replace hw:=hw.tr ho;refine fe [(5,ae none 0 0)] hF ?_;intro a W ho hF;replace hw:=hw.tr ho;refine dZ ?_;refine fe [(6,ah af 0)] hF ?_;intro a W ho hF;replace hw:=hw.tr ho;refine jC ?_;rename ak=>WB;have hB:=ay WB.heap.size WB;obtain⟨i0,hi,hz0,hz1,hz2⟩:=gQ info3;have hle:∀k,((L.take k).eraseIdx i).length<=3:=fun k=>by have h1:=List.length_eraseIdx_le (L.take k) i;have h3:(L.take k).length<=L.length:=(by simp;omega);omega
 refine wp_loop (fun a W=>∃(k:Nat) (v5:ai),k<=L.length/\W.ownsRow WB.heap.size 3 1 v5 ((L.take k).eraseIdx i).length (((L.take k).eraseIdx i).map (ax af))/\iw 24 a [(6,ah af (k:Int)),(5,v5),(4,ae none 0 0),(1,ah af (i:Int)),(0,ae p1 L.length c1)]/\Bw WB W) (fun a _=>L.length-(intOf (a.eval (aD 6))).toNat) ⟨0,ae none 0 0,fF _,by simpa using dw _ _ _ _,⟨hF.size,hF.defers,hF.base⟩,hB⟩ ?_;clear hF hB;rintro a W ⟨k,v5,hk,hown,hF,hB⟩;have hk6:a.eval (aD 6)=ah af (k:Int):=(hF.g 0 rfl)
 refine dZ ?_;refine fe [(10,aH (decide ((k:Int)<(L.length:Int))))] hF ?_;intro a W ho hF;replace hB:=hB.tr ho;replace hown:=a8 hown ho;refine b_ (t:=(decide ((k:Int)<(L.length:Int)))) (hF.g 0 rfl) (fun F5=>?_) (fun F5=>?_)
 .replace hF:=hF.tl;have hlt:k<L.length:=by simpa using F5
  refine eN ?_;refine dZ ?_;refine jC ?_;refine fe [(15,aH (!((k:Int)==(i:Int))))] hF ?_;intro a W ho hF;replace hB:=hB.tr ho;replace hown:=a8 hown ho;refine b_ (t:=(!((k:Int)==(i:Int)))) (hF.g 0 rfl) (fun Nb=>?_) (fun Nb=>?_)
  .replace hF:=hF.tl;have hne:¬k=i:=by simp at Nb;omega
   obtain⟨g,off,rfl,hg,hcell⟩:=hv.atK k hlt
   have HC:∀w9,Bw WB w9->w9.cell? ⟨g,off+k,none⟩=some (ah af L[k]):=fun w9 h9=>by
    have h8:=((hw.trans (h9.mono hw.size)).cell (p:=⟨g,off+k,none⟩) hg).trans (hcell k hlt);rw[show L.getD k 0=L[k] by simp[hlt]] at h8;exact h8
   have qo:=hF;replace hF:=hF.del 5;simp only[lQ,ic,bR,reduceIte] at hF;refine yI (N:=8) rfl ?_;refine jZ 0 5 3 ⟨[],[(3,pv g (off+k)),(4,ah af L[k])],[],[]⟩ [(16,v5),(20,ah af L[k])] qo hF trivial ⟨fun w1 hS _=>gs (eX 25 (ae (some ⟨g,off,none⟩) L.length c1) (ah af (k:Int))) (by have Bv:¬(L.length<=k):=(by omega);go_simp),fun w1 hS _=>gl (HC w1 (hB.tr hS)),trivial⟩ ?_;intro a W ho hF;replace hB:=hB.tr ho;replace hown:=a8 hown ho;refine nR ⟨[],[],[],[]⟩ (some 21) (fun B=>ae (some ⟨B,0,none⟩) 1 1) (#[ah af L[k]]) 3 hF hF ?_;intro B21 W a G21 ho K21 hF;have anr:=aG (hw.tr hB).size G21;have ans:=aG hB.size G21;replace hB:=hB.tr ho;replace hown:=a8 hown ho;replace hw:=hw.tr hB;rename ak=>W21;have h21:=ay W21.heap.size W21;refine Pa ⟨[],[],[],[]⟩ (some 22) (R:=fun v w9=>w9.ownsRow WB.heap.size 3 1 v (((L.take k).eraseIdx i).length+1) (((L.take k).eraseIdx i).map (ax af)++[ah af L[k]])/\W21.grownBy w9 v5.ownBlock) hF hF kQ (Yields.mC (aD 16) (aD 21) 25 kQ WB.heap.size 3 i0 (ah af 0) 1 8 dt hi hz0 hz1 hz2 rfl dC v5 _ _ kQ hown ⟨B21,0,none⟩ 1 1 [ah af L[k]] kQ rfl (fun j u hj=>by match j,hj with|0,hj=>(simp at hj;subst hj;exact aF K21 0 _ rfl)) (fun u hu=>by simp at hu;subst hu;rfl) (by have:=hle k;unfold gP;omega) (by have:=hle k;omega) (hB.tr h21).size fun v' w' h1 h2 _=>⟨h1,h2⟩) ?_;rintro v22 W ⟨hown2,hgr⟩ a hF;replace hB:=(hB.tr h21).grown hgr (hB.tr h21).size fun j hj=>(hown.lt j hj).1;replace hown:=hown2;clear hown2 hgr;refine lZ 7 1 0 [(5,v22)] hF ?_;intro a W ho hF;replace hB:=hB.tr ho;replace hown:=a8 hown ho;refine AQ ?_;have qo:=hF;replace hF:=hF.del 6;simp only[lQ,ic,bR,reduceIte] at hF;refine Ou ⟨[],[(1,ah af ((k:Int)+1))],[],[]⟩ [(6,ah af ((k:Int)+1))] qo hF trivial ⟨fun w1 hS _=>ge (congrArg (ax af) (show IntKind.i64.wrap ((k:Int)+1)=((k:Int)+1) by rw[bp];omega)),trivial⟩ ?_;intro a W ho hF;clear qo;replace hB:=hB.tr ho;replace hown:=a8 hown ho;have e9:=zV L i k hlt;rw[if_neg hne] at e9;refine⟨⟨k+1,v22,oM,by rw[e9];simpa using hown,⟨hF.size,hF.defers,(by obtain⟨b6,b5,-,-,-,-,b4,b1,b0,-⟩:=hF.base;exact⟨b6,b5,b4,b1,b0,trivial⟩)⟩,hB⟩,?_⟩;rw[show a.eval (aD 6)=ah af ((k:Int)+1) from(hF.g 0 rfl)];simp only[hk6];simp[intOf];omega
  replace hF:=hF.tl;have hne:k=i:=by simp at Nb;omega
  refine eN ?_;have qo:=hF;replace hF:=hF.tl;refine Ou ⟨[],[(1,ah af ((k:Int)+1))],[],[]⟩ [(6,ah af ((k:Int)+1))] qo hF trivial ⟨fun w1 hS _=>ge (congrArg (ax af) (show IntKind.i64.wrap ((k:Int)+1)=((k:Int)+1) by rw[bp];omega)),trivial⟩ ?_;intro a W ho hF;clear qo;replace hB:=hB.tr ho;replace hown:=a8 hown ho;have e9:=zV L i k hlt;rw[if_pos hne] at e9;refine⟨⟨k+1,v5,oM,by rw[e9];exact hown,⟨hF.size,hF.defers,hF.base⟩,hB⟩,?_⟩;rw[show a.eval (aD 6)=ah af ((k:Int)+1) from(hF.g 0 rfl)];simp only[hk6];simp[intOf];omega
 replace hF:=hF.tl;refine wp_exit ?_;obtain rfl:k=L.length:=by simp at F5;omega
 rw[IG] at hown;replace hF:=hF.del 4;simp only[lQ,ic,bR,reduceIte] at hF;refine fe [(4,v5)] hF ?_;intro a W ho hF;replace hB:=hB.tr ho;replace hown:=a8 hown ho;refine wp_ret ?_;exact bf (results_tmp rfl _ _ _) hF.defers ⟨_,congrArg bq (hF.g 0 rfl),jn hown hw.size,(hw.tr hB)⟩
def si(n:Nat):List Int:=(aP n).map fun(k:Nat)=>(k:Int)
def IW(n:Nat):(si n).length=n:=by simp[si]
def Oz(n:Nat):si (n+1)=si n++[(n:Int)]:=by simp[si,List.range_succ]
def Ux(n:Nat)(hn:n<=20)(w:ak):bm aq 41 #[ah af (n:Int)] w fun e w'=>∃v,e=bq v/\w'.ownsRow w.heap.size 3 1 v n ((si n).map (ax af))/\Bw w w':=by
 refine nY Tryz.func41 rfl rfl [(0,ah af (n:Int))] ⟨jB rfl,trivial⟩ fun a W hF hw=>?_;refine fe [(2,ae none 0 0)] hF ?_;intro a W ho hF;replace hw:=hw.tr ho;refine fe [(3,ae none 0 0)] hF ?_;intro a W ho hF;replace hw:=hw.tr ho;refine dZ ?_;refine fe [(4,ah af 0)] hF ?_;intro a W ho hF;replace hw:=hw.tr ho;refine jC ?_;rename ak=>WB;have hB:=ay WB.heap.size WB;obtain⟨i0,hi,hz0,hz1,hz2⟩:=gQ info3;refine wp_loop (fun a W=>∃(k:Nat) (v3:ai),k<=n/\W.ownsRow WB.heap.size 3 1 v3 k ((si k).map (ax af))/\iw 15 a [(4,ah af (k:Int)),(3,v3),(2,ae none 0 0),(0,ah af (n:Int))]/\Bw WB W) (fun a _=>n-(intOf (a.eval (aD 4))).toNat) ⟨0,ae none 0 0,fF _,dw _ _ _ _,⟨hF.size,hF.defers,hF.base⟩,hB⟩ ?_;clear hF hB;rintro a W ⟨k,v3,hk,hown,hF,hB⟩;have hk4:a.eval (aD 4)=ah af (k:Int):=(hF.g 0 rfl)
 refine dZ ?_;refine fe [(7,aH (decide ((k:Int)<(n:Int))))] hF ?_;intro a W ho hF;replace hB:=hB.tr ho;replace hown:=a8 hown ho;refine b_ (t:=(decide ((k:Int)<(n:Int)))) (hF.g 0 rfl) (fun hc7=>?_) (fun hc7=>?_)
 .replace hF:=hF.tl;have hlt:k<n:=by simpa using hc7
  refine eN ?_;refine dZ ?_;refine jC ?_;have qo:=hF;replace hF:=hF.del 3;simp only[lQ,ic,bR,reduceIte] at hF;refine yI (N:=5) rfl ?_;refine jZ 0 2 3 ⟨[],[],[],[]⟩ [(10,v3),(11,ah af (k:Int))] qo hF trivial trivial ?_;intro a W ho hF;replace hB:=hB.tr ho;replace hown:=a8 hown ho;refine nR ⟨[],[],[],[]⟩ (some 12) (fun B=>ae (some ⟨B,0,none⟩) 1 1) (#[ah af (k:Int)]) 3 hF hF ?_;intro B12 W a G12 ho K12 hF;have ant:=aG (hw.tr hB).size G12;have anu:=aG hB.size G12;replace hB:=hB.tr ho;replace hown:=a8 hown ho;replace hw:=hw.tr hB;rename ak=>W12;have PV:=ay W12.heap.size W12;refine Pa ⟨[],[],[],[]⟩ (some 13) (R:=fun v w9=>w9.ownsRow WB.heap.size 3 1 v (k+1) ((si k).map (ax af)++[ah af (k:Int)])/\W12.grownBy w9 v3.ownBlock) hF hF kQ (Yields.mC (aD 10) (aD 12) 25 kQ WB.heap.size 3 i0 (ah af 0) 1 8 dt hi hz0 hz1 hz2 rfl dC v3 _ _ kQ hown ⟨B12,0,none⟩ 1 1 [ah af (k:Int)] kQ rfl (fun j u hj=>by match j,hj with|0,hj=>(simp at hj;subst hj;exact aF K12 0 _ rfl)) (fun u hu=>by simp at hu;subst hu;rfl) (by unfold gP;omega) oM (hB.tr PV).size fun v' w' h1 h2 _=>⟨h1,h2⟩) ?_;rintro v13 W ⟨hown2,hgr⟩ a hF;replace hB:=(hB.tr PV).grown hgr (hB.tr PV).size fun j hj=>(hown.lt j hj).1;replace hown:=hown2;clear hown2 hgr;refine lZ 4 1 0 [(3,v13)] hF ?_;intro a W ho hF;replace hB:=hB.tr ho;replace hown:=a8 hown ho;refine AQ ?_;have qo:=hF;replace hF:=hF.del 4;simp only[lQ,ic,bR,reduceIte] at hF;refine Ou ⟨[],[(1,ah af ((k:Int)+1))],[],[]⟩ [(4,ah af ((k:Int)+1))] qo hF trivial ⟨fun w1 hS _=>ge (congrArg (ax af) (show IntKind.i64.wrap ((k:Int)+1)=((k:Int)+1) by rw[bp];omega)),trivial⟩ ?_;intro a W ho hF;clear qo;replace hB:=hB.tr ho;replace hown:=a8 hown ho;refine⟨⟨k+1,v13,oM,by rw[Oz];simpa using hown,⟨hF.size,hF.defers,(by obtain⟨b4,b3,-,-,-,-,b2,b0,-⟩:=hF.base;exact⟨b4,b3,b2,b0,trivial⟩)⟩,hB⟩,?_⟩;rw[show a.eval (aD 4)=ah af ((k:Int)+1) from(hF.g 0 rfl)];simp only[hk4];simp[intOf];omega
 replace hF:=hF.tl;refine wp_exit ?_;obtain rfl:k=n:=by simp at hc7;omega
 replace hF:=hF.del 2;simp only[lQ,ic,bR,reduceIte] at hF;refine fe [(2,v3)] hF ?_;intro a W ho hF;replace hB:=hB.tr ho;replace hown:=a8 hown ho;refine wp_ret ?_;refine bf (results_tmp rfl _ _ _) hF.defers ⟨_,congrArg bq (show a.eval (aD 2)=_ from(hF.g 0 rfl)),jn hown hw.size,(hw.tr hB)⟩
def Yo{b c:BB}{u v:Int}{p q m:Nat}{x y:Int}(hh:b.holds=c.holds)(hu:v<=u)(hm:nD b p m<=nD c q m)(hx:x<=y):b.step u p m x<=c.step v q m y:=by
 rw[I0,I0,hh];omega
def Xo{b c:BB}{u v:Int}{p q:Nat}(hr:b.room=c.room)(hh:b.holds=c.holds)(hu:v<=u)(hm:∀m,nD b p m<=nD c q m):∀m,b.Bx u p m<=c.Bx v q m
 |0=>by show b.room<=c.room;omega
 |m+1=>Yo hh hu (hm _) (Xo hr hh hu hm m)
def Yy{b c:BB}{u v:Int}{p q:Nat}(hr:b.room=c.room)(hh:b.holds=c.holds)(hu:v<=u)(hm:∀m,nD b p m<=nD c q m)(n k:Nat)(h1:k<(b.j9 u p n).length)(h2:k<(c.j9 v q n).length):(b.j9 u p n)[k]<=(c.j9 v q n)[k]:=by
 simp only[BB.j9,List.getElem_map,List.getElem_range];exact Xo hr hh hu hm (k+1)
def ni(x:Int):List Int->List Int
 |[]=>[x]
 |y::r=>if y<x then y::ni x r else if y=x then y::r else x::y::r
def qu(xs:List Int):List Int:=xs.foldl (fun l x=>ni x l) []
def uQ(xs:List Int)(k:Nat)(hk:k<xs.length):qu (xs.take (k+1))=ni xs[k] (qu (xs.take k)):=by
 unfold qu;rw[bH hk,ot];rfl
def MP(x:Int):∀l:List Int,(ni x l).length<=l.length+1
 |[]=>by simp[ni]
 |y::r=>by
  have:=MP x r;unfold ni;split
  .simp only[eT];omega
  split<;>simp
def BK(xs:List Int):∀k,(qu (xs.take k)).length<=k
 |0=>by simp[qu]
 |k+1=>by
  by_cases hk:k<xs.length
  .rw[uQ xs k hk];have:=MP xs[k] (qu (xs.take k));have:=BK xs k;omega
  rw[cQ oM];have:=BK xs k;rw[cQ oM] at this;omega
def Kz(x:Int):∀(l:List Int) (k:Nat) (hk:k<=l.length),(∀(j:Nat) (hj:j<k),l[j]<x)->(∀h:k<l.length,¬l[k]<x)->ni x l=if h:k<l.length then(if l[k]=x then l else l.take k++[x]++l.drop k) else l++[x]
 |[],k,hk,_,_=>by simp at hk;subst hk;rfl
 |y::r,0,_,_,h2=>by
  have h:=h2 sM;simp only[List.getElem_cons_zero] at h;simp only[ni,if_neg h,eT,Nat.zero_lt_succ,dif_pos,List.getElem_cons_zero,List.take_zero,List.drop_zero,List.nil_append,List.singleton_append]
 |y::r,k+1,hk,h1,h2=>by
  have h:=h1 0 oM;simp only[List.getElem_cons_zero] at h;have ih:=Kz x r k (by simpa using hk) (fun j hj=>by have:=h1 (j+1) oM;simpa using this) (fun h=>by have:=h2 (by simpa using h);simpa using this);simp only[ni,if_pos h,ih,eT,Nat.add_lt_add_iff_right,List.getElem_cons_succ,List.take_succ_cons,List.drop_succ_cons,fq]
  by_cases yB:k<r.length
  .simp only[dif_pos yB];split<;>rfl
  simp only[dif_neg yB]
def wV(x z:Int):∀l:List Int,z∈ni x l↔z=x\/z∈l
 |[]=>by simp[ni]
 |y::r=>by
  have ih:=wV x z r;unfold ni
  by_cases h:y<x
  .rw[if_pos h];simp only[bQ,ih];exact or_left_comm
  rw[if_neg h]
  by_cases h2:y=x
  .rw[if_pos h2,bQ];subst h2;constructor
   .intro h;exact .inr h
   rintro(h|h);exact bV h;exact h
  rw[if_neg h2,bQ]
def MQ(x:Int):∀l:List Int,l.Pairwise (· < ·)->(ni x l).Pairwise (· < ·)
 |[],_=>by simp[ni]
 |y::r,h=>by
  rw[List.pairwise_cons] at h;have ih:=MQ x r h.2;unfold ni
  by_cases h1:y<x
  .rw[if_pos h1,List.pairwise_cons];refine⟨fun z hz=>?_,ih⟩;rcases(wV x z r).1 hz with rfl|hz
   .exact h1
   exact h.1 z hz
  rw[if_neg h1]
  by_cases h2:y=x
  .rw[if_pos h2,List.pairwise_cons];exact h
  rw[if_neg h2,List.pairwise_cons,List.pairwise_cons];refine⟨fun z hz=>?_,h⟩;rcases bQ.1 hz with rfl|hz
  .omega
  have:=h.1 z hz;omega
def Jg(x:Int):∀l:List Int,(∀y∈l,y<x)->ni x l=l++[x]
 |[],_=>rfl
 |y::r,h=>by
  have h1:=h y sM;simp only[ni,if_pos h1,Jg x r fun z hz=>h z (by simp[hz]),fq]
def I2:∀(l:List Int),l.Pairwise (· < ·)->∀k,k<=l.length->qu (l.take k)=l.take k
 |l,h,0,_=>by simp[qu]
 |l,h,k+1,hk=>by
  rw[uQ l k oM,I2 l h k oM,bH oM];refine Jg _ _ fun y hy=>?_;obtain⟨j,hj,rfl⟩:=List.mem_iff_getElem.1 hy;rw[List.getElem_take];rw[II] at hj;exact Bq.1 h j k oM oM oM
def OE{l:List Int}(h:l.Pairwise (· < ·))(x:Int):qu (l++[x])=ni x l:=by
 have h1:=I2 l h l.length (aJ _);rw[IG] at h1;unfold qu at h1 ⊢;rw[ot,h1];rfl
def abC{b:BB}(hb:b.Ok){pl:List Int}(hp:eG b pl){n:Int}(h1:1<=n)(h2:n<=b.minutes)(hl:((ni n pl).length:Int)<=b.ey):eG b (ni n pl):=by
 have PD:=Fw hb hp;have hm:=hb.minutes;refine Pn ⟨fun x hx=>?_,MQ n pl PD.Xn⟩ (fun x hx=>?_) hl
 .rcases(wV n x pl).1 hx with rfl|hx
  .omega
  exact PD.bd x hx
 rcases(wV n x pl).1 hx with rfl|hx
 .exact h2
 exact(hp.mem x hx).2
def Vz{b:BB}(hb:b.Ok)(pl:List Int)(n:Int)(m:Nat):nD b (bE pl) m<=nD b (bE (ni n pl)) m:=by
 have hc:=hb.jP;unfold nD
 have h:(bE pl).testBit m=true->(bE (ni n pl)).testBit m=true:=by
  rw[I_,I_,xq,xq];rintro⟨s,h1,h2⟩;exact⟨s,(wV n s pl).2 (.inr h1),h2⟩
 by_cases h3:(bE pl).testBit m=true
 .rw[if_pos h3,if_pos (h h3)];omega
 rw[if_neg h3]
 by_cases h4:(bE (ni n pl)).testBit m=true
 .rw[if_pos h4];omega
 rw[if_neg h4];omega
def TG(f:Nat->Int):∀(n i:Nat),i<n->(∀j,j<n->0<=f j)->((((aP n).eraseIdx i).map f).sum)<=((aP n).map f).sum:=by
 intro n i hi hf
 have h:∀(l:List Nat) (i:Nat),(∀j∈l,0<=f j)->((l.eraseIdx i).map f).sum<=(l.map f).sum:=by
  intro l
  induction l with
  |nil=>intro i _;simp
  |cons a r ih=>
   intro i h;cases i with
   |zero=>simp only[List.eraseIdx_cons_zero,cV,List.sum_cons];have:=h a sM;omega
   |succ i=>simp only[List.eraseIdx_cons_succ,cV,List.sum_cons];have:=ih i fun j hj=>h j (by simp[hj]);omega
 exact h _ i fun j hj=>hf j (bO.1 hj)
def MB(a b:Int)(w:ak):(Builtin.max_ #[3,3] 3 #[ah af a,ah af b]).run aq w=.ok (ah af (max a b)) w:=by
 go_simp
def R9{p:Option dc}{n c:Nat}(h:(p=none/\n=0/\c=0)\/∃g off,p=some ⟨g,off,none⟩/\n<=c)(m:Nat)(hm:m<=n)(w:ak):(Instr.sliceAt 25 (ae p n c) none (some (ah af (m:Int))) none).run aq w=.ok (ae p m c) w:=by
 rcases h with⟨rfl,rfl,rfl⟩|⟨g,off,rfl,hc⟩
 .obtain rfl:m=0:=oM;go_simp
 have h1:(m:Int)<=(c:Int):=oM;have h2:(0:Int)<=(m:Int):=oM;go_simp
structure yM(w:ak)(os:List Obj)(w':ak):Prop where
 at_:∀i o,os[i]?=some o->w'.heap[w.heap.size+i]?=some o
 below:Bw w w'
 size:w.heap.size+os.length<=w'.heap.size
def yM.nil(w:ak):yM w [] w:=⟨sM,ay _ _,sM⟩
def yM.alloc{w w':ak}{os:List Obj}(h:yM w os w')(hs:w'.heap.size=w.heap.size+os.length)(o:Obj):yM w (os++[o]) (w'.alloc o):=by
 refine⟨fun i p hi=>?_,h.below.alloc oM o,sO⟩;rcases Nat.lt_trichotomy i os.length with h1|h1|h1
 .rw[List.getElem?_append_left h1] at hi;exact(aY _ _ _ oM).trans (h.at_ i p hi)
 .subst h1;simp at hi;subst hi;rw[<-hs];exact aw w' _
 rw[List.getElem?_eq_none sO] at hi;cases hi
def yM.next{w w1 w2:ak}{os:List Obj}(h:yM w os w1)(hb:Bw w1 w2):yM w os w2:=by
 have hs:=h.size;refine⟨fun i p hi=>(hb.block _ ?_).trans (h.at_ i p hi),h.below.trans (hb.mono oM),aG hs hb.size⟩;have:=(List.getElem?_eq_some_iff.1 hi).1;omega
def adb(w:ak)(A B C D:Obj):yM w [A,B,C,D] ((((w.alloc A).alloc B).alloc C).alloc D):=
 ((((yM.nil w).alloc sM A).alloc sM B).alloc sM C).alloc sM D
def P_{zs:List Int}(h:zs≠[]):Lib.compact zs≠[]:=by
 intro hc;unfold Lib.compact Lib.compactUpTo at hc;have h1:=List.map_eq_nil_iff.1 hc;have h2:(0:Nat)∈(aP zs.length).filter (Lib.keeps zs.toArray):=List.mem_filter.2 ⟨bO.2 (dB.2 h),Lib.keeps_lt_one _ 0 oM⟩;rw[h1] at h2;cases h2
def adA(b:BB)(bn aL az:ai)(ml:List Mn)(ss:List Int)(ms:List Mk)(w:ak)(hL:Laid w)(hB:dh b bn aL az ml ss ms w)(hne:bu b ml ss ms≠[])(pl:List Int)(hp:eG b pl)(mi:Nat)(h1:1<=mi)(h2:(mi:Int)<=b.minutes)
  (lv:ai) (hl:Reads w lv pl.length (pl.map (ax af))) :
  bm aq 60 #[aO (b.cells bn aL az),lv,ah af mi] w fun e w'=>∃x y r,iD (fun a=>b.Bx (b.cI+a.used) (bE pl) mi) (bu b ml ss ms)=x::r/\(x::r).getLast?=some y/\e=aU (cR #[aO #[ah af x,ah af y],ah af 0])/\Bw w w':=by
 have hlen:=jQ ss ms hB.ok hB.iF;have kY:0<(bu b ml ss ms).length:=dB.2 hne;have dp:=hB.ok;have hao:=oP (ss:=ss) (ms:=ms) hB.ok hB.iF;obtain⟨pm,cm,rfl,_⟩:=aR hB.rm;obtain⟨pn,cn,rfl,_⟩:=aR hB.rs;obtain⟨pk,ck,rfl,_⟩:=aR hB.rk;obtain⟨rj,rH,rfl,_⟩:=aR hl;have ht:=adb w (ar (b.sl pm ml.length cm pn ss.length cn pk ms.length ck) 28) (ar #[ae rj pl.length rH] 25) (ar #[ah af mi] 3) (ar #[ah af 0,ah af 0] 23)
 have hop:=U5 b (ae pm ml.length cm) (ae pn ss.length cn) (ae pk ms.length ck) ml ss ms _ (hL.below ht.below) (hB.below ht.below) hne (w.heap.size+1) (w.heap.size+2) (fun W hb=>by
  have hw:=hb
  exact Xq b dp _ _ _ pl hp mi h1 h2 _ _ _ W ((hb.block (w.heap.size+1) sM).trans (ht.at_ 1 _ rfl)) ((hb.block (w.heap.size+2) sM).trans (ht.at_ 2 _ rfl)) ((hl.below ht.below).below hb))
 have HO:=aj hop;have HT:=aj ht;have HRl:=aj hl;have T8:=aj hao;clear hop ht hL hB hl hao;generalize hall:bu b ml ss ms=all at *;clear hall;generalize ml.length=lm at *;generalize ss.length=ln at *;generalize ms.length=lk at *;obtain⟨of,hof⟩:∃of:eV->Int,(fun a=>b.Bx (b.cI+a.used) (bE pl) mi)=of:=⟨_,rfl⟩
 rw[hof];have HOf:=aj hof;clear hof
 go_enter Tryz.func60,Tryz.ntmps60
 go_wp2_with (first
  |(go_at_call 103;refine HO.out.mono ?_;clear HO;rintro e w1 ⟨v,rfl,jA,hb1⟩
    have tO:=HT.out.next hb1
    obtain⟨gv,cv,rfl⟩:∃gv cv,v=ae (some ⟨gv,0,none⟩) all.length cv:=by
     rcases jA.1.2 with⟨_,h0⟩|⟨g,cap,cur,rfl,_⟩
     .omega
     exact⟨g,cap,rfl⟩
    have qf:=aj tO;have XB:Hid (Reads (w1.alloc (ar (b.open (ae pm lm cm) (ae pn ln cn) (ae pk lk ck) (ae (some ⟨gv,0,none⟩) all.length cv)) 122)) (ae (some ⟨gv,0,none⟩) all.length cv) all.length (rowOf all)):=aj ((jA.reads oM).below dF)
    have HNu:=aj (Mu b (ae pm lm cm) (ae pn ln cn) (ae pk lk ck) all hne oM of w1.heap.size (w.heap.size+1) (w.heap.size+2) _ _ XB.out (fun a ha W hb=>by
     have q:=(qf.out.next ((ay _ _).alloc (aJ _) (ar (b.open (ae pm lm cm) (ae pn ln cn) (ae pk lk ck) (ae (some ⟨gv,0,none⟩) all.length cv)) 122))).next hb
     have q1:=(hb.block w1.heap.size sM).trans (aw w1 _);rw[<-HOf.out]
     exact Xp b dp _ _ _ _ pl hp mi h1 h2 a (T8.out a ha) _ _ _ _ W q1 (q.at_ 1 _ rfl) (q.at_ 2 _ rfl) (HRl.out.below q.below)))
    clear tO jA hb1)
  |(go_at_call 124;refine HNu.out.mono ?_;rintro e w2 ⟨gn,cgn,rfl,ho2,hb2⟩;have HO2:=aj ho2;have qp:=aj hb2;clear ho2 hb2))
 have hq:=(qf.out.next ((ay _ _).alloc (aJ _) (ar (b.open (ae pm lm cm) (ae pn ln cn) (ae pk lk ck) (ae (some ⟨gv,0,none⟩) all.length cv)) 122))).next qp.out
 have Ji:iD of all≠[]:=by
  have h1:sorted (all.map of)≠[]:=by
   intro h;have h2:(sorted (all.map of)).length=(all.map of).length:=yP _;rw[h] at h2;simp at h2;exact hne (List.eq_nil_of_length_eq_zero h2.symm)
  exact P_ h1
 have hnl:(iD of all).length<=1000:=by
  have h1:=Lib.compact_length_le (sorted (all.map of));have h2:(sorted (all.map of)).length=all.length:=(yP _).trans (eJ _);unfold iD;omega
 obtain⟨x,r,hxr⟩:∃x r,iD of all=x::r:=by
  cases h:iD of all with
  |nil=>exact(Ji h).elim
  |cons x r=>exact⟨x,r,rfl⟩
 have hN:∃N,(iD of all).length=N:=⟨_,rfl⟩
 obtain⟨N,hN⟩:=hN;have hN1:1<=N:=by rw[<-hN,hxr];simp
 obtain⟨y,hy⟩:∃y,(iD of all)[N-1]?=some y:=⟨_,bT oM⟩
 obtain⟨cur,hgb,Dy,hc0,hcl⟩:∃cur:Array ai,w2.heap[gn]?=some (ar cur 3 (0,0))/\w1.heap.size+1<=gn/\cur[0]?=some (ah af x)/\cur[N-1]?=some (ah af y):=by
  rcases HO2.out.2 with⟨h0,_⟩|⟨g',cap',cur,h0,hb0,h1,h2,h3,h4,h5⟩
  .cases h0
  cases h0;rw[Nat.mul_one,hN] at h5
  have hz:∀(j:Nat) (u:Int),(iD of all)[j]?=some u->cur[j]?=some (ah af u):=fun j u hj=>by
   have h6:(cur.toList.take N)[j]?=some (ax af u):=by rw[h5,List.getElem?_map,hj];rfl
   rw[List.getElem?_take] at h6;split at h6
   .simpa using h6
   cases h6
  refine⟨cur,h1,by simpa using hb0,hz 0 x (by rw[hxr];rfl),hz _ _ hy⟩
 have aiM:=qf.out.size;simp at aiM;have hwr:IntKind.i64.wrap ((N:Int)-1)=((N-1:Nat):Int):=by rw[fO _ oM oM];omega
 have i1:((N-1:Nat):Int)<(N:Int):=oM;have i2:(0:Int)<=((N-1:Nat):Int):=oM;have i3:(0:Int)<(N:Int):=oM;have hgB:gn≠w.heap.size+1+1+1:=oM;have HXR:=aj hxr;have HY:=aj hy;have HNN:=aj hN;rw[hN];clear hxr hy Ji hnl hN XB HNu HO2 HRl T8 HT
 refine cy kQ [
 pV (ae (some ⟨gn,0,none⟩) N cgn),
  pV (pv gn 0),
  pV (ah af x),
  pV (ae (some ⟨gn,0,none⟩) N cgn),
  pV (ae (some ⟨gn,0,none⟩) N cgn),
  pV (ah af N),
  pV (ah af ((N-1:Nat):Int)),
  pV (pv gn (N-1)),
  pV (ah af y),
  pV (aO #[ah af x,ah af y]),
  fun v ds w9=>w9.heap[w.heap.size+1+1+1]?=some (ar #[ah af x,ah af y] 23 (0,0)),
  pV (ah af 0)]
  (fun w9=>w9.heap[gn]?=some (ar cur 3 (0,0))/\(∃z1 z2,w9.heap[w.heap.size+1+1+1]?=some (ar #[z1,z2] 23 (0,0)))/\Bw w w9) [(10,ae (some ⟨gn,0,none⟩) N cgn),(6,pv (w.heap.size+1+1+1) 0)] kQ ?rst (fun w1 w2 h hb=>⟨(hb.block _ (ag.1 h.1).1).trans h.1,h.2.1.imp fun z1 h1=>h1.imp fun z2 h2=>(hb.block _ (ag.1 h2).1).trans h2,h.2.2.trans (hb.mono h.2.2.size)⟩) (⟨hgb,⟨_,_,hq.at_ 3 _ rfl⟩,hq.below.drew⟩) ⟨rfl,rfl,trivial⟩ ?reach ?rfin
 case rst=>
  refine⟨sV,sV,sV,sV,sV,sV,sV,sV,sV,sV,?_,sV,trivial⟩;rintro v ds w1 w2 hS h hb;exact(hb.block _ (ag.1 h).1).trans h
 case reach=>
  refine⟨?_,?_,?_,?_,?_,?_,?_,?_,?_,?_,?_,?_,trivial⟩<;>rintro ev w1 hS hc hg hf ⟨Ov,b6,-⟩ hd
  .exact tV
  .have d0:ev (aD 24)=_:=hd.1 rfl;refine yv ?_ rfl;go_simp;intro hx;exfalso;omega
  .have d1:ev (aD 25)=_:=hd.1 rfl;have z:=aF hS.1 0 _ hc0;exact tV
  .exact tV
  .exact tV
  .have d4:ev (aD 28)=_:=hd.1 rfl;exact tV
  .have d5:ev (aD 29)=_:=hd.1 rfl;exact tV
  .have d3:ev (aD 27)=_:=hd.1 rfl;have d6:ev (aD 30)=_:=hd.2.1 rfl;exact tV
  .have d7:ev (aD 31)=_:=hd.1 rfl;have z:=aF hS.1 _ _ hcl;exact tV
  .have d2:ev (aD 26)=_:=hd.1 rfl;have d8:ev (aD 32)=_:=hd.2.1 rfl;exact tV
  .have d9:ev (aD 33)=_:=hd.1 rfl;obtain⟨hg1,⟨z1,z2,hz⟩,vV⟩:=hS;have c0:=aF hz 0 _ rfl;have c1:=aF hz 1 _ rfl;have f0:=dm hz 0;have f1:=dm hz 1;refine Lag.Yields.skip (w':=(w1.setCell ⟨w.heap.size+1+1+1,0,none⟩ (ah af x)).setCell ⟨w.heap.size+1+1+1,1,none⟩ (ah af y)) ?_ ⟨dn _ (dn _ hz),.inr ⟨⟨(aW _ _ _ _ hgB).trans ((aW _ _ _ _ hgB).trans hg1),⟨_,_,dn _ (dn _ hz)⟩,(vV.setCell (p:=⟨_,0,none⟩) (by show _<=w.heap.size+1+1+1;omega) _).setCell (p:=⟨_,1,none⟩) (by show _<=w.heap.size+1+1+1;omega) _⟩,?_⟩⟩
   .go_simp
   .intro j u ds hj hp
    match j,hp with
    |0,hp|1,hp|2,hp|3,hp|4,hp|5,hp|6,hp|7,hp|8,hp|9,hp=>exact hp
    |10,_=>exact(hj rfl).elim
    |11,hp=>exact hp
    |j+12,_=>trivial
  exact tV
 case rfin=>
  intro a2 w2 hR;have hS:=hR.s;have Eh:w2.heap[w.heap.size+1+1+1]?=some (ar #[ah af x,ah af y] 23 (0,0)):=hR.val 10;have e11:a2.tmps.getD 7 au=_:=hR.val 11;have k6:a2.tmps.getD 6 au=pv (w.heap.size+1+1+1) 0:=hR.kept kQ;have ha:=hR.lits 34 rfl;simp only[aP,cJ,oh] at ha;clear hR;rw[e11,k6] at ha;clear e11;generalize a2.tmps.getD=zz at ha;have HE:=aj Eh;have HF:=aj hS.2.2;clear Eh hS k6;subst ha;go_wp2;refine bf (results_cell_tmp (g:=w.heap.size+1+1+1) rfl rfl (run_loadVar_row _ _ 23 23 _ (0,0) _ HE.out Tryz.underlying23 rfl kQ)) rfl ⟨x,y,r,HXR.out,?_,rfl,HF.out⟩;rw[<-HXR.out,List.getLast?_eq_getElem?,HNN.out];exact HY.out
open Go.Conc
def WG:ex.Ok:=⟨dC,dC,dC,dC,dC,dC,dC,dC,dC,dC⟩
def Rv:xp kr:=by
 refine⟨fun m h=>?_,fun i k hi hk hik=>?_,dC⟩
 .simp only[kr,bQ,List.not_mem_nil,or_false] at h;rcases h with rfl|rfl
  .refine⟨⟨dC,fun k h=>?_⟩,dC⟩;have h3:k<3:=h
   match k,h3 with
   |0,_=>exact bV (show 97<=97/\97<=122 from by decide)
   |1,_=>exact bV (show 97<=110/\110<=122 from by decide)
   |2,_=>exact bV (show 97<=110/\110<=122 from by decide)
  .refine⟨⟨dC,fun k h=>?_⟩,dC⟩;have h3:k<2:=h
   match k,h3 with
   |0,_=>exact bV (show 97<=98/\98<=122 from by decide)
   |1,_=>exact bV (show 97<=111/\111<=122 from by decide)
 have h2:k<2:=hk;obtain⟨rfl,rfl⟩:i=0/\k=1:=oM;show(⟨#[97,110,110]⟩:ByteArray)≠⟨#[98,111]⟩;decide
def tq:Mk:=⟨1,11,11⟩
def mk2:Mk:=⟨1,12,12⟩
def abv:lN ex [tq]:=⟨dC,dC⟩
def YO:lN ex [tq,mk2]:=⟨dC,dC⟩
def Rw:bu ex kr [] []=[⟨0,3,4,0⟩,⟨0,4,4,0⟩,⟨1,3,4,0⟩,⟨1,4,4,0⟩]:=by decide+kernel
def NA:bu ex kr [] [tq]=[⟨0,4,4,0⟩,⟨1,3,4,0⟩,⟨1,4,4,0⟩]:=by decide+kernel
def WO:bu (ex.lk 0 0) kr [] [tq]=[⟨0,4,4,0⟩]:=by decide+kernel
def Nz:bu ex kr [] []≠[]:=by rw[Rw];simp
def WH:bu ex kr [] [tq]≠[]:=by rw[NA];simp
def aaO:bu (ex.lk 0 0) kr [] [tq]≠[]:=by rw[WO];simp
def J9{b:BB}{pl:List Int}(h:(pl.all fun p=>decide (1<=p/\p<=b.minutes))=true)(ha:∀(k:Nat) (h:k+1<pl.length),pl[k]<pl[k+1])(hl:(pl.length:Int)<=b.ey):eG b pl:=
 ⟨fun p hp=>by have:=a7.1 h p hp;simpa using this,ha,hl⟩
def O5:eG ex [1,3]:=J9 dC (fun k h=>by have h2:k+1<2:=h;obtain rfl:k=0:=(by omega);simp) dC
def aa_:eG ex [1,2]:=J9 dC (fun k h=>by have h2:k+1<2:=h;obtain rfl:k=0:=(by omega);simp) dC
def aad:eG ex [1]:=J9 dC (fun k h=>by have h2:k+1<1:=h;omega) dC
def UR(b:BB)(h:b.Ok):eG b []:=⟨sM,fun k h=>by simp at h,by have:=h.ey;simpa using this.1⟩
def BJ{zs ys:List Int}(hp:zs.Perm ys)(hs:ys.Pairwise (·<=·)):sorted zs=ys:=by
 have h1:(sorted zs).Pairwise (fun a b=>(decide (a<=b))=true):=List.pairwise_mergeSort (fun a b c h1 h2=>by simp at *;omega) (fun a b=>by simp;omega) zs;exact List.Perm.eq_of_pairwise (le:=fun a b=>a<=b) (fun a b _ _ h1 h2=>by omega) (h1.imp fun h=>by simpa using h) hs ((List.mergeSort_perm zs _).trans hp)
def xm(lt:Nat->Nat->Bool)(p:Nat):∀(r:List Nat) (x:Nat),p∈x::r->(∀y∈x::r,(y==p||(lt p y && !lt y p))=true)->jX lt x r=p
 |[],x,hm,_=>(List.mem_singleton.1 hm).symm
 |y::r,x,hm,h=>by
  show jX lt (if lt y x=true then y else x) r=p;have hx:=h x sM;have hy:=h y sM;have hr:∀z∈r,(z==p||(lt p z && !lt z p))=true:=fun z hz=>h z (by simp[hz])
  by_cases e1:x=p
  .subst e1
   have:(if lt y x=true then y else x)=x:=by
    by_cases hl:lt y x=true
    .simp[hl] at hy;rw[if_pos hl];exact hy
    rw[if_neg hl]
   rw[this]
   exact xm lt x r x sM fun z hz=>by
    rcases bQ.1 hz with rfl|hz
    .simp
    exact hr z hz
  by_cases e2:y=p
  .subst e2
   have hx':lt y x=true:=by
    rw[Bool.or_eq_true,Bool.and_eq_true] at hx;rcases hx with hx|hx
    .exact absurd (by simpa using hx) e1
    exact hx.1
   rw[if_pos hx']
   exact xm lt y r y sM fun z hz=>by
    rcases bQ.1 hz with rfl|hz
    .simp
    exact hr z hz
  have hp:p∈r:=by
   rcases bQ.1 hm with h1|h1
   .exact absurd h1.symm e1
   rcases bQ.1 h1 with h2|h2
   .exact absurd h2.symm e2
   exact h2
  refine xm lt p r _ (by simp[hp]) fun z hz=>?_;rcases bQ.1 hz with rfl|hz
  .by_cases hl:lt y x=true
   .rw[if_pos hl];exact hy
   rw[if_neg hl];exact hx
  exact hr z hz
def DJ:kz ex (dI [] []).toNat (bE []) (bu ex kr [] []) 512=[10,12,18,20]:=by decide+kernel
section
variable{w:ak}{m s k:ai}
theorem Zv(hL:Laid w)(hB:dh ex m s k kr [] [] w):bm aq 33 #[aO (ex.cells m s k)] w (Rt w (cR #[ah af 60,ah af 0])):=Xz ex m s k kr [] [] w hL hB
theorem agp(hL:Laid w)(hB:dh ex m s k kr [] [] w):bm aq 65 #[aO (ex.cells m s k),ah af 37] w (Rt w (cR #[ah af 18,ah af 0])):=adw ex m s k kr [] [] w hL hB 37 dC
theorem jm{q:Nat}{l:List Int}{t:TypeId}(h:w.heap[q]?=some (ar ((l.map (ax af)).toArray) t (0,0)))(hl:l.length<=100):Reads w (ae (some ⟨q,0,none⟩) l.length l.length) l.length (l.map (ax af)):=
 .inr ⟨q,0,l.length,rfl,oM,(ag.1 h).1,fun j u hj=>by rw[dz];exact aF h j u (by simpa using hj)⟩
theorem acY(hL:Laid w)(hB:dh ex m s k kr [] [] w)(q q2:Nat)(h1:w.heap[q]?=some (ar #[ah af 3,ah af 4] 3 (0,0)))(h2:w.heap[q2]?=some (ar #[ah af 1] 3 (0,0))) :
  bm aq 32 #[aO (ex.cells m s k),aO #[ah af 0,ae (some ⟨q,0,none⟩) 2 2],ae (some ⟨q2,0,none⟩) 1 1] w fun e w'=>∃v,e=aU (cR #[v,ah af 0])/\Reads w' v 5 ([44,38,29,20,11].map (ax af))/\Bw w w':=by
 have h:=ZR ex m s k kr [] [] w hL hB 0 dC [3,4] dC rfl q 0 2 (ag.1 h1).1 dC (fun j u hj=>by rw[dz];exact aF h1 j u (by simpa using hj)) [1] aad _ (jm (l:=[1]) h2 dC);have e:ex.j9 (ex.cI+(jL 0 [3,4]).used) (bE [1]) ex.minutes.toNat=[44,38,29,20,11]:=by decide+kernel
 rw[e] at h;exact h
theorem WN(hL:Laid w)(hB:dh ex m s k kr [] [] w):bm aq 42 #[aO (ex.cells m s k)] w (Rt w (cR #[ah af 4,ah af 0])):=by
 have h:=Oj ex m s k kr [] [] w hL hB;rw[Rw] at h;exact h
theorem ags(hL:Laid w)(hB:dh ex m s k kr [] [] w)(q:Nat)(h1:w.heap[q]?=some (ar #[ah af 1,ah af 3] 3 (0,0))) :
  bm aq 60 #[aO (ex.cells m s k),ae (some ⟨q,0,none⟩) 2 2,ah af 5] w (Rt w (cR #[aO #[ah af 21,ah af 31],ah af 0])):=by
 have h:=adA ex m s k kr [] [] w hL hB Nz [1,3] O5 5 dC dC _ (jm (l:=[1,3]) h1 dC);refine h.mono ?_;rintro e w' ⟨x,y,r,hn,hy,rfl,hb⟩
 have e1:iD (fun a=>ex.Bx (ex.cI+a.used) (bE [1,3]) 5) (bu ex kr [] [])=[21,26,31]:=by
  unfold iD;rw[BJ (ys:=[21,26,26,31]) (by decide+kernel) dC];decide+kernel
 rw[e1] at hn;cases hn;cases hy;exact⟨rfl,hb⟩
theorem ac0(hL:Laid w)(hB:dh ex m s k kr [] [] w)(q:Nat)(h1:w.heap[q]?=some (ar #[ah af 1,ah af 3] 3 (0,0))) :
  bm aq 44 #[aO (ex.cells m s k),ae (some ⟨q,0,none⟩) 2 2] w (Rt w (cR #[ah af 1,ah af 0])):=by
 have h:=RQ ex m s k kr [] [] w hL hB Nz [1,3] O5 _ (jm (l:=[1,3]) h1 dC);have e:qD (Nj ex (bu ex kr [] []) (bE [1,3])) (bu ex kr [] []).length=1:=by decide+kernel
 rw[e] at h;exact h
theorem Zw(hL:Laid w)(hB:dh ex m s k kr [] [] w)(q:Nat)(h1:w.heap[q]?=some (ar #[ah af 1,ah af 2] 3 (0,0))) :
  bm aq 44 #[aO (ex.cells m s k),ae (some ⟨q,0,none⟩) 2 2] w (Rt w (cR #[ah af 0,ah af 0])):=by
 have h:=RQ ex m s k kr [] [] w hL hB Nz [1,2] aa_ _ (jm (l:=[1,2]) h1 dC);have e:qD (Nj ex (bu ex kr [] []) (bE [1,2])) (bu ex kr [] []).length=0:=by decide+kernel
 rw[e] at h;exact h
theorem agq(hL:Laid w)(hB:dh ex m s k kr [] [] w) :
  bm aq 63 #[aO (ex.cells m s k),ae none 0 0] w (Rt w (cR #[ah af 2,aH true,ah af 0])):=by
 have h:=adx ex m s k kr [] [] w hL hB Nz [] (UR _ WG) (ae none 0 0) (bV ⟨rfl,rfl,rfl⟩);have e:vN ex (bu ex kr [] []) (bE [])=(2,true):=by decide+kernel
 rw[e] at h;exact h
theorem WL(hL:Laid w)(hB:dh ex m s k kr [] [] w)(p1:Plain w m)(p2:Plain w s)(p3:Plain w k) :
  ko aq 20 #[aO (ex.cells m s k)] w fun v w'=>∃lv:ai,v=cR #[lv,aH true,ah af 0]/\Reads w' lv 2 ([1,3].map (ax af))/\Old w w':=by
 have h:=Wy hL hB p1 p2 p3 Nz (by rw[DJ];simp) (by rw[DJ];decide) 10 (fun x r hp=>xm uj 10 r x (hp.mem_iff.2 (by rw[DJ];decide)) fun y hy=>by
  have:=hp.mem_iff.1 hy;rw[DJ] at this;have h2:([10,12,18,20].all fun y=>y==10||(uj 10 y && !uj y 10))=true:=by decide+kernel
  exact a7.1 h2 y this)
 have e:iu 10=[1,3]:=by decide+kernel
 unfold RI at h;rw[e] at h;exact h
theorem WJ(hL:Laid w)(hB:dh ex m s k kr [] [] w)(p1:Plain w m)(p2:Plain w s)(p3:Plain w k) :
  ko aq 23 #[aO (ex.cells m s k)] w fun v w'=>∃lv:ai,v=cR #[lv,aH true,ah af 0]/\Reads w' lv 2 ([2,4].map (ax af))/\Old w w':=by
 have h:=Vr hL hB p1 p2 p3 Nz (by rw[DJ];simp) (by rw[DJ];decide) 20 (fun x r hp=>xm ui 20 r x (hp.mem_iff.2 (by rw[DJ];decide)) fun y hy=>by
  have:=hp.mem_iff.1 hy;rw[DJ] at this;have h2:([10,12,18,20].all fun y=>y==20||(ui 20 y && !ui y 20))=true:=by decide+kernel
  exact a7.1 h2 y this)
 have e:iu 20=[2,4]:=by decide+kernel
 unfold RI at h;rw[e] at h;exact h
theorem TC(hL:Laid w)(hB:dh ex m s k kr [] [] w)(q:Nat)(h1:w.heap[q]?=some (ar #[ah af 1,ah af 3] 3 (0,0))) :
  bm aq 25 #[aO (ex.cells m s k),ae (some ⟨q,0,none⟩) 2 2] w (Rt w (cR #[ah af 44,aH true,ah af 0])):=by
 have h:=Qw ex m s k kr [] [] w hL hB Nz [1,3] O5 _ (jm (l:=[1,3]) h1 dC);have e:pQ ex (bu ex kr [] []) (bE [1,3]) 100=some 44:=by decide+kernel
 rw[e] at h;exact h
theorem ac1(hL:Laid w)(hB:dh ex m s k kr [] [] w)(q:Nat)(h1:w.heap[q]?=some (ar #[ah af 1] 3 (0,0))) :
  bm aq 27 #[aO (ex.cells m s k),ae (some ⟨q,0,none⟩) 1 1] w fun e w'=>∃v,e=aU (cR #[v,aH true,ah af 0])/\Reads w' v 1 ([0].map (ax af))/\Bw w w':=by
 have h:=Z6 ex m s k kr [] [] w hL hB Nz [1] aad _ (jm (l:=[1]) h1 dC);have e:jf ex (bu ex kr [] []) (bE [1]) kr.length (2 ^ kr.length)=([0],true):=by decide+kernel
 rw[e] at h;exact h
theorem acZ(hL:Laid w)(hB:dh ex m s (ae none 0 0) kr [] [] w) :
  bm aq 75 #[aO (ex.cells m s (ae none 0 0)),aO #[ah af 1,ah af 11,ah af 11]] w fun e w'=>∃m' s' k',e=aU (cR #[aO (ex.cells m' s' k'),ah af 0])/\fX ex m' s' k' kr [] [tq] w'/\Bw w w':=ZT ex m s kr [] w hL hB tq abv WH
theorem TD(hL:Laid w)(hB:dh ex m s k kr [] [tq] w):bm aq 42 #[aO (ex.cells m s k)] w (Rt w (cR #[ah af 3,ah af 0])):=by
 have h:=Oj ex m s k kr [] [tq] w hL hB;rw[NA] at h;exact h
theorem TE(hL:Laid w)(hB:dh ex m s k kr [] [tq] w) :
  bm aq 58 #[aO (ex.cells m s k),ah af 0] w fun e w'=>∃v,e=aU (cR #[v,ah af 0])/\Reads w' v 2 ([3,4].map (ax af))/\Bw w w':=by
 have h:=Hf ex m s k kr [] [tq] w hL hB WH 0 dC
 have e:iD (fun a=>a.get 0) (bu ex kr [] [tq])=[3,4]:=by
  unfold iD;rw[BJ (ys:=[3,4,4]) (by decide+kernel) dC];decide+kernel
 rw[e] at h;exact h
theorem agr(hL:Laid w)(hB:dh ex m s k kr [] [tq] w):bm aq 53 #[aO (ex.cells m s k)] w (Rt w (cR #[ah af 0,ah af 2,ah af 0])):=by
 have h:=ady ex m s k kr [] [tq] w hL hB WH;have e:sY (bu ex kr [] [tq]) kr.length=(0,2):=by decide+kernel
 rw[e] at h;exact h
theorem Zy(hL:Laid w)(hB:dh ex m s k kr [] [tq] w) :
  bm aq 80 #[aO (ex.cells m s k),aO #[ah af 0,ah af 0]] w fun e w'=>∃m' s' k',e=aU (cR #[aO ((ex.lk 0 0).cells m' s' k'),ah af 0])/\fX (ex.lk 0 0) m' s' k' kr [] [tq] w'/\Bw w w':=
 XP ex m s k kr [] [tq] w hL hB 0 0 dC dC dC 0 0 dC dC dC aaO
theorem P5(hL:Laid w)(hB:dh (ex.lk 0 0) m s k kr [] [tq] w) :
  bm aq 58 #[aO ((ex.lk 0 0).cells m s k),ah af 0] w fun e w'=>∃v,e=aU (cR #[v,ah af 0])/\Reads w' v 1 ([4].map (ax af))/\Bw w w':=by
 have h:=Hf (ex.lk 0 0) m s k kr [] [tq] w hL hB aaO 0 dC
 have e:iD (fun a=>a.get 0) (bu (ex.lk 0 0) kr [] [tq])=[4]:=by
  unfold iD;rw[BJ (ys:=[4]) (by decide+kernel) dC];decide+kernel
 rw[e] at h;exact h
theorem acX(hL:Laid w)(hB:dh ex m s k kr [] [tq] w):bm aq 82 #[aO (ex.cells m s k),ah af 1] w (Rt w (cR #[aO iL,ah af 7])):=
 Ln ex m s k kr [] [tq] w hL hB 1 dC dC (by decide+kernel)
theorem WI(hB:dh ex m s k kr [] [tq] w) :
  bm aq 88 #[aO (ex.cells m s k),aO #[ah af 1,ah af 12,ah af 12]] w fun e w'=>∃k',e=aU (aO (ex.cells m s k'))/\dh ex m s k' kr [] [tq,mk2] w'/\Bw w w':=by
 obtain⟨p1,c1,e1,_⟩:=aR hB.rm;obtain⟨p2,c2,e2,_⟩:=aR hB.rs;refine(Qr ex m s k ⟨⟨_,_,_,e1⟩,⟨_,_,_,e2⟩⟩ [tq] dC mk2 w hB.rk).mono ?_;rintro e w' ⟨k',rfl,h1,_,hb⟩;exact⟨k',rfl,⟨WG,Rv,UR _ WG,YO,hB.rm.below hb,hB.rs.below hb,h1⟩,hb⟩
theorem Zx(hL:Laid w)(hB:dh ex m s k kr [] [tq,mk2] w) :
  bm aq 50 #[aO (ex.cells m s k)] w fun e w'=>∃v,e=aU (cR #[v,ah af 0])/\Reads w' v 2 ([0,1].map (ax af))/\Bw w w':=by
 have h:=XO ex m s k kr [] [tq,mk2] w hL hB;have e:rJ ex kr [] [tq,mk2]=[0,1]:=by decide+kernel
 rw[e] at h;exact h
end
structure ExB(m:ai)(w:ak):Prop where
 own:fX ex m (ae none 0 0) (ae none 0 0) kr [] [] w
 pl:Plain w m
def TB{w:ak}(h0:1<=w.heap.size):bm aq 93 #[] w fun e w'=>∃m,e=aU (aO (ex.cells m (ae none 0 0) (ae none 0 0)))/\ExB m w'/\Bw w w':=by
 refine(Ny w).mono ?_;rintro e w' ⟨g,c,rfl,hr,hg,hge,hb⟩;refine⟨_,rfl,⟨⟨⟨WG,Rv,UR _ WG,⟨sM,sM⟩,hr,bV ⟨rfl,rfl,rfl⟩,bV ⟨rfl,rfl,rfl⟩⟩,fun g' h'=>?_,fun g' h'=>(by cases h'),fun g' h'=>(by cases h')⟩,fun g' h'=>?_⟩,hb⟩
 .obtain rfl:g=g':=aT h';exact⟨_,hg⟩
 obtain rfl:g=g':=aT h';refine⟨oM,_,_,_,hg,fun u hu=>?_⟩;simp only[dX,kr,List.flatMap_cons,List.flatMap_nil,List.append_nil] at hu;simp at hu;rcases hu with rfl|rfl|rfl|rfl|rfl|rfl
 .exact .inr ⟨_,rfl⟩
 .exact bV ⟨_,_,rfl⟩
 .exact bV ⟨_,_,rfl⟩
 .exact .inr ⟨_,rfl⟩
 exact bV ⟨_,_,rfl⟩
end Go.Proofs.YtffladgmkiimjaaGreatDoor
