/- LONE WALKS: Ask (53). LONE WALKS: open (103), Ask (53) of a book that  .. -/
import Derived.Test.YtffladgmkiimjaaGreatDoorV10
import Derived.Test.YtffladgmkiimjaaGreatDoorV05
set_option linter.all false
set_option maxHeartbeats 0
set_option maxRecDepth 1000000
open Array renaming getElem?_eq_getElem -> aO,getElem?_eq_some_iff -> ah
open Go renaming bodyPost_ret -> a8,Calls -> a_,Value -> aj,World -> ak,undef -> ar,Addr -> cJ,wp_skip -> dA,wp_seq -> dg,run_loadVar_row -> eF,wp_ret -> ej,wp_cond -> kV
open Go.Addr renaming add -> mg
open Go.Ending renaming returned -> aU
open Go.IntKind renaming i64 -> af
open Go.Lib renaming hid -> ai,compact -> u_
open Go.Obj renaming cells -> au
open Go.Operand renaming tmp -> aI
open Go.Proofs.Tryz renaming prog -> aq,underlying28 -> bL,underlying3 -> dR,underlying122 -> fS,underlying23 -> lF
open Go.RowKit.Below renaming heap_alloc -> aW,refl -> ay,heap_setCell -> bp
open Go.Value renaming bool -> aA,int -> aD,agg -> aN,slice -> ae,int -> ag,tuple -> bB,oneCell' -> bK,pointer -> dB,bool -> dp
open Go.World renaming alloc_heap_new -> ax,ownsRow_nil -> eD
open List renaming append_nil -> Au,range -> aQ,getElem_mem -> bG,mem_range -> bQ,take_succ_eq_append_getElem -> bV,all_eq_true -> bf,length_pos_iff -> cB,mem_cons -> cy,mem_map -> dm,length_cons -> eE,map_append -> eG,length_map -> fM,getElem_of_mem -> fZ,getD_cons_zero -> f_,getD_cons_succ -> gb,getElem?_eq_getElem -> h_,mem_flatMap -> jq,length_mergeSort -> lV,length_append -> mP,map -> nQ,countP_le_length -> xI
open List.range renaming loop -> cg
open Nat renaming le_trans -> aG,le_refl -> aJ,lt_of_lt_of_le -> bD,reduceEqDiff -> bq,zero_add -> cO,zero_le -> iq
open Option.some renaming inj -> a7
open Or renaming inl -> cz
namespace Go.Proofs.YtffladgmkiimjaaGreatDoor
open Go.RowKit Go.Lag Go.Maps
def wfI{n:Int}(h0 : -9223372036854775808<=n)(h1:n<=9223372036854775807):(Lit.int .i64 n).wf=true:=by
 simp[Lit.wf,IntKind.min,IntKind.max,IntKind.signed,IntKind.bits];omega
def cnt(i:Nat)(l:List dS)(n:Int):Nat:=l.countP fun a=>a.get i==n
def qp(i:Nat)(all:List dS):Nat->Nat
 |0=>0
 |j+1=>max (qp i all j) (cnt i (all.take (j+1)) ((all.getD j ⟨0,0,0,0⟩).get i))
def rQ(all:List dS):Nat->Int × Nat
 |0=>(-1,all.length)
 |i+1=>if qp i all all.length<(rQ all i).2 then((i:Int),qp i all all.length) else rQ all i
def AO:Keyed aq 3:=int_keyed dR
def Dd(w:ak):(zeroValue 3).run aq w=.ok (.int .i64 0) w:=kQ
def yK(D:DataW Unit)(i:Nat)(l:List dS):Prop:=IsMap D/\∀n:Int,D.atKey (.int .i64 n) (.lit (.int .i64 0))=.lit (.int .i64 (cnt i l n))
def yK.nil(i:Nat):yK (.map []) i []:=⟨⟨_,rfl⟩,fun n=>rfl⟩
def yK.put{D:DataW Unit}{i:Nat}{l:List dS}(h:yK D i l)(a:dS):yK (D.put (.int .i64 (a.get i)) (.lit (.int .i64 ((cnt i l (a.get i):Int)+1)))) i (l++[a]):=by
 refine⟨h.1.put _ _,fun n=>?_⟩
 by_cases hn:a.get i=n
 .subst hn;rw[atKey_put_same h.1 (by trivial)];simp[cnt,List.countP_append]
 rw[atKey_put_other (by simpa using fun e=>hn e.symm),h.2 n];simp[cnt,List.countP_append,hn]
def Kl(i:Nat)(all:List dS):∀j,j<=all.length->qp i all j<=j
 |0,_=>aJ _
 |j+1,h=>by
  have h1:=Kl i all j oM;have h2:cnt i (all.take (j+1)) ((all.getD j ⟨0,0,0,0⟩).get i)<=(all.take (j+1)).length:=xI;simp only[List.length_take] at h2;unfold qp;omega
def MA(all:List dS):∀i,(rQ all i).2<=all.length
 |0=>aJ _
 |i+1=>by
  have:=MA all i;unfold rQ;split<;>simp<;>omega
def abO(b:BB)(bm aH az:aj)(ml:List Mn)(ss:List Int)(ms:List Mk)(w:ak)(hL:Laid w)(hB:bW b bm aH az ml ss ms w)(hne:aT b ml ss ms≠[]) :
  a_ aq 53 #[.agg (b.cells bm aH az)] w (Rt w (.tuple #[.int .i64 (rQ (aT b ml ss ms) ml.length).1,.int .i64 (rQ (aT b ml ss ms) ml.length).2,.int .i64 0])):=by
 have hlen:=ic ss ms hB.ok hB.eT;have jS:0<(aT b ml ss ms).length:=cB.2 hne;have cV:=hB.ok;have hao:=ot (ss:=ss) (ms:=ms) hB.ok hB.eT;have Um:=hB.eT.len;obtain⟨pm,cm,rfl,_⟩:=aR hB.rm;obtain⟨pn,cn,rfl,_⟩:=aR hB.rs;obtain⟨pk,ck,rfl,_⟩:=aR hB.rk;have b1:Bw w (w.alloc (.cells (b.sl pm ml.length cm pn ss.length cn pk ms.length ck) 28)):=cY;have HX:=ai (ax w (.cells (b.sl pm ml.length cm pn ss.length cn pk ms.length ck) 28));have HO:=ai (tW b _ _ _ ml ss ms _ (hL.below b1) (hB.below b1) hne (fun W' _=>rz b _ _ _ W'));have vV:=ai b1;have Sy:=ai hao;clear hL hB hne hao b1;generalize aT b ml ss ms=all at *;generalize ml.length=lm at *;generalize ss.length=ln at *;generalize ms.length=lk at *;have hmm:=@run_makeMap aq
 go_enter Tryz.func53,Tryz.ntmps53
 go_wp2_with (first
  |(refine wpList_load_row rfl 28 _ rfl _ rfl 28 _ (0,0) _ HX.out bL rfl kQ ?_)
  |(refine wpList_store_row rfl 122 _ _ rfl _ _ rfl rfl 122 _ Yk.out kQ rfl (by simp[bK]) ?_)
  |(go_at_call 103;refine HO.out.mono ?_;clear HO;rintro e w1 ⟨v,rfl,iH,hb1⟩
    obtain⟨gv,cv,rfl⟩:∃gv cv,v=.slice (some ⟨gv,0,none⟩) all.length cv:=by
     rcases iH.1.2 with⟨_,h0⟩|⟨g,cap,cur,rfl,_⟩
     .omega
     exact⟨g,cap,rfl⟩
    have ML:=ai iH;have nN:=ai hb1;have Yk:=ai (ax w1 (.cells eO 122))
    clear iH hb1))
 have hk2:((w1.alloc (.cells eO 122)).setRow w1.heap.size (b.open (.slice pm lm cm) (.slice pn ln cn) (.slice pk lk ck) (.slice (some ⟨gv,0,none⟩) all.length cv))).heap[w1.heap.size]?=some (.cells (b.open (.slice pm lm cm) (.slice pn ln cn) (.slice pk lk ck) (.slice (some ⟨gv,0,none⟩) all.length cv)) 122 (0,0)):=bX Yk.out
 have r5:Bw w ((w1.alloc (.cells eO 122)).setRow w1.heap.size (b.open (.slice pm lm cm) (.slice pn ln cn) (.slice pk lk ck) (.slice (some ⟨gv,0,none⟩) all.length cv))):=by
  have h1:=vV.out.trans (nN.out.mono vV.out.size);exact cS (h1.alloc h1.size _) h1.size
 have Cl:=(ML.out.1.lt gv rfl).2
 have aac:=ML.out.at_ (W':=((w1.alloc (.cells eO 122)).setRow w1.heap.size (b.open (.slice pm lm cm) (.slice pn ln cn) (.slice pk lk ck) (.slice (some ⟨gv,0,none⟩) all.length cv)))) fun g hg=>by
  have:g=gv:=by simpa [Value.ownBlock] using hg.symm
  subst this;exact(setRow_other oM).trans (aW _ _ _ Cl)
 have jT:w.heap.size<w1.heap.size:=by have:=nN.out.size;simp at this;omega
 have hx2:((w1.alloc (.cells eO 122)).setRow w1.heap.size (b.open (.slice pm lm cm) (.slice pn ln cn) (.slice pk lk ck) (.slice (some ⟨gv,0,none⟩) all.length cv))).heap[w.heap.size]?=some (.cells (b.sl pm lm cm pn ln cn pk lk ck) 28 (0,0)):=by
  refine(setRow_other oM).trans ((aW _ _ _ oM).trans ((nN.out.block _ ?_).trans HX.out));simp
 have Cj:=aac.reads oM;generalize hWe:((w1.alloc (.cells eO 122)).setRow w1.heap.size (b.open (.slice pm lm cm) (.slice pn ln cn) (.slice pk lk ck) (.slice (some ⟨gv,0,none⟩) all.length cv)))=W2 at *;generalize w1.heap.size=k at *
 have HC:Hid (∀j u,(rowOf all)[j]?=some u->W2.cell? ⟨gv,0+j,none⟩=some u):=ai (by
  rcases Cj with⟨h0,_⟩|⟨g,off,cap,h0,_,_,h1⟩
  .cases h0
  cases h0;exact h1)
 have ahc:=(aac.1.lt gv rfl).2;have y1:=aK hk2 15 _ rfl;have f1:=cQ hk2 15;have GQ:=ai hk2;have HX2:=ai hx2;have Qg:=ai r5;have HWe:=ai hWe;clear hWe Cj aac ML vV nN HX Yk r5 Cl hk2 hx2
 have GN:Hid (∀w9,Bw W2 w9->w9.cell? ⟨k,15,none⟩=some (.slice (some ⟨gv,0,none⟩) all.length cv)/\w9.heap[k]?=some (.cells (b.open (.slice pm lm cm) (.slice pn ln cn) (.slice pk lk ck) (.slice (some ⟨gv,0,none⟩) all.length cv)) 122 (0,0))/\w9.heap[w.heap.size]?=some (.cells (b.sl pm lm cm pn ln cn pk lk ck) 28 (0,0))):=ai fun w9 N8=>by
  have h1:=(N8.block _ (ah.1 GQ.out).1).trans GQ.out;exact⟨aK h1 15 _ rfl,h1,(N8.block _ (ah.1 HX2.out).1).trans HX2.out⟩
 refine cj kQ [
 pV (pv k 15),
  pV (.slice (some ⟨gv,0,none⟩) all.length cv),
  pV (.int .i64 all.length),
  pV (.int .i64 (-1)),
  pV (.int .i64 all.length)]
  (fun w9=>Bw W2 w9) [(1,pv w.heap.size 0),(5,pv k 0)] kQ ?rst (fun w1 w2 h hb=>h.trans (hb.mono h.size)) (by have:=HWe.out;subst this;exact(ay _ _).drew) ⟨rfl,rfl,trivial⟩ ?reach ?rfin
 case rst=>
  refine⟨sV,sV,sV,sV,sV,trivial⟩
 case reach=>
  refine⟨?_,?_,?_,?_,?_,trivial⟩<;>rintro ev w1 hS hc hg hf ⟨b1,b5,-⟩ hd
  .exact tV
  .have d0:ev (.tmp 19)=_:=hd.1 rfl;obtain y1:=(GN.out w1 hS).1;exact tV
  .have d1:ev (.tmp 20)=_:=hd.1 rfl;exact tV
  .exact tV
  have d2:ev (.tmp 21)=_:=hd.1 rfl;exact tV
 case rfin=>
  intro a2 w2 hR;have hS:=hR.s;have e3:a2.tmps.getD 2 ar=_:=hR.val 3;have e4:a2.tmps.getD 3 ar=_:=hR.val 4;have k1:a2.tmps.getD 1 ar=pv w.heap.size 0:=hR.kept kQ;have k4:a2.tmps.getD 4 ar=.int .i64 0:=hR.kept kQ;have k5:a2.tmps.getD 5 ar=pv k 0:=hR.kept kQ;have ha:=hR.lits 60 rfl;simp only[aQ,cg,nQ] at ha;clear hR;rw[e3,e4,k1,k4,k5] at ha;generalize a2.tmps.getD=zz at ha;have nN:=ai hS;clear e3 e4 k1 k4 k5 hS y1 f1;subst ha;obtain⟨y1,hk2,hx2⟩:=GN.out w2 nN.out;have f1:=cQ hk2 15;obtain⟨x0,x1,x2,x3,x4,x5,x6,x7,x8,x9,qo,qm,rj,qX,q7⟩:=bU hx2;have fx:=cQ hx2 12;clear hk2 hx2;generalize hL:all.length=L at *;have HL:=ai hL;clear hL x0 x1 x2 x3 x4 x5 x6 x7 x8 x9 qo qm qX q7;go_wp2
  go_loopw [2,3,6,7,8,10,25] (fun mn lf _ _ _ _ i wr=>∃m:Nat,m<=lm/\i=.int .i64 m/\mn=.int .i64 (rQ all m).1/\lf=.int .i64 (rQ all m).2/\Bw w2 wr) (fun _ _ _ _ _ _ i _=>lm-(intOf i).toNat)
  case atStart=>exact⟨0,oM,rfl,rfl,by simp[rQ,HL.out],ay _ _⟩
  case round=>
   obtain⟨m,hm,rfl,rfl,rfl,eb⟩:=hrel;rename ak=>wo;have hsz:=eb.size
   by_cases hlt:m<lm
   .have Iw:=(eb.cell (p:=⟨k,15,none⟩) (ah.1 (GN.out w2 nN.out).2.1).1).trans y1;have xF:=ai eb
    have hkb:k<wo.heap.size:=by
     have:=(ah.1 (GN.out w2 nN.out).2.1).1;omega
    have hgb:gv<wo.heap.size:=by have:=nN.out.size;omega
    have fz:(wo.alloc (.map #[] 0)).frozen? ⟨k,15,none⟩=false:=by
     have:=(GN.out wo (nN.out.trans (eb.mono nN.out.size))).2.1;exact cQ ((aW _ _ _ hkb).trans this) 15
    have HCr:Hid (∀W,Below (wo.heap.size) wo W->∀i u,(rowOf all)[i]?=some u->W.cell? ⟨gv,0+i,none⟩=some u):=ai fun W hW i u hi=>by
     have:=HC.out i u hi;have h2:=(nN.out.trans ((eb.mono nN.out.size).trans (hW.mono (by have:=nN.out.size;omega)))).cell (p:=⟨gv,0+i,none⟩) ahc;exact h2.trans this
    have HAs:Hid (rQ all (m+1)=if qp m all all.length<(rQ all m).2 then((m:Int),qp m all all.length) else rQ all m):=ai rfl;have hal:=MA all m;generalize rQ all m=am at *;obtain⟨am,al⟩:=am;simp only[] at hal;clear eb;go_wp2
    go_loopw [8,10,32] (fun wst _ i wq=>∃j:Nat,j<=L/\i=.int .i64 j/\wst=.int .i64 (qp m all j)/\(∃D,yK D m (all.take j)/\wq.ownsMap aq 3 (plainElem (H:=Unit) aq 3) wo.heap.size j D)/\Bw wo wq) (fun _ _ i _=>L-(intOf i).toNat)
    case atStart=>exact⟨0,oM,rfl,rfl,⟨_,yK.nil _,World.ownsMap_made _ _ _ _⟩,cY⟩
    case round=>
     obtain⟨j,hj,rfl,rfl,⟨D,hD,hown⟩,yM⟩:=hrel
     by_cases MV:j<L
     .have Jy:j<all.length:=by rw[HL.out];exact MV
      have Z9:=yM.size;have hql:=hown.lt;have hbq:=nN.out.size;obtain⟨c0,c1,c2,c3⟩:=Reads.cell (w:=wr) (cap:=cv) (n:=L) (fun i u hi=>HCr.out wr yM i u hi) j Jy;simp only[cO] at c0 c1 c2 c3;have hw1:qp m all (j+1)=max (qp m all j) (cnt m (all.take (j+1)) ((all.getD j ⟨0,0,0,0⟩).get m)):=rfl;have hwl:=Kl m all j oM;have hgd:all.getD j ⟨0,0,0,0⟩=all[j]:=by simp[List.getD,h_ Jy]
      have su:all.take (j+1)=all.take j++[all[j]]:=List.take_append_getElem Jy |>.symm
      have hcl:cnt m (all.take j) (all[j].get m)<=(all.take j).length:=xI
      have VW:cnt m (all.take (j+1)) (all[j].get m)=cnt m (all.take j) (all[j].get m)+1:=by
       show List.countP _ (all.take (j+1))=_;rw[su,List.countP_append,List.countP_singleton];simp[cnt]
      have hDp:=hD.put all[j];rw[<-su] at hDp;have hDk:=hD.2 (all[j].get m);simp only[List.length_take] at hcl
      have hgo:0<=all[j].get m/\all[j].get m<=99:=by
       have:=Sy.out _ (bG Jy);unfold dS.get;split
       .exact this.m0
       .exact this.m1
       exact this.m2
      rw[hgd,VW] at hw1;have HCn:=ai VW;have Uy:=ax wr (.cells all[j].cells 134)
      have hx:(wr.alloc (.cells all[j].cells 134)).cell? ⟨wr.heap.size,1+m,none⟩=some (.int .i64 (all[j].get m)):=by
       have h3:m<3:=oM
       match m,h3 with
       |0,_=>exact aK Uy 1 _ rfl
       |1,_=>exact aK Uy 2 _ rfl
       |2,_=>exact aK Uy 3 _ rfl
      have hoa:=hown.alloc (.cells all[j].cells 134);have HBa:=ai Uy;have Sw:=ai yM;have HDp:=ai hDp;have HDk:=ai hDk;have HW1:=ai hw1;clear hD hown su hgd VW Uy yM hDp hDk;generalize all[j]=a at *;generalize hcc:cnt m (all.take j) (a.get m)=cc at *;generalize hww:qp m all j=ww at *;have hkey:keyOf aq 3 (.int .i64 (a.get m))=some (.int .i64 (a.get m)):=keyOf_int_mk dR (wfI oM oM);have zz:IntKind.i64.wrap ((cc:Int)+1)=(cc:Int)+1:=by rw[IntKind.wrap_i64];omega
      have HNe:Hid (wr.heap.size≠wo.heap.size):=ai oM;rcases Int.lt_or_le (ww:Int) ((cc:Int)+1) with q1|q1
      .go_wp2_with (first
        |(at_lookup;refine wpList_lookup_own_int _ rfl _ _ 146 rfl 3 3 .i64 AO Tryz.underlying146 dR (Dd _) wo.heap.size j _ rfl hoa _ _ rfl hkey ?_;intro c hat hwc
          obtain rfl:c=(cc:Int):=by rw[HDk.out] at hat;simpa using hat.symm)
        |(at_lookup;refine wpList_lookup_own_int _ rfl _ _ 146 rfl 3 3 .i64 AO Tryz.underlying146 dR (Dd _) wo.heap.size (j+1) _ rfl hown1 _ _ rfl hkey ?_;intro c hat hwc
          obtain rfl:c=(cc:Int)+1:=by have:=HDp.out.2 (a.get m);rw[HCn.out] at this;rw[this] at hat;simpa using hat.symm)
        |(at_mapUpdate;refine wpList_mapUpdate_own _ rfl _ _ _ 146 rfl 3 3 AO Tryz.underlying146 _ wo.heap.size j _ rfl hoa (by unfold maxLen;omega) _ _ _ rfl rfl hkey _ [] (plainElem_int dR (wfI oM oM)) ?_;intro w1 hown1 EK
          have hx1:=(EK.cell hx (by simpa using HNe.out))
          clear hx)
        |go_in)
       go_roundw
       case rel=>
        refine⟨j+1,oM,sM,?_,⟨_,HDp.out,hown1⟩,(Sw.out.alloc oM _).grown EK sO (fun k hk=>by cases hk;exact aJ _)⟩;exact congrArg (aD .i64) (by have:=HW1.out;omega)
       case measure=>simp[intOf];omega
      go_wp2_with (first
       |(at_lookup;refine wpList_lookup_own_int _ rfl _ _ 146 rfl 3 3 .i64 AO Tryz.underlying146 dR (Dd _) wo.heap.size j _ rfl hoa _ _ rfl hkey ?_;intro c hat hwc
         obtain rfl:c=(cc:Int):=by rw[HDk.out] at hat;simpa using hat.symm)
       |(at_lookup;refine wpList_lookup_own_int _ rfl _ _ 146 rfl 3 3 .i64 AO Tryz.underlying146 dR (Dd _) wo.heap.size (j+1) _ rfl hown1 _ _ rfl hkey ?_;intro c hat hwc
         obtain rfl:c=(cc:Int)+1:=by have:=HDp.out.2 (a.get m);rw[HCn.out] at this;rw[this] at hat;simpa using hat.symm)
       |(at_mapUpdate;refine wpList_mapUpdate_own _ rfl _ _ _ 146 rfl 3 3 AO Tryz.underlying146 _ wo.heap.size j _ rfl hoa (by unfold maxLen;omega) _ _ _ rfl rfl hkey _ [] (plainElem_int dR (wfI oM oM)) ?_;intro w1 hown1 EK
         have hx1:=(EK.cell hx (by simpa using HNe.out))
         clear hx)
       |go_in)
      go_roundw
      case rel=>
       refine⟨j+1,oM,sM,?_,⟨_,HDp.out,hown1⟩,(Sw.out.alloc oM _).grown EK sO (fun k hk=>by cases hk;exact aJ _)⟩;exact congrArg (aD .i64) (by have:=HW1.out;omega)
      case measure=>simp[intOf];omega
     obtain rfl:j=L:=oM;have Sw:=ai yM;have HHm:=hmm;rw[HL.out] at HAs;clear hown yM hD;generalize qp m all j=ww at *
     by_cases h9:(ww:Int)<al
     .go_wp2;go_roundw
      case rel=>
       refine⟨m+1,oM,sM,?_,?_,xF.out.trans (Sw.out.mono hsz)⟩
       .rw[HAs.out,if_pos oM]
       rw[HAs.out,if_pos oM]
      case measure=>simp[intOf];omega
     go_wp2;go_roundw
     case rel=>
      refine⟨m+1,oM,sM,?_,?_,xF.out.trans (Sw.out.mono hsz)⟩
      .rw[HAs.out,if_neg oM]
      rw[HAs.out,if_neg oM]
     case measure=>simp[intOf];omega
   obtain rfl:m=lm:=oM;have xF:=ai eb;clear eb;go_wp2
   go_ret3
   exact⟨rfl,Qg.out.trans ((nN.out.trans (xF.out.mono nN.out.size)).mono Qg.out.size)⟩
def QU(b:BB)(p1 p2 p3:Option cJ)(c1 c2 c3:Nat)(ml:List Mn)(ss:List Int)(ms:List Mk)(w:ak)(hL:Laid w)(hB:bW b (ae p1 ml.length c1) (ae p2 ss.length c2) (ae p3 ms.length c3) ml ss ms w)(hno:aT b ml ss ms=[]) :
  a_ aq 103 #[aN (b.sl p1 ml.length c1 p2 ss.length c2 p3 ms.length c3),.func (.func 122) #[] #[]] w (Rt w (bB #[aN eO,ag af 9])):=by
 have ql:∀W,Bw w W->_:=fun W hb=>dI b _ _ _ ml ss ms W (hL.below hb) (hB.below hb);have MO:∀W,Bw w W->_:=fun W hb=>lQ b _ _ _ ml ss ms W (hB.below hb);rw[hno] at MO;generalize ml.length=n1 at *;generalize ss.length=n2 at *;generalize ms.length=n3 at *;refine jV Tryz.func103 rfl rfl [(1,.func (.func 122) #[] #[]),(0,aN (b.sl p1 n1 c1 p2 n2 c2 p3 n3 c3))] ⟨iL rfl,iL rfl,trivial⟩ fun a W hF hw=>?_;refine iU (N:=3) rfl ?_;refine jd ⟨[],[],[],[]⟩ (some 2) (fun B=>pv B 0) (b.sl p1 n1 c1 p2 n2 c2 p3 n3 c3) 28 hF hF ?_;intro B2 W1 a G2 ho k2 hF;have j2:=(ah.1 k2).1;replace hw:=hw.tr ho;refine jd ⟨[],[],[],[]⟩ (some 4) (fun B=>pv B 0) eO 122 hF hF ?_;intro B4 W2 a G4 ho k4 hF;have g4:=aG hw.size G4;replace hw:=hw.tr ho;replace k2:=aw k2 ho;have j4:=(ah.1 k4).1;refine dY 2 1 0 [(5,ag af 0)] hF ?_;intro a W3 ho hF;have j3:=ho.size;replace hw:=hw.tr ho;replace k2:=aw k2 ho;replace k4:=aw k4 ho;refine jf ?_;refine dg ?_;refine rK ⟨[],[(1,ag af 0)],[(B2,b.sl p1 n1 c1 p2 n2 c2 p3 n3 c3)],[]⟩ [(6,ag af 0)] hF hF ⟨fun w1 hS=>⟨_,_,aw k2 hS⟩,trivial⟩ ⟨fun w1 hS _=>gc (ql w1 (hw.tr hS)),trivial⟩ ?_;intro a W4 ho hF;have j5:=ho.size;replace hw:=hw.tr ho;replace k2:=aw k2 ho;replace k4:=aw k4 ho;refine fD [(12,aA false)] hF ?_;intro a W10 ho hF;have j10:=ho.size;replace hw:=hw.tr ho;replace k2:=aw k2 ho;replace k4:=aw k4 ho;refine kV (t:=false) (hF.g 0 rfl) ?_;refine dA ?_;refine iU (N:=5) rfl ?_;refine jh 0 3 2 ⟨[],[],[(B2,(b.sl p1 n1 c1 p2 n2 c2 p3 n3 c3))],[]⟩ [(17,aN (b.open (ae p1 n1 c1) (ae p2 n2 c2) (ae p3 n3 c3) (ae none 0 0)))] hF hF ⟨fun w1 hS=>⟨_,_,aw k2 hS⟩,trivial⟩ trivial ?_;intro a W11 ho hF;have j11:=ho.size;replace hw:=hw.tr ho;replace k2:=aw k2 ho;replace k4:=aw k4 ho;refine jd ⟨[],[],[],[]⟩ (some 7) (fun B=>pv B 0) eO 122 hF hF ?_;intro B7 W12 a G7 ho k7 hF;have g7:=aG hw.size G7;replace hw:=hw.tr ho;replace k2:=aw k2 ho;replace k4:=aw k4 ho;have j7:=(ah.1 k7).1;refine nT ⟨[],[],[],[]⟩ _ (b.open (ae p1 n1 c1) (ae p2 n2 c2) (ae p3 n3 c3) (ae none 0 0)) (aQ 16) hF hF k7 ?_;intro W13 a up k7 hF;replace hw:=up.below hw g7;replace k2:=(up.block _ oM).trans k2;replace k4:=(up.block _ oM).trans k4;clear up;refine jf ?_;refine dg ?_;refine rK ⟨[],[(3,ag af 0)],[(B7,(b.open (ae p1 n1 c1) (ae p2 n2 c2) (ae p3 n3 c3) (ae none 0 0)))],[]⟩ [(8,ag af 0)] hF hF ⟨fun w1 hS=>⟨_,_,aw k7 hS⟩,trivial⟩ ⟨fun w1 hS _=>gc (rz b (ae p1 n1 c1) (ae p2 n2 c2) (ae p3 n3 c3) w1),trivial⟩ ?_;intro a W14 ho hF;have j14:=ho.size;replace hw:=hw.tr ho;replace k2:=aw k2 ho;replace k4:=aw k4 ho;replace k7:=aw k7 ho;refine fD [(23,aA false)] hF ?_;intro a W15 ho hF;have j15:=ho.size;replace hw:=hw.tr ho;replace k2:=aw k2 ho;replace k4:=aw k4 ho;replace k7:=aw k7 ho;refine kV (t:=false) (hF.g 0 rfl) ?_;refine dA ?_;refine dg ?_;refine iU (N:=6) rfl ?_;refine jh 0 3 3 ⟨[],[],[(B7,(b.open (ae p1 n1 c1) (ae p2 n2 c2) (ae p3 n3 c3) (ae none 0 0)))],[]⟩ [(28,.func (.func 117) #[aN (b.sl p1 n1 c1 p2 n2 c2 p3 n3 c3)] #[])] hF hF ⟨fun w1 hS=>⟨_,_,aw k7 hS⟩,trivial⟩ trivial ?_;intro a W16 ho hF;have j16:=ho.size;replace hw:=hw.tr ho;replace k2:=aw k2 ho;replace k4:=aw k4 ho;replace k7:=aw k7 ho;refine Fy ⟨[],[],[],[]⟩ (some 29) (f:=116) (args:=#[.func (.func 117) #[aN (b.sl p1 n1 c1 p2 n2 c2 p3 n3 c3)] #[]]) hF hF (MO _ hw) ?_;rintro _ W17 ⟨v,rfl,iH,ho⟩;obtain⟨pv9,cv9,rfl⟩:=dV iH.1;clear iH;refine⟨_,rfl,fun a hF=>?_⟩;replace hw:=hw.tr ho;replace k4:=aw k4 ho;replace k7:=aw k7 ho;clear ho k2;refine dY 4 1 1 [(30,pv B7 15)] hF ?_;intro a W18 ho hF;have j18:=ho.size;replace hw:=hw.tr ho;replace k4:=aw k4 ho;replace k7:=aw k7 ho;refine nT ⟨[],[],[],[]⟩ _ (b.open (ae p1 n1 c1) (ae p2 n2 c2) (ae p3 n3 c3) (ae pv9 0 cv9)) [0] hF hF k7 ?_;intro W19 a up k7 hF;replace hw:=up.below hw g7;replace k4:=(up.block _ oM).trans k4;clear up;refine jf ?_;refine rK ⟨[],[],[(B7,(b.open (ae p1 n1 c1) (ae p2 n2 c2) (ae p3 n3 c3) (ae pv9 0 cv9)))],[]⟩ [(34,aA true)] hF hF ⟨fun w1 hS=>⟨_,_,aw k7 hS⟩,trivial⟩ trivial ?_;intro a W20 ho hF;have j20:=ho.size;replace hw:=hw.tr ho;replace k4:=aw k4 ho;refine kV (t:=true) (hF.g 0 rfl) ?_;replace hF:=hF.del 5;simp only[jn,fo,bq,reduceIte] at hF;refine iU (N:=3) rfl ?_;refine dY 0 1 2 [(35,aN eO)] hF ?_;intro a W21 ho hF;have j21:=ho.size;replace hw:=hw.tr ho;replace k4:=aw k4 ho;refine nT ⟨[],[],[],[]⟩ _ eO (aQ 16) hF hF k4 ?_;intro W22 a up k4 hF;replace hw:=up.below hw g4;clear up;refine dY 2 1 0 [(5,ag af 9)] hF ?_;intro a W23 ho hF;have j23:=ho.size;replace hw:=hw.tr ho;replace k4:=aw k4 ho;refine jf ?_;refine ej ?_;exact a8 (results_cell_tmp rfl (hF.g 12 rfl) (eF _ B4 122 122 _ (0,0) _ k4 fS rfl kQ)) hF.defers ⟨by rw[show a.tmps.getD 5 ar=_ from hF.g 0 rfl],hw⟩
def BB.zero:BB:=⟨0,0,0,0,0,0,0,0,0,0,0,0⟩
def C9(b:BB)(ml:List Mn)(ss:List Int)(ms:List Mk)(n:Nat)(bb:BB)(m s k:aj)(h:Int)(w:ak):Prop:=
 (aT b ml ss ms=[]/\h=9/\bb=BB.zero/\m=ae none 0 0/\s=ae none 0 0/\k=ae none 0 0)\/(aT b ml ss ms≠[]/\h=0/\bb=b/\bW b m s k ml ss ms w/\px n m s k)
def bW.but{b:BB}{m s k:aj}{ml:List Mn}{ss:List Int}{ms:List Mk}{w w':ak}{n B:Nat}(h:bW b m s k ml ss ms w)(hf:px n m s k)(up:SA B w w')(hB:B<n):bW b m s k ml ss ms w':=
 ⟨h.ok,h.eT,h.lH,h.jM,h.rm.at_ (Nat.le_of_eq up.size.symm) fun g hg=>up.block g (by have:=hf.one g hg;omega),h.rs.at_ (Nat.le_of_eq up.size.symm) fun g hg=>up.block g (by have:=hf.two g hg;omega),h.rk.at_ (Nat.le_of_eq up.size.symm) fun g hg=>up.block g (by have:=hf.three g hg;omega)⟩
section
variable{b bb:BB}{ml:List Mn}{ss:List Int}{ms:List Mk}{n:Nat}{m s k:aj}{h:Int}{w w':ak}
theorem C9.below(o:C9 b ml ss ms n bb m s k h w)(hb:Bw w w'):C9 b ml ss ms n bb m s k h w':=o.imp id fun o=>⟨o.1,o.2.1,o.2.2.1,o.2.2.2.1.below hb,o.2.2.2.2⟩
theorem C9.but{B:Nat}(o:C9 b ml ss ms n bb m s k h w)(up:SA B w w')(hB:B<n):C9 b ml ss ms n bb m s k h w':=o.imp id fun o=>⟨o.1,o.2.1,o.2.2.1,o.2.2.2.1.but o.2.2.2.2 up hB,o.2.2.2.2⟩
theorem C9.base{n':Nat}(o:C9 b ml ss ms n bb m s k h w)(hn:n'<=n):C9 b ml ss ms n' bb m s k h w:=o.imp id fun o=>⟨o.1,o.2.1,o.2.2.1,o.2.2.2.1,o.2.2.2.2.base hn⟩
end
def ME(b:BB)(p1 p2 p3:Option cJ)(c1 c2 c3:Nat)(ml:List Mn)(ss:List Int)(ms:List Mk)(w:ak)(hL:Laid w)(hB:bW b (ae p1 ml.length c1) (ae p2 ss.length c2) (ae p3 ms.length c3) ml ss ms w)(hce:aT b ml ss ms=[]):a_ aq 150 #[aN (b.sl p1 ml.length c1 p2 ss.length c2 p3 ms.length c3)] w (Rt w (bB #[aN fP,ag af 9])):=by
 have HC:∀w9,Bw w w9->_:=fun w9 h9=>dI b _ _ _ ml ss ms w9 (hL.below h9) (hB.below h9);have HS:∀w9,Bw w w9->_:=fun w9 h9=>DG b _ _ _ ml ss ms w9 (hB.below h9);rw[hce,show decide ((([]:List dS))≠[])=false from rfl] at HS;refine jV Tryz.func150 rfl rfl [(0,aN (b.sl p1 ml.length c1 p2 ss.length c2 p3 ms.length c3))] ⟨iL rfl,trivial⟩ fun a W hF hw=>?_;refine iU (N:=3) rfl ?_;refine jd ⟨[],[],[],[]⟩ (some 1) (fun B=>pv B 0) (b.sl p1 ml.length c1 p2 ss.length c2 p3 ms.length c3) 28 hF hF ?_;intro B1 W a G1 ho K1 hF;have aa7:=aG hw.size G1;replace hw:=hw.tr ho;rename ak=>W1;have h1:=ay W1.heap.size W1;refine jd ⟨[],[],[],[]⟩ (some 2) (fun B=>pv B 0) (mF) 28 hF hF ?_;intro B2 W a G2 ho K2 hF;have RJ:=aG (hw.tr h1).size G2;have ah4:=aG h1.size G2;replace h1:=h1.tr ho;replace hw:=hw.tr h1;rename ak=>W2;have h2:=ay W2.heap.size W2;refine dY 2 1 0 [(3,ag af 0)] hF ?_;intro a W ho hF;replace h2:=h2.tr ho;refine jf ?_;refine dg ?_;refine rK ⟨[],[(1,ag af 0)],[(B1,(b.sl p1 ml.length c1 p2 ss.length c2 p3 ms.length c3))],[]⟩ [(4,ag af 0)] hF hF ⟨fun w1 hS=>⟨_,_,aw K1 (h1.tr (h2.tr hS))⟩,trivial⟩ ⟨fun w1 hS _=>gc (HC w1 (hw.tr (h2.tr hS))),trivial⟩ ?_;intro a W ho hF;replace h2:=h2.tr ho;refine fD [(8,aA false)] hF ?_;intro a W ho hF;replace h2:=h2.tr ho;refine kV (t:=false) (hF.g 0 rfl) ?_;replace hF:=hF.tl;refine dA ?_;refine dg ?_;refine rK ⟨[],[(2,aA false)],[(B1,(b.sl p1 ml.length c1 p2 ss.length c2 p3 ms.length c3))],[]⟩ [(14,aA true)] hF hF ⟨fun w1 hS=>⟨_,_,aw K1 (h1.tr (h2.tr hS))⟩,trivial⟩ ⟨fun w1 hS _=>gc (HS w1 (hw.tr (h2.tr hS))),trivial⟩ ?_;intro a W ho hF;replace h2:=h2.tr ho;refine kV (t:=true) (hF.g 0 rfl) ?_;replace hF:=hF.tl;replace hF:=hF.del 3;simp only[jn,fo,bq,reduceIte] at hF;refine iU (N:=3) rfl ?_;refine dY 0 1 2 [(15,aN mF)] hF ?_;intro a W ho hF;replace h2:=h2.tr ho;refine nT ⟨[],[],[],[]⟩ (mF) (mF) (aQ 15) hF hF (aw K2 h2) ?_;intro W a up K2 hF;replace hw:=up.below (hw.tr h2) RJ;replace h1:=up.below (h1.tr h2) ah4;clear up;rename ak=>P8;have nI:=ay P8.heap.size P8;refine dY 2 1 0 [(3,ag af 9)] hF ?_;intro a W ho hF;replace nI:=nI.tr ho;refine jf ?_;refine ej ?_;exact a8 (results_cell_tmp rfl (hF.g 3 rfl) (eF _ B2 28 28 _ (0,0) _ (aw K2 nI) bL rfl kQ)) hF.defers ⟨by rw[show a.tmps.getD 3 ar=_ from(hF.g 0 rfl)],(hw.tr nI)⟩
def FM(b:BB)(p1 p2 p3:Option cJ)(c1 c2 c3:Nat)(ml:List Mn)(ss:List Int)(ms:List Mk)(w:ak)(hL:Laid w)(hB:bW b (ae p1 ml.length c1) (ae p2 ss.length c2) (ae p3 ms.length c3) ml ss ms w):a_ aq 150 #[aN (b.sl p1 ml.length c1 p2 ss.length c2 p3 ms.length c3)] w fun e w'=>∃bb r1 u1 v1 r2 u2 v2 r3 u3 v3 h,e=aU (bB #[aN (BB.cells bb (ae r1 u1 v1) (ae r2 u2 v2) (ae r3 u3 v3)),ag af h])/\C9 b ml ss ms w.heap.size bb (ae r1 u1 v1) (ae r2 u2 v2) (ae r3 u3 v3) h w'/\Bw w w':=by
 by_cases hce:aT b ml ss ms=[]
 .refine(ME b p1 p2 p3 c1 c2 c3 ml ss ms w hL hB hce).mono ?_;rintro e w' ⟨h1,h2⟩;exact⟨BB.zero,none,0,0,none,0,0,none,0,0,9,h1,cz ⟨hce,rfl,rfl,rfl,rfl,rfl⟩,h2⟩
 refine(Bp b _ _ _ ml ss ms w hL hB hce).mono ?_;rintro e w' ⟨m,s,k,h1,h2,h3,h4⟩;obtain⟨r1,v1,rfl,-⟩:=aR h2.rm;obtain⟨r2,v2,rfl,-⟩:=aR h2.rs;obtain⟨r3,v3,rfl,-⟩:=aR h2.rk;exact⟨b,r1,_,v1,r2,_,v2,r3,_,v3,0,h1,.inr ⟨hce,rfl,rfl,h2.tobW,h3⟩,h4⟩
def Ir(b:BB)(p1 p2 p3:Option cJ)(c1 c2 c3:Nat)(ml:List Mn)(ss:List Int)(ms:List Mk)(w:ak)(hL:Laid w)(hB:bW b (ae p1 ml.length c1) (ae p2 ss.length c2) (ae p3 ms.length c3) ml ss ms w)(lo hi:Int)(q0:0<=lo)(q1:lo<=hi)(q2:hi<=99)(z1 z2:Int)(hz1:max b.ll lo=z1)(hz2:min b.lm hi=z2)(hz:z1<=z2):a_ aq 80 #[aN (b.sl p1 ml.length c1 p2 ss.length c2 p3 ms.length c3),aN #[ag af lo,ag af hi]] w fun e w'=>∃bb r1 u1 v1 r2 u2 v2 r3 u3 v3 h,e=aU (bB #[aN (BB.cells bb (ae r1 u1 v1) (ae r2 u2 v2) (ae r3 u3 v3)),ag af h])/\C9 (b.lk z1 z2) ml ss ms w.heap.size bb (ae r1 u1 v1) (ae r2 u2 v2) (ae r3 u3 v3) h w'/\Bw w w':=by
 have hlk:=hB.ok.leak;have HC:∀w9,Bw w w9->_:=fun w9 h9=>dI b _ _ _ ml ss ms w9 (hL.below h9) (hB.below h9);have HA:∀w9,Bw w w9->_:=fun w9 h9=>FM (b.lk z1 z2) p1 p2 p3 c1 c2 c3 ml ss ms w9 (hL.below h9) ((hB.below h9).lk oM hz oM oM);have HM:=fun w9=>zr b.ll b.lm lo hi w9;rw[hz1,hz2,decide_eq_true hz] at HM;refine jV Tryz.func80 rfl rfl [(1,aN #[ag af lo,ag af hi]),(0,aN (b.sl p1 ml.length c1 p2 ss.length c2 p3 ms.length c3))] ⟨iL rfl,iL rfl,trivial⟩ fun a W hF hw=>?_;refine iU (N:=4) rfl ?_;refine jd ⟨[],[],[],[]⟩ (some 2) (fun B=>pv B 0) (b.sl p1 ml.length c1 p2 ss.length c2 p3 ms.length c3) 28 hF hF ?_;intro B2 W a G2 ho K2 hF;have RJ:=aG hw.size G2;replace hw:=hw.tr ho;rename ak=>W2;have h2:=ay W2.heap.size W2;refine jd ⟨[],[],[],[]⟩ (some 3) (fun B=>pv B 0) (#[ag af lo,ag af hi]) 23 hF hF ?_;intro B3 W a G3 ho K3 hF;have Oe:=aG (hw.tr h2).size G3;have aa6:=aG h2.size G3;replace h2:=h2.tr ho;replace hw:=hw.tr h2;rename ak=>W3;have h3:=ay W3.heap.size W3;refine jd ⟨[],[],[],[]⟩ (some 4) (fun B=>pv B 0) (mF) 28 hF hF ?_;intro B4 W a G4 ho K4 hF;have UQ:=aG (hw.tr h3).size G4;have aa5:=aG (h2.tr h3).size G4;have aei:=aG h3.size G4;replace h3:=h3.tr ho;replace hw:=hw.tr h3;replace h2:=h2.tr h3;rename ak=>W4;have h4:=ay W4.heap.size W4;refine dY 3 1 0 [(5,ag af 0)] hF ?_;intro a W ho hF;replace h4:=h4.tr ho;refine jf ?_;refine dg ?_;refine rK ⟨[],[(1,ag af 0)],[(B2,(b.sl p1 ml.length c1 p2 ss.length c2 p3 ms.length c3))],[]⟩ [(6,ag af 0)] hF hF ⟨fun w1 hS=>⟨_,_,aw K2 (h2.tr (h4.tr hS))⟩,trivial⟩ ⟨fun w1 hS _=>gc (HC w1 (hw.tr (h4.tr hS))),trivial⟩ ?_;intro a W ho hF;replace h4:=h4.tr ho;refine fD [(12,aA false)] hF ?_;intro a W ho hF;replace h4:=h4.tr ho;refine kV (t:=false) (hF.g 0 rfl) ?_;replace hF:=hF.tl;refine dA ?_;refine dg ?_;refine rK ⟨[],[(1,aA true)],[(B3,#[ag af lo,ag af hi])],[]⟩ [(17,aA false)] hF hF ⟨fun w1 hS=>⟨_,_,aw K3 (h3.tr (h4.tr hS))⟩,trivial⟩ ⟨fun w1 hS _=>gc (m9 lo hi 0 99 w1 q0 q1 q2),trivial⟩ ?_;intro a W ho hF;replace h4:=h4.tr ho;refine kV (t:=false) (hF.g 0 rfl) ?_;replace hF:=hF.tl;refine dA ?_;refine iU (N:=10) rfl ?_;refine jh 0 7 3 ⟨[],[(3,bB #[aN #[ag af z1,ag af z2],aA true])],[(B2,(b.sl p1 ml.length c1 p2 ss.length c2 p3 ms.length c3)),(B3,#[ag af lo,ag af hi])],[(2,1)]⟩ [(24,aN #[ag af z1,ag af z2]),(25,aA true)] hF hF ⟨fun w1 hS=>⟨_,_,aw K2 (h2.tr (h4.tr hS))⟩,fun w1 hS=>⟨_,_,aw K3 (h3.tr (h4.tr hS))⟩,trivial⟩ ⟨fun w1 hS _=>gc (HM w1),trivial⟩ ?_;intro a W ho hF;replace h4:=h4.tr ho;refine jd ⟨[],[],[],[]⟩ (some 7) (fun B=>pv B 0) (#[ag af 0,ag af 0]) 23 hF hF ?_;intro B7 W a G7 ho K7 hF;have ahX:=aG (hw.tr h4).size G7;have ah0:=aG (h2.tr h4).size G7;have ahZ:=aG (h3.tr h4).size G7;have ahY:=aG h4.size G7;replace h4:=h4.tr ho;replace hw:=hw.tr h4;replace h2:=h2.tr h4;replace h3:=h3.tr h4;rename ak=>W7;have h7:=ay W7.heap.size W7;refine nT ⟨[],[],[],[]⟩ (#[ag af 0,ag af 0]) (#[ag af z1,ag af z2]) (aQ 2) hF hF (aw K7 h7) ?_;intro W a up K7 hF;replace hw:=up.below (hw.tr h7) ahX;replace h2:=up.below (h2.tr h7) ah0;replace h3:=up.below (h3.tr h7) ahZ;replace h4:=up.below (h4.tr h7) ahY;clear up;rename ak=>P7;have fp:=ay P7.heap.size P7;refine dY 9 1 0 [(8,aA true)] hF ?_;intro a W ho hF;replace fp:=fp.tr ho;refine jf ?_;refine dg ?_;refine fD [(27,aA false)] hF ?_;intro a W ho hF;replace fp:=fp.tr ho;refine kV (t:=false) (hF.g 0 rfl) ?_;replace hF:=hF.tl;refine dA ?_;refine iU (N:=3) rfl ?_;refine jh 0 2 1 ⟨[],[],[(B7,#[ag af z1,ag af z2])],[]⟩ [(29,aN #[ag af z1,ag af z2]),(30,pv B2 8)] hF hF ⟨fun w1 hS=>⟨_,_,aw K7 (fp.tr hS)⟩,trivial⟩ trivial ?_;intro a W ho hF;replace fp:=fp.tr ho;have agc:B4≠B2:=by have e1:=(ah.1 K2).1;have e2:=aa5;omega
 replace K4:=aw K4 (h4.tr fp);refine nT ⟨[],[],[],[]⟩ (b.sl p1 ml.length c1 p2 ss.length c2 p3 ms.length c3) ((b.lk z1 z2).cells (ae p1 ml.length c1) (ae p2 ss.length c2) (ae p3 ms.length c3)) (aQ 2) hF hF (aw K2 (h2.tr fp)) ?_;intro W a up K2 hF;replace K4:=(up.block _ agc).trans K4;replace hw:=up.below (hw.tr fp) RJ;clear up;rename ak=>Zg;have xu:=ay Zg.heap.size Zg;refine jf ?_;replace hF:=hF.del 5;simp only[jn,fo,bq,reduceIte] at hF;refine iU (N:=6) rfl ?_;refine jh 0 1 5 ⟨[],[],[(B2,((b.lk z1 z2).cells (ae p1 ml.length c1) (ae p2 ss.length c2) (ae p3 ms.length c3)))],[]⟩ [(31,aN ((b.lk z1 z2).cells (ae p1 ml.length c1) (ae p2 ss.length c2) (ae p3 ms.length c3)))] hF hF ⟨fun w1 hS=>⟨_,_,aw K2 (xu.tr hS)⟩,trivial⟩ trivial ?_;intro a W ho hF;replace xu:=xu.tr ho;have hBn:=bD (ah.1 K4).1 (xu).size;have SE:=((hw.tr xu)).size;refine Fy ⟨[],[],[],[]⟩ (some 32) (f:=150) (args:=#[aN ((b.lk z1 z2).cells (ae p1 ml.length c1) (ae p2 ss.length c2) (ae p3 ms.length c3))]) hF hF (HA _ (hw.tr xu)) ?_;rintro _ W ⟨bb,r1,u1,v1,r2,u2,v2,r3,u3,v3,h9,rfl,hR,hb⟩;refine⟨_,rfl,fun a hF=>?_⟩;have ho:=hb;replace xu:=xu.tr ho;replace hw:=hw.tr xu;rename ak=>W32;have h32:=ay W32.heap.size W32;refine dY 2 2 2 [(33,aN (bb.sl r1 u1 v1 r2 u2 v2 r3 u3 v3)),(34,ag af h9)] hF ?_;intro a W ho hF;replace h32:=h32.tr ho;replace hR:=hR.below h32;refine nT ⟨[],[],[],[]⟩ (mF) (bb.sl r1 u1 v1 r2 u2 v2 r3 u3 v3) (aQ 15) hF hF (aw K4 (xu.tr h32)) ?_;intro W a up K4 hF;replace hR:=(hR.but up hBn).base SE;replace hw:=up.below (hw.tr h32) UQ;clear up;rename ak=>Zf;have PR:=ay Zf.heap.size Zf;refine dY 5 1 0 [(5,ag af h9)] hF ?_;intro a W ho hF;replace PR:=PR.tr ho;replace hR:=hR.below ho;refine jf ?_;refine ej ?_;exact a8 (results_cell_tmp rfl (hF.g 12 rfl) (eF _ B4 28 28 _ (0,0) _ (aw K4 PR) bL rfl kQ)) hF.defers ⟨bb,r1,u1,v1,r2,u2,v2,r3,u3,v3,h9,by rw[show a.tmps.getD 5 ar=_ from(hF.g 0 rfl)],hR,(hw.tr PR)⟩
def vL(b:BB)(p1 p2 p3:Option cJ)(n1 c1 n2 c2 n3 c3:Nat)(lo hi:Int)(w:ak):a_ aq 87 #[aN (b.sl p1 n1 c1 p2 n2 c2 p3 n3 c3),aN #[ag af lo,ag af hi]] w (Rt w (aN ((b.lk lo hi).cells (ae p1 n1 c1) (ae p2 n2 c2) (ae p3 n3 c3)))):=by
 refine jV Tryz.func87 rfl rfl [(1,aN #[ag af lo,ag af hi]),(0,aN (b.sl p1 n1 c1 p2 n2 c2 p3 n3 c3))] ⟨iL rfl,iL rfl,trivial⟩ fun a W hF hw=>?_;refine iU (N:=3) rfl ?_;refine jd ⟨[],[],[],[]⟩ (some 2) (fun B=>pv B 0) (b.sl p1 n1 c1 p2 n2 c2 p3 n3 c3) 28 hF hF ?_;intro B2 W a G2 ho K2 hF;have RJ:=aG hw.size G2;replace hw:=hw.tr ho;rename ak=>W2;have h2:=ay W2.heap.size W2;refine jd ⟨[],[],[],[]⟩ (some 3) (fun B=>pv B 0) (#[ag af lo,ag af hi]) 23 hF hF ?_;intro B3 W a G3 ho K3 hF;have Oe:=aG (hw.tr h2).size G3;have aa6:=aG h2.size G3;replace h2:=h2.tr ho;replace hw:=hw.tr h2;rename ak=>W3;have h3:=ay W3.heap.size W3;refine jd ⟨[],[],[],[]⟩ (some 4) (fun B=>pv B 0) (mF) 28 hF hF ?_;intro B4 W a G4 ho K4 hF;have UQ:=aG (hw.tr h3).size G4;have aa5:=aG (h2.tr h3).size G4;have aei:=aG h3.size G4;replace h3:=h3.tr ho;replace hw:=hw.tr h3;replace h2:=h2.tr h3;rename ak=>W4;have h4:=ay W4.heap.size W4;refine jf ?_;refine iU (N:=3) rfl ?_;refine jh 0 1 2 ⟨[],[],[(B2,(b.sl p1 n1 c1 p2 n2 c2 p3 n3 c3))],[]⟩ [(6,aN (b.sl p1 n1 c1 p2 n2 c2 p3 n3 c3))] hF hF ⟨fun w1 hS=>⟨_,_,aw K2 (h2.tr (h4.tr hS))⟩,trivial⟩ trivial ?_;intro a W ho hF;replace h4:=h4.tr ho;refine jd ⟨[],[],[],[]⟩ (some 5) (fun B=>pv B 0) (mF) 28 hF hF ?_;intro B5 W a G5 ho K5 hF;have XR:=aG (hw.tr h4).size G5;have aeh:=aG (h2.tr h4).size G5;have XS:=aG (h3.tr h4).size G5;have aeg:=aG h4.size G5;replace h4:=h4.tr ho;replace hw:=hw.tr h4;replace h2:=h2.tr h4;replace h3:=h3.tr h4;rename ak=>W5;have h5:=ay W5.heap.size W5;refine nT ⟨[],[],[],[]⟩ (mF) (b.sl p1 n1 c1 p2 n2 c2 p3 n3 c3) (aQ 15) hF hF (aw K5 h5) ?_;intro W a up K5 hF;replace hw:=up.below (hw.tr h5) XR;replace h2:=up.below (h2.tr h5) aeh;replace h3:=up.below (h3.tr h5) XS;replace h4:=up.below (h4.tr h5) aeg;clear up;rename ak=>Ze;have Cm:=ay Ze.heap.size Ze;refine jf ?_;refine iU (N:=3) rfl ?_;refine jh 0 2 1 ⟨[],[],[(B3,#[ag af lo,ag af hi])],[]⟩ [(7,aN #[ag af lo,ag af hi]),(8,pv B5 8)] hF hF ⟨fun w1 hS=>⟨_,_,aw K3 (h3.tr (Cm.tr hS))⟩,trivial⟩ trivial ?_;intro a W ho hF;replace Cm:=Cm.tr ho;refine nT ⟨[],[],[],[]⟩ (b.sl p1 n1 c1 p2 n2 c2 p3 n3 c3) ((b.lk lo hi).cells (ae p1 n1 c1) (ae p2 n2 c2) (ae p3 n3 c3)) (aQ 2) hF hF (aw K5 Cm) ?_;intro W a up K5 hF;replace hw:=up.below (hw.tr Cm) XR;replace h2:=up.below (h2.tr Cm) aeh;replace h3:=up.below (h3.tr Cm) XS;replace h4:=up.below (h4.tr Cm) aeg;clear up;rename ak=>Zd;have EW:=ay Zd.heap.size Zd;refine jf ?_;refine iU (N:=2) rfl ?_;refine jh 0 1 1 ⟨[],[],[(B5,((b.lk lo hi).cells (ae p1 n1 c1) (ae p2 n2 c2) (ae p3 n3 c3)))],[]⟩ [(9,aN ((b.lk lo hi).cells (ae p1 n1 c1) (ae p2 n2 c2) (ae p3 n3 c3)))] hF hF ⟨fun w1 hS=>⟨_,_,aw K5 (EW.tr hS)⟩,trivial⟩ trivial ?_;intro a W ho hF;replace EW:=EW.tr ho;refine nT ⟨[],[],[],[]⟩ (mF) ((b.lk lo hi).cells (ae p1 n1 c1) (ae p2 n2 c2) (ae p3 n3 c3)) (aQ 15) hF hF (aw K4 (h4.tr EW)) ?_;intro W a up K4 hF;replace hw:=up.below (hw.tr EW) UQ;replace h2:=up.below (h2.tr EW) aa5;replace h3:=up.below (h3.tr EW) aei;clear up;rename ak=>Zc;have Y1:=ay Zc.heap.size Zc;refine jf ?_;refine ej ?_;exact a8 (results_cell_row rfl _ _ B4 28 _ (0,0) _ (hF.g 5 rfl) (aw K4 Y1) bL rfl kQ) hF.defers ⟨rfl,(hw.tr Y1)⟩
def OS(b:BB)(p1 p2 p3:Option cJ)(c1 c2 c3:Nat)(ml:List Mn)(ss:List Int)(ms:List Mk)(w:ak)(hL:Laid w)(hB:bW b (ae p1 ml.length c1) (ae p2 ss.length c2) (ae p3 ms.length c3) ml ss ms w)(hce:aT b ml ss ms=[]):a_ aq 56 #[aN (b.sl p1 ml.length c1 p2 ss.length c2 p3 ms.length c3)] w (Rt w (bB #[ae none 0 0,ag af 9])):=by
 have HO:∀w9,Bw w w9->_:=fun w9 h9=>QU b p1 p2 p3 c1 c2 c3 ml ss ms w9 (hL.below h9) (hB.below h9) hce;refine jV Tryz.func56 rfl rfl [(0,aN (b.sl p1 ml.length c1 p2 ss.length c2 p3 ms.length c3))] ⟨iL rfl,trivial⟩ fun a W hF hw=>?_;refine iU (N:=3) rfl ?_;refine jd ⟨[],[],[],[]⟩ (some 1) (fun B=>pv B 0) (b.sl p1 ml.length c1 p2 ss.length c2 p3 ms.length c3) 28 hF hF ?_;intro B1 W a G1 ho K1 hF;have aa7:=aG hw.size G1;replace hw:=hw.tr ho;rename ak=>W1;have h1:=ay W1.heap.size W1;refine dY 1 2 0 [(2,ae none 0 0),(3,ag af 0)] hF ?_;intro a W ho hF;replace h1:=h1.tr ho;refine jf ?_;refine iU (N:=8) rfl ?_;refine jh 0 5 3 ⟨[],[(1,bB #[aN #[ag af 0,ag af 0,ag af 0,ag af 0,ag af 0,ag af 0,ag af 0,ag af 0,ag af 0,ag af 0,ag af 0,ag af 0,ae none 0 0,ae none 0 0,ae none 0 0,ae none 0 0],ag af 9])],[(B1,(b.sl p1 ml.length c1 p2 ss.length c2 p3 ms.length c3))],[]⟩ [(9,aN #[ag af 0,ag af 0,ag af 0,ag af 0,ag af 0,ag af 0,ag af 0,ag af 0,ag af 0,ag af 0,ag af 0,ag af 0,ae none 0 0,ae none 0 0,ae none 0 0,ae none 0 0]),(10,ag af 9)] hF hF ⟨fun w1 hS=>⟨_,_,aw K1 (h1.tr hS)⟩,trivial⟩ ⟨fun w1 hS _=>gc (HO w1 (hw.tr (h1.tr hS))),trivial⟩ ?_;intro a W ho hF;replace h1:=h1.tr ho;refine jd ⟨[],[],[],[]⟩ (some 4) (fun B=>pv B 0) (#[ag af 0,ag af 0,ag af 0,ag af 0,ag af 0,ag af 0,ag af 0,ag af 0,ag af 0,ag af 0,ag af 0,ag af 0,ae none 0 0,ae none 0 0,ae none 0 0,ae none 0 0]) 122 hF hF ?_;intro B4 W a G4 ho K4 hF;have UQ:=aG (hw.tr h1).size G4;have ah3:=aG h1.size G4;replace h1:=h1.tr ho;replace hw:=hw.tr h1;rename ak=>W4;have h4:=ay W4.heap.size W4;refine nT ⟨[],[],[],[]⟩ (#[ag af 0,ag af 0,ag af 0,ag af 0,ag af 0,ag af 0,ag af 0,ag af 0,ag af 0,ag af 0,ag af 0,ag af 0,ae none 0 0,ae none 0 0,ae none 0 0,ae none 0 0]) (#[ag af 0,ag af 0,ag af 0,ag af 0,ag af 0,ag af 0,ag af 0,ag af 0,ag af 0,ag af 0,ag af 0,ag af 0,ae none 0 0,ae none 0 0,ae none 0 0,ae none 0 0]) (aQ 16) hF hF (aw K4 h4) ?_;intro W a up K4 hF;replace hw:=up.below (hw.tr h4) UQ;replace h1:=up.below (h1.tr h4) ah3;clear up;rename ak=>Zb;have EU:=ay Zb.heap.size Zb;refine dY 7 1 0 [(5,ag af 9)] hF ?_;intro a W ho hF;replace EU:=EU.tr ho;refine jf ?_;refine dg ?_;refine fD [(12,aA true)] hF ?_;intro a W ho hF;replace EU:=EU.tr ho;refine kV (t:=true) (hF.g 0 rfl) ?_;replace hF:=hF.tl;replace hF:=(hF.del 3).del 2;simp only[jn,fo,bq,reduceIte] at hF;refine fD [(2,ae none 0 0),(3,ag af 9)] hF ?_;intro a W ho hF;replace EU:=EU.tr ho;refine ej ?_;refine a8 (results_tmp2 rfl _ _ _) hF.defers ⟨?_,(hw.tr EU)⟩;rw[show a.tmps.getD 2 ar=_ from(hF.g 1 rfl),show a.tmps.getD 3 ar=_ from(hF.g 0 rfl)]
def NB(b:BB)(p1 p2 p3:Option cJ)(c1 c2 c3:Nat)(ml:List Mn)(ss:List Int)(ms:List Mk)(w:ak)(hL:Laid w)(hB:bW b (ae p1 ml.length c1) (ae p2 ss.length c2) (ae p3 ms.length c3) ml ss ms w)(cp:Nat)(hown:∀W,Bw w W->a_ aq 126 #[aN (b.sl p1 ml.length c1 p2 ss.length c2 p3 ms.length c3),pv cp 0] W fun e W'=>e=aU (ag af 0)/\Bw W W')(hno:aT b ml ss ms=[]) :
  a_ aq 103 #[aN (b.sl p1 ml.length c1 p2 ss.length c2 p3 ms.length c3),.func (.func 126) #[] #[pv cp 0]] w (Rt w (bB #[aN eO,ag af 9])):=by
 have ql:∀W,Bw w W->_:=fun W hb=>dI b _ _ _ ml ss ms W (hL.below hb) (hB.below hb);have MO:∀W,Bw w W->_:=fun W hb=>lQ b _ _ _ ml ss ms W (hB.below hb);rw[hno] at MO;generalize ml.length=n1 at *;generalize ss.length=n2 at *;generalize ms.length=n3 at *;refine jV Tryz.func103 rfl rfl [(1,.func (.func 126) #[] #[pv cp 0]),(0,aN (b.sl p1 n1 c1 p2 n2 c2 p3 n3 c3))] ⟨iL rfl,iL rfl,trivial⟩ fun a W hF hw=>?_;refine iU (N:=3) rfl ?_;refine jd ⟨[],[],[],[]⟩ (some 2) (fun B=>pv B 0) (b.sl p1 n1 c1 p2 n2 c2 p3 n3 c3) 28 hF hF ?_;intro B2 W1 a G2 ho k2 hF;have j2:=(ah.1 k2).1;replace hw:=hw.tr ho;refine jd ⟨[],[],[],[]⟩ (some 4) (fun B=>pv B 0) eO 122 hF hF ?_;intro B4 W2 a G4 ho k4 hF;have g4:=aG hw.size G4;replace hw:=hw.tr ho;replace k2:=aw k2 ho;have j4:=(ah.1 k4).1;refine dY 2 1 0 [(5,ag af 0)] hF ?_;intro a W3 ho hF;have j3:=ho.size;replace hw:=hw.tr ho;replace k2:=aw k2 ho;replace k4:=aw k4 ho;refine jf ?_;refine dg ?_;refine rK ⟨[],[(1,ag af 0)],[(B2,b.sl p1 n1 c1 p2 n2 c2 p3 n3 c3)],[]⟩ [(6,ag af 0)] hF hF ⟨fun w1 hS=>⟨_,_,aw k2 hS⟩,trivial⟩ ⟨fun w1 hS _=>gc (ql w1 (hw.tr hS)),trivial⟩ ?_;intro a W4 ho hF;have j5:=ho.size;replace hw:=hw.tr ho;replace k2:=aw k2 ho;replace k4:=aw k4 ho;refine fD [(12,aA false)] hF ?_;intro a W10 ho hF;have j10:=ho.size;replace hw:=hw.tr ho;replace k2:=aw k2 ho;replace k4:=aw k4 ho;refine kV (t:=false) (hF.g 0 rfl) ?_;refine dA ?_;refine iU (N:=5) rfl ?_;refine jh 0 3 2 ⟨[],[],[(B2,(b.sl p1 n1 c1 p2 n2 c2 p3 n3 c3))],[]⟩ [(17,aN (b.open (ae p1 n1 c1) (ae p2 n2 c2) (ae p3 n3 c3) (ae none 0 0)))] hF hF ⟨fun w1 hS=>⟨_,_,aw k2 hS⟩,trivial⟩ trivial ?_;intro a W11 ho hF;have j11:=ho.size;replace hw:=hw.tr ho;replace k2:=aw k2 ho;replace k4:=aw k4 ho;refine jd ⟨[],[],[],[]⟩ (some 7) (fun B=>pv B 0) eO 122 hF hF ?_;intro B7 W12 a G7 ho k7 hF;have g7:=aG hw.size G7;replace hw:=hw.tr ho;replace k2:=aw k2 ho;replace k4:=aw k4 ho;have j7:=(ah.1 k7).1;refine nT ⟨[],[],[],[]⟩ _ (b.open (ae p1 n1 c1) (ae p2 n2 c2) (ae p3 n3 c3) (ae none 0 0)) (aQ 16) hF hF k7 ?_;intro W13 a up k7 hF;replace hw:=up.below hw g7;replace k2:=(up.block _ oM).trans k2;replace k4:=(up.block _ oM).trans k4;clear up;refine jf ?_;refine dg ?_;refine rK ⟨[],[(3,ag af 0)],[(B7,(b.open (ae p1 n1 c1) (ae p2 n2 c2) (ae p3 n3 c3) (ae none 0 0)))],[]⟩ [(8,ag af 0)] hF hF ⟨fun w1 hS=>⟨_,_,aw k7 hS⟩,trivial⟩ ⟨fun w1 hS _=>gc (hown w1 (hw.tr hS)),trivial⟩ ?_;intro a W14 ho hF;have j14:=ho.size;replace hw:=hw.tr ho;replace k2:=aw k2 ho;replace k4:=aw k4 ho;replace k7:=aw k7 ho;refine fD [(23,aA false)] hF ?_;intro a W15 ho hF;have j15:=ho.size;replace hw:=hw.tr ho;replace k2:=aw k2 ho;replace k4:=aw k4 ho;replace k7:=aw k7 ho;refine kV (t:=false) (hF.g 0 rfl) ?_;refine dA ?_;refine dg ?_;refine iU (N:=6) rfl ?_;refine jh 0 3 3 ⟨[],[],[(B7,(b.open (ae p1 n1 c1) (ae p2 n2 c2) (ae p3 n3 c3) (ae none 0 0)))],[]⟩ [(28,.func (.func 117) #[aN (b.sl p1 n1 c1 p2 n2 c2 p3 n3 c3)] #[])] hF hF ⟨fun w1 hS=>⟨_,_,aw k7 hS⟩,trivial⟩ trivial ?_;intro a W16 ho hF;have j16:=ho.size;replace hw:=hw.tr ho;replace k2:=aw k2 ho;replace k4:=aw k4 ho;replace k7:=aw k7 ho;refine Fy ⟨[],[],[],[]⟩ (some 29) (f:=116) (args:=#[.func (.func 117) #[aN (b.sl p1 n1 c1 p2 n2 c2 p3 n3 c3)] #[]]) hF hF (MO _ hw) ?_;rintro _ W17 ⟨v,rfl,iH,ho⟩;obtain⟨pv9,cv9,rfl⟩:=dV iH.1;clear iH;refine⟨_,rfl,fun a hF=>?_⟩;replace hw:=hw.tr ho;replace k4:=aw k4 ho;replace k7:=aw k7 ho;clear ho k2;refine dY 4 1 1 [(30,pv B7 15)] hF ?_;intro a W18 ho hF;have j18:=ho.size;replace hw:=hw.tr ho;replace k4:=aw k4 ho;replace k7:=aw k7 ho;refine nT ⟨[],[],[],[]⟩ _ (b.open (ae p1 n1 c1) (ae p2 n2 c2) (ae p3 n3 c3) (ae pv9 0 cv9)) [0] hF hF k7 ?_;intro W19 a up k7 hF;replace hw:=up.below hw g7;replace k4:=(up.block _ oM).trans k4;clear up;refine jf ?_;refine rK ⟨[],[],[(B7,(b.open (ae p1 n1 c1) (ae p2 n2 c2) (ae p3 n3 c3) (ae pv9 0 cv9)))],[]⟩ [(34,aA true)] hF hF ⟨fun w1 hS=>⟨_,_,aw k7 hS⟩,trivial⟩ trivial ?_;intro a W20 ho hF;have j20:=ho.size;replace hw:=hw.tr ho;replace k4:=aw k4 ho;refine kV (t:=true) (hF.g 0 rfl) ?_;replace hF:=hF.del 5;simp only[jn,fo,bq,reduceIte] at hF;refine iU (N:=3) rfl ?_;refine dY 0 1 2 [(35,aN eO)] hF ?_;intro a W21 ho hF;have j21:=ho.size;replace hw:=hw.tr ho;replace k4:=aw k4 ho;refine nT ⟨[],[],[],[]⟩ _ eO (aQ 16) hF hF k4 ?_;intro W22 a up k4 hF;replace hw:=up.below hw g4;clear up;refine dY 2 1 0 [(5,ag af 9)] hF ?_;intro a W23 ho hF;have j23:=ho.size;replace hw:=hw.tr ho;replace k4:=aw k4 ho;refine jf ?_;refine ej ?_;exact a8 (results_cell_tmp rfl (hF.g 12 rfl) (eF _ B4 122 122 _ (0,0) _ k4 fS rfl kQ)) hF.defers ⟨by rw[show a.tmps.getD 5 ar=_ from hF.g 0 rfl],hw⟩
def J_(b:BB)(p1 p2 p3:Option cJ)(c1 c2 c3:Nat)(ml:List Mn)(ss:List Int)(ms:List Mk)(i:Nat)(hi:i<ml.length)(w:ak)(hL:Laid w)(hB:bW b (ae p1 ml.length c1) (ae p2 ss.length c2) (ae p3 ms.length c3) ml ss ms w)(hce:aT b ml ss ms=[]):a_ aq 58 #[aN (b.sl p1 ml.length c1 p2 ss.length c2 p3 ms.length c3),ag af (i:Int)] w (Rt w (bB #[ae none 0 0,ag af 9])):=by
 have NU:=hB.eT.len;refine jV Tryz.func58 rfl rfl [(1,ag af (i:Int)),(0,aN (b.sl p1 ml.length c1 p2 ss.length c2 p3 ms.length c3))] ⟨iL rfl,iL rfl,trivial⟩ fun a W hF hw=>?_;refine iU (N:=4) rfl ?_;refine jd ⟨[],[],[],[]⟩ (some 2) (fun B=>pv B 0) (b.sl p1 ml.length c1 p2 ss.length c2 p3 ms.length c3) 28 hF hF ?_;intro B2 W a G2 ho K2 hF;have RJ:=aG hw.size G2;replace hw:=hw.tr ho;rename ak=>W2;have h2:=ay W2.heap.size W2;refine jd ⟨[],[],[],[]⟩ (some 3) (fun B=>pv B 0) (#[ag af (i:Int)]) 3 hF hF ?_;intro B3 W a G3 ho K3 hF;have Oe:=aG (hw.tr h2).size G3;have aa6:=aG h2.size G3;replace h2:=h2.tr ho;replace hw:=hw.tr h2;rename ak=>W3;have h3:=ay W3.heap.size W3;refine dY 2 2 0 [(4,ae none 0 0),(5,ag af 0)] hF ?_;intro a W ho hF;replace h3:=h3.tr ho;refine jf ?_;refine iU (N:=9) rfl ?_;refine jh 0 6 3 ⟨[],[(2,bB #[aN #[ag af 0,ag af 0,ag af 0,ag af 0,ag af 0,ag af 0,ag af 0,ag af 0,ag af 0,ag af 0,ag af 0,ag af 0,ae none 0 0,ae none 0 0,ae none 0 0,ae none 0 0],ag af 9])],[(B2,(b.sl p1 ml.length c1 p2 ss.length c2 p3 ms.length c3))],[]⟩ [(12,aN #[ag af 0,ag af 0,ag af 0,ag af 0,ag af 0,ag af 0,ag af 0,ag af 0,ag af 0,ag af 0,ag af 0,ag af 0,ae none 0 0,ae none 0 0,ae none 0 0,ae none 0 0]),(13,ag af 9)] hF hF ⟨fun w1 hS=>⟨_,_,aw K2 (h2.tr (h3.tr hS))⟩,trivial⟩ ⟨fun w1 hS _=>gc (args:=#[aN (b.sl p1 ml.length c1 p2 ss.length c2 p3 ms.length c3),.func (.func 126) #[] #[pv B3 0]]) (NB b p1 p2 p3 c1 c2 c3 ml ss ms w1 (hL.below (hw.tr (h3.tr hS))) (hB.below (hw.tr (h3.tr hS))) B3 (fun W hb=>P1 b _ _ _ i ml.length p1 c1 rfl hi NU B3 W (ah.1 (aw K3 (h3.tr (hS.tr hb)))).1 (aK (aw K3 (h3.tr (hS.tr hb))) 0 _ rfl)) hce),trivial⟩ ?_;intro a W ho hF;replace h3:=h3.tr ho;refine jd ⟨[],[],[],[]⟩ (some 6) (fun B=>pv B 0) (#[ag af 0,ag af 0,ag af 0,ag af 0,ag af 0,ag af 0,ag af 0,ag af 0,ag af 0,ag af 0,ag af 0,ag af 0,ae none 0 0,ae none 0 0,ae none 0 0,ae none 0 0]) 122 hF hF ?_;intro B6 W a G6 ho K6 hF;have UN:=aG (hw.tr h3).size G6;have ah2:=aG (h2.tr h3).size G6;have UO:=aG h3.size G6;replace h3:=h3.tr ho;replace hw:=hw.tr h3;replace h2:=h2.tr h3;rename ak=>W6;have h6:=ay W6.heap.size W6;refine nT ⟨[],[],[],[]⟩ (#[ag af 0,ag af 0,ag af 0,ag af 0,ag af 0,ag af 0,ag af 0,ag af 0,ag af 0,ag af 0,ag af 0,ag af 0,ae none 0 0,ae none 0 0,ae none 0 0,ae none 0 0]) (#[ag af 0,ag af 0,ag af 0,ag af 0,ag af 0,ag af 0,ag af 0,ag af 0,ag af 0,ag af 0,ag af 0,ag af 0,ae none 0 0,ae none 0 0,ae none 0 0,ae none 0 0]) (aQ 16) hF hF (aw K6 h6) ?_;intro W a up K6 hF;replace hw:=up.below (hw.tr h6) UN;replace h2:=up.below (h2.tr h6) ah2;replace h3:=up.below (h3.tr h6) UO;clear up;rename ak=>Za;have ET:=ay Za.heap.size Za;refine dY 8 1 0 [(7,ag af 9)] hF ?_;intro a W ho hF;replace ET:=ET.tr ho;refine jf ?_;refine dg ?_;refine fD [(15,aA true)] hF ?_;intro a W ho hF;replace ET:=ET.tr ho;refine kV (t:=true) (hF.g 0 rfl) ?_;replace hF:=hF.tl;replace hF:=(hF.del 5).del 4;simp only[jn,fo,bq,reduceIte] at hF;refine fD [(4,ae none 0 0),(5,ag af 9)] hF ?_;intro a W ho hF;replace ET:=ET.tr ho;refine ej ?_;refine a8 (results_tmp2 rfl _ _ _) hF.defers ⟨?_,(hw.tr ET)⟩;rw[show a.tmps.getD 4 ar=_ from(hF.g 1 rfl),show a.tmps.getD 5 ar=_ from(hF.g 0 rfl)]
def Dy{d:Array Int}:∀(m:Nat),m<=d.size->∀j (hj:j<m),d[j]!∈Lib.compactUpTo d m
 |0,_,j,hj=>by omega
 |m+1,h,j,hj=>by
  rw[Lib.compactUpTo_succ]
  by_cases e:j<m
  .exact List.mem_append_left _ (Dy m oM j e)
  obtain rfl:j=m:=oM
  by_cases k:Lib.keeps d j=true
  .simp[k]
  have hj0:0<j:=by
   rcases Nat.eq_zero_or_pos j with rfl|h0
   .exact absurd (Lib.keeps_lt_one d 0 oM) k
   exact h0
  have e2:(d[j]!)=d[j-1]!:=by
   by_cases e3:(d[j]!)=d[j-1]!
   .exact e3
   exact absurd (Lib.keeps_pos e3) k
  rw[e2];exact List.mem_append_left _ (Dy j oM (j-1) oM)
def Dx{d:Array Int}:∀(m:Nat) x,x∈Lib.compactUpTo d m->∃j,j<m/\x=d[j]!
 |0,x,h=>by simp[Lib.compactUpTo] at h
 |m+1,x,h=>by
  rw[Lib.compactUpTo_succ] at h;rcases List.mem_append.1 h with h|h
  .obtain⟨j,h1,h2⟩:=Dx m x h;exact⟨j,oM,h2⟩
  by_cases k:Lib.keeps d m=true
  .rw[if_pos k] at h;exact⟨m,oM,by simpa using h⟩
  rw[if_neg k] at h;cases h
def Kv{d:Array Int}(hd:∀i j,i<=j->j<d.size->d[i]!<=d[j]!):∀(m:Nat),m<=d.size->(Lib.compactUpTo d m).Pairwise (· < ·)
 |0,_=>by simp[Lib.compactUpTo]
 |m+1,h=>by
  rw[Lib.compactUpTo_succ];refine List.pairwise_append.2 ⟨Kv hd m oM,by split<;>simp,fun x hx y hy=>?_⟩
  by_cases k:Lib.keeps d m=true
  .rw[if_pos k] at hy;obtain rfl:y=d[m]!:=by simpa using hy
   obtain⟨j,hj,rfl⟩:=Dx m x hx;have h1:=hd j (m-1) oM oM;have h2:=hd (m-1) m oM oM;have h3:d[m]!≠d[m-1]!:=fun e=>by rw[Lib.keeps_neg oM e] at k;cases k
   omega
  rw[if_neg k] at hy;cases hy
def vA{of:dS->Int}{l:List dS}{x:Int}:x∈dE of l↔∃a∈l,of a=x:=by
 unfold dE u_;have hp:(sorted (l.map of)).Perm (l.map of):=List.mergeSort_perm _ _;constructor
 .intro h;obtain⟨j,hj,rfl⟩:=Dx _ _ h
  have:(sorted (l.map of)).toArray[j]!∈sorted (l.map of):=by
   rw[getElem!_pos _ _ (by simpa using hj)];simp
  obtain⟨a,h1,h2⟩:=dm.1 (hp.mem_iff.1 this);exact⟨a,h1,h2⟩
 rintro⟨a,h1,rfl⟩;have h2:of a∈sorted (l.map of):=hp.mem_iff.2 (dm.2 ⟨a,h1,rfl⟩);obtain⟨j,hj,e⟩:=fZ h2;have:=Dy (d:=(sorted (l.map of)).toArray) _ sM j hj;rwa [getElem!_pos _ _ (by simpa using hj),List.getElem_toArray,e] at this
def TJ(of:dS->Int)(l:List dS):(dE of l).Pairwise (· < ·):=by
 unfold dE u_;refine Kv (fun i j Us hj=>?_) _ sM;have hs:(sorted (l.map of)).Pairwise (fun x y=>decide (x<=y)=true):=List.pairwise_mergeSort (fun a b c h1 h2=>by simp at *;omega) (fun a b=>by simp;omega) _;rw[getElem!_pos (sorted (l.map of)).toArray i oM,getElem!_pos (sorted (l.map of)).toArray j hj];rcases Nat.lt_or_ge i j with h|h
 .have:=List.pairwise_iff_getElem.1 hs i j (by simp at hj;omega) (by simpa using hj) h;simpa using this
 obtain rfl:i=j:=oM;omega
def P2:∀(l:List Int) (lo hi:Int),l.Pairwise (· < ·)->(∀x∈l,lo<=x/\x<=hi)->l.length<=(hi+1-lo).toNat
 |[],_,_,_,_=>iq _
 |x::l,lo,hi,h,hm=>by
  rw[List.pairwise_cons] at h;have h1:=P2 l (x+1) hi h.2 fun y hy=>⟨by have:=h.1 y hy;omega,(hm y (List.mem_cons_of_mem _ hy)).2⟩
  have h2:=hm x sM;simp only[eE];omega
def Hn(x:Int):eI x x=[x]:=by
 unfold eI;rw[show(x+1-x).toNat=1 by omega];simp
def wy{lo hi x:Int}:x∈eI lo hi↔lo<=x/\x<=hi:=by
 unfold eI;simp only[dm,bQ];constructor
 .rintro⟨i,h1,rfl⟩;omega
 rintro⟨h1,h2⟩;exact⟨(x-lo).toNat,oM,oM⟩
def KO(lo hi:Int):(eI lo hi).Nodup:=by
 unfold eI;show List.Pairwise (·≠·) _;rw[List.pairwise_map];exact List.nodup_range.imp fun h=>by omega
def dS.get_put(a:dS)(i:Nat)(n:Int)(h:i<3):(a.put i n).get i=n:=by
 match i,h with
 |0,_=>rfl
 |1,_=>rfl
 |2,_=>rfl
def dS.Oc(a:dS)(i j:Nat)(n:Int)(hi:i<3)(hj:j<3)(h:i≠j):(a.put j n).get i=a.get i:=by
 match i,j,hi,hj,h with
 |0,1,_,_,_|0,2,_,_,_|1,0,_,_,_|1,2,_,_,_|2,0,_,_,_|2,1,_,_,_=>rfl
 |0,0,_,_,h|1,1,_,_,h|2,2,_,_,h=>exact absurd rfl h
def xY(ok:dS->Bool):∀(r:List Mn) (k:Nat) (a:dS) (i:Nat),i<k->k+r.length<=3->i<3->∀c∈leaves ok r k a,c.get i=a.get i
 |[],k,a,i,_,_,_,c,h=>by
  simp only[leaves] at h;split at h
  .simp at h;rw[h]
  cases h
 |m::r,k,a,i,hik,h3,hi,c,h=>by
  simp only[leaves,jq] at h;obtain⟨n,hn,h⟩:=h;simp only[eE] at h3;rw[xY ok r (k+1) _ i oM oM hi c h,dS.Oc a i k n hi oM oM]
def LU{α:Type}(f:Int->List α)(x:Int):∀l:List Int,l.Nodup->x∈l->l.flatMap (fun n=>if n=x then f n else[])=f x
 |[],_,h=>by cases h
 |n::l,hd,h=>by
  rw[List.nodup_cons] at hd;rw[List.flatMap_cons]
  by_cases e:n=x
  .subst e;rw[if_pos rfl]
   have:l.flatMap (fun m=>if m=n then f m else[])=[]:=by
    rw[List.flatMap_eq_nil_iff];intro m hm;exact if_neg (fun e:m=n=>hd.1 (e▸hm))
   rw[this,Au]
  rw[if_neg e,List.nil_append];exact LU f x l hd.2 (by rcases cy.1 h with h|h;exact absurd h.symm e;exact h)
def zx(ok:dS->Bool)(x:Int):∀(l:List Mn) (i k:Nat) (a:dS),i<l.length->k+l.length<=3->(∀m,l[i]?=some m->m.lo<=x/\x<=m.hi)->
  leaves ok (rT l i x x) k a=(leaves ok l k a).filter fun c=>c.get (k+i)==x
 |[],i,k,a,hi,_,_=>by simp at hi
 |m::r,0,k,a,_,h3,hx=>by
  simp only[eE] at h3;have hx0:=hx m rfl;show leaves ok (⟨m.name,x,x⟩::r) k a=_;simp only[leaves,Hn,List.flatMap_cons,List.flatMap_nil,Au,List.filter_flatMap,Nat.add_zero];rw[<-LU (fun n=>leaves ok r (k+1) (a.put k n)) x (eI m.lo m.hi) (KO _ _) (wy.2 hx0)]
  congr 1
  funext n
  have hg:∀c∈leaves ok r (k+1) (a.put k n),c.get k=n:=fun c hc=>by
   rw[xY ok r (k+1) _ k oM oM oM c hc,dS.get_put a k n oM]
  by_cases e:n=x
  .subst e;rw[if_pos rfl,List.filter_eq_self.2];intro c hc;simp[hg c hc]
  rw[if_neg e,List.filter_eq_nil_iff.2];intro c hc;simp[hg c hc,e]
 |m::r,i+1,k,a,hi,h3,hx=>by
  simp only[eE] at h3 hi;show leaves ok (m::rT r i x x) k a=_;simp only[leaves,List.filter_flatMap]
  congr 1
  funext n
  rw[zx ok x r i (k+1) (a.put k n) oM oM (fun m' h=>hx m' (by simpa using h)),show k+1+i=k+(i+1) by omega]
def Ml(b:BB){ml:List Mn}(hm:uJ ml)(ss:List Int)(ms:List Mk)(i:Nat)(hi:i<ml.length)(x:Int)(hx:ml[i].lo<=x/\x<=ml[i].hi) :
  (aT b (rT ml i x x) ss ms).length=cnt i (aT b ml ss ms) x:=by
 have h3:=hm.len;unfold aT cnt;rw[List.countP_eq_length_filter,List.filter_flatMap]
 congr 2
 funext n
 have:=zx (iv b ss ms) x ml i 0 ⟨n,0,0,0⟩ hi oM (fun m h=>by rw[h_ hi] at h;cases h;exact hx);rw[this,cO]
def Fo(b:BB){ml:List Mn}(hm:uJ ml)(ss:List Int)(ms:List Mk)(i:Nat)(hi:i<ml.length){a:dS}(ha:a∈aT b ml ss ms):ml[i].lo<=a.get i/\a.get i<=ml[i].hi:=by
 have h3:=hm.len
 have main:∀(l:List Mn) (k i:Nat) (a0:dS) (hi:i<l.length),k+l.length<=3->∀c∈leaves (iv b ss ms) l k a0,l[i].lo<=c.get (k+i)/\c.get (k+i)<=l[i].hi:=by
  intro l
  induction l with
  |nil=>intro k i a0 hi;simp at hi
  |cons m r ih=>
   intro k i a0 hi hk c hc;simp only[eE] at hi hk;simp only[leaves,jq] at hc;obtain⟨n,hn,hc⟩:=hc
   match i,hi with
   |0,_=>
    have h1:=xY _ r (k+1) _ k oM oM oM c hc;rw[dS.get_put a0 k n oM] at h1;rw[Nat.add_zero,h1];exact wy.1 hn
   |i+1,hi=>
    have:=ih (k+1) i _ oM oM c hc;rw[show k+(i+1)=k+1+i by omega];exact this
 unfold aT at ha;obtain⟨n,_,h⟩:=jq.1 ha;have:=main ml 0 i _ hi oM a h;rwa [cO] at this
structure alg(all:List dS)(k:Nat)(lU:Int)(left:Nat):Prop where
 le:left<=all.length
 none:lU<0->lU = -1/\left=all.length
 some:0<=lU->lU<k/\left<all.length/\qp lU.toNat all all.length=left/\∀j:Nat,(j:Int)<lU->left<qp j all all.length
 all:∀j,j<k->left<=qp j all all.length
def zb(a n:Nat)(hn:0<n)(w:ak):(Go.binOp .rem 3 (ag af (a:Int)) (ag af (n:Int))).run aq w=.ok (ag af ((a % n:Nat):Int)) w:=by
 have h1:¬((n:Int)=0):=oM;have h2:(a:Int).tmod (n:Int)=((a % n:Nat):Int):=by rw[Int.tmod_eq_emod_of_nonneg oM];rfl
 rw[<-h2];go_simp;omega
def QS{W:ak}{b1 b2:Nat}{e:TypeId}{s n:Nat}{v:aj}{xs:List aj}(h:W.ownsRow b1 e s v n xs)(hb:b2<=b1):W.ownsRow b2 e s v n xs:=by
 obtain⟨hl,h|⟨G,cap,cur,h1,hG,h2⟩⟩:=h
 .exact⟨hl,cz h⟩
 exact⟨hl,.inr ⟨G,cap,cur,h1,aG hb hG,h2⟩⟩
structure RlS(B2 B4 B5 B7 E0 E n:Nat)(bk z4:Array aj)(lk lo hi:Int)(w0:ak)(mv:aj)(rows:List aj)(A C:Bool)(w:ak):Prop where
 k2:w.heap[B2]?=some (au bk 28 (0,0))
 k4:w.heap[B4]?=some (au z4 42 (0,0))
 k5:C=false->w.heap[B5]?=some (au #[ag af lk,mv] 42 (0,0))
 k7:w.heap[B7]?=some (au #[ag af lo,ag af hi] 23 (0,0))
 own:A=false->w.ownsRow E 3 1 mv n rows
 below:Below E0 w0 w
 sz:E0<=w.heap.size/\B5<w.heap.size/\E<=w.heap.size
section
variable{B2 B4 B5 B7 E0 E n:Nat}{bk z4:Array aj}{lk lo hi:Int}{w0 w1 w2:ak}{mv:aj}{rows:List aj}{A A' C C':Bool}
end
def Te{ml:List Mn}(hm:uJ ml)(i:Nat)(hi:i<ml.length)(x y:Int)(hx:ml[i].lo<=x/\x<=y/\y<=ml[i].hi):uJ (rT ml i x y):=by
 have hg:∀k (hk:k<(rT ml i x y).length),(rT ml i x y)[k]=if i=k then⟨(ml[k]'(by rw[nw] at hk;exact hk)).name,x,y⟩ else ml[k]'(by rw[nw] at hk;exact hk):=fun k hk=>by
  simp[rT,List.getElem_modify]
 refine⟨fun m h=>?_,fun j k hj hk hjk=>?_,by rw[nw];exact hm.len⟩
 .obtain⟨k,hk,rfl⟩:=fZ h;rw[hg k hk];rw[nw] at hk;have h1:=hm.mem ml[k] (bG hk);have h2:=hm.mem ml[i] (bG hi);split
  .exact⟨h1.1,by show 1<=x;omega,by show x<=y;omega,by show y<=99;omega,by show y-x<3;omega⟩
  exact h1
 rw[hg j hj,hg k hk];rw[nw] at hj hk;have:=hm.apart j k hj hk hjk;split<;>split<;>exact this
def Tn(ml:List Mn):∀u∈eA ml,u.oneCell'=true:=by
 intro u hu;simp only[eA,jq] at hu;obtain⟨m,-,hu⟩:=hu;simp[Mn.cells] at hu;rcases hu with rfl|rfl|rfl<;>rfl
def GU(b:BB)(p1 p2 p3:Option cJ)(c1 c2 c3:Nat)(ml:List Mn)(ss:List Int)(ms:List Mk)(i:Nat)(hi:i<ml.length)(w:ak)(hL:Laid w)(hB:bW b (ae p1 ml.length c1) (ae p2 ss.length c2) (ae p3 ms.length c3) ml ss ms w)(lo wR:Int)(h0:1<=lo)(h1:lo<=wR)(h2:wR<=99)(z1 z2:Int)(hz1:max ml[i].lo lo=z1)(hz2:min ml[i].hi wR=z2)(hz:z2<z1):a_ aq 78 #[aN (b.sl p1 ml.length c1 p2 ss.length c2 p3 ms.length c3),ag af (i:Int),aN #[ag af lo,ag af wR]] w (Rt w (bB #[aN fP,ag af 9])):=by
 have NU:=hB.eT.len;have hmi:=hB.eT.mem ml[i] (bG hi);obtain⟨m,hme⟩:∃m,ml[i]=m:=⟨_,rfl⟩
 rw[hme] at hmi hz1 hz2;have HC:∀w9,Bw w w9->_:=fun w9 h9=>dI b _ _ _ ml ss ms w9 (hL.below h9) (hB.below h9);have HM:=fun w9=>zr m.lo m.hi lo wR w9;rw[hz1,hz2] at HM;rw[show decide (z1<=z2)=false from decide_eq_false oM] at HM;refine jV Tryz.func78 rfl rfl [(2,aN #[ag af lo,ag af wR]),(1,ag af (i:Int)),(0,aN (b.sl p1 ml.length c1 p2 ss.length c2 p3 ms.length c3))] ⟨iL rfl,iL rfl,iL rfl,trivial⟩ fun a W hF hw=>?_;refine iU (N:=4) rfl ?_;refine jd ⟨[],[],[],[]⟩ (some 3) (fun B=>pv B 0) (b.sl p1 ml.length c1 p2 ss.length c2 p3 ms.length c3) 28 hF hF ?_;intro B3 W a G3 ho K3 hF;have Oe:=aG hw.size G3;replace hw:=hw.tr ho;rename ak=>W3;have h3:=ay W3.heap.size W3;refine jd ⟨[],[],[],[]⟩ (some 5) (fun B=>pv B 0) (#[ag af lo,ag af wR]) 23 hF hF ?_;intro B5 W a G5 ho K5 hF;have XR:=aG (hw.tr h3).size G5;have XS:=aG h3.size G5;replace h3:=h3.tr ho;replace hw:=hw.tr h3;rename ak=>W5;have h5:=ay W5.heap.size W5;refine jd ⟨[],[],[],[]⟩ (some 6) (fun B=>pv B 0) (mF) 28 hF hF ?_;intro B6 W a G6 ho K6 hF;have UN:=aG (hw.tr h5).size G6;have UO:=aG (h3.tr h5).size G6;have ah1:=aG h5.size G6;replace h5:=h5.tr ho;replace hw:=hw.tr h5;replace h3:=h3.tr h5;rename ak=>W6;have h6:=ay W6.heap.size W6;refine dY 3 1 0 [(7,ag af 0)] hF ?_;intro a W ho hF;replace h6:=h6.tr ho;refine jf ?_;refine dg ?_;refine rK ⟨[],[(1,ag af 0)],[(B3,(b.sl p1 ml.length c1 p2 ss.length c2 p3 ms.length c3))],[]⟩ [(8,ag af 0)] hF hF ⟨fun w1 hS=>⟨_,_,aw K3 (h3.tr (h6.tr hS))⟩,trivial⟩ ⟨fun w1 hS _=>gc (HC w1 (hw.tr (h6.tr hS))),trivial⟩ ?_;intro a W ho hF;replace h6:=h6.tr ho;refine fD [(14,aA false)] hF ?_;intro a W ho hF;replace h6:=h6.tr ho;refine kV (t:=false) (hF.g 0 rfl) ?_;replace hF:=hF.tl;refine dA ?_;refine dg ?_;refine wp_block ?_;refine rK ⟨[],[(3,aA true)],[(B3,(b.sl p1 ml.length c1 p2 ss.length c2 p3 ms.length c3))],[]⟩ [(17,aA false)] hF hF ⟨fun w1 hS=>⟨_,_,aw K3 (h3.tr (h6.tr hS))⟩,trivial⟩ ⟨fun w1 hS _=>gc (args:=#[aN (b.sl p1 ml.length c1 p2 ss.length c2 p3 ms.length c3),ag af (i:Int)]) (AQ b _ _ _ i ml.length p1 c1 rfl hi NU w1),trivial⟩ ?_;intro a W ho hF;replace h6:=h6.tr ho;refine kV (t:=false) (hF.g 0 rfl) ?_;replace hF:=hF.tl;refine rK ⟨[],[(1,aA true)],[(B5,#[ag af lo,ag af wR])],[]⟩ [(24,aA false)] hF hF ⟨fun w1 hS=>⟨_,_,aw K5 (h5.tr (h6.tr hS))⟩,trivial⟩ ⟨fun w1 hS _=>gc (m9 lo wR 1 99 w1 h0 h1 h2),trivial⟩ ?_;intro a W ho hF;replace h6:=h6.tr ho;refine kV (t:=false) (hF.g 0 rfl) ?_;replace hF:=hF.tl;refine dA ?_;have n36:B3≠B6:=by have h1:=(ah.1 K3).1;have h2:=UO;omega
 have hw3:w.heap.size<=B3:=Oe;have hw6:w.heap.size<=B6:=UN;replace K3:=aw K3 (h3.tr h6);replace K5:=aw K5 (h5.tr h6);replace K6:=aw K6 h6;replace hw:=(hw.tr h6)
 obtain⟨g,off,rfl,hcell⟩:∃g off,p1=some ⟨g,off,none⟩/\∀w9,Bw w w9->w9.cell? ⟨g,off+i*3+1,none⟩=some (ag af m.lo)/\w9.cell? ⟨g,off+i*3+2,none⟩=some (ag af m.hi):=by
  rcases hB.rm with⟨_,h0,_⟩|⟨g,off,cap,h0,_,hg,h4⟩
  .omega
  cases h0;refine⟨g,off,rfl,fun w9 h9=>⟨?_,?_⟩⟩
  .have:=(h9.cell (p:=⟨g,off+(3*i+1),none⟩) hg).trans (h4 (3*i+1) (ag af m.lo) (by rw[iF ml i 1 hi oM,hme];rfl));rwa [show off+(3*i+1)=off+i*3+1 by omega] at this
  have:=(h9.cell (p:=⟨g,off+(3*i+2),none⟩) hg).trans (h4 (3*i+2) (ag af m.hi) (by rw[iF ml i 2 hi oM,hme];rfl));rwa [show off+(3*i+2)=off+i*3+2 by omega] at this
 have j3:=(ah.1 K3).1;have j6:=(ah.1 K6).1
 refine Cv kQ [pV (pv B3 12),pV (ae (some ⟨g,off,none⟩) ml.length c1),pV (ag af (i:Int)),pV (dB (some ⟨g,off+i*3,none⟩)),pV (dB (some ⟨g,off+i*3+1,none⟩)),pV (aN #[ag af m.lo,ag af m.hi]),pV (aN #[ag af lo,ag af wR]),pV (bB #[aN #[ag af z1,ag af z2],aA false]),pV (bB #[aN #[ag af z1,ag af z2],aA false]),pV (aN #[ag af z1,ag af z2]),pV (aA false),fun v ds w9=>∃B,∃z:Array aj,v=pv B 0/\w9.heap[B]?=some (au z 23 (0,0))/\z.size=2/\W.heap.size<=B,fun v ds w9=>∃B,ds[0]?=some (pv B 0)/\W.heap.size<=B/\w9.heap[B]?=some (au #[ag af z1,ag af z2] 23 (0,0)),pV (aA false)]
  _ kQ hF.size hF.base ?_ ?_ ?_
 .refine⟨sV,sV,sV,sV,sV,sV,sV,sV,sV,sV,sV,?_,?_,sV,trivial⟩
  .rintro v ds w1 w2 hS ⟨B,z,h1,h2,h3,h4⟩ hb;exact⟨B,z,h1,aw h2 hb,h3,h4⟩
  rintro v ds w1 w2 hS ⟨B,h1,h4,h2⟩ hb;exact⟨B,h1,h4,aw h2 hb⟩
 .refine⟨?_,?_,?_,?_,?_,?_,?_,?_,?_,?_,?_,?_,?_,?_,trivial⟩<;>rintro ev w1 hS hc hg hf ⟨-,-,-,b5,b3,-,b1,-,-⟩ hd
  all_goals try
   try have d0:ev (aI _)=_:=hd.1 rfl
   refine yw rfl ?_ rfl;go_simp;done
  .have d0:ev (aI 30)=_:=hd.1 rfl;have z:=aK (aw K3 hS) 12 _ rfl;exact tV
  .have d1:ev (aI 31)=_:=hd.1 rfl;have d2:ev (aI 32)=_:=hd.2.1 rfl;have Ck:¬(ml.length<=i):=oM;exact tV
  .have d4:ev (aI 34)=_:=hd.1 rfl;have z1:=(hcell w1 (hw.tr hS)).1;have z2:=(hcell w1 (hw.tr hS)).2;exact tV
  .have lg:=aw K5 hS;exact wP 23 rfl b5 lg lF rfl kQ (rfl)
  .have d5:ev (aI 35)=_:=hd.1 rfl;have d6:ev (aI 36)=_:=hd.2.1 rfl;refine yc (HM w1) ?_ (fun _=>rfl);go_simp
  .refine Lag.Yields.value (v:=pv w1.heap.size 0) (w':=w1.alloc (au #[ag af 0,ag af 0] 23)) ?_ ⟨⟨_,_,rfl,ax _ _,rfl,hS.size⟩,cz cY⟩;go_simp
  .have d11:∃B,∃z:Array aj,(ev (aI 9))=pv B 0/\w1.heap[B]?=some (au z 23 (0,0))/\z.size=2/\W.heap.size<=B:=hd.1 rfl;have d9:ev (aI 38)=_:=hd.2.1 rfl;obtain⟨B,z,eB,hB,hz,hge⟩:=d11;refine Lag.Yields.ia 23 _ _ rfl B #[ag af z1,ag af z2] eB d9 23 z hB kQ hz (by simp[bK]) ⟨⟨B,congrArg some eB,hge,bX hB⟩,.inr ⟨cS hS hge,?_⟩⟩;intro j u ds hj hp
   match j,hp with
   |0,hp|1,hp|2,hp|3,hp|4,hp|5,hp|6,hp|7,hp|8,hp|9,hp|10,hp=>exact hp
   |11,⟨B',z',h1,h2,h3,h4⟩=>
    by_cases o6:B'=B
    .subst o6;rw[hB] at h2;cases h2;exact⟨B',_,h1,bX hB,hz.symm.trans h3,h4⟩
    exact⟨B',z',h1,(setRow_other o6).trans h2,h3,h4⟩
   |12,_=>exact(hj rfl).elim
   |13,hp=>exact hp
   |j+14,_=>trivial
 intro a W hR;have ho:=hR.s;obtain⟨B9,q9,G9,K9⟩:=hR.val 12;have e9:a.eval (aI 9)=pv B9 0:=a7 q9;clear q9;replace hw:=hw.tr ho;replace K3:=aw K3 ho;replace K5:=aw K5 ho;replace K6:=aw K6 ho;replace hF:=((hR.fr hF kQ).cons (t:=9) e9).cons (t:=10) (hR.val 13);clear hR ho e9;have n39:B3≠B9/\B6≠B9:=oM;refine dg ?_;refine fD [(41,aA true)] hF ?_;intro a W ho hF;replace hw:=hw.tr ho;replace K3:=aw K3 ho;replace K6:=aw K6 ho;replace K9:=aw K9 ho;refine kV (t:=true) (hF.g 0 rfl) ?_;replace hF:=hF.tl;replace hF:=hF.del 7;simp only[jn,fo,bq,reduceIte] at hF;refine iU (N:=3) rfl ?_;refine dY 0 1 2 [(42,aN mF)] hF ?_;intro a W ho hF;replace hw:=hw.tr ho;replace K3:=aw K3 ho;replace K6:=aw K6 ho;replace K9:=aw K9 ho;have K0:=K6;refine nT ⟨[],[],[],[]⟩ (mF) (mF) (aQ 15) hF hF K6 ?_;intro W a up K6 hF;replace K3:=(up.block _ n36).trans K3;replace K9:=(up.block _ n39.2.symm).trans K9;replace hw:=up.below hw hw6;clear up K0;refine dY 2 1 0 [(7,ag af 9)] hF ?_;intro a W ho hF;replace hw:=hw.tr ho;replace K3:=aw K3 ho;replace K6:=aw K6 ho;replace K9:=aw K9 ho;refine jf ?_;refine ej ?_;exact a8 (results_cell_tmp rfl (hF.g 5 rfl) (eF _ B6 28 28 _ (0,0) _ K6 bL rfl kQ)) hF.defers ⟨by rw[show a.tmps.getD 7 ar=_ from(hF.g 0 rfl)],hw⟩
def CH(b:BB)(p1 p2 p3:Option cJ)(c1 c2 c3:Nat)(ml:List Mn)(ss:List Int)(ms:List Mk)(i:Nat)(hi:i<ml.length)(w:ak)(hL:Laid w)(hB:bW b (ae p1 ml.length c1) (ae p2 ss.length c2) (ae p3 ms.length c3) ml ss ms w)(lo wR:Int)(h0:1<=lo)(h1:lo<=wR)(h2:wR<=99)(z1 z2:Int)(hz1:max ml[i].lo lo=z1)(hz2:min ml[i].hi wR=z2)(hz:z1<=z2):a_ aq 78 #[aN (b.sl p1 ml.length c1 p2 ss.length c2 p3 ms.length c3),ag af (i:Int),aN #[ag af lo,ag af wR]] w fun e w'=>∃bb r1 u1 v1 r2 u2 v2 r3 u3 v3 h,e=aU (bB #[aN (BB.cells bb (ae r1 u1 v1) (ae r2 u2 v2) (ae r3 u3 v3)),ag af h])/\C9 b (rT ml i z1 z2) ss ms w.heap.size bb (ae r1 u1 v1) (ae r2 u2 v2) (ae r3 u3 v3) h w'/\Bw w w':=by
 have NU:=hB.eT.len;have hmi:=hB.eT.mem ml[i] (bG hi);obtain⟨m,hme⟩:∃m,ml[i]=m:=⟨_,rfl⟩
 rw[hme] at hmi hz1 hz2;have HC:∀w9,Bw w w9->_:=fun w9 h9=>dI b _ _ _ ml ss ms w9 (hL.below h9) (hB.below h9);have HM:=fun w9=>zr m.lo m.hi lo wR w9;rw[hz1,hz2] at HM;rw[show decide (z1<=z2)=true from decide_eq_true hz] at HM;refine jV Tryz.func78 rfl rfl [(2,aN #[ag af lo,ag af wR]),(1,ag af (i:Int)),(0,aN (b.sl p1 ml.length c1 p2 ss.length c2 p3 ms.length c3))] ⟨iL rfl,iL rfl,iL rfl,trivial⟩ fun a W hF hw=>?_;refine iU (N:=4) rfl ?_;refine jd ⟨[],[],[],[]⟩ (some 3) (fun B=>pv B 0) (b.sl p1 ml.length c1 p2 ss.length c2 p3 ms.length c3) 28 hF hF ?_;intro B3 W a G3 ho K3 hF;have Oe:=aG hw.size G3;replace hw:=hw.tr ho;rename ak=>W3;have h3:=ay W3.heap.size W3;refine jd ⟨[],[],[],[]⟩ (some 5) (fun B=>pv B 0) (#[ag af lo,ag af wR]) 23 hF hF ?_;intro B5 W a G5 ho K5 hF;have XR:=aG (hw.tr h3).size G5;have XS:=aG h3.size G5;replace h3:=h3.tr ho;replace hw:=hw.tr h3;rename ak=>W5;have h5:=ay W5.heap.size W5;refine jd ⟨[],[],[],[]⟩ (some 6) (fun B=>pv B 0) (mF) 28 hF hF ?_;intro B6 W a G6 ho K6 hF;have UN:=aG (hw.tr h5).size G6;have UO:=aG (h3.tr h5).size G6;have ah1:=aG h5.size G6;replace h5:=h5.tr ho;replace hw:=hw.tr h5;replace h3:=h3.tr h5;rename ak=>W6;have h6:=ay W6.heap.size W6;refine dY 3 1 0 [(7,ag af 0)] hF ?_;intro a W ho hF;replace h6:=h6.tr ho;refine jf ?_;refine dg ?_;refine rK ⟨[],[(1,ag af 0)],[(B3,(b.sl p1 ml.length c1 p2 ss.length c2 p3 ms.length c3))],[]⟩ [(8,ag af 0)] hF hF ⟨fun w1 hS=>⟨_,_,aw K3 (h3.tr (h6.tr hS))⟩,trivial⟩ ⟨fun w1 hS _=>gc (HC w1 (hw.tr (h6.tr hS))),trivial⟩ ?_;intro a W ho hF;replace h6:=h6.tr ho;refine fD [(14,aA false)] hF ?_;intro a W ho hF;replace h6:=h6.tr ho;refine kV (t:=false) (hF.g 0 rfl) ?_;replace hF:=hF.tl;refine dA ?_;refine dg ?_;refine wp_block ?_;refine rK ⟨[],[(3,aA true)],[(B3,(b.sl p1 ml.length c1 p2 ss.length c2 p3 ms.length c3))],[]⟩ [(17,aA false)] hF hF ⟨fun w1 hS=>⟨_,_,aw K3 (h3.tr (h6.tr hS))⟩,trivial⟩ ⟨fun w1 hS _=>gc (args:=#[aN (b.sl p1 ml.length c1 p2 ss.length c2 p3 ms.length c3),ag af (i:Int)]) (AQ b _ _ _ i ml.length p1 c1 rfl hi NU w1),trivial⟩ ?_;intro a W ho hF;replace h6:=h6.tr ho;refine kV (t:=false) (hF.g 0 rfl) ?_;replace hF:=hF.tl;refine rK ⟨[],[(1,aA true)],[(B5,#[ag af lo,ag af wR])],[]⟩ [(24,aA false)] hF hF ⟨fun w1 hS=>⟨_,_,aw K5 (h5.tr (h6.tr hS))⟩,trivial⟩ ⟨fun w1 hS _=>gc (m9 lo wR 1 99 w1 h0 h1 h2),trivial⟩ ?_;intro a W ho hF;replace h6:=h6.tr ho;refine kV (t:=false) (hF.g 0 rfl) ?_;replace hF:=hF.tl;refine dA ?_;have n36:B3≠B6:=by have h1:=(ah.1 K3).1;have h2:=UO;omega
 have hw3:w.heap.size<=B3:=Oe;have hw6:w.heap.size<=B6:=UN;replace K3:=aw K3 (h3.tr h6);replace K5:=aw K5 (h5.tr h6);replace K6:=aw K6 h6;replace hw:=(hw.tr h6)
 obtain⟨g,off,rfl,hcell⟩:∃g off,p1=some ⟨g,off,none⟩/\∀w9,Bw w w9->w9.cell? ⟨g,off+i*3+1,none⟩=some (ag af m.lo)/\w9.cell? ⟨g,off+i*3+2,none⟩=some (ag af m.hi):=by
  rcases hB.rm with⟨_,h0,_⟩|⟨g,off,cap,h0,_,hg,h4⟩
  .omega
  cases h0;refine⟨g,off,rfl,fun w9 h9=>⟨?_,?_⟩⟩
  .have:=(h9.cell (p:=⟨g,off+(3*i+1),none⟩) hg).trans (h4 (3*i+1) (ag af m.lo) (by rw[iF ml i 1 hi oM,hme];rfl));rwa [show off+(3*i+1)=off+i*3+1 by omega] at this
  have:=(h9.cell (p:=⟨g,off+(3*i+2),none⟩) hg).trans (h4 (3*i+2) (ag af m.hi) (by rw[iF ml i 2 hi oM,hme];rfl));rwa [show off+(3*i+2)=off+i*3+2 by omega] at this
 have j3:=(ah.1 K3).1;have j6:=(ah.1 K6).1
 refine Cv kQ [pV (pv B3 12),pV (ae (some ⟨g,off,none⟩) ml.length c1),pV (ag af (i:Int)),pV (dB (some ⟨g,off+i*3,none⟩)),pV (dB (some ⟨g,off+i*3+1,none⟩)),pV (aN #[ag af m.lo,ag af m.hi]),pV (aN #[ag af lo,ag af wR]),pV (bB #[aN #[ag af z1,ag af z2],aA true]),pV (bB #[aN #[ag af z1,ag af z2],aA true]),pV (aN #[ag af z1,ag af z2]),pV (aA true),fun v ds w9=>∃B,∃z:Array aj,v=pv B 0/\w9.heap[B]?=some (au z 23 (0,0))/\z.size=2/\W.heap.size<=B,fun v ds w9=>∃B,ds[0]?=some (pv B 0)/\W.heap.size<=B/\w9.heap[B]?=some (au #[ag af z1,ag af z2] 23 (0,0)),pV (aA true)]
  _ kQ hF.size hF.base ?_ ?_ ?_
 .refine⟨sV,sV,sV,sV,sV,sV,sV,sV,sV,sV,sV,?_,?_,sV,trivial⟩
  .rintro v ds w1 w2 hS ⟨B,z,h1,h2,h3,h4⟩ hb;exact⟨B,z,h1,aw h2 hb,h3,h4⟩
  rintro v ds w1 w2 hS ⟨B,h1,h4,h2⟩ hb;exact⟨B,h1,h4,aw h2 hb⟩
 .refine⟨?_,?_,?_,?_,?_,?_,?_,?_,?_,?_,?_,?_,?_,?_,trivial⟩<;>rintro ev w1 hS hc hg hf ⟨-,-,-,b5,b3,-,b1,-,-⟩ hd
  all_goals try
   try have d0:ev (aI _)=_:=hd.1 rfl
   refine yw rfl ?_ rfl;go_simp;done
  .have d0:ev (aI 30)=_:=hd.1 rfl;have z:=aK (aw K3 hS) 12 _ rfl;exact tV
  .have d1:ev (aI 31)=_:=hd.1 rfl;have d2:ev (aI 32)=_:=hd.2.1 rfl;have Ck:¬(ml.length<=i):=oM;exact tV
  .have d4:ev (aI 34)=_:=hd.1 rfl;have z1:=(hcell w1 (hw.tr hS)).1;have z2:=(hcell w1 (hw.tr hS)).2;exact tV
  .have lg:=aw K5 hS;exact wP 23 rfl b5 lg lF rfl kQ (rfl)
  .have d5:ev (aI 35)=_:=hd.1 rfl;have d6:ev (aI 36)=_:=hd.2.1 rfl;refine yc (HM w1) ?_ (fun _=>rfl);go_simp
  .refine Lag.Yields.value (v:=pv w1.heap.size 0) (w':=w1.alloc (au #[ag af 0,ag af 0] 23)) ?_ ⟨⟨_,_,rfl,ax _ _,rfl,hS.size⟩,cz cY⟩;go_simp
  .have d11:∃B,∃z:Array aj,(ev (aI 9))=pv B 0/\w1.heap[B]?=some (au z 23 (0,0))/\z.size=2/\W.heap.size<=B:=hd.1 rfl;have d9:ev (aI 38)=_:=hd.2.1 rfl;obtain⟨B,z,eB,hB,hz,hge⟩:=d11;refine Lag.Yields.ia 23 _ _ rfl B #[ag af z1,ag af z2] eB d9 23 z hB kQ hz (by simp[bK]) ⟨⟨B,congrArg some eB,hge,bX hB⟩,.inr ⟨cS hS hge,?_⟩⟩;intro j u ds hj hp
   match j,hp with
   |0,hp|1,hp|2,hp|3,hp|4,hp|5,hp|6,hp|7,hp|8,hp|9,hp|10,hp=>exact hp
   |11,⟨B',z',h1,h2,h3,h4⟩=>
    by_cases o6:B'=B
    .subst o6;rw[hB] at h2;cases h2;exact⟨B',_,h1,bX hB,hz.symm.trans h3,h4⟩
    exact⟨B',z',h1,(setRow_other o6).trans h2,h3,h4⟩
   |12,_=>exact(hj rfl).elim
   |13,hp=>exact hp
   |j+14,_=>trivial
 intro a W hR;have ho:=hR.s;obtain⟨B9,q9,G9,K9⟩:=hR.val 12;have e9:a.eval (aI 9)=pv B9 0:=a7 q9;clear q9;replace hw:=hw.tr ho;replace K3:=aw K3 ho;replace K5:=aw K5 ho;replace K6:=aw K6 ho;replace hF:=((hR.fr hF kQ).cons (t:=9) e9).cons (t:=10) (hR.val 13);clear hR ho e9;have n39:B3≠B9/\B6≠B9:=oM;refine dg ?_;refine fD [(41,aA false)] hF ?_;intro a W ho hF;replace hw:=hw.tr ho;replace K3:=aw K3 ho;replace K6:=aw K6 ho;replace K9:=aw K9 ho;refine kV (t:=false) (hF.g 0 rfl) ?_;replace hF:=hF.tl;refine dA ?_;refine iU (N:=5) rfl ?_;refine jh 0 2 3 ⟨[],[],[(B3,(b.sl (some ⟨g,off,none⟩) ml.length c1 p2 ss.length c2 p3 ms.length c3))],[]⟩ [(44,ae (some ⟨g,off,none⟩) ml.length c1)] hF hF ⟨fun w1 hS=>⟨_,_,aw K3 hS⟩,trivial⟩ trivial ?_;intro a W ho hF;replace hw:=hw.tr ho;replace K3:=aw K3 ho;replace K6:=aw K6 ho;replace K9:=aw K9 ho;refine Fy ⟨[],[],[],[]⟩ (some 45) (f:=154) (args:=#[ae (some ⟨g,off,none⟩) ml.length c1]) hF hF (Mg _ ml.length (eA ml) (by rw[pZ,Nat.mul_comm]) (Tn ml) oM _ (hB.rm.below hw)) ?_;rintro _ W9 ⟨v45,rfl,hown,ho⟩;replace hown:=QS hown hw.size;replace hw:=hw.tr ho;replace K3:=aw K3 ho;replace K6:=aw K6 ho;replace K9:=aw K9 ho
 obtain⟨G,cG,rfl⟩:∃G c,v45=ae (some ⟨G,0,none⟩) ml.length c:=by
  rcases hown.2 with⟨-,h0⟩|⟨G,cap,cur,rfl,-⟩
  .omega
  exact⟨G,cap,rfl⟩
 refine⟨_,rfl,fun a hF=>?_⟩;refine dY 3 1 1 [(46,pv B3 12)] hF ?_;intro a W ho hF;replace hw:=hw.tr ho;replace K3:=aw K3 ho;replace K6:=aw K6 ho;replace K9:=aw K9 ho;replace hown:=dW hown ho;have K0:=K3;refine nT ⟨[],[],[],[]⟩ (b.sl (some ⟨g,off,none⟩) ml.length c1 p2 ss.length c2 p3 ms.length c3) (b.sl (some ⟨G,0,none⟩) ml.length cG p2 ss.length c2 p3 ms.length c3) [0] hF hF K3 ?_;intro W a up K3 hF;replace K6:=(up.block _ n36.symm).trans K6;replace K9:=(up.block _ n39.1.symm).trans K9;replace hw:=up.below hw hw3;replace hown:=fV hown fun g9 hg9=>up.block g9 (fun e=>lN hown K0 dC (by rw[<-e];exact hg9.symm));clear up K0;refine jf ?_;refine iU (N:=7) rfl ?_;refine jh 0 6 1 ⟨[],[(4,dB (some ⟨G,i*3,none⟩))],[(B3,(b.sl (some ⟨G,0,none⟩) ml.length cG p2 ss.length c2 p3 ms.length c3)),(B9,#[ag af z1,ag af z2])],[(3,1)]⟩ [(50,aN #[ag af z1,ag af z2]),(52,dB (some ⟨G,i*3+1,none⟩))] hF hF ⟨fun w1 hS=>⟨_,_,aw K3 hS⟩,fun w1 hS=>⟨_,_,aw K9 hS⟩,trivial⟩ ⟨fun w1 hS _=>gs (Instr.indexAt 24 (ae (some ⟨G,0,none⟩) ml.length cG) (ag af (i:Int))) (by have Ck:¬(ml.length<=i):=(by omega);go_simp),trivial⟩ ?_;intro a W ho hF;replace hw:=hw.tr ho;replace K3:=aw K3 ho;replace K6:=aw K6 ho;replace K9:=aw K9 ho;replace hown:=dW hown ho
 obtain⟨cur,hG,VP,uP,hcs,EB⟩:∃cur:Array aj,w.heap.size<=G/\W.heap[G]?=some (au cur 79 (0,0))/\ml.length<=cG/\cur.size=cG*3/\cur.toList.take (ml.length*3)=eA ml:=by
  obtain⟨Xj,⟨-,F2⟩|⟨G2,cap,cur,he,hG,VP,uP,hcm,hcs,EB⟩⟩:=hown
  .omega
  cases he;exact⟨cur,hG,VP,uP,hcs,EB⟩
 have hcz:i*3+2<cur.size:=by rw[hcs];omega
 have JB:∀j,j<cur.size->W.cell? ⟨G,j,none⟩=cur[j]?:=fun j hj=>(aK VP j _ (aO hj)).trans (aO hj).symm;have hth:W.there G (i*3+1) 2:=fun j hj=>⟨by rw[JB _ oM,aO (show i*3+1+j<cur.size by omega)];rfl,cQ VP _⟩
 have nG:G≠B3/\G≠B6:=⟨(by rintro rfl;rw[K3] at VP;cases VP),(by rintro rfl;rw[K6] at VP;cases VP)⟩
 refine WJ ⟨[],[],[],[]⟩ none (R:=fun _ w1=>w1=W.setCells G (i*3+1) [ag af z1,ag af z2]) hF hF kQ (Yields.Qr 23 (aI 52) (aI 50) kQ G (i*3+1) #[ag af z1,ag af z2] kQ kQ hth kQ (by simp[bK]) rfl) ?_;rintro _ W2 hW a hF;have up:SA G W W2:=hW▸R7 _ _ _ _
 have hr:Reads W2 (ae (some ⟨G,0,none⟩) ml.length cG) ml.length (eA (rT ml i z1 z2)):=by
  refine .inr ⟨G,0,cG,rfl,⟨oM,uP⟩,by rw[up.size];exact(ah.1 VP).1,fun j u hu=>?_⟩;rw[hW,cO];have hin:=World.cell?_setCells_in G [ag af z1,ag af z2] (i*3+1) W (fun j hj=>(hth j hj).1);rcases Td ml i hi z1 z2 j u hu with⟨rfl,rfl⟩|⟨rfl,rfl⟩|⟨q1,q2,q3⟩
  .have:=hin 0 sM;rw[show 3*i+1=i*3+1+0 by omega];exact this
  .have:=hin 1 sM;rw[show 3*i+2=i*3+1+1 by omega];exact this
  rw[World.cell?_setCells_out G _ _ W ⟨G,j,none⟩ (fun _ _=>by simp;omega)];rw[<-EB,List.getElem?_take] at q3;split at q3
  .have q4:cur[j]?=some u:=by simpa using q3
   rw[JB j (ah.1 q4).1];exact q4
  cases q3
 replace hw:=up.below hw hG;replace K3:=(up.block _ nG.1.symm).trans K3;replace K6:=(up.block _ nG.2.symm).trans K6;clear up hW VP JB hth;have HA:∀w9,Bw W2 w9->_:=fun w9 h9=>FM b (some ⟨G,0,none⟩) p2 p3 cG c2 c3 (rT ml i z1 z2) ss ms w9 (hL.below (hw.tr h9)) ⟨hB.ok,Te hB.eT i hi z1 z2 (by rw[hme];omega),hB.lH,hB.jM,by rw[nw];exact hr.below h9,hB.rs.below (hw.tr h9),hB.rk.below (hw.tr h9)⟩;rw[nw] at HA;have hm:=ay W2.heap.size W2;refine jf ?_;replace hF:=hF.del 7;simp only[jn,fo,bq,reduceIte] at hF;refine iU (N:=6) rfl ?_;refine jh 0 1 5 ⟨[],[],[(B3,(b.sl (some ⟨G,0,none⟩) ml.length cG p2 ss.length c2 p3 ms.length c3))],[]⟩ [(53,aN (b.sl (some ⟨G,0,none⟩) ml.length cG p2 ss.length c2 p3 ms.length c3))] hF hF ⟨fun w1 hS=>⟨_,_,aw K3 hS⟩,trivial⟩ trivial ?_;intro a W ho hF;replace hw:=hw.tr ho;replace K3:=aw K3 ho;replace K6:=aw K6 ho;replace hm:=hm.tr ho;have hBn:=(ah.1 K6).1;have SE:=(hw).size;refine Fy ⟨[],[],[],[]⟩ (some 54) (f:=150) (args:=#[aN (b.sl (some ⟨G,0,none⟩) ml.length cG p2 ss.length c2 p3 ms.length c3)]) hF hF (HA _ hm) ?_;rintro _ W ⟨bb,r1,u1,v1,r2,u2,v2,r3,u3,v3,h9,rfl,hR,hb⟩;refine⟨_,rfl,fun a hF=>?_⟩;have ho:=hb;replace hw:=hw.tr ho;replace K3:=aw K3 ho;replace K6:=aw K6 ho;replace hm:=hm.tr ho;rename ak=>W54;have h54:=ay W54.heap.size W54;refine dY 2 2 2 [(55,aN (bb.sl r1 u1 v1 r2 u2 v2 r3 u3 v3)),(56,ag af h9)] hF ?_;intro a W ho hF;replace hw:=hw.tr ho;replace K3:=aw K3 ho;replace K6:=aw K6 ho;replace hm:=hm.tr ho;replace h54:=h54.tr ho;have K0:=K6;replace hR:=hR.below h54;refine nT ⟨[],[],[],[]⟩ (mF) (bb.sl r1 u1 v1 r2 u2 v2 r3 u3 v3) (aQ 15) hF hF K6 ?_;intro W a up K6 hF;replace hR:=(hR.but up hBn).base SE;replace hw:=up.below hw hw6;clear up K0;refine dY 5 1 0 [(7,ag af h9)] hF ?_;intro a W ho hF;replace hw:=hw.tr ho;replace hR:=hR.below ho;replace K6:=aw K6 ho;refine jf ?_;refine ej ?_;exact a8 (results_cell_tmp rfl (hF.g 13 rfl) (eF _ B6 28 28 _ (0,0) _ K6 bL rfl kQ)) hF.defers ⟨bb,r1,u1,v1,r2,u2,v2,r3,u3,v3,h9,by rw[show a.tmps.getD 7 ar=_ from(hF.g 0 rfl)],hR,hw⟩
def gA{bs:Bool}:(dp bs=aA true)↔bs=true:=sM
def gB{bs x:Bool}:((if bs=true then dp x else ar)=aA false)↔(bs && !x)=true:=by cases bs<;>cases x<;>simp[ar]
def Y3{bs x:Bool}:((if bs=true then dp x else ar)=aA true)↔(bs&&x)=true:=by cases bs<;>cases x<;>simp[ar]
def dS.UJ{a:dS}(h:a.Ok)(i:Nat):0<=a.get i/\a.get i<=99:=by
 unfold dS.get;split
 .exact h.m0
 .exact h.m1
 exact h.m2
def dS.only(a:dS)(c:List Nat):dS:=c.foldl (fun k i=>k.put i (a.get i)) ⟨a.leak,0,0,0⟩
def Fg(b:BB)(all:List dS)(p n mask:Nat):Bool:=b.sure (all.map fun a=>a.only (dT n mask)) p
def Ff(bs f:Bool)(c l:List Int):Bool:=bs&&((!f||decide ((c.length:Int)>l.length))||(((c.length:Int)==(l.length:Int))&&decide (j9 c l<0)))
def dS.WL{a:dS}(h:a.Ok)(c:List Nat):(a.only c).Ok:=by
 unfold dS.only
 have:∀(c:List Nat) (k:dS),k.Ok->(c.foldl (fun k i=>k.put i (a.get i)) k).Ok:=by
  intro c
  induction c with
  |nil=>exact fun k hk=>hk
  |cons i c ih=>exact fun k hk=>ih _ (dS.Nr hk i (dS.UJ h i).1 (dS.UJ h i).2)
 exact this c _ ⟨h.leak,sM,sM,sM⟩
def iR(b:BB)(all:List dS)(p n:Nat):Nat->List Int × Bool
 |0=>([],false)
 |m+1=>if Ff (Fg b all p n m) (iR b all p n m).2 (uD n m) (iR b all p n m).1 then(uD n m,true) else iR b all p n m
def Yo(b:BB)(bm aH az:aj)(ml:List Mn)(ss:List Int)(ms:List Mk)(w:ak)(hL:Laid w)(hB:bW b bm aH az ml ss ms w)(hne:aT b ml ss ms≠[])(pl:List Int)(hp:jD b pl)(lv:aj)(hl:Reads w lv pl.length (pl.map (aD af))) :
  a_ aq 27 #[aN (b.cells bm aH az),lv] w fun e w'=>∃v,e=aU (bB #[v,aA (iR b (aT b ml ss ms) (bM pl) ml.length (2 ^ ml.length)).2,ag af 0])/\Reads w' v (iR b (aT b ml ss ms) (bM pl) ml.length (2 ^ ml.length)).1.length ((iR b (aT b ml ss ms) (bM pl) ml.length (2 ^ ml.length)).1.map (aD af))/\Bw w w':=by
 have Um:=hB.eT.len;obtain⟨i0,hi,hz0,hz1,hz2⟩:=info_parts info3;obtain⟨i1,Ck,SD,hy1,hy2⟩:=info_parts PD;have hlen:=ic ss ms hB.ok hB.eT;have jS:0<(aT b ml ss ms).length:=cB.2 hne;have cV:=hB.ok;have hao:=ot (ss:=ss) (ms:=ms) hB.ok hB.eT;have AX:=cV.minutes;have pw:∀s∈pl,1<=s/\s<=8:=fun s h=>by have:=hp.mem s h;omega
 have Rk:bM pl<512:=nA pl pw;obtain⟨pm,cm,rfl,_⟩:=aR hB.rm;obtain⟨pn,cn,rfl,_⟩:=aR hB.rs;obtain⟨pk,ck,rfl,_⟩:=aR hB.rk;obtain⟨qw,qH,rfl,_⟩:=aR hl;have b1:Bw w (w.alloc (au (b.sl pm ml.length cm pn ss.length cn pk ms.length ck) 28)):=cY;have hk:=ax w (au (b.sl pm ml.length cm pn ss.length cn pk ms.length ck) 28)
 have VC:Hid (∀W cp,Bw w W->W.heap[cp]?=some (au #[ae qw pl.length qH] 25 (0,0))->a_ aq 103 #[aN (b.sl pm ml.length cm pn ss.length cn pk ms.length ck),.func (.func 164) #[] #[pv cp 0]] W fun e w'=>∃v,e=aU (bB #[aN (b.open (ae pm ml.length cm) (ae pn ss.length cn) (ae pk ms.length ck) v),ag af 0])/\ie w' W.heap.size v (aT b ml ss ms)/\Bw W w'):=
  ai fun W cp Kf Uv=>Df b _ _ _ ml ss ms W (hL.below Kf) (hB.below Kf) hne cp fun W' hb'=>by
   have hlt:=(ah.1 Uv).1;exact Dr b cV _ _ _ pl hp cp _ W' ((hb'.block _ hlt).trans Uv) ((hl.below Kf).below hb')
 have Kg:=ai hl;have Sy:=ai hao;have Yl:=ai pw;clear hL hB hl hao hp pw;generalize aT b ml ss ms=all at *;generalize ml.length=lm at *;generalize ss.length=ln at *;generalize ms.length=lk at *
 go_enter Tryz.func27,Tryz.ntmps27
 go_wp2
 refine cj kQ [
 pV (aN (b.sl pm lm cm pn ln cn pk lk ck)),
  pV (ae qw pl.length qH),
  fun v ds w9=>∃cp,v=.func (.func 164) #[] #[pv cp 0]/\w9.heap[cp]?=some (au #[ae qw pl.length qH] 25 (0,0)),
  fun v ds w9=>∃gv cv,v=bB #[aN (b.open (ae pm lm cm) (ae pn ln cn) (ae pk lk ck) (ae (some ⟨gv,0,none⟩) all.length cv)),ag af 0]/\ie w9 w.heap.size (ae (some ⟨gv,0,none⟩) all.length cv) all,
  fun v ds w9=>∃gv cv,v=bB #[aN (b.open (ae pm lm cm) (ae pn ln cn) (ae pk lk ck) (ae (some ⟨gv,0,none⟩) all.length cv)),ag af 0]/\ie w9 w.heap.size (ae (some ⟨gv,0,none⟩) all.length cv) all,
  fun v ds w9=>∃gv cv,v=aN (b.open (ae pm lm cm) (ae pn ln cn) (ae pk lk ck) (ae (some ⟨gv,0,none⟩) all.length cv))/\ie w9 w.heap.size (ae (some ⟨gv,0,none⟩) all.length cv) all,
  pV (ag af 0),
  fun v ds w9=>∃k,∃z:Array aj,v=pv k 0/\w.heap.size+1<=k/\w9.heap[k]?=some (au z 122 (0,0))/\z.size=16,
  fun v ds w9=>∃k gv cv,ds[0]?=some (pv k 0)/\w.heap.size+1<=k/\w9.heap[k]?=some (au (b.open (ae pm lm cm) (ae pn ln cn) (ae pk lk ck) (ae (some ⟨gv,0,none⟩) all.length cv)) 122 (0,0))/\ie w9 w.heap.size (ae (some ⟨gv,0,none⟩) all.length cv) all,
  pV (ag af 0)]
  (fun w9=>w9.heap[w.heap.size]?=some (au (b.sl pm lm cm pn ln cn pk lk ck) 28 (0,0))/\Bw w w9) [(2,pv w.heap.size 0),(1,ae qw pl.length qH)] kQ ?rst (fun w1 w2 h hb=>⟨(hb.block _ (ah.1 h.1).1).trans h.1,h.2.trans (hb.mono h.2.size)⟩) (⟨hk,b1.drew⟩) ⟨rfl,rfl,trivial⟩ ?reach ?rfin
 case rst=>
  refine⟨sV,sV,?_,?_,?_,?_,sV,?_,?_,sV,trivial⟩
  .rintro v ds w1 w2 hS ⟨cp,h1,h2⟩ hb;exact⟨cp,h1,(hb.block _ (ah.1 h2).1).trans h2⟩
  .rintro v ds w1 w2 hS ⟨gv,cv,h1,h2⟩ hb;exact⟨gv,cv,h1,h2.at_ fun g hg=>hb.block g (h2.1.lt g hg).2⟩
  .rintro v ds w1 w2 hS ⟨gv,cv,h1,h2⟩ hb;exact⟨gv,cv,h1,h2.at_ fun g hg=>hb.block g (h2.1.lt g hg).2⟩
  .rintro v ds w1 w2 hS ⟨gv,cv,h1,h2⟩ hb;exact⟨gv,cv,h1,h2.at_ fun g hg=>hb.block g (h2.1.lt g hg).2⟩
  .rintro v ds w1 w2 hS ⟨k,z,h1,h2,h3,h4⟩ hb;exact⟨k,z,h1,h2,(hb.block _ (ah.1 h3).1).trans h3,h4⟩
  rintro v ds w1 w2 hS ⟨k,gv,cv,h1,h0,h3,h2⟩ hb;exact⟨k,gv,cv,h1,h0,(hb.block _ (ah.1 h3).1).trans h3,h2.at_ fun g hg=>hb.block g (h2.1.lt g hg).2⟩
 case reach=>
  refine⟨?_,?_,?_,?_,?_,?_,?_,?_,?_,?_,trivial⟩<;>rintro ev w1 hS hc hg hf ⟨b2,b1,-⟩ hd
  .have x0:=bU hS.1;exact tV
  .exact tV
  .have d1:ev (aI 19)=_:=hd.1 rfl;refine Lag.Yields.call (f:=104) (args:=#[ae qw pl.length qH]) ?_ (JV _ _ _ _) ?_
   .go_simp
   rintro e w2 ⟨rfl,rfl⟩;exact⟨_,rfl,⟨_,rfl,ax _ _⟩,cz cY⟩
  .have d0:ev (aI 18)=_:=hd.1 rfl;obtain⟨cp,F4,wE⟩:=hd.2.1 rfl;replace F4:ev (aI 20)=_:=F4;refine Lag.Yields.call (f:=103) (args:=#[aN (b.sl pm lm cm pn ln cn pk lk ck),.func (.func 164) #[] #[pv cp 0]]) ?_ (VC.out w1 cp hS.2 wE) ?_
   .go_simp
   rintro e w2 ⟨v,rfl,iH,hb⟩
   obtain⟨gv,cv,rfl⟩:∃gv cv,v=ae (some ⟨gv,0,none⟩) all.length cv:=by
    rcases iH.1.2 with⟨_,h0⟩|⟨g,cap,cur,rfl,_⟩
    .omega
    exact⟨g,cap,rfl⟩
   exact⟨_,rfl,⟨gv,cv,rfl,iH.base hS.2.size⟩,cz hb⟩
  .exact yv rfl (hd.1 rfl)
  .obtain⟨gv,cv,e11,iH⟩:=hd.1 rfl;replace e11:ev (aI 17)=_:=e11;refine yv ?_ (⟨gv,cv,rfl,iH⟩);go_simp
  .obtain⟨gv,cv,e11,iH⟩:=hd.1 rfl;replace e11:ev (aI 17)=_:=e11;exact tV
  .refine Lag.Yields.value (v:=pv w1.heap.size 0) (w':=w1.alloc (au eO 122)) ?_ ⟨⟨_,_,rfl,(ah.1 hS.1).1,ax _ _,rfl⟩,cz cY⟩;go_simp
  .obtain⟨k,z,e6,pP,hk2,hz⟩:=hd.1 rfl;replace e6:ev (aI 7)=_:=e6;obtain⟨gv,cv,Oi,iH⟩:=hd.2.1 rfl;replace Oi:ev (aI 22)=_:=Oi;have Di:∀g cs t,w1.heap[g]?=some (au cs t (0,0))->t≠122->g≠k:=by rintro g cs t h1 h2 rfl;rw[hk2] at h1;cases h1;exact h2 rfl
   have EJ:∀(v:aj),ie w1 w.heap.size v all->ie (w1.setRow k (b.open (ae pm lm cm) (ae pn ln cn) (ae pk lk ck) (ae (some ⟨gv,0,none⟩) all.length cv))) w.heap.size v all:=fun v ho=>ho.at_ fun g hg=>setRow_other (by
    obtain⟨cur,q1,_⟩:=ho.2 g hg
    exact Di g _ _ q1 dC)
   refine Lag.Yields.ia 122 _ _ rfl k _ e6 Oi 122 z hk2 kQ hz (by simp[bK]) ⟨⟨k,gv,cv,congrArg some e6,pP,bX hk2,EJ _ iH⟩,.inr ⟨⟨(setRow_other oM).trans hS.1,cS hS.2 oM⟩,?_⟩⟩;intro j u ds hj hp
   match j,hp with
   |0,hp|1,hp=>exact hp
   |2,⟨cp,h1,h2⟩=>exact⟨cp,h1,(setRow_other (Di _ _ _ h2 dC)).trans h2⟩
   |3,⟨EX,Fc,h1,h2⟩=>exact⟨EX,Fc,h1,EJ _ h2⟩
   |4,⟨EX,Fc,h1,h2⟩=>exact⟨EX,Fc,h1,EJ _ h2⟩
   |5,⟨EX,Fc,h1,h2⟩=>exact⟨EX,Fc,h1,EJ _ h2⟩
   |6,hp=>exact hp
   |7,⟨k',z',h1,h2,h3,h4⟩=>
    by_cases rE:k'=k
    .subst rE;exact⟨k',_,h1,h2,bX h3,rfl⟩
    exact⟨k',z',h1,h2,(setRow_other rE).trans h3,h4⟩
   |8,_=>exact(hj rfl).elim
   |9,hp=>exact hp
   |j+10,_=>trivial
  have d6:ev (aI 23)=_:=hd.1 rfl;refine yv (v:=ev (aI 23)) ?_ (d6);rfl
 case rfin=>
  intro a2 w2 hR;have hS:=hR.s;obtain⟨k,gv,cv,U7,pP,hk2,iH⟩:=hR.val 8;have e9:a2.tmps.getD 6 ar=_:=hR.val 9;have ha:=hR.lits 116 rfl;simp only[aQ,cg,nQ] at ha;rw[hR.kp 1,hR.kp 2,hR.kp 4,hR.kp 5] at ha;simp only[kO,gb,f_] at ha;clear hR;have e6:a2.tmps.getD 7 ar=pv k 0:=a7 U7;rw[e6,e9] at ha;generalize a2.tmps.getD=zz at ha;clear e6 U7 e9;subst ha;have s5:=hS.1;have r7:=hS.2;clear hS;obtain⟨x0,x1,x2,x3,x4,x5,x6,x7,x8,x9,qo,qm,rj,qX,q7⟩:=bU s5;have fx:=cQ s5 12;have Cj:=iH.reads oM
  have HC:Hid (∀j u,(rowOf all)[j]?=some u->w2.cell? ⟨gv,0+j,none⟩=some u):=ai (by
   rcases Cj with⟨h0,_⟩|⟨g,off,cap,h0,_,_,h1⟩
   .cases h0
   cases h0;exact h1)
  have Cl:=(iH.1.lt gv rfl).2;have wD:=(ah.1 hk2).1;have hbl:=(ah.1 s5).1;have HK:=ai hk2;have HBo:=ai s5;have FQ:=ai r7;clear hk2 Cj s5 r7 iH hk b1 VC x0 x1 x2 x3 x4 x5 x6 x7 x8 x9 qo qm qX q7;generalize hL:all.length=L at *;have HL:=ai hL;clear hL;obtain⟨N,hN0⟩:∃N,N=2 ^ lm:=⟨_,rfl⟩
  have hN8:N<=8:=by
   have:lm=0\/lm=1\/lm=2\/lm=3:=oM;rcases this with h|h|h|h<;>subst h<;>omega
  have hN:wrap64 (2 ^ lm)=(N:Int):=by
   have:lm=0\/lm=1\/lm=2\/lm=3:=oM;rcases this with h|h|h|h<;>subst h<;>subst hN0<;>simp[wrap64]
  have HN0:=ai hN0;clear hN0;have HBe:Hid (Bw w2 w2):=ai (ay _ _);go_wp2;rw[hN];clear hN
  go_loopw [4,5,8,9,10,11,13,14,16,31] (fun v4 f _ _ _ _ _ _ _ i wr=>∃(M:Nat) (p4:Option cJ) (c4:Nat),M<=N/\i=ag af M/\f=aA (iR b all (bM pl) lm M).2/\v4=ae p4 (iR b all (bM pl) lm M).1.length c4/\Reads wr (ae p4 (iR b all (bM pl) lm M).1.length c4) (iR b all (bM pl) lm M).1.length ((iR b all (bM pl) lm M).1.map (aD af))/\Bw w2 wr) (fun _ _ _ _ _ _ _ _ _ i _=>N-(intOf i).toNat)
  case atStart=>exact⟨0,none,0,iq _,sM,by simp[iR],by simp[iR],cz ⟨rfl,by simp[iR],by simp[iR]⟩,ay _ _⟩
  case round=>
   obtain⟨M,p4,c4,hM,rfl,rfl,rfl,hr4,eb⟩:=hrel;rename ak=>wo;have hsz:=eb.size
   by_cases hlt:M<N
   .have hst:iR b all (bM pl) lm (M+1)=if Ff (Fg b all (bM pl) lm M) (iR b all (bM pl) lm M).2 (uD lm M) (iR b all (bM pl) lm M).1 then(uD lm M,true) else iR b all (bM pl) lm M:=rfl
    generalize iR b all (bM pl) lm M=st at *;obtain⟨lc,f⟩:=st;simp only[] at hst hr4;have Vy:=ai hst;have HR4:=ai hr4;have xF:=ai eb
    have GN:Hid (∀w9,Bw wo w9->w9.heap[k]?=some (au (b.open (ae pm lm cm) (ae pn ln cn) (ae pk lk ck) (ae (some ⟨gv,0,none⟩) L cv)) 122 (0,0))/\w9.heap[w.heap.size]?=some (au (b.sl pm lm cm pn ln cn pk lk ck) 28 (0,0))/\(∀i u,(rowOf all)[i]?=some u->w9.cell? ⟨gv,0+i,none⟩=some u)):=ai fun w9 N8=>by
     have h:=eb.trans (N8.mono hsz);exact⟨(h.block _ wD).trans HK.out,(h.block _ hbl).trans HBo.out,fun i u hi=>(h.cell (p:=⟨gv,0+i,none⟩) Cl).trans (HC.out i u hi)⟩
    obtain⟨q1,q2,-⟩:=GN.out wo (ay _ _);obtain⟨y0,y1,y2,y3,y4,y5,y6,y7,y8,y9,M7,O3,OZ,OY,Ki,Iw⟩:=jy q1;have g2:(wo.alloc (au #[ag af b.room,ag af b.depth,ag af b.least,ag af b.minutes,ag af b.cM,ag af b.jX,ag af b.eN,ag af b.jK,ag af b.ll,ag af b.lm,ag af b.pl,ag af b.pm,ae pm lm cm,ae pn ln cn,ae pk lk ck,ae none 0 0] 122)).heap[w.heap.size]?=some (au (b.sl pm lm cm pn ln cn pk lk ck) 28 (0,0)):=(aW _ _ _ (ah.1 q2).1).trans q2;have z12:=aK g2 12 (ae pm lm cm) rfl;have ah7:=cQ g2 12;clear hst hr4 eb q1 q2 g2 rj fx;have hb2:Bw wo (wo.alloc (au #[ag af b.room,ag af b.depth,ag af b.least,ag af b.minutes,ag af b.cM,ag af b.jX,ag af b.eN,ag af b.jK,ag af b.ll,ag af b.lm,ag af b.pl,ag af b.pm,ae pm lm cm,ae pn ln cn,ae pk lk ck,ae none 0 0] 122)):=cY;have ho2:=ax wo (au #[ag af b.room,ag af b.depth,ag af b.least,ag af b.minutes,ag af b.cM,ag af b.jX,ag af b.eN,ag af b.jK,ag af b.ll,ag af b.lm,ag af b.pl,ag af b.pm,ae pm lm cm,ae pn ln cn,ae pk lk ck,ae none 0 0] 122);have nN:=ai hb2;have Zm:=ai ho2;have ado:(wo.alloc (au #[ag af b.room,ag af b.depth,ag af b.least,ag af b.minutes,ag af b.cM,ag af b.jX,ag af b.eN,ag af b.jK,ag af b.ll,ag af b.lm,ag af b.pl,ag af b.pm,ae pm lm cm,ae pn ln cn,ae pk lk ck,ae none 0 0] 122)).heap.size=wo.heap.size+1:=sM;clear hb2 ho2;go_wp2
    go_loopw [9,11,40] (fun v9 _ i wr=>∃j:Nat,j<=lm/\i=ag af j/\wr.ownsRow (wo.heap.size+1) 3 1 v9 (dT j M).length ((dT j M).map fun(i:Nat)=>aD af (i:Int))/\Below (wo.heap.size+1) (wo.alloc (au #[ag af b.room,ag af b.depth,ag af b.least,ag af b.minutes,ag af b.cM,ag af b.jX,ag af b.eN,ag af b.jK,ag af b.ll,ag af b.lm,ag af b.pl,ag af b.pm,ae pm lm cm,ae pn ln cn,ae pk lk ck,ae none 0 0] 122)) wr) (fun _ _ i _=>lm-(intOf i).toNat)
    case atStart=>exact⟨0,iq _,sM,eD _ _ _ _,ay _ _⟩
    case round=>
     obtain⟨j,hj,rfl,hown,yM⟩:=hrel;have Z9:=yM.size;rw[ado] at Z9;have hcl:=qI j M;have hM5:M<512:=bD hlt (aG hN8 dC)
     by_cases MV:j<lm
     .cases hb:M.testBit j
      .have e1:dT (j+1) M=dT j M:=by rw[rH,hb];simp
       have Rv:=wL M j hM5;rw[hb] at Rv;have H1:=ai e1;clear e1;go_wp2;go_roundw
       case rel=>exact⟨j+1,oM,sM,by rw[H1.out];exact hown,yM⟩
       case measure=>simp[intOf];omega
      have e1:dT (j+1) M=dT j M++[j]:=by rw[rH,hb];simp
      have Rv:=wL M j hM5;rw[hb] at Rv;have H1:=ai e1
      have Vz:Hid (∀(i:Nat) (u:aj),([ag af (j:Int)]:List aj)[i]?=some u->(wr.alloc (au #[ag af (j:Int)] 3)).cell? ((⟨wr.heap.size,0,none⟩:cJ).add i)=some u):=ai fun i u hj=>by
       match i,hj with
       |0,hj=>simp at hj;subst hj;simp[mg]
      clear e1
      go_wp2_with (at_builtin;refine wpList_append_own _ rfl _ _ 25 rfl (wo.heap.size+1) 3 i0 (ag af 0) 1 8 Tryz.underlying25 hi hz0 hz1 hz2 rfl dC u9 _ _ rfl (hown.alloc _) ⟨wr.heap.size,0,none⟩ 1 1 [ag af (j:Int)] rfl rfl Vz.out (by simp[bK]) (by unfold maxLen;omega) oM sO ?_;intro v' w3 EH hgrow hnil)
      go_roundw
      case rel=>exact⟨j+1,oM,sM,by rw[H1.out,mP,eG];exact EH,tI oM hown yM hgrow⟩
      case measure=>simp[intOf];omega
     obtain rfl:lm=j:=oM;rename ak=>wc;obtain⟨p9,c9,rfl⟩:=dV hown;have YY:Bw wo wc:=nN.out.trans (yM.mono sM);have hoc:wc.heap[wo.heap.size]?=some (au #[ag af b.room,ag af b.depth,ag af b.least,ag af b.minutes,ag af b.cM,ag af b.jX,ag af b.eN,ag af b.jK,ag af b.ll,ag af b.lm,ag af b.pl,ag af b.pm,ae pm lm cm,ae pn ln cn,ae pk lk ck,ae none 0 0] 122 (0,0)):=(yM.block _ sM).trans Zm.out;have alo:=aK (GN.out wc YY).1 15 (ae (some ⟨gv,0,none⟩) L cv) rfl;have anh:=cQ (GN.out wc YY).1 15;have aiP:=ai hown;have HBc:=ai YY;have HOc:=ai hoc;have hcs:wo.heap.size+1<=wc.heap.size:=Z9;have hCb:∀i∈dT lm M,i<lm:=fun i hi=>by simp[dT] at hi;exact hi.1
     have RA:=qI lm M;unfold Fg uD at Vy;clear hown yM YY hoc y0 y1 y2 y3 y4 y5 y6 y7 y8 y9 M7 O3 OZ OY Ki Iw z12 ah7 Z9;go_wp2;generalize dT lm M=C at *
     go_loopw [13,14,16,56] (fun _ _ _ i wr=>∃(j:Nat) (SB:Option cJ) (c15:Nat),j<=L/\i=ag af j/\wr.heap[wo.heap.size]?=some (au #[ag af b.room,ag af b.depth,ag af b.least,ag af b.minutes,ag af b.cM,ag af b.jX,ag af b.eN,ag af b.jK,ag af b.ll,ag af b.lm,ag af b.pl,ag af b.pm,ae pm lm cm,ae pn ln cn,ae pk lk ck,ae SB j c15] 122 (0,0))/\wr.ownsRow (wo.heap.size+1) 134 4 (ae SB j c15) j (rowOf ((all.take j).map fun a=>a.only C))/\wr.ownsRow (wo.heap.size+1) 3 1 (ae p9 C.length c9) C.length (C.map fun(i:Nat)=>aD af (i:Int))/\Bw wo wr) (fun _ _ _ i _=>L-(intOf i).toNat)
     case atStart=>exact⟨0,none,0,iq _,sM,HOc.out,eD _ _ _ _,aiP.out,HBc.out⟩
     case round=>
      obtain⟨j,SB,c15,hj,rfl,VT,Lp,PJ,yM⟩:=hrel;have Z9:=yM.size
      by_cases MV:j<L
      .rename ak=>wj;have Jy:j<all.length:=by rw[HL.out];exact MV
       obtain⟨c0,c1,c2,c3⟩:=Reads.cell (w:=wj) (cap:=cv) (n:=L) (GN.out wj yM).2.2 j Jy;simp only[cO] at c0 c1 c2 c3;have hao:=Sy.out _ (bG Jy);have su:(all.take (j+1)).map (fun a=>a.only C)=(all.take j).map (fun a=>a.only C)++[all[j].only C]:=by rw[bV Jy,eG];rfl
       have HTk:=ai su;have Sw:=ai yM;have HOj:=ai VT;have HOA:=ai Lp;have HOC:=ai PJ;have HAk:=ai hao;clear su yM VT Lp PJ hao;generalize all[j]=a at *;go_wp2;have hWs:((wj.alloc (au a.cells 134)).alloc (au (⟨a.leak,0,0,0⟩:dS).cells 134)).heap.size=wj.heap.size+2:=sM;have hAw:((wj.alloc (au a.cells 134)).alloc (au (⟨a.leak,0,0,0⟩:dS).cells 134)).heap[wj.heap.size]?=some (au a.cells 134 (0,0)):=(aW _ _ _ sM).trans (ax wj _)
       have hKw:((wj.alloc (au a.cells 134)).alloc (au (⟨a.leak,0,0,0⟩:dS).cells 134)).heap[wj.heap.size+1]?=some (au (⟨a.leak,0,0,0⟩:dS).cells 134 (0,0)):=by
        have:=ax (wj.alloc (au a.cells 134)) (au (⟨a.leak,0,0,0⟩:dS).cells 134);simpa using this
       have Kf:Bw wj ((wj.alloc (au a.cells 134)).alloc (au (⟨a.leak,0,0,0⟩:dS).cells 134)):=cY.alloc sM _;have HAw:=ai hAw;have HKw:=ai hKw;have HbW:=ai Kf;clear hAw hKw Kf c0 c1 c2 c3
       go_loopw [16,65] (fun _ i wr=>∃t:Nat,t<=C.length/\i=ag af t/\wr.heap[wj.heap.size+1]?=some (au ((C.take t).foldl (fun k i=>k.put i (a.get i)) (⟨a.leak,0,0,0⟩:dS)).cells 134 (0,0))/\Below (wj.heap.size+1) ((wj.alloc (au a.cells 134)).alloc (au (⟨a.leak,0,0,0⟩:dS).cells 134)) wr) (fun _ i _=>C.length-(intOf i).toNat)
       case atStart=>exact⟨0,iq _,sM,HKw.out,ay _ _⟩
       case round=>
        obtain⟨t,ht,rfl,Ke,htx⟩:=hrel;have hts:=htx.size;rw[hWs] at hts;have Rv:Bw wj wr:=HbW.out.trans (htx.mono sM);have hAt:=(htx.block wj.heap.size sM).trans HAw.out;have hCt:=dW HOC.out Rv;have HTx:=ai htx;have HBt:=ai Rv;have HKt:=ai Ke
        by_cases Kc:t<C.length
        .obtain⟨g9,rfl⟩:∃g9,p9=some ⟨g9,0,none⟩:=by
          rcases hCt.2 with⟨h1,h2⟩|⟨g,cap,cur,h1,_⟩
          .exfalso;simp at h1;omega
          exact⟨g,by simp at h1;exact h1.1⟩
         have hci:=hCt.cells (g:=g9) rfl t (ag af (C[t]:Nat)) (by simp[h_ Kc]);have e9:(⟨g9,0,none⟩:cJ).add t=⟨g9,t,none⟩:=by cases t<;>simp[mg]
         rw[e9] at hci;have hi3:C[t]<3:=by have:=hCb _ (bG Kc);omega
         have hfo:(C.take (t+1)).foldl (fun k i=>k.put i (a.get i)) (⟨a.leak,0,0,0⟩:dS)=((C.take t).foldl (fun k i=>k.put i (a.get i)) (⟨a.leak,0,0,0⟩:dS)).put C[t] (a.get C[t]):=by rw[bV Kc,List.foldl_append];rfl
         have HFo:=ai hfo;generalize (C.take t).foldl (fun k i=>k.put i (a.get i)) (⟨a.leak,0,0,0⟩:dS)=kk at *;generalize C[t]=i at *
         have hx1:wr.cell? ⟨wj.heap.size,1+i,none⟩=some (ag af (a.get i)):=by
          match i,hi3 with
          |0,_=>exact aK hAt 1 _ rfl
          |1,_=>exact aK hAt 2 _ rfl
          |2,_=>exact aK hAt 3 _ rfl
         have hx2:wr.cell? ⟨wj.heap.size+1,1+i,none⟩=some (ag af (kk.get i)):=by
          match i,hi3 with
          |0,_=>exact aK Ke 1 _ rfl
          |1,_=>exact aK Ke 2 _ rfl
          |2,_=>exact aK Ke 3 _ rfl
         have hx3:=cQ Ke (1+i);have hst:=P5 i hi3 (a.get i) Ke;have HSe:=ai hst;clear hst hfo htx Rv hAt hCt Ke e9;go_wp2;go_roundw
         case rel=>exact⟨t+1,oM,sM,by rw[HFo.out];exact HSe.out,HTx.out.setCell (p:=⟨wj.heap.size+1,1+i,none⟩) (aJ _) _⟩
         case measure=>simp[intOf];omega
        obtain rfl:C.length=t:=oM;have rE:(C.take C.length).foldl (fun k i=>k.put i (a.get i)) (⟨a.leak,0,0,0⟩:dS)=a.only C:=by rw[List.take_length];rfl
        rw[rE] at Ke;have HKt:=ai Ke;generalize a.only C=kk at *;have k0:=aK Ke 0 (ag af kk.leak) rfl;have k1:=aK Ke 1 (ag af kk.m0) rfl;have k2:=aK Ke 2 (ag af kk.m1) rfl;have k3:=aK Ke 3 (ag af kk.m2) rfl;have hot:wr.heap[wo.heap.size]?=some (au #[ag af b.room,ag af b.depth,ag af b.least,ag af b.minutes,ag af b.cM,ag af b.jX,ag af b.eN,ag af b.jK,ag af b.ll,ag af b.lm,ag af b.pl,ag af b.pm,ae pm lm cm,ae pn ln cn,ae pk lk ck,ae SB j c15] 122 (0,0)):=(Rv.block _ (ah.1 HOj.out).1).trans HOj.out;have hAA:=dW HOA.out Rv;have hol:=(ah.1 hot).1;have Iw:=aK hot 15 (ae SB j c15) rfl
        have Vz:Hid (∀(i:Nat) (u:aj),kk.cells.toList[i]?=some u->(wr.alloc (au kk.cells 134)).cell? ((⟨wr.heap.size,0,none⟩:cJ).add i)=some u):=ai fun i u hj=>by
         have:=ax wr (au kk.cells 134);have h5:=aK this i u (by simpa using hj);have e:(⟨wr.heap.size,0,none⟩:cJ).add i=⟨wr.heap.size,i,none⟩:=by cases i<;>simp[mg]
         rw[e];exact h5
        have MN:=ai hCt;have HAA:=ai hAA;have HOt:=ai hot;have hbo:wo.heap.size+1<=wr.heap.size:=oM;clear Ke htx Rv hAt hCt rE hot
        go_wp2_with (first
         |(at_builtin;refine wpList_append_own _ rfl _ _ 120 rfl (wo.heap.size+1) 134 i1 (aN #[ag af 0,ag af 0,ag af 0,ag af 0]) 4 32 Tryz.underlying120 Ck SD hy1 hy2 rfl dC (ae SB j c15) j (rowOf ((all.take j).map fun a=>a.only C)) rfl (hAA.alloc (au kk.cells 134)) ⟨wr.heap.size,0,none⟩ 1 1 kk.cells.toList rfl rfl Vz.out (by simp[bK]) (by unfold maxLen;omega) oM (by first|omega|(simp;omega)) ?_;intro v' w5 Ui hgrow hnil
           obtain⟨p16,c16,rfl⟩:=dV Ui;have ho5:w5.heap[wo.heap.size]?=some (au #[ag af b.room,ag af b.depth,ag af b.least,ag af b.minutes,ag af b.cM,ag af b.jX,ag af b.eN,ag af b.jK,ag af b.ll,ag af b.lm,ag af b.pl,ag af b.pm,ae pm lm cm,ae pn ln cn,ae pk lk ck,ae SB j c15] 122 (0,0)):=(hgrow.block _ sO (lN hAA HOt.out dC)).trans ((aW _ _ _ hol).trans HOt.out);have hC5:=fV (W':=w5) (MN.out.alloc (au kk.cells 134)) fun g hg=>hgrow.block g ((MN.out.alloc (au kk.cells 134)).lt g hg).2 (zh MN.out hAA dC hg);have HO5:=ai ho5;have HC5:=ai hC5;have HW5:=ai Ui;have HG5:=ai hgrow;have f15:=cQ ho5 15;have z15:=aK ho5 15 (ae SB j c15) rfl
           clear ho5 hC5 Ui hgrow hnil))
        go_roundw
        case rel=>
         refine⟨j+1,p16,c16,oM,sM,cX _ HO5.out,?_,dt HC5.out HO5.out dC,(((Sw.out.trans (HBt.out.mono Z9)).alloc oM _).grown HG5.out sO (fun g hg=>by have:=(HAA.out.lt g hg).1;omega)).setCell (p:=⟨wo.heap.size,15,none⟩) (aJ _) _⟩;rw[HTk.out,D7];exact dt HW5.out HO5.out dC
        case measure=>simp[intOf];omega
      obtain rfl:L=j:=oM;rename ak=>wd;have su:all.take L=all:=List.take_of_length_le (by rw[HL.out];exact aJ _);rw[su] at Lp;have hall:(all.map fun a=>a.only C).length=L:=by rw[fM];exact HL.out
      have hrA:Reads wd (ae SB L c15) (all.map fun a=>a.only C).length (rowOf (all.map fun a=>a.only C)):=by
       rw[hall];exact Reads.jL Lp oM (by rw[QE,hall];omega)
      have hrC:Reads wd (ae p9 C.length c9) (C.map fun(i:Nat)=>(i:Int)).length ((C.map fun(i:Nat)=>(i:Int)).map (aD af)):=by
       have h1:=Reads.jL PJ oM sM;rw[fM,List.map_map];exact h1
      have hSu:=fun W (hb:Bw wd W)=>xL b cV (ae pm lm cm) (ae pn ln cn) (ae pk lk ck) (ae SB L c15) (all.map fun a=>a.only C) (fun a ha=>by
       obtain⟨x,hx,rfl⟩:=dm.1 ha
       exact dS.WL (Sy.out x hx) C) (bM pl) Rk W (hrA.below hb)
      have hrL:Reads wd (ae p4 lc.length c4) lc.length (lc.map (aD af)):=HR4.out.below yM;have hpl:Reads wd (ae qw pl.length qH) pl.length (pl.map (aD af)):=Kg.out.below (FQ.out.trans ((xF.out.mono FQ.out.size).trans (yM.mono (by have:=FQ.out.size;omega))));have hcm:=fun W (hb:Bw wd W)=>rJ (C.map fun(i:Nat)=>(i:Int)) lc (ae p9 C.length c9) (ae p4 lc.length c4) W (hrC.below hb) (hrL.below hb);have Rj:=fun W (hb:Bw wd W)=>lL pl Yl.out (ae qw pl.length qH) W (hpl.below hb);have HSu:=ai hSu;have HCm:=ai hcm;have HPo:=ai Rj;have HRC:=ai hrC;have HRL:=ai hrL;have HQd:=ai yM;have HOd:=ai VT;clear hSu hcm Rj hrC hrL hrA hpl yM VT Lp PJ su hall;unfold Ff at Vy;obtain⟨g12,XL⟩:∃r,decide ((C.length:Int)>lc.length)=r:=⟨_,rfl⟩
      obtain⟨g20,h20⟩:∃r,((C.length:Int)==(lc.length:Int))=r:=⟨_,rfl⟩
      obtain⟨P0,h24⟩:∃r,decide (j9 (C.map fun(i:Nat)=>(i:Int)) lc<0)=r:=⟨_,rfl⟩
      simp only[fM] at Vy;rw[XL,h20,h24] at Vy;generalize b.sure (all.map fun a=>a.only C) (bM pl)=bs at *;go_wp2
      refine Gd.cj kQ [
      pV (aN (b.open (ae pm lm cm) (ae pn ln cn) (ae pk lk ck) (ae SB L c15))),
       pV (ae qw pl.length qH),
       pV (ag af (bM pl)),
       pV (aA bs),
       pV (aA bs),
       fun v ds w9=>bs=true->v=aA f,
       fun v ds w9=>bs=true->v=aA (!f),
       pV ((if bs=true then dp (!f) else ar)),
       fun v ds w9=>(bs && !(!f))=true->v=ae p9 C.length c9,
       fun v ds w9=>(bs && !(!f))=true->v=ag af C.length,
       fun v ds w9=>(bs && !(!f))=true->v=ae p4 lc.length c4,
       fun v ds w9=>(bs && !(!f))=true->v=ag af lc.length,
       fun v ds w9=>(bs && !(!f))=true->v=aA g12,
       fun v ds w9=>bs=true->v=aA (!f||g12),
       pV ((if bs=true then dp (!f||g12) else ar)),
       fun v ds w9=>(bs && !(!f||g12))=true->v=ae p9 C.length c9,
       fun v ds w9=>(bs && !(!f||g12))=true->v=ag af C.length,
       fun v ds w9=>(bs && !(!f||g12))=true->v=ae p4 lc.length c4,
       fun v ds w9=>(bs && !(!f||g12))=true->v=ag af lc.length,
       fun v ds w9=>(bs && !(!f||g12))=true->v=aA g20,
       pV ((if (bs && !(!f||g12))=true then dp g20 else ar)),
       fun v ds w9=>((bs && !(!f||g12))&&g20)=true->v=ae p9 C.length c9,
       fun v ds w9=>((bs && !(!f||g12))&&g20)=true->v=ae p4 lc.length c4,
       fun v ds w9=>((bs && !(!f||g12))&&g20)=true->v=ag af (j9 (C.map fun(i:Nat)=>(i:Int)) lc),
       fun v ds w9=>((bs && !(!f||g12))&&g20)=true->v=aA P0,
       fun v ds w9=>(bs && !(!f||g12))=true->v=aA (g20&&P0),
       fun v ds w9=>bs=true->v=aA ((!f||g12)||(g20&&P0)),
       pV (aA (bs&&((!f||g12)||(g20&&P0))))]
       (fun w9=>Bw wd w9) [(1,ae qw pl.length qH),(4,ae p4 lc.length c4),(5,aA f),(9,ae p9 C.length c9),(10,pv wo.heap.size 0)] kQ ?rst (fun w1 w2 h hb=>h.trans (hb.mono h.size)) ((ay _ _).drew) ⟨rfl,rfl,rfl,rfl,rfl,trivial⟩ ?reach ?rfin
      case rst=>
       refine⟨sV,sV,sV,sV,sV,kS,kS,sV,kS,kS,kS,kS,kS,kS,sV,kS,kS,kS,kS,kS,sV,kS,kS,kS,kS,kS,kS,sV,trivial⟩
      case reach=>
       refine⟨?_,?_,?_,?_,?_,?_,?_,?_,?_,?_,?_,?_,?_,?_,?_,?_,?_,?_,?_,?_,?_,?_,?_,?_,?_,?_,?_,?_,trivial⟩<;>rintro ev w1 hS hc hg hf ⟨b1,b4,b5,b9,Sp,-⟩ hd
       .have q:=(Below.block hS _ (ah.1 HOd.out).1).trans HOd.out;exact wP 122 rfl Sp q fS rfl kQ (rfl)
       .exact tV
       .have d1:ev (aI 85)=_:=hd.1 rfl;refine yq (args:=#[ae qw pl.length qH]) (HPo.out _ hS) ?_ fun _=>rfl;go_simp
       .have d0:ev (aI 84)=_:=hd.1 rfl;have d2:ev (aI 86)=_:=hd.2.1 rfl;refine yc (args:=#[aN (b.open (ae pm lm cm) (ae pn ln cn) (ae pk lk ck) (ae SB L c15)),ag af (bM pl)]) (HSu.out _ hS) ?_ fun _=>rfl;go_simp
       .have d3:ev (aI 87)=_:=hd.1 rfl;exact tV
       .have d4:ev (aI 88)=_:=hd.1 rfl;refine⟨fun hgd=>?_,fun hgd=>⟨?_,cz (ay _ _)⟩⟩
        .have hA:=gA.1 (d4.symm.trans hgd);refine yv (v:=(aA f:aj)) ?_ (fun _=>rfl);go_simp
        intro hc;exact absurd (d4.trans (gA.2 hc)) hgd
       .have d5:bs=true->(ev (aI 89))=aA f:=hd.1 rfl;have d4:ev (aI 88)=_:=hd.2.1 rfl;refine⟨fun hgd=>?_,fun hgd=>⟨?_,cz (ay _ _)⟩⟩
        .have hA:=gA.1 (d4.symm.trans hgd);have y5:=d5 hA;refine yv (v:=(aA (!f):aj)) ?_ (fun _=>rfl);go_simp
        intro hc;exact absurd (d4.trans (gA.2 hc)) hgd
       .have d6:bs=true->(ev (aI 90))=aA (!f):=hd.1 rfl;have d4:ev (aI 88)=_:=hd.2.1 rfl;refine⟨fun hgd=>?_,fun hgd=>⟨?_,cz (ay _ _)⟩⟩
        .have hA:=gA.1 (d4.symm.trans hgd);have y6:=d6 hA;refine yv (v:=aA (!f)) ?_ ((if_pos hA).symm);go_simp
        exact(if_neg (fun hc=>absurd (d4.trans (gA.2 hc)) hgd)).symm
       .have d7:ev (aI 91)=_:=hd.1 rfl;refine⟨fun hgd=>?_,fun hgd=>⟨?_,cz (ay _ _)⟩⟩
        .have hA:=gB.1 (d7.symm.trans hgd);refine yv (v:=(ae p9 C.length c9:aj)) ?_ (fun _=>rfl);go_simp
        intro hc;exact absurd (d7.trans (gB.2 hc)) hgd
       .have d8:(bs && !(!f))=true->(ev (aI 92))=ae p9 C.length c9:=hd.1 rfl;have d7:ev (aI 91)=_:=hd.2.1 rfl;refine⟨fun hgd=>?_,fun hgd=>⟨?_,cz (ay _ _)⟩⟩
        .have hA:=gB.1 (d7.symm.trans hgd);have y8:=d8 hA;refine yv (v:=(ag af C.length:aj)) ?_ (fun _=>rfl);go_simp
        intro hc;exact absurd (d7.trans (gB.2 hc)) hgd
       .have d7:ev (aI 91)=_:=hd.1 rfl;refine⟨fun hgd=>?_,fun hgd=>⟨?_,cz (ay _ _)⟩⟩
        .have hA:=gB.1 (d7.symm.trans hgd);refine yv (v:=(ae p4 lc.length c4:aj)) ?_ (fun _=>rfl);go_simp
        intro hc;exact absurd (d7.trans (gB.2 hc)) hgd
       .have d10:(bs && !(!f))=true->(ev (aI 94))=ae p4 lc.length c4:=hd.1 rfl;have d7:ev (aI 91)=_:=hd.2.1 rfl;refine⟨fun hgd=>?_,fun hgd=>⟨?_,cz (ay _ _)⟩⟩
        .have hA:=gB.1 (d7.symm.trans hgd);have M7:=d10 hA;refine yv (v:=(ag af lc.length:aj)) ?_ (fun _=>rfl);go_simp
        intro hc;exact absurd (d7.trans (gB.2 hc)) hgd
       .have d9:(bs && !(!f))=true->(ev (aI 93))=ag af C.length:=hd.1 rfl;have d11:(bs && !(!f))=true->(ev (aI 95))=ag af lc.length:=hd.2.1 rfl;have d7:ev (aI 91)=_:=hd.2.2.1 rfl;refine⟨fun hgd=>?_,fun hgd=>⟨?_,cz (ay _ _)⟩⟩
        .have hA:=gB.1 (d7.symm.trans hgd);have y9:=d9 hA;have O3:=d11 hA;refine yv (v:=aA g12) ?_ (fun _=>rfl);rw[<-XL];go_simp
        intro hc;exact absurd (d7.trans (gB.2 hc)) hgd
       .have d7:ev (aI 91)=_:=hd.1 rfl;have d12:(bs && !(!f))=true->(ev (aI 96))=aA g12:=hd.2.1 rfl;have d4:ev (aI 88)=_:=hd.2.2.1 rfl;refine⟨fun hgd=>?_,fun hgd=>⟨?_,cz (ay _ _)⟩⟩
        .have hA:=gA.1 (d4.symm.trans hgd);rcases Bool.eq_false_or_eq_true f with hf|hf
         .have y7:ev (aI 91)=aA false:=by rw[d7,if_pos hA,hf];rfl
          clear d7;have OZ:=d12 (by rw[hA,hf];rfl);refine yv (v:=aA g12) ?_ (fun _=>by rw[hf];simp);go_simp
         have y7:ev (aI 91)=aA true:=by rw[d7,if_pos hA,hf];rfl
         clear d7;refine yv (v:=aA true) ?_ (fun _=>by rw[hf];simp);go_simp
        intro hc;exact absurd (d4.trans (gA.2 hc)) hgd
       .have d13:bs=true->(ev (aI 97))=aA (!f||g12):=hd.1 rfl;have d4:ev (aI 88)=_:=hd.2.2.1 rfl;refine⟨fun hgd=>?_,fun hgd=>⟨?_,cz (ay _ _)⟩⟩
        .have hA:=gA.1 (d4.symm.trans hgd);have OY:=d13 hA;refine yv (v:=aA (!f||g12)) ?_ ((if_pos hA).symm);go_simp
        exact(if_neg (fun hc=>absurd (d4.trans (gA.2 hc)) hgd)).symm
       .have d14:ev (aI 98)=_:=hd.1 rfl;refine⟨fun hgd=>?_,fun hgd=>⟨?_,cz (ay _ _)⟩⟩
        .have hA:=gB.1 (d14.symm.trans hgd);refine yv (v:=(ae p9 C.length c9:aj)) ?_ (fun _=>rfl);go_simp
        intro hc;exact absurd (d14.trans (gB.2 hc)) hgd
       .have d15:(bs && !(!f||g12))=true->(ev (aI 99))=ae p9 C.length c9:=hd.1 rfl;have d14:ev (aI 98)=_:=hd.2.1 rfl;refine⟨fun hgd=>?_,fun hgd=>⟨?_,cz (ay _ _)⟩⟩
        .have hA:=gB.1 (d14.symm.trans hgd);have Iw:=d15 hA;refine yv (v:=(ag af C.length:aj)) ?_ (fun _=>rfl);go_simp
        intro hc;exact absurd (d14.trans (gB.2 hc)) hgd
       .have d14:ev (aI 98)=_:=hd.1 rfl;refine⟨fun hgd=>?_,fun hgd=>⟨?_,cz (ay _ _)⟩⟩
        .have hA:=gB.1 (d14.symm.trans hgd);refine yv (v:=(ae p4 lc.length c4:aj)) ?_ (fun _=>rfl);go_simp
        intro hc;exact absurd (d14.trans (gB.2 hc)) hgd
       .have d17:(bs && !(!f||g12))=true->(ev (aI 101))=ae p4 lc.length c4:=hd.1 rfl;have d14:ev (aI 98)=_:=hd.2.1 rfl;refine⟨fun hgd=>?_,fun hgd=>⟨?_,cz (ay _ _)⟩⟩
        .have hA:=gB.1 (d14.symm.trans hgd);have y17:=d17 hA;refine yv (v:=(ag af lc.length:aj)) ?_ (fun _=>rfl);go_simp
        intro hc;exact absurd (d14.trans (gB.2 hc)) hgd
       .have d16:(bs && !(!f||g12))=true->(ev (aI 100))=ag af C.length:=hd.1 rfl;have d18:(bs && !(!f||g12))=true->(ev (aI 102))=ag af lc.length:=hd.2.1 rfl;have d14:ev (aI 98)=_:=hd.2.2.1 rfl;refine⟨fun hgd=>?_,fun hgd=>⟨?_,cz (ay _ _)⟩⟩
        .have hA:=gB.1 (d14.symm.trans hgd);have y16:=d16 hA;have y18:=d18 hA;refine yv (v:=aA g20) ?_ (fun _=>rfl);rw[<-h20];go_simp
        intro hc;exact absurd (d14.trans (gB.2 hc)) hgd
       .have d19:(bs && !(!f||g12))=true->(ev (aI 103))=aA g20:=hd.1 rfl;have d14:ev (aI 98)=_:=hd.2.1 rfl;refine⟨fun hgd=>?_,fun hgd=>⟨?_,cz (ay _ _)⟩⟩
        .have hA:=gB.1 (d14.symm.trans hgd);have y19:=d19 hA;refine yv (v:=aA g20) ?_ ((if_pos hA).symm);go_simp
        exact(if_neg (fun hc=>absurd (d14.trans (gB.2 hc)) hgd)).symm
       .have d20:ev (aI 104)=_:=hd.1 rfl;refine⟨fun hgd=>?_,fun hgd=>⟨?_,cz (ay _ _)⟩⟩
        .have hA:=Y3.1 (d20.symm.trans hgd);refine yv (v:=(ae p9 C.length c9:aj)) ?_ (fun _=>rfl);go_simp
        intro hc;exact absurd (d20.trans (Y3.2 hc)) hgd
       .have d20:ev (aI 104)=_:=hd.1 rfl;refine⟨fun hgd=>?_,fun hgd=>⟨?_,cz (ay _ _)⟩⟩
        .have hA:=Y3.1 (d20.symm.trans hgd);refine yv (v:=(ae p4 lc.length c4:aj)) ?_ (fun _=>rfl);go_simp
        intro hc;exact absurd (d20.trans (Y3.2 hc)) hgd
       .have d21:((bs && !(!f||g12))&&g20)=true->(ev (aI 105))=ae p9 C.length c9:=hd.1 rfl;have d22:((bs && !(!f||g12))&&g20)=true->(ev (aI 106))=ae p4 lc.length c4:=hd.2.1 rfl;have d20:ev (aI 104)=_:=hd.2.2.1 rfl;refine⟨fun hgd=>?_,fun hgd=>⟨?_,cz (ay _ _)⟩⟩
        .have hA:=Y3.1 (d20.symm.trans hgd);have y21:=d21 hA;have y22:=d22 hA;refine Lag.Yields.call (f:=98) (args:=#[ae p9 C.length c9,ae p4 lc.length c4]) ?_ (HCm.out _ hS) ?_
         .go_simp
         rintro e w2 ⟨rfl,rfl⟩;exact⟨_,rfl,fun _=>rfl,cz (ay _ _)⟩
        intro hc;exact absurd (d20.trans (Y3.2 hc)) hgd
       .have d23:((bs && !(!f||g12))&&g20)=true->(ev (aI 107))=ag af (j9 (C.map fun(i:Nat)=>(i:Int)) lc):=hd.1 rfl;have d20:ev (aI 104)=_:=hd.2.1 rfl;refine⟨fun hgd=>?_,fun hgd=>⟨?_,cz (ay _ _)⟩⟩
        .have hA:=Y3.1 (d20.symm.trans hgd);have y23:=d23 hA;refine yv (v:=aA P0) ?_ (fun _=>rfl);rw[<-h24];go_simp
        intro hc;exact absurd (d20.trans (Y3.2 hc)) hgd
       .have d20:ev (aI 104)=_:=hd.1 rfl;have d24:((bs && !(!f||g12))&&g20)=true->(ev (aI 108))=aA P0:=hd.2.1 rfl;have d14:ev (aI 98)=_:=hd.2.2.1 rfl;refine⟨fun hgd=>?_,fun hgd=>⟨?_,cz (ay _ _)⟩⟩
        .have hA:=gB.1 (d14.symm.trans hgd);have y20:ev (aI 104)=aA g20:=by rw[d20,if_pos hA]
         clear d20;rcases Bool.eq_false_or_eq_true g20 with hf|hf
         .have y24:=d24 (by rw[hA,hf];rfl);rw[hf] at y20;refine yv (v:=aA P0) ?_ (fun _=>by rw[hf];simp);go_simp
         rw[hf] at y20;refine yv (v:=aA false) ?_ (fun _=>by rw[hf];simp);go_simp
        intro hc;exact absurd (d14.trans (gB.2 hc)) hgd
       .have d14:ev (aI 98)=_:=hd.1 rfl;have d25:(bs && !(!f||g12))=true->(ev (aI 109))=aA (g20&&P0):=hd.2.1 rfl;have d4:ev (aI 88)=_:=hd.2.2.1 rfl;refine⟨fun hgd=>?_,fun hgd=>⟨?_,cz (ay _ _)⟩⟩
        .have hA:=gA.1 (d4.symm.trans hgd);have Ki:ev (aI 98)=aA (!f||g12):=by rw[d14,if_pos hA]
         clear d14;rcases Bool.eq_false_or_eq_true (!f||g12) with hf | hf
         .rw[hf] at Ki;refine yv (v:=aA true) ?_ (fun _=>by rw[hf];simp);go_simp
         have y25:=d25 (by rw[hA,hf];rfl);rw[hf] at Ki;refine yv (v:=aA (g20&&P0)) ?_ (fun _=>by rw[hf];simp);go_simp
        intro hc;exact absurd (d4.trans (gA.2 hc)) hgd
       have d4:ev (aI 88)=_:=hd.1 rfl;have d26:bs=true->(ev (aI 110))=aA ((!f||g12)||(g20&&P0)):=hd.2.1 rfl;rcases Bool.eq_false_or_eq_true bs with hf|hf
       .have y26:=d26 hf;have y4:ev (aI 88)=aA true:=d4.trans (gA.2 hf);refine yv (v:=aA ((!f||g12)||(g20&&P0))) ?_ (by show _=dp _;rw[hf];simp);go_simp
       have y4:ev (aI 88)=aA false:=d4.trans (by rw[hf]);refine yv (v:=aA false) ?_ (by show _=dp _;rw[hf];simp);go_simp
      case rfin=>
       intro a3 w3 hR;have hS:=hR.s;have e27:a3.tmps.getD 111 ar=_:=hR.val 27;have ha:=hR.lits 116 rfl;simp only[aQ,cg,nQ] at ha;rw[hR.kp 0,hR.kp 1,hR.kp 2,hR.kp 3,hR.kp 4,hR.kp 5,hR.kp 6,hR.kp 7,hR.kp 8,hR.kp 9,hR.kp 10,hR.kp 12,hR.kp 15,hR.kp 17,hR.kp 18,hR.kp 19,hR.kp 20,hR.kp 21,hR.kp 22,hR.kp 23,hR.kp 24,hR.kp 25,hR.kp 26,hR.kp 27,hR.kp 28,hR.kp 29,hR.kp 30,hR.kp 31,hR.kp 114,hR.kp 115] at ha;simp only[kO,gb,f_] at ha;clear hR;rw[e27] at ha;generalize a3.tmps.getD=zz at ha;have o8:=ai hS;clear e27 hS;subst ha;obtain⟨r,hr⟩:∃r,(bs&&((!f||g12)||(g20&&P0)))=r:=⟨_,rfl⟩
       rw[hr] at Vy;rw[hr];clear hr;have aiM:=ai (HRL.out.below o8.out);have aiL:=ai (HRC.out.below o8.out);have HBf:=ai (xF.out.trans ((HQd.out.trans (o8.out.mono HQd.out.size)).mono hsz));cases r
       .have hs:iR b all (bM pl) lm (M+1)=(lc,f):=by rw[Vy.out];rfl
        have HS:=ai hs;clear hs;go_wp2;go_roundw
        case rel=>
         refine⟨M+1,p4,c4,oM,sM,?_,?_,?_,HBf.out⟩
         .rw[HS.out]
         .rw[HS.out]
         rw[HS.out];exact aiM.out
        case measure=>simp[intOf];omega
       have hs:iR b all (bM pl) lm (M+1)=(C.map fun(i:Nat)=>(i:Int),true):=by rw[Vy.out];rfl
       have HS:=ai hs;clear hs;go_wp2;go_roundw
       case rel=>
        refine⟨M+1,p9,c9,oM,sM,?_,?_,?_,HBf.out⟩
        .rw[HS.out]
        .rw[HS.out];simp
        rw[HS.out];have:=aiL.out;simp only[fM] at this ⊢;exact this
       case measure=>simp[intOf];omega
   obtain rfl:N=M:=oM;have HN1:=ai eb;have HR1:=ai hr4;clear eb hr4;rw[HN0.out] at HR1;go_wp2
   go_ret3
   exact⟨ae p4 (iR b all (bM pl) lm N).1.length c4,by rw[<-HN0.out];rfl,by rw[<-HN0.out] at HR1 ⊢;exact HR1.out,FQ.out.trans (HN1.out.mono FQ.out.size)⟩
def get_put(a:dS)(n:Int){i j:Nat}(hi:i<3)(hj:j<3):(a.put i n).get j=if j=i then n else a.get j:=by
 have h1:i=0\/i=1\/i=2:=oM;have h2:j=0\/j=1\/j=2:=oM;rcases h1 with rfl|rfl|rfl<;>rcases h2 with rfl|rfl|rfl<;>simp[dS.put,dS.get]
def TX(a:dS)(i:Nat)(n:Int):(a.put i n).leak=a.leak:=by
 unfold dS.put;split<;>rfl
def ag8(ml:List Mn)(i:Nat):Int:=match ml[i]? with|some m=>m.hi|none=>0
def most(b:BB)(ml:List Mn)(c:List Nat):Int:=b.lm+(c.map (ag8 ml)).sum
structure Cl9(b:BB)(ml:List Mn)(ss:List Int)(ms:List Mk)(L:List Int):Prop where
 akH:abn (ms.length:Int) L=0
 len:L.length<=3
 some:aT b ml ss ms≠[]->L=[]
 none:aT b ml ss ms=[]->L≠[]/\∃q,q<2 ^ ms.length/\L=uD ms.length q/\mS b ml ss ms q=true/\(∀m,m<2 ^ ms.length->mS b ml ss ms m=true->rB (uD ms.length m) L=false)/\
  ∀i,i<L.length->∃r,r<2 ^ ms.length/\L.eraseIdx i=uD ms.length r/\mS b ml ss ms r=false
structure Low(l:List Int):Prop where
 bd:∀x∈l,1<=x/\x<=8
 asc:l.Pairwise (· < ·)
structure Goes(b:BB)(ss:List Int)(kZ:Int)(xs:List Int):Prop where
 ok:jD b xs
 rest:∃r,xs=ss++r/\∀y∈r,kZ<=y
structure Pl6(b:BB)(ss:List Int)(kZ:Int)(l:List dS)(x y:List Int):Prop where
 gx:Goes b ss kZ x
 gy:Goes b ss kZ y
 sx:b.sure l (bM x)=true
 sy:b.sure l (bM y)=true
 len:x.length=y.length
 no:gZ y x=false
 all:∀xs,Goes b ss kZ xs->b.sure l (bM xs)=true->¬xs.length<x.length/\(xs.length=x.length->gZ xs x=false/\gZ y xs=false)
structure aoP(b:BB)(p:Nat)(l:List dS)(s:Int × Bool):Prop where
 no:s.2=false->s.1=0/\∀a∈l,b.bad (b.cM+a.used) p=0
 yes:s.2=true->1<=s.1/\(∃a∈l,b.bad (b.cM+a.used) p≠0)/\∀a∈l,b.bad (b.cM+a.used) p≠0->s.1<=b.bad (b.cM+a.used) p
def acL(b:BB)(U:Int)(p:Nat):Nat->Bool
 |0=>true
 |k+1=>acL b U p k && !decide (b.RS (b.yG U p (k+1))<b.least)
def acx(g:Int)(is:Bool):Bool:=(g==0)||((g==1)==is)
structure anJ(b:BB)(U:Int)(p:Nat)(G bad:Int)(f:Bool):Prop where
 f1:f = !(G==1)
 f2:f=decide (bad>0)
 at_:∀i,i<b.minutes.toNat->b.RS (b.yG U p (i+1))<b.least->f=true/\¬(i:Int)+1<bad
 said:acx G (acL b U p b.minutes.toNat)=true
def Xb(a:dS)(w:ak):a_ aq 125 #[aN a.cells] w (Rt w (ag af a.leak)):=by
 go_enter Tryz.func125,Tryz.ntmps125
 go_wp2
 go_ret
 exact⟨rfl,cY⟩
def Vt(b:BB)(bm aH az:aj)(ml:List Mn)(ss:List Int)(ms:List Mk)(w:ak)(hL:Laid w)(hB:bW b bm aH az ml ss ms w)(hne:aT b ml ss ms≠[]) :
  a_ aq 56 #[aN (b.cells bm aH az)] w fun e w'=>∃v,e=aU (bB #[v,ag af 0])/\Reads w' v (dE (fun a=>a.leak) (aT b ml ss ms)).length ((dE (fun a=>a.leak) (aT b ml ss ms)).map (aD af))/\Bw w w':=by
 have hlen:=ic ss ms hB.ok hB.eT;have jS:0<(aT b ml ss ms).length:=cB.2 hne;have NU:=hB.eT.len;obtain⟨pm,cm,rfl,_⟩:=aR hB.rm;obtain⟨pn,cn,rfl,_⟩:=aR hB.rs;obtain⟨pk,ck,rfl,_⟩:=aR hB.rk;have b0:Bw w (w.alloc (au (b.sl pm ml.length cm pn ss.length cn pk ms.length ck) 28)):=cY;have hop:=tW b (ae pm ml.length cm) (ae pn ss.length cn) (ae pk ms.length ck) ml ss ms _ (hL.below b0) (hB.below b0) hne (fun W hb=>rz b _ _ _ W);have HO:=ai hop;have Iq:=ai b0;clear hop hL hB b0;generalize aT b ml ss ms=all at *;generalize hM:ml.length=lm at *;generalize ss.length=ln at *;generalize ms.length=lk at *;clear hM
 go_enter Tryz.func56,Tryz.ntmps56
 go_wp2_with (first
  |(go_at_call 103;refine HO.out.mono ?_;clear HO;rintro e w1 ⟨v,rfl,iH,hb1⟩
    obtain⟨gv,cv,rfl⟩:∃gv cv,v=ae (some ⟨gv,0,none⟩) all.length cv:=by
     rcases iH.1.2 with⟨_,h0⟩|⟨g,cap,cur,rfl,_⟩
     .omega
     exact⟨g,cap,rfl⟩
    have vV:=ai (Iq.out.trans (hb1.mono sM));have Sv:Hid (Reads (w1.alloc (au (b.open (ae pm lm cm) (ae pn ln cn) (ae pk lk ck) (ae (some ⟨gv,0,none⟩) all.length cv)) 122)) (ae (some ⟨gv,0,none⟩) all.length cv) all.length (rowOf all)):=ai ((iH.reads oM).below cY);have HNu:=ai (ND b (ae pm lm cm) (ae pn ln cn) (ae pk lk ck) all hne oM (fun a=>a.leak) _ _ Sv.out (fun a _ W hb=>Xb a W))
    clear iH hb1)
  |(go_at_call 124;refine HNu.out.mono ?_;rintro e w2 ⟨gn,cgn,rfl,ho2,hb2⟩;have Zm:=ai ho2;have nN:=ai hb2;clear ho2 hb2))
 go_ret2;have hb3:=vV.out.alloc vV.out.size (au (b.open (ae pm lm cm) (ae pn ln cn) (ae pk lk ck) (ae (some ⟨gv,0,none⟩) all.length cv)) 122)
 have hnl:(dE (fun a=>a.leak) all).length<=1000:=by
  have h1:=Lib.compact_length_le (sorted (all.map fun a=>a.leak));have h2:(sorted (all.map fun a=>a.leak)).length=all.length:=(lV _).trans (fM _);unfold dE;omega
 exact⟨_,rfl,Reads.jL Zm.out oM sM,hb3.trans (nN.out.mono hb3.size)⟩
def Vk(b:BB)(x y u:Int)(p:Nat):∀k,(b.lk x y).yG u p k=b.yG u p k
 |0=>rfl
 |k+1=>by simp only[BB.yG,Vk b x y u p k];rfl
def acK(b:BB)(x y:Int)(ss:List Int)(ms:List Mk):iv (b.lk x y) ss ms=iv b ss ms:=by
 funext a
 unfold iv xW;simp only[Vk];rfl
def Vd(b:BB)(n:Int)(ml:List Mn)(ss:List Int)(ms:List Mk):aT (b.lk n n) ml ss ms=leaves (iv b ss ms) ml 0 ⟨n,0,0,0⟩:=by
 unfold aT;rw[show(b.lk n n).ll=n from rfl,show(b.lk n n).lm=n from rfl,Hn,acK];simp
def vM(b:BB)(ml:List Mn)(ss:List Int)(ms:List Mk):aT b ml ss ms=(eI b.ll b.lm).flatMap fun n=>aT (b.lk n n) ml ss ms:=by
 simp only[Vd];rfl
def sumTo(b:BB)(ml:List Mn)(ss:List Int)(ms:List Mk):Nat->Nat
 |0=>0
 |j+1=>sumTo b ml ss ms j+(aT (b.lk (b.ll+j) (b.ll+j)) ml ss ms).length
def O8(b:BB)(ml:List Mn)(ss:List Int)(ms:List Mk):sumTo b ml ss ms (b.lm+1-b.ll).toNat=(aT b ml ss ms).length:=by
 rw[vM,eI];generalize (b.lm+1-b.ll).toNat=n
 induction n with
 |zero=>rfl
 |succ n ih=>
  rw[List.range_succ,eG,List.flatMap_append,mP,<-ih];simp[sumTo]
def Cg(ok:dS->Bool):∀(r:List Mn) (k:Nat) (a c:dS),c∈leaves ok r k a->c.leak=a.leak
 |[],k,a,c,h=>by
  simp only[leaves] at h;split at h
  .simp at h;rw[h]
  simp at h
 |m::r,k,a,c,h=>by
  simp only[leaves,jq] at h;obtain⟨n,_,h2⟩:=h;rw[Cg ok r (k+1) _ c h2,TX]
def A7{b:BB}{ml:List Mn}{ss:List Int}{ms:List Mk}{a:dS}(ha:a∈aT b ml ss ms):b.ll<=a.leak/\a.leak<=b.lm:=by
 unfold aT at ha;obtain⟨n,h1,h2⟩:=jq.1 ha;rw[Cg _ _ _ _ _ h2];exact wy.1 h1
def Lh(b:BB)(ml:List Mn)(ss:List Int)(ms:List Mk){k:Int}(h1:b.ll<=k)(h2:k<=b.lm):k∈dE (fun a=>a.leak) (aT b ml ss ms)↔aT (b.lk k k) ml ss ms≠[]:=by
 rw[vA];constructor
 .rintro⟨a,ha,rfl⟩;rw[vM] at ha;obtain⟨n,hn,ha2⟩:=jq.1 ha;have:=A7 ha2;have e:n=a.leak:=Int.le_antisymm this.1 this.2;rw[<-e];exact List.ne_nil_of_mem ha2
 intro h;obtain⟨a,ha⟩:=List.exists_mem_of_ne_nil _ h;have:=A7 ha;refine⟨a,?_,Int.le_antisymm this.2 this.1⟩;rw[vM];exact jq.2 ⟨k,wy.2 ⟨h1,h2⟩,ha⟩
def FC(b:BB){ml:List Mn}(hm:uJ ml)(ss:List Int)(ms:List Mk)(i:Nat)(hi:i<ml.length){x:Int}(h1:ml[i].lo<=x):x∈dE (fun a=>a.get i) (aT b ml ss ms)↔x<=ml[i].hi/\aT b (rT ml i x x) ss ms≠[]:=by
 have key:∀(h2:x<=ml[i].hi),aT b (rT ml i x x) ss ms≠[]↔∃a∈aT b ml ss ms,a.get i=x:=fun h2=>by
  have hk:=Ml b hm ss ms i hi x ⟨h1,h2⟩;unfold cnt at hk;rw[<-cB,hk,List.countP_pos_iff];simp
 rw[vA];constructor
 .rintro⟨a,ha,e⟩;have h2:=Fo b hm ss ms i hi ha;have h3:x<=ml[i].hi:=oM;exact⟨h3,(key h3).2 ⟨a,ha,e⟩⟩
 rintro⟨h2,h3⟩;exact(key h2).1 h3
structure xG(w:ak)(os:List Obj)(w':ak):Prop where
 at_:∀i o,os[i]?=some o->w'.heap[w.heap.size+i]?=some o
 below:Bw w w'
 size:w.heap.size+os.length<=w'.heap.size
def xG.nil(w:ak):xG w [] w:=⟨sM,ay _ _,sM⟩
def xG.alloc{w w':ak}{os:List Obj}(h:xG w os w')(hs:w'.heap.size=w.heap.size+os.length)(o:Obj):xG w (os++[o]) (w'.alloc o):=by
 refine⟨fun i p hi=>?_,h.below.alloc oM o,sO⟩;rcases Nat.lt_trichotomy i os.length with h1|h1|h1
 .rw[List.getElem?_append_left h1] at hi;exact(aW _ _ _ oM).trans (h.at_ i p hi)
 .subst h1;simp at hi;subst hi;rw[<-hs];exact ax w' _
 rw[List.getElem?_eq_none sO] at hi;cases hi
def xG.next{w w1 w2:ak}{os:List Obj}(h:xG w os w1)(hb:Bw w1 w2):xG w os w2:=by
 have hs:=h.size;refine⟨fun i p hi=>(hb.block _ ?_).trans (h.at_ i p hi),h.below.trans (hb.mono oM),aG hs hb.size⟩;have:=(List.getElem?_eq_some_iff.1 hi).1;omega
def abu(w:ak)(A B C D:Obj):xG w [A,B,C,D] ((((w.alloc A).alloc B).alloc C).alloc D):=
 ((((xG.nil w).alloc sM A).alloc sM B).alloc sM C).alloc sM D
def Ou{zs:List Int}(h:zs≠[]):u_ zs≠[]:=by
 intro hc;unfold u_ Lib.compactUpTo at hc;have h1:=List.map_eq_nil_iff.1 hc;have h2:(0:Nat)∈(aQ zs.length).filter (Lib.keeps zs.toArray):=List.mem_filter.2 ⟨bQ.2 (cB.2 h),Lib.keeps_lt_one _ 0 oM⟩;rw[h1] at h2;cases h2
def abQ(b:BB)(bm aH az:aj)(ml:List Mn)(ss:List Int)(ms:List Mk)(w:ak)(hL:Laid w)(hB:bW b bm aH az ml ss ms w)(hne:aT b ml ss ms≠[])(pl:List Int)(hp:jD b pl)(mi:Nat)(h1:1<=mi)(h2:(mi:Int)<=b.minutes)
  (lv:aj) (hl:Reads w lv pl.length (pl.map (aD af))) :
  a_ aq 60 #[aN (b.cells bm aH az),lv,ag af mi] w fun e w'=>∃x y r,dE (fun a=>b.yG (b.cM+a.used) (bM pl) mi) (aT b ml ss ms)=x::r/\(x::r).getLast?=some y/\e=aU (bB #[aN #[ag af x,ag af y],ag af 0])/\Bw w w':=by
 have hlen:=ic ss ms hB.ok hB.eT;have jS:0<(aT b ml ss ms).length:=cB.2 hne;have cV:=hB.ok;have hao:=ot (ss:=ss) (ms:=ms) hB.ok hB.eT;obtain⟨pm,cm,rfl,_⟩:=aR hB.rm;obtain⟨pn,cn,rfl,_⟩:=aR hB.rs;obtain⟨pk,ck,rfl,_⟩:=aR hB.rk;obtain⟨qw,qH,rfl,_⟩:=aR hl;have ht:=abu w (au (b.sl pm ml.length cm pn ss.length cn pk ms.length ck) 28) (au #[ae qw pl.length qH] 25) (au #[ag af mi] 3) (au #[ag af 0,ag af 0] 23)
 have hop:=TD b (ae pm ml.length cm) (ae pn ss.length cn) (ae pk ms.length ck) ml ss ms _ (hL.below ht.below) (hB.below ht.below) hne (w.heap.size+1) (w.heap.size+2) (fun W hb=>by
  have hw:=hb
  exact Vn b cV _ _ _ pl hp mi h1 h2 _ _ _ W ((hb.block (w.heap.size+1) sM).trans (ht.at_ 1 _ rfl)) ((hb.block (w.heap.size+2) sM).trans (ht.at_ 2 _ rfl)) ((hl.below ht.below).below hb))
 have HO:=ai hop;have HT:=ai ht;have HRl:=ai hl;have Sy:=ai hao;clear hop ht hL hB hl hao;generalize hall:aT b ml ss ms=all at *;clear hall;generalize ml.length=lm at *;generalize ss.length=ln at *;generalize ms.length=lk at *;obtain⟨of,hof⟩:∃of:dS->Int,(fun a=>b.yG (b.cM+a.used) (bM pl) mi)=of:=⟨_,rfl⟩
 rw[hof];have HOf:=ai hof;clear hof
 go_enter Tryz.func60,Tryz.ntmps60
 go_wp2_with (first
  |(go_at_call 103;refine HO.out.mono ?_;clear HO;rintro e w1 ⟨v,rfl,iH,hb1⟩
    have sw:=HT.out.next hb1
    obtain⟨gv,cv,rfl⟩:∃gv cv,v=ae (some ⟨gv,0,none⟩) all.length cv:=by
     rcases iH.1.2 with⟨_,h0⟩|⟨g,cap,cur,rfl,_⟩
     .omega
     exact⟨g,cap,rfl⟩
    have o7:=ai sw;have Sv:Hid (Reads (w1.alloc (au (b.open (ae pm lm cm) (ae pn ln cn) (ae pk lk ck) (ae (some ⟨gv,0,none⟩) all.length cv)) 122)) (ae (some ⟨gv,0,none⟩) all.length cv) all.length (rowOf all)):=ai ((iH.reads oM).below cY)
    have HNu:=ai (KW b (ae pm lm cm) (ae pn ln cn) (ae pk lk ck) all hne oM of w1.heap.size (w.heap.size+1) (w.heap.size+2) _ _ Sv.out (fun a ha W hb=>by
     have q:=(o7.out.next ((ay _ _).alloc (aJ _) (au (b.open (ae pm lm cm) (ae pn ln cn) (ae pk lk ck) (ae (some ⟨gv,0,none⟩) all.length cv)) 122))).next hb
     have q1:=(hb.block w1.heap.size sM).trans (ax w1 _);rw[<-HOf.out]
     exact Vm b cV _ _ _ _ pl hp mi h1 h2 a (Sy.out a ha) _ _ _ _ W q1 (q.at_ 1 _ rfl) (q.at_ 2 _ rfl) (HRl.out.below q.below)))
    clear sw iH hb1)
  |(go_at_call 124;refine HNu.out.mono ?_;rintro e w2 ⟨gn,cgn,rfl,ho2,hb2⟩;have Zm:=ai ho2;have nN:=ai hb2;clear ho2 hb2))
 have hq:=(o7.out.next ((ay _ _).alloc (aJ _) (au (b.open (ae pm lm cm) (ae pn ln cn) (ae pk lk ck) (ae (some ⟨gv,0,none⟩) all.length cv)) 122))).next nN.out
 have MU:dE of all≠[]:=by
  have h1:sorted (all.map of)≠[]:=by
   intro h;have h2:(sorted (all.map of)).length=(all.map of).length:=lV _;rw[h] at h2;simp at h2;exact hne (List.eq_nil_of_length_eq_zero h2.symm)
  exact Ou h1
 have hnl:(dE of all).length<=1000:=by
  have h1:=Lib.compact_length_le (sorted (all.map of));have h2:(sorted (all.map of)).length=all.length:=(lV _).trans (fM _);unfold dE;omega
 obtain⟨x,r,hxr⟩:∃x r,dE of all=x::r:=by
  cases h:dE of all with
  |nil=>exact(MU h).elim
  |cons x r=>exact⟨x,r,rfl⟩
 have hN:∃N,(dE of all).length=N:=⟨_,rfl⟩
 obtain⟨N,hN⟩:=hN;have hN1:1<=N:=by rw[<-hN,hxr];simp
 obtain⟨y,hy⟩:∃y,(dE of all)[N-1]?=some y:=⟨_,h_ oM⟩
 obtain⟨cur,hgb,Cl,hc0,hcl⟩:∃cur:Array aj,w2.heap[gn]?=some (au cur 3 (0,0))/\w1.heap.size+1<=gn/\cur[0]?=some (ag af x)/\cur[N-1]?=some (ag af y):=by
  rcases Zm.out.2 with⟨h0,_⟩|⟨g',cap',cur,h0,hb0,h1,h2,h3,h4,h5⟩
  .cases h0
  cases h0;rw[Nat.mul_one,hN] at h5
  have hz:∀(j:Nat) (u:Int),(dE of all)[j]?=some u->cur[j]?=some (ag af u):=fun j u hj=>by
   have h6:(cur.toList.take N)[j]?=some (aD af u):=by rw[h5,List.getElem?_map,hj];rfl
   rw[List.getElem?_take] at h6;split at h6
   .simpa using h6
   cases h6
  refine⟨cur,h1,by simpa using hb0,hz 0 x (by rw[hxr];rfl),hz _ _ hy⟩
 have agw:=o7.out.size;simp at agw;have hwr:IntKind.i64.wrap ((N:Int)-1)=((N-1:Nat):Int):=by rw[fC _ oM oM];omega
 have i1:((N-1:Nat):Int)<(N:Int):=oM;have i2:(0:Int)<=((N-1:Nat):Int):=oM;have i3:(0:Int)<(N:Int):=oM;have hgB:gn≠w.heap.size+1+1+1:=oM;have HXR:=ai hxr;have HY:=ai hy;have HNN:=ai hN;rw[hN];clear hxr hy MU hnl hN Sv HNu Zm HRl Sy HT
 refine cj kQ [
 pV (ae (some ⟨gn,0,none⟩) N cgn),
  pV (pv gn 0),
  pV (ag af x),
  pV (ae (some ⟨gn,0,none⟩) N cgn),
  pV (ae (some ⟨gn,0,none⟩) N cgn),
  pV (ag af N),
  pV (ag af ((N-1:Nat):Int)),
  pV (pv gn (N-1)),
  pV (ag af y),
  pV (aN #[ag af x,ag af y]),
  fun v ds w9=>w9.heap[w.heap.size+1+1+1]?=some (au #[ag af x,ag af y] 23 (0,0)),
  pV (ag af 0)]
  (fun w9=>w9.heap[gn]?=some (au cur 3 (0,0))/\(∃z1 z2,w9.heap[w.heap.size+1+1+1]?=some (au #[z1,z2] 23 (0,0)))/\Bw w w9) [(10,ae (some ⟨gn,0,none⟩) N cgn),(6,pv (w.heap.size+1+1+1) 0)] kQ ?rst (fun w1 w2 h hb=>⟨(hb.block _ (ah.1 h.1).1).trans h.1,h.2.1.imp fun z1 h1=>h1.imp fun z2 h2=>(hb.block _ (ah.1 h2).1).trans h2,h.2.2.trans (hb.mono h.2.2.size)⟩) (⟨hgb,⟨_,_,hq.at_ 3 _ rfl⟩,hq.below.drew⟩) ⟨rfl,rfl,trivial⟩ ?reach ?rfin
 case rst=>
  refine⟨sV,sV,sV,sV,sV,sV,sV,sV,sV,sV,?_,sV,trivial⟩;rintro v ds w1 w2 hS h hb;exact(hb.block _ (ah.1 h).1).trans h
 case reach=>
  refine⟨?_,?_,?_,?_,?_,?_,?_,?_,?_,?_,?_,?_,trivial⟩<;>rintro ev w1 hS hc hg hf ⟨Sp,b6,-⟩ hd
  .exact tV
  .have d0:ev (aI 24)=_:=hd.1 rfl;refine yv ?_ rfl;go_simp;intro hx;exfalso;omega
  .have d1:ev (aI 25)=_:=hd.1 rfl;have z:=aK hS.1 0 _ hc0;exact tV
  .exact tV
  .exact tV
  .have d4:ev (aI 28)=_:=hd.1 rfl;exact tV
  .have d5:ev (aI 29)=_:=hd.1 rfl;exact tV
  .have d3:ev (aI 27)=_:=hd.1 rfl;have d6:ev (aI 30)=_:=hd.2.1 rfl;exact tV
  .have d7:ev (aI 31)=_:=hd.1 rfl;have z:=aK hS.1 _ _ hcl;exact tV
  .have d2:ev (aI 26)=_:=hd.1 rfl;have d8:ev (aI 32)=_:=hd.2.1 rfl;exact tV
  .have d9:ev (aI 33)=_:=hd.1 rfl;obtain⟨hg1,⟨z1,z2,hz⟩,r5⟩:=hS;have c0:=aK hz 0 _ rfl;have c1:=aK hz 1 _ rfl;have f0:=cQ hz 0;have f1:=cQ hz 1;refine Lag.Yields.skip (w':=(w1.setCell ⟨w.heap.size+1+1+1,0,none⟩ (ag af x)).setCell ⟨w.heap.size+1+1+1,1,none⟩ (ag af y)) ?_ ⟨cX _ (cX _ hz),.inr ⟨⟨(bp _ _ _ _ hgB).trans ((bp _ _ _ _ hgB).trans hg1),⟨_,_,cX _ (cX _ hz)⟩,(r5.setCell (p:=⟨_,0,none⟩) (by show _<=w.heap.size+1+1+1;omega) _).setCell (p:=⟨_,1,none⟩) (by show _<=w.heap.size+1+1+1;omega) _⟩,?_⟩⟩
   .go_simp
   .intro j u ds hj hp
    match j,hp with
    |0,hp|1,hp|2,hp|3,hp|4,hp|5,hp|6,hp|7,hp|8,hp|9,hp=>exact hp
    |10,_=>exact(hj rfl).elim
    |11,hp=>exact hp
    |j+12,_=>trivial
  exact tV
 case rfin=>
  intro a2 w2 hR;have hS:=hR.s;have Oj:w2.heap[w.heap.size+1+1+1]?=some (au #[ag af x,ag af y] 23 (0,0)):=hR.val 10;have e11:a2.tmps.getD 7 ar=_:=hR.val 11;have k6:a2.tmps.getD 6 ar=pv (w.heap.size+1+1+1) 0:=hR.kept kQ;have ha:=hR.lits 34 rfl;simp only[aQ,cg,nQ] at ha;clear hR;rw[e11,k6] at ha;clear e11;generalize a2.tmps.getD=zz at ha;have HE:=ai Oj;have HF:=ai hS.2.2;clear Oj hS k6;subst ha;go_wp2;refine a8 (results_cell_tmp (g:=w.heap.size+1+1+1) rfl rfl (eF _ _ 23 23 _ (0,0) _ HE.out lF rfl kQ)) rfl ⟨x,y,r,HXR.out,?_,rfl,HF.out⟩;rw[<-HXR.out,List.getLast?_eq_getElem?,HNN.out];exact HY.out
open Go.Conc
def U0:ex.Ok:=⟨dC,dC,dC,dC,dC,dC,dC,dC,dC,dC⟩
def PW:uJ j0:=by
 refine⟨fun m h=>?_,fun i k hi hk hik=>?_,dC⟩
 .simp only[j0,cy,List.not_mem_nil,or_false] at h;rcases h with rfl|rfl
  .refine⟨⟨dC,fun k h=>?_⟩,dC⟩;have h3:k<3:=h
   match k,h3 with
   |0,_=>exact cz (show 97<=97/\97<=122 from by decide)
   |1,_=>exact cz (show 97<=110/\110<=122 from by decide)
   |2,_=>exact cz (show 97<=110/\110<=122 from by decide)
  .refine⟨⟨dC,fun k h=>?_⟩,dC⟩;have h3:k<2:=h
   match k,h3 with
   |0,_=>exact cz (show 97<=98/\98<=122 from by decide)
   |1,_=>exact cz (show 97<=111/\111<=122 from by decide)
 have h2:k<2:=hk;obtain⟨rfl,rfl⟩:i=0/\k=1:=oM;show(⟨#[97,110,110]⟩:ByteArray)≠⟨#[98,111]⟩;decide
def rV:Mk:=⟨1,11,11⟩
def ZM:Mk:=⟨1,12,12⟩
def ZN:l9 ex [rV]:=⟨dC,dC⟩
def W_:l9 ex [rV,ZM]:=⟨dC,dC⟩
def PX:aT ex j0 [] []=[⟨0,3,4,0⟩,⟨0,4,4,0⟩,⟨1,3,4,0⟩,⟨1,4,4,0⟩]:=by decide+kernel
def L8:aT ex j0 [] [rV]=[⟨0,4,4,0⟩,⟨1,3,4,0⟩,⟨1,4,4,0⟩]:=by decide+kernel
def U6:aT (ex.lk 0 0) j0 [] [rV]=[⟨0,4,4,0⟩]:=by decide+kernel
def L6:aT ex j0 [] []≠[]:=by rw[PX];simp
def U1:aT ex j0 [] [rV]≠[]:=by rw[L8];simp
def Y5:aT (ex.lk 0 0) j0 [] [rV]≠[]:=by rw[U6];simp
def I4{b:BB}{pl:List Int}(h:(pl.all fun p=>decide (1<=p/\p<=b.minutes))=true)(ha:∀(k:Nat) (h:k+1<pl.length),pl[k]<pl[k+1])(hl:(pl.length:Int)<=b.eN):jD b pl:=
 ⟨fun p hp=>by have:=bf.1 h p hp;simpa using this,ha,hl⟩
def Nw:jD ex [1,3]:=I4 dC (fun k h=>by have h2:k+1<2:=h;obtain rfl:k=0:=(by omega);simp) dC
def Zw:jD ex [1,2]:=I4 dC (fun k h=>by have h2:k+1<2:=h;obtain rfl:k=0:=(by omega);simp) dC
def Yv:jD ex [1]:=I4 dC (fun k h=>by have h2:k+1<1:=h;omega) dC
def Tt(b:BB)(h:b.Ok):jD b []:=⟨sM,fun k h=>by simp at h,by have:=h.eN;simpa using this.1⟩
def Az{zs ys:List Int}(hp:zs.Perm ys)(hs:ys.Pairwise (·<=·)):sorted zs=ys:=by
 have h1:(sorted zs).Pairwise (fun a b=>(decide (a<=b))=true):=List.pairwise_mergeSort (fun a b c h1 h2=>by simp at *;omega) (fun a b=>by simp;omega) zs;exact List.Perm.eq_of_pairwise (le:=fun a b=>a<=b) (fun a b _ _ h1 h2=>by omega) (h1.imp fun h=>by simpa using h) hs ((List.mergeSort_perm zs _).trans hp)
def vT(lt:Nat->Nat->Bool)(p:Nat):∀(r:List Nat) (x:Nat),p∈x::r->(∀y∈x::r,(y==p||(lt p y && !lt y p))=true)->jJ lt x r=p
 |[],x,hm,_=>(List.mem_singleton.1 hm).symm
 |y::r,x,hm,h=>by
  show jJ lt (if lt y x=true then y else x) r=p;have hx:=h x sM;have hy:=h y sM;have hr:∀z∈r,(z==p||(lt p z && !lt z p))=true:=fun z hz=>h z (by simp[hz])
  by_cases e1:x=p
  .subst e1
   have:(if lt y x=true then y else x)=x:=by
    by_cases hl:lt y x=true
    .simp[hl] at hy;rw[if_pos hl];exact hy
    rw[if_neg hl]
   rw[this]
   exact vT lt x r x sM fun z hz=>by
    rcases cy.1 hz with rfl|hz
    .simp
    exact hr z hz
  by_cases e2:y=p
  .subst e2
   have hx':lt y x=true:=by
    rw[Bool.or_eq_true,Bool.and_eq_true] at hx;rcases hx with hx|hx
    .exact absurd (by simpa using hx) e1
    exact hx.1
   rw[if_pos hx']
   exact vT lt y r y sM fun z hz=>by
    rcases cy.1 hz with rfl|hz
    .simp
    exact hr z hz
  have hp:p∈r:=by
   rcases cy.1 hm with h1|h1
   .exact absurd h1.symm e1
   rcases cy.1 h1 with h2|h2
   .exact absurd h2.symm e2
   exact h2
  refine vT lt p r _ (by simp[hp]) fun z hz=>?_;rcases cy.1 hz with rfl|hz
  .by_cases hl:lt y x=true
   .rw[if_pos hl];exact hy
   rw[if_neg hl];exact hx
  exact hr z hz
def Cr:j_ ex (di [] []).toNat (bM []) (aT ex j0 [] []) 512=[10,12,18,20]:=by decide+kernel
section
variable{w:ak}{m s k:aj}
theorem XT(hL:Laid w)(hB:bW ex m s k j0 [] [] w):a_ aq 33 #[aN (ex.cells m s k)] w (Rt w (bB #[ag af 60,ag af 0])):=Vx ex m s k j0 [] [] w hL hB
theorem aep(hL:Laid w)(hB:bW ex m s k j0 [] [] w):a_ aq 65 #[aN (ex.cells m s k),ag af 37] w (Rt w (bB #[ag af 18,ag af 0])):=abK ex m s k j0 [] [] w hL hB 37 dC
theorem iX{q:Nat}{l:List Int}{t:TypeId}(h:w.heap[q]?=some (au ((l.map (aD af)).toArray) t (0,0)))(hl:l.length<=100):Reads w (ae (some ⟨q,0,none⟩) l.length l.length) l.length (l.map (aD af)):=
 .inr ⟨q,0,l.length,rfl,oM,(ah.1 h).1,fun j u hj=>by rw[cO];exact aK h j u (by simpa using hj)⟩
theorem abb(hL:Laid w)(hB:bW ex m s k j0 [] [] w)(q q2:Nat)(h1:w.heap[q]?=some (au #[ag af 3,ag af 4] 3 (0,0)))(h2:w.heap[q2]?=some (au #[ag af 1] 3 (0,0))) :
  a_ aq 32 #[aN (ex.cells m s k),aN #[ag af 0,ae (some ⟨q,0,none⟩) 2 2],ae (some ⟨q2,0,none⟩) 1 1] w fun e w'=>∃v,e=aU (bB #[v,ag af 0])/\Reads w' v 5 ([44,38,29,20,11].map (aD af))/\Bw w w':=by
 have h:=Yg ex m s k j0 [] [] w hL hB 0 dC [3,4] dC rfl q 0 2 (ah.1 h1).1 dC (fun j u hj=>by rw[cO];exact aK h1 j u (by simpa using hj)) [1] Yv _ (iX (l:=[1]) h2 dC);have e:ex.nz (ex.cM+(pG 0 [3,4]).used) (bM [1]) ex.minutes.toNat=[44,38,29,20,11]:=by decide+kernel
 rw[e] at h;exact h
theorem U5(hL:Laid w)(hB:bW ex m s k j0 [] [] w):a_ aq 42 #[aN (ex.cells m s k)] w (Rt w (bB #[ag af 4,ag af 0])):=by
 have h:=qR ex m s k j0 [] [] w hL hB;rw[PX] at h;exact h
theorem aes(hL:Laid w)(hB:bW ex m s k j0 [] [] w)(q:Nat)(h1:w.heap[q]?=some (au #[ag af 1,ag af 3] 3 (0,0))) :
  a_ aq 60 #[aN (ex.cells m s k),ae (some ⟨q,0,none⟩) 2 2,ag af 5] w (Rt w (bB #[aN #[ag af 21,ag af 31],ag af 0])):=by
 have h:=abQ ex m s k j0 [] [] w hL hB L6 [1,3] Nw 5 dC dC _ (iX (l:=[1,3]) h1 dC);refine h.mono ?_;rintro e w' ⟨x,y,r,hn,hy,rfl,hb⟩
 have e1:dE (fun a=>ex.yG (ex.cM+a.used) (bM [1,3]) 5) (aT ex j0 [] [])=[21,26,31]:=by
  unfold dE;rw[Az (ys:=[21,26,26,31]) (by decide+kernel) dC];decide+kernel
 rw[e1] at hn;cases hn;cases hy;exact⟨rfl,hb⟩
theorem abe(hL:Laid w)(hB:bW ex m s k j0 [] [] w)(q:Nat)(h1:w.heap[q]?=some (au #[ag af 1,ag af 3] 3 (0,0))) :
  a_ aq 44 #[aN (ex.cells m s k),ae (some ⟨q,0,none⟩) 2 2] w (Rt w (bB #[ag af 1,ag af 0])):=by
 have h:=Qh ex m s k j0 [] [] w hL hB L6 [1,3] Nw _ (iX (l:=[1,3]) h1 dC);have e:pN (LN ex (aT ex j0 [] []) (bM [1,3])) (aT ex j0 [] []).length=1:=by decide+kernel
 rw[e] at h;exact h
theorem XU(hL:Laid w)(hB:bW ex m s k j0 [] [] w)(q:Nat)(h1:w.heap[q]?=some (au #[ag af 1,ag af 2] 3 (0,0))) :
  a_ aq 44 #[aN (ex.cells m s k),ae (some ⟨q,0,none⟩) 2 2] w (Rt w (bB #[ag af 0,ag af 0])):=by
 have h:=Qh ex m s k j0 [] [] w hL hB L6 [1,2] Zw _ (iX (l:=[1,2]) h1 dC);have e:pN (LN ex (aT ex j0 [] []) (bM [1,2])) (aT ex j0 [] []).length=0:=by decide+kernel
 rw[e] at h;exact h
theorem aeq(hL:Laid w)(hB:bW ex m s k j0 [] [] w) :
  a_ aq 63 #[aN (ex.cells m s k),ae none 0 0] w (Rt w (bB #[ag af 2,aA true,ag af 0])):=by
 have h:=abL ex m s k j0 [] [] w hL hB L6 [] (Tt _ U0) (ae none 0 0) (cz ⟨rfl,rfl,rfl⟩);have e:uH ex (aT ex j0 [] []) (bM [])=(2,true):=by decide+kernel
 rw[e] at h;exact h
theorem U4(hL:Laid w)(hB:bW ex m s k j0 [] [] w)(p1:Plain w m)(p2:Plain w s)(p3:Plain w k) :
  jE aq 20 #[aN (ex.cells m s k)] w fun v w'=>∃lv:aj,v=bB #[lv,aA true,ag af 0]/\Reads w' lv 2 ([1,3].map (aD af))/\Old w w':=by
 have h:=UY hL hB p1 p2 p3 L6 (by rw[Cr];simp) (by rw[Cr];decide) 10 (fun x r hp=>vT sW 10 r x (hp.mem_iff.2 (by rw[Cr];decide)) fun y hy=>by
  have:=hp.mem_iff.1 hy;rw[Cr] at this;have h2:([10,12,18,20].all fun y=>y==10||(sW 10 y && !sW y 10))=true:=by decide+kernel
  exact bf.1 h2 y this)
 have e:gY 10=[1,3]:=by decide+kernel
 unfold P_ at h;rw[e] at h;exact h
theorem U3(hL:Laid w)(hB:bW ex m s k j0 [] [] w)(p1:Plain w m)(p2:Plain w s)(p3:Plain w k) :
  jE aq 23 #[aN (ex.cells m s k)] w fun v w'=>∃lv:aj,v=bB #[lv,aA true,ag af 0]/\Reads w' lv 2 ([2,4].map (aD af))/\Old w w':=by
 have h:=T2 hL hB p1 p2 p3 L6 (by rw[Cr];simp) (by rw[Cr];decide) 20 (fun x r hp=>vT sU 20 r x (hp.mem_iff.2 (by rw[Cr];decide)) fun y hy=>by
  have:=hp.mem_iff.1 hy;rw[Cr] at this;have h2:([10,12,18,20].all fun y=>y==20||(sU 20 y && !sU y 20))=true:=by decide+kernel
  exact bf.1 h2 y this)
 have e:gY 20=[2,4]:=by decide+kernel
 unfold P_ at h;rw[e] at h;exact h
theorem RN(hL:Laid w)(hB:bW ex m s k j0 [] [] w)(q:Nat)(h1:w.heap[q]?=some (au #[ag af 1,ag af 3] 3 (0,0))) :
  a_ aq 25 #[aN (ex.cells m s k),ae (some ⟨q,0,none⟩) 2 2] w (Rt w (bB #[ag af 44,aA true,ag af 0])):=by
 have h:=OX ex m s k j0 [] [] w hL hB L6 [1,3] Nw _ (iX (l:=[1,3]) h1 dC);have e:oT ex (aT ex j0 [] []) (bM [1,3]) 100=some 44:=by decide+kernel
 rw[e] at h;exact h
theorem abf(hL:Laid w)(hB:bW ex m s k j0 [] [] w)(q:Nat)(h1:w.heap[q]?=some (au #[ag af 1] 3 (0,0))) :
  a_ aq 27 #[aN (ex.cells m s k),ae (some ⟨q,0,none⟩) 1 1] w fun e w'=>∃v,e=aU (bB #[v,aA true,ag af 0])/\Reads w' v 1 ([0].map (aD af))/\Bw w w':=by
 have h:=Yo ex m s k j0 [] [] w hL hB L6 [1] Yv _ (iX (l:=[1]) h1 dC);have e:iR ex (aT ex j0 [] []) (bM [1]) j0.length (2 ^ j0.length)=([0],true):=by decide+kernel
 rw[e] at h;exact h
theorem abd(hL:Laid w)(hB:bW ex m s (ae none 0 0) j0 [] [] w) :
  a_ aq 75 #[aN (ex.cells m s (ae none 0 0)),aN #[ag af 1,ag af 11,ag af 11]] w fun e w'=>∃m' s' k',e=aU (bB #[aN (ex.cells m' s' k'),ag af 0])/\fK ex m' s' k' j0 [] [rV] w'/\Bw w w':=Yh ex m s j0 [] w hL hB rV ZN U1
theorem RO(hL:Laid w)(hB:bW ex m s k j0 [] [rV] w):a_ aq 42 #[aN (ex.cells m s k)] w (Rt w (bB #[ag af 3,ag af 0])):=by
 have h:=qR ex m s k j0 [] [rV] w hL hB;rw[L8] at h;exact h
theorem RP(hL:Laid w)(hB:bW ex m s k j0 [] [rV] w) :
  a_ aq 58 #[aN (ex.cells m s k),ag af 0] w fun e w'=>∃v,e=aU (bB #[v,ag af 0])/\Reads w' v 2 ([3,4].map (aD af))/\Bw w w':=by
 have h:=yL ex m s k j0 [] [rV] w hL hB U1 0 dC
 have e:dE (fun a=>a.get 0) (aT ex j0 [] [rV])=[3,4]:=by
  unfold dE;rw[Az (ys:=[3,4,4]) (by decide+kernel) dC];decide+kernel
 rw[e] at h;exact h
theorem aer(hL:Laid w)(hB:bW ex m s k j0 [] [rV] w):a_ aq 53 #[aN (ex.cells m s k)] w (Rt w (bB #[ag af 0,ag af 2,ag af 0])):=by
 have h:=abO ex m s k j0 [] [rV] w hL hB U1;have e:rQ (aT ex j0 [] [rV]) j0.length=(0,2):=by decide+kernel
 rw[e] at h;exact h
theorem XW(hL:Laid w)(hB:bW ex m s k j0 [] [rV] w) :
  a_ aq 80 #[aN (ex.cells m s k),aN #[ag af 0,ag af 0]] w fun e w'=>∃m' s' k',e=aU (bB #[aN ((ex.lk 0 0).cells m' s' k'),ag af 0])/\fK (ex.lk 0 0) m' s' k' j0 [] [rV] w'/\Bw w w':=
 VM ex m s k j0 [] [rV] w hL hB 0 0 dC dC dC 0 0 dC dC dC Y5
theorem Oh(hL:Laid w)(hB:bW (ex.lk 0 0) m s k j0 [] [rV] w) :
  a_ aq 58 #[aN ((ex.lk 0 0).cells m s k),ag af 0] w fun e w'=>∃v,e=aU (bB #[v,ag af 0])/\Reads w' v 1 ([4].map (aD af))/\Bw w w':=by
 have h:=yL (ex.lk 0 0) m s k j0 [] [rV] w hL hB Y5 0 dC
 have e:dE (fun a=>a.get 0) (aT (ex.lk 0 0) j0 [] [rV])=[4]:=by
  unfold dE;rw[Az (ys:=[4]) (by decide+kernel) dC];decide+kernel
 rw[e] at h;exact h
theorem aa_(hL:Laid w)(hB:bW ex m s k j0 [] [rV] w):a_ aq 82 #[aN (ex.cells m s k),ag af 1] w (Rt w (bB #[aN fP,ag af 7])):=
 J2 ex m s k j0 [] [rV] w hL hB 1 dC dC (by decide+kernel)
theorem U2(hB:bW ex m s k j0 [] [rV] w) :
  a_ aq 88 #[aN (ex.cells m s k),aN #[ag af 1,ag af 12,ag af 12]] w fun e w'=>∃k',e=aU (aN (ex.cells m s k'))/\bW ex m s k' j0 [] [rV,ZM] w'/\Bw w w':=by
 obtain⟨p1,c1,e1,_⟩:=aR hB.rm;obtain⟨p2,c2,e2,_⟩:=aR hB.rs;refine(OQ ex m s k ⟨⟨_,_,_,e1⟩,⟨_,_,_,e2⟩⟩ [rV] dC ZM w hB.rk).mono ?_;rintro e w' ⟨k',rfl,h1,_,hb⟩;exact⟨k',rfl,⟨U0,PW,Tt _ U0,W_,hB.rm.below hb,hB.rs.below hb,h1⟩,hb⟩
theorem XV(hL:Laid w)(hB:bW ex m s k j0 [] [rV,ZM] w) :
  a_ aq 50 #[aN (ex.cells m s k)] w fun e w'=>∃v,e=aU (bB #[v,ag af 0])/\Reads w' v 2 ([0,1].map (aD af))/\Bw w w':=by
 have h:=VK ex m s k j0 [] [rV,ZM] w hL hB;have e:qJ ex j0 [] [rV,ZM]=[0,1]:=by decide+kernel
 rw[e] at h;exact h
end
structure ExB(m:aj)(w:ak):Prop where
 own:fK ex m (ae none 0 0) (ae none 0 0) j0 [] [] w
 pl:Plain w m
def RM{w:ak}(h0:1<=w.heap.size):a_ aq 93 #[] w fun e w'=>∃m,e=aU (aN (ex.cells m (ae none 0 0) (ae none 0 0)))/\ExB m w'/\Bw w w':=by
 refine(LZ w).mono ?_;rintro e w' ⟨g,c,rfl,hr,hg,hge,hb⟩;refine⟨_,rfl,⟨⟨⟨U0,PW,Tt _ U0,⟨sM,sM⟩,hr,cz ⟨rfl,rfl,rfl⟩,cz ⟨rfl,rfl,rfl⟩⟩,fun g' h'=>?_,fun g' h'=>(by cases h'),fun g' h'=>(by cases h')⟩,fun g' h'=>?_⟩,hb⟩
 .obtain rfl:g=g':=a7 h';exact⟨_,hg⟩
 obtain rfl:g=g':=a7 h';refine⟨oM,_,_,_,hg,fun u hu=>?_⟩;simp only[eA,j0,List.flatMap_cons,List.flatMap_nil,Au] at hu;simp at hu;rcases hu with rfl|rfl|rfl|rfl|rfl|rfl
 .exact .inr ⟨_,rfl⟩
 .exact cz ⟨_,_,rfl⟩
 .exact cz ⟨_,_,rfl⟩
 .exact .inr ⟨_,rfl⟩
 exact cz ⟨_,_,rfl⟩
end Go.Proofs.YtffladgmkiimjaaGreatDoor
