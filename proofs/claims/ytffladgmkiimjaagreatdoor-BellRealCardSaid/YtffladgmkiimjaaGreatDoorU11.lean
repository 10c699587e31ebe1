/- LONE WALKS: Ask (53). PLAIN LAW of BellAsked (10): the man whose breat .. -/
import Derived.Test.YtffladgmkiimjaaGreatDoorU10
import Derived.Test.YtffladgmkiimjaaGreatDoorU05
set_option linter.all false
set_option maxHeartbeats 0
set_option maxRecDepth 1000000
open Go.Lag.Yields renaming call -> jO,value -> Gw
open Array renaming getElem?_eq_some_iff -> ah
open Go renaming Value -> aj,World -> ak,undef -> aw,bodyPost_ret -> bj,Calls -> bm,Addr -> cX,wp_seq -> dR
open Go.Addr renaming add -> jP
open Go.Ending renaming returned -> aY
open Go.IntKind renaming i64 -> af,wrap_i64 -> bg
open Go.Lib renaming hid -> ai,compact -> vG
open Go.Obj renaming cells -> au
open Go.Operand renaming tmp -> aL
open Go.Proofs.Tryz renaming prog -> aq,underlying25 -> ek,underlying3 -> ep
open Go.RowKit.Below renaming refl -> aB,heap_alloc -> aZ,heap_setCell -> bu
open Go.Value renaming int -> aD,bool -> aI,agg -> aR,slice -> ae,int -> ag,oneCell' -> cD,tuple -> cH,bool -> nU
open Go.World renaming alloc_heap_new -> az,ownsRow_nil -> dG
open List renaming take_length -> Hz,range -> aS,all_eq_true -> aX,take_succ_eq_append_getElem -> bO,getElem_mem -> bQ,mem_cons_of_mem -> bT,mem_range -> bV,length_pos_iff -> cN,mem_cons -> cj,mem_map -> dn,map_append -> eF,getElem?_eq_getElem -> eQ,length_map -> fC,length_cons -> fh,getD_cons_zero -> gH,getD_cons_succ -> gI,length_mergeSort -> lZ,mem_flatMap -> lg,map -> nh,countP_le_length -> yj
open List.range renaming loop -> cA
open Nat renaming le_trans -> aF,le_refl -> aO,reduceEqDiff -> bz,zero_add -> dh,zero_le -> gD
open Option.some renaming inj -> bp
open Or renaming inl -> cJ
namespace Go.Proofs.YtffladgmkiimjaaGreatDoor
open Go.RowKit Go.Lag Go.Maps
def wfI{n:Int}(h0 : -9223372036854775808<=n)(h1:n<=9223372036854775807):(Lit.int .i64 n).wf=true:=by
 simp[Lit.wf,IntKind.min,IntKind.max,IntKind.signed,IntKind.bits];omega
def cnt(i:Nat)(l:List dS)(n:Int):Nat:=l.countP fun a=>a.get i==n
def qF(i:Nat)(all:List dS):Nat->Nat
 |0=>0
 |j+1=>max (qF i all j) (cnt i (all.take (j+1)) ((all.getD j ⟨0,0,0,0⟩).get i))
def r_(all:List dS):Nat->Int × Nat
 |0=>(-1,all.length)
 |i+1=>if qF i all all.length<(r_ all i).2 then((i:Int),qF i all all.length) else r_ all i
def Bg:Keyed aq 3:=int_keyed ep
def DM(w:ak):(zeroValue 3).run aq w=.ok (.int .i64 0) w:=kQ
def zl(D:DataW Unit)(i:Nat)(l:List dS):Prop:=IsMap D/\∀n:Int,D.atKey (.int .i64 n) (.lit (.int .i64 0))=.lit (.int .i64 (cnt i l n))
def zl.nil(i:Nat):zl (.map []) i []:=⟨⟨_,rfl⟩,fun n=>rfl⟩
def zl.put{D:DataW Unit}{i:Nat}{l:List dS}(h:zl D i l)(a:dS):zl (D.put (.int .i64 (a.get i)) (.lit (.int .i64 ((cnt i l (a.get i):Int)+1)))) i (l++[a]):=by
 refine⟨h.1.put _ _,fun n=>?_⟩
 by_cases hn:a.get i=n
 .subst hn;rw[atKey_put_same h.1 (by trivial)];simp[cnt,List.countP_append]
 rw[atKey_put_other (by simpa using fun e=>hn e.symm),h.2 n];simp[cnt,List.countP_append,hn]
def K6(i:Nat)(all:List dS):∀j,j<=all.length->qF i all j<=j
 |0,_=>aO _
 |j+1,h=>by
  have h1:=K6 i all j oM;have h2:cnt i (all.take (j+1)) ((all.getD j ⟨0,0,0,0⟩).get i)<=(all.take (j+1)).length:=yj;simp only[List.length_take] at h2;unfold qF;omega
def Nr(all:List dS):∀i,(r_ all i).2<=all.length
 |0=>aO _
 |i+1=>by
  have:=Nr all i;unfold r_;split<;>simp<;>omega
def ac6(b:BB)(bq aM aC:aj)(ml:List Mn)(ss:List Int)(ms:List Mk)(w:ak)(hL:Laid w)(hB:cQ b bq aM aC ml ss ms w)(hne:bf b ml ss ms≠[]) :
  bm aq 53 #[.agg (b.cells bq aM aC)] w (Rt w (.tuple #[.int .i64 (r_ (bf b ml ss ms) ml.length).1,.int .i64 (r_ (bf b ml ss ms) ml.length).2,.int .i64 0])):=by
 have hlen:=iR ss ms hB.ok hB.gS;have jX:0<(bf b ml ss ms).length:=cN.2 hne;have hok:=hB.ok;have hao:=oz (ss:=ss) (ms:=ms) hB.ok hB.gS;have Va:=hB.gS.len;obtain⟨pm,cm,rfl,_⟩:=aT hB.rm;obtain⟨pn,cn,rfl,_⟩:=aT hB.rs;obtain⟨pk,ck,rfl,_⟩:=aT hB.rk;have b1:Bw w (w.alloc (.cells (b.sl pm ml.length cm pn ss.length cn pk ms.length ck) 28)):=dx;have HX:=ai (az w (.cells (b.sl pm ml.length cm pn ss.length cn pk ms.length ck) 28));have HO:=ai (uv b _ _ _ ml ss ms _ (hL.below b1) (hB.below b1) hne (fun W' _=>vX b _ _ _ W'));have wO:=ai b1;have Tr:=ai hao;clear hL hB hne hao b1;generalize bf b ml ss ms=all at *;generalize ml.length=lm at *;generalize ss.length=ln at *;generalize ms.length=lk at *;have hmm:=@run_makeMap aq
 go_enter Tryz.func53,Tryz.ntmps53
 go_wp2_with (first
  |(refine wpList_load_row rfl 28 _ rfl _ rfl 28 _ (0,0) _ HX.out Tryz.underlying28 rfl kQ ?_)
  |(refine wpList_store_row rfl 122 _ _ rfl _ _ rfl rfl 122 _ Zn.out kQ rfl (by simp[cD]) ?_)
  |(go_at_call 103;refine HO.out.mono ?_;clear HO;rintro e w1 ⟨v,rfl,jc,hb1⟩
    obtain⟨gv,cv,rfl⟩:∃gv cv,v=.slice (some ⟨gv,0,none⟩) all.length cv:=by
     rcases jc.1.2 with⟨_,h0⟩|⟨g,cap,cur,rfl,_⟩
     .omega
     exact⟨g,cap,rfl⟩
    have NC:=ai jc;have nS:=ai hb1;have Zn:=ai (az w1 (.cells iE 122))
    clear jc hb1))
 have hk2:((w1.alloc (.cells iE 122)).setRow w1.heap.size (b.open (.slice pm lm cm) (.slice pn ln cn) (.slice pk lk ck) (.slice (some ⟨gv,0,none⟩) all.length cv))).heap[w1.heap.size]?=some (.cells (b.open (.slice pm lm cm) (.slice pn ln cn) (.slice pk lk ck) (.slice (some ⟨gv,0,none⟩) all.length cv)) 122 (0,0)):=dg Zn.out
 have sG:Bw w ((w1.alloc (.cells iE 122)).setRow w1.heap.size (b.open (.slice pm lm cm) (.slice pn ln cn) (.slice pk lk ck) (.slice (some ⟨gv,0,none⟩) all.length cv))):=by
  have h1:=wO.out.trans (nS.out.mono wO.out.size);exact dA (h1.alloc h1.size _) h1.size
 have CY:=(NC.out.1.lt gv rfl).2
 have abe:=NC.out.at_ (W':=((w1.alloc (.cells iE 122)).setRow w1.heap.size (b.open (.slice pm lm cm) (.slice pn ln cn) (.slice pk lk ck) (.slice (some ⟨gv,0,none⟩) all.length cv)))) fun g hg=>by
  have:g=gv:=by simpa [Value.ownBlock] using hg.symm
  subst this;exact(setRow_other oM).trans (aZ _ _ _ CY)
 have jY:w.heap.size<w1.heap.size:=by have:=nS.out.size;simp at this;omega
 have hx2:((w1.alloc (.cells iE 122)).setRow w1.heap.size (b.open (.slice pm lm cm) (.slice pn ln cn) (.slice pk lk ck) (.slice (some ⟨gv,0,none⟩) all.length cv))).heap[w.heap.size]?=some (.cells (b.sl pm lm cm pn ln cn pk lk ck) 28 (0,0)):=by
  refine(setRow_other oM).trans ((aZ _ _ _ oM).trans ((nS.out.block _ ?_).trans HX.out));simp
 have CW:=abe.reads oM;generalize hWe:((w1.alloc (.cells iE 122)).setRow w1.heap.size (b.open (.slice pm lm cm) (.slice pn ln cn) (.slice pk lk ck) (.slice (some ⟨gv,0,none⟩) all.length cv)))=W2 at *;generalize w1.heap.size=k at *
 have HC:Hid (∀j u,(rowOf all)[j]?=some u->W2.cell? ⟨gv,0+j,none⟩=some u):=ai (by
  rcases CW with⟨h0,_⟩|⟨g,off,cap,h0,_,_,h1⟩
  .cases h0
  cases h0;exact h1)
 have ai6:=(abe.1.lt gv rfl).2;have y1:=aK hk2 15 _ rfl;have f1:=cZ hk2 15;have Hu:=ai hk2;have HX2:=ai hx2;have QX:=ai sG;have HWe:=ai hWe;clear hWe CW abe NC wO nS HX Zn sG CY hk2 hx2
 have Ht:Hid (∀w9,Bw W2 w9->w9.cell? ⟨k,15,none⟩=some (.slice (some ⟨gv,0,none⟩) all.length cv)/\w9.heap[k]?=some (.cells (b.open (.slice pm lm cm) (.slice pn ln cn) (.slice pk lk ck) (.slice (some ⟨gv,0,none⟩) all.length cv)) 122 (0,0))/\w9.heap[w.heap.size]?=some (.cells (b.sl pm lm cm pn ln cn pk lk ck) 28 (0,0))):=ai fun w9 O5=>by
  have h1:=(O5.block _ (ah.1 Hu.out).1).trans Hu.out;exact⟨aK h1 15 _ rfl,h1,(O5.block _ (ah.1 HX2.out).1).trans HX2.out⟩
 refine cy kQ [
 pV (pv k 15),
  pV (.slice (some ⟨gv,0,none⟩) all.length cv),
  pV (.int .i64 all.length),
  pV (.int .i64 (-1)),
  pV (.int .i64 all.length)]
  (fun w9=>Bw W2 w9) [(1,pv w.heap.size 0),(5,pv k 0)] kQ ?rst (fun w1 w2 h hb=>h.trans (hb.mono h.size)) (by have:=HWe.out;subst this;exact(aB _ _).drew) ⟨rfl,rfl,trivial⟩ ?reach ?rfin
 case rst=>
  refine⟨sV,sV,sV,sV,sV,trivial⟩
 case reach=>
  refine⟨?_,?_,?_,?_,?_,trivial⟩<;>rintro ev w1 hS hc hg hf ⟨b1,b5,-⟩ hd
  .exact tV
  .have d0:ev (.tmp 19)=_:=hd.1 rfl;obtain y1:=(Ht.out w1 hS).1;exact tV
  .have d1:ev (.tmp 20)=_:=hd.1 rfl;exact tV
  .exact tV
  have d2:ev (.tmp 21)=_:=hd.1 rfl;exact tV
 case rfin=>
  intro a2 w2 hR;have hS:=hR.s;have e3:a2.tmps.getD 2 aw=_:=hR.val 3;have e4:a2.tmps.getD 3 aw=_:=hR.val 4;have k1:a2.tmps.getD 1 aw=pv w.heap.size 0:=hR.kept kQ;have k4:a2.tmps.getD 4 aw=.int .i64 0:=hR.kept kQ;have k5:a2.tmps.getD 5 aw=pv k 0:=hR.kept kQ;have ha:=hR.lits 60 rfl;simp only[aS,cA,nh] at ha;clear hR;rw[e3,e4,k1,k4,k5] at ha;generalize a2.tmps.getD=zz at ha;have nS:=ai hS;clear e3 e4 k1 k4 k5 hS y1 f1;subst ha;obtain⟨y1,hk2,hx2⟩:=Ht.out w2 nS.out;have f1:=cZ hk2 15;obtain⟨x0,x1,x2,x3,x4,x5,x6,x7,x8,x9,qD,qC,rH,rz,rB⟩:=cg hx2;have fx:=cZ hx2 12;clear hk2 hx2;generalize hL:all.length=L at *;have HL:=ai hL;clear hL x0 x1 x2 x3 x4 x5 x6 x7 x8 x9 qD qC rz rB;go_wp2
  go_loopw [2,3,6,7,8,10,25] (fun mn lf _ _ _ _ i wr=>∃m:Nat,m<=lm/\i=.int .i64 m/\mn=.int .i64 (r_ all m).1/\lf=.int .i64 (r_ all m).2/\Bw w2 wr) (fun _ _ _ _ _ _ i _=>lm-(intOf i).toNat)
  case atStart=>exact⟨0,oM,rfl,rfl,by simp[r_,HL.out],aB _ _⟩
  case round=>
   obtain⟨m,hm,rfl,rfl,rfl,eh⟩:=hrel;rename ak=>wo;have hsz:=eh.size
   by_cases hlt:m<lm
   .have Jd:=(eh.cell (p:=⟨k,15,none⟩) (ah.1 (Ht.out w2 nS.out).2.1).1).trans y1;have yh:=ai eh
    have hkb:k<wo.heap.size:=by
     have:=(ah.1 (Ht.out w2 nS.out).2.1).1;omega
    have hgb:gv<wo.heap.size:=by have:=nS.out.size;omega
    have fz:(wo.alloc (.map #[] 0)).frozen? ⟨k,15,none⟩=false:=by
     have:=(Ht.out wo (nS.out.trans (eh.mono nS.out.size))).2.1;exact cZ ((aZ _ _ _ hkb).trans this) 15
    have HCr:Hid (∀W,Below (wo.heap.size) wo W->∀i u,(rowOf all)[i]?=some u->W.cell? ⟨gv,0+i,none⟩=some u):=ai fun W hW i u hi=>by
     have:=HC.out i u hi;have h2:=(nS.out.trans ((eh.mono nS.out.size).trans (hW.mono (by have:=nS.out.size;omega)))).cell (p:=⟨gv,0+i,none⟩) ai6;exact h2.trans this
    have HAs:Hid (r_ all (m+1)=if qF m all all.length<(r_ all m).2 then((m:Int),qF m all all.length) else r_ all m):=ai rfl;have hal:=Nr all m;generalize r_ all m=am at *;obtain⟨am,al⟩:=am;simp only[] at hal;clear eh;go_wp2
    go_loopw [8,10,32] (fun wst _ i wq=>∃j:Nat,j<=L/\i=.int .i64 j/\wst=.int .i64 (qF m all j)/\(∃D,zl D m (all.take j)/\wq.ownsMap aq 3 (plainElem (H:=Unit) aq 3) wo.heap.size j D)/\Bw wo wq) (fun _ _ i _=>L-(intOf i).toNat)
    case atStart=>exact⟨0,oM,rfl,rfl,⟨_,zl.nil _,World.ownsMap_made _ _ _ _⟩,dx⟩
    case round=>
     obtain⟨j,hj,rfl,rfl,⟨D,hD,hown⟩,zn⟩:=hrel
     by_cases NI:j<L
     .have J9:j<all.length:=by rw[HL.out];exact NI
      have hqs:=zn.size;have hql:=hown.lt;have hbq:=nS.out.size;obtain⟨c0,c1,c2,c3⟩:=Reads.cell (w:=wr) (cap:=cv) (n:=L) (fun i u hi=>HCr.out wr zn i u hi) j J9;simp only[dh] at c0 c1 c2 c3;have hw1:qF m all (j+1)=max (qF m all j) (cnt m (all.take (j+1)) ((all.getD j ⟨0,0,0,0⟩).get m)):=rfl;have hwl:=K6 m all j oM;have hgd:all.getD j ⟨0,0,0,0⟩=all[j]:=by simp[List.getD,eQ J9]
      have sY:all.take (j+1)=all.take j++[all[j]]:=List.take_append_getElem J9 |>.symm
      have hcl:cnt m (all.take j) (all[j].get m)<=(all.take j).length:=yj
      have Z5:cnt m (all.take (j+1)) (all[j].get m)=cnt m (all.take j) (all[j].get m)+1:=by
       show List.countP _ (all.take (j+1))=_;rw[sY,List.countP_append,List.countP_singleton];simp[cnt]
      have hDp:=hD.put all[j];rw[<-sY] at hDp;have hDk:=hD.2 (all[j].get m);simp only[List.length_take] at hcl
      have hgo:0<=all[j].get m/\all[j].get m<=99:=by
       have:=Tr.out _ (bQ J9);unfold dS.get;split
       .exact this.m0
       .exact this.m1
       exact this.m2
      rw[hgd,Z5] at hw1;have HCn:=ai Z5;have Vm:=az wr (.cells all[j].cells 134)
      have hx:(wr.alloc (.cells all[j].cells 134)).cell? ⟨wr.heap.size,1+m,none⟩=some (.int .i64 (all[j].get m)):=by
       have h3:m<3:=oM
       match m,h3 with
       |0,_=>exact aK Vm 1 _ rfl
       |1,_=>exact aK Vm 2 _ rfl
       |2,_=>exact aK Vm 3 _ rfl
      have hoa:=hown.alloc (.cells all[j].cells 134);have HBa:=ai Vm;have Tq:=ai zn;have HDp:=ai hDp;have HDk:=ai hDk;have HW1:=ai hw1;clear hD hown sY hgd Z5 Vm zn hDp hDk;generalize all[j]=a at *;generalize hcc:cnt m (all.take j) (a.get m)=cc at *;generalize hww:qF m all j=ww at *;have hkey:keyOf aq 3 (.int .i64 (a.get m))=some (.int .i64 (a.get m)):=keyOf_int_mk ep (wfI oM oM);have zz:IntKind.i64.wrap ((cc:Int)+1)=(cc:Int)+1:=by rw[bg];omega
      have HNe:Hid (wr.heap.size≠wo.heap.size):=ai oM;rcases Int.lt_or_le (ww:Int) ((cc:Int)+1) with q1|q1
      .go_wp2_with (first
        |(at_lookup;refine wpList_lookup_own_int _ rfl _ _ 146 rfl 3 3 .i64 Bg Tryz.underlying146 ep (DM _) wo.heap.size j _ rfl hoa _ _ rfl hkey ?_;intro c hat hwc
          obtain rfl:c=(cc:Int):=by rw[HDk.out] at hat;simpa using hat.symm)
        |(at_lookup;refine wpList_lookup_own_int _ rfl _ _ 146 rfl 3 3 .i64 Bg Tryz.underlying146 ep (DM _) wo.heap.size (j+1) _ rfl hown1 _ _ rfl hkey ?_;intro c hat hwc
          obtain rfl:c=(cc:Int)+1:=by have:=HDp.out.2 (a.get m);rw[HCn.out] at this;rw[this] at hat;simpa using hat.symm)
        |(at_mapUpdate;refine wpList_mapUpdate_own _ rfl _ _ _ 146 rfl 3 3 Bg Tryz.underlying146 _ wo.heap.size j _ rfl hoa (by unfold maxLen;omega) _ _ _ rfl rfl hkey _ [] (plainElem_int ep (wfI oM oM)) ?_;intro w1 hown1 Fl
          have hx1:=(Fl.cell hx (by simpa using HNe.out))
          clear hx)
        |go_in)
       go_roundw
       case rel=>
        refine⟨j+1,oM,sM,?_,⟨_,HDp.out,hown1⟩,(Tq.out.alloc oM _).grown Fl sO (fun k hk=>by cases hk;exact aO _)⟩;exact congrArg (aD .i64) (by have:=HW1.out;omega)
       case measure=>simp[intOf];omega
      go_wp2_with (first
       |(at_lookup;refine wpList_lookup_own_int _ rfl _ _ 146 rfl 3 3 .i64 Bg Tryz.underlying146 ep (DM _) wo.heap.size j _ rfl hoa _ _ rfl hkey ?_;intro c hat hwc
         obtain rfl:c=(cc:Int):=by rw[HDk.out] at hat;simpa using hat.symm)
       |(at_lookup;refine wpList_lookup_own_int _ rfl _ _ 146 rfl 3 3 .i64 Bg Tryz.underlying146 ep (DM _) wo.heap.size (j+1) _ rfl hown1 _ _ rfl hkey ?_;intro c hat hwc
         obtain rfl:c=(cc:Int)+1:=by have:=HDp.out.2 (a.get m);rw[HCn.out] at this;rw[this] at hat;simpa using hat.symm)
       |(at_mapUpdate;refine wpList_mapUpdate_own _ rfl _ _ _ 146 rfl 3 3 Bg Tryz.underlying146 _ wo.heap.size j _ rfl hoa (by unfold maxLen;omega) _ _ _ rfl rfl hkey _ [] (plainElem_int ep (wfI oM oM)) ?_;intro w1 hown1 Fl
         have hx1:=(Fl.cell hx (by simpa using HNe.out))
         clear hx)
       |go_in)
      go_roundw
      case rel=>
       refine⟨j+1,oM,sM,?_,⟨_,HDp.out,hown1⟩,(Tq.out.alloc oM _).grown Fl sO (fun k hk=>by cases hk;exact aO _)⟩;exact congrArg (aD .i64) (by have:=HW1.out;omega)
      case measure=>simp[intOf];omega
     obtain rfl:j=L:=oM;have Tq:=ai zn;have HHm:=hmm;rw[HL.out] at HAs;clear hown zn hD;generalize qF m all j=ww at *
     by_cases h9:(ww:Int)<al
     .go_wp2;go_roundw
      case rel=>
       refine⟨m+1,oM,sM,?_,?_,yh.out.trans (Tq.out.mono hsz)⟩
       .rw[HAs.out,if_pos oM]
       rw[HAs.out,if_pos oM]
      case measure=>simp[intOf];omega
     go_wp2;go_roundw
     case rel=>
      refine⟨m+1,oM,sM,?_,?_,yh.out.trans (Tq.out.mono hsz)⟩
      .rw[HAs.out,if_neg oM]
      rw[HAs.out,if_neg oM]
     case measure=>simp[intOf];omega
   obtain rfl:m=lm:=oM;have yh:=ai eh;clear eh;go_wp2
   go_ret3
   exact⟨rfl,QX.out.trans ((nS.out.trans (yh.out.mono nS.out.size)).mono QX.out.size)⟩
def Ef{d:Array Int}:∀(m:Nat),m<=d.size->∀j (hj:j<m),d[j]!∈Lib.compactUpTo d m
 |0,_,j,hj=>by omega
 |m+1,h,j,hj=>by
  rw[Lib.compactUpTo_succ]
  by_cases e:j<m
  .exact List.mem_append_left _ (Ef m oM j e)
  obtain rfl:j=m:=oM
  by_cases k:Lib.keeps d j=true
  .simp[k]
  have hj0:0<j:=by
   rcases Nat.eq_zero_or_pos j with rfl|h0
   .exact absurd (Lib.keeps_lt_one d 0 oM) k
   exact h0
  have e2:(d[j]!)=d[j-1]!:=by
   by_cases e3:(d[j]!)=d[j-1]!
   .exact e3
   exact absurd (Lib.keeps_pos e3) k
  rw[e2];exact List.mem_append_left _ (Ef j oM (j-1) oM)
def Ee{d:Array Int}:∀(m:Nat) x,x∈Lib.compactUpTo d m->∃j,j<m/\x=d[j]!
 |0,x,h=>by simp[Lib.compactUpTo] at h
 |m+1,x,h=>by
  rw[Lib.compactUpTo_succ] at h;rcases List.mem_append.1 h with h|h
  .obtain⟨j,h1,h2⟩:=Ee m x h;exact⟨j,oM,h2⟩
  by_cases k:Lib.keeps d m=true
  .rw[if_pos k] at h;exact⟨m,oM,by simpa using h⟩
  rw[if_neg k] at h;cases h
def Lh{d:Array Int}(hd:∀i j,i<=j->j<d.size->d[i]!<=d[j]!):∀(m:Nat),m<=d.size->(Lib.compactUpTo d m).Pairwise (· < ·)
 |0,_=>by simp[Lib.compactUpTo]
 |m+1,h=>by
  rw[Lib.compactUpTo_succ];refine List.pairwise_append.2 ⟨Lh hd m oM,by split<;>simp,fun x hx y hy=>?_⟩
  by_cases k:Lib.keeps d m=true
  .rw[if_pos k] at hy;obtain rfl:y=d[m]!:=by simpa using hy
   obtain⟨j,hj,rfl⟩:=Ee m x hx;have h1:=hd j (m-1) oM oM;have h2:=hd (m-1) m oM oM;have h3:d[m]!≠d[m-1]!:=fun e=>by rw[Lib.keeps_neg oM e] at k;cases k
   omega
  rw[if_neg k] at hy;cases hy
def zP{of:dS->Int}{l:List dS}{x:Int}:x∈dT of l↔∃a∈l,of a=x:=by
 unfold dT vG;have hp:(sorted (l.map of)).Perm (l.map of):=List.mergeSort_perm _ _;constructor
 .intro h;obtain⟨j,hj,rfl⟩:=Ee _ _ h
  have:(sorted (l.map of)).toArray[j]!∈sorted (l.map of):=by
   rw[getElem!_pos _ _ (by simpa using hj)];simp
  obtain⟨a,h1,h2⟩:=dn.1 (hp.mem_iff.1 this);exact⟨a,h1,h2⟩
 rintro⟨a,h1,rfl⟩;have h2:of a∈sorted (l.map of):=hp.mem_iff.2 (dn.2 ⟨a,h1,rfl⟩);obtain⟨j,hj,e⟩:=List.getElem_of_mem h2;have:=Ef (d:=(sorted (l.map of)).toArray) _ sM j hj;rwa [getElem!_pos _ _ (by simpa using hj),List.getElem_toArray,e] at this
def LW(of:dS->Int)(l:List dS):(dT of l).Pairwise (· < ·):=by
 unfold dT vG;refine Lh (fun i j Vd hj=>?_) _ sM;have hs:(sorted (l.map of)).Pairwise (fun x y=>decide (x<=y)=true):=List.pairwise_mergeSort (fun a b c h1 h2=>by simp at *;omega) (fun a b=>by simp;omega) _;rw[getElem!_pos (sorted (l.map of)).toArray i oM,getElem!_pos (sorted (l.map of)).toArray j hj];rcases Nat.lt_or_ge i j with h|h
 .have:=List.pairwise_iff_getElem.1 hs i j (by simp at hj;omega) (by simpa using hj) h;simpa using this
 obtain rfl:i=j:=oM;omega
def QL:∀(l:List Int) (lo hi:Int),l.Pairwise (· < ·)->(∀x∈l,lo<=x/\x<=hi)->l.length<=(hi+1-lo).toNat
 |[],_,_,_,_=>gD _
 |x::l,lo,hi,h,hm=>by
  rw[List.pairwise_cons] at h;have h1:=QL l (x+1) hi h.2 fun y hy=>⟨by have:=h.1 y hy;omega,(hm y (bT _ hy)).2⟩
  have h2:=hm x sM;simp only[fh];omega
def wY{lo hi x:Int}:x∈gu lo hi↔lo<=x/\x<=hi:=by
 unfold gu;simp only[dn,bV];constructor
 .rintro⟨i,h1,rfl⟩;omega
 rintro⟨h1,h2⟩;exact⟨(x-lo).toNat,oM,oM⟩
def dS.get_put(a:dS)(i:Nat)(n:Int)(h:i<3):(a.put i n).get i=n:=by
 match i,h with
 |0,_=>rfl
 |1,_=>rfl
 |2,_=>rfl
def dS.O_(a:dS)(i j:Nat)(n:Int)(hi:i<3)(hj:j<3)(h:i≠j):(a.put j n).get i=a.get i:=by
 match i,j,hi,hj,h with
 |0,1,_,_,_|0,2,_,_,_|1,0,_,_,_|1,2,_,_,_|2,0,_,_,_|2,1,_,_,_=>rfl
 |0,0,_,_,h|1,1,_,_,h|2,2,_,_,h=>exact absurd rfl h
def E9(ok:dS->Bool):∀(r:List Mn) (k:Nat) (a:dS) (i:Nat),i<k->k+r.length<=3->i<3->∀c∈leaves ok r k a,c.get i=a.get i
 |[],k,a,i,_,_,_,c,h=>by
  simp only[leaves] at h;split at h
  .simp at h;rw[h]
  cases h
 |m::r,k,a,i,hik,h3,hi,c,h=>by
  simp only[leaves,lg] at h;obtain⟨n,hn,h⟩:=h;simp only[fh] at h3;rw[E9 ok r (k+1) _ i oM oM hi c h,dS.O_ a i k n hi oM oM]
def Pu(b:BB){ml:List Mn}(hm:yf ml)(ss:List Int)(ms:List Mk)(i:Nat)(hi:i<ml.length){a:dS}(ha:a∈bf b ml ss ms):ml[i].lo<=a.get i/\a.get i<=ml[i].hi:=by
 have h3:=hm.len
 have main:∀(l:List Mn) (k i:Nat) (a0:dS) (hi:i<l.length),k+l.length<=3->∀c∈leaves (jA b ss ms) l k a0,l[i].lo<=c.get (k+i)/\c.get (k+i)<=l[i].hi:=by
  intro l
  induction l with
  |nil=>intro k i a0 hi;simp at hi
  |cons m r ih=>
   intro k i a0 hi hk c hc;simp only[fh] at hi hk;simp only[leaves,lg] at hc;obtain⟨n,hn,hc⟩:=hc
   match i,hi with
   |0,_=>
    have h1:=E9 _ r (k+1) _ k oM oM oM c hc;rw[dS.get_put a0 k n oM] at h1;rw[Nat.add_zero,h1];exact wY.1 hn
   |i+1,hi=>
    have:=ih (k+1) i _ oM oM c hc;rw[show k+(i+1)=k+1+i by omega];exact this
 unfold bf at ha;obtain⟨n,_,h⟩:=lg.1 ha;have:=main ml 0 i _ hi oM a h;rwa [dh] at this
structure anS(all:List dS)(k:Nat)(kr:Int)(left:Nat):Prop where
 le:left<=all.length
 none:kr<0->kr = -1/\left=all.length
 some:0<=kr->kr<k/\left<all.length/\qF kr.toNat all all.length=left/\∀j:Nat,(j:Int)<kr->left<qF j all all.length
 all:∀j,j<k->left<=qF j all all.length
def oK(lo hi:Int)(k:Nat):Int:=lo+((k % (hi-lo+1).toNat:Nat):Int)
def m6{lo hi:Int}(h:lo<=hi)(k:Nat):lo<=oK lo hi k/\oK lo hi k<=hi:=by
 unfold oK;have h1:k % (hi-lo+1).toNat<(hi-lo+1).toNat:=Nat.mod_lt _ oM;omega
def kP(b:BB)(pk:Nat->Nat):Int:=oK b.ll b.lm (pk 0)
def eT(pk:Nat->Nat):List Mn->Nat->List Int
 |[],_=>[]
 |m::r,i=>oK m.lo m.hi (pk (1+i))::eT pk r (i+1)
def vU(pk:Nat->Nat):∀(l:List Mn) (i:Nat),(eT pk l i).length=l.length
 |[],_=>rfl
 |m::r,i=>by simp[eT,vU pk r (i+1)]
def zF(pk:Nat->Nat):∀(l:List Mn) (i k:Nat) (hk:k<l.length),eT pk (l.take (k+1)) i=eT pk (l.take k) i++[oK l[k].lo l[k].hi (pk (1+(i+k)))]
 |[],_,k,hk=>by simp at hk
 |m::r,i,0,_=>by simp[eT]
 |m::r,i,k+1,hk=>by
  have h:=zF pk r (i+1) k (by simpa using hk);rw[List.take_succ_cons,List.take_succ_cons];simp only[eT,List.cons_append,h,List.getElem_cons_succ];rw[show i+1+k=i+(k+1) by omega]
def ED(pk:Nat->Nat):∀(l:List Mn) (i:Nat),(∀m∈l,1<=m.lo/\m.lo<=m.hi/\m.hi<=99)->∀x∈eT pk l i,0<=x/\x<=99
 |[],_,_,x,hx=>by simp[eT] at hx
 |m::r,i,h,x,hx=>by
  simp only[eT,cj] at hx;rcases hx with rfl|hx
  .have h1:=h m sM;have h2:=m6 h1.2.1 (pk (1+i));omega
  exact ED pk r (i+1) (fun m hm=>h m (bT _ hm)) x hx
def CG{b:BB}(hb:b.Ok)(pk:Nat->Nat):0<=kP b pk/\kP b pk<=99:=by
 have h1:=hb.leak;have h2:=m6 h1.2.1 (pk 0);unfold kP;omega
def LH(a n:Nat)(hn:0<n)(w:ak):(Go.binOp .rem 3 (ag af (a:Int)) (ag af (n:Int))).run aq w=.ok (ag af ((a % n:Nat):Int)) w:=by
 have h1:¬((n:Int)=0):=oM;have h2:(a:Int).tmod (n:Int)=((a % n:Nat):Int):=by rw[Int.tmod_eq_emod_of_nonneg oM];rfl
 rw[<-h2];go_simp;omega
def FA{o:Oper}{ev:Operand->aj}{w:ak}{x y:Operand}{a n:Nat}(ho:o.op=.binOp .rem 3 x y 3)(hx:ev x=ag af (a:Int))(hy:ev y=ag af (n:Int))(hn:0<n){r:Nat}(hr:a % n=r):(execOp ev o).run aq w=.ok (.value (ag af (r:Int))) w:=by
 have h:=LH a n hn w;rw[hr] at h;unfold execOp;simp only[ho,hx,hy,Sem.run_bind,eqGuard,Bool.not_false,if_true,Sem.run_pure,h,Result.andThen_ok]
def tJ{W:ak}{b1 b2:Nat}{e:TypeId}{s n:Nat}{v:aj}{xs:List aj}(h:W.ownsRow b1 e s v n xs)(hb:b2<=b1):W.ownsRow b2 e s v n xs:=by
 obtain⟨hl,h|⟨G,cap,cur,h1,hG,h2⟩⟩:=h
 .exact⟨hl,cJ h⟩
 exact⟨hl,.inr ⟨G,cap,cur,h1,aF hb hG,h2⟩⟩
def QI{P:Program}{aP:Array Oper}{Q:Exit->Act->ak->Prop}{n:Nat}{id:Nat}{a0:Act}{w:ak}(hm:P.follows .mixedOrders=true)(Vs:List Pred)(S:Ph.Ls->ak->Prop)(base:List (Tmp × aj))(hok:ja aP n base=true)(hn:a0.tmps.size=n)(Bq:Ph.jo S Vs)
  (IQ:∀(L L':Ph.Ls) w w',(∀t,L' t=false->L t=false)->S L w->Bw w w'->S L' w') (hS:S (fun _=>false) w.drew) (hbase:gh a0.eval base) (hE:Ph.Each (Lag.Yields P) aP Vs S base [] 0 aP.toList) (hQ:∀a w,Ph.jh aP Vs S a0 (Array.replicate aP.size true) a w->Q .normal a w):(Code.region id aP true).wp P Q a0 w:=
 Ph.cy hm Vs S base (by rw[hn];exact hok) Bq IQ hS hbase hE hQ
structure QO(B2 B4 B5 B7 E0 E n:Nat)(bk z4:Array aj)(lk lo hi:Int)(w0:ak)(mv:aj)(rows:List aj)(A C:Bool)(w:ak):Prop where
 k2:w.heap[B2]?=some (au bk 28 (0,0))
 k4:w.heap[B4]?=some (au z4 42 (0,0))
 k5:C=false->w.heap[B5]?=some (au #[ag af lk,mv] 42 (0,0))
 k7:w.heap[B7]?=some (au #[ag af lo,ag af hi] 23 (0,0))
 own:A=false->w.ownsRow E 3 1 mv n rows
 below:Below E0 w0 w
 sz:E0<=w.heap.size/\B5<w.heap.size/\E<=w.heap.size
section
variable{B2 B4 B5 B7 E0 E n:Nat}{bk z4:Array aj}{lk lo hi:Int}{w0 w1 w2:ak}{mv:aj}{rows:List aj}{A A' C C':Bool}
theorem QO.next(hA:A'=false->A=false)(hC:C'=false->C=false)(h:QO B2 B4 B5 B7 E0 E n bk z4 lk lo hi w0 mv rows A C w1)(hb:Bw w1 w2):QO B2 B4 B5 B7 E0 E n bk z4 lk lo hi w0 mv rows A' C' w2:=by
 have hs:=h.sz;have h9:=hb.size;exact⟨aA h.k2 hb,aA h.k4 hb,fun e=>aA (h.k5 (hC e)) hb,aA h.k7 hb,fun e=>bP (h.own (hA e)) hb,h.below.trans (hb.mono hs.1),oM⟩
theorem QO.grown{row:Option Nat}(hA:A'=true)(hC:C'=C)(h:QO B2 B4 B5 B7 E0 E n bk z4 lk lo hi w0 mv rows A C w1)(g:w1.grownBy w2 row)(hr:∀q,row=some q->E<=q/\q≠B7)(hE:B2<E/\B4<E/\B5<E/\E0<=E):QO B2 B4 B5 B7 E0 E n bk z4 lk lo hi w0 mv rows A' C' w2:=by
 subst hC;have hs:=h.sz;have hn:∀q,(q<E\/q=B7)->some q≠row:=fun q hq e=>by have:=hr q e.symm;omega
 have lt:∀ {B:Nat} {o:Obj},w1.heap[B]?=some o->B<w1.heap.size:=fun e=>(ah.1 e).1;exact⟨(g.block _ (lt h.k2) (hn _ oM)).trans h.k2,(g.block _ (lt h.k4) (hn _ oM)).trans h.k4,fun e=>(g.block _ hs.2.1 (hn _ oM)).trans (h.k5 e),(g.block _ (lt h.k7) (hn _ (.inr rfl))).trans h.k7,(fun e=>by rw[hA] at e;cases e),h.below.grown g hs.1 (fun q hq=>by have:=hr q hq;omega),by have:=g.size;omega⟩
theorem QO.put(h:QO B2 B4 B5 B7 E0 E n bk z4 lk lo hi w0 mv rows A C w1){cs:Array aj}(hB:w1.heap[B5]?=some (au cs 42 (0,0)))(hA:A'=A)(u:aj)(i:Nat)(hE:B2≠B5/\B4≠B5/\B7≠B5/\E0<=B5):QO B2 B4 B5 B7 E0 E n bk z4 lk lo hi w0 mv rows A' true (w1.setCell ⟨B5,i,none⟩ u):=by
 subst hA;have hn:∀q,q≠B5->(w1.setCell ⟨B5,i,none⟩ u).heap[q]?=w1.heap[q]?:=fun q hq=>bu _ _ _ _ hq;exact⟨(hn _ hE.1).trans h.k2,(hn _ hE.2.1).trans h.k4,(fun e=>by cases e),(hn _ hE.2.2.1).trans h.k7,fun e=>dm (h.own e) hB dC,h.below.setCell (p:=⟨B5,i,none⟩) hE.2.2.2 _,by simpa using h.sz⟩
theorem QO.drew(h:QO B2 B4 B5 B7 E0 E n bk z4 lk lo hi w0 mv rows A C w1):QO B2 B4 B5 B7 E0 E n bk z4 lk lo hi w0 mv rows A C w1.drew:=⟨h.k2,h.k4,h.k5,h.k7,fun e=>bP (h.own e) (aB _ _).drew,h.below.drew,h.sz⟩
end
def T8(b:BB)(hb:b.Ok)(p1 p2 p3 pq:Option cX)(c1 n2 c2 n3 c3 nq cq:Nat)(ml:List Mn)(hm:yf ml)(pk:Nat->Nat)(w:ak)(hv:Reads w (ae p1 ml.length c1) ml.length (fQ ml))(Gr:sg w pq nq cq pk):bm aq 30 #[aR (b.sl p1 ml.length c1 p2 n2 c2 p3 n3 c3),ae pq nq cq] w fun e w'=>∃v,e=aY (aR #[ag af (kP b pk),v])/\w'.ownsRow w.heap.size 3 1 v ml.length ((eT pk ml 0).map (aD af))/\Bw w w':=by
 obtain⟨i0,hi,hz0,hz1,hz2⟩:=info_parts info3;have hlk:=hb.leak;have KQ:=hm.len;obtain⟨n0,Yx⟩:∃n0:Nat,(n0:Int)=b.lm-b.ll+1:=⟨(b.lm-b.ll+1).toNat,oM⟩
 obtain⟨lk,ae6⟩:∃lk,kP b pk=lk:=⟨_,rfl⟩
 obtain⟨y0,Ml⟩:∃y0,pk 0 % n0=y0:=⟨_,rfl⟩
 have apc:b.ll+(y0:Int)=lk:=by rw[<-Ml];rw[<-ae6];unfold kP oK;rw[show(b.lm-b.ll+1).toNat=n0 by omega]
 have aiS:=CG hb pk;have hp0:=Gr.lt 0;rw[ae6] at aiS ⊢;have HP:∀k,∀w9,Bw w w9->_:=fun k w9 h9=>XS pq nq cq k pk w9 (Gr.below h9);have ZH:∀w9,Bw w w9->_:=fun w9 h9=>hv.below h9;clear hv;refine mP Tryz.func30 rfl rfl [(1,ae pq nq cq),(0,aR (b.sl p1 ml.length c1 p2 n2 c2 p3 n3 c3))] ⟨jg rfl,jg rfl,trivial⟩ fun a W hF hw=>?_;refine lT (N:=2) rfl ?_;refine kq ⟨[],[],[],[]⟩ (some 2) (fun B=>pv B 0) (b.sl p1 ml.length c1 p2 n2 c2 p3 n3 c3) 28 hF hF ?_;intro B2 W a G2 ho K2 hF;have acn:=aF hw.size G2;replace hw:=hw.tr ho;rename ak=>W2;have h2:=aB W2.heap.size W2;refine kq ⟨[],[],[],[]⟩ (some 4) (fun B=>pv B 0) (#[ag af 0,ae none 0 0]) 42 hF hF ?_;intro B4 W a G4 ho K4 hF;have Vz:=aF (hw.tr h2).size G4;have aj6:=aF h2.size G4;replace h2:=h2.tr ho;replace hw:=hw.tr h2;rename ak=>W4;have h4:=aB W4.heap.size W4;refine mC ?_;replace K2:=aA K2 (h2.tr h4);replace K4:=aA K4 h4;replace hw:=(hw.tr h4)
 try clear h2 h4
 rename ak=>W;have hwz:=hw.size;have j2:=(ah.1 K2).1;have j4:=(ah.1 K4).1
 refine M3 kQ [pV (pv B2 8),pV (pv B2 8),pV (ag af b.ll),pV (ae pq nq cq),pV (ag af (pk 0:Int)),pV (pv B2 8),pV (pv B2 9),pV (ag af b.lm),pV (pv B2 8),pV (pv B2 8),pV (ag af b.ll),pV (ag af (b.lm-b.ll)),pV (ag af (n0:Int)),pV (ag af (y0:Int)),pV (ag af lk),pV (aR #[ag af lk,ae none 0 0]),fun v ds w9=>∃B,∃z:Array aj,v=pv B 0/\w9.heap[B]?=some (au z 42 (0,0))/\z.size=2/\W.heap.size<=B,fun v ds w9=>∃B,ds[0]?=some (pv B 0)/\W.heap.size<=B/\w9.heap[B]?=some (au #[ag af lk,ae none 0 0] 42 (0,0))]
  _ kQ hF.size hF.base ?_ ?_ ?_
 .refine⟨sV,sV,sV,sV,sV,sV,sV,sV,sV,sV,sV,sV,sV,sV,sV,sV,?_,?_,trivial⟩
  .rintro v ds w1 w2 hS ⟨B,z,h1,h2,h3,h4⟩ hb;exact⟨B,z,h1,aA h2 hb,h3,h4⟩
  rintro v ds w1 w2 hS ⟨B,h1,h4,h2⟩ hb;exact⟨B,h1,h4,aA h2 hb⟩
 .refine⟨?_,?_,?_,?_,?_,?_,?_,?_,?_,?_,?_,?_,?_,?_,?_,?_,?_,?_,trivial⟩<;>rintro ev w1 hS hc hg hf ⟨-,b2,b1,-,-⟩ hd
  all_goals try
   try have d0:ev (aL _)=_:=hd.1 rfl
   refine yw rfl ?_ rfl;go_simp;done
  .have d1:ev (aL 9)=_:=hd.1 rfl;have z:=aK (aA K2 hS) 8 _ rfl;exact tV
  .have d3:ev (aL 11)=_:=hd.1 rfl;refine yc (HP 0 w1 (hw.tr hS)) ?_ (fun _=>rfl);go_simp
  .have d6:ev (aL 14)=_:=hd.1 rfl;have z:=aK (aA K2 hS) 9 _ rfl;exact tV
  .have d9:ev (aL 17)=_:=hd.1 rfl;have z:=aK (aA K2 hS) 8 _ rfl;exact tV
  .have d7:ev (aL 15)=_:=hd.1 rfl;have d10:ev (aL 18)=_:=hd.2.1 rfl;have hwr:IntKind.i64.wrap (b.lm-b.ll)=b.lm-b.ll:=by rw[bg];omega
   exact tV
  .have d11:ev (aL 19)=_:=hd.1 rfl;have hwr:IntKind.i64.wrap ((b.lm-b.ll)+1)=(n0:Int):=by rw[bg];omega
   exact tV
  .have d4:ev (aL 12)=_:=hd.1 rfl;have d12:ev (aL 20)=_:=hd.2.1 rfl;refine Gw (v:=(ag af (y0:Int):aj)) (w':=w1) ?_ ⟨rfl,cJ (aB _ _)⟩;exact FA rfl d4 d12 oM Ml
  .have d2:ev (aL 10)=_:=hd.1 rfl;have d13:ev (aL 21)=_:=hd.2.1 rfl;have hwr:IntKind.i64.wrap (b.ll+(y0:Int))=lk:=by rw[bg];omega
   have aih:IntKind.i64.wrap lk=lk:=by rw[bg];omega
   exact tV
  .refine Gw (v:=pv w1.heap.size 0) (w':=w1.alloc (au #[ag af 0,ae none 0 0] 42)) ?_ ⟨⟨_,_,rfl,az _ _,rfl,hS.size⟩,cJ dx⟩;go_simp
  .have d16:∃B,∃z:Array aj,(ev (aL 5))=pv B 0/\w1.heap[B]?=some (au z 42 (0,0))/\z.size=2/\W.heap.size<=B:=hd.1 rfl;have d15:ev (aL 23)=_:=hd.2.1 rfl;obtain⟨B,z,eB,hB,hz,hge⟩:=d16;refine Lag.Yields.nt 42 _ _ rfl B #[ag af lk,ae none 0 0] eB d15 42 z hB kQ hz (by simp[cD]) ⟨⟨B,congrArg some eB,hge,dg hB⟩,.inr ⟨dA hS hge,?_⟩⟩;intro j u ds hj hp
   match j,hp with
   |0,hp|1,hp|2,hp|3,hp|4,hp|5,hp|6,hp|7,hp|8,hp|9,hp|10,hp|11,hp|12,hp|13,hp|14,hp|15,hp=>exact hp
   |16,⟨B',z',h1,h2,h3,h4⟩=>
    by_cases qu:B'=B
    .subst qu;rw[hB] at h2;cases h2;exact⟨B',_,h1,dg hB,hz.symm.trans h3,h4⟩
    exact⟨B',z',h1,(setRow_other qu).trans h2,h3,h4⟩
   |17,_=>exact(hj rfl).elim
   |j+18,_=>trivial
 intro a W hR;have ho:=hR.s;obtain⟨B5,q5,G5,K5⟩:=hR.val 17;have e5:a.eval (aL 5)=pv B5 0:=bp q5;clear q5;replace hw:=hw.tr ho;replace K2:=aA K2 ho;replace K4:=aA K4 ho;replace hF:=(hR.fr hF kQ).cons (t:=5) e5;clear hR ho e5;have hw5:w.heap.size<=B5:=aF hwz G5;have h45:B2≠B5/\B4≠B5:=⟨oM,oM⟩
 rename ak=>WV;have hV:=aB WV.heap.size WV;refine dR ?_;refine fP [(6,ag af 0)] hF ?_;intro a W ho hF;replace hV:=hV.tr ho;refine wp_block ?_;replace hF:=hF.del 0;simp only[ju,fj,bz,reduceIte] at hF;replace K2:=aA K2 hV;replace K4:=aA K4 hV;replace K5:=aA K5 hV;replace hw:=(hw.tr hV)
 have g5:=(ah.1 K5).1;obtain⟨E,hE⟩:∃E,E=W.heap.size:=⟨_,rfl⟩
 have aij:w.heap.size<=B5:=by have:=hw5;omega
 have gE:B2<E/\B4<E/\B5<E/\w.heap.size<=E:=⟨by rw[hE];exact(ah.1 K2).1,by rw[hE];exact(ah.1 K4).1,oM,by rw[hE];exact hw.size⟩
 refine wp_loop (fun a W=>∃(k:Nat) (mv:aj),k<=ml.length/\gw 57 a [(6,ag af (k:Int)),(5,pv B5 0),(4,pv B4 0),(2,pv B2 0),(1,ae pq nq cq)]/\W.heap[B2]?=some (au (b.sl p1 ml.length c1 p2 n2 c2 p3 n3 c3) 28 (0,0))/\W.heap[B4]?=some (au #[ag af 0,ae none 0 0] 42 (0,0))/\W.heap[B5]?=some (au #[ag af lk,mv] 42 (0,0))/\W.ownsRow E 3 1 mv k ((eT pk (ml.take k) 0).map (aD af))/\Bw w W/\E<=W.heap.size) (fun a _=>ml.length-(intOf (a.eval (aL 6))).toNat) ⟨0,ae none 0 0,gD _,⟨hF.size,hF.defers,hF.base⟩,K2,K4,K5,dG _ _ _ _,hw,oM⟩ ?_;clear hF K2 K4 K5 hw g5 hE
 try clear a
 try clear W
 rintro a W ⟨k,mv,hk,hF,K2,K4,K5,hown,hw,uW⟩;have hk6:a.eval (aL 6)=ag af (k:Int):=(hF.g 0 rfl)
 obtain⟨pz,cz,rfl⟩:=dw hown;rename ak=>WQ;have hQ:=aB WQ.heap.size WQ;refine dR ?_;refine wF ⟨[],[],[(B2,(b.sl p1 ml.length c1 p2 n2 c2 p3 n3 c3))],[]⟩ [(28,aI (decide ((k:Int)<(ml.length:Int))))] hF hF ⟨fun w1 hS=>⟨_,_,aA K2 (hQ.tr hS)⟩,trivial⟩ trivial ?_;intro a W ho hF;replace hQ:=hQ.tr ho;refine wp_cond_split (t:=(decide ((k:Int)<(ml.length:Int)))) (hF.g 0 rfl) (fun OZ=>?_) (fun OZ=>?_)
 .replace hF:=hF.tl;have hlt:k<ml.length:=by simpa using OZ
  obtain⟨m,hme⟩:∃m,ml[k]=m:=⟨_,rfl⟩
  have DX:=hm.mem m (hme▸bQ hlt);obtain⟨nm,hnm⟩:∃nm:Nat,(nm:Int)=m.hi-m.lo+1:=⟨(m.hi-m.lo+1).toNat,oM⟩
  obtain⟨x,hx⟩:∃x,oK m.lo m.hi (pk (1+k))=x:=⟨_,rfl⟩
  obtain⟨ym,hym⟩:∃ym,pk (1+k) % nm=ym:=⟨_,rfl⟩
  have hx2:m.lo+(ym:Int)=x:=by rw[<-hym];rw[<-hx];unfold oK;rw[show(m.hi-m.lo+1).toNat=nm by omega]
  have hx3:=m6 DX.2.2.1 (pk (1+k));rw[hx] at hx3;have ao1:=Gr.lt (1+k);have ME:=hF
  obtain⟨g,off,rfl,hcell⟩:∃g off,p1=some ⟨g,off,none⟩/\∀w9,Bw w w9->w9.cell? ⟨g,off+k*3+1,none⟩=some (ag af m.lo)/\w9.cell? ⟨g,off+k*3+2,none⟩=some (ag af m.hi):=by
   rcases ZH w (aB _ _) with⟨_,h0,_⟩|⟨g,off,cap,h0,_,hg,h4⟩
   .omega
   cases h0;refine⟨g,off,rfl,fun w9 h9=>⟨?_,?_⟩⟩
   .have:=(h9.cell (p:=⟨g,off+(3*k+1),none⟩) hg).trans (h4 (3*k+1) (ag af m.lo) (by rw[lh ml k 1 hlt oM,hme];rfl));rwa [show off+(3*k+1)=off+k*3+1 by omega] at this
   have:=(h9.cell (p:=⟨g,off+(3*k+2),none⟩) hg).trans (h4 (3*k+2) (ag af m.hi) (by rw[lh ml k 2 hlt oM,hme];rfl));rwa [show off+(3*k+2)=off+k*3+2 by omega] at this
  replace hF:=ME;clear ME;refine wp_skip ?_;refine dR ?_;refine wp_block ?_;refine lT (N:=8) rfl ?_;refine jr 0 6 2 ⟨[],[(3,.pointer (some ⟨g,off+k*3,none⟩)),(5,aR #[ag af m.lo,ag af m.hi])],[(B2,(b.sl (some ⟨g,off,none⟩) ml.length c1 p2 n2 c2 p3 n3 c3))],[]⟩ [(36,aR #[ag af m.lo,ag af m.hi])] hF hF ⟨fun w1 hS=>⟨_,_,aA K2 (hQ.tr hS)⟩,trivial⟩ ⟨fun w1 hS _=>gs (Instr.indexAt 24 (ae (some ⟨g,off,none⟩) ml.length c1) (ag af (k:Int))) (by have AY:¬(ml.length<=k):=(by omega);go_simp),fun w1 hS _=>gs (Instr.loadAt 23 (.pointer (some ⟨g,off+k*3+1,none⟩))) (by have z1:=(hcell w1 (hw.tr (hQ.tr hS))).1;have z2:=(hcell w1 (hw.tr (hQ.tr hS))).2;go_simp),trivial⟩ ?_;intro a W ho hF;replace hQ:=hQ.tr ho;refine kq ⟨[],[],[],[]⟩ (some 7) (fun B=>pv B 0) (#[ag af 0,ag af 0]) 23 hF hF ?_;intro B7 W a G7 ho K7 hF;have ach:=aF (hw.tr hQ).size G7;have aci:=aF hQ.size G7;replace hQ:=hQ.tr ho;replace hw:=hw.tr hQ;rename ak=>W7;have h7:=aB W7.heap.size W7;refine rL ⟨[],[],[],[]⟩ (#[ag af 0,ag af 0]) (#[ag af m.lo,ag af m.hi]) (aS 2) hF hF (aA K7 h7) ?_;intro W a up K7 hF;replace hw:=up.below (hw.tr h7) ach;replace hQ:=up.below (hQ.tr h7) aci;clear up;rename ak=>rp;have bU:=aB rp.heap.size rp;refine mC ?_;replace K2:=aA K2 (hQ.tr bU);replace K4:=aA K4 (hQ.tr bU);replace K5:=aA K5 (hQ.tr bU);replace K7:=aA K7 bU;have hmv:∀q,(Value.slice pz k cz).ownBlock=some q->E<=q/\q≠B7:=fun q hq=>by have:=hown.lt q hq;exact⟨this.1,by have:=aci;omega⟩
  have h7E:B7≠B5:=by have:=aci;have:=gE;omega
  replace hw:=(hw.tr bU)
  replace hown:=bP hown (hQ.tr bU);replace uW:E<=_:=aF uW ((hQ.tr bU)).size;rename ak=>W;have HS:QO B2 B4 B5 B7 w.heap.size E k (b.sl (some ⟨g,off,none⟩) ml.length c1 p2 n2 c2 p3 n3 c3) #[ag af 0,ae none 0 0] lk m.lo m.hi w (ae pz k cz) ((eT pk (ml.take k) 0).map (aD af)) false false W:=⟨K2,K4,fun _=>K5,K7,fun _=>hown,hw,by have:=hw.size;have:=(ah.1 K5).1;omega⟩
  refine QI kQ [
  fun v ds w9=>v=pv B5 1,
   fun v ds w9=>v=ae pz k cz,
   fun v ds w9=>v=pv B7 0,
   fun v ds w9=>v=ag af m.lo,
   fun v ds w9=>v=ae pq nq cq,
   fun v ds w9=>v=ag af (k:Int),
   fun v ds w9=>v=ag af ((1+k:Nat):Int),
   fun v ds w9=>v=ag af (pk (1+k):Int),
   fun v ds w9=>v=pv B7 1,
   fun v ds w9=>v=ag af m.hi,
   fun v ds w9=>v=pv B7 0,
   fun v ds w9=>v=ag af m.lo,
   fun v ds w9=>v=ag af (m.hi-m.lo),
   fun v ds w9=>v=ag af (nm:Int),
   fun v ds w9=>v=ag af (ym:Int),
   fun v ds w9=>v=ag af x,
   fun v ds w9=>∃q,v=ae (some ⟨q,0,none⟩) 1 1/\E<=q/\w9.heap[q]?=some (au #[ag af x] 3 (0,0))/\some q≠(ae pz k cz:aj).ownBlock,
   fun v ds w9=>∃p c9,v=ae p (k+1) c9/\w9.ownsRow E 3 1 v (k+1) (((eT pk (ml.take k) 0).map (aD af))++[ag af x]),
   fun v ds w9=>v=pv B5 1,
   fun v ds w9=>∃u,ds[1]?=some u/\w9.heap[B5]?=some (au #[ag af lk,u] 42 (0,0))]
   (fun L9 w9=>QO B2 B4 B5 B7 w.heap.size E k (b.sl (some ⟨g,off,none⟩) ml.length c1 p2 n2 c2 p3 n3 c3) #[ag af 0,ae none 0 0] lk m.lo m.hi w (ae pz k cz) ((eT pk (ml.take k) 0).map (aD af)) (L9 17) (L9 19) w9) [(1,ae pq nq cq),(5,pv B5 0),(6,ag af (k:Int)),(7,pv B7 0)] kQ hF.size ?rst (fun L1 L2 w1 w2 hl h hb=>h.next (hl 17) (hl 19) hb) (HS.drew) (by obtain⟨b7,-,b6,b5,-,-,b1,-⟩:=hF.base;exact⟨b1,b5,b6,b7,trivial⟩) ?reach ?rfin
  case rst=>
   refine⟨Ph.kS,Ph.kS,Ph.kS,Ph.kS,Ph.kS,Ph.kS,Ph.kS,Ph.kS,Ph.kS,Ph.kS,Ph.kS,Ph.kS,Ph.kS,Ph.kS,Ph.kS,Ph.kS,?_,?_,Ph.kS,?_,trivial⟩
   .rintro v ds L9 w1 w2 hS ⟨q,h1,h2,h3,h4⟩ hb;exact⟨q,h1,h2,(hb.block _ (ah.1 h3).1).trans h3,h4⟩
   .rintro v ds L9 w1 w2 hS ⟨p,c9,h1,h2⟩ hb;exact⟨p,c9,h1,bP h2 hb⟩
   rintro v ds L9 w1 w2 hS ⟨x,h1,h2⟩ hb;exact⟨x,h1,(hb.block _ (ah.1 h2).1).trans h2⟩
  case reach=>
   refine⟨?_,?_,?_,?_,?_,?_,?_,?_,?_,?_,?_,?_,?_,?_,?_,?_,?_,?_,?_,?_,trivial⟩<;>(intro Lf ev w1 hn nw hS hc hg hf hb hd;obtain⟨b1,b5,b6,b7,-⟩:=hb)
   .exact Ph.tV
   .have d0:(ev (aL 37))=pv B5 1:=hd.1 rfl;have qf:=hS.k5 (hn 19 kQ);have z:=aK qf 1 (ae pz k cz) rfl;exact Ph.tV
   .exact Ph.tV
   .have d2:(ev (aL 39))=pv B7 0:=hd.1 rfl;have z:=aK hS.k7 0 (ag af m.lo) rfl;exact Ph.tV
   .exact Ph.tV
   .exact Ph.tV
   .have d5:(ev (aL 42))=ag af (k:Int):=hd.1 rfl;have hwr:IntKind.i64.wrap (1+(k:Int))=((1+k:Nat):Int):=by rw[bg];omega
    exact Ph.tV
   .have d4:(ev (aL 41))=ae pq nq cq:=hd.1 rfl;have d6:(ev (aL 43))=ag af ((1+k:Nat):Int):=hd.2.1 rfl;refine jO (f:=111) (args:=#[ae pq nq cq,ag af ((1+k:Nat):Int)]) ?_ (HP (1+k) w1 hS.below) ?_
    .go_simp
    rintro e w2 ⟨rfl,hb⟩;exact⟨_,rfl,rfl,cJ hb⟩
   .exact Ph.tV
   .have d8:(ev (aL 45))=pv B7 1:=hd.1 rfl;have z:=aK hS.k7 1 (ag af m.hi) rfl;exact Ph.tV
   .exact Ph.tV
   .have d10:(ev (aL 47))=pv B7 0:=hd.1 rfl;have z:=aK hS.k7 0 (ag af m.lo) rfl;exact Ph.tV
   .have d9:(ev (aL 46))=ag af m.hi:=hd.1 rfl;have d11:(ev (aL 48))=ag af m.lo:=hd.2.1 rfl;have hwr:IntKind.i64.wrap (m.hi-m.lo)=m.hi-m.lo:=by rw[bg];omega
    exact Ph.tV
   .have d12:(ev (aL 49))=ag af (m.hi-m.lo):=hd.1 rfl;have hwr:IntKind.i64.wrap ((m.hi-m.lo)+1)=(nm:Int):=by rw[bg];omega
    exact Ph.tV
   .have d7:(ev (aL 44))=ag af (pk (1+k):Int):=hd.1 rfl;have d13:(ev (aL 50))=ag af (nm:Int):=hd.2.1 rfl;refine Gw (v:=(ag af (ym:Int):aj)) (w':=w1) ?_ ⟨rfl,cJ (aB _ _)⟩;exact FA rfl d7 d13 oM hym
   .have d3:(ev (aL 40))=ag af m.lo:=hd.1 rfl;have d14:(ev (aL 51))=ag af (ym:Int):=hd.2.1 rfl;have hwr:IntKind.i64.wrap (m.lo+(ym:Int))=x:=by rw[bg];omega
    have aih:IntKind.i64.wrap x=x:=by rw[bg];omega
    exact Ph.tV
   .have d15:(ev (aL 52))=ag af x:=hd.1 rfl;have hs3:=hS.sz;refine Gw (v:=ae (some ⟨w1.heap.size,0,none⟩) 1 1) (w':=w1.alloc (au #[ag af x] 3)) ?_ ⟨⟨_,rfl,hs3.2.2,az _ _,fun h=>absurd ((hS.own (hn 17 kQ)).lt _ h.symm).2 oM⟩,cJ dx⟩;go_simp
   .have d1:(ev (aL 38))=ae pz k cz:=hd.1 rfl;have d16:∃q,(ev (aL 53))=ae (some ⟨q,0,none⟩) 1 1/\E<=q/\w1.heap[q]?=some (au #[ag af x] 3 (0,0))/\some q≠(ae pz k cz:aj).ownBlock:=hd.2.1 rfl;obtain⟨q,e53,hq0,hq,Xf⟩:=d16;have hown:=hS.own nw;refine Yields.ri (aL 38) (aL 53) 25 rfl E 3 i0 (ag af 0) 1 8 ek hi hz0 hz1 hz2 rfl dC (ae pz k cz) k ((eT pk (ml.take k) 0).map (aD af)) d1 hown ⟨q,0,none⟩ 1 1 [ag af x] e53 rfl ?_ (by intro u hu;simp at hu;subst hu;rfl) (by unfold maxLen;omega) oM hS.sz.2.2 ?_
    .intro n u hn9;have h5:=aK hq n u (by simpa using hn9);have e:(⟨q,0,none⟩:cX).add n=⟨q,n,none⟩:=by cases n<;>simp[jP]
     rw[e];exact h5
    intro v' w' hown' hgrow _;obtain⟨p',c',rfl⟩:=dw hown';refine⟨⟨p',c',rfl,hown'⟩,.inr ⟨hS.grown (by simp[Ph.upd]) (by simp[Ph.upd]) hgrow hmv gE,?_⟩⟩;intro t u ds hj hL hp
    match t,hp with
    |0,hp|1,hp|2,hp|3,hp|4,hp|5,hp|6,hp|7,hp|8,hp|9,hp|10,hp|11,hp|12,hp|13,hp|14,hp|15,hp=>exact hp
    |16,⟨q2,h1,h2,h3,h4⟩=>exact⟨q2,h1,h2,(hgrow.block q2 (ah.1 h3).1 h4).trans h3,h4⟩
    |17,_=>exact(hj rfl).elim
    |18,hp=>exact hp
    |19,_=>rw[hn 19 kQ] at hL;cases hL
    |t+20,_=>trivial
   .exact Ph.tV
   have d18:(ev (aL 55))=pv B5 1:=hd.1 rfl;have d17:∃p c9,(ev (aL 54))=ae p (k+1) c9/\w1.ownsRow E 3 1 (ev (aL 54)) (k+1) (((eT pk (ml.take k) 0).map (aD af))++[ag af x]):=hd.2.1 rfl;have d1:(ev (aL 38))=ae pz k cz:=hd.2.2.2.2.1 rfl;obtain⟨p,c9,h1,h2⟩:=d17;have qf:=hS.k5 nw;have z:=aK qf 1 (ae pz k cz) rfl;have f:=cZ qf 1;refine Lag.Yields.skip (w':=w1.setCell ⟨B5,1,none⟩ (ev (aL 54))) ?_ ⟨⟨_,rfl,dc _ qf⟩,.inr ⟨(hS.put qf (by simp[Ph.upd]) (ev (aL 54)) 1 ⟨h45.1,h45.2,h7E,aij⟩),?_⟩⟩
   .rw[h1];go_simp
   .intro t u ds hj hL hp
    match t,hp with
    |0,hp|1,hp|2,hp|3,hp|4,hp|5,hp|6,hp|7,hp|8,hp|9,hp|10,hp|11,hp|12,hp|13,hp|14,hp|15,hp=>exact hp
    |16,⟨q2,g1,g2,g3,g4⟩=>exact⟨q2,g1,g2,(bu _ _ _ _ (by rintro rfl;rw[qf] at g3;cases g3)).trans g3,g4⟩
    |17,⟨p2,c8,g1,g2⟩=>exact⟨p2,c8,g1,dm g2 qf dC⟩
    |18,hp=>exact hp
    |19,_=>exact(hj rfl).elim
    |t+20,_=>trivial
  case rfin=>
   intro a W hR;have hS:=hR.s;obtain⟨p54,c54,e54,U8⟩:=hR.val 17;obtain⟨u,eu,qf⟩:=hR.val 19;have eu2:a.eval (aL 54)=u:=bp eu;replace e54:a.eval (aL 54)=_:=e54;rw[e54] at eu2;replace U8:W.ownsRow E 3 1 (a.eval (aL 54)) _ _:=U8;rw[e54] at U8;subst eu2;replace hF:=hR.fr hF kQ;clear hR eu e54;replace K2:=hS.k2;replace K4:=hS.k4;replace K5:=qf;replace hw:=hS.below;replace uW:=hS.sz.2.2
   replace hown:W.ownsRow E 3 1 (ae p54 (k+1) c54) (k+1) ((eT pk (ml.take (k+1)) 0).map (aD af)):=by
    rw[zF pk ml 0 k hlt,hme,dh,hx,eF];exact U8
   clear hS HS qf U8;have ov:=hF;replace hF:=hF.del 6;simp only[ju,fj,bz,reduceIte] at hF;refine KS ⟨[],[(1,ag af ((k:Int)+1))],[],[]⟩ [(6,ag af ((k:Int)+1))] ov hF trivial ⟨fun w1 hS _=>ge (congrArg (aD af) (show IntKind.i64.wrap ((k:Int)+1)=((k:Int)+1) by rw[bg];omega)),trivial⟩ ?_;intro a W ho hF;clear ov;replace hw:=hw.tr ho;replace K2:=aA K2 ho;replace K4:=aA K4 ho;replace K5:=aA K5 ho;replace hown:=bP hown ho;replace uW:=aF uW ho.size;refine⟨⟨k+1,_,oM,⟨hF.size,hF.defers,(by obtain⟨b6,-,-,b5,b4,b2,b1,-⟩:=hF.base;exact⟨b6,b5,b4,b2,b1,trivial⟩)⟩,K2,K4,K5,hown,hw,uW⟩,?_⟩;rw[show a.eval (aL 6)=ag af ((k:Int)+1) from(hF.g 0 rfl)];simp only[hk6];simp[intOf];omega
 replace hF:=hF.tl;refine wp_exit ?_;obtain rfl:k=ml.length:=by simp at OZ;omega
 refine lT (N:=2) rfl ?_;refine jr 0 1 1 ⟨[],[],[(B5,#[ag af lk,ae pz ml.length cz])],[]⟩ [(56,aR #[ag af lk,ae pz ml.length cz])] hF hF ⟨fun w1 hS=>⟨_,_,aA K5 (hQ.tr hS)⟩,trivial⟩ trivial ?_;intro a W ho hF;replace hQ:=hQ.tr ho;refine rL ⟨[],[],[],[]⟩ (#[ag af 0,ae none 0 0]) (#[ag af lk,ae pz ml.length cz]) (aS 2) hF hF (aA K4 hQ) ?_;intro W a up K4 hF;replace hown:=eN (bP hown hQ) fun g hg=>up.block g (fun e=>by have:=(hown.lt g hg).1;have:=gE;omega);replace hw:=up.below (hw.tr hQ) Vz;clear up;rename ak=>Nw;have xZ:=aB Nw.heap.size Nw;refine mC ?_;refine wp_ret ?_;refine bj (results_cell_row rfl _ _ B4 42 _ (0,0) _ (hF.g 3 rfl) (aA K4 xZ) Tryz.underlying42 rfl kQ) hF.defers ⟨_,rfl,?_,(hw.tr xZ)⟩;rw[Hz] at hown;exact tJ hown gE.2.2.2
def Fs(b:BB)(bq aM aC v:aj)(ml:List Mn)(KQ:ml.length<=3)(lk:Int)(h0:0<=lk/\lk<=99)(br:List Int)(hbr:∀x∈br,0<=x/\x<=99)(hl:br.length=ml.length)(w:ak)(hm:Reads w bq ml.length (fQ ml))(hv:Reads w v br.length (br.map (aD af))) :
  bm aq 112 #[aR (b.cells bq aM aC),aR #[ag af lk,v]] w (Rt w (cH #[aR (gG lk br).cells,ag af 0])):=by
 rcases hv with⟨rfl,h1,-⟩|⟨g,off,cap,rfl,⟨-,Hb⟩,hg,hcc⟩
 .obtain rfl:br=[]:=List.length_eq_zero_iff.1 h1;exact MC b bq aM aC ml KQ lk h0 hl.symm w hm
 exact CZ b bq aM aC ml KQ lk h0 br hbr hl g off cap w hm hg Hb hcc
def Wo(b:BB)(p1 p2 p3 pb pq:Option cX)(c1 c2 c3 cb cq:Nat)(ml:List Mn)(ss:List Int)(ms:List Mk)(w:ak)(hL:Laid w)(hB:cQ b (ae p1 ml.length c1) (ae p2 ss.length c2) (ae p3 ms.length c3) ml ss ms w)(lk:Int)(h0:0<=lk/\lk<=99)(br:List Int)(hbr:∀x∈br,0<=x/\x<=99)(hl:br.length=ml.length)(hv:Reads w (ae pb br.length cb) br.length (br.map (aD af)))(pl:List Int)(hp:fM b pl)(hq:Reads w (ae pq pl.length cq) pl.length (pl.map (aD af))):bm aq 32 #[aR (b.sl p1 ml.length c1 p2 ss.length c2 p3 ms.length c3),aR #[ag af lk,ae pb br.length cb],ae pq pl.length cq] w fun e w'=>∃v,e=aY (cH #[v,ag af 0])/\w'.ownsRow w.heap.size 3 1 v b.minutes.toNat ((b.js (b.bS+(gG lk br).used) (bJ pl) b.minutes.toNat).map (aD af))/\Bw w w':=by
 have hok:=hB.ok;have xu:=hok.minutes;have nQ:∀s∈pl,1<=s/\s<=8:=fun s h=>by have:=hp.mem s h;omega
 have DW:bJ pl<512:=mM pl nQ;have KQ:=hB.gS.len;have hao:=Ge h0 oM hbr;have ug:∀w9,Bw w w9->_:=fun w9 h9=>eO b _ _ _ ml ss ms w9 (hL.below h9) (hB.below h9);have HHd:∀w9,Bw w w9->_:=fun w9 h9=>Fs b (ae p1 ml.length c1) (ae p2 ss.length c2) (ae p3 ms.length c3) (ae pb br.length cb) ml KQ lk h0 br hbr hl w9 (hB.below h9).rm (hv.below h9);have HPd:∀w9,Bw w w9->_:=fun w9 h9=>qL b hok (ae p1 ml.length c1) (ae p2 ss.length c2) (ae p3 ms.length c3) (ae pq pl.length cq) pl hp w9 (hq.below h9);have HPo:∀w9,Bw w w9->_:=fun w9 h9=>kH pl nQ (ae pq pl.length cq) w9 (hq.below h9);clear hp nQ hbr hv hq hL hB;generalize gG lk br=A at *;generalize bJ pl=pn at *;have HPy:∀w9,_:=fun w9=>zH b hok (ae p1 ml.length c1) (ae p2 ss.length c2) (ae p3 ms.length c3) A hao pn DW w9;generalize ml.length=n1 at *;generalize ss.length=n2 at *;generalize ms.length=n3 at *;generalize br.length=n4 at *;generalize pl.length=n5 at *;refine mP Tryz.func32 rfl rfl [(2,ae pq n5 cq),(1,aR #[ag af lk,ae pb n4 cb]),(0,aR (b.sl p1 n1 c1 p2 n2 c2 p3 n3 c3))] ⟨jg rfl,jg rfl,jg rfl,trivial⟩ fun a W hF hw=>?_;refine lT (N:=4) rfl ?_;refine kq ⟨[],[],[],[]⟩ (some 3) (fun B=>pv B 0) (b.sl p1 n1 c1 p2 n2 c2 p3 n3 c3) 28 hF hF ?_;intro B3 W a G3 ho K3 hF;have YS:=aF hw.size G3;replace hw:=hw.tr ho;rename ak=>W3;have h3:=aB W3.heap.size W3;refine kq ⟨[],[],[],[]⟩ (some 4) (fun B=>pv B 0) (#[ag af lk,ae pb n4 cb]) 42 hF hF ?_;intro B4 W a G4 ho K4 hF;have Vz:=aF (hw.tr h3).size G4;have afT:=aF h3.size G4;replace h3:=h3.tr ho;replace hw:=hw.tr h3;rename ak=>W4;have h4:=aB W4.heap.size W4;refine jU 2 2 0 [(6,ae none 0 0),(7,ag af 0)] hF ?_;intro a W ho hF;replace h4:=h4.tr ho;refine mC ?_;refine dR ?_;refine wF ⟨[],[(1,ag af 0)],[(B3,(b.sl p1 n1 c1 p2 n2 c2 p3 n3 c3))],[]⟩ [(8,ag af 0)] hF hF ⟨fun w1 hS=>⟨_,_,aA K3 (h3.tr (h4.tr hS))⟩,trivial⟩ ⟨fun w1 hS _=>gc (ug w1 (hw.tr (h4.tr hS))),trivial⟩ ?_;intro a W ho hF;replace h4:=h4.tr ho;refine fP [(16,aI false)] hF ?_;intro a W ho hF;replace h4:=h4.tr ho;refine wp_cond (t:=false) (hF.g 0 rfl) ?_;replace hF:=hF.tl;refine wp_skip ?_;refine lT (N:=4) rfl ?_;refine jr 0 2 2 ⟨[],[],[(B3,(b.sl p1 n1 c1 p2 n2 c2 p3 n3 c3))],[]⟩ [(19,aR (b.sl p1 n1 c1 p2 n2 c2 p3 n3 c3))] hF hF ⟨fun w1 hS=>⟨_,_,aA K3 (h3.tr (h4.tr hS))⟩,trivial⟩ trivial ?_;intro a W ho hF;replace h4:=h4.tr ho;refine kq ⟨[],[],[],[]⟩ (some 9) (fun B=>pv B 0) (AZ) 119 hF hF ?_;intro B9 W a G9 ho K9 hF;have ajW:=aF (hw.tr h4).size G9;have ajY:=aF (h3.tr h4).size G9;have ajX:=aF h4.size G9;replace h4:=h4.tr ho;replace hw:=hw.tr h4;replace h3:=h3.tr h4;rename ak=>W9;have h9:=aB W9.heap.size W9;refine rL ⟨[],[],[],[]⟩ (AZ) (b.sl p1 n1 c1 p2 n2 c2 p3 n3 c3) (aS 15) hF hF (aA K9 h9) ?_;intro W a up K9 hF;replace hw:=up.below (hw.tr h9) ajW;replace h3:=up.below (h3.tr h9) ajY;replace h4:=up.below (h4.tr h9) ajX;clear up;rename ak=>vg;have dp:=aB vg.heap.size vg;refine mC ?_;refine lT (N:=9) rfl ?_;refine jr 0 6 3 ⟨[],[(2,cH #[aR A.cells,ag af 0])],[(B9,(b.sl p1 n1 c1 p2 n2 c2 p3 n3 c3)),(B4,#[ag af lk,ae pb n4 cb])],[(1,1)]⟩ [(24,aR A.cells),(25,ag af 0)] hF hF ⟨fun w1 hS=>⟨_,_,aA K9 (dp.tr hS)⟩,fun w1 hS=>⟨_,_,aA K4 (h4.tr (dp.tr hS))⟩,trivial⟩ ⟨fun w1 hS _=>gc (HHd w1 (hw.tr (dp.tr hS))),trivial⟩ ?_;intro a W ho hF;replace dp:=dp.tr ho;refine kq ⟨[],[],[],[]⟩ (some 10) (fun B=>pv B 0) (#[ag af 0,ag af 0,ag af 0,ag af 0]) 134 hF hF ?_;intro wP W a NQ ho oB hF;have QE:=aF (hw.tr dp).size NQ;have VA:=aF (h3.tr dp).size NQ;have af2:=aF (h4.tr dp).size NQ;have tT:=aF dp.size NQ;replace dp:=dp.tr ho;replace hw:=hw.tr dp;replace h3:=h3.tr dp;replace h4:=h4.tr dp;rename ak=>W10;have h10:=aB W10.heap.size W10;refine rL ⟨[],[],[],[]⟩ (#[ag af 0,ag af 0,ag af 0,ag af 0]) A.cells (aS 4) hF hF (aA oB h10) ?_;intro W a up oB hF;replace hw:=up.below (hw.tr h10) QE;replace h3:=up.below (h3.tr h10) VA;replace h4:=up.below (h4.tr h10) af2;replace dp:=up.below (dp.tr h10) tT;clear up;rename ak=>rp;have bU:=aB rp.heap.size rp;refine jU 8 1 0 [(11,ag af 0)] hF ?_;intro a W ho hF;replace bU:=bU.tr ho;refine mC ?_;refine dR ?_;refine fP [(27,aI false)] hF ?_;intro a W ho hF;replace bU:=bU.tr ho;refine wp_cond (t:=false) (hF.g 0 rfl) ?_;replace hF:=hF.tl;refine wp_skip ?_;refine dR ?_;refine wF ⟨[],[(2,ag af 0)],[(B9,(b.sl p1 n1 c1 p2 n2 c2 p3 n3 c3))],[]⟩ [(12,ag af 0)] hF hF ⟨fun w1 hS=>⟨_,_,aA K9 (dp.tr (bU.tr hS))⟩,trivial⟩ ⟨fun w1 hS _=>gc (HPd w1 (hw.tr (bU.tr hS))),trivial⟩ ?_;intro a W ho hF;replace bU:=bU.tr ho;refine fP [(33,aI false)] hF ?_;intro a W ho hF;replace bU:=bU.tr ho;refine wp_cond (t:=false) (hF.g 0 rfl) ?_;replace hF:=hF.tl;refine wp_skip ?_;replace hF:=(hF.del 7).del 6;simp only[ju,fj,bz,reduceIte] at hF;refine M3 kQ [pV (aR (b.sl p1 n1 c1 p2 n2 c2 p3 n3 c3)),pV (aR A.cells),pV (ae pq n5 cq),pV (ag af (pn:Int)),fun v _ w9=>w9.ownsRow w.heap.size 3 1 v b.minutes.toNat ((b.js (b.bS+A.used) pn b.minutes.toNat).map (aD af)),fun v _ w9=>w9.ownsRow w.heap.size 3 1 v b.minutes.toNat ((b.js (b.bS+A.used) pn b.minutes.toNat).map (aD af)),pV (ag af 0)] _ kQ hF.size hF.base ?_ ?_ ?_
 .refine⟨sV,sV,sV,sV,?_,?_,sV,trivial⟩<;>(rintro v ds w1 w2 hS h1 hb;exact bP h1 hb)
 .refine⟨?_,?_,?_,?_,?_,?_,?_,trivial⟩<;>rintro ev w1 hS hc hg hf ⟨-,-,xK,-,-,b9,-,-,-,-,b2,-,-,-⟩ hd
  .have lJ:=aA K9 (dp.tr (bU.tr hS));exact E5 119 rfl b9 lJ Tryz.underlying119 rfl kQ rfl
  .have lJ:=aA oB (bU.tr hS);exact E5 134 rfl xK lJ Tryz.underlying134 rfl kQ rfl
  .exact tV
  .have d2:ev (aL 37)=_:=hd.1 rfl;refine yq (HPo w1 (hw.tr (bU.tr hS))) ?_ (fun _=>rfl);go_simp
  .have d0:ev (aL 35)=_:=hd.1 rfl;have d1:ev (aL 36)=_:=hd.2.1 rfl;have d3:ev (aL 38)=_:=hd.2.2.1 rfl;refine jO (f:=114) (args:=#[aR (b.sl p1 n1 c1 p2 n2 c2 p3 n3 c3),aR A.cells,ag af (pn:Int)]) ?_ (HPy w1) ?_
   .go_simp
   rintro e w2 ⟨v,rfl,h1,hb⟩;exact⟨_,rfl,tJ h1 (hw.tr (bU.tr hS)).size,cJ hb⟩
  .have d4:w1.ownsRow w.heap.size 3 1 (ev (aL 39)) _ _:=hd.1 rfl;exact Gw (v:=ev (aL 39)) (w':=w1) rfl ⟨d4,cJ (aB _ _)⟩
  exact tV
 intro a W hR;have ho:=hR.s;have h6:W.ownsRow w.heap.size 3 1 (a.eval (aL 6)) _ _:=hR.val 5;have h7:a.eval (aL 7)=_:=hR.val 6;replace hF:=hR.fr hF kQ;clear hR;replace bU:=bU.tr ho;refine wp_ret ?_;refine bj (results_tmp2 rfl _ _ _) hF.defers ⟨_,congrArg (fun x=>Ending.returned (cH #[a.eval (aL 6),x])) h7,h6,(hw.tr bU)⟩
def Wq(b:BB)(p1 p2 p3 pb pq:Option cX)(c1 c2 c3 cb cq:Nat)(ml:List Mn)(ss:List Int)(ms:List Mk)(w:ak)(hL:Laid w)(hB:cQ b (ae p1 ml.length c1) (ae p2 ss.length c2) (ae p3 ms.length c3) ml ss ms w)(lk:Int)(h0:0<=lk/\lk<=99)(br:List Int)(hbr:∀x∈br,0<=x/\x<=99)(hl:br.length=ml.length)(hv:Reads w (ae pb br.length cb) br.length (br.map (aD af)))(pl:List Int)(hp:fM b pl)(hq:Reads w (ae pq pl.length cq) pl.length (pl.map (aD af))):bm aq 32 #[aR (b.sl p1 ml.length c1 p2 ss.length c2 p3 ms.length c3),aR #[ag af lk,ae pb br.length cb],ae pq pl.length cq] w fun e w'=>∃v,e=aY (cH #[v,ag af 0])/\Reads w' v b.minutes.toNat ((b.js (b.bS+(gG lk br).used) (bJ pl) b.minutes.toNat).map (aD af))/\Bw w w':=by
 refine(Wo b p1 p2 p3 pb pq c1 c2 c3 cb cq ml ss ms w hL hB lk h0 br hbr hl hv pl hp hq).mono ?_;rintro e w' ⟨v,h1,h2,h3⟩;have:=hB.ok.minutes;exact⟨v,h1,Reads.iA h2 oM (by rw[fC,b.oV,Nat.mul_one]),h3⟩
def gA{bs:Bool}:(nU bs=aI true)↔bs=true:=sM
def gB{bs x:Bool}:((if bs=true then nU x else aw)=aI false)↔(bs && !x)=true:=by cases bs<;>cases x<;>simp[aw]
def gCw{bs x:Bool}:((if bs=true then nU x else aw)=aI true)↔(bs&&x)=true:=by cases bs<;>cases x<;>simp[aw]
def dS.Vv{a:dS}(h:a.Ok)(i:Nat):0<=a.get i/\a.get i<=99:=by
 unfold dS.get;split
 .exact h.m0
 .exact h.m1
 exact h.m2
def dS.only(a:dS)(c:List Nat):dS:=c.foldl (fun k i=>k.put i (a.get i)) ⟨a.leak,0,0,0⟩
def FM(b:BB)(all:List dS)(p n mask:Nat):Bool:=b.sure (all.map fun a=>a.only (dZ n mask)) p
def FL(bs f:Bool)(c l:List Int):Bool:=bs&&((!f||decide ((c.length:Int)>l.length))||(((c.length:Int)==(l.length:Int))&&decide (j9 c l<0)))
def dS.XZ{a:dS}(h:a.Ok)(c:List Nat):(a.only c).Ok:=by
 unfold dS.only
 have:∀(c:List Nat) (k:dS),k.Ok->(c.foldl (fun k i=>k.put i (a.get i)) k).Ok:=by
  intro c
  induction c with
  |nil=>exact fun k hk=>hk
  |cons i c ih=>exact fun k hk=>ih _ (dS.Oe hk i (dS.Vv h i).1 (dS.Vv h i).2)
 exact this c _ ⟨h.leak,sM,sM,sM⟩
def iY(b:BB)(all:List dS)(p n:Nat):Nat->List Int × Bool
 |0=>([],false)
 |m+1=>if FL (FM b all p n m) (iY b all p n m).2 (uY n m) (iY b all p n m).1 then(uY n m,true) else iY b all p n m
def Zr(b:BB)(bq aM aC:aj)(ml:List Mn)(ss:List Int)(ms:List Mk)(w:ak)(hL:Laid w)(hB:cQ b bq aM aC ml ss ms w)(hne:bf b ml ss ms≠[])(pl:List Int)(hp:fM b pl)(lv:aj)(hl:Reads w lv pl.length (pl.map (aD af))) :
  bm aq 27 #[aR (b.cells bq aM aC),lv] w fun e w'=>∃v,e=aY (cH #[v,aI (iY b (bf b ml ss ms) (bJ pl) ml.length (2 ^ ml.length)).2,ag af 0])/\Reads w' v (iY b (bf b ml ss ms) (bJ pl) ml.length (2 ^ ml.length)).1.length ((iY b (bf b ml ss ms) (bJ pl) ml.length (2 ^ ml.length)).1.map (aD af))/\Bw w w':=by
 have Va:=hB.gS.len;obtain⟨i0,hi,hz0,hz1,hz2⟩:=info_parts info3;obtain⟨i1,AY,Ml,hy1,hy2⟩:=info_parts Qp;have hlen:=iR ss ms hB.ok hB.gS;have jX:0<(bf b ml ss ms).length:=cN.2 hne;have hok:=hB.ok;have hao:=oz (ss:=ss) (ms:=ms) hB.ok hB.gS;have xu:=hok.minutes;have nQ:∀s∈pl,1<=s/\s<=8:=fun s h=>by have:=hp.mem s h;omega
 have DW:bJ pl<512:=mM pl nQ;obtain⟨pm,cm,rfl,_⟩:=aT hB.rm;obtain⟨pn,cn,rfl,_⟩:=aT hB.rs;obtain⟨pk,ck,rfl,_⟩:=aT hB.rk;obtain⟨qJ,qX,rfl,_⟩:=aT hl;have b1:Bw w (w.alloc (au (b.sl pm ml.length cm pn ss.length cn pk ms.length ck) 28)):=dx;have hk:=az w (au (b.sl pm ml.length cm pn ss.length cn pk ms.length ck) 28)
 have WI:Hid (∀W cp,Bw w W->W.heap[cp]?=some (au #[ae qJ pl.length qX] 25 (0,0))->bm aq 103 #[aR (b.sl pm ml.length cm pn ss.length cn pk ms.length ck),.func (.func 164) #[] #[pv cp 0]] W fun e w'=>∃v,e=aY (cH #[aR (b.open (ae pm ml.length cm) (ae pn ss.length cn) (ae pk ms.length ck) v),ag af 0])/\iv w' W.heap.size v (bf b ml ss ms)/\Bw W w'):=
  ai fun W cp KR Vg=>DR b _ _ _ ml ss ms W (hL.below KR) (hB.below KR) hne cp fun W' hb'=>by
   have hlt:=(ah.1 Vg).1;exact D_ b hok _ _ _ pl hp cp _ W' ((hb'.block _ hlt).trans Vg) ((hl.below KR).below hb')
 have KU:=ai hl;have Tr:=ai hao;have Zo:=ai nQ;clear hL hB hl hao hp nQ;generalize bf b ml ss ms=all at *;generalize ml.length=lm at *;generalize ss.length=ln at *;generalize ms.length=lk at *
 go_enter Tryz.func27,Tryz.ntmps27
 go_wp2
 refine cy kQ [
 pV (aR (b.sl pm lm cm pn ln cn pk lk ck)),
  pV (ae qJ pl.length qX),
  fun v ds w9=>∃cp,v=.func (.func 164) #[] #[pv cp 0]/\w9.heap[cp]?=some (au #[ae qJ pl.length qX] 25 (0,0)),
  fun v ds w9=>∃gv cv,v=cH #[aR (b.open (ae pm lm cm) (ae pn ln cn) (ae pk lk ck) (ae (some ⟨gv,0,none⟩) all.length cv)),ag af 0]/\iv w9 w.heap.size (ae (some ⟨gv,0,none⟩) all.length cv) all,
  fun v ds w9=>∃gv cv,v=cH #[aR (b.open (ae pm lm cm) (ae pn ln cn) (ae pk lk ck) (ae (some ⟨gv,0,none⟩) all.length cv)),ag af 0]/\iv w9 w.heap.size (ae (some ⟨gv,0,none⟩) all.length cv) all,
  fun v ds w9=>∃gv cv,v=aR (b.open (ae pm lm cm) (ae pn ln cn) (ae pk lk ck) (ae (some ⟨gv,0,none⟩) all.length cv))/\iv w9 w.heap.size (ae (some ⟨gv,0,none⟩) all.length cv) all,
  pV (ag af 0),
  fun v ds w9=>∃k,∃z:Array aj,v=pv k 0/\w.heap.size+1<=k/\w9.heap[k]?=some (au z 122 (0,0))/\z.size=16,
  fun v ds w9=>∃k gv cv,ds[0]?=some (pv k 0)/\w.heap.size+1<=k/\w9.heap[k]?=some (au (b.open (ae pm lm cm) (ae pn ln cn) (ae pk lk ck) (ae (some ⟨gv,0,none⟩) all.length cv)) 122 (0,0))/\iv w9 w.heap.size (ae (some ⟨gv,0,none⟩) all.length cv) all,
  pV (ag af 0)]
  (fun w9=>w9.heap[w.heap.size]?=some (au (b.sl pm lm cm pn ln cn pk lk ck) 28 (0,0))/\Bw w w9) [(2,pv w.heap.size 0),(1,ae qJ pl.length qX)] kQ ?rst (fun w1 w2 h hb=>⟨(hb.block _ (ah.1 h.1).1).trans h.1,h.2.trans (hb.mono h.2.size)⟩) (⟨hk,b1.drew⟩) ⟨rfl,rfl,trivial⟩ ?reach ?rfin
 case rst=>
  refine⟨sV,sV,?_,?_,?_,?_,sV,?_,?_,sV,trivial⟩
  .rintro v ds w1 w2 hS ⟨cp,h1,h2⟩ hb;exact⟨cp,h1,(hb.block _ (ah.1 h2).1).trans h2⟩
  .rintro v ds w1 w2 hS ⟨gv,cv,h1,h2⟩ hb;exact⟨gv,cv,h1,h2.at_ fun g hg=>hb.block g (h2.1.lt g hg).2⟩
  .rintro v ds w1 w2 hS ⟨gv,cv,h1,h2⟩ hb;exact⟨gv,cv,h1,h2.at_ fun g hg=>hb.block g (h2.1.lt g hg).2⟩
  .rintro v ds w1 w2 hS ⟨gv,cv,h1,h2⟩ hb;exact⟨gv,cv,h1,h2.at_ fun g hg=>hb.block g (h2.1.lt g hg).2⟩
  .rintro v ds w1 w2 hS ⟨k,z,h1,h2,h3,h4⟩ hb;exact⟨k,z,h1,h2,(hb.block _ (ah.1 h3).1).trans h3,h4⟩
  rintro v ds w1 w2 hS ⟨k,gv,cv,h1,h0,h3,h2⟩ hb;exact⟨k,gv,cv,h1,h0,(hb.block _ (ah.1 h3).1).trans h3,h2.at_ fun g hg=>hb.block g (h2.1.lt g hg).2⟩
 case reach=>
  refine⟨?_,?_,?_,?_,?_,?_,?_,?_,?_,?_,trivial⟩<;>rintro ev w1 hS hc hg hf ⟨b2,b1,-⟩ hd
  .have x0:=cg hS.1;exact tV
  .exact tV
  .have d1:ev (aL 19)=_:=hd.1 rfl;refine jO (f:=104) (args:=#[ae qJ pl.length qX]) ?_ (Kw _ _ _ _) ?_
   .go_simp
   rintro e w2 ⟨rfl,rfl⟩;exact⟨_,rfl,⟨_,rfl,az _ _⟩,cJ dx⟩
  .have d0:ev (aL 18)=_:=hd.1 rfl;obtain⟨cp,Gv,wA⟩:=hd.2.1 rfl;replace Gv:ev (aL 20)=_:=Gv;refine jO (f:=103) (args:=#[aR (b.sl pm lm cm pn ln cn pk lk ck),.func (.func 164) #[] #[pv cp 0]]) ?_ (WI.out w1 cp hS.2 wA) ?_
   .go_simp
   rintro e w2 ⟨v,rfl,jc,hb⟩
   obtain⟨gv,cv,rfl⟩:∃gv cv,v=ae (some ⟨gv,0,none⟩) all.length cv:=by
    rcases jc.1.2 with⟨_,h0⟩|⟨g,cap,cur,rfl,_⟩
    .omega
    exact⟨g,cap,rfl⟩
   exact⟨_,rfl,⟨gv,cv,rfl,jc.base hS.2.size⟩,cJ hb⟩
  .exact yv rfl (hd.1 rfl)
  .obtain⟨gv,cv,e11,jc⟩:=hd.1 rfl;replace e11:ev (aL 17)=_:=e11;refine yv ?_ (⟨gv,cv,rfl,jc⟩);go_simp
  .obtain⟨gv,cv,e11,jc⟩:=hd.1 rfl;replace e11:ev (aL 17)=_:=e11;exact tV
  .refine Gw (v:=pv w1.heap.size 0) (w':=w1.alloc (au iE 122)) ?_ ⟨⟨_,_,rfl,(ah.1 hS.1).1,az _ _,rfl⟩,cJ dx⟩;go_simp
  .obtain⟨k,z,e6,qT,hk2,hz⟩:=hd.1 rfl;replace e6:ev (aL 7)=_:=e6;obtain⟨gv,cv,Pd,jc⟩:=hd.2.1 rfl;replace Pd:ev (aL 22)=_:=Pd;have DZ:∀g cs t,w1.heap[g]?=some (au cs t (0,0))->t≠122->g≠k:=by rintro g cs t h1 h2 rfl;rw[hk2] at h1;cases h1;exact h2 rfl
   have Fj:∀(v:aj),iv w1 w.heap.size v all->iv (w1.setRow k (b.open (ae pm lm cm) (ae pn ln cn) (ae pk lk ck) (ae (some ⟨gv,0,none⟩) all.length cv))) w.heap.size v all:=fun v ho=>ho.at_ fun g hg=>setRow_other (by
    obtain⟨cur,q1,_⟩:=ho.2 g hg
    exact DZ g _ _ q1 dC)
   refine Lag.Yields.nt 122 _ _ rfl k _ e6 Pd 122 z hk2 kQ hz (by simp[cD]) ⟨⟨k,gv,cv,congrArg some e6,qT,dg hk2,Fj _ jc⟩,.inr ⟨⟨(setRow_other oM).trans hS.1,dA hS.2 oM⟩,?_⟩⟩;intro j u ds hj hp
   match j,hp with
   |0,hp|1,hp=>exact hp
   |2,⟨cp,h1,h2⟩=>exact⟨cp,h1,(setRow_other (DZ _ _ _ h2 dC)).trans h2⟩
   |3,⟨Fu,FI,h1,h2⟩=>exact⟨Fu,FI,h1,Fj _ h2⟩
   |4,⟨Fu,FI,h1,h2⟩=>exact⟨Fu,FI,h1,Fj _ h2⟩
   |5,⟨Fu,FI,h1,h2⟩=>exact⟨Fu,FI,h1,Fj _ h2⟩
   |6,hp=>exact hp
   |7,⟨k',z',h1,h2,h3,h4⟩=>
    by_cases s5:k'=k
    .subst s5;exact⟨k',_,h1,h2,dg h3,rfl⟩
    exact⟨k',z',h1,h2,(setRow_other s5).trans h3,h4⟩
   |8,_=>exact(hj rfl).elim
   |9,hp=>exact hp
   |j+10,_=>trivial
  have d6:ev (aL 23)=_:=hd.1 rfl;refine yv (v:=ev (aL 23)) ?_ (d6);rfl
 case rfin=>
  intro a2 w2 hR;have hS:=hR.s;obtain⟨k,gv,cv,VQ,qT,hk2,jc⟩:=hR.val 8;have e9:a2.tmps.getD 6 aw=_:=hR.val 9;have ha:=hR.lits 116 rfl;simp only[aS,cA,nh] at ha;rw[hR.kp 1,hR.kp 2,hR.kp 4,hR.kp 5] at ha;simp only[kY,gI,gH] at ha;clear hR;have e6:a2.tmps.getD 7 aw=pv k 0:=bp VQ;rw[e6,e9] at ha;generalize a2.tmps.getD=zz at ha;clear e6 VQ e9;subst ha;have tS:=hS.1;have sH:=hS.2;clear hS;obtain⟨x0,x1,x2,x3,x4,x5,x6,x7,x8,x9,qD,qC,rH,rz,rB⟩:=cg tS;have fx:=cZ tS 12;have CW:=jc.reads oM
  have HC:Hid (∀j u,(rowOf all)[j]?=some u->w2.cell? ⟨gv,0+j,none⟩=some u):=ai (by
   rcases CW with⟨h0,_⟩|⟨g,off,cap,h0,_,_,h1⟩
   .cases h0
   cases h0;exact h1)
  have CY:=(jc.1.lt gv rfl).2;have Ab:=(ah.1 hk2).1;have hbl:=(ah.1 tS).1;have HK:=ai hk2;have HBo:=ai tS;have Gj:=ai sH;clear hk2 CW tS sH jc hk b1 WI x0 x1 x2 x3 x4 x5 x6 x7 x8 x9 qD qC rz rB;generalize hL:all.length=L at *;have HL:=ai hL;clear hL;obtain⟨N,hN0⟩:∃N,N=2 ^ lm:=⟨_,rfl⟩
  have hN8:N<=8:=by
   have:lm=0\/lm=1\/lm=2\/lm=3:=oM;rcases this with h|h|h|h<;>subst h<;>omega
  have hN:wrap64 (2 ^ lm)=(N:Int):=by
   have:lm=0\/lm=1\/lm=2\/lm=3:=oM;rcases this with h|h|h|h<;>subst h<;>subst hN0<;>simp[wrap64]
  have HN0:=ai hN0;clear hN0;have HBe:Hid (Bw w2 w2):=ai (aB _ _);go_wp2;rw[hN];clear hN
  go_loopw [4,5,8,9,10,11,13,14,16,31] (fun v4 f _ _ _ _ _ _ _ i wr=>∃(M:Nat) (p4:Option cX) (c4:Nat),M<=N/\i=ag af M/\f=aI (iY b all (bJ pl) lm M).2/\v4=ae p4 (iY b all (bJ pl) lm M).1.length c4/\Reads wr (ae p4 (iY b all (bJ pl) lm M).1.length c4) (iY b all (bJ pl) lm M).1.length ((iY b all (bJ pl) lm M).1.map (aD af))/\Bw w2 wr) (fun _ _ _ _ _ _ _ _ _ i _=>N-(intOf i).toNat)
  case atStart=>exact⟨0,none,0,gD _,sM,by simp[iY],by simp[iY],cJ ⟨rfl,by simp[iY],by simp[iY]⟩,aB _ _⟩
  case round=>
   obtain⟨M,p4,c4,hM,rfl,rfl,rfl,hr4,eh⟩:=hrel;rename ak=>wo;have hsz:=eh.size
   by_cases hlt:M<N
   .have hst:iY b all (bJ pl) lm (M+1)=if FL (FM b all (bJ pl) lm M) (iY b all (bJ pl) lm M).2 (uY lm M) (iY b all (bJ pl) lm M).1 then(uY lm M,true) else iY b all (bJ pl) lm M:=rfl
    generalize iY b all (bJ pl) lm M=st at *;obtain⟨lc,f⟩:=st;simp only[] at hst hr4;have Wy:=ai hst;have HR4:=ai hr4;have yh:=ai eh
    have Ht:Hid (∀w9,Bw wo w9->w9.heap[k]?=some (au (b.open (ae pm lm cm) (ae pn ln cn) (ae pk lk ck) (ae (some ⟨gv,0,none⟩) L cv)) 122 (0,0))/\w9.heap[w.heap.size]?=some (au (b.sl pm lm cm pn ln cn pk lk ck) 28 (0,0))/\(∀i u,(rowOf all)[i]?=some u->w9.cell? ⟨gv,0+i,none⟩=some u)):=ai fun w9 O5=>by
     have h:=eh.trans (O5.mono hsz);exact⟨(h.block _ Ab).trans HK.out,(h.block _ hbl).trans HBo.out,fun i u hi=>(h.cell (p:=⟨gv,0+i,none⟩) CY).trans (HC.out i u hi)⟩
    obtain⟨q1,q2,-⟩:=Ht.out wo (aB _ _);obtain⟨y0,y1,y2,y3,y4,y5,y6,y7,y8,y9,NS,PW,PV,PU,KX,Jd⟩:=jJ q1;have g2:(wo.alloc (au #[ag af b.room,ag af b.depth,ag af b.least,ag af b.minutes,ag af b.bS,ag af b.iU,ag af b.eI,ag af b.iO,ag af b.ll,ag af b.lm,ag af b.pl,ag af b.pm,ae pm lm cm,ae pn ln cn,ae pk lk ck,ae none 0 0] 122)).heap[w.heap.size]?=some (au (b.sl pm lm cm pn ln cn pk lk ck) 28 (0,0)):=(aZ _ _ _ (ah.1 q2).1).trans q2;have z12:=aK g2 12 (ae pm lm cm) rfl;have aj_:=cZ g2 12;clear hst hr4 eh q1 q2 g2 rH fx;have hb2:Bw wo (wo.alloc (au #[ag af b.room,ag af b.depth,ag af b.least,ag af b.minutes,ag af b.bS,ag af b.iU,ag af b.eI,ag af b.iO,ag af b.ll,ag af b.lm,ag af b.pl,ag af b.pm,ae pm lm cm,ae pn ln cn,ae pk lk ck,ae none 0 0] 122)):=dx;have ho2:=az wo (au #[ag af b.room,ag af b.depth,ag af b.least,ag af b.minutes,ag af b.bS,ag af b.iU,ag af b.eI,ag af b.iO,ag af b.ll,ag af b.lm,ag af b.pl,ag af b.pm,ae pm lm cm,ae pn ln cn,ae pk lk ck,ae none 0 0] 122);have nS:=ai hb2;have HO2:=ai ho2;have aez:(wo.alloc (au #[ag af b.room,ag af b.depth,ag af b.least,ag af b.minutes,ag af b.bS,ag af b.iU,ag af b.eI,ag af b.iO,ag af b.ll,ag af b.lm,ag af b.pl,ag af b.pm,ae pm lm cm,ae pn ln cn,ae pk lk ck,ae none 0 0] 122)).heap.size=wo.heap.size+1:=sM;clear hb2 ho2;go_wp2
    go_loopw [9,11,40] (fun v9 _ i wr=>∃j:Nat,j<=lm/\i=ag af j/\wr.ownsRow (wo.heap.size+1) 3 1 v9 (dZ j M).length ((dZ j M).map fun(i:Nat)=>aD af (i:Int))/\Below (wo.heap.size+1) (wo.alloc (au #[ag af b.room,ag af b.depth,ag af b.least,ag af b.minutes,ag af b.bS,ag af b.iU,ag af b.eI,ag af b.iO,ag af b.ll,ag af b.lm,ag af b.pl,ag af b.pm,ae pm lm cm,ae pn ln cn,ae pk lk ck,ae none 0 0] 122)) wr) (fun _ _ i _=>lm-(intOf i).toNat)
    case atStart=>exact⟨0,gD _,sM,dG _ _ _ _,aB _ _⟩
    case round=>
     obtain⟨j,hj,rfl,hown,zn⟩:=hrel;have hqs:=zn.size;rw[aez] at hqs;have hcl:=qY j M;have hM5:M<512:=Nat.lt_of_lt_of_le hlt (aF hN8 dC)
     by_cases NI:j<lm
     .cases hb:M.testBit j
      .have e1:dZ (j+1) M=dZ j M:=by rw[rV,hb];simp
       have Sx:=xm M j hM5;rw[hb] at Sx;have H1:=ai e1;clear e1;go_wp2;go_roundw
       case rel=>exact⟨j+1,oM,sM,by rw[H1.out];exact hown,zn⟩
       case measure=>simp[intOf];omega
      have e1:dZ (j+1) M=dZ j M++[j]:=by rw[rV,hb];simp
      have Sx:=xm M j hM5;rw[hb] at Sx;have H1:=ai e1
      have WA:Hid (∀(i:Nat) (u:aj),([ag af (j:Int)]:List aj)[i]?=some u->(wr.alloc (au #[ag af (j:Int)] 3)).cell? ((⟨wr.heap.size,0,none⟩:cX).add i)=some u):=ai fun i u hj=>by
       match i,hj with
       |0,hj=>simp at hj;subst hj;simp[jP]
      clear e1
      go_wp2_with (at_builtin;refine wpList_append_own _ rfl _ _ 25 rfl (wo.heap.size+1) 3 i0 (ag af 0) 1 8 ek hi hz0 hz1 hz2 rfl dC u9 _ _ rfl (hown.alloc _) ⟨wr.heap.size,0,none⟩ 1 1 [ag af (j:Int)] rfl rfl WA.out (by simp[cD]) (by unfold maxLen;omega) oM sO ?_;intro v' w3 Fh hgrow hnil)
      go_roundw
      case rel=>exact⟨j+1,oM,sM,by rw[H1.out,List.length_append,eF];exact Fh,qz oM hown zn hgrow⟩
      case measure=>simp[intOf];omega
     obtain rfl:lm=j:=oM;rename ak=>wc;obtain⟨p9,c9,rfl⟩:=dw hown;have Z7:Bw wo wc:=nS.out.trans (zn.mono sM);have hoc:wc.heap[wo.heap.size]?=some (au #[ag af b.room,ag af b.depth,ag af b.least,ag af b.minutes,ag af b.bS,ag af b.iU,ag af b.eI,ag af b.iO,ag af b.ll,ag af b.lm,ag af b.pl,ag af b.pm,ae pm lm cm,ae pn ln cn,ae pk lk ck,ae none 0 0] 122 (0,0)):=(zn.block _ sM).trans HO2.out;have anY:=aK (Ht.out wc Z7).1 15 (ae (some ⟨gv,0,none⟩) L cv) rfl;have ap4:=cZ (Ht.out wc Z7).1 15;have ak2:=ai hown;have HBc:=ai Z7;have HOc:=ai hoc;have hcs:wo.heap.size+1<=wc.heap.size:=hqs;have hCb:∀i∈dZ lm M,i<lm:=fun i hi=>by simp[dZ] at hi;exact hi.1
     have SC:=qY lm M;unfold FM uY at Wy;clear hown zn Z7 hoc y0 y1 y2 y3 y4 y5 y6 y7 y8 y9 NS PW PV PU KX Jd z12 aj_ hqs;go_wp2;generalize dZ lm M=C at *
     go_loopw [13,14,16,56] (fun _ _ _ i wr=>∃(j:Nat) (Ts:Option cX) (c15:Nat),j<=L/\i=ag af j/\wr.heap[wo.heap.size]?=some (au #[ag af b.room,ag af b.depth,ag af b.least,ag af b.minutes,ag af b.bS,ag af b.iU,ag af b.eI,ag af b.iO,ag af b.ll,ag af b.lm,ag af b.pl,ag af b.pm,ae pm lm cm,ae pn ln cn,ae pk lk ck,ae Ts j c15] 122 (0,0))/\wr.ownsRow (wo.heap.size+1) 134 4 (ae Ts j c15) j (rowOf ((all.take j).map fun a=>a.only C))/\wr.ownsRow (wo.heap.size+1) 3 1 (ae p9 C.length c9) C.length (C.map fun(i:Nat)=>aD af (i:Int))/\Bw wo wr) (fun _ _ _ i _=>L-(intOf i).toNat)
     case atStart=>exact⟨0,none,0,gD _,sM,HOc.out,dG _ _ _ _,ak2.out,HBc.out⟩
     case round=>
      obtain⟨j,Ts,c15,hj,rfl,Xg,Mp,Qu,zn⟩:=hrel;have hqs:=zn.size
      by_cases NI:j<L
      .rename ak=>wj;have J9:j<all.length:=by rw[HL.out];exact NI
       obtain⟨c0,c1,c2,c3⟩:=Reads.cell (w:=wj) (cap:=cv) (n:=L) (Ht.out wj zn).2.2 j J9;simp only[dh] at c0 c1 c2 c3;have hao:=Tr.out _ (bQ J9);have sY:(all.take (j+1)).map (fun a=>a.only C)=(all.take j).map (fun a=>a.only C)++[all[j].only C]:=by rw[bO J9,eF];rfl
       have HTk:=ai sY;have Tq:=ai zn;have HOj:=ai Xg;have HOA:=ai Mp;have HOC:=ai Qu;have HAk:=ai hao;clear sY zn Xg Mp Qu hao;generalize all[j]=a at *;go_wp2;have hWs:((wj.alloc (au a.cells 134)).alloc (au (⟨a.leak,0,0,0⟩:dS).cells 134)).heap.size=wj.heap.size+2:=sM;have hAw:((wj.alloc (au a.cells 134)).alloc (au (⟨a.leak,0,0,0⟩:dS).cells 134)).heap[wj.heap.size]?=some (au a.cells 134 (0,0)):=(aZ _ _ _ sM).trans (az wj _)
       have hKw:((wj.alloc (au a.cells 134)).alloc (au (⟨a.leak,0,0,0⟩:dS).cells 134)).heap[wj.heap.size+1]?=some (au (⟨a.leak,0,0,0⟩:dS).cells 134 (0,0)):=by
        have:=az (wj.alloc (au a.cells 134)) (au (⟨a.leak,0,0,0⟩:dS).cells 134);simpa using this
       have KR:Bw wj ((wj.alloc (au a.cells 134)).alloc (au (⟨a.leak,0,0,0⟩:dS).cells 134)):=dx.alloc sM _;have HAw:=ai hAw;have HKw:=ai hKw;have HbW:=ai KR;clear hAw hKw KR c0 c1 c2 c3
       go_loopw [16,65] (fun _ i wr=>∃t:Nat,t<=C.length/\i=ag af t/\wr.heap[wj.heap.size+1]?=some (au ((C.take t).foldl (fun k i=>k.put i (a.get i)) (⟨a.leak,0,0,0⟩:dS)).cells 134 (0,0))/\Below (wj.heap.size+1) ((wj.alloc (au a.cells 134)).alloc (au (⟨a.leak,0,0,0⟩:dS).cells 134)) wr) (fun _ i _=>C.length-(intOf i).toNat)
       case atStart=>exact⟨0,gD _,sM,HKw.out,aB _ _⟩
       case round=>
        obtain⟨t,ht,rfl,Qv,htx⟩:=hrel;have hts:=htx.size;rw[hWs] at hts;have Sx:Bw wj wr:=HbW.out.trans (htx.mono sM);have hAt:=(htx.block wj.heap.size sM).trans HAw.out;have hCt:=bP HOC.out Sx;have HTx:=ai htx;have HBt:=ai Sx;have HKt:=ai Qv
        by_cases KP:t<C.length
        .obtain⟨g9,rfl⟩:∃g9,p9=some ⟨g9,0,none⟩:=by
          rcases hCt.2 with⟨h1,h2⟩|⟨g,cap,cur,h1,_⟩
          .exfalso;simp at h1;omega
          exact⟨g,by simp at h1;exact h1.1⟩
         have hci:=hCt.cells (g:=g9) rfl t (ag af (C[t]:Nat)) (by simp[eQ KP]);have e9:(⟨g9,0,none⟩:cX).add t=⟨g9,t,none⟩:=by cases t<;>simp[jP]
         rw[e9] at hci;have hi3:C[t]<3:=by have:=hCb _ (bQ KP);omega
         have hfo:(C.take (t+1)).foldl (fun k i=>k.put i (a.get i)) (⟨a.leak,0,0,0⟩:dS)=((C.take t).foldl (fun k i=>k.put i (a.get i)) (⟨a.leak,0,0,0⟩:dS)).put C[t] (a.get C[t]):=by rw[bO KP,List.foldl_append];rfl
         have HFo:=ai hfo;generalize (C.take t).foldl (fun k i=>k.put i (a.get i)) (⟨a.leak,0,0,0⟩:dS)=kk at *;generalize C[t]=i at *
         have hx1:wr.cell? ⟨wj.heap.size,1+i,none⟩=some (ag af (a.get i)):=by
          match i,hi3 with
          |0,_=>exact aK hAt 1 _ rfl
          |1,_=>exact aK hAt 2 _ rfl
          |2,_=>exact aK hAt 3 _ rfl
         have hx2:wr.cell? ⟨wj.heap.size+1,1+i,none⟩=some (ag af (kk.get i)):=by
          match i,hi3 with
          |0,_=>exact aK Qv 1 _ rfl
          |1,_=>exact aK Qv 2 _ rfl
          |2,_=>exact aK Qv 3 _ rfl
         have hx3:=cZ Qv (1+i);have hst:=QM i hi3 (a.get i) Qv;have HSe:=ai hst;clear hst hfo htx Sx hAt hCt Qv e9;go_wp2;go_roundw
         case rel=>exact⟨t+1,oM,sM,by rw[HFo.out];exact HSe.out,HTx.out.setCell (p:=⟨wj.heap.size+1,1+i,none⟩) (aO _) _⟩
         case measure=>simp[intOf];omega
        obtain rfl:C.length=t:=oM;have s5:(C.take C.length).foldl (fun k i=>k.put i (a.get i)) (⟨a.leak,0,0,0⟩:dS)=a.only C:=by rw[Hz];rfl
        rw[s5] at Qv;have HKt:=ai Qv;generalize a.only C=kk at *;have k0:=aK Qv 0 (ag af kk.leak) rfl;have k1:=aK Qv 1 (ag af kk.m0) rfl;have k2:=aK Qv 2 (ag af kk.m1) rfl;have k3:=aK Qv 3 (ag af kk.m2) rfl;have U7:wr.heap[wo.heap.size]?=some (au #[ag af b.room,ag af b.depth,ag af b.least,ag af b.minutes,ag af b.bS,ag af b.iU,ag af b.eI,ag af b.iO,ag af b.ll,ag af b.lm,ag af b.pl,ag af b.pm,ae pm lm cm,ae pn ln cn,ae pk lk ck,ae Ts j c15] 122 (0,0)):=(Sx.block _ (ah.1 HOj.out).1).trans HOj.out;have hAA:=bP HOA.out Sx;have hol:=(ah.1 U7).1;have Jd:=aK U7 15 (ae Ts j c15) rfl
        have WA:Hid (∀(i:Nat) (u:aj),kk.cells.toList[i]?=some u->(wr.alloc (au kk.cells 134)).cell? ((⟨wr.heap.size,0,none⟩:cX).add i)=some u):=ai fun i u hj=>by
         have:=az wr (au kk.cells 134);have h5:=aK this i u (by simpa using hj);have e:(⟨wr.heap.size,0,none⟩:cX).add i=⟨wr.heap.size,i,none⟩:=by cases i<;>simp[jP]
         rw[e];exact h5
        have KI:=ai hCt;have HAA:=ai hAA;have HOt:=ai U7;have Z6:wo.heap.size+1<=wr.heap.size:=oM;clear Qv htx Sx hAt hCt s5 U7
        go_wp2_with (first
         |(at_builtin;refine wpList_append_own _ rfl _ _ 120 rfl (wo.heap.size+1) 134 i1 (aR #[ag af 0,ag af 0,ag af 0,ag af 0]) 4 32 Tryz.underlying120 AY Ml hy1 hy2 rfl dC (ae Ts j c15) j (rowOf ((all.take j).map fun a=>a.only C)) rfl (hAA.alloc (au kk.cells 134)) ⟨wr.heap.size,0,none⟩ 1 1 kk.cells.toList rfl rfl WA.out (by simp[cD]) (by unfold maxLen;omega) oM (by first|omega|(simp;omega)) ?_;intro v' w5 U6 hgrow hnil
           obtain⟨p16,c16,rfl⟩:=dw U6;have ho5:w5.heap[wo.heap.size]?=some (au #[ag af b.room,ag af b.depth,ag af b.least,ag af b.minutes,ag af b.bS,ag af b.iU,ag af b.eI,ag af b.iO,ag af b.ll,ag af b.lm,ag af b.pl,ag af b.pm,ae pm lm cm,ae pn ln cn,ae pk lk ck,ae Ts j c15] 122 (0,0)):=(hgrow.block _ sO (ko hAA HOt.out dC)).trans ((aZ _ _ _ hol).trans HOt.out);have hC5:=eN (W':=w5) (KI.out.alloc (au kk.cells 134)) fun g hg=>hgrow.block g ((KI.out.alloc (au kk.cells 134)).lt g hg).2 (zK KI.out hAA dC hg);have HO5:=ai ho5;have HC5:=ai hC5;have HW5:=ai U6;have HG5:=ai hgrow;have f15:=cZ ho5 15;have z15:=aK ho5 15 (ae Ts j c15) rfl
           clear ho5 hC5 U6 hgrow hnil))
        go_roundw
        case rel=>
         refine⟨j+1,p16,c16,oM,sM,dc _ HO5.out,?_,dm HC5.out HO5.out dC,(((Tq.out.trans (HBt.out.mono hqs)).alloc oM _).grown HG5.out sO (fun g hg=>by have:=(HAA.out.lt g hg).1;omega)).setCell (p:=⟨wo.heap.size,15,none⟩) (aO _) _⟩;rw[HTk.out,EB];exact dm HW5.out HO5.out dC
        case measure=>simp[intOf];omega
      obtain rfl:L=j:=oM;rename ak=>wd;have sY:all.take L=all:=List.take_of_length_le (by rw[HL.out];exact aO _);rw[sY] at Mp;have hall:(all.map fun a=>a.only C).length=L:=by rw[fC];exact HL.out
      have hrA:Reads wd (ae Ts L c15) (all.map fun a=>a.only C).length (rowOf (all.map fun a=>a.only C)):=by
       rw[hall];exact Reads.iA Mp oM (by rw[Rv,hall];omega)
      have hrC:Reads wd (ae p9 C.length c9) (C.map fun(i:Nat)=>(i:Int)).length ((C.map fun(i:Nat)=>(i:Int)).map (aD af)):=by
       have h1:=Reads.iA Qu oM sM;rw[fC,List.map_map];exact h1
      have hSu:=fun W (hb:Bw wd W)=>yo b hok (ae pm lm cm) (ae pn ln cn) (ae pk lk ck) (ae Ts L c15) (all.map fun a=>a.only C) (fun a ha=>by
       obtain⟨x,hx,rfl⟩:=dn.1 ha
       exact dS.XZ (Tr.out x hx) C) (bJ pl) DW W (hrA.below hb)
      have hrL:Reads wd (ae p4 lc.length c4) lc.length (lc.map (aD af)):=HR4.out.below zn;have hpl:Reads wd (ae qJ pl.length qX) pl.length (pl.map (aD af)):=KU.out.below (Gj.out.trans ((yh.out.mono Gj.out.size).trans (zn.mono (by have:=Gj.out.size;omega))));have hcm:=fun W (hb:Bw wd W)=>rX (C.map fun(i:Nat)=>(i:Int)) lc (ae p9 C.length c9) (ae p4 lc.length c4) W (hrC.below hb) (hrL.below hb);have Sj:=fun W (hb:Bw wd W)=>kH pl Zo.out (ae qJ pl.length qX) W (hpl.below hb);have HSu:=ai hSu;have HCm:=ai hcm;have HPo:=ai Sj;have HRC:=ai hrC;have HRL:=ai hrL;have HQd:=ai zn;have HOd:=ai Xg;clear hSu hcm Sj hrC hrL hrA hpl zn Xg Mp Qu sY hall;unfold FL at Wy;obtain⟨g12,YM⟩:∃r,decide ((C.length:Int)>lc.length)=r:=⟨_,rfl⟩
      obtain⟨g20,h20⟩:∃r,((C.length:Int)==(lc.length:Int))=r:=⟨_,rfl⟩
      obtain⟨QK,h24⟩:∃r,decide (j9 (C.map fun(i:Nat)=>(i:Int)) lc<0)=r:=⟨_,rfl⟩
      simp only[fC] at Wy;rw[YM,h20,h24] at Wy;generalize b.sure (all.map fun a=>a.only C) (bJ pl)=bs at *;go_wp2
      refine Gd.cy kQ [
      pV (aR (b.open (ae pm lm cm) (ae pn ln cn) (ae pk lk ck) (ae Ts L c15))),
       pV (ae qJ pl.length qX),
       pV (ag af (bJ pl)),
       pV (aI bs),
       pV (aI bs),
       fun v ds w9=>bs=true->v=aI f,
       fun v ds w9=>bs=true->v=aI (!f),
       pV ((if bs=true then nU (!f) else aw)),
       fun v ds w9=>(bs && !(!f))=true->v=ae p9 C.length c9,
       fun v ds w9=>(bs && !(!f))=true->v=ag af C.length,
       fun v ds w9=>(bs && !(!f))=true->v=ae p4 lc.length c4,
       fun v ds w9=>(bs && !(!f))=true->v=ag af lc.length,
       fun v ds w9=>(bs && !(!f))=true->v=aI g12,
       fun v ds w9=>bs=true->v=aI (!f||g12),
       pV ((if bs=true then nU (!f||g12) else aw)),
       fun v ds w9=>(bs && !(!f||g12))=true->v=ae p9 C.length c9,
       fun v ds w9=>(bs && !(!f||g12))=true->v=ag af C.length,
       fun v ds w9=>(bs && !(!f||g12))=true->v=ae p4 lc.length c4,
       fun v ds w9=>(bs && !(!f||g12))=true->v=ag af lc.length,
       fun v ds w9=>(bs && !(!f||g12))=true->v=aI g20,
       pV ((if (bs && !(!f||g12))=true then nU g20 else aw)),
       fun v ds w9=>((bs && !(!f||g12))&&g20)=true->v=ae p9 C.length c9,
       fun v ds w9=>((bs && !(!f||g12))&&g20)=true->v=ae p4 lc.length c4,
       fun v ds w9=>((bs && !(!f||g12))&&g20)=true->v=ag af (j9 (C.map fun(i:Nat)=>(i:Int)) lc),
       fun v ds w9=>((bs && !(!f||g12))&&g20)=true->v=aI QK,
       fun v ds w9=>(bs && !(!f||g12))=true->v=aI (g20&&QK),
       fun v ds w9=>bs=true->v=aI ((!f||g12)||(g20&&QK)),
       pV (aI (bs&&((!f||g12)||(g20&&QK))))]
       (fun w9=>Bw wd w9) [(1,ae qJ pl.length qX),(4,ae p4 lc.length c4),(5,aI f),(9,ae p9 C.length c9),(10,pv wo.heap.size 0)] kQ ?rst (fun w1 w2 h hb=>h.trans (hb.mono h.size)) ((aB _ _).drew) ⟨rfl,rfl,rfl,rfl,rfl,trivial⟩ ?reach ?rfin
      case rst=>
       refine⟨sV,sV,sV,sV,sV,kS,kS,sV,kS,kS,kS,kS,kS,kS,sV,kS,kS,kS,kS,kS,sV,kS,kS,kS,kS,kS,kS,sV,trivial⟩
      case reach=>
       refine⟨?_,?_,?_,?_,?_,?_,?_,?_,?_,?_,?_,?_,?_,?_,?_,?_,?_,?_,?_,?_,?_,?_,?_,?_,?_,?_,?_,?_,trivial⟩<;>rintro ev w1 hS hc hg hf ⟨b1,b4,b5,b9,xK,-⟩ hd
       .have q:=(Below.block hS _ (ah.1 HOd.out).1).trans HOd.out;exact E5 122 rfl xK q Tryz.underlying122 rfl kQ (rfl)
       .exact tV
       .have d1:ev (aL 85)=_:=hd.1 rfl;refine yq (args:=#[ae qJ pl.length qX]) (HPo.out _ hS) ?_ fun _=>rfl;go_simp
       .have d0:ev (aL 84)=_:=hd.1 rfl;have d2:ev (aL 86)=_:=hd.2.1 rfl;refine yc (args:=#[aR (b.open (ae pm lm cm) (ae pn ln cn) (ae pk lk ck) (ae Ts L c15)),ag af (bJ pl)]) (HSu.out _ hS) ?_ fun _=>rfl;go_simp
       .have d3:ev (aL 87)=_:=hd.1 rfl;exact tV
       .have d4:ev (aL 88)=_:=hd.1 rfl;refine⟨fun hgd=>?_,fun hgd=>⟨?_,cJ (aB _ _)⟩⟩
        .have hA:=gA.1 (d4.symm.trans hgd);refine yv (v:=(aI f:aj)) ?_ (fun _=>rfl);go_simp
        intro hc;exact absurd (d4.trans (gA.2 hc)) hgd
       .have d5:bs=true->(ev (aL 89))=aI f:=hd.1 rfl;have d4:ev (aL 88)=_:=hd.2.1 rfl;refine⟨fun hgd=>?_,fun hgd=>⟨?_,cJ (aB _ _)⟩⟩
        .have hA:=gA.1 (d4.symm.trans hgd);have y5:=d5 hA;refine yv (v:=(aI (!f):aj)) ?_ (fun _=>rfl);go_simp
        intro hc;exact absurd (d4.trans (gA.2 hc)) hgd
       .have d6:bs=true->(ev (aL 90))=aI (!f):=hd.1 rfl;have d4:ev (aL 88)=_:=hd.2.1 rfl;refine⟨fun hgd=>?_,fun hgd=>⟨?_,cJ (aB _ _)⟩⟩
        .have hA:=gA.1 (d4.symm.trans hgd);have y6:=d6 hA;refine yv (v:=aI (!f)) ?_ ((if_pos hA).symm);go_simp
        exact(if_neg (fun hc=>absurd (d4.trans (gA.2 hc)) hgd)).symm
       .have d7:ev (aL 91)=_:=hd.1 rfl;refine⟨fun hgd=>?_,fun hgd=>⟨?_,cJ (aB _ _)⟩⟩
        .have hA:=gB.1 (d7.symm.trans hgd);refine yv (v:=(ae p9 C.length c9:aj)) ?_ (fun _=>rfl);go_simp
        intro hc;exact absurd (d7.trans (gB.2 hc)) hgd
       .have d8:(bs && !(!f))=true->(ev (aL 92))=ae p9 C.length c9:=hd.1 rfl;have d7:ev (aL 91)=_:=hd.2.1 rfl;refine⟨fun hgd=>?_,fun hgd=>⟨?_,cJ (aB _ _)⟩⟩
        .have hA:=gB.1 (d7.symm.trans hgd);have y8:=d8 hA;refine yv (v:=(ag af C.length:aj)) ?_ (fun _=>rfl);go_simp
        intro hc;exact absurd (d7.trans (gB.2 hc)) hgd
       .have d7:ev (aL 91)=_:=hd.1 rfl;refine⟨fun hgd=>?_,fun hgd=>⟨?_,cJ (aB _ _)⟩⟩
        .have hA:=gB.1 (d7.symm.trans hgd);refine yv (v:=(ae p4 lc.length c4:aj)) ?_ (fun _=>rfl);go_simp
        intro hc;exact absurd (d7.trans (gB.2 hc)) hgd
       .have d10:(bs && !(!f))=true->(ev (aL 94))=ae p4 lc.length c4:=hd.1 rfl;have d7:ev (aL 91)=_:=hd.2.1 rfl;refine⟨fun hgd=>?_,fun hgd=>⟨?_,cJ (aB _ _)⟩⟩
        .have hA:=gB.1 (d7.symm.trans hgd);have NS:=d10 hA;refine yv (v:=(ag af lc.length:aj)) ?_ (fun _=>rfl);go_simp
        intro hc;exact absurd (d7.trans (gB.2 hc)) hgd
       .have d9:(bs && !(!f))=true->(ev (aL 93))=ag af C.length:=hd.1 rfl;have d11:(bs && !(!f))=true->(ev (aL 95))=ag af lc.length:=hd.2.1 rfl;have d7:ev (aL 91)=_:=hd.2.2.1 rfl;refine⟨fun hgd=>?_,fun hgd=>⟨?_,cJ (aB _ _)⟩⟩
        .have hA:=gB.1 (d7.symm.trans hgd);have y9:=d9 hA;have PW:=d11 hA;refine yv (v:=aI g12) ?_ (fun _=>rfl);rw[<-YM];go_simp
        intro hc;exact absurd (d7.trans (gB.2 hc)) hgd
       .have d7:ev (aL 91)=_:=hd.1 rfl;have d12:(bs && !(!f))=true->(ev (aL 96))=aI g12:=hd.2.1 rfl;have d4:ev (aL 88)=_:=hd.2.2.1 rfl;refine⟨fun hgd=>?_,fun hgd=>⟨?_,cJ (aB _ _)⟩⟩
        .have hA:=gA.1 (d4.symm.trans hgd);rcases Bool.eq_false_or_eq_true f with hf|hf
         .have y7:ev (aL 91)=aI false:=by rw[d7,if_pos hA,hf];rfl
          clear d7;have PV:=d12 (by rw[hA,hf];rfl);refine yv (v:=aI g12) ?_ (fun _=>by rw[hf];simp);go_simp
         have y7:ev (aL 91)=aI true:=by rw[d7,if_pos hA,hf];rfl
         clear d7;refine yv (v:=aI true) ?_ (fun _=>by rw[hf];simp);go_simp
        intro hc;exact absurd (d4.trans (gA.2 hc)) hgd
       .have d13:bs=true->(ev (aL 97))=aI (!f||g12):=hd.1 rfl;have d4:ev (aL 88)=_:=hd.2.2.1 rfl;refine⟨fun hgd=>?_,fun hgd=>⟨?_,cJ (aB _ _)⟩⟩
        .have hA:=gA.1 (d4.symm.trans hgd);have PU:=d13 hA;refine yv (v:=aI (!f||g12)) ?_ ((if_pos hA).symm);go_simp
        exact(if_neg (fun hc=>absurd (d4.trans (gA.2 hc)) hgd)).symm
       .have d14:ev (aL 98)=_:=hd.1 rfl;refine⟨fun hgd=>?_,fun hgd=>⟨?_,cJ (aB _ _)⟩⟩
        .have hA:=gB.1 (d14.symm.trans hgd);refine yv (v:=(ae p9 C.length c9:aj)) ?_ (fun _=>rfl);go_simp
        intro hc;exact absurd (d14.trans (gB.2 hc)) hgd
       .have d15:(bs && !(!f||g12))=true->(ev (aL 99))=ae p9 C.length c9:=hd.1 rfl;have d14:ev (aL 98)=_:=hd.2.1 rfl;refine⟨fun hgd=>?_,fun hgd=>⟨?_,cJ (aB _ _)⟩⟩
        .have hA:=gB.1 (d14.symm.trans hgd);have Jd:=d15 hA;refine yv (v:=(ag af C.length:aj)) ?_ (fun _=>rfl);go_simp
        intro hc;exact absurd (d14.trans (gB.2 hc)) hgd
       .have d14:ev (aL 98)=_:=hd.1 rfl;refine⟨fun hgd=>?_,fun hgd=>⟨?_,cJ (aB _ _)⟩⟩
        .have hA:=gB.1 (d14.symm.trans hgd);refine yv (v:=(ae p4 lc.length c4:aj)) ?_ (fun _=>rfl);go_simp
        intro hc;exact absurd (d14.trans (gB.2 hc)) hgd
       .have d17:(bs && !(!f||g12))=true->(ev (aL 101))=ae p4 lc.length c4:=hd.1 rfl;have d14:ev (aL 98)=_:=hd.2.1 rfl;refine⟨fun hgd=>?_,fun hgd=>⟨?_,cJ (aB _ _)⟩⟩
        .have hA:=gB.1 (d14.symm.trans hgd);have y17:=d17 hA;refine yv (v:=(ag af lc.length:aj)) ?_ (fun _=>rfl);go_simp
        intro hc;exact absurd (d14.trans (gB.2 hc)) hgd
       .have d16:(bs && !(!f||g12))=true->(ev (aL 100))=ag af C.length:=hd.1 rfl;have d18:(bs && !(!f||g12))=true->(ev (aL 102))=ag af lc.length:=hd.2.1 rfl;have d14:ev (aL 98)=_:=hd.2.2.1 rfl;refine⟨fun hgd=>?_,fun hgd=>⟨?_,cJ (aB _ _)⟩⟩
        .have hA:=gB.1 (d14.symm.trans hgd);have y16:=d16 hA;have y18:=d18 hA;refine yv (v:=aI g20) ?_ (fun _=>rfl);rw[<-h20];go_simp
        intro hc;exact absurd (d14.trans (gB.2 hc)) hgd
       .have d19:(bs && !(!f||g12))=true->(ev (aL 103))=aI g20:=hd.1 rfl;have d14:ev (aL 98)=_:=hd.2.1 rfl;refine⟨fun hgd=>?_,fun hgd=>⟨?_,cJ (aB _ _)⟩⟩
        .have hA:=gB.1 (d14.symm.trans hgd);have y19:=d19 hA;refine yv (v:=aI g20) ?_ ((if_pos hA).symm);go_simp
        exact(if_neg (fun hc=>absurd (d14.trans (gB.2 hc)) hgd)).symm
       .have d20:ev (aL 104)=_:=hd.1 rfl;refine⟨fun hgd=>?_,fun hgd=>⟨?_,cJ (aB _ _)⟩⟩
        .have hA:=gCw.1 (d20.symm.trans hgd);refine yv (v:=(ae p9 C.length c9:aj)) ?_ (fun _=>rfl);go_simp
        intro hc;exact absurd (d20.trans (gCw.2 hc)) hgd
       .have d20:ev (aL 104)=_:=hd.1 rfl;refine⟨fun hgd=>?_,fun hgd=>⟨?_,cJ (aB _ _)⟩⟩
        .have hA:=gCw.1 (d20.symm.trans hgd);refine yv (v:=(ae p4 lc.length c4:aj)) ?_ (fun _=>rfl);go_simp
        intro hc;exact absurd (d20.trans (gCw.2 hc)) hgd
       .have d21:((bs && !(!f||g12))&&g20)=true->(ev (aL 105))=ae p9 C.length c9:=hd.1 rfl;have d22:((bs && !(!f||g12))&&g20)=true->(ev (aL 106))=ae p4 lc.length c4:=hd.2.1 rfl;have d20:ev (aL 104)=_:=hd.2.2.1 rfl;refine⟨fun hgd=>?_,fun hgd=>⟨?_,cJ (aB _ _)⟩⟩
        .have hA:=gCw.1 (d20.symm.trans hgd);have y21:=d21 hA;have y22:=d22 hA;refine jO (f:=98) (args:=#[ae p9 C.length c9,ae p4 lc.length c4]) ?_ (HCm.out _ hS) ?_
         .go_simp
         rintro e w2 ⟨rfl,rfl⟩;exact⟨_,rfl,fun _=>rfl,cJ (aB _ _)⟩
        intro hc;exact absurd (d20.trans (gCw.2 hc)) hgd
       .have d23:((bs && !(!f||g12))&&g20)=true->(ev (aL 107))=ag af (j9 (C.map fun(i:Nat)=>(i:Int)) lc):=hd.1 rfl;have d20:ev (aL 104)=_:=hd.2.1 rfl;refine⟨fun hgd=>?_,fun hgd=>⟨?_,cJ (aB _ _)⟩⟩
        .have hA:=gCw.1 (d20.symm.trans hgd);have y23:=d23 hA;refine yv (v:=aI QK) ?_ (fun _=>rfl);rw[<-h24];go_simp
        intro hc;exact absurd (d20.trans (gCw.2 hc)) hgd
       .have d20:ev (aL 104)=_:=hd.1 rfl;have d24:((bs && !(!f||g12))&&g20)=true->(ev (aL 108))=aI QK:=hd.2.1 rfl;have d14:ev (aL 98)=_:=hd.2.2.1 rfl;refine⟨fun hgd=>?_,fun hgd=>⟨?_,cJ (aB _ _)⟩⟩
        .have hA:=gB.1 (d14.symm.trans hgd);have y20:ev (aL 104)=aI g20:=by rw[d20,if_pos hA]
         clear d20;rcases Bool.eq_false_or_eq_true g20 with hf|hf
         .have y24:=d24 (by rw[hA,hf];rfl);rw[hf] at y20;refine yv (v:=aI QK) ?_ (fun _=>by rw[hf];simp);go_simp
         rw[hf] at y20;refine yv (v:=aI false) ?_ (fun _=>by rw[hf];simp);go_simp
        intro hc;exact absurd (d14.trans (gB.2 hc)) hgd
       .have d14:ev (aL 98)=_:=hd.1 rfl;have d25:(bs && !(!f||g12))=true->(ev (aL 109))=aI (g20&&QK):=hd.2.1 rfl;have d4:ev (aL 88)=_:=hd.2.2.1 rfl;refine⟨fun hgd=>?_,fun hgd=>⟨?_,cJ (aB _ _)⟩⟩
        .have hA:=gA.1 (d4.symm.trans hgd);have KX:ev (aL 98)=aI (!f||g12):=by rw[d14,if_pos hA]
         clear d14;rcases Bool.eq_false_or_eq_true (!f||g12) with hf | hf
         .rw[hf] at KX;refine yv (v:=aI true) ?_ (fun _=>by rw[hf];simp);go_simp
         have y25:=d25 (by rw[hA,hf];rfl);rw[hf] at KX;refine yv (v:=aI (g20&&QK)) ?_ (fun _=>by rw[hf];simp);go_simp
        intro hc;exact absurd (d4.trans (gA.2 hc)) hgd
       have d4:ev (aL 88)=_:=hd.1 rfl;have d26:bs=true->(ev (aL 110))=aI ((!f||g12)||(g20&&QK)):=hd.2.1 rfl;rcases Bool.eq_false_or_eq_true bs with hf|hf
       .have y26:=d26 hf;have y4:ev (aL 88)=aI true:=d4.trans (gA.2 hf);refine yv (v:=aI ((!f||g12)||(g20&&QK))) ?_ (by show _=nU _;rw[hf];simp);go_simp
       have y4:ev (aL 88)=aI false:=d4.trans (by rw[hf]);refine yv (v:=aI false) ?_ (by show _=nU _;rw[hf];simp);go_simp
      case rfin=>
       intro a3 w3 hR;have hS:=hR.s;have e27:a3.tmps.getD 111 aw=_:=hR.val 27;have ha:=hR.lits 116 rfl;simp only[aS,cA,nh] at ha;rw[hR.kp 0,hR.kp 1,hR.kp 2,hR.kp 3,hR.kp 4,hR.kp 5,hR.kp 6,hR.kp 7,hR.kp 8,hR.kp 9,hR.kp 10,hR.kp 12,hR.kp 15,hR.kp 17,hR.kp 18,hR.kp 19,hR.kp 20,hR.kp 21,hR.kp 22,hR.kp 23,hR.kp 24,hR.kp 25,hR.kp 26,hR.kp 27,hR.kp 28,hR.kp 29,hR.kp 30,hR.kp 31,hR.kp 114,hR.kp 115] at ha;simp only[kY,gI,gH] at ha;clear hR;rw[e27] at ha;generalize a3.tmps.getD=zz at ha;have pF:=ai hS;clear e27 hS;subst ha;obtain⟨r,hr⟩:∃r,(bs&&((!f||g12)||(g20&&QK)))=r:=⟨_,rfl⟩
       rw[hr] at Wy;rw[hr];clear hr;have akY:=ai (HRL.out.below pF.out);have akX:=ai (HRC.out.below pF.out);have HBf:=ai (yh.out.trans ((HQd.out.trans (pF.out.mono HQd.out.size)).mono hsz));cases r
       .have hs:iY b all (bJ pl) lm (M+1)=(lc,f):=by rw[Wy.out];rfl
        have HS:=ai hs;clear hs;go_wp2;go_roundw
        case rel=>
         refine⟨M+1,p4,c4,oM,sM,?_,?_,?_,HBf.out⟩
         .rw[HS.out]
         .rw[HS.out]
         rw[HS.out];exact akY.out
        case measure=>simp[intOf];omega
       have hs:iY b all (bJ pl) lm (M+1)=(C.map fun(i:Nat)=>(i:Int),true):=by rw[Wy.out];rfl
       have HS:=ai hs;clear hs;go_wp2;go_roundw
       case rel=>
        refine⟨M+1,p9,c9,oM,sM,?_,?_,?_,HBf.out⟩
        .rw[HS.out]
        .rw[HS.out];simp
        rw[HS.out];have:=akX.out;simp only[fC] at this ⊢;exact this
       case measure=>simp[intOf];omega
   obtain rfl:N=M:=oM;have HN1:=ai eh;have HR1:=ai hr4;clear eh hr4;rw[HN0.out] at HR1;go_wp2
   go_ret3
   exact⟨ae p4 (iY b all (bJ pl) lm N).1.length c4,by rw[<-HN0.out];rfl,by rw[<-HN0.out] at HR1 ⊢;exact HR1.out,Gj.out.trans (HN1.out.mono Gj.out.size)⟩
def AP(b:BB):∀(xs:List Int) (k:Nat),ij b xs k<0↔∀x∈xs,b.least<=b.xg x
 |[],k=>by simp[ij]
 |x::xs,k=>by
  unfold ij
  by_cases h:b.xg x<b.least
  .rw[if_pos h];constructor
   .intro h1;omega
   intro h1;have:=h1 x sM;omega
  rw[if_neg h,AP b xs (k+1)];constructor
  .intro h1 y hy;rcases cj.1 hy with rfl|hy
   .omega
   exact h1 y hy
  exact fun h1 y hy=>h1 y (bT _ hy)
def Za(b:BB)(u:Int)(p:Nat):b.bad u p<=0↔∀i,i<b.minutes.toNat->b.least<=b.xg (b.rj u p (i+1)):=by
 unfold BB.bad;rw[show(1+ij b (b.js u p b.minutes.toNat) 0<=0)↔ij b (b.js u p b.minutes.toNat) 0<0 by omega,AP];unfold BB.js;simp
def get_put(a:dS)(n:Int){i j:Nat}(hi:i<3)(hj:j<3):(a.put i n).get j=if j=i then n else a.get j:=by
 have h1:i=0\/i=1\/i=2:=oM;have h2:j=0\/j=1\/j=2:=oM;rcases h1 with rfl|rfl|rfl<;>rcases h2 with rfl|rfl|rfl<;>simp[dS.put,dS.get]
def UL(a:dS)(i:Nat)(n:Int):(a.put i n).leak=a.leak:=by
 unfold dS.put;split<;>rfl
def ai0(ml:List Mn)(i:Nat):Int:=match ml[i]? with|some m=>m.hi|none=>0
def most(b:BB)(ml:List Mn)(c:List Nat):Int:=b.lm+(c.map (ai0 ml)).sum
structure Cl9(b:BB)(ml:List Mn)(ss:List Int)(ms:List Mk)(L:List Int):Prop where
 anc:acH (ms.length:Int) L=0
 len:L.length<=3
 some:bf b ml ss ms≠[]->L=[]
 none:bf b ml ss ms=[]->L≠[]/\∃q,q<2 ^ ms.length/\L=uY ms.length q/\mW b ml ss ms q=true/\(∀m,m<2 ^ ms.length->mW b ml ss ms m=true->rP (uY ms.length m) L=false)/\
  ∀i,i<L.length->∃r,r<2 ^ ms.length/\L.eraseIdx i=uY ms.length r/\mW b ml ss ms r=false
structure Low(l:List Int):Prop where
 bd:∀x∈l,1<=x/\x<=8
 asc:l.Pairwise (· < ·)
def CH:∀(l:List Int) (n k:Nat),(l.foldl (fun p s=>p ||| 2 ^ s.toNat) n).testBit k=(n.testBit k||l.any fun s=>decide (s.toNat=k))
 |[],n,k=>by simp
 |a::l,n,k=>by
  rw[List.foldl_cons,CH l,Nat.testBit_or,Nat.testBit_two_pow];simp[List.any_cons,Bool.or_assoc]
def RH(l:List Int)(k:Nat):(bJ l).testBit k=l.any fun s=>decide (s.toNat=k):=by
 unfold bJ;rw[CH];simp
structure Goes(b:BB)(ss:List Int)(lu:Int)(xs:List Int):Prop where
 ok:fM b xs
 rest:∃r,xs=ss++r/\∀y∈r,lu<=y
structure Pl6(b:BB)(ss:List Int)(lu:Int)(l:List dS)(x y:List Int):Prop where
 gx:Goes b ss lu x
 gy:Goes b ss lu y
 sx:b.sure l (bJ x)=true
 sy:b.sure l (bJ y)=true
 len:x.length=y.length
 no:il y x=false
 all:∀xs,Goes b ss lu xs->b.sure l (bJ xs)=true->¬xs.length<x.length/\(xs.length=x.length->il xs x=false/\il y xs=false)
def zR(b:BB)(p m:Nat):Int:=(if p.testBit m then b.iU else 0)+if b.pl<=m/\m<=b.pm then b.iO else 0
def Rf(b:BB)(used:Int)(p m:Nat)(n:Int):b.step used p m n=max 0 (min (n+zR b p m) b.holds-used):=by
 unfold BB.step zR;rw[Int.add_assoc]
def Yb{b:BB}(h:b.Ok)(p m:Nat):0<=zR b p m:=by
 have h1:=h.iU;have h2:=h.iO;unfold zR;split<;>split<;>omega
def EZ(a b:Int)(w:ak):(Builtin.max_ #[3,3] 3 #[ag af a,ag af b]).run aq w=.ok (ag af (max a b)) w:=by
 go_simp
structure yi(w:ak)(os:List Obj)(w':ak):Prop where
 at_:∀i o,os[i]?=some o->w'.heap[w.heap.size+i]?=some o
 below:Bw w w'
 size:w.heap.size+os.length<=w'.heap.size
def yi.nil(w:ak):yi w [] w:=⟨sM,aB _ _,sM⟩
def yi.alloc{w w':ak}{os:List Obj}(h:yi w os w')(hs:w'.heap.size=w.heap.size+os.length)(o:Obj):yi w (os++[o]) (w'.alloc o):=by
 refine⟨fun i p hi=>?_,h.below.alloc oM o,sO⟩;rcases Nat.lt_trichotomy i os.length with h1|h1|h1
 .rw[List.getElem?_append_left h1] at hi;exact(aZ _ _ _ oM).trans (h.at_ i p hi)
 .subst h1;simp at hi;subst hi;rw[<-hs];exact az w' _
 rw[List.getElem?_eq_none sO] at hi;cases hi
def yi.next{w w1 w2:ak}{os:List Obj}(h:yi w os w1)(hb:Bw w1 w2):yi w os w2:=by
 have hs:=h.size;refine⟨fun i p hi=>(hb.block _ ?_).trans (h.at_ i p hi),h.below.trans (hb.mono oM),aF hs hb.size⟩;have:=(List.getElem?_eq_some_iff.1 hi).1;omega
def acN(w:ak)(A B C D:Obj):yi w [A,B,C,D] ((((w.alloc A).alloc B).alloc C).alloc D):=
 ((((yi.nil w).alloc sM A).alloc sM B).alloc sM C).alloc sM D
def Pn{zs:List Int}(h:zs≠[]):vG zs≠[]:=by
 intro hc;unfold vG Lib.compactUpTo at hc;have h1:=List.map_eq_nil_iff.1 hc;have h2:(0:Nat)∈(aS zs.length).filter (Lib.keeps zs.toArray):=List.mem_filter.2 ⟨bV.2 (cN.2 h),Lib.keeps_lt_one _ 0 oM⟩;rw[h1] at h2;cases h2
def Xa(b:BB)(bq aM aC:aj)(ml:List Mn)(ss:List Int)(ms:List Mk)(w:ak)(hL:Laid w)(hB:cQ b bq aM aC ml ss ms w)(hne:bf b ml ss ms≠[])(pl:List Int)(hp:fM b pl)(mi:Nat)(h1:1<=mi)(h2:(mi:Int)<=b.minutes)
  (lv:aj) (hl:Reads w lv pl.length (pl.map (aD af))) :
  bm aq 60 #[aR (b.cells bq aM aC),lv,ag af mi] w fun e w'=>∃x y r,dT (fun a=>b.rj (b.bS+a.used) (bJ pl) mi) (bf b ml ss ms)=x::r/\(x::r).getLast?=some y/\e=aY (cH #[aR #[ag af x,ag af y],ag af 0])/\Bw w w':=by
 have hlen:=iR ss ms hB.ok hB.gS;have jX:0<(bf b ml ss ms).length:=cN.2 hne;have hok:=hB.ok;have hao:=oz (ss:=ss) (ms:=ms) hB.ok hB.gS;obtain⟨pm,cm,rfl,_⟩:=aT hB.rm;obtain⟨pn,cn,rfl,_⟩:=aT hB.rs;obtain⟨pk,ck,rfl,_⟩:=aT hB.rk;obtain⟨qJ,qX,rfl,_⟩:=aT hl;have ht:=acN w (au (b.sl pm ml.length cm pn ss.length cn pk ms.length ck) 28) (au #[ae qJ pl.length qX] 25) (au #[ag af mi] 3) (au #[ag af 0,ag af 0] 23)
 have hop:=Uo b (ae pm ml.length cm) (ae pn ss.length cn) (ae pk ms.length ck) ml ss ms _ (hL.below ht.below) (hB.below ht.below) hne (w.heap.size+1) (w.heap.size+2) (fun W hb=>by
  have hw:=hb
  exact Wi b hok _ _ _ pl hp mi h1 h2 _ _ _ W ((hb.block (w.heap.size+1) sM).trans (ht.at_ 1 _ rfl)) ((hb.block (w.heap.size+2) sM).trans (ht.at_ 2 _ rfl)) ((hl.below ht.below).below hb))
 have HO:=ai hop;have HT:=ai ht;have HRl:=ai hl;have Tr:=ai hao;clear hop ht hL hB hl hao;generalize hall:bf b ml ss ms=all at *;clear hall;generalize ml.length=lm at *;generalize ss.length=ln at *;generalize ms.length=lk at *;obtain⟨of,hof⟩:∃of:dS->Int,(fun a=>b.rj (b.bS+a.used) (bJ pl) mi)=of:=⟨_,rfl⟩
 rw[hof];have HOf:=ai hof;clear hof
 go_enter Tryz.func60,Tryz.ntmps60
 go_wp2_with (first
  |(go_at_call 103;refine HO.out.mono ?_;clear HO;rintro e w1 ⟨v,rfl,jc,hb1⟩
    have sZ:=HT.out.next hb1
    obtain⟨gv,cv,rfl⟩:∃gv cv,v=ae (some ⟨gv,0,none⟩) all.length cv:=by
     rcases jc.1.2 with⟨_,h0⟩|⟨g,cap,cur,rfl,_⟩
     .omega
     exact⟨g,cap,rfl⟩
    have pE:=ai sZ;have Tp:Hid (Reads (w1.alloc (au (b.open (ae pm lm cm) (ae pn ln cn) (ae pk lk ck) (ae (some ⟨gv,0,none⟩) all.length cv)) 122)) (ae (some ⟨gv,0,none⟩) all.length cv) all.length (rowOf all)):=ai ((jc.reads oM).below dx)
    have HNu:=ai (LX b (ae pm lm cm) (ae pn ln cn) (ae pk lk ck) all hne oM of w1.heap.size (w.heap.size+1) (w.heap.size+2) _ _ Tp.out (fun a ha W hb=>by
     have q:=(pE.out.next ((aB _ _).alloc (aO _) (au (b.open (ae pm lm cm) (ae pn ln cn) (ae pk lk ck) (ae (some ⟨gv,0,none⟩) all.length cv)) 122))).next hb
     have q1:=(hb.block w1.heap.size sM).trans (az w1 _);rw[<-HOf.out]
     exact Wh b hok _ _ _ _ pl hp mi h1 h2 a (Tr.out a ha) _ _ _ _ W q1 (q.at_ 1 _ rfl) (q.at_ 2 _ rfl) (HRl.out.below q.below)))
    clear sZ jc hb1)
  |(go_at_call 124;refine HNu.out.mono ?_;rintro e w2 ⟨gn,cgn,rfl,ho2,hb2⟩;have HO2:=ai ho2;have nS:=ai hb2;clear ho2 hb2))
 have hq:=(pE.out.next ((aB _ _).alloc (aO _) (au (b.open (ae pm lm cm) (ae pn ln cn) (ae pk lk ck) (ae (some ⟨gv,0,none⟩) all.length cv)) 122))).next nS.out
 have NH:dT of all≠[]:=by
  have h1:sorted (all.map of)≠[]:=by
   intro h;have h2:(sorted (all.map of)).length=(all.map of).length:=lZ _;rw[h] at h2;simp at h2;exact hne (List.eq_nil_of_length_eq_zero h2.symm)
  exact Pn h1
 have hnl:(dT of all).length<=1000:=by
  have h1:=Lib.compact_length_le (sorted (all.map of));have h2:(sorted (all.map of)).length=all.length:=(lZ _).trans (fC _);unfold dT;omega
 obtain⟨x,r,hxr⟩:∃x r,dT of all=x::r:=by
  cases h:dT of all with
  |nil=>exact(NH h).elim
  |cons x r=>exact⟨x,r,rfl⟩
 have hN:∃N,(dT of all).length=N:=⟨_,rfl⟩
 obtain⟨N,hN⟩:=hN;have hN1:1<=N:=by rw[<-hN,hxr];simp
 obtain⟨y,hy⟩:∃y,(dT of all)[N-1]?=some y:=⟨_,eQ oM⟩
 obtain⟨cur,hgb,CY,hc0,hcl⟩:∃cur:Array aj,w2.heap[gn]?=some (au cur 3 (0,0))/\w1.heap.size+1<=gn/\cur[0]?=some (ag af x)/\cur[N-1]?=some (ag af y):=by
  rcases HO2.out.2 with⟨h0,_⟩|⟨g',cap',cur,h0,hb0,h1,h2,h3,h4,h5⟩
  .cases h0
  cases h0;rw[Nat.mul_one,hN] at h5
  have hz:∀(j:Nat) (u:Int),(dT of all)[j]?=some u->cur[j]?=some (ag af u):=fun j u hj=>by
   have h6:(cur.toList.take N)[j]?=some (aD af u):=by rw[h5,List.getElem?_map,hj];rfl
   rw[List.getElem?_take] at h6;split at h6
   .simpa using h6
   cases h6
  refine⟨cur,h1,by simpa using hb0,hz 0 x (by rw[hxr];rfl),hz _ _ hy⟩
 have aip:=pE.out.size;simp at aip;have hwr:IntKind.i64.wrap ((N:Int)-1)=((N-1:Nat):Int):=by rw[fO _ oM oM];omega
 have i1:((N-1:Nat):Int)<(N:Int):=oM;have i2:(0:Int)<=((N-1:Nat):Int):=oM;have i3:(0:Int)<(N:Int):=oM;have hgB:gn≠w.heap.size+1+1+1:=oM;have HXR:=ai hxr;have HY:=ai hy;have HNN:=ai hN;rw[hN];clear hxr hy NH hnl hN Tp HNu HO2 HRl Tr HT
 refine cy kQ [
 pV (ae (some ⟨gn,0,none⟩) N cgn),
  pV (pv gn 0),
  pV (ag af x),
  pV (ae (some ⟨gn,0,none⟩) N cgn),
  pV (ae (some ⟨gn,0,none⟩) N cgn),
  pV (ag af N),
  pV (ag af ((N-1:Nat):Int)),
  pV (pv gn (N-1)),
  pV (ag af y),
  pV (aR #[ag af x,ag af y]),
  fun v ds w9=>w9.heap[w.heap.size+1+1+1]?=some (au #[ag af x,ag af y] 23 (0,0)),
  pV (ag af 0)]
  (fun w9=>w9.heap[gn]?=some (au cur 3 (0,0))/\(∃z1 z2,w9.heap[w.heap.size+1+1+1]?=some (au #[z1,z2] 23 (0,0)))/\Bw w w9) [(10,ae (some ⟨gn,0,none⟩) N cgn),(6,pv (w.heap.size+1+1+1) 0)] kQ ?rst (fun w1 w2 h hb=>⟨(hb.block _ (ah.1 h.1).1).trans h.1,h.2.1.imp fun z1 h1=>h1.imp fun z2 h2=>(hb.block _ (ah.1 h2).1).trans h2,h.2.2.trans (hb.mono h.2.2.size)⟩) (⟨hgb,⟨_,_,hq.at_ 3 _ rfl⟩,hq.below.drew⟩) ⟨rfl,rfl,trivial⟩ ?reach ?rfin
 case rst=>
  refine⟨sV,sV,sV,sV,sV,sV,sV,sV,sV,sV,?_,sV,trivial⟩;rintro v ds w1 w2 hS h hb;exact(hb.block _ (ah.1 h).1).trans h
 case reach=>
  refine⟨?_,?_,?_,?_,?_,?_,?_,?_,?_,?_,?_,?_,trivial⟩<;>rintro ev w1 hS hc hg hf ⟨xK,b6,-⟩ hd
  .exact tV
  .have d0:ev (aL 24)=_:=hd.1 rfl;refine yv ?_ rfl;go_simp;intro hx;exfalso;omega
  .have d1:ev (aL 25)=_:=hd.1 rfl;have z:=aK hS.1 0 _ hc0;exact tV
  .exact tV
  .exact tV
  .have d4:ev (aL 28)=_:=hd.1 rfl;exact tV
  .have d5:ev (aL 29)=_:=hd.1 rfl;exact tV
  .have d3:ev (aL 27)=_:=hd.1 rfl;have d6:ev (aL 30)=_:=hd.2.1 rfl;exact tV
  .have d7:ev (aL 31)=_:=hd.1 rfl;have z:=aK hS.1 _ _ hcl;exact tV
  .have d2:ev (aL 26)=_:=hd.1 rfl;have d8:ev (aL 32)=_:=hd.2.1 rfl;exact tV
  .have d9:ev (aL 33)=_:=hd.1 rfl;obtain⟨hg1,⟨z1,z2,hz⟩,sG⟩:=hS;have c0:=aK hz 0 _ rfl;have c1:=aK hz 1 _ rfl;have f0:=cZ hz 0;have f1:=cZ hz 1;refine Lag.Yields.skip (w':=(w1.setCell ⟨w.heap.size+1+1+1,0,none⟩ (ag af x)).setCell ⟨w.heap.size+1+1+1,1,none⟩ (ag af y)) ?_ ⟨dc _ (dc _ hz),.inr ⟨⟨(bu _ _ _ _ hgB).trans ((bu _ _ _ _ hgB).trans hg1),⟨_,_,dc _ (dc _ hz)⟩,(sG.setCell (p:=⟨_,0,none⟩) (by show _<=w.heap.size+1+1+1;omega) _).setCell (p:=⟨_,1,none⟩) (by show _<=w.heap.size+1+1+1;omega) _⟩,?_⟩⟩
   .go_simp
   .intro j u ds hj hp
    match j,hp with
    |0,hp|1,hp|2,hp|3,hp|4,hp|5,hp|6,hp|7,hp|8,hp|9,hp=>exact hp
    |10,_=>exact(hj rfl).elim
    |11,hp=>exact hp
    |j+12,_=>trivial
  exact tV
 case rfin=>
  intro a2 w2 hR;have hS:=hR.s;have Pe:w2.heap[w.heap.size+1+1+1]?=some (au #[ag af x,ag af y] 23 (0,0)):=hR.val 10;have e11:a2.tmps.getD 7 aw=_:=hR.val 11;have k6:a2.tmps.getD 6 aw=pv (w.heap.size+1+1+1) 0:=hR.kept kQ;have ha:=hR.lits 34 rfl;simp only[aS,cA,nh] at ha;clear hR;rw[e11,k6] at ha;clear e11;generalize a2.tmps.getD=zz at ha;have HE:=ai Pe;have HF:=ai hS.2.2;clear Pe hS k6;subst ha;go_wp2;refine bj (results_cell_tmp (g:=w.heap.size+1+1+1) rfl rfl (run_loadVar_row _ _ 23 23 _ (0,0) _ HE.out Tryz.underlying23 rfl kQ)) rfl ⟨x,y,r,HXR.out,?_,rfl,HF.out⟩;rw[<-HXR.out,List.getLast?_eq_getElem?,HNN.out];exact HY.out
open Go.Conc
def VH:ex.Ok:=⟨dC,dC,dC,dC,dC,dC,dC,dC,dC,dC⟩
def QF:yf j7:=by
 refine⟨fun m h=>?_,fun i k hi hk hik=>?_,dC⟩
 .simp only[j7,cj,List.not_mem_nil,or_false] at h;rcases h with rfl|rfl
  .refine⟨⟨dC,fun k h=>?_⟩,dC⟩;have h3:k<3:=h
   match k,h3 with
   |0,_=>exact cJ (show 97<=97/\97<=122 from by decide)
   |1,_=>exact cJ (show 97<=110/\110<=122 from by decide)
   |2,_=>exact cJ (show 97<=110/\110<=122 from by decide)
  .refine⟨⟨dC,fun k h=>?_⟩,dC⟩;have h3:k<2:=h
   match k,h3 with
   |0,_=>exact cJ (show 97<=98/\98<=122 from by decide)
   |1,_=>exact cJ (show 97<=111/\111<=122 from by decide)
 have h2:k<2:=hk;obtain⟨rfl,rfl⟩:i=0/\k=1:=oM;show(⟨#[97,110,110]⟩:ByteArray)≠⟨#[98,111]⟩;decide
def sw:Mk:=⟨1,11,11⟩
def mk2:Mk:=⟨1,12,12⟩
def aaU:lI ex [sw]:=⟨dC,dC⟩
def Yd:lI ex [sw,mk2]:=⟨dC,dC⟩
def QG:bf ex j7 [] []=[⟨0,3,4,0⟩,⟨0,4,4,0⟩,⟨1,3,4,0⟩,⟨1,4,4,0⟩]:=by decide+kernel
def MX:bf ex j7 [] [sw]=[⟨0,4,4,0⟩,⟨1,3,4,0⟩,⟨1,4,4,0⟩]:=by decide+kernel
def VO:bf (ex.lk 0 0) j7 [] [sw]=[⟨0,4,4,0⟩]:=by decide+kernel
def MW:bf ex j7 [] []≠[]:=by rw[QG];simp
def VI:bf ex j7 [] [sw]≠[]:=by rw[MX];simp
def aai:bf (ex.lk 0 0) j7 [] [sw]≠[]:=by rw[VO];simp
def JC{b:BB}{pl:List Int}(h:(pl.all fun p=>decide (1<=p/\p<=b.minutes))=true)(ha:∀(k:Nat) (h:k+1<pl.length),pl[k]<pl[k+1])(hl:(pl.length:Int)<=b.eI):fM b pl:=
 ⟨fun p hp=>by have:=aX.1 h p hp;simpa using this,ha,hl⟩
def Om:fM ex [1,3]:=JC dC (fun k h=>by have h2:k+1<2:=h;obtain rfl:k=0:=(by omega);simp) dC
def aaF:fM ex [1,2]:=JC dC (fun k h=>by have h2:k+1<2:=h;obtain rfl:k=0:=(by omega);simp) dC
def Zy:fM ex [1]:=JC dC (fun k h=>by have h2:k+1<1:=h;omega) dC
def Ue(b:BB)(h:b.Ok):fM b []:=⟨sM,fun k h=>by simp at h,by have:=h.eI;simpa using this.1⟩
def A_{zs ys:List Int}(hp:zs.Perm ys)(hs:ys.Pairwise (·<=·)):sorted zs=ys:=by
 have h1:(sorted zs).Pairwise (fun a b=>(decide (a<=b))=true):=List.pairwise_mergeSort (fun a b c h1 h2=>by simp at *;omega) (fun a b=>by simp;omega) zs;exact List.Perm.eq_of_pairwise (le:=fun a b=>a<=b) (fun a b _ _ h1 h2=>by omega) (h1.imp fun h=>by simpa using h) hs ((List.mergeSort_perm zs _).trans hp)
def wM(lt:Nat->Nat->Bool)(p:Nat):∀(r:List Nat) (x:Nat),p∈x::r->(∀y∈x::r,(y==p||(lt p y && !lt y p))=true)->jQ lt x r=p
 |[],x,hm,_=>(List.mem_singleton.1 hm).symm
 |y::r,x,hm,h=>by
  show jQ lt (if lt y x=true then y else x) r=p;have hx:=h x sM;have hy:=h y sM;have hr:∀z∈r,(z==p||(lt p z && !lt z p))=true:=fun z hz=>h z (by simp[hz])
  by_cases e1:x=p
  .subst e1
   have:(if lt y x=true then y else x)=x:=by
    by_cases hl:lt y x=true
    .simp[hl] at hy;rw[if_pos hl];exact hy
    rw[if_neg hl]
   rw[this]
   exact wM lt x r x sM fun z hz=>by
    rcases cj.1 hz with rfl|hz
    .simp
    exact hr z hz
  by_cases e2:y=p
  .subst e2
   have hx':lt y x=true:=by
    rw[Bool.or_eq_true,Bool.and_eq_true] at hx;rcases hx with hx|hx
    .exact absurd (by simpa using hx) e1
    exact hx.1
   rw[if_pos hx']
   exact wM lt y r y sM fun z hz=>by
    rcases cj.1 hz with rfl|hz
    .simp
    exact hr z hz
  have hp:p∈r:=by
   rcases cj.1 hm with h1|h1
   .exact absurd h1.symm e1
   rcases cj.1 h1 with h2|h2
   .exact absurd h2.symm e2
   exact h2
  refine wM lt p r _ (by simp[hp]) fun z hz=>?_;rcases cj.1 hz with rfl|hz
  .by_cases hl:lt y x=true
   .rw[if_pos hl];exact hy
   rw[if_neg hl];exact hx
  exact hr z hz
def C8:j_ ex (dD [] []).toNat (bJ []) (bf ex j7 [] []) 512=[10,12,18,20]:=by decide+kernel
section
variable{w:ak}{m s k:aj}
theorem YU(hL:Laid w)(hB:cQ ex m s k j7 [] [] w):bm aq 33 #[aR (ex.cells m s k)] w (Rt w (cH #[ag af 60,ag af 0])):=Wx ex m s k j7 [] [] w hL hB
theorem af7(hL:Laid w)(hB:cQ ex m s k j7 [] [] w):bm aq 65 #[aR (ex.cells m s k),ag af 37] w (Rt w (cH #[ag af 18,ag af 0])):=WY ex m s k j7 [] [] w hL hB 37 dC
theorem jf{q:Nat}{l:List Int}{t:TypeId}(h:w.heap[q]?=some (au ((l.map (aD af)).toArray) t (0,0)))(hl:l.length<=100):Reads w (ae (some ⟨q,0,none⟩) l.length l.length) l.length (l.map (aD af)):=
 .inr ⟨q,0,l.length,rfl,oM,(ah.1 h).1,fun j u hj=>by rw[dh];exact aK h j u (by simpa using hj)⟩
theorem acy(hL:Laid w)(hB:cQ ex m s k j7 [] [] w)(q q2:Nat)(h1:w.heap[q]?=some (au #[ag af 3,ag af 4] 3 (0,0)))(h2:w.heap[q2]?=some (au #[ag af 1] 3 (0,0))) :
  bm aq 32 #[aR (ex.cells m s k),aR #[ag af 0,ae (some ⟨q,0,none⟩) 2 2],ae (some ⟨q2,0,none⟩) 1 1] w fun e w'=>∃v,e=aY (cH #[v,ag af 0])/\Reads w' v 5 ([44,38,29,20,11].map (aD af))/\Bw w w':=by
 have h:=Zj ex m s k j7 [] [] w hL hB 0 dC [3,4] dC rfl q 0 2 (ah.1 h1).1 dC (fun j u hj=>by rw[dh];exact aK h1 j u (by simpa using hj)) [1] Zy _ (jf (l:=[1]) h2 dC);have e:ex.js (ex.bS+(gG 0 [3,4]).used) (bJ [1]) ex.minutes.toNat=[44,38,29,20,11]:=by decide+kernel
 rw[e] at h;exact h
theorem VN(hL:Laid w)(hB:cQ ex m s k j7 [] [] w):bm aq 42 #[aR (ex.cells m s k)] w (Rt w (cH #[ag af 4,ag af 0])):=by
 have h:=Gn ex m s k j7 [] [] w hL hB;rw[QG] at h;exact h
theorem af_(hL:Laid w)(hB:cQ ex m s k j7 [] [] w)(q:Nat)(h1:w.heap[q]?=some (au #[ag af 1,ag af 3] 3 (0,0))) :
  bm aq 60 #[aR (ex.cells m s k),ae (some ⟨q,0,none⟩) 2 2,ag af 5] w (Rt w (cH #[aR #[ag af 21,ag af 31],ag af 0])):=by
 have h:=Xa ex m s k j7 [] [] w hL hB MW [1,3] Om 5 dC dC _ (jf (l:=[1,3]) h1 dC);refine h.mono ?_;rintro e w' ⟨x,y,r,hn,hy,rfl,hb⟩
 have e1:dT (fun a=>ex.rj (ex.bS+a.used) (bJ [1,3]) 5) (bf ex j7 [] [])=[21,26,31]:=by
  unfold dT;rw[A_ (ys:=[21,26,26,31]) (by decide+kernel) dC];decide+kernel
 rw[e1] at hn;cases hn;cases hy;exact⟨rfl,hb⟩
theorem acA(hL:Laid w)(hB:cQ ex m s k j7 [] [] w)(q:Nat)(h1:w.heap[q]?=some (au #[ag af 1,ag af 3] 3 (0,0))) :
  bm aq 44 #[aR (ex.cells m s k),ae (some ⟨q,0,none⟩) 2 2] w (Rt w (cH #[ag af 1,ag af 0])):=by
 have h:=KL ex m s k j7 [] [] w hL hB MW [1,3] Om _ (jf (l:=[1,3]) h1 dC);have e:jG (o6 ex (bf ex j7 [] []) (bJ [1,3])) (bf ex j7 [] []).length=1:=by decide+kernel
 rw[e] at h;exact h
theorem YW(hL:Laid w)(hB:cQ ex m s k j7 [] [] w)(q:Nat)(h1:w.heap[q]?=some (au #[ag af 1,ag af 2] 3 (0,0))) :
  bm aq 44 #[aR (ex.cells m s k),ae (some ⟨q,0,none⟩) 2 2] w (Rt w (cH #[ag af 0,ag af 0])):=by
 have h:=KL ex m s k j7 [] [] w hL hB MW [1,2] aaF _ (jf (l:=[1,2]) h1 dC);have e:jG (o6 ex (bf ex j7 [] []) (bJ [1,2])) (bf ex j7 [] []).length=0:=by decide+kernel
 rw[e] at h;exact h
theorem af8(hL:Laid w)(hB:cQ ex m s k j7 [] [] w) :
  bm aq 63 #[aR (ex.cells m s k),ae none 0 0] w (Rt w (cH #[ag af 2,aI true,ag af 0])):=by
 have h:=W_ ex m s k j7 [] [] w hL hB MW [] (Ue _ VH) (ae none 0 0) (cJ ⟨rfl,rfl,rfl⟩);have e:lW ex (bf ex j7 [] []) (bJ [])=(2,true):=by decide+kernel
 rw[e] at h;exact h
theorem VM(hL:Laid w)(hB:cQ ex m s k j7 [] [] w)(p1:Plain w m)(p2:Plain w s)(p3:Plain w k) :
  j5 aq 20 #[aR (ex.cells m s k)] w fun v w'=>∃lv:aj,v=cH #[lv,aI true,ag af 0]/\Reads w' lv 2 ([1,3].map (aD af))/\Old w w':=by
 have h:=VF hL hB p1 p2 p3 MW (by rw[C8];simp) (by rw[C8];decide) 10 (fun x r hp=>wM tN 10 r x (hp.mem_iff.2 (by rw[C8];decide)) fun y hy=>by
  have:=hp.mem_iff.1 hy;rw[C8] at this;have h2:([10,12,18,20].all fun y=>y==10||(tN 10 y && !tN y 10))=true:=by decide+kernel
  exact aX.1 h2 y this)
 have e:ik 10=[1,3]:=by decide+kernel
 unfold QQ at h;rw[e] at h;exact h
theorem VK(hL:Laid w)(hB:cQ ex m s k j7 [] [] w)(p1:Plain w m)(p2:Plain w s)(p3:Plain w k) :
  j5 aq 23 #[aR (ex.cells m s k)] w fun v w'=>∃lv:aj,v=cH #[lv,aI true,ag af 0]/\Reads w' lv 2 ([2,4].map (aD af))/\Old w w':=by
 have h:=UO hL hB p1 p2 p3 MW (by rw[C8];simp) (by rw[C8];decide) 20 (fun x r hp=>wM tM 20 r x (hp.mem_iff.2 (by rw[C8];decide)) fun y hy=>by
  have:=hp.mem_iff.1 hy;rw[C8] at this;have h2:([10,12,18,20].all fun y=>y==20||(tM 20 y && !tM y 20))=true:=by decide+kernel
  exact aX.1 h2 y this)
 have e:ik 20=[2,4]:=by decide+kernel
 unfold QQ at h;rw[e] at h;exact h
theorem SU(hL:Laid w)(hB:cQ ex m s k j7 [] [] w)(q:Nat)(h1:w.heap[q]?=some (au #[ag af 1,ag af 3] 3 (0,0))) :
  bm aq 25 #[aR (ex.cells m s k),ae (some ⟨q,0,none⟩) 2 2] w (Rt w (cH #[ag af 44,aI true,ag af 0])):=by
 have h:=PS ex m s k j7 [] [] w hL hB MW [1,3] Om _ (jf (l:=[1,3]) h1 dC);have e:o8 ex (bf ex j7 [] []) (bJ [1,3]) 100=some 44:=by decide+kernel
 rw[e] at h;exact h
theorem acB(hL:Laid w)(hB:cQ ex m s k j7 [] [] w)(q:Nat)(h1:w.heap[q]?=some (au #[ag af 1] 3 (0,0))) :
  bm aq 27 #[aR (ex.cells m s k),ae (some ⟨q,0,none⟩) 1 1] w fun e w'=>∃v,e=aY (cH #[v,aI true,ag af 0])/\Reads w' v 1 ([0].map (aD af))/\Bw w w':=by
 have h:=Zr ex m s k j7 [] [] w hL hB MW [1] Zy _ (jf (l:=[1]) h1 dC);have e:iY ex (bf ex j7 [] []) (bJ [1]) j7.length (2 ^ j7.length)=([0],true):=by decide+kernel
 rw[e] at h;exact h
theorem acz(hL:Laid w)(hB:cQ ex m s (ae none 0 0) j7 [] [] w) :
  bm aq 75 #[aR (ex.cells m s (ae none 0 0)),aR #[ag af 1,ag af 11,ag af 11]] w fun e w'=>∃m' s' k',e=aY (cH #[aR (ex.cells m' s' k'),ag af 0])/\fX ex m' s' k' j7 [] [sw] w'/\Bw w w':=Zk ex m s j7 [] w hL hB sw aaU VI
theorem SV(hL:Laid w)(hB:cQ ex m s k j7 [] [sw] w):bm aq 42 #[aR (ex.cells m s k)] w (Rt w (cH #[ag af 3,ag af 0])):=by
 have h:=Gn ex m s k j7 [] [sw] w hL hB;rw[MX] at h;exact h
theorem SX(hL:Laid w)(hB:cQ ex m s k j7 [] [sw] w) :
  bm aq 58 #[aR (ex.cells m s k),ag af 0] w fun e w'=>∃v,e=aY (cH #[v,ag af 0])/\Reads w' v 2 ([3,4].map (aD af))/\Bw w w':=by
 have h:=zm ex m s k j7 [] [sw] w hL hB VI 0 dC
 have e:dT (fun a=>a.get 0) (bf ex j7 [] [sw])=[3,4]:=by
  unfold dT;rw[A_ (ys:=[3,4,4]) (by decide+kernel) dC];decide+kernel
 rw[e] at h;exact h
theorem af9(hL:Laid w)(hB:cQ ex m s k j7 [] [sw] w):bm aq 53 #[aR (ex.cells m s k)] w (Rt w (cH #[ag af 0,ag af 2,ag af 0])):=by
 have h:=ac6 ex m s k j7 [] [sw] w hL hB VI;have e:r_ (bf ex j7 [] [sw]) j7.length=(0,2):=by decide+kernel
 rw[e] at h;exact h
theorem YY(hL:Laid w)(hB:cQ ex m s k j7 [] [sw] w) :
  bm aq 80 #[aR (ex.cells m s k),aR #[ag af 0,ag af 0]] w fun e w'=>∃m' s' k',e=aY (cH #[aR ((ex.lk 0 0).cells m' s' k'),ag af 0])/\fX (ex.lk 0 0) m' s' k' j7 [] [sw] w'/\Bw w w':=
 W6 ex m s k j7 [] [sw] w hL hB 0 0 dC dC dC 0 0 dC dC dC aai
theorem Pc(hL:Laid w)(hB:cQ (ex.lk 0 0) m s k j7 [] [sw] w) :
  bm aq 58 #[aR ((ex.lk 0 0).cells m s k),ag af 0] w fun e w'=>∃v,e=aY (cH #[v,ag af 0])/\Reads w' v 1 ([4].map (aD af))/\Bw w w':=by
 have h:=zm (ex.lk 0 0) m s k j7 [] [sw] w hL hB aai 0 dC
 have e:dT (fun a=>a.get 0) (bf (ex.lk 0 0) j7 [] [sw])=[4]:=by
  unfold dT;rw[A_ (ys:=[4]) (by decide+kernel) dC];decide+kernel
 rw[e] at h;exact h
theorem acx(hL:Laid w)(hB:cQ ex m s k j7 [] [sw] w):bm aq 82 #[aR (ex.cells m s k),ag af 1] w (Rt w (cH #[aR iD,ag af 7])):=
 KE ex m s k j7 [] [sw] w hL hB 1 dC dC (by decide+kernel)
theorem VJ(hB:cQ ex m s k j7 [] [sw] w) :
  bm aq 88 #[aR (ex.cells m s k),aR #[ag af 1,ag af 12,ag af 12]] w fun e w'=>∃k',e=aY (aR (ex.cells m s k'))/\cQ ex m s k' j7 [] [sw,mk2] w'/\Bw w w':=by
 obtain⟨p1,c1,e1,_⟩:=aT hB.rm;obtain⟨p2,c2,e2,_⟩:=aT hB.rs;refine(PK ex m s k ⟨⟨_,_,_,e1⟩,⟨_,_,_,e2⟩⟩ [sw] dC mk2 w hB.rk).mono ?_;rintro e w' ⟨k',rfl,h1,_,hb⟩;exact⟨k',rfl,⟨VH,QF,Ue _ VH,Yd,hB.rm.below hb,hB.rs.below hb,h1⟩,hb⟩
theorem YX(hL:Laid w)(hB:cQ ex m s k j7 [] [sw,mk2] w) :
  bm aq 50 #[aR (ex.cells m s k)] w fun e w'=>∃v,e=aY (cH #[v,ag af 0])/\Reads w' v 2 ([0,1].map (aD af))/\Bw w w':=by
 have h:=NF ex m s k j7 [] [sw,mk2] w hL hB;have e:ox ex j7 [] [sw,mk2]=[0,1]:=by decide+kernel
 rw[e] at h;exact h
end
structure ExB(m:aj)(w:ak):Prop where
 own:fX ex m (ae none 0 0) (ae none 0 0) j7 [] [] w
 pl:Plain w m
def SS{w:ak}(h0:1<=w.heap.size):bm aq 93 #[] w fun e w'=>∃m,e=aY (aR (ex.cells m (ae none 0 0) (ae none 0 0)))/\ExB m w'/\Bw w w':=by
 refine(MV w).mono ?_;rintro e w' ⟨g,c,rfl,hr,hg,hge,hb⟩;refine⟨_,rfl,⟨⟨⟨VH,QF,Ue _ VH,⟨sM,sM⟩,hr,cJ ⟨rfl,rfl,rfl⟩,cJ ⟨rfl,rfl,rfl⟩⟩,fun g' h'=>?_,fun g' h'=>(by cases h'),fun g' h'=>(by cases h')⟩,fun g' h'=>?_⟩,hb⟩
 .obtain rfl:g=g':=bp h';exact⟨_,hg⟩
 obtain rfl:g=g':=bp h';refine⟨oM,_,_,_,hg,fun u hu=>?_⟩;simp only[fQ,j7,List.flatMap_cons,List.flatMap_nil,List.append_nil] at hu;simp at hu;rcases hu with rfl|rfl|rfl|rfl|rfl|rfl
 .exact .inr ⟨_,rfl⟩
 .exact cJ ⟨_,_,rfl⟩
 .exact cJ ⟨_,_,rfl⟩
 .exact .inr ⟨_,rfl⟩
 exact cJ ⟨_,_,rfl⟩
end Go.Proofs.YtffladgmkiimjaaGreatDoor
