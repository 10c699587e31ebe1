/- LONE WALKS: open (103) with a question. LONE WALKS: agreed (150), meet .. -/
import Derived.Test.YtffladgmkiimjaaGreatDoorW02
import Derived.Test.YtffladgmkiimjaaGreatDoorW03
import Derived.Test.YtffladgmkiimjaaGreatDoorW00
import Derived.Test.YtffladgmkiimjaaGreatDoorW01
set_option linter.all false
set_option maxHeartbeats 100000000
set_option maxRecDepth 1000000
open Array renaming getElem?_eq_some_iff -> ai
open Bool renaming and_eq_true -> aI
open Classical renaming byContradiction -> fq
open Go renaming Value -> ak,World -> ar,wp_cond_split -> bO,bodyPost_ret -> bm,Calls -> bu,results_tmp -> cH,bodyPost -> dE,wp_seq -> eC,wp_skip -> eI,wpList_store_row -> fO,wp_ret -> fW,run_loadVar_row -> jo,wp_block -> lX,wpList_load_row -> mg
open Go.Code renaming wp -> bZ
open Go.Ending renaming returned -> aF,returned -> aP
open Go.Exit renaming ret -> dP
open Go.IntKind renaming wrap_i64 -> a8,i64 -> ag
open Go.Lib renaming hid -> aj
open Go.Obj renaming cells -> aw
open Go.Operand renaming tmp -> aM
open Go.Proofs.Tryz renaming prog -> aq,underlying28 -> cJ,underlying122 -> jd
open Go.RowKit renaming Below -> az,Hid -> mS
open Go.RowKit.Below renaming heap_alloc -> aX,refl -> au,heap_setCell -> bt
open Go.Value renaming int -> aB,bool -> aH,agg -> aR,pointer -> aS,slice -> ae,int -> ah,tuple -> cO,oneCell' -> cj,ownBlock -> jq
open Go.World renaming alloc_heap_new -> ay
open List renaming all_eq_true -> a7,range -> aU,mem_range -> bP,getElem_of_mem -> jy,any_eq_true -> qb
open Nat renaming le_refl -> ax,lt_of_lt_of_le -> bA,reduceEqDiff -> bU
open Option.some renaming inj -> bj
open Or renaming inl -> cK
namespace Go.Proofs.YtffladgmkiimjaaGreatDoor
open Go.RowKit Go.Lag
theorem Tx(b:BB)(bq aK aA:ak)(ml:List Mn)(ss:List Int)(ms:List Mk)(w:ar)(hL:Laid w)(hB:cU b bq aK aA ml ss ms w)(hne:bw b ml ss ms≠[])(cp cq:Nat)
  (hown:∀W,az w.heap.size w W->bu aq 131 #[aR (b.cells bq aK aA),pv cp 0,pv cq 0] W fun e W'=>e=aF (ah ag 0)/\az W.heap.size W W') :
  bu aq 103 #[aR (b.cells bq aK aA),.func (.func 131) #[] #[pv cp 0,pv cq 0]] w fun e w'=>∃v,e=aF (cO #[aR (b.open bq aK aA v),ah ag 0])/\gY w' w.heap.size v (bw b ml ss ms)/\az w.heap.size w w':=by
 have tO:mS (∀W,az w.heap.size w W->bu aq 71 #[aR (b.cells bq aK aA)] W fun e w'=>e=aF (ah ag 0)/\az W.heap.size W w'):=aj fun W hb=>eV b bq aK aA ml ss ms W (hL.below hb) (hB.below hb);have Vz:mS (∀W,az w.heap.size w W->bu aq 116 #[.func (.func 117) #[aR (b.cells bq aK aA)] #[]] W fun e w'=>∃v,e=aF v/\gY w' W.heap.size v (bw b ml ss ms)/\az W.heap.size W w'):=aj fun W hb=>oO b bq aK aA ml ss ms W (hB.below hb);have MQ:=aj hown;obtain⟨pm,cm,rfl,_⟩:=aW hB.rm;obtain⟨pn,cn,rfl,_⟩:=aW hB.rs;obtain⟨pk,ck,rfl,_⟩:=aW hB.rk;have kC:0<(bw b ml ss ms).length:=List.length_pos_iff.2 hne;clear hL hB hne hown;generalize bw b ml ss ms=all at *;generalize ml.length=lm at *;generalize ss.length=ln at *;generalize ms.length=lk at *;have b0:az w.heap.size w ((w.alloc (aw (b.cells (ae pm lm cm) (ae pn ln cn) (ae pk lk ck)) 28)).alloc (aw iu 122)):=((au _ _).alloc (ax _) _).alloc (by simp) _;have HT:mS (Two w (b.cells (ae pm lm cm) (ae pn ln cn) (ae pk lk ck)) 28 iu 122 ((w.alloc (aw (b.cells (ae pm lm cm) (ae pn ln cn) (ae pk lk ck)) 28)).alloc (aw iu 122))):=aj ⟨(Two.mk' w _ _ _ _).one,(Two.mk' w _ _ _ _).two,b0,by simp⟩;have Kc:=aj b0;clear b0
 go_enter Tryz.func103,Tryz.ntmps103
 go_wp2_with (first
  |(refine mg rfl 122 _ rfl _ rfl 122 _ (0,0) _ HL7.out jd rfl (by kernel_rfl) ?_)
  |(refine fO rfl 122 _ _ rfl _ _ rfl rfl 122 _ O4.out (by kernel_rfl) rfl (by simp[cj]) ?_)
  |(go_at_call 71;refine(tO.out _ Kc.out).mono ?_;clear tO;rintro e w1 ⟨rfl,hb1⟩
    have sw:=HT.out.next hb1;have oX:=aj sw
    obtain⟨x0,x1,x2,x3,x4,x5,x6,x7,x8,x9,oh,og,o6,oA,oW⟩:=bT sw.one
    clear sw hb1)
  |(go_at_call 131;refine(MQ.out _ (oX.out.below.alloc (by have:=oX.out.size;omega) _)).mono ?_;clear MQ;rintro e w2 ⟨rfl,hb2⟩
    have C2:=(oX.out.next ((au _ _).alloc (ax _) (aw (b.open (ae pm lm cm) (ae pn ln cn) (ae pk lk ck) (ae none 0 0)) 122))).next hb2;have GD:=aj C2
    have hk2:=(hb2.block w1.heap.size (by simp)).trans (ay w1 _);have GG:=aj hk2;have hs1:=oX.out.size;have hs2:=hb2.size;obtain⟨y0,y1,y2,y3,y4,y5,y6,y7,y8,y9,M6,O9,O8,O7,Kf,Il⟩:=jC hk2
    clear C2 hk2 hb2)
  |(go_at_call 116;refine(Vz.out _ GD.out.below).mono ?_;clear Vz;rintro e w3 ⟨v,rfl,jn,hb3⟩
    have FN:=GD.out.next hb3;have Qj:=aj FN;have MR:=aj jn
    simp only[World.size_alloc] at hs2;have hk3:=(hb3.block w1.heap.size (by omega)).trans GG.out;have HK3:=aj hk3;have hs3:=hb3.size;clear y0 y1 y2 y3 y4 y5 y6 y7 y8 y9 M6 O9 O8 O7 Kf Il;have Il:=aJ hk3 15 _ rfl;have f7:=dg hk3 15;have pJ:=aj hb3
    obtain⟨gv,oP,rfl,EJ⟩:∃gv oP,v=ae (some ⟨gv,0,none⟩) all.length oP/\w2.heap.size<=gv:=by
     rcases jn.1.2 with⟨_,h0⟩|⟨g,cap,cur,rfl,hg,_⟩
     .omega
     exact⟨g,cap,rfl,hg⟩
    have HL7:mS ((w3.setCell ⟨w1.heap.size,15,none⟩ (ae (some ⟨gv,0,none⟩) all.length oP)).heap[w1.heap.size]?=some (aw (b.open (ae pm lm cm) (ae pn ln cn) (ae pk lk ck) (ae (some ⟨gv,0,none⟩) all.length oP)) 122 (0,0))):=aj (dh _ hk3);have O4:mS ((w3.setCell ⟨w1.heap.size,15,none⟩ (ae (some ⟨gv,0,none⟩) all.length oP)).heap[w.heap.size+1]?=some (aw iu 122 (0,0))):=aj ((bt _ _ _ _ (by show w.heap.size+1≠w1.heap.size;omega)).trans FN.two)
    clear FN hk3 hb3 jn))
 refine bm (results_cell_tmp (g:=w.heap.size+1) rfl rfl (jo _ _ 122 122 _ (0,0) _ (cV O4.out) jd rfl (by kernel_rfl))) rfl ⟨_,rfl,?_,?_⟩
 .have hs1:=oX.out.size;refine(MR.out.at_ fun g hg=>?_).base (by omega);have EM:g=gv:=by simpa [jq] using hg.symm
  subst EM;exact(setRow_other (by omega)).trans (bt _ _ _ _ (by show g≠w1.heap.size;omega))
 have hs1:=oX.out.size;exact dv (Qj.out.below.setCell (p:=⟨w1.heap.size,15,none⟩) (by show _<=w1.heap.size;omega) _) (by omega)
abbrev iq:Array Value:=#[ah ag 0,ah ag 0,ah ag 0,ah ag 0,ah ag 0,ah ag 0,ah ag 0,ah ag 0,ah ag 0,ah ag 0,ah ag 0,ah ag 0,ae none 0 0,ae none 0 0,ae none 0 0]
theorem Ig(b:BB)(bq aK aA:ak)(ml:List Mn)(ss:List Int)(ms:List Mk)(w:ar)(hL:Laid w)(hB:cU b bq aK aA ml ss ms w)(hne:bw b ml ss ms≠[]) :
  bu aq 150 #[aR (b.cells bq aK aA)] w fun e w'=>∃m' s' k',e=aF (cO #[aR (b.cells m' s' k'),ah ag 0])/\fM b m' s' k' ml ss ms w'/\su w.heap.size m' s' k'/\az w.heap.size w w':=by
 obtain⟨pm,cm,rfl,_⟩:=aW hB.rm;obtain⟨pn,cn,rfl,_⟩:=aW hB.rs;obtain⟨pk,ck,rfl,_⟩:=aW hB.rk;have b0:az w.heap.size w ((w.alloc (aw (b.cells (ae pm ml.length cm) (ae pn ss.length cn) (ae pk ms.length ck)) 28)).alloc (aw iq 28)):=((au _ _).alloc (ax _) _).alloc (by simp) _;have HT:mS (Two w (b.cells (ae pm ml.length cm) (ae pn ss.length cn) (ae pk ms.length ck)) 28 iq 28 ((w.alloc (aw (b.cells (ae pm ml.length cm) (ae pn ss.length cn) (ae pk ms.length ck)) 28)).alloc (aw iq 28))):=aj ⟨(Two.mk' w _ _ _ _).one,(Two.mk' w _ _ _ _).two,b0,by simp⟩;have tO:=aj (eV b _ _ _ ml ss ms _ (hL.below b0) (hB.below b0))
 have HSo:mS (∀W,az w.heap.size w W->bu aq 119 #[aR (b.cells (ae pm ml.length cm) (ae pn ss.length cn) (ae pk ms.length ck))] W fun e w'=>e=aF (aH true)/\az W.heap.size W w'):=aj fun W hb=>by
  have:=Kw b _ _ _ ml ss ms W (hB.below hb);rw[decide_eq_true hne] at this;exact this
 have MQ:mS (∀W,az w.heap.size w W->bu aq 157 #[aR (b.cells (ae pm ml.length cm) (ae pn ss.length cn) (ae pk ms.length ck))] W fun e w'=>∃m' s' k',e=aF (aR (b.cells m' s' k'))/\fM b m' s' k' ml ss ms w'/\su W.heap.size m' s' k'/\az W.heap.size W w'):=aj fun W hb=>WH b _ _ _ ml ss ms W (hB.below hb);have HML:=aj hB.gZ;clear hL hB hne b0
 go_enter Tryz.func150,Tryz.ntmps150
 go_wp2_with (first
  |(refine fO rfl 28 _ _ rfl _ _ rfl rfl 28 _ HZ.out (by kernel_rfl) rfl (by simp[cj]) ?_)
  |(go_at_call 71;refine tO.out.mono ?_;clear tO;rintro e w1 ⟨rfl,hb1⟩
    have sw:=HT.out.next hb1;have oX:=aj sw
    obtain⟨x0,x1,x2,x3,x4,x5,x6,x7,x8,x9,oh,og,o6,oA,oW⟩:=bT sw.one
    clear sw hb1)
  |(go_at_call 119;refine(HSo.out _ oX.out.below).mono ?_;clear HSo;rintro e w2 ⟨rfl,hb2⟩
    have C2:=oX.out.next hb2;have GD:=aj C2
    clear x0 x1 x2 x3 x4 x5 x6 x7 x8 x9 oh og o6 oA oW;obtain⟨x0,x1,x2,x3,x4,x5,x6,x7,x8,x9,oh,og,o6,oA,oW⟩:=bT C2.one
    clear C2 hb2)
  |(go_at_call 157;refine(MQ.out _ GD.out.below).mono ?_;clear MQ;rintro e w3 ⟨m',s',k',rfl,P0,hf3,hb3⟩
    have Qj:=aj (GD.out.next hb3);have HZ:=aj Qj.out.two;obtain⟨p5,c5,rfl,_⟩:=aW P0.rm;obtain⟨p8,c8,rfl,_⟩:=aW P0.rs;obtain⟨VI,c11,rfl,_⟩:=aW P0.rk;have pJ:=aj P0;have Vw:mS (fM b (ae p5 ml.length c5) (ae p8 ss.length c8) (ae VI ms.length c11) ml ss ms (w3.setRow (w.heap.size+1) (b.cells (ae p5 ml.length c5) (ae p8 ss.length c8) (ae VI ms.length c11)))):=aj (P0.setRow hf3 (by have:=GD.out.size;omega));have HF3:=aj (hf3.base GD.out.below.size)
    clear P0 hb3 hf3))
 refine bm (results_cell_tmp (g:=w.heap.size+1) rfl rfl (jo _ _ 28 28 _ (0,0) _ (cV HZ.out) cJ rfl (by kernel_rfl))) rfl ⟨_,_,_,rfl,Vw.out,HF3.out,dv Qj.out.below (by omega)⟩
theorem zv(a1 a2 b1 b2 m1 m2:Int)(w:ar)(a:Act)(h4:a.tmps.getD 4 undef=aS (some ⟨w.heap.size+1+1,0,none⟩))(h5:a.tmps.getD 5 undef=aH (decide (m1<=m2)))(hd:a.defers=[]) :
  dE aq Tryz.f153 (fun e w'=>e=aF (cO #[aR #[ah ag m1,ah ag m2],aH (decide (m1<=m2))])/\az w.heap.size w w') dP a
   ((((w.alloc (aw #[ah ag a1,ah ag a2] 23)).alloc (aw #[ah ag b1,ah ag b2] 23)).alloc (aw #[ah ag m1,ah ag m2] 23)).alloc (aw #[ah ag m1,ah ag m2] 23)).drew:=by
 have b0:=(((((au w.heap.size w).alloc (ax _) (aw #[ah ag a1,ah ag a2] 23)).alloc (by simp) (aw #[ah ag b1,ah ag b2] 23)).alloc (by simp;omega) (aw #[ah ag m1,ah ag m2] 23)).alloc (by simp;omega) (aw #[ah ag m1,ah ag m2] 23)).drew;have hk:=(mV w #[ah ag a1,ah ag a2] #[ah ag b1,ah ag b2] #[ah ag m1,ah ag m2] 23 23 23).2.2;have hk2:=(aX _ (aw #[ah ag m1,ah ag m2] 23) _ (ai.1 hk).1).trans hk;refine bm (results_cell_tmp (g:=w.heap.size+1+1) rfl h4 (jo _ _ 23 23 _ (0,0) _ hk2 Tryz.underlying23 rfl (by kernel_rfl))) hd ⟨by rw[h5],b0⟩
theorem TP(a1 a2 b1 b2:Int)(w:ar) :
  bu aq 153 #[aR #[ah ag a1,ah ag a2],aR #[ah ag b1,ah ag b2]] w fun e w'=>e=aF (cO #[aR #[ah ag (max a1 b1),ah ag (min a2 b2)],aH (decide (max a1 b1<=min a2 b2))])/\az w.heap.size w w':=by
 have key:∀(m1 m2:Int),max a1 b1=m1->min a2 b2=m2->bu aq 153 #[aR #[ah ag a1,ah ag a2],aR #[ah ag b1,ah ag b2]] w fun e w'=>e=aF (cO #[aR #[ah ag m1,ah ag m2],aH (decide (m1<=m2))])/\az w.heap.size w w':=by
  intro m1 m2 h1 h2
  go_enter Tryz.func153,Tryz.ntmps153
  rcases Int.lt_or_le a1 b1 with q1|q1<;>rcases Int.lt_or_le b2 a2 with q2|q2
  .obtain rfl:m1=b1:=by omega
   obtain rfl:m2=b2:=by omega
   clear h1 h2;go_wp2
   go_region
   go_wp2;exact zv a1 a2 m1 m2 m1 m2 w _ rfl rfl rfl
  .obtain rfl:m1=b1:=by omega
   obtain rfl:m2=a2:=by omega
   clear h1 h2;go_wp2
   go_region
   go_wp2;exact zv a1 m2 m1 b2 m1 m2 w _ rfl rfl rfl
  .obtain rfl:m1=a1:=by omega
   obtain rfl:m2=b2:=by omega
   clear h1 h2;go_wp2
   go_region
   go_wp2;exact zv m1 a2 b1 m2 m1 m2 w _ rfl rfl rfl
  obtain rfl:m1=a1:=by omega
  obtain rfl:m2=a2:=by omega
  clear h1 h2;go_wp2
  go_region
  go_wp2;exact zv m1 m2 b1 b2 m1 m2 w _ rfl rfl rfl
 exact key _ _ rfl rfl
def BB.lk(b:BB)(l m:Int):BB:={ b with ll:=l,lm:=m }
theorem BB.adg{b:BB}(h:b.Ok){l m:Int}(h0:0<=l)(h1:l<=m)(h2:m<=99)(h3:m-l<3):(b.lk l m).Ok:=⟨h.room,h.depth,h.least,h.minutes,h.cD,h.iL,h.eh,h.ie,⟨h0,h1,h2,h3⟩,h.IU⟩
theorem cU.lk{b:BB}{bq aK aA:ak}{ml:List Mn}{ss:List Int}{ms:List Mk}{w:ar}(h:cU b bq aK aA ml ss ms w){l m:Int}(h0:0<=l)(h1:l<=m)(h2:m<=99)(h3:m-l<3):cU (b.lk l m) bq aK aA ml ss ms w:=
 ⟨BB.adg h.ok h0 h1 h2 h3,h.gZ,⟨h.mK.mem,h.mK.asc,h.mK.len⟩,⟨h.lg.mem,h.lg.len⟩,h.rm,h.rs,h.rk⟩
theorem VH(b:BB)(bq aK aA:ak)(ml:List Mn)(ss:List Int)(ms:List Mk)(w:ar)(hL:Laid w)(hB:cU b bq aK aA ml ss ms w)(lo hi:Int)(h0:0<=lo)(h1:lo<=hi)(h2:hi<=99)(z1 z2:Int)(hz1:max b.ll lo=z1)(hz2:min b.lm hi=z2)(hz:z1<=z2)
  (hne:bw (b.lk z1 z2) ml ss ms≠[]) :
  bu aq 80 #[aR (b.cells bq aK aA),aR #[ah ag lo,ah ag hi]] w fun e w'=>∃m' s' k',e=aF (cO #[aR ((b.lk z1 z2).cells m' s' k'),ah ag 0])/\fM (b.lk z1 z2) m' s' k' ml ss ms w'/\az w.heap.size w w':=by
 have hlk:=hB.ok.leak;obtain⟨pm,cm,rfl,_⟩:=aW hB.rm;obtain⟨pn,cn,rfl,_⟩:=aW hB.rs;obtain⟨pk,ck,rfl,_⟩:=aW hB.rk;have Uv:=mV w (b.cells (ae pm ml.length cm) (ae pn ss.length cn) (ae pk ms.length ck)) #[ah ag lo,ah ag hi] iq 28 23 28;have b0:az w.heap.size w (((w.alloc (aw (b.cells (ae pm ml.length cm) (ae pn ss.length cn) (ae pk ms.length ck)) 28)).alloc (aw #[ah ag lo,ah ag hi] 23)).alloc (aw iq 28)):=(((au _ _).alloc (ax _) _).alloc (by simp) _).alloc (by simp;omega) _;have HT:mS (Two w (b.cells (ae pm ml.length cm) (ae pn ss.length cn) (ae pk ms.length ck)) 28 #[ah ag lo,ah ag hi] 23 (((w.alloc (aw (b.cells (ae pm ml.length cm) (ae pn ss.length cn) (ae pk ms.length ck)) 28)).alloc (aw #[ah ag lo,ah ag hi] 23)).alloc (aw iq 28))):=aj ⟨Uv.1,Uv.2.1,b0,by simp⟩;have HZ0:=aj Uv.2.2;have tO:=aj (eV b _ _ _ ml ss ms _ (hL.below b0) (hB.below b0))
 have HAg:mS (∀W,az w.heap.size w W->bu aq 150 #[aR ((b.lk z1 z2).cells (ae pm ml.length cm) (ae pn ss.length cn) (ae pk ms.length ck))] W fun e w'=>∃m' s' k',e=aF (cO #[aR ((b.lk z1 z2).cells m' s' k'),ah ag 0])/\fM (b.lk z1 z2) m' s' k' ml ss ms w'/\su W.heap.size m' s' k'/\az W.heap.size W w'):=aj fun W hb=>
  Ig (b.lk z1 z2) _ _ _ ml ss ms W (hL.below hb) ((hB.below hb).lk (by omega) hz (by omega) (by omega)) hne
 have hmt:=fun W=>TP b.ll b.lm lo hi W;rw[hz1,hz2,decide_eq_true hz] at hmt;have HMt:=aj hmt;clear hL hB hne b0 Uv hmt hz1 hz2
 go_enter Tryz.func80,Tryz.ntmps80
 go_wp2_with (first
  |(refine mg rfl 28 _ rfl _ rfl 28 _ (0,0) _ HK4.out cJ rfl (by kernel_rfl) ?_)
  |(refine fO rfl 28 _ _ rfl _ _ rfl rfl 28 _ HZ5.out (by kernel_rfl) rfl (by simp[cj]) ?_)
  |(go_at_call 71;refine tO.out.mono ?_;clear tO;rintro e w1 ⟨rfl,hb1⟩
    have sw:=HT.out.next hb1;have oX:=aj sw
    have Yg:=aj ((hb1.block (w.heap.size+2) (by simp)).trans HZ0.out);have y0:=aJ sw.two 0 _ rfl;have y1:=aJ sw.two 1 _ rfl
    clear sw hb1)
  |(go_at_call 152;refine(sQ lo hi 0 99 _ h0 h1 h2).mono ?_;rintro e w2 ⟨rfl,hb2⟩
    have C2:=oX.out.next hb2;have GD:=aj C2
    have HZ2:=aj ((hb2.block _ (ai.1 Yg.out).1).trans Yg.out);have x8:=aJ C2.one 8 _ rfl;have x9:=aJ C2.one 9 _ rfl;have v0:=aJ C2.two 0 _ rfl;have v1:=aJ C2.two 1 _ rfl
    clear C2 hb2)
  |(go_at_call 153;refine(HMt.out _).mono ?_;rintro e w3 ⟨rfl,hb3⟩
    have FN:=GD.out.next hb3;have Qj:=aj FN
    have HZ3:=aj ((hb3.block _ (ai.1 HZ2.out).1).trans HZ2.out);have hx3:=(aX w3 (aw #[ah ag z1,ah ag z2] 23) _ (ai.1 FN.one).1).trans FN.one;have u8:=aJ hx3 8 _ rfl;have u9:=aJ hx3 9 _ rfl;have f8:=dg hx3 8;have f9:=dg hx3 9;have HK4:mS ((((w3.alloc (aw #[ah ag z1,ah ag z2] 23)).setCell ⟨w.heap.size,8,none⟩ (ah ag z1)).setCell ⟨w.heap.size,9,none⟩ (ah ag z2)).heap[w.heap.size]?=some (aw ((b.lk z1 z2).cells (ae pm ml.length cm) (ae pn ss.length cn) (ae pk ms.length ck)) 28 (0,0))):=aj (dh _ (dh _ hx3));have HB4:mS (az w.heap.size w (((w3.alloc (aw #[ah ag z1,ah ag z2] 23)).setCell ⟨w.heap.size,8,none⟩ (ah ag z1)).setCell ⟨w.heap.size,9,none⟩ (ah ag z2))):=aj (((FN.below.alloc FN.below.size _).setCell (p:=⟨w.heap.size,8,none⟩) (ax _) _).setCell (p:=⟨w.heap.size,9,none⟩) (ax _) _);have O4:mS ((((w3.alloc (aw #[ah ag z1,ah ag z2] 23)).setCell ⟨w.heap.size,8,none⟩ (ah ag z1)).setCell ⟨w.heap.size,9,none⟩ (ah ag z2)).heap[w.heap.size+2]?=some (aw iq 28 (0,0))):=aj ((bt _ _ _ _ (by show w.heap.size+2≠w.heap.size;omega)).trans ((bt _ _ _ _ (by show w.heap.size+2≠w.heap.size;omega)).trans ((aX _ _ _ (ai.1 HZ3.out).1).trans HZ3.out)))
    clear FN hb3 hx3)
  |(go_at_call 150;refine(HAg.out _ HB4.out).mono ?_;clear HAg;rintro e w5 ⟨m',s',k',rfl,UF,hf5,hb5⟩
    have HZ5:=aj ((hb5.block _ (ai.1 O4.out).1).trans O4.out);obtain⟨p5,c5,rfl,_⟩:=aW UF.rm;obtain⟨p8,c8,rfl,_⟩:=aW UF.rs;obtain⟨VI,c11,rfl,_⟩:=aW UF.rk;have Vw:mS (fM (b.lk z1 z2) (ae p5 ml.length c5) (ae p8 ss.length c8) (ae VI ms.length c11) ml ss ms (w5.setRow (w.heap.size+2) ((b.lk z1 z2).cells (ae p5 ml.length c5) (ae p8 ss.length c8) (ae VI ms.length c11)))):=aj (UF.setRow hf5 (ai.1 O4.out).1);have HB5:=aj (HB4.out.trans (hb5.mono HB4.out.size))
    clear UF hb5 hf5))
 refine bm (results_cell_tmp (g:=w.heap.size+2) rfl rfl (jo _ _ 28 28 _ (0,0) _ (cV HZ5.out) cJ rfl (by kernel_rfl))) rfl ⟨_,_,_,rfl,Vw.out,dv HB5.out (by omega)⟩
theorem Ff(w:ar):bu aq 149 #[ae none 0 0] w fun e w'=>e=aF (ae none 0 0)/\w=w':=by
 have hq:∀w,(binOp BinOp.eql 26 (Value.slice none 0 0) (Value.slice none 0 0)).run aq w=.ok (aH true) w:=fun w=>by kernel_rfl
 go_enter Tryz.func149,Tryz.ntmps149
 go_wp2
 go_ret
 exact⟨rfl,rfl⟩
theorem Bt(m:Mk)(w:ar)(k:Nat)(hk:w.heap[k]?=some (aw m.cells 81 (0,0))):∃v' w',(Builtin.append_ #[26,26] 26 #[ae none 0 0,ae (some ⟨k,0,none⟩) 1 1]).run aq w=.ok v' w'/\w'.ownsRow w.heap.size 81 3 v' 1 (dY [m])/\az w.heap.size w w':=by
 obtain⟨i0,hi,hz0,hz1,hz2⟩:=info_parts Ji
 obtain⟨v',w',hr,h2,h3,_⟩:=run_append_own (P:=aq) w w.heap.size 26 26 81 i0 (aR #[ah ag 0,ah ag 0,ah ag 0]) 3 24 Tryz.underlying26 hi hz0 hz1 hz2 rfl (by decide) (ae none 0 0) 0 [] (World.ownsRow_nil _ _ _ _) ⟨k,0,none⟩ 1 1 m.cells.toList rfl
  (fun j u hj=>by
   have h5:=aJ hk j u (by simpa using hj);have e:(⟨k,0,none⟩:Addr).add j=⟨k,j,none⟩:=by cases j<;>simp[Addr.add]
   rw[e];exact h5) (by simp[cj]) (by unfold maxLen;omega) (by omega) (ax _)
 exact⟨v',w',hr,by simpa [dY] using h2,(au _ _).grown h3 (ax _) fun j hj=>by simp[jq] at hj⟩
theorem Yd(b:BB)(bq aK:ak)(ml:List Mn)(ss:List Int)(w:ar)(hL:Laid w)(hB:cU b bq aK (ae none 0 0) ml ss [] w)(m:Mk)(hm:lr b [m])(hne:bw b ml ss [m]≠[]) :
  bu aq 75 #[aR (b.cells bq aK (ae none 0 0)),aR m.cells] w fun e w'=>∃m' s' k',e=aF (cO #[aR (b.cells m' s' k'),ah ag 0])/\fM b m' s' k' ml ss [m] w'/\az w.heap.size w w':=by
 obtain⟨pm,cm,rfl,_⟩:=aW hB.rm;obtain⟨pn,cn,rfl,_⟩:=aW hB.rs;have Uv:=mV w (b.cells (ae pm ml.length cm) (ae pn ss.length cn) (ae none 0 0)) m.cells iq 28 81 28;have b0:az w.heap.size w (((w.alloc (aw (b.cells (ae pm ml.length cm) (ae pn ss.length cn) (ae none 0 0)) 28)).alloc (aw m.cells 81)).alloc (aw iq 28)):=(((au _ _).alloc (ax _) _).alloc (by simp) _).alloc (by simp;omega) _;have HT:mS (Two w (b.cells (ae pm ml.length cm) (ae pn ss.length cn) (ae none 0 0)) 28 m.cells 81 (((w.alloc (aw (b.cells (ae pm ml.length cm) (ae pn ss.length cn) (ae none 0 0)) 28)).alloc (aw m.cells 81)).alloc (aw iq 28))):=aj ⟨Uv.1,Uv.2.1,b0,by simp⟩;have HZ0:=aj Uv.2.2;have tO:=aj (eV b _ _ _ ml ss [] _ (hL.below b0) (hB.below b0))
 have HAg:mS (∀W k,az w.heap.size w W->Reads W k 1 (dY [m])->bu aq 150 #[aR (b.cells (ae pm ml.length cm) (ae pn ss.length cn) k)] W fun e w'=>∃m' s' k',e=aF (cO #[aR (b.cells m' s' k'),ah ag 0])/\fM b m' s' k' ml ss [m] w'/\su W.heap.size m' s' k'/\az W.heap.size W w'):=aj fun W k hb hr=>
  Ig b _ _ _ ml ss [m] W (hL.below hb) ⟨hB.ok,hB.gZ,hB.mK,hm,hB.rm.below hb,hB.rs.below hb,hr⟩ hne
 clear hL hB hne b0 Uv hm
 go_enter Tryz.func75,Tryz.ntmps75
 go_wp2_with (first
  |(go_at_call 71;refine tO.out.mono ?_;clear tO;rintro e w1 ⟨rfl,hb1⟩
    have oX:=aj (HT.out.next hb1);have Yg:=aj ((hb1.block (w.heap.size+2) (by simp)).trans HZ0.out)
    clear hb1))
 refine Ph.bY (by kernel_rfl) [
 pV (pv w.heap.size 14),
  pV (ae none 0 0),
  pV (ae none 0 0),
  pV (aR m.cells),
  fun v ds w9=>∃k,v=ae (some ⟨k,0,none⟩) 1 1/\w9.heap[k]?=some (aw m.cells 81 (0,0)),
  fun v ds w9=>w9.ownsRow (w.heap.size+3) 81 3 v 1 (dY [m]),
  pV (pv w.heap.size 14),
  fun v ds w9=>∃x,ds[1]?=some x/\w9.heap[w.heap.size]?=some (aw (b.cells (ae pm ml.length cm) (ae pn ss.length cn) x) 28 (0,0))]
  (fun L w9=>∃k0,w9.heap[w.heap.size]?=some (aw (b.cells (ae pm ml.length cm) (ae pn ss.length cn) k0) 28 (0,0))/\(L 7=false->k0=ae none 0 0)/\w9.heap[w.heap.size+1]?=some (aw m.cells 81 (0,0))/\w9.heap[w.heap.size+2]?=some (aw iq 28 (0,0))/\az w.heap.size w w9/\w.heap.size+3<=w9.heap.size) [(2,pv w.heap.size 0),(3,pv (w.heap.size+1) 0)] (by kernel_rfl) ?rst (fun L L2 w1 w2 SE h hb=>by
  obtain⟨k0,h1,h2,h3,h4,h5,h6⟩:=h
  exact⟨k0,(hb.block _ (ai.1 h1).1).trans h1,fun q=>h2 (SE 7 q),(hb.block _ (ai.1 h3).1).trans h3,(hb.block _ (ai.1 h4).1).trans h4,h5.trans (hb.mono (by omega)),Nat.le_trans h6 hb.size⟩) (⟨_,oX.out.one,fun _=>rfl,oX.out.two,Yg.out,oX.out.below.drew,(ai.1 Yg.out).1⟩) ⟨rfl,rfl,trivial⟩ ?reach ?rfin
 case rst=>
  refine⟨Ph.sV,Ph.sV,Ph.sV,Ph.sV,?_,?_,Ph.sV,?_,trivial⟩
  .rintro v ds L w1 w2 hS ⟨k,h1,h2⟩ hb;exact⟨k,h1,(hb.block _ (ai.1 h2).1).trans h2⟩
  .rintro v ds L w1 w2 hS h hb;exact cN h hb
  rintro v ds L w1 w2 hS ⟨x,h1,h2⟩ hb;exact⟨x,h1,(hb.block _ (ai.1 h2).1).trans h2⟩
 case reach=>
  refine⟨?_,?_,?_,?_,?_,?_,?_,?_,trivial⟩<;>rintro Lf ev w1 hn vK hS hc hg hf ⟨b2,b3,-⟩ hd
  .clear hd;refine Ph.yv ?_ rfl;go_simp
  .have d0:ev (aM 13)=_:=hd.1 rfl;clear hd;obtain⟨k0,hb0,q1,_⟩:=hS;obtain rfl:=q1 (hn 7 (by kernel_rfl));have x:=aJ hb0 14 _ rfl;refine Ph.yv ?_ rfl;go_simp
  .have d1:ev (aM 14)=_:=hd.1 rfl;clear hd;refine Lag.Yields.call (f:=149) (args:=#[ae none 0 0]) ?_ (Ff w1) ?_
   .go_simp
   rintro e w2 ⟨rfl,rfl⟩;exact⟨_,rfl,rfl,cK (au _ _)⟩
  .clear hd;obtain⟨k0,hb0,q1,hm1,_⟩:=hS;have x0:=aJ hm1 0 _ rfl;have x1:=aJ hm1 1 _ rfl;have x2:=aJ hm1 2 _ rfl;refine Ph.yv ?_ rfl;go_simp
  .have d3:ev (aM 16)=_:=hd.1 rfl;clear hd;refine Lag.Yields.value (v:=ae (some ⟨w1.heap.size,0,none⟩) 1 1) (w':=w1.alloc (aw m.cells 81)) ?_ ⟨⟨_,rfl,ay _ _⟩,cK ((au _ _).alloc (ax _) _)⟩;go_simp
  .have d2:ev (aM 15)=_:=hd.1 rfl;obtain⟨k,e17,hk⟩:=hd.2.1 rfl;clear hd;replace e17:ev (aM 17)=_:=e17;obtain⟨v',w',hr,ho,hb⟩:=Bt m w1 k hk;refine Lag.Yields.value (v:=v') (w':=w') ?_ ⟨ownsRow_base ho (by obtain⟨_,_,_,_,_,_,h⟩:=hS;exact h),cK hb⟩;simp[execOp,resolve,invoke,builtin,d2,e17,hr,Result.andThen]
  .clear hd;refine Ph.yv ?_ rfl;go_simp
  have d6:ev (aM 19)=_:=hd.1 rfl;have d5:w1.ownsRow (w.heap.size+3) 81 3 (ev (aM 18)) 1 (dY [m]):=hd.2.1 rfl;clear hd;obtain⟨p5,c5,FT⟩:=dA d5;obtain⟨k0,hb0,q1,hm1,hz1,hbl,hsz⟩:=hS;have c1:=aJ hb0 14 _ rfl;have f1:=dg hb0 14;refine Lag.Yields.skip (w':=w1.setCell ⟨w.heap.size,14,none⟩ (ev (aM 18))) ?_ ⟨⟨_,rfl,dh _ hb0⟩,.inr ⟨⟨_,dh _ hb0,(by intro h;simp[Ph.upd] at h),(bt _ _ _ _ (by show _≠w.heap.size;omega)).trans hm1,(bt _ _ _ _ (by show _≠w.heap.size;omega)).trans hz1,hbl.setCell (p:=⟨w.heap.size,14,none⟩) (ax _) _,by simpa using hsz⟩,?_⟩⟩
  .rw[FT];go_simp
  .intro j u ds hj hL hp
   match j,hp with
   |0,hp=>exact hp
   |1,hp=>exact hp
   |2,hp=>exact hp
   |3,hp=>exact hp
   |4,⟨k,h1,h2⟩=>exact⟨k,h1,(bt _ _ _ _ (by rintro rfl;rw[hb0] at h2;simp at h2)).trans h2⟩
   |5,hp=>exact dn hp hb0 (by decide)
   |6,hp=>exact hp
   |7,_=>exact(hj rfl).elim
   |j+8,_=>trivial
 case rfin=>
  intro a2 w2 hR;have hS:=hR.s;have e5:w2.ownsRow (w.heap.size+3) 81 3 (a2.tmps.getD 18 undef) 1 (dY [m]):=hR.val 5 (by decide);obtain⟨x,h18,l9⟩:=hR.val 7 (by decide);have k2:a2.tmps.getD 2 undef=pv w.heap.size 0:=hR.kept (by kernel_rfl);have k4:a2.tmps.getD 4 undef=aS (some ⟨w.heap.size+1+1,0,none⟩):=hR.kept (by kernel_rfl);have ha:=hR.lits 24 rfl;simp only[aU,List.range.loop,List.map] at ha;clear hR;have FT:a2.tmps.getD 18 undef=x:=bj h18;rw[FT] at e5;rw[k2,k4] at ha;generalize a2.tmps.getD=zz at ha;obtain⟨p5,c5,rfl⟩:=dA e5;obtain⟨_,_,_,_,hz,hbl,hsz⟩:=hS;have HK:=aj l9;have HZ:=aj hz;have FH:=aj hbl;have Vu:=aj (Reads.iT e5 (by omega) (by rfl));clear k2 k4 h18 FT e5 l9 hz hbl;subst ha
  go_wp2_with (first
   |(refine mg rfl 28 _ rfl _ rfl 28 _ (0,0) _ HK.out cJ rfl (by kernel_rfl) ?_)
   |(refine fO rfl 28 _ _ rfl _ _ rfl rfl 28 _ HZ5.out (by kernel_rfl) rfl (by simp[cj]) ?_)
   |(go_at_call 150;refine(HAg.out _ _ FH.out Vu.out).mono ?_;clear HAg;rintro e w5 ⟨m',s',k',rfl,UF,hf5,hb5⟩
     have HZ5:=aj ((hb5.block _ (ai.1 HZ.out).1).trans HZ.out);obtain⟨p6,c6,rfl,_⟩:=aW UF.rm;obtain⟨p8,c8,rfl,_⟩:=aW UF.rs;obtain⟨VI,c11,rfl,_⟩:=aW UF.rk;have Vw:mS (fM b (ae p6 ml.length c6) (ae p8 ss.length c8) (ae VI ([m]:List Mk).length c11) ml ss [m] (w5.setRow (w.heap.size+2) (b.cells (ae p6 ml.length c6) (ae p8 ss.length c8) (ae VI ([m]:List Mk).length c11)))):=aj (UF.setRow hf5 (ai.1 HZ.out).1);have HB5:=aj (FH.out.trans (hb5.mono FH.out.size))
     clear UF hb5 hf5))
  refine bm (results_cell_tmp (g:=w.heap.size+2) rfl rfl (jo _ _ 28 28 _ (0,0) _ (cV HZ5.out) cJ rfl (by kernel_rfl))) rfl ⟨_,_,_,rfl,Vw.out,dv HB5.out (by omega)⟩
theorem JZ(b:BB)(bq aK aA:ak)(ml:List Mn)(ss:List Int)(ms:List Mk)(w:ar)(hL:Laid w)(hB:cU b bq aK aA ml ss ms w)(mi:Int)(h1:1<=mi)(h2:mi<=b.minutes)(h3:mi<dx ss ms) :
  bu aq 82 #[aR (b.cells bq aK aA),ah ag mi] w fun e w'=>e=aF (cO #[aR iq,ah ag 7])/\az w.heap.size w w':=by
 have xW:=hB.ok.minutes;have nW:∀s∈ss,1<=s/\s<=8:=fun s h=>by have:=hB.mK.mem s h;omega
 have Lu:∀m∈ms,1<=m.minute/\m.minute<=8:=fun m h=>by have:=hB.lg.mem m h;omega
 obtain⟨pm,cm,rfl,_⟩:=aW hB.rm;obtain⟨pn,cn,rfl,_⟩:=aW hB.rs;obtain⟨pk,ck,rfl,_⟩:=aW hB.rk;have b0:az w.heap.size w ((w.alloc (aw (b.cells (ae pm ml.length cm) (ae pn ss.length cn) (ae pk ms.length ck)) 28)).alloc (aw iq 28)):=((au _ _).alloc (ax _) _).alloc (by simp) _;have HT:mS (Two w (b.cells (ae pm ml.length cm) (ae pn ss.length cn) (ae pk ms.length ck)) 28 iq 28 ((w.alloc (aw (b.cells (ae pm ml.length cm) (ae pn ss.length cn) (ae pk ms.length ck)) 28)).alloc (aw iq 28))):=aj ⟨(Two.mk' w _ _ _ _).one,(Two.mk' w _ _ _ _).two,b0,by simp⟩;have tO:=aj (eV b _ _ _ ml ss ms _ (hL.below b0) (hB.below b0));have HBh:mS (∀W,az w.heap.size w W->bu aq 155 #[aR (b.cells (ae pm ml.length cm) (ae pn ss.length cn) (ae pk ms.length ck))] W fun e w'=>e=aF (ah ag (dx ss ms))/\az W.heap.size W w'):=aj fun W hb=>Fz b _ _ _ ss ms nW Lu W (hB.below hb).rs (hB.below hb).rk;clear hL hB b0 nW Lu;generalize dx ss ms=bh at *;generalize ml.length=lm at *;generalize ss.length=ln at *;generalize ms.length=lk at *
 go_enter Tryz.func82,Tryz.ntmps82
 go_wp2_with (first
  |(refine fO rfl 28 _ _ rfl _ _ rfl rfl 28 _ HZ.out (by kernel_rfl) rfl (by simp[cj]) ?_)
  |(go_at_call 71;refine tO.out.mono ?_;clear tO;rintro e w1 ⟨rfl,hb1⟩
    have sw:=HT.out.next hb1;have oX:=aj sw
    obtain⟨x0,x1,x2,x3,x4,x5,x6,x7,x8,x9,oh,og,o6,oA,oW⟩:=bT sw.one
    clear sw hb1)
  |(go_at_call 132;refine(np b _ _ _ mi h1 h2 _).mono ?_;rintro e w2 ⟨rfl,hb2⟩
    have GG:=aj ((hb2.block w1.heap.size (by simp)).trans (ay w1 _));have GD:=aj ((oX.out.next ((au _ _).alloc (ax _) (aw (b.cells (ae pm lm cm) (ae pn ln cn) (ae pk lk ck)) 119))).next hb2);clear x0 x1 x2 x3 x4 x5 x6 x7 x8 x9 oh og o6 oA oW;obtain⟨x0,x1,x2,x3,x4,x5,x6,x7,x8,x9,oh,og,o6,oA,oW⟩:=bT GG.out
    clear hb2)
  |(go_at_call 155;refine(HBh.out _ GD.out.below).mono ?_;clear HBh;rintro e w3 ⟨rfl,hb3⟩
    have Qj:=aj (GD.out.next hb3);have HZ:=aj Qj.out.two
    clear hb3))
 (try simp only[Exit.inBlock,Exit.then])
 exact bm (results_cell_tmp (g:=w.heap.size+1) rfl rfl (jo _ _ 28 28 _ (0,0) _ (cV HZ.out) cJ rfl (by kernel_rfl))) rfl ⟨rfl,dv Qj.out.below (by omega)⟩
section
variable(b:BB)(bq aK aA:ak)(ml:List Mn)(ss:List Int)(ms:List Mk)(w:ar)
theorem MP(hL:Laid w)(hB:cU b bq aK aA ml ss ms w) :
  bu aq 33 #[aR (b.cells bq aK aA)] w fun e w'=>e=aF (cO #[ah ag b.holds,ah ag 0])/\az w.heap.size w w':=by
 have b0:az w.heap.size w (w.alloc (aw (b.cells bq aK aA) 28)):=(au _ _).alloc (ax _) _;have tO:=aj (eV b bq aK aA ml ss ms _ (hL.below b0) (hB.below b0));have cY:=hB.ok;have HOk:=aj cY;have Kc:=aj b0;clear hL hB b0 cY
 go_enter Tryz.func33,Tryz.ntmps33
 go_wp2_with (first
  |(go_at_call 71;refine tO.out.mono ?_;clear tO;rintro e w1 ⟨rfl,hb1⟩
    have l9:=(hb1.block w.heap.size (by simp)).trans (ay w _);obtain⟨x0,x1,x2,x3,x4,x5,x6,x7,x8,x9,oh,og,o6,oA,oW⟩:=bT l9
    have yL:=aj hb1;clear l9 hb1)
  |(go_at_call 115;refine(Hs b HOk.out bq aK aA _).mono ?_;rintro e w2 ⟨rfl,hb2⟩;have px:=aj hb2;clear hb2))
 go_ret2;have h1:=Kc.out.trans (yL.out.mono Kc.out.size);exact⟨rfl,h1.trans (px.out.mono h1.size)⟩
theorem abL(hL:Laid w)(hB:cU b bq aK aA ml ss ms w)(n:Int)(hn:0<=n/\n<=999) :
  bu aq 65 #[aR (b.cells bq aK aA),ah ag n] w fun e w'=>e=aF (cO #[ah ag (b.U3 n),ah ag 0])/\az w.heap.size w w':=by
 have b0:az w.heap.size w (w.alloc (aw (b.cells bq aK aA) 28)):=(au _ _).alloc (ax _) _;have tO:=aj (eV b bq aK aA ml ss ms _ (hL.below b0) (hB.below b0));have cY:=hB.ok;have HOk:=aj cY;have Kc:=aj b0;clear hL hB b0 cY
 go_enter Tryz.func65,Tryz.ntmps65
 go_wp2_with (first
  |(go_at_call 71;refine tO.out.mono ?_;clear tO;rintro e w1 ⟨rfl,hb1⟩
    have l9:=(hb1.block w.heap.size (by simp)).trans (ay w _);obtain⟨x0,x1,x2,x3,x4,x5,x6,x7,x8,x9,oh,og,o6,oA,oW⟩:=bT l9
    have yL:=aj hb1;clear l9 hb1)
  |(go_at_call 138;refine(iK _ _ _ (by omega) (by omega) _).mono ?_;rintro e w' ⟨rfl,rfl⟩)
  |(go_at_call 139;refine(JJ b HOk.out bq aK aA n hn _).mono ?_;rintro e w2 ⟨rfl,hb2⟩;have px:=aj hb2;clear hb2))
 go_ret2;have h1:=Kc.out.trans (yL.out.mono Kc.out.size);exact⟨rfl,h1.trans (px.out.mono h1.size)⟩
theorem MU(hL:Laid w)(hB:cU b bq aK aA ml ss ms w) :
  bu aq 42 #[aR (b.cells bq aK aA)] w fun e w'=>e=aF (cO #[ah ag (bw b ml ss ms).length,ah ag 0])/\az w.heap.size w w':=by
 have b0:az w.heap.size w (w.alloc (aw (b.cells bq aK aA) 28)):=(au _ _).alloc (ax _) _;have tO:=aj (eV b bq aK aA ml ss ms _ (hL.below b0) (hB.below b0));have HBk:=aj (hB.below b0);have Kc:=aj b0;have hlen:=jE ss ms hB.ok hB.gZ;clear hL hB b0
 go_enter Tryz.func42,Tryz.ntmps42
 go_wp2_with (first
  |(go_at_call 71;refine tO.out.mono ?_;clear tO;rintro e w1 ⟨rfl,hb1⟩
    have l9:=(hb1.block w.heap.size (by simp)).trans (ay w _);obtain⟨x0,x1,x2,x3,x4,x5,x6,x7,x8,x9,oh,og,o6,oA,oW⟩:=bT l9
    have yL:=aj hb1;clear l9 hb1)
  |(go_at_call 116;refine(oO b bq aK aA ml ss ms _ (HBk.out.below yL.out)).mono ?_;rintro e w2 ⟨v,rfl,jn,hb2⟩;have px:=aj hb2
    obtain⟨p,cap,rfl,_⟩:=aW (jn.reads (by omega));clear hb2 jn))
 go_ret2;have h1:=Kc.out.trans (yL.out.mono Kc.out.size);exact⟨rfl,h1.trans (px.out.mono h1.size)⟩
end
def eR(s:ByteArray)(k:Nat):Int:=if h:k<s.size then(s[k].toNat:Int) else 0
theorem vT(s:ByteArray)(k:Nat):0<=eR s k/\eR s k<256:=by
 unfold eR;split
 .have:=s[k].toNat_lt;omega
 omega
theorem xT(s:ByteArray)(k:Nat)(h:k<s.size)(w:ar):(Instr.index 9 (.string s) (ah ag (k:Int))).run aq w=.ok (ah .u8 (eR s k)) w:=by
 rw[run_index_string w 9 s ag _ Tryz.underlying9,dif_pos ⟨by omega,by omega⟩];simp[eR,h]
theorem zW(c:Int)(h:0<=c/\c<256):IntKind.i64.wrap c=c:=by rw[a8];omega
def oI(s:ByteArray)(k:Nat):Bool:=aV (eR s k) 97 122||aV (eR s k) 48 57
def js(s:ByteArray):Bool:=(aV s.size 1 12&&aV (eR s 0) 97 122)&&(List.range' 1 (s.size-1)).all (oI s)
theorem Rl{s:ByteArray}(h0:aV s.size 1 12=true)(h1:aV (eR s 0) 97 122=true)(h:∀i,1<=i->i<s.size->oI s i=true):js s=true:=by
 unfold js;simp only[h0,h1,Bool.and_self,Bool.true_and,a7,List.mem_range'_1];intro x hx;exact h x hx.1 (by omega)
theorem NS{s:ByteArray}(h:(aV s.size 1 12&&aV (eR s 0) 97 122)=false):js s=false:=by
 unfold js;rw[h];rfl
theorem Rm{s:ByteArray}(i:Nat)(h1:1<=i)(h2:i<s.size)(h:oI s i=false):js s=false:=by
 unfold js;rw[Bool.and_eq_false_iff];right;rw[List.all_eq_false];exact⟨i,List.mem_range'_1.2 ⟨h1,by omega⟩,by rw[h];simp⟩
theorem NQ{s:ByteArray}(h:js s=true):J2 s:=by
 unfold js at h;simp only[aI,a7,List.mem_range'_1] at h;obtain⟨⟨h0,h1⟩,h2⟩:=h;have h0:=gI.1 h0;refine⟨⟨by omega,by omega⟩,fun k hk=>?_⟩;rcases Nat.eq_zero_or_pos k with rfl|hp
 .left;have:=gI.1 h1;unfold eR at this;rw[dif_pos hk] at this;exact⟨by omega,by omega⟩
 have h3:=h2 k ⟨hp,by omega⟩;unfold oI eR at h3;rw[dif_pos hk,Bool.or_eq_true,gI,gI] at h3;rcases h3 with h3|h3
 .left;exact⟨by omega,by omega⟩
 right;exact⟨by omega,by omega,by omega⟩
theorem zC(c:Int)(hc0:0<=c/\c<256)(w:ar):bu aq 183 #[ah .u8 c] w fun e w'=>e=aF (aH (aV c 97 122))/\az w.heap.size w w':=by
 refine kP Tryz.func183 rfl rfl [(0,ah .u8 c)] ⟨kF rfl,trivial⟩ fun a hF=>?_;refine(fun h:∀W,az w.heap.size w W->bZ aq _ _ a W=>h w (au _ _)) ?_;intro W HB;refine jz ⟨[],[],[],[]⟩ [(2,aH false)] hF hF trivial trivial ?_;intro a W ho hF;replace HB:=HB.tr ho;clear ho;replace hF:=hF.tl
 refine nI [pV (ah .u8 c),pV (ah ag c),pV (aH (aV c 97 122)),pV (aH (aV c 97 122))]
  _ (by kernel_rfl) hF.size hF.base ?_ ?_ ?_
 .exact⟨sV,sV,sV,sV,trivial⟩
 .refine⟨?_,?_,?_,?_,trivial⟩<;>rintro ev w1 hS hc hg hf ⟨b0,-⟩ hd
  all_goals try
   try have d0:ev (aM _)=_:=hd.1 rfl
   clear hd;refine yw rfl ?_ rfl;go_simp;done
  .have d0:ev (aM 3)=_:=hd.1 rfl;clear hd;have hw:=zW c hc0;exact tV
  have d1:ev (aM 4)=_:=hd.1 rfl;clear hd;refine yc (gh c 97 122 w1) ?_ (fun _=>rfl);go_simp
 intro a W hR;have ho:=hR.s;replace HB:=HB.tr ho;replace hF:=(hR.fr hF (by kernel_rfl)).cons (t:=2) (hR.val 3 (by decide));clear hR ho;refine fW ?_;show dE aq Tryz.f183 (fun e w'=>e=aP (aH (aV c 97 122))/\az w.heap.size w w') dP a W;exact bm (cH rfl _ _ _) hF.defers ⟨congrArg aP ((hF.g 0 rfl):a.eval (aM 2)=aH (aV c 97 122)),HB⟩
theorem Ll(c:Int)(hc0:0<=c/\c<256)(w:ar):bu aq 184 #[ah .u8 c] w fun e w'=>e=aF (aH (aV c 48 57))/\az w.heap.size w w':=by
 refine kP Tryz.func184 rfl rfl [(0,ah .u8 c)] ⟨kF rfl,trivial⟩ fun a hF=>?_;refine(fun h:∀W,az w.heap.size w W->bZ aq _ _ a W=>h w (au _ _)) ?_;intro W HB;refine jz ⟨[],[],[],[]⟩ [(2,aH false)] hF hF trivial trivial ?_;intro a W ho hF;replace HB:=HB.tr ho;clear ho;replace hF:=hF.tl
 refine nI [pV (ah .u8 c),pV (ah ag c),pV (aH (aV c 48 57)),pV (aH (aV c 48 57))]
  _ (by kernel_rfl) hF.size hF.base ?_ ?_ ?_
 .exact⟨sV,sV,sV,sV,trivial⟩
 .refine⟨?_,?_,?_,?_,trivial⟩<;>rintro ev w1 hS hc hg hf ⟨b0,-⟩ hd
  all_goals try
   try have d0:ev (aM _)=_:=hd.1 rfl
   clear hd;refine yw rfl ?_ rfl;go_simp;done
  .have d0:ev (aM 3)=_:=hd.1 rfl;clear hd;have hw:=zW c hc0;exact tV
  have d1:ev (aM 4)=_:=hd.1 rfl;clear hd;refine yc (gh c 48 57 w1) ?_ (fun _=>rfl);go_simp
 intro a W hR;have ho:=hR.s;replace HB:=HB.tr ho;replace hF:=(hR.fr hF (by kernel_rfl)).cons (t:=2) (hR.val 3 (by decide));clear hR ho;refine fW ?_;show dE aq Tryz.f184 (fun e w'=>e=aP (aH (aV c 48 57))/\az w.heap.size w w') dP a W;exact bm (cH rfl _ _ _) hF.defers ⟨congrArg aP ((hF.g 0 rfl):a.eval (aM 2)=aH (aV c 48 57)),HB⟩
theorem Rk(s:ByteArray)(w:ar):bu aq 177 #[.string s] w fun e w'=>e=aF (aH (js s))/\az w.heap.size w w':=by
 refine kP Tryz.func177 rfl rfl [(0,.string s)] ⟨kF rfl,trivial⟩ fun a hF=>?_;refine(fun h:∀W,az w.heap.size w W->bZ aq _ _ a W=>h w (au _ _)) ?_;intro W HB;refine jz ⟨[],[],[],[]⟩ [(2,aH false)] hF hF trivial trivial ?_;intro a W ho hF;replace HB:=HB.tr ho;clear ho;refine eC ?_
 refine nI [pV (.string s),pV (ah ag (s.size:Int)),pV (aH (aV (s.size:Int) 1 12)),pV (aH (!(aV (s.size:Int) 1 12))),pV (aH (!(aV (s.size:Int) 1 12))),pC (!(!(aV (s.size:Int) 1 12))) (.string s),pC (!(!(aV (s.size:Int) 1 12))) (ah .u8 (eR s 0)),pC (!(!(aV (s.size:Int) 1 12))) (aH (aV (eR s 0) 97 122)),pC (!(!(aV (s.size:Int) 1 12))) (aH (!(aV (eR s 0) 97 122))),pV (aH ((!(aV (s.size:Int) 1 12))||(!(aV (eR s 0) 97 122))))]
  _ (by kernel_rfl) hF.size hF.base ?_ ?_ ?_
 .exact⟨sV,sV,sV,sV,sV,sC,sC,sC,sC,sV,trivial⟩
 .refine⟨?_,?_,?_,?_,?_,?_,?_,?_,?_,?_,trivial⟩<;>rintro ev w1 hS hc hg hf ⟨-,b0,-⟩ hd
  all_goals try
   try have d0:ev (aM _)=_:=hd.1 rfl
   clear hd;refine yw rfl ?_ rfl;go_simp;done
  all_goals try
   try have d0:ev (aM _)=_:=hd.1 rfl
   try have c0:_->ev (aM _)=_:=hd.1 rfl
   try have d1:ev (aM _)=_:=hd.2.1 rfl
   clear hd
   first|refine gC d0 mf fun hA=>?_|refine gC d1 mf fun hA=>?_
   try replace c0:=c0 hA
   refine yw rfl ?_ (fun _=>rfl);go_simp;done
  .have d1:ev (aM 5)=_:=hd.1 rfl;clear hd;refine yc (gh (s.size:Int) 1 12 w1) ?_ (fun _=>rfl);go_simp
  .have d5:_->ev (aM 9)=_:=hd.1 rfl;have d4:ev (aM 8)=_:=hd.2.1 rfl;clear hd;refine gC d4 mf fun hA=>?_;have y5:=d5 hA
   have N3:0<s.size:=by
    have h9:aV (s.size:Int) 1 12=true:=by revert hA;simp
    have:=gI.1 h9;omega
   have hi:=xT s 0 N3 w1;refine Lag.Yields.value (v:=(ah .u8 (eR s 0):ak)) (w':=w1) ?_ ⟨fun _=>rfl,cK (au _ _)⟩;rw[show eR s 0=((s[0]'N3).toNat:Int) from dif_pos N3];go_simp
  .have d6:_->ev (aM 10)=_:=hd.1 rfl;have d4:ev (aM 8)=_:=hd.2.1 rfl;clear hd;refine gC d4 mf fun hA=>?_;have y6:=d6 hA;refine yc (args:=#[ah .u8 (eR s 0)]) (zC (eR s 0) (vT _ _) w1) ?_ (fun _=>fun _=>rfl);go_simp
  have d4:ev (aM 8)=_:=hd.1 rfl;have d8:_->ev (aM 12)=_:=hd.2.1 rfl;clear hd;exact yO rfl hc d4 (fun hq=>d8 (by simp[hq])) (rfl)
 intro a W hR;have ho:=hR.s;replace HB:=HB.tr ho;replace hF:=(hR.fr hF (by kernel_rfl)).cons (t:=13) (hR.val 9 (by decide));clear hR ho;refine bO (t:=((!(aV (s.size:Int) 1 12))||(!(aV (eR s 0) 97 122)))) (hF.g 0 rfl) (fun Rx=>?_) (fun Rx=>?_)
 .skip
  replace hF:=hF.tl;have hres:js s=false:=NS (by revert Rx;cases aV (s.size:Int) 1 12<;>cases aV (eR s 0) 97 122<;>simp);replace hF:=hF.tl;refine jz ⟨[],[],[],[]⟩ [(2,aH false)] hF hF trivial trivial ?_;intro a W ho hF;replace HB:=HB.tr ho;clear ho;refine fW ?_;show dE aq Tryz.f177 (fun e w'=>e=aP (aH (js s))/\az w.heap.size w w') dP a W;exact bm (cH rfl _ _ _) hF.defers ⟨congrArg aP (((hF.g 0 rfl):a.eval (aM 2)=aH false).trans (congrArg _ hres.symm)),HB⟩
 skip
 replace hF:=hF.tl;have h0:aV (s.size:Int) 1 12=true:=by revert Rx;cases aV (s.size:Int) 1 12<;>simp
 have h1:aV (eR s 0) 97 122=true:=by revert Rx;cases aV (eR s 0) 97 122<;>simp
 have hn:=gI.1 h0;refine eI ?_;show bZ aq _ _ _ _;refine eC ?_;refine jz ⟨[],[],[],[]⟩ [(3,ah ag 1)] hF hF trivial trivial ?_;intro a W ho hF;replace HB:=HB.tr ho;clear ho;refine lX ?_;refine wp_loop (fun a W=>∃k:Nat,k<=s.size/\(1<=k/\∀i,1<=i->i<k->oI s i=true)/\ij 32 a [(3,ah ag (k:Nat)),(0,.string s)]/\az w.heap.size w W) (fun a _=>s.size-(intOf (a.eval (aM 3))).toNat) ⟨1,by omega,⟨ax _,fun i h1 h2=>by omega⟩,⟨hF.size,hF.defers,(by obtain⟨b3,-,b0,-⟩:=hF.base;exact⟨b3,b0,trivial⟩)⟩,HB⟩ ?_;clear hF HB
 try clear a
 try clear W
 rintro a W ⟨k,sA,oJ,hF,HB⟩;have hk3:a.eval (aM 3)=ah ag (k:Nat):=(hF.g 0 rfl)
 refine eC ?_;refine jz ⟨[],[],[],[]⟩ [(17,aH (decide ((k:Int)<(s.size:Int))))] hF hF trivial trivial ?_;intro a W ho hF;replace HB:=HB.tr ho;clear ho;refine bO (t:=(decide ((k:Int)<(s.size:Int)))) (hF.g 0 rfl) (fun Jy=>?_) (fun Jy=>?_)
 .skip
  replace hF:=hF.tl;have xX:k<s.size:=by simpa using Jy
  have hw1:IntKind.i64.wrap ((k:Int)+1)=(k:Int)+1:=by rw[a8];omega
  refine eI ?_;show bZ aq _ _ _ _;refine eC ?_;refine lX ?_
  refine nI [pV (.string s),pV (ah ag (k:Nat)),pV (ah .u8 (eR s k)),pV (aH (aV (eR s k) 97 122)),pV (aH (!(aV (eR s k) 97 122))),pV (aH (!(aV (eR s k) 97 122))),pC (!(aV (eR s k) 97 122)) (.string s),pC (!(aV (eR s k) 97 122)) (ah ag (k:Nat)),pC (!(aV (eR s k) 97 122)) (ah .u8 (eR s k)),pC (!(aV (eR s k) 97 122)) (aH (aV (eR s k) 48 57)),pC (!(aV (eR s k) 97 122)) (aH (!(aV (eR s k) 48 57))),pV (aH ((!(aV (eR s k) 97 122))&&(!(aV (eR s k) 48 57))))]
   _ (by kernel_rfl) hF.size hF.base ?_ ?_ ?_
  .exact⟨sV,sV,sV,sV,sV,sV,sC,sC,sC,sC,sC,sV,trivial⟩
  .refine⟨?_,?_,?_,?_,?_,?_,?_,?_,?_,?_,?_,?_,trivial⟩<;>rintro ev w1 hS hc hg hf ⟨b3,b0,-⟩ hd
   all_goals try
    try have d0:ev (aM _)=_:=hd.1 rfl
    clear hd;refine yw rfl ?_ rfl;go_simp;done
   all_goals try
    try have d0:ev (aM _)=_:=hd.1 rfl
    try have c0:_->ev (aM _)=_:=hd.1 rfl
    try have d1:ev (aM _)=_:=hd.2.1 rfl
    clear hd
    first|refine gC d0 yD fun hA=>?_|refine gC d1 yD fun hA=>?_
    try replace c0:=c0 hA
    refine yw rfl ?_ (fun _=>rfl);go_simp;done
   .have d0:ev (aM 20)=_:=hd.1 rfl;have d1:ev (aM 21)=_:=hd.2.1 rfl;clear hd;have hi:=xT s k xX w1;refine Lag.Yields.value (v:=(ah .u8 (eR s k):ak)) (w':=w1) ?_ ⟨rfl,cK (au _ _)⟩;go_simp
   .have d2:ev (aM 22)=_:=hd.1 rfl;clear hd;refine yc (args:=#[ah .u8 (eR s k)]) (zC (eR s k) (vT _ _) w1) ?_ (fun _=>rfl);go_simp
   .have d6:_->ev (aM 26)=_:=hd.1 rfl;have d7:_->ev (aM 27)=_:=hd.2.1 rfl;have d5:ev (aM 25)=_:=hd.2.2.1 rfl;clear hd;refine gC d5 yD fun hA=>?_;have y6:=d6 hA;have y7:=d7 hA;have hi:=xT s k xX w1;refine Lag.Yields.value (v:=(ah .u8 (eR s k):ak)) (w':=w1) ?_ ⟨fun _=>rfl,cK (au _ _)⟩;go_simp
   .have d8:_->ev (aM 28)=_:=hd.1 rfl;have d5:ev (aM 25)=_:=hd.2.1 rfl;clear hd;refine gC d5 yD fun hA=>?_;have y8:=d8 hA;refine yc (args:=#[ah .u8 (eR s k)]) (Ll (eR s k) (vT _ _) w1) ?_ (fun _=>fun _=>rfl);go_simp
   have d5:ev (aM 25)=_:=hd.1 rfl;have d10:_->ev (aM 30)=_:=hd.2.1 rfl;clear hd;exact yA rfl hc d5 (fun hq=>d10 (by simp[hq])) (rfl)
  intro a W hR;have ho:=hR.s;replace HB:=HB.tr ho;replace hF:=(hR.fr hF (by kernel_rfl)).cons (t:=31) (hR.val 11 (by decide));clear hR ho;refine bO (t:=((!(aV (eR s k) 97 122))&&(!(aV (eR s k) 48 57)))) (hF.g 0 rfl) (fun aaG=>?_) (fun aaG=>?_)
  .skip
   replace hF:=hF.tl;have hres:js s=false:=Rm k oJ.1 xX (by unfold oI;revert aaG;cases aV (eR s k) 97 122<;>cases aV (eR s k) 48 57<;>simp);refine jz ⟨[],[],[],[]⟩ [(2,aH false)] hF hF trivial trivial ?_;intro a W ho hF;replace HB:=HB.tr ho;clear ho;refine fW ?_;show dE aq Tryz.f177 (fun e w'=>e=aP (aH (js s))/\az w.heap.size w w') dP a W;exact bm (cH rfl _ _ _) hF.defers ⟨congrArg aP (((hF.g 0 rfl):a.eval (aM 2)=aH false).trans (congrArg _ hres.symm)),HB⟩
  skip
  replace hF:=hF.tl;have hz:oI s k=true:=by unfold oI;revert aaG;cases aV (eR s k) 97 122<;>cases aV (eR s k) 48 57<;>simp
  refine eI ?_;show bZ aq _ _ _ _;have q7:=hF;replace hF:=hF.tl;refine Mj ⟨[],[(1,ah ag ((k:Nat)+1))],[],[]⟩ [(3,ah ag ((k:Nat)+1))] q7 hF trivial ⟨fun w1 hS _=>ge (congrArg (aB ag) (show IntKind.i64.wrap ((k:Nat)+1)=((k:Nat)+1) by rw[a8];omega)),trivial⟩ ?_;intro a W ho hF;clear q7;replace HB:=HB.tr ho;clear ho;refine⟨⟨k+1,by omega,⟨by omega,fun i h1 h2=>if hik:i<k then oJ.2 i h1 hik else by have e:i=k:=(by omega);rw[e];exact hz⟩,⟨hF.size,hF.defers,hF.base⟩,HB⟩,?_⟩;rw[show a.eval (aM 3)=ah ag ((k:Nat)+1) from(hF.g 0 rfl)];simp only[hk3];simp[intOf];omega
 skip
 replace hF:=hF.tl;refine wp_exit ?_;have Um:k=s.size:=by simp at Jy;omega
 have hres:js s=true:=Rl h0 h1 fun i Au hi2=>oJ.2 i Au (by omega);show bZ aq _ _ a W;show bZ aq _ _ _ _;refine jz ⟨[],[],[],[]⟩ [(2,aH true)] hF hF trivial trivial ?_;intro a W ho hF;replace HB:=HB.tr ho;clear ho;refine fW ?_;show dE aq Tryz.f177 (fun e w'=>e=aP (aH (js s))/\az w.heap.size w w') dP a W;exact bm (cH rfl _ _ _) hF.defers ⟨congrArg aP (((hF.g 0 rfl):a.eval (aM 2)=aH true).trans (congrArg _ hres.symm)),HB⟩
def pw(l:List Mn)(i:Nat):Mn:=l.getD i ⟨⟨#[]⟩,0,0⟩
theorem zu(l:List Mn)(i:Nat)(h:i<l.length):pw l i=l[i]:=by simp[pw,h]
def xA(ml:List Mn)(g off:Nat)(W:ar):Prop:=g<W.heap.size/\∀i,i<ml.length->W.cell? ⟨g,off+i*3,none⟩=some (.string (pw ml i).name)/\W.cell? ⟨g,off+i*3+1,none⟩=some (ah ag (pw ml i).lo)/\W.cell? ⟨g,off+i*3+2,none⟩=some (ah ag (pw ml i).hi)
theorem xA.below{ml:List Mn}{g off:Nat}{W W':ar}(h:xA ml g off W)(ho:az W.heap.size W W'):xA ml g off W':=
 ⟨bA h.1 ho.size,fun i hi=>⟨(ho.cell (p:=⟨g,off+i*3,none⟩) h.1).trans (h.2 i hi).1,(ho.cell (p:=⟨g,off+i*3+1,none⟩) h.1).trans (h.2 i hi).2.1,(ho.cell (p:=⟨g,off+i*3+2,none⟩) h.1).trans (h.2 i hi).2.2⟩⟩
theorem Reads.bq{w:ar}{p:Option Addr}{n c:Nat}{ml:List Mn}(h:Reads w (ae p n c) n (fF ml))(k:Nat)(hk:k<ml.length):∃g off,p=some ⟨g,off,none⟩/\xA ml g off w:=by
 rcases h with⟨_,_,h⟩|⟨g,off,cap,h,_,hg,hc⟩
 .have:=congrArg List.length h;rw[wA] at this;simp at this;omega
 cases h;refine⟨g,off,rfl,hg,fun i hi=>?_⟩;rw[zu ml i hi];exact Dt hc i hi
def DZ(a b:ByteArray):Bool:=a.toList==b.toList
theorem QJ{a b:ByteArray}:DZ a b=true↔a=b:=by
 unfold DZ;constructor
 .intro h
  by_cases e:a=b
  .exact e
  exact absurd (by simpa using h) (Mz e)
 rintro rfl;simp
def twice(l:List Mn)(i:Nat):Bool:=(aU i).any fun j=>DZ (pw l j).name (pw l i).name
theorem G8{l:List Mn}{i:Nat}(j:Nat)(hj:j<i)(h:DZ (pw l j).name (pw l i).name=true):twice l i=true:=by
 unfold twice;rw[qb];exact⟨j,bP.2 hj,h⟩
theorem SZ{l:List Mn}{i:Nat}(h:∀j,j<i->DZ (pw l j).name (pw l i).name=false):twice l i=false:=by
 unfold twice;rw[List.any_eq_false];intro j hj;rw[h j (bP.1 hj)];simp
def qm(m:Mn):Bool:=(!(cA m.lo m.hi 1 99))||decide (m.hi-m.lo≥3)
def ng(l:List Mn)(i:Nat):Int:=if (!(js (pw l i).name))=true then 4 else if twice l i=true then 5 else if qm (pw l i)=true then 1 else 0
def nz(l:List Mn):Int:=if (l.length:Int)>3 then 2 else(((aU l.length).map (ng l)).find? fun h=>h !=0).getD 0
theorem Qw{lo hi:Int}(h:cA lo hi 1 99=true):IntKind.i64.wrap (hi-lo)=hi-lo:=by
 unfold cA at h;simp at h;rw[a8];omega
theorem Ey{l:List Mn}{i:Nat}(h:ng l i=0):js (pw l i).name=true/\twice l i=false/\qm (pw l i)=false:=by
 unfold ng at h;cases h1:js (pw l i).name<;>cases h2:twice l i<;>cases h3:qm (pw l i)<;>simp_all
theorem TN{l:List Mn}(h:nz l=0):CQ l:=by
 unfold nz at h
 have h3:(l.length:Int)<=3:=by
  refine Int.not_lt.1 fun h'=>?_;rw[if_pos h'] at h;cases h
 rw[if_neg (by omega)] at h
 have hz:∀i,i<l.length->ng l i=0:=by
  intro i hi;refine fq fun hne=>?_
  have hs:((aU l.length).map (ng l)).find? (fun h=>h !=0)≠none:=by
   rw[Ne,List.find?_eq_none];intro hall;exact hall _ (List.mem_map.2 ⟨i,bP.2 hi,rfl⟩) (by simpa using hne)
  cases e:((aU l.length).map (ng l)).find? (fun h=>h !=0) with
  |none=>exact hs e
  |some x=>
   rw[e] at h;have:=List.find?_some e;simp at h this;exact this h
 refine⟨fun m hm=>?_,fun i k hi hk hik he=>?_,by omega⟩
 .obtain⟨i,hi,rfl⟩:=jy hm;obtain⟨h1,-,h2⟩:=Ey (hz i hi);rw[zu l i hi] at h1 h2;unfold qm cA at h2;simp at h2;exact⟨NQ h1,by omega,by omega,by omega,by omega⟩
 obtain⟨-,h2,-⟩:=Ey (hz k hk);have:=G8 (l:=l) i hik (QJ.2 (by rw[zu l i hi,zu l k hk];exact he));rw[this] at h2;cases h2
theorem I9{l:List Mn}(i:Nat)(h3:¬(l.length:Int)>3)(hi:i<l.length)(hpre:∀k,k<i->ng l k=0)(h:ng l i≠0):nz l=ng l i:=by
 unfold nz;rw[if_neg h3,zM _ _ i hi hpre h];rfl
theorem Rc{l:List Mn}(h3:¬(l.length:Int)>3)(hpre:∀k,k<l.length->ng l k=0):nz l=0:=by
 unfold nz;rw[if_neg h3,tu _ _ hpre];rfl
theorem JK(b:BB)(aK aA:ak)(p1:Option Addr)(c1:Nat)(ml:List Mn)(hlen:ml.length<=1000000)(w:ar)(hv:Reads w (ae p1 ml.length c1) ml.length (fF ml)):bu aq 146 #[aR (b.cells (ae p1 ml.length c1) aK aA)] w fun e w'=>e=aF (ah ag (nz ml))/\az w.heap.size w w':=by
 refine kP Tryz.func146 rfl rfl [(0,aR (b.cells (ae p1 ml.length c1) aK aA))] ⟨kF rfl,trivial⟩ fun a hF=>?_;refine(fun h:∀W,az w.heap.size w W->bZ aq _ _ a W=>h w (au _ _)) ?_;intro W HB;have HC:mS (∀k,k<ml.length->∃g off,p1=some ⟨g,off,none⟩/\xA ml g off w):=aj fun k hk=>hv.bq k hk;clear hv
 refine nI [fun v ds w9=>∃B,v=pv B 0/\w9.heap[B]?=some (aw (b.cells (ae p1 ml.length c1) aK aA) 28 (0,0)),pV (ah ag 0)]
  _ (by kernel_rfl) hF.size hF.base ?_ ?_ ?_
 .refine⟨?_,sV,trivial⟩
  .rintro v ds w1 w2 hS ⟨B,h1,h2⟩ hb;exact⟨B,h1,aG h2 hb⟩
 .refine⟨?_,?_,trivial⟩<;>rintro ev w1 hS hc hg hf ⟨b0,-⟩ hd
  .clear hd;refine Lag.Yields.value (v:=pv w1.heap.size 0) (w':=w1.alloc (aw (b.cells (ae p1 ml.length c1) aK aA) 28)) ?_ ⟨⟨_,rfl,ay _ _⟩,cK ((au _ _).alloc (ax _) _)⟩;go_simp
  clear hd;exact tV
 intro a W hR;have ho:=hR.s;obtain⟨B1,e1,K1⟩:=hR.val 0 (by decide);replace e1:a.eval (aM 1)=aS (some ⟨B1,0,none⟩):=e1;replace HB:=HB.tr ho;replace hF:=((hR.fr hF (by kernel_rfl)).cons (t:=1) e1).cons (t:=2) (hR.val 1 (by decide));clear hR ho e1;refine eC ?_;refine jz ⟨[],[],[(B1,(b.cells (ae p1 ml.length c1) aK aA))],[]⟩ [(9,aH (decide ((ml.length:Int)>3)))] hF hF ⟨fun w1 hS=>⟨_,_,aG K1 hS⟩,trivial⟩ trivial ?_;intro a W ho hF;replace HB:=HB.tr ho;replace K1:=aG K1 ho;clear ho;refine bO (t:=(decide ((ml.length:Int)>3))) (hF.g 0 rfl) (fun Rw=>?_) (fun Rw=>?_)
 .skip
  replace hF:=hF.tl;have hres:nz ml=2:=by unfold nz;rw[if_pos (by simpa using Rw)]
  replace hF:=hF.tl;refine jz ⟨[],[],[],[]⟩ [(2,ah ag 2)] hF hF trivial trivial ?_;intro a W ho hF;replace HB:=HB.tr ho;replace K1:=aG K1 ho;clear ho;refine fW ?_;show dE aq Tryz.f146 (fun e w'=>e=aP (ah ag (nz ml))/\az w.heap.size w w') dP a W;exact bm (cH rfl _ _ _) hF.defers ⟨congrArg aP (((hF.g 0 rfl):a.eval (aM 2)=ah ag 2).trans (congrArg _ hres.symm)),HB⟩
 skip
 replace hF:=hF.tl;have h3:¬(ml.length:Int)>3:=by simpa using Rw
 refine eI ?_;show bZ aq _ _ _ _;refine eC ?_;refine jz ⟨[],[],[],[]⟩ [(3,ah ag 0)] hF hF trivial trivial ?_;intro a W ho hF;replace HB:=HB.tr ho;replace K1:=aG K1 ho;clear ho;refine lX ?_;refine wp_loop (fun a W=>∃k:Nat,k<=ml.length/\(∀i,i<k->ng ml i=0)/\ij 54 a [(3,ah ag (k:Nat)),(1,aS (some ⟨B1,0,none⟩)),(0,aR (b.cells (ae p1 ml.length c1) aK aA))]/\az w.heap.size w W/\W.heap[B1]?=some (aw (b.cells (ae p1 ml.length c1) aK aA) 28 (0,0))) (fun a _=>ml.length-(intOf (a.eval (aM 3))).toNat) ⟨0,by omega,fun i hi=>by omega,⟨hF.size,hF.defers,(by obtain⟨b3,-,b1,b0,-⟩:=hF.base;exact⟨b3,b1,b0,trivial⟩)⟩,HB,K1⟩ ?_;clear hF HB K1
 try clear a
 try clear W
 rintro a W ⟨k,sA,oJ,hF,HB,K1⟩;have hk3:a.eval (aM 3)=ah ag (k:Nat):=(hF.g 0 rfl)
 refine eC ?_;refine jz ⟨[],[],[(B1,(b.cells (ae p1 ml.length c1) aK aA))],[]⟩ [(14,aH (decide ((k:Int)<(ml.length:Int))))] hF hF ⟨fun w1 hS=>⟨_,_,aG K1 hS⟩,trivial⟩ trivial ?_;intro a W ho hF;replace HB:=HB.tr ho;replace K1:=aG K1 ho;clear ho;refine bO (t:=(decide ((k:Int)<(ml.length:Int)))) (hF.g 0 rfl) (fun Ut=>?_) (fun Ut=>?_)
 .skip
  replace hF:=hF.tl;have xX:k<ml.length:=by simpa using Ut
  obtain⟨g,off,rfl,hM⟩:=HC.out k xX;have CM:=hM.below HB;clear hM;obtain⟨m,hm⟩:∃m,pw ml k=m:=⟨_,rfl⟩
  have hw1:IntKind.i64.wrap ((k:Int)+1)=(k:Int)+1:=by rw[a8];omega
  refine eI ?_;show bZ aq _ _ _ _;refine eC ?_;refine lX ?_
  refine nI [pV (aS (some ⟨B1,12,none⟩)),pV (ae (some ⟨g,off,none⟩) ml.length c1),pV (ah ag (k:Nat)),pV (aS (some ⟨g,off+k*3,none⟩)),pV (aR #[.string m.name,ah ag m.lo,ah ag m.hi]),fun v ds w9=>∃B,∃z:Array ak,v=pv B 0/\w9.heap[B]?=some (aw z 79 (0,0))/\z.size=3/\W.heap.size<=B,fun v ds w9=>∃B,ds[0]?=some (pv B 0)/\W.heap.size<=B/\w9.heap[B]?=some (aw #[.string m.name,ah ag m.lo,ah ag m.hi] 79 (0,0))]
   _ (by kernel_rfl) hF.size hF.base ?_ ?_ ?_
  .refine⟨sV,sV,sV,sV,sV,?_,?_,trivial⟩
   .rintro v ds w1 w2 hS ⟨B,z,h1,h2,h3,h4⟩ hb;exact⟨B,z,h1,aG h2 hb,h3,h4⟩
   rintro v ds w1 w2 hS ⟨B,h1,h4,h2⟩ hb;exact⟨B,h1,h4,aG h2 hb⟩
  .refine⟨?_,?_,?_,?_,?_,?_,?_,trivial⟩<;>rintro ev w1 hS hc hg hf ⟨b3,b1,-,-⟩ hd
   all_goals try
    clear hd;refine yw rfl ?_ rfl;go_simp;done
   .have d0:ev (aM 17)=_:=hd.1 rfl;clear hd;have z:=aJ (aG K1 hS) 12 _ rfl;exact tV
   .have d1:ev (aM 18)=_:=hd.1 rfl;have d2:ev (aM 19)=_:=hd.2.1 rfl;clear hd;have Au:¬(ml.length<=k):=by omega
    exact tV
   .have d3:ev (aM 20)=_:=hd.1 rfl;clear hd;obtain⟨z1,z2,z3⟩:=(xA.below CM hS).2 k (by omega);rw[hm] at z1 z2 z3;exact tV
   .clear hd;refine Lag.Yields.value (v:=pv w1.heap.size 0) (w':=w1.alloc (aw #[.string ⟨#[]⟩,ah ag 0,ah ag 0] 79)) ?_ ⟨⟨_,_,rfl,ay _ _,rfl,hS.size⟩,cK ((au _ _).alloc (ax _) _)⟩;go_simp
   .have d5:∃B,∃z:Array ak,(ev (aM 4))=pv B 0/\w1.heap[B]?=some (aw z 79 (0,0))/\z.size=3/\W.heap.size<=B:=hd.1 rfl;have d4:ev (aM 21)=_:=hd.2.1 rfl;clear hd;obtain⟨B,z,eB,hB,hz,hge⟩:=d5;refine Lag.Yields.lN 79 _ _ rfl B #[.string m.name,ah ag m.lo,ah ag m.hi] eB d4 79 z hB (by kernel_rfl) hz (by simp[cj]) ⟨⟨B,congrArg some eB,hge,cV hB⟩,.inr ⟨dv hS hge,?_⟩⟩;intro j u ds hj hp
    match j,hp with
    |0,hp=>exact hp
    |1,hp=>exact hp
    |2,hp=>exact hp
    |3,hp=>exact hp
    |4,hp=>exact hp
    |5,⟨B',z',h1,h2,h3,h4⟩=>
     by_cases tN:B'=B
     .subst tN;rw[hB] at h2;cases h2;exact⟨B',_,h1,cV hB,hz.symm.trans h3,h4⟩
     exact⟨B',z',h1,(setRow_other tN).trans h2,h3,h4⟩
    |6,_=>exact(hj rfl).elim
    |j+7,_=>trivial
  intro a W hR;have ho:=hR.s;obtain⟨B4,q4,-,K4⟩:=hR.val 6 (by decide);have e4:a.eval (aM 4)=aS (some ⟨B4,0,none⟩):=bj q4;clear q4;replace HB:=HB.tr ho;replace K1:=aG K1 ho;replace CM:=CM.below ho;replace hF:=(hR.fr hF (by kernel_rfl)).cons (t:=4) e4;clear hR ho e4;refine eC ?_;refine jz ⟨[],[(2,aH (js m.name))],[(B4,#[.string m.name,ah ag m.lo,ah ag m.hi])],[]⟩ [(25,aH (!(js m.name)))] hF hF ⟨fun w1 hS=>⟨_,_,aG K4 hS⟩,trivial⟩ ⟨fun w1 hS _=>gc (Rk m.name w1),trivial⟩ ?_;intro a W ho hF;replace HB:=HB.tr ho;replace K1:=aG K1 ho;replace CM:=CM.below ho;replace K4:=aG K4 ho;clear ho;refine bO (t:=(!(js m.name))) (hF.g 0 rfl) (fun aaH=>?_) (fun aaH=>?_)
  .skip
   replace hF:=hF.tl;have h4:ng ml k=4:=by unfold ng;rw[hm,if_pos aaH]
   have hres:nz ml=4:=(I9 k h3 xX oJ (by rw[h4];decide)).trans h4;refine jz ⟨[],[],[],[]⟩ [(2,ah ag 4)] hF hF trivial trivial ?_;intro a W ho hF;replace HB:=HB.tr ho;replace K1:=aG K1 ho;replace CM:=CM.below ho;replace K4:=aG K4 ho;clear ho;refine fW ?_;show dE aq Tryz.f146 (fun e w'=>e=aP (ah ag (nz ml))/\az w.heap.size w w') dP a W;exact bm (cH rfl _ _ _) hF.defers ⟨congrArg aP (((hF.g 0 rfl):a.eval (aM 2)=ah ag 4).trans (congrArg _ hres.symm)),HB⟩
  skip
  replace hF:=hF.tl;have Rv:(!(js m.name))≠true:=by rw[aaH];simp
  refine eI ?_;show bZ aq _ _ _ _;refine eC ?_;refine jz ⟨[],[],[],[]⟩ [(5,ah ag 0)] hF hF trivial trivial ?_;intro a W ho hF;replace HB:=HB.tr ho;replace K1:=aG K1 ho;replace CM:=CM.below ho;replace K4:=aG K4 ho;clear ho;refine lX ?_;refine wp_loop (fun a W=>∃j:Nat,j<=k/\(∀i,i<j->DZ (pw ml i).name m.name=false)/\ij 54 a [(5,ah ag (j:Nat)),(4,aS (some ⟨B4,0,none⟩)),(3,ah ag (k:Nat)),(1,aS (some ⟨B1,0,none⟩)),(0,aR (b.cells (ae (some ⟨g,off,none⟩) ml.length c1) aK aA))]/\az w.heap.size w W/\W.heap[B1]?=some (aw (b.cells (ae (some ⟨g,off,none⟩) ml.length c1) aK aA) 28 (0,0))/\xA ml g off W/\W.heap[B4]?=some (aw #[.string m.name,ah ag m.lo,ah ag m.hi] 79 (0,0))) (fun a _=>k-(intOf (a.eval (aM 5))).toNat) ⟨0,by omega,fun i hi=>by omega,⟨hF.size,hF.defers,hF.base⟩,HB,K1,CM,K4⟩ ?_;clear hF HB K1 CM K4
  try clear a
  try clear W
  rintro a W ⟨j,hkj,YG,hF,HB,K1,CM,K4⟩;have hk5:a.eval (aM 5)=ah ag (j:Nat):=(hF.g 0 rfl)
  refine eC ?_;refine jz ⟨[],[],[],[]⟩ [(28,aH (decide ((j:Int)<(k:Int))))] hF hF trivial trivial ?_;intro a W ho hF;replace HB:=HB.tr ho;replace K1:=aG K1 ho;replace CM:=CM.below ho;replace K4:=aG K4 ho;clear ho;refine bO (t:=(decide ((j:Int)<(k:Int)))) (hF.g 0 rfl) (fun Gj=>?_) (fun Gj=>?_)
  .skip
   replace hF:=hF.tl;have ahi:j<k:=by simpa using Gj
   have hw2:IntKind.i64.wrap ((j:Int)+1)=(j:Int)+1:=by rw[a8];omega
   refine eI ?_;show bZ aq _ _ _ _;refine eC ?_;refine lX ?_
   refine Md (by kernel_rfl) [pV (aS (some ⟨B1,12,none⟩)),pV (ae (some ⟨g,off,none⟩) ml.length c1),pV (ah ag (j:Nat)),pV (aS (some ⟨g,off+j*3,none⟩)),pV (aS (some ⟨g,off+j*3,none⟩)),pV (.string (pw ml j).name),pV (aS (some ⟨B4,0,none⟩)),pV (.string m.name),pV (aH (((pw ml j).name).toList==m.name.toList))]
    _ (by kernel_rfl) hF.size hF.base ?_ ?_ ?_
   .exact⟨sV,sV,sV,sV,sV,sV,sV,sV,sV,trivial⟩
   .refine⟨?_,?_,?_,?_,?_,?_,?_,?_,?_,trivial⟩<;>rintro ev w1 hS hc hg hf ⟨b5,b4,-,b1,-,-⟩ hd
    all_goals try
     try have d0:ev (aM _)=_:=hd.1 rfl
     try have d1:ev (aM _)=_:=hd.2.1 rfl
     clear hd;refine yw rfl ?_ rfl;go_simp;done
    .have d0:ev (aM 31)=_:=hd.1 rfl;clear hd;have z:=aJ (aG K1 hS) 12 _ rfl;exact tV
    .have d1:ev (aM 32)=_:=hd.1 rfl;have d2:ev (aM 33)=_:=hd.2.1 rfl;clear hd;have Au:¬(ml.length<=j):=by omega
     exact tV
    .have d4:ev (aM 35)=_:=hd.1 rfl;clear hd;obtain⟨z1,z2,z3⟩:=(xA.below CM hS).2 j (by omega);exact tV
    have d6:ev (aM 37)=_:=hd.1 rfl;clear hd;have z:=aJ (aG K4 hS) 0 _ rfl;exact tV
   intro a W hR;have ho:=hR.s;replace HB:=HB.tr ho;replace K1:=aG K1 ho;replace CM:=CM.below ho;replace K4:=aG K4 ho;replace hF:=(hR.fr hF (by kernel_rfl)).cons (t:=39) (hR.val 8 (by decide));clear hR ho;refine bO (t:=(((pw ml j).name).toList==m.name.toList)) (hF.g 0 rfl) (fun aaE=>?_) (fun aaE=>?_)
   .skip
    replace hF:=hF.tl;have h5:ng ml k=5:=by unfold ng;rw[hm,if_neg Rv,if_pos (G8 j ahi (by rw[hm];exact aaE))]
    have hres:nz ml=5:=(I9 k h3 xX oJ (by rw[h5];decide)).trans h5;refine jz ⟨[],[],[],[]⟩ [(2,ah ag 5)] hF hF trivial trivial ?_;intro a W ho hF;replace HB:=HB.tr ho;replace K1:=aG K1 ho;replace CM:=CM.below ho;replace K4:=aG K4 ho;clear ho;refine fW ?_;show dE aq Tryz.f146 (fun e w'=>e=aP (ah ag (nz ml))/\az w.heap.size w w') dP a W;exact bm (cH rfl _ _ _) hF.defers ⟨congrArg aP (((hF.g 0 rfl):a.eval (aM 2)=ah ag 5).trans (congrArg _ hres.symm)),HB⟩
   skip
   replace hF:=hF.tl;have hz:DZ (pw ml j).name m.name=false:=aaE;refine eI ?_;show bZ aq _ _ _ _;have q7:=hF;replace hF:=hF.tl;refine Mj ⟨[],[(1,ah ag ((j:Nat)+1))],[],[]⟩ [(5,ah ag ((j:Nat)+1))] q7 hF trivial ⟨fun w1 hS _=>ge (congrArg (aB ag) (show IntKind.i64.wrap ((j:Nat)+1)=((j:Nat)+1) by rw[a8];omega)),trivial⟩ ?_;intro a W ho hF;clear q7;replace HB:=HB.tr ho;replace K1:=aG K1 ho;replace CM:=CM.below ho;replace K4:=aG K4 ho;clear ho;refine⟨⟨j+1,by omega,fun i hi=>if hik:i<j then YG i hik else by have e:i=j:=(by omega);rw[e];exact hz,⟨hF.size,hF.defers,hF.base⟩,HB,K1,CM,K4⟩,?_⟩;rw[show a.eval (aM 5)=ah ag ((j:Nat)+1) from(hF.g 0 rfl)];simp only[hk5];simp[intOf];omega
  skip
  replace hF:=hF.tl;refine wp_exit ?_;have akC:j=k:=by simp at Gj;omega
  have htw:twice ml k=false:=SZ fun i hi=>by rw[hm];exact YG i (by omega)
  show bZ aq _ _ a W;show bZ aq _ _ _ _
  refine nI [pV (aS (some ⟨B4,1,none⟩)),pV (aR #[ah ag m.lo,ah ag m.hi]),pV (aH (cA m.lo m.hi 1 99)),pV (aH (!(cA m.lo m.hi 1 99))),pV (aH (!(cA m.lo m.hi 1 99))),pC (!(!(cA m.lo m.hi 1 99))) (aS (some ⟨B4,1,none⟩)),pC (!(!(cA m.lo m.hi 1 99))) (aS (some ⟨B4,2,none⟩)),pC (!(!(cA m.lo m.hi 1 99))) (ah ag m.hi),pC (!(!(cA m.lo m.hi 1 99))) (aS (some ⟨B4,1,none⟩)),pC (!(!(cA m.lo m.hi 1 99))) (aS (some ⟨B4,1,none⟩)),pC (!(!(cA m.lo m.hi 1 99))) (ah ag m.lo),pC (!(!(cA m.lo m.hi 1 99))) (ah ag (m.hi-m.lo)),pC (!(!(cA m.lo m.hi 1 99))) (aH (decide ((m.hi-m.lo)≥3))),pV (aH ((!(cA m.lo m.hi 1 99))||(decide ((m.hi-m.lo)≥3))))]
   _ (by kernel_rfl) hF.size hF.base ?_ ?_ ?_
  .exact⟨sV,sV,sV,sV,sV,sC,sC,sC,sC,sC,sC,sC,sC,sV,trivial⟩
  .refine⟨?_,?_,?_,?_,?_,?_,?_,?_,?_,?_,?_,?_,?_,?_,trivial⟩<;>rintro ev w1 hS hc hg hf ⟨-,b4,-,-,-,-⟩ hd
   all_goals try
    try have d0:ev (aM _)=_:=hd.1 rfl
    clear hd;refine yw rfl ?_ rfl;go_simp;done
   all_goals try
    try have d0:ev (aM _)=_:=hd.1 rfl
    try have c0:_->ev (aM _)=_:=hd.1 rfl
    try have d1:ev (aM _)=_:=hd.2.1 rfl
    clear hd
    first|refine gC d0 mf fun hA=>?_|refine gC d1 mf fun hA=>?_
    try replace c0:=c0 hA
    refine yw rfl ?_ (fun _=>rfl);go_simp;done
   .have d0:ev (aM 40)=_:=hd.1 rfl;clear hd;have z1:=aJ (aG K4 hS) 1 _ rfl;have z2:=aJ (aG K4 hS) 2 _ rfl;exact tV
   .have d1:ev (aM 41)=_:=hd.1 rfl;clear hd;refine yc (rD m.lo m.hi 1 99 w1) ?_ (fun _=>rfl);go_simp
   .have d6:_->ev (aM 46)=_:=hd.1 rfl;have d4:ev (aM 44)=_:=hd.2.1 rfl;clear hd;refine gC d4 mf fun hA=>?_;have y6:=d6 hA;have z:=aJ (aG K4 hS) 2 _ rfl;refine yv ?_ (fun _=>rfl);go_simp
   .have d9:_->ev (aM 49)=_:=hd.1 rfl;have d4:ev (aM 44)=_:=hd.2.1 rfl;clear hd;refine gC d4 mf fun hA=>?_;have y9:=d9 hA;have z:=aJ (aG K4 hS) 1 _ rfl;refine yv ?_ (fun _=>rfl);go_simp
   .have d7:_->ev (aM 47)=_:=hd.1 rfl;have d10:_->ev (aM 50)=_:=hd.2.1 rfl;have d4:ev (aM 44)=_:=hd.2.2.1 rfl;clear hd;refine gC d4 mf fun hA=>?_;have y7:=d7 hA;have M6:=d10 hA;have hw:=Qw (lo:=m.lo) (hi:=m.hi) (by revert hA;cases cA m.lo m.hi 1 99<;>simp);refine yv ?_ (fun _=>rfl);go_simp
   have d4:ev (aM 44)=_:=hd.1 rfl;have d12:_->ev (aM 52)=_:=hd.2.1 rfl;clear hd;exact yO rfl hc d4 (fun hq=>d12 (by simp[hq])) (rfl)
  intro a W hR;have ho:=hR.s;replace HB:=HB.tr ho;replace K1:=aG K1 ho;replace CM:=CM.below ho;replace K4:=aG K4 ho;replace hF:=(hR.fr hF (by kernel_rfl)).cons (t:=53) (hR.val 13 (by decide));clear hR ho;refine bO (t:=((!(cA m.lo m.hi 1 99))||(decide ((m.hi-m.lo)≥3)))) (hF.g 0 rfl) (fun aaC=>?_) (fun aaC=>?_)
  .skip
   replace hF:=hF.tl;have h1:ng ml k=1:=by unfold ng;rw[hm,if_neg Rv,if_neg (by rw[htw];simp),if_pos (show qm m=true from aaC)]
   have hres:nz ml=1:=(I9 k h3 xX oJ (by rw[h1];decide)).trans h1;refine jz ⟨[],[],[],[]⟩ [(2,ah ag 1)] hF hF trivial trivial ?_;intro a W ho hF;replace HB:=HB.tr ho;replace K1:=aG K1 ho;replace CM:=CM.below ho;replace K4:=aG K4 ho;clear ho;refine fW ?_;show dE aq Tryz.f146 (fun e w'=>e=aP (ah ag (nz ml))/\az w.heap.size w w') dP a W;exact bm (cH rfl _ _ _) hF.defers ⟨congrArg aP (((hF.g 0 rfl):a.eval (aM 2)=ah ag 1).trans (congrArg _ hres.symm)),HB⟩
  skip
  replace hF:=hF.tl;have hz:ng ml k=0:=by unfold ng;rw[hm,if_neg Rv,if_neg (by rw[htw];simp),if_neg (by rw[show qm m=_ from aaC];simp)]
  refine eI ?_;show bZ aq _ _ _ _;have q7:=hF;replace hF:=hF.del 3;simp only[lS,bU,reduceIte] at hF;refine Mj ⟨[],[(1,ah ag ((k:Nat)+1))],[],[]⟩ [(3,ah ag ((k:Nat)+1))] q7 hF trivial ⟨fun w1 hS _=>ge (congrArg (aB ag) (show IntKind.i64.wrap ((k:Nat)+1)=((k:Nat)+1) by rw[a8];omega)),trivial⟩ ?_;intro a W ho hF;clear q7;replace HB:=HB.tr ho;replace K1:=aG K1 ho;replace CM:=CM.below ho;replace K4:=aG K4 ho;clear ho;refine⟨⟨k+1,by omega,fun i hi=>if hik:i<k then oJ i hik else by have e:i=k:=(by omega);rw[e];exact hz,⟨hF.size,hF.defers,(by obtain⟨b3,-,-,b1,b0,-⟩:=hF.base;exact⟨b3,b1,b0,trivial⟩)⟩,HB,K1⟩,?_⟩;rw[show a.eval (aM 3)=ah ag ((k:Nat)+1) from(hF.g 0 rfl)];simp only[hk3];simp[intOf];omega
 skip
 replace hF:=hF.tl;refine wp_exit ?_;have Um:k=ml.length:=by simp at Ut;omega
 have hres:nz ml=0:=Rc h3 fun i hi=>oJ i (by omega);show bZ aq _ _ a W;show bZ aq _ _ _ _;refine jz ⟨[],[],[],[]⟩ [(2,ah ag 0)] hF hF trivial trivial ?_;intro a W ho hF;replace HB:=HB.tr ho;replace K1:=aG K1 ho;clear ho;refine fW ?_;show dE aq Tryz.f146 (fun e w'=>e=aP (ah ag (nz ml))/\az w.heap.size w w') dP a W;exact bm (cH rfl _ _ _) hF.defers ⟨congrArg aP (((hF.g 0 rfl):a.eval (aM 2)=ah ag 0).trans (congrArg _ hres.symm)),HB⟩
def I8(l:List Mk)(i:Nat):Mk:=l.getD i ⟨0,0,0⟩
theorem K6(l:List Mk)(i:Nat)(h:i<l.length):I8 l i=l[i]:=by simp[I8,h]
def OX(ms:List Mk)(g off:Nat)(W:ar):Prop:=g<W.heap.size/\∀i,i<ms.length->W.cell? ⟨g,off+i*3,none⟩=some (ah ag (I8 ms i).minute)/\W.cell? ⟨g,off+i*3+1,none⟩=some (ah ag (I8 ms i).lo)/\W.cell? ⟨g,off+i*3+2,none⟩=some (ah ag (I8 ms i).hi)
theorem OX.below{ml:List Mk}{g off:Nat}{W W':ar}(h:OX ml g off W)(ho:az W.heap.size W W'):OX ml g off W':=
 ⟨bA h.1 ho.size,fun i hi=>⟨(ho.cell (p:=⟨g,off+i*3,none⟩) h.1).trans (h.2 i hi).1,(ho.cell (p:=⟨g,off+i*3+1,none⟩) h.1).trans (h.2 i hi).2.1,(ho.cell (p:=⟨g,off+i*3+2,none⟩) h.1).trans (h.2 i hi).2.2⟩⟩
theorem Reads.mks{w:ar}{p:Option Addr}{n c:Nat}{ms:List Mk}(h:Reads w (ae p n c) n (dY ms))(k:Nat)(hk:k<ms.length):∃g off,p=some ⟨g,off,none⟩/\OX ms g off w:=by
 rcases h with⟨_,_,h⟩|⟨g,off,cap,h,_,hg,hc⟩
 .have:=congrArg List.length h;rw[qf] at this;simp at this;omega
 cases h;refine⟨g,off,rfl,hg,fun i hi=>?_⟩;rw[K6 ms i hi];exact wE hc i hi
def zr(l:List Mn)(i:Nat):Bool:=decide (((pw l i).name.size:Int)>100)
def JB(ml:List Mn)(ss:List Int)(ms:List Mk):Bool:=(decide ((ml.length:Int)>20)||decide ((ss.length:Int)>20))||decide ((ms.length:Int)>20)
def jk(ml:List Mn)(ss:List Int)(ms:List Mk):Bool:=JB ml ss ms||(aU ml.length).any (zr ml)
def nV(b:BB)(ms:List Mk)(i:Nat):Int:=if (!(aV (I8 ms i).minute 1 b.minutes))=true then 6 else if (!(cA (I8 ms i).lo (I8 ms i).hi 0 99))=true then 1 else 0
def tY(b:BB)(ms:List Mk):Int:=if (ms.length:Int)>3 then 2 else(((aU ms.length).map (nV b ms)).find? fun h=>h !=0).getD 0
theorem Hk{b:BB}{l:List Mk}(i:Nat)(h3:¬(l.length:Int)>3)(hi:i<l.length)(hpre:∀k,k<i->nV b l k=0)(h:nV b l i≠0):tY b l=nV b l i:=by
 unfold tY;rw[if_neg h3,zM _ _ i hi hpre h];rfl
theorem K8{b:BB}{l:List Mk}(h3:¬(l.length:Int)>3)(hpre:∀k,k<l.length->nV b l k=0):tY b l=0:=by
 unfold tY;rw[if_neg h3,tu _ _ hpre];rfl
def jU(b:BB)(ml:List Mn)(ss:List Int)(ms:List Mk):Int:=if (mD b !=0)=true then mD b else if (nz ml !=0)=true then nz ml else if (jJ b ss !=0)=true then jJ b ss else tY b ms
theorem RI(b:BB)(p1 p2 p3:Option Addr)(c1 c2 c3:Nat)(ml:List Mn)(ss:List Int)(ms:List Mk)(w:ar)(hv:Reads w (ae p1 ml.length c1) ml.length (fF ml)):bu aq 18 #[aR (b.cells (ae p1 ml.length c1) (ae p2 ss.length c2) (ae p3 ms.length c3))] w fun e w'=>e=aF (aH (jk ml ss ms))/\az w.heap.size w w':=by
 refine kP Tryz.func18 rfl rfl [(0,aR (b.cells (ae p1 ml.length c1) (ae p2 ss.length c2) (ae p3 ms.length c3)))] ⟨kF rfl,trivial⟩ fun a hF=>?_;refine(fun h:∀W,az w.heap.size w W->bZ aq _ _ a W=>h w (au _ _)) ?_;intro W HB;have HC:mS (∀k,k<ml.length->∃g off,p1=some ⟨g,off,none⟩/\xA ml g off w):=aj fun k hk=>hv.bq k hk;clear hv
 refine nI [fun v ds w9=>∃B,v=pv B 0/\w9.heap[B]?=some (aw (b.cells (ae p1 ml.length c1) (ae p2 ss.length c2) (ae p3 ms.length c3)) 28 (0,0)),pV (aH false)]
  _ (by kernel_rfl) hF.size hF.base ?_ ?_ ?_
 .refine⟨?_,sV,trivial⟩
  .rintro v ds w1 w2 hS ⟨B,h1,h2⟩ hb;exact⟨B,h1,aG h2 hb⟩
 .refine⟨?_,?_,trivial⟩<;>rintro ev w1 hS hc hg hf ⟨b0,-⟩ hd
  .clear hd;refine Lag.Yields.value (v:=pv w1.heap.size 0) (w':=w1.alloc (aw (b.cells (ae p1 ml.length c1) (ae p2 ss.length c2) (ae p3 ms.length c3)) 28)) ?_ ⟨⟨_,rfl,ay _ _⟩,cK ((au _ _).alloc (ax _) _)⟩;go_simp
  clear hd;exact tV
 intro a W hR;have ho:=hR.s;obtain⟨B1,e1,K1⟩:=hR.val 0 (by decide);replace e1:a.eval (aM 1)=aS (some ⟨B1,0,none⟩):=e1;replace HB:=HB.tr ho;replace hF:=((hR.fr hF (by kernel_rfl)).cons (t:=1) e1).cons (t:=2) (hR.val 1 (by decide));clear hR ho e1;refine eC ?_;refine jz ⟨[],[],[(B1,(b.cells (ae p1 ml.length c1) (ae p2 ss.length c2) (ae p3 ms.length c3)))],[]⟩ [(19,aH (((decide ((ml.length:Int)>20))||(decide ((ss.length:Int)>20)))||(decide ((ms.length:Int)>20))))] hF hF ⟨fun w1 hS=>⟨_,_,aG K1 hS⟩,trivial⟩ trivial ?_;intro a W ho hF;replace HB:=HB.tr ho;replace K1:=aG K1 ho;clear ho;refine bO (t:=(((decide ((ml.length:Int)>20))||(decide ((ss.length:Int)>20)))||(decide ((ms.length:Int)>20)))) (hF.g 0 rfl) (fun Ob=>?_) (fun Ob=>?_)
 .skip
  replace hF:=hF.tl;have hres:jk ml ss ms=true:=by unfold jk;rw[show JB ml ss ms=true from Ob];rfl
  replace hF:=hF.tl;refine jz ⟨[],[],[],[]⟩ [(2,aH true)] hF hF trivial trivial ?_;intro a W ho hF;replace HB:=HB.tr ho;replace K1:=aG K1 ho;clear ho;refine fW ?_;show dE aq Tryz.f18 (fun e w'=>e=aP (aH (jk ml ss ms))/\az w.heap.size w w') dP a W;exact bm (cH rfl _ _ _) hF.defers ⟨congrArg aP (((hF.g 0 rfl):a.eval (aM 2)=aH true).trans (congrArg _ hres.symm)),HB⟩
 skip
 replace hF:=hF.tl;have h20:ml.length<=20:=by revert Ob;simp;omega
 refine eI ?_;show bZ aq _ _ _ _;refine eC ?_;refine jz ⟨[],[],[],[]⟩ [(3,ah ag 0)] hF hF trivial trivial ?_;intro a W ho hF;replace HB:=HB.tr ho;replace K1:=aG K1 ho;clear ho;refine lX ?_;refine wp_loop (fun a W=>∃k:Nat,k<=ml.length/\(∀i,i<k->zr ml i=false)/\ij 35 a [(3,ah ag (k:Nat)),(1,aS (some ⟨B1,0,none⟩)),(0,aR (b.cells (ae p1 ml.length c1) (ae p2 ss.length c2) (ae p3 ms.length c3)))]/\az w.heap.size w W/\W.heap[B1]?=some (aw (b.cells (ae p1 ml.length c1) (ae p2 ss.length c2) (ae p3 ms.length c3)) 28 (0,0))) (fun a _=>ml.length-(intOf (a.eval (aM 3))).toNat) ⟨0,by omega,fun i hi=>by omega,⟨hF.size,hF.defers,(by obtain⟨b3,-,b1,b0,-⟩:=hF.base;exact⟨b3,b1,b0,trivial⟩)⟩,HB,K1⟩ ?_;clear hF HB K1
 try clear a
 try clear W
 rintro a W ⟨k,sA,oJ,hF,HB,K1⟩;have hk3:a.eval (aM 3)=ah ag (k:Nat):=(hF.g 0 rfl)
 refine eC ?_;refine jz ⟨[],[],[(B1,(b.cells (ae p1 ml.length c1) (ae p2 ss.length c2) (ae p3 ms.length c3)))],[]⟩ [(24,aH (decide ((k:Int)<(ml.length:Int))))] hF hF ⟨fun w1 hS=>⟨_,_,aG K1 hS⟩,trivial⟩ trivial ?_;intro a W ho hF;replace HB:=HB.tr ho;replace K1:=aG K1 ho;clear ho;refine bO (t:=(decide ((k:Int)<(ml.length:Int)))) (hF.g 0 rfl) (fun Jw=>?_) (fun Jw=>?_)
 .skip
  replace hF:=hF.tl;have xX:k<ml.length:=by simpa using Jw
  obtain⟨g,off,rfl,hM⟩:=HC.out k xX;have CM:=hM.below HB;clear hM;obtain⟨m,hm⟩:∃m,pw ml k=m:=⟨_,rfl⟩
  have hw1:IntKind.i64.wrap ((k:Int)+1)=(k:Int)+1:=by rw[a8];omega
  refine eI ?_;show bZ aq _ _ _ _;refine eC ?_;refine lX ?_
  refine nI [pV (aS (some ⟨B1,12,none⟩)),pV (ae (some ⟨g,off,none⟩) ml.length c1),pV (ah ag (k:Nat)),pV (aS (some ⟨g,off+k*3,none⟩)),pV (aS (some ⟨g,off+k*3,none⟩)),pV (.string m.name),pV (ah ag (m.name.size:Int)),pV (aH (decide ((m.name.size:Int)>100)))]
   _ (by kernel_rfl) hF.size hF.base ?_ ?_ ?_
  .exact⟨sV,sV,sV,sV,sV,sV,sV,sV,trivial⟩
  .refine⟨?_,?_,?_,?_,?_,?_,?_,?_,trivial⟩<;>rintro ev w1 hS hc hg hf ⟨b3,b1,-,-⟩ hd
   all_goals try
    try have d0:ev (aM _)=_:=hd.1 rfl
    clear hd;refine yw rfl ?_ rfl;go_simp;done
   .have d0:ev (aM 27)=_:=hd.1 rfl;clear hd;have z:=aJ (aG K1 hS) 12 _ rfl;exact tV
   .have d1:ev (aM 28)=_:=hd.1 rfl;have d2:ev (aM 29)=_:=hd.2.1 rfl;clear hd;have Au:¬(ml.length<=k):=by omega
    exact tV
   have d4:ev (aM 31)=_:=hd.1 rfl;clear hd;obtain⟨z1,z2,z3⟩:=(xA.below CM hS).2 k (by omega);rw[hm] at z1 z2 z3;exact tV
  intro a W hR;have ho:=hR.s;replace HB:=HB.tr ho;replace K1:=aG K1 ho;replace CM:=CM.below ho;replace hF:=(hR.fr hF (by kernel_rfl)).cons (t:=34) (hR.val 7 (by decide));clear hR ho;refine bO (t:=(decide ((m.name.size:Int)>100))) (hF.g 0 rfl) (fun aaF=>?_) (fun aaF=>?_)
  .skip
   replace hF:=hF.tl;have hres:jk ml ss ms=true:=by unfold jk;rw[Bool.or_eq_true];right;rw[qb];exact⟨k,bP.2 xX,by unfold zr;rw[hm];exact aaF⟩
   refine jz ⟨[],[],[],[]⟩ [(2,aH true)] hF hF trivial trivial ?_;intro a W ho hF;replace HB:=HB.tr ho;replace K1:=aG K1 ho;replace CM:=CM.below ho;clear ho;refine fW ?_;show dE aq Tryz.f18 (fun e w'=>e=aP (aH (jk ml ss ms))/\az w.heap.size w w') dP a W;exact bm (cH rfl _ _ _) hF.defers ⟨congrArg aP (((hF.g 0 rfl):a.eval (aM 2)=aH true).trans (congrArg _ hres.symm)),HB⟩
  skip
  replace hF:=hF.tl;have hz:zr ml k=false:=by unfold zr;rw[hm];exact aaF
  refine eI ?_;show bZ aq _ _ _ _;have q7:=hF;replace hF:=hF.tl;refine Mj ⟨[],[(1,ah ag ((k:Nat)+1))],[],[]⟩ [(3,ah ag ((k:Nat)+1))] q7 hF trivial ⟨fun w1 hS _=>ge (congrArg (aB ag) (show IntKind.i64.wrap ((k:Nat)+1)=((k:Nat)+1) by rw[a8];omega)),trivial⟩ ?_;intro a W ho hF;clear q7;replace HB:=HB.tr ho;replace K1:=aG K1 ho;replace CM:=CM.below ho;clear ho;refine⟨⟨k+1,by omega,fun i hi=>if hik:i<k then oJ i hik else by have e:i=k:=(by omega);rw[e];exact hz,⟨hF.size,hF.defers,hF.base⟩,HB,K1⟩,?_⟩;rw[show a.eval (aM 3)=ah ag ((k:Nat)+1) from(hF.g 0 rfl)];simp only[hk3];simp[intOf];omega
 skip
 replace hF:=hF.tl;refine wp_exit ?_;have Um:k=ml.length:=by simp at Jw;omega
 have hres:jk ml ss ms=false:=by
  unfold jk;rw[show JB ml ss ms=false from Ob,Bool.false_or,List.any_eq_false];intro i hi;rw[oJ i (by have:=bP.1 hi;omega)];simp
 show bZ aq _ _ a W;show bZ aq _ _ _ _;refine jz ⟨[],[],[],[]⟩ [(2,aH false)] hF hF trivial trivial ?_;intro a W ho hF;replace HB:=HB.tr ho;replace K1:=aG K1 ho;clear ho;refine fW ?_;show dE aq Tryz.f18 (fun e w'=>e=aP (aH (jk ml ss ms))/\az w.heap.size w w') dP a W;exact bm (cH rfl _ _ _) hF.defers ⟨congrArg aP (((hF.g 0 rfl):a.eval (aM 2)=aH false).trans (congrArg _ hres.symm)),HB⟩
theorem KM(b:BB)(p1 p2 p3:Option Addr)(c1 c2 c3:Nat)(ml:List Mn)(ss:List Int)(ms:List Mk)(hl:ml.length<=20/\ss.length<=20)(w:ar)(hv:Reads w (ae p1 ml.length c1) ml.length (fF ml))(hu:Reads w (ae p2 ss.length c2) ss.length (ss.map (aB ag)))(hk3:Reads w (ae p3 ms.length c3) ms.length (dY ms)):bu aq 72 #[aR (b.cells (ae p1 ml.length c1) (ae p2 ss.length c2) (ae p3 ms.length c3))] w fun e w'=>e=aF (ah ag (jU b ml ss ms))/\az w.heap.size w w':=by
 refine kP Tryz.func72 rfl rfl [(0,aR (b.cells (ae p1 ml.length c1) (ae p2 ss.length c2) (ae p3 ms.length c3)))] ⟨kF rfl,trivial⟩ fun a hF=>?_;refine(fun h:∀W,az w.heap.size w W->bZ aq _ _ a W=>h w (au _ _)) ?_;intro W HB;have HC:mS (∀k,k<ms.length->∃g off,p3=some ⟨g,off,none⟩/\OX ms g off w):=aj fun k hk=>hk3.mks k hk;clear hk3
 refine nI [fun v ds w9=>∃B,v=pv B 0/\w9.heap[B]?=some (aw (b.cells (ae p1 ml.length c1) (ae p2 ss.length c2) (ae p3 ms.length c3)) 28 (0,0)),pV (ah ag 0)]
  _ (by kernel_rfl) hF.size hF.base ?_ ?_ ?_
 .refine⟨?_,sV,trivial⟩
  .rintro v ds w1 w2 hS ⟨B,h1,h2⟩ hb;exact⟨B,h1,aG h2 hb⟩
 .refine⟨?_,?_,trivial⟩<;>rintro ev w1 hS hc hg hf ⟨b0,-⟩ hd
  .clear hd;refine Lag.Yields.value (v:=pv w1.heap.size 0) (w':=w1.alloc (aw (b.cells (ae p1 ml.length c1) (ae p2 ss.length c2) (ae p3 ms.length c3)) 28)) ?_ ⟨⟨_,rfl,ay _ _⟩,cK ((au _ _).alloc (ax _) _)⟩;go_simp
  clear hd;exact tV
 intro a W hR;have ho:=hR.s;obtain⟨B1,e1,K1⟩:=hR.val 0 (by decide);replace e1:a.eval (aM 1)=aS (some ⟨B1,0,none⟩):=e1;replace HB:=HB.tr ho;replace hF:=((hR.fr hF (by kernel_rfl)).cons (t:=1) e1).cons (t:=2) (hR.val 1 (by decide));clear hR ho e1;refine eC ?_;refine jz ⟨[],[(1,ah ag (mD b))],[(B1,(b.cells (ae p1 ml.length c1) (ae p2 ss.length c2) (ae p3 ms.length c3)))],[]⟩ [(3,ah ag (mD b))] hF hF ⟨fun w1 hS=>⟨_,_,aG K1 hS⟩,trivial⟩ ⟨fun w1 hS _=>gc (Gs b (ae p1 ml.length c1) (ae p2 ss.length c2) (ae p3 ms.length c3) w1),trivial⟩ ?_;intro a W ho hF;replace HB:=HB.tr ho;replace K1:=aG K1 ho;clear ho;refine jz ⟨[],[],[],[]⟩ [(10,aH ((mD b) !=0))] hF hF trivial trivial ?_;intro a W ho hF;replace HB:=HB.tr ho;replace K1:=aG K1 ho;clear ho;refine bO (t:=((mD b) !=0)) (hF.g 0 rfl) (fun Oc=>?_) (fun Oc=>?_)
 .skip
  replace hF:=hF.tl;have hres:jU b ml ss ms=mD b:=by unfold jU;rw[if_pos Oc]
  replace hF:=hF.del 2;simp only[lS,bU,reduceIte] at hF;refine jz ⟨[],[],[],[]⟩ [(2,ah ag (mD b))] hF hF trivial trivial ?_;intro a W ho hF;replace HB:=HB.tr ho;replace K1:=aG K1 ho;clear ho;refine fW ?_;show dE aq Tryz.f72 (fun e w'=>e=aP (ah ag (jU b ml ss ms))/\az w.heap.size w w') dP a W;exact bm (cH rfl _ _ _) hF.defers ⟨congrArg aP (((hF.g 0 rfl):a.eval (aM 2)=ah ag (mD b)).trans (congrArg _ hres.symm)),HB⟩
 skip
 replace hF:=hF.tl;refine eI ?_;show bZ aq _ _ _ _;refine eC ?_;refine jz ⟨[],[(1,ah ag (nz ml))],[(B1,(b.cells (ae p1 ml.length c1) (ae p2 ss.length c2) (ae p3 ms.length c3)))],[]⟩ [(4,ah ag (nz ml))] hF hF ⟨fun w1 hS=>⟨_,_,aG K1 hS⟩,trivial⟩ ⟨fun w1 hS _=>gc (args:=#[aR (b.cells (ae p1 ml.length c1) (ae p2 ss.length c2) (ae p3 ms.length c3))]) (JK b (ae p2 ss.length c2) (ae p3 ms.length c3) _ _ ml (by omega) w1 (hv.below (HB.tr hS))),trivial⟩ ?_;intro a W ho hF;replace HB:=HB.tr ho;replace K1:=aG K1 ho;clear ho;refine jz ⟨[],[],[],[]⟩ [(15,aH ((nz ml) !=0))] hF hF trivial trivial ?_;intro a W ho hF;replace HB:=HB.tr ho;replace K1:=aG K1 ho;clear ho;refine bO (t:=((nz ml) !=0)) (hF.g 0 rfl) (fun XD=>?_) (fun XD=>?_)
 .skip
  replace hF:=hF.tl;have hres:jU b ml ss ms=nz ml:=by unfold jU;rw[if_neg (by rw[Oc];simp),if_pos XD]
  replace hF:=hF.del 2;simp only[lS,bU,reduceIte] at hF;refine jz ⟨[],[],[],[]⟩ [(2,ah ag (nz ml))] hF hF trivial trivial ?_;intro a W ho hF;replace HB:=HB.tr ho;replace K1:=aG K1 ho;clear ho;refine fW ?_;show dE aq Tryz.f72 (fun e w'=>e=aP (ah ag (jU b ml ss ms))/\az w.heap.size w w') dP a W;exact bm (cH rfl _ _ _) hF.defers ⟨congrArg aP (((hF.g 0 rfl):a.eval (aM 2)=ah ag (nz ml)).trans (congrArg _ hres.symm)),HB⟩
 skip
 replace hF:=hF.tl;refine eI ?_;show bZ aq _ _ _ _;refine eC ?_;refine jz ⟨[],[(3,ah ag (jJ b ss))],[(B1,(b.cells (ae p1 ml.length c1) (ae p2 ss.length c2) (ae p3 ms.length c3)))],[]⟩ [(5,ah ag (jJ b ss))] hF hF ⟨fun w1 hS=>⟨_,_,aG K1 hS⟩,trivial⟩ ⟨fun w1 hS _=>gc (args:=#[aR (b.cells (ae p1 ml.length c1) (ae p2 ss.length c2) (ae p3 ms.length c3)),ae p2 ss.length c2]) (Gr b (ae p1 ml.length c1) (ae p2 ss.length c2) (ae p3 ms.length c3) _ _ ss (by omega) w1 (hu.below (HB.tr hS))),trivial⟩ ?_;intro a W ho hF;replace HB:=HB.tr ho;replace K1:=aG K1 ho;clear ho;refine jz ⟨[],[],[],[]⟩ [(22,aH ((jJ b ss) !=0))] hF hF trivial trivial ?_;intro a W ho hF;replace HB:=HB.tr ho;replace K1:=aG K1 ho;clear ho;refine bO (t:=((jJ b ss) !=0)) (hF.g 0 rfl) (fun aaI=>?_) (fun aaI=>?_)
 .skip
  replace hF:=hF.tl;have hres:jU b ml ss ms=jJ b ss:=by unfold jU;rw[if_neg (by rw[Oc];simp),if_neg (by rw[XD];simp),if_pos aaI]
  replace hF:=hF.del 2;simp only[lS,bU,reduceIte] at hF;refine jz ⟨[],[],[],[]⟩ [(2,ah ag (jJ b ss))] hF hF trivial trivial ?_;intro a W ho hF;replace HB:=HB.tr ho;replace K1:=aG K1 ho;clear ho;refine fW ?_;show dE aq Tryz.f72 (fun e w'=>e=aP (ah ag (jU b ml ss ms))/\az w.heap.size w w') dP a W;exact bm (cH rfl _ _ _) hF.defers ⟨congrArg aP (((hF.g 0 rfl):a.eval (aM 2)=ah ag (jJ b ss)).trans (congrArg _ hres.symm)),HB⟩
 skip
 replace hF:=hF.tl;have hh:jU b ml ss ms=tY b ms:=by unfold jU;rw[if_neg (by rw[Oc];simp),if_neg (by rw[XD];simp),if_neg (by rw[aaI];simp)]
 refine eI ?_;show bZ aq _ _ _ _;refine eC ?_;refine jz ⟨[],[],[(B1,(b.cells (ae p1 ml.length c1) (ae p2 ss.length c2) (ae p3 ms.length c3)))],[]⟩ [(27,aH (decide ((ms.length:Int)>3)))] hF hF ⟨fun w1 hS=>⟨_,_,aG K1 hS⟩,trivial⟩ trivial ?_;intro a W ho hF;replace HB:=HB.tr ho;replace K1:=aG K1 ho;clear ho;refine bO (t:=(decide ((ms.length:Int)>3))) (hF.g 0 rfl) (fun EP=>?_) (fun EP=>?_)
 .skip
  replace hF:=hF.tl;have hres:jU b ml ss ms=2:=by rw[hh];unfold tY;rw[if_pos (by simpa using EP)]
  replace hF:=hF.del 2;simp only[lS,bU,reduceIte] at hF;refine jz ⟨[],[],[],[]⟩ [(2,ah ag 2)] hF hF trivial trivial ?_;intro a W ho hF;replace HB:=HB.tr ho;replace K1:=aG K1 ho;clear ho;refine fW ?_;show dE aq Tryz.f72 (fun e w'=>e=aP (ah ag (jU b ml ss ms))/\az w.heap.size w w') dP a W;exact bm (cH rfl _ _ _) hF.defers ⟨congrArg aP (((hF.g 0 rfl):a.eval (aM 2)=ah ag 2).trans (congrArg _ hres.symm)),HB⟩
 skip
 replace hF:=hF.tl;have h3:¬(ms.length:Int)>3:=by simpa using EP
 refine eI ?_;show bZ aq _ _ _ _;refine eC ?_;refine jz ⟨[],[],[],[]⟩ [(6,ah ag 0)] hF hF trivial trivial ?_;intro a W ho hF;replace HB:=HB.tr ho;replace K1:=aG K1 ho;clear ho;refine lX ?_;refine wp_loop (fun a W=>∃k:Nat,k<=ms.length/\(∀i,i<k->nV b ms i=0)/\ij 52 a [(6,ah ag (k:Nat)),(1,aS (some ⟨B1,0,none⟩)),(0,aR (b.cells (ae p1 ml.length c1) (ae p2 ss.length c2) (ae p3 ms.length c3)))]/\az w.heap.size w W/\W.heap[B1]?=some (aw (b.cells (ae p1 ml.length c1) (ae p2 ss.length c2) (ae p3 ms.length c3)) 28 (0,0))) (fun a _=>ms.length-(intOf (a.eval (aM 6))).toNat) ⟨0,by omega,fun i hi=>by omega,⟨hF.size,hF.defers,(by obtain⟨b6,-,-,-,-,b1,b0,-⟩:=hF.base;exact⟨b6,b1,b0,trivial⟩)⟩,HB,K1⟩ ?_;clear hF HB K1
 try clear a
 try clear W
 rintro a W ⟨k,sA,oJ,hF,HB,K1⟩;have hk6:a.eval (aM 6)=ah ag (k:Nat):=(hF.g 0 rfl)
 refine eC ?_;refine jz ⟨[],[],[(B1,(b.cells (ae p1 ml.length c1) (ae p2 ss.length c2) (ae p3 ms.length c3)))],[]⟩ [(32,aH (decide ((k:Int)<(ms.length:Int))))] hF hF ⟨fun w1 hS=>⟨_,_,aG K1 hS⟩,trivial⟩ trivial ?_;intro a W ho hF;replace HB:=HB.tr ho;replace K1:=aG K1 ho;clear ho;refine bO (t:=(decide ((k:Int)<(ms.length:Int)))) (hF.g 0 rfl) (fun LH=>?_) (fun LH=>?_)
 .skip
  replace hF:=hF.tl;have xX:k<ms.length:=by simpa using LH
  obtain⟨g,off,rfl,hM⟩:=HC.out k xX;have CM:=hM.below HB;clear hM;obtain⟨m,hm⟩:∃m,I8 ms k=m:=⟨_,rfl⟩
  have hw1:IntKind.i64.wrap ((k:Int)+1)=(k:Int)+1:=by rw[a8];omega
  refine eI ?_;show bZ aq _ _ _ _;refine eC ?_;refine lX ?_;refine eC ?_
  refine Md (by kernel_rfl) [pV (aR (b.cells (ae p1 ml.length c1) (ae p2 ss.length c2) (ae (some ⟨g,off,none⟩) ms.length c3))),pV (aS (some ⟨B1,14,none⟩)),pV (ae (some ⟨g,off,none⟩) ms.length c3),pV (ah ag (k:Nat)),pV (aS (some ⟨g,off+k*3,none⟩)),pV (aS (some ⟨g,off+k*3,none⟩)),pV (ah ag m.minute),pV (aH (aV m.minute 1 b.minutes)),pV (aH (!(aV m.minute 1 b.minutes)))]
   _ (by kernel_rfl) hF.size hF.base ?_ ?_ ?_
  .exact⟨sV,sV,sV,sV,sV,sV,sV,sV,sV,trivial⟩
  .refine⟨?_,?_,?_,?_,?_,?_,?_,?_,?_,trivial⟩<;>rintro ev w1 hS hc hg hf ⟨b6,b1,-,-⟩ hd
   all_goals try
    try have d0:ev (aM _)=_:=hd.1 rfl
    clear hd;refine yw rfl ?_ rfl;go_simp;done
   .clear hd;have l9:=aG K1 hS;exact CZ 28 rfl b1 l9 cJ rfl (by kernel_rfl) (rfl)
   .have d1:ev (aM 36)=_:=hd.1 rfl;clear hd;have z:=aJ (aG K1 hS) 14 _ rfl;exact tV
   .have d2:ev (aM 37)=_:=hd.1 rfl;have d3:ev (aM 38)=_:=hd.2.1 rfl;clear hd;have Au:¬(ms.length<=k):=by omega
    exact tV
   .have d5:ev (aM 40)=_:=hd.1 rfl;clear hd;obtain⟨z1,z2,z3⟩:=(OX.below CM hS).2 k (by omega);rw[hm] at z1 z2 z3;exact tV
   have d0:ev (aM 35)=_:=hd.1 rfl;have d6:ev (aM 41)=_:=hd.2.1 rfl;clear hd;refine yc (rV b (ae p1 ml.length c1) (ae p2 ss.length c2) (ae (some ⟨g,off,none⟩) ms.length c3) m.minute w1) ?_ (fun _=>rfl);go_simp
  intro a W hR;have ho:=hR.s;replace HB:=HB.tr ho;replace K1:=aG K1 ho;replace CM:=CM.below ho;replace hF:=(hR.fr hF (by kernel_rfl)).cons (t:=43) (hR.val 8 (by decide));clear hR ho;refine bO (t:=(!(aV m.minute 1 b.minutes))) (hF.g 0 rfl) (fun XB=>?_) (fun XB=>?_)
  .skip
   replace hF:=hF.tl;have h6:nV b ms k=6:=by unfold nV;rw[hm,if_pos XB]
   have hres:jU b ml ss ms=6:=hh.trans ((Hk k h3 xX oJ (by rw[h6];decide)).trans h6);refine jz ⟨[],[],[],[]⟩ [(2,ah ag 6)] hF hF trivial trivial ?_;intro a W ho hF;replace HB:=HB.tr ho;replace K1:=aG K1 ho;replace CM:=CM.below ho;clear ho;refine fW ?_;show dE aq Tryz.f72 (fun e w'=>e=aP (ah ag (jU b ml ss ms))/\az w.heap.size w w') dP a W;exact bm (cH rfl _ _ _) hF.defers ⟨congrArg aP (((hF.g 0 rfl):a.eval (aM 2)=ah ag 6).trans (congrArg _ hres.symm)),HB⟩
  skip
  replace hF:=hF.tl;refine eI ?_;show bZ aq _ _ _ _
  refine nI [pV (aS (some ⟨B1,14,none⟩)),pV (ae (some ⟨g,off,none⟩) ms.length c3),pV (ah ag (k:Nat)),pV (aS (some ⟨g,off+k*3,none⟩)),pV (aS (some ⟨g,off+k*3+1,none⟩)),pV (aR #[ah ag m.lo,ah ag m.hi]),pV (aH (cA m.lo m.hi 0 99)),pV (aH (!(cA m.lo m.hi 0 99)))]
   _ (by kernel_rfl) hF.size hF.base ?_ ?_ ?_
  .exact⟨sV,sV,sV,sV,sV,sV,sV,sV,trivial⟩
  .refine⟨?_,?_,?_,?_,?_,?_,?_,?_,trivial⟩<;>rintro ev w1 hS hc hg hf ⟨b6,b1,-,-⟩ hd
   all_goals try
    try have d0:ev (aM _)=_:=hd.1 rfl
    clear hd;refine yw rfl ?_ rfl;go_simp;done
   .have d0:ev (aM 44)=_:=hd.1 rfl;clear hd;have z:=aJ (aG K1 hS) 14 _ rfl;exact tV
   .have d1:ev (aM 45)=_:=hd.1 rfl;have d2:ev (aM 46)=_:=hd.2.1 rfl;clear hd;have Au:¬(ms.length<=k):=by omega
    exact tV
   .have d4:ev (aM 48)=_:=hd.1 rfl;clear hd;obtain⟨z1,z2,z3⟩:=(OX.below CM hS).2 k (by omega);rw[hm] at z1 z2 z3;exact tV
   have d5:ev (aM 49)=_:=hd.1 rfl;clear hd;refine yc (rD m.lo m.hi 0 99 w1) ?_ (fun _=>rfl);go_simp
  intro a W hR;have ho:=hR.s;replace HB:=HB.tr ho;replace K1:=aG K1 ho;replace CM:=CM.below ho;replace hF:=(hR.fr hF (by kernel_rfl)).cons (t:=51) (hR.val 7 (by decide));clear hR ho;refine bO (t:=(!(cA m.lo m.hi 0 99))) (hF.g 0 rfl) (fun aaD=>?_) (fun aaD=>?_)
  .skip
   replace hF:=hF.tl;have h1:nV b ms k=1:=by unfold nV;rw[hm,if_neg (by rw[XB];simp),if_pos aaD]
   have hres:jU b ml ss ms=1:=hh.trans ((Hk k h3 xX oJ (by rw[h1];decide)).trans h1);refine jz ⟨[],[],[],[]⟩ [(2,ah ag 1)] hF hF trivial trivial ?_;intro a W ho hF;replace HB:=HB.tr ho;replace K1:=aG K1 ho;replace CM:=CM.below ho;clear ho;refine fW ?_;show dE aq Tryz.f72 (fun e w'=>e=aP (ah ag (jU b ml ss ms))/\az w.heap.size w w') dP a W;exact bm (cH rfl _ _ _) hF.defers ⟨congrArg aP (((hF.g 0 rfl):a.eval (aM 2)=ah ag 1).trans (congrArg _ hres.symm)),HB⟩
  skip
  replace hF:=hF.tl;have hz:nV b ms k=0:=by unfold nV;rw[hm,if_neg (by rw[XB];simp),if_neg (by rw[aaD];simp)]
  refine eI ?_;show bZ aq _ _ _ _;have q7:=hF;replace hF:=hF.tl;refine Mj ⟨[],[(1,ah ag ((k:Nat)+1))],[],[]⟩ [(6,ah ag ((k:Nat)+1))] q7 hF trivial ⟨fun w1 hS _=>ge (congrArg (aB ag) (show IntKind.i64.wrap ((k:Nat)+1)=((k:Nat)+1) by rw[a8];omega)),trivial⟩ ?_;intro a W ho hF;clear q7;replace HB:=HB.tr ho;replace K1:=aG K1 ho;replace CM:=CM.below ho;clear ho;refine⟨⟨k+1,by omega,fun i hi=>if hik:i<k then oJ i hik else by have e:i=k:=(by omega);rw[e];exact hz,⟨hF.size,hF.defers,hF.base⟩,HB,K1⟩,?_⟩;rw[show a.eval (aM 6)=ah ag ((k:Nat)+1) from(hF.g 0 rfl)];simp only[hk6];simp[intOf];omega
 skip
 replace hF:=hF.tl;refine wp_exit ?_;have Um:k=ms.length:=by simp at LH;omega
 have hres:jU b ml ss ms=0:=hh.trans (K8 h3 fun i hi=>oJ i (by omega));show bZ aq _ _ a W;show bZ aq _ _ _ _;refine jz ⟨[],[],[],[]⟩ [(2,ah ag 0)] hF hF trivial trivial ?_;intro a W ho hF;replace HB:=HB.tr ho;replace K1:=aG K1 ho;clear ho;refine fW ?_;show dE aq Tryz.f72 (fun e w'=>e=aP (ah ag (jU b ml ss ms))/\az w.heap.size w w') dP a W;exact bm (cH rfl _ _ _) hF.defers ⟨congrArg aP (((hF.g 0 rfl):a.eval (aM 2)=ah ag 0).trans (congrArg _ hres.symm)),HB⟩
def LU(b:BB)(ml:List Mn)(ss:List Int)(ms:List Mk):Bool:=(!(jk ml ss ms))&&(jU b ml ss ms==0)
theorem RH{ml:List Mn}{ss:List Int}{ms:List Mk}(h:jk ml ss ms=false):ml.length<=20/\ss.length<=20:=by
 unfold jk JB at h;simp at h;omega
theorem XO(b:BB)(p1 p2 p3:Option Addr)(c1 c2 c3:Nat)(ml:List Mn)(ss:List Int)(ms:List Mk)(w:ar)(hv:Reads w (ae p1 ml.length c1) ml.length (fF ml))(hu:Reads w (ae p2 ss.length c2) ss.length (ss.map (aB ag)))(hk3:Reads w (ae p3 ms.length c3) ms.length (dY ms)):bu aq 29 #[aR (b.cells (ae p1 ml.length c1) (ae p2 ss.length c2) (ae p3 ms.length c3))] w fun e w'=>e=aF (aH (LU b ml ss ms))/\az w.heap.size w w':=by
 refine kP Tryz.func29 rfl rfl [(0,aR (b.cells (ae p1 ml.length c1) (ae p2 ss.length c2) (ae p3 ms.length c3)))] ⟨kF rfl,trivial⟩ fun a hF=>?_;refine(fun h:∀W,az w.heap.size w W->bZ aq _ _ a W=>h w (au _ _)) ?_;intro W HB
 refine nI [fun v ds w9=>∃B,v=pv B 0/\w9.heap[B]?=some (aw (b.cells (ae p1 ml.length c1) (ae p2 ss.length c2) (ae p3 ms.length c3)) 28 (0,0)),pV (aH false)]
  _ (by kernel_rfl) hF.size hF.base ?_ ?_ ?_
 .refine⟨?_,sV,trivial⟩
  .rintro v ds w1 w2 hS ⟨B,h1,h2⟩ hb;exact⟨B,h1,aG h2 hb⟩
 .refine⟨?_,?_,trivial⟩<;>rintro ev w1 hS hc hg hf ⟨b0,-⟩ hd
  .clear hd;refine Lag.Yields.value (v:=pv w1.heap.size 0) (w':=w1.alloc (aw (b.cells (ae p1 ml.length c1) (ae p2 ss.length c2) (ae p3 ms.length c3)) 28)) ?_ ⟨⟨_,rfl,ay _ _⟩,cK ((au _ _).alloc (ax _) _)⟩;go_simp
  clear hd;exact tV
 intro a W hR;have ho:=hR.s;obtain⟨B1,e1,K1⟩:=hR.val 0 (by decide);replace e1:a.eval (aM 1)=aS (some ⟨B1,0,none⟩):=e1;replace HB:=HB.tr ho;replace hF:=((hR.fr hF (by kernel_rfl)).cons (t:=1) e1).cons (t:=2) (hR.val 1 (by decide));clear hR ho e1;replace hF:=hF.tl
 refine nI [pV (aR (b.cells (ae p1 ml.length c1) (ae p2 ss.length c2) (ae p3 ms.length c3))),pV (aH (jk ml ss ms)),pV (aH (!(jk ml ss ms))),pV (aH (!(jk ml ss ms))),pC (!(jk ml ss ms)) (aR (b.cells (ae p1 ml.length c1) (ae p2 ss.length c2) (ae p3 ms.length c3))),pC (!(jk ml ss ms)) (ah ag (jU b ml ss ms)),pC (!(jk ml ss ms)) (aH ((jU b ml ss ms)==0)),pV (aH ((!(jk ml ss ms))&&((jU b ml ss ms)==0))),pV (aH ((!(jk ml ss ms))&&((jU b ml ss ms)==0)))]
  _ (by kernel_rfl) hF.size hF.base ?_ ?_ ?_
 .exact⟨sV,sV,sV,sV,sC,sC,sC,sV,sV,trivial⟩
 .refine⟨?_,?_,?_,?_,?_,?_,?_,?_,?_,trivial⟩<;>rintro ev w1 hS hc hg hf ⟨b1,-,-⟩ hd
  all_goals try
   try have d0:ev (aM _)=_:=hd.1 rfl
   clear hd;refine yw rfl ?_ rfl;go_simp;done
  .clear hd;have l9:=aG K1 hS;exact CZ 28 rfl b1 l9 cJ rfl (by kernel_rfl) (rfl)
  .have d0:ev (aM 3)=_:=hd.1 rfl;clear hd;refine yc (args:=#[aR (b.cells (ae p1 ml.length c1) (ae p2 ss.length c2) (ae p3 ms.length c3))]) (RI b _ _ _ _ _ _ ml ss ms w1 (hv.below (HB.tr hS))) ?_ (fun _=>rfl);go_simp
  .have d3:ev (aM 6)=_:=hd.1 rfl;clear hd;refine gC d3 yD fun hA=>?_;have l9:=aG K1 hS;exact CZ 28 rfl b1 l9 cJ rfl (by kernel_rfl) (fun _=>rfl)
  .have d4:_->ev (aM 7)=_:=hd.1 rfl;have d3:ev (aM 6)=_:=hd.2.1 rfl;clear hd;refine gC d3 yD fun hA=>?_;have y4:=d4 hA;refine yc (args:=#[aR (b.cells (ae p1 ml.length c1) (ae p2 ss.length c2) (ae p3 ms.length c3))]) (KM b _ _ _ _ _ _ ml ss ms (RH (ms:=ms) (by revert hA;cases jk ml ss ms<;>simp)) w1 (hv.below (HB.tr hS)) (hu.below (HB.tr hS)) (hk3.below (HB.tr hS))) ?_ (fun _=>fun _=>rfl);go_simp
  .have d5:_->ev (aM 8)=_:=hd.1 rfl;have d3:ev (aM 6)=_:=hd.2.1 rfl;clear hd;refine gC d3 yD fun hA=>?_;have y5:=d5 hA;refine yv ?_ (fun _=>rfl);go_simp
  have d3:ev (aM 6)=_:=hd.1 rfl;have d6:_->ev (aM 9)=_:=hd.2.1 rfl;clear hd;exact yA rfl hc d3 (fun hq=>d6 (by simp[hq])) (rfl)
 intro a W hR;have ho:=hR.s;replace HB:=HB.tr ho;replace K1:=aG K1 ho;replace hF:=(hR.fr hF (by kernel_rfl)).cons (t:=2) (hR.val 8 (by decide));clear hR ho;refine fW ?_;show dE aq Tryz.f29 (fun e w'=>e=aP (aH (LU b ml ss ms))/\az w.heap.size w w') dP a W;exact bm (cH rfl _ _ _) hF.defers ⟨congrArg aP (((hF.g 0 rfl):a.eval (aM 2)=aH ((!(jk ml ss ms))&&((jU b ml ss ms)==0))).trans rfl),HB⟩
theorem LN{l:List Int}{i:Nat}(h:i<l.length):l.getD i 0=l[i]:=by simp[h]
theorem Hx{f:Nat->Int}{n:Nat}{c:Int}(h:(((aU n).map f).find? fun h=>h !=0).getD c=0):(∀i,i<n->f i=0)/\c=0:=by
 cases e:((aU n).map f).find? (fun h=>h !=0) with
 |none=>
  rw[e] at h;rw[List.find?_eq_none] at e;refine⟨fun i hi=>?_,h⟩;have:=e _ (List.mem_map.2 ⟨i,bP.2 hi,rfl⟩);simpa using this
 |some x=>
  rw[e] at h;have:=List.find?_some e;simp at h this;exact absurd h this
theorem Sg{b:BB}(h:mD b=0):b.Ok:=by
 unfold mD at h;have h1:CO b=false:=by cases e:CO b<;>simp_all
 have h2:Fx b=false:=by cases e:Fx b<;>simp_all
 have h3:H9 b=false:=by cases e:H9 b<;>simp_all
 unfold CO aV at h1;unfold Fx aV at h2;unfold H9 cA at h3;simp at h1 h2 h3;constructor<;>omega
theorem QU{b:BB}{ss:List Int}(h:jJ b ss=0):eU b ss:=by
 unfold jJ at h;obtain⟨h1,h2⟩:=Hx h
 have hc:(ss.length:Int)<=b.eh:=by
  refine Int.not_lt.1 fun h'=>?_;rw[if_pos h'] at h2;cases h2
 have hk:∀i (hi:i<ss.length),(1<=ss[i]/\ss[i]<=b.minutes)/\¬(0<i/\ss[i]<=ss.getD (i-1) 0):=by
  intro i hi;have:=h1 i hi;unfold nR at this;rw[LN hi] at this;cases e:aV ss[i] 1 b.minutes with
  |false=>rw[e] at this;simp at this
  |true=>
   refine⟨gI.1 e,fun h'=>?_⟩;rw[e,if_neg (by simp),if_pos h'] at this;cases this
 refine⟨fun p hp=>?_,fun k qZ=>?_,hc⟩
 .obtain⟨i,hi,rfl⟩:=jy hp;exact(hk i hi).1
 have:=(hk (k+1) qZ).2;rw[show k+1-1=k from rfl,LN (by omega)] at this;omega
theorem NJ{b:BB}{ms:List Mk}(h:tY b ms=0):lr b ms:=by
 unfold tY at h
 have h3:(ms.length:Int)<=3:=by
  refine Int.not_lt.1 fun h'=>?_;rw[if_pos h'] at h;cases h
 rw[if_neg (by omega)] at h;obtain⟨h1,-⟩:=Hx h;refine⟨fun m hm=>?_,by omega⟩;obtain⟨i,hi,rfl⟩:=jy hm;have:=h1 i hi;unfold nV at this;rw[K6 ms i hi] at this;cases e:aV ms[i].minute 1 b.minutes with
 |false=>rw[e] at this;simp at this
 |true=>
  rw[e,if_neg (by simp)] at this;cases e2:cA ms[i].lo ms[i].hi 0 99 with
  |false=>rw[e2] at this;simp at this
  |true=>
   have e:=gI.1 e;unfold cA at e2;simp at e2;omega
theorem aa9{b:BB}{ml:List Mn}{ss:List Int}{ms:List Mk}(h:LU b ml ss ms=true):b.Ok/\CQ ml/\eU b ss/\lr b ms:=by
 unfold LU at h;rw[aI] at h;have h:=h.2;unfold jU at h
 have h1:mD b=0:=by
  refine fq fun hn=>?_;rw[if_pos (by simpa using hn)] at h;simp at h;exact hn h
 rw[h1,if_neg (by simp)] at h
 have h2:nz ml=0:=by
  refine fq fun hn=>?_;rw[if_pos (by simpa using hn)] at h;simp at h;exact hn h
 rw[h2,if_neg (by simp)] at h
 have h3:jJ b ss=0:=by
  refine fq fun hn=>?_;rw[if_pos (by simpa using hn)] at h;simp at h;exact hn h
 rw[h3,if_neg (by simp)] at h;exact⟨Sg h1,TN h2,QU h3,NJ (by simpa using h)⟩
end Go.Proofs.YtffladgmkiimjaaGreatDoor
