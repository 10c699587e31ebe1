/- ████ bell.good IN COMPANY: its contract beside leavers. ████ FROM A CO .. -/
import Derived.Test.YtffladgmkiimjaaGreatDoorW10
import Derived.Conc.LeavingOf
import Derived.ProofKit
import Derived.Test.YtffladgmkiimjaaGreatDoorW00
import Derived.LaidLaws
import Derived.SevenTiedAt
import Derived.Test.YtffladgmkiimjaaGreatDoorW01
import Derived.Test.YtffladgmkiimjaaGreatDoorW02
set_option linter.all false
set_option maxHeartbeats 100000000
set_option maxRecDepth 1000000
open Array renaming getElem?_eq_getElem -> aQ,replicate -> bE,mem_of_getElem? -> fe
open Go renaming Program -> aL,TypeId -> aZ,undef -> af,Value -> ak,World -> ar,Frame -> bS,wp_mono -> ve
open Go.Frame renaming enter -> eA
open Go.Proofs.Tryz renaming prog -> aq,underlying3 -> eL,f159 -> kQ
open Go.Value renaming int -> aB
open Go.World renaming cell? -> dJ
open List renaming range -> aU,mem_append -> bI,mem_cons -> cy,mem_toArray -> eY,not_mem_nil -> gO,cons_append -> gP,append_toArray -> iw,push_toArray -> jH,nil_append -> kn,getElem?_eq_some_iff -> oY
open List.range renaming loop -> cg
open Nat renaming le_trans -> aO,le_refl -> ax,lt_of_lt_of_le -> bA
open Option.some renaming inj -> bj
namespace Go.Lag
open Go.Conc
structure Old(W W':ar):Prop where
 os:W'.os=W.os
 output:W'.output=W.output
 size:W.heap.size<=W'.heap.size
 block:∀k,k<W.heap.size->W'.heap[k]?=W.heap[k]?
theorem Old.refl(W:ar):Old W W:=⟨rfl,rfl,ax _,fun _ _=>rfl⟩
theorem Old.trans{a b c:ar}(h:Old a b)(k:Old b c):Old a c:=⟨k.os.trans h.os,k.output.trans h.output,aO h.size k.size,fun i hi=>(k.block i (bA hi h.size)).trans (h.block i hi)⟩
theorem Old.of_below{W W':ar}(h:RowKit.Below W.heap.size W W'):Old W W':=⟨h.os,h.output,h.size,h.block⟩
theorem Old.Q6{W W':ar}(h:Old W W')(I:Nat->Question->Nat)(d:Nat)(I':Nat->Question->Nat)(d':Nat):Old (dB W I d) (dB W' I' d'):=⟨h.os,h.output,h.size,h.block⟩
theorem Old.cell{W W':ar}(h:Old W W'){a:Addr}(ha:a.block<W.heap.size):W'.cell? a=W.cell? a:=ja (h.block _ ha)
theorem yP[uM]{W w:ar}(V:ju W w){k:Nat}{o:Obj}(h:W.heap[k]?=some o)(ho:fT o=true):w.heap[k]?=some o:=by
 rcases V.at_ k with e|⟨e,_⟩
 .rw[<-e];exact h
 rw[e] at h;cases h;cases ho
theorem TY[K:uM]{W w w':ar}(V:ju W w)(cY:dC W)(os:w'.os=w.os)(out:w'.output=w.output)(sz:w.heap.size<=w'.heap.size)(n:Nat)(hκ:∀b o,b<W.heap.size->w'.heap[b]?=some o->fT o=false->w.heap[b]?=some o)(hk:∀k,k<n->w'.heap[k]?=w.heap[k]?) :
  ∃W',ju W' w'/\dC W'/\W'.os=W.os/\W'.output=W.output/\W.heap.size<=W'.heap.size/\(∀k,k<n->k<W.heap.size->W'.heap[k]?=W.heap[k]?)/\∀(b:Nat) (o:Obj),w'.heap[b]?=some o->fT o=true->W'.heap[b]?=some o:=by
 obtain⟨W',hV,rZ,_,_,lZ⟩:=Cz w' fun b x h=>⟨by have:=V.old b x h;have:=V.size;omega,fun o h1 h2=>by
  have h3:=V.old b x h;replace h1:=hκ b o h3 h1 h2
  have h4:W.heap[b]?=some (.coro none):=by
   rcases V.at_ b with e|⟨e,_⟩
   .rw[h1] at e;rcases cY b o e with h5|h5
    .rw[h5] at h2;cases h2
    rw[e,h5]
   exact e
  have h5:=V.kept b x h h4
  rw[h1] at h5;exact bj h5⟩
 refine⟨W',hV,rZ,hV.os.trans (os.trans V.os.symm),hV.out.trans (out.trans V.out.symm),by rw[hV.size,V.size];exact sz,fun k qG hk2=>?_,lZ⟩;have sA:=hk k qG;obtain⟨o,ho⟩:∃o,W.heap[k]?=some o:=⟨_,aQ hk2⟩
 rw[ho];rcases cY k o ho with h1|rfl
 .exact lZ k o (by rw[sA];exact yP V ho h1) h1
 
 rcases V.at_ k with e|⟨_,x,hx,lu⟩
 .have hw':w'.heap[k]?=some (.coro none):=by rw[sA,<-e];exact ho
  rcases hV.at_ k with e2|⟨e2,_⟩
  .rw[e2];exact hw'
  exact e2
 have hw':w'.heap[k]?=some x:=by rw[sA];exact hx
 rcases hV.at_ k with e2|⟨e2,_⟩
 .rw[hw'] at e2;rcases rZ k x e2 with h|h
  .rw[h] at lu;cases lu
  rw[e2,h]
 exact e2
section
variable{P:aL}{b:bS}{k:List Item}{cs:List bS}{W:ar}{R:Goroutine->ar->Prop}
theorem oF(T:Quiet P){c:Code}{a:Act}(hb:b.kind≠.early){Q:Act->ar->Prop}(h:∀I d,c.wp P (fun e a W'=>e=.normal/\Q a W') a (dB W I d))
  (hk:∀a' W' I d,Q a' (dB W' I d)->jl P R (G (b.at a' k) cs) W'):jl P R (G (b.at a (.code c::k)) cs) W:=by
 refine(yY T (m:=.code c::k) (Q:=fun e a W'=>e=.normal/\Q a W') hb (fun id a w hq=>by cases hq.1) (fun e a w hq=>by rw[hq.1];rfl) fun I=>h I 0 b k cs).bind fun g' W' hs hq=>?_;obtain⟨e,a',I,d,⟨rfl,hq⟩,harr⟩:=hq;subst harr;exact hk a' W' I d hq
end
end Go.Lag
namespace Go.Lag
open Go Go.Conc Go.RowKit Go.ChangeShapes
section
variable{H:Type}{enc:aZ × ak->H}
theorem Lh{a:Assume}{C:Checked}{os:Os}{f:FuncId}{fn:Func}{s:ChangeSpec}{conds:List PathCond}{apart fresh handsOn again:Bool}{X:ar->Array ak->Prop}
  (hX:∀(w w':ar) (args:Array ak),w.heap=w'.heap->X w args->X w' args)
  (own:ownKnob C.prog.godebug=none) (started:os.Started) (hfn:C.prog.funcs[f]?=some fn)
  (witness:∃(w:ar) (tape:Tape) (i:Input),w.os=os/\(w.forCall tape i).Shaped C.prog/\i.vars=[]/\Input.okWide C.prog (w.forCall tape i) .any w.heap.size f i/\
   ((s.pre enc C.prog fn conds apart (w.forCall tape i).memory i.args/\X (w.forCall tape i).memory i.args)/\sizedMet enc C.prog fn (OpenSpec.ofChange s) apart (w.forCall tape i).memory i.args)/\a.holds C.prog (lone (eA C.prog f i.args .normal) [] (w.forCall tape i)))
  (runs:∀(W:ar) (base:Nat) (args:Array ak) (ds gs:List (DataW H)) (before:List MemPlace),
   (∀(j:Nat) t v,fn.params[j]?=some t->args[j]?=some v->Value.okWide C.prog W .any base t v)->
   DataW.Whole enc C.prog fn.params.toList s.vars apart W args.toList ds gs before->X W args->
   ∃M last o w' t',runNT C.prog (M+1) (solo (G (eA C.prog f args .normal) []) W) #[]=(.ended o w',t')/\runN C.prog M (solo (G (eA C.prog f args .normal) []) W)=.next last/\
    step C.prog last=.ended o w'/\Conc.Good C.prog (fun v W'=>s.post enc C.prog fn apart fresh handsOn again W args v W') last o w' t') :
  ReturnsInLeavingWide a C os f .any (fun w args=>(s.pre enc C.prog fn conds apart w args/\X w args)/\sizedMet enc C.prog fn (OpenSpec.ofChange s) apart w args) (s.post enc C.prog fn apart fresh handsOn again):=by
 refine returnsInLeavingWide_of_good own started witness ?_;intro w tape i _ _ _ cY hpre ahx;obtain⟨_,_,_,fn',ahG,_,_,_,_,hval⟩:=cY;have e:fn'=fn:=bj (ahG.symm.trans hfn);subst e;obtain⟨⟨⟨ds,gs,before,hw,hc⟩,hx⟩,hz⟩:=hpre;have hw':=DataW.Whole.of_heap (w':=w.forCall tape i) (by rfl) hw;obtain⟨M,last,o,w',t',h1,h2,h3,h4⟩:=runs (w.forCall tape i) w.heap.size i.args ds gs before hval hw' (hX _ _ _ (by rfl) hx);exact⟨M,last,o,w',t',h1,h2,h3,h4.mono fun v hp=>ChangeSpec.post_blind hp⟩
theorem xd{P:aL}(hl:laidOutB P=true){W W':ar}(hb:Below W.heap.size W W'):∀ {ts:List aZ} {vs:List ak} {ds:List (DataW H)} {p:List MemPlace},(∀t∈ts,P.readableRec t=true/\t<P.types.size)->(∀x∈p,x.block<W.heap.size)->
  DataW.TrodAll enc P W 0 (fun _=>true) true ts vs ds p->DataW.TrodAll enc P W' 0 (fun b=>decide (b<W.heap.size)) true ts vs ds p
 |[],[],[],p,_,_,h=>h
 |t::ts,v::vs,d::ds,ps,ht,hp,h=>by
  obtain⟨p,q,h1,h2,rfl⟩:=h;exact⟨p,q,Below.trod hl (ht t (by simp)).1 (ht t (by simp)).2 h1 hb fun x hx=>hp x (by simp[hx]),xd hl hb (fun t h=>ht t (by simp[h])) (fun x hx=>hp x (by simp[hx])) h2,rfl⟩
 |[],[],_::_,_,_,_,h=>h.elim
 |[],_::_,_,_,_,_,h=>h.elim
 |_::_,[],_,_,_,_,h=>h.elim
 |_::_,_::_,[],_,_,_,h=>h.elim
theorem Ti{P:aL}{fn:Func}{s:ChangeSpec}{apart:Bool}{W w':ar}{args:Array ak}{ds gs:List (DataW H)}{before:List MemPlace}{tb:aZ}(hl:laidOutB P=true)(YA:s.vars=[])(Xq:∀t∈fn.params.toList,P.readableRec t=true/\t<P.types.size)
  (hres:fn.resultTypes = #[tb]) (aec:P.underlying tb=some .bool) (hW:DataW.Whole enc P fn.params.toList s.vars apart W args.toList ds gs before) (hfn:∀ds':List (DataW H),ds'.length=fn.params.size->s.fn H ds'={ results:=[.lit (.bool true)],args:=ds' })
  (hlen:ds.length=fn.params.size) (hb:Below W.heap.size W { w' with tape:=W.tape }):s.post enc P fn apart true false false W args (.bool true) w':=by
 refine ChangeSpec.post_alike (W'':={ w' with tape:=W.tape }) ?_ ⟨rfl,rfl,rfl⟩;have hW':=hW;obtain⟨p,q,hA,hV,rfl,_,_⟩:=hW
 have qH:gs=[]/\q=[]:=by
  rw[YA] at hV;cases gs with
  |nil=>exact⟨rfl,hV⟩
  |cons=>exact hV.elim
 obtain⟨rfl,rfl⟩:=qH;have hlt:∀x∈p,x.block<W.heap.size:=fun x hx=>hW'.lt x (by simp[hx]);refine⟨ds,[],p++[],[],p,[],hW',?_,?_,?_,hb.frame _,fun h=>by cases h⟩
 .rw[List.append_nil,hfn ds hlen,hres];exact trodAll_mk1 (shut_bool aec _)
 .rw[List.append_nil,hfn ds hlen];exact xd hl hb Xq hlt hA
 rw[List.append_nil,hfn ds hlen,YA];rfl
end
theorem D6{P:aL}(T:Quiet P){f:FuncId}{args:Array ak}{v0:ak}(hi:P.inits.idxOf? f=none)(W:ar)
  (h:∀Wk:ar,Wk.heap.size=W.heap.size->(∀(b:Nat) (o:Obj),W.heap[b]?=some o->fT o=true->Wk.heap[b]?=some o)->jW P f args Wk fun v W'=>v=v0/\Old Wk W') :
  ∃M last o w' t',runNT P (M+1) (solo (G (eA P f args .normal) []) W) #[]=(.ended o w',t')/\runN P M (solo (G (eA P f args .normal) []) W)=.next last/\
   step P last=.ended o w'/\Conc.Good P (fun v w'=>v=v0/\Below W.heap.size W { w' with tape:=W.tape }) last o w' t':=by
 letI K:uM:=⟨fun b=>W.heap[b]?⟩
 obtain⟨Wk,V,cY,-,-,hk⟩:=Cz W fun b x hx=>⟨(Array.getElem?_eq_some_iff.1 hx).1,fun o ho _=>bj (ho.symm.trans hx)⟩
 obtain⟨M,last,o,w',t',h1,h2,h3,h4⟩:=E4 T hi (h Wk V.size hk) cY V;refine⟨M,last,o,w',t',h1,h2,h3,h4.mono ?_⟩;rintro v ⟨W',⟨rfl,hold⟩,V',-,hs⟩;refine⟨rfl,V'.os.symm.trans (hold.os.trans V.os),rfl,V'.out.symm.trans (hold.output.trans V.out),?_,fun b hb=>?_⟩
 .show W.heap.size<=w'.heap.size;rw[<-V'.size,<-V.size];exact hold.size
 show w'.heap[b]?=W.heap[b]?;obtain⟨o,ho⟩:∃o,W.heap[b]?=some o:=⟨_,aQ hb⟩
 have tj:=hold.block b (by rw[V.size];exact hb);have YQ:W'.heap[b]?=some (.coro none)->w'.heap[b]?=W.heap[b]?:=fun e=>(V'.kept b o ho e).trans ho.symm;rcases V.at_ b with e|⟨e,-⟩
 .rcases V'.at_ b with e'|⟨e',-⟩
  .rw[<-e',tj,e]
  exact YQ e'
 exact YQ (tj.trans e)
end Go.Lag
namespace Go.Proofs.YtffladgmkiimjaaGreatDoor
open Go Go.RowKit Go.Lag Go.ChangeShapes
theorem Tryz.own:ownKnob Tryz.prog.godebug=none:=by kernel_rfl
theorem Tryz.laidOut:laidOutB aq=true:=by kernel_rfl
theorem U4(os:Os)(args:Array ak):laidMetH aq Lj ((World.doorLaid aq 400 os).forCall (fun _ _=>0) ⟨#[],args,[]⟩).memory:=
 laidMetH_of_parts3 (fuel:=8) (laidMet_of_run' 8 (by kernel_rfl) (by kernel_rfl)) (by kernel_rfl) (by kernel_rfl)
end Go.Proofs.YtffladgmkiimjaaGreatDoor
namespace Go.Proofs.YtffladgmkiimjaaGreatDoor
open Go Go.RowKit Go.Lag Go.ChangeShapes Go.Conc
theorem PK{W:ar}{base:Nat}{t:aZ}{k:IntKind}{v:ak}(ht:Tryz.prog.underlying t=some (.int k))(h:Value.okWide aq W .any base t v):∃x,v=.int k x/\k.has x:=by
 unfold Value.okWide at h;rw[ht] at h;exact T1 ht h
theorem nY{W Wk:ar}(hk:∀(b:Nat) (o:Obj),W.heap[b]?=some o->fT o=true->Wk.heap[b]?=some o){a:Addr}{v:ak}(h:W.cell? a=some v):Wk.cell? a=some v:=by
 unfold dJ at h ⊢;cases e:W.heap[a.block]? with
 |none=>rw[e] at h;simp at h
 |some o=>
  rw[e] at h;cases o<;>simp only[] at h<;>first|(rw[hk _ _ e rfl];exact h)|(cases h)
theorem Laid.kill{W Wk:ar}(h:Laid W)(hs:Wk.heap.size=W.heap.size)(hk:∀(b:Nat) (o:Obj),W.heap[b]?=some o->fT o=true->Wk.heap[b]?=some o):Laid Wk:=
 ⟨nY hk h.c0,nY hk h.c1,nY hk h.c2,nY hk h.c3,nY hk h.c4,by rw[hs];exact h.lt⟩
theorem Reads.kill{W Wk:ar}{v:ak}{n:Nat}{xs:List ak}(h:Reads W v n xs)(hs:Wk.heap.size=W.heap.size)(hk:∀(b:Nat) (o:Obj),W.heap[b]?=some o->fT o=true->Wk.heap[b]?=some o):Reads Wk v n xs:=by
 rcases h with h|⟨g,off,cap,h1,h2,h3,h4⟩
 .exact .inl h
 exact .inr ⟨g,off,cap,h1,h2,by rw[hs];exact h3,fun j u hj=>nY hk (h4 j u hj)⟩
theorem aiN:Tryz.prog.cellsOf 81=3:=by kernel_rfl
theorem co3:Tryz.prog.cellsOf 3=1:=by kernel_rfl
theorem Vd{W:ar}{base:Nat}{a:Addr}{cs:List ak}(h:W.cells? base a 1=some cs):∃x,cs=[x]/\W.cell? (a.add 0)=some x:=by
 unfold World.cells? at h;split at h
 .simp only[show aU 1=[0] from rfl,List.mapM_cons,List.mapM_nil] at h;cases h0:W.cell? (a.add 0)<;>rw[h0] at h<;>simp at h;exact⟨_,h.symm,rfl⟩
 cases h
section
variable{H:Type}{enc:aZ × ak->H}{W:ar}{hd:Bool}
theorem NI{fuel:Nat}{g off n c:Nat}{x:DataW H × List MemPlace}(vo:n<=c)(h:DataW.trod enc aq W 0 (fun _=>true) hd fuel 26 [.slice (some ⟨g,off,none⟩) n c]=some x) :
  ∀i,i<n->∃mk:Mk,∀j u,mk.cells[j]?=some u->W.cell? ⟨g,off+i*3+j,none⟩=some u:=by
 intro i hi;rcases Go.Deep.open_slice Tryz.underlying26 h with⟨h0,-⟩|⟨a,len,cap,mm,nn,D,Pl,h0,-,-,-,hm,-,hel⟩
 .cases h0
 .cases h0;obtain⟨cs',hc,ht⟩:=hel i (by rw[hm];simp;omega);rw[aiN] at hc;obtain⟨x,y,z,rfl,e0,e1,e2⟩:=Vc hc;rw[oU,oU] at e0 e1 e2;obtain⟨y0,y1,n1,-,-,t0,t1⟩:=trod_struct2 Tryz.underlying81 ht;have c23:Tryz.prog.cellsOf 23=2:=by kernel_rfl
  simp only[co3,c23] at t0 t1;obtain⟨z0,z1,n2,-,-,u0,u1⟩:=trod_struct2 Tryz.underlying23 t1;simp only[co3] at u0 u1;obtain⟨m,hs,-⟩:=DataW.trod_int eL t0;obtain⟨lo,hlo,-⟩:=DataW.trod_int eL u0;obtain⟨hi',hhi,-⟩:=DataW.trod_int eL u1;simp at hs hlo hhi;subst hs;subst hlo;subst hhi;refine⟨⟨m,lo,hi'⟩,fun j u hj=>?_⟩
  match j,hj with
  |0,hj=>cases hj;exact e0
  |1,hj=>cases hj;exact e1
  |2,hj=>cases hj;exact e2
  |j+3,hj=>simp[Mk.cells] at hj
theorem QF{fuel:Nat}{g off n c:Nat}{x:DataW H × List MemPlace}(vo:n<=c)(h:DataW.trod enc aq W 0 (fun _=>true) hd fuel 25 [.slice (some ⟨g,off,none⟩) n c]=some x) :
  ∀i,i<n->∃k:Int,W.cell? ⟨g,off+i,none⟩=some (.int .i64 k):=by
 intro i hi;rcases Go.Deep.open_slice Tryz.underlying25 h with⟨h0,-⟩|⟨a,len,cap,mm,nn,D,Pl,h0,-,-,-,hm,-,hel⟩
 .cases h0
 cases h0;obtain⟨cs',hc,ht⟩:=hel i (by rw[hm];simp;omega);rw[co3] at hc;obtain⟨x,rfl,e0⟩:=Vd hc;rw[oU,oU] at e0;obtain⟨k,hk,-⟩:=DataW.trod_int eL ht;simp at hk;subst hk;exact⟨k,by simpa using e0⟩
end
theorem KO{W:ar}{g off n c:Nat}(vo:n<=c)(hg:g<W.heap.size)(hn:n<=20)(h:∀i,i<n->∃mk:Mk,∀j u,mk.cells[j]?=some u->W.cell? ⟨g,off+i*3+j,none⟩=some u) :
  ∃ms:List Mk,ms.length=n/\Reads W (.slice (some ⟨g,off,none⟩) n c) n (dY ms):=by
 obtain⟨f,hf⟩:∃f:Nat->Mk,∀i,i<n->∀j u,(f i).cells[j]?=some u->W.cell? ⟨g,off+i*3+j,none⟩=some u:=
  ⟨fun i=>if hi:i<n then(h i hi).choose else⟨0,0,0⟩,fun i hi=>by simp only[dif_pos hi];exact(h i hi).choose_spec⟩
 refine⟨(aU n).map f,by simp,.inr ⟨g,off,c,rfl,⟨by omega,vo⟩,hg,fun j u hj=>?_⟩⟩;have MW:j<(dY ((aU n).map f)).length:=(oY.1 hj).1;rw[qf] at MW;simp at MW;have hk:j / 3<n:=by omega
 have e:j=3*(j / 3)+j % 3:=by omega
 rw[e,sO _ _ _ (by simpa using hk) (by omega)] at hj;simp only[List.getElem_map,List.getElem_range] at hj;rw[show off+j=off+(j / 3)*3+j % 3 by omega];exact hf (j / 3) hk _ _ hj
theorem Nt{W:ar}{g off n c:Nat}(vo:n<=c)(hg:g<W.heap.size)(hn:n<=20)(h:∀i,i<n->∃k:Int,W.cell? ⟨g,off+i,none⟩=some (.int .i64 k)) :
  ∃ss:List Int,ss.length=n/\Reads W (.slice (some ⟨g,off,none⟩) n c) n (ss.map (aB .i64)):=by
 obtain⟨f,hf⟩:∃f:Nat->Int,∀i,i<n->W.cell? ⟨g,off+i,none⟩=some (.int .i64 (f i)):=
  ⟨fun i=>if hi:i<n then(h i hi).choose else 0,fun i hi=>by simp only[dif_pos hi];exact(h i hi).choose_spec⟩
 refine⟨(aU n).map f,by simp,.inr ⟨g,off,c,rfl,⟨by omega,vo⟩,hg,fun j u hj=>?_⟩⟩;have MW:j<(((aU n).map f).map (aB .i64)).length:=(oY.1 hj).1;simp at MW;simp[MW] at hj;subst hj;exact hf j MW
theorem TT{H:Type}{enc:aZ × ak->H}{W:ar}{b:BB}{m s k:ak}{d:DataW H}{p:List MemPlace}(h:DataW.Trod enc aq W 0 (fun _=>true) true 28 (.agg (b.cells m s k)) d p)(hm:SliceAt W m)(hs:SliceAt W s)(hk:SliceAt W k) :
  ∃(p1 p2 p3:Option Addr) (n1 c1 n2 c2 n3 c3:Nat),m=.slice p1 n1 c1/\s=.slice p2 n2 c2/\k=.slice p3 n3 c3/\
   ((20<n1\/20<n2\/20<n3)\/∃(ml:List Mn) (ss:List Int) (ms:List Mk),ml.length=n1/\ss.length=n2/\ms.length=n3/\Reads W m n1 (fF ml)/\Reads W s n2 (ss.map (aB .i64))/\Reads W k n3 (dY ms)):=by
 obtain⟨fuel,ht⟩:=h;obtain⟨⟨f1,y1,t1⟩,⟨f2,y2,t2⟩,⟨f3,y3,t3⟩⟩:=OI ht
 have A:∃p1 n1 c1,m=.slice p1 n1 c1/\(20<n1\/∃ml:List Mn,ml.length=n1/\Reads W m n1 (fF ml)):=by
  rcases hm with rfl|⟨g,off,n,c,rfl,vo,hg⟩
  .exact⟨_,_,_,rfl,.inr ⟨[],rfl,.inl ⟨rfl,rfl,rfl⟩⟩⟩
  by_cases hb:20<n
  .exact⟨_,_,_,rfl,.inl hb⟩
  exact⟨_,_,_,rfl,.inr (QQ vo hg (by omega) (TM vo t1))⟩
 have B:∃p1 n1 c1,s=.slice p1 n1 c1/\(20<n1\/∃ss:List Int,ss.length=n1/\Reads W s n1 (ss.map (aB .i64))):=by
  rcases hs with rfl|⟨g,off,n,c,rfl,vo,hg⟩
  .exact⟨_,_,_,rfl,.inr ⟨[],rfl,.inl ⟨rfl,rfl,rfl⟩⟩⟩
  by_cases hb:20<n
  .exact⟨_,_,_,rfl,.inl hb⟩
  exact⟨_,_,_,rfl,.inr (Nt vo hg (by omega) (QF vo t2))⟩
 have C:∃p1 n1 c1,k=.slice p1 n1 c1/\(20<n1\/∃ms:List Mk,ms.length=n1/\Reads W k n1 (dY ms)):=by
  rcases hk with rfl|⟨g,off,n,c,rfl,vo,hg⟩
  .exact⟨_,_,_,rfl,.inr ⟨[],rfl,.inl ⟨rfl,rfl,rfl⟩⟩⟩
  by_cases hb:20<n
  .exact⟨_,_,_,rfl,.inl hb⟩
  exact⟨_,_,_,rfl,.inr (KO vo hg (by omega) (NI vo t3))⟩
 obtain⟨p1,n1,c1,e1,A⟩:=A;obtain⟨p2,n2,c2,e2,B⟩:=B;obtain⟨p3,n3,c3,e3,C⟩:=C;refine⟨p1,p2,p3,n1,c1,n2,c2,n3,c3,e1,e2,e3,?_⟩;rcases A with A|⟨ml,a1,a2⟩
 .exact .inl (.inl A)
 rcases B with B|⟨ss,b1,b2⟩
 .exact .inl (.inr (.inl B))
 rcases C with C|⟨ms,k1,k2⟩
 .exact .inl (.inr (.inr C))
 exact .inr ⟨ml,ss,ms,a1,b1,k1,a2,b2,k2⟩
theorem aiP:Tryz.prog.cellsOf 40=1:=by kernel_rfl
section
variable{H:Type}{enc:aZ × ak->H}{W:ar}{hd:Bool}
theorem NB{fuel:Nat}{g off n c:Nat}{x:DataW H × List MemPlace}(vo:n<=c)(h:DataW.trod enc aq W 0 (fun _=>true) hd fuel 39 [.slice (some ⟨g,off,none⟩) n c]=some x) :
  ∀i,i<n->∃k:Nat,k<65536/\W.cell? ⟨g,off+i,none⟩=some (.int .u16 (k:Int)):=by
 intro i hi;rcases Go.Deep.open_slice Tryz.underlying39 h with⟨h0,-⟩|⟨a,len,cap,mm,nn,D,Pl,h0,-,-,-,hm,-,hel⟩
 .cases h0
 cases h0;obtain⟨cs',hc,ht⟩:=hel i (by rw[hm];simp;omega);rw[aiP] at hc;obtain⟨x,rfl,e0⟩:=Vd hc;rw[oU,oU] at e0;obtain⟨k,hk,-,hw⟩:=DataW.trod_int Tryz.underlying40 ht;simp at hk;subst hk;simp[Lit.wf,IntKind.min,IntKind.max,IntKind.signed,IntKind.bits] at hw;refine⟨k.toNat,by omega,?_⟩;rw[Int.toNat_of_nonneg hw.1];simpa using e0
theorem Tn{v:ak}{d:DataW H}{p:List MemPlace}(h:DataW.Trod enc aq W 0 (fun _=>true) true 39 v d p)(hs:SliceAt W v):∃(q:Option Addr) (n c:Nat) (pk:Nat->Nat),v=.slice q n c/\rS W q n c pk:=by
 obtain⟨fuel,ht⟩:=h;rcases hs with rfl|⟨g,off,n,c,rfl,vo,hg⟩
 .exact⟨none,0,0,fun _=>0,rfl,fun _=>by decide,fun _ _=>rfl,fun k hk=>by omega⟩
 have hr:=NB vo ht;refine⟨_,n,c,fun i=>if hi:i<n then(hr i hi).choose else 0,rfl,fun k=>?_,fun k hk=>?_,fun k hk=>⟨g,off,rfl,hg,?_⟩⟩
 .by_cases hk:k<n
  .simp only[dif_pos hk];exact(hr k hk).choose_spec.1
  simp[dif_neg hk]
 .simp[dif_neg (show ¬k<n by omega)]
 simp only[dif_pos hk];exact(hr k hk).choose_spec.2
end
end Go.Proofs.YtffladgmkiimjaaGreatDoor
namespace Go.Proofs.YtffladgmkiimjaaGreatDoor
open Go.RowKit Go.Lag
open Go.Conc
noncomputable def P2:Code:=.seq Gl (.seq (.block 2 (.loop M5)) wS)
theorem JG(tmps:Array ak)(v:ak)(h2:tmps[2]?=some v)(w:ar)(h:tmps.size=71):(results kQ tmps).run aq w=.ok v w:=by
 have e2:=bz h2;rw[uL tmps h];simp only[aU,cg,List.map_cons,List.map_nil,e2];simp[results,kQ,go_sem]
theorem agx{tmps:Array ak}{v:ak}{W:ar}(hs:tmps.size=71)(h9:tmps[9]?=some v):wS.wp aq (fun e a W'=>e=.ret/\a.defers=[]/\a.tmps.size=71/\a.tmps[2]?=some v/\W'=W) ⟨tmps,[]⟩ W:=by
 have e9:=bz h9;rw[uL tmps hs];simp only[aU,cg,List.map_cons,List.map_nil,e9];simp only[wS,gN,rf,kQ,sL,sR];go_wp2
structure VD(P:aL)(b:BB)(bq aK aA all:ak)(l:List eN)(ss:List Int)(ms:List Mk)(Y:Nat->Prop)(W:ar):Prop where
 e:P=aq
 f159:P.funcs[(159:Nat)]?=some kQ
 f178:P.funcs[(178:Nat)]?=some Tryz.f178
 i159:P.inits.idxOf? 159=none
 i178:P.inits.idxOf? 178=none
 ok:b.Ok
 abw:∀a∈l,a.Ok
 He:∀s∈ss,1<=s/\s<=8
 mks:∀m∈ms,1<=m.minute/\m.minute<=8
 cl:Closed fw Y W
 low:∀c,Y c->P.globals.size<=c
 vL:P.globals.size<=W.heap.size
 vm:VR fw (xU Y) bq bq
 vs:VR fw (xU Y) aK aK
 vk:VR fw (xU Y) aA aA
 va:VR fw (xU Y) all all
 rs:mJ Y W aK ss.length (ss.map (aB .i64))
 rm:mJ Y W aA ms.length (dY ms)
 ra:mJ Y W all l.length (rowOf l)
theorem VD.lt{P:aL}{b:BB}{bq aK aA all:ak}{l:List eN}{ss:List Int}{ms:List Mk}{Y:Nat->Prop}{W:ar}(G:VD P b bq aK aA all l ss ms Y W){c:Nat}(hc:Y c):c<W.heap.size:=G.cl.lt hc
def VB(b:BB)(l:List eN)(ss:List Int)(ms:List Mk)(W:ar)(v:ak)(W':ar):Prop:=
 ∃kJ:List Nat,Reads W' v kJ.length (ints kJ)/\kJ.Perm (j0 b (dx ss ms).toNat (bD ss) l 512)/\Old W W'
section
variable{P:aL}{b:BB}{bq aK aA all:ak}{l:List eN}{ss:List Int}{ms:List Mk}{Y:Nat->Prop}{W W1:ar}{xb fb tb c0 c1 sn:Nat}{cs:List bS}
theorem UM{X:Nat->Prop}(hm:VR fw (xU X) bq bq)(hs:VR fw (xU X) aK aK)(hk:VR fw (xU X) aA aA)(ha:VR fw (xU X) all all)(hx:X xb)(hf:X fb)(ht:X tb) :
  iV fw (xU X) #[.agg (b.open bq aK aA all),ptr ⟨xb,0,none⟩,.slice none 0 0,.int .i64 sn,ptr ⟨fb,0,none⟩,ptr ⟨tb,0,none⟩,.int .i64 0,af,af,af,af,ptr ⟨xb,0,none⟩,ptr ⟨xb,0,none⟩,ptr ⟨xb,13,none⟩,aK,.int .i64 sn,.chan (some c0),.chan (some c1),.int .i64 0,af,af,af,af,af,af,af,af,af,af,af,af,af,af,af,af,af,af,af,af,af,af,af,af,af,af,af,af,af,af,af,af,af,af,af,af,af,af,af,af,af,af,af,af,af,af,af,af,af,af,af,af] #[.agg (b.open bq aK aA all),ptr ⟨xb,0,none⟩,.slice none 0 0,.int .i64 sn,ptr ⟨fb,0,none⟩,ptr ⟨tb,0,none⟩,.int .i64 0,af,af,af,af,ptr ⟨xb,0,none⟩,ptr ⟨xb,0,none⟩,ptr ⟨xb,13,none⟩,aK,.int .i64 sn,.chan (some c0),.chan (some c1),.int .i64 0,af,af,af,af,af,af,af,af,af,af,af,af,af,af,af,af,af,af,af,af,af,af,af,af,af,af,af,af,af,af,af,af,af,af,af,af,af,af,af,af,af,af,af,af,af,af,af,af,af,af,af,af]:=by
 have SD:∀a:Addr,X a.block->VR fw (xU X) (ptr a) (ptr a):=fun a ha=>.ptr ⟨vG ha,rfl,rfl⟩
 have hagg:VR fw (xU X) (.agg (b.open bq aK aA all)) (.agg (b.open bq aK aA all)):=by
  refine .agg rfl fun i x y hi hj=>?_;rw[hi] at hj;cases hj;have hmem:=fe hi;simp only[BB.open,BB.cells,jH,iw,eY,bI,cy,gO,or_false,gP,kn] at hmem;rcases hmem with rfl|rfl|rfl|rfl|rfl|rfl|rfl|rfl|rfl|rfl|rfl|rfl|rfl|rfl|rfl|rfl<;>first|exact .int _ _|assumption
 have hall:∀v∈(#[.agg (b.open bq aK aA all),ptr ⟨xb,0,none⟩,.slice none 0 0,.int .i64 sn,ptr ⟨fb,0,none⟩,ptr ⟨tb,0,none⟩,.int .i64 0,af,af,af,af,ptr ⟨xb,0,none⟩,ptr ⟨xb,0,none⟩,ptr ⟨xb,13,none⟩,aK,.int .i64 sn,.chan (some c0),.chan (some c1),.int .i64 0,af,af,af,af,af,af,af,af,af,af,af,af,af,af,af,af,af,af,af,af,af,af,af,af,af,af,af,af,af,af,af,af,af,af,af,af,af,af,af,af,af,af,af,af,af,af,af,af,af,af,af,af]:Array ak),VR fw (xU X) v v:=by
  intro v hv;simp only[eY,cy,gO,or_false] at hv;have hu:VR fw (xU X) af undef:=tR;rcases hv with rfl|rfl|rfl|rfl|rfl|rfl|rfl|rfl|rfl|rfl|rfl|rfl|rfl|rfl|rfl|rfl|rfl|rfl|rfl|rfl|rfl|rfl|rfl|rfl|rfl|rfl|rfl|rfl|rfl|rfl|rfl|rfl|rfl|rfl|rfl|rfl|rfl|rfl|rfl|rfl|rfl|rfl|rfl|rfl|rfl|rfl|rfl|rfl|rfl|rfl|rfl|rfl|rfl|rfl|rfl|rfl|rfl|rfl|rfl|rfl|rfl|rfl|rfl|rfl|rfl|rfl|rfl|rfl|rfl|rfl|rfl<;>first|exact hu|exact .int _ _|exact .Ew _ _|exact .chan _|exact SD _ hx|exact SD _ hf|exact SD _ ht|assumption
 exact⟨rfl,fun i x y hi hj=>by rw[hi] at hj;cases hj;exact hall x (fe hi)⟩
end
theorem XM:iR (.code wS)=true:=by kernel_rfl
theorem Reads.keep{w w':ar}{v:ak}{n:Nat}{xs:List ak}(h:Reads w v n xs)(hs:w.heap.size<=w'.heap.size)(hk:∀(g:Nat) cs e z,w.heap[g]?=some (.cells cs e z)->w'.heap[g]?=some (.cells cs e z)):Reads w' v n xs:=by
 rcases h with h|⟨g,off,cap,h1,h2,h3,h4⟩
 .exact .inl h
 .refine .inr ⟨g,off,cap,h1,h2,bA h3 hs,fun j u hj=>?_⟩;have hc:=h4 j u hj;unfold dJ at hc ⊢;cases ho:w.heap[g]? with
  |none=>simp only[ho] at hc;cases hc
  |some o=>
   cases o with
   |cells cs e z=>simp only[hk g cs e z ho];simpa only[ho] using hc
   |_=>simp only[ho] at hc;cases hc
theorem Reads.old{w w':ar}{v:ak}{n:Nat}{xs:List ak}(h:Reads w v n xs)(ho:Old w w'):Reads w' v n xs:=
 h.keep ho.size fun g cs e z hg=>(ho.block g (eP hg)).trans hg
section
variable{P:aL}{b:BB}{bq aK aA all:ak}{l:List eN}{ss:List Int}{ms:List Mk}{Y:Nat->Prop}{W W1:ar}{xb fb tb c0 c1:Nat}{cs:List bS}
theorem UG(e:P=aq)(hf:P.funcs[(159:Nat)]?=some kQ){R:ak->ar->Prop}{tmps:Array ak}{v:ak}(hs:tmps.size=71)(h9:tmps[9]?=some v)(hR:R v W) :
  jl P (fun g' W'=>∃fr v I d,g'=G fr cs/\R v W/\W'.heap=W.heap/\W'.os=W.os/\W'.output=W.output/\fr.fn=159/\fr.leaving P (dB W' I d) (.returned v)) (GK 159 tmps [.code wS] .normal cs) W:=by
 have T:=quiet_of e;refine(yY T (b:={ (default:bS) with fn:=159,kind:=.normal }) (a:=⟨tmps,[]⟩) (k:=[]) (m:=[.code wS]) (cs:=cs) (W:=W) (Q:=fun e a W'=>e=.ret/\a.defers=[]/\a.tmps.size=71/\a.tmps[2]?=some v/\W'.heap=W.heap/\W'.os=W.os/\W'.output=W.output) (by simp) (fun id a w hq=>by cases hq.1) (fun e a w hq=>by rw[hq.1];rfl) fun I=>?_).bind fun g' W' hsz hq=>?_
 .have h:=agx (W:=dB W I 0) hs h9;rw[<-e] at h
  have h2:wS.wp P (fun e a W'=>e=.ret/\a.defers=[]/\a.tmps.size=71/\a.tmps[2]?=some v/\W'.heap=W.heap/\W'.os=W.os/\W'.output=W.output) ⟨tmps,[]⟩ (dB W I 0):=
   ve h fun e a W' hq=>⟨hq.1,hq.2.1,hq.2.2.1,hq.2.2.2.1,by rw[hq.2.2.2.2];rfl,by rw[hq.2.2.2.2];rfl,by rw[hq.2.2.2.2];rfl⟩
  exact h2 { (default:bS) with fn:=159,kind:=.normal } [] cs
 obtain⟨e1,a',I,d,⟨rfl,hd,hsz',h2,hh,ho,hu⟩,todo,rfl⟩:=hq;refine .here ⟨_,v,I,d,rfl,hR,hh,ho,hu,rfl,rfl,hd,rfl,kQ,hf,?_⟩;rw[e];exact JG _ v h2 _ hsz'
theorem Ol(G0:VD P b bq aK aA all l ss ms Y W)(hold:Old W W1)(hx:W1.heap[xb]?=some (.cells (b.open bq aK aA all) 122 (0,0)))(hf:W1.heap[fb]?=some (.cells #[.chan (some c0)] 188 (0,0)))(ht:W1.heap[tb]?=some (.cells #[.chan (some c1)] 189 (0,0)))
  (hc0:Chan c0 W1) (hc1:Chan c1 W1) (hne:c0≠c1) (hl:W.heap.size<=c0/\W.heap.size<=c1/\W.heap.size<=fb/\W.heap.size<=tb/\W.heap.size<=xb) {sn:Nat} (Rp:bD ss=sn) :
  jl P (fun g' W'=>∃fr v I d,g'=G fr cs/\VB b l ss ms W v W'/\fr.fn=159/\fr.leaving P (dB W' I d) (.returned v)) (GK 159 #[.agg (b.open bq aK aA all),ptr ⟨xb,0,none⟩,.slice none 0 0,.int .i64 sn,ptr ⟨fb,0,none⟩,ptr ⟨tb,0,none⟩,.int .i64 0,af,af,af,af,ptr ⟨xb,0,none⟩,ptr ⟨xb,0,none⟩,ptr ⟨xb,13,none⟩,aK,.int .i64 sn,.chan (some c0),.chan (some c1),.int .i64 0,af,af,af,af,af,af,af,af,af,af,af,af,af,af,af,af,af,af,af,af,af,af,af,af,af,af,af,af,af,af,af,af,af,af,af,af,af,af,af,af,af,af,af,af,af,af,af,af,af,af,af,af] [.code (.block 0 (.loop JC)),.code P2] .normal cs) W1:=by
 intro K hg cY w V;have okc:∀ {k:Nat} {cs:Array ak} {e:aZ} {z:Nat × Nat},W1.heap[k]?=some (.cells cs e z)->w.heap[k]?=some (.cells cs e z):=fun h=>yP V h rfl;have hW:∀(k:Nat) (o:Obj),W.heap[k]?=some o->fT o=true->w.heap[k]?=some o:=fun k o h ho=>yP V ((hold.block k (eP h)).trans h) ho;obtain⟨X0,VS⟩:∃X0:Nat->Prop,X0=fun c=>Y c\/c=xb\/c=fb\/c=tb:=⟨_,rfl⟩
 have hYX:∀c,Y c->X0 c:=fun c hc=>by rw[VS];exact .inl hc
 have hxX:X0 xb:=by rw[VS];exact .inr (.inl rfl)
 have hfX:X0 fb:=by rw[VS];exact .inr (.inr (.inl rfl))
 have htX:X0 tb:=by rw[VS];exact .inr (.inr (.inr rfl))
 have hvm:=G0.vm.mono (s5 hYX);have Yz:=G0.vs.mono (s5 hYX);have ZX:=G0.vk.mono (s5 hYX);have hva:=G0.va.mono (s5 hYX)
 have hcell:∀a:Addr,Y a.block->w.cell? a=W.cell? a:=fun a ha=>by
  obtain⟨cs,e,z,h1,_⟩:=G0.cl _ ha;exact ja ((hW _ _ h1 rfl).trans h1.symm)
 have Cp:∀ {v:ak} {n:Nat} {xs:List ak},mJ Y W v n xs->mJ X0 w v n xs:=fun h=>by
  rcases h with h|⟨g,off,cap,h1,h2,h3,h4⟩
  .exact .inl h
  exact .inr ⟨g,off,cap,h1,h2,hYX g h3,fun j u hj=>(hcell ⟨g,off+j,none⟩ h3).trans (h4 j u hj)⟩
 have hcl:Closed fw X0 w:=by
  intro c hc;rw[VS] at hc;rcases hc with hc|rfl|rfl|rfl
  .obtain⟨cs,e,z,h1,h2⟩:=G0.cl c hc;exact⟨cs,e,z,hW _ _ h1 rfl,fun v hv=>(h2 v hv).mono (s5 hYX)⟩
  .refine⟨_,_,_,okc hx,fun v hv=>?_⟩;simp only[BB.open,BB.cells,jH,iw,eY,bI,cy,gO,or_false,gP,kn] at hv;rcases hv with rfl|rfl|rfl|rfl|rfl|rfl|rfl|rfl|rfl|rfl|rfl|rfl|rfl|rfl|rfl|rfl<;>first|exact .int _ _|assumption
  .exact⟨_,_,_,okc hf,fun v hv=>by simp at hv;subst hv;exact .chan _⟩
  exact⟨_,_,_,okc ht,fun v hv=>by simp at hv;subst hv;exact .chan _⟩
 have hWs:W.heap.size<=w.heap.size:=by rw[<-V.size];exact hold.size
 have Rt:∀c,X0 c->P.globals.size<=c:=fun c hc=>by
  rw[VS] at hc;have:=G0.vL;rcases hc with hc|rfl|rfl|rfl
  .exact G0.low c hc
  all_goals omega
 have hcx:∀i u,(b.open bq aK aA all)[i]?=some u->w.cell? ⟨xb,i,none⟩=some u:=fun i u hi=>by
  unfold dJ;rw[okc hx];exact hi
 have E:O5 P b bq aK aA all l ss ms X0 w xb fb tb c0 c1:=
  ⟨G0.e,G0.f178,G0.i159,G0.i178,G0.ok,G0.abw,G0.He,G0.mks,hcl,Rt,aO G0.vL hWs,hxX,hfX,htX,hcx,by unfold dJ;rw[okc hf];rfl,by unfold dJ;rw[okc ht];rfl,Cp G0.rs,Cp G0.rm,Cp G0.ra⟩
 have SG:=UM (b:=b) (c0:=c0) (c1:=c1) (sn:=sn) hvm Yz ZX hva hxX hfX htX
 have Lu:MS P fw (fun c=>c<w.heap.size) X0 (fun _=>False) #[.agg (b.open bq aK aA all),ptr ⟨xb,0,none⟩,.slice none 0 0,.int .i64 sn,ptr ⟨fb,0,none⟩,ptr ⟨tb,0,none⟩,.int .i64 0,af,af,af,af,ptr ⟨xb,0,none⟩,ptr ⟨xb,0,none⟩,ptr ⟨xb,13,none⟩,aK,.int .i64 sn,.chan (some c0),.chan (some c1),.int .i64 0,af,af,af,af,af,af,af,af,af,af,af,af,af,af,af,af,af,af,af,af,af,af,af,af,af,af,af,af,af,af,af,af,af,af,af,af,af,af,af,af,af,af,af,af,af,af,af,af,af,af,af,af] #[.agg (b.open bq aK aA all),ptr ⟨xb,0,none⟩,.slice none 0 0,.int .i64 sn,ptr ⟨fb,0,none⟩,ptr ⟨tb,0,none⟩,.int .i64 0,af,af,af,af,ptr ⟨xb,0,none⟩,ptr ⟨xb,0,none⟩,ptr ⟨xb,13,none⟩,aK,.int .i64 sn,.chan (some c0),.chan (some c1),.int .i64 0,af,af,af,af,af,af,af,af,af,af,af,af,af,af,af,af,af,af,af,af,af,af,af,af,af,af,af,af,af,af,af,af,af,af,af,af,af,af,af,af,af,af,af,af,af,af,af,af,af,af,af,af] (shut X0 w) w (xU X0):=
  ⟨SG,Pm hcl Rt,E.vL,by rw[wb];exact E.vL,(Hc hcl).symm,BN hcl,Pn⟩
 have st:St P X0 w X0 (fun _=>False) #[.agg (b.open bq aK aA all),ptr ⟨xb,0,none⟩,.slice none 0 0,.int .i64 sn,ptr ⟨fb,0,none⟩,ptr ⟨tb,0,none⟩,.int .i64 0,af,af,af,af,ptr ⟨xb,0,none⟩,ptr ⟨xb,0,none⟩,ptr ⟨xb,13,none⟩,aK,.int .i64 sn,.chan (some c0),.chan (some c1),.int .i64 0,af,af,af,af,af,af,af,af,af,af,af,af,af,af,af,af,af,af,af,af,af,af,af,af,af,af,af,af,af,af,af,af,af,af,af,af,af,af,af,af,af,af,af,af,af,af,af,af,af,af,af,af] #[.agg (b.open bq aK aA all),ptr ⟨xb,0,none⟩,.slice none 0 0,.int .i64 sn,ptr ⟨fb,0,none⟩,ptr ⟨tb,0,none⟩,.int .i64 0,af,af,af,af,ptr ⟨xb,0,none⟩,ptr ⟨xb,0,none⟩,ptr ⟨xb,13,none⟩,aK,.int .i64 sn,.chan (some c0),.chan (some c1),.int .i64 0,af,af,af,af,af,af,af,af,af,af,af,af,af,af,af,af,af,af,af,af,af,af,af,af,af,af,af,af,af,af,af,af,af,af,af,af,af,af,af,af,af,af,af,af,af,af,af,af,af,af,af,af] (shut X0 w) w (xU X0) (fun c=>c<w.heap.size):=⟨Lu,fun _ _ h=>h,fun c hc=>hcl.lt hc,fun c hc=>rfl,fun c hc=>rfl⟩
 have vp:GT xb fb tb (bD ss) #[.agg (b.open bq aK aA all),ptr ⟨xb,0,none⟩,.slice none 0 0,.int .i64 sn,ptr ⟨fb,0,none⟩,ptr ⟨tb,0,none⟩,.int .i64 0,af,af,af,af,ptr ⟨xb,0,none⟩,ptr ⟨xb,0,none⟩,ptr ⟨xb,13,none⟩,aK,.int .i64 sn,.chan (some c0),.chan (some c1),.int .i64 0,af,af,af,af,af,af,af,af,af,af,af,af,af,af,af,af,af,af,af,af,af,af,af,af,af,af,af,af,af,af,af,af,af,af,af,af,af,af,af,af,af,af,af,af,af,af,af,af,af,af,af,af] (0:Nat) (0:Nat) undef:=by
  rw[Rp];exact⟨rfl,rfl,rfl,rfl,rfl,rfl,rfl,rfl⟩
 have hM:=adf (K:=[]) (cs:=cs) E 512 0 rfl X0 (fun _=>False) _ _ _ w _ _ _ st vp
 have hM2:gJ P c0 c1 (.int .i64 0) (.bool false) (Yk (ints (j0 b (dx ss ms).toNat (bD ss) l 512)) [] cs) 0 0 [] [] X0 (fun _=>False) (GK 159 #[.agg (b.open bq aK aA all),ptr ⟨xb,0,none⟩,.slice none 0 0,.int .i64 sn,ptr ⟨fb,0,none⟩,ptr ⟨tb,0,none⟩,.int .i64 0,af,af,af,af,ptr ⟨xb,0,none⟩,ptr ⟨xb,0,none⟩,ptr ⟨xb,13,none⟩,aK,.int .i64 sn,.chan (some c0),.chan (some c1),.int .i64 0,af,af,af,af,af,af,af,af,af,af,af,af,af,af,af,af,af,af,af,af,af,af,af,af,af,af,af,af,af,af,af,af,af,af,af,af,af,af,af,af,af,af,af,af,af,af,af,af,af,af,af,af] [.code (.block 0 (.loop JC)),.code P2] .normal cs) w:=
  .ctl rfl rfl (qj _ _) rfl rfl (.ctl rfl rfl (Mf _) rfl rfl hM)
 have adp:=hM2.wide (w0:=w) (fun c=>c<w.heap.size/\c≠c0/\c≠c1) (fun c hc=>⟨hc.1,id,rfl⟩);have CH:Chan c0 w:=by obtain⟨s,tm,h⟩:=hc0;exact⟨s,tm,yP V h rfl⟩
 have CG:Chan c1 w:=by obtain⟨s,tm,h⟩:=hc1;exact⟨s,tm,yP V h rfl⟩
 refine(IZ hne adp rfl CH CG (fun c hc=>?_) (fun c hc h=>h)).bind ?_
 .rcases hc with(hc|hc)|hc
  .obtain⟨cs,e,z,h1,_⟩:=hcl c hc;refine⟨eP h1,fun e=>?_,fun e=>?_⟩
   .subst e;obtain⟨s,tm,h⟩:=CH;rw[h1] at h;cases h
   subst e;obtain⟨s,tm,h⟩:=CG;rw[h1] at h;cases h
  .exact hc
  exact hc.elim
 rintro g' w' ⟨acc,out,S,O,⟨⟨S',⟨bB,v,kJ,rfl,hts,ht9,YJ,adv,YW⟩,lZ⟩,hC0,hC1⟩,hperm,hsz,hos,hout⟩;rw[YJ,YW] at hperm;clear YJ YW
 obtain⟨W',hV',rZ,e1,e2,e3,e4,e5⟩:=TY (n:=W.heap.size) V cY hos hout hsz (fun b o hb ho lu=>by
  by_cases e0:b=c0
  .subst e0;obtain⟨s,tm,h⟩:=hC0;rw[h] at ho;cases ho;cases lu
  by_cases e1:b=c1
  .subst e1;obtain⟨s,tm,h⟩:=hC1;rw[h] at ho;cases ho;cases lu
  rw[<-(lZ b ⟨by rw[<-V.size];exact hb,e0,e1⟩).2];exact ho) (fun k hk=>(lZ k ⟨by omega,by omega,by omega⟩).2)
 have hO:Old W W':=⟨e1.trans hold.os,e2.trans hold.output,aO hold.size e3,fun k hk=>(e4 k hk (bA hk hold.size)).trans (hold.block k hk)⟩
 have ag2:Reads W' v kJ.length (ints kJ):=adv.keep (by rw[hV'.size];exact ax _) fun g cs e z h=>e5 g _ h rfl
 have hp:kJ.Perm (j0 b (dx ss ms).toNat (bD ss) l 512):=by
  have h1:(ints kJ).map (fun v=>(intOf v).toNat)=kJ:=by simp[ints,intOf,Function.comp_def]
  have h2:(ints (j0 b (dx ss ms).toNat (bD ss) l 512)).map (fun v=>(intOf v).toNat)=j0 b (dx ss ms).toNat (bD ss) l 512:=by simp[ints,intOf,Function.comp_def]
  rw[<-h1,<-h2];exact hperm.map _
 have Xy:Av (GK 159 bB [.code wS] .normal cs):=⟨⟨by simpa [GK,G,jr] using XM,rfl⟩,hg.callers,.inl rfl⟩
 refine(UG (cs:=cs) G0.e G0.f159 (R:=fun v W''=>VB b l ss ms W v W'') hts ht9 ⟨kJ,ag2,hp,hO⟩ K Xy rZ w' hV').mono ?_;rintro g2 w2 ⟨W2,⟨fr,v2,I,d,rfl,⟨o2,r1,r2,r3⟩,hh,ho,hu,hfn,hlv⟩,V2,hg2,uQ,hs2⟩;refine⟨W2,⟨fr,v2,I,d,rfl,⟨o2,?_,r2,r3.trans ⟨ho,hu,by rw[hh];exact ax _,fun k _=>by rw[hh]⟩⟩,hfn,hlv⟩,V2,hg2,uQ,aO e3 hs2⟩;exact r1.keep (by rw[hh];exact ax _) fun g cs e z h=>by rw[hh];exact h
end
structure Sm(W W':ar):Prop where
 heap:W'.heap=W.heap
 os:W'.os=W.os
 output:W'.output=W.output
theorem Sm.old{W W':ar}(h:Sm W W'):Old W W':=⟨h.os,h.output,by rw[h.heap];exact ax _,fun k _=>by rw[h.heap]⟩
theorem qi(W:ar)(o:Obj):Old W (W.alloc o):=⟨rfl,rfl,by simp,fun k hk=>Below.heap_alloc _ _ _ hk⟩
theorem enter_at{P:aL}{f:FuncId}{fn:Func}{c:Code}{args:Array ak}(hf:P.funcs[f]?=some fn)(hb:fn.body=some c):eA P f args .normal=({ (default:bS) with fn:=f,kind:=.normal }:bS).at ⟨args++bE (fn.ntmps-args.size) af,[]⟩ [.code c]:=by
 simp[eA,Frame.at,hf,hb]
theorem aiZ(x:ak) : #[x]++bE (71 - #[x].size) af = #[x,af,af,af,af,af,af,af,af,af,af,af,af,af,af,af,af,af,af,af,af,af,af,af,af,af,af,af,af,af,af,af,af,af,af,af,af,af,af,af,af,af,af,af,af,af,af,af,af,af,af,af,af,af,af,af,af,af,af,af,af,af,af,af,af,af,af,af,af,af,af]:=by
 simp only[List.size_toArray,List.length_cons,List.length_nil,Nat.reduceAdd,Nat.reduceSub,Array.replicate_succ,Array.replicate_zero,jH,iw,kn,gP]
theorem acQ:Tryz.f159.ntmps=71:=by kernel_rfl
section
variable{P:aL}{b:BB}{bq aK aA all:ak}{l:List eN}{ss:List Int}{ms:List Mk}{Y:Nat->Prop}{W:ar}
theorem aaV(G0:VD P b bq aK aA all l ss ms Y W):jW P 159 #[.agg (b.open bq aK aA all)] W (VB b l ss ms W):=by
 intro cs;have T:=quiet_of G0.e;obtain⟨sn,Rp⟩:∃sn,bD ss=sn:=⟨_,rfl⟩
 obtain⟨xb,hxb⟩:∃xb,W.heap.size=xb:=⟨_,rfl⟩
 have ua:eA P 159 #[.agg (b.open bq aK aA all)] .normal=({ (default:bS) with fn:=159,kind:=.normal }:bS).at ⟨#[.agg (b.open bq aK aA all),af,af,af,af,af,af,af,af,af,af,af,af,af,af,af,af,af,af,af,af,af,af,af,af,af,af,af,af,af,af,af,af,af,af,af,af,af,af,af,af,af,af,af,af,af,af,af,af,af,af,af,af,af,af,af,af,af,af,af,af,af,af,af,af,af,af,af,af,af,af],[]⟩ [.code (.seq gR0 (.seq gR1 (.seq gR2 (.seq gR3 (.seq (.seq gR4 (.block 0 (.loop JC))) P2)))))]:=by
  rw[enter_at G0.f159 X5,acQ,aiZ];unfold P2;rfl
 rw[ua];have l9:({ (default:bS) with fn:=159,kind:=.normal }:bS).kind≠.early:=by simp
 have hsW:∀ {W':ar},Old W W'->Reads W' aK ss.length (ss.map (aB .i64)):=fun ho=>G0.rs.to (fun c hc=>bA (G0.lt hc) ho.size) fun a ha=>ho.cell (G0.lt ha);refine jO T (fun w=>step_seq) ?_;refine oF T l9 (Q:=fun a W'=>a=⟨#[.agg (b.open bq aK aA all),ptr ⟨xb,0,none⟩,.slice none 0 0,af,af,af,af,af,af,af,af,af,af,af,af,af,af,af,af,af,af,af,af,af,af,af,af,af,af,af,af,af,af,af,af,af,af,af,af,af,af,af,af,af,af,af,af,af,af,af,af,af,af,af,af,af,af,af,af,af,af,af,af,af,af,af,af,af,af,af,af],[]⟩/\Sm (W.alloc (.cells (b.open bq aK aA all) 122)) W') (fun I d=>?_) ?_
 .rw[G0.e];refine ve (pR0 (W:=dB W I d) hxb) ?_;rintro e a W' ⟨rfl,rfl,rfl⟩;exact⟨rfl,rfl,rfl,rfl,rfl⟩
 rintro a W1 τ1 d1 ⟨rfl,hsm⟩;have o1:Old W W1:=(qi W _).trans (Sm.old (W':=W1) ⟨hsm.heap,hsm.os,hsm.output⟩)
 have x1:W1.heap[xb]?=some (.cells (b.open bq aK aA all) 122 (0,0)):=by
  have h:W1.heap=(W.alloc (.cells (b.open bq aK aA all) 122)).heap:=hsm.heap;rw[h,<-hxb];exact World.alloc_heap_new W _
 have s1:xb<W1.heap.size:=eP x1;clear hsm;refine jO T (fun w=>step_seq) ?_;refine oF T l9 (Q:=fun a W'=>a=⟨#[.agg (b.open bq aK aA all),ptr ⟨xb,0,none⟩,.slice none 0 0,.int .i64 sn,af,af,af,af,af,af,af,ptr ⟨xb,0,none⟩,ptr ⟨xb,0,none⟩,ptr ⟨xb,13,none⟩,aK,.int .i64 sn,af,af,af,af,af,af,af,af,af,af,af,af,af,af,af,af,af,af,af,af,af,af,af,af,af,af,af,af,af,af,af,af,af,af,af,af,af,af,af,af,af,af,af,af,af,af,af,af,af,af,af,af,af,af,af],[]⟩/\Sm W1 W') (fun I d=>?_) ?_
 .rw[G0.e];refine ve (pR1 (b:=b) (bq:=bq) (aA:=aA) (all:=all) (W:=dB W1 I d) G0.He ?_ (hsW (W':=dB W1 I d) ⟨o1.os,o1.output,o1.size,o1.block⟩) Rp) ?_
  .show W1.cell? ⟨xb,13,none⟩=some aK;unfold dJ;rw[x1];rfl
  rintro e a W' ⟨rfl,rfl,rfl⟩;exact⟨rfl,rfl,rfl,rfl,rfl⟩
 rintro a W2 τ2 d2 ⟨rfl,hsm⟩;have hh:W2.heap=W1.heap:=hsm.heap;have o2:Old W W2:=o1.trans (Sm.old (W':=W2) ⟨hsm.heap,hsm.os,hsm.output⟩);have x2:W2.heap[xb]?=some (.cells (b.open bq aK aA all) 122 (0,0)):=by rw[hh];exact x1
 have s2:W.heap.size<W2.heap.size:=by rw[hh];omega
 clear hsm hh o1 x1 s1;refine jO T (fun w=>step_seq) ?_;refine oF T l9 (Q:=fun a W'=>∃c0 c1 fb tb:Nat,a=⟨#[.agg (b.open bq aK aA all),ptr ⟨xb,0,none⟩,.slice none 0 0,.int .i64 sn,ptr ⟨fb,0,none⟩,ptr ⟨tb,0,none⟩,af,af,af,af,af,ptr ⟨xb,0,none⟩,ptr ⟨xb,0,none⟩,ptr ⟨xb,13,none⟩,aK,.int .i64 sn,.chan (some c0),.chan (some c1),af,af,af,af,af,af,af,af,af,af,af,af,af,af,af,af,af,af,af,af,af,af,af,af,af,af,af,af,af,af,af,af,af,af,af,af,af,af,af,af,af,af,af,af,af,af,af,af,af,af,af,af,af],[]⟩/\(Chan c0 W'/\Chan c1 W'/\W'.heap[fb]?=some (.cells #[.chan (some c0)] 188 (0,0))/\W'.heap[tb]?=some (.cells #[.chan (some c1)] 189 (0,0))/\c0≠c1/\W2.heap.size<=c0/\W2.heap.size<=c1/\W2.heap.size<=fb/\W2.heap.size<=tb/\Old W2 W')) (fun I d=>?_) ?_
 .rw[G0.e];refine ve (pR2 (b:=b) (bq:=bq) (aK:=aK) (aA:=aA) (all:=all) (xb:=xb) (sn:=sn) (W:=dB W2 I d)) ?_;rintro e a W' ⟨rfl,c0,c1,fb,tb,rfl,h1,h2,h3,h4,h5,h6,h7,h8,h9,h10⟩;exact⟨rfl,c0,c1,fb,tb,rfl,h1,h2,h3,h4,h5,h6,h7,h8,h9,h10.os,h10.output,h10.size,h10.block⟩
 rintro a W3 τ3 d3 ⟨c0,c1,fb,tb,rfl,h1,h2,h3,h4,h5,h6,h7,h8,h9,h10⟩;have o3:Old W W3:=o2.trans ⟨h10.os,h10.output,h10.size,h10.block⟩;have x3:W3.heap[xb]?=some (.cells (b.open bq aK aA all) 122 (0,0)):=(h10.block xb (by omega)).trans x2;have k0:Chan c0 W3:=h1;have k1:Chan c1 W3:=h2;have kf:W3.heap[fb]?=some (.cells #[.chan (some c0)] 188 (0,0)):=h3;have kt:W3.heap[tb]?=some (.cells #[.chan (some c1)] 189 (0,0)):=h4;clear h1 h2 h3 h4 h10 o2 x2;refine jO T (fun w=>step_seq) ?_;refine oF T l9 (Q:=fun a W'=>a=⟨#[.agg (b.open bq aK aA all),ptr ⟨xb,0,none⟩,.slice none 0 0,.int .i64 sn,ptr ⟨fb,0,none⟩,ptr ⟨tb,0,none⟩,.int .i64 0,af,af,af,af,ptr ⟨xb,0,none⟩,ptr ⟨xb,0,none⟩,ptr ⟨xb,13,none⟩,aK,.int .i64 sn,.chan (some c0),.chan (some c1),af,af,af,af,af,af,af,af,af,af,af,af,af,af,af,af,af,af,af,af,af,af,af,af,af,af,af,af,af,af,af,af,af,af,af,af,af,af,af,af,af,af,af,af,af,af,af,af,af,af,af,af,af],[]⟩/\Sm W3 W') (fun I d=>?_) ?_
 .rw[G0.e];refine ve (pR3 (b:=b) (bq:=bq) (aK:=aK) (aA:=aA) (all:=all) (xb:=xb) (sn:=sn) (c0:=c0) (c1:=c1) (fb:=fb) (tb:=tb) (W:=dB W3 I d)) ?_;rintro e a W' ⟨rfl,rfl,rfl⟩;exact⟨rfl,rfl,rfl,rfl,rfl⟩
 rintro a W4 τ4 d4 ⟨rfl,Xn⟩;have e4:W4.heap=W3.heap:=Xn.heap;have o4:Old W W4:=o3.trans (Sm.old (W':=W4) ⟨Xn.heap,Xn.os,Xn.output⟩);refine jO T (fun w=>step_seq) ?_;refine jO T (fun w=>step_seq) ?_;refine oF T l9 (Q:=fun a W'=>a=⟨#[.agg (b.open bq aK aA all),ptr ⟨xb,0,none⟩,.slice none 0 0,.int .i64 sn,ptr ⟨fb,0,none⟩,ptr ⟨tb,0,none⟩,.int .i64 0,af,af,af,af,ptr ⟨xb,0,none⟩,ptr ⟨xb,0,none⟩,ptr ⟨xb,13,none⟩,aK,.int .i64 sn,.chan (some c0),.chan (some c1),.int .i64 0,af,af,af,af,af,af,af,af,af,af,af,af,af,af,af,af,af,af,af,af,af,af,af,af,af,af,af,af,af,af,af,af,af,af,af,af,af,af,af,af,af,af,af,af,af,af,af,af,af,af,af,af],[]⟩/\Sm W4 W') (fun I d=>?_) ?_
 .rw[G0.e];refine ve (pR4 (b:=b) (bq:=bq) (aK:=aK) (aA:=aA) (all:=all) (xb:=xb) (sn:=sn) (c0:=c0) (c1:=c1) (fb:=fb) (tb:=tb) (W:=dB W4 I d)) ?_;rintro e a W' ⟨rfl,rfl,rfl⟩;exact⟨rfl,rfl,rfl,rfl,rfl⟩
 rintro a W5 τ5 d5 ⟨rfl,Xm⟩;have e5:W5.heap=W3.heap:=(show W5.heap=W4.heap from Xm.heap).trans e4;have o5:Old W W5:=o4.trans (Sm.old (W':=W5) ⟨Xm.heap,Xm.os,Xm.output⟩);have kc:∀ {c:Nat},Chan c W3->Chan c W5:=fun h=>by obtain⟨s,tm,h⟩:=h;exact⟨s,tm,by rw[e5];exact h⟩
 exact Ol (cs:=cs) G0 o5 (by rw[e5];exact x3) (by rw[e5];exact kf) (by rw[e5];exact kt) (kc k0) (kc k1) h5 ⟨by omega,by omega,by omega,by omega,by omega⟩ Rp
end
end Go.Proofs.YtffladgmkiimjaaGreatDoor
