/- TWO GOROUTINES IN STEP: one step, whatever stands ahead. FROM A LONE R .. -/
import Derived.Test.YtffladgmkiimjaaGreatDoorW08
import Derived.Conc.CrowdTrace
import Derived.Conc.CrowdSel
import Derived.Test.YtffladgmkiimjaaGreatDoorProg
import Derived.KernelRfl
set_option linter.all false
set_option maxHeartbeats 100000000
set_option maxRecDepth 1000000
open Array renaming getElem?_setIfInBounds_ne -> aC,getElem?_eq_getElem -> aQ,getElem?_eq_some_iff -> ai,getElem?_setIfInBounds_self_of_lt -> bg,append_empty -> dZ,empty_append -> fj,getElem?_push -> ly,mapM_eq_mapM_toList -> oZ
open Bool renaming false_eq_true -> bG
open Go renaming Goroutine -> aD,Program -> aL,undef -> af,Value -> ak,World -> ar,Frame -> bS,FuncId -> dX,stepG -> fo,Event -> gw,CallKind -> j6,CommCase -> mU,Item -> pD,doReturn -> uu,partners -> w8
open Go.Conc renaming mem_ofEvents -> BI,runT_crowd_go -> Di,served -> fp,parked -> iA,getElem?_append_cases -> ik,offersAt_of_not_blocked -> mO,scase -> nB,solo_eq_crowd -> nv,crowd -> rj
open Go.Frame renaming enter -> eA
open Go.GStep renaming after -> BH
open Go.MemAct renaming ofEvent -> fX
open Go.MemOp renaming ofEvents -> iB
open Go.stepG renaming exec -> cC,apply -> ep,oper -> fg
open List renaming mem_append -> bI,getElem_mem -> bV,map_cons -> cZ,mem_cons -> cy,mem_map -> dN,length_pos_iff -> dm,mem_toArray -> eY,map_append -> fh,not_mem_nil -> gO,mem_singleton -> j5
open Nat renaming le_trans -> aO,le_refl -> ax,eq_zero_or_pos -> jf,add_sub_cancel_left -> sF
open Ne renaming symm -> BF
open Option renaming map_some -> dH,map_eq_some_iff -> eO,bind_some -> gK
open Option.some renaming inj -> bj,injEq -> gQ
namespace Go.Lag
open Go.Conc
section
variable{P:aL}{F:Nat->Bool}{B:Nat->Prop}{U:Rn}{k:List pD}{kd:j6}{cs:List bS}{lw w:ar}{main:Bool}
theorem WR.rok(h:WR F P.globals.size B U lw w):Vp P U:=⟨h.inj,h.low⟩
theorem UN(hF:uN P F){f:dX}(hf:F f=true){l m:Array ak}(h:iV F U l m):FR P F U [] .normal (eA P f l .normal) (eA P f m .normal):=by
 obtain⟨fn,c,h1,h2,h3,_⟩:=hF.text f hf;unfold eA;simp only[h1,dH,Option.getD_some,gK,h2];have:=FR.run (P:=P) (F:=F) (U:=U) (k:=[]) (kd:=.normal) (fn:=f) (todo:=[.code c]) (h.append (iV.replicate tR (fn.ntmps-l.size))) (by simpa [iQ] using h3);rw[h.size] at this;rw[h.size];exact this
theorem opR(hF:uN P F)(hw:WR F P.globals.size B U lw w)(ht:vV lw w)(hG:P.globals.size<=lw.heap.size)(YX:P.globals.size<=w.heap.size)
  {fn:dX} {tmps bB:Array ak} {aN:Array Oper} {i:Nat} {rest:List Nat} {t t':List pD} {l l':List bS} (hto:(Item.inRegion aN (i::rest)::t).all (iQ P F)=true)
  (hT:t'=t++(if l=[] then k else[])) {kk:j6} (hK:kk=if l=[] then kd else .normal) (hE:kd≠.early)
  (h:SR P F U k kd cs (Fr fn tmps (.inRegion aN (i::rest)::t) .run) l (jr fn bB (.inRegion aN (i::rest)::t') .run kk) l') (ha:iV F U tmps bB) {o:Oper} (ho:aN[i]?=some o) :
  Ih P F P.globals.size B U k kd cs lw w (ep P true (Fr fn tmps (.inRegion aN (i::rest)::t) .run) l none (execOp (Fr fn tmps (.inRegion aN (i::rest)::t) .run).eval o) lw)
   (ep P true (jr fn bB (.inRegion aN (i::rest)::t') .run kk) l' none (execOp (jr fn bB (.inRegion aN (i::rest)::t') .run kk).eval o) w):=by
 have cY:WM P F o.op=true:=by
  have:=(lR hto).1;exact Array.all_eq_true'.1 this o (Array.mem_of_getElem? ho)
 have hs:=KG hF.body hw.rok (fr:=Fr fn tmps (.inRegion aN (i::rest)::t) .run) (fr':=jr fn bB (.inRegion aN (i::rest)::t') .run kk) ha cY
 have pW:∀ {U':Rn} {v v':ak},Rn.le U U'->VR F U' v v'->SR P F U' k kd cs ((Fr fn tmps (.inRegion aN (i::rest)::t) .run).finish v) l ((jr fn bB (.inRegion aN (i::rest)::t') .run kk).finish v') l':=by
  intro U' v v' hle hv;refine(h.mono hle).set (A8 _ _) (fun hl _=>?_) fun hl _=>?_
  .rw[if_pos hl] at hT hK;subst hT;subst hK;exact Dx (k:=k) (ha.mono hle) hto hv
  rw[if_neg hl] at hT hK;subst hT;subst hK;exact Dx (k:=[]) (ha.mono hle) hto hv
 rcases hs.runT hw ht hG YX #[] #[] with⟨a,kK,le,b,w1,evs,ρ1,h1,h2,h3,h4⟩|⟨e,kK,le,h1,h2⟩
 .simp only[fj] at h2
  have Xw:(kk == .early)=false:=by
   rw[hK];split
   .exact beq_eq_false_iff_ne.2 hE
   rfl
  unfold ep;simp only[if_true,h1,h2];simp only[jr,Xw,bG,if_false];cases h3 with
  |value hv=>
   refine .inr (.inr (.inr ⟨_,_,_,_,_,_,_,_,ρ1,rfl,rfl,pW h4.le hv,?_⟩));exact h4.seen fn
  |skip=>
   refine .inr (.inr (.inr ⟨_,_,_,_,_,_,_,_,ρ1,rfl,rfl,pW h4.le tR,?_⟩));exact h4.seen fn
  |enter hf aei=>
   refine .inr (.inr (.inr ⟨_,_,_,_,_,_,_,_,ρ1,rfl,rfl,.up (UN hF hf aei) (by simp[Fr]) rfl (h.mono h4.le),?_⟩));exact h4.seen fn
  |send=>exact .inr (.inr (.inl ⟨_,_,_,_,_,rfl,h4.wr.I5⟩))
 .unfold ep;simp only[if_true,h1];have hd:=h.defers;cases e with
  |panic v=>
   obtain⟨ch,e1,e2⟩:=raise_mode (Fr fn tmps (.inRegion aN (i::rest)::t) .run) [{ v,recovered:=false }];exact .inr (.inl ⟨_,_,_,rfl,.inr (.inr ⟨ch,e1,e2.trans hd.1,hd.2⟩)⟩)
  |stuck s=>exact .inl ⟨_,_,_,rfl⟩
  |unsupported u=>
   cases u<;>first|exact absurd h2 id|exact .inl ⟨_,_,_,rfl⟩
  |_=>exact absurd h2 id
theorem SR.top{fr fr':bS}{l l':List bS}(h:SR P F U k kd cs fr l fr' l'):FR P F U (if l=[] then k else[]) (if l=[] then kd else .normal) fr fr':=by
 cases h with
 |base h _=>simpa using h
 |up h _ _ _=>simpa using h
theorem SR.set'{fr fr' Gm wT:bS}{l l':List bS}(h:SR P F U k kd cs fr l fr' l')(hfn:Gm.fn=fr.fn)(h1:FR P F U (if l=[] then k else[]) (if l=[] then kd else .normal) Gm wT):SR P F U k kd cs Gm l wT l':=
 h.set hfn (fun hl _=>by simpa [hl] using h1) fun hl _=>by simpa [hl] using h1
theorem SN{tmps bB:Array ak}(ha:iV F U tmps bB)(aN:Array Oper):yielded aN bB=yielded aN tmps:=by
 funext j
 unfold yielded;cases(aN[j]?).bind (·.dst) with
 |none=>rfl
 |some d=>
  simp only[gK];cases hx:tmps[d]? with
  |none=>rw[ha.none hx]
  |some x=>
   obtain⟨y,hy,hv⟩:=ha.get hx;rw[hy];cases hv<;>rfl
theorem aeL(hF:uN P F)(hw:WR F P.globals.size B U lw w)(ht:vV lw w)(hG:P.globals.size<=lw.heap.size)(YX:P.globals.size<=w.heap.size)
  {fn:dX} {tmps bB:Array ak} {todo:List pD} {l l':List bS} (h:SR P F U k kd cs (Fr fn tmps todo .run) l (jr fn bB (todo++if l=[] then k else[]) .run (if l=[] then kd else .normal)) l') (hE:kd≠.early)
  (ha:iV F U tmps bB) (cY:todo.all (iQ P F)=true) (hk:l=[]->todo=[]->k=[]) :
  Ih P F P.globals.size B U k kd cs lw w (cC P true true (Fr fn tmps todo .run) l none lw) (cC P main true (jr fn bB (todo++if l=[] then k else[]) .run (if l=[] then kd else .normal)) l' none w):=by
 have qZ:todo=[]->(if l=[] then k else[])=[]:=fun e=>by
  split
  .rename_i hl;exact hk hl e
  rfl
 generalize sA:(if l=[] then k else[])=kk at h qZ ⊢;generalize C8:(if l=[] then kd else CallKind.normal)=J7 at h ⊢;have CU:∀t:List pD,t.all (iQ P F)=true->SR P F U k kd cs (Fr fn tmps t .run) l (jr fn bB (t++kk) .run J7) l':=fun t hto=>h.set' rfl (by rw[sA,C8];exact .run ha hto);have acB:∀t t':List pD,SR P F U k kd cs (Fr fn tmps t .returning) l (jr fn bB t' .returning J7) l':=fun t t'=>h.set' rfl (by rw[C8];exact .ret ha);cases todo with
 |nil=>
  rw[qZ rfl] at h ⊢;exact gD hw (acB [] []) rfl rfl
 |cons x t=>
  obtain⟨hx,Jm⟩:=lR cY;cases x with
  |inBlock id=>exact gD hw (CU t Jm) rfl rfl
  |inLoop c=>exact gD hw (CU (.code c::.inLoop c::t) (iJ hx (iJ hx Jm))) rfl rfl
  |inRegion aN todo=>
   cases todo with
   |nil=>exact gD hw (CU t Jm) rfl rfl
   |cons i rest=>
    have hy:=SN ha aN
    by_cases Yx:((aN[i]?).map (Region.wanted · (yielded aN tmps))).getD false=true
    .have e1:cC P true true (Fr fn tmps (.inRegion aN (i::rest)::t) .run) l none lw=fg P true (Fr fn tmps (.inRegion aN (i::rest)::t) .run) l none lw:=if_pos Yx
     have e2:cC P main true (jr fn bB (.inRegion aN (i::rest)::t++kk) .run J7) l' none w=fg P true (jr fn bB (.inRegion aN (i::rest)::(t++kk)) .run J7) l' none w:=by
      rw[<-hy] at Yx;exact if_pos Yx
     rw[e1,e2];cases ho:aN[i]? with
     |none=>rw[ho] at Yx;cases Yx
     |some o=>
      have e3:fg P true (Fr fn tmps (.inRegion aN (i::rest)::t) .run) l none lw=ep P true (Fr fn tmps (.inRegion aN (i::rest)::t) .run) l none (execOp (Fr fn tmps (.inRegion aN (i::rest)::t) .run).eval o) lw:=by
       unfold fg;have:(Fr fn tmps (.inRegion aN (i::rest)::t) .run).oper?=some o:=ho;rw[this];rfl
      have e4:fg P true (jr fn bB (.inRegion aN (i::rest)::(t++kk)) .run J7) l' none w=ep P true (jr fn bB (.inRegion aN (i::rest)::(t++kk)) .run J7) l' none (execOp (jr fn bB (.inRegion aN (i::rest)::(t++kk)) .run J7).eval o) w:=by
       unfold fg;have:(jr fn bB (.inRegion aN (i::rest)::(t++kk)) .run J7).oper?=some o:=ho;rw[this];rfl
      rw[e3,e4];exact opR hF hw ht hG YX cY (by rw[sA];rfl) C8.symm hE h ha ho
    have e1:cC P true true (Fr fn tmps (.inRegion aN (i::rest)::t) .run) l none lw=.go (G ((Fr fn tmps (.inRegion aN (i::rest)::t) .run).finish af) l) lw:=if_neg Yx
    have e2:cC P main true (jr fn bB (.inRegion aN (i::rest)::t++kk) .run J7) l' none w=.go (G ((jr fn bB (.inRegion aN (i::rest)::t++kk) .run J7).finish af) l') w:=by
     rw[<-hy] at Yx;exact if_neg Yx
    exact gD hw (h.set' (A8 _ _) (by rw[sA,C8];exact Dx ha cY tR)) e1 e2
  |code c=>
   cases c with
   |ret=>exact gD hw (acB _ _) rfl rfl
   |skip=>exact gD hw (CU t Jm) rfl rfl
   |label n=>exact gD hw (CU t Jm) rfl rfl
   |seq a b=>
    have hx':iG P F a=true/\iG P F b=true:=by simpa [iQ,iG] using hx
    exact gD hw (CU (.code a::.code b::t) (iJ hx'.1 (iJ hx'.2 Jm))) rfl rfl
   |cond c a b=>
    have hx':(AQ F c=true/\iG P F a=true)/\iG P F b=true:=by simpa [iQ,iG] using hx
    have hv:=kh (fr:=Fr fn tmps (.code (.cond c a b)::t) .run) (fr':=jr fn bB (.code (.cond c a b)::t++kk) .run J7) ha hx'.1.1
    have e1:cC P true true (Fr fn tmps (.code (.cond c a b)::t) .run) l none lw=(match (Fr fn tmps (.code (.cond c a b)::t) .run).eval c with
     |.bool x=>.go (G (Fr fn tmps (.code (if x then a else b)::t) .run) l) lw
     |_=>.ended (.stuck "cond: bool expected" ((Fr fn tmps (.code (.cond c a b)::t) .run).pos P)) lw):=rfl
    have e2:cC P main true (jr fn bB (.code (.cond c a b)::t++kk) .run J7) l' none w=(match (jr fn bB (.code (.cond c a b)::t++kk) .run J7).eval c with
     |.bool x=>.go (G (jr fn bB (.code (if x then a else b)::t++kk) .run J7) l') w
     |_=>.ended (.stuck "cond: bool expected" ((jr fn bB (.code (.cond c a b)::t++kk) .run J7).pos P)) w):=rfl
    rw[e1,e2];generalize (Fr fn tmps (.code (.cond c a b)::t) .run).eval c=v at hv ⊢;generalize (jr fn bB (.code (.cond c a b)::t++kk) .run J7).eval c=v' at hv ⊢;cases hv<;>first|exact .inl ⟨_,_,_,rfl⟩|skip
    rename_i x;refine gD hw (CU (.code (if x then a else b)::t) (iJ ?_ Jm)) rfl rfl;cases x
    .exact hx'.2
    exact hx'.1.2
   |block id c=>exact gD hw (CU (.code c::.inBlock id::t) (iJ hx (iJ rfl Jm))) rfl rfl
   |loop c=>exact gD hw (CU (.code c::.inLoop c::t) (iJ hx (iJ hx Jm))) rfl rfl
   |exit id=>
    cases he:exitTo id t with
    |none=>
     refine .inl ⟨.stuck "exit, goto: no such block or label" ((Fr fn tmps (.code (.exit id)::t) .run).pos P),lw,#[],?_⟩;show(exitTo id t).elim _ _=_;rw[he];rfl
    |some t'=>
     refine gD hw (CU t' (ye Jm he)) ?_ ?_
     .show(exitTo id t).elim _ _=_;rw[he];rfl
     show(exitTo id (t++kk)).elim _ _=_;rw[yf he];rfl
   |region id aN draw=>
    cases draw with
    |false=>exact gD hw (CU (.inRegion aN (List.range aN.size)::t) (iJ hx Jm)) rfl rfl
    |true=>
     have h0:lw.tape lw.drawn=w.tape w.drawn:=ht 0;refine .inr (.inr (.inr ⟨_,_,_,_,_,_,_,_,U,rfl,?_,CU (.inRegion aN (Region.schedule (P.follows .mixedOrders) aN (lw.tape lw.drawn (.order fn id)))::t) (iJ hx Jm),GU hw⟩));rw[h0];rfl
   |_=>cases hx
  |_=>cases hx
theorem QI{ι:Type}{f f':ι->Sem ak}(hf:∀a,bX P F (At U (VR F U)) U (f a) (f' a))(l:Array ι):bX P F (At U (iV F U)) U (l.mapM f) (l.mapM f'):=by
 rw[oZ,oZ]
 have:∀l:List ι,bX P F (At U (Sw F U)) U (l.mapM f) (l.mapM f'):=by
  intro l;rw[<-List.mapM'_eq_mapM,<-List.mapM'_eq_mapM]
  induction l with
  |nil=>exact .dw .nil
  |cons a l ih=>exact(hf a).dI fun _ _ h1=>ih.dI fun _ _ h2=>.dw (.cons h1 h2)
 exact(this l.toList).dI fun _ _ h=>.dw h.row
theorem KI{v v':ak}(h:VR F U v v'):bX P F (At U (AR U)) U (asAddr v) (asAddr v'):=by
 cases h<;>first|exact bn|exact gF (e:=.nilDeref)|exact .dw ‹_›
theorem Iy{tmps bB:Array ak}(ha:iV F U tmps bB)(fn:Func):bX P F (At U (VR F U)) U (results fn tmps) (results fn bB):=by
 unfold results;refine(QI (fun r=>?_) fn.results).dI fun vs vs' Yz=>?_
 .cases r with
  |tmp t=>exact .dw (ha.getD tR t)
  |cell a t=>exact(KI (ha.getD tR a)).dI fun x y h=>yT h
 have hs:=Yz.size
 by_cases h1:vs.size=1
 .have h2:vs'.size=1:=by omega
  simp only[h1,h2,dif_pos];exact .dw (Yz.at_ 0 _ _ (aQ (by omega)) (aQ (by omega)))
 have h2:¬vs'.size=1:=by omega
 simp only[h1,h2,dif_neg,not_false_eq_true];exact .dw Yz.tuple
theorem Pr(h0:WR F P.globals.size B U lw w){fr fr':bS}{l l':List bS}(h:SR P F U k kd cs fr l fr' l'){v v':ak}{kK w1:ar}{evs:Array gw}{ρ1:Rn}
  (hv:VR F ρ1 v v') (hw:mN F P.globals.size B U lw w ρ1 kK w1 evs) (es:Array gw) :
  Ih P F P.globals.size B U k kd cs lw w (BH es (uu P true fr l none v kK)) (BH evs (uu P main fr' l' none v' w1)):=by
 cases h with
 |base h hi=>
  refine .inl ?_;unfold uu;dsimp only;rw[h.kinds.1,hi];exact⟨_,_,_,rfl⟩
 |@up _ _ c c' r r' h adr adL hr=>
  unfold uu;dsimp only;rw[h.kinds.1,h.kinds.2];have hr':=hr.mono hw.le;have NW:=hr'.top;refine .inr (.inr (.inr ⟨_,_,_,_,_,_,_,_,ρ1,rfl,rfl,hr'.set' (A8 _ _) ?_,hw.more fun e he=>hw.evs e (by simpa using he)⟩));refine ?_;generalize (if r=[] then k else[])=kk at NW ⊢;generalize (if r=[] then kd else CallKind.normal)=J7 at NW ⊢;cases NW with
  |ret _=>cases adL
  |@run fn tmps bB todo ha cY=>
   cases todo with
   |nil=>exact absurd rfl adr
   |cons x t=>
    cases x with
    |inRegion aN is=>
     cases is with
     |nil=>exact .run (todo:=.inRegion aN []::t) ha cY
     |cons i rest=>exact Dx ha cY hv
    |code c=>exact .run (todo:=.code c::t) ha cY
    |inBlock id=>exact .run (todo:=.inBlock id::t) ha cY
    |inLoop c=>exact .run (todo:=.inLoop c::t) ha cY
    |_=>exact absurd (lR cY).1 (by simp[iQ])
theorem Wd(hw:WR F P.globals.size B U lw w)(ht:vV lw w)(hG:P.globals.size<=lw.heap.size)(YX:P.globals.size<=w.heap.size)
  {fn:dX} {tmps bB:Array ak} {todo Pc:List pD} {l l':List bS} {kk:j6} (h:SR P F U k kd cs (Fr fn tmps todo .returning) l (jr fn bB Pc .returning kk) l') (ha:iV F U tmps bB) :
  Ih P F P.globals.size B U k kd cs lw w (unwind P true (Fr fn tmps todo .returning) l none lw) (unwind P main (jr fn bB Pc .returning kk) l' none w):=by
 unfold unwind;dsimp only[Fr,jr];cases hf:P.funcs[fn]? with
 |none=>
  have:=Pr (main:=main) hw h (ha.getD tR 0) (.refl hw) #[];have e:∀s:GStep,BH #[] s=s:=fun s=>by cases s<;>simp[BH]
  rw[e,e] at this;exact this
 |some f=>
  rcases(Iy (P:=P) ha f).runT hw ht hG YX #[] #[] with⟨a,kK,le,b,w1,evs,ρ1,h1,h2,h3,h4⟩|⟨e,kK,le,h1,h2⟩
  .simp only[fj] at h2;simp only[h1,h2];obtain⟨rfl,hv⟩:=h3;exact Pr hw h hv (h4.more fun e he=>h4.evs e (mem_seen he)) _
  simp only[h1];cases e<;>exact .inl ⟨_,_,_,rfl⟩
theorem acw(hF:uN P F)(hw:WR F P.globals.size B U lw w)(ht:vV lw w)(hG:P.globals.size<=lw.heap.size)(YX:P.globals.size<=w.heap.size)
  {fr fr':bS} {l l':List bS} (h:SR P F U k kd cs fr l fr' l') (hk:l=[]->fr.mode=.run->fr.todo=[]->k=[]) (hE:kd≠.early) :
  Ih P F P.globals.size B U k kd cs lw w (fo P true (G fr l) lw) (fo P main (G fr' l') w):=by
 have NW:=h.top;generalize sA:(if l=[] then k else[])=kk at NW;generalize C8:(if l=[] then kd else CallKind.normal)=J7 at NW;cases NW with
 |run ha cY=>
  subst sA;subst C8;exact aeL (main:=main) hF hw ht hG YX h hE ha cY fun h1 h2=>hk h1 rfl h2
 |ret ha=>exact Wd (main:=main) hw ht hG YX h ha
end
structure iP(K:Nat->Prop)(w w1:ar):Prop where
 grow:w.heap.size<=w1.heap.size
 keep:∀c,K c->w1.heap[c]?=w.heap[c]?
theorem iP.refl(K:Nat->Prop)(w:ar):iP K w w:=⟨ax _,fun _ _=>rfl⟩
theorem iP.trans{K:Nat->Prop}{a b c:ar}(h:iP K a b)(h':iP K b c):iP K a c:=⟨aO h.grow h'.grow,fun x hx=>(h'.keep x hx).trans (h.keep x hx)⟩
def own(O:Nat->Prop)(w w':ar):Nat->Prop:=fun c=>O c\/(w.heap.size<=c/\c<w'.heap.size)
structure J4(S O:Nat->Prop)(w w':ar)(es:Array gw):Prop where
 grow:w.heap.size<=w'.heap.size
 keep:∀c,c<w.heap.size->¬O c->w'.heap[c]?=w.heap[c]?
 tape:w'.tape=w.tape
 drawn:w.drawn<=w'.drawn
 os:w'.os=w.os
 out:w'.output=w.output
 evs:∀e∈es,SM (fun c=>S c\/own O w w' c) (own O w w') e
inductive Walk(P:aL)(main:Bool)(S:Nat->Prop)(Stop:(Nat->Prop)->aD->ar->Prop):(Nat->Prop)->aD->ar->Prop
 |stop {O:Nat->Prop} {g:aD} {w:ar}:(∀w1,iP (fun c=>S c\/O c) w w1->Stop O g w1)->Walk P main S Stop O g w
 |step {O:Nat->Prop} {g:aD} {w:ar}:g.status=.running->g.dying=none->
   (∀w1,iP (fun c=>S c\/O c) w w1->∃g2 w2 es,fo P main g w1=.go g2 w2 es/\J4 S O w1 w2 es/\g2.status=.running/\g2.dying=none)->
   (∀w1,iP (fun c=>S c\/O c) w w1->∀g2 w2 es,fo P main g w1=.go g2 w2 es->Walk P main S Stop (own O w1 w2) g2 w2)->Walk P main S Stop O g w
section
variable{P:aL}{main:Bool}{S:Nat->Prop}{Stop Zg:(Nat->Prop)->aD->ar->Prop}{O:Nat->Prop}{g:aD}{w:ar}
theorem Walk.bind(h:Walk P main S Stop O g w)(k:∀O g w,Stop O g w->Walk P main S Zg O g w):Walk P main S Zg O g w:=by
 induction h with
 |@stop O g w h=>exact k _ _ _ (h w (.refl _ _))
 |step a b c d ih=>exact .step a b c ih
theorem Walk.mk{r:g.status=.running}{d:g.dying=none}(h:∀w1,iP (fun c=>S c\/O c) w w1->∃g2 w2 es,fo P main g w1=.go g2 w2 es/\J4 S O w1 w2 es/\g2.status=.running/\g2.dying=none/\Walk P main S Stop (own O w1 w2) g2 w2):Walk P main S Stop O g w:=by
 refine .step r d (fun w1 h1=>?_) fun w1 h1 g2 w2 es e=>?_
 .obtain⟨g2,w2,es,e,hg,hr,hd,_⟩:=h w1 h1;exact⟨g2,w2,es,e,hg,hr,hd⟩
 obtain⟨g3,w3,es3,e3,_,_,_,hw⟩:=h w1 h1;rw[e] at e3;injection e3 with e4 e5 e6
 rw[e4,e5];exact hw
end
section
variable{P:aL}{F:Nat->Bool}{B:Nat->Prop}{U:Rn}{k:List pD}{kd:j6}{cs:List bS}{lw w:ar}{main:Bool}{Stop:aD->ar->Prop}
theorem zw{g g1 g':aD}{kK eG:ar}{es:Array gw}(h:rT P g lw g' eG)(e:fo P true g lw=.go g1 kK es):g'=g1/\eG=kK:=by
 obtain⟨hr,_,⟨aN,hs⟩,_⟩:=h;rw[stepT_solo hr,nv] at hs;have Oi:(#[g]:Array aD)[0]?=some g:=rfl;have e1:=Di (P:=P) (gs:=#[g]) (w:=lw) (sl:=none) (i:=0) Oi e;rw[e1] at hs;injection hs with hs1 _
 injection hs1 with hs3
 have:(#[g].map (woken P g g1 kK)).setIfInBounds 0 g1 = #[g1]:=by simp
 rw[this,<-nv] at hs3;obtain⟨h1,h2⟩:=oC hs3;exact⟨h1.symm,h2.symm⟩
theorem vE{g g':aD}{kK eG:ar}{o:Outcome}{es:Array gw}(h:rT P g lw g' eG)(e:fo P true g lw=.ended o kK es):False:=by
 obtain⟨hr,_,⟨aN,hs⟩,_⟩:=h;rw[stepT_solo hr,nv] at hs;have Oi:(#[g]:Array aD)[0]?=some g:=rfl;have e1:=runT_many_ended (P:=P) (gs:=#[g]) (w:=lw) (sl:=none) (i:=0) Oi e;rw[e1] at hs;injection hs with hs1 _
 cases hs1
theorem NL{g g1 g':aD}{kK eG:ar}{ch v:ak}{es:Array gw}(h:rT P g lw g' eG)(e:fo P true g lw=.comm g1 #[{ chan:=ch,send:=some v,zero:=.tuple #[] }] true .send kK es)
  (hn:∀(b:Nat) (o:Obj),kK.heap[b]?=some o->o.isChan=false):False:=by
 obtain⟨hr,_,⟨aN,hs⟩,hr',_⟩:=h;rw[stepT_solo hr,nv] at hs;have Oi:(#[g]:Array aD)[0]?=some g:=rfl;have e1:=runT_crowd_comm (P:=P) (gs:=#[g]) (w:=lw) (sl:=none) (i:=0) Oi e;rw[e1] at hs;injection hs with hs1 _
 have lu:∀c:mU,(c.chan=.chan none\/(match c.chan with
   |.chan none=>false
   |.chan (some r)=>!(kK.heap[r]? matches some (.chan ..))
   |_=>true)=true):=by
  intro c;cases hc:c.chan with
  |chan r=>
   cases r with
   |none=>exact .inl rfl
   |some r=>
    right;dsimp only;cases hh:kK.heap[r]? with
    |none=>rfl
    |some o=>
     have:=hn r o hh;cases o<;>first|rfl|cases this
  |_=>exact .inr rfl
 unfold communicate at hs1;rcases lu { chan:=ch,send:=some v,zero:=.tuple #[] } with hb|hb
 .dsimp only at hb;subst hb;have hw:∀gs:Array aD,ways kK gs { chan:=.chan none,send:=some v,zero:=.tuple #[] }=[]:=fun gs=>rfl;simp[hw,waitingAt,timerAhead] at hs1;have h1:=congrArg Machine.gs hs1;have h2:(#[g].setIfInBounds 0 { g1 with status:=.blocked,offers:=some (#[{ chan:=.chan none,send:=some v,zero:=.tuple #[] }],.send) }:Array aD) = #[g']:=by simpa [solo,rj] using h1
  have h3:g'={ g1 with status:=.blocked,offers:=some (#[{ chan:=.chan none,send:=some v,zero:=.tuple #[] }],.send) }:=by
   have:=congrArg (fun a:Array aD=>a[0]?) h2;simpa using this.symm
  rw[h3] at hr';cases hr'
 dsimp only at hb;simp at hs1;rw[if_pos] at hs1
 .cases hs1
 exact hb
theorem S1(hS:∀g W,Stop g W->¬OW g){g:aD}{W:ar}(h:Bar P Stop g W):¬OW g:=by
 induction h with
 |stop h=>exact hS _ _ h
 |@step g W live down ih=>
  intro hs;obtain⟨g',W',hl⟩:=live W.tape fun _ _=>rfl;rcases Qu (P:=P) (lw:=dB W W.tape W.drawn) hs hl.2.1 hl.1 with⟨o,w1,es,e⟩|⟨g1,w1,es,e,hs1⟩
  .exact vE hl e
  obtain⟨rfl,rfl⟩:=zw hl e;exact ih W.tape (fun _ _=>rfl) _ _ hl hs1
theorem Sr{fn:dX}{tmps:Array ak}{todo:List pD}(hi:P.inits.idxOf? fn=none):∃o w1 es,fo P true (G (Fr fn tmps todo .returning) []) lw=.ended o w1 es:=by
 have e:fo P true (G (Fr fn tmps todo .returning) []) lw=unwind P true (Fr fn tmps todo .returning) [] none lw:=rfl;rw[e]
 have hd:∀v w,uu P true (Fr fn tmps todo .returning) [] none v w=.ended (.done v) w:=by
  intro v w;unfold uu;simp only[Fr,jr,hi];rfl
 unfold unwind;dsimp only[Fr,jr];cases P.funcs[fn]? with
 |none=>exact⟨_,_,_,hd _ _⟩
 |some f=>
  dsimp only;generalize (results f tmps).runT P lw #[]=r;obtain⟨r,es⟩:=r;cases r with
  |ok v w=>
   have:=hd v w;simp only[Fr,jr] at this;simp only[this];exact⟨_,_,_,rfl⟩
  |halt e w=>cases e<;>exact⟨_,_,_,rfl⟩
theorem WR.rely(h:WR F P.globals.size B U lw w){w1:ar}(hr:iP (fun c=>(∃b,B b/\U b=some c)\/U.owns B c) w w1):WR F P.globals.size B U lw w1:=by
 refine⟨h.inj,h.low,h.base,fun b c hb=>?_,h.I5⟩;obtain⟨o,o',h1,h2,h3,h4⟩:=h.at_ b c hb;refine⟨o,o',h1,?_,h3,h4⟩;rw[hr.keep c ?_,h2];rcases Classical.em (B b) with hl|hg
 .exact .inl ⟨b,hl,hb⟩
 exact .inr ⟨b,hg,hb⟩
theorem mN.owns{ρ1:Rn}{kK w1:ar}{es:Array gw}(h0:WR F P.globals.size B U lw w)(h:mN F P.globals.size B U lw w ρ1 kK w1 es):ρ1.owns B=own (U.owns B) w w1:=by
 funext c
 refine propext ⟨?_,?_⟩
 .rintro⟨b,hb,he⟩;rcases h.new b c he with h1|⟨_,h2⟩
  .exact .inl ⟨b,hb,h1⟩
  obtain⟨_,_,_,hc,_⟩:=h.wr.at_ b c he;exact .inr ⟨h2,eP hc⟩
 rintro(⟨b,hb,he⟩|⟨h1,h2⟩)
 .exact⟨b,hb,h.le _ _ he⟩
 obtain⟨b,he⟩:=h.fresh c h1 h2;rcases h.new b c he with h3|⟨h3,_⟩
 .obtain⟨_,_,_,hc,_⟩:=h0.at_ b c h3;have:=eP hc;omega
 exact⟨b,fun hb=>by have:=h0.base b hb;omega,he⟩
theorem mN.shared{ρ1:Rn}{kK w1:ar}{es:Array gw}(h0:WR F P.globals.size B U lw w)(h:mN F P.globals.size B U lw w ρ1 kK w1 es)(c:Nat):(∃b,B b/\ρ1 b=some c)↔∃b,B b/\U b=some c:=by
 constructor
 .rintro⟨b,hb,he⟩;rcases h.new b c he with h1|⟨h1,_⟩
  .exact⟨b,hb,h1⟩
  have:=h0.base b hb;omega
 rintro⟨b,hb,he⟩;exact⟨b,hb,h.le _ _ he⟩
structure afu(P:aL)(F:Nat->Bool)(B:Nat->Prop)(k:List pD)(kd:j6)(cs:List bS)(Stop:aD->ar->Prop)(lw0:ar)(ρ0:Rn)(O:Nat->Prop)(g':aD)(w':ar)(fr:bS)(l:List bS)(lw:ar)(U:Rn)(fr':bS)(l':List bS):Prop where
 g:g'=G fr' l'
 stop:Stop (G fr l) lw
 sr:SR P F U k kd cs fr l fr' l'
 wr:WR F P.globals.size B U lw w'
 vL:P.globals.size<=w'.heap.size
 own:O=U.owns B
 shared:∀c,(∃b,B b/\U b=some c)↔∃b,B b/\ρ0 b=some c
 le:Rn.le ρ0 U
 grow:lw0.heap.size<=lw.heap.size
 ok:dC lw
theorem Km(T:Quiet P)(hF:uN P F)(hS:∀g W,Stop g W->¬OW g)(hE:kd≠.early)(hk:k=[]\/∀g W,Stop g W->g.frame.mode=.run){S:Nat->Prop} :
  ∀ {g:aD} {lw:ar},Bar P Stop g lw->Av g->dC lw->P.globals.size<=lw.heap.size->∀ {fr:bS} {l:List bS} {U:Rn} {fr':bS} {l':List bS} {w:ar},g=G fr l->SR P F U k kd cs fr l fr' l'->WR F P.globals.size B U lw w->P.globals.size<=w.heap.size->
   (∀c,S c↔∃b,B b/\U b=some c)->
   Walk P main S (fun O g' w'=>∃Gm l1 kK ρ1 wT Xf,afu P F B k kd cs Stop lw U O g' w' Gm l1 kK ρ1 wT Xf) (U.owns B) (G fr' l') w:=by
 intro g lw h
 induction h with
 |@stop g lw h=>
  rintro Xy cY hG fr l U fr' l' w rfl Z3 hw Cq XH;have eK:(fun c=>S c\/U.owns B c)=fun c=>(∃b,B b/\U b=some c)\/U.owns B c:=by funext c;rw[XH c]
  refine .stop fun w1 hr=>?_;rw[eK] at hr;exact⟨fr,l,lw,U,fr',l',rfl,h,Z3,hw.rely hr,aO Cq hr.grow,rfl,fun c=>Iff.rfl,Rn.le_refl _,ax _,cY⟩
 |@step g lw live down ih=>
  rintro Xy cY hG fr l U fr' l' w rfl Z3 hw Cq XH;have eK:(fun c=>S c\/U.owns B c)=fun c=>(∃b,B b/\U b=some c)\/U.owns B c:=by funext c;rw[XH c]
  refine Walk.mk (r:=rfl) (d:=rfl) fun w1 hr=>?_;have hr0:=hr;rw[eK] at hr;have hw1:=hw.rely hr;have ad2:=aO Cq hr.grow;let I:Nat->Question->Nat:=fun p=>if p<lw.drawn then lw.tape p else w1.tape (w1.drawn+(p-lw.drawn))
  have N6:Ext lw I:=fun i hi=>by simp only[I,if_pos hi]
  have ht:vV (dB lw I lw.drawn) w1:=fun i=>by simp only[zo,qh,I,if_neg (show ¬lw.drawn+i<lw.drawn by omega),sF]
  obtain⟨g1,kK,hl⟩:=live I N6;obtain⟨ad1,C6,_⟩:=rB T Xy (lw:=dB lw I lw.drawn) cY hl
  have qZ:l=[]->fr.mode=.run->fr.todo=[]->k=[]:=by
   rintro rfl hm htd;rcases hk with hk|hk
   .exact hk
   .exfalso;cases Z3 with
    |base hfr hi=>
     cases hfr with
     |ret _=>cases hm
     |@run fn tmps bB todo ha cY=>
      dsimp only[Fr,jr] at htd;subst htd;have e:fo P true (G (Fr fn tmps [] .run) []) (dB lw I lw.drawn)=.go (G (Fr fn tmps [] .returning) []) (dB lw I lw.drawn) #[]:=rfl;obtain⟨rfl,rfl⟩:=zw hl e;have ahT:=down I N6 _ _ hl;cases ahT with
      |stop h=>exact absurd (hk _ _ h) (by simp[G,Fr,jr])
      |step adh _=>
       obtain⟨g2,w2,hl2⟩:=adh _ fun _ _=>rfl;obtain⟨o,w3,es,e3⟩:=Sr (P:=P) (lw:=dB (dB lw I lw.drawn) (dB lw I lw.drawn).tape (dB lw I lw.drawn).drawn) (fn:=fn) (tmps:=tmps) (todo:=[]) hi;exact vE hl2 e3
  have ZW:WR F P.globals.size B U (dB lw I lw.drawn) w1:=hw1.tape I w1.tape lw.drawn w1.drawn;rcases acw (main:=main) hF ZW ht hG ad2 Z3 qZ hE with⟨o,ZO,es,e⟩|⟨g2,ZO,es,e,hs⟩|⟨g2,ch,v,ZO,es,e,hn⟩|⟨Gm,l1,ZO,es,wT,Xf,w2,evs,ρ1,e,e',agX,rE⟩
  .exact(vE hl e).elim
  .obtain⟨rfl,rfl⟩:=zw hl e;exact absurd hs (S1 hS (down I N6 _ _ hl))
  .exact(NL hl e hn).elim
  obtain⟨rfl,rfl⟩:=zw hl e;have hown:=rE.owns ZW;have YD:=rE.shared ZW;refine⟨_,_,_,e',⟨rE.grow,rE.keep,rE.tape,?_,rE.os,rE.out,fun x hx=>?_⟩,rfl,rfl,?_⟩
  .obtain⟨k1,_,h2⟩:=rE.draw;omega
  .refine(rE.evs x hx).mono (fun c hc=>?_) fun c hc=>by rw[hown] at hc;exact hc
   obtain⟨b,hb⟩:=hc;rcases Classical.em (B b) with hlt|hge
   .exact .inl ((XH c).2 ((YD c).1 ⟨b,hlt,hb⟩))
   right;rw[<-hown];exact⟨b,hge,hb⟩
  rw[<-hown];refine(ih I N6 _ _ hl ad1 C6 (aO hG rE.Hm) rfl agX rE.wr (aO ad2 rE.grow) fun c=>(XH c).trans (YD c).symm).bind fun O g' w' hE=>?_;obtain⟨a1,a2,a3,a4,a5,a6,hE⟩:=hE
  exact .stop fun w3 h3=>⟨a1,a2,a3,a4,a5,a6,⟨hE.g,hE.stop,hE.sr,hE.wr.rely (by
   have:(fun c=>S c\/O c)=fun c=>(∃b,B b/\a4 b=some c)\/a4.owns B c:=by
    funext c;rw[XH c,hE.own,hE.shared c,YD c]
   rwa [this] at h3),aO hE.vL h3.grow,hE.own,fun c=>(hE.shared c).trans (YD c),Rn.le_trans rE.le hE.le,aO rE.Hm hE.grow,hE.ok⟩⟩
end
section
variable{P:aL}{α β:Type}
end
section
variable{P:aL}{F:Nat->Bool}{B:Nat->Prop}{U ρ1:Rn}{lw kK w w1:ar}{main:Bool}
structure Kn(P:aL)(F:Nat->Bool)(B:Nat->Prop)(S:Nat->Prop)(lw0:ar)(ρ0:Rn)(O:Nat->Prop)(w':ar)(lw:ar)(U:Rn):Prop where
 wr:WR F P.globals.size B U lw w'
 vL:P.globals.size<=w'.heap.size
 own:O=U.owns B
 shared:∀c,S c↔∃b,B b/\U b=some c
 le:Rn.le ρ0 U
 grow:lw0.heap.size<=lw.heap.size
 ok:dC lw
theorem Kn.rely{S:Nat->Prop}{lw0:ar}{ρ0:Rn}{O:Nat->Prop}{w' w2:ar}(h:Kn P F B S lw0 ρ0 O w' lw U)(hr:iP (fun c=>S c\/O c) w' w2):Kn P F B S lw0 ρ0 O w2 lw U:=
 ⟨h.wr.rely (by
  have e:(fun c=>S c\/O c)=fun c=>(∃b,B b/\U b=some c)\/U.owns B c:=by funext c;rw[h.shared c,h.own]
  rwa [e] at hr),aO h.vL hr.grow,h.own,h.shared,h.le,h.grow,h.ok⟩
theorem DK(T:Quiet P)(hF:uN P F)(hG:P.globals.size<=lw.heap.size){fn:dX}{kd:j6}(hE:kd≠.early)(hi:P.inits.idxOf? fn=none){c:Code}(hc:iG P F c=true)(hc':dW c=true){tmps bB:Array ak}(ha:iV F U tmps bB)
  (hw:WR F P.globals.size B U lw w) (Cq:P.globals.size<=w.heap.size) (cY:dC lw) {Q:Act->ar->Prop} (hQ:∀a W' I d,Q a (dB W' I d)->Q a W')
  (h:∀I d,c.wp P (fun e a W'=>e=.normal/\Q a W') ⟨tmps,[]⟩ (dB lw I d)) {S:Nat->Prop} (XH:∀c,S c↔∃b,B b/\U b=some c) (k:List pD) (cs:List bS) :
  Walk P main S (fun O g' w'=>∃nG kX kK ρ1,g'=G (jr fn kX k .run kd) cs/\iV F ρ1 nG kX/\Q ⟨nG,[]⟩ kK/\Kn P F B S lw U O w' kK ρ1) (U.owns B) (G (jr fn bB (.code c::k) .run kd) cs) w:=by
 have hb:Bar P (fun g W=>∃a1,g=G ((Fr fn #[] [] .run).at a1 []) []/\Q a1 W) (G (Fr fn tmps [.code c] .run) []) lw:=by
  refine CP T ?_ ?_ ⟨⟨by simpa [G,Fr,jr,iR] using hc',rfl⟩,by simp[G],.inl rfl⟩ cY rfl rfl fun I _=>?_
  .rintro g W I d ⟨a1,h1,h2⟩;exact⟨a1,h1,hQ _ _ _ _ h2⟩
  .rintro g W ⟨a1,rfl,_⟩;exact⟨rfl,rfl⟩
  obtain⟨e,a',w',⟨rfl,hq⟩,n,hn⟩:=h I lw.drawn (Fr fn #[] [] .run) [] [];exact⟨n,G ((Fr fn #[] [] .run).at a' []) [],w',hn,a',rfl,hq⟩
 have hns:∀g W,(∃a1,g=G ((Fr fn #[] [] .run).at a1 []) []/\Q a1 W)->¬OW g:=by
  rintro g W ⟨a1,rfl,_⟩ (hs|hs|⟨ch,hs,_⟩)
  .exact hs rfl
  .exact hs rfl
  cases hs
 have agY:SR P F U k kd cs (Fr fn tmps [.code c] .run) [] (jr fn bB (.code c::k) .run kd) cs:=.base (.run (todo:=[.code c]) ha (by simpa [iQ] using hc)) hi;refine(Km (main:=main) T hF hns hE (.inr ?_) hb ⟨⟨by simpa [G,Fr,jr,iR] using hc',rfl⟩,by simp[G],.inl rfl⟩ cY hG rfl agY hw Cq XH).bind fun O g' w' hE=>?_
 .rintro g W ⟨a1,rfl,_⟩;rfl
 obtain⟨Gm,l1,kK,ρ1,wT,Xf,hE⟩:=hE;obtain⟨a1,hg,hq⟩:=hE.stop
 have hfl:Gm=(Fr fn #[] [] .run).at a1 []/\l1=[]:=by
  have h1:(G Gm l1).frame=(G ((Fr fn #[] [] .run).at a1 []) []).frame:=by rw[hg]
  have h2:(G Gm l1).callers=(G ((Fr fn #[] [] .run).at a1 []) []).callers:=by rw[hg]
  exact⟨h1,h2⟩
 obtain⟨h1,rfl⟩:=hfl;have ahn:Kn P F B S lw U O w' kK ρ1:=⟨hE.wr,hE.vL,hE.own,fun c=>(XH c).trans (hE.shared c).symm,hE.le,hE.grow,hE.ok⟩
 have Z3:=hE.sr;have EM:=hE.g;generalize ahI:([]:List bS)=l1 at Z3;cases Z3 with
 |up _ _ _ _=>cases ahI
 |base hfr hin=>
  cases hfr with
  |@ret fn1 nG kX Yp agr SG=>cases congrArg Frame.mode h1
  |@run fn1 nG kX Yp SG hto=>
   have e1:fn1=fn:=congrArg Frame.fn h1;have e2:nG=a1.tmps:=congrArg Frame.tmps h1;have e3:Yp=[]:=congrArg Frame.todo h1;have e4:([]:List Deferred)=a1.defers:=congrArg Frame.defers h1;subst e1;subst e3;refine .stop fun w2 hr=>⟨nG,kX,kK,ρ1,EM,SG,?_,ahn.rely hr⟩
   rw[e2,e4];exact hq
end
def C0:Loc->Option Nat
 |.cell a=>some a.block
 |.obj r=>some r
 |_=>none
structure PT(A:Nat->Prop)(S O:Nat->Nat->Prop)(B:Nat)(t:Trace):Prop where
 clean:∀said,¬Race said t
 known:∀i a c,touchAt t i=some a->C0 a.loc=some c->Knows t 0 i\/∃g,A g/\t.g? i=some g/\(O g c\/(a.write=false/\S g c))
 wk:∀g,A g->∀i a c,touchAt t i=some a->C0 a.loc=some c->S g c->a.write=true->Knows t g i
 ow:∀g,A g->∀i a c,touchAt t i=some a->C0 a.loc=some c->O g c->t.g? i=some g
 over:∀i g,t.g? i=some g->g≠0->t.counts i->(∃j,t.g? j=some 0/\HappensBefore t i j)\/A g
 hears:Deaf t 0=0
 vJ:∀g,A g->Deaf t g=0
 seen:∀op∈t,op.act.low B
 pos:∀g,A g->g≠0
section
variable{A A':Nat->Prop}{S O S' O':Nat->Nat->Prop}{B B':Nat}{t u:Trace}
theorem EC{l:Loc}:l.isMemory=true↔∃c,C0 l=some c:=by
 cases l<;>simp[Loc.isMemory,C0]
theorem Ld{l:Loc}{c:Nat}(h:C0 l=some c)(hl:l.low B):c<B:=by
 cases l<;>simp only[C0,gQ,reduceCtorEq] at h
 .subst h;exact hl
 subst h;exact hl
theorem Qs{op:MemOp}{x:Touch}{c:Nat}(h:op.act.touch?=some x)(hc:C0 x.loc=some c)(hl:op.act.low B):c<B:=by
 obtain⟨g,fn,pos,act⟩:=op;cases act with
 |access e=>
  simp only[MemAct.touch?,gQ] at h;subst h;exact Ld hc hl
 |mark m=>
  cases m<;>simp only[MemAct.touch?,gQ,reduceCtorEq] at h<;>(subst h;exact Ld hc hl)
 |_=>cases h
theorem PT.WN(h:ML B t):PT (fun _=>False) S O B t:=by
 refine⟨h.clean,fun i a c ha hc=>.inl ?_,fun g hg=>hg.elim,fun g hg=>hg.elim,fun i g h1 h2 h3=>.inl (h.over i g h1 h2 h3),h.hears,fun g hg=>hg.elim,h.seen,fun g hg=>hg.elim⟩;rcases h.known i a ha (EC.2 ⟨c,hc⟩) with hk|⟨hs,_⟩
 .exact hk
 exact hs.elim
theorem PT.past(h:PT A S O B t)(hA:∀g,¬A g):ML B t:=by
 refine⟨h.clean,fun i a ha hm=>.inl ?_,fun i g h1 h2 h3=>(h.over i g h1 h2 h3).resolve_right (hA g),h.hears,h.seen⟩;obtain⟨c,hc⟩:=EC.1 hm;rcases h.known i a c ha hc with hk|⟨g,hg,_⟩
 .exact hk
 exact(hA g hg).elim
theorem PT.lt(h:PT A S O B t){i:Nat}{a:Touch}{c:Nat}(ha:touchAt t i=some a)(hc:C0 a.loc=some c):c<B:=by
 obtain⟨x,hx,xk⟩:=touch_of ha;exact Qs xk hc (h.seen x (mem_of_getElem? hx))
theorem g?_app{i:Nat}{g:Nat}(h:t.g? i=some g):(t++u).g? i=some g:=by
 obtain⟨x,hx,hg⟩:=eO.1 h;rw[g?_old (lt_size_of_getElem? hx)];exact h
def J0(R W:Nat->Prop)(op:MemOp):Prop:=∀x,op.act.touch?=some x->x.kind=.plain/\∃c,C0 x.loc=some c/\R c/\(x.write=true->W c)
def n9(op:MemOp):Prop:=op.act≠.mark .disable/\op.act≠.mark .enable
theorem iv(t:Trace)(g:Nat)(u:Trace)(hu:∀op∈u,n9 op):Deaf (t++u) g=Deaf t g:=by
 have key:∀(l:List MemOp) (d:Nat),(∀op∈l,n9 op)->l.foldl (deafStep g) d=d:=by
  intro l
  induction l with
  |nil=>intro d _;rfl
  |cons y l ih=>
   intro d hl;have hy:=hl y (by simp);rw[List.foldl_cons]
   have:deafStep g d y=d:=by
    unfold deafStep;split
    .rename_i e;exact absurd e hy.1
    .rename_i e;exact absurd e hy.2
    rfl
   rw[this];exact ih d fun op hop=>hl op (by simp[hop])
 have:=Deaf_append t g u.toList;simp only[Array.toArray_toList] at this;rw[this];exact key _ _ fun op hop=>hu op (by simpa using hop)
theorem rJ{i:Nat}(hi:i<t.size):(t++u).counts i->t.counts i:=by
 rintro⟨x,hx,hm,hk⟩;refine⟨x,?_,hm,?_⟩
 .rw[act?_old hi] at hx;exact hx
 exact hk.imp id fun h=>(heard_old hi).1 h
theorem zV{i:Nat}(h:t.counts i):∃x c,touchAt t i=some x/\C0 x.loc=some c:=by
 obtain⟨x,hx,hm,_⟩:=h;obtain⟨c,hc⟩:=EC.1 hm;exact⟨x,c,hx,hc⟩
theorem PT.app0(h:PT A S O B t){R W:Nat->Prop}(hB:B<=B')(hu:∀op∈u,op.g=0/\J0 R W op/\n9 op/\op.act.low B')(hR:∀g,A g->∀c,R c->¬O g c)(hW:∀g,A g->∀c,W c->¬S g c):PT A S O B' (t++u):=by
 refine⟨fun said=>noRace_append (h.clean said) (fun op hop=>(hu op hop).1) fun i a ha op hop b hb hc=>?_,fun i a c ha hc=>?_,fun g hg i a c ha hc hs hw=>?_,fun g hg i a c ha hc ho=>?_,fun i g h1 h2 h3=>?_,?_,fun g hg=>?_,?_,h.pos⟩
 .obtain⟨_,c,YU,hr,hwr⟩:=(hu op hop).2.1 b hb;rcases h.known i a c ha (hc.1▸YU) with hk|⟨g,hg,_,Lt⟩
  .exact hk
  rcases Lt with ho|⟨hw,hs⟩
  .exact absurd ho (hR g hg c hr)
  have uS:b.write=true:=by
   rcases hc.2.2.1 with h1|h1
   .rw[hw] at h1;cases h1
   exact h1
  exact absurd hs (hW g hg c (hwr uS))
 .obtain⟨x,hx,xk⟩:=touch_of ha;rcases ik hx with⟨hi,hx'⟩|⟨_,Hp⟩
  .rcases h.known i a c (by rw[touchAt_of hx'];exact xk) hc with hk|⟨g,hg,N4,Lt⟩
   .exact .inl (hk.app u)
   exact .inr ⟨g,hg,g?_app N4,Lt⟩
  have:=knows_own hx;rw[(hu x Hp).1] at this;exact .inl this
 .obtain⟨x,hx,xk⟩:=touch_of ha;rcases ik hx with⟨hi,hx'⟩|⟨_,Hp⟩
  .exact(h.wk g hg i a c (by rw[touchAt_of hx'];exact xk) hc hs hw).app u
  obtain⟨_,c',hc',_,hwr⟩:=(hu x Hp).2.1 a xk;rw[hc] at hc';cases hc';exact absurd hs (hW g hg c (hwr hw))
 .obtain⟨x,hx,xk⟩:=touch_of ha;rcases ik hx with⟨hi,hx'⟩|⟨_,Hp⟩
  .exact g?_app (h.ow g hg i a c (by rw[touchAt_of hx'];exact xk) hc ho)
  obtain⟨_,c',hc',hr,_⟩:=(hu x Hp).2.1 a xk;rw[hc] at hc';cases hc';exact absurd ho (hR g hg c hr)
 .obtain⟨x,hx,Jk⟩:=eO.1 h1;rcases ik hx with⟨hi,hx'⟩|⟨_,Hp⟩
  .rcases h.over i g (by rw[<-g?_old (u:=u) hi];exact h1) h2 (rJ hi h3) with⟨j,hj,hb⟩|hA
   .exact .inl ⟨j,g?_app hj,hb_app u hb⟩
   exact .inr hA
  rw[(hu x Hp).1] at Jk;exact absurd Jk.symm h2
 .rw[iv _ _ _ fun op hop=>(hu op hop).2.2.1];exact h.hears
 .rw[iv _ _ _ fun op hop=>(hu op hop).2.2.1];exact h.vJ g hg
 exact seen_app (fun op hop=>MemAct.low_mono hB (h.seen op hop)) fun op hop=>(hu op hop).2.2.2
theorem PT.appW(h:PT A S O B t){k:Nat}(hk:A k){W:Nat->Prop}(hB:B<=B')(hu:∀op∈u,op.g=k/\J0 (fun c=>S k c\/W c) W op/\n9 op/\op.act.low B')
  (hW:∀c,W c->O k c\/B<=c) (hO:∀c,O k c->W c) (sA:∀c,W c->¬S k c) (hg:∀g,A g->g≠k->∀c,W c->¬S g c/\¬O g c) (hs:∀g,A g->g≠k->∀c,S k c->¬O g c) :
  PT A S (fun g=>if g=k then W else O g) B' (t++u):=by
 refine⟨fun said=>noRace_append (h.clean said) (fun op hop=>(hu op hop).1) fun i a ha op hop b hb hc=>?_,fun i a c ha hc=>?_,fun g N5 i a c ha hc hs' hw=>?_,fun g N5 i a c ha hc ho=>?_,fun i g h1 h2 h3=>?_,?_,fun g N5=>?_,?_,h.pos⟩
 .obtain⟨_,c,YU,hr,hwr⟩:=(hu op hop).2.1 b hb;have hac:C0 a.loc=some c:=hc.1▸YU;have hlt:=h.lt ha hac
  have own:O k c->Knows t k i:=fun ho=>by
   have:=h.ow k hk i a c ha hac ho;obtain⟨x,hx,Jk⟩:=eO.1 this;have:=knows_own hx;rwa [Jk] at this
  rcases hr with hr|hr
  .rcases hc.2.2.1 with h1|h1
   .exact h.wk k hk i a c ha hac hr h1
   exact absurd hr (sA c (hwr h1))
  rcases hW c hr with ho|hge
  .exact own ho
  omega
 .obtain⟨x,hx,xk⟩:=touch_of ha;rcases ik hx with⟨hi,hx'⟩|⟨_,Hp⟩
  .rcases h.known i a c (by rw[touchAt_of hx'];exact xk) hc with qG|⟨g,N5,N4,Lt⟩
   .exact .inl (qG.app u)
   refine .inr ⟨g,N5,g?_app N4,Lt.imp (fun ho=>?_) id⟩
   by_cases e:g=k
   .subst e;simp only[if_true];exact hO c ho
   simp only[e,if_false];exact ho
  obtain⟨_,c',hc',hr,hwr⟩:=(hu x Hp).2.1 a xk;rw[hc] at hc';cases hc';refine .inr ⟨k,hk,by simp only[Trace.g?,hx,dH];rw[(hu x Hp).1],?_⟩;simp only[if_true];rcases hr with hr|hr
  .cases hw:a.write with
   |false=>exact .inr ⟨rfl,hr⟩
   |true=>exact .inl (hwr hw)
  exact .inl hr
 .obtain⟨x,hx,xk⟩:=touch_of ha;rcases ik hx with⟨hi,hx'⟩|⟨_,Hp⟩
  .exact(h.wk g N5 i a c (by rw[touchAt_of hx'];exact xk) hc hs' hw).app u
  obtain⟨_,c',hc',_,hwr⟩:=(hu x Hp).2.1 a xk;rw[hc] at hc';cases hc'
  by_cases e:g=k
  .subst e;exact absurd hs' (sA c (hwr hw))
  exact absurd hs' (hg g N5 e c (hwr hw)).1
 .obtain⟨x,hx,xk⟩:=touch_of ha
  by_cases e:g=k
  .subst e;simp only[if_true] at ho;rcases ik hx with⟨hi,hx'⟩|⟨_,Hp⟩
   .have ha':touchAt t i=some a:=by rw[touchAt_of hx'];exact xk
    rcases hW c ho with ho'|hge
    .exact g?_app (h.ow g N5 i a c ha' hc ho')
    have:=h.lt ha' hc;omega
   simp only[Trace.g?,hx,dH];rw[(hu x Hp).1]
  simp only[e,if_false] at ho;rcases ik hx with⟨hi,hx'⟩|⟨_,Hp⟩
  .exact g?_app (h.ow g N5 i a c (by rw[touchAt_of hx'];exact xk) hc ho)
  obtain⟨_,c',hc',hr,_⟩:=(hu x Hp).2.1 a xk;rw[hc] at hc';cases hc';rcases hr with hr|hr
  .exact absurd ho (hs g N5 e c hr)
  exact absurd ho (hg g N5 e c hr).2
 .obtain⟨x,hx,Jk⟩:=eO.1 h1;rcases ik hx with⟨hi,hx'⟩|⟨_,Hp⟩
  .rcases h.over i g (by rw[<-g?_old (u:=u) hi];exact h1) h2 (rJ hi h3) with⟨j,hj,hb⟩|hA
   .exact .inl ⟨j,g?_app hj,hb_app u hb⟩
   exact .inr hA
  rw[(hu x Hp).1] at Jk;exact .inr (Jk▸hk)
 .rw[iv _ _ _ fun op hop=>(hu op hop).2.2.1];exact h.hears
 .rw[iv _ _ _ fun op hop=>(hu op hop).2.2.1];exact h.vJ g N5
 exact seen_app (fun op hop=>MemAct.low_mono hB (h.seen op hop)) fun op hop=>(hu op hop).2.2.2
theorem fA(hn:∀op∈u,op.act.touch?=none){i:Nat}{a:Touch}(h:touchAt (t++u) i=some a):i<t.size/\touchAt t i=some a:=by
 obtain⟨x,hx,xk⟩:=touch_of h;rcases ik hx with⟨hi,hx'⟩|⟨_,Hp⟩
 .exact⟨hi,by rw[touchAt_of hx'];exact xk⟩
 rw[hn x Hp] at xk;cases xk
theorem Ck(h:∀said,¬Race said t)(hn:∀op∈u,op.act.touch?=none)(said:Bool):¬Race said (t++u):=by
 rintro⟨i,j,Uk,⟨a,b,ha,hb,hc⟩,n1,n2⟩;obtain⟨hi,ha'⟩:=fA hn ha;obtain⟨hj,hb'⟩:=fA hn hb;exact h said ⟨i,j,Uk,⟨a,b,ha',hb',hc⟩,fun e=>n1 (hb_app u e),fun e=>n2 (hb_app u e)⟩
theorem PT.appMute(h:PT A S O B t)(hB:B<=B')(hn:∀op∈u,op.act.touch?=none/\n9 op/\op.act.low B')(hA:∀g,A' g->A g)(hK:∀g,A g->¬A' g->∀i,Knows t g i->Knows (t++u) 0 i/\∃j,(t++u).g? j=some 0/\HappensBefore (t++u) i j):PT A' S O B' (t++u):=by
 have hn':=fun op hop=>(hn op hop).1;refine⟨Ck h.clean hn',fun i a c ha hc=>?_,fun g hg i a c ha hc hs hw=>?_,fun g hg i a c ha hc ho=>?_,fun i g h1 h2 h3=>?_,?_,fun g hg=>?_,?_,fun g hg=>h.pos g (hA g hg)⟩
 .obtain⟨hi,ha'⟩:=fA hn' ha;rcases h.known i a c ha' hc with hk|⟨g,hg,N4,Lt⟩
  .exact .inl (hk.app u)
  by_cases FP:A' g
  .exact .inr ⟨g,FP,g?_app N4,Lt⟩
  obtain⟨x,hx,Jk⟩:=eO.1 N4;have hkn:=knows_own hx;rw[Jk] at hkn;exact .inl (hK g hg FP i hkn).1
 .obtain⟨hi,ha'⟩:=fA hn' ha;exact(h.wk g (hA g hg) i a c ha' hc hs hw).app u
 .obtain⟨hi,ha'⟩:=fA hn' ha;exact g?_app (h.ow g (hA g hg) i a c ha' hc ho)
 .obtain⟨x,c,hx,_⟩:=zV h3;obtain⟨hi,_⟩:=fA hn' hx;have N4:t.g? i=some g:=by rw[<-g?_old (u:=u) hi];exact h1
  rcases h.over i g N4 h2 (rJ hi h3) with⟨j,hj,hb⟩|N5
  .exact .inl ⟨j,g?_app hj,hb_app u hb⟩
  by_cases FP:A' g
  .exact .inr FP
  obtain⟨x,hx,Jk⟩:=eO.1 N4;have hkn:=knows_own hx;rw[Jk] at hkn;exact .inl (hK g N5 FP i hkn).2
 .rw[iv _ _ _ fun op hop=>(hn op hop).2.1];exact h.hears
 .rw[iv _ _ _ fun op hop=>(hn op hop).2.1];exact h.vJ g (hA g hg)
 exact seen_app (fun op hop=>MemAct.low_mono hB (h.seen op hop)) fun op hop=>(hn op hop).2.2
end
section
variable{A A':Nat->Prop}{S O S' O':Nat->Nat->Prop}{B B':Nat}{t u:Trace}
theorem U6{g:Nat}(hu:∀op∈u,n9 op):∀m,m<=u.size->(t++u).deaf g (t.size+m)=Deaf t g:=by
 intro m
 induction m with
 |zero=>intro _;exact deaf_old (ax _)
 |succ m ih=>
  intro hm
  have aar:(t++u)[t.size+m]?=some u[m]:=by
   rw[Array.getElem?_append_right (by omega),sF,aQ (by omega)]
  rw[show t.size+(m+1)=t.size+m+1 by omega,deaf_succ aar,ih (by omega)];have hy:=hu u[m] (Array.getElem_mem _);unfold deafStep;split
  .rename_i e;exact absurd e hy.1
  .rename_i e;exact absurd e hy.2
  rfl
theorem heard_new(hu:∀op∈u,n9 op){m:Nat}{x:MemOp}(hx:u[m]?=some x)(hd:Deaf t x.g=0):(t++u).heard (t.size+m):=by
 have hm:m<u.size:=(ai.1 hx).1;refine⟨x.g,?_,?_⟩
 .rw[Trace.g?,Array.getElem?_append_right (by omega),sF,hx];rfl
 rw[U6 hu m (by omega)];exact hd
theorem Uz(hu:∀op∈u,n9 op){k c n m m':Nat}{x y:MemOp}(hx:u[m]?=some x)(hy:u[m']?=some y)(NV:x.g=k)(xk:x.act=.send c n)(NU:y.g=0)(hya:y.act=.recvDone c n)
  (MX:Deaf t k=0) (hd0:Deaf t 0=0) {i:Nat} (h:Knows t k i):Knows (t++u) 0 i/\∃j,(t++u).g? j=some 0/\HappensBefore (t++u) i j:=by
 have hxp:(t++u)[t.size+m]?=some x:=by rw[Array.getElem?_append_right (by omega),sF,hx]
 have hyp:(t++u)[t.size+m']?=some y:=by rw[Array.getElem?_append_right (by omega),sF,hy]
 have h1:=h.hb_new (by omega) hxp NV;have e:HappensBefore (t++u) (t.size+m) (t.size+m'):=.single (.inr ⟨.handOver (c:=c) (k:=n) (by rw[act?_of hxp,xk]) (by rw[act?_of hyp,hya]),heard_new hu hx (by rw[NV];exact MX),heard_new hu hy (by rw[NU];exact hd0)⟩);have h2:=h1.trans e;exact⟨⟨_,y,hyp,NU,.inr h2⟩,_,by simp[Trace.g?,hyp,NU],h2⟩
def Ij(k c n:Nat)(u:Trace):Prop:=∃f1 p1 f2 p2 f3 p3 f4 p4 cap,u = #[{ g:=k,fn:=f1,pos:=p1,act:=.send c n },{ g:=0,fn:=f2,pos:=p2,act:=.recv c n cap },{ g:=k,fn:=f3,pos:=p3,act:=.sendDone c n },{ g:=0,fn:=f4,pos:=p4,act:=.recvDone c n }]
theorem Ij.mute{k c n:Nat}(h:Ij k c n u)(hc:c<B'):∀op∈u,op.act.touch?=none/\n9 op/\op.act.low B':=by
 obtain⟨f1,p1,f2,p2,f3,p3,f4,p4,cap,rfl⟩:=h;intro op hop;simp only[eY,cy,gO,or_false] at hop;rcases hop with rfl|rfl|rfl|rfl<;>exact⟨rfl,⟨by simp,by simp⟩,hc⟩
theorem PT.acz(h:PT A S O B t)(hB:B<=B'){k c n:Nat}(hu:Ij k c n u)(hc:c<B')(hk:A k)(hA:∀g,A' g↔A g\/False):PT A' S O B' (t++u):=
 h.appMute hB (hu.mute hc) (fun g hg=>((hA g).1 hg).resolve_right id) fun g hg hn=>absurd ((hA g).2 (.inl hg)) hn
theorem PT.QE(h:PT A S O B t)(hB:B<=B'){k c n:Nat}(hu:Ij k c n u)(hc:c<B')(hk:A k):PT (fun g=>A g/\g≠k) S O B' (t++u):=by
 refine h.appMute hB (hu.mute hc) (fun g hg=>hg.1) fun g hg hn i hkn=>?_;have e:g=k:=Classical.byContradiction fun e=>hn ⟨hg,e⟩;subst e;have hw:=fun op hop=>(hu.mute hc op hop).2.1;have hd0:=h.hears;have MX:=h.vJ g hk;obtain⟨f1,p1,f2,p2,f3,p3,f4,p4,cap,rfl⟩:=hu;exact Uz hw (m:=0) (m':=3) rfl rfl rfl rfl rfl rfl MX hd0 hkn
theorem PT.spawn(h:PT A S O B t)(hB:B<=B'){k:Nat}(hk:¬A k)(hk0:k≠0)(MX:Deaf t k=0){x y:MemOp}(hx:x.g=0/\x.act=.go k)(hy:y.g=k/\y.act=.start){Sk:Nat->Prop}(hs:∀g,A g->∀c,Sk c->¬O g c) :
  PT (fun g=>A g\/g=k) (fun g=>if g=k then Sk else S g) (fun g=>if g=k then fun _=>False else O g) B' (t++#[x,y]):=by
 have hn:∀op∈#[x,y],op.act.touch?=none/\n9 op/\op.act.low B':=by
  intro op hop;simp only[eY,cy,gO,or_false] at hop;rcases hop with rfl|rfl
  .rw[hx.2];exact⟨rfl,⟨by rw[hx.2];simp,by rw[hx.2];simp⟩,trivial⟩
  rw[hy.2];exact⟨rfl,⟨by rw[hy.2];simp,by rw[hy.2];simp⟩,trivial⟩
 have hn':=fun op hop=>(hn op hop).1;have h1:PT A S O B' (t++#[x,y]):=h.appMute hB hn (fun g hg=>hg) fun g hg hn=>absurd hg hn;have hne:∀g,A g->g≠k:=fun g hg e=>hk (e▸hg);refine⟨h1.clean,fun i a c ha hc=>?_,fun g hg i a c ha hc hs' hw=>?_,fun g hg i a c ha hc ho=>?_,fun i g e1 e2 e3=>(h1.over i g e1 e2 e3).imp id .inl,h1.hears,fun g hg=>?_,h1.seen,fun g hg=>?_⟩
 .rcases h1.known i a c ha hc with qG|⟨g,hg,N4,Lt⟩
  .exact .inl qG
  exact .inr ⟨g,.inl hg,N4,by simpa only[hne g hg,if_false] using Lt⟩
 .by_cases e:g=k
  .subst e;simp only[if_true] at hs';obtain⟨_,ha'⟩:=fA hn' ha;rcases h.known i a c ha' hc with qG|⟨g',FP,_,Lt⟩
   .exact Go.ConcN.fork_knows hx hy h.hears MX qG
   rcases Lt with ho|⟨hw',_⟩
   .exact absurd ho (hs g' FP c hs')
   rw[hw] at hw';cases hw'
  simp only[e,if_false] at hs';exact h1.wk g (hg.resolve_right e) i a c ha hc hs' hw
 .by_cases e:g=k
  .simp only[e,if_true] at ho
  simp only[e,if_false] at ho;exact h1.ow g (hg.resolve_right e) i a c ha hc ho
 .rcases hg with hg|rfl
  .exact h1.vJ g hg
  rw[iv _ _ _ fun op hop=>(hn op hop).2.1];exact MX
 rcases hg with hg|rfl
 .exact h1.pos g hg
 exact hk0
end
section
variable{P:aL}
theorem Fg(q:Question){α:Type}(f:Nat->Sem α)(n:Nat)(hn:0<n)(hq:q=.select n\/∃what,q=.extern what n)(w:ar):∃a d,a<n/\(choose q >>= f).run P w=(f a).run P (w.at d):=by
 have e:(choose q >>= f).run P w=if q.forced then(f 0).run P w else(f (q.cut (w.tape w.drawn q))).run P { w with drawn:=w.drawn+1 }:=rfl
 rw[e]
 by_cases hf:q.forced=true
 .exact⟨0,w.drawn,hn,by rw[if_pos hf];rfl⟩
 refine⟨_,w.drawn+1,?_,by rw[if_neg hf];rfl⟩;rcases hq with rfl|⟨what,rfl⟩
 .simp only[Question.cut];exact Nat.mod_lt _ hn
 simp only[Question.cut];rw[if_neg (by omega)];exact Nat.mod_lt _ hn
def IY(ready:List (Nat × mU × List Way)):Sem (Nat × mU × Way):=do
 let a <-choose (.select ready.length);let (k,c,ws):=ready.getD a (0,default,[])
 let b <-choose (.extern "which waiting goroutine is the partner" ws.length)
 pure (k,c,ws.getD b .closed)
theorem Tp(ready:List (Nat × mU × List Way))(hne:ready≠[])(hw:∀x∈ready,x.2.2≠[])(w:ar) :
  ∃x∈ready,∃y∈x.2.2,∃d,(IY ready).run P w=.ok (x.1,x.2.1,y) (w.at d):=by
 unfold IY
 obtain⟨a,d,ha,e⟩:=Fg (P:=P) (.select ready.length) (fun a=>do
  let (k,c,ws):=ready.getD a (0,default,[])
  let b <-choose (.extern "which waiting goroutine is the partner" ws.length)
  pure (k,c,ws.getD b .closed)) ready.length (dm.2 hne) (.inl rfl) w
 rw[e];have hx:ready.getD a (0,default,[])=ready[a]:=by simp[List.getD,ha]
 rw[hx];have hmem:ready[a]∈ready:=bV ha;generalize ready[a]=x at hmem;obtain⟨k,c,ws⟩:=x;have J8:=hw _ hmem;dsimp only at J8 ⊢
 obtain⟨b,d',hb,e2⟩:=Fg (P:=P) (.extern "which waiting goroutine is the partner" ws.length) (fun b=>(pure (k,c,ws.getD b .closed):Sem (Nat × mU × Way))) ws.length (dm.2 J8) (.inr ⟨_,rfl⟩) (w.at d);refine⟨_,hmem,ws[b],bV hb,d',?_⟩;rw[e2];have:ws.getD b .closed=ws[b]:=by simp[List.getD,hb]
 rw[this];rfl
variable{gs:Array aD}{w w₁:ar}{sl:Option (Nat × Nat)}{i:Nat}{g g₂:aD}{es:Array gw}{c0 c1 s0 r0 s1 r1:Nat}{t0 t1:Bool}{z0 z1:ak}
theorem sI{w:ar}{gs:Array aD}{c s r:Nat}{tm:Bool}{z:ak}(hc:w.heap[c]?=some (.chan 0 #[] false s r tm)):ways w gs (rcase c z)=(w8 gs c true).map fun(h,k)=>Way.partner h k:=by
 simp only[ways,rcase,hc];cases w8 gs c true with
 |nil=>simp
 |cons p ps=>simp
theorem Gp(hi:gs[i]?=some g)(h:fo P (i==0) g w=.comm g₂ #[rcase c0 z0,rcase c1 z1] true .select w₁ es)
  (h0:w₁.heap[c0]?=some (.chan 0 #[] false s0 r0 t0)) (h1:w₁.heap[c1]?=some (.chan 0 #[] false s1 r1 t1))
  (hne:w8 (gs.setIfInBounds i ph) c0 true≠[]\/w8 (gs.setIfInBounds i ph) c1 true≠[])
  (hall:∀c,c=c0\/c=c1->∀j k,(j,k)∈w8 (gs.setIfInBounds i ph) c true->k=0/\j≠i/\∃gj vj zj shj,gs[j]?=some (iA gj #[nB c vj zj] shj)) :
  ∃(kk c s r:Nat) (tm:Bool) (j:Nat) (gj:aD) (vj zj:ak) (shj:CommShape) (d:Nat),((kk=0/\c=c0/\s=s0/\r=r0/\tm=t0)\/(kk=1/\c=c1/\s=s1/\r=r1/\tm=t1))/\j≠i/\gs[j]?=some (iA gj #[nB c vj zj] shj)/\
   runT P (rj gs w sl) i=(.next (rj ((gs.setIfInBounds j (gj.finishComm P #[nB c vj zj] shj 0 af false)).setIfInBounds i (g₂.finishComm P #[rcase c0 z0,rcase c1 z1] .select kk vj true)) ((w₁.at d).setChan c 0 #[] false (s+1) (r+1) tm) sl),
    iB i g.frame.fn g.frame.place es++#[{ g:=j,fn:=gj.frame.fn,pos:=gj.frame.place,act:=.send c s },{ g:=i,fn:=g₂.frame.fn,pos:=g₂.frame.place,act:=.recv c r 0 },
     { g:=j,fn:=gj.frame.fn,pos:=gj.frame.place,act:=.sendDone c s },{ g:=i,fn:=g₂.frame.fn,pos:=g₂.frame.place,act:=.recvDone c r }]):=by
 have hw0:=sI (gs:=gs.setIfInBounds i ph) (z:=z0) h0;have hw1:=sI (gs:=gs.setIfInBounds i ph) (z:=z1) h1;generalize hL:((#[rcase c0 z0,rcase c1 z1].zipIdx.toList.map fun(c,k)=>(k,c,ways w₁ (gs.setIfInBounds i ph) c)).filter fun(_,_,ws)=>!ws.isEmpty)=L
 have hmem:∀x,x∈L↔(x=(0,rcase c0 z0,ways w₁ (gs.setIfInBounds i ph) (rcase c0 z0))\/x=(1,rcase c1 z1,ways w₁ (gs.setIfInBounds i ph) (rcase c1 z1)))/\x.2.2≠[]:=by
  intro x;rw[<-hL];simp[List.mem_filter]
 have aep:L≠[]:=by
  intro e;rcases hne with hn|hn
  .have:=(hmem _).2 ⟨.inl rfl,by rw[hw0];simpa using hn⟩;rw[e] at this;cases this
  have:=(hmem _).2 ⟨.inr rfl,by rw[hw1];simpa using hn⟩;rw[e] at this;cases this
 obtain⟨x,hx,y,hy,d,YH⟩:=Tp (P:=P) L aep (fun x hx=>((hmem x).1 hx).2) w₁
 have aam : #[rcase c0 z0,rcase c1 z1].any (illMade w₁)=false:=by
  refine any_ill fun cc hcc=>?_;simp only[eY,cy,gO,or_false] at hcc;rcases hcc with rfl|rfl
  .exact made_recv z0 h0
  exact made_recv z1 h1
 have key:∀(kk c s r:Nat) (tm:Bool) (z:ak),w₁.heap[c]?=some (.chan 0 #[] false s r tm)->(c=c0\/c=c1)->∀y,y∈((w8 (gs.setIfInBounds i ph) c true).map fun(h,k)=>Way.partner h k)->(IY L).run P w₁=.ok (kk,rcase c z,y) (w₁.at d)->
   ∃(j:Nat) (gj:aD) (vj zj:ak) (shj:CommShape),j≠i/\gs[j]?=some (iA gj #[nB c vj zj] shj)/\
   runT P (rj gs w sl) i=(.next (rj ((gs.setIfInBounds j (gj.finishComm P #[nB c vj zj] shj 0 af false)).setIfInBounds i (g₂.finishComm P #[rcase c0 z0,rcase c1 z1] .select kk vj true)) ((w₁.at d).setChan c 0 #[] false (s+1) (r+1) tm) sl),
    iB i g.frame.fn g.frame.place es++#[{ g:=j,fn:=gj.frame.fn,pos:=gj.frame.place,act:=.send c s },{ g:=i,fn:=g₂.frame.fn,pos:=g₂.frame.place,act:=.recv c r 0 },
     { g:=j,fn:=gj.frame.fn,pos:=gj.frame.place,act:=.sendDone c s },{ g:=i,fn:=g₂.frame.fn,pos:=g₂.frame.place,act:=.recvDone c r }]):=by
  intro kk c s r tm z hc hcc y hy FO;obtain⟨⟨j,k⟩,hjk,rfl⟩:=dN.1 hy;obtain⟨rfl,Uk,gj,vj,zj,shj,hj⟩:=hall c hcc j k hjk;refine⟨j,gj,vj,zj,shj,Uk,hj,?_⟩;have hj':=stand_get (i:=i) Uk hj;have hfp:=finishPartner_at P (gs.setIfInBounds i ph) hj' (cs:=#[nB c vj zj]) (sh:=shj) rfl 0 af;have hgd:(gs.setIfInBounds i ph).getD j default=iA gj #[nB c vj zj] shj:=by rw[Array.getD_eq_getD_getElem?,hj'];rfl
  have jn:offeredValue (gs.setIfInBounds i ph) j 0=vj:=by simp[offeredValue,hj',iA,nB]
  rw[Go.Conc.runT_crowd_comm hi h];unfold communicate;unfold IY at FO
  have hLe:L.isEmpty=false:=by cases L with
   |nil=>exact absurd rfl aep
   |cons a l=>rfl
  simp only[hL,hLe,bG,if_false,FO];have hcd:(w₁.at d).heap[c]?=some (.chan 0 #[] false s r tm):=hc;rw[if_neg]
  .simp[rcase,hcd,hfp,hgd,jn,set_stand2,nB,iA,World.setChan,rj];rfl
  rw[Bool.not_eq_true];exact aam
 rcases((hmem x).1 hx).1 with rfl|rfl
 .obtain⟨j,gj,vj,zj,shj,h5,h6,h7⟩:=key 0 c0 s0 r0 t0 z0 h0 (.inl rfl) y (by rw[<-hw0];exact hy) YH;exact⟨0,c0,s0,r0,t0,j,gj,vj,zj,shj,d,.inl ⟨rfl,rfl,rfl,rfl,rfl⟩,h5,h6,h7⟩
 obtain⟨j,gj,vj,zj,shj,h5,h6,h7⟩:=key 1 c1 s1 r1 t1 z1 h1 (.inr rfl) y (by rw[<-hw1];exact hy) YH;exact⟨1,c1,s1,r1,t1,j,gj,vj,zj,shj,d,.inr ⟨rfl,rfl,rfl,rfl,rfl⟩,h5,h6,h7⟩
end
inductive oV{α:Type}(R:α->α->Prop):List α->List α->Prop
 |nil:oV R [] []
 |cons {x y:α} {l m:List α}:R x y->oV R l m->oV R (x::l) (y::m)
inductive LT{α:Type}(D E:α->α->Prop):List α->List α->Prop
 |drop {x:α} {l l':List α}:oV E l' l->LT D E l' (x::l)
 |head {x x':α} {l l':List α}:D x' x->oV E l' l->LT D E (x'::l') (x::l)
 |tail {x x':α} {l l':List α}:E x' x->LT D E l' l->LT D E (x'::l') (x::l)
section
variable{α:Type}{D E:α->α->Prop}
theorem oV.refl(hr:∀x,E x x):∀l,oV E l l
 |[]=>.nil
 |x::l=>.cons (hr x) (oV.refl hr l)
theorem oV.trans(ht:∀x y z,E x y->E y z->E x z){a b c:List α}(h:oV E a b):oV E b c->oV E a c:=by
 induction h generalizing c with
 |nil=>intro h;exact h
 |cons h1 _ ih=>intro h2;cases h2 with|cons h3 h4=>exact .cons (ht _ _ _ h1 h3) (ih h4)
theorem LT.shift(ht:∀x y z,E x y->E y z->E x z)(hd:∀x y z,D x y->E y z->D x z){a b c:List α}(h:LT D E a b):oV E b c->LT D E a c:=by
 induction h generalizing c with
 |drop h=>intro h2;cases h2 with|cons h3 h4=>exact .drop (h.trans ht h4)
 |head h1 h=>intro h2;cases h2 with|cons h3 h4=>exact .head (hd _ _ _ h1 h3) (h.trans ht h4)
 |tail h1 _ ih=>intro h2;cases h2 with|cons h3 h4=>exact .tail (ht _ _ _ h1 h3) (ih h4)
theorem Bv(ht:∀x y z,E x y->E y z->E x z)(hd:∀x y z,D x y->E y z->D x z){l l':List α}(h:Acc (LT D E) l)(he:oV E l' l):Acc (LT D E) l':=
 ⟨_,fun m hm=>h.inv (hm.shift ht hd he)⟩
theorem FB(hr:∀x,E x x)(ht:∀x y z,E x y->E y z->E x z)(hd:∀x y z,D x y->E y z->D x z):∀l:List α,(∀x∈l,Acc D x)->Acc (LT D E) l
 |[],_=>⟨_,fun m hm=>by cases hm⟩
 |x::l,h=>by
  have hx:=h x (by simp);have hl:=FB hr ht hd l fun y hy=>h y (by simp[hy]);clear h
  induction hx generalizing l with
  |intro x _ ihx=>
   induction hl with
   |intro l hl ihl=>
    refine⟨_,fun m hm=>?_⟩;have ya:Acc (LT D E) l:=⟨_,hl⟩
    cases hm with
    |drop h=>exact Bv ht hd ya h
    |head h1 h2=>exact ihx _ h1 _ (Bv ht hd ya h2)
    |tail h1 h2=>exact Bv ht hd (ihl _ h2) (.cons h1 (.refl hr _))
theorem oV.of_map{f:α->α}(h:∀x,E (f x) x):∀l:List α,oV E (l.map f) l
 |[]=>.nil
 |x::l=>.cons (h x) (oV.of_map h l)
theorem LT.mid{f:α->α}(h:∀x,E (f x) x){x x':α}(hd:D x' x)(l2:List α):∀l1:List α,LT D E (l1.map f++x'::l2.map f) (l1++x::l2)
 |[]=>.head hd (.of_map h l2)
 |y::l=>.tail (h y) (LT.mid h hd l2 l)
end
section
variable(P:aL)(c0 c1:Nat)
def zS:Value:=.tuple #[]
def AtSend(c:Nat)(v:ak)(g:aD):Prop:=g.status=.running/\g.dying=none/\g.offers=none/\∀w,fo P false g w=.comm g #[nB c v zS] true .send w #[]
inductive gU(S:Nat->Prop)(p:ak):Bool->(Nat->Prop)->aD->ar->Prop
 |step {b:Bool} {O:Nat->Prop} {g:aD} {w:ar}:g.status=.running->g.dying=none->
   (∀w1,iP (fun c=>S c\/O c) w w1->∃g2 w2 es,fo P false g w1=.go g2 w2 es/\J4 S O w1 w2 es/\g2.status=.running/\g2.dying=none)->
   (∀w1,iP (fun c=>S c\/O c) w w1->∀g2 w2 es,fo P false g w1=.go g2 w2 es->gU S p b (own O w1 w2) g2 w2)->gU S p b O g w
 |BR {O:Nat->Prop} {g:aD} {w:ar}:AtSend P c0 p g->gU S p false O (fp g af) w->gU S p true O g w
 |BQ {O:Nat->Prop} {g:aD} {w:ar} {n:Nat}:AtSend P c1 (.bool true) g->QuitsD P n 0 (fp g af)->gU S p false O g w
theorem gU.rely{S:Nat->Prop}{p:ak}{b:Bool}{O:Nat->Prop}{g:aD}{w:ar}(h:gU P c0 c1 S p b O g w):∀ {w1:ar},iP (fun c=>S c\/O c) w w1->gU P c0 c1 S p b O g w1:=by
 induction h with
 |step a b c d _=>intro w1 hr;exact .step a b (fun w2 h2=>c w2 (hr.trans h2)) fun w2 h2=>d w2 (hr.trans h2)
 |BR h _ ih=>intro w1 hr;exact .BR h (ih hr)
 |BQ h hq=>intro w1 hr;exact .BQ h hq
theorem gU.I4{S:Nat->Prop}{p:ak}{b:Bool}{Stop:(Nat->Prop)->aD->ar->Prop}{O:Nat->Prop}{g:aD}{w:ar}(h:Walk P false S Stop O g w)(k:∀O g w,Stop O g w->gU P c0 c1 S p b O g w):gU P c0 c1 S p b O g w:=by
 induction h with
 |@stop O g w h=>exact k _ _ _ (h w (.refl _ _))
 |step a b c d ih=>exact .step a b c ih
structure X where
 id:Nat
 S:Nat->Prop
 p:ak
 b:Bool
 O:Nat->Prop
 g:aD
 w:ar
def X.at(w:ar)(x:X):X:={ x with w:=w }
inductive WS:X->Prop
 |run {x:X}:gU P c0 c1 x.S x.p x.b x.O x.g x.w->WS x
 |uy {x:X} {g:aD}:x.b=true->AtSend P c0 x.p g->gU P c0 c1 x.S x.p false x.O (fp g af) x.w->x.g=iA g #[nB c0 x.p zS] .send->WS x
 |ux {x:X} {g:aD} {n:Nat}:x.b=false->AtSend P c1 (.bool true) g->QuitsD P n 0 (fp g af)->x.g=iA g #[nB c1 (.bool true) zS] .send->WS x
def Sh(x' x:X):Prop:=∃w,iP (fun c=>x.S c\/x.O c) x.w w/\x'=x.at w
inductive Dn:X->X->Prop
 |step {x x':X} {w1 w2:ar} {g2:aD} {es:Array gw}:x.g.status=.running->iP (fun c=>x.S c\/x.O c) x.w w1->fo P false x.g w1=.go g2 w2 es->Sh x' { x with O:=own x.O w1 w2,g:=g2,w:=w2 }->Dn x' x
 |zi {x x':X} {c:Nat} {v:ak}:AtSend P c v x.g->Sh x' { x with g:=iA x.g #[nB c v zS] .send }->Dn x' x
 |aK {x x':X} {g:aD}:x.b=true->AtSend P c0 x.p g->(x.g=g\/x.g=iA g #[nB c0 x.p zS] .send)->Sh x' { x with b:=false,g:=fp g af }->Dn x' x
theorem mH(x:X):Sh x x:=⟨x.w,.refl _ _,rfl⟩
theorem oD(x y z:X)(h:Sh x y)(h':Sh y z):Sh x z:=by
 obtain⟨w,hr,rfl⟩:=h;obtain⟨w',hr',rfl⟩:=h';exact⟨w,hr'.trans hr,rfl⟩
theorem E6(x y z:X)(h:Dn P c0 x y)(h':Sh y z):Dn P c0 x z:=by
 obtain⟨w,hr,rfl⟩:=h';cases h with
 |step h1 h2 h3 h4=>exact .step h1 (hr.trans h2) h3 h4
 |zi h1 h2=>
  obtain⟨w2,hr2,rfl⟩:=h2;exact .zi h1 ⟨w2,hr.trans hr2,rfl⟩
 |aK h1 h2 h3 h4=>
  obtain⟨w2,hr2,rfl⟩:=h4;exact .aK h1 h2 h3 ⟨w2,hr.trans hr2,rfl⟩
theorem FC{x x':X}(h:Acc (Dn P c0) x)(he:Sh x' x):Acc (Dn P c0) x':=⟨_,fun y hy=>h.inv (E6 P c0 _ _ _ hy he)⟩
theorem sj{c c':Nat}{v v':ak}{g:aD}{cs:Array mU}{sh:CommShape}(h:AtSend P c v (iA g cs sh)):False:=by cases h.1
theorem Bu{S:Nat->Prop}{p:ak}{b:Bool}{O:Nat->Prop}{g:aD}{w:ar}(h:gU P c0 c1 S p b O g w)(id:Nat):Acc (Dn P c0) ⟨id,S,p,b,O,g,w⟩:=by
 induction h with
 |@step b O g w hr hd hc hk ih=>
  refine⟨_,fun y hy=>?_⟩;obtain⟨g2,w2,es,he,_⟩:=hc w (.refl _ _);cases hy with
  |step h1 h2 h3 h4=>exact FC P c0 (ih _ h2 _ _ _ h3) h4
  |zi h1 h2=>have:=h1.2.2.2 w;dsimp only at this;rw[he] at this;cases this
  |aK h1 h2 h3 h4=>
   rcases h3 with h3|h3
   .dsimp only at h3;subst h3;have:=h2.2.2.2 w;rw[he] at this;cases this
   dsimp only at h3;subst h3;cases hr
 |@BR O g w ha _ ih=>
  have hp:Acc (Dn P c0) ⟨id,S,p,true,O,iA g #[nB c0 p zS] .send,w⟩:=by
   refine⟨_,fun y hy=>?_⟩;cases hy with
   |step h1 _ _ _=>cases h1
   |zi h1 _=>exact(sj P (c':=0) (v':=p) h1).elim
   |@aK _ _ g0 h1 h2 h3 h4=>
    rcases h3 with h3|h3
    .dsimp only at h3;rw[<-h3] at h2;exact(sj P (c':=0) (v':=p) h2).elim
    dsimp only at h3
    have e:g=g0:=by
     have e1:g.frame=g0.frame:=by have:=congrArg Goroutine.frame h3;exact this
     have e2:g.callers=g0.callers:=by have:=congrArg Goroutine.callers h3;exact this
     have e3:=ha.1;have e4:=h2.1;have e5:=ha.2.1;have e6:=h2.2.1;have e7:=ha.2.2.1;have e8:=h2.2.2.1;cases g;cases g0;simp_all
    subst e;exact FC P c0 ih h4
  refine⟨_,fun y hy=>?_⟩;cases hy with
  |step h1 h2 h3 h4=>dsimp only at h3;rw[ha.2.2.2] at h3;cases h3
  |@zi _ _ c v h1 h2=>
   have e:=h1.2.2.2 w;dsimp only at e;rw[ha.2.2.2 w] at e;injection e with e1 e2
   have e3:nB c0 p zS=nB c v zS:=by injection e2 with e2;injection e2
   rw[<-e3] at h2;exact FC P c0 hp h2
  |aK h1 h2 h3 h4=>
   rcases h3 with h3|h3
   .dsimp only at h3;subst h3;exact FC P c0 ih h4
   dsimp only at h3;subst h3;cases ha.1
 |@BQ O g w n ha hq=>
  have hp:Acc (Dn P c0) ⟨id,S,p,false,O,iA g #[nB c1 (.bool true) zS] .send,w⟩:=by
   refine⟨_,fun y hy=>?_⟩;cases hy with
   |step h1 _ _ _=>cases h1
   |zi h1 _=>exact(sj P (c':=0) (v':=p) h1).elim
   |aK h1 _ _ _=>cases h1
  refine⟨_,fun y hy=>?_⟩;cases hy with
  |step h1 h2 h3 h4=>dsimp only at h3;rw[ha.2.2.2] at h3;cases h3
  |@zi _ _ c v h1 h2=>
   have e:=h1.2.2.2 w;dsimp only at e;rw[ha.2.2.2 w] at e;injection e with e1 e2
   have e3:nB c1 (.bool true) zS=nB c v zS:=by injection e2 with e2;injection e2
   rw[<-e3] at h2;exact FC P c0 hp h2
  |aK h1 _ _ _=>cases h1
end
section
variable(P:aL)(c0 c1:Nat)(z0 z1:ak)
def jT:Array CommCase:=#[rcase c0 z0,rcase c1 z1]
def Zl(g:aD):Prop:=g.status=.running/\g.dying=none/\g.offers=none/\∀w,fo P true g w=.comm g (jT c0 c1 z0 z1) true .select w #[]
def AtGo(g g' child:aD):Prop:=g.status=.running/\g.dying=none/\∀w,fo P true g w=.spawn g' child w #[]
def iI(g:aD)(k:Nat)(v:ak):Goroutine:=g.finishComm P (jT c0 c1 z0 z1) .select k v true
inductive gJ(Fin:List ak->List ak->(Nat->Prop)->(Nat->Prop)->aD->ar->Prop):Nat->Nat->List ak->List ak->(Nat->Prop)->(Nat->Prop)->aD->ar->Prop
 |fin {acc out:List ak} {S O:Nat->Prop} {g:aD} {w:ar}:g.status=.running->(∀w1,iP (fun c=>S c\/O c) w w1->Fin acc out S O g w1)->gJ Fin 0 0 acc out S O g w
 |step {f m:Nat} {acc out:List ak} {S O:Nat->Prop} {g:aD} {w:ar}:g.status=.running->g.dying=none->
   (∀w1,iP (fun c=>S c\/O c) w w1->∃g2 w2 es,fo P true g w1=.go g2 w2 es/\J4 S O w1 w2 es/\g2.status=.running/\g2.dying=none)->
   (∀w1,iP (fun c=>S c\/O c) w w1->∀g2 w2 es,fo P true g w1=.go g2 w2 es->gJ Fin f m acc out S (own O w1 w2) g2 w2)->gJ Fin f m acc out S O g w
 |spawn {f m:Nat} {acc out:List ak} {S O Sk S' O':Nat->Prop} {g g' child:aD} {w:ar} {b:Bool} {p:ak}:AtGo P g g' child->g'.status=.running->child.status=.running->(∀c,Sk c->S c\/O c)->gU P c0 c1 Sk p b (fun _=>False) child w->
   (∀c,S' c->S c\/O c)->(∀c,O' c->O c/\¬Sk c/\¬S' c)->gJ Fin (f+b.toNat) (m+1) (acc++if b then[p] else[]) out S' O' g' w->gJ Fin f m acc out S O g w
 |select {f m:Nat} {acc out:List ak} {S O:Nat->Prop} {g:aD} {w:ar}:Zl P c0 c1 z0 z1 g->(∀v f',f=f'+1->v∈acc->gJ Fin f' (m+1) acc (out++[v]) S O (iI P c0 c1 z0 z1 g 0 v) w)->
   (f<=m->gJ Fin f m acc out S O (iI P c0 c1 z0 z1 g 1 (.bool true)) w)->gJ Fin f (m+1) acc out S O g w
variable{P c0 c1 z0 z1}
theorem gJ.rely{Fin:List ak->List ak->(Nat->Prop)->(Nat->Prop)->aD->ar->Prop}{f m:Nat}{acc out:List ak}{S O:Nat->Prop}{g:aD}{w:ar}(h:gJ P c0 c1 z0 z1 Fin f m acc out S O g w) :
  ∀ {w1:ar},iP (fun c=>S c\/O c) w w1->gJ P c0 c1 z0 z1 Fin f m acc out S O g w1:=by
 induction h with
 |fin hs h=>intro w1 hr;exact .fin hs fun w2 h2=>h w2 (hr.trans h2)
 |step a b c d _=>intro w1 hr;exact .step a b (fun w2 h2=>c w2 (hr.trans h2)) fun w2 h2=>d w2 (hr.trans h2)
 |spawn h1 h2 h2' h3 h4 h5 h6 _ ih=>
  intro w1 hr;exact .spawn h1 h2 h2' h3 (h4.rely _ _ _ ⟨hr.grow,fun c hc=>hr.keep c (h3 c (by simpa using hc))⟩) h5 h6 (ih ⟨hr.grow,fun c hc=>hr.keep c (hc.elim (h5 c) fun h=>.inr (h6 c h).1)⟩)
 |select h1 _ _ Yw ih2=>intro w1 hr;exact .select h1 (fun v f' e hv=>Yw v f' e hv hr) fun hf=>ih2 hf hr
theorem gJ.I4{Fin:List ak->List ak->(Nat->Prop)->(Nat->Prop)->aD->ar->Prop}{f m:Nat}{acc out:List ak}{S:Nat->Prop}{Stop:(Nat->Prop)->aD->ar->Prop}{O:Nat->Prop}{g:aD}{w:ar}(h:Walk P true S Stop O g w)
  (k:∀O g w,Stop O g w->gJ P c0 c1 z0 z1 Fin f m acc out S O g w):gJ P c0 c1 z0 z1 Fin f m acc out S O g w:=by
 induction h with
 |@stop O g w h=>exact k _ _ _ (h w (.refl _ _))
 |step a b c d ih=>exact .step a b c ih
end
structure Geo(c0 c1:Nat)(S0 O0:Nat->Prop)(L:List X)(n:Nat):Prop where
 Je:∀c,S0 c\/O0 c->c<n/\c≠c0/\c≠c1
 dj0:∀c,S0 c->¬O0 c
 lt:∀x∈L,∀c,x.S c\/x.O c->c<n/\c≠c0/\c≠c1
 dj:∀x∈L,∀c,x.S c->¬x.O c
 mw:∀x∈L,∀c,O0 c->¬x.S c/\¬x.O c
 wm:∀x∈L,∀c,x.O c->¬S0 c
 ww:∀x∈L,∀y∈L,x.id≠y.id->∀c,x.O c->¬y.S c/\¬y.O c
def SL(L:List X)(g c:Nat):Prop:=∃x∈L,x.id=g/\x.S c
def OL(L:List X)(g c:Nat):Prop:=∃x∈L,x.id=g/\x.O c
def act(L:List X)(g:Nat):Prop:=∃x∈L,x.id=g
def Chan(c:Nat)(w:ar):Prop:=∃s tm,w.heap[c]?=some (.chan 0 #[] false s s tm)
structure Inv(P:aL)(c0 c1:Nat)(S0 O0:Nat->Prop)(gm:aD)(L:List X)(gs:Array aD)(w:ar)(t:Trace)(q:Nat->Nat):Prop where
 zero:gs[0]?=some gm
 slot:∀x∈L,gs[x.id]?=some x.g/\0<x.id
 ws:∀x∈L,WS P c0 c1 x/\x.w=w
 nodup:(L.map X.id).Nodup
 old:∀i g,0<i->gs[i]?=some g->¬act L i->QuitsD P (q i) (Deaf t i) g
 above:∀j,gs.size<=j->Deaf t j=0
 pt:PT (act L) (SL L) (OL L) w.heap.size t
 geo:Geo c0 c1 S0 O0 L w.heap.size
 CH:Chan c0 w
 CG:Chan c1 w
 ne:c0≠c1
 wk0:∀g g' w',Chan c0 w'->Chan c1 w'->woken P g g' w' gm=gm
 st0:gm.status=.running\/gm.status=.blocked
section
variable{P:aL}{c0 c1:Nat}{S0 O0:Nat->Prop}{gm:aD}{L:List X}{gs:Array aD}{w:ar}{t:Trace}{q:Nat->Nat}
theorem PT.congr{A A':Nat->Prop}{S O S' O':Nat->Nat->Prop}{B:Nat}(h:PT A S O B t)(hA:∀g,A' g↔A g)(hS:∀g,A g->∀c,S' g c↔S g c)(hO:∀g,A g->∀c,O' g c↔O g c):PT A' S' O' B t:=by
 refine⟨h.clean,fun i a c ha hc=>(h.known i a c ha hc).imp id ?_,fun g hg i a c ha hc hs=>h.wk g ((hA g).1 hg) i a c ha hc ((hS g ((hA g).1 hg) c).1 hs),fun g hg i a c ha hc ho=>h.ow g ((hA g).1 hg) i a c ha hc ((hO g ((hA g).1 hg) c).1 ho),
  fun i g h1 h2 h3=>(h.over i g h1 h2 h3).imp id (hA g).2,h.hears,fun g hg=>h.vJ g ((hA g).1 hg),h.seen,fun g hg=>h.pos g ((hA g).1 hg)⟩
 rintro⟨g,hg,h1,h2⟩;exact⟨g,(hA g).2 hg,h1,h2.imp (hO g hg c).2 fun h3=>⟨h3.1,(hS g hg c).2 h3.2⟩⟩
theorem gU.running{S:Nat->Prop}{p:ak}{b:Bool}{O:Nat->Prop}{g:aD}{w:ar}(h:gU P c0 c1 S p b O g w):g.status=.running:=by
 cases h with
 |step h _ _ _=>exact h
 |BR h _=>exact h.1
 |BQ h _=>exact h.1
theorem WS.status{x:X}(h:WS P c0 c1 x):x.g.status=.running\/x.g.status=.blocked:=by
 cases h with
 |run h=>exact .inl h.running
 |uy _ _ _ e=>right;rw[e];rfl
 |ux _ _ _ e=>right;rw[e];rfl
theorem WS.woken{x:X}(h:WS P c0 c1 x)(h0:Chan c0 w)(h1:Chan c1 w)(g g':aD):Conc.woken P g g' w x.g=x.g:=by
 obtain⟨s,tm,h0⟩:=h0;obtain⟨s',tm',h1⟩:=h1;cases h with
 |run h=>exact woken_run h.running
 |uy _ _ _ e=>rw[e];exact woken_send_open _ _ h0
 |ux _ _ _ e=>rw[e];exact woken_send_open _ _ h1
theorem WS.rely{x:X}(h:WS P c0 c1 x){w':ar}(hr:iP (fun c=>x.S c\/x.O c) x.w w'):WS P c0 c1 (x.at w'):=by
 cases h with
 |run h=>exact .run (h.rely _ _ _ hr)
 |uy h1 h2 h3 h4=>exact .uy h1 h2 (h3.rely _ _ _ hr) h4
 |ux h1 h2 h3 h4=>exact .ux h1 h2 h3 h4
theorem KZ{l:List X}(h:(l.map X.id).Nodup):∀x∈l,∀y∈l,x.id=y.id->x=y:=by
 induction l with
 |nil=>intro x hx;cases hx
 |cons a l ih=>
  simp only[cZ,List.nodup_cons,dN,not_exists,not_and] at h;intro x hx y hy e;rcases cy.1 hx with rfl|hx'<;>rcases cy.1 hy with rfl|hy'
  .rfl
  .exact absurd e.symm (h.1 y hy')
  .exact absurd e (h.1 x hx')
  exact ih h.2 x hx' y hy' e
theorem nT{l1 l2:List X}{x:X}(h:((l1++x::l2).map X.id).Nodup):∀y∈l1++l2,y.id≠x.id:=by
 simp only[fh,cZ,List.nodup_append,List.nodup_cons,dN,cy] at h;intro y hy e;rcases bI.1 hy with hy|hy
 .exact h.2.2 _ ⟨y,hy,rfl⟩ x.id (.inl rfl) e
 exact h.2.1.1 ⟨y,hy,e⟩
theorem Inv.size(h:Inv P c0 c1 S0 O0 gm L gs w t q):0<gs.size:=(ai.1 h.zero).1
theorem Inv.woken(h:Inv P c0 c1 S0 O0 gm L gs w t q){w':ar}(h0:Chan c0 w')(h1:Chan c1 w')(g g':aD):gs.map (Conc.woken P g g' w')=gs:=by
 apply Array.ext_getElem?;intro i;rw[Array.getElem?_map];cases hi:gs[i]? with
 |none=>rfl
 |some y=>
  simp only[dH];rcases jf i with rfl|kC
  .rw[h.zero] at hi;cases hi;rw[h.wk0 g g' w' h0 h1]
  by_cases ha:act L i
  .obtain⟨x,hx,rfl⟩:=ha;rw[(h.slot x hx).1] at hi;cases hi;rw[(h.ws x hx).1.woken h0 h1]
  rw[woken_quitsD (h.old i y kC hi ha)]
theorem Inv.awake(h:Inv P c0 c1 S0 O0 gm L gs w t q):∀x∈gs,awake x:=by
 intro y hy;obtain⟨i,hi⟩:=Array.mem_iff_getElem?.1 hy;rcases jf i with rfl|kC
 .rw[h.zero] at hi;cases hi;exact awake_of (h.st0.imp id .inl)
 by_cases ha:act L i
 .obtain⟨x,hx,rfl⟩:=ha;rw[(h.slot x hx).1] at hi;cases hi;exact awake_of ((h.ws x hx).1.status.imp id .inl)
 exact awake_of ((h.old i y kC hi ha).status.elim .inl fun x=>.inr (.inr x))
theorem sP{K:Nat->Prop}{w w':ar}(h:w'.heap=w.heap):iP K w w':=⟨by rw[h];exact ax _,fun c _=>by rw[h]⟩
theorem nU{w':ar}{L:List X}{y:X}:y∈L.map (X.at w')↔∃x∈L,y=x.at w':=by
 simp only[dN];exact⟨fun⟨x,h1,h2⟩=>⟨x,h1,h2.symm⟩,fun⟨x,h1,h2⟩=>⟨x,h1,h2.symm⟩⟩
theorem JY{w':ar}{g:Nat}:act (L.map (X.at w')) g↔act L g:=by
 constructor
 .rintro⟨y,hy,rfl⟩;obtain⟨x,hx,rfl⟩:=nU.1 hy;exact⟨x,hx,rfl⟩
 rintro⟨x,hx,rfl⟩;exact⟨x.at w',nU.2 ⟨x,hx,rfl⟩,rfl⟩
theorem Zh{w':ar}{g c:Nat}:SL (L.map (X.at w')) g c↔SL L g c:=by
 constructor
 .rintro⟨y,hy,rfl,hs⟩;obtain⟨x,hx,rfl⟩:=nU.1 hy;exact⟨x,hx,rfl,hs⟩
 rintro⟨x,hx,rfl,hs⟩;exact⟨x.at w',nU.2 ⟨x,hx,rfl⟩,rfl,hs⟩
theorem Zj{w':ar}{g c:Nat}:OL (L.map (X.at w')) g c↔OL L g c:=by
 constructor
 .rintro⟨y,hy,rfl,hs⟩;obtain⟨x,hx,rfl⟩:=nU.1 hy;exact⟨x,hx,rfl,hs⟩
 rintro⟨x,hx,rfl,hs⟩;exact⟨x.at w',nU.2 ⟨x,hx,rfl⟩,rfl,hs⟩
theorem Geo.at{n:Nat}{w':ar}(h:Geo c0 c1 S0 O0 L n){n':Nat}(hn:n<=n'):Geo c0 c1 S0 O0 (L.map (X.at w')) n':=by
 have lift:∀ {Q:X->Prop},(∀x∈L,Q (x.at w'))->∀y∈L.map (X.at w'),Q y:=fun hq y hy=>by
  obtain⟨x,hx,rfl⟩:=nU.1 hy;exact hq x hx
 refine⟨fun c hc=>?_,h.dj0,lift fun x hx c hc=>?_,lift fun x hx c hc=>h.dj x hx c hc,lift fun x hx c hc=>h.mw x hx c hc,lift fun x hx c hc=>h.wm x hx c hc,lift fun x hx=>lift fun y hy he c hc=>h.ww x hx y hy he c hc⟩
 .have:=h.Je c hc;exact⟨by omega,this.2⟩
 have:=h.lt x hx c hc;exact⟨by omega,this.2⟩
theorem T3(L:List X)(w':ar):(L.map (X.at w')).map X.id=L.map X.id:=by
 rw[List.map_map];rfl
theorem Inv.draw(h:Inv P c0 c1 S0 O0 gm L gs w t q){w':ar}(hw:w'.heap=w.heap):Inv P c0 c1 S0 O0 gm (L.map (X.at w')) gs w' t q:=by
 have hlt:w'.heap.size=w.heap.size:=by rw[hw]
 refine⟨h.zero,fun y hy=>?_,fun y hy=>?_,by rw[T3];exact h.nodup,fun i g hi hg ha=>h.old i g hi hg fun a=>ha (JY.2 a),h.above,?_,?_,?_,?_,h.ne,h.wk0,h.st0⟩
 .obtain⟨x,hx,rfl⟩:=nU.1 hy;exact h.slot x hx
 .obtain⟨x,hx,rfl⟩:=nU.1 hy;refine⟨(h.ws x hx).1.rely ?_,rfl⟩;rw[(h.ws x hx).2];exact sP hw
 .rw[hlt];exact h.pt.congr (fun g=>JY) (fun g _ c=>Zh) fun g _ c=>Zj
 .exact h.geo.at (by omega)
 .obtain⟨s,tm,e⟩:=h.CH;exact⟨s,tm,by rw[hw];exact e⟩
 obtain⟨s,tm,e⟩:=h.CG;exact⟨s,tm,by rw[hw];exact e⟩
end
end Go.Lag
namespace Go.Lag
open Go.Conc
open Go.ConcN (upd upd_ne upd_same sumTo sumTo_upd)
section
variable{P:aL}{c0 c1:Nat}{S0 O0:Nat->Prop}{gm:aD}{L l1 l2:List X}{x:X}{gs:Array aD}{w:ar}{t u:Trace}{q:Nat->Nat}
theorem Eo{k:Nat}{fn:dX}{pos:String}{es:Array gw}{R W:Nat->Prop}{B:Nat}(h:∀e∈es,SM R W e)(hR:∀c,R c->c<B):∀op∈iB k fn pos es,op.g=k/\J0 R W op/\n9 op/\op.act.low B:=by
 intro op hop;obtain⟨e,he,rfl⟩:=BI hop;refine⟨rfl,?_⟩;obtain⟨loc,wr,sy⟩:=e;rcases h _ he with⟨a,h1,h2,h3,h4⟩|⟨r,h1,h2,h3,h4⟩|h1
 .dsimp only at h1 h2 h4;subst h1;subst h2;refine⟨?_,⟨by simp[fX],by simp[fX]⟩,hR _ h3⟩;intro y hy;simp only[fX,MemAct.touch?,gQ] at hy;subst hy;exact⟨rfl,a.block,rfl,h3,h4⟩
 .dsimp only at h1 h2 h4;subst h1;subst h2;have e:fX ⟨.obj r,wr,false⟩=.access ⟨.obj r,wr,false⟩:=by cases wr<;>rfl
  dsimp only;refine⟨?_,?_,?_⟩
  .intro y hy;dsimp only at hy;rw[e] at hy;simp only[MemAct.touch?,gQ] at hy;subst hy;exact⟨rfl,r,rfl,h3,h4⟩
  .unfold n9;dsimp only;rw[e];exact⟨by simp,by simp⟩
  rw[e];exact hR _ h3
 dsimp only at h1;subst h1;refine⟨?_,⟨by simp[fX],by simp[fX]⟩,trivial⟩;intro y hy;simp[fX,MemAct.touch?] at hy
theorem gH{w':ar}{x2 y:X}:y∈l1.map (X.at w')++x2::l2.map (X.at w')↔y=x2\/∃z∈l1++l2,y=z.at w':=by
 simp only[bI,cy,dN];constructor
 .rintro(⟨z,hz,rfl⟩|rfl|⟨z,hz,rfl⟩)
  .exact .inr ⟨z,.inl hz,rfl⟩
  .exact .inl rfl
  exact .inr ⟨z,.inr hz,rfl⟩
 rintro(rfl|⟨z,hz|hz,rfl⟩)
 .exact .inr (.inl rfl)
 .exact .inl ⟨z,hz,rfl⟩
 exact .inr (.inr ⟨z,hz,rfl⟩)
theorem pO{w':ar}{y:X}:y∈l1.map (X.at w')++l2.map (X.at w')↔∃z∈l1++l2,y=z.at w':=by
 simp only[bI,dN];constructor
 .rintro(⟨z,hz,rfl⟩|⟨z,hz,rfl⟩)
  .exact⟨z,.inl hz,rfl⟩
  exact⟨z,.inr hz,rfl⟩
 rintro⟨z,hz|hz,rfl⟩
 .exact .inl ⟨z,hz,rfl⟩
 exact .inr ⟨z,hz,rfl⟩
theorem bQ{z:X}(h:z∈l1++l2):z∈l1++x::l2:=by
 rcases bI.1 h with h|h
 .exact bI.2 (.inl h)
 exact bI.2 (.inr (List.mem_cons_of_mem _ h))
theorem nh:x∈l1++x::l2:=bI.2 (.inr (List.mem_cons_self ..))
theorem mW{z:X}(h:z∈l1++x::l2):z=x\/z∈l1++l2:=by
 rcases bI.1 h with h|h
 .exact .inr (bI.2 (.inl h))
 rcases cy.1 h with rfl|h
 .exact .inl rfl
 exact .inr (bI.2 (.inr h))
theorem DI{w':ar}{x2:X}(hid:x2.id=x.id){g:Nat}:act (l1.map (X.at w')++x2::l2.map (X.at w')) g↔act (l1++x::l2) g:=by
 constructor
 .rintro⟨y,hy,rfl⟩;rcases gH.1 hy with rfl|⟨z,hz,rfl⟩
  .exact⟨x,nh,hid.symm⟩
  exact⟨z,bQ hz,rfl⟩
 rintro⟨y,hy,rfl⟩;rcases mW hy with rfl|hz
 .exact⟨x2,gH.2 (.inl rfl),hid⟩
 exact⟨y.at w',gH.2 (.inr ⟨y,hz,rfl⟩),rfl⟩
theorem PO{w':ar}{x2:X}(hid:x2.id=x.id):(l1.map (X.at w')++x2::l2.map (X.at w')).map X.id=(l1++x::l2).map X.id:=by
 simp only[fh,cZ,List.map_map,hid];rfl
theorem Inv.SQ(h:Inv P c0 c1 S0 O0 gm (l1++x::l2) gs w t q){g2:aD}{w2:ar}{es:Array gw}(xm:J4 x.S x.O w w2 es)(hp:gU P c0 c1 x.S x.p x.b (own x.O w w2) g2 w2)(fn:dX)(pos:String) :
  Inv P c0 c1 S0 O0 gm (l1.map (X.at w2)++{ x with O:=own x.O w w2,g:=g2,w:=w2 }::l2.map (X.at w2)) (gs.setIfInBounds x.id g2) w2 (t++iB x.id fn pos es) q/\iP (fun c=>S0 c\/O0 c) w w2:=by
 have hx:=nh (x:=x) (l1:=l1) (l2:=l2);have hid:({ x with O:=own x.O w w2,g:=g2,w:=w2 }:X).id=x.id:=rfl;have Hq:=h.slot x hx;have hlt:x.id<gs.size:=(ai.1 Hq.1).1;have hne:=nT h.nodup;have hgrow:=xm.grow;have abt:c0<w.heap.size:=by obtain⟨s,tm,e⟩:=h.CH;exact eP e
 have abr:c1<w.heap.size:=by obtain⟨s,tm,e⟩:=h.CG;exact eP e
 have xO:∀c,x.O c->c<w.heap.size/\c≠c0/\c≠c1:=fun c hc=>h.geo.lt x hx c (.inr hc);have hrel:∀K:Nat->Prop,(∀c,K c->c<w.heap.size/\¬x.O c)->iP K w w2:=fun K hK=>⟨hgrow,fun c hc=>xm.keep c (hK c hc).1 (hK c hc).2⟩
 have Tv:∀c,own x.O w w2 c->c<w2.heap.size:=fun c hc=>by
  rcases hc with hc|hc
  .have:=(xO c hc).1;omega
  exact hc.2
 have Zr:∀z∈l1++l2,iP (fun c=>z.S c\/z.O c) w w2:=fun z hz=>hrel _ fun c hc=>by
  refine⟨(h.geo.lt z (bQ hz) c hc).1,fun ho=>?_⟩;have:=h.geo.ww x hx z (bQ hz) (fun e=>hne z hz e.symm) c ho;exact hc.elim this.1 this.2
 have ch:∀c,c<w.heap.size->(∀c',x.O c'->c'≠c)->Chan c w->Chan c w2:=fun c hcl hno ⟨s,tm,e⟩=>⟨s,tm,by rw[xm.keep c hcl (fun ho=>hno c ho rfl)];exact e⟩
 have hS:∀c,SL (l1++x::l2) x.id c->x.S c:=fun c ⟨y,hy,T4,hs⟩=>by
  have:=KZ h.nodup y hy x hx T4;subst this;exact hs
 have hO:∀c,OL (l1++x::l2) x.id c->x.O c:=fun c ⟨y,hy,T4,hs⟩=>by
  have:=KZ h.nodup y hy x hx T4;subst this;exact hs
 refine⟨⟨?_,?_,?_,?_,?_,?_,?_,?_,?_,?_,h.ne,h.wk0,h.st0⟩,hrel _ fun c hc=>⟨(h.geo.Je c hc).1,fun ho=>hc.elim (h.geo.wm x hx c ho) fun h0=>(h.geo.mw x hx c h0).2 ho⟩⟩
 .have:x.id≠0:=by have:=Hq.2;omega
  rw[aC this];exact h.zero
 .intro y hy;rcases gH.1 hy with rfl|⟨z,hz,rfl⟩
  .exact⟨bg hlt,Hq.2⟩
  have hs:=h.slot z (bQ hz);refine⟨?_,hs.2⟩;show(gs.setIfInBounds x.id g2)[z.id]?=_;rw[aC (fun e=>hne z hz e.symm)];exact hs.1
 .intro y hy;rcases gH.1 hy with rfl|⟨z,hz,rfl⟩
  .exact⟨.run hp,rfl⟩
  have hs:=h.ws z (bQ hz);exact⟨hs.1.rely (by rw[hs.2];exact Zr z hz),rfl⟩
 .rw[PO hid];exact h.nodup
 .intro i g hi hg ha;have ha':¬act (l1++x::l2) i:=fun a=>ha ((DI hid).2 a);have hix:x.id≠i:=fun e=>ha' ⟨x,hx,e⟩;rw[aC hix] at hg;rw[Deaf_other t hix _ (fun op hop=>by obtain⟨e,_,rfl⟩:=BI hop;rfl)];exact h.old i g hi hg ha'
 .intro j hj;have hj':gs.size<=j:=by simpa using hj
  rw[Deaf_other t (g':=x.id) (by omega) _ (fun op hop=>by obtain⟨e,_,rfl⟩:=BI hop;rfl)];exact h.above j hj'
 .have Xp:=h.pt.appW (k:=x.id) ⟨x,hx,rfl⟩ (W:=own x.O w w2) hgrow (u:=iB x.id fn pos es)
   (Eo (fun e he=>(xm.evs e he).mono (fun c hc=>hc.imp (fun hs=>⟨x,hx,rfl,hs⟩) id) fun c hc=>hc) fun c hc=>by
    rcases hc with hc|hc
    .have:=(h.geo.lt x hx c (.inl (hS c hc))).1;omega
    exact Tv c hc)
   (fun c hc=>hc.imp (fun ho=>⟨x,hx,rfl,ho⟩) fun hn=>hn.1) (fun c hc=>.inl (hO c hc))
   (fun c hc hs=>by
    rcases hc with hc|hc
    .exact h.geo.dj x hx c (hS c hs) hc
    have:=(h.geo.lt x hx c (.inl (hS c hs))).1;omega)
   (fun g hg Dv c hc=>by
    have lt':∀y∈l1++x::l2,y.id=g->¬(y.S c\/y.O c):=fun y hy Xi hyc=>by
     rcases hc with hc|hc
     .have:=h.geo.ww x hx y hy (fun e=>Dv (Xi.symm.trans e.symm)) c hc;exact hyc.elim this.1 this.2
     have:=(h.geo.lt y hy c hyc).1;omega
    exact⟨fun⟨y,hy,Xi,hs⟩=>lt' y hy Xi (.inl hs),fun⟨y,hy,Xi,hs⟩=>lt' y hy Xi (.inr hs)⟩)
   (fun g hg Dv c hc ⟨y,hy,Xi,ho⟩=>(h.geo.ww y hy x hx (fun e=>Dv (Xi.symm.trans e)) c ho).1 (hS c hc))
  refine Xp.congr (fun g=>DI hid) (fun g hg c=>?_) fun g hg c=>?_
  .constructor
   .rintro⟨y,hy,rfl,hs⟩;rcases gH.1 hy with rfl|⟨z,hz,rfl⟩
    .exact⟨x,hx,rfl,hs⟩
    exact⟨z,bQ hz,rfl,hs⟩
   rintro⟨y,hy,rfl,hs⟩;rcases mW hy with rfl|hz
   .exact⟨_,gH.2 (.inl rfl),rfl,hs⟩
   exact⟨y.at w2,gH.2 (.inr ⟨y,hz,rfl⟩),rfl,hs⟩
  by_cases e:g=x.id
  .subst e;simp only[if_true];constructor
   .rintro⟨y,hy,T4,hs⟩;rcases gH.1 hy with rfl|⟨z,hz,rfl⟩
    .exact hs
    exact absurd T4 (hne z hz)
   intro hs;exact⟨_,gH.2 (.inl rfl),rfl,hs⟩
  simp only[e,if_false];constructor
  .rintro⟨y,hy,rfl,hs⟩;rcases gH.1 hy with rfl|⟨z,hz,rfl⟩
   .exact absurd rfl e
   exact⟨z,bQ hz,rfl,hs⟩
  rintro⟨y,hy,rfl,hs⟩;rcases mW hy with rfl|hz
  .exact absurd rfl e
  exact⟨y.at w2,gH.2 (.inr ⟨y,hz,rfl⟩),rfl,hs⟩
 .have lift:∀ {Q:X->Prop},Q { x with O:=own x.O w w2,g:=g2,w:=w2 }->(∀z∈l1++l2,Q (z.at w2))->∀y∈l1.map (X.at w2)++{ x with O:=own x.O w w2,g:=g2,w:=w2 }::l2.map (X.at w2),Q y:=fun h1 h2 y hy=>by
   rcases gH.1 hy with rfl|⟨z,hz,rfl⟩
   .exact h1
   exact h2 z hz
  refine⟨fun c hc=>⟨by have:=(h.geo.Je c hc).1;omega,(h.geo.Je c hc).2⟩,h.geo.dj0,lift (fun c hc=>?_) fun z hz c hc=>⟨by have:=(h.geo.lt z (bQ hz) c hc).1;omega,(h.geo.lt z (bQ hz) c hc).2⟩,
   lift (fun c hs ho=>?_) fun z hz=>h.geo.dj z (bQ hz),lift (fun c h0=>⟨(h.geo.mw x hx c h0).1,fun ho=>?_⟩) fun z hz=>h.geo.mw z (bQ hz),lift (fun c ho hs=>?_) fun z hz=>h.geo.wm z (bQ hz),
   lift (lift (fun e=>absurd rfl e) fun z hz he c ho=>?_) fun z hz=>lift (fun he c ho=>?_) fun z' hz' he c ho=>h.geo.ww z (bQ hz) z' (bQ hz') he c ho⟩
  .rcases hc with hc|hc|hc
   .have:=h.geo.lt x hx c (.inl hc);exact⟨by omega,this.2⟩
   .have:=xO c hc;exact⟨by omega,this.2⟩
   exact⟨hc.2,by omega,by omega⟩
  .rcases ho with ho|ho
   .exact h.geo.dj x hx c hs ho
   have:=(h.geo.lt x hx c (.inl hs)).1;omega
  .rcases ho with ho|ho
   .exact(h.geo.mw x hx c h0).2 ho
   have:=(h.geo.Je c (.inr h0)).1;omega
  .rcases ho with ho|ho
   .exact h.geo.wm x hx c ho hs
   have:=(h.geo.Je c (.inl hs)).1;omega
  .rcases ho with ho|ho
   .exact h.geo.ww x hx z (bQ hz) he c ho
   have hz':=h.geo.lt z (bQ hz) c;exact⟨fun hs=>by have:=(hz' (.inl hs)).1;omega,fun hs=>by have:=(hz' (.inr hs)).1;omega⟩
  have:=h.geo.ww z (bQ hz) x hx he c ho;refine⟨this.1,fun hw=>hw.elim this.2 fun hn=>?_⟩;have:=(h.geo.lt z (bQ hz) c (.inr ho)).1;omega
 .exact ch c0 abt (fun c' hc'=>(xO c' hc').2.1) h.CH
 exact ch c1 abr (fun c' hc'=>(xO c' hc').2.2) h.CG
theorem Inv.replace(h:Inv P c0 c1 S0 O0 gm (l1++x::l2) gs w t q){x2:X}(hid:x2.id=x.id)(RD:x2.S=x.S)(VU:x2.O=x.O)(J8:WS P c0 c1 x2){w':ar}(hw2:x2.w=w'){gm':aD}{gs':Array aD}
  (g0:gs'[0]?=some gm') (gx:gs'[x.id]?=some x2.g) (gr:∀i,i≠0->i≠x.id->gs'[i]?=gs[i]?) (gz:gs'.size=gs.size)
  (hsz:w'.heap.size=w.heap.size) (Uj:∀c,c≠c0->c≠c1->w'.heap[c]?=w.heap[c]?) (CH:Chan c0 w') (CG:Chan c1 w') {t':Trace} (Xp:PT (act (l1++x::l2)) (SL (l1++x::l2)) (OL (l1++x::l2)) w.heap.size t')
  (N9:∀i,Deaf t' i=Deaf t i) (Xk:∀g g' w',Chan c0 w'->Chan c1 w'->Conc.woken P g g' w' gm'=gm') (hst:gm'.status=.running\/gm'.status=.blocked) :
  Inv P c0 c1 S0 O0 gm' (l1.map (X.at w')++x2::l2.map (X.at w')) gs' w' t' q/\iP (fun c=>S0 c\/O0 c) w w':=by
 have hx:=nh (x:=x) (l1:=l1) (l2:=l2);have hne:=nT h.nodup;have Hq:=h.slot x hx;have hrel:∀K:Nat->Prop,(∀c,K c->c≠c0/\c≠c1)->iP K w w':=fun K hK=>⟨by omega,fun c hc=>Uj c (hK c hc).1 (hK c hc).2⟩
 refine⟨⟨g0,?_,?_,?_,?_,?_,?_,?_,CH,CG,h.ne,Xk,hst⟩,hrel _ fun c hc=>(h.geo.Je c hc).2⟩
 .intro y hy;rcases gH.1 hy with rfl|⟨z,hz,rfl⟩
  .exact⟨by rw[hid];exact gx,by rw[hid];exact Hq.2⟩
  have hs:=h.slot z (bQ hz);refine⟨?_,hs.2⟩;show gs'[z.id]?=_;rw[gr z.id (by have:=hs.2;omega) (hne z hz)];exact hs.1
 .intro y hy;rcases gH.1 hy with rfl|⟨z,hz,rfl⟩
  .exact⟨J8,hw2⟩
  have hs:=h.ws z (bQ hz);exact⟨hs.1.rely (by rw[hs.2];exact hrel _ fun c hc=>(h.geo.lt z (bQ hz) c hc).2),rfl⟩
 .rw[PO hid];exact h.nodup
 .intro i g hi hg ha;have ha':¬act (l1++x::l2) i:=fun a=>ha ((DI hid).2 a);have hix:i≠x.id:=fun e=>ha' ⟨x,hx,e.symm⟩;rw[gr i (by omega) hix] at hg;rw[N9];exact h.old i g hi hg ha'
 .intro j hj;rw[N9];exact h.above j (by omega)
 .rw[hsz];refine Xp.congr (fun g=>DI hid) (fun g hg c=>?_) fun g hg c=>?_
  .constructor
   .rintro⟨y,hy,rfl,hs⟩;rcases gH.1 hy with rfl|⟨z,hz,rfl⟩
    .exact⟨x,hx,hid.symm,by rw[<-RD];exact hs⟩
    exact⟨z,bQ hz,rfl,hs⟩
   rintro⟨y,hy,rfl,hs⟩;rcases mW hy with rfl|hz
   .exact⟨_,gH.2 (.inl rfl),hid,by rw[RD];exact hs⟩
   exact⟨y.at w',gH.2 (.inr ⟨y,hz,rfl⟩),rfl,hs⟩
  constructor
  .rintro⟨y,hy,rfl,hs⟩;rcases gH.1 hy with rfl|⟨z,hz,rfl⟩
   .exact⟨x,hx,hid.symm,by rw[<-VU];exact hs⟩
   exact⟨z,bQ hz,rfl,hs⟩
  rintro⟨y,hy,rfl,hs⟩;rcases mW hy with rfl|hz
  .exact⟨_,gH.2 (.inl rfl),hid,by rw[VU];exact hs⟩
  exact⟨y.at w',gH.2 (.inr ⟨y,hz,rfl⟩),rfl,hs⟩
 rw[hsz]
 have lift:∀ {Q:X->Prop},Q x2->(∀z∈l1++l2,Q (z.at w'))->∀y∈l1.map (X.at w')++x2::l2.map (X.at w'),Q y:=fun h1 h2 y hy=>by
  rcases gH.1 hy with rfl|⟨z,hz,rfl⟩
  .exact h1
  exact h2 z hz
 refine⟨h.geo.Je,h.geo.dj0,lift (by rw[RD,VU];exact h.geo.lt x hx) fun z hz=>h.geo.lt z (bQ hz),lift (by rw[RD,VU];exact h.geo.dj x hx) fun z hz=>h.geo.dj z (bQ hz),
  lift (by rw[RD,VU];exact h.geo.mw x hx) fun z hz=>h.geo.mw z (bQ hz),lift (by rw[VU];exact h.geo.wm x hx) fun z hz=>h.geo.wm z (bQ hz),
  lift (lift (fun e=>absurd rfl e) fun z hz he=>?_) fun z hz=>lift (fun he=>?_) fun z' hz' he=>h.geo.ww z (bQ hz) z' (bQ hz') he⟩
 .rw[VU];rw[hid] at he;exact h.geo.ww x hx z (bQ hz) he
 rw[VU,RD];rw[hid] at he;exact h.geo.ww z (bQ hz) x hx he
theorem Inv.cut(h:Inv P c0 c1 S0 O0 gm (l1++x::l2) gs w t q){g2:aD}{n:Nat}(hq:QuitsD P n 0 g2){w':ar}{gm':aD}{gs':Array aD}
  (g0:gs'[0]?=some gm') (gx:gs'[x.id]?=some g2) (gr:∀i,i≠0->i≠x.id->gs'[i]?=gs[i]?) (gz:gs'.size=gs.size)
  (hsz:w'.heap.size=w.heap.size) (Uj:∀c,c≠c0->c≠c1->w'.heap[c]?=w.heap[c]?) (CH:Chan c0 w') (CG:Chan c1 w') {t':Trace} (Xp:PT (fun g=>act (l1++x::l2) g/\g≠x.id) (SL (l1++x::l2)) (OL (l1++x::l2)) w.heap.size t')
  (N9:∀i,Deaf t' i=Deaf t i) (Xk:∀g g' w',Chan c0 w'->Chan c1 w'->Conc.woken P g g' w' gm'=gm') (hst:gm'.status=.running\/gm'.status=.blocked) :
  Inv P c0 c1 S0 O0 gm' (l1.map (X.at w')++l2.map (X.at w')) gs' w' t' (upd q x.id n)/\iP (fun c=>S0 c\/O0 c) w w':=by
 have hx:=nh (x:=x) (l1:=l1) (l2:=l2);have hne:=nT h.nodup;have Hq:=h.slot x hx;have hrel:∀K:Nat->Prop,(∀c,K c->c≠c0/\c≠c1)->iP K w w':=fun K hK=>⟨by omega,fun c hc=>Uj c (hK c hc).1 (hK c hc).2⟩
 have RA:∀g,act (l1.map (X.at w')++l2.map (X.at w')) g↔act (l1++x::l2) g/\g≠x.id:=by
  intro g;constructor
  .rintro⟨y,hy,rfl⟩;obtain⟨z,hz,rfl⟩:=pO.1 hy;exact⟨⟨z,bQ hz,rfl⟩,hne z hz⟩
  rintro⟨⟨y,hy,rfl⟩,hn⟩;rcases mW hy with rfl|hz
  .exact absurd rfl hn
  exact⟨y.at w',pO.2 ⟨y,hz,rfl⟩,rfl⟩
 refine⟨⟨g0,?_,?_,?_,?_,?_,?_,?_,CH,CG,h.ne,Xk,hst⟩,hrel _ fun c hc=>(h.geo.Je c hc).2⟩
 .intro y hy;obtain⟨z,hz,rfl⟩:=pO.1 hy;have hs:=h.slot z (bQ hz);refine⟨?_,hs.2⟩;show gs'[z.id]?=_;rw[gr z.id (by have:=hs.2;omega) (hne z hz)];exact hs.1
 .intro y hy;obtain⟨z,hz,rfl⟩:=pO.1 hy;have hs:=h.ws z (bQ hz);exact⟨hs.1.rely (by rw[hs.2];exact hrel _ fun c hc=>(h.geo.lt z (bQ hz) c hc).2),rfl⟩
 .have e:(l1.map (X.at w')++l2.map (X.at w')).map X.id=l1.map X.id++l2.map X.id:=by simp only[fh,List.map_map];rfl
  rw[e];have:=h.nodup;simp only[fh,cZ] at this;exact this.sublist (List.Sublist.append_left (List.sublist_cons_self _ _) _)
 .intro i g hi hg ha
  by_cases hix:i=x.id
  .subst hix;rw[gx] at hg;cases hg;rw[upd_same,N9,h.pt.vJ x.id ⟨x,hx,rfl⟩];exact hq
  have ha':¬act (l1++x::l2) i:=fun a=>ha ((RA i).2 ⟨a,hix⟩);rw[gr i (by omega) hix] at hg;rw[N9,upd_ne q n hix];exact h.old i g hi hg ha'
 .intro j hj;rw[N9];exact h.above j (by omega)
 .rw[hsz];refine Xp.congr RA (fun g hg c=>?_) fun g hg c=>?_
  .constructor
   .rintro⟨y,hy,rfl,hs⟩;obtain⟨z,hz,rfl⟩:=pO.1 hy;exact⟨z,bQ hz,rfl,hs⟩
   rintro⟨y,hy,rfl,hs⟩;rcases mW hy with rfl|hz
   .exact absurd rfl hg.2
   exact⟨y.at w',pO.2 ⟨y,hz,rfl⟩,rfl,hs⟩
  constructor
  .rintro⟨y,hy,rfl,hs⟩;obtain⟨z,hz,rfl⟩:=pO.1 hy;exact⟨z,bQ hz,rfl,hs⟩
  rintro⟨y,hy,rfl,hs⟩;rcases mW hy with rfl|hz
  .exact absurd rfl hg.2
  exact⟨y.at w',pO.2 ⟨y,hz,rfl⟩,rfl,hs⟩
 rw[hsz]
 have lift:∀ {Q:X->Prop},(∀z∈l1++l2,Q (z.at w'))->∀y∈l1.map (X.at w')++l2.map (X.at w'),Q y:=fun h2 y hy=>by
  obtain⟨z,hz,rfl⟩:=pO.1 hy;exact h2 z hz
 exact⟨h.geo.Je,h.geo.dj0,lift fun z hz=>h.geo.lt z (bQ hz),lift fun z hz=>h.geo.dj z (bQ hz),lift fun z hz=>h.geo.mw z (bQ hz),lift fun z hz=>h.geo.wm z (bQ hz),
  lift fun z hz=>lift fun z' hz' he=>h.geo.ww z (bQ hz) z' (bQ hz') he⟩
theorem PT.Sv{A:Nat->Prop}{S O:Nat->Nat->Prop}{B k:Nat}(h:PT A S O B t)(hk:¬A k)(hk0:k≠0)(hu:∀op∈u,op.g=k/\op.act.touch?=none/\op.act.low B):PT A S O B (t++u):=by
 have hn:=fun op hop=>(hu op hop).2.1;refine⟨Ck h.clean hn,fun i a c ha hc=>?_,fun g hg i a c ha hc hs hw=>?_,fun g hg i a c ha hc ho=>?_,fun i g h1 h2 h3=>?_,?_,fun g hg=>?_,seen_app h.seen fun op hop=>(hu op hop).2.2,h.pos⟩
 .obtain⟨hi,ha'⟩:=fA hn ha;rcases h.known i a c ha' hc with hk|⟨g,hg,N4,Lt⟩
  .exact .inl (hk.app u)
  exact .inr ⟨g,hg,g?_app N4,Lt⟩
 .obtain⟨hi,ha'⟩:=fA hn ha;exact(h.wk g hg i a c ha' hc hs hw).app u
 .obtain⟨hi,ha'⟩:=fA hn ha;exact g?_app (h.ow g hg i a c ha' hc ho)
 .obtain⟨x,c,hx,_⟩:=zV h3;obtain⟨hi,_⟩:=fA hn hx;have N4:t.g? i=some g:=by rw[<-g?_old (u:=u) hi];exact h1
  rcases h.over i g N4 h2 (rJ hi h3) with⟨j,hj,hb⟩|N5
  .exact .inl ⟨j,g?_app hj,hb_app u hb⟩
  exact .inr N5
 .rw[Deaf_other t hk0 u fun op hop=>(hu op hop).1];exact h.hears
 rw[Deaf_other t (g:=g) (g':=k) (fun e=>hk (by subst e;exact hg)) u fun op hop=>(hu op hop).1];exact h.vJ g hg
theorem Inv.slip(h:Inv P c0 c1 S0 O0 gm L gs w t q){i:Nat}{y:aD}(hi:gs[i]?=some y)(kC:0<i)(hrun:y.status=.running)(ha:¬act L i)(sl:Option (Nat × Nat)) :
  ∃gs' aN q',runT P (rj gs w sl) i=(.next (rj gs' w sl),aN)/\Inv P c0 c1 S0 O0 gm L gs' w (t++aN) q'/\gs'.size=gs.size/\sumTo gs.size q'<sumTo gs.size q:=by
 have hq:=h.old i y kC hi ha;have hi0:(i==0)=false:=by simp;omega
 have hlt:i<gs.size:=(ai.1 hi).1;cases Z7:q i with
 |zero=>rw[Z7] at hq;rw[hq.1] at hrun;cases hrun
 |succ k=>
  rw[Z7] at hq;rcases hq with⟨hf,_⟩|⟨_,g',es,hm,Z1,hq'⟩
  .rw[hf] at hrun;cases hrun
  have jR:=Di (P:=P) (sl:=sl) (i:=i) hi (by rw[hi0];exact Z1 w);rw[h.woken h.CH h.CG] at jR
  have ads:sumTo gs.size (upd q i k)+(k+1)=sumTo gs.size q+k:=by
   have:=sumTo_upd q k id hlt;simpa [Z7] using this
  have Gf:∀op∈iB i y.frame.fn y.frame.place es,op.g=i/\op.act.touch?=none/\op.act.low w.heap.size:=fun op hop=>by
   obtain⟨e,he,rfl⟩:=BI hop;exact⟨rfl,touch_mute (hm e he),low_mute (hm e he) _⟩
  refine⟨_,_,upd q i k,jR,⟨?_,fun x hx=>?_,h.ws,h.nodup,fun j z hj hz hna=>?_,fun j hj=>?_,h.pt.Sv ha (by omega) Gf,h.geo,h.CH,h.CG,h.ne,h.wk0,h.st0⟩,by simp,by omega⟩
  .rw[aC (by omega)];exact h.zero
  .have hne:i≠x.id:=fun e=>ha ⟨x,hx,e.symm⟩;rw[aC hne];exact h.slot x hx
  .by_cases Xx:i=j
   .subst Xx;rw[bg hlt] at hz;obtain rfl:=bj hz;rw[upd_same,Deaf_own];exact hq'
   rw[aC Xx] at hz;rw[upd_ne q k (BF Xx),Deaf_other t Xx _ (fun op hop=>(Gf op hop).1)];exact h.old j z hj hz hna
  have hj':gs.size<=j:=by simpa using hj
  rw[Deaf_other t (g':=i) (by omega) _ (fun op hop=>(Gf op hop).1)];exact h.above j hj'
theorem Inv.ZN(h:Inv P c0 c1 S0 O0 gm L gs w t q){g2:aD}{w2:ar}{es:Array gw}(xm:J4 S0 O0 w w2 es)(hrun:g2.status=.running)(fn:dX)(pos:String) :
  Inv P c0 c1 S0 (own O0 w w2) g2 (L.map (X.at w2)) (gs.setIfInBounds 0 g2) w2 (t++iB 0 fn pos es) q:=by
 have hgrow:=xm.grow;have N3:0<gs.size:=h.size;have abt:c0<w.heap.size:=by obtain⟨s,tm,e⟩:=h.CH;exact eP e
 have abr:c1<w.heap.size:=by obtain⟨s,tm,e⟩:=h.CG;exact eP e
 have Tv:∀c,own O0 w w2 c->c<w2.heap.size:=fun c hc=>by
  rcases hc with hc|hc
  .have:=(h.geo.Je c (.inr hc)).1;omega
  exact hc.2
 have Zr:∀z∈L,iP (fun c=>z.S c\/z.O c) w w2:=fun z hz=>⟨hgrow,fun c hc=>xm.keep c (h.geo.lt z hz c hc).1 fun ho=>by
  have:=h.geo.mw z hz c ho;exact hc.elim this.1 this.2⟩
 have ch:∀c,c<w.heap.size->(∀c',O0 c'->c'≠c)->Chan c w->Chan c w2:=fun c hcl hno ⟨s,tm,e⟩=>⟨s,tm,by rw[xm.keep c hcl (fun ho=>hno c ho rfl)];exact e⟩
 have Gf:=Eo (k:=0) (fn:=fn) (pos:=pos) xm.evs (B:=w2.heap.size) fun c hc=>by
  rcases hc with hc|hc
  .have:=(h.geo.Je c (.inl hc)).1;omega
  exact Tv c hc
 have Xp:=h.pt.app0 hgrow Gf
  (fun g ⟨y0,NU,agI⟩ c hc ⟨y,hy,Xi,ho⟩=>by
   rcases hc with hc|hc|hc
   .exact h.geo.wm y hy c ho hc
   .exact(h.geo.mw y hy c hc).2 ho
   have:=(h.geo.lt y hy c (.inr ho)).1;omega)
  (fun g ⟨y0,NU,agI⟩ c hc ⟨y,hy,Xi,hs⟩=>by
   rcases hc with hc|hc
   .exact(h.geo.mw y hy c hc).1 hs
   have:=(h.geo.lt y hy c (.inl hs)).1;omega)
 have N9:∀i,Deaf (t++iB 0 fn pos es) i=Deaf t i:=fun i=>iv _ _ _ fun op hop=>(Gf op hop).2.2.1;refine⟨?_,fun y hy=>?_,fun y hy=>?_,by rw[T3];exact h.nodup,fun i g hi hg ha=>?_,fun j hj=>?_,?_,?_,ch c0 abt (fun c' hc'=>(h.geo.Je c' (.inr hc')).2.1) h.CH,ch c1 abr (fun c' hc'=>(h.geo.Je c' (.inr hc')).2.2) h.CG,h.ne,fun g g' w' _ _=>woken_run hrun,.inl hrun⟩
 .rw[bg N3]
 .obtain⟨x,hx,rfl⟩:=nU.1 hy;have hs:=h.slot x hx;refine⟨?_,hs.2⟩;show(gs.setIfInBounds 0 g2)[x.id]?=_;rw[aC (by have:=hs.2;omega)];exact hs.1
 .obtain⟨x,hx,rfl⟩:=nU.1 hy;refine⟨(h.ws x hx).1.rely ?_,rfl⟩;rw[(h.ws x hx).2];exact Zr x hx
 .rw[aC (by omega)] at hg;rw[N9];exact h.old i g hi hg fun a=>ha (JY.2 a)
 .rw[N9];exact h.above j (by simpa using hj)
 .exact Xp.congr (fun g=>JY) (fun g _ c=>Zh) fun g _ c=>Zj
 have g1:=h.geo.at (w':=w2) hgrow;refine⟨fun c hc=>?_,fun c hs ho=>?_,g1.lt,g1.dj,fun x hx c ho=>?_,g1.wm,g1.ww⟩
 .rcases hc with hc|hc|hc
  .exact g1.Je c (.inl hc)
  .exact g1.Je c (.inr hc)
  exact⟨hc.2,by omega,by omega⟩
 .rcases ho with ho|ho
  .exact h.geo.dj0 c hs ho
  have:=(h.geo.Je c (.inl hs)).1;omega
 rcases ho with ho|ho
 .exact g1.mw x hx c ho
 obtain⟨z,hz,rfl⟩:=nU.1 hx;exact⟨fun hs=>by have:=(h.geo.lt z hz c (.inl hs)).1;omega,fun hs=>by have:=(h.geo.lt z hz c (.inr hs)).1;omega⟩
theorem Inv.spawn(h:Inv P c0 c1 S0 O0 gm L gs w t q){g' child:aD}(hrun:g'.status=.running){Sk S' O':Nat->Prop}{b:Bool}{p:ak}(hSk:∀c,Sk c->S0 c\/O0 c)(M3:∀c,S' c->S0 c\/O0 c)(hO':∀c,O' c->O0 c/\¬Sk c/\¬S' c)(hp:gU P c0 c1 Sk p b (fun _=>False) child w){y z:MemOp}
  (hy:y.g=0/\y.act=.go gs.size) (hz:z.g=gs.size/\z.act=.start) :
  Inv P c0 c1 S' O' g' (L++[⟨gs.size,Sk,p,b,fun _=>False,child,w⟩]) ((gs.setIfInBounds 0 g').push child) w (t++#[y,z]) q:=by
 have N3:0<gs.size:=h.size;have LC:∀x∈L,x.id<gs.size:=fun x hx=>(ai.1 (h.slot x hx).1).1;have hna:¬act L gs.size:=fun⟨x,hx,e⟩=>by have:=LC x hx;omega
 have hw:∀op∈#[y,z],n9 op:=fun op hop=>by
  simp only[eY,cy,gO,or_false] at hop;rcases hop with rfl|rfl
  .exact⟨by rw[hy.2];simp,by rw[hy.2];simp⟩
  exact⟨by rw[hz.2];simp,by rw[hz.2];simp⟩
 have N9:∀i,Deaf (t++#[y,z]) i=Deaf t i:=fun i=>iv _ _ _ hw;have hmem:∀ {x:X},x∈L++[⟨gs.size,Sk,p,b,fun _=>False,child,w⟩]↔x∈L\/x=⟨gs.size,Sk,p,b,fun _=>False,child,w⟩:=by intro x;simp
 have Xp:=h.pt.spawn (ax _) hna (by omega) (h.above _ (ax _)) hy hz (Sk:=Sk) fun g ⟨x0,hx0,hg0⟩ c hc ⟨x,hx,Jk,ho⟩=>by
  rcases hSk c hc with hs|hs
  .exact h.geo.wm x hx c ho hs
  exact(h.geo.mw x hx c hs).2 ho
 have aen:∀c,Sk c->c<w.heap.size/\c≠c0/\c≠c1:=fun c hc=>h.geo.Je c (hSk c hc);refine⟨?_,fun x hx=>?_,fun x hx=>?_,?_,fun i g hi hg ha=>?_,fun j hj=>?_,?_,?_,h.CH,h.CG,h.ne,fun g g' w' _ _=>woken_run hrun,.inl hrun⟩
 .rw[Array.getElem?_push_lt (by simpa using N3)];simp
 .rcases hmem.1 hx with hx|rfl
  .have hs:=h.slot x hx;have:=LC x hx;refine⟨?_,hs.2⟩;rw[ly];rw[if_neg (by simp;omega),aC (by have:=hs.2;omega)];exact hs.1
  refine⟨?_,N3⟩;rw[ly];simp
 .rcases hmem.1 hx with hx|rfl
  .exact h.ws x hx
  exact⟨.run hp,rfl⟩
 .simp only[fh,cZ,List.map_nil];rw[List.nodup_append];refine⟨h.nodup,by simp,fun a ha b hb e=>?_⟩;obtain⟨x,hx,rfl⟩:=dN.1 ha;simp only[j5] at hb;have:=LC x hx;omega
 .have hns:i≠gs.size:=fun e=>ha ⟨_,hmem.2 (.inr rfl),e.symm⟩;rw[ly,if_neg (by simp;omega),aC (by omega)] at hg;rw[N9];exact h.old i g hi hg fun⟨x,hx,e⟩=>ha ⟨x,hmem.2 (.inl hx),e⟩
 .rw[N9];exact h.above j (by simp at hj;omega)
 .refine Xp.congr (fun g=>?_) (fun g hg c=>?_) fun g hg c=>?_
  .constructor
   .rintro⟨x,hx,rfl⟩;rcases hmem.1 hx with hx|rfl
    .exact .inl ⟨x,hx,rfl⟩
    exact .inr rfl
   rintro(⟨x,hx,rfl⟩|rfl)
   .exact⟨x,hmem.2 (.inl hx),rfl⟩
   exact⟨_,hmem.2 (.inr rfl),rfl⟩
  .by_cases e:g=gs.size
   .subst e;simp only[if_true];constructor
    .rintro⟨x,hx,hxe,hs⟩;rcases hmem.1 hx with hx|rfl
     .have:=LC x hx;omega
     exact hs
    intro hs;exact⟨_,hmem.2 (.inr rfl),rfl,hs⟩
   simp only[e,if_false];constructor
   .rintro⟨x,hx,rfl,hs⟩;rcases hmem.1 hx with hx|rfl
    .exact⟨x,hx,rfl,hs⟩
    exact absurd rfl e
   rintro⟨x,hx,rfl,hs⟩;exact⟨x,hmem.2 (.inl hx),rfl,hs⟩
  by_cases e:g=gs.size
  .subst e;simp only[if_true];constructor
   .rintro⟨x,hx,hxe,hs⟩;rcases hmem.1 hx with hx|rfl
    .have:=LC x hx;omega
    exact hs
   intro hs;exact hs.elim
  simp only[e,if_false];constructor
  .rintro⟨x,hx,rfl,hs⟩;rcases hmem.1 hx with hx|rfl
   .exact⟨x,hx,rfl,hs⟩
   exact absurd rfl e
  rintro⟨x,hx,rfl,hs⟩;exact⟨x,hmem.2 (.inl hx),rfl,hs⟩
 have lift:∀ {Q:X->Prop},(∀x∈L,Q x)->Q ⟨gs.size,Sk,p,b,fun _=>False,child,w⟩->∀x∈L++[⟨gs.size,Sk,p,b,fun _=>False,child,w⟩],Q x:=fun h1 h2 x hx=>by
  rcases hmem.1 hx with hx|rfl
  .exact h1 x hx
  exact h2
 refine⟨fun c hc=>h.geo.Je c (hc.elim (M3 c) fun h=>.inr (hO' c h).1),fun c hs ho=>(hO' c ho).2.2 hs,lift h.geo.lt fun c hc=>aen c (by simpa using hc),lift h.geo.dj fun c _ ho=>ho,lift (fun x hx c ho=>h.geo.mw x hx c (hO' c ho).1) fun c ho=>⟨(hO' c ho).2.1,fun hf=>hf⟩,
  lift (fun x hx c ho hs=>?_) fun c ho=>ho.elim,lift (fun x hx=>lift (fun x' hx' he c ho=>h.geo.ww x hx x' hx' he c ho) fun he c ho=>⟨fun hs=>?_,fun hf=>hf⟩) (lift (fun x hx he c ho=>ho.elim) fun he c ho=>ho.elim)⟩
 .rcases M3 c hs with hs|hs
  .exact h.geo.wm x hx c ho hs
  exact(h.geo.mw x hx c hs).2 ho
 rcases hSk c hs with hs|hs
 .exact h.geo.wm x hx c ho hs
 exact(h.geo.mw x hx c hs).2 ho
end
section
variable{α:Type}{D E:α->α->Prop}
theorem oV.Ds{f:α->α}:∀l:List α,(∀x∈l,E (f x) x)->oV E (l.map f) l
 |[],_=>.nil
 |x::l,h=>.cons (h x (by simp)) (oV.Ds l fun y hy=>h y (by simp[hy]))
theorem LT.TL{f:α->α}{x x':α}(hd:D x' x){l2:List α}(h2:∀z∈l2,E (f z) z):∀ {l1:List α},(∀z∈l1,E (f z) z)->LT D E (l1.map f++x'::l2.map f) (l1++x::l2)
 |[],_=>.head hd (.Ds l2 h2)
 |y::l,h=>.tail (h y (by simp)) (LT.TL hd h2 fun z hz=>h z (by simp[hz]))
end
def AP(w:ar):(Nat->Question->Nat) × Os × Array (Nat × ByteArray):=(w.tape,w.os,w.output)
theorem J4.AP{S O:Nat->Prop}{w w':ar}{es:Array gw}(h:J4 S O w w' es):Lag.AP w'=Lag.AP w:=by
 simp only[Lag.AP,h.tape,h.os,h.out]
def Goal(P:aL)(Fin:List ak->List ak->(Nat->Prop)->(Nat->Prop)->aD->ar->Prop)(gs:Array aD)(w:ar)(sl:Option (Nat × Nat))(t:Trace):Prop:=
 ∃N gs' g' w' sl' t' q' acc out S O,runNT P N (rj gs w sl) t=(.next (rj gs' w' sl'),t')/\Beside P gs' g' w' t' q'/\Fin acc out S O g' w'/\out.Perm acc/\AP w'=AP w/\w.heap.size<=w'.heap.size
def pend(L:List X):List Value:=(L.filter (·.b)).map (·.p)
structure Bz(L:List X)(f m:Nat)(acc out:List ak):Prop where
 m:L.length=m
 f:(pend L).length=f
 perm:(out++pend L).Perm acc
section
variable{P:aL}{c0 c1:Nat}{z0 z1:ak}{Fin:List ak->List ak->(Nat->Prop)->(Nat->Prop)->aD->ar->Prop}{S0 O0:Nat->Prop}{gm:aD}{L l1 l2:List X}{x x2:X}{gs gs':Array aD}{w w':ar}{t:Trace}{q:Nat->Nat}
 {sl sl':Option (Nat × Nat)} {f m:Nat} {acc out:List ak} {aN:Array MemOp}
theorem Goal.step(h:stepT P (rj gs w sl)=(.next (rj gs' w' sl'),aN))(ht:AP w'=AP w)(hs:w.heap.size<=w'.heap.size)(hg:Goal P Fin gs' w' sl' (t++aN)):Goal P Fin gs w sl t:=by
 obtain⟨N,gs2,g2,w2,Zp,t2,q2,acc,out,S,O,h1,h2,h3,h4,h5,h6⟩:=hg;exact⟨N+1,gs2,g2,w2,Zp,t2,q2,acc,out,S,O,by simp only[runNT,h];exact h1,h2,h3,h4,h5.trans ht,aO hs h6⟩
theorem qC(a b:List X):pend (a++b)=pend a++pend b:=by simp[pend]
theorem rz(a:List X):pend (a.map (X.at w))=pend a:=by
 induction a with
 |nil=>rfl
 |cons y a ih=>
  unfold pend at ih ⊢;simp only[cZ,List.filter_cons];have e:(X.at w y).b=y.b:=rfl;rw[e];cases y.b
  .simpa using ih
  simp only[if_true,cZ,ih];rfl
theorem qg(a:List X):pend (x::a)=(if x.b then[x.p] else[])++pend a:=by
 unfold pend;cases h:x.b<;>simp[List.filter_cons,h]
theorem WG:∀L:List X,(pend L).length<=L.length:=by
 intro L;unfold pend;rw[List.length_map];exact List.length_filter_le _ _
theorem Bz.mem(h:Bz (l1++x::l2) f m acc out)(hb:x.b=true):x.p∈acc:=by
 refine h.perm.mem_iff.1 ?_;simp[pend,hb]
theorem Bz.le(h:Bz L f m acc out):f<=m:=by rw[<-h.m,<-h.f];exact WG L
theorem Bz.at(h:Bz L f m acc out)(w:ar):Bz (L.map (X.at w)) f m acc out:=⟨by simpa using h.m,by rw[rz];exact h.f,by rw[rz];exact h.perm⟩
theorem Bz.mid(h:Bz (l1++x::l2) f m acc out)(hb:x2.b=x.b)(hp:x2.p=x.p)(w:ar):Bz (l1.map (X.at w)++x2::l2.map (X.at w)) f m acc out:=by
 have e:pend (l1.map (X.at w)++x2::l2.map (X.at w))=pend (l1++x::l2):=by
  rw[qC,qC,qg,qg,rz,rz,hb,hp]
 exact⟨by have:=h.m;simp at this ⊢;exact this,by rw[e];exact h.f,by rw[e];exact h.perm⟩
theorem Bz.found(h:Bz (l1++x::l2) f m acc out)(hb:x.b=true)(hb2:x2.b=false)(w:ar):∃f',f=f'+1/\Bz (l1.map (X.at w)++x2::l2.map (X.at w)) f' m acc (out++[x.p]):=by
 have e:pend (l1.map (X.at w)++x2::l2.map (X.at w))=pend l1++pend l2:=by
  rw[qC,qg,rz,rz,hb2];simp
 have e2:pend (l1++x::l2)=pend l1++x.p::pend l2:=by rw[qC,qg,hb];simp
 have hf:=h.f;rw[e2] at hf;simp only[List.length_append,List.length_cons] at hf;refine⟨(pend l1).length+(pend l2).length,by omega,by have:=h.m;simp at this ⊢;exact this,by rw[e];simp,?_⟩;rw[e];refine List.Perm.trans ?_ h.perm;rw[e2];simp only[List.append_assoc];refine List.Perm.append_left out ?_;show(x.p::(pend l1++pend l2)).Perm _;exact List.perm_middle.symm
theorem Bz.last(h:Bz (l1++x::l2) f (m+1) acc out)(hb:x.b=false)(w:ar):Bz (l1.map (X.at w)++l2.map (X.at w)) f m acc out:=by
 have e:pend (l1.map (X.at w)++l2.map (X.at w))=pend (l1++x::l2):=by
  rw[qC,qC,qg,rz,rz,hb];simp
 exact⟨by have:=h.m;simp at this ⊢;omega,by rw[e];exact h.f,by rw[e];exact h.perm⟩
theorem Bz.more(h:Bz L f m acc out):Bz (L++[x]) (f+x.b.toNat) (m+1) (acc++if x.b then[x.p] else[]) out:=by
 have e:pend (L++[x])=pend L++(if x.b then[x.p] else[]):=by rw[qC,qg];simp[pend]
 refine⟨by have:=h.m;simp;exact this,?_,?_⟩
 .rw[e];have:=h.f;cases x.b<;>simp[this]
 rw[e,<-List.append_assoc];exact h.perm.append_right _
theorem Vm(h:WS P c0 c1 x):Acc (Dn P c0) x:=by
 cases h with
 |run h=>exact Bu P c0 c1 h x.id
 |@uy g hb ha hp he=>
  have h2:gU P c0 c1 x.S x.p true x.O g x.w:=.BR ha hp;have ya:=Bu P c0 c1 h2 x.id;refine ya.inv (.zi ha ?_);refine⟨x.w,.refl _ _,?_⟩;rw[<-he,<-hb];rfl
 |@ux g n hb ha hq he=>
  have h2:gU P c0 c1 x.S x.p false x.O g x.w:=.BQ ha hq;have ya:=Bu P c0 c1 h2 x.id;refine ya.inv (.zi ha ?_);refine⟨x.w,.refl _ _,?_⟩;rw[<-he,<-hb];rfl
theorem Inv.ZJ(h:Inv P c0 c1 S0 O0 gm L gs w t q)(hrun:gm.status≠.blocked)(i c:Nat):w8 (gs.setIfInBounds i ph) c false=[]:=by
 refine partners_nil fun j y hy=>?_;rcases getElem?_stand gs i j y hy with⟨_,rfl⟩|⟨_,hy⟩
 .exact offersAt_ph _ _
 rcases jf j with rfl|kC
 .rw[h.zero] at hy;cases hy;exact mO hrun _ _
 by_cases ha:act L j
 .obtain⟨x,hx,rfl⟩:=ha;rw[(h.slot x hx).1] at hy;cases hy;cases(h.ws x hx).1 with
  |run hp=>exact mO (by rw[hp.running];simp) _ _
  |uy _ _ _ e=>rw[e];exact offersAt_parked_send' _ _ _ _ _ _
  |ux _ _ _ e=>rw[e];exact offersAt_parked_send' _ _ _ _ _ _
 exact mO (by rcases(h.old j y kC hy ha).status with e|e<;>rw[e]<;>simp) _ _
theorem xg(hw:x.w=w){w2:ar}(hr:iP (fun c=>x.S c\/x.O c) w w2):Sh (x.at w2) x:=⟨w2,by rw[hw];exact hr,rfl⟩
theorem Inv.zi(h:Inv P c0 c1 S0 O0 gm (l1++x::l2) gs w t q)(hrun:gm.status=.running){c:Nat}{v:ak}(ha:AtSend P c v x.g)(hc:c=c0\/c=c1)(J8:WS P c0 c1 { x with g:=iA x.g #[nB c v zS] .send })(sl:Option (Nat × Nat)) :
  ∃gs',runT P (rj gs w sl) x.id=(.next (rj gs' w sl),#[])/\Inv P c0 c1 S0 O0 gm (l1.map (X.at w)++{ x with g:=iA x.g #[nB c v zS] .send }::l2.map (X.at w)) gs' w t q:=by
 have hx:=nh (x:=x) (l1:=l1) (l2:=l2);have hs:=h.slot x hx;have hlt:x.id<gs.size:=(ai.1 hs.1).1;have hch:Chan c w:=hc.elim (fun e=>e▸h.CH) fun e=>e▸h.CG;obtain⟨s,tm,hch⟩:=hch;have hid:(x.id==0)=false:=by have:=hs.2;simp;omega
 have jR:=crowd_waits (P:=P) (sl:=sl) hs.1 (show fo P (x.id==0) x.g w=_ by rw[hid];exact ha.2.2.2 w) (fun cc hcc=>by
  simp only[eY,j5] at hcc;subst hcc
  exact ways_send_none hch (Nat.zero_le _) (h.ZJ (by rw[hrun];simp) _ _))
 refine⟨_,jR,?_⟩
 have:=(h.replace (x2:={ x with g:=iA x.g #[nB c v zS] .send }) rfl rfl rfl J8 (h.ws x hx).2 (w':=w) (gm':=gm) (gs':=gs.setIfInBounds x.id (iA x.g #[nB c v zS] .send)) (t':=t)
  (by rw[aC (by have:=hs.2;omega)];exact h.zero) (bg hlt) (fun i _ hi=>aC (BF hi)) (by simp) rfl (fun _ _ _=>rfl) h.CH h.CG h.pt (fun _=>rfl) h.wk0 h.st0).1
 exact this
theorem xR{wn:ar}(hrun:gm.status=.running)
  (adO:∀L gs w sl t q,Inv P c0 c1 S0 O0 gm L gs w t q->Bz L f m acc out->iP (fun c=>S0 c\/O0 c) wn w->∃gs' w' aN,runT P (rj gs w sl) 0=(.next (rj gs' w' sl),aN)/\AP w'=AP w/\w.heap.size<=w'.heap.size/\Goal P Fin gs' w' sl (t++aN)) :
  ∀L gs w sl t q,Inv P c0 c1 S0 O0 gm L gs w t q->Bz L f m acc out->iP (fun c=>S0 c\/O0 c) wn w->Goal P Fin gs w sl t:=by
 have key:∀L,Acc (LT (Dn P c0) Sh) L->∀M L0 gs w sl t q,oV Sh L0 L->sumTo gs.size q=M->Inv P c0 c1 S0 O0 gm L0 gs w t q->Bz L0 f m acc out->iP (fun c=>S0 c\/O0 c) wn w->Goal P Fin gs w sl t:=by
  intro L hL
  induction hL with
  |intro L _ ihL=>
   intro M
   induction M using Nat.strongRecOn with
   |ind M ihM=>
    intro L0 gs w sl t q YD hM hinv oK hrel;obtain⟨i,y,d1,DN,hi,hy,hst⟩:=crowd_pick (P:=P) (w:=w) (sl:=sl) hinv.awake ⟨0,gm,hinv.zero,hrun⟩;have eZ:=hinv.draw (w':=w.at d1) rfl;have tk:=oK.at (w.at d1);have xl:iP (fun c=>S0 c\/O0 c) wn (w.at d1):=hrel.trans (sP rfl);have Jn:oV Sh (L0.map (X.at (w.at d1))) L:=(oV.Ds (f:=X.at (w.at d1)) L0 fun z hz=>xg (w2:=w.at d1) (hinv.ws z hz).2 (sP rfl)).trans oD YD;rcases jf i with rfl|kC
    .obtain⟨gs',w',aN,h1,h2,h3,h4⟩:=adO _ gs (w.at d1) DN t q eZ tk xl;exact Goal.step (hst.trans h1) h2 h3 h4
    by_cases ha:act (L0.map (X.at (w.at d1))) i
    .obtain⟨x,hx,rfl⟩:=ha;obtain⟨l1,l2,xV⟩:=List.append_of_mem hx;rw[xV] at eZ tk Jn;have T6:=nh (x:=x) (l1:=l1) (l2:=l2);have N1:=eZ.slot x T6;rw[N1.1] at hi;have hyx:x.g=y:=bj hi;subst hyx;have hxw:=(eZ.ws x T6).2;have hid:(x.id==0)=false:=by simp;omega
     cases(eZ.ws x T6).1 with
     |uy _ _ _ e=>rw[e] at hy;cases hy
     |ux _ _ _ e=>rw[e] at hy;cases hy
     |run hp=>
      obtain⟨id,S,p,b,O,g,wx⟩:=x;dsimp only at hp hxw hy N1 hid;subst hxw;cases hp with
      |step hr hd Lz PW=>
       obtain⟨g2,w2,es,he,xm,hr2,hd2⟩:=Lz (w.at d1) (.refl _ _);have hwp:=PW (w.at d1) (.refl _ _) g2 w2 es he;have jR:=Di (P:=P) (sl:=DN) (i:=id) N1.1 (by rw[hid];exact he);obtain⟨lI,vH⟩:=eZ.SQ xm hwp g.frame.fn g.frame.place;rw[eZ.woken lI.CH lI.CG] at jR
       have hlt:=LT.TL (D:=Dn P c0) (E:=Sh) (f:=X.at w2) (x:=⟨id,S,p,b,O,g,w.at d1⟩) (x':=⟨id,S,p,b,own O (w.at d1) w2,g2,w2⟩) (.step (w1:=w.at d1) (w2:=w2) (g2:=g2) (es:=es) hr (.refl _ _) he (mH _)) (l2:=l2)
        (fun z hz=>xg (eZ.ws z (bQ (bI.2 (.inr hz)))).2 (by
         refine⟨xm.grow,fun c hc=>xm.keep c (eZ.geo.lt z (bQ (bI.2 (.inr hz))) c hc).1 fun ho=>?_⟩;have hh:=eZ.geo.ww _ T6 z (bQ (bI.2 (.inr hz))) (fun e=>nT eZ.nodup z (bI.2 (.inr hz)) e.symm) c ho
         exact hc.elim hh.1 hh.2)) (l1:=l1)
        (fun z hz=>xg (eZ.ws z (bQ (bI.2 (.inl hz)))).2 (by
         refine⟨xm.grow,fun c hc=>xm.keep c (eZ.geo.lt z (bQ (bI.2 (.inl hz))) c hc).1 fun ho=>?_⟩;have hh:=eZ.geo.ww _ T6 z (bQ (bI.2 (.inl hz))) (fun e=>nT eZ.nodup z (bI.2 (.inl hz)) e.symm) c ho
         exact hc.elim hh.1 hh.2))
       refine Goal.step (hst.trans jR) xm.AP xm.grow ?_;exact ihL _ (hlt.shift oD (E6 P c0) Jn) _ _ _ _ _ _ q (.refl mH _) rfl lI (tk.mid (x2:=⟨id,S,p,b,own O (w.at d1) w2,g2,w2⟩) rfl rfl w2) (xl.trans vH)
      |@BR _ _ _ ha hp2=>
       obtain⟨gs',h1,h2⟩:=eZ.zi hrun ha (.inl rfl) (.uy rfl ha hp2 rfl) DN;refine Goal.step (hst.trans h1) rfl (ax _) ?_
       have hlt:=LT.TL (D:=Dn P c0) (E:=Sh) (f:=X.at (w.at d1)) (x:=⟨id,S,p,true,O,g,w.at d1⟩) (x':=⟨id,S,p,true,O,iA g #[nB c0 p zS] .send,w.at d1⟩) (.zi ha (mH _)) (l2:=l2)
        (fun z hz=>xg (eZ.ws z (bQ (bI.2 (.inr hz)))).2 (.refl _ _)) (l1:=l1) (fun z hz=>xg (eZ.ws z (bQ (bI.2 (.inl hz)))).2 (.refl _ _))
       rw[dZ];exact ihL _ (hlt.shift oD (E6 P c0) Jn) _ _ _ _ _ _ q (.refl mH _) rfl h2 (tk.mid (x2:=⟨id,S,p,true,O,iA g #[nB c0 p zS] .send,w.at d1⟩) rfl rfl _) xl
      |@BQ _ _ _ n ha hq=>
       obtain⟨gs',h1,h2⟩:=eZ.zi hrun ha (.inr rfl) (.ux rfl ha hq rfl) DN;refine Goal.step (hst.trans h1) rfl (ax _) ?_
       have hlt:=LT.TL (D:=Dn P c0) (E:=Sh) (f:=X.at (w.at d1)) (x:=⟨id,S,p,false,O,g,w.at d1⟩) (x':=⟨id,S,p,false,O,iA g #[nB c1 (.bool true) zS] .send,w.at d1⟩) (.zi ha (mH _)) (l2:=l2)
        (fun z hz=>xg (eZ.ws z (bQ (bI.2 (.inr hz)))).2 (.refl _ _)) (l1:=l1) (fun z hz=>xg (eZ.ws z (bQ (bI.2 (.inl hz)))).2 (.refl _ _))
       rw[dZ];exact ihL _ (hlt.shift oD (E6 P c0) Jn) _ _ _ _ _ _ q (.refl mH _) rfl h2 (tk.mid (x2:=⟨id,S,p,false,O,iA g #[nB c1 (.bool true) zS] .send,w.at d1⟩) rfl rfl _) xl
    obtain⟨gs',aN,q',h1,h2,h3,h4⟩:=eZ.slip hi kC hy ha DN;refine Goal.step (hst.trans h1) rfl (ax _) ?_;exact ihM _ (by rw[h3,<-hM];exact h4) _ _ _ _ _ q' Jn rfl h2 tk xl
 intro L gs w sl t q hinv oK hrel;exact key L (FB mH oD (E6 P c0) L fun x hx=>Vm (hinv.ws x hx).1) _ L gs w sl t q (.refl mH _) rfl hinv oK hrel
end
section
variable{P:aL}{c0 c1:Nat}{z0 z1:ak}{Fin:List ak->List ak->(Nat->Prop)->(Nat->Prop)->aD->ar->Prop}{S0 O0:Nat->Prop}{gm:aD}{L l1 l2:List X}{x x2:X}{gs gs':Array aD}{w w':ar}{t u:Trace}{q:Nat->Nat}
 {sl sl':Option (Nat × Nat)} {f m:Nat} {acc out:List ak} {aN:Array MemOp}
theorem KA(w:ar)(d c s:Nat)(tm:Bool){x:Obj}(hc:w.heap[c]?=some x):((w.at d).setChan c 0 #[] false s s tm).heap[c]?=some (.chan 0 #[] false s s tm):=by
 show((w.heap).setIfInBounds c _)[c]?=_;exact bg (eP hc)
theorem tT(w:ar)(d c s:Nat)(tm:Bool){b:Nat}(hb:b≠c):((w.at d).setChan c 0 #[] false s s tm).heap[b]?=w.heap[b]?:=by
 show((w.heap).setIfInBounds c _)[b]?=_;exact aC (BF hb)
theorem kr(w:ar)(d c s:Nat)(tm:Bool):((w.at d).setChan c 0 #[] false s s tm).heap.size=w.heap.size:=by
 show((w.heap).setIfInBounds c _).size=_;simp
theorem zY{c c' s:Nat}{tm:Bool}(d:Nat)(hc:w.heap[c]?=some (.chan 0 #[] false s s tm))(h:Chan c' w):Chan c' ((w.at d).setChan c 0 #[] false (s+1) (s+1) tm):=by
 by_cases e:c'=c
 .subst e;exact⟨s+1,tm,KA w d c' (s+1) tm hc⟩
 obtain⟨s',tm',h⟩:=h;exact⟨s',tm',by rw[tT w d c (s+1) tm e];exact h⟩
theorem Inv.found(h:Inv P c0 c1 S0 O0 gm (l1++x::l2) gs w t q){g2:aD}(hp:gU P c0 c1 x.S x.p false x.O g2 x.w){s:Nat}{tm:Bool}(hc:w.heap[c0]?=some (.chan 0 #[] false s s tm))(d:Nat){gm':aD}(hrun:gm'.status=.running)
  (g0:gs'[0]?=some gm') (gx:gs'[x.id]?=some g2) (gr:∀i,i≠0->i≠x.id->gs'[i]?=gs[i]?) (gz:gs'.size=gs.size) (hu:Ij x.id c0 s u) :
  Inv P c0 c1 S0 O0 gm' (l1.map (X.at ((w.at d).setChan c0 0 #[] false (s+1) (s+1) tm))++{ x with b:=false,g:=g2,w:=(w.at d).setChan c0 0 #[] false (s+1) (s+1) tm }::l2.map (X.at ((w.at d).setChan c0 0 #[] false (s+1) (s+1) tm))) gs' ((w.at d).setChan c0 0 #[] false (s+1) (s+1) tm) (t++u) q/\
   iP (fun c=>S0 c\/O0 c) w ((w.at d).setChan c0 0 #[] false (s+1) (s+1) tm):=by
 have hx:=nh (x:=x) (l1:=l1) (l2:=l2);have Ug:=hu.mute (B':=w.heap.size) (eP hc)
 refine h.replace (x2:={ x with b:=false,g:=g2,w:=(w.at d).setChan c0 0 #[] false (s+1) (s+1) tm }) rfl rfl rfl (.run (hp.rely _ _ _ ?_)) rfl g0 gx gr gz (kr ..) (fun c hc0 _=>tT w d c0 (s+1) tm hc0) (zY d hc h.CH) (zY d hc h.CG)
  (h.pt.acz (ax _) hu (eP hc) ⟨x,hx,rfl⟩ fun g=>by simp) (fun i=>iv _ _ _ fun op hop=>(Ug op hop).2.1) (fun g g' w' _ _=>woken_run hrun) (.inl hrun)
 rw[(h.ws x hx).2];exact⟨Nat.le_of_eq (kr w d c0 (s+1) tm).symm,fun c hcc=>tT w d c0 (s+1) tm (h.geo.lt x hx c hcc).2.1⟩
theorem Inv.last(h:Inv P c0 c1 S0 O0 gm (l1++x::l2) gs w t q){g2:aD}{n:Nat}(hq:QuitsD P n 0 g2){s:Nat}{tm:Bool}(hc:w.heap[c1]?=some (.chan 0 #[] false s s tm))(d:Nat){gm':aD}(hrun:gm'.status=.running)
  (g0:gs'[0]?=some gm') (gx:gs'[x.id]?=some g2) (gr:∀i,i≠0->i≠x.id->gs'[i]?=gs[i]?) (gz:gs'.size=gs.size) (hu:Ij x.id c1 s u) :
  Inv P c0 c1 S0 O0 gm' (l1.map (X.at ((w.at d).setChan c1 0 #[] false (s+1) (s+1) tm))++l2.map (X.at ((w.at d).setChan c1 0 #[] false (s+1) (s+1) tm))) gs' ((w.at d).setChan c1 0 #[] false (s+1) (s+1) tm) (t++u) (upd q x.id n)/\
   iP (fun c=>S0 c\/O0 c) w ((w.at d).setChan c1 0 #[] false (s+1) (s+1) tm):=by
 have hx:=nh (x:=x) (l1:=l1) (l2:=l2);have Ug:=hu.mute (B':=w.heap.size) (eP hc)
 exact h.cut hq g0 gx gr gz (kr ..) (fun c _ hc1=>tT w d c1 (s+1) tm hc1) (zY d hc h.CH) (zY d hc h.CG)
  (h.pt.QE (ax _) hu (eP hc) ⟨x,hx,rfl⟩) (fun i=>iv _ _ _ fun op hop=>(Ug op hop).2.1) (fun g g' w' _ _=>woken_run hrun) (.inl hrun)
theorem Dq{i j:Nat}(Uk:j≠i)(hi:i<gs.size)(hj:j<gs.size)(a b:aD):((gs.setIfInBounds j a).setIfInBounds i b)[i]?=some b/\((gs.setIfInBounds j a).setIfInBounds i b)[j]?=some a/\(∀k,k≠i->k≠j->((gs.setIfInBounds j a).setIfInBounds i b)[k]?=gs[k]?)/\((gs.setIfInBounds j a).setIfInBounds i b).size=gs.size:=by
 refine⟨bg (by simpa using hi),?_,fun k h1 h2=>?_,by simp⟩
 .rw[aC (BF Uk),bg hj]
 rw[aC (BF h1),aC (BF h2)]
theorem Et(hne:c0≠c1)(g:aD):offersAt (iA g (jT c0 c1 z0 z1) .select) c0 false=[0]/\offersAt (iA g (jT c0 c1 z0 z1) .select) c1 false=[1]:=by
 have hb:(c1==c0)=false:=beq_eq_false_iff_ne.2 (BF hne);have hb':(c0==c1)=false:=beq_eq_false_iff_ne.2 hne;constructor<;>simp[offersAt,iA,jT,rcase,hne,BF hne]
theorem Inv.Pv(h:Inv P c0 c1 S0 O0 (iA gm (jT c0 c1 z0 z1) .select) L gs w t q){i:Nat}(hi:i≠0){c k:Nat}(ho:offersAt (iA gm (jT c0 c1 z0 z1) .select) c false=[k]):w8 (gs.setIfInBounds i ph) c false=[(0,k)]:=by
 have h0:(gs.setIfInBounds i ph)[0]?=some (iA gm (jT c0 c1 z0 z1) .select):=by rw[aC hi];exact h.zero
 rw[partners_one h0 fun j y hj hy=>?_,ho]
 .rfl
 rcases getElem?_stand gs i j y hy with⟨_,rfl⟩|⟨_,hy⟩
 .exact offersAt_ph _ _
 by_cases ha:act L j
 .obtain⟨x,hx,rfl⟩:=ha;rw[(h.slot x hx).1] at hy;cases hy;cases(h.ws x hx).1 with
  |run hp=>exact mO (by rw[hp.running];simp) _ _
  |uy _ _ _ e=>rw[e];exact offersAt_parked_send' _ _ _ _ _ _
  |ux _ _ _ e=>rw[e];exact offersAt_parked_send' _ _ _ _ _ _
 exact mO (by rcases(h.old j y (by omega) hy ha).status with e|e<;>rw[e]<;>simp) _ _
theorem Ko{wn:ar}
  (H0:∀v f',f=f'+1->v∈acc->∀w,iP (fun c=>S0 c\/O0 c) wn w->∀L gs sl t q,Inv P c0 c1 S0 O0 (iI P c0 c1 z0 z1 gm 0 v) L gs w t q->Bz L f' (m+1) acc (out++[v])->Goal P Fin gs w sl t)
  (H1:f<=m->∀w,iP (fun c=>S0 c\/O0 c) wn w->∀L gs sl t q,Inv P c0 c1 S0 O0 (iI P c0 c1 z0 z1 gm 1 (.bool true)) L gs w t q->Bz L f m acc out->Goal P Fin gs w sl t) :
  ∀L gs w sl t q,Inv P c0 c1 S0 O0 (iA gm (jT c0 c1 z0 z1) .select) L gs w t q->Bz L f (m+1) acc out->iP (fun c=>S0 c\/O0 c) wn w->(∀x∈L,x.g.status=.running)->Goal P Fin gs w sl t:=by
 have key:∀L,Acc (LT (Dn P c0) Sh) L->∀M L0 gs w sl t q,oV Sh L0 L->sumTo gs.size q=M->Inv P c0 c1 S0 O0 (iA gm (jT c0 c1 z0 z1) .select) L0 gs w t q->Bz L0 f (m+1) acc out->iP (fun c=>S0 c\/O0 c) wn w->(∀x∈L0,x.g.status=.running)->Goal P Fin gs w sl t:=by
  intro L hL
  induction hL with
  |intro L _ ihL=>
   intro M
   induction M using Nat.strongRecOn with
   |ind M ihM=>
    intro L0 gs w sl t q YD hM hinv oK hrel hun
    obtain⟨x0,hx0⟩:∃x,x∈L0:=by
     cases L0 with
     |nil=>have:=oK.m;simp at this
     |cons a l=>exact⟨a,by simp⟩
    obtain⟨i,y,d1,DN,hi,hy,hst⟩:=crowd_pick (P:=P) (w:=w) (sl:=sl) hinv.awake ⟨x0.id,x0.g,(hinv.slot x0 hx0).1,hun x0 hx0⟩;have eZ:=hinv.draw (w':=w.at d1) rfl;have tk:=oK.at (w.at d1);have xl:iP (fun c=>S0 c\/O0 c) wn (w.at d1):=hrel.trans (sP rfl)
    have ZY:∀x∈L0.map (X.at (w.at d1)),x.g.status=.running:=fun x hx=>by
     obtain⟨z,hz,rfl⟩:=nU.1 hx;exact hun z hz
    have Jn:oV Sh (L0.map (X.at (w.at d1))) L:=(oV.Ds (f:=X.at (w.at d1)) L0 fun z hz=>xg (w2:=w.at d1) (hinv.ws z hz).2 (sP rfl)).trans oD YD;rcases jf i with rfl|kC
    .rw[hinv.zero] at hi;cases hi;cases hy
    by_cases ha:act (L0.map (X.at (w.at d1))) i
    .obtain⟨x,hx,rfl⟩:=ha;obtain⟨l1,l2,xV⟩:=List.append_of_mem hx;rw[xV] at eZ tk Jn ZY;have T6:=nh (x:=x) (l1:=l1) (l2:=l2);have N1:=eZ.slot x T6;rw[N1.1] at hi;have hyx:x.g=y:=bj hi;subst hyx;have hxw:=(eZ.ws x T6).2;have hid:(x.id==0)=false:=by simp;omega
     have aal:x.id<gs.size:=(ai.1 N1.1).1;have RG:0<gs.size:=hinv.size;cases(eZ.ws x T6).1 with
     |uy _ _ _ e=>rw[e] at hy;cases hy
     |ux _ _ _ e=>rw[e] at hy;cases hy
     |run hp=>
      obtain⟨id,S,p,b,O,g,wx⟩:=x;dsimp only at hp hxw hy N1 hid aal kC;subst hxw;cases hp with
      |step hr hd Lz PW=>
       obtain⟨g2,w2,es,he,xm,hr2,hd2⟩:=Lz (w.at d1) (.refl _ _);have hwp:=PW (w.at d1) (.refl _ _) g2 w2 es he;have jR:=Di (P:=P) (sl:=DN) (i:=id) N1.1 (by rw[hid];exact he);obtain⟨lI,vH⟩:=eZ.SQ xm hwp g.frame.fn g.frame.place;rw[eZ.woken lI.CH lI.CG] at jR
       have hlt:=LT.TL (D:=Dn P c0) (E:=Sh) (f:=X.at w2) (x:=⟨id,S,p,b,O,g,w.at d1⟩) (x':=⟨id,S,p,b,own O (w.at d1) w2,g2,w2⟩) (.step (w1:=w.at d1) (w2:=w2) (g2:=g2) (es:=es) hr (.refl _ _) he (mH _)) (l2:=l2)
        (fun z hz=>xg (eZ.ws z (bQ (bI.2 (.inr hz)))).2 (by
         refine⟨xm.grow,fun c hc=>xm.keep c (eZ.geo.lt z (bQ (bI.2 (.inr hz))) c hc).1 fun ho=>?_⟩;have hh:=eZ.geo.ww _ T6 z (bQ (bI.2 (.inr hz))) (fun e=>nT eZ.nodup z (bI.2 (.inr hz)) e.symm) c ho
         exact hc.elim hh.1 hh.2)) (l1:=l1)
        (fun z hz=>xg (eZ.ws z (bQ (bI.2 (.inl hz)))).2 (by
         refine⟨xm.grow,fun c hc=>xm.keep c (eZ.geo.lt z (bQ (bI.2 (.inl hz))) c hc).1 fun ho=>?_⟩;have hh:=eZ.geo.ww _ T6 z (bQ (bI.2 (.inl hz))) (fun e=>nT eZ.nodup z (bI.2 (.inl hz)) e.symm) c ho
         exact hc.elim hh.1 hh.2))
       refine Goal.step (hst.trans jR) xm.AP xm.grow ?_;refine ihL _ (hlt.shift oD (E6 P c0) Jn) _ _ _ _ _ _ q (.refl mH _) rfl lI (tk.mid (x2:=⟨id,S,p,b,own O (w.at d1) w2,g2,w2⟩) rfl rfl w2) (xl.trans vH) fun z hz=>?_;rcases gH.1 hz with rfl|⟨z',hz',rfl⟩
       .exact hr2
       exact ZY z' (bQ hz')
      |@BR _ _ _ ha hp2=>
       obtain⟨s,tm,hch⟩:=eZ.CH;have Ui:=crowd_send_meets_sel (P:=P) (sl:=DN) (j:=0) (k:=0) (gj:=gm) (cs:=jT c0 c1 z0 z1) (shj:=.select) (zj:=z0) N1.1 (show fo P (id==0) g (w.at d1)=_ by rw[hid];exact ha.2.2.2 (w.at d1)) hch (by omega) eZ.zero rfl (eZ.Pv (by omega) (Et eZ.ne gm).1);obtain⟨e1,e2,e3,e4⟩:=Dq (gs:=gs) (i:=id) (j:=0) (by omega) aal RG (iI P c0 c1 z0 z1 gm 0 p) (fp g af);obtain⟨f',hf',zH⟩:=tk.found (x2:=⟨id,S,p,false,O,fp g af,(w.at d1).setChan c0 0 #[] false (s+1) (s+1) tm⟩) rfl rfl ((w.at d1).setChan c0 0 #[] false (s+1) (s+1) tm)
       obtain⟨lI,vH⟩:=eZ.found (g2:=fp g af) hp2 hch d1 (gm':=iI P c0 c1 z0 z1 gm 0 p) rfl e2 e1 (fun i h1 h2=>e3 i h2 h1) e4 (u:=#[{ g:=id,fn:=g.frame.fn,pos:=g.frame.place,act:=.send c0 s },{ g:=0,fn:=gm.frame.fn,pos:=gm.frame.place,act:=.recv c0 s 0 },{ g:=id,fn:=g.frame.fn,pos:=g.frame.place,act:=.sendDone c0 s },{ g:=0,fn:=gm.frame.fn,pos:=gm.frame.place,act:=.recvDone c0 s }])
        ⟨_,_,_,_,_,_,_,_,_,rfl⟩
       refine Goal.step (hst.trans Ui) rfl (Nat.le_of_eq (kr w d1 c0 (s+1) tm).symm) ?_;exact H0 p f' hf' (tk.mem (x:=⟨id,S,p,true,O,g,w.at d1⟩) rfl) _ (xl.trans vH) _ _ _ _ q lI zH
      |@BQ _ _ _ n ha hq=>
       obtain⟨s,tm,hch⟩:=eZ.CG;have Ui:=crowd_send_meets_sel (P:=P) (sl:=DN) (j:=0) (k:=1) (gj:=gm) (cs:=jT c0 c1 z0 z1) (shj:=.select) (zj:=z1) N1.1 (show fo P (id==0) g (w.at d1)=_ by rw[hid];exact ha.2.2.2 (w.at d1)) hch (by omega) eZ.zero rfl (eZ.Pv (by omega) (Et eZ.ne gm).2);obtain⟨e1,e2,e3,e4⟩:=Dq (gs:=gs) (i:=id) (j:=0) (by omega) aal RG (iI P c0 c1 z0 z1 gm 1 (.bool true)) (fp g af);have zH:=tk.last rfl ((w.at d1).setChan c1 0 #[] false (s+1) (s+1) tm)
       obtain⟨lI,vH⟩:=eZ.last (g2:=fp g af) hq hch d1 (gm':=iI P c0 c1 z0 z1 gm 1 (.bool true)) rfl e2 e1 (fun i h1 h2=>e3 i h2 h1) e4 (u:=#[{ g:=id,fn:=g.frame.fn,pos:=g.frame.place,act:=.send c1 s },{ g:=0,fn:=gm.frame.fn,pos:=gm.frame.place,act:=.recv c1 s 0 },{ g:=id,fn:=g.frame.fn,pos:=g.frame.place,act:=.sendDone c1 s },{ g:=0,fn:=gm.frame.fn,pos:=gm.frame.place,act:=.recvDone c1 s }])
        ⟨_,_,_,_,_,_,_,_,_,rfl⟩
       refine Goal.step (hst.trans Ui) rfl (Nat.le_of_eq (kr w d1 c1 (s+1) tm).symm) ?_;exact H1 zH.le _ (xl.trans vH) _ _ _ _ _ lI zH
    obtain⟨gs',aN,q',h1,h2,h3,h4⟩:=eZ.slip hi kC hy ha DN;refine Goal.step (hst.trans h1) rfl (ax _) ?_;exact ihM _ (by rw[h3,<-hM];exact h4) _ _ _ _ _ q' Jn rfl h2 tk xl ZY
 intro L gs w sl t q hinv oK hrel hun;exact key L (FB mH oD (E6 P c0) L fun x hx=>Vm (hinv.ws x hx).1) _ L gs w sl t q (.refl mH _) rfl hinv oK hrel hun
end
section
variable{P:aL}{c0 c1:Nat}{z0 z1:ak}{Fin:List ak->List ak->(Nat->Prop)->(Nat->Prop)->aD->ar->Prop}{S0 O0:Nat->Prop}{gm:aD}{L l1 l2:List X}{x x2:X}{gs gs':Array aD}{w w':ar}{t u:Trace}{q:Nat->Nat}
 {sl sl':Option (Nat × Nat)} {f m:Nat} {acc out:List ak} {aN:Array MemOp}
theorem Inv.Pq(h:Inv P c0 c1 S0 O0 gm L gs w t q){c j k:Nat}(hjk:(j,k)∈w8 (gs.setIfInBounds 0 ph) c true) :
  k=0/\j≠0/\∃x∈L,x.id=j/\((c=c0/\x.b=true/\∃g,AtSend P c0 x.p g/\gU P c0 c1 x.S x.p false x.O (fp g af) x.w/\x.g=iA g #[nB c0 x.p zS] .send)\/
   (c=c1/\x.b=false/\∃g n,AtSend P c1 (.bool true) g/\QuitsD P n 0 (fp g af)/\x.g=iA g #[nB c1 (.bool true) zS] .send)):=by
 obtain⟨g,hg,hk⟩:=mem_partners.1 hjk;rcases getElem?_stand gs 0 j g hg with⟨_,rfl⟩|⟨hj,hg⟩
 .rw[offersAt_ph] at hk;cases hk
 by_cases ha:act L j
 .obtain⟨x,hx,rfl⟩:=ha;rw[(h.slot x hx).1] at hg;cases hg;cases(h.ws x hx).1 with
  |run hp=>rw[mO (by rw[hp.running];simp)] at hk;cases hk
  |@uy g hb ha hp e=>
   rw[e,offersAt_parked_send] at hk;split at hk
   .rename_i hc;simp only[j5] at hk;exact⟨hk,hj,x,hx,rfl,.inl ⟨hc.symm,hb,g,ha,hp,e⟩⟩
   cases hk
  |@ux g n hb ha hq e=>
   rw[e,offersAt_parked_send] at hk;split at hk
   .rename_i hc;simp only[j5] at hk;exact⟨hk,hj,x,hx,rfl,.inr ⟨hc.symm,hb,g,n,ha,hq,e⟩⟩
   cases hk
 rw[mO (by rcases(h.old j g (by omega) hg ha).status with e|e<;>rw[e]<;>simp)] at hk;cases hk
theorem Hd{g gj:aD}{a b:Array mU}{sh sh':CommShape}(h:iA g a sh=iA gj b sh'):fp gj af=fp g undef:=by
 have h1:g.frame=gj.frame:=by have:=congrArg Goroutine.frame h;exact this
 have h2:g.callers=gj.callers:=by have:=congrArg Goroutine.callers h;exact this
 have h3:g.dying=gj.dying:=by have:=congrArg Goroutine.dying h;exact this
 unfold fp;rw[h1,h2,h3]
theorem zh{g gj:aD}{a b:Array mU}{sh sh':CommShape}(h:iA g a sh=iA gj b sh'):a=b/\sh=sh':=by
 have:(iA g a sh).offers=(iA gj b sh').offers:=by rw[h]
 simpa [iA] using this
theorem Hg{c c':Nat}{v v' z z':ak}(h:nB c v z=nB c' v' z'):c=c'/\v=v':=by
 simp only[nB,CommCase.mk.injEq,Value.chan.injEq,gQ] at h;exact⟨h.1,h.2.1⟩
theorem QZ{g:aD}{wn:ar}(h:gJ P c0 c1 z0 z1 Fin f m acc out S0 O0 g wn) :
  ∀w,iP (fun c=>S0 c\/O0 c) wn w->∀L gs sl t q,Inv P c0 c1 S0 O0 g L gs w t q->Bz L f m acc out->Goal P (fun acc out S O g w=>Fin acc out S O g w/\Chan c0 w/\Chan c1 w) gs w sl t:=by
 induction h with
 |@fin acc out S O g wn hs pW=>
  intro w hr L gs sl t q hinv oK;have hL:L=[]:=List.eq_nil_of_length_eq_zero oK.m;subst hL;have hno:∀g,¬act [] g:=fun g ⟨x,hx,_⟩=>by cases hx
  refine⟨0,gs,g,w,sl,t,q,acc,out,S,O,rfl,⟨hinv.zero,⟨fun i y hi hy=>hinv.old i y hi hy (hno i),hinv.above⟩,hinv.pt.past hno⟩,⟨pW w hr,hinv.CH,hinv.CG⟩,?_,rfl,ax _⟩;have:=oK.perm;simpa [pend] using this
 |@step f m acc out S O g wn hr hd Lz PW ih=>
  intro w hrel L gs sl t q hinv oK;refine xR (f:=f) (m:=m) (acc:=acc) (out:=out) (wn:=wn) hr (fun L gs w sl t q hinv oK hrel=>?_) L gs w sl t q hinv oK hrel;obtain⟨g2,w2,es,he,xm,hr2,hd2⟩:=Lz w hrel;have lI:=hinv.ZN xm hr2 g.frame.fn g.frame.place;have jR:=Di (P:=P) (sl:=sl) (i:=0) hinv.zero (show fo P (0==0) g w=_ from he);rw[hinv.woken lI.CH lI.CG] at jR;exact⟨_,_,_,jR,xm.AP,xm.grow,ih w hrel g2 w2 es he w2 (.refl _ _) _ _ sl _ q lI (oK.at w2)⟩
 |@spawn f m acc out S O Sk S' O' g g' child wn b p hgo hr2 hcr hSk hp M3 hO' hm ih=>
  intro w hrel L gs sl t q hinv oK;refine xR (f:=f) (m:=m) (acc:=acc) (out:=out) (wn:=wn) hgo.1 (fun L gs w sl t q hinv oK hrel=>?_) L gs w sl t q hinv oK hrel;have jR:=runT_crowd_spawn (P:=P) (sl:=sl) (i:=0) hinv.zero (show fo P (0==0) g w=_ from hgo.2.2 w);have hpw:gU P c0 c1 Sk p b (fun _=>False) child w:=hp.rely _ _ _ ⟨hrel.grow,fun c hc=>hrel.keep c (hSk c (by simpa using hc))⟩;have lI:=hinv.spawn hr2 hSk M3 hO' hpw (y:={ g:=0,fn:=g.frame.fn,pos:=g.frame.place,act:=.go gs.size }) (z:={ g:=gs.size,fn:=child.frame.fn,pos:=g.frame.place,act:=.start }) ⟨rfl,rfl⟩ ⟨rfl,rfl⟩;refine⟨_,_,_,jR,rfl,ax _,?_⟩;exact ih w ⟨hrel.grow,fun c hc=>hrel.keep c (hc.elim (M3 c) fun h=>.inr (hO' c h).1)⟩ _ _ sl _ q lI (oK.more (x:=⟨gs.size,Sk,p,b,fun _=>False,child,w⟩))
 |@select f m acc out S O g wn Xo h0 h1 ih0 Yw=>
  intro w hrel L gs sl t q hinv oK;refine xR (f:=f) (m:=m+1) (acc:=acc) (out:=out) (wn:=wn) Xo.1 (fun L gs w sl t q hinv oK hrel=>?_) L gs w sl t q hinv oK hrel;have hst:fo P (0==0) g w=.comm g #[rcase c0 z0,rcase c1 z1] true .select w #[]:=Xo.2.2.2 w;have RG:0<gs.size:=hinv.size;obtain⟨s0,tm0,hc0⟩:=hinv.CH;obtain⟨s1,tm1,hc1⟩:=hinv.CG
  by_cases hno:w8 (gs.setIfInBounds 0 ph) c0 true=[]/\w8 (gs.setIfInBounds 0 ph) c1 true=[]
  .
   have jR:=crowd_waits (P:=P) (sl:=sl) hinv.zero hst (fun cc hcc=>by
    simp only[eY,cy,gO,or_false] at hcc;rcases hcc with rfl|rfl
    .exact ways_recv_none hc0 hno.1
    exact ways_recv_none hc1 hno.2)
   have hun:∀x∈L,x.g.status=.running:=fun x hx=>by
    have hs:=hinv.slot x hx;have hmem:∀c k,k∈offersAt x.g c true->(x.id,k)∈w8 (gs.setIfInBounds 0 ph) c true:=fun c k hk=>mem_partners.2 ⟨x.g,by rw[aC (by have:=hs.2;omega)];exact hs.1,hk⟩;cases(hinv.ws x hx).1 with
    |run hp=>exact hp.running
    |uy _ _ _ e=>
     have:=hmem c0 0 (by rw[e,offersAt_parked_send];simp);rw[hno.1] at this;cases this
    |ux _ _ _ e=>
     have:=hmem c1 0 (by rw[e,offersAt_parked_send];simp);rw[hno.2] at this;cases this
   have lI:Inv P c0 c1 S O (iA g (jT c0 c1 z0 z1) .select) L (gs.setIfInBounds 0 (iA g (jT c0 c1 z0 z1) .select)) w t q:=by
    refine⟨bg RG,fun x hx=>⟨?_,(hinv.slot x hx).2⟩,hinv.ws,hinv.nodup,fun i y hi hy ha=>?_,fun j hj=>hinv.above j (by simpa using hj),hinv.pt,hinv.geo,hinv.CH,hinv.CG,hinv.ne,fun a a' w' hw0 hw1=>?_,.inr rfl⟩
    .rw[aC (by have:=(hinv.slot x hx).2;omega)];exact(hinv.slot x hx).1
    .rw[aC (by omega)] at hy;exact hinv.old i y hi hy ha
    have hag:(iA g (jT c0 c1 z0 z1) .select).again w'=iA g (jT c0 c1 z0 z1) .select:=by
     refine again_all_open fun cc hcc=>?_;obtain⟨s,tm,e0⟩:=hw0;obtain⟨s',tm',e1⟩:=hw1;simp only[jT,eY,cy,gO,or_false] at hcc;rcases hcc with rfl|rfl
     .exact⟨c0,z0,0,#[],s,s,tm,rfl,e0⟩
     exact⟨c1,z1,0,#[],s',s',tm',rfl,e1⟩
    unfold Conc.woken;split
    .exact hag
    rfl
   refine⟨_,_,_,jR,rfl,ax _,?_⟩;exact Ko (P:=P) (f:=f) (m:=m) (acc:=acc) (out:=out) (wn:=wn) (fun v f' e hv w hr=>ih0 v f' e hv w hr) (fun hf w hr=>Yw hf w hr) L _ w sl _ q (by rw[show t++iB 0 g.frame.fn g.frame.place #[]=t from dZ ..];exact lI) oK hrel hun
  
  obtain⟨kk,c,s,r,tm,j,gj,vj,zj,shj,d,EO,hj0,hgj,jR⟩:=Gp (P:=P) (sl:=sl) hinv.zero hst hc0 hc1
   (by
    rcases Classical.em (w8 (gs.setIfInBounds 0 ph) c0 true=[]) with e|e
    .exact .inr fun e'=>hno ⟨e,e'⟩
    exact .inl e)
   (fun c hc j k hjk=>by
    obtain⟨hk,hj,x,hx,rfl,Lt⟩:=hinv.Pq hjk;refine⟨hk,hj,?_⟩;have hs:=(hinv.slot x hx).1;rcases Lt with⟨rfl,_,g',_,_,e⟩|⟨rfl,_,g',_,_,_,e⟩
    .exact⟨g',x.p,zS,.send,by rw[hs,e]⟩
    exact⟨g',.bool true,zS,.send,by rw[hs,e]⟩)
  have hcc:c=c0\/c=c1:=by rcases EO with⟨_,h,_⟩|⟨_,h,_⟩<;>simp[h]
  have adW:j<gs.size:=(ai.1 hgj).1;have hmem:(j,0)∈w8 (gs.setIfInBounds 0 ph) c true:=mem_partners.2 ⟨_,by rw[aC (BF hj0)];exact hgj,by rw[offersAt_parked_send];simp⟩;obtain⟨_,_,x,hx,rfl,Lt⟩:=hinv.Pq hmem
  have Jk:x.g=iA gj #[nB c vj zj] shj:=by
   have:=(hinv.slot x hx).1;rw[hgj] at this;exact(bj this).symm
  obtain⟨l1,l2,xV⟩:=List.append_of_mem hx;subst xV;rcases Lt with⟨rfl,hb,g',ha,hp,e⟩|⟨rfl,hb,g',n,ha,hq,e⟩
  .rw[e] at Jk;obtain⟨e1,e2⟩:=zh Jk;have e3:nB c x.p zS=nB c vj zj:=by simpa using e1
   obtain⟨_,rfl⟩:=Hg e3;subst e2
   have hk0:kk=0/\s=s0/\r=s0/\tm=tm0:=by
    rcases EO with⟨h1,_,h2,h3,h4⟩|⟨_,h1,_⟩
    .exact⟨h1,h2,h3,h4⟩
    exact absurd h1 hinv.ne
   obtain⟨rfl,rfl,rfl,rfl⟩:=hk0
   have pW:gj.finishComm P #[nB c x.p zj] .send 0 af false=fp g' undef:=by
    rw[finishComm_send];exact Hd Jk
   rw[pW] at jR;obtain⟨g1,g2,g3,g4⟩:=Dq (gs:=gs) (i:=0) (j:=x.id) hj0 RG adW (fp g' af) (iI P c c1 z0 z1 g 0 x.p)
   obtain⟨lI,vH⟩:=hinv.found (g2:=fp g' af) hp hc0 d (gm':=iI P c c1 z0 z1 g 0 x.p) rfl g1 g2 (fun i a b=>g3 i a b) g4 (u:=#[{ g:=x.id,fn:=gj.frame.fn,pos:=gj.frame.place,act:=.send c r },{ g:=0,fn:=g.frame.fn,pos:=g.frame.place,act:=.recv c r 0 },{ g:=x.id,fn:=gj.frame.fn,pos:=gj.frame.place,act:=.sendDone c r },{ g:=0,fn:=g.frame.fn,pos:=g.frame.place,act:=.recvDone c r }])
    ⟨_,_,_,_,_,_,_,_,_,rfl⟩
   obtain⟨f',hf',zH⟩:=oK.found (x2:={ x with b:=false,g:=fp g' af,w:=(w.at d).setChan c 0 #[] false (r+1) (r+1) tm }) hb rfl ((w.at d).setChan c 0 #[] false (r+1) (r+1) tm);exact⟨_,_,_,jR,rfl,Nat.le_of_eq (kr w d c (r+1) tm).symm,ih0 x.p f' hf' (oK.mem hb) _ (hrel.trans vH) _ _ sl _ q lI zH⟩
  rw[e] at Jk;obtain⟨e1,e2⟩:=zh Jk;have e3:nB c (.bool true) zS=nB c vj zj:=by simpa using e1
  obtain⟨_,rfl⟩:=Hg e3;subst e2
  have hk0:kk=1/\s=s1/\r=s1/\tm=tm1:=by
   rcases EO with⟨_,h1,_⟩|⟨h1,_,h2,h3,h4⟩
   .exact absurd h1.symm hinv.ne
   exact⟨h1,h2,h3,h4⟩
  obtain⟨rfl,rfl,rfl,rfl⟩:=hk0
  have pW:gj.finishComm P #[nB c (.bool true) zj] .send 0 af false=fp g' undef:=by
   rw[finishComm_send];exact Hd Jk
  rw[pW] at jR;obtain⟨g1,g2,g3,g4⟩:=Dq (gs:=gs) (i:=0) (j:=x.id) hj0 RG adW (fp g' af) (iI P c0 c z0 z1 g 1 (.bool true))
  obtain⟨lI,vH⟩:=hinv.last (g2:=fp g' af) hq hc1 d (gm':=iI P c0 c z0 z1 g 1 (.bool true)) rfl g1 g2 (fun i a b=>g3 i a b) g4 (u:=#[{ g:=x.id,fn:=gj.frame.fn,pos:=gj.frame.place,act:=.send c r },{ g:=0,fn:=g.frame.fn,pos:=g.frame.place,act:=.recv c r 0 },{ g:=x.id,fn:=gj.frame.fn,pos:=gj.frame.place,act:=.sendDone c r },{ g:=0,fn:=g.frame.fn,pos:=g.frame.place,act:=.recvDone c r }])
   ⟨_,_,_,_,_,_,_,_,_,rfl⟩
  have zH:=oK.last hb ((w.at d).setChan c 0 #[] false (r+1) (r+1) tm);exact⟨_,_,_,jR,rfl,Nat.le_of_eq (kr w d c (r+1) tm).symm,Yw zH.le _ (hrel.trans vH) _ _ sl _ _ lI zH⟩
theorem IZ(hne:c0≠c1){g:aD}{w:ar}(h:gJ P c0 c1 z0 z1 Fin 0 0 [] [] S0 O0 g w)(hg:g.status=.running)(hc0:Chan c0 w)(hc1:Chan c1 w)(ahC:∀c,S0 c\/O0 c->c<w.heap.size/\c≠c0/\c≠c1)(MZ:∀c,S0 c->¬O0 c) :
  qV P (fun g' w'=>∃acc out S O,(Fin acc out S O g' w'/\Chan c0 w'/\Chan c1 w')/\out.Perm acc/\w.heap.size<=w'.heap.size/\w'.os=w.os/\w'.output=w.output) g w:=by
 intro I d gs sl t q hb;have hrel:iP (fun c=>S0 c\/O0 c) w (dB w I d):=⟨ax _,fun _ _=>rfl⟩
 have hinv:Inv P c0 c1 S0 O0 g [] gs (dB w I d) t q:=by
  refine⟨hb.zero,fun x hx=>(by cases hx),fun x hx=>(by cases hx),List.nodup_nil,fun i y hi hy _=>hb.old.old i y hi hy,hb.old.above,?_,?_,hc0,hc1,hne,fun _ _ _ _ _=>woken_run hg,.inl hg⟩
  .exact(PT.WN (S:=SL []) (O:=OL []) hb.past).congr (fun g=>⟨fun⟨x,hx,_⟩=>(by cases hx),fun h=>h.elim⟩) (fun g hg=>hg.elim) fun g hg=>hg.elim
  exact⟨ahC,MZ,fun x hx=>by(cases hx),fun x hx=>by(cases hx),fun x hx=>by(cases hx),fun x hx=>by(cases hx),fun x hx=>by(cases hx)⟩
 obtain⟨N,gs',g',w',sl',t',q',acc,out,S,O,h1,h2,h3,h4,h5,h6⟩:=QZ h _ hrel [] gs sl t q hinv ⟨rfl,rfl,by simp[pend]⟩;refine⟨N,gs',g',w',w'.drawn,sl',t',q',?_,h2,acc,out,S,O,h3,h4,h6,congrArg (·.2.1) h5,congrArg (·.2.2) h5⟩;rw[h1]
 have:w'=dB w' I w'.drawn:=by
  have e:w'.tape=I:=congrArg (·.1) h5;cases w';simp only at e;subst e;rfl
 rw[<-this]
end
end Go.Lag
namespace Go.Proofs.YtffladgmkiimjaaGreatDoor
open Go.Lag
theorem Tf:Tryz.prog.funcs.all (fun fn=>fn.body.all dW)=true:=by kernel_rfl
theorem Wu:Tryz.prog.follows .staticDataAhead=true:=by kernel_rfl
theorem Pt:Tryz.prog.funcs.all (fun fn=>!(fn.name == "runtime.NumGoroutine"))=true:=by kernel_rfl
end Go.Proofs.YtffladgmkiimjaaGreatDoor
