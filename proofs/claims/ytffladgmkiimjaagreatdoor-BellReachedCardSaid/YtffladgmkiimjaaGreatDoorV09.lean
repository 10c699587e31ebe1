/- bell.good IN COMPANY: goroutine 0 waits for what its workers find. bel .. -/
import Derived.Test.YtffladgmkiimjaaGreatDoorV08
import Derived.Conc.LoneCalls
import Derived.Conc.LeavingOf
import Derived.SevenTiedAt
import Derived.Test.YtffladgmkiimjaaGreatDoorV02
set_option linter.all false
set_option maxHeartbeats 0
set_option maxRecDepth 1000000
open Array renaming getElem?_setIfInBounds_ne -> aB,getElem?_eq_getElem -> aO,getElem?_eq_some_iff -> ah,replicate -> bz,mem_of_getElem? -> eV
open Go renaming wp_mono -> Bx,Goroutine -> aC,Program -> aL,TypeId -> aZ,Value -> aj,World -> ak,undef -> ar,Operand -> bI,Frame -> bT,Oper -> cI,execOp -> cu,FuncId -> dU,stepG -> fe,Code -> gQ,Item -> py
open Go.Frame renaming enter -> eo
open Go.Proofs.Tryz renaming prog -> aq,underlying3 -> dR,f159 -> kX
open Go.Region renaming wanted -> cL
open Go.RowKit.Below renaming heap_alloc -> aW
open Go.Value renaming int -> aD
open Go.World renaming alloc_heap_new -> ax,cell? -> dG
open Go.stepG renaming apply -> ek
open List renaming append_nil -> Au,range -> aQ,mem_append -> bJ,map_cons -> cP,mem_cons -> cy,mem_toArray -> eR,map_nil -> fW,not_mem_nil -> gJ,append_toArray -> iA,cons_append -> iD,push_toArray -> jH,nil_append -> jk,getElem?_eq_some_iff -> lj
open List.range renaming loop -> cg
open Nat renaming le_trans -> aG,le_refl -> aJ,lt_of_lt_of_le -> bD
open Option.some renaming inj -> a7
namespace Go.Proofs.YtffladgmkiimjaaGreatDoor
open Go.RowKit Go.Lag
open Go.Conc
def afY:∀w es,(zeroValue 108).runT aq w es=(.ok (.int .i64 0) w,es):=fun _ _=>by kernel_rfl
def z4:∀w es,(zeroValue 4).runT aq w es=(.ok (.bool false) w,es):=fun _ _=>by kernel_rfl
def s16:(opsOf nM).size=4:=kQ
def Ep:(opsOf nM)[0]?=some ((opsOf nM).getD 0 default)/\((opsOf nM).getD 0 default).op=.select #[{ chan:=.tmp 57,send:=none,elem:=108 },{ chan:=.tmp 58,send:=none,elem:=4 }] true/\((opsOf nM).getD 0 default).dst=some 59/\((opsOf nM).getD 0 default).guard=none:=⟨kQ,kQ,kQ,kQ⟩
def Ca:(opsOf nM)[1]?=some ((opsOf nM).getD 1 default)/\((opsOf nM).getD 1 default).op=.extract (.tmp 59) 0/\((opsOf nM).getD 1 default).dst=some 60/\((opsOf nM).getD 1 default).guard=none:=⟨kQ,kQ,kQ,kQ⟩
def B_:(opsOf nM)[2]?=some ((opsOf nM).getD 2 default)/\((opsOf nM).getD 2 default).op=.binOp .eql 3 (.tmp 60) (.const (.int .i64 0)) 3/\((opsOf nM).getD 2 default).dst=some 61/\((opsOf nM).getD 2 default).guard=none:=⟨kQ,kQ,kQ,kQ⟩
def BZ:(opsOf nM)[3]?=some ((opsOf nM).getD 3 default)/\((opsOf nM).getD 3 default).op=.binOp .eql 3 (.tmp 60) (.const (.int .i64 1)) 3/\((opsOf nM).getD 3 default).dst=some 62/\((opsOf nM).getD 3 default).guard=none:=⟨kQ,kQ,kQ,kQ⟩
def BW{fr:bT}{o:cI}{x:bI}{i:Nat}{vs:Array aj}{v:aj}(ho:o.op=.extract x i)(hx:fr.eval x=.tuple vs)(hv:vs[i]?=some v)(P:aL)(w:ak):(cu fr.eval o).runT P w #[]=(.ok (.value v) w,#[]):=by
 unfold cu;rw[ho];simp only[hx,Instr.extract,hv];rfl
def aex{fr:bT}{o:cI}{x:bI}(ho:o.op=.binOp .eql 3 x (.const (.int .i64 0)) 3)(hx:fr.eval x=.int .i64 0)(w:ak):(cu fr.eval o).runT aq w #[]=(.ok (.value (.bool true)) w,#[]):=by
 unfold cu;rw[ho];simp only[hx]
 kernel_rfl
def aew{fr:bT}{o:cI}{x:bI}(ho:o.op=.binOp .eql 3 x (.const (.int .i64 1)) 3)(hx:fr.eval x=.int .i64 0)(w:ak):(cu fr.eval o).runT aq w #[]=(.ok (.value (.bool false)) w,#[]):=by
 unfold cu;rw[ho];simp only[hx]
 kernel_rfl
def aev{fr:bT}{o:cI}{x:bI}(ho:o.op=.binOp .eql 3 x (.const (.int .i64 0)) 3)(hx:fr.eval x=.int .i64 1)(w:ak):(cu fr.eval o).runT aq w #[]=(.ok (.value (.bool false)) w,#[]):=by
 unfold cu;rw[ho];simp only[hx]
 kernel_rfl
def aeu{fr:bT}{o:cI}{x:bI}(ho:o.op=.binOp .eql 3 x (.const (.int .i64 1)) 3)(hx:fr.eval x=.int .i64 1)(w:ak):(cu fr.eval o).runT aq w #[]=(.ok (.value (.bool true)) w,#[]):=by
 unfold cu;rw[ho];simp only[hx]
 kernel_rfl
def pI{w w':ak}{B:Nat}{e:aZ}{size:Nat}{v:aj}{n:Nat}{xs:List aj}(h:w.ownsRow B e size v n xs)(he:w'.heap=w.heap):w'.ownsRow B e size v n xs:=by
 unfold World.ownsRow at *;rw[he];exact h
def ints(l:List Nat):List Value:=l.map fun(p:Nat)=>aD .i64 (p:Int)
def GH.set{fb tb:Nat}{tmps:Array aj}{many:Int}{v:aj}(h:GH fb tb tmps many v)(i:Nat)(x:aj)(hi:i≠4/\i≠5/\i≠6/\i≠9):GH fb tb (tmps.setIfInBounds i x) many v:=
 ⟨by simp[h.size],by rw[aB oM];exact h.t4,by rw[aB oM];exact h.t5,by rw[aB oM];exact h.t6,by rw[aB oM];exact h.t9⟩
section
variable{P:aL}{b:BB}{bm aH az all:aj}{l:List dS}{ss:List Int}{ms:List Mk}{X0:Nat->Prop}{w0:ak}{xb fb tb c0 c1:Nat}
 {S O:Nat->Prop} {tmps bu:Array aj} {lw w:ak} {U:Rn} {B:Nat->Prop} {cs:List bT} {K:List py}
theorem St.set(st:St P X0 w0 S O tmps bu lw w U B){v v':aj}(hv:VR fw U v v')(i:Nat):St P X0 w0 S O (tmps.setIfInBounds i v) (bu.setIfInBounds i v') lw w U B:=⟨st.ms.set hv i,st.id,st.xB,st.kp,st.kw⟩
theorem St.size(st:St P X0 w0 S O tmps bu lw w U B):tmps.size=bu.size:=st.ms.av.size
theorem St.row(st:St P X0 w0 S O tmps bu lw w U B){i:Nat}{v:aj}{B0:Nat}{out:List Nat}(hi:tmps[i]?=some v)(ho:lw.ownsRow B0 108 1 v out.length (ints out))(hn:out.length<=1000):∃v',bu[i]?=some v'/\Reads w v' out.length (ints out):=by
 obtain⟨v',hy,hv⟩:=st.ms.get hi;refine⟨v',hy,?_⟩;have hc:=fun g hg=>ho.cells (g:=g) hg;have hlen:out.length=0->ints out=[]:=fun h0=>by rw[List.eq_nil_of_length_eq_zero h0];rfl
 rcases ho.2 with⟨rfl,h0⟩|⟨g,cap,cur,rfl,h9⟩
 .cases hv with
  |Er=>exact .inl ⟨rfl,h0,hlen h0⟩
 .cases hv with
  |@slice _ a' _ _ FZ=>
   obtain⟨o,o',h1,h2,_⟩:=st.ms.wr.at_ _ _ FZ.block
   have e:a'=⟨a'.block,0,none⟩:=by
    have h4:=FZ.off;have h5:=FZ.spot;obtain⟨x,y,z⟩:=a';dsimp only at h4 h5 ⊢;subst h4;subst h5;rfl
   refine .inr ⟨a'.block,0,cap,by rw[e],⟨oM,h9.2.2.1⟩,eJ h2,fun j u hj=>?_⟩
   have hl:lw.cell? ⟨g,0+j,none⟩=some u:=by
    have:=hc g rfl j u hj;cases j<;>simpa [Addr.add] using this
   obtain⟨u',hu,hvu⟩:=st.ms.wr.cell (a:=⟨g,0+j,none⟩) (a':=⟨a'.block,0+j,none⟩) ⟨FZ.block,rfl,rfl⟩ hl;obtain⟨p,_,rfl⟩:=List.mem_map.1 (List.mem_of_getElem? hj);cases hvu;exact hu
def Yn(A:List aj)(K:List py)(cs:List bT)(acc out:List aj)(S O:Nat->Prop)(g:aC)(w:ak):Prop:=
 ∃(bu:Array aj) (v:aj) (kH:List Nat),g=GK 159 bu (.code wU::K) .normal cs/\bu.size=71/\bu[9]?=some v/\out=ints kH/\Reads w v kH.length (ints kH)/\acc=A
section
variable{k:List py}{kd:CallKind}
theorem aeE(w:ak):fe P true (GK 159 bu (.code M5::k) kd cs) w=.go (GK 159 bu (.code (.seq RI (.cond (.tmp 56) .skip (.exit 2)))::.code (.block 3 UM)::k) kd cs) w #[]:=by rw[aa0];exact jN _ _ w
theorem aeG(w:ak):fe P true (GK 159 bu (.code UM::k) kd cs) w=.go (GK 159 bu (.code A3::.code (.seq nM (.block 4 UL))::k) kd cs) w #[]:=by rw[aa3];exact jN _ _ w
theorem abl(w:ak):fe P true (GK 159 bu (.code nM::k) kd cs) w=.go (GK 159 bu (.inRegion (opsOf nM) [0,1,2,3]::k) kd cs) w #[]:=by
 have h:=ub (P:=P) (main:=true) (fn:=159) (tmps:=bu) (kd:=kd) (k:=k) (cs:=cs) 16 (opsOf nM) w;rw[<-XO,s16] at h;exact h
theorem Y9{x:Bool}(h:(jm 159 bu (.code UL::k) .run kd).eval (.tmp 61)=.bool x)(w:ak):fe P true (GK 159 bu (.code UL::k) kd cs) w=.go (GK 159 bu (.code (if x then A2 else .cond (.tmp 62) RH .skip)::k) kd cs) w #[]:=by rw[aa2] at h ⊢;exact tk h w
end
theorem aaX(t:Array aj)(h:t.size=71)(a b c d:aj):((((t.setIfInBounds 59 a).setIfInBounds 60 b).setIfInBounds 61 c).setIfInBounds 62 d)[59]?=some a/\((((t.setIfInBounds 59 a).setIfInBounds 60 b).setIfInBounds 61 c).setIfInBounds 62 d)[61]?=some c/\((((t.setIfInBounds 59 a).setIfInBounds 60 b).setIfInBounds 61 c).setIfInBounds 62 d)[62]?=some d/\
  (t.setIfInBounds 59 a)[59]?=some a/\((t.setIfInBounds 59 a).setIfInBounds 60 b)[60]?=some b/\(((t.setIfInBounds 59 a).setIfInBounds 60 b).setIfInBounds 61 c)[60]?=some b:=by
 refine⟨?_,?_,?_,?_,?_,?_⟩<;>simp[Array.getElem?_setIfInBounds,h]
theorem GH.acw{fb tb:Nat}{tmps:Array aj}{many:Int}{v:aj}(h:GH fb tb tmps many v)(a b c d:aj):GH fb tb ((((tmps.setIfInBounds 59 a).setIfInBounds 60 b).setIfInBounds 61 c).setIfInBounds 62 d) many v:=
 (((h.set 59 a oM).set 60 b oM).set 61 c oM).set 62 d oM
theorem rF{F:Nat->Bool}{U:Rn}{v:aj}(h:E5 v=true):VR F U v v:=zI h
theorem ada(E:OW P b bm aH az all l ss ms X0 w0 xb fb tb c0 c1):∀(N f many:Nat) (j_ kH:List Nat) (S O:Nat->Prop) (tmps bu:Array aj) (lw w:ak) (U:Rn) (B:Nat->Prop) (v:aj) (B0:Nat),
  f+many=N->f<=many->many<=600->kH.length+f<=600->St P X0 w0 S O tmps bu lw w U B->GH fb tb tmps many v->lw.ownsRow B0 108 1 v kH.length (ints kH)->B0<=lw.heap.size->(∀c,X0 c->c<B0)->
  gG P c0 c1 (.int .i64 0) (.bool false) (Yn (ints j_) K cs) f many (ints j_) (ints kH) S O (GK 159 bu (.code M5::.inLoop M5::.inBlock 2::.code wU::K) .normal cs) w:=by
 intro N
 induction N using Nat.strongRecOn with
 |ind N ih=>
  intro f many j_ kH S O tmps bu lw w U B v B0 hN hfm hm6 hof st Gp hown hB0 VY;refine .ctl rfl rfl aeE rfl rfl (.ctl rfl rfl (jN _ _) rfl rfl ?_);refine st.piece E (vy sM) (R:=fun a W'=>(GH fb tb a.tmps many v/\a.tmps[56]?=some (.bool (decide ((0:Int)<many))))/\W'.ownsRow B0 108 1 v kH.length (ints kH)/\B0<=W'.heap.size) (fun _ _ _ _ h=>h) (fun ey vF=>?_) ?_
  .refine Bx (af3 Gp) ?_;rintro e a W' ⟨rfl,h1,h2,rfl⟩;exact⟨rfl,⟨⟨h1,h2⟩,pI hown vF,by rw[vF];exact hB0⟩,st.kp.heap vF⟩
  clear st Gp hown hB0;rintro tmps bu lw U O w st ⟨⟨Gp,h56⟩,hown,hB0⟩ - -;have aec:=st.bool h56;refine .ctl rfl rfl (tk (bt aec)) rfl rfl ?_
  by_cases hz:many=0
  .subst hz;obtain rfl:f=0:=oM;rw[show decide ((0:Int)<((0:Nat):Int))=false from rfl];refine .ctl rfl rfl (Fe (k':=.code wU::K) rfl) rfl rfl ?_;refine .fin rfl fun w1 hr=>?_;have Pb:St P X0 w0 S O tmps bu lw w1 U B:=⟨st.ms.rely hr,st.id,st.xB,st.kp,fun c hc=>(hr.keep c (.inl (st.xS hc))).trans (st.kw c hc)⟩
   obtain⟨v',hv',Cj⟩:=Pb.row Gp.t9 hown oM;exact⟨bu,v',kH,rfl,by rw[<-Pb.size];exact Gp.size,hv',rfl,Cj,rfl⟩
  obtain⟨m,rfl⟩:∃m,many=m+1:=⟨many-1,oM⟩
  rw[show decide ((0:Int)<((m+1:Nat):Int))=true from decide_eq_true oM];refine .ctl rfl rfl (fun w=>zT w) rfl rfl (.ctl rfl rfl (qd _ _) rfl rfl (.ctl rfl rfl aeG rfl rfl ?_));have hcf:lw.cell? ⟨fb,0,none⟩=some (.chan (some c0)):=(st.kp.cell E.xf).trans E.fc;have VU:lw.cell? ⟨tb,0,none⟩=some (.chan (some c1)):=(st.kp.cell E.xt).trans E.tc;refine st.piece E (vy sM) (R:=fun a W'=>(GH fb tb a.tmps (m+1:Nat) v/\a.tmps[57]?=some (.chan (some c0))/\a.tmps[58]?=some (.chan (some c1)))/\W'.ownsRow B0 108 1 v kH.length (ints kH)/\B0<=W'.heap.size) (fun _ _ _ _ h=>h) (fun ey vF=>?_) ?_
  .refine Bx (Zz Gp ((iY (by rw[vF])).trans hcf) ((iY (by rw[vF])).trans VU)) ?_;rintro e a W' ⟨rfl,h1,h2,h3,rfl⟩;exact⟨rfl,⟨⟨h1,h2,h3⟩,pI hown vF,by rw[vF];exact hB0⟩,st.kp.heap vF⟩
  clear st Gp hown hB0 hcf VU h56 aec;rintro tmps bu lw U O w st ⟨⟨Gp,h57,h58⟩,hown,hB0⟩ - -;have aaU:=st.chan h57;have aaT:=st.chan h58;refine .ctl rfl rfl (jN _ _) rfl rfl (.ctl rfl rfl abl rfl rfl ?_);refine .select (Ta (t0:=108) (t1:=4) sM Ep.1 Ep.2.1 Ep.2.2.2 (by rw[E.e];exact afY) (by rw[E.e];exact z4) (bt aaU) (bt aaT)) (fun x f' hf' hx=>?_) (fun ahj=>?_)
  .obtain⟨p,hp,rfl⟩:=List.mem_map.1 hx;subst hf';rw[FH Ep.1 Ep.2.2.1];have ev:(Value.tuple #[goInt ((0:Nat):Int),.bool true,if (0:Nat)=0 then .int .i64 (p:Int) else .int .i64 0,if (0:Nat)=1 then .int .i64 (p:Int) else .bool false])=.tuple #[.int .i64 0,.bool true,.int .i64 (p:Int),.bool false]:=by simp[goInt]
   rw[ev];have hsz:bu.size=71:=by rw[<-st.size];exact Gp.size
   obtain⟨g1,g2,g3,g4,g5,g6⟩:=aaX bu hsz (.tuple #[.int .i64 0,.bool true,.int .i64 (p:Int),.bool false]) (.int .i64 0) (.bool true) (.bool false);obtain⟨l1,-,-,-,-,-⟩:=aaX tmps Gp.size (.tuple #[.int .i64 0,.bool true,.int .i64 (p:Int),.bool false]) (.int .i64 0) (.bool true) (.bool false);refine .op sM Ca.1 Ca.2.2.2 Ca.2.2.1 (fun w=>BW (v:=.int .i64 0) Ca.2.1 (bt g4) rfl P w) ?_;refine .op sM B_.1 B_.2.2.2 B_.2.2.1 (fun w=>by rw[E.e];exact aex B_.2.1 (bt g5) w) ?_;refine .op sM BZ.1 BZ.2.2.2 BZ.2.2.1 (fun w=>by rw[E.e];exact aew BZ.2.1 (bt g6) w) ?_;refine .ctl rfl rfl (oB _) rfl rfl (.ctl rfl rfl (qd _ _) rfl rfl (.ctl rfl rfl (Y9 (x:=true) (bt g2)) rfl rfl ?_));have st4:=(((st.set (rF (v:=.tuple #[.int .i64 0,.bool true,.int .i64 (p:Int),.bool false]) (by simp[E5,zJ])) 59).set (rF (v:=.int .i64 0) rfl) 60).set (rF (v:=.bool true) rfl) 61).set (rF (v:=.bool false) rfl) 62;have hg4:=Gp.acw (.tuple #[.int .i64 0,.bool true,.int .i64 (p:Int),.bool false]) (.int .i64 0) (.bool true) (.bool false);refine st4.piece E (vy sM) (R:=fun a W'=>∃v',GH fb tb a.tmps (m+1:Nat) v'/\W'.ownsRow B0 108 1 v' (kH++[p]).length (ints (kH++[p]))/\B0<=W'.heap.size) (fun _ _ _ _ h=>h) (fun ey vF=>?_) ?_
   .refine Bx (Zy (B:=B0) (out:=kH) oM hg4 l1 (pI hown vF) (by rw[vF];exact hB0)) ?_;rintro e a W' ⟨rfl,v',h1,h2,h3⟩;exact⟨rfl,⟨v',h1,h2,aG (by rw[vF];exact hB0) h3.size⟩,fun c hc=>(h3.block c (VY c hc)).trans ((st.kp.heap vF) c hc)⟩
   clear st4 hg4 st Gp hown hB0 h57 h58 aaU aaT g1 g2 g3 g4 g5 g6 l1 ev hsz;rintro tmps bu lw U O w st ⟨v',Gp,hown,hB0⟩ - -;refine .ctl rfl rfl (fun w=>oU _ w) rfl rfl (.ctl rfl rfl (fun w=>oU _ w) rfl rfl (.ctl rfl rfl (fun w=>yl _ w) rfl rfl ?_));have e:ints kH++[aD .i64 (p:Int)]=ints (kH++[p]):=by simp[ints]
   rw[e];exact ih (f'+(m+1)) oM f' (m+1) j_ (kH++[p]) S O tmps bu lw w U B v' B0 rfl oM hm6 sO st Gp hown hB0 VY
  rw[FH Ep.1 Ep.2.2.1];have ev:(Value.tuple #[goInt ((1:Nat):Int),.bool true,if (1:Nat)=0 then .bool true else .int .i64 0,if (1:Nat)=1 then .bool true else .bool false])=.tuple #[.int .i64 1,.bool true,.int .i64 0,.bool true]:=by simp[goInt]
  rw[ev];have hsz:bu.size=71:=by rw[<-st.size];exact Gp.size
  obtain⟨g1,g2,g3,g4,g5,g6⟩:=aaX bu hsz (.tuple #[.int .i64 1,.bool true,.int .i64 0,.bool true]) (.int .i64 1) (.bool false) (.bool true);refine .op sM Ca.1 Ca.2.2.2 Ca.2.2.1 (fun w=>BW (v:=.int .i64 1) Ca.2.1 (bt g4) rfl P w) ?_;refine .op sM B_.1 B_.2.2.2 B_.2.2.1 (fun w=>by rw[E.e];exact aev B_.2.1 (bt g5) w) ?_;refine .op sM BZ.1 BZ.2.2.2 BZ.2.2.1 (fun w=>by rw[E.e];exact aeu BZ.2.1 (bt g6) w) ?_;refine .ctl rfl rfl (oB _) rfl rfl (.ctl rfl rfl (qd _ _) rfl rfl (.ctl rfl rfl (Y9 (x:=false) (bt g2)) rfl rfl (.ctl rfl rfl (tk (x:=true) (bt g3)) rfl rfl ?_)));have st4:=(((st.set (rF (v:=.tuple #[.int .i64 1,.bool true,.int .i64 0,.bool true]) (by simp[E5,zJ])) 59).set (rF (v:=.int .i64 1) rfl) 60).set (rF (v:=.bool false) rfl) 61).set (rF (v:=.bool true) rfl) 62;have hg4:=Gp.acw (.tuple #[.int .i64 1,.bool true,.int .i64 0,.bool true]) (.int .i64 1) (.bool false) (.bool true);refine st4.piece E (vy sM) (R:=fun a W'=>GH fb tb a.tmps m v/\W'.ownsRow B0 108 1 v kH.length (ints kH)/\B0<=W'.heap.size) (fun _ _ _ _ h=>h) (fun ey vF=>?_) ?_
  .refine Bx (af2 (many:=((m+1:Nat):Int)) oM hg4) ?_;rintro e a W' ⟨rfl,h1,rfl⟩;refine⟨rfl,⟨?_,pI hown vF,by rw[vF];exact hB0⟩,st.kp.heap vF⟩;have e:((m+1:Nat):Int)-1=(m:Int):=oM;rw[e] at h1;exact h1
  clear st4 hg4 st Gp hown hB0 h57 h58 aaU aaT g1 g2 g3 g4 g5 g6 ev hsz;rintro tmps bu lw U O w st ⟨Gp,hown,hB0⟩ - -;refine .ctl rfl rfl (fun w=>oU _ w) rfl rfl (.ctl rfl rfl (fun w=>oU _ w) rfl rfl (.ctl rfl rfl (fun w=>yl _ w) rfl rfl ?_));exact ih (f+m) oM f m j_ kH S O tmps bu lw w U B v B0 rfl ahj oM hof st Gp hown hB0 VY
end
def s10:(opsOf uS).size=2:=kQ
def Pt:(opsOf uS)[0]?=some ((opsOf uS).getD 0 default)/\((opsOf uS).getD 0 default).op=.makeFunc (.func 178) #[] #[.tmp 1,.tmp 8,.tmp 4,.tmp 5]/\((opsOf uS).getD 0 default).dst=some 53/\((opsOf uS).getD 0 default).guard=none:=⟨kQ,kQ,kQ,kQ⟩
def Ps:(opsOf uS)[1]?=some ((opsOf uS).getD 1 default)/\((opsOf uS).getD 1 default).op=.go { callee:=.value (.tmp 53),args:=#[],argTypes:=#[] }/\((opsOf uS).getD 1 default).dst=none/\((opsOf uS).getD 1 default).guard=none:=⟨kQ,kQ,kQ,kQ⟩
def IZ{fr:bT}{o:cI}{f:dU}{x y z u:bI}(ho:o.op=.makeFunc (.func f) #[] #[x,y,z,u]){a b c d:aj}(hx:fr.eval x=a)(hy:fr.eval y=b)(hz:fr.eval z=c)(hu:fr.eval u=d)(P:aL)(w:ak) :
  (cu fr.eval o).runT P w #[]=(.ok (.value (.func (.func f) #[] #[a,b,c,d])) w,#[]):=by
 unfold cu;rw[ho];simp only[List.map_toArray,cP,fW,hx,hy,hz,hu];rfl
def manyN(b:BB)(kZ sn:Nat):Nat->Nat
 |0=>0
 |m+1=>manyN b kZ sn m+if yS b kZ sn m then 0 else 1
def j_(b:BB)(kZ sn:Nat)(l:List dS):Nat->List Nat
 |0=>[]
 |m+1=>j_ b kZ sn l m++if !yS b kZ sn m&&b.sure l (sn ||| m) then[sn ||| m] else[]
def K_(b:BB)(kZ sn:Nat):∀m,manyN b kZ sn m<=m
 |0=>aJ _
 |m+1=>by have:=K_ b kZ sn m;unfold manyN;split<;>omega
def P6(b:BB)(kZ sn:Nat)(l:List dS):∀m,(j_ b kZ sn l m).length<=manyN b kZ sn m
 |0=>aJ _
 |m+1=>by
  have:=P6 b kZ sn l m;unfold j_ manyN;cases hs:yS b kZ sn m
  .cases h2:b.sure l (sn ||| m)<;>simp<;>omega
  simp;omega
def GT.acv{xb fb tb sn:Nat}{tmps:Array aj}{many m:Int}{t8:aj}(h:GT xb fb tb sn tmps many m t8)(x:aj):GT xb fb tb sn (tmps.setIfInBounds 53 x) many m t8:=
 ⟨by simp[h.size],by rw[aB oM];exact h.t1,by rw[aB oM];exact h.t3,by rw[aB oM];exact h.t4,by rw[aB oM];exact h.t5,
  by rw[aB oM];exact h.t6,by rw[aB oM];exact h.t18,by rw[aB oM];exact h.t8⟩
section
variable{P:aL}{b:BB}{bm aH az all:aj}{l:List dS}{ss:List Int}{ms:List Mk}{X0:Nat->Prop}{w0:ak}{xb fb tb c0 c1:Nat}
 {S O:Nat->Prop} {tmps bu:Array aj} {lw w:ak} {U:Rn} {B:Nat->Prop} {cs:List bT} {K k:List py} {kd:CallKind}
theorem aeF(w:ak):fe P true (GK 159 bu (.code JI::k) kd cs) w=.go (GK 159 bu (.code gR5::.code (.seq (.cond (.tmp 19) .skip (.exit 0)) (.seq (.block 1 Od) LP))::k) kd cs) w #[]:=by rw[aa1];exact jN _ _ w
theorem aeH(w:ak):fe P true (GK 159 bu (.code Od::k) kd cs) w=.go (GK 159 bu (.code gR6::.code (.seq gR7 (.seq (.seq gR8 (.cond (.tmp 50) (.exit 1) .skip)) (.seq gR9 uS)))::k) kd cs) w #[]:=by rw[aa4];exact jN _ _ w
theorem abm(w:ak):fe P true (GK 159 bu (.code uS::k) kd cs) w=.go (GK 159 bu (.inRegion (opsOf uS) [0,1]::k) kd cs) w #[]:=by
 have h:=ub (P:=P) (main:=true) (fn:=159) (tmps:=bu) (kd:=kd) (k:=k) (cs:=cs) 10 (opsOf uS) w;rw[<-XP,s10] at h;exact h
theorem QT(st:St P X0 w0 S O tmps bu lw w U B){i pb:Nat}{p:aj}(hf:zJ p=true)(hi:tmps[i]?=some (ptr ⟨pb,0,none⟩))(ho:lw.heap[pb]?=some (.cells #[p] 108 (0,0))) :
  ∃pc,bu[i]?=some (ptr ⟨pc,0,none⟩)/\U pb=some pc/\(∃e z,w.heap[pc]?=some (.cells #[p] e z)):=by
 obtain⟨y,hy,hv⟩:=st.ms.get hi;cases hv with
 |@ptr _ a' FZ=>
  have e:a'=⟨a'.block,0,none⟩:=by
   have h4:=FZ.off;have h5:=FZ.spot;obtain⟨x,y,z⟩:=a';dsimp only at h4 h5 ⊢;subst h4;subst h5;rfl
  refine⟨a'.block,by rw[<-e];exact hy,FZ.block,?_⟩;obtain⟨o,o',h1,h2,h3,_⟩:=st.ms.wr.at_ _ _ FZ.block;rw[ho] at h1;cases h1;cases h3 with
  |@cells cs cs' e z z' SQ hz=>
   have hs:cs'.size=1:=SQ.size.symm;obtain⟨y,hy,hv⟩:=SQ.get (i:=0) (x:=p) rfl
   have e1:cs' = #[y]:=by
    apply Array.ext
    .simpa using hs
    intro j h1 h2;have hj:j=0:=by simp at h2;exact h2
    subst hj;have:=(ah.1 hy).2;simpa using this
   have e2:y=p:=by
    revert hf;cases hv<;>intro hf<;>first|rfl|cases hf
   exact⟨_,_,by rw[h2,e1,e2]⟩
theorem adb(E:OW P b bm aH az all l ss ms X0 w0 xb fb tb c0 c1):∀(j m:Nat),m+j=512->∀(S O:Nat->Prop) (tmps bu:Array aj) (lw w:ak) (U:Rn) (B:Nat->Prop) (t8:aj),
  St P X0 w0 S O tmps bu lw w U B->GT xb fb tb (bM ss) tmps (manyN b (di ss ms).toNat (bM ss) m) m t8->
  gG P c0 c1 (.int .i64 0) (.bool false) (Yn (ints (j_ b (di ss ms).toNat (bM ss) l 512)) K cs) (j_ b (di ss ms).toNat (bM ss) l m).length (manyN b (di ss ms).toNat (bM ss) m) (ints (j_ b (di ss ms).toNat (bM ss) l m)) [] S O
   (GK 159 bu (.code JI::.inLoop JI::.inBlock 0::.code (.seq Gs (.seq (.block 2 (.loop M5)) wU))::K) .normal cs) w:=by
 have Rh:=nA ss E.Hj;have o6:=Sl ss ms (fun s hs=>(E.Hj s hs).2) (fun s hs=>(E.mks s hs).2);obtain⟨kZ,XI⟩:∃kZ:Nat,di ss ms=kZ:=⟨(di ss ms).toNat,oM⟩
 rw[XI,Int.toNat_natCast];rw[XI] at o6;have adZ:1<=kZ/\kZ<=9:=oM;generalize aml:bM ss=sn at *;intro j
 induction j with
 |zero|succ j ih=>?_
 all_goals
  intro m hm S O tmps bu lw w U B t8 st uZ;have ajJ:=K_ b kZ sn m;have yg:=P6 b kZ sn l m;refine .ctl rfl rfl aeF rfl rfl ?_;refine st.piece E (vy sM) (R:=fun a W'=>GT xb fb tb sn a.tmps (manyN b kZ sn m) m t8/\a.tmps[19]?=some (.bool (decide ((m:Int)<512)))) (fun _ _ _ _ h=>h) (fun ey vF=>?_) ?_
  .refine Bx (pR5 uZ) ?_;rintro e a W' ⟨rfl,h1,h2,rfl⟩;exact⟨rfl,⟨h1,h2⟩,st.kp.heap vF⟩
  clear st uZ;rintro tmps bu lw U O w st ⟨uZ,h19⟩ - -;refine .ctl rfl rfl (jN _ _) rfl rfl (.ctl rfl rfl (tk (bt (st.bool h19))) rfl rfl ?_)
 .have adG:m=512:=oM;rw[show decide ((m:Int)<512)=false from decide_eq_false oM];refine .ctl rfl rfl (Fe (k':=.code (.seq Gs (.seq (.block 2 (.loop M5)) wU))::K) rfl) rfl rfl (.ctl rfl rfl (jN _ _) rfl rfl ?_);refine st.piece E (vy sM) (R:=fun a W'=>GH fb tb a.tmps (manyN b kZ sn m) (.slice none 0 0)) (fun _ _ _ _ h=>h) (fun ey vF=>?_) ?_
  .refine Bx (af4 uZ) ?_;rintro e a W' ⟨rfl,h1,rfl⟩;exact⟨rfl,h1,st.kp.heap vF⟩
  clear st uZ h19;rintro tmps bu lw U O w st Gp - -;refine .ctl rfl rfl (jN _ _) rfl rfl (.ctl rfl rfl (qd _ _) rfl rfl (.ctl rfl rfl (Mc _) rfl rfl ?_));subst adG;exact ada E _ _ _ _ [] S O tmps bu lw w U B _ lw.heap.size rfl yg oM sO st Gp (World.ownsRow_nil _ _ _ _) (aJ _) (fun c hc=>st.kp.lt E hc)
 rw[show decide ((m:Int)<512)=true from decide_eq_true oM];refine .ctl rfl rfl (fun w=>zT w) rfl rfl (.ctl rfl rfl (jN _ _) rfl rfl (.ctl rfl rfl (qd _ _) rfl rfl (.ctl rfl rfl aeH rfl rfl ?_)));refine st.piece E (vy sM) (R:=fun a W'=>GT xb fb tb sn a.tmps (manyN b kZ sn m) m t8/\a.tmps[7]?=some (.int .i64 m)) (fun _ _ _ _ h=>h) (fun ey vF=>?_) ?_
 .refine Bx (pR6 uZ) ?_;rintro e a W' ⟨rfl,h1,h2,rfl⟩;exact⟨rfl,⟨h1,h2⟩,st.kp.heap vF⟩
 clear st uZ h19;rintro tmps bu lw U O w st ⟨uZ,h7⟩ - -;refine .ctl rfl rfl (jN _ _) rfl rfl ?_;obtain⟨pb,hpb⟩:∃pb,lw.heap.size=pb:=⟨_,rfl⟩
 have ahK:∀c,B c->c<pb:=fun c hc=>hpb▸st.ms.wr.base c hc;refine st.piece E (vy sM) (R:=fun a W'=>(GT xb fb tb sn a.tmps (manyN b kZ sn m) m (ptr ⟨pb,0,none⟩)/\a.tmps[7]?=some (.int .i64 m))/\W'.heap[pb]?=some (.cells #[.int .i64 ((sn ||| m:Nat):Int)] 108 (0,0))) (fun _ _ _ _ h=>h) (fun ey vF=>?_) ?_
 .refine Bx (pR7 Rh oM uZ h7) ?_;rintro e a W' ⟨rfl,h1,h2,h3,h4⟩;have hs:ey.heap.size=pb:=by rw[vF,hpb]
  rw[hs] at h1 h3;exact⟨rfl,⟨⟨h1,h2⟩,h3⟩,(st.kp.heap vF).below E h4⟩
 clear st uZ h7 hpb;rintro tmps bu lw U O w st ⟨⟨uZ,h7⟩,Rj⟩ - -;refine .ctl rfl rfl (jN _ _) rfl rfl (.ctl rfl rfl (jN _ _) rfl rfl ?_);refine st.piece E (vy sM) (R:=fun a W'=>(GT xb fb tb sn a.tmps (manyN b kZ sn m) m (ptr ⟨pb,0,none⟩)/\a.tmps[50]?=some (.bool (yS b kZ sn m)))/\W'.heap[pb]?=some (.cells #[.int .i64 ((sn ||| m:Nat):Int)] 108 (0,0))) (fun _ _ _ _ h=>h) (fun ey vF=>?_) ?_
 .have kp':=st.kp.heap vF;have Xu:ey.heap[pb]?=some (.cells #[.int .i64 ((sn ||| m:Nat):Int)] 108 (0,0)):=by rw[vF];exact Rj
  refine Bx (pR8 (b:=b) (bm:=bm) (aH:=aH) (az:=az) (pb:=pb) (lw:=ey) E.ok Rh oM uZ h7 (fun i u hi=>(kp'.cell E.xx).trans (E.xc i u ?_)) ?_ ⟨kp'.lt E E.xx,eJ Xu⟩ adZ (fun w1 hb1=>?_)) ?_
  .have ag_:i<(b.cells bm aH az).size:=(ah.1 hi).1;rw[Array.getElem?_append_left ag_];exact hi
  .unfold dG;rw[Xu];rfl
  .have kw1:=kp'.below E hb1;have:=FI b bm aH az ss ms E.Hj E.mks w1 (kw1.reads E E.rs) (kw1.reads E E.rm);rw[XI] at this;exact this
  rintro e a W' ⟨rfl,h1,h2,h3⟩;exact⟨rfl,⟨⟨h1,h2⟩,(h3.block pb (eJ Xu)).trans Xu⟩,kp'.below E h3⟩
 clear st uZ h7 Rj;rintro tmps bu lw U O w st ⟨⟨uZ,h50⟩,Rj⟩ - -;refine .ctl rfl rfl (tk (bt (st.bool h50))) rfl rfl ?_
 have last:∀(S O:Nat->Prop) (tmps bu:Array aj) (lw w:ak) (U:Rn) (B:Nat->Prop),St P X0 w0 S O tmps bu lw w U B->GT xb fb tb sn tmps (manyN b kZ sn (m+1)) m (ptr ⟨pb,0,none⟩)->
   gG P c0 c1 (.int .i64 0) (.bool false) (Yn (ints (j_ b kZ sn l 512)) K cs) (j_ b kZ sn l (m+1)).length (manyN b kZ sn (m+1)) (ints (j_ b kZ sn l (m+1))) [] S O (GK 159 bu (.code LP::.inLoop JI::.inBlock 0::.code (.seq Gs (.seq (.block 2 (.loop M5)) wU))::K) .normal cs) w:=by
  clear st uZ h50 Rj;intro S O tmps bu lw w U B st uZ;refine st.piece E (vy sM) (R:=fun a W'=>GT xb fb tb sn a.tmps (manyN b kZ sn (m+1)) ((m+1:Nat):Int) (ptr ⟨pb,0,none⟩)) (fun _ _ _ _ h=>h) (fun ey vF=>?_) ?_
  .refine Bx (af5 oM uZ) ?_;rintro e a W' ⟨rfl,h1,rfl⟩;exact⟨rfl,h1,st.kp.heap vF⟩
  clear st uZ;rintro tmps bu lw U O w st uZ - -;refine .ctl rfl rfl (fun w=>yl _ w) rfl rfl ?_;exact ih (m+1) oM S O tmps bu lw w U B _ st uZ
 cases hsk:yS b kZ sn m
 .have em:manyN b kZ sn (m+1)=manyN b kZ sn m+1:=by show manyN b kZ sn m+(if yS b kZ sn m then 0 else 1)=_;rw[hsk];rfl
  refine .ctl rfl rfl (fun w=>zT w) rfl rfl (.ctl rfl rfl (jN _ _) rfl rfl ?_);refine st.piece E (vy sM) (R:=fun a W'=>GT xb fb tb sn a.tmps (manyN b kZ sn (m+1)) m (ptr ⟨pb,0,none⟩)/\W'.heap[pb]?=some (.cells #[.int .i64 ((sn ||| m:Nat):Int)] 108 (0,0))) (fun _ _ _ _ h=>h) (fun ey vF=>?_) ?_
  .refine Bx (pR9 oM uZ) ?_;rintro e a W' ⟨rfl,h1,rfl⟩;refine⟨rfl,⟨?_,by rw[vF];exact Rj⟩,st.kp.heap vF⟩;rw[em];exact h1
  clear st uZ h50 Rj;rintro tmps bu lw U O w st ⟨uZ,Rj⟩ - -;obtain⟨pc,h8',hρ,e0,zz,hpc⟩:=QT st rfl uZ.t8 Rj;have hnB:¬B pb:=fun h=>absurd (ahK pb h) (Nat.lt_irrefl _);have ad7:O pc:=by rw[st.ms.own];exact⟨pb,hnB,hρ⟩
  have hSO:∀c,S c->¬O c:=fun c hc=>(st.ms.wb hc).2;have Lt:=st.ms.freeze hρ hnB Rj
  have st2:St P X0 w0 (fun x=>S x\/x=pc) (fun x=>O x/\x≠pc) tmps bu (oQ lw pb #[.int .i64 ((sn ||| m:Nat):Int)] 108 0) w U (fun x=>B x\/x=pb):=
   ⟨Lt,st.id,fun c hc=>.inl (st.xB c hc),fun c hc=>by
    have hne:c≠pb:=fun e=>hnB (e▸st.xB c hc);have:=pQ Rj (x:=c);rw[if_neg hne] at this
    exact this.trans (st.kp c hc),st.kw⟩
  have agl:∀c,X0 c->c<w.heap.size:=fun c hc=>(st.ms.wb (st.xS hc)).1;have JA:∀a:Addr,X0 a.block->w.cell? a=w0.cell? a:=fun a ha=>iY (st.kw _ ha);have t1':=st.ptr E.xx uZ.t1;have t4':=st.ptr E.xf uZ.t4;have t5':=st.ptr E.xt uZ.t5;refine .ctl rfl rfl abm rfl rfl ?_;refine .op sM Pt.1 Pt.2.2.2 Pt.2.2.1 (fun w=>IZ Pt.2.1 (bt t1') (bt h8') (bt t4') (bt t5') P w) ?_;have hsz:bu.size=71:=by rw[<-st.size];exact uZ.size
  have wF:(bu.setIfInBounds 53 (.func (.func 178) #[] #[ptr ⟨xb,0,none⟩,ptr ⟨pc,0,none⟩,ptr ⟨fb,0,none⟩,ptr ⟨tb,0,none⟩]))[53]?=some (.func (.func 178) #[] #[ptr ⟨xb,0,none⟩,ptr ⟨pc,0,none⟩,ptr ⟨fb,0,none⟩,ptr ⟨tb,0,none⟩]):=Array.getElem?_setIfInBounds_self_of_lt oM;have hp9:sn ||| m<512:=Nat.or_lt_two_pow (n:=9) Rh oM
  have Xl:gU P c0 c1 (fun c=>X0 c\/c=pc) (.int .i64 ((sn ||| m:Nat):Int)) (b.sure l (sn ||| m)) (fun _=>False) (wH P 178 #[ptr ⟨xb,0,none⟩,ptr ⟨pc,0,none⟩,ptr ⟨fb,0,none⟩,ptr ⟨tb,0,none⟩]) w:=by
   refine worker E.e E.f178 (fun c hc=>?_) (fun c hc=>?_) st.ms.vH E.i178 (.inl E.xx) (.inr rfl) (.inl E.xf) (.inl E.xt) ?_ ((JA _ E.xf).trans E.fc) ((JA _ E.xt).trans E.tc) (fun I d=>?_)
   .rcases hc with hc|rfl
    .obtain⟨cs,e,z,h1,h2⟩:=E.cl c hc;exact⟨cs,e,z,by rw[st.kw c hc];exact h1,fun v hv=>(h2 v hv).mono (sX fun _ h=>.inl h)⟩
    exact⟨_,e0,zz,hpc,fun v hv=>by simp at hv;subst hv;exact .int _ _⟩
   .rcases hc with hc|rfl
    .exact E.low c hc
    exact(st.ms.wr.low _ _ hρ).2
   .unfold dG;rw[hpc];rfl
   rw[E.e];refine acg b E.ok bm aH az all l E.abw (sn ||| m) hp9 xb pc fb tb _ (E.ra.to (fun c hc=>?_) fun a ha=>?_) (fun i u hi=>?_) ?_
   .show c<(shut _ w).heap.size;rw[v_];exact agl c hc
   .exact(wa (X:=fun c=>X0 c\/c=pc) (w:=w) (.inl ha)).trans (JA a ha)
   .exact(wa (X:=fun c=>X0 c\/c=pc) (w:=w) (a:=⟨xb,i,none⟩) (.inl E.xx)).trans ((JA _ E.xx).trans (E.xc i u hi))
   refine(wa (X:=fun c=>X0 c\/c=pc) (w:=w) (a:=⟨pc,0,none⟩) (.inr rfl)).trans ?_;unfold dG;rw[hpc];rfl
  refine .spawn (Sk:=fun c=>X0 c\/c=pc) (S':=fun c=>S c\/c=pc) (O':=fun c=>O c/\c≠pc) (Wo sM Ps.1 Ps.2.1 Ps.2.2.1 Ps.2.2.2 (bt wF)) rfl rfl (fun c hc=>?_) Xl (fun c hc=>?_) (fun c hc=>?_) ?_
  .rcases hc with hc|rfl
   .exact .inl (st.xS hc)
   exact .inr ad7
  .rcases hc with hc|rfl
   .exact .inl hc
   exact .inr ad7
  .exact⟨hc.1,fun h=>h.elim (fun h=>hSO c (st.xS h) hc.1) hc.2,fun h=>h.elim (fun h=>hSO c h hc.1) hc.2⟩
  refine .ctl rfl rfl (oB _) rfl rfl (.ctl rfl rfl (fun w=>oU _ w) rfl rfl ?_)
  have hvf:VR fw U (.func (.func 178) #[] #[ptr ⟨xb,0,none⟩,ptr ⟨pb,0,none⟩,ptr ⟨fb,0,none⟩,ptr ⟨tb,0,none⟩]) (.func (.func 178) #[] #[ptr ⟨xb,0,none⟩,ptr ⟨pc,0,none⟩,ptr ⟨fb,0,none⟩,ptr ⟨tb,0,none⟩]):=by
   have SH:∀a:Addr,X0 a.block->VR fw U (ptr a) (ptr a):=fun a ha=>.ptr ⟨st.id _ _ (vD ha),rfl,rfl⟩
   have SQ:iT fw U #[ptr ⟨xb,0,none⟩,ptr ⟨pb,0,none⟩,ptr ⟨fb,0,none⟩,ptr ⟨tb,0,none⟩] #[ptr ⟨xb,0,none⟩,ptr ⟨pc,0,none⟩,ptr ⟨fb,0,none⟩,ptr ⟨tb,0,none⟩]:=
    (((iT.one (SH ⟨xb,0,none⟩ E.xx)).push (VR.ptr (a:=⟨pb,0,none⟩) (a':=⟨pc,0,none⟩) ⟨hρ,rfl,rfl⟩)).push (SH ⟨fb,0,none⟩ E.xf)).push (SH ⟨tb,0,none⟩ E.xt)
   exact .func (by rfl) rfl (fun i x y h=>by simp at h) SQ.size SQ.at_
  have:=last (fun x=>S x\/x=pc) (fun x=>O x/\x≠pc) _ _ _ w U _ (st2.set hvf 53) (uZ.acv _)
  have ea:j_ b kZ sn l (m+1)=j_ b kZ sn l m++if b.sure l (sn ||| m) then[sn ||| m] else[]:=by
   show j_ b kZ sn l m++(if !yS b kZ sn m&&b.sure l (sn ||| m) then[sn ||| m] else[])=_;rw[hsk];rfl
  have ei:ints (j_ b kZ sn l (m+1))=ints (j_ b kZ sn l m)++if b.sure l (sn ||| m) then[.int .i64 ((sn ||| m:Nat):Int)] else[]:=by
   rw[ea];cases b.sure l (sn ||| m)<;>simp[ints]
  have el:(j_ b kZ sn l (m+1)).length=(j_ b kZ sn l m).length+(b.sure l (sn ||| m)).toNat:=by
   rw[ea];cases b.sure l (sn ||| m)<;>simp
  rw[ei,el,em] at this;exact this
 have em:manyN b kZ sn (m+1)=manyN b kZ sn m:=by show manyN b kZ sn m+(if yS b kZ sn m then 0 else 1)=_;rw[hsk];rfl
 have ea:j_ b kZ sn l (m+1)=j_ b kZ sn l m:=by show j_ b kZ sn l m++(if !yS b kZ sn m&&b.sure l (sn ||| m) then[sn ||| m] else[])=_;rw[hsk];simp
 refine .ctl rfl rfl (Fe (k':=.code LP::.inLoop JI::.inBlock 0::.code (.seq Gs (.seq (.block 2 (.loop M5)) wU))::K) rfl) rfl rfl ?_;have:=last S O tmps bu lw w U B st (by rw[em];exact uZ);rw[em,ea] at this;exact this
end
abbrev FS0(b:BB)(bm:aj)(aH:aj)(az:aj)(all:aj)(xb:Nat):Array Value:=#[.agg (b.open bm aH az all),ptr ⟨xb,0,none⟩,.slice none 0 0,ar,ar,ar,ar,ar,ar,ar,ar,ar,ar,ar,ar,ar,ar,ar,ar,ar,ar,ar,ar,ar,ar,ar,ar,ar,ar,ar,ar,ar,ar,ar,ar,ar,ar,ar,ar,ar,ar,ar,ar,ar,ar,ar,ar,ar,ar,ar,ar,ar,ar,ar,ar,ar,ar,ar,ar,ar,ar,ar,ar,ar,ar,ar,ar,ar,ar,ar,ar]
abbrev FS1(b:BB)(bm:aj)(aH:aj)(az:aj)(all:aj):Array Value:=#[.agg (b.open bm aH az all),ar,ar,ar,ar,ar,ar,ar,ar,ar,ar,ar,ar,ar,ar,ar,ar,ar,ar,ar,ar,ar,ar,ar,ar,ar,ar,ar,ar,ar,ar,ar,ar,ar,ar,ar,ar,ar,ar,ar,ar,ar,ar,ar,ar,ar,ar,ar,ar,ar,ar,ar,ar,ar,ar,ar,ar,ar,ar,ar,ar,ar,ar,ar,ar,ar,ar,ar,ar,ar,ar]
abbrev FS2(b:BB)(bm:aj)(aH:aj)(az:aj)(all:aj)(xb:Nat)(sn:Int):Array Value:=#[.agg (b.open bm aH az all),ptr ⟨xb,0,none⟩,.slice none 0 0,.int .i64 sn,ar,ar,ar,ar,ar,ar,ar,ptr ⟨xb,0,none⟩,ptr ⟨xb,0,none⟩,ptr ⟨xb,13,none⟩,aH,.int .i64 sn,ar,ar,ar,ar,ar,ar,ar,ar,ar,ar,ar,ar,ar,ar,ar,ar,ar,ar,ar,ar,ar,ar,ar,ar,ar,ar,ar,ar,ar,ar,ar,ar,ar,ar,ar,ar,ar,ar,ar,ar,ar,ar,ar,ar,ar,ar,ar,ar,ar,ar,ar,ar,ar,ar,ar]
abbrev FS3(b:BB)(bm:aj)(aH:aj)(az:aj)(all:aj)(xb:Nat)(sn:Int)(fb:Nat)(tb:Nat)(c0:Nat)(c1:Nat):Array Value:=#[.agg (b.open bm aH az all),ptr ⟨xb,0,none⟩,.slice none 0 0,.int .i64 sn,ptr ⟨fb,0,none⟩,ptr ⟨tb,0,none⟩,ar,ar,ar,ar,ar,ptr ⟨xb,0,none⟩,ptr ⟨xb,0,none⟩,ptr ⟨xb,13,none⟩,aH,.int .i64 sn,.chan (some c0),.chan (some c1),ar,ar,ar,ar,ar,ar,ar,ar,ar,ar,ar,ar,ar,ar,ar,ar,ar,ar,ar,ar,ar,ar,ar,ar,ar,ar,ar,ar,ar,ar,ar,ar,ar,ar,ar,ar,ar,ar,ar,ar,ar,ar,ar,ar,ar,ar,ar,ar,ar,ar,ar,ar,ar]
abbrev FS4(b:BB)(bm:aj)(aH:aj)(az:aj)(all:aj)(xb:Nat)(sn:Int)(fb:Nat)(tb:Nat)(c0:Nat)(c1:Nat):Array Value:=#[.agg (b.open bm aH az all),ptr ⟨xb,0,none⟩,.slice none 0 0,.int .i64 sn,ptr ⟨fb,0,none⟩,ptr ⟨tb,0,none⟩,.int .i64 0,ar,ar,ar,ar,ptr ⟨xb,0,none⟩,ptr ⟨xb,0,none⟩,ptr ⟨xb,13,none⟩,aH,.int .i64 sn,.chan (some c0),.chan (some c1),ar,ar,ar,ar,ar,ar,ar,ar,ar,ar,ar,ar,ar,ar,ar,ar,ar,ar,ar,ar,ar,ar,ar,ar,ar,ar,ar,ar,ar,ar,ar,ar,ar,ar,ar,ar,ar,ar,ar,ar,ar,ar,ar,ar,ar,ar,ar,ar,ar,ar,ar,ar,ar]
abbrev SY(b:BB)(bm:aj)(aH:aj)(az:aj)(all:aj)(xb:Nat)(sn:Int)(fb:Nat)(tb:Nat)(c0:Nat)(c1:Nat):Array Value:=#[.agg (b.open bm aH az all),ptr ⟨xb,0,none⟩,.slice none 0 0,.int .i64 sn,ptr ⟨fb,0,none⟩,ptr ⟨tb,0,none⟩,.int .i64 0,ar,ar,ar,ar,ptr ⟨xb,0,none⟩,ptr ⟨xb,0,none⟩,ptr ⟨xb,13,none⟩,aH,.int .i64 sn,.chan (some c0),.chan (some c1),.int .i64 0,ar,ar,ar,ar,ar,ar,ar,ar,ar,ar,ar,ar,ar,ar,ar,ar,ar,ar,ar,ar,ar,ar,ar,ar,ar,ar,ar,ar,ar,ar,ar,ar,ar,ar,ar,ar,ar,ar,ar,ar,ar,ar,ar,ar,ar,ar,ar,ar,ar,ar,ar,ar]
section
variable{b:BB}{bm aH az all:aj}{xb sn c0 c1 fb tb:Nat}{W:ak}
theorem pR0(hxb:W.heap.size=xb):gR0.wp aq (fun e a W'=>e=.normal/\a=⟨(FS0 b bm aH az all xb),[]⟩/\W'=W.alloc (.cells (b.open bm aH az all) 122)) ⟨(FS1 b bm aH az all),[]⟩ W:=by
 subst hxb;simp only[gR0,gM,rb,kX,sL,sR];go_wp2
theorem pR1{ss:List Int}(pw:∀s∈ss,1<=s/\s<=8)(hc:W.cell? ⟨xb,13,none⟩=some aH)(hs:Reads W aH ss.length (ss.map (aD .i64)))(Rh:bM ss=sn):gR1.wp aq (fun e a W'=>e=.normal/\a=⟨(FS2 b bm aH az all xb sn),[]⟩/\W'=W) ⟨(FS0 b bm aH az all xb),[]⟩ W:=by
 have hP:=lL ss pw aH W hs;rw[Rh] at hP;clear hs pw Rh;simp only[gR1,gM,rb,kX,sL,sR]
 go_wp2_with (go_at_call 106;refine hP.mono ?_;rintro e w' ⟨rfl,rfl⟩)
theorem Yb(W:ak)(o0 o1 o2 o3:Obj):(((((W.alloc o0).alloc o1).alloc o2).alloc o3).drew).heap[W.heap.size]?=some o0/\(((((W.alloc o0).alloc o1).alloc o2).alloc o3).drew).heap[W.heap.size+1]?=some o1/\(((((W.alloc o0).alloc o1).alloc o2).alloc o3).drew).heap[W.heap.size+1+1]?=some o2/\(((((W.alloc o0).alloc o1).alloc o2).alloc o3).drew).heap[W.heap.size+1+1+1]?=some o3/\Bw W ((((W.alloc o0).alloc o1).alloc o2).alloc o3).drew:=by
 refine⟨?_,?_,?_,?_,(((cY.alloc sM _).alloc (by simp<;>omega) _).alloc (by simp<;>omega) _).drew⟩
 .show((((W.alloc o0).alloc o1).alloc o2).alloc o3).heap[_]?=_;rw[aW _ _ _ (by simp<;>omega),aW _ _ _ (by simp<;>omega),aW _ _ _ sM];exact ax W o0
 .show((((W.alloc o0).alloc o1).alloc o2).alloc o3).heap[_]?=_;rw[aW _ _ _ (by simp<;>omega),aW _ _ _ sM];have:=ax (W.alloc o0) o1;simpa using this
 .show((((W.alloc o0).alloc o1).alloc o2).alloc o3).heap[_]?=_;rw[aW _ _ _ sM];have:=ax ((W.alloc o0).alloc o1) o2;simpa using this
 show((((W.alloc o0).alloc o1).alloc o2).alloc o3).heap[_]?=_;have:=ax (((W.alloc o0).alloc o1).alloc o2) o3;simpa using this
def Q2(b:BB)(bm aH az all:aj)(xb sn:Nat)(W:ak)(a:Act)(W':ak):Prop:=
 ∃c0 c1 fb tb:Nat,a=⟨(FS3 b bm aH az all xb sn fb tb c0 c1),[]⟩/\Chan c0 W'/\Chan c1 W'/\W'.heap[fb]?=some (.cells #[.chan (some c0)] 188 (0,0))/\W'.heap[tb]?=some (.cells #[.chan (some c1)] 189 (0,0))/\c0≠c1/\W.heap.size<=c0/\W.heap.size<=c1/\W.heap.size<=fb/\W.heap.size<=tb/\Bw W W'
theorem pR2:gR2.wp aq (fun e a W'=>e=.normal/\Q2 b bm aH az all xb sn W a W') ⟨(FS2 b bm aH az all xb sn),[]⟩ W:=by
 have alW:∀w,(Instr.makeChan 188 (.int .i64 0)).run aq w=.ok (.chan (some w.heap.size)) (w.alloc (.chan 0 #[] false 0 0 false)):=fun w=>by kernel_rfl
 have alV:∀w,(Instr.makeChan 189 (.int .i64 0)).run aq w=.ok (.chan (some w.heap.size)) (w.alloc (.chan 0 #[] false 0 0 false)):=fun w=>by kernel_rfl
 simp only[gR2,gM,rb,kX,sL,sR]
 go_region
 all_goals refine⟨rfl,_,_,_,_,rfl,?_,?_,?_,?_,oM,oM,oM,oM,oM,(Yb W _ _ _ _).2.2.2.2⟩
 all_goals first
  |exact⟨0,false,(Yb W _ _ _ _).1⟩
  |exact⟨0,false,(Yb W _ _ _ _).2.1⟩
  |exact⟨0,false,(Yb W _ _ _ _).2.2.1⟩
  |exact⟨0,false,(Yb W _ _ _ _).2.2.2.1⟩
  |exact(Yb W _ _ _ _).1
  |exact(Yb W _ _ _ _).2.1
  |exact(Yb W _ _ _ _).2.2.1
  |exact(Yb W _ _ _ _).2.2.2.1
theorem pR3:gR3.wp aq (fun e a W'=>e=.normal/\a=⟨(FS4 b bm aH az all xb sn fb tb c0 c1),[]⟩/\W'=W) ⟨(FS3 b bm aH az all xb sn fb tb c0 c1),[]⟩ W:=by
 simp only[gR3,gM,rb,kX,sL,sR];go_wp2
theorem pR4:gR4.wp aq (fun e a W'=>e=.normal/\a=⟨(SY b bm aH az all xb sn fb tb c0 c1),[]⟩/\W'=W) ⟨(FS4 b bm aH az all xb sn fb tb c0 c1),[]⟩ W:=by
 simp only[gR4,gM,rb,kX,sL,sR];go_wp2
end
end Go.Proofs.YtffladgmkiimjaaGreatDoor
namespace Go.Lag
open Go.Conc
section
variable{P:aL}
def Yq(b:bT)(k:List py)(cs:List bT):Exit->Act->aC->Prop
 |.normal,a,g=>g=G (b.at a k) cs
 |.exit id,a,g=>∃k',exitTo id k=some k'/\g=G (b.at a k') cs
 |.ret,a,g=>∃todo,g=G { b.at a todo with mode:=.returning } cs
 |_,_,_=>False
def tj:Exit->Bool
 |.normal|.exit _|.ret=>true
 |_=>false
def Vu(Q:Exit->Act->ak->Prop)(k:List py):Prop:=∀id a w,Q (.exit id) a w->∃k',exitTo id k=some k'
def vX(P:aL)(c:gQ)(Q:Exit->Act->ak->Prop)(a:Act)(W:ak):Prop:=
 ∀(b:bT) (k:List py) (cs:List bT),b.kind≠.early->Vu Q k->jg P (fun g' W'=>∃e a' I d,Q e a' (dn W' I d)/\Yq b k cs e a' g') (G (b.at a (.code c::k)) cs) W
def eC(P:aL)(aM:Array cI)(Q:Exit->Act->ak->Prop)(l:List Nat)(a:Act)(W:ak):Prop:=
 ∀(b:bT) (k:List py) (cs:List bT),b.kind≠.early->Vu Q k->jg P (fun g' W'=>∃e a' I d,Q e a' (dn W' I d)/\Yq b k cs e a' g') (G (b.at a (.inRegion aM l::k)) cs) W
variable{Q Q':Exit->Act->ak->Prop}{a:Act}{W:ak}{b:bT}{k:List py}{cs:List bT}
theorem y_(T:Quiet P){m:List py}(hb:b.kind≠.early)(hL:Vu Q k)(hQ:∀e a w,Q e a w->tj e=true)
  (h:∀I,∃e a' w',Q e a' w'/\Arrives P (lone (b.at a m) cs (dn W I 0)) b k cs e a' w') :
  jg P (fun g' W'=>∃e a' I d,Q e a' (dn W' I d)/\Yq b k cs e a' g') (G (b.at a m) cs) W:=by
 refine(BV T (Q:=fun fr' W'=>∃e a',Q e a' W'/\Yq b k cs e a' (G fr' cs)) fun I=>?_).mono ?_
 .obtain⟨e,a',w',hq,harr⟩:=h I;have hf:=hQ _ _ _ hq;cases e with
  |normal=>exact⟨_,w',harr,_,a',hq,rfl⟩
  |exit id=>
   obtain⟨k',hk⟩:=hL id _ _ hq;exact⟨_,w',harr k' hk,_,a',hq,k',hk,rfl⟩
  |ret=>
   obtain⟨todo,hs⟩:=harr;exact⟨_,w',hs,_,a',hq,todo,rfl⟩
  |goto l=>cases hf
  |panic c=>cases hf
  |outgrown=>cases hf
 rintro g' W' _ ⟨fr',I,d,rfl,e,a',hq,harr⟩;exact⟨e,a',I,d,hq,harr⟩
theorem gX(T:Quiet P){c:gQ}(hQ:∀e a w,Q e a w->tj e=true)(h:∀I d,c.wp P Q a (dn W I d)):vX P c Q a W:=fun b k cs hb hL=>
 y_ T hb hL hQ fun I=>h I 0 b k cs
theorem rp(T:Quiet P){aM:Array cI}{l:List Nat}(hQ:∀e a w,Q e a w->tj e=true)(h:∀I d,wpOps P aM Q l a (dn W I d)):eC P aM Q l a W:=fun b k cs hb hL=>
 y_ T hb hL hQ fun I=>wp_ops l a _ (h I 0) b k cs
theorem V_{c:gQ}{I:Nat->Question->Nat}{d:Nat}(h:vX P c Q a (dn W I d)):vX P c Q a W:=fun b k cs hb hL=>(h b k cs hb hL).ofT
theorem jO(T:Quiet P){R:aC->ak->Prop}{fr fr':bT}(h:∀w,step P (lone fr cs w)=.next (lone fr' cs w))(hk:jg P R (G fr' cs) W):jg P R (G fr cs) W:=
 (xQ T (I:=W.tape) (d:=W.drawn) (rW (h _))).bind fun g' W' hs hq=>by
  obtain⟨rfl,I,d,rfl⟩:=hq;exact hk.QW I d
theorem gV(T:Quiet P){x y:gQ}(h:vX P x (Exit.then (fun a w=>vX P y Q a w) Q) a W):vX P (.seq x y) Q a W:=by
 intro b k cs hb hL;refine jO T (fun w=>step_seq) ?_;refine(h b (.code y::k) cs hb fun id a w hq=>hL id a w hq).bind fun g' W' hs hq=>?_;obtain⟨e,a',I,d,hq,harr⟩:=hq;cases e with
 |normal=>
  subst harr;exact(hq b k cs hb hL).ofT
 |exit id=>
  obtain⟨k',hk,rfl⟩:=harr;exact .here ⟨.exit id,a',I,d,hq,k',hk,rfl⟩
 |ret=>
  obtain⟨todo,rfl⟩:=harr;exact .here ⟨.ret,a',I,d,hq,todo,rfl⟩
 |goto l=>exact harr.elim
 |panic c=>exact harr.elim
 |outgrown=>exact harr.elim
theorem Qi(T:Quiet P){x y:gQ}(hQ:∀e a w,e≠.normal->Q e a w->tj e=true)(h:∀I d,x.wp P (Exit.then (fun a w=>vX P y Q a w) Q) a (dn W I d)):vX P (.seq x y) Q a W:=
 gV T (gX T (fun e a w hq=>by cases e<;>first|rfl|exact hQ _ _ _ sN hq) h)
theorem lG(T:Quiet P){c:bI}{x y:gQ}{t:Bool}(hc:a.eval c=.bool t)(h:vX P (if t then x else y) Q a W):vX P (.cond c x y) Q a W:=fun b k cs hb hL=>
 jO T (fun w=>step_cond hc) (h b k cs hb hL)
theorem tM(T:Quiet P){id:Nat}{aM:Array cI}(h:eC P aM Q (aQ aM.size) a W):vX P (.region id aM false) Q a W:=fun b k cs hb hL=>
 jO T (fun w=>step_region) (h b k cs hb hL)
theorem TE{aM:Array cI}{i:Nat}{rest:List Nat}{o:cI}(ho:aM[i]?=some o){w:ak}(hw:cL o (yielded aM a.tmps)=true){next:Act->ak->Prop}
  (h:o.wp P a w next fun _ _ _=>False):∃a' w',next a' w'/\Steps P (lone (b.at a (.inRegion aM (i::rest)::k)) cs w) (lone (b.at a' (.inRegion aM rest::k)) cs w'):=by
 simp only[Oper.wp,Oper.upon] at h;have hg:=stepG_op (P:=P) (b:=b) (k:=k) (cs:=cs) (w:=w) (rest:=rest) ho hw
 have rZ:∀v,(b.at a (.inRegion aM (i::rest)::k)).finish v=b.at (a.put o.dst v) (.inRegion aM rest::k):=by
  intro v;rw[Frame.finish_at,ho];rfl
 split at h
 .rename_i v w' hr;refine⟨_,_,h,.one (step_lone_go ?_)⟩;rw[hg,<-rZ];simp[ek,hr]
 .rename_i w' hr;refine⟨_,_,h,.one (step_lone_go ?_)⟩;rw[hg,<-rZ];simp[ek,hr]
 .rename_i d w' hr;refine⟨_,_,h,.one (step_lone_go ?_)⟩
  have:({ b.at a (.inRegion aM (i::rest)::k) with defers:=d::a.defers }:bT).finish ar =
    b.at ({ a with defers:=d::a.defers }.put o.dst ar) (.inRegion aM rest::k):=by
   have:=Frame.finish_at b { a with defers:=d::a.defers } aM i rest k ar;rw[ho] at this;exact this
  rw[hg];simp only[ek,Sem.runT_eq,hr,GStep.bare_after];exact congrArg (fun fr=>GStep.go { frame:=fr,callers:=cs,status:=.running,dying:=none } w') this
 .rename_i f args w' hr;obtain⟨e,w'',fr,hR,NT,_,aaj⟩:=h (b.at a (.inRegion aM (i::rest)::k)::cs)
  have tZ:step P (lone (b.at a (.inRegion aM (i::rest)::k)) cs w)=.next (lone (eo P f args .normal) (b.at a (.inRegion aM (i::rest)::k)::cs) w'):=
   step_lone_go (by rw[hg];simp[ek,hr,Frame.at])
  cases e with
  |returned v=>
   refine⟨_,_,hR,.head tZ (NT.trans (.one ?_))⟩;rw[<-rZ];exact step_leave_returned aaj
  |panicked chain=>exact hR.elim
  |outgrown=>obtain⟨_,_,h0⟩:=hR;exact h0.elim
 .rename_i row args w' hr;obtain⟨v,w'',hR,NT⟩:=h (b.at a (.inRegion aM (i::rest)::k)) cs
  have tZ:step P (lone (b.at a (.inRegion aM (i::rest)::k)) cs w)=.next (lone (Frame.ofRow P row args .normal) (b.at a (.inRegion aM (i::rest)::k)::cs) w'):=
   step_lone_go (by rw[hg];simp[ek,hr,Frame.at])
  refine⟨_,_,hR,.head tZ ?_⟩;rw[<-rZ];exact NT
 .exact h.elim
 exact h.elim
theorem fY(T:Quiet P){aM:Array cI}{i:Nat}{rest:List Nat}{o:cI}(ho:aM[i]?=some o)(hw:cL o (yielded aM a.tmps)=true)
  (h:∀I d,o.wp P a (dn W I d) (fun a' w'=>eC P aM Q rest a' w') fun _ _ _=>False):eC P aM Q (i::rest) a W:=by
 intro b k cs hb hL;refine(BV T (Q:=fun fr' W'=>∃a',fr'=b.at a' (.inRegion aM rest::k)/\eC P aM Q rest a' W') fun I=>?_).bind ?_
 .obtain⟨a',w',hn,hs⟩:=TE (b:=b) (k:=k) (cs:=cs) (rest:=rest) ho hw (h I 0);exact⟨_,w',hs,a',rfl,hn⟩
 rintro g' W' _ ⟨fr',I,d,rfl,a',rfl,hn⟩;exact(hn b k cs hb hL).ofT
theorem Kk(T:Quiet P){aM:Array cI}{i:Nat}{rest:List Nat}{o:cI}(ho:aM[i]?=some o)(hw:cL o (yielded aM a.tmps)=false)(h:eC P aM Q rest (a.put o.dst ar) W):eC P aM Q (i::rest) a W:=by
 intro b k cs hb hL;refine jO T (fun w=>step_op_skip (by simp[ho,hw])) ?_;have e:(aM[i]?).bind (·.dst)=o.dst:=by rw[ho];rfl
 rw[e];exact h b k cs hb hL
theorem rq(T:Quiet P){aM:Array cI}{i:Nat}{rest:List Nat}{o:cI}(ho:aM[i]?=some o)(hw:cL o (yielded aM a.tmps)=true){f:dU}{args:Array aj}(he:∀w,(cu a.eval o).run P w=.ok (.enter f args) w)
  {R:aj->ak->Prop} (hc:jE P f args W R) (h:∀v W',W.heap.size<=W'.heap.size->R v W'->eC P aM Q rest (a.put o.dst v) W'):eC P aM Q (i::rest) a W:=by
 intro b k cs hb hL
 have tZ:∀w,step P (lone (b.at a (.inRegion aM (i::rest)::k)) cs w)=.next (lone (eo P f args .normal) (b.at a (.inRegion aM (i::rest)::k)::cs) w):=fun w=>by
  have hg:=stepG_op (P:=P) (b:=b) (k:=k) (cs:=cs) (w:=w) (rest:=rest) ho hw;exact step_lone_go (by rw[hg];simp[ek,he w,Frame.at])
 refine(xQ T (I:=W.tape) (d:=W.drawn) (rW (tZ _))).bind fun g' W' hs hq=>?_;obtain⟨rfl,I,d,rfl⟩:=hq;refine jg.QW ?_ I d;refine(hc (b.at a (.inRegion aM (i::rest)::k)::cs)).bind fun g2 W2 hs2 Xq=>?_;obtain⟨fr,v,τ2,d2,rfl,hv,hfn,hl⟩:=Xq;refine(IX T hl).bind fun g3 W3 hs3 hq3=>?_;obtain⟨rfl,τ3,d3,rfl⟩:=hq3
 have rZ:(b.at a (.inRegion aM (i::rest)::k)).finish v=b.at (a.put o.dst v) (.inRegion aM rest::k):=by
  rw[Frame.finish_at,ho];rfl
 rw[rZ];exact jg.QW (h v W2 hs2 hv b k cs hb hL) τ3 d3
def Ee(P:aL)(fn:Func)(R:aj->ak->Prop):Exit->Act->ak->Prop
 |.normal,a,w|.ret,a,w=>a.defers=[]/\∃v,(results fn a.tmps).run P w=.ok v w/\R v w
 |_,_,_=>False
theorem aP{fn:Func}{R:aj->ak->Prop}:∀e a w,Ee P fn R e a w->tj e=true:=fun e a w h=>by cases e<;>first|rfl|exact h.elim
theorem xT{fn:Func}{R:aj->ak->Prop}{c:gQ}{w:ak}(h:c.wp P (bodyPost P fn fun e w'=>∃v,e=.returned v/\R v w') a w):c.wp P (Ee P fn R) a w:=by
 refine Bx h fun e a w hq=>?_;cases e with
 |normal=>obtain⟨h1,v,h2,v',h3,h4⟩:=hq;cases h3;exact⟨h1,v,h2,h4⟩
 |ret=>obtain⟨h1,v,h2,v',h3,h4⟩:=hq;cases h3;exact⟨h1,v,h2,h4⟩
 |panic chain=>obtain⟨_,v,h3,_⟩:=hq;cases h3
 |exit id=>exact hq.elim
 |goto l=>exact hq.elim
 |outgrown=>obtain⟨v,h3,_⟩:=hq;cases h3
theorem jA(T:Quiet P){f:dU}{fn:Func}{c:gQ}{args:Array aj}{R:aj->ak->Prop}(hf:P.funcs[f]?=some fn)(hb:fn.body=some c)(hR:∀v W' I d,R v (dn W' I d)->R v W')
  (h:vX P c (Ee P fn R) { tmps:=args++bz (fn.ntmps-args.size) ar,defers:=[] } W):jE P f args W R:=by
 intro cs;let b:Frame:={ (default:bT) with fn:=f,kind:=.normal }
 have tZ:eo P f args .normal=b.at { tmps:=args++bz (fn.ntmps-args.size) ar,defers:=[] } [.code c]:=by
  simp[eo,Frame.at,hf,hb,b]
 rw[tZ];refine(h b [] cs (by simp[b]) fun id a w hq=>hq.elim).bind fun g' W' hs hq=>?_;obtain⟨e,a',I,d,hq,harr⟩:=hq;cases e with
 |normal=>
  subst harr;obtain⟨hd,v,hr,hv⟩:=hq;refine jO T (fun w=>step_end) (.here ⟨_,v,I,d,rfl,hR _ _ _ _ hv,rfl,rfl,hd,rfl,fn,hf,hr⟩)
 |ret=>
  obtain⟨todo,rfl⟩:=harr;obtain⟨hd,v,hr,hv⟩:=hq;exact .here ⟨_,v,I,d,rfl,hR _ _ _ _ hv,rfl,rfl,hd,rfl,fn,hf,hr⟩
 |exit id=>exact harr.elim fun _ h=>hq.elim
 |goto l=>exact harr.elim
 |panic c=>exact harr.elim
 |outgrown=>exact harr.elim
end
structure Old(W W':ak):Prop where
 os:W'.os=W.os
 output:W'.output=W.output
 size:W.heap.size<=W'.heap.size
 block:∀k,k<W.heap.size->W'.heap[k]?=W.heap[k]?
def Old.refl(W:ak):Old W W:=⟨rfl,rfl,aJ _,fun _ _=>rfl⟩
def Old.trans{a b c:ak}(h:Old a b)(k:Old b c):Old a c:=⟨k.os.trans h.os,k.output.trans h.output,aG h.size k.size,fun i hi=>(k.block i (bD hi h.size)).trans (h.block i hi)⟩
def Old.of_below{W W':ak}(h:RowKit.Below W.heap.size W W'):Old W W':=⟨h.os,h.output,h.size,h.block⟩
def Old.QW{W W':ak}(h:Old W W')(I:Nat->Question->Nat)(d:Nat)(I':Nat->Question->Nat)(d':Nat):Old (dn W I d) (dn W' I' d'):=⟨h.os,h.output,h.size,h.block⟩
def Old.cell{W W':ak}(h:Old W W'){a:Addr}(ha:a.block<W.heap.size):W'.cell? a=W.cell? a:=iY (h.block _ ha)
def yR[uK]{W w:ak}(V:jo W w){k:Nat}{o:Obj}(h:W.heap[k]?=some o)(ho:fU o=true):w.heap[k]?=some o:=by
 rcases V.at_ k with e|⟨e,_⟩
 .rw[<-e];exact h
 rw[e] at h;cases h;cases ho
def T4[K:uK]{W w w':ak}(V:jo W w)(cV:dv W)(os:w'.os=w.os)(out:w'.output=w.output)(sz:w.heap.size<=w'.heap.size)(n:Nat)(hκ:∀b o,b<W.heap.size->w'.heap[b]?=some o->fU o=false->w.heap[b]?=some o)(hk:∀k,k<n->w'.heap[k]?=w.heap[k]?) :
  ∃W',jo W' w'/\dv W'/\W'.os=W.os/\W'.output=W.output/\W.heap.size<=W'.heap.size/\(∀k,k<n->k<W.heap.size->W'.heap[k]?=W.heap[k]?)/\∀(b:Nat) (o:Obj),w'.heap[b]?=some o->fU o=true->W'.heap[b]?=some o:=by
 obtain⟨W',hV,rY,_,_,kK⟩:=Cq w' fun b x h=>⟨by have:=V.old b x h;have:=V.size;omega,fun o h1 h2=>by
  have h3:=V.old b x h;replace h1:=hκ b o h3 h1 h2
  have h4:W.heap[b]?=some (.coro none):=by
   rcases V.at_ b with e|⟨e,_⟩
   .rw[h1] at e;rcases cV b o e with h5|h5
    .rw[h5] at h2;cases h2
    rw[e,h5]
   exact e
  have h5:=V.kept b x h h4
  rw[h1] at h5;exact a7 h5⟩
 refine⟨W',hV,rY,hV.os.trans (os.trans V.os.symm),hV.out.trans (out.trans V.out.symm),by rw[hV.size,V.size];exact sz,fun k pP hk2=>?_,kK⟩;have rE:=hk k pP;obtain⟨o,ho⟩:∃o,W.heap[k]?=some o:=⟨_,aO hk2⟩
 rw[ho];rcases cV k o ho with h1|rfl
 .exact kK k o (by rw[rE];exact yR V ho h1) h1
 
 rcases V.at_ k with e|⟨_,x,hx,ly⟩
 .have hw':w'.heap[k]?=some (.coro none):=by rw[rE,<-e];exact ho
  rcases hV.at_ k with e2|⟨e2,_⟩
  .rw[e2];exact hw'
  exact e2
 have hw':w'.heap[k]?=some x:=by rw[rE];exact hx
 rcases hV.at_ k with e2|⟨e2,_⟩
 .rw[hw'] at e2;rcases rY k x e2 with h|h
  .rw[h] at ly;cases ly
  rw[e2,h]
 exact e2
section
variable{P:aL}{b:bT}{k:List py}{cs:List bT}{W:ak}{R:aC->ak->Prop}
theorem oJ(T:Quiet P){c:gQ}{a:Act}(hb:b.kind≠.early){Q:Act->ak->Prop}(h:∀I d,c.wp P (fun e a W'=>e=.normal/\Q a W') a (dn W I d))
  (hk:∀a' W' I d,Q a' (dn W' I d)->jg P R (G (b.at a' k) cs) W'):jg P R (G (b.at a (.code c::k)) cs) W:=by
 refine(y_ T (m:=.code c::k) (Q:=fun e a W'=>e=.normal/\Q a W') hb (fun id a w hq=>by cases hq.1) (fun e a w hq=>by rw[hq.1];rfl) fun I=>h I 0 b k cs).bind fun g' W' hs hq=>?_;obtain⟨e,a',I,d,⟨rfl,hq⟩,harr⟩:=hq;subst harr;exact hk a' W' I d hq
end
open Go Go.RowKit Go.ChangeShapes
section
variable{H:Type}{enc:aZ × aj->H}
theorem Lg{a:Assume}{C:Checked}{os:Os}{f:dU}{fn:Func}{s:ChangeSpec}{conds:List PathCond}{apart fresh handsOn again:Bool}{X:ak->Array aj->Prop}
  (hX:∀(w w':ak) (args:Array aj),w.heap=w'.heap->X w args->X w' args)
  (own:ownKnob C.prog.godebug=none) (started:os.Started) (hfn:C.prog.funcs[f]?=some fn)
  (witness:∃(w:ak) (tape:Tape) (i:Input),w.os=os/\(w.forCall tape i).Shaped C.prog/\i.vars=[]/\Input.okWide C.prog (w.forCall tape i) .any w.heap.size f i/\
   ((s.pre enc C.prog fn conds apart (w.forCall tape i).memory i.args/\X (w.forCall tape i).memory i.args)/\sizedMet enc C.prog fn (OpenSpec.ofChange s) apart (w.forCall tape i).memory i.args)/\a.holds C.prog (lone (eo C.prog f i.args .normal) [] (w.forCall tape i)))
  (runs:∀(W:ak) (base:Nat) (args:Array aj) (ds gs:List (DataW H)) (before:List MemPlace),
   (∀(j:Nat) t v,fn.params[j]?=some t->args[j]?=some v->Value.okWide C.prog W .any base t v)->
   DataW.Whole enc C.prog fn.params.toList s.vars apart W args.toList ds gs before->X W args->
   ∃M last o w' t',runNT C.prog (M+1) (solo (G (eo C.prog f args .normal) []) W) #[]=(.ended o w',t')/\runN C.prog M (solo (G (eo C.prog f args .normal) []) W)=.next last/\
    step C.prog last=.ended o w'/\Conc.Good C.prog (fun v W'=>s.post enc C.prog fn apart fresh handsOn again W args v W') last o w' t') :
  ReturnsInLeavingWide a C os f .any (fun w args=>(s.pre enc C.prog fn conds apart w args/\X w args)/\sizedMet enc C.prog fn (OpenSpec.ofChange s) apart w args) (s.post enc C.prog fn apart fresh handsOn again):=by
 refine returnsInLeavingWide_of_good own started witness ?_;intro w tape i _ _ _ cV hpre ahb;obtain⟨_,_,_,fn',ahi,_,_,_,_,hval⟩:=cV;have e:fn'=fn:=a7 (ahi.symm.trans hfn);subst e;obtain⟨⟨⟨ds,gs,before,hw,hc⟩,hx⟩,hz⟩:=hpre;have hw':=DataW.Whole.of_heap (w':=w.forCall tape i) (by rfl) hw;obtain⟨M,last,o,w',t',h1,h2,h3,h4⟩:=runs (w.forCall tape i) w.heap.size i.args ds gs before hval hw' (hX _ _ _ (by rfl) hx);exact⟨M,last,o,w',t',h1,h2,h3,h4.mono fun v hp=>ChangeSpec.post_blind hp⟩
theorem xg{P:aL}(hl:laidOutB P=true){W W':ak}(hb:Bw W W'):∀ {ts:List aZ} {vs:List aj} {ds:List (DataW H)} {p:List MemPlace},(∀t∈ts,P.readableRec t=true/\t<P.types.size)->(∀x∈p,x.block<W.heap.size)->
  DataW.TrodAll enc P W 0 (fun _=>true) true ts vs ds p->DataW.TrodAll enc P W' 0 (fun b=>decide (b<W.heap.size)) true ts vs ds p
 |[],[],[],p,_,_,h=>h
 |t::ts,v::vs,d::ds,ps,ht,hp,h=>by
  obtain⟨p,q,h1,h2,rfl⟩:=h;exact⟨p,q,Below.trod hl (ht t sM).1 (ht t sM).2 h1 hb fun x hx=>hp x (by simp[hx]),xg hl hb (fun t h=>ht t (by simp[h])) (fun x hx=>hp x (by simp[hx])) h2,rfl⟩
 |[],[],_::_,_,_,_,h=>h.elim
 |[],_::_,_,_,_,_,h=>h.elim
 |_::_,[],_,_,_,_,h=>h.elim
 |_::_,_::_,[],_,_,_,h=>h.elim
theorem Tr{P:aL}{fn:Func}{s:ChangeSpec}{apart:Bool}{W w':ak}{args:Array aj}{ds gs:List (DataW H)}{before:List MemPlace}{tb:aZ}(hl:laidOutB P=true)(YC:s.vars=[])(Xt:∀t∈fn.params.toList,P.readableRec t=true/\t<P.types.size)
  (hres:fn.resultTypes = #[tb]) (adW:P.underlying tb=some .bool) (hW:DataW.Whole enc P fn.params.toList s.vars apart W args.toList ds gs before) (hfn:∀ds':List (DataW H),ds'.length=fn.params.size->s.fn H ds'={ results:=[.lit (.bool true)],args:=ds' })
  (hlen:ds.length=fn.params.size) (hb:Bw W { w' with tape:=W.tape }):s.post enc P fn apart true false false W args (.bool true) w':=by
 refine ChangeSpec.post_alike (W'':={ w' with tape:=W.tape }) ?_ ⟨rfl,rfl,rfl⟩;have hW':=hW;obtain⟨p,q,hA,hV,rfl,_,_⟩:=hW
 have qE:gs=[]/\q=[]:=by
  rw[YC] at hV;cases gs with
  |nil=>exact⟨rfl,hV⟩
  |cons=>exact hV.elim
 obtain⟨rfl,rfl⟩:=qE;have hlt:∀x∈p,x.block<W.heap.size:=fun x hx=>hW'.lt x (by simp[hx]);refine⟨ds,[],p++[],[],p,[],hW',?_,?_,?_,hb.frame _,fun h=>by cases h⟩
 .rw[Au,hfn ds hlen,hres];exact trodAll_mk1 (shut_bool adW _)
 .rw[Au,hfn ds hlen];exact xg hl hb Xt hlt hA
 rw[Au,hfn ds hlen,YC];rfl
end
def DW{P:aL}(T:Quiet P){f:dU}{args:Array aj}{v0:aj}(hi:P.inits.idxOf? f=none)(W:ak)
  (h:∀Wk:ak,Wk.heap.size=W.heap.size->(∀(b:Nat) (o:Obj),W.heap[b]?=some o->fU o=true->Wk.heap[b]?=some o)->jE P f args Wk fun v W'=>v=v0/\Old Wk W') :
  ∃M last o w' t',runNT P (M+1) (solo (G (eo P f args .normal) []) W) #[]=(.ended o w',t')/\runN P M (solo (G (eo P f args .normal) []) W)=.next last/\
   step P last=.ended o w'/\Conc.Good P (fun v w'=>v=v0/\Bw W { w' with tape:=W.tape }) last o w' t':=by
 letI K:uK:=⟨fun b=>W.heap[b]?⟩
 obtain⟨Wk,V,cV,-,-,hk⟩:=Cq W fun b x hx=>⟨(ah.1 hx).1,fun o ho _=>a7 (ho.symm.trans hx)⟩
 obtain⟨M,last,o,w',t',h1,h2,h3,h4⟩:=E9 T hi (h Wk V.size hk) cV V;refine⟨M,last,o,w',t',h1,h2,h3,h4.mono ?_⟩;rintro v ⟨W',⟨rfl,hold⟩,V',-,hs⟩;refine⟨rfl,V'.os.symm.trans (hold.os.trans V.os),rfl,V'.out.symm.trans (hold.output.trans V.out),?_,fun b hb=>?_⟩
 .show W.heap.size<=w'.heap.size;rw[<-V'.size,<-V.size];exact hold.size
 show w'.heap[b]?=W.heap[b]?;obtain⟨o,ho⟩:∃o,W.heap[b]?=some o:=⟨_,aO hb⟩
 have zE:=hold.block b (by rw[V.size];exact hb);have YR:W'.heap[b]?=some (.coro none)->w'.heap[b]?=W.heap[b]?:=fun e=>(V'.kept b o ho e).trans ho.symm;rcases V.at_ b with e|⟨e,-⟩
 .rcases V'.at_ b with e'|⟨e',-⟩
  .rw[<-e',zE,e]
  exact YR e'
 exact YR (zE.trans e)
end Go.Lag
namespace Go.Proofs.YtffladgmkiimjaaGreatDoor
open Go Go.RowKit Go.Lag Go.ChangeShapes
def Tryz.own:ownKnob Tryz.prog.godebug=none:=kQ
def Tryz.laidOut:laidOutB aq=true:=kQ
def U8(os:Os)(args:Array aj):laidMetH aq Lj ((World.doorLaid aq 400 os).forCall (fun _ _=>0) ⟨#[],args,[]⟩).memory:=
 laidMetH_of_parts3 (fuel:=8) (laidMet_of_run' 8 kQ kQ) kQ kQ
open Go.Conc
def PB{W:ak}{base:Nat}{t:aZ}{k:IntKind}{v:aj}(ht:Tryz.prog.underlying t=some (.int k))(h:Value.okWide aq W .any base t v):∃x,v=.int k x/\k.has x:=by
 unfold Value.okWide at h;rw[ht] at h;exact T6 ht h
def qf{W Wk:ak}(hk:∀(b:Nat) (o:Obj),W.heap[b]?=some o->fU o=true->Wk.heap[b]?=some o){a:Addr}{v:aj}(h:W.cell? a=some v):Wk.cell? a=some v:=by
 unfold dG at h ⊢;cases e:W.heap[a.block]? with
 |none=>rw[e] at h;simp at h
 |some o=>
  rw[e] at h;cases o<;>simp only[] at h<;>first|(rw[hk _ _ e rfl];exact h)|(cases h)
def Laid.kill{W Wk:ak}(h:Laid W)(hs:Wk.heap.size=W.heap.size)(hk:∀(b:Nat) (o:Obj),W.heap[b]?=some o->fU o=true->Wk.heap[b]?=some o):Laid Wk:=
 ⟨qf hk h.c0,qf hk h.c1,qf hk h.c2,qf hk h.c3,qf hk h.c4,by rw[hs];exact h.lt⟩
def Reads.kill{W Wk:ak}{v:aj}{n:Nat}{xs:List aj}(h:Reads W v n xs)(hs:Wk.heap.size=W.heap.size)(hk:∀(b:Nat) (o:Obj),W.heap[b]?=some o->fU o=true->Wk.heap[b]?=some o):Reads Wk v n xs:=by
 rcases h with h|⟨g,off,cap,h1,h2,h3,h4⟩
 .exact .inl h
 exact .inr ⟨g,off,cap,h1,h2,by rw[hs];exact h3,fun j u hj=>qf hk (h4 j u hj)⟩
def aif:Tryz.prog.cellsOf 81=3:=kQ
def co3:Tryz.prog.cellsOf 3=1:=kQ
def abo{W:ak}{base:Nat}{a:Addr}{cs:List aj}(h:W.cells? base a 1=some cs):∃x,cs=[x]/\W.cell? (a.add 0)=some x:=by
 unfold World.cells? at h;split at h
 .simp only[show aQ 1=[0] from rfl,List.mapM_cons,List.mapM_nil] at h;cases h0:W.cell? (a.add 0)<;>rw[h0] at h<;>simp at h;exact⟨_,h.symm,rfl⟩
 cases h
section
variable{H:Type}{enc:aZ × aj->H}{W:ak}{hd:Bool}
theorem NG{fuel:Nat}{g off n c:Nat}{x:DataW H × List MemPlace}(uP:n<=c)(h:DataW.trod enc aq W 0 (fun _=>true) hd fuel 26 [.slice (some ⟨g,off,none⟩) n c]=some x) :
  ∀i,i<n->∃mk:Mk,∀j u,mk.cells[j]?=some u->W.cell? ⟨g,off+i*3+j,none⟩=some u:=by
 intro i hi;rcases Go.Deep.open_slice Tryz.underlying26 h with⟨h0,-⟩|⟨a,len,cap,mm,nn,D,Pl,h0,-,-,-,hm,-,hel⟩
 .cases h0
 .cases h0;obtain⟨cs',hc,ht⟩:=hel i (by rw[hm];simp;omega);rw[aif] at hc;obtain⟨x,y,z,rfl,e0,e1,e2⟩:=Vc hc;rw[tJ,tJ] at e0 e1 e2;obtain⟨y0,y1,n1,-,-,t0,t1⟩:=trod_struct2 Tryz.underlying81 ht;have c23:Tryz.prog.cellsOf 23=2:=kQ;simp only[co3,c23] at t0 t1;obtain⟨z0,z1,n2,-,-,u0,u1⟩:=trod_struct2 Tryz.underlying23 t1;simp only[co3] at u0 u1;obtain⟨m,hs,-⟩:=DataW.trod_int dR t0;obtain⟨lo,hlo,-⟩:=DataW.trod_int dR u0;obtain⟨hi',hhi,-⟩:=DataW.trod_int dR u1;simp at hs hlo hhi;subst hs;subst hlo;subst hhi;refine⟨⟨m,lo,hi'⟩,fun j u hj=>?_⟩
  match j,hj with
  |0,hj=>cases hj;exact e0
  |1,hj=>cases hj;exact e1
  |2,hj=>cases hj;exact e2
  |j+3,hj=>simp[Mk.cells] at hj
theorem Qx{fuel:Nat}{g off n c:Nat}{x:DataW H × List MemPlace}(uP:n<=c)(h:DataW.trod enc aq W 0 (fun _=>true) hd fuel 25 [.slice (some ⟨g,off,none⟩) n c]=some x) :
  ∀i,i<n->∃k:Int,W.cell? ⟨g,off+i,none⟩=some (.int .i64 k):=by
 intro i hi;rcases Go.Deep.open_slice Tryz.underlying25 h with⟨h0,-⟩|⟨a,len,cap,mm,nn,D,Pl,h0,-,-,-,hm,-,hel⟩
 .cases h0
 cases h0;obtain⟨cs',hc,ht⟩:=hel i (by rw[hm];simp;omega);rw[co3] at hc;obtain⟨x,rfl,e0⟩:=abo hc;rw[tJ,tJ] at e0;obtain⟨k,hk,-⟩:=DataW.trod_int dR ht;simp at hk;subst hk;exact⟨k,by simpa using e0⟩
end
def KN{W:ak}{g off n c:Nat}(uP:n<=c)(hg:g<W.heap.size)(hn:n<=20)(h:∀i,i<n->∃mk:Mk,∀j u,mk.cells[j]?=some u->W.cell? ⟨g,off+i*3+j,none⟩=some u) :
  ∃ms:List Mk,ms.length=n/\Reads W (.slice (some ⟨g,off,none⟩) n c) n (dM ms):=by
 obtain⟨f,hf⟩:∃f:Nat->Mk,∀i,i<n->∀j u,(f i).cells[j]?=some u->W.cell? ⟨g,off+i*3+j,none⟩=some u:=
  ⟨fun i=>if hi:i<n then(h i hi).choose else⟨0,0,0⟩,fun i hi=>by simp only[dif_pos hi];exact(h i hi).choose_spec⟩
 refine⟨(aQ n).map f,sM,.inr ⟨g,off,c,rfl,⟨oM,uP⟩,hg,fun j u hj=>?_⟩⟩;have MV:j<(dM ((aQ n).map f)).length:=(lj.1 hj).1;rw[p_] at MV;simp at MV;have hk:j / 3<n:=oM;have e:j=3*(j / 3)+j % 3:=oM;rw[e,m8 _ _ _ (by simpa using hk) oM] at hj;simp only[List.getElem_map,List.getElem_range] at hj;rw[show off+j=off+(j / 3)*3+j % 3 by omega];exact hf (j / 3) hk _ _ hj
def Nq{W:ak}{g off n c:Nat}(uP:n<=c)(hg:g<W.heap.size)(hn:n<=20)(h:∀i,i<n->∃k:Int,W.cell? ⟨g,off+i,none⟩=some (.int .i64 k)) :
  ∃ss:List Int,ss.length=n/\Reads W (.slice (some ⟨g,off,none⟩) n c) n (ss.map (aD .i64)):=by
 obtain⟨f,hf⟩:∃f:Nat->Int,∀i,i<n->W.cell? ⟨g,off+i,none⟩=some (.int .i64 (f i)):=
  ⟨fun i=>if hi:i<n then(h i hi).choose else 0,fun i hi=>by simp only[dif_pos hi];exact(h i hi).choose_spec⟩
 refine⟨(aQ n).map f,sM,.inr ⟨g,off,c,rfl,⟨oM,uP⟩,hg,fun j u hj=>?_⟩⟩;have MV:j<(((aQ n).map f).map (aD .i64)).length:=(lj.1 hj).1;simp at MV;simp[MV] at hj;subst hj;exact hf j MV
def TW{H:Type}{enc:aZ × aj->H}{W:ak}{b:BB}{m s k:aj}{d:DataW H}{p:List MemPlace}(h:DataW.Trod enc aq W 0 (fun _=>true) true 28 (.agg (b.cells m s k)) d p)(hm:SliceAt W m)(hs:SliceAt W s)(hk:SliceAt W k) :
  ∃(p1 p2 p3:Option Addr) (n1 c1 n2 c2 n3 c3:Nat),m=.slice p1 n1 c1/\s=.slice p2 n2 c2/\k=.slice p3 n3 c3/\
   ((20<n1\/20<n2\/20<n3)\/∃(ml:List Mn) (ss:List Int) (ms:List Mk),ml.length=n1/\ss.length=n2/\ms.length=n3/\Reads W m n1 (eA ml)/\Reads W s n2 (ss.map (aD .i64))/\Reads W k n3 (dM ms)):=by
 obtain⟨fuel,ht⟩:=h;obtain⟨⟨f1,y1,t1⟩,⟨f2,y2,t2⟩,⟨f3,y3,t3⟩⟩:=OA ht
 have A:∃p1 n1 c1,m=.slice p1 n1 c1/\(20<n1\/∃ml:List Mn,ml.length=n1/\Reads W m n1 (eA ml)):=by
  rcases hm with rfl|⟨g,off,n,c,rfl,uP,hg⟩
  .exact⟨_,_,_,rfl,.inr ⟨[],rfl,.inl ⟨rfl,rfl,rfl⟩⟩⟩
  by_cases hb:20<n
  .exact⟨_,_,_,rfl,.inl hb⟩
  exact⟨_,_,_,rfl,.inr (QI uP hg oM (TR uP t1))⟩
 have B:∃p1 n1 c1,s=.slice p1 n1 c1/\(20<n1\/∃ss:List Int,ss.length=n1/\Reads W s n1 (ss.map (aD .i64))):=by
  rcases hs with rfl|⟨g,off,n,c,rfl,uP,hg⟩
  .exact⟨_,_,_,rfl,.inr ⟨[],rfl,.inl ⟨rfl,rfl,rfl⟩⟩⟩
  by_cases hb:20<n
  .exact⟨_,_,_,rfl,.inl hb⟩
  exact⟨_,_,_,rfl,.inr (Nq uP hg oM (Qx uP t2))⟩
 have C:∃p1 n1 c1,k=.slice p1 n1 c1/\(20<n1\/∃ms:List Mk,ms.length=n1/\Reads W k n1 (dM ms)):=by
  rcases hk with rfl|⟨g,off,n,c,rfl,uP,hg⟩
  .exact⟨_,_,_,rfl,.inr ⟨[],rfl,.inl ⟨rfl,rfl,rfl⟩⟩⟩
  by_cases hb:20<n
  .exact⟨_,_,_,rfl,.inl hb⟩
  exact⟨_,_,_,rfl,.inr (KN uP hg oM (NG uP t3))⟩
 obtain⟨p1,n1,c1,e1,A⟩:=A;obtain⟨p2,n2,c2,e2,B⟩:=B;obtain⟨p3,n3,c3,e3,C⟩:=C;refine⟨p1,p2,p3,n1,c1,n2,c2,n3,c3,e1,e2,e3,?_⟩;rcases A with A|⟨ml,a1,a2⟩
 .exact .inl (.inl A)
 rcases B with B|⟨ss,b1,b2⟩
 .exact .inl (.inr (.inl B))
 rcases C with C|⟨ms,k1,k2⟩
 .exact .inl (.inr (.inr C))
 exact .inr ⟨ml,ss,ms,a1,b1,k1,a2,b2,k2⟩
noncomputable def PU:Code:=.seq Gs (.seq (.block 2 (.loop M5)) wU)
def JL(tmps:Array aj)(v:aj)(h2:tmps[2]?=some v)(w:ak)(h:tmps.size=71):(results kX tmps).run aq w=.ok v w:=by
 have e2:=bt h2;rw[uI tmps h];simp only[aQ,cg,cP,fW,e2];simp[results,kX,go_sem]
def af6{tmps:Array aj}{v:aj}{W:ak}(hs:tmps.size=71)(h9:tmps[9]?=some v):wU.wp aq (fun e a W'=>e=.ret/\a.defers=[]/\a.tmps.size=71/\a.tmps[2]?=some v/\W'=W) ⟨tmps,[]⟩ W:=by
 have e9:=bt h9;rw[uI tmps hs];simp only[aQ,cg,cP,fW,e9];simp only[wU,gN,rb,kX,sL,sR];go_wp2
structure VH(P:aL)(b:BB)(bm aH az all:aj)(l:List dS)(ss:List Int)(ms:List Mk)(Y:Nat->Prop)(W:ak):Prop where
 e:P=aq
 f159:P.funcs[(159:Nat)]?=some kX
 f178:P.funcs[(178:Nat)]?=some Tryz.f178
 i159:P.inits.idxOf? 159=none
 i178:P.inits.idxOf? 178=none
 ok:b.Ok
 abw:∀a∈l,a.Ok
 Hj:∀s∈ss,1<=s/\s<=8
 mks:∀m∈ms,1<=m.minute/\m.minute<=8
 cl:Closed fw Y W
 low:∀c,Y c->P.globals.size<=c
 vH:P.globals.size<=W.heap.size
 vm:VR fw (x_ Y) bm bm
 vs:VR fw (x_ Y) aH aH
 vk:VR fw (x_ Y) az az
 va:VR fw (x_ Y) all all
 rs:mU Y W aH ss.length (ss.map (aD .i64))
 rm:mU Y W az ms.length (dM ms)
 ra:mU Y W all l.length (rowOf l)
def VH.lt{P:aL}{b:BB}{bm aH az all:aj}{l:List dS}{ss:List Int}{ms:List Mk}{Y:Nat->Prop}{W:ak}(G:VH P b bm aH az all l ss ms Y W){c:Nat}(hc:Y c):c<W.heap.size:=G.cl.lt hc
def VF(b:BB)(l:List dS)(ss:List Int)(ms:List Mk)(W:ak)(v:aj)(W':ak):Prop:=
 ∃kH:List Nat,Reads W' v kH.length (ints kH)/\kH.Perm (j_ b (di ss ms).toNat (bM ss) l 512)/\Old W W'
section
variable{P:aL}{b:BB}{bm aH az all:aj}{l:List dS}{ss:List Int}{ms:List Mk}{Y:Nat->Prop}{W W1:ak}{xb fb tb c0 c1 sn:Nat}{cs:List bT}
theorem UT{X:Nat->Prop}(hm:VR fw (x_ X) bm bm)(hs:VR fw (x_ X) aH aH)(hk:VR fw (x_ X) az az)(ha:VR fw (x_ X) all all)(hx:X xb)(hf:X fb)(ht:X tb) :
  iT fw (x_ X) (SY b bm aH az all xb sn fb tb c0 c1) (SY b bm aH az all xb sn fb tb c0 c1):=by
 have SH:∀a:Addr,X a.block->VR fw (x_ X) (ptr a) (ptr a):=fun a ha=>.ptr ⟨vD ha,rfl,rfl⟩
 have hagg:VR fw (x_ X) (.agg (b.open bm aH az all)) (.agg (b.open bm aH az all)):=by
  refine .agg rfl fun i x y hi hj=>?_;rw[hi] at hj;cases hj;have hmem:=eV hi;simp only[BB.open,BB.cells,jH,iA,eR,bJ,cy,gJ,or_false,iD,jk] at hmem;rcases hmem with rfl|rfl|rfl|rfl|rfl|rfl|rfl|rfl|rfl|rfl|rfl|rfl|rfl|rfl|rfl|rfl<;>first|exact .int _ _|assumption
 have hall:∀v∈((SY b bm aH az all xb sn fb tb c0 c1):Array aj),VR fw (x_ X) v v:=by
  intro v hv;simp only[eR,cy,gJ,or_false] at hv;have hu:VR fw (x_ X) ar undef:=tO;rcases hv with rfl|rfl|rfl|rfl|rfl|rfl|rfl|rfl|rfl|rfl|rfl|rfl|rfl|rfl|rfl|rfl|rfl|rfl|rfl|rfl|rfl|rfl|rfl|rfl|rfl|rfl|rfl|rfl|rfl|rfl|rfl|rfl|rfl|rfl|rfl|rfl|rfl|rfl|rfl|rfl|rfl|rfl|rfl|rfl|rfl|rfl|rfl|rfl|rfl|rfl|rfl|rfl|rfl|rfl|rfl|rfl|rfl|rfl|rfl|rfl|rfl|rfl|rfl|rfl|rfl|rfl|rfl|rfl|rfl|rfl|rfl<;>first|exact hu|exact .int _ _|exact .Er _ _|exact .chan _|exact SH _ hx|exact SH _ hf|exact SH _ ht|assumption
 exact⟨rfl,fun i x y hi hj=>by rw[hi] at hj;cases hj;exact hall x (eV hi)⟩
end
def XQ:iQ (.code wU)=true:=kQ
def Reads.keep{w w':ak}{v:aj}{n:Nat}{xs:List aj}(h:Reads w v n xs)(hs:w.heap.size<=w'.heap.size)(hk:∀(g:Nat) cs e z,w.heap[g]?=some (.cells cs e z)->w'.heap[g]?=some (.cells cs e z)):Reads w' v n xs:=by
 rcases h with h|⟨g,off,cap,h1,h2,h3,h4⟩
 .exact .inl h
 .refine .inr ⟨g,off,cap,h1,h2,bD h3 hs,fun j u hj=>?_⟩;have hc:=h4 j u hj;unfold dG at hc ⊢;cases ho:w.heap[g]? with
  |none=>simp only[ho] at hc;cases hc
  |some o=>
   cases o with
   |cells cs e z=>simp only[hk g cs e z ho];simpa only[ho] using hc
   |_=>simp only[ho] at hc;cases hc
def Reads.old{w w':ak}{v:aj}{n:Nat}{xs:List aj}(h:Reads w v n xs)(ho:Old w w'):Reads w' v n xs:=
 h.keep ho.size fun g cs e z hg=>(ho.block g (eJ hg)).trans hg
section
variable{P:aL}{b:BB}{bm aH az all:aj}{l:List dS}{ss:List Int}{ms:List Mk}{Y:Nat->Prop}{W W1:ak}{xb fb tb c0 c1:Nat}{cs:List bT}
theorem UI(e:P=aq)(hf:P.funcs[(159:Nat)]?=some kX){R:aj->ak->Prop}{tmps:Array aj}{v:aj}(hs:tmps.size=71)(h9:tmps[9]?=some v)(hR:R v W) :
  jg P (fun g' W'=>∃fr v I d,g'=G fr cs/\R v W/\W'.heap=W.heap/\W'.os=W.os/\W'.output=W.output/\fr.fn=159/\fr.leaving P (dn W' I d) (.returned v)) (GK 159 tmps [.code wU] .normal cs) W:=by
 have T:=quiet_of e;refine(y_ T (b:={ (default:bT) with fn:=159,kind:=.normal }) (a:=⟨tmps,[]⟩) (k:=[]) (m:=[.code wU]) (cs:=cs) (W:=W) (Q:=fun e a W'=>e=.ret/\a.defers=[]/\a.tmps.size=71/\a.tmps[2]?=some v/\W'.heap=W.heap/\W'.os=W.os/\W'.output=W.output) sM (fun id a w hq=>by cases hq.1) (fun e a w hq=>by rw[hq.1];rfl) fun I=>?_).bind fun g' W' hsz hq=>?_
 .have h:=af6 (W:=dn W I 0) hs h9;rw[<-e] at h
  have h2:wU.wp P (fun e a W'=>e=.ret/\a.defers=[]/\a.tmps.size=71/\a.tmps[2]?=some v/\W'.heap=W.heap/\W'.os=W.os/\W'.output=W.output) ⟨tmps,[]⟩ (dn W I 0):=
   Bx h fun e a W' hq=>⟨hq.1,hq.2.1,hq.2.2.1,hq.2.2.2.1,by rw[hq.2.2.2.2];rfl,by rw[hq.2.2.2.2];rfl,by rw[hq.2.2.2.2];rfl⟩
  exact h2 { (default:bT) with fn:=159,kind:=.normal } [] cs
 obtain⟨e1,a',I,d,⟨rfl,hd,hsz',h2,hh,ho,hu⟩,todo,rfl⟩:=hq;refine .here ⟨_,v,I,d,rfl,hR,hh,ho,hu,rfl,rfl,hd,rfl,kX,hf,?_⟩;rw[e];exact JL _ v h2 _ hsz'
theorem Ob(G0:VH P b bm aH az all l ss ms Y W)(hold:Old W W1)(hx:W1.heap[xb]?=some (.cells (b.open bm aH az all) 122 (0,0)))(hf:W1.heap[fb]?=some (.cells #[.chan (some c0)] 188 (0,0)))(ht:W1.heap[tb]?=some (.cells #[.chan (some c1)] 189 (0,0)))
  (hc0:Chan c0 W1) (hc1:Chan c1 W1) (hne:c0≠c1) (hl:W.heap.size<=c0/\W.heap.size<=c1/\W.heap.size<=fb/\W.heap.size<=tb/\W.heap.size<=xb) {sn:Nat} (Rh:bM ss=sn) :
  jg P (fun g' W'=>∃fr v I d,g'=G fr cs/\VF b l ss ms W v W'/\fr.fn=159/\fr.leaving P (dn W' I d) (.returned v)) (GK 159 (SY b bm aH az all xb sn fb tb c0 c1) [.code (.block 0 (.loop JI)),.code PU] .normal cs) W1:=by
 intro K hg cV w V;have okc:∀ {k:Nat} {cs:Array aj} {e:aZ} {z:Nat × Nat},W1.heap[k]?=some (.cells cs e z)->w.heap[k]?=some (.cells cs e z):=fun h=>yR V h rfl;have hW:∀(k:Nat) (o:Obj),W.heap[k]?=some o->fU o=true->w.heap[k]?=some o:=fun k o h ho=>yR V ((hold.block k (eJ h)).trans h) ho;obtain⟨X0,VY⟩:∃X0:Nat->Prop,X0=fun c=>Y c\/c=xb\/c=fb\/c=tb:=⟨_,rfl⟩
 have hYX:∀c,Y c->X0 c:=fun c hc=>by rw[VY];exact .inl hc
 have hxX:X0 xb:=by rw[VY];exact .inr (.inl rfl)
 have hfX:X0 fb:=by rw[VY];exact .inr (.inr (.inl rfl))
 have htX:X0 tb:=by rw[VY];exact .inr (.inr (.inr rfl))
 have hvm:=G0.vm.mono (sX hYX);have YB:=G0.vs.mono (sX hYX);have ZZ:=G0.vk.mono (sX hYX);have hva:=G0.va.mono (sX hYX)
 have hcell:∀a:Addr,Y a.block->w.cell? a=W.cell? a:=fun a ha=>by
  obtain⟨cs,e,z,h1,_⟩:=G0.cl _ ha;exact iY ((hW _ _ h1 rfl).trans h1.symm)
 have Cj:∀ {v:aj} {n:Nat} {xs:List aj},mU Y W v n xs->mU X0 w v n xs:=fun h=>by
  rcases h with h|⟨g,off,cap,h1,h2,h3,h4⟩
  .exact .inl h
  exact .inr ⟨g,off,cap,h1,h2,hYX g h3,fun j u hj=>(hcell ⟨g,off+j,none⟩ h3).trans (h4 j u hj)⟩
 have hcl:Closed fw X0 w:=by
  intro c hc;rw[VY] at hc;rcases hc with hc|rfl|rfl|rfl
  .obtain⟨cs,e,z,h1,h2⟩:=G0.cl c hc;exact⟨cs,e,z,hW _ _ h1 rfl,fun v hv=>(h2 v hv).mono (sX hYX)⟩
  .refine⟨_,_,_,okc hx,fun v hv=>?_⟩;simp only[BB.open,BB.cells,jH,iA,eR,bJ,cy,gJ,or_false,iD,jk] at hv;rcases hv with rfl|rfl|rfl|rfl|rfl|rfl|rfl|rfl|rfl|rfl|rfl|rfl|rfl|rfl|rfl|rfl<;>first|exact .int _ _|assumption
  .exact⟨_,_,_,okc hf,fun v hv=>by simp at hv;subst hv;exact .chan _⟩
  exact⟨_,_,_,okc ht,fun v hv=>by simp at hv;subst hv;exact .chan _⟩
 have hWs:W.heap.size<=w.heap.size:=by rw[<-V.size];exact hold.size
 have Xw:∀c,X0 c->P.globals.size<=c:=fun c hc=>by
  rw[VY] at hc;have:=G0.vH;rcases hc with hc|rfl|rfl|rfl
  .exact G0.low c hc
  all_goals omega
 have hcx:∀i u,(b.open bm aH az all)[i]?=some u->w.cell? ⟨xb,i,none⟩=some u:=fun i u hi=>by
  unfold dG;rw[okc hx];exact hi
 have E:OW P b bm aH az all l ss ms X0 w xb fb tb c0 c1:=
  ⟨G0.e,G0.f178,G0.i159,G0.i178,G0.ok,G0.abw,G0.Hj,G0.mks,hcl,Xw,aG G0.vH hWs,hxX,hfX,htX,hcx,by unfold dG;rw[okc hf];rfl,by unfold dG;rw[okc ht];rfl,Cj G0.rs,Cj G0.rm,Cj G0.ra⟩
 have SQ:=UT (b:=b) (c0:=c0) (c1:=c1) (sn:=sn) hvm YB ZZ hva hxX hfX htX
 have Lt:MS P fw (fun c=>c<w.heap.size) X0 (fun _=>False) (SY b bm aH az all xb sn fb tb c0 c1) (SY b bm aH az all xb sn fb tb c0 c1) (shut X0 w) w (x_ X0):=
  ⟨SQ,Pc hcl Xw,E.vH,by rw[v_];exact E.vH,(Hh hcl).symm,BJ hcl,Pd⟩
 have st:St P X0 w X0 (fun _=>False) (SY b bm aH az all xb sn fb tb c0 c1) (SY b bm aH az all xb sn fb tb c0 c1) (shut X0 w) w (x_ X0) (fun c=>c<w.heap.size):=⟨Lt,fun _ _ h=>h,fun c hc=>hcl.lt hc,fun c hc=>rfl,fun c hc=>rfl⟩
 have uZ:GT xb fb tb (bM ss) (SY b bm aH az all xb sn fb tb c0 c1) (0:Nat) (0:Nat) undef:=by
  rw[Rh];exact⟨rfl,rfl,rfl,rfl,rfl,rfl,rfl,rfl⟩
 have hM:=adb (K:=[]) (cs:=cs) E 512 0 rfl X0 (fun _=>False) _ _ _ w _ _ _ st uZ
 have hM2:gG P c0 c1 (.int .i64 0) (.bool false) (Yn (ints (j_ b (di ss ms).toNat (bM ss) l 512)) [] cs) 0 0 [] [] X0 (fun _=>False) (GK 159 (SY b bm aH az all xb sn fb tb c0 c1) [.code (.block 0 (.loop JI)),.code PU] .normal cs) w:=
  .ctl rfl rfl (qd _ _) rfl rfl (.ctl rfl rfl (Mc _) rfl rfl hM)
 have adn:=hM2.wide (w0:=w) (fun c=>c<w.heap.size/\c≠c0/\c≠c1) (fun c hc=>⟨hc.1,id,rfl⟩);have Cz:Chan c0 w:=by obtain⟨s,tm,h⟩:=hc0;exact⟨s,tm,yR V h rfl⟩
 have Cw:Chan c1 w:=by obtain⟨s,tm,h⟩:=hc1;exact⟨s,tm,yR V h rfl⟩
 refine(I7 hne adn rfl Cz Cw (fun c hc=>?_) (fun c hc h=>h)).bind ?_
 .rcases hc with(hc|hc)|hc
  .obtain⟨cs,e,z,h1,_⟩:=hcl c hc;refine⟨eJ h1,fun e=>?_,fun e=>?_⟩
   .subst e;obtain⟨s,tm,h⟩:=Cz;rw[h1] at h;cases h
   subst e;obtain⟨s,tm,h⟩:=Cw;rw[h1] at h;cases h
  .exact hc
  exact hc.elim
 rintro g' w' ⟨acc,out,S,O,⟨⟨S',⟨bu,v,kH,rfl,hts,ht9,YK,adr,YZ⟩,kK⟩,hC0,hC1⟩,hperm,hsz,hos,hout⟩;rw[YK,YZ] at hperm;clear YK YZ
 obtain⟨W',hV',rY,e1,e2,e3,e4,e5⟩:=T4 (n:=W.heap.size) V cV hos hout hsz (fun b o hb ho ly=>by
  by_cases e0:b=c0
  .subst e0;obtain⟨s,tm,h⟩:=hC0;rw[h] at ho;cases ho;cases ly
  by_cases e1:b=c1
  .subst e1;obtain⟨s,tm,h⟩:=hC1;rw[h] at ho;cases ho;cases ly
  rw[<-(kK b ⟨by rw[<-V.size];exact hb,e0,e1⟩).2];exact ho) (fun k hk=>(kK k ⟨oM,oM,oM⟩).2)
 have hO:Old W W':=⟨e1.trans hold.os,e2.trans hold.output,aG hold.size e3,fun k hk=>(e4 k hk (bD hk hold.size)).trans (hold.block k hk)⟩
 have agE:Reads W' v kH.length (ints kH):=adr.keep (by rw[hV'.size];exact aJ _) fun g cs e z h=>e5 g _ h rfl
 have hp:kH.Perm (j_ b (di ss ms).toNat (bM ss) l 512):=by
  have h1:(ints kH).map (fun v=>(intOf v).toNat)=kH:=by simp[ints,intOf,Function.comp_def]
  have h2:(ints (j_ b (di ss ms).toNat (bM ss) l 512)).map (fun v=>(intOf v).toNat)=j_ b (di ss ms).toNat (bM ss) l 512:=by simp[ints,intOf,Function.comp_def]
  rw[<-h1,<-h2];exact hperm.map _
 have XB:Ap (GK 159 bu [.code wU] .normal cs):=⟨⟨by simpa [GK,G,jm] using XQ,rfl⟩,hg.callers,.inl rfl⟩
 refine(UI (cs:=cs) G0.e G0.f159 (R:=fun v W''=>VF b l ss ms W v W'') hts ht9 ⟨kH,agE,hp,hO⟩ K XB rY w' hV').mono ?_;rintro g2 w2 ⟨W2,⟨fr,v2,I,d,rfl,⟨o2,r1,r2,r3⟩,hh,ho,hu,hfn,hlv⟩,V2,hg2,uO,hs2⟩;refine⟨W2,⟨fr,v2,I,d,rfl,⟨o2,?_,r2,r3.trans ⟨ho,hu,by rw[hh];exact aJ _,fun k _=>by rw[hh]⟩⟩,hfn,hlv⟩,V2,hg2,uO,aG e3 hs2⟩;exact r1.keep (by rw[hh];exact aJ _) fun g cs e z h=>by rw[hh];exact h
end
structure Sm(W W':ak):Prop where
 heap:W'.heap=W.heap
 os:W'.os=W.os
 output:W'.output=W.output
def Sm.old{W W':ak}(h:Sm W W'):Old W W':=⟨h.os,h.output,by rw[h.heap];exact aJ _,fun k _=>by rw[h.heap]⟩
def qc(W:ak)(o:Obj):Old W (W.alloc o):=⟨rfl,rfl,sM,fun k hk=>aW _ _ _ hk⟩
def enter_at{P:aL}{f:dU}{fn:Func}{c:gQ}{args:Array aj}(hf:P.funcs[f]?=some fn)(hb:fn.body=some c):eo P f args .normal=({ (default:bT) with fn:=f,kind:=.normal }:bT).at ⟨args++bz (fn.ntmps-args.size) ar,[]⟩ [.code c]:=by
 simp[eo,Frame.at,hf,hb]
def ait(x:aj) : #[x]++bz (71 - #[x].size) ar = #[x,ar,ar,ar,ar,ar,ar,ar,ar,ar,ar,ar,ar,ar,ar,ar,ar,ar,ar,ar,ar,ar,ar,ar,ar,ar,ar,ar,ar,ar,ar,ar,ar,ar,ar,ar,ar,ar,ar,ar,ar,ar,ar,ar,ar,ar,ar,ar,ar,ar,ar,ar,ar,ar,ar,ar,ar,ar,ar,ar,ar,ar,ar,ar,ar,ar,ar,ar,ar,ar,ar]:=by
 simp only[List.size_toArray,List.length_cons,List.length_nil,Nat.reduceAdd,Nat.reduceSub,Array.replicate_succ,Array.replicate_zero,jH,iA,jk,iD]
def acP:Tryz.f159.ntmps=71:=kQ
section
variable{P:aL}{b:BB}{bm aH az all:aj}{l:List dS}{ss:List Int}{ms:List Mk}{Y:Nat->Prop}{W:ak}
theorem aaW(G0:VH P b bm aH az all l ss ms Y W):jE P 159 #[.agg (b.open bm aH az all)] W (VF b l ss ms W):=by
 intro cs;have T:=quiet_of G0.e;obtain⟨sn,Rh⟩:∃sn,bM ss=sn:=⟨_,rfl⟩
 obtain⟨xb,hxb⟩:∃xb,W.heap.size=xb:=⟨_,rfl⟩
 have tZ:eo P 159 #[.agg (b.open bm aH az all)] .normal=({ (default:bT) with fn:=159,kind:=.normal }:bT).at ⟨(FS1 b bm aH az all),[]⟩ [.code (.seq gR0 (.seq gR1 (.seq gR2 (.seq gR3 (.seq (.seq gR4 (.block 0 (.loop JI))) PU)))))]:=by
  rw[enter_at G0.f159 X9,acP,ait];unfold PU;rfl
 rw[tZ];have lg:({ (default:bT) with fn:=159,kind:=.normal }:bT).kind≠.early:=sM;have hsW:∀ {W':ak},Old W W'->Reads W' aH ss.length (ss.map (aD .i64)):=fun ho=>G0.rs.to (fun c hc=>bD (G0.lt hc) ho.size) fun a ha=>ho.cell (G0.lt ha);refine jO T (fun w=>step_seq) ?_;refine oJ T lg (Q:=fun a W'=>a=⟨(FS0 b bm aH az all xb),[]⟩/\Sm (W.alloc (.cells (b.open bm aH az all) 122)) W') (fun I d=>?_) ?_
 .rw[G0.e];refine Bx (pR0 (W:=dn W I d) hxb) ?_;rintro e a W' ⟨rfl,rfl,rfl⟩;exact⟨rfl,rfl,rfl,rfl,rfl⟩
 rintro a W1 τ1 d1 ⟨rfl,hsm⟩;have o1:Old W W1:=(qc W _).trans (Sm.old (W':=W1) ⟨hsm.heap,hsm.os,hsm.output⟩)
 have x1:W1.heap[xb]?=some (.cells (b.open bm aH az all) 122 (0,0)):=by
  have h:W1.heap=(W.alloc (.cells (b.open bm aH az all) 122)).heap:=hsm.heap;rw[h,<-hxb];exact ax W _
 have s1:xb<W1.heap.size:=eJ x1;clear hsm;refine jO T (fun w=>step_seq) ?_;refine oJ T lg (Q:=fun a W'=>a=⟨(FS2 b bm aH az all xb sn),[]⟩/\Sm W1 W') (fun I d=>?_) ?_
 .rw[G0.e];refine Bx (pR1 (b:=b) (bm:=bm) (az:=az) (all:=all) (W:=dn W1 I d) G0.Hj ?_ (hsW (W':=dn W1 I d) ⟨o1.os,o1.output,o1.size,o1.block⟩) Rh) ?_
  .show W1.cell? ⟨xb,13,none⟩=some aH;unfold dG;rw[x1];rfl
  rintro e a W' ⟨rfl,rfl,rfl⟩;exact⟨rfl,rfl,rfl,rfl,rfl⟩
 rintro a W2 τ2 d2 ⟨rfl,hsm⟩;have hh:W2.heap=W1.heap:=hsm.heap;have o2:Old W W2:=o1.trans (Sm.old (W':=W2) ⟨hsm.heap,hsm.os,hsm.output⟩);have x2:W2.heap[xb]?=some (.cells (b.open bm aH az all) 122 (0,0)):=by rw[hh];exact x1
 have s2:W.heap.size<W2.heap.size:=by rw[hh];omega
 clear hsm hh o1 x1 s1;refine jO T (fun w=>step_seq) ?_;refine oJ T lg (Q:=fun a W'=>∃c0 c1 fb tb:Nat,a=⟨(FS3 b bm aH az all xb sn fb tb c0 c1),[]⟩/\(Chan c0 W'/\Chan c1 W'/\W'.heap[fb]?=some (.cells #[.chan (some c0)] 188 (0,0))/\W'.heap[tb]?=some (.cells #[.chan (some c1)] 189 (0,0))/\c0≠c1/\W2.heap.size<=c0/\W2.heap.size<=c1/\W2.heap.size<=fb/\W2.heap.size<=tb/\Old W2 W')) (fun I d=>?_) ?_
 .rw[G0.e];refine Bx (pR2 (b:=b) (bm:=bm) (aH:=aH) (az:=az) (all:=all) (xb:=xb) (sn:=sn) (W:=dn W2 I d)) ?_;rintro e a W' ⟨rfl,c0,c1,fb,tb,rfl,h1,h2,h3,h4,h5,h6,h7,h8,h9,h10⟩;exact⟨rfl,c0,c1,fb,tb,rfl,h1,h2,h3,h4,h5,h6,h7,h8,h9,h10.os,h10.output,h10.size,h10.block⟩
 rintro a W3 τ3 d3 ⟨c0,c1,fb,tb,rfl,h1,h2,h3,h4,h5,h6,h7,h8,h9,h10⟩;have o3:Old W W3:=o2.trans ⟨h10.os,h10.output,h10.size,h10.block⟩;have x3:W3.heap[xb]?=some (.cells (b.open bm aH az all) 122 (0,0)):=(h10.block xb oM).trans x2;have k0:Chan c0 W3:=h1;have k1:Chan c1 W3:=h2;have kf:W3.heap[fb]?=some (.cells #[.chan (some c0)] 188 (0,0)):=h3;have kt:W3.heap[tb]?=some (.cells #[.chan (some c1)] 189 (0,0)):=h4;clear h1 h2 h3 h4 h10 o2 x2;refine jO T (fun w=>step_seq) ?_;refine oJ T lg (Q:=fun a W'=>a=⟨(FS4 b bm aH az all xb sn fb tb c0 c1),[]⟩/\Sm W3 W') (fun I d=>?_) ?_
 .rw[G0.e];refine Bx (pR3 (b:=b) (bm:=bm) (aH:=aH) (az:=az) (all:=all) (xb:=xb) (sn:=sn) (c0:=c0) (c1:=c1) (fb:=fb) (tb:=tb) (W:=dn W3 I d)) ?_;rintro e a W' ⟨rfl,rfl,rfl⟩;exact⟨rfl,rfl,rfl,rfl,rfl⟩
 rintro a W4 τ4 d4 ⟨rfl,Xo⟩;have e4:W4.heap=W3.heap:=Xo.heap;have o4:Old W W4:=o3.trans (Sm.old (W':=W4) ⟨Xo.heap,Xo.os,Xo.output⟩);refine jO T (fun w=>step_seq) ?_;refine jO T (fun w=>step_seq) ?_;refine oJ T lg (Q:=fun a W'=>a=⟨(SY b bm aH az all xb sn fb tb c0 c1),[]⟩/\Sm W4 W') (fun I d=>?_) ?_
 .rw[G0.e];refine Bx (pR4 (b:=b) (bm:=bm) (aH:=aH) (az:=az) (all:=all) (xb:=xb) (sn:=sn) (c0:=c0) (c1:=c1) (fb:=fb) (tb:=tb) (W:=dn W4 I d)) ?_;rintro e a W' ⟨rfl,rfl,rfl⟩;exact⟨rfl,rfl,rfl,rfl,rfl⟩
 rintro a W5 τ5 d5 ⟨rfl,Xn⟩;have e5:W5.heap=W3.heap:=(show W5.heap=W4.heap from Xn.heap).trans e4;have o5:Old W W5:=o4.trans (Sm.old (W':=W5) ⟨Xn.heap,Xn.os,Xn.output⟩);have kc:∀ {c:Nat},Chan c W3->Chan c W5:=fun h=>by obtain⟨s,tm,h⟩:=h;exact⟨s,tm,by rw[e5];exact h⟩
 exact Ob (cs:=cs) G0 o5 (by rw[e5];exact x3) (by rw[e5];exact kf) (by rw[e5];exact kt) (kc k0) (kc k1) h5 ⟨oM,oM,oM,oM,oM⟩ Rh
end
section
variable{H:Type}{enc:aZ × aj->H}{W:ak}{hd:Bool}
end
end Go.Proofs.YtffladgmkiimjaaGreatDoor
