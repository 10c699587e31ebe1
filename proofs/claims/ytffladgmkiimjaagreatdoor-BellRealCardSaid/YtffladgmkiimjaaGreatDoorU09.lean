/- bell.good IN COMPANY: goroutine 0 waits for what its workers find. bel .. -/
import Derived.Test.YtffladgmkiimjaaGreatDoorU08
import Derived.Conc.LoneCalls
import Derived.Conc.LeavingOf
import Derived.SevenTiedAt
import Derived.Test.YtffladgmkiimjaaGreatDoorU02
set_option linter.all false
set_option maxHeartbeats 0
set_option maxRecDepth 1000000
open Array renaming getElem?_setIfInBounds_ne -> aG,getElem?_eq_getElem -> aQ,getElem?_eq_some_iff -> ah,replicate -> bF,mem_of_getElem? -> fq
open Go renaming TypeId -> a7,Goroutine -> aH,Program -> aN,Value -> aj,World -> ak,undef -> aw,Operand -> bI,execOp -> bY,Frame -> b_,Oper -> cO,FuncId -> d_,stepG -> fE,Code -> gZ,Item -> pW,wp_mono -> vB
open Go.Frame renaming enter -> eG
open Go.Proofs.Tryz renaming prog -> aq,underlying3 -> ep,f159 -> ld
open Go.Region renaming wanted -> cU
open Go.RowKit.Below renaming heap_alloc -> aZ
open Go.Value renaming int -> aD
open Go.World renaming alloc_heap_new -> az,cell? -> dP
open Go.stepG renaming apply -> eC
open List renaming range -> aS,mem_append -> bB,map_cons -> cV,mem_cons -> cj,mem_toArray -> fe,map_nil -> fg,not_mem_nil -> gX,cons_append -> gY,append_toArray -> iH,push_toArray -> jN,nil_append -> kC,getElem?_eq_some_iff -> pG
open List.range renaming loop -> cA
open Nat renaming le_trans -> aF,le_refl -> aO,lt_of_lt_of_le -> bw
open Option.some renaming inj -> bp
namespace Go.Proofs.YtffladgmkiimjaaGreatDoor
open Go.RowKit Go.Lag
open Go.Conc
def ahS:∀w es,(zeroValue 108).runT aq w es=(.ok (.int .i64 0) w,es):=fun _ _=>by kernel_rfl
def z4:∀w es,(zeroValue 4).runT aq w es=(.ok (.bool false) w,es):=fun _ _=>by kernel_rfl
def s16:(opsOf nR).size=4:=kQ
def ET:(opsOf nR)[0]?=some ((opsOf nR).getD 0 default)/\((opsOf nR).getD 0 default).op=.select #[{ chan:=.tmp 57,send:=none,elem:=108 },{ chan:=.tmp 58,send:=none,elem:=4 }] true/\((opsOf nR).getD 0 default).dst=some 59/\((opsOf nR).getD 0 default).guard=none:=⟨kQ,kQ,kQ,kQ⟩
def CO:(opsOf nR)[1]?=some ((opsOf nR).getD 1 default)/\((opsOf nR).getD 1 default).op=.extract (.tmp 59) 0/\((opsOf nR).getD 1 default).dst=some 60/\((opsOf nR).getD 1 default).guard=none:=⟨kQ,kQ,kQ,kQ⟩
def CL:(opsOf nR)[2]?=some ((opsOf nR).getD 2 default)/\((opsOf nR).getD 2 default).op=.binOp .eql 3 (.tmp 60) (.const (.int .i64 0)) 3/\((opsOf nR).getD 2 default).dst=some 61/\((opsOf nR).getD 2 default).guard=none:=⟨kQ,kQ,kQ,kQ⟩
def CJ:(opsOf nR)[3]?=some ((opsOf nR).getD 3 default)/\((opsOf nR).getD 3 default).op=.binOp .eql 3 (.tmp 60) (.const (.int .i64 1)) 3/\((opsOf nR).getD 3 default).dst=some 62/\((opsOf nR).getD 3 default).guard=none:=⟨kQ,kQ,kQ,kQ⟩
def CC{fr:b_}{o:cO}{x:bI}{i:Nat}{vs:Array aj}{v:aj}(ho:o.op=.extract x i)(hx:fr.eval x=.tuple vs)(hv:vs[i]?=some v)(P:aN)(w:ak):(bY fr.eval o).runT P w #[]=(.ok (.value v) w,#[]):=by
 unfold bY;rw[ho];simp only[hx,Instr.extract,hv];rfl
def age{fr:b_}{o:cO}{x:bI}(ho:o.op=.binOp .eql 3 x (.const (.int .i64 0)) 3)(hx:fr.eval x=.int .i64 0)(w:ak):(bY fr.eval o).runT aq w #[]=(.ok (.value (.bool true)) w,#[]):=by
 unfold bY;rw[ho];simp only[hx]
 kernel_rfl
def agd{fr:b_}{o:cO}{x:bI}(ho:o.op=.binOp .eql 3 x (.const (.int .i64 1)) 3)(hx:fr.eval x=.int .i64 0)(w:ak):(bY fr.eval o).runT aq w #[]=(.ok (.value (.bool false)) w,#[]):=by
 unfold bY;rw[ho];simp only[hx]
 kernel_rfl
def agc{fr:b_}{o:cO}{x:bI}(ho:o.op=.binOp .eql 3 x (.const (.int .i64 0)) 3)(hx:fr.eval x=.int .i64 1)(w:ak):(bY fr.eval o).runT aq w #[]=(.ok (.value (.bool false)) w,#[]):=by
 unfold bY;rw[ho];simp only[hx]
 kernel_rfl
def agb{fr:b_}{o:cO}{x:bI}(ho:o.op=.binOp .eql 3 x (.const (.int .i64 1)) 3)(hx:fr.eval x=.int .i64 1)(w:ak):(bY fr.eval o).runT aq w #[]=(.ok (.value (.bool true)) w,#[]):=by
 unfold bY;rw[ho];simp only[hx]
 kernel_rfl
def qb{w w':ak}{B:Nat}{e:a7}{size:Nat}{v:aj}{n:Nat}{xs:List aj}(h:w.ownsRow B e size v n xs)(he:w'.heap=w.heap):w'.ownsRow B e size v n xs:=by
 unfold World.ownsRow at *;rw[he];exact h
def ints(l:List Nat):List Value:=l.map fun(p:Nat)=>aD .i64 (p:Int)
def GH.set{fb tb:Nat}{tmps:Array aj}{many:Int}{v:aj}(h:GH fb tb tmps many v)(i:Nat)(x:aj)(hi:i≠4/\i≠5/\i≠6/\i≠9):GH fb tb (tmps.setIfInBounds i x) many v:=
 ⟨by simp[h.size],by rw[aG oM];exact h.t4,by rw[aG oM];exact h.t5,by rw[aG oM];exact h.t6,by rw[aG oM];exact h.t9⟩
section
variable{P:aN}{b:BB}{bq aM aC all:aj}{l:List dS}{ss:List Int}{ms:List Mk}{X0:Nat->Prop}{w0:ak}{xb fb tb c0 c1:Nat}
 {S O:Nat->Prop} {tmps bH:Array aj} {lw w:ak} {U:Rn} {B:Nat->Prop} {cs:List b_} {K:List pW}
theorem St.set(st:St P X0 w0 S O tmps bH lw w U B){v v':aj}(hv:VR fw U v v')(i:Nat):St P X0 w0 S O (tmps.setIfInBounds i v) (bH.setIfInBounds i v') lw w U B:=⟨st.ms.set hv i,st.id,st.xB,st.kp,st.kw⟩
theorem St.size(st:St P X0 w0 S O tmps bH lw w U B):tmps.size=bH.size:=st.ms.av.size
theorem St.row(st:St P X0 w0 S O tmps bH lw w U B){i:Nat}{v:aj}{B0:Nat}{out:List Nat}(hi:tmps[i]?=some v)(ho:lw.ownsRow B0 108 1 v out.length (ints out))(hn:out.length<=1000):∃v',bH[i]?=some v'/\Reads w v' out.length (ints out):=by
 obtain⟨v',hy,hv⟩:=st.ms.get hi;refine⟨v',hy,?_⟩;have hc:=fun g hg=>ho.cells (g:=g) hg;have hlen:out.length=0->ints out=[]:=fun h0=>by rw[List.eq_nil_of_length_eq_zero h0];rfl
 rcases ho.2 with⟨rfl,h0⟩|⟨g,cap,cur,rfl,h9⟩
 .cases hv with
  |EU=>exact .inl ⟨rfl,h0,hlen h0⟩
 .cases hv with
  |@slice _ a' _ _ Gt=>
   obtain⟨o,o',h1,h2,_⟩:=st.ms.wr.at_ _ _ Gt.block
   have e:a'=⟨a'.block,0,none⟩:=by
    have h4:=Gt.off;have h5:=Gt.spot;obtain⟨x,y,z⟩:=a';dsimp only at h4 h5 ⊢;subst h4;subst h5;rfl
   refine .inr ⟨a'.block,0,cap,by rw[e],⟨oM,h9.2.2.1⟩,eR h2,fun j u hj=>?_⟩
   have hl:lw.cell? ⟨g,0+j,none⟩=some u:=by
    have:=hc g rfl j u hj;cases j<;>simpa [Addr.add] using this
   obtain⟨u',hu,hvu⟩:=st.ms.wr.cell (a:=⟨g,0+j,none⟩) (a':=⟨a'.block,0+j,none⟩) ⟨Gt.block,rfl,rfl⟩ hl;obtain⟨p,_,rfl⟩:=List.mem_map.1 (List.mem_of_getElem? hj);cases hvu;exact hu
def Zq(A:List aj)(K:List pW)(cs:List b_)(acc out:List aj)(S O:Nat->Prop)(g:aH)(w:ak):Prop:=
 ∃(bH:Array aj) (v:aj) (kV:List Nat),g=GK 159 bH (.code xD::K) .normal cs/\bH.size=71/\bH[9]?=some v/\out=ints kV/\Reads w v kV.length (ints kV)/\acc=A
section
variable{k:List pW}{kd:CallKind}
theorem agl(w:ak):fE P true (GK 159 bH (.code NP::k) kd cs) w=.go (GK 159 bH (.code (.seq SJ (.cond (.tmp 56) .skip (.exit 2)))::.code (.block 3 Vy)::k) kd cs) w #[]:=by rw[acb];exact jS _ _ w
theorem agn(w:ak):fE P true (GK 159 bH (.code Vy::k) kd cs) w=.go (GK 159 bH (.code Bx::.code (.seq nR (.block 4 Vx))::k) kd cs) w #[]:=by rw[acf];exact jS _ _ w
theorem acF(w:ak):fE P true (GK 159 bH (.code nR::k) kd cs) w=.go (GK 159 bH (.inRegion (opsOf nR) [0,1,2,3]::k) kd cs) w #[]:=by
 have h:=uB (P:=P) (main:=true) (fn:=159) (tmps:=bH) (kd:=kd) (k:=k) (cs:=cs) 16 (opsOf nR) w;rw[<-YO,s16] at h;exact h
theorem aal{x:Bool}(h:(jz 159 bH (.code Vx::k) .run kd).eval (.tmp 61)=.bool x)(w:ak):fE P true (GK 159 bH (.code Vx::k) kd cs) w=.go (GK 159 bH (.code (if x then Bv else .cond (.tmp 62) SI .skip)::k) kd cs) w #[]:=by rw[ace] at h ⊢;exact tW h w
end
theorem ab9(t:Array aj)(h:t.size=71)(a b c d:aj):((((t.setIfInBounds 59 a).setIfInBounds 60 b).setIfInBounds 61 c).setIfInBounds 62 d)[59]?=some a/\((((t.setIfInBounds 59 a).setIfInBounds 60 b).setIfInBounds 61 c).setIfInBounds 62 d)[61]?=some c/\((((t.setIfInBounds 59 a).setIfInBounds 60 b).setIfInBounds 61 c).setIfInBounds 62 d)[62]?=some d/\
  (t.setIfInBounds 59 a)[59]?=some a/\((t.setIfInBounds 59 a).setIfInBounds 60 b)[60]?=some b/\(((t.setIfInBounds 59 a).setIfInBounds 60 b).setIfInBounds 61 c)[60]?=some b:=by
 refine⟨?_,?_,?_,?_,?_,?_⟩<;>simp[Array.getElem?_setIfInBounds,h]
theorem GH.adQ{fb tb:Nat}{tmps:Array aj}{many:Int}{v:aj}(h:GH fb tb tmps many v)(a b c d:aj):GH fb tb ((((tmps.setIfInBounds 59 a).setIfInBounds 60 b).setIfInBounds 61 c).setIfInBounds 62 d) many v:=
 (((h.set 59 a oM).set 60 b oM).set 61 c oM).set 62 d oM
theorem rS{F:Nat->Bool}{U:Rn}{v:aj}(h:Fz v=true):VR F U v v:=Af h
theorem aeo(E:PR P b bq aM aC all l ss ms X0 w0 xb fb tb c0 c1):∀(N f many:Nat) (j_ kV:List Nat) (S O:Nat->Prop) (tmps bH:Array aj) (lw w:ak) (U:Rn) (B:Nat->Prop) (v:aj) (B0:Nat),
  f+many=N->f<=many->many<=600->kV.length+f<=600->St P X0 w0 S O tmps bH lw w U B->GH fb tb tmps many v->lw.ownsRow B0 108 1 v kV.length (ints kV)->B0<=lw.heap.size->(∀c,X0 c->c<B0)->
  gV P c0 c1 (.int .i64 0) (.bool false) (Zq (ints j_) K cs) f many (ints j_) (ints kV) S O (GK 159 bH (.code NP::.inLoop NP::.inBlock 2::.code xD::K) .normal cs) w:=by
 intro N
 induction N using Nat.strongRecOn with
 |ind N ih=>
  intro f many j_ kV S O tmps bH lw w U B v B0 hN hfm hm6 hof st G_ hown hB0 Xl;refine .ctl rfl rfl agl rfl rfl (.ctl rfl rfl (jS _ _) rfl rfl ?_);refine st.piece E (vV sM) (R:=fun a W'=>(GH fb tb a.tmps many v/\a.tmps[56]?=some (.bool (decide ((0:Int)<many))))/\W'.ownsRow B0 108 1 v kV.length (ints kV)/\B0<=W'.heap.size) (fun _ _ _ _ h=>h) (fun eL wu=>?_) ?_
  .refine vB (ahX G_) ?_;rintro e a W' ⟨rfl,h1,h2,rfl⟩;exact⟨rfl,⟨⟨h1,h2⟩,qb hown wu,by rw[wu];exact hB0⟩,st.kp.heap wu⟩
  clear st G_ hown hB0;rintro tmps bH lw U O w st ⟨⟨G_,h56⟩,hown,hB0⟩ - -;have afO:=st.bool h56;refine .ctl rfl rfl (tW (bD afO)) rfl rfl ?_
  by_cases hz:many=0
  .subst hz;obtain rfl:f=0:=oM;rw[show decide ((0:Int)<((0:Nat):Int))=false from rfl];refine .ctl rfl rfl (FK (k':=.code xD::K) rfl) rfl rfl ?_;refine .fin rfl fun w1 hr=>?_;have P6:St P X0 w0 S O tmps bH lw w1 U B:=⟨st.ms.rely hr,st.id,st.xB,st.kp,fun c hc=>(hr.keep c (.inl (st.xS hc))).trans (st.kw c hc)⟩
   obtain⟨v',hv',CW⟩:=P6.row G_.t9 hown oM;exact⟨bH,v',kV,rfl,by rw[<-P6.size];exact G_.size,hv',rfl,CW,rfl⟩
  obtain⟨m,rfl⟩:∃m,many=m+1:=⟨many-1,oM⟩
  rw[show decide ((0:Int)<((m+1:Nat):Int))=true from decide_eq_true oM];refine .ctl rfl rfl (fun w=>Ap w) rfl rfl (.ctl rfl rfl (qw _ _) rfl rfl (.ctl rfl rfl agn rfl rfl ?_));have hcf:lw.cell? ⟨fb,0,none⟩=some (.chan (some c0)):=(st.kp.cell E.xf).trans E.fc;have Xj:lw.cell? ⟨tb,0,none⟩=some (.chan (some c1)):=(st.kp.cell E.xt).trans E.tc;refine st.piece E (vV sM) (R:=fun a W'=>(GH fb tb a.tmps (m+1:Nat) v/\a.tmps[57]?=some (.chan (some c0))/\a.tmps[58]?=some (.chan (some c1)))/\W'.ownsRow B0 108 1 v kV.length (ints kV)/\B0<=W'.heap.size) (fun _ _ _ _ h=>h) (fun eL wu=>?_) ?_
  .refine vB (aaI G_ ((iu (by rw[wu])).trans hcf) ((iu (by rw[wu])).trans Xj)) ?_;rintro e a W' ⟨rfl,h1,h2,h3,rfl⟩;exact⟨rfl,⟨⟨h1,h2,h3⟩,qb hown wu,by rw[wu];exact hB0⟩,st.kp.heap wu⟩
  clear st G_ hown hB0 hcf Xj h56 afO;rintro tmps bH lw U O w st ⟨⟨G_,h57,h58⟩,hown,hB0⟩ - -;have ab6:=st.chan h57;have ab5:=st.chan h58;refine .ctl rfl rfl (jS _ _) rfl rfl (.ctl rfl rfl acF rfl rfl ?_);refine .select (TV (t0:=108) (t1:=4) sM ET.1 ET.2.1 ET.2.2.2 (by rw[E.e];exact ahS) (by rw[E.e];exact z4) (bD ab6) (bD ab5)) (fun x f' hf' hx=>?_) (fun ajd=>?_)
  .obtain⟨p,hp,rfl⟩:=List.mem_map.1 hx;subst hf';rw[F7 ET.1 ET.2.2.1];have ev:(Value.tuple #[goInt ((0:Nat):Int),.bool true,if (0:Nat)=0 then .int .i64 (p:Int) else .int .i64 0,if (0:Nat)=1 then .int .i64 (p:Int) else .bool false])=.tuple #[.int .i64 0,.bool true,.int .i64 (p:Int),.bool false]:=by simp[goInt]
   rw[ev];have hsz:bH.size=71:=by rw[<-st.size];exact G_.size
   obtain⟨g1,g2,g3,g4,g5,g6⟩:=ab9 bH hsz (.tuple #[.int .i64 0,.bool true,.int .i64 (p:Int),.bool false]) (.int .i64 0) (.bool true) (.bool false);obtain⟨l1,-,-,-,-,-⟩:=ab9 tmps G_.size (.tuple #[.int .i64 0,.bool true,.int .i64 (p:Int),.bool false]) (.int .i64 0) (.bool true) (.bool false);refine .op sM CO.1 CO.2.2.2 CO.2.2.1 (fun w=>CC (v:=.int .i64 0) CO.2.1 (bD g4) rfl P w) ?_;refine .op sM CL.1 CL.2.2.2 CL.2.2.1 (fun w=>by rw[E.e];exact age CL.2.1 (bD g5) w) ?_;refine .op sM CJ.1 CJ.2.2.2 CJ.2.2.1 (fun w=>by rw[E.e];exact agd CJ.2.1 (bD g6) w) ?_;refine .ctl rfl rfl (oJ _) rfl rfl (.ctl rfl rfl (qw _ _) rfl rfl (.ctl rfl rfl (aal (x:=true) (bD g2)) rfl rfl ?_));have st4:=(((st.set (rS (v:=.tuple #[.int .i64 0,.bool true,.int .i64 (p:Int),.bool false]) (by simp[Fz,Ag])) 59).set (rS (v:=.int .i64 0) rfl) 60).set (rS (v:=.bool true) rfl) 61).set (rS (v:=.bool false) rfl) 62;have hg4:=G_.adQ (.tuple #[.int .i64 0,.bool true,.int .i64 (p:Int),.bool false]) (.int .i64 0) (.bool true) (.bool false);refine st4.piece E (vV sM) (R:=fun a W'=>∃v',GH fb tb a.tmps (m+1:Nat) v'/\W'.ownsRow B0 108 1 v' (kV++[p]).length (ints (kV++[p]))/\B0<=W'.heap.size) (fun _ _ _ _ h=>h) (fun eL wu=>?_) ?_
   .refine vB (aaH (B:=B0) (out:=kV) oM hg4 l1 (qb hown wu) (by rw[wu];exact hB0)) ?_;rintro e a W' ⟨rfl,v',h1,h2,h3⟩;exact⟨rfl,⟨v',h1,h2,aF (by rw[wu];exact hB0) h3.size⟩,fun c hc=>(h3.block c (Xl c hc)).trans ((st.kp.heap wu) c hc)⟩
   clear st4 hg4 st G_ hown hB0 h57 h58 ab6 ab5 g1 g2 g3 g4 g5 g6 l1 ev hsz;rintro tmps bH lw U O w st ⟨v',G_,hown,hB0⟩ - -;refine .ctl rfl rfl (fun w=>o9 _ w) rfl rfl (.ctl rfl rfl (fun w=>o9 _ w) rfl rfl (.ctl rfl rfl (fun w=>yQ _ w) rfl rfl ?_));have e:ints kV++[aD .i64 (p:Int)]=ints (kV++[p]):=by simp[ints]
   rw[e];exact ih (f'+(m+1)) oM f' (m+1) j_ (kV++[p]) S O tmps bH lw w U B v' B0 rfl oM hm6 sO st G_ hown hB0 Xl
  rw[F7 ET.1 ET.2.2.1];have ev:(Value.tuple #[goInt ((1:Nat):Int),.bool true,if (1:Nat)=0 then .bool true else .int .i64 0,if (1:Nat)=1 then .bool true else .bool false])=.tuple #[.int .i64 1,.bool true,.int .i64 0,.bool true]:=by simp[goInt]
  rw[ev];have hsz:bH.size=71:=by rw[<-st.size];exact G_.size
  obtain⟨g1,g2,g3,g4,g5,g6⟩:=ab9 bH hsz (.tuple #[.int .i64 1,.bool true,.int .i64 0,.bool true]) (.int .i64 1) (.bool false) (.bool true);refine .op sM CO.1 CO.2.2.2 CO.2.2.1 (fun w=>CC (v:=.int .i64 1) CO.2.1 (bD g4) rfl P w) ?_;refine .op sM CL.1 CL.2.2.2 CL.2.2.1 (fun w=>by rw[E.e];exact agc CL.2.1 (bD g5) w) ?_;refine .op sM CJ.1 CJ.2.2.2 CJ.2.2.1 (fun w=>by rw[E.e];exact agb CJ.2.1 (bD g6) w) ?_;refine .ctl rfl rfl (oJ _) rfl rfl (.ctl rfl rfl (qw _ _) rfl rfl (.ctl rfl rfl (aal (x:=false) (bD g2)) rfl rfl (.ctl rfl rfl (tW (x:=true) (bD g3)) rfl rfl ?_)));have st4:=(((st.set (rS (v:=.tuple #[.int .i64 1,.bool true,.int .i64 0,.bool true]) (by simp[Fz,Ag])) 59).set (rS (v:=.int .i64 1) rfl) 60).set (rS (v:=.bool false) rfl) 61).set (rS (v:=.bool true) rfl) 62;have hg4:=G_.adQ (.tuple #[.int .i64 1,.bool true,.int .i64 0,.bool true]) (.int .i64 1) (.bool false) (.bool true);refine st4.piece E (vV sM) (R:=fun a W'=>GH fb tb a.tmps m v/\W'.ownsRow B0 108 1 v kV.length (ints kV)/\B0<=W'.heap.size) (fun _ _ _ _ h=>h) (fun eL wu=>?_) ?_
  .refine vB (ahW (many:=((m+1:Nat):Int)) oM hg4) ?_;rintro e a W' ⟨rfl,h1,rfl⟩;refine⟨rfl,⟨?_,qb hown wu,by rw[wu];exact hB0⟩,st.kp.heap wu⟩;have e:((m+1:Nat):Int)-1=(m:Int):=oM;rw[e] at h1;exact h1
  clear st4 hg4 st G_ hown hB0 h57 h58 ab6 ab5 g1 g2 g3 g4 g5 g6 ev hsz;rintro tmps bH lw U O w st ⟨G_,hown,hB0⟩ - -;refine .ctl rfl rfl (fun w=>o9 _ w) rfl rfl (.ctl rfl rfl (fun w=>o9 _ w) rfl rfl (.ctl rfl rfl (fun w=>yQ _ w) rfl rfl ?_));exact ih (f+m) oM f m j_ kV S O tmps bH lw w U B v B0 rfl ajd oM hof st G_ hown hB0 Xl
end
def s10:(opsOf vv).size=2:=kQ
def Qi:(opsOf vv)[0]?=some ((opsOf vv).getD 0 default)/\((opsOf vv).getD 0 default).op=.makeFunc (.func 178) #[] #[.tmp 1,.tmp 8,.tmp 4,.tmp 5]/\((opsOf vv).getD 0 default).dst=some 53/\((opsOf vv).getD 0 default).guard=none:=⟨kQ,kQ,kQ,kQ⟩
def Qh:(opsOf vv)[1]?=some ((opsOf vv).getD 1 default)/\((opsOf vv).getD 1 default).op=.go { callee:=.value (.tmp 53),args:=#[],argTypes:=#[] }/\((opsOf vv).getD 1 default).dst=none/\((opsOf vv).getD 1 default).guard=none:=⟨kQ,kQ,kQ,kQ⟩
def Jy{fr:b_}{o:cO}{f:d_}{x y z u:bI}(ho:o.op=.makeFunc (.func f) #[] #[x,y,z,u]){a b c d:aj}(hx:fr.eval x=a)(hy:fr.eval y=b)(hz:fr.eval z=c)(hu:fr.eval u=d)(P:aN)(w:ak) :
  (bY fr.eval o).runT P w #[]=(.ok (.value (.func (.func f) #[] #[a,b,c,d])) w,#[]):=by
 unfold bY;rw[ho];simp only[List.map_toArray,cV,fg,hx,hy,hz,hu];rfl
def manyN(b:BB)(lu sn:Nat):Nat->Nat
 |0=>0
 |m+1=>manyN b lu sn m+if zv b lu sn m then 0 else 1
def j_(b:BB)(lu sn:Nat)(l:List dS):Nat->List Nat
 |0=>[]
 |m+1=>j_ b lu sn l m++if !zv b lu sn m&&b.sure l (sn ||| m) then[sn ||| m] else[]
def L_(b:BB)(lu sn:Nat):∀m,manyN b lu sn m<=m
 |0=>aO _
 |m+1=>by have:=L_ b lu sn m;unfold manyN;split<;>omega
def QN(b:BB)(lu sn:Nat)(l:List dS):∀m,(j_ b lu sn l m).length<=manyN b lu sn m
 |0=>aO _
 |m+1=>by
  have:=QN b lu sn l m;unfold j_ manyN;cases hs:zv b lu sn m
  .cases h2:b.sure l (sn ||| m)<;>simp<;>omega
  simp;omega
def GT.adP{xb fb tb sn:Nat}{tmps:Array aj}{many m:Int}{t8:aj}(h:GT xb fb tb sn tmps many m t8)(x:aj):GT xb fb tb sn (tmps.setIfInBounds 53 x) many m t8:=
 ⟨by simp[h.size],by rw[aG oM];exact h.t1,by rw[aG oM];exact h.t3,by rw[aG oM];exact h.t4,by rw[aG oM];exact h.t5,
  by rw[aG oM];exact h.t6,by rw[aG oM];exact h.t18,by rw[aG oM];exact h.t8⟩
section
variable{P:aN}{b:BB}{bq aM aC all:aj}{l:List dS}{ss:List Int}{ms:List Mk}{X0:Nat->Prop}{w0:ak}{xb fb tb c0 c1:Nat}
 {S O:Nat->Prop} {tmps bH:Array aj} {lw w:ak} {U:Rn} {B:Nat->Prop} {cs:List b_} {K k:List pW} {kd:CallKind}
theorem agm(w:ak):fE P true (GK 159 bH (.code Kh::k) kd cs) w=.go (GK 159 bH (.code gR5::.code (.seq (.cond (.tmp 19) .skip (.exit 0)) (.seq (.block 1 Pa) MH))::k) kd cs) w #[]:=by rw[acd];exact jS _ _ w
theorem agp(w:ak):fE P true (GK 159 bH (.code Pa::k) kd cs) w=.go (GK 159 bH (.code gR6::.code (.seq gR7 (.seq (.seq gR8 (.cond (.tmp 50) (.exit 1) .skip)) (.seq gR9 vv)))::k) kd cs) w #[]:=by rw[acg];exact jS _ _ w
theorem acG(w:ak):fE P true (GK 159 bH (.code vv::k) kd cs) w=.go (GK 159 bH (.inRegion (opsOf vv) [0,1]::k) kd cs) w #[]:=by
 have h:=uB (P:=P) (main:=true) (fn:=159) (tmps:=bH) (kd:=kd) (k:=k) (cs:=cs) 10 (opsOf vv) w;rw[<-YP,s10] at h;exact h
theorem RP(st:St P X0 w0 S O tmps bH lw w U B){i pb:Nat}{p:aj}(hf:Ag p=true)(hi:tmps[i]?=some (ptr ⟨pb,0,none⟩))(ho:lw.heap[pb]?=some (.cells #[p] 108 (0,0))) :
  ∃pc,bH[i]?=some (ptr ⟨pc,0,none⟩)/\U pb=some pc/\(∃e z,w.heap[pc]?=some (.cells #[p] e z)):=by
 obtain⟨y,hy,hv⟩:=st.ms.get hi;cases hv with
 |@ptr _ a' Gt=>
  have e:a'=⟨a'.block,0,none⟩:=by
   have h4:=Gt.off;have h5:=Gt.spot;obtain⟨x,y,z⟩:=a';dsimp only at h4 h5 ⊢;subst h4;subst h5;rfl
  refine⟨a'.block,by rw[<-e];exact hy,Gt.block,?_⟩;obtain⟨o,o',h1,h2,h3,_⟩:=st.ms.wr.at_ _ _ Gt.block;rw[ho] at h1;cases h1;cases h3 with
  |@cells cs cs' e z z' Tz hz=>
   have hs:cs'.size=1:=Tz.size.symm;obtain⟨y,hy,hv⟩:=Tz.get (i:=0) (x:=p) rfl
   have e1:cs' = #[y]:=by
    apply Array.ext
    .simpa using hs
    intro j h1 h2;have hj:j=0:=by simp at h2;exact h2
    subst hj;have:=(ah.1 hy).2;simpa using this
   have e2:y=p:=by
    revert hf;cases hv<;>intro hf<;>first|rfl|cases hf
   exact⟨_,_,by rw[h2,e1,e2]⟩
theorem aep(E:PR P b bq aM aC all l ss ms X0 w0 xb fb tb c0 c1):∀(j m:Nat),m+j=512->∀(S O:Nat->Prop) (tmps bH:Array aj) (lw w:ak) (U:Rn) (B:Nat->Prop) (t8:aj),
  St P X0 w0 S O tmps bH lw w U B->GT xb fb tb (bJ ss) tmps (manyN b (dD ss ms).toNat (bJ ss) m) m t8->
  gV P c0 c1 (.int .i64 0) (.bool false) (Zq (ints (j_ b (dD ss ms).toNat (bJ ss) l 512)) K cs) (j_ b (dD ss ms).toNat (bJ ss) l m).length (manyN b (dD ss ms).toNat (bJ ss) m) (ints (j_ b (dD ss ms).toNat (bJ ss) l m)) [] S O
   (GK 159 bH (.code Kh::.inLoop Kh::.inBlock 0::.code (.seq Hd (.seq (.block 2 (.loop NP)) xD))::K) .normal cs) w:=by
 have Sg:=mM ss E.Ik;have qu:=Tj ss ms (fun s hs=>(E.Ik s hs).2) (fun s hs=>(E.mks s hs).2);obtain⟨lu,YI⟩:∃lu:Nat,dD ss ms=lu:=⟨(dD ss ms).toNat,oM⟩
 rw[YI,Int.toNat_natCast];rw[YI] at qu;have afA:1<=lu/\lu<=9:=oM;generalize aoS:bJ ss=sn at *;intro j
 induction j with
 |zero|succ j ih=>?_
 all_goals
  intro m hm S O tmps bH lw w U B t8 st ux;have al6:=L_ b lu sn m;have yL:=QN b lu sn l m;refine .ctl rfl rfl agm rfl rfl ?_;refine st.piece E (vV sM) (R:=fun a W'=>GT xb fb tb sn a.tmps (manyN b lu sn m) m t8/\a.tmps[19]?=some (.bool (decide ((m:Int)<512)))) (fun _ _ _ _ h=>h) (fun eL wu=>?_) ?_
  .refine vB (pR5 ux) ?_;rintro e a W' ⟨rfl,h1,h2,rfl⟩;exact⟨rfl,⟨h1,h2⟩,st.kp.heap wu⟩
  clear st ux;rintro tmps bH lw U O w st ⟨ux,h19⟩ - -;refine .ctl rfl rfl (jS _ _) rfl rfl (.ctl rfl rfl (tW (bD (st.bool h19))) rfl rfl ?_)
 .have ae2:m=512:=oM;rw[show decide ((m:Int)<512)=false from decide_eq_false oM];refine .ctl rfl rfl (FK (k':=.code (.seq Hd (.seq (.block 2 (.loop NP)) xD))::K) rfl) rfl rfl (.ctl rfl rfl (jS _ _) rfl rfl ?_);refine st.piece E (vV sM) (R:=fun a W'=>GH fb tb a.tmps (manyN b lu sn m) (.slice none 0 0)) (fun _ _ _ _ h=>h) (fun eL wu=>?_) ?_
  .refine vB (ahY ux) ?_;rintro e a W' ⟨rfl,h1,rfl⟩;exact⟨rfl,h1,st.kp.heap wu⟩
  clear st ux h19;rintro tmps bH lw U O w st G_ - -;refine .ctl rfl rfl (jS _ _) rfl rfl (.ctl rfl rfl (qw _ _) rfl rfl (.ctl rfl rfl (M5 _) rfl rfl ?_));subst ae2;exact aeo E _ _ _ _ [] S O tmps bH lw w U B _ lw.heap.size rfl yL oM sO st G_ (World.ownsRow_nil _ _ _ _) (aO _) (fun c hc=>st.kp.lt E hc)
 rw[show decide ((m:Int)<512)=true from decide_eq_true oM];refine .ctl rfl rfl (fun w=>Ap w) rfl rfl (.ctl rfl rfl (jS _ _) rfl rfl (.ctl rfl rfl (qw _ _) rfl rfl (.ctl rfl rfl agp rfl rfl ?_)));refine st.piece E (vV sM) (R:=fun a W'=>GT xb fb tb sn a.tmps (manyN b lu sn m) m t8/\a.tmps[7]?=some (.int .i64 m)) (fun _ _ _ _ h=>h) (fun eL wu=>?_) ?_
 .refine vB (pR6 ux) ?_;rintro e a W' ⟨rfl,h1,h2,rfl⟩;exact⟨rfl,⟨h1,h2⟩,st.kp.heap wu⟩
 clear st ux h19;rintro tmps bH lw U O w st ⟨ux,h7⟩ - -;refine .ctl rfl rfl (jS _ _) rfl rfl ?_;obtain⟨pb,hpb⟩:∃pb,lw.heap.size=pb:=⟨_,rfl⟩
 have ajI:∀c,B c->c<pb:=fun c hc=>hpb▸st.ms.wr.base c hc;refine st.piece E (vV sM) (R:=fun a W'=>(GT xb fb tb sn a.tmps (manyN b lu sn m) m (ptr ⟨pb,0,none⟩)/\a.tmps[7]?=some (.int .i64 m))/\W'.heap[pb]?=some (.cells #[.int .i64 ((sn ||| m:Nat):Int)] 108 (0,0))) (fun _ _ _ _ h=>h) (fun eL wu=>?_) ?_
 .refine vB (pR7 Sg oM ux h7) ?_;rintro e a W' ⟨rfl,h1,h2,h3,h4⟩;have hs:eL.heap.size=pb:=by rw[wu,hpb]
  rw[hs] at h1 h3;exact⟨rfl,⟨⟨h1,h2⟩,h3⟩,(st.kp.heap wu).below E h4⟩
 clear st ux h7 hpb;rintro tmps bH lw U O w st ⟨⟨ux,h7⟩,Sj⟩ - -;refine .ctl rfl rfl (jS _ _) rfl rfl (.ctl rfl rfl (jS _ _) rfl rfl ?_);refine st.piece E (vV sM) (R:=fun a W'=>(GT xb fb tb sn a.tmps (manyN b lu sn m) m (ptr ⟨pb,0,none⟩)/\a.tmps[50]?=some (.bool (zv b lu sn m)))/\W'.heap[pb]?=some (.cells #[.int .i64 ((sn ||| m:Nat):Int)] 108 (0,0))) (fun _ _ _ _ h=>h) (fun eL wu=>?_) ?_
 .have kp':=st.kp.heap wu;have Yv:eL.heap[pb]?=some (.cells #[.int .i64 ((sn ||| m:Nat):Int)] 108 (0,0)):=by rw[wu];exact Sj
  refine vB (pR8 (b:=b) (bq:=bq) (aM:=aM) (aC:=aC) (pb:=pb) (lw:=eL) E.ok Sg oM ux h7 (fun i u hi=>(kp'.cell E.xx).trans (E.xc i u ?_)) ?_ ⟨kp'.lt E E.xx,eR Yv⟩ afA (fun w1 hb1=>?_)) ?_
  .have ai2:i<(b.cells bq aM aC).size:=(ah.1 hi).1;rw[Array.getElem?_append_left ai2];exact hi
  .unfold dP;rw[Yv];rfl
  .have kw1:=kp'.below E hb1;have:=F8 b bq aM aC ss ms E.Ik E.mks w1 (kw1.reads E E.rs) (kw1.reads E E.rm);rw[YI] at this;exact this
  rintro e a W' ⟨rfl,h1,h2,h3⟩;exact⟨rfl,⟨⟨h1,h2⟩,(h3.block pb (eR Yv)).trans Yv⟩,kp'.below E h3⟩
 clear st ux h7 Sj;rintro tmps bH lw U O w st ⟨⟨ux,h50⟩,Sj⟩ - -;refine .ctl rfl rfl (tW (bD (st.bool h50))) rfl rfl ?_
 have last:∀(S O:Nat->Prop) (tmps bH:Array aj) (lw w:ak) (U:Rn) (B:Nat->Prop),St P X0 w0 S O tmps bH lw w U B->GT xb fb tb sn tmps (manyN b lu sn (m+1)) m (ptr ⟨pb,0,none⟩)->
   gV P c0 c1 (.int .i64 0) (.bool false) (Zq (ints (j_ b lu sn l 512)) K cs) (j_ b lu sn l (m+1)).length (manyN b lu sn (m+1)) (ints (j_ b lu sn l (m+1))) [] S O (GK 159 bH (.code MH::.inLoop Kh::.inBlock 0::.code (.seq Hd (.seq (.block 2 (.loop NP)) xD))::K) .normal cs) w:=by
  clear st ux h50 Sj;intro S O tmps bH lw w U B st ux;refine st.piece E (vV sM) (R:=fun a W'=>GT xb fb tb sn a.tmps (manyN b lu sn (m+1)) ((m+1:Nat):Int) (ptr ⟨pb,0,none⟩)) (fun _ _ _ _ h=>h) (fun eL wu=>?_) ?_
  .refine vB (ahZ oM ux) ?_;rintro e a W' ⟨rfl,h1,rfl⟩;exact⟨rfl,h1,st.kp.heap wu⟩
  clear st ux;rintro tmps bH lw U O w st ux - -;refine .ctl rfl rfl (fun w=>yQ _ w) rfl rfl ?_;exact ih (m+1) oM S O tmps bH lw w U B _ st ux
 cases hsk:zv b lu sn m
 .have em:manyN b lu sn (m+1)=manyN b lu sn m+1:=by show manyN b lu sn m+(if zv b lu sn m then 0 else 1)=_;rw[hsk];rfl
  refine .ctl rfl rfl (fun w=>Ap w) rfl rfl (.ctl rfl rfl (jS _ _) rfl rfl ?_);refine st.piece E (vV sM) (R:=fun a W'=>GT xb fb tb sn a.tmps (manyN b lu sn (m+1)) m (ptr ⟨pb,0,none⟩)/\W'.heap[pb]?=some (.cells #[.int .i64 ((sn ||| m:Nat):Int)] 108 (0,0))) (fun _ _ _ _ h=>h) (fun eL wu=>?_) ?_
  .refine vB (pR9 oM ux) ?_;rintro e a W' ⟨rfl,h1,rfl⟩;refine⟨rfl,⟨?_,by rw[wu];exact Sj⟩,st.kp.heap wu⟩;rw[em];exact h1
  clear st ux h50 Sj;rintro tmps bH lw U O w st ⟨ux,Sj⟩ - -;obtain⟨pc,h8',hρ,e0,zz,hpc⟩:=RP st rfl ux.t8 Sj;have hnB:¬B pb:=fun h=>absurd (ajI pb h) (Nat.lt_irrefl _);have afJ:O pc:=by rw[st.ms.own];exact⟨pb,hnB,hρ⟩
  have hSO:∀c,S c->¬O c:=fun c hc=>(st.ms.wV hc).2;have Ms:=st.ms.freeze hρ hnB Sj
  have st2:St P X0 w0 (fun x=>S x\/x=pc) (fun x=>O x/\x≠pc) tmps bH (o7 lw pb #[.int .i64 ((sn ||| m:Nat):Int)] 108 0) w U (fun x=>B x\/x=pb):=
   ⟨Ms,st.id,fun c hc=>.inl (st.xB c hc),fun c hc=>by
    have hne:c≠pb:=fun e=>hnB (e▸st.xB c hc);have:=qh Sj (x:=c);rw[if_neg hne] at this
    exact this.trans (st.kp c hc),st.kw⟩
  have aie:∀c,X0 c->c<w.heap.size:=fun c hc=>(st.ms.wV (st.xS hc)).1;have Ka:∀a:Addr,X0 a.block->w.cell? a=w0.cell? a:=fun a ha=>iu (st.kw _ ha);have t1':=st.ptr E.xx ux.t1;have t4':=st.ptr E.xf ux.t4;have t5':=st.ptr E.xt ux.t5;refine .ctl rfl rfl acG rfl rfl ?_;refine .op sM Qi.1 Qi.2.2.2 Qi.2.2.1 (fun w=>Jy Qi.2.1 (bD t1') (bD h8') (bD t4') (bD t5') P w) ?_;have hsz:bH.size=71:=by rw[<-st.size];exact ux.size
  have xe:(bH.setIfInBounds 53 (.func (.func 178) #[] #[ptr ⟨xb,0,none⟩,ptr ⟨pc,0,none⟩,ptr ⟨fb,0,none⟩,ptr ⟨tb,0,none⟩]))[53]?=some (.func (.func 178) #[] #[ptr ⟨xb,0,none⟩,ptr ⟨pc,0,none⟩,ptr ⟨fb,0,none⟩,ptr ⟨tb,0,none⟩]):=Array.getElem?_setIfInBounds_self_of_lt oM;have hp9:sn ||| m<512:=Nat.or_lt_two_pow (n:=9) Sg oM
  have Yo:ig P c0 c1 (fun c=>X0 c\/c=pc) (.int .i64 ((sn ||| m:Nat):Int)) (b.sure l (sn ||| m)) (fun _=>False) (xi P 178 #[ptr ⟨xb,0,none⟩,ptr ⟨pc,0,none⟩,ptr ⟨fb,0,none⟩,ptr ⟨tb,0,none⟩]) w:=by
   refine worker E.e E.f178 (fun c hc=>?_) (fun c hc=>?_) st.ms.wB E.i178 (.inl E.xx) (.inr rfl) (.inl E.xf) (.inl E.xt) ?_ ((Ka _ E.xf).trans E.fc) ((Ka _ E.xt).trans E.tc) (fun I d=>?_)
   .rcases hc with hc|rfl
    .obtain⟨cs,e,z,h1,h2⟩:=E.cl c hc;exact⟨cs,e,z,by rw[st.kw c hc];exact h1,fun v hv=>(h2 v hv).mono (tO fun _ h=>.inl h)⟩
    exact⟨_,e0,zz,hpc,fun v hv=>by simp at hv;subst hv;exact .int _ _⟩
   .rcases hc with hc|rfl
    .exact E.low c hc
    exact(st.ms.wr.low _ _ hρ).2
   .unfold dP;rw[hpc];rfl
   rw[E.e];refine adD b E.ok bq aM aC all l E.acP (sn ||| m) hp9 xb pc fb tb _ (E.ra.to (fun c hc=>?_) fun a ha=>?_) (fun i u hi=>?_) ?_
   .show c<(shut _ w).heap.size;rw[wT];exact aie c hc
   .exact(wU (X:=fun c=>X0 c\/c=pc) (w:=w) (.inl ha)).trans (Ka a ha)
   .exact(wU (X:=fun c=>X0 c\/c=pc) (w:=w) (a:=⟨xb,i,none⟩) (.inl E.xx)).trans ((Ka _ E.xx).trans (E.xc i u hi))
   refine(wU (X:=fun c=>X0 c\/c=pc) (w:=w) (a:=⟨pc,0,none⟩) (.inr rfl)).trans ?_;unfold dP;rw[hpc];rfl
  refine .spawn (Sk:=fun c=>X0 c\/c=pc) (S':=fun c=>S c\/c=pc) (O':=fun c=>O c/\c≠pc) (XG sM Qh.1 Qh.2.1 Qh.2.2.1 Qh.2.2.2 (bD xe)) rfl rfl (fun c hc=>?_) Yo (fun c hc=>?_) (fun c hc=>?_) ?_
  .rcases hc with hc|rfl
   .exact .inl (st.xS hc)
   exact .inr afJ
  .rcases hc with hc|rfl
   .exact .inl hc
   exact .inr afJ
  .exact⟨hc.1,fun h=>h.elim (fun h=>hSO c (st.xS h) hc.1) hc.2,fun h=>h.elim (fun h=>hSO c h hc.1) hc.2⟩
  refine .ctl rfl rfl (oJ _) rfl rfl (.ctl rfl rfl (fun w=>o9 _ w) rfl rfl ?_)
  have hvf:VR fw U (.func (.func 178) #[] #[ptr ⟨xb,0,none⟩,ptr ⟨pb,0,none⟩,ptr ⟨fb,0,none⟩,ptr ⟨tb,0,none⟩]) (.func (.func 178) #[] #[ptr ⟨xb,0,none⟩,ptr ⟨pc,0,none⟩,ptr ⟨fb,0,none⟩,ptr ⟨tb,0,none⟩]):=by
   have Tw:∀a:Addr,X0 a.block->VR fw U (ptr a) (ptr a):=fun a ha=>.ptr ⟨st.id _ _ (v_ ha),rfl,rfl⟩
   have Tz:iZ fw U #[ptr ⟨xb,0,none⟩,ptr ⟨pb,0,none⟩,ptr ⟨fb,0,none⟩,ptr ⟨tb,0,none⟩] #[ptr ⟨xb,0,none⟩,ptr ⟨pc,0,none⟩,ptr ⟨fb,0,none⟩,ptr ⟨tb,0,none⟩]:=
    (((iZ.one (Tw ⟨xb,0,none⟩ E.xx)).push (VR.ptr (a:=⟨pb,0,none⟩) (a':=⟨pc,0,none⟩) ⟨hρ,rfl,rfl⟩)).push (Tw ⟨fb,0,none⟩ E.xf)).push (Tw ⟨tb,0,none⟩ E.xt)
   exact .func (by rfl) rfl (fun i x y h=>by simp at h) Tz.size Tz.at_
  have:=last (fun x=>S x\/x=pc) (fun x=>O x/\x≠pc) _ _ _ w U _ (st2.set hvf 53) (ux.adP _)
  have ea:j_ b lu sn l (m+1)=j_ b lu sn l m++if b.sure l (sn ||| m) then[sn ||| m] else[]:=by
   show j_ b lu sn l m++(if !zv b lu sn m&&b.sure l (sn ||| m) then[sn ||| m] else[])=_;rw[hsk];rfl
  have ei:ints (j_ b lu sn l (m+1))=ints (j_ b lu sn l m)++if b.sure l (sn ||| m) then[.int .i64 ((sn ||| m:Nat):Int)] else[]:=by
   rw[ea];cases b.sure l (sn ||| m)<;>simp[ints]
  have el:(j_ b lu sn l (m+1)).length=(j_ b lu sn l m).length+(b.sure l (sn ||| m)).toNat:=by
   rw[ea];cases b.sure l (sn ||| m)<;>simp
  rw[ei,el,em] at this;exact this
 have em:manyN b lu sn (m+1)=manyN b lu sn m:=by show manyN b lu sn m+(if zv b lu sn m then 0 else 1)=_;rw[hsk];rfl
 have ea:j_ b lu sn l (m+1)=j_ b lu sn l m:=by show j_ b lu sn l m++(if !zv b lu sn m&&b.sure l (sn ||| m) then[sn ||| m] else[])=_;rw[hsk];simp
 refine .ctl rfl rfl (FK (k':=.code MH::.inLoop Kh::.inBlock 0::.code (.seq Hd (.seq (.block 2 (.loop NP)) xD))::K) rfl) rfl rfl ?_;have:=last S O tmps bH lw w U B st (by rw[em];exact ux);rw[em,ea] at this;exact this
end
abbrev FS0(b:BB)(bq:aj)(aM:aj)(aC:aj)(all:aj)(xb:Nat):Array Value:=#[.agg (b.open bq aM aC all),ptr ⟨xb,0,none⟩,.slice none 0 0,aw,aw,aw,aw,aw,aw,aw,aw,aw,aw,aw,aw,aw,aw,aw,aw,aw,aw,aw,aw,aw,aw,aw,aw,aw,aw,aw,aw,aw,aw,aw,aw,aw,aw,aw,aw,aw,aw,aw,aw,aw,aw,aw,aw,aw,aw,aw,aw,aw,aw,aw,aw,aw,aw,aw,aw,aw,aw,aw,aw,aw,aw,aw,aw,aw,aw,aw,aw]
abbrev FS1(b:BB)(bq:aj)(aM:aj)(aC:aj)(all:aj):Array Value:=#[.agg (b.open bq aM aC all),aw,aw,aw,aw,aw,aw,aw,aw,aw,aw,aw,aw,aw,aw,aw,aw,aw,aw,aw,aw,aw,aw,aw,aw,aw,aw,aw,aw,aw,aw,aw,aw,aw,aw,aw,aw,aw,aw,aw,aw,aw,aw,aw,aw,aw,aw,aw,aw,aw,aw,aw,aw,aw,aw,aw,aw,aw,aw,aw,aw,aw,aw,aw,aw,aw,aw,aw,aw,aw,aw]
abbrev FS2(b:BB)(bq:aj)(aM:aj)(aC:aj)(all:aj)(xb:Nat)(sn:Int):Array Value:=#[.agg (b.open bq aM aC all),ptr ⟨xb,0,none⟩,.slice none 0 0,.int .i64 sn,aw,aw,aw,aw,aw,aw,aw,ptr ⟨xb,0,none⟩,ptr ⟨xb,0,none⟩,ptr ⟨xb,13,none⟩,aM,.int .i64 sn,aw,aw,aw,aw,aw,aw,aw,aw,aw,aw,aw,aw,aw,aw,aw,aw,aw,aw,aw,aw,aw,aw,aw,aw,aw,aw,aw,aw,aw,aw,aw,aw,aw,aw,aw,aw,aw,aw,aw,aw,aw,aw,aw,aw,aw,aw,aw,aw,aw,aw,aw,aw,aw,aw,aw]
abbrev FS3(b:BB)(bq:aj)(aM:aj)(aC:aj)(all:aj)(xb:Nat)(sn:Int)(fb:Nat)(tb:Nat)(c0:Nat)(c1:Nat):Array Value:=#[.agg (b.open bq aM aC all),ptr ⟨xb,0,none⟩,.slice none 0 0,.int .i64 sn,ptr ⟨fb,0,none⟩,ptr ⟨tb,0,none⟩,aw,aw,aw,aw,aw,ptr ⟨xb,0,none⟩,ptr ⟨xb,0,none⟩,ptr ⟨xb,13,none⟩,aM,.int .i64 sn,.chan (some c0),.chan (some c1),aw,aw,aw,aw,aw,aw,aw,aw,aw,aw,aw,aw,aw,aw,aw,aw,aw,aw,aw,aw,aw,aw,aw,aw,aw,aw,aw,aw,aw,aw,aw,aw,aw,aw,aw,aw,aw,aw,aw,aw,aw,aw,aw,aw,aw,aw,aw,aw,aw,aw,aw,aw,aw]
abbrev FS4(b:BB)(bq:aj)(aM:aj)(aC:aj)(all:aj)(xb:Nat)(sn:Int)(fb:Nat)(tb:Nat)(c0:Nat)(c1:Nat):Array Value:=#[.agg (b.open bq aM aC all),ptr ⟨xb,0,none⟩,.slice none 0 0,.int .i64 sn,ptr ⟨fb,0,none⟩,ptr ⟨tb,0,none⟩,.int .i64 0,aw,aw,aw,aw,ptr ⟨xb,0,none⟩,ptr ⟨xb,0,none⟩,ptr ⟨xb,13,none⟩,aM,.int .i64 sn,.chan (some c0),.chan (some c1),aw,aw,aw,aw,aw,aw,aw,aw,aw,aw,aw,aw,aw,aw,aw,aw,aw,aw,aw,aw,aw,aw,aw,aw,aw,aw,aw,aw,aw,aw,aw,aw,aw,aw,aw,aw,aw,aw,aw,aw,aw,aw,aw,aw,aw,aw,aw,aw,aw,aw,aw,aw,aw]
abbrev TH(b:BB)(bq:aj)(aM:aj)(aC:aj)(all:aj)(xb:Nat)(sn:Int)(fb:Nat)(tb:Nat)(c0:Nat)(c1:Nat):Array Value:=#[.agg (b.open bq aM aC all),ptr ⟨xb,0,none⟩,.slice none 0 0,.int .i64 sn,ptr ⟨fb,0,none⟩,ptr ⟨tb,0,none⟩,.int .i64 0,aw,aw,aw,aw,ptr ⟨xb,0,none⟩,ptr ⟨xb,0,none⟩,ptr ⟨xb,13,none⟩,aM,.int .i64 sn,.chan (some c0),.chan (some c1),.int .i64 0,aw,aw,aw,aw,aw,aw,aw,aw,aw,aw,aw,aw,aw,aw,aw,aw,aw,aw,aw,aw,aw,aw,aw,aw,aw,aw,aw,aw,aw,aw,aw,aw,aw,aw,aw,aw,aw,aw,aw,aw,aw,aw,aw,aw,aw,aw,aw,aw,aw,aw,aw,aw]
section
variable{b:BB}{bq aM aC all:aj}{xb sn c0 c1 fb tb:Nat}{W:ak}
theorem pR0(hxb:W.heap.size=xb):gR0.wp aq (fun e a W'=>e=.normal/\a=⟨(FS0 b bq aM aC all xb),[]⟩/\W'=W.alloc (.cells (b.open bq aM aC all) 122)) ⟨(FS1 b bq aM aC all),[]⟩ W:=by
 subst hxb;simp only[gR0,gM,rC,ld,sL,sR];go_wp2
theorem pR1{ss:List Int}(nQ:∀s∈ss,1<=s/\s<=8)(hc:W.cell? ⟨xb,13,none⟩=some aM)(hs:Reads W aM ss.length (ss.map (aD .i64)))(Sg:bJ ss=sn):gR1.wp aq (fun e a W'=>e=.normal/\a=⟨(FS2 b bq aM aC all xb sn),[]⟩/\W'=W) ⟨(FS0 b bq aM aC all xb),[]⟩ W:=by
 have hP:=kH ss nQ aM W hs;rw[Sg] at hP;clear hs nQ Sg;simp only[gR1,gM,rC,ld,sL,sR]
 go_wp2_with (go_at_call 106;refine hP.mono ?_;rintro e w' ⟨rfl,rfl⟩)
theorem Zc(W:ak)(o0 o1 o2 o3:Obj):(((((W.alloc o0).alloc o1).alloc o2).alloc o3).drew).heap[W.heap.size]?=some o0/\(((((W.alloc o0).alloc o1).alloc o2).alloc o3).drew).heap[W.heap.size+1]?=some o1/\(((((W.alloc o0).alloc o1).alloc o2).alloc o3).drew).heap[W.heap.size+1+1]?=some o2/\(((((W.alloc o0).alloc o1).alloc o2).alloc o3).drew).heap[W.heap.size+1+1+1]?=some o3/\Bw W ((((W.alloc o0).alloc o1).alloc o2).alloc o3).drew:=by
 refine⟨?_,?_,?_,?_,(((dx.alloc sM _).alloc (by simp<;>omega) _).alloc (by simp<;>omega) _).drew⟩
 .show((((W.alloc o0).alloc o1).alloc o2).alloc o3).heap[_]?=_;rw[aZ _ _ _ (by simp<;>omega),aZ _ _ _ (by simp<;>omega),aZ _ _ _ sM];exact az W o0
 .show((((W.alloc o0).alloc o1).alloc o2).alloc o3).heap[_]?=_;rw[aZ _ _ _ (by simp<;>omega),aZ _ _ _ sM];have:=az (W.alloc o0) o1;simpa using this
 .show((((W.alloc o0).alloc o1).alloc o2).alloc o3).heap[_]?=_;rw[aZ _ _ _ sM];have:=az ((W.alloc o0).alloc o1) o2;simpa using this
 show((((W.alloc o0).alloc o1).alloc o2).alloc o3).heap[_]?=_;have:=az (((W.alloc o0).alloc o1).alloc o2) o3;simpa using this
def Q2(b:BB)(bq aM aC all:aj)(xb sn:Nat)(W:ak)(a:Act)(W':ak):Prop:=
 ∃c0 c1 fb tb:Nat,a=⟨(FS3 b bq aM aC all xb sn fb tb c0 c1),[]⟩/\Chan c0 W'/\Chan c1 W'/\W'.heap[fb]?=some (.cells #[.chan (some c0)] 188 (0,0))/\W'.heap[tb]?=some (.cells #[.chan (some c1)] 189 (0,0))/\c0≠c1/\W.heap.size<=c0/\W.heap.size<=c1/\W.heap.size<=fb/\W.heap.size<=tb/\Bw W W'
theorem pR2:gR2.wp aq (fun e a W'=>e=.normal/\Q2 b bq aM aC all xb sn W a W') ⟨(FS2 b bq aM aC all xb sn),[]⟩ W:=by
 have aox:∀w,(Instr.makeChan 188 (.int .i64 0)).run aq w=.ok (.chan (some w.heap.size)) (w.alloc (.chan 0 #[] false 0 0 false)):=fun w=>by kernel_rfl
 have aow:∀w,(Instr.makeChan 189 (.int .i64 0)).run aq w=.ok (.chan (some w.heap.size)) (w.alloc (.chan 0 #[] false 0 0 false)):=fun w=>by kernel_rfl
 simp only[gR2,gM,rC,ld,sL,sR]
 go_region
 all_goals refine⟨rfl,_,_,_,_,rfl,?_,?_,?_,?_,oM,oM,oM,oM,oM,(Zc W _ _ _ _).2.2.2.2⟩
 all_goals first
  |exact⟨0,false,(Zc W _ _ _ _).1⟩
  |exact⟨0,false,(Zc W _ _ _ _).2.1⟩
  |exact⟨0,false,(Zc W _ _ _ _).2.2.1⟩
  |exact⟨0,false,(Zc W _ _ _ _).2.2.2.1⟩
  |exact(Zc W _ _ _ _).1
  |exact(Zc W _ _ _ _).2.1
  |exact(Zc W _ _ _ _).2.2.1
  |exact(Zc W _ _ _ _).2.2.2.1
theorem pR3:gR3.wp aq (fun e a W'=>e=.normal/\a=⟨(FS4 b bq aM aC all xb sn fb tb c0 c1),[]⟩/\W'=W) ⟨(FS3 b bq aM aC all xb sn fb tb c0 c1),[]⟩ W:=by
 simp only[gR3,gM,rC,ld,sL,sR];go_wp2
theorem pR4:gR4.wp aq (fun e a W'=>e=.normal/\a=⟨(TH b bq aM aC all xb sn fb tb c0 c1),[]⟩/\W'=W) ⟨(FS4 b bq aM aC all xb sn fb tb c0 c1),[]⟩ W:=by
 simp only[gR4,gM,rC,ld,sL,sR];go_wp2
end
end Go.Proofs.YtffladgmkiimjaaGreatDoor
namespace Go.Lag
open Go.Conc
section
variable{P:aN}
def Zv(b:b_)(k:List pW)(cs:List b_):Exit->Act->aH->Prop
 |.normal,a,g=>g=G (b.at a k) cs
 |.exit id,a,g=>∃k',exitTo id k=some k'/\g=G (b.at a k') cs
 |.ret,a,g=>∃todo,g=G { b.at a todo with mode:=.returning } cs
 |_,_,_=>False
def rT:Exit->Bool
 |.normal|.exit _|.ret=>true
 |_=>false
def Wu(Q:Exit->Act->ak->Prop)(k:List pW):Prop:=∀id a w,Q (.exit id) a w->∃k',exitTo id k=some k'
def vI(P:aN)(c:gZ)(Q:Exit->Act->ak->Prop)(a:Act)(W:ak):Prop:=
 ∀(b:b_) (k:List pW) (cs:List b_),b.kind≠.early->Wu Q k->jq P (fun g' W'=>∃e a' I d,Q e a' (dH W' I d)/\Zv b k cs e a' g') (G (b.at a (.code c::k)) cs) W
def eA(P:aN)(aP:Array cO)(Q:Exit->Act->ak->Prop)(l:List Nat)(a:Act)(W:ak):Prop:=
 ∀(b:b_) (k:List pW) (cs:List b_),b.kind≠.early->Wu Q k->jq P (fun g' W'=>∃e a' I d,Q e a' (dH W' I d)/\Zv b k cs e a' g') (G (b.at a (.inRegion aP l::k)) cs) W
variable{Q Q':Exit->Act->ak->Prop}{a:Act}{W:ak}{b:b_}{k:List pW}{cs:List b_}
theorem zC(T:Quiet P){m:List pW}(hb:b.kind≠.early)(hL:Wu Q k)(hQ:∀e a w,Q e a w->rT e=true)
  (h:∀I,∃e a' w',Q e a' w'/\Arrives P (lone (b.at a m) cs (dH W I 0)) b k cs e a' w') :
  jq P (fun g' W'=>∃e a' I d,Q e a' (dH W' I d)/\Zv b k cs e a' g') (G (b.at a m) cs) W:=by
 refine(CB T (Q:=fun fr' W'=>∃e a',Q e a' W'/\Zv b k cs e a' (G fr' cs)) fun I=>?_).mono ?_
 .obtain⟨e,a',w',hq,harr⟩:=h I;have hf:=hQ _ _ _ hq;cases e with
  |normal=>exact⟨_,w',harr,_,a',hq,rfl⟩
  |exit id=>
   obtain⟨k',hk⟩:=hL id _ _ hq;exact⟨_,w',harr k' hk,_,a',hq,k',hk,rfl⟩
  |ret=>
   obtain⟨todo,hs⟩:=harr;exact⟨_,w',hs,_,a',hq,todo,rfl⟩
  |goto l=>cases hf
  |panic c=>cases hf
  |outgrown=>cases hf
 rintro g' W' _ ⟨fr',I,d,rfl,e,a',hq,harr⟩;exact⟨e,a',I,d,hq,harr⟩
theorem kO(T:Quiet P){c:gZ}(hQ:∀e a w,Q e a w->rT e=true)(h:∀I d,c.wp P Q a (dH W I d)):vI P c Q a W:=fun b k cs hb hL=>
 zC T hb hL hQ fun I=>h I 0 b k cs
theorem rI(T:Quiet P){aP:Array cO}{l:List Nat}(hQ:∀e a w,Q e a w->rT e=true)(h:∀I d,wpOps P aP Q l a (dH W I d)):eA P aP Q l a W:=fun b k cs hb hL=>
 zC T hb hL hQ fun I=>wp_ops l a _ (h I 0) b k cs
theorem Xv{c:gZ}{I:Nat->Question->Nat}{d:Nat}(h:vI P c Q a (dH W I d)):vI P c Q a W:=fun b k cs hb hL=>(h b k cs hb hL).ofT
theorem jT(T:Quiet P){R:aH->ak->Prop}{fr fr':b_}(h:∀w,step P (lone fr cs w)=.next (lone fr' cs w))(hk:jq P R (G fr' cs) W):jq P R (G fr cs) W:=
 (yx T (I:=W.tape) (d:=W.drawn) (sB (h _))).bind fun g' W' hs hq=>by
  obtain⟨rfl,I,d,rfl⟩:=hq;exact hk.RR I d
theorem jE(T:Quiet P){x y:gZ}(h:vI P x (Exit.then (fun a w=>vI P y Q a w) Q) a W):vI P (.seq x y) Q a W:=by
 intro b k cs hb hL;refine jT T (fun w=>step_seq) ?_;refine(h b (.code y::k) cs hb fun id a w hq=>hL id a w hq).bind fun g' W' hs hq=>?_;obtain⟨e,a',I,d,hq,harr⟩:=hq;cases e with
 |normal=>
  subst harr;exact(hq b k cs hb hL).ofT
 |exit id=>
  obtain⟨k',hk,rfl⟩:=harr;exact .here ⟨.exit id,a',I,d,hq,k',hk,rfl⟩
 |ret=>
  obtain⟨todo,rfl⟩:=harr;exact .here ⟨.ret,a',I,d,hq,todo,rfl⟩
 |goto l=>exact harr.elim
 |panic c=>exact harr.elim
 |outgrown=>exact harr.elim
theorem QY(T:Quiet P){x y:gZ}(hQ:∀e a w,e≠.normal->Q e a w->rT e=true)(h:∀I d,x.wp P (Exit.then (fun a w=>vI P y Q a w) Q) a (dH W I d)):vI P (.seq x y) Q a W:=
 jE T (kO T (fun e a w hq=>by cases e<;>first|rfl|exact hQ _ _ _ sN hq) h)
theorem mK(T:Quiet P){c:bI}{x y:gZ}{t:Bool}(hc:a.eval c=.bool t)(h:vI P (if t then x else y) Q a W):vI P (.cond c x y) Q a W:=fun b k cs hb hL=>
 jT T (fun w=>step_cond hc) (h b k cs hb hL)
theorem uh(T:Quiet P){id:Nat}{aP:Array cO}(h:eA P aP Q (aS aP.size) a W):vI P (.region id aP false) Q a W:=fun b k cs hb hL=>
 jT T (fun w=>step_region) (h b k cs hb hL)
theorem Uq{aP:Array cO}{i:Nat}{rest:List Nat}{o:cO}(ho:aP[i]?=some o){w:ak}(hw:cU o (yielded aP a.tmps)=true){next:Act->ak->Prop}
  (h:o.wp P a w next fun _ _ _=>False):∃a' w',next a' w'/\Steps P (lone (b.at a (.inRegion aP (i::rest)::k)) cs w) (lone (b.at a' (.inRegion aP rest::k)) cs w'):=by
 simp only[Oper.wp,Oper.upon] at h;have hg:=stepG_op (P:=P) (b:=b) (k:=k) (cs:=cs) (w:=w) (rest:=rest) ho hw
 have qg:∀v,(b.at a (.inRegion aP (i::rest)::k)).finish v=b.at (a.put o.dst v) (.inRegion aP rest::k):=by
  intro v;rw[Frame.finish_at,ho];rfl
 split at h
 .rename_i v w' hr;refine⟨_,_,h,.one (step_lone_go ?_)⟩;rw[hg,<-qg];simp[eC,hr]
 .rename_i w' hr;refine⟨_,_,h,.one (step_lone_go ?_)⟩;rw[hg,<-qg];simp[eC,hr]
 .rename_i d w' hr;refine⟨_,_,h,.one (step_lone_go ?_)⟩
  have:({ b.at a (.inRegion aP (i::rest)::k) with defers:=d::a.defers }:b_).finish aw =
    b.at ({ a with defers:=d::a.defers }.put o.dst aw) (.inRegion aP rest::k):=by
   have:=Frame.finish_at b { a with defers:=d::a.defers } aP i rest k aw;rw[ho] at this;exact this
  rw[hg];simp only[eC,Sem.runT_eq,hr,GStep.bare_after];exact congrArg (fun fr=>GStep.go { frame:=fr,callers:=cs,status:=.running,dying:=none } w') this
 .rename_i f args w' hr;obtain⟨e,w'',fr,hR,OP,_,abn⟩:=h (b.at a (.inRegion aP (i::rest)::k)::cs)
  have uy:step P (lone (b.at a (.inRegion aP (i::rest)::k)) cs w)=.next (lone (eG P f args .normal) (b.at a (.inRegion aP (i::rest)::k)::cs) w'):=
   step_lone_go (by rw[hg];simp[eC,hr,Frame.at])
  cases e with
  |returned v=>
   refine⟨_,_,hR,.head uy (OP.trans (.one ?_))⟩;rw[<-qg];exact step_leave_returned abn
  |panicked chain=>exact hR.elim
  |outgrown=>obtain⟨_,_,h0⟩:=hR;exact h0.elim
 .rename_i row args w' hr;obtain⟨v,w'',hR,OP⟩:=h (b.at a (.inRegion aP (i::rest)::k)) cs
  have uy:step P (lone (b.at a (.inRegion aP (i::rest)::k)) cs w)=.next (lone (Frame.ofRow P row args .normal) (b.at a (.inRegion aP (i::rest)::k)::cs) w'):=
   step_lone_go (by rw[hg];simp[eC,hr,Frame.at])
  refine⟨_,_,hR,.head uy ?_⟩;rw[<-qg];exact OP
 .exact h.elim
 exact h.elim
theorem gF(T:Quiet P){aP:Array cO}{i:Nat}{rest:List Nat}{o:cO}(ho:aP[i]?=some o)(hw:cU o (yielded aP a.tmps)=true)
  (h:∀I d,o.wp P a (dH W I d) (fun a' w'=>eA P aP Q rest a' w') fun _ _ _=>False):eA P aP Q (i::rest) a W:=by
 intro b k cs hb hL;refine(CB T (Q:=fun fr' W'=>∃a',fr'=b.at a' (.inRegion aP rest::k)/\eA P aP Q rest a' W') fun I=>?_).bind ?_
 .obtain⟨a',w',hn,hs⟩:=Uq (b:=b) (k:=k) (cs:=cs) (rest:=rest) ho hw (h I 0);exact⟨_,w',hs,a',rfl,hn⟩
 rintro g' W' _ ⟨fr',I,d,rfl,a',rfl,hn⟩;exact(hn b k cs hb hL).ofT
theorem KZ(T:Quiet P){aP:Array cO}{i:Nat}{rest:List Nat}{o:cO}(ho:aP[i]?=some o)(hw:cU o (yielded aP a.tmps)=false)(h:eA P aP Q rest (a.put o.dst aw) W):eA P aP Q (i::rest) a W:=by
 intro b k cs hb hL;refine jT T (fun w=>step_op_skip (by simp[ho,hw])) ?_;have e:(aP[i]?).bind (·.dst)=o.dst:=by rw[ho];rfl
 rw[e];exact h b k cs hb hL
theorem rJ(T:Quiet P){aP:Array cO}{i:Nat}{rest:List Nat}{o:cO}(ho:aP[i]?=some o)(hw:cU o (yielded aP a.tmps)=true){f:d_}{args:Array aj}(he:∀w,(bY a.eval o).run P w=.ok (.enter f args) w)
  {R:aj->ak->Prop} (hc:j5 P f args W R) (h:∀v W',W.heap.size<=W'.heap.size->R v W'->eA P aP Q rest (a.put o.dst v) W'):eA P aP Q (i::rest) a W:=by
 intro b k cs hb hL
 have uy:∀w,step P (lone (b.at a (.inRegion aP (i::rest)::k)) cs w)=.next (lone (eG P f args .normal) (b.at a (.inRegion aP (i::rest)::k)::cs) w):=fun w=>by
  have hg:=stepG_op (P:=P) (b:=b) (k:=k) (cs:=cs) (w:=w) (rest:=rest) ho hw;exact step_lone_go (by rw[hg];simp[eC,he w,Frame.at])
 refine(yx T (I:=W.tape) (d:=W.drawn) (sB (uy _))).bind fun g' W' hs hq=>?_;obtain⟨rfl,I,d,rfl⟩:=hq;refine jq.RR ?_ I d;refine(hc (b.at a (.inRegion aP (i::rest)::k)::cs)).bind fun g2 W2 hs2 Xf=>?_;obtain⟨fr,v,τ2,d2,rfl,hv,hfn,hl⟩:=Xf;refine(Jv T hl).bind fun g3 W3 hs3 hq3=>?_;obtain⟨rfl,τ3,d3,rfl⟩:=hq3
 have qg:(b.at a (.inRegion aP (i::rest)::k)).finish v=b.at (a.put o.dst v) (.inRegion aP rest::k):=by
  rw[Frame.finish_at,ho];rfl
 rw[qg];exact jq.RR (h v W2 hs2 hv b k cs hb hL) τ3 d3
def Ir(P:aN)(fn:Func)(R:aj->ak->Prop):Exit->Act->ak->Prop
 |.normal,a,w|.ret,a,w=>a.defers=[]/\∃v,(results fn a.tmps).run P w=.ok v w/\R v w
 |_,_,_=>False
theorem aW{fn:Func}{R:aj->ak->Prop}:∀e a w,Ir P fn R e a w->rT e=true:=fun e a w h=>by cases e<;>first|rfl|exact h.elim
theorem yB{fn:Func}{R:aj->ak->Prop}{c:gZ}{w:ak}(h:c.wp P (bodyPost P fn fun e w'=>∃v,e=.returned v/\R v w') a w):c.wp P (Ir P fn R) a w:=by
 refine vB h fun e a w hq=>?_;cases e with
 |normal=>obtain⟨h1,v,h2,v',h3,h4⟩:=hq;cases h3;exact⟨h1,v,h2,h4⟩
 |ret=>obtain⟨h1,v,h2,v',h3,h4⟩:=hq;cases h3;exact⟨h1,v,h2,h4⟩
 |panic chain=>obtain⟨_,v,h3,_⟩:=hq;cases h3
 |exit id=>exact hq.elim
 |goto l=>exact hq.elim
 |outgrown=>obtain⟨v,h3,_⟩:=hq;cases h3
theorem lr(T:Quiet P){f:d_}{fn:Func}{c:gZ}{args:Array aj}{R:aj->ak->Prop}(hf:P.funcs[f]?=some fn)(hb:fn.body=some c)(hR:∀v W' I d,R v (dH W' I d)->R v W')
  (h:vI P c (Ir P fn R) { tmps:=args++bF (fn.ntmps-args.size) aw,defers:=[] } W):j5 P f args W R:=by
 intro cs;let b:Frame:={ (default:b_) with fn:=f,kind:=.normal }
 have uy:eG P f args .normal=b.at { tmps:=args++bF (fn.ntmps-args.size) aw,defers:=[] } [.code c]:=by
  simp[eG,Frame.at,hf,hb,b]
 rw[uy];refine(h b [] cs (by simp[b]) fun id a w hq=>hq.elim).bind fun g' W' hs hq=>?_;obtain⟨e,a',I,d,hq,harr⟩:=hq;cases e with
 |normal=>
  subst harr;obtain⟨hd,v,hr,hv⟩:=hq;refine jT T (fun w=>step_end) (.here ⟨_,v,I,d,rfl,hR _ _ _ _ hv,rfl,rfl,hd,rfl,fn,hf,hr⟩)
 |ret=>
  obtain⟨todo,rfl⟩:=harr;obtain⟨hd,v,hr,hv⟩:=hq;exact .here ⟨_,v,I,d,rfl,hR _ _ _ _ hv,rfl,rfl,hd,rfl,fn,hf,hr⟩
 |exit id=>exact harr.elim fun _ h=>hq.elim
 |goto l=>exact harr.elim
 |panic c=>exact harr.elim
 |outgrown=>exact harr.elim
end
structure Old(W W':ak):Prop where
 os:W'.os=W.os
 output:W'.output=W.output
 size:W.heap.size<=W'.heap.size
 block:∀k,k<W.heap.size->W'.heap[k]?=W.heap[k]?
def Old.refl(W:ak):Old W W:=⟨rfl,rfl,aO _,fun _ _=>rfl⟩
def Old.trans{a b c:ak}(h:Old a b)(k:Old b c):Old a c:=⟨k.os.trans h.os,k.output.trans h.output,aF h.size k.size,fun i hi=>(k.block i (bw hi h.size)).trans (h.block i hi)⟩
def Old.of_below{W W':ak}(h:RowKit.Below W.heap.size W W'):Old W W':=⟨h.os,h.output,h.size,h.block⟩
def Old.RR{W W':ak}(h:Old W W')(I:Nat->Question->Nat)(d:Nat)(I':Nat->Question->Nat)(d':Nat):Old (dH W I d) (dH W' I' d'):=⟨h.os,h.output,h.size,h.block⟩
def Old.cell{W W':ak}(h:Old W W'){a:Addr}(ha:a.block<W.heap.size):W'.cell? a=W.cell? a:=iu (h.block _ ha)
def zr[vh]{W w:ak}(V:jB W w){k:Nat}{o:Obj}(h:W.heap[k]?=some o)(ho:gb o=true):w.heap[k]?=some o:=by
 rcases V.at_ k with e|⟨e,_⟩
 .rw[<-e];exact h
 rw[e] at h;cases h;cases ho
def UR[K:vh]{W w w':ak}(V:jB W w)(hok:dI W)(os:w'.os=w.os)(out:w'.output=w.output)(sz:w.heap.size<=w'.heap.size)(n:Nat)(hκ:∀b o,b<W.heap.size->w'.heap[b]?=some o->gb o=false->w.heap[b]?=some o)(hk:∀k,k<n->w'.heap[k]?=w.heap[k]?) :
  ∃W',jB W' w'/\dI W'/\W'.os=W.os/\W'.output=W.output/\W.heap.size<=W'.heap.size/\(∀k,k<n->k<W.heap.size->W'.heap[k]?=W.heap[k]?)/\∀(b:Nat) (o:Obj),w'.heap[b]?=some o->gb o=true->W'.heap[b]?=some o:=by
 obtain⟨W',hV,sF,_,_,mr⟩:=C7 w' fun b x h=>⟨by have:=V.old b x h;have:=V.size;omega,fun o h1 h2=>by
  have h3:=V.old b x h;replace h1:=hκ b o h3 h1 h2
  have h4:W.heap[b]?=some (.coro none):=by
   rcases V.at_ b with e|⟨e,_⟩
   .rw[h1] at e;rcases hok b o e with h5|h5
    .rw[h5] at h2;cases h2
    rw[e,h5]
   exact e
  have h5:=V.kept b x h h4
  rw[h1] at h5;exact bp h5⟩
 refine⟨W',hV,sF,hV.os.trans (os.trans V.os.symm),hV.out.trans (out.trans V.out.symm),by rw[hV.size,V.size];exact sz,fun k qT hk2=>?_,mr⟩;have s5:=hk k qT;obtain⟨o,ho⟩:∃o,W.heap[k]?=some o:=⟨_,aQ hk2⟩
 rw[ho];rcases hok k o ho with h1|rfl
 .exact mr k o (by rw[s5];exact zr V ho h1) h1
 
 rcases V.at_ k with e|⟨_,x,hx,lK⟩
 .have hw':w'.heap[k]?=some (.coro none):=by rw[s5,<-e];exact ho
  rcases hV.at_ k with e2|⟨e2,_⟩
  .rw[e2];exact hw'
  exact e2
 have hw':w'.heap[k]?=some x:=by rw[s5];exact hx
 rcases hV.at_ k with e2|⟨e2,_⟩
 .rw[hw'] at e2;rcases sF k x e2 with h|h
  .rw[h] at lK;cases lK
  rw[e2,h]
 exact e2
section
variable{P:aN}{b:b_}{k:List pW}{cs:List b_}{W:ak}{R:aH->ak->Prop}
theorem oU(T:Quiet P){c:gZ}{a:Act}(hb:b.kind≠.early){Q:Act->ak->Prop}(h:∀I d,c.wp P (fun e a W'=>e=.normal/\Q a W') a (dH W I d))
  (hk:∀a' W' I d,Q a' (dH W' I d)->jq P R (G (b.at a' k) cs) W'):jq P R (G (b.at a (.code c::k)) cs) W:=by
 refine(zC T (m:=.code c::k) (Q:=fun e a W'=>e=.normal/\Q a W') hb (fun id a w hq=>by cases hq.1) (fun e a w hq=>by rw[hq.1];rfl) fun I=>h I 0 b k cs).bind fun g' W' hs hq=>?_;obtain⟨e,a',I,d,⟨rfl,hq⟩,harr⟩:=hq;subst harr;exact hk a' W' I d hq
end
open Go Go.RowKit Go.ChangeShapes
section
variable{H:Type}{enc:a7 × aj->H}
theorem Mf{a:Assume}{C:Checked}{os:Os}{f:d_}{fn:Func}{s:ChangeSpec}{conds:List PathCond}{apart fresh handsOn again:Bool}{X:ak->Array aj->Prop}
  (hX:∀(w w':ak) (args:Array aj),w.heap=w'.heap->X w args->X w' args)
  (own:ownKnob C.prog.godebug=none) (started:os.Started) (hfn:C.prog.funcs[f]?=some fn)
  (witness:∃(w:ak) (tape:Tape) (i:Input),w.os=os/\(w.forCall tape i).Shaped C.prog/\i.vars=[]/\Input.okWide C.prog (w.forCall tape i) .any w.heap.size f i/\
   ((s.pre enc C.prog fn conds apart (w.forCall tape i).memory i.args/\X (w.forCall tape i).memory i.args)/\sizedMet enc C.prog fn (OpenSpec.ofChange s) apart (w.forCall tape i).memory i.args)/\a.holds C.prog (lone (eG C.prog f i.args .normal) [] (w.forCall tape i)))
  (runs:∀(W:ak) (base:Nat) (args:Array aj) (ds gs:List (DataW H)) (before:List MemPlace),
   (∀(j:Nat) t v,fn.params[j]?=some t->args[j]?=some v->Value.okWide C.prog W .any base t v)->
   DataW.Whole enc C.prog fn.params.toList s.vars apart W args.toList ds gs before->X W args->
   ∃M last o w' t',runNT C.prog (M+1) (solo (G (eG C.prog f args .normal) []) W) #[]=(.ended o w',t')/\runN C.prog M (solo (G (eG C.prog f args .normal) []) W)=.next last/\
    step C.prog last=.ended o w'/\Conc.Good C.prog (fun v W'=>s.post enc C.prog fn apart fresh handsOn again W args v W') last o w' t') :
  ReturnsInLeavingWide a C os f .any (fun w args=>(s.pre enc C.prog fn conds apart w args/\X w args)/\sizedMet enc C.prog fn (OpenSpec.ofChange s) apart w args) (s.post enc C.prog fn apart fresh handsOn again):=by
 refine returnsInLeavingWide_of_good own started witness ?_;intro w tape i _ _ _ hok hpre ai4;obtain⟨_,_,_,fn',ajc,_,_,_,_,hval⟩:=hok;have e:fn'=fn:=bp (ajc.symm.trans hfn);subst e;obtain⟨⟨⟨ds,gs,before,hw,hc⟩,hx⟩,hz⟩:=hpre;have hw':=DataW.Whole.of_heap (w':=w.forCall tape i) (by rfl) hw;obtain⟨M,last,o,w',t',h1,h2,h3,h4⟩:=runs (w.forCall tape i) w.heap.size i.args ds gs before hval hw' (hX _ _ _ (by rfl) hx);exact⟨M,last,o,w',t',h1,h2,h3,h4.mono fun v hp=>ChangeSpec.post_blind hp⟩
theorem xP{P:aN}(hl:laidOutB P=true){W W':ak}(hb:Bw W W'):∀ {ts:List a7} {vs:List aj} {ds:List (DataW H)} {p:List MemPlace},(∀t∈ts,P.readableRec t=true/\t<P.types.size)->(∀x∈p,x.block<W.heap.size)->
  DataW.TrodAll enc P W 0 (fun _=>true) true ts vs ds p->DataW.TrodAll enc P W' 0 (fun b=>decide (b<W.heap.size)) true ts vs ds p
 |[],[],[],p,_,_,h=>h
 |t::ts,v::vs,d::ds,ps,ht,hp,h=>by
  obtain⟨p,q,h1,h2,rfl⟩:=h;exact⟨p,q,Below.trod hl (ht t sM).1 (ht t sM).2 h1 hb fun x hx=>hp x (by simp[hx]),xP hl hb (fun t h=>ht t (by simp[h])) (fun x hx=>hp x (by simp[hx])) h2,rfl⟩
 |[],[],_::_,_,_,_,h=>h.elim
 |[],_::_,_,_,_,_,h=>h.elim
 |_::_,[],_,_,_,_,h=>h.elim
 |_::_,_::_,[],_,_,_,h=>h.elim
theorem Uc{P:aN}{fn:Func}{s:ChangeSpec}{apart:Bool}{W w':ak}{args:Array aj}{ds gs:List (DataW H)}{before:List MemPlace}{tb:a7}(hl:laidOutB P=true)(ZI:s.vars=[])(Yu:∀t∈fn.params.toList,P.readableRec t=true/\t<P.types.size)
  (hres:fn.resultTypes = #[tb]) (afv:P.underlying tb=some .bool) (hW:DataW.Whole enc P fn.params.toList s.vars apart W args.toList ds gs before) (hfn:∀ds':List (DataW H),ds'.length=fn.params.size->s.fn H ds'={ results:=[.lit (.bool true)],args:=ds' })
  (hlen:ds.length=fn.params.size) (hb:Bw W { w' with tape:=W.tape }):s.post enc P fn apart true false false W args (.bool true) w':=by
 refine ChangeSpec.post_alike (W'':={ w' with tape:=W.tape }) ?_ ⟨rfl,rfl,rfl⟩;have hW':=hW;obtain⟨p,q,hA,hV,rfl,_,_⟩:=hW
 have qU:gs=[]/\q=[]:=by
  rw[ZI] at hV;cases gs with
  |nil=>exact⟨rfl,hV⟩
  |cons=>exact hV.elim
 obtain⟨rfl,rfl⟩:=qU;have hlt:∀x∈p,x.block<W.heap.size:=fun x hx=>hW'.lt x (by simp[hx]);refine⟨ds,[],p++[],[],p,[],hW',?_,?_,?_,hb.frame _,fun h=>by cases h⟩
 .rw[List.append_nil,hfn ds hlen,hres];exact trodAll_mk1 (shut_bool afv _)
 .rw[List.append_nil,hfn ds hlen];exact xP hl hb Yu hlt hA
 rw[List.append_nil,hfn ds hlen,ZI];rfl
end
def Ev{P:aN}(T:Quiet P){f:d_}{args:Array aj}{v0:aj}(hi:P.inits.idxOf? f=none)(W:ak)
  (h:∀Wk:ak,Wk.heap.size=W.heap.size->(∀(b:Nat) (o:Obj),W.heap[b]?=some o->gb o=true->Wk.heap[b]?=some o)->j5 P f args Wk fun v W'=>v=v0/\Old Wk W') :
  ∃M last o w' t',runNT P (M+1) (solo (G (eG P f args .normal) []) W) #[]=(.ended o w',t')/\runN P M (solo (G (eG P f args .normal) []) W)=.next last/\
   step P last=.ended o w'/\Conc.Good P (fun v w'=>v=v0/\Bw W { w' with tape:=W.tape }) last o w' t':=by
 letI K:vh:=⟨fun b=>W.heap[b]?⟩
 obtain⟨Wk,V,hok,-,-,hk⟩:=C7 W fun b x hx=>⟨(ah.1 hx).1,fun o ho _=>bp (ho.symm.trans hx)⟩
 obtain⟨M,last,o,w',t',h1,h2,h3,h4⟩:=FD T hi (h Wk V.size hk) hok V;refine⟨M,last,o,w',t',h1,h2,h3,h4.mono ?_⟩;rintro v ⟨W',⟨rfl,hold⟩,V',-,hs⟩;refine⟨rfl,V'.os.symm.trans (hold.os.trans V.os),rfl,V'.out.symm.trans (hold.output.trans V.out),?_,fun b hb=>?_⟩
 .show W.heap.size<=w'.heap.size;rw[<-V'.size,<-V.size];exact hold.size
 show w'.heap[b]?=W.heap[b]?;obtain⟨o,ho⟩:∃o,W.heap[b]?=some o:=⟨_,aQ hb⟩
 have qf:=hold.block b (by rw[V.size];exact hb);have ZY:W'.heap[b]?=some (.coro none)->w'.heap[b]?=W.heap[b]?:=fun e=>(V'.kept b o ho e).trans ho.symm;rcases V.at_ b with e|⟨e,-⟩
 .rcases V'.at_ b with e'|⟨e',-⟩
  .rw[<-e',qf,e]
  exact ZY e'
 exact ZY (qf.trans e)
end Go.Lag
namespace Go.Proofs.YtffladgmkiimjaaGreatDoor
open Go Go.RowKit Go.Lag Go.ChangeShapes
def Tryz.own:ownKnob Tryz.prog.godebug=none:=kQ
def Tryz.laidOut:laidOutB aq=true:=kQ
def VT(os:Os)(args:Array aj):laidMetH aq Mh ((World.doorLaid aq 400 os).forCall (fun _ _=>0) ⟨#[],args,[]⟩).memory:=
 laidMetH_of_parts3 (fuel:=8) (laidMet_of_run' 8 kQ kQ) kQ kQ
open Go.Conc
def JZ{W:ak}{base:Nat}{t:a7}{k:IntKind}{v:aj}(ht:Tryz.prog.underlying t=some (.int k))(h:Value.okWide aq W .any base t v):∃x,v=.int k x/\k.has x:=by
 unfold Value.okWide at h;rw[ht] at h;exact UT ht h
def oy{W Wk:ak}(hk:∀(b:Nat) (o:Obj),W.heap[b]?=some o->gb o=true->Wk.heap[b]?=some o){a:Addr}{v:aj}(h:W.cell? a=some v):Wk.cell? a=some v:=by
 unfold dP at h ⊢;cases e:W.heap[a.block]? with
 |none=>rw[e] at h;simp at h
 |some o=>
  rw[e] at h;cases o<;>simp only[] at h<;>first|(rw[hk _ _ e rfl];exact h)|(cases h)
def Laid.kill{W Wk:ak}(h:Laid W)(hs:Wk.heap.size=W.heap.size)(hk:∀(b:Nat) (o:Obj),W.heap[b]?=some o->gb o=true->Wk.heap[b]?=some o):Laid Wk:=
 ⟨oy hk h.c0,oy hk h.c1,oy hk h.c2,oy hk h.c3,oy hk h.c4,by rw[hs];exact h.lt⟩
def Reads.kill{W Wk:ak}{v:aj}{n:Nat}{xs:List aj}(h:Reads W v n xs)(hs:Wk.heap.size=W.heap.size)(hk:∀(b:Nat) (o:Obj),W.heap[b]?=some o->gb o=true->Wk.heap[b]?=some o):Reads Wk v n xs:=by
 rcases h with h|⟨g,off,cap,h1,h2,h3,h4⟩
 .exact .inl h
 exact .inr ⟨g,off,cap,h1,h2,by rw[hs];exact h3,fun j u hj=>oy hk (h4 j u hj)⟩
def akk:Tryz.prog.cellsOf 81=3:=kQ
def co3:Tryz.prog.cellsOf 3=1:=kQ
def V6{W:ak}{base:Nat}{a:Addr}{cs:List aj}(h:W.cells? base a 1=some cs):∃x,cs=[x]/\W.cell? (a.add 0)=some x:=by
 unfold World.cells? at h;split at h
 .simp only[show aS 1=[0] from rfl,List.mapM_cons,List.mapM_nil] at h;cases h0:W.cell? (a.add 0)<;>rw[h0] at h<;>simp at h;exact⟨_,h.symm,rfl⟩
 cases h
section
variable{H:Type}{enc:a7 × aj->H}{W:ak}{hd:Bool}
theorem OA{fuel:Nat}{g off n c:Nat}{x:DataW H × List MemPlace}(vF:n<=c)(h:DataW.trod enc aq W 0 (fun _=>true) hd fuel 26 [.slice (some ⟨g,off,none⟩) n c]=some x) :
  ∀i,i<n->∃mk:Mk,∀j u,mk.cells[j]?=some u->W.cell? ⟨g,off+i*3+j,none⟩=some u:=by
 intro i hi;rcases Go.Deep.open_slice Tryz.underlying26 h with⟨h0,-⟩|⟨a,len,cap,mm,nn,D,Pl,h0,-,-,-,hm,-,hel⟩
 .cases h0
 .cases h0;obtain⟨cs',hc,ht⟩:=hel i (by rw[hm];simp;omega);rw[akk] at hc;obtain⟨x,y,z,rfl,e0,e1,e2⟩:=V5 hc;rw[py,py] at e0 e1 e2;obtain⟨y0,y1,n1,-,-,t0,t1⟩:=trod_struct2 Tryz.underlying81 ht;have c23:Tryz.prog.cellsOf 23=2:=kQ;simp only[co3,c23] at t0 t1;obtain⟨z0,z1,n2,-,-,u0,u1⟩:=trod_struct2 Tryz.underlying23 t1;simp only[co3] at u0 u1;obtain⟨m,hs,-⟩:=DataW.trod_int ep t0;obtain⟨lo,hlo,-⟩:=DataW.trod_int ep u0;obtain⟨hi',hhi,-⟩:=DataW.trod_int ep u1;simp at hs hlo hhi;subst hs;subst hlo;subst hhi;refine⟨⟨m,lo,hi'⟩,fun j u hj=>?_⟩
  match j,hj with
  |0,hj=>cases hj;exact e0
  |1,hj=>cases hj;exact e1
  |2,hj=>cases hj;exact e2
  |j+3,hj=>simp[Mk.cells] at hj
theorem Rl{fuel:Nat}{g off n c:Nat}{x:DataW H × List MemPlace}(vF:n<=c)(h:DataW.trod enc aq W 0 (fun _=>true) hd fuel 25 [.slice (some ⟨g,off,none⟩) n c]=some x) :
  ∀i,i<n->∃k:Int,W.cell? ⟨g,off+i,none⟩=some (.int .i64 k):=by
 intro i hi;rcases Go.Deep.open_slice Tryz.underlying25 h with⟨h0,-⟩|⟨a,len,cap,mm,nn,D,Pl,h0,-,-,-,hm,-,hel⟩
 .cases h0
 cases h0;obtain⟨cs',hc,ht⟩:=hel i (by rw[hm];simp;omega);rw[co3] at hc;obtain⟨x,rfl,e0⟩:=V6 hc;rw[py,py] at e0;obtain⟨k,hk,-⟩:=DataW.trod_int ep ht;simp at hk;subst hk;exact⟨k,by simpa using e0⟩
end
def LL{W:ak}{g off n c:Nat}(vF:n<=c)(hg:g<W.heap.size)(hn:n<=20)(h:∀i,i<n->∃mk:Mk,∀j u,mk.cells[j]?=some u->W.cell? ⟨g,off+i*3+j,none⟩=some u) :
  ∃ms:List Mk,ms.length=n/\Reads W (.slice (some ⟨g,off,none⟩) n c) n (dV ms):=by
 obtain⟨f,hf⟩:∃f:Nat->Mk,∀i,i<n->∀j u,(f i).cells[j]?=some u->W.cell? ⟨g,off+i*3+j,none⟩=some u:=
  ⟨fun i=>if hi:i<n then(h i hi).choose else⟨0,0,0⟩,fun i hi=>by simp only[dif_pos hi];exact(h i hi).choose_spec⟩
 refine⟨(aS n).map f,sM,.inr ⟨g,off,c,rfl,⟨oM,vF⟩,hg,fun j u hj=>?_⟩⟩;have NI:j<(dV ((aS n).map f)).length:=(pG.1 hj).1;rw[qo] at NI;simp at NI;have hk:j / 3<n:=oM;have e:j=3*(j / 3)+j % 3:=oM;rw[e,nu _ _ _ (by simpa using hk) oM] at hj;simp only[List.getElem_map,List.getElem_range] at hj;rw[show off+j=off+(j / 3)*3+j % 3 by omega];exact hf (j / 3) hk _ _ hj
def Od{W:ak}{g off n c:Nat}(vF:n<=c)(hg:g<W.heap.size)(hn:n<=20)(h:∀i,i<n->∃k:Int,W.cell? ⟨g,off+i,none⟩=some (.int .i64 k)) :
  ∃ss:List Int,ss.length=n/\Reads W (.slice (some ⟨g,off,none⟩) n c) n (ss.map (aD .i64)):=by
 obtain⟨f,hf⟩:∃f:Nat->Int,∀i,i<n->W.cell? ⟨g,off+i,none⟩=some (.int .i64 (f i)):=
  ⟨fun i=>if hi:i<n then(h i hi).choose else 0,fun i hi=>by simp only[dif_pos hi];exact(h i hi).choose_spec⟩
 refine⟨(aS n).map f,sM,.inr ⟨g,off,c,rfl,⟨oM,vF⟩,hg,fun j u hj=>?_⟩⟩;have NI:j<(((aS n).map f).map (aD .i64)).length:=(pG.1 hj).1;simp at NI;simp[NI] at hj;subst hj;exact hf j NI
def UK{H:Type}{enc:a7 × aj->H}{W:ak}{b:BB}{m s k:aj}{d:DataW H}{p:List MemPlace}(h:DataW.Trod enc aq W 0 (fun _=>true) true 28 (.agg (b.cells m s k)) d p)(hm:SliceAt W m)(hs:SliceAt W s)(hk:SliceAt W k) :
  ∃(p1 p2 p3:Option Addr) (n1 c1 n2 c2 n3 c3:Nat),m=.slice p1 n1 c1/\s=.slice p2 n2 c2/\k=.slice p3 n3 c3/\
   ((20<n1\/20<n2\/20<n3)\/∃(ml:List Mn) (ss:List Int) (ms:List Mk),ml.length=n1/\ss.length=n2/\ms.length=n3/\Reads W m n1 (fQ ml)/\Reads W s n2 (ss.map (aD .i64))/\Reads W k n3 (dV ms)):=by
 obtain⟨fuel,ht⟩:=h;obtain⟨⟨f1,y1,t1⟩,⟨f2,y2,t2⟩,⟨f3,y3,t3⟩⟩:=Px ht
 have A:∃p1 n1 c1,m=.slice p1 n1 c1/\(20<n1\/∃ml:List Mn,ml.length=n1/\Reads W m n1 (fQ ml)):=by
  rcases hm with rfl|⟨g,off,n,c,rfl,vF,hg⟩
  .exact⟨_,_,_,rfl,.inr ⟨[],rfl,.inl ⟨rfl,rfl,rfl⟩⟩⟩
  by_cases hb:20<n
  .exact⟨_,_,_,rfl,.inl hb⟩
  exact⟨_,_,_,rfl,.inr (RA vF hg oM (UD vF t1))⟩
 have B:∃p1 n1 c1,s=.slice p1 n1 c1/\(20<n1\/∃ss:List Int,ss.length=n1/\Reads W s n1 (ss.map (aD .i64))):=by
  rcases hs with rfl|⟨g,off,n,c,rfl,vF,hg⟩
  .exact⟨_,_,_,rfl,.inr ⟨[],rfl,.inl ⟨rfl,rfl,rfl⟩⟩⟩
  by_cases hb:20<n
  .exact⟨_,_,_,rfl,.inl hb⟩
  exact⟨_,_,_,rfl,.inr (Od vF hg oM (Rl vF t2))⟩
 have C:∃p1 n1 c1,k=.slice p1 n1 c1/\(20<n1\/∃ms:List Mk,ms.length=n1/\Reads W k n1 (dV ms)):=by
  rcases hk with rfl|⟨g,off,n,c,rfl,vF,hg⟩
  .exact⟨_,_,_,rfl,.inr ⟨[],rfl,.inl ⟨rfl,rfl,rfl⟩⟩⟩
  by_cases hb:20<n
  .exact⟨_,_,_,rfl,.inl hb⟩
  exact⟨_,_,_,rfl,.inr (LL vF hg oM (OA vF t3))⟩
 obtain⟨p1,n1,c1,e1,A⟩:=A;obtain⟨p2,n2,c2,e2,B⟩:=B;obtain⟨p3,n3,c3,e3,C⟩:=C;refine⟨p1,p2,p3,n1,c1,n2,c2,n3,c3,e1,e2,e3,?_⟩;rcases A with A|⟨ml,a1,a2⟩
 .exact .inl (.inl A)
 rcases B with B|⟨ss,b1,b2⟩
 .exact .inl (.inr (.inl B))
 rcases C with C|⟨ms,k1,k2⟩
 .exact .inl (.inr (.inr C))
 exact .inr ⟨ml,ss,ms,a1,b1,k1,a2,b2,k2⟩
def akm:Tryz.prog.cellsOf 40=1:=kQ
section
variable{H:Type}{enc:a7 × aj->H}{W:ak}{hd:Bool}
theorem Oq{fuel:Nat}{g off n c:Nat}{x:DataW H × List MemPlace}(vF:n<=c)(h:DataW.trod enc aq W 0 (fun _=>true) hd fuel 39 [.slice (some ⟨g,off,none⟩) n c]=some x) :
  ∀i,i<n->∃k:Nat,k<65536/\W.cell? ⟨g,off+i,none⟩=some (.int .u16 (k:Int)):=by
 intro i hi;rcases Go.Deep.open_slice Tryz.underlying39 h with⟨h0,-⟩|⟨a,len,cap,mm,nn,D,Pl,h0,-,-,-,hm,-,hel⟩
 .cases h0
 cases h0;obtain⟨cs',hc,ht⟩:=hel i (by rw[hm];simp;omega);rw[akm] at hc;obtain⟨x,rfl,e0⟩:=V6 hc;rw[py,py] at e0;obtain⟨k,hk,-,hw⟩:=DataW.trod_int Tryz.underlying40 ht;simp at hk;subst hk;simp[Lit.wf,IntKind.min,IntKind.max,IntKind.signed,IntKind.bits] at hw;refine⟨k.toNat,oM,?_⟩;rw[Int.toNat_of_nonneg hw.1];simpa using e0
theorem Ug{v:aj}{d:DataW H}{p:List MemPlace}(h:DataW.Trod enc aq W 0 (fun _=>true) true 39 v d p)(hs:SliceAt W v):∃(q:Option Addr) (n c:Nat) (pk:Nat->Nat),v=.slice q n c/\sg W q n c pk:=by
 obtain⟨fuel,ht⟩:=h;rcases hs with rfl|⟨g,off,n,c,rfl,vF,hg⟩
 .exact⟨none,0,0,fun _=>0,rfl,fun _=>by decide,fun _ _=>rfl,fun k hk=>by omega⟩
 have hr:=Oq vF ht;refine⟨_,n,c,fun i=>if hi:i<n then(hr i hi).choose else 0,rfl,fun k=>?_,fun k hk=>?_,fun k hk=>⟨g,off,rfl,hg,?_⟩⟩
 .by_cases hk:k<n
  .simp only[dif_pos hk];exact(hr k hk).choose_spec.1
  simp[dif_neg hk]
 .simp[dif_neg (show ¬k<n by omega)]
 simp only[dif_pos hk];exact(hr k hk).choose_spec.2
end
noncomputable def QD:Code:=.seq Hd (.seq (.block 2 (.loop NP)) xD)
def Kl(tmps:Array aj)(v:aj)(h2:tmps[2]?=some v)(w:ak)(h:tmps.size=71):(results ld tmps).run aq w=.ok v w:=by
 have e2:=bD h2;rw[ve tmps h];simp only[aS,cA,cV,fg,e2];simp[results,ld,go_sem]
def ah0{tmps:Array aj}{v:aj}{W:ak}(hs:tmps.size=71)(h9:tmps[9]?=some v):xD.wp aq (fun e a W'=>e=.ret/\a.defers=[]/\a.tmps.size=71/\a.tmps[2]?=some v/\W'=W) ⟨tmps,[]⟩ W:=by
 have e9:=bD h9;rw[ve tmps hs];simp only[aS,cA,cV,fg,e9];simp only[xD,gN,rC,ld,sL,sR];go_wp2
structure WW(P:aN)(b:BB)(bq aM aC all:aj)(l:List dS)(ss:List Int)(ms:List Mk)(Y:Nat->Prop)(W:ak):Prop where
 e:P=aq
 f159:P.funcs[(159:Nat)]?=some ld
 f178:P.funcs[(178:Nat)]?=some Tryz.f178
 i159:P.inits.idxOf? 159=none
 i178:P.inits.idxOf? 178=none
 ok:b.Ok
 acP:∀a∈l,a.Ok
 Ik:∀s∈ss,1<=s/\s<=8
 mks:∀m∈ms,1<=m.minute/\m.minute<=8
 cl:Closed fw Y W
 low:∀c,Y c->P.globals.size<=c
 wB:P.globals.size<=W.heap.size
 vm:VR fw (yG Y) bq bq
 vs:VR fw (yG Y) aM aM
 vk:VR fw (yG Y) aC aC
 va:VR fw (yG Y) all all
 rs:mX Y W aM ss.length (ss.map (aD .i64))
 rm:mX Y W aC ms.length (dV ms)
 ra:mX Y W all l.length (rowOf l)
def WW.lt{P:aN}{b:BB}{bq aM aC all:aj}{l:List dS}{ss:List Int}{ms:List Mk}{Y:Nat->Prop}{W:ak}(G:WW P b bq aM aC all l ss ms Y W){c:Nat}(hc:Y c):c<W.heap.size:=G.cl.lt hc
def WO(b:BB)(l:List dS)(ss:List Int)(ms:List Mk)(W:ak)(v:aj)(W':ak):Prop:=
 ∃kV:List Nat,Reads W' v kV.length (ints kV)/\kV.Perm (j_ b (dD ss ms).toNat (bJ ss) l 512)/\Old W W'
section
variable{P:aN}{b:BB}{bq aM aC all:aj}{l:List dS}{ss:List Int}{ms:List Mk}{Y:Nat->Prop}{W W1:ak}{xb fb tb c0 c1 sn:Nat}{cs:List b_}
theorem VB{X:Nat->Prop}(hm:VR fw (yG X) bq bq)(hs:VR fw (yG X) aM aM)(hk:VR fw (yG X) aC aC)(ha:VR fw (yG X) all all)(hx:X xb)(hf:X fb)(ht:X tb) :
  iZ fw (yG X) (TH b bq aM aC all xb sn fb tb c0 c1) (TH b bq aM aC all xb sn fb tb c0 c1):=by
 have Tw:∀a:Addr,X a.block->VR fw (yG X) (ptr a) (ptr a):=fun a ha=>.ptr ⟨v_ ha,rfl,rfl⟩
 have hagg:VR fw (yG X) (.agg (b.open bq aM aC all)) (.agg (b.open bq aM aC all)):=by
  refine .agg rfl fun i x y hi hj=>?_;rw[hi] at hj;cases hj;have hmem:=fq hi;simp only[BB.open,BB.cells,jN,iH,fe,bB,cj,gX,or_false,gY,kC] at hmem;rcases hmem with rfl|rfl|rfl|rfl|rfl|rfl|rfl|rfl|rfl|rfl|rfl|rfl|rfl|rfl|rfl|rfl<;>first|exact .int _ _|assumption
 have hall:∀v∈((TH b bq aM aC all xb sn fb tb c0 c1):Array aj),VR fw (yG X) v v:=by
  intro v hv;simp only[fe,cj,gX,or_false] at hv;have hu:VR fw (yG X) aw undef:=uj;rcases hv with rfl|rfl|rfl|rfl|rfl|rfl|rfl|rfl|rfl|rfl|rfl|rfl|rfl|rfl|rfl|rfl|rfl|rfl|rfl|rfl|rfl|rfl|rfl|rfl|rfl|rfl|rfl|rfl|rfl|rfl|rfl|rfl|rfl|rfl|rfl|rfl|rfl|rfl|rfl|rfl|rfl|rfl|rfl|rfl|rfl|rfl|rfl|rfl|rfl|rfl|rfl|rfl|rfl|rfl|rfl|rfl|rfl|rfl|rfl|rfl|rfl|rfl|rfl|rfl|rfl|rfl|rfl|rfl|rfl|rfl|rfl<;>first|exact hu|exact .int _ _|exact .EU _ _|exact .chan _|exact Tw _ hx|exact Tw _ hf|exact Tw _ ht|assumption
 exact⟨rfl,fun i x y hi hj=>by rw[hi] at hj;cases hj;exact hall x (fq hi)⟩
end
def YQ:iX (.code xD)=true:=kQ
def Reads.keep{w w':ak}{v:aj}{n:Nat}{xs:List aj}(h:Reads w v n xs)(hs:w.heap.size<=w'.heap.size)(hk:∀(g:Nat) cs e z,w.heap[g]?=some (.cells cs e z)->w'.heap[g]?=some (.cells cs e z)):Reads w' v n xs:=by
 rcases h with h|⟨g,off,cap,h1,h2,h3,h4⟩
 .exact .inl h
 .refine .inr ⟨g,off,cap,h1,h2,bw h3 hs,fun j u hj=>?_⟩;have hc:=h4 j u hj;unfold dP at hc ⊢;cases ho:w.heap[g]? with
  |none=>simp only[ho] at hc;cases hc
  |some o=>
   cases o with
   |cells cs e z=>simp only[hk g cs e z ho];simpa only[ho] using hc
   |_=>simp only[ho] at hc;cases hc
def Reads.old{w w':ak}{v:aj}{n:Nat}{xs:List aj}(h:Reads w v n xs)(ho:Old w w'):Reads w' v n xs:=
 h.keep ho.size fun g cs e z hg=>(ho.block g (eR hg)).trans hg
section
variable{P:aN}{b:BB}{bq aM aC all:aj}{l:List dS}{ss:List Int}{ms:List Mk}{Y:Nat->Prop}{W W1:ak}{xb fb tb c0 c1:Nat}{cs:List b_}
theorem Vu(e:P=aq)(hf:P.funcs[(159:Nat)]?=some ld){R:aj->ak->Prop}{tmps:Array aj}{v:aj}(hs:tmps.size=71)(h9:tmps[9]?=some v)(hR:R v W) :
  jq P (fun g' W'=>∃fr v I d,g'=G fr cs/\R v W/\W'.heap=W.heap/\W'.os=W.os/\W'.output=W.output/\fr.fn=159/\fr.leaving P (dH W' I d) (.returned v)) (GK 159 tmps [.code xD] .normal cs) W:=by
 have T:=quiet_of e;refine(zC T (b:={ (default:b_) with fn:=159,kind:=.normal }) (a:=⟨tmps,[]⟩) (k:=[]) (m:=[.code xD]) (cs:=cs) (W:=W) (Q:=fun e a W'=>e=.ret/\a.defers=[]/\a.tmps.size=71/\a.tmps[2]?=some v/\W'.heap=W.heap/\W'.os=W.os/\W'.output=W.output) sM (fun id a w hq=>by cases hq.1) (fun e a w hq=>by rw[hq.1];rfl) fun I=>?_).bind fun g' W' hsz hq=>?_
 .have h:=ah0 (W:=dH W I 0) hs h9;rw[<-e] at h
  have h2:xD.wp P (fun e a W'=>e=.ret/\a.defers=[]/\a.tmps.size=71/\a.tmps[2]?=some v/\W'.heap=W.heap/\W'.os=W.os/\W'.output=W.output) ⟨tmps,[]⟩ (dH W I 0):=
   vB h fun e a W' hq=>⟨hq.1,hq.2.1,hq.2.2.1,hq.2.2.2.1,by rw[hq.2.2.2.2];rfl,by rw[hq.2.2.2.2];rfl,by rw[hq.2.2.2.2];rfl⟩
  exact h2 { (default:b_) with fn:=159,kind:=.normal } [] cs
 obtain⟨e1,a',I,d,⟨rfl,hd,hsz',h2,hh,ho,hu⟩,todo,rfl⟩:=hq;refine .here ⟨_,v,I,d,rfl,hR,hh,ho,hu,rfl,rfl,hd,rfl,ld,hf,?_⟩;rw[e];exact Kl _ v h2 _ hsz'
theorem O9(G0:WW P b bq aM aC all l ss ms Y W)(hold:Old W W1)(hx:W1.heap[xb]?=some (.cells (b.open bq aM aC all) 122 (0,0)))(hf:W1.heap[fb]?=some (.cells #[.chan (some c0)] 188 (0,0)))(ht:W1.heap[tb]?=some (.cells #[.chan (some c1)] 189 (0,0)))
  (hc0:Chan c0 W1) (hc1:Chan c1 W1) (hne:c0≠c1) (hl:W.heap.size<=c0/\W.heap.size<=c1/\W.heap.size<=fb/\W.heap.size<=tb/\W.heap.size<=xb) {sn:Nat} (Sg:bJ ss=sn) :
  jq P (fun g' W'=>∃fr v I d,g'=G fr cs/\WO b l ss ms W v W'/\fr.fn=159/\fr.leaving P (dH W' I d) (.returned v)) (GK 159 (TH b bq aM aC all xb sn fb tb c0 c1) [.code (.block 0 (.loop Kh)),.code QD] .normal cs) W1:=by
 intro K hg hok w V;have okc:∀ {k:Nat} {cs:Array aj} {e:a7} {z:Nat × Nat},W1.heap[k]?=some (.cells cs e z)->w.heap[k]?=some (.cells cs e z):=fun h=>zr V h rfl;have hW:∀(k:Nat) (o:Obj),W.heap[k]?=some o->gb o=true->w.heap[k]?=some o:=fun k o h ho=>zr V ((hold.block k (eR h)).trans h) ho;obtain⟨X0,Xl⟩:∃X0:Nat->Prop,X0=fun c=>Y c\/c=xb\/c=fb\/c=tb:=⟨_,rfl⟩
 have hYX:∀c,Y c->X0 c:=fun c hc=>by rw[Xl];exact .inl hc
 have hxX:X0 xb:=by rw[Xl];exact .inr (.inl rfl)
 have hfX:X0 fb:=by rw[Xl];exact .inr (.inr (.inl rfl))
 have htX:X0 tb:=by rw[Xl];exact .inr (.inr (.inr rfl))
 have ZH:=G0.vm.mono (tO hYX);have ZG:=G0.vs.mono (tO hYX);have hvk:=G0.vk.mono (tO hYX);have hva:=G0.va.mono (tO hYX)
 have hcell:∀a:Addr,Y a.block->w.cell? a=W.cell? a:=fun a ha=>by
  obtain⟨cs,e,z,h1,_⟩:=G0.cl _ ha;exact iu ((hW _ _ h1 rfl).trans h1.symm)
 have CW:∀ {v:aj} {n:Nat} {xs:List aj},mX Y W v n xs->mX X0 w v n xs:=fun h=>by
  rcases h with h|⟨g,off,cap,h1,h2,h3,h4⟩
  .exact .inl h
  exact .inr ⟨g,off,cap,h1,h2,hYX g h3,fun j u hj=>(hcell ⟨g,off+j,none⟩ h3).trans (h4 j u hj)⟩
 have hcl:Closed fw X0 w:=by
  intro c hc;rw[Xl] at hc;rcases hc with hc|rfl|rfl|rfl
  .obtain⟨cs,e,z,h1,h2⟩:=G0.cl c hc;exact⟨cs,e,z,hW _ _ h1 rfl,fun v hv=>(h2 v hv).mono (tO hYX)⟩
  .refine⟨_,_,_,okc hx,fun v hv=>?_⟩;simp only[BB.open,BB.cells,jN,iH,fe,bB,cj,gX,or_false,gY,kC] at hv;rcases hv with rfl|rfl|rfl|rfl|rfl|rfl|rfl|rfl|rfl|rfl|rfl|rfl|rfl|rfl|rfl|rfl<;>first|exact .int _ _|assumption
  .exact⟨_,_,_,okc hf,fun v hv=>by simp at hv;subst hv;exact .chan _⟩
  exact⟨_,_,_,okc ht,fun v hv=>by simp at hv;subst hv;exact .chan _⟩
 have hWs:W.heap.size<=w.heap.size:=by rw[<-V.size];exact hold.size
 have Yy:∀c,X0 c->P.globals.size<=c:=fun c hc=>by
  rw[Xl] at hc;have:=G0.wB;rcases hc with hc|rfl|rfl|rfl
  .exact G0.low c hc
  all_goals omega
 have hcx:∀i u,(b.open bq aM aC all)[i]?=some u->w.cell? ⟨xb,i,none⟩=some u:=fun i u hi=>by
  unfold dP;rw[okc hx];exact hi
 have E:PR P b bq aM aC all l ss ms X0 w xb fb tb c0 c1:=
  ⟨G0.e,G0.f178,G0.i159,G0.i178,G0.ok,G0.acP,G0.Ik,G0.mks,hcl,Yy,aF G0.wB hWs,hxX,hfX,htX,hcx,by unfold dP;rw[okc hf];rfl,by unfold dP;rw[okc ht];rfl,CW G0.rs,CW G0.rm,CW G0.ra⟩
 have Tz:=VB (b:=b) (c0:=c0) (c1:=c1) (sn:=sn) ZH ZG hvk hva hxX hfX htX
 have Ms:MS P fw (fun c=>c<w.heap.size) X0 (fun _=>False) (TH b bq aM aC all xb sn fb tb c0 c1) (TH b bq aM aC all xb sn fb tb c0 c1) (shut X0 w) w (yG X0):=
  ⟨Tz,P7 hcl Yy,E.wB,by rw[wT];exact E.wB,(Ii hcl).symm,Cn hcl,P8⟩
 have st:St P X0 w X0 (fun _=>False) (TH b bq aM aC all xb sn fb tb c0 c1) (TH b bq aM aC all xb sn fb tb c0 c1) (shut X0 w) w (yG X0) (fun c=>c<w.heap.size):=⟨Ms,fun _ _ h=>h,fun c hc=>hcl.lt hc,fun c hc=>rfl,fun c hc=>rfl⟩
 have ux:GT xb fb tb (bJ ss) (TH b bq aM aC all xb sn fb tb c0 c1) (0:Nat) (0:Nat) undef:=by
  rw[Sg];exact⟨rfl,rfl,rfl,rfl,rfl,rfl,rfl,rfl⟩
 have hM:=aep (K:=[]) (cs:=cs) E 512 0 rfl X0 (fun _=>False) _ _ _ w _ _ _ st ux
 have hM2:gV P c0 c1 (.int .i64 0) (.bool false) (Zq (ints (j_ b (dD ss ms).toNat (bJ ss) l 512)) [] cs) 0 0 [] [] X0 (fun _=>False) (GK 159 (TH b bq aM aC all xb sn fb tb c0 c1) [.code (.block 0 (.loop Kh)),.code QD] .normal cs) w:=
  .ctl rfl rfl (qw _ _) rfl rfl (.ctl rfl rfl (M5 _) rfl rfl hM)
 have aey:=hM2.wide (w0:=w) (fun c=>c<w.heap.size/\c≠c0/\c≠c1) (fun c hc=>⟨hc.1,id,rfl⟩);have Db:Chan c0 w:=by obtain⟨s,tm,h⟩:=hc0;exact⟨s,tm,zr V h rfl⟩
 have Da:Chan c1 w:=by obtain⟨s,tm,h⟩:=hc1;exact⟨s,tm,zr V h rfl⟩
 refine(JF hne aey rfl Db Da (fun c hc=>?_) (fun c hc h=>h)).bind ?_
 .rcases hc with(hc|hc)|hc
  .obtain⟨cs,e,z,h1,_⟩:=hcl c hc;refine⟨eR h1,fun e=>?_,fun e=>?_⟩
   .subst e;obtain⟨s,tm,h⟩:=Db;rw[h1] at h;cases h
   subst e;obtain⟨s,tm,h⟩:=Da;rw[h1] at h;cases h
  .exact hc
  exact hc.elim
 rintro g' w' ⟨acc,out,S,O,⟨⟨S',⟨bH,v,kV,rfl,hts,ht9,ZQ,aeE,Z9⟩,mr⟩,hC0,hC1⟩,hperm,hsz,hos,hout⟩;rw[ZQ,Z9] at hperm;clear ZQ Z9
 obtain⟨W',hV',sF,e1,e2,e3,e4,e5⟩:=UR (n:=W.heap.size) V hok hos hout hsz (fun b o hb ho lK=>by
  by_cases e0:b=c0
  .subst e0;obtain⟨s,tm,h⟩:=hC0;rw[h] at ho;cases ho;cases lK
  by_cases e1:b=c1
  .subst e1;obtain⟨s,tm,h⟩:=hC1;rw[h] at ho;cases ho;cases lK
  rw[<-(mr b ⟨by rw[<-V.size];exact hb,e0,e1⟩).2];exact ho) (fun k hk=>(mr k ⟨oM,oM,oM⟩).2)
 have hO:Old W W':=⟨e1.trans hold.os,e2.trans hold.output,aF hold.size e3,fun k hk=>(e4 k hk (bw hk hold.size)).trans (hold.block k hk)⟩
 have aiy:Reads W' v kV.length (ints kV):=aeE.keep (by rw[hV'.size];exact aO _) fun g cs e z h=>e5 g _ h rfl
 have hp:kV.Perm (j_ b (dD ss ms).toNat (bJ ss) l 512):=by
  have h1:(ints kV).map (fun v=>(intOf v).toNat)=kV:=by simp[ints,intOf,Function.comp_def]
  have h2:(ints (j_ b (dD ss ms).toNat (bJ ss) l 512)).map (fun v=>(intOf v).toNat)=j_ b (dD ss ms).toNat (bJ ss) l 512:=by simp[ints,intOf,Function.comp_def]
  rw[<-h1,<-h2];exact hperm.map _
 have YC:A0 (GK 159 bH [.code xD] .normal cs):=⟨⟨by simpa [GK,G,jz] using YQ,rfl⟩,hg.callers,.inl rfl⟩
 refine(Vu (cs:=cs) G0.e G0.f159 (R:=fun v W''=>WO b l ss ms W v W'') hts ht9 ⟨kV,aiy,hp,hO⟩ K YC sF w' hV').mono ?_;rintro g2 w2 ⟨W2,⟨fr,v2,I,d,rfl,⟨o2,r1,r2,r3⟩,hh,ho,hu,hfn,hlv⟩,V2,hg2,vq,hs2⟩;refine⟨W2,⟨fr,v2,I,d,rfl,⟨o2,?_,r2,r3.trans ⟨ho,hu,by rw[hh];exact aO _,fun k _=>by rw[hh]⟩⟩,hfn,hlv⟩,V2,hg2,vq,aF e3 hs2⟩;exact r1.keep (by rw[hh];exact aO _) fun g cs e z h=>by rw[hh];exact h
end
structure Sm(W W':ak):Prop where
 heap:W'.heap=W.heap
 os:W'.os=W.os
 output:W'.output=W.output
def Sm.old{W W':ak}(h:Sm W W'):Old W W':=⟨h.os,h.output,by rw[h.heap];exact aO _,fun k _=>by rw[h.heap]⟩
def qs(W:ak)(o:Obj):Old W (W.alloc o):=⟨rfl,rfl,sM,fun k hk=>aZ _ _ _ hk⟩
def enter_at{P:aN}{f:d_}{fn:Func}{c:gZ}{args:Array aj}(hf:P.funcs[f]?=some fn)(hb:fn.body=some c):eG P f args .normal=({ (default:b_) with fn:=f,kind:=.normal }:b_).at ⟨args++bF (fn.ntmps-args.size) aw,[]⟩ [.code c]:=by
 simp[eG,Frame.at,hf,hb]
def akB(x:aj) : #[x]++bF (71 - #[x].size) aw = #[x,aw,aw,aw,aw,aw,aw,aw,aw,aw,aw,aw,aw,aw,aw,aw,aw,aw,aw,aw,aw,aw,aw,aw,aw,aw,aw,aw,aw,aw,aw,aw,aw,aw,aw,aw,aw,aw,aw,aw,aw,aw,aw,aw,aw,aw,aw,aw,aw,aw,aw,aw,aw,aw,aw,aw,aw,aw,aw,aw,aw,aw,aw,aw,aw,aw,aw,aw,aw,aw,aw]:=by
 simp only[List.size_toArray,List.length_cons,List.length_nil,Nat.reduceAdd,Nat.reduceSub,Array.replicate_succ,Array.replicate_zero,jN,iH,kC,gY]
def ad3:Tryz.f159.ntmps=71:=kQ
section
variable{P:aN}{b:BB}{bq aM aC all:aj}{l:List dS}{ss:List Int}{ms:List Mk}{Y:Nat->Prop}{W:ak}
theorem ab8(G0:WW P b bq aM aC all l ss ms Y W):j5 P 159 #[.agg (b.open bq aM aC all)] W (WO b l ss ms W):=by
 intro cs;have T:=quiet_of G0.e;obtain⟨sn,Sg⟩:∃sn,bJ ss=sn:=⟨_,rfl⟩
 obtain⟨xb,hxb⟩:∃xb,W.heap.size=xb:=⟨_,rfl⟩
 have uy:eG P 159 #[.agg (b.open bq aM aC all)] .normal=({ (default:b_) with fn:=159,kind:=.normal }:b_).at ⟨(FS1 b bq aM aC all),[]⟩ [.code (.seq gR0 (.seq gR1 (.seq gR2 (.seq gR3 (.seq (.seq gR4 (.block 0 (.loop Kh))) QD)))))]:=by
  rw[enter_at G0.f159 Y_,ad3,akB];unfold QD;rfl
 rw[uy];have lJ:({ (default:b_) with fn:=159,kind:=.normal }:b_).kind≠.early:=sM;have hsW:∀ {W':ak},Old W W'->Reads W' aM ss.length (ss.map (aD .i64)):=fun ho=>G0.rs.to (fun c hc=>bw (G0.lt hc) ho.size) fun a ha=>ho.cell (G0.lt ha);refine jT T (fun w=>step_seq) ?_;refine oU T lJ (Q:=fun a W'=>a=⟨(FS0 b bq aM aC all xb),[]⟩/\Sm (W.alloc (.cells (b.open bq aM aC all) 122)) W') (fun I d=>?_) ?_
 .rw[G0.e];refine vB (pR0 (W:=dH W I d) hxb) ?_;rintro e a W' ⟨rfl,rfl,rfl⟩;exact⟨rfl,rfl,rfl,rfl,rfl⟩
 rintro a W1 τ1 d1 ⟨rfl,hsm⟩;have o1:Old W W1:=(qs W _).trans (Sm.old (W':=W1) ⟨hsm.heap,hsm.os,hsm.output⟩)
 have x1:W1.heap[xb]?=some (.cells (b.open bq aM aC all) 122 (0,0)):=by
  have h:W1.heap=(W.alloc (.cells (b.open bq aM aC all) 122)).heap:=hsm.heap;rw[h,<-hxb];exact az W _
 have s1:xb<W1.heap.size:=eR x1;clear hsm;refine jT T (fun w=>step_seq) ?_;refine oU T lJ (Q:=fun a W'=>a=⟨(FS2 b bq aM aC all xb sn),[]⟩/\Sm W1 W') (fun I d=>?_) ?_
 .rw[G0.e];refine vB (pR1 (b:=b) (bq:=bq) (aC:=aC) (all:=all) (W:=dH W1 I d) G0.Ik ?_ (hsW (W':=dH W1 I d) ⟨o1.os,o1.output,o1.size,o1.block⟩) Sg) ?_
  .show W1.cell? ⟨xb,13,none⟩=some aM;unfold dP;rw[x1];rfl
  rintro e a W' ⟨rfl,rfl,rfl⟩;exact⟨rfl,rfl,rfl,rfl,rfl⟩
 rintro a W2 τ2 d2 ⟨rfl,hsm⟩;have hh:W2.heap=W1.heap:=hsm.heap;have o2:Old W W2:=o1.trans (Sm.old (W':=W2) ⟨hsm.heap,hsm.os,hsm.output⟩);have x2:W2.heap[xb]?=some (.cells (b.open bq aM aC all) 122 (0,0)):=by rw[hh];exact x1
 have s2:W.heap.size<W2.heap.size:=by rw[hh];omega
 clear hsm hh o1 x1 s1;refine jT T (fun w=>step_seq) ?_;refine oU T lJ (Q:=fun a W'=>∃c0 c1 fb tb:Nat,a=⟨(FS3 b bq aM aC all xb sn fb tb c0 c1),[]⟩/\(Chan c0 W'/\Chan c1 W'/\W'.heap[fb]?=some (.cells #[.chan (some c0)] 188 (0,0))/\W'.heap[tb]?=some (.cells #[.chan (some c1)] 189 (0,0))/\c0≠c1/\W2.heap.size<=c0/\W2.heap.size<=c1/\W2.heap.size<=fb/\W2.heap.size<=tb/\Old W2 W')) (fun I d=>?_) ?_
 .rw[G0.e];refine vB (pR2 (b:=b) (bq:=bq) (aM:=aM) (aC:=aC) (all:=all) (xb:=xb) (sn:=sn) (W:=dH W2 I d)) ?_;rintro e a W' ⟨rfl,c0,c1,fb,tb,rfl,h1,h2,h3,h4,h5,h6,h7,h8,h9,h10⟩;exact⟨rfl,c0,c1,fb,tb,rfl,h1,h2,h3,h4,h5,h6,h7,h8,h9,h10.os,h10.output,h10.size,h10.block⟩
 rintro a W3 τ3 d3 ⟨c0,c1,fb,tb,rfl,h1,h2,h3,h4,h5,h6,h7,h8,h9,h10⟩;have o3:Old W W3:=o2.trans ⟨h10.os,h10.output,h10.size,h10.block⟩;have x3:W3.heap[xb]?=some (.cells (b.open bq aM aC all) 122 (0,0)):=(h10.block xb oM).trans x2;have k0:Chan c0 W3:=h1;have k1:Chan c1 W3:=h2;have kf:W3.heap[fb]?=some (.cells #[.chan (some c0)] 188 (0,0)):=h3;have kt:W3.heap[tb]?=some (.cells #[.chan (some c1)] 189 (0,0)):=h4;clear h1 h2 h3 h4 h10 o2 x2;refine jT T (fun w=>step_seq) ?_;refine oU T lJ (Q:=fun a W'=>a=⟨(FS4 b bq aM aC all xb sn fb tb c0 c1),[]⟩/\Sm W3 W') (fun I d=>?_) ?_
 .rw[G0.e];refine vB (pR3 (b:=b) (bq:=bq) (aM:=aM) (aC:=aC) (all:=all) (xb:=xb) (sn:=sn) (c0:=c0) (c1:=c1) (fb:=fb) (tb:=tb) (W:=dH W3 I d)) ?_;rintro e a W' ⟨rfl,rfl,rfl⟩;exact⟨rfl,rfl,rfl,rfl,rfl⟩
 rintro a W4 τ4 d4 ⟨rfl,Yr⟩;have e4:W4.heap=W3.heap:=Yr.heap;have o4:Old W W4:=o3.trans (Sm.old (W':=W4) ⟨Yr.heap,Yr.os,Yr.output⟩);refine jT T (fun w=>step_seq) ?_;refine jT T (fun w=>step_seq) ?_;refine oU T lJ (Q:=fun a W'=>a=⟨(TH b bq aM aC all xb sn fb tb c0 c1),[]⟩/\Sm W4 W') (fun I d=>?_) ?_
 .rw[G0.e];refine vB (pR4 (b:=b) (bq:=bq) (aM:=aM) (aC:=aC) (all:=all) (xb:=xb) (sn:=sn) (c0:=c0) (c1:=c1) (fb:=fb) (tb:=tb) (W:=dH W4 I d)) ?_;rintro e a W' ⟨rfl,rfl,rfl⟩;exact⟨rfl,rfl,rfl,rfl,rfl⟩
 rintro a W5 τ5 d5 ⟨rfl,Yq⟩;have e5:W5.heap=W3.heap:=(show W5.heap=W4.heap from Yq.heap).trans e4;have o5:Old W W5:=o4.trans (Sm.old (W':=W5) ⟨Yq.heap,Yq.os,Yq.output⟩);have kc:∀ {c:Nat},Chan c W3->Chan c W5:=fun h=>by obtain⟨s,tm,h⟩:=h;exact⟨s,tm,by rw[e5];exact h⟩
 exact O9 (cs:=cs) G0 o5 (by rw[e5];exact x3) (by rw[e5];exact kf) (by rw[e5];exact kt) (kc k0) (kc k1) h5 ⟨oM,oM,oM,oM,oM⟩ Sg
end
end Go.Proofs.YtffladgmkiimjaaGreatDoor
