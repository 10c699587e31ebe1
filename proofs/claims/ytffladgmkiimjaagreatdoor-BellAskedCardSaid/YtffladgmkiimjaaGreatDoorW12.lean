/- bell.good IN PIECES: its text, and the lone walk of each piece. bell.g .. -/
import Derived.Test.YtffladgmkiimjaaGreatDoorW11
import Derived.Deep.RegionHeld3
import Derived.Test.YtffladgmkiimjaaGreatDoorW01
import Derived.Conc.LoneCalls
import Derived.Conc.LeavingOf
import Derived.ProofKit
import Derived.Test.YtffladgmkiimjaaGreatDoorW00
import Derived.LaidLaws
import Derived.SevenTiedAt
set_option linter.all false
set_option maxHeartbeats 100000000
set_option maxRecDepth 1000000
open Array renaming getElem?_setIfInBounds_ne → aA,getElem?_eq_getElem → aM,replicate → aT,getElem?_setIfInBounds_self_of_lt → aZ,getElem?_eq_some_iff → ak,append_empty → dS,mem_of_getElem? → eH
open Bool renaming false_eq_true → bu
open Go renaming wp_mono → AX,Goroutine → aB,Program → aI,TypeId → aX,undef → af,Value → aj,World → ar,Operand → bE,Frame → bL,execOp → bX,Addr → cU,Oper → cz,FuncId → dR,stepG → eM,Code → gG,zeroValue → iD,Act → iR,yielded → jR,CallKind → jy,Item → oJ
open Go.Frame renaming enter → dZ
open Go.IntKind renaming i64 → ag
open Go.Proofs.Tryz renaming prog → aq,underlying3 → eo,f159 → kx
open Go.Region renaming wanted → cF
open Go.RowKit renaming Below → az
open Go.RowKit.Below renaming heap_alloc → aS,refl → aw
open Go.Value renaming int → aD,int → ah
open Go.World renaming alloc_heap_new → ay,cell? → dC
open Go.stepG renaming apply → dX,oper → eI
open List renaming range → aU,mem_append → bH,mem_cons → bR,map_cons → cK,mem_toArray → eF,map_nil → fO,append_toArray → gY,not_mem_nil → gh,cons_append → ie,nil_append → j5,push_toArray → jw,getElem?_eq_some_iff → oM
open List.range renaming loop → bT
open Nat renaming le_trans → aN,le_refl → ax,lt_of_lt_of_le → bz
open Option renaming bind_some → gg
open Option.some renaming inj → bf
open Pure renaming pure → eE
namespace Go.Proofs.YtffladgmkiimjaaGreatDoor
open Go.RowKit Go.Lag
def sL:gG→gG|.seq a _=>a|_=>.skip
def sR:gG→gG|.seq _ b=>b|_=>.skip
def bC:gG→gG|.block _ c=>c|_=>.skip
def lC:gG→gG|.loop c=>c|_=>.skip
def cT:gG→gG|.cond _ a _=>a|_=>.skip
def cE:gG→gG|.cond _ _ b=>b|_=>.skip
noncomputable def qB:Code:=match Tryz.f159.body with|some c=>c|_=>.skip
noncomputable def gR0:Code:=sL qB
noncomputable def gR1:Code:=sL (sR qB)
noncomputable def gR2:Code:=sL (sR (sR qB))
noncomputable def gR3:Code:=sL (sR (sR (sR qB)))
noncomputable def gM:Code:=sL (sR (sR (sR (sR qB))))
noncomputable def gN:Code:=sR (sR (sR (sR (sR qB))))
noncomputable def gR4:Code:=sL gM
noncomputable def IQ:Code:=lC (bC (sR gM))
noncomputable def gR5:Code:=sL IQ
noncomputable def M5:Code:=bC (sL (sR (sR IQ)))
noncomputable def gR6:Code:=sL M5
noncomputable def gR7:Code:=sL (sR M5)
noncomputable def Zy:Code:=sL (sL (sR (sR M5)))
noncomputable def gR9:Code:=sL (sR (sR (sR M5)))
noncomputable def ur:Code:=sR (sR (sR (sR M5)))
noncomputable def KH:Code:=sR (sR (sR IQ))
noncomputable def FC:Code:=sL gN
noncomputable def LP:Code:=lC (bC (sL (sR gN)))
noncomputable def Qz:Code:=sL (sL LP)
noncomputable def Tv:Code:=bC (sR LP)
noncomputable def Ap:Code:=sL Tv
noncomputable def ni:Code:=sL (sR Tv)
noncomputable def Tt:Code:=bC (sR (sR Tv))
noncomputable def Ao:Code:=cT Tt
noncomputable def Qy:Code:=cT (cE Tt)
noncomputable def vX:Code:=sR (sR gN)
theorem Ws:Tryz.f159.body=some (.seq gR0 (.seq gR1 (.seq gR2 (.seq gR3 (.seq (.seq gR4 (.block 0 (.loop IQ))) (.seq FC (.seq (.block 2 (.loop LP)) vX))))))):=by kernel_rfl
theorem ZA:IQ=.seq gR5 (.seq (.cond (.tmp 19) .skip (.exit 0)) (.seq (.block 1 M5) KH)):=by kernel_rfl
theorem ZE:M5=.seq gR6 (.seq gR7 (.seq (.seq Zy (.cond (.tmp 50) (.exit 1) .skip)) (.seq gR9 ur))):=by kernel_rfl
theorem Zz:LP=.seq (.seq Qz (.cond (.tmp 56) .skip (.exit 2))) (.block 3 Tv):=by kernel_rfl
theorem ZC:Tv=.seq Ap (.seq ni (.block 4 Tt)):=by kernel_rfl
theorem ZB:Tt=.cond (.tmp 61) Ao (.cond (.tmp 62) Qy .skip):=by kernel_rfl
theorem V9:ur=.region 10 (opsOf ur) false:=by kernel_rfl
theorem V7:ni=.region 16 (opsOf ni) false:=by kernel_rfl
theorem aeE:[gR5,gR6,gR7,Zy,gR9,KH,FC,Qz,Ap,Ao,Qy].all (fun c=>gQ aq fw c&&dP c)=true:=by kernel_rfl
theorem adi(a:Array aj):a=((aU a.size).map fun i=>a.getD i af).toArray:=by
 apply Array.ext
 ·simp
 ·intro i h1 h2;simp[Array.getD,h1]
theorem ue(a:Array aj)(h:a.size=71):a=((aU 71).map fun i=>a.getD i af).toArray:=by
 have:=adi a;rw[h] at this;exact this
structure GT(xb fb tb:Nat)(sn:Nat)(tmps:Array aj)(many m:Int)(t8:aj):Prop where
 size:tmps.size=71
 t1:tmps[1]?=some (ptr ⟨xb,0,none⟩)
 t3:tmps[3]?=some (ah ag sn)
 t4:tmps[4]?=some (ptr ⟨fb,0,none⟩)
 t5:tmps[5]?=some (ptr ⟨tb,0,none⟩)
 t6:tmps[6]?=some (ah ag many)
 t18:tmps[18]?=some (ah ag m)
 t8:tmps[8]?=some t8
section
variable{xb fb tb sn:Nat}{tmps:Array aj}{many m:Int}{t8:aj}{lw:ar}
theorem pR5(h:GT xb fb tb sn tmps many m t8):gR5.wp aq (fun e a W'=>e=.normal∧GT xb fb tb sn a.tmps many m t8∧a.tmps[19]?=some (.bool (decide (m<512)))∧W'=lw) ⟨tmps,[]⟩ lw:=by
 have e1:=bq h.t1;have e3:=bq h.t3;have e4:=bq h.t4;have e5:=bq h.t5;have e6:=bq h.t6;have Fa:=bq h.t18;have e8:=bq h.t8;rw[ue tmps h.size];simp only[aU,bT,cK,fO,e1,e3,e4,e5,e6,Fa,e8];clear e1 e3 e4 e5 e6 Fa e8;simp only[gR5,IQ,M5,gM,gN,qB,kx,sL,sR,bC,lC];go_wp2;exact⟨rfl,rfl,rfl,rfl,rfl,rfl,rfl,rfl⟩
theorem pR6(h:GT xb fb tb sn tmps many m t8):gR6.wp aq (fun e a W'=>e=.normal∧GT xb fb tb sn a.tmps many m t8∧a.tmps[7]?=some (ah ag m)∧W'=lw) ⟨tmps,[]⟩ lw:=by
 have e1:=bq h.t1;have e3:=bq h.t3;have e4:=bq h.t4;have e5:=bq h.t5;have e6:=bq h.t6;have Fa:=bq h.t18;have e8:=bq h.t8;rw[ue tmps h.size];simp only[aU,bT,cK,fO,e1,e3,e4,e5,e6,Fa,e8];clear e1 e3 e4 e5 e6 Fa e8;simp only[gR6,IQ,M5,gM,gN,qB,kx,sL,sR,bC,lC];go_wp2;exact⟨rfl,rfl,rfl,rfl,rfl,rfl,rfl,rfl⟩
def Q7(xb fb tb sn:Nat)(many:Int)(m:Nat)(lw:ar)(a:iR)(W':ar):Prop:=
 GT xb fb tb sn a.tmps many m (ptr ⟨lw.heap.size,0,none⟩)∧a.tmps[7]?=some (ah ag m)∧W'.heap[lw.heap.size]?=some (.cells #[ah ag ((sn ||| m:Nat):Int)] 108 (0,0))∧az lw.heap.size lw W'
theorem pR7{m:Nat}(hs:sn<512)(hm:m<512)(h:GT xb fb tb sn tmps many m t8)(h7:tmps[7]?=some (ah ag m)):gR7.wp aq (fun e a W'=>e=.normal∧Q7 xb fb tb sn many m lw a W') ⟨tmps,[]⟩ lw:=by
 have h64:=abf sn m (by omega) (by omega);have e1:=bq h.t1;have e3:=bq h.t3;have e4:=bq h.t4;have e5:=bq h.t5;have e6:=bq h.t6;have Fa:=bq h.t18;have e8:=bq h.t8;have e7:=bq h7;rw[ue tmps h.size];simp only[aU,bT,cK,fO,e1,e3,e4,e5,e6,Fa,e8,e7];clear e1 e3 e4 e5 e6 Fa e8 e7;simp only[gR7,IQ,M5,gM,gN,qB,kx,sL,sR,bC,lC];go_wp2;exact⟨⟨rfl,rfl,rfl,rfl,rfl,rfl,rfl,rfl⟩,rfl,ay _ _,(aw _ _).alloc (ax _) _⟩
theorem pR9(hm:0≤many∧many≤1000)(h:GT xb fb tb sn tmps many m t8):gR9.wp aq (fun e a W'=>e=.normal∧GT xb fb tb sn a.tmps (many+1) m t8∧W'=lw) ⟨tmps,[]⟩ lw:=by
 have e1:=bq h.t1;have e3:=bq h.t3;have e4:=bq h.t4;have e5:=bq h.t5;have e6:=bq h.t6;have Fa:=bq h.t18;have e8:=bq h.t8;rw[ue tmps h.size];simp only[aU,bT,cK,fO,e1,e3,e4,e5,e6,Fa,e8];clear e1 e3 e4 e5 e6 Fa e8;simp only[gR9,IQ,M5,gM,gN,qB,kx,sL,sR,bC,lC];go_wp2;exact⟨rfl,rfl,rfl,rfl,rfl,rfl,rfl,rfl⟩
theorem aeA(hm:0≤m∧m≤1000)(h:GT xb fb tb sn tmps many m t8):KH.wp aq (fun e a W'=>e=.normal∧GT xb fb tb sn a.tmps many (m+1) t8∧W'=lw) ⟨tmps,[]⟩ lw:=by
 have e1:=bq h.t1;have e3:=bq h.t3;have e4:=bq h.t4;have e5:=bq h.t5;have e6:=bq h.t6;have Fa:=bq h.t18;have e8:=bq h.t8;rw[ue tmps h.size];simp only[aU,bT,cK,fO,e1,e3,e4,e5,e6,Fa,e8];clear e1 e3 e4 e5 e6 Fa e8;simp only[KH,IQ,M5,gM,gN,qB,kx,sL,sR,bC,lC];go_wp2;exact⟨rfl,rfl,rfl,rfl,rfl,rfl,rfl,rfl⟩
structure GH(fb tb:Nat)(tmps:Array aj)(many:Int)(v:aj):Prop where
 size:tmps.size=71
 t4:tmps[4]?=some (ptr ⟨fb,0,none⟩)
 t5:tmps[5]?=some (ptr ⟨tb,0,none⟩)
 t6:tmps[6]?=some (ah ag many)
 t9:tmps[9]?=some v
theorem aez(h:GT xb fb tb sn tmps many m t8):FC.wp aq (fun e a W'=>e=.normal∧GH fb tb a.tmps many (.slice none 0 0)∧W'=lw) ⟨tmps,[]⟩ lw:=by
 have e1:=bq h.t1;have e3:=bq h.t3;have e4:=bq h.t4;have e5:=bq h.t5;have e6:=bq h.t6;have Fa:=bq h.t18;have e8:=bq h.t8;rw[ue tmps h.size];simp only[aU,bT,cK,fO,e1,e3,e4,e5,e6,Fa,e8];clear e1 e3 e4 e5 e6 Fa e8;simp only[FC,IQ,M5,gM,gN,qB,kx,sL,sR,bC,lC];go_wp2;exact⟨rfl,rfl,rfl,rfl,rfl⟩
theorem aey{v:aj}(h:GH fb tb tmps many v):Qz.wp aq (fun e a W'=>e=.normal∧GH fb tb a.tmps many v∧a.tmps[56]?=some (.bool (decide (0<many)))∧W'=lw) ⟨tmps,[]⟩ lw:=by
 have e4:=bq h.t4;have e5:=bq h.t5;have e6:=bq h.t6;have e9:=bq h.t9;rw[ue tmps h.size];simp only[aU,bT,cK,fO,e4,e5,e6,e9];clear e4 e5 e6 e9;simp only[Qz,LP,Tv,Tt,gN,qB,kx,sL,sR,bC,lC,cT,cE];go_wp2;exact⟨rfl,rfl,rfl,rfl,rfl⟩
theorem Yb{v x y:aj}(h:GH fb tb tmps many v)(hf:lw.cell? ⟨fb,0,none⟩=some x)(ht:lw.cell? ⟨tb,0,none⟩=some y):Ap.wp aq (fun e a W'=>e=.normal∧GH fb tb a.tmps many v∧a.tmps[57]?=some x∧a.tmps[58]?=some y∧W'=lw) ⟨tmps,[]⟩ lw:=by
 have e4:=bq h.t4;have e5:=bq h.t5;have e6:=bq h.t6;have e9:=bq h.t9;rw[ue tmps h.size];simp only[aU,bT,cK,fO,e4,e5,e6,e9];clear e4 e5 e6 e9;simp only[Ap,LP,Tv,Tt,gN,qB,kx,sL,sR,bC,lC,cT,cE];go_wp2;exact⟨rfl,rfl,rfl,rfl,rfl⟩
theorem aex{v:aj}(hm:0≤many∧many≤1000)(h:GH fb tb tmps many v):Qy.wp aq (fun e a W'=>e=.normal∧GH fb tb a.tmps (many-1) v∧W'=lw) ⟨tmps,[]⟩ lw:=by
 have e4:=bq h.t4;have e5:=bq h.t5;have e6:=bq h.t6;have e9:=bq h.t9;rw[ue tmps h.size];simp only[aU,bT,cK,fO,e4,e5,e6,e9];clear e4 e5 e6 e9;simp only[Qy,LP,Tv,Tt,gN,qB,kx,sL,sR,bC,lC,cT,cE];go_wp2;exact⟨rfl,rfl,rfl,rfl,rfl⟩
end
noncomputable def aeD:Array Oper:=opsOf Zy
theorem Zx:Zy=.region 8 aeD true:=by kernel_rfl
def ym(b:BB)(k9:Nat)(sn m:Nat):Bool:=decide (m &&& (2 ^ k9-1)≠0)||decide (2 ^ (b.minutes.toNat+1)≤m)||decide (b.eT<((upTo (sn ||| m) 8).length:Int))
theorem _root_.Go.Lag.iV.some{n:Nat}{a:iR}{l:List (Tmp × aj)}(h:iV n a l)(k:Nat){t:Tmp}{v:aj}(hk:l[k]?=Option.some (t,v))(ht:t<n):a.tmps[t]?=Option.some v:=by
 have h1:a.tmps.getD t af=v:=h.g k hk;have h2:t<a.tmps.size:=by rw[h.size];exact ht
 simp[Array.getD,h2] at h1;rw[aM h2,h1]
theorem N5(y:Nat)(hy:y≤63)(t:aX)(w:ar):(Go.binOp .shl t (ah ag 1) (ah ag (y:Int))).run aq w=.ok (ah ag (IntKind.i64.wrap (2 ^ y))) w:=by
 have h:¬(y:Int)<0:=by omega
 have e:min (y:Int).toNat IntKind.i64.bits=y:=by show min (y:Int).toNat 64=y;omega
 show(Op.shift .shl ag 1 ag (y:Int)).run aq w=_;unfold Op.shift;rw[if_neg h,e];show Result.ok (aD ag (IntKind.i64.wrap (1*2 ^ y))) w=_;rw[Int.one_mul]
section
variable{xb fb tb sn:Nat}{tmps:Array aj}{many:Int}{m:Nat}{lw:ar}
def Q8(xb fb tb sn pb:Nat)(many:Int)(m:Nat)(r:Bool)(lw:ar)(a:iR)(W':ar):Prop:=
 GT xb fb tb sn a.tmps many m (ptr ⟨pb,0,none⟩)∧a.tmps[50]?=some (.bool r)∧az lw.heap.size lw W'
theorem pR8{b:BB}{men sent marks:aj}{pb:Nat}(hb:b.Ok)(Qe:sn<512)(hm:m<512)(h:GT xb fb tb sn tmps many m (ptr ⟨pb,0,none⟩))(h7:tmps[7]?=some (ah ag m))
  (hx:∀i u,(b.cells men sent marks)[i]?=some u→lw.cell? ⟨xb,i,none⟩=some u) (hp:lw.cell? ⟨pb,0,none⟩=some (ah ag ((sn ||| m:Nat):Int))) (hlt:xb<lw.heap.size∧pb<lw.heap.size)
  {k9:Nat} (VY:1≤k9∧k9≤9) (hB:∀w1,az lw.heap.size lw w1→Calls aq 155 #[.agg (b.cells men sent marks)] w1 fun e w'=>e=.returned (ah ag k9)∧az w1.heap.size w1 w') :
  Zy.wp aq (fun e a W'=>e=.normal∧Q8 xb fb tb sn pb many m (ym b k9 sn m) lw a W') ⟨tmps,[]⟩ lw:=by
 have hp9:sn ||| m<512:=Nat.or_lt_two_pow (n:=9) Qe hm
 have xq:=hb.minutes;have afQ:=hb.eT;generalize hpp:sn ||| m=p at *
 obtain⟨Y,hY⟩:∃Y:Int,(2:Int) ^ k9=Y:=⟨_,rfl⟩
 have hYn:Y=((2 ^ k9:Nat):Int):=by rw[←hY];simp
 have hYb:(2:Nat) ^ k9≤512∧1≤(2:Nat) ^ k9:=⟨Nat.pow_le_pow_right (j:=9) (by omega) (by omega),Nat.one_le_two_pow⟩
 generalize hK2:(2:Nat) ^ k9=K2 at hYn hYb;have w1e:IntKind.i64.wrap (2 ^ k9)=Y:=by rw[hY,hYn];exact eX _ (Int.natCast_nonneg _) (by omega)
 have w2:IntKind.i64.wrap (Y-1)=Y-1:=by rw[hYn];exact eX _ (by omega) (by omega)
 have a1:bits .and ag (m:Int) (Y-1)=((m &&& (K2-1):Nat):Int):=by
  have e:Y-1=((K2-1:Nat):Int):=by rw[hYn];omega
  rw[e];exact XM m (K2-1) (by omega) (by omega)
 obtain⟨mn,hmn⟩:∃mn:Nat,b.minutes=mn:=⟨b.minutes.toNat,by omega⟩
 have hZb:(2:Nat) ^ (mn+1)≤512∧1≤(2:Nat) ^ (mn+1):=⟨Nat.pow_le_pow_right (j:=9) (by omega) (by omega),Nat.one_le_two_pow⟩
 have w3:IntKind.i64.wrap (b.minutes+1)=((mn+1:Nat):Int):=by rw[hmn];exact eX _ (by omega) (by omega)
 obtain⟨Z,hZ⟩:∃Z:Int,(2:Int) ^ (mn+1)=Z:=⟨_,rfl⟩
 have hZn:Z=((2 ^ (mn+1):Nat):Int):=by rw[←hZ];simp
 have hSK:ym b k9 sn m=(decide (m &&& (K2-1)≠0)||decide (2 ^ (mn+1)≤m)||decide (b.eT<((upTo p 8).length:Int))):=by unfold ym;rw[hpp,hK2,hmn];rfl
 generalize (2:Nat) ^ (mn+1)=Z2 at *;have w4:IntKind.i64.wrap (2 ^ (mn+1))=Z:=by rw[hZ,hZn];exact eX _ (Int.natCast_nonneg _) (by omega)
 have hF:iV 71 ⟨tmps,[]⟩ [(1,ptr ⟨xb,0,none⟩),(3,ah ag sn),(4,ptr ⟨fb,0,none⟩),(5,ptr ⟨tb,0,none⟩),(6,ah ag many),(18,ah ag m),(8,ptr ⟨pb,0,none⟩),(7,ah ag m)]:=
  ⟨h.size,rfl,bq h.t1,bq h.t3,bq h.t4,bq h.t5,bq h.t6,bq h.t18,bq h.t8,bq h7,trivial⟩
 have cx:∀w1,az lw.heap.size lw w1→∀i u,(b.cells men sent marks)[i]?=some u→w1.cell? ⟨xb,i,none⟩=some u:=fun w1 hS i u hi=>(hS.cell (p:=⟨xb,i,none⟩) hlt.1).trans (hx i u hi);rw[Zx]
 refine ZW (by kernel_rfl) ⟨[],[(2,.agg (b.cells men sent marks)),(3,ah ag k9),(4,ah ag Y),(5,ah ag (Y-1)),(6,ah ag ((m &&& (K2-1):Nat):Int)),(13,ah ag b.minutes),(14,ah ag ((mn+1:Nat):Int)),(15,ah ag Z),(19,ah ag (p:Int)),(20,ah ag ((upTo p 8).length:Int)),(24,ah ag b.eT)],[],[]⟩
  [(50,.bool (((!(((m &&& (K2-1):Nat):Int)==0))||decide ((m:Int)≥Z))||decide (((upTo p 8).length:Int)>b.eT)))] hF trivial
  ⟨fun w1 hS _=>gs (Instr.loadAt 119 (ptr ⟨xb,0,none⟩)) (by
    have c:=cx w1 hS;have z0:=c 0 _ rfl;have z1:=c 1 _ rfl;have z2:=c 2 _ rfl;have z3:=c 3 _ rfl;have z4:=c 4 _ rfl;have z5:=c 5 _ rfl;have z6:=c 6 _ rfl;have z7:=c 7 _ rfl;have z8:=c 8 _ rfl;have z9:=c 9 _ rfl;have z10:=c 10 _ rfl;have z11:=c 11 _ rfl;have z12:=c 12 _ rfl;have z13:=c 13 _ rfl;have z14:=c 14 _ rfl
    go_simp),
   fun w1 hS _=>gc (hB w1 hS),fun w1 _ _=>gs _ ((N5 k9 (by omega) 108 w1).trans (by rw[w1e])),fun _ _ _=>ge (congrArg (aD ag) w2),fun w1 _ _=>gs (Go.binOp .and 108 (ah ag m) (ah ag (Y-1))) (by rw[hYn] at a1 ⊢;go_simp),
   fun w1 hS _=>gl (cx w1 hS 3 _ rfl),fun _ _ _=>ge (congrArg (aD ag) w3),fun w1 _ _=>gs _ ((N5 (mn+1) (by omega) 3 w1).trans (by rw[w4])),fun w1 hS _=>gl ((hS.cell (p:=⟨pb,0,none⟩) hlt.2).trans hp),fun w1 hS _=>gc (sk p hp9 w1),fun w1 hS _=>gl (cx w1 hS 6 _ rfl),trivial⟩ ?_
 intro a w ho hF;refine⟨rfl,⟨hF.size,hF.some 1 rfl (by decide),hF.some 2 rfl (by decide),hF.some 3 rfl (by decide),hF.some 4 rfl (by decide),hF.some 5 rfl (by decide),hF.some 6 rfl (by decide),hF.some 7 rfl (by decide)⟩,?_,ho⟩;rw[hF.some 0 rfl (by decide),hSK];rw[hZn]
 have e1:(!(((m &&& (K2-1):Nat):Int)==0))=decide (m &&& (K2-1)≠0):=by
  rw[Bool.eq_iff_iff];simp
 have e2:decide ((m:Int)≥((Z2:Nat):Int))=decide (Z2≤m):=by simp
 rw[e1,e2]
theorem Vu:(Tryz.prog.info? 108).map (fun i=>(i.zero,i.size,i.bytes))=some (some (ah ag 0),1,8):=by kernel_rfl
def Q18(fb tb:Nat)(many:Int)(out:List Nat)(B:Nat)(lw:ar)(a:iR)(W':ar):Prop:=
 ∃v,GH fb tb a.tmps many v∧W'.ownsRow B 108 1 v out.length (out.map fun(p:Nat)=>aD ag (p:Int))∧az B lw W'
theorem Ya{v:aj}{x y z:aj}{out:List Nat}{p B:Nat}(ho:out.length≤1000)(h:GH fb tb tmps many v)(h59:tmps[59]?=some (.tuple #[x,y,ah ag p,z]))(hown:lw.ownsRow B 108 1 v out.length (out.map fun(p:Nat)=>aD ag (p:Int)))(hB:B≤lw.heap.size) :
  Ao.wp aq (fun e a W'=>e=.normal∧Q18 fb tb many (out++[p]) B lw a W') ⟨tmps,[]⟩ lw:=by
 obtain⟨i0,hi,hz0,hz1,hz2⟩:=info_parts Vu;have e4:=bq h.t4;have e5:=bq h.t5;have e6:=bq h.t6;have e9:=bq h.t9;have e59:=bq h59;rw[ue tmps h.size];simp only[aU,bT,cK,fO,e4,e5,e6,e9,e59];clear e4 e5 e6 e9 e59;simp only[Ao,LP,Tv,Tt,gN,qB,kx,sL,sR,bC,lC,cT,cE]
 go_wp2_with (at_builtin;refine wpList_append_own _ rfl _ _ 172 rfl B 108 i0 (ah ag 0) 1 8 Tryz.underlying172 hi hz0 hz1 hz2 rfl (by decide) _ _ _ rfl (hown.alloc _) ⟨lw.heap.size,0,none⟩ 1 1 [ah ag p] rfl rfl (Xa (K9 _ _ _)) (Sr rfl) (by unfold maxLen;omega) (by omega) (by simp;omega) ?_)
 intro v' w1 hown' hgrow _;have hb1:az B lw w1:=((aw _ _).alloc hB _).grown hgrow (by simp;omega) (fun j hj=>(hown.lt j hj).1);clear hgrow;go_wp2;exact⟨v',⟨rfl,rfl,rfl,rfl,rfl⟩,by simpa using hown',hb1⟩
end
end Go.Proofs.YtffladgmkiimjaaGreatDoor
namespace Go.Lag
open Go.Conc
section
variable{P:aI}{c0 c1:Nat}{z0 z1:aj}{Fin:List aj→List aj→(Nat→Prop)→(Nat→Prop)→aB→ar→Prop}{f m:Nat}{acc out:List aj}{S O:Nat→Prop}{g:aB}{w:ar}
theorem NM.wide{S E:Nat→Prop}{O:Nat→Prop}{e:Event}(h:NM (fun c=>S c∨O c) O e):NM (fun c=>(S c∨E c)∨O c) O e:=
 h.mono (fun c hc=>hc.imp .inl id) fun c hc=>hc
theorem eW.wide{w0:ar}(h:eW P c0 c1 z0 z1 Fin f m acc out S O g w):∀(E:Nat→Prop),(∀c,E c→c<w.heap.size∧¬O c∧w.heap[c]?=w0.heap[c]?)→
  eW P c0 c1 z0 z1 (fun acc out _ O g w'=>∃S,Fin acc out S O g w'∧∀c,E c→¬O c∧w'.heap[c]?=w0.heap[c]?) f m acc out (fun c=>S c∨E c) O g w:=by
 have nar:∀ {S O E:Nat→Prop} {w w1:ar},gW (fun c=>(S c∨E c)∨O c) w w1→gW (fun c=>S c∨O c) w w1:=fun hr=>⟨hr.grow,fun c hc=>hr.keep c (hc.imp .inl id)⟩
 induction h with
 |fin hs h=>
  intro E hE;exact .fin hs fun w1 hr=>⟨_,h w1 (nar hr),fun c hc=>⟨(hE c hc).2.1,(hr.keep c (.inl (.inr hc))).trans (hE c hc).2.2⟩⟩
 |@step f m acc out S O g w a b c d ih=>
  intro E hE;refine .step a b (fun w1 hr=>?_) fun w1 hr g2 w2 es he=>?_
  ·obtain⟨g2,w2,es,e,hg,h1,h2⟩:=c w1 (nar hr);exact⟨g2,w2,es,e,⟨hg.grow,hg.keep,hg.tape,hg.drawn,hg.os,hg.out,fun x hx=>(hg.evs x hx).mono (fun c hc=>hc.imp .inl id) fun c hc=>hc⟩,h1,h2⟩
  ·refine ih w1 (nar hr) g2 w2 es he E fun x hx=>?_;obtain⟨h1,h2,h3⟩:=hE x hx;obtain⟨g3,w3,es3,e3,hg,_,_⟩:=c w1 (nar hr);rw[he] at e3;injection e3 with e4 e5 e6
   subst e5;have hlt:x<w1.heap.size:=bz h1 hr.grow;exact⟨bz hlt hg.grow,fun ho=>ho.elim h2 fun hn=>by omega,by rw[hg.keep x hlt h2,hr.keep x (.inl (.inr hx))];exact h3⟩
 |spawn h1 h2 h2' h3 h4 h5 h6 _ ih=>
  intro E hE
  exact .spawn h1 h2 h2' (fun c hc=>(h3 c hc).imp .inl id) h4 (fun c hc=>hc.elim (fun hc=>(h5 c hc).imp .inl id) fun hc=>.inl (.inr hc)) (fun c hc=>⟨(h6 c hc).1,(h6 c hc).2.1,fun h=>h.elim (h6 c hc).2.2 fun he=>(hE c he).2.1 (h6 c hc).1⟩)
   (ih E fun c hc=>⟨(hE c hc).1,fun ho=>(hE c hc).2.1 (h6 c ho).1,(hE c hc).2.2⟩)
 |select h1 _ _ Ux Yy=>
  intro E hE;exact .select h1 (fun v f' e hv=>Ux v f' e hv E hE) fun hf=>Yy hf E hE
structure MS(P:aI)(F:Nat→Bool)(B S O:Nat→Prop)(tmps bt:Array aj)(lw w:ar)(ρ:Rn):Prop where
 av:iu F ρ tmps bt
 wr:WR F P.globals.size B ρ lw w
 s5:P.globals.size≤w.heap.size
 DT:P.globals.size≤lw.heap.size
 own:O=ρ.owns B
 shared:∀c,S c↔∃b,B b∧ρ b=some c
 ok:dw lw
variable{F:Nat→Bool}{B:Nat→Prop}{tmps bt:Array aj}{lw:ar}{ρ:Rn}
theorem MS.rely(h:MS P F B S O tmps bt lw w ρ){w2:ar}(hr:gW (fun c=>S c∨O c) w w2):MS P F B S O tmps bt lw w2 ρ:=
 ⟨h.av,h.wr.rely (by
  have e:(fun c=>S c∨O c)=fun c=>(∃b,B b∧ρ b=some c)∨ρ.owns B c:=by funext c;rw[h.shared c,h.own]
  rwa [e] at hr),aN h.s5 hr.grow,h.DT,h.own,h.shared,h.ok⟩
theorem MS.set(h:MS P F B S O tmps bt lw w ρ){v v':aj}(hv:VR F ρ v v')(i:Nat):MS P F B S O (tmps.setIfInBounds i v) (bt.setIfInBounds i v') lw w ρ:=
 ⟨h.av.set hv i,h.wr,h.s5,h.DT,h.own,h.shared,h.ok⟩
theorem MS.get(h:MS P F B S O tmps bt lw w ρ){i:Nat}{v:aj}(hv:tmps[i]?=some v):∃v',bt[i]?=some v'∧VR F ρ v v':=h.av.get hv
theorem eW.piece(T:Quiet P)(hF:sH P F){fn:dR}{kd:jy}(hE:kd≠.early)(hi:P.inits.idxOf? fn=none){c:gG}(hc:gQ P F c=true)(hc':dP c=true)
  (hm:MS P F B S O tmps bt lw w ρ) {Q:iR→ar→Prop} (hQ:∀a W' τ d,Q a (dr W' τ d)→Q a W') (h:∀τ d,c.wp P (fun e a W'=>e=.normal∧Q a W') ⟨tmps,[]⟩ (dr lw τ d)) {k:List oJ} {cs:List bL}
  (cont:∀kO iL jJ ρ1 O1 w1,MS P F B S O1 kO iL jJ w1 ρ1→Q ⟨kO,[]⟩ jJ→Rn.le ρ ρ1→lw.heap.size≤jJ.heap.size→(∀c,O c→O1 c)→eW P c0 c1 z0 z1 Fin f m acc out S O1 (G (iW fn iL k .run kd) cs) w1) :
  eW P c0 c1 z0 z1 Fin f m acc out S O (G (iW fn bt (.code c::k) .run kd) cs) w:=by
 have hw:=wW (main:=true) T hF hm.DT hE hi hc hc' hm.av hm.wr hm.s5 hm.ok hQ h hm.shared k cs;rw[←hm.own] at hw;refine eW.CD hw ?_;rintro O1 g1 w1 ⟨kO,iL,jJ,ρ1,rfl,MX,hq,hkn⟩;refine cont kO iL jJ ρ1 O1 w1 ⟨MX,hkn.wr,hkn.s5,aN hm.DT hkn.grow,hkn.own,hkn.shared,hkn.ok⟩ hq hkn.le hkn.grow fun c ho=>?_;rw[hm.own] at ho;obtain⟨b,h1,h2⟩:=ho;rw[hkn.own];exact⟨b,h1,hkn.le _ _ h2⟩
def oz(lw:ar)(b:Nat)(cs:Array aj)(e:aX)(n:Nat):World:={ lw with heap:=lw.heap.setIfInBounds b (.cells cs e (0,max cs.size n)) }
theorem wM{b:Nat}{cs:Array aj}{e:aX}{n:Nat}:(oz lw b cs e n).heap.size=lw.heap.size:=by simp[oz]
theorem px{b:Nat}{cs:Array aj}{e:aX}{z:Nat × Nat}(h:lw.heap[b]?=some (.cells cs e z)){x:Nat}:(oz lw b cs e z.2).heap[x]?=if x=b then some (.cells cs e (0,max cs.size z.2)) else lw.heap[x]?:=by
 unfold oz
 by_cases hx:x=b
 ·subst hx;rw[if_pos rfl];exact aZ (ey h)
 ·rw[if_neg hx];exact aA (Ne.symm hx)
theorem WR.freeze{G:Nat}(h:WR F G B ρ lw w){b c:Nat}(hb:ρ b=some c){cs:Array aj}{e:aX}{z:Nat × Nat}(ho:lw.heap[b]?=some (.cells cs e z)):WR F G (fun x=>B x∨x=b) ρ (oz lw b cs e z.2) w:=by
 refine⟨h.inj,h.low,fun x hx=>?_,fun x y hx=>?_,fun x o hx=>?_⟩
 ·rw[wM];exact hx.elim (h.base x) fun e=>e▸ey ho
 ·rw[px ho];obtain⟨o,o',h1,h2,h3,h4⟩:=h.at_ x y hx
  by_cases hxb:x=b
  ·subst hxb;rw[if_pos rfl];rw[ho] at h1;cases h1;refine⟨_,o',rfl,h2,?_,fun _=>⟨_,_,_,rfl,by omega⟩⟩;cases h3 with
   |cells ha hz=>exact .cells ha fun i h5 h6=>⟨Nat.zero_le _,by have:=(hz i h5 h6).2;simp only;omega⟩
  ·rw[if_neg hxb];exact⟨o,o',h1,h2,h3,fun hB=>h4 (hB.elim id fun e=>absurd e hxb)⟩
 ·rw[px ho] at hx;split at hx
  ·cases hx;rfl
  ·exact h.H6 _ _ hx
theorem KJ{b:Nat}{cs:Array aj}{e:aX}{z:Nat × Nat}(ho:lw.heap[b]?=some (.cells cs e z))(h:dw lw):dw (oz lw b cs e z.2):=by
 intro x o hx;rw[px ho] at hx;split at hx
 ·cases hx;exact .inl rfl
 ·exact h x o hx
theorem MS.freeze(h:MS P F B S O tmps bt lw w ρ){b c:Nat}(hb:ρ b=some c)(hB:¬B b){cs:Array aj}{e:aX}{z:Nat × Nat}(ho:lw.heap[b]?=some (.cells cs e z)) :
  MS P F (fun x=>B x∨x=b) (fun x=>S x∨x=c) (fun x=>O x∧x≠c) tmps bt (oz lw b cs e z.2) w ρ:=by
 refine⟨h.av,h.wr.freeze hb ho,h.s5,by rw[wM];exact h.DT,?_,fun x=>?_,KJ ho h.ok⟩
 ·funext x
  rw[h.own];refine propext ⟨fun⟨⟨y,h1,h2⟩,h3⟩=>⟨y,fun h4=>h4.elim h1 fun e=>h3 ?_,h2⟩,fun⟨y,h1,h2⟩=>⟨⟨y,fun hy=>h1 (.inl hy),h2⟩,fun e=>h1 (.inr ?_)⟩⟩
  ·subst e;rw[hb] at h2;exact(bf h2).symm
  ·subst e;exact h.wr.inj _ _ _ h2 hb
 ·constructor
  ·rintro(hx|rfl)
   ·obtain⟨y,h1,h2⟩:=(h.shared x).1 hx;exact⟨y,.inl h1,h2⟩
   ·exact⟨b,.inr rfl,hb⟩
  ·rintro⟨y,h1|rfl,h2⟩
   ·exact .inl ((h.shared x).2 ⟨y,h1,h2⟩)
   ·rw[hb] at h2;exact .inr (bf h2).symm
variable{fn:dR}{kd:jy}{k:List oJ}{cs:List bL}{ops:Array cz}
theorem U0{i:Nat}{rest:List Nat}{o:cz}{x:bE}{tys:Array aX}(Cj:kd≠.early)(ho:ops[i]?=some o)(hop:o.op=.go { callee:=.value x,args:=#[],argTypes:=tys })(hd:o.dst=none)(hg:o.guard=none)
  {fi:dR} {captured:Array aj} (hx:(iW fn tmps (.inRegion ops (i::rest)::k) .run kd).eval x=.func (.func fi) #[] captured):AtGo P (GK fn tmps (.inRegion ops (i::rest)::k) kd cs) (GK fn tmps (.inRegion ops rest::k) kd cs) (vK P fi captured):=by
 refine⟨rfl,rfl,fun w=>?_⟩;have hw:((ops[i]?).map (cF · (jR ops tmps))).getD false=true:=by rw[ho];simp[cF,hg]
 have VK:(kd == .early)=false:=beq_eq_false_iff_ne.2 Cj;have e1:eM P true (GK fn tmps (.inRegion ops (i::rest)::k) kd cs) w=eI P true (iW fn tmps (.inRegion ops (i::rest)::k) .run kd) cs none w:=if_pos hw;rw[e1]
 have e2:bX (iW fn tmps (.inRegion ops (i::rest)::k) .run kd).eval o=eE (Next.spawn { target:=.fn (.func fi) captured,args:=#[] }):=by
  unfold bX;rw[hop];simp only[resolve,hx,Deferred.ofValue,List.map_toArray,fO,dS,pure_bind]
 have e3:eI P true (iW fn tmps (.inRegion ops (i::rest)::k) .run kd) cs none w=dX P true (iW fn tmps (.inRegion ops (i::rest)::k) .run kd) cs none (bX (iW fn tmps (.inRegion ops (i::rest)::k) .run kd).eval o) w:=by
  unfold eI;have:(iW fn tmps (.inRegion ops (i::rest)::k) .run kd).oper?=some o:=ho;rw[this];rfl
 rw[e3,e2];unfold dX;have e4:(eE (Next.spawn { target:=.fn (.func fi) captured,args:=#[] }):Sem Next).runT P w #[]=(.ok (.spawn { target:=.fn (.func fi) captured,args:=#[] }) w,#[]):=rfl;simp only[if_true,e4];simp only[iW,VK,bu,if_false,GStep.after,dS,Frame.finish,ho,gg,hd,Bool.and_false,Bool.false_and];rfl
theorem Rz{i:Nat}{rest:List Nat}{o:cz}{x y:bE}{t0 t1:aX}(Cj:kd≠.early)(ho:ops[i]?=some o)(hop:o.op=.select #[{ chan:=x,send:=none,elem:=t0 },{ chan:=y,send:=none,elem:=t1 }] true)(hg:o.guard=none)
  (hz0:∀w es,(iD t0).runT P w es=(.ok z0 w,es)) (hz1:∀w es,(iD t1).runT P w es=(.ok z1 w,es))
  (hx:(iW fn tmps (.inRegion ops (i::rest)::k) .run kd).eval x=.chan (some c0)) (hy:(iW fn tmps (.inRegion ops (i::rest)::k) .run kd).eval y=.chan (some c1)):XW P c0 c1 z0 z1 (GK fn tmps (.inRegion ops (i::rest)::k) kd cs):=by
 refine⟨rfl,rfl,rfl,fun w=>?_⟩;have hw:((ops[i]?).map (cF · (jR ops tmps))).getD false=true:=by rw[ho];simp[cF,hg]
 have VK:(kd == .early)=false:=beq_eq_false_iff_ne.2 Cj;have e1:eM P true (GK fn tmps (.inRegion ops (i::rest)::k) kd cs) w=eI P true (iW fn tmps (.inRegion ops (i::rest)::k) .run kd) cs none w:=if_pos hw;rw[e1]
 have e2:(bX (iW fn tmps (.inRegion ops (i::rest)::k) .run kd).eval o).runT P w #[]=(.ok (Next.comm (jN c0 c1 z0 z1) true .select) w,#[]):=by
  have h1:bX (iW fn tmps (.inRegion ops (i::rest)::k) .run kd).eval o=((iD t0).bind fun a=>(iD t1).bind fun b=>eE (Next.comm #[{ chan:=.chan (some c0),send:=none,zero:=a },{ chan:=.chan (some c1),send:=none,zero:=b }] true .select)):=by
   unfold bX;rw[hop];simp only[Array.mapM_eq_mapM_toList,←List.mapM'_eq_mapM,List.mapM',hx,hy,Option.map_none,bind_assoc,pure_bind,map_eq_pure_bind];rfl
  rw[h1,Sem.runT_bind',hz0];simp only;rw[Sem.runT_bind',hz1];rfl
 have e3:eI P true (iW fn tmps (.inRegion ops (i::rest)::k) .run kd) cs none w=dX P true (iW fn tmps (.inRegion ops (i::rest)::k) .run kd) cs none (bX (iW fn tmps (.inRegion ops (i::rest)::k) .run kd).eval o) w:=by
  unfold eI;have:(iW fn tmps (.inRegion ops (i::rest)::k) .run kd).oper?=some o:=ho;rw[this];rfl
 rw[e3];unfold dX;simp only[if_true,e2];simp only[iW,VK,bu,if_false];rfl
theorem ER{i:Nat}{rest:List Nat}{o:cz}{d:Tmp}(ho:ops[i]?=some o)(hd:o.dst=some d)(kk:Nat)(v:aj) :
  ik P c0 c1 z0 z1 (GK fn tmps (.inRegion ops (i::rest)::k) kd cs) kk v=GK fn (tmps.setIfInBounds d (.tuple #[goInt kk,.bool true,if kk=0 then v else z0,if kk=1 then v else z1])) (.inRegion ops rest::k) kd cs:=by
 have hc:commResult (jN c0 c1 z0 z1) .select kk v true=.tuple #[goInt kk,.bool true,if kk=0 then v else z0,if kk=1 then v else z1]:=by
  simp only[commResult,jN,rcase]
  congr 1
  have e0:(((0:Nat):Int)=(kk:Int))=(kk=0):=by apply propext;omega
  have e1:(((1:Nat):Int)=(kk:Int))=(kk=1):=by apply propext;omega
  simp;simp only[Int.natCast_zero,Int.natCast_one] at e0 e1;constructor
  ·by_cases h:kk=0<;>simp[h,e0]<;>omega
  ·by_cases h:kk=1<;>simp[h,e1]<;>omega
 simp only[ik,Goroutine.finishComm,GK,G,iW,Frame.finish,ho,hd,gg,hc]
end
section
variable{P:aI}{c0 c1:Nat}{z0 z1:aj}{Fin:List aj→List aj→(Nat→Prop)→(Nat→Prop)→aB→ar→Prop}{f m:Nat}{acc out:List aj}{S O:Nat→Prop}{g:aB}{w:ar}
 {F:Nat→Bool} {B:Nat→Prop} {tmps bt:Array aj} {lw:ar} {ρ:Rn}
theorem MS.vB(h:MS P F B S O tmps bt lw w ρ){c:Nat}(hc:S c):c<w.heap.size∧¬O c:=by
 obtain⟨b,hB,hρ⟩:=(h.shared c).1 hc;obtain⟨o,o',_,h2,_⟩:=h.wr.at_ b c hρ;refine⟨ey h2,fun ho=>?_⟩;rw[h.own] at ho;obtain⟨b',h1,h3⟩:=ho;exact h1 (h.wr.inj _ _ _ hρ h3▸hB)
theorem eW.X9(T:Quiet P)(hF:sH P F){fn:dR}{kd:jy}(hE:kd≠.early)(hi:P.inits.idxOf? fn=none){c:gG}(hc:gQ P F c=true)(hc':dP c=true)
  (hm:MS P F B S O tmps bt lw w ρ) {Q:iR→ar→Prop} (hQ:∀a W' τ d,Q a (dr W' τ d)→Q a W') (h:∀τ d,c.wp P (fun e a W'=>e=.normal∧Q a W') ⟨tmps,[]⟩ (dr lw τ d)) {k:List oJ} {cs:List bL}
  (cont:∀kO iL jJ ρ1 O1 w1,MS P F B S O1 kO iL jJ w1 ρ1→Q ⟨kO,[]⟩ jJ→Rn.le ρ ρ1→(∀c,O c→O1 c)→(∀c,S c→w1.heap[c]?=w.heap[c]?)→eW P c0 c1 z0 z1 Fin f m acc out S O1 (G (iW fn iL k .run kd) cs) w1) :
  eW P c0 c1 z0 z1 Fin f m acc out S O (G (iW fn bt (.code c::k) .run kd) cs) w:=by
 have hw:=wW (main:=true) T hF hm.DT hE hi hc hc' hm.av hm.wr hm.s5 hm.ok hQ h hm.shared k cs;rw[←hm.own] at hw;have hw':=hw.keep w fun c hc=>⟨(hm.vB hc).1,(hm.vB hc).2,rfl⟩
 refine eW.CD hw' ?_;rintro O1 g1 w1 ⟨⟨kO,iL,jJ,ρ1,rfl,MX,hq,hkn⟩,hk⟩;refine cont kO iL jJ ρ1 O1 w1 ⟨MX,hkn.wr,hkn.s5,aN hm.DT hkn.grow,hkn.own,hkn.shared,hkn.ok⟩ hq hkn.le (fun c ho=>?_) fun c hc=>(hk c hc).2.2;rw[hm.own] at ho;obtain⟨b,h1,h2⟩:=ho;rw[hkn.own];exact⟨b,h1,hkn.le _ _ h2⟩
theorem eW.op{ops:Array cz}{i:Nat}{rest:List Nat}{o:cz}{fn:dR}{kd:jy}{k:List oJ}{cs:List bL}{v:aj}{d:Tmp}(Cj:kd≠.early)(ho:ops[i]?=some o)(hg:o.guard=none)(hd:o.dst=some d)
  (h:∀w,(bX (iW fn bt (.inRegion ops (i::rest)::k) .run kd).eval o).runT P w #[]=(.ok (.value v) w,#[]))
  (hk:eW P c0 c1 z0 z1 Fin f m acc out S O (GK fn (bt.setIfInBounds d v) (.inRegion ops rest::k) kd cs) w):eW P c0 c1 z0 z1 Fin f m acc out S O (GK fn bt (.inRegion ops (i::rest)::k) kd cs) w:=by
 refine .ctl rfl rfl (fun w=>?_) rfl rfl hk;have:=N0 (P:=P) (main:=true) (fn:=fn) (tmps:=bt) (kd:=kd) (k:=k) (cs:=cs) (rest:=rest) Cj ho hg (h w);rw[this];simp only[hd];rfl
end
end Go.Lag
namespace Go.Proofs.YtffladgmkiimjaaGreatDoor
open Go.RowKit Go.Lag
open Go.Conc
def lZ(X:Nat→Prop)(w:ar)(v:aj)(n:Nat)(xs:List aj):Prop:=
 (v=.slice none 0 0∧n=0∧xs=[])∨∃g off cap,v=.slice (some ⟨g,off,none⟩) n cap∧(n≤4294967296∧n≤cap)∧X g∧∀j u,xs[j]?=some u→w.cell? ⟨g,off+j,none⟩=some u
theorem lZ.to{X:Nat→Prop}{w0 w:ar}{v:aj}{n:Nat}{xs:List aj}(h:lZ X w0 v n xs)(hlt:∀c,X c→c<w.heap.size)(hc:∀a:cU,X a.block→w.cell? a=w0.cell? a):Reads w v n xs:=by
 rcases h with h|⟨g,off,cap,h1,h2,h3,h4⟩
 ·exact .inl h
 ·exact .inr ⟨g,off,cap,h1,h2,hlt g h3,fun j u hj=>(hc ⟨g,off+j,none⟩ h3).trans (h4 j u hj)⟩
structure NL(P:aI)(b:BB)(men sent marks all:aj)(l:List eA)(ss:List Int)(ms:List Mk)(X0:Nat→Prop)(w0:ar)(xb fb tb c0 c1:Nat):Prop where
 e:P=aq
 f178:P.funcs[(178:Nat)]?=some Tryz.f178
 i159:P.inits.idxOf? 159=none
 i178:P.inits.idxOf? 178=none
 ok:b.Ok
 Z1:∀a∈l,a.Ok
 Gf:∀s∈ss,1≤s∧s≤8
 mks:∀m∈ms,1≤m.minute∧m.minute≤8
 cl:Closed fw X0 w0
 low:∀c,X0 c→P.globals.size≤c
 s5:P.globals.size≤w0.heap.size
 xx:X0 xb
 xf:X0 fb
 xt:X0 tb
 xc:∀i u,(b.open men sent marks all)[i]?=some u→w0.cell? ⟨xb,i,none⟩=some u
 fc:w0.cell? ⟨fb,0,none⟩=some (.chan (some c0))
 tc:w0.cell? ⟨tb,0,none⟩=some (.chan (some c1))
 rs:lZ X0 w0 sent ss.length (ss.map (aD .i64))
 rm:lZ X0 w0 marks ms.length (dm ms)
 ra:lZ X0 w0 all l.length (rowOf l)
def Kp(X0:Nat→Prop)(w0 lw:ar):Prop:=∀c,X0 c→lw.heap[c]?=(shut X0 w0).heap[c]?
section
variable{P:aI}{b:BB}{men sent marks all:aj}{l:List eA}{ss:List Int}{ms:List Mk}{X0:Nat→Prop}{w0:ar}{xb fb tb c0 c1:Nat}
 {S O:Nat→Prop} {tmps bt:Array aj} {lw w:ar} {ρ:Rn} {B:Nat→Prop}
theorem Kp.cell(h:Kp X0 w0 lw){a:cU}(ha:X0 a.block):lw.cell? a=w0.cell? a:=(iF (h _ ha)).trans (vA ha)
theorem Kp.lt(E:NL P b men sent marks all l ss ms X0 w0 xb fb tb c0 c1)(h:Kp X0 w0 lw){c:Nat}(hc:X0 c):c<lw.heap.size:=by
 obtain⟨cs,e,z,h1,_⟩:=E.cl c hc;have:=h c hc;rw[C6 h1 hc] at this;exact ey this
theorem Kp.below(E:NL P b men sent marks all l ss ms X0 w0 xb fb tb c0 c1)(h:Kp X0 w0 lw){ek:ar}(hb:az lw.heap.size lw ek):Kp X0 w0 ek:=fun c hc=>(hb.block c (h.lt E hc)).trans (h c hc)
theorem Kp.reads(E:NL P b men sent marks all l ss ms X0 w0 xb fb tb c0 c1)(h:Kp X0 w0 lw){v:aj}{n:Nat}{xs:List aj}(hr:lZ X0 w0 v n xs):Reads lw v n xs:=hr.to (fun c hc=>h.lt E hc) fun a ha=>h.cell ha
theorem Kp.heap(h:Kp X0 w0 lw){ek:ar}(e:ek.heap=lw.heap):Kp X0 w0 ek:=fun c hc=>by rw[e];exact h c hc
structure St(P:aI)(X0:Nat→Prop)(w0:ar)(S O:Nat→Prop)(tmps bt:Array aj)(lw w:ar)(ρ:Rn)(B:Nat→Prop):Prop where
 ms:MS P fw B S O tmps bt lw w ρ
 id:Rn.le (xo X0) ρ
 xB:∀c,X0 c→B c
 kp:Kp X0 w0 lw
 kw:∀c,X0 c→w.heap[c]?=w0.heap[c]?
theorem St.xS(st:St P X0 w0 S O tmps bt lw w ρ B){c:Nat}(hc:X0 c):S c:=(st.ms.shared c).2 ⟨c,st.xB c hc,st.id _ _ (uT hc)⟩
theorem Wu{ρ:Rn}(hid:Rn.le (xo X0) ρ){a a':cU}(ha:X0 a.block)(h:AR ρ a a'):a'=a:=by
 have h1:=hid _ _ (uT ha);have h2:=h.block;rw[h1] at h2;have h3:=bf h2;have h4:=h.off;have h5:=h.spot;obtain⟨b1,o1,s1⟩:=a;obtain⟨b2,o2,s2⟩:=a';dsimp only at h3 h4 h5;subst h3;subst h4;subst h5;rfl
theorem St.ptr(st:St P X0 w0 S O tmps bt lw w ρ B){i:Nat}{a:cU}(ha:X0 a.block)(hi:tmps[i]?=some (ptr a)):bt[i]?=some (ptr a):=by
 obtain⟨y,hy,hv⟩:=st.ms.get hi;cases hv with
 |@ptr _ a' E9=>rw[Wu st.id ha E9] at hy;exact hy
theorem St.flat(st:St P X0 w0 S O tmps bt lw w ρ B){i:Nat}{v:aj}(hv:v.oneCell'=true∧(match v with|.bool _|.int ..|.chan _=>true|_=>false)=true)(hi:tmps[i]?=some v):bt[i]?=some v:=by
 obtain⟨y,hy,h⟩:=st.ms.get hi;obtain⟨_,h2⟩:=hv;cases h<;>first|exact hy|cases h2
theorem St.bool(st:St P X0 w0 S O tmps bt lw w ρ B){i:Nat}{x:Bool}(hi:tmps[i]?=some (.bool x)):bt[i]?=some (.bool x):=st.flat ⟨rfl,rfl⟩ hi
theorem St.chan(st:St P X0 w0 S O tmps bt lw w ρ B){i:Nat}{x:Option Nat}(hi:tmps[i]?=some (.chan x)):bt[i]?=some (.chan x):=st.flat ⟨rfl,rfl⟩ hi
variable{z0 z1:aj}{Fin:List aj→List aj→(Nat→Prop)→(Nat→Prop)→aB→ar→Prop}{f m:Nat}{acc out:List aj}
theorem St.piece(E:NL P b men sent marks all l ss ms X0 w0 xb fb tb c0 c1)(st:St P X0 w0 S O tmps bt lw w ρ B){c:gG}(hc:(gQ aq fw c&&dP c)=true){R:iR→ar→Prop}(hR:∀a W' τ d,R a (dr W' τ d)→R a W')
  (h:∀ek,ek.heap=lw.heap→c.wp aq (fun e a W'=>e=.normal∧R a W'∧Kp X0 w0 W') ⟨tmps,[]⟩ ek) {k:List oJ} {cs:List bL}
  (cont:∀kO iL jJ ρ1 O1 w1,St P X0 w0 S O1 kO iL jJ w1 ρ1 B→R ⟨kO,[]⟩ jJ→Rn.le ρ ρ1→(∀c,O c→O1 c)→eW P c0 c1 z0 z1 Fin f m acc out S O1 (GK 159 iL k .normal cs) w1) :
  eW P c0 c1 z0 z1 Fin f m acc out S O (GK 159 bt (.code c::k) .normal cs) w:=by
 have hq:Quiet P:=quiet_of E.e;have Ql:sH P fw:=KI E.e;rw[Bool.and_eq_true] at hc;refine eW.X9 hq Ql (by simp) E.i159 (by rw[E.e];exact hc.1) hc.2 st.ms (Q:=fun a W'=>R a W'∧Kp X0 w0 W') (fun a W' τ d hq=>⟨hR _ _ _ _ hq.1,hq.2⟩) (fun τ d=>by rw[E.e];exact h (dr lw τ d) rfl) ?_;intro kO iL jJ ρ1 O1 w1 Kr hq hle hO hS;exact cont kO iL jJ ρ1 O1 w1 ⟨Kr,fun b c h=>hle _ _ (st.id _ _ h),st.xB,hq.2,fun c hc=>(hS c (st.xS hc)).trans (st.kw c hc)⟩ hq.1 hle hO
end
theorem uO{c:gG}(h:c∈[gR5,gR6,gR7,Zy,gR9,KH,FC,Qz,Ap,Ao,Qy]):(gQ aq fw c&&dP c)=true:=List.all_eq_true.1 aeE c h
theorem aes:∀w es,(iD 108).runT aq w es=(.ok (.int .i64 0) w,es):=fun _ _=>by kernel_rfl
theorem z4:∀w es,(iD 4).runT aq w es=(.ok (.bool false) w,es):=fun _ _=>by kernel_rfl
theorem s16:(opsOf ni).size=4:=by kernel_rfl
theorem DI:(opsOf ni)[0]?=some ((opsOf ni).getD 0 default)∧((opsOf ni).getD 0 default).op=.select #[{ chan:=.tmp 57,send:=none,elem:=108 },{ chan:=.tmp 58,send:=none,elem:=4 }] true∧((opsOf ni).getD 0 default).dst=some 59∧((opsOf ni).getD 0 default).guard=none:=⟨by kernel_rfl,by kernel_rfl,by kernel_rfl,by kernel_rfl⟩
theorem Bv:(opsOf ni)[1]?=some ((opsOf ni).getD 1 default)∧((opsOf ni).getD 1 default).op=.extract (.tmp 59) 0∧((opsOf ni).getD 1 default).dst=some 60∧((opsOf ni).getD 1 default).guard=none:=⟨by kernel_rfl,by kernel_rfl,by kernel_rfl,by kernel_rfl⟩
theorem Bu:(opsOf ni)[2]?=some ((opsOf ni).getD 2 default)∧((opsOf ni).getD 2 default).op=.binOp .eql 3 (.tmp 60) (.const (.int .i64 0)) 3∧((opsOf ni).getD 2 default).dst=some 61∧((opsOf ni).getD 2 default).guard=none:=⟨by kernel_rfl,by kernel_rfl,by kernel_rfl,by kernel_rfl⟩
theorem Bt:(opsOf ni)[3]?=some ((opsOf ni).getD 3 default)∧((opsOf ni).getD 3 default).op=.binOp .eql 3 (.tmp 60) (.const (.int .i64 1)) 3∧((opsOf ni).getD 3 default).dst=some 62∧((opsOf ni).getD 3 default).guard=none:=⟨by kernel_rfl,by kernel_rfl,by kernel_rfl,by kernel_rfl⟩
theorem Bp{fr:bL}{o:cz}{x:bE}{i:Nat}{vs:Array aj}{v:aj}(ho:o.op=.extract x i)(hx:fr.eval x=.tuple vs)(hv:vs[i]?=some v)(P:aI)(w:ar):(bX fr.eval o).runT P w #[]=(.ok (.value v) w,#[]):=by
 unfold bX;rw[ho];simp only[hx,Instr.extract,hv];rfl
theorem ac1{fr:bL}{o:cz}{x:bE}(ho:o.op=.binOp .eql 3 x (.const (.int .i64 0)) 3)(hx:fr.eval x=.int .i64 0)(w:ar):(bX fr.eval o).runT aq w #[]=(.ok (.value (.bool true)) w,#[]):=by
 unfold bX;rw[ho];simp only[hx]
 kernel_rfl
theorem ac0{fr:bL}{o:cz}{x:bE}(ho:o.op=.binOp .eql 3 x (.const (.int .i64 1)) 3)(hx:fr.eval x=.int .i64 0)(w:ar):(bX fr.eval o).runT aq w #[]=(.ok (.value (.bool false)) w,#[]):=by
 unfold bX;rw[ho];simp only[hx]
 kernel_rfl
theorem acZ{fr:bL}{o:cz}{x:bE}(ho:o.op=.binOp .eql 3 x (.const (.int .i64 0)) 3)(hx:fr.eval x=.int .i64 1)(w:ar):(bX fr.eval o).runT aq w #[]=(.ok (.value (.bool false)) w,#[]):=by
 unfold bX;rw[ho];simp only[hx]
 kernel_rfl
theorem acY{fr:bL}{o:cz}{x:bE}(ho:o.op=.binOp .eql 3 x (.const (.int .i64 1)) 3)(hx:fr.eval x=.int .i64 1)(w:ar):(bX fr.eval o).runT aq w #[]=(.ok (.value (.bool true)) w,#[]):=by
 unfold bX;rw[ho];simp only[hx]
 kernel_rfl
theorem pj{w w':ar}{B:Nat}{e:aX}{size:Nat}{v:aj}{n:Nat}{xs:List aj}(h:w.ownsRow B e size v n xs)(he:w'.heap=w.heap):w'.ownsRow B e size v n xs:=by
 unfold World.ownsRow at *;rw[he];exact h
def ints(l:List Nat):List Value:=l.map fun(p:Nat)=>aD .i64 (p:Int)
theorem GH.set{fb tb:Nat}{tmps:Array aj}{many:Int}{v:aj}(h:GH fb tb tmps many v)(i:Nat)(x:aj)(hi:i≠4∧i≠5∧i≠6∧i≠9):GH fb tb (tmps.setIfInBounds i x) many v:=
 ⟨by simp[h.size],by rw[aA (by omega)];exact h.t4,by rw[aA (by omega)];exact h.t5,by rw[aA (by omega)];exact h.t6,by rw[aA (by omega)];exact h.t9⟩
section
variable{P:aI}{b:BB}{men sent marks all:aj}{l:List eA}{ss:List Int}{ms:List Mk}{X0:Nat→Prop}{w0:ar}{xb fb tb c0 c1:Nat}
 {S O:Nat→Prop} {tmps bt:Array aj} {lw w:ar} {ρ:Rn} {B:Nat→Prop} {cs:List bL} {K:List oJ}
theorem St.set(st:St P X0 w0 S O tmps bt lw w ρ B){v v':aj}(hv:VR fw ρ v v')(i:Nat):St P X0 w0 S O (tmps.setIfInBounds i v) (bt.setIfInBounds i v') lw w ρ B:=⟨st.ms.set hv i,st.id,st.xB,st.kp,st.kw⟩
theorem St.size(st:St P X0 w0 S O tmps bt lw w ρ B):tmps.size=bt.size:=st.ms.av.size
theorem St.row(st:St P X0 w0 S O tmps bt lw w ρ B){i:Nat}{v:aj}{B0:Nat}{out:List Nat}(hi:tmps[i]?=some v)(ho:lw.ownsRow B0 108 1 v out.length (ints out))(hn:out.length≤1000):∃v',bt[i]?=some v'∧Reads w v' out.length (ints out):=by
 obtain⟨v',hy,hv⟩:=st.ms.get hi;refine⟨v',hy,?_⟩;have hc:=fun g hg=>ho.cells (g:=g) hg;have hlen:out.length=0→ints out=[]:=fun h0=>by rw[List.eq_nil_of_length_eq_zero h0];rfl
 rcases ho.2 with⟨rfl,h0⟩|⟨g,cap,cur,rfl,h9⟩
 ·cases hv with
  |DJ=>exact .inl ⟨rfl,h0,hlen h0⟩
 ·cases hv with
  |@slice _ a' _ _ E9=>
   obtain⟨o,o',h1,h2,_⟩:=st.ms.wr.at_ _ _ E9.block
   have e:a'=⟨a'.block,0,none⟩:=by
    have h4:=E9.off;have h5:=E9.spot;obtain⟨x,y,z⟩:=a';dsimp only at h4 h5 ⊢;subst h4;subst h5;rfl
   refine .inr ⟨a'.block,0,cap,by rw[e],⟨by omega,h9.2.2.1⟩,ey h2,fun j u hj=>?_⟩
   have hl:lw.cell? ⟨g,0+j,none⟩=some u:=by
    have:=hc g rfl j u hj;cases j<;>simpa [Addr.add] using this
   obtain⟨u',hu,hvu⟩:=st.ms.wr.cell (a:=⟨g,0+j,none⟩) (a':=⟨a'.block,0+j,none⟩) ⟨E9.block,rfl,rfl⟩ hl;obtain⟨p,_,rfl⟩:=List.mem_map.1 (List.mem_of_getElem? hj);cases hvu;exact hu
def WU(A:List aj)(K:List oJ)(cs:List bL)(acc out:List aj)(S O:Nat→Prop)(g:aB)(w:ar):Prop:=
 ∃(bt:Array aj) (v:aj) (kq:List Nat),g=GK 159 bt (.code vX::K) .normal cs∧bt.size=71∧bt[9]?=some v∧out=ints kq∧Reads w v kq.length (ints kq)∧acc=A
section
variable{k:List oJ}{kd:jy}
theorem ac7(w:ar):eM P true (GK 159 bt (.code LP::k) kd cs) w=.go (GK 159 bt (.code (.seq Qz (.cond (.tmp 56) .skip (.exit 2)))::.code (.block 3 Tv)::k) kd cs) w #[]:=by rw[Zz];exact jE _ _ w
theorem ac9(w:ar):eM P true (GK 159 bt (.code Tv::k) kd cs) w=.go (GK 159 bt (.code Ap::.code (.seq ni (.block 4 Tt))::k) kd cs) w #[]:=by rw[ZC];exact jE _ _ w
theorem ZR(w:ar):eM P true (GK 159 bt (.code ni::k) kd cs) w=.go (GK 159 bt (.inRegion (opsOf ni) [0,1,2,3]::k) kd cs) w #[]:=by
 have h:=tk (P:=P) (main:=true) (fn:=159) (tmps:=bt) (kd:=kd) (k:=k) (cs:=cs) 16 (opsOf ni) w;rw[←V7,s16] at h;exact h
theorem XL{x:Bool}(h:(iW 159 bt (.code Tt::k) .run kd).eval (.tmp 61)=.bool x)(w:ar):eM P true (GK 159 bt (.code Tt::k) kd cs) w=.go (GK 159 bt (.code (if x then Ao else .cond (.tmp 62) Qy .skip)::k) kd cs) w #[]:=by rw[ZB] at h ⊢;exact sj h w
end
theorem Zw(t:Array aj)(h:t.size=71)(a b c d:aj):((((t.setIfInBounds 59 a).setIfInBounds 60 b).setIfInBounds 61 c).setIfInBounds 62 d)[59]?=some a∧((((t.setIfInBounds 59 a).setIfInBounds 60 b).setIfInBounds 61 c).setIfInBounds 62 d)[61]?=some c∧((((t.setIfInBounds 59 a).setIfInBounds 60 b).setIfInBounds 61 c).setIfInBounds 62 d)[62]?=some d∧
  (t.setIfInBounds 59 a)[59]?=some a∧((t.setIfInBounds 59 a).setIfInBounds 60 b)[60]?=some b∧(((t.setIfInBounds 59 a).setIfInBounds 60 b).setIfInBounds 61 c)[60]?=some b:=by
 refine⟨?_,?_,?_,?_,?_,?_⟩<;>simp[Array.getElem?_setIfInBounds,h]
theorem GH.aa2{fb tb:Nat}{tmps:Array aj}{many:Int}{v:aj}(h:GH fb tb tmps many v)(a b c d:aj):GH fb tb ((((tmps.setIfInBounds 59 a).setIfInBounds 60 b).setIfInBounds 61 c).setIfInBounds 62 d) many v:=
 (((h.set 59 a (by omega)).set 60 b (by omega)).set 61 c (by omega)).set 62 d (by omega)
theorem qQ{F:Nat→Bool}{ρ:Rn}{v:aj}(h:Ej v=true):VR F ρ v v:=za h
theorem abI(E:NL P b men sent marks all l ss ms X0 w0 xb fb tb c0 c1):∀(N f many:Nat) (jS kq:List Nat) (S O:Nat→Prop) (tmps bt:Array aj) (lw w:ar) (ρ:Rn) (B:Nat→Prop) (v:aj) (B0:Nat),
  f+many=N→f≤many→many≤600→kq.length+f≤600→St P X0 w0 S O tmps bt lw w ρ B→GH fb tb tmps many v→lw.ownsRow B0 108 1 v kq.length (ints kq)→B0≤lw.heap.size→(∀c,X0 c→c<B0)→
  eW P c0 c1 (.int .i64 0) (.bool false) (WU (ints jS) K cs) f many (ints jS) (ints kq) S O (GK 159 bt (.code LP::.inLoop LP::.inBlock 2::.code vX::K) .normal cs) w:=by
 intro N
 induction N using Nat.strongRecOn with
 |ind N ih=>
  intro f many jS kq S O tmps bt lw w ρ B v B0 hN hfm hm6 hof st Fy hown hB0 UF;refine .ctl rfl rfl ac7 rfl rfl (.ctl rfl rfl (jE _ _) rfl rfl ?_);refine st.piece E (uO (by simp)) (R:=fun a W'=>(GH fb tb a.tmps many v∧a.tmps[56]?=some (.bool (decide ((0:Int)<many))))∧W'.ownsRow B0 108 1 v kq.length (ints kq)∧B0≤W'.heap.size) (fun _ _ _ _ h=>h) (fun ek uV=>?_) ?_
  ·refine AX (aey Fy) ?_;rintro e a W' ⟨rfl,h1,h2,rfl⟩;exact⟨rfl,⟨⟨h1,h2⟩,pj hown uV,by rw[uV];exact hB0⟩,st.kp.heap uV⟩
  clear st Fy hown hB0;rintro tmps bt lw ρ O w st ⟨⟨Fy,h56⟩,hown,hB0⟩ - -;have acM:=st.bool h56;refine .ctl rfl rfl (sj (bq acM)) rfl rfl ?_
  by_cases hz:many=0
  ·subst hz;obtain rfl:f=0:=by omega
   rw[show decide ((0:Int)<((0:Nat):Int))=false from rfl];refine .ctl rfl rfl (Et (k':=.code vX::K) rfl) rfl rfl ?_;refine .fin rfl fun w1 hr=>?_;have N2:St P X0 w0 S O tmps bt lw w1 ρ B:=⟨st.ms.rely hr,st.id,st.xB,st.kp,fun c hc=>(hr.keep c (.inl (st.xS hc))).trans (st.kw c hc)⟩
   obtain⟨v',hv',BH⟩:=N2.row Fy.t9 hown (by omega);exact⟨bt,v',kq,rfl,by rw[←N2.size];exact Fy.size,hv',rfl,BH,rfl⟩
  obtain⟨m,rfl⟩:∃m,many=m+1:=⟨many-1,by omega⟩
  rw[show decide ((0:Int)<((m+1:Nat):Int))=true from decide_eq_true (by omega)];refine .ctl rfl rfl (fun w=>zm w) rfl rfl (.ctl rfl rfl (pJ _ _) rfl rfl (.ctl rfl rfl ac9 rfl rfl ?_));have hcf:lw.cell? ⟨fb,0,none⟩=some (.chan (some c0)):=(st.kp.cell E.xf).trans E.fc;have UD:lw.cell? ⟨tb,0,none⟩=some (.chan (some c1)):=(st.kp.cell E.xt).trans E.tc;refine st.piece E (uO (by simp)) (R:=fun a W'=>(GH fb tb a.tmps (m+1:Nat) v∧a.tmps[57]?=some (.chan (some c0))∧a.tmps[58]?=some (.chan (some c1)))∧W'.ownsRow B0 108 1 v kq.length (ints kq)∧B0≤W'.heap.size) (fun _ _ _ _ h=>h) (fun ek uV=>?_) ?_
  ·refine AX (Yb Fy ((iF (by rw[uV])).trans hcf) ((iF (by rw[uV])).trans UD)) ?_;rintro e a W' ⟨rfl,h1,h2,h3,rfl⟩;exact⟨rfl,⟨⟨h1,h2,h3⟩,pj hown uV,by rw[uV];exact hB0⟩,st.kp.heap uV⟩
  clear st Fy hown hB0 hcf UD h56 acM;rintro tmps bt lw ρ O w st ⟨⟨Fy,h57,h58⟩,hown,hB0⟩ - -;have Zt:=st.chan h57;have Zs:=st.chan h58;refine .ctl rfl rfl (jE _ _) rfl rfl (.ctl rfl rfl ZR rfl rfl ?_);refine .select (Rz (t0:=108) (t1:=4) (by simp) DI.1 DI.2.1 DI.2.2.2 (by rw[E.e];exact aes) (by rw[E.e];exact z4) (bq Zt) (bq Zs)) (fun x f' hf' hx=>?_) (fun afH=>?_)
  ·obtain⟨p,hp,rfl⟩:=List.mem_map.1 hx;subst hf';rw[ER DI.1 DI.2.2.1];have ev:(Value.tuple #[goInt ((0:Nat):Int),.bool true,if (0:Nat)=0 then .int .i64 (p:Int) else .int .i64 0,if (0:Nat)=1 then .int .i64 (p:Int) else .bool false])=.tuple #[.int .i64 0,.bool true,.int .i64 (p:Int),.bool false]:=by simp[goInt]
   rw[ev];have hsz:bt.size=71:=by rw[←st.size];exact Fy.size
   obtain⟨g1,g2,g3,g4,g5,g6⟩:=Zw bt hsz (.tuple #[.int .i64 0,.bool true,.int .i64 (p:Int),.bool false]) (.int .i64 0) (.bool true) (.bool false);obtain⟨l1,-,-,-,-,-⟩:=Zw tmps Fy.size (.tuple #[.int .i64 0,.bool true,.int .i64 (p:Int),.bool false]) (.int .i64 0) (.bool true) (.bool false);refine .op (by simp) Bv.1 Bv.2.2.2 Bv.2.2.1 (fun w=>Bp (v:=.int .i64 0) Bv.2.1 (bq g4) rfl P w) ?_;refine .op (by simp) Bu.1 Bu.2.2.2 Bu.2.2.1 (fun w=>by rw[E.e];exact ac1 Bu.2.1 (bq g5) w) ?_;refine .op (by simp) Bt.1 Bt.2.2.2 Bt.2.2.1 (fun w=>by rw[E.e];exact ac0 Bt.2.1 (bq g6) w) ?_;refine .ctl rfl rfl (nX _) rfl rfl (.ctl rfl rfl (pJ _ _) rfl rfl (.ctl rfl rfl (XL (x:=true) (bq g2)) rfl rfl ?_));have st4:=(((st.set (qQ (v:=.tuple #[.int .i64 0,.bool true,.int .i64 (p:Int),.bool false]) (by simp[Ej,ze])) 59).set (qQ (v:=.int .i64 0) rfl) 60).set (qQ (v:=.bool true) rfl) 61).set (qQ (v:=.bool false) rfl) 62;have hg4:=Fy.aa2 (.tuple #[.int .i64 0,.bool true,.int .i64 (p:Int),.bool false]) (.int .i64 0) (.bool true) (.bool false);refine st4.piece E (uO (by simp)) (R:=fun a W'=>∃v',GH fb tb a.tmps (m+1:Nat) v'∧W'.ownsRow B0 108 1 v' (kq++[p]).length (ints (kq++[p]))∧B0≤W'.heap.size) (fun _ _ _ _ h=>h) (fun ek uV=>?_) ?_
   ·refine AX (Ya (B:=B0) (out:=kq) (by omega) hg4 l1 (pj hown uV) (by rw[uV];exact hB0)) ?_;rintro e a W' ⟨rfl,v',h1,h2,h3⟩;exact⟨rfl,⟨v',h1,h2,aN (by rw[uV];exact hB0) h3.size⟩,fun c hc=>(h3.block c (UF c hc)).trans ((st.kp.heap uV) c hc)⟩
   clear st4 hg4 st Fy hown hB0 h57 h58 Zt Zs g1 g2 g3 g4 g5 g6 l1 ev hsz;rintro tmps bt lw ρ O w st ⟨v',Fy,hown,hB0⟩ - -;refine .ctl rfl rfl (fun w=>oB _ w) rfl rfl (.ctl rfl rfl (fun w=>oB _ w) rfl rfl (.ctl rfl rfl (fun w=>xF _ w) rfl rfl ?_));have e:ints kq++[aD .i64 (p:Int)]=ints (kq++[p]):=by simp[ints]
   rw[e];exact ih (f'+(m+1)) (by omega) f' (m+1) jS (kq++[p]) S O tmps bt lw w ρ B v' B0 rfl (by omega) hm6 (by simp;omega) st Fy hown hB0 UF
  ·rw[ER DI.1 DI.2.2.1];have ev:(Value.tuple #[goInt ((1:Nat):Int),.bool true,if (1:Nat)=0 then .bool true else .int .i64 0,if (1:Nat)=1 then .bool true else .bool false])=.tuple #[.int .i64 1,.bool true,.int .i64 0,.bool true]:=by simp[goInt]
   rw[ev];have hsz:bt.size=71:=by rw[←st.size];exact Fy.size
   obtain⟨g1,g2,g3,g4,g5,g6⟩:=Zw bt hsz (.tuple #[.int .i64 1,.bool true,.int .i64 0,.bool true]) (.int .i64 1) (.bool false) (.bool true);refine .op (by simp) Bv.1 Bv.2.2.2 Bv.2.2.1 (fun w=>Bp (v:=.int .i64 1) Bv.2.1 (bq g4) rfl P w) ?_;refine .op (by simp) Bu.1 Bu.2.2.2 Bu.2.2.1 (fun w=>by rw[E.e];exact acZ Bu.2.1 (bq g5) w) ?_;refine .op (by simp) Bt.1 Bt.2.2.2 Bt.2.2.1 (fun w=>by rw[E.e];exact acY Bt.2.1 (bq g6) w) ?_;refine .ctl rfl rfl (nX _) rfl rfl (.ctl rfl rfl (pJ _ _) rfl rfl (.ctl rfl rfl (XL (x:=false) (bq g2)) rfl rfl (.ctl rfl rfl (sj (x:=true) (bq g3)) rfl rfl ?_)));have st4:=(((st.set (qQ (v:=.tuple #[.int .i64 1,.bool true,.int .i64 0,.bool true]) (by simp[Ej,ze])) 59).set (qQ (v:=.int .i64 1) rfl) 60).set (qQ (v:=.bool false) rfl) 61).set (qQ (v:=.bool true) rfl) 62;have hg4:=Fy.aa2 (.tuple #[.int .i64 1,.bool true,.int .i64 0,.bool true]) (.int .i64 1) (.bool false) (.bool true);refine st4.piece E (uO (by simp)) (R:=fun a W'=>GH fb tb a.tmps m v∧W'.ownsRow B0 108 1 v kq.length (ints kq)∧B0≤W'.heap.size) (fun _ _ _ _ h=>h) (fun ek uV=>?_) ?_
   ·refine AX (aex (many:=((m+1:Nat):Int)) (by omega) hg4) ?_;rintro e a W' ⟨rfl,h1,rfl⟩;refine⟨rfl,⟨?_,pj hown uV,by rw[uV];exact hB0⟩,st.kp.heap uV⟩;have e:((m+1:Nat):Int)-1=(m:Int):=by omega
    rw[e] at h1;exact h1
   clear st4 hg4 st Fy hown hB0 h57 h58 Zt Zs g1 g2 g3 g4 g5 g6 ev hsz;rintro tmps bt lw ρ O w st ⟨Fy,hown,hB0⟩ - -;refine .ctl rfl rfl (fun w=>oB _ w) rfl rfl (.ctl rfl rfl (fun w=>oB _ w) rfl rfl (.ctl rfl rfl (fun w=>xF _ w) rfl rfl ?_));exact ih (f+m) (by omega) f m jS kq S O tmps bt lw w ρ B v B0 rfl afH (by omega) hof st Fy hown hB0 UF
end
theorem s10:(opsOf ur).size=2:=by kernel_rfl
theorem Og:(opsOf ur)[0]?=some ((opsOf ur).getD 0 default)∧((opsOf ur).getD 0 default).op=.makeFunc (.func 178) #[] #[.tmp 1,.tmp 8,.tmp 4,.tmp 5]∧((opsOf ur).getD 0 default).dst=some 53∧((opsOf ur).getD 0 default).guard=none:=⟨by kernel_rfl,by kernel_rfl,by kernel_rfl,by kernel_rfl⟩
theorem Oe:(opsOf ur)[1]?=some ((opsOf ur).getD 1 default)∧((opsOf ur).getD 1 default).op=.go { callee:=.value (.tmp 53),args:=#[],argTypes:=#[] }∧((opsOf ur).getD 1 default).dst=none∧((opsOf ur).getD 1 default).guard=none:=⟨by kernel_rfl,by kernel_rfl,by kernel_rfl,by kernel_rfl⟩
theorem Hs{fr:bL}{o:cz}{f:dR}{x y z u:bE}(ho:o.op=.makeFunc (.func f) #[] #[x,y,z,u]){a b c d:aj}(hx:fr.eval x=a)(hy:fr.eval y=b)(hz:fr.eval z=c)(hu:fr.eval u=d)(P:aI)(w:ar) :
  (bX fr.eval o).runT P w #[]=(.ok (.value (.func (.func f) #[] #[a,b,c,d])) w,#[]):=by
 unfold bX;rw[ho];simp only[List.map_toArray,cK,fO,hx,hy,hz,hu];rfl
def manyN(b:BB)(k9 sn:Nat):Nat→Nat
 |0=>0
 |m+1=>manyN b k9 sn m+if ym b k9 sn m then 0 else 1
def jS(b:BB)(k9 sn:Nat)(l:List eA):Nat→List Nat
 |0=>[]
 |m+1=>jS b k9 sn l m++if !ym b k9 sn m&&b.sure l (sn ||| m) then[sn ||| m] else[]
theorem J9(b:BB)(k9 sn:Nat):∀m,manyN b k9 sn m≤m
 |0=>ax _
 |m+1=>by have:=J9 b k9 sn m;unfold manyN;split<;>omega
theorem OX(b:BB)(k9 sn:Nat)(l:List eA):∀m,(jS b k9 sn l m).length≤manyN b k9 sn m
 |0=>ax _
 |m+1=>by
  have:=OX b k9 sn l m;unfold jS manyN;cases hs:ym b k9 sn m
  ·cases h2:b.sure l (sn ||| m)<;>simp<;>omega
  ·simp;omega
theorem GT.aa1{xb fb tb sn:Nat}{tmps:Array aj}{many m:Int}{t8:aj}(h:GT xb fb tb sn tmps many m t8)(x:aj):GT xb fb tb sn (tmps.setIfInBounds 53 x) many m t8:=
 ⟨by simp[h.size],by rw[aA (by omega)];exact h.t1,by rw[aA (by omega)];exact h.t3,by rw[aA (by omega)];exact h.t4,by rw[aA (by omega)];exact h.t5,
  by rw[aA (by omega)];exact h.t6,by rw[aA (by omega)];exact h.t18,by rw[aA (by omega)];exact h.t8⟩
section
variable{P:aI}{b:BB}{men sent marks all:aj}{l:List eA}{ss:List Int}{ms:List Mk}{X0:Nat→Prop}{w0:ar}{xb fb tb c0 c1:Nat}
 {S O:Nat→Prop} {tmps bt:Array aj} {lw w:ar} {ρ:Rn} {B:Nat→Prop} {cs:List bL} {K k:List oJ} {kd:jy}
theorem ac8(w:ar):eM P true (GK 159 bt (.code IQ::k) kd cs) w=.go (GK 159 bt (.code gR5::.code (.seq (.cond (.tmp 19) .skip (.exit 0)) (.seq (.block 1 M5) KH))::k) kd cs) w #[]:=by rw[ZA];exact jE _ _ w
theorem ada(w:ar):eM P true (GK 159 bt (.code M5::k) kd cs) w=.go (GK 159 bt (.code gR6::.code (.seq gR7 (.seq (.seq Zy (.cond (.tmp 50) (.exit 1) .skip)) (.seq gR9 ur)))::k) kd cs) w #[]:=by rw[ZE];exact jE _ _ w
theorem ZT(w:ar):eM P true (GK 159 bt (.code ur::k) kd cs) w=.go (GK 159 bt (.inRegion (opsOf ur) [0,1]::k) kd cs) w #[]:=by
 have h:=tk (P:=P) (main:=true) (fn:=159) (tmps:=bt) (kd:=kd) (k:=k) (cs:=cs) 10 (opsOf ur) w;rw[←V9,s10] at h;exact h
theorem PV(st:St P X0 w0 S O tmps bt lw w ρ B){i pb:Nat}{p:aj}(hf:ze p=true)(hi:tmps[i]?=some (ptr ⟨pb,0,none⟩))(ho:lw.heap[pb]?=some (.cells #[p] 108 (0,0))) :
  ∃pc,bt[i]?=some (ptr ⟨pc,0,none⟩)∧ρ pb=some pc∧(∃e z,w.heap[pc]?=some (.cells #[p] e z)):=by
 obtain⟨y,hy,hv⟩:=st.ms.get hi;cases hv with
 |@ptr _ a' E9=>
  have e:a'=⟨a'.block,0,none⟩:=by
   have h4:=E9.off;have h5:=E9.spot;obtain⟨x,y,z⟩:=a';dsimp only at h4 h5 ⊢;subst h4;subst h5;rfl
  refine⟨a'.block,by rw[←e];exact hy,E9.block,?_⟩;obtain⟨o,o',h1,h2,h3,_⟩:=st.ms.wr.at_ _ _ E9.block;rw[ho] at h1;cases h1;cases h3 with
  |@cells cs cs' e z z' Rj hz=>
   have hs:cs'.size=1:=Rj.size.symm;obtain⟨y,hy,hv⟩:=Rj.get (i:=0) (x:=p) rfl
   have e1:cs' = #[y]:=by
    apply Array.ext
    ·simpa using hs
    ·intro j h1 h2;have hj:j=0:=by simp at h2;exact h2
     subst hj;have:=(ak.1 hy).2;simpa using this
   have e2:y=p:=by
    revert hf;cases hv<;>intro hf<;>first|rfl|cases hf
   exact⟨_,_,by rw[h2,e1,e2]⟩
theorem abJ(E:NL P b men sent marks all l ss ms X0 w0 xb fb tb c0 c1):∀(j m:Nat),m+j=512→∀(S O:Nat→Prop) (tmps bt:Array aj) (lw w:ar) (ρ:Rn) (B:Nat→Prop) (t8:aj),
  St P X0 w0 S O tmps bt lw w ρ B→GT xb fb tb (bG ss) tmps (manyN b (dp ss ms).toNat (bG ss) m) m t8→
  eW P c0 c1 (.int .i64 0) (.bool false) (WU (ints (jS b (dp ss ms).toNat (bG ss) l 512)) K cs) (jS b (dp ss ms).toNat (bG ss) l m).length (manyN b (dp ss ms).toNat (bG ss) m) (ints (jS b (dp ss ms).toNat (bG ss) l m)) [] S O
   (GK 159 bt (.code IQ::.inLoop IQ::.inBlock 0::.code (.seq FC (.seq (.block 2 (.loop LP)) vX))::K) .normal cs) w:=by
 have Qe:=mS ss E.Gf;have zM:=QZ ss ms (fun s hs=>(E.Gf s hs).2) (fun s hs=>(E.mks s hs).2);obtain⟨k9,VY⟩:∃k9:Nat,dp ss ms=k9:=⟨(dp ss ms).toNat,by omega⟩
 rw[VY,Int.toNat_natCast];rw[VY] at zM;have acy:1≤k9∧k9≤9:=by omega
 generalize akG:bG ss=sn at *;intro j
 induction j with
 |zero|succ j ih=>?_
 all_goals
  intro m hm S O tmps bt lw w ρ B t8 st uB;have ah4:=J9 b k9 sn m;have xA:=OX b k9 sn l m;refine .ctl rfl rfl ac8 rfl rfl ?_;refine st.piece E (uO (by simp)) (R:=fun a W'=>GT xb fb tb sn a.tmps (manyN b k9 sn m) m t8∧a.tmps[19]?=some (.bool (decide ((m:Int)<512)))) (fun _ _ _ _ h=>h) (fun ek uV=>?_) ?_
  ·refine AX (pR5 uB) ?_;rintro e a W' ⟨rfl,h1,h2,rfl⟩;exact⟨rfl,⟨h1,h2⟩,st.kp.heap uV⟩
  clear st uB;rintro tmps bt lw ρ O w st ⟨uB,h19⟩ - -;refine .ctl rfl rfl (jE _ _) rfl rfl (.ctl rfl rfl (sj (bq (st.bool h19))) rfl rfl ?_)
 ·have aca:m=512:=by omega
  rw[show decide ((m:Int)<512)=false from decide_eq_false (by omega)];refine .ctl rfl rfl (Et (k':=.code (.seq FC (.seq (.block 2 (.loop LP)) vX))::K) rfl) rfl rfl (.ctl rfl rfl (jE _ _) rfl rfl ?_);refine st.piece E (uO (by simp)) (R:=fun a W'=>GH fb tb a.tmps (manyN b k9 sn m) (.slice none 0 0)) (fun _ _ _ _ h=>h) (fun ek uV=>?_) ?_
  ·refine AX (aez uB) ?_;rintro e a W' ⟨rfl,h1,rfl⟩;exact⟨rfl,h1,st.kp.heap uV⟩
  clear st uB h19;rintro tmps bt lw ρ O w st Fy - -;refine .ctl rfl rfl (jE _ _) rfl rfl (.ctl rfl rfl (pJ _ _) rfl rfl (.ctl rfl rfl (KY _) rfl rfl ?_));subst aca;exact abI E _ _ _ _ [] S O tmps bt lw w ρ B _ lw.heap.size rfl xA (by omega) (by simp;omega) st Fy (World.ownsRow_nil _ _ _ _) (ax _) (fun c hc=>st.kp.lt E hc)
 ·rw[show decide ((m:Int)<512)=true from decide_eq_true (by omega)];refine .ctl rfl rfl (fun w=>zm w) rfl rfl (.ctl rfl rfl (jE _ _) rfl rfl (.ctl rfl rfl (pJ _ _) rfl rfl (.ctl rfl rfl ada rfl rfl ?_)));refine st.piece E (uO (by simp)) (R:=fun a W'=>GT xb fb tb sn a.tmps (manyN b k9 sn m) m t8∧a.tmps[7]?=some (.int .i64 m)) (fun _ _ _ _ h=>h) (fun ek uV=>?_) ?_
  ·refine AX (pR6 uB) ?_;rintro e a W' ⟨rfl,h1,h2,rfl⟩;exact⟨rfl,⟨h1,h2⟩,st.kp.heap uV⟩
  clear st uB h19;rintro tmps bt lw ρ O w st ⟨uB,h7⟩ - -;refine .ctl rfl rfl (jE _ _) rfl rfl ?_;obtain⟨pb,hpb⟩:∃pb,lw.heap.size=pb:=⟨_,rfl⟩
  have af7:∀c,B c→c<pb:=fun c hc=>hpb▸st.ms.wr.base c hc;refine st.piece E (uO (by simp)) (R:=fun a W'=>(GT xb fb tb sn a.tmps (manyN b k9 sn m) m (ptr ⟨pb,0,none⟩)∧a.tmps[7]?=some (.int .i64 m))∧W'.heap[pb]?=some (.cells #[.int .i64 ((sn ||| m:Nat):Int)] 108 (0,0))) (fun _ _ _ _ h=>h) (fun ek uV=>?_) ?_
  ·refine AX (pR7 Qe (by omega) uB h7) ?_;rintro e a W' ⟨rfl,h1,h2,h3,h4⟩;have hs:ek.heap.size=pb:=by rw[uV,hpb]
   rw[hs] at h1 h3;exact⟨rfl,⟨⟨h1,h2⟩,h3⟩,(st.kp.heap uV).below E h4⟩
  clear st uB h7 hpb;rintro tmps bt lw ρ O w st ⟨⟨uB,h7⟩,Qg⟩ - -;refine .ctl rfl rfl (jE _ _) rfl rfl (.ctl rfl rfl (jE _ _) rfl rfl ?_);refine st.piece E (uO (by simp)) (R:=fun a W'=>(GT xb fb tb sn a.tmps (manyN b k9 sn m) m (ptr ⟨pb,0,none⟩)∧a.tmps[50]?=some (.bool (ym b k9 sn m)))∧W'.heap[pb]?=some (.cells #[.int .i64 ((sn ||| m:Nat):Int)] 108 (0,0))) (fun _ _ _ _ h=>h) (fun ek uV=>?_) ?_
  ·have kp':=st.kp.heap uV;have VG:ek.heap[pb]?=some (.cells #[.int .i64 ((sn ||| m:Nat):Int)] 108 (0,0)):=by rw[uV];exact Qg
   refine AX (pR8 (b:=b) (men:=men) (sent:=sent) (marks:=marks) (pb:=pb) (lw:=ek) E.ok Qe (by omega) uB h7 (fun i u hi=>(kp'.cell E.xx).trans (E.xc i u ?_)) ?_ ⟨kp'.lt E E.xx,ey VG⟩ acy (fun w1 hb1=>?_)) ?_
   ·have afx:i<(b.cells men sent marks).size:=(ak.1 hi).1;rw[Array.getElem?_append_left afx];exact hi
   ·unfold dC;rw[VG];rfl
   ·have kw1:=kp'.below E hb1;have:=ES b men sent marks ss ms E.Gf E.mks w1 (kw1.reads E E.rs) (kw1.reads E E.rm);rw[VY] at this;exact this
   ·rintro e a W' ⟨rfl,h1,h2,h3⟩;exact⟨rfl,⟨⟨h1,h2⟩,(h3.block pb (ey VG)).trans VG⟩,kp'.below E h3⟩
  clear st uB h7 Qg;rintro tmps bt lw ρ O w st ⟨⟨uB,h50⟩,Qg⟩ - -;refine .ctl rfl rfl (sj (bq (st.bool h50))) rfl rfl ?_
  have last:∀(S O:Nat→Prop) (tmps bt:Array aj) (lw w:ar) (ρ:Rn) (B:Nat→Prop),St P X0 w0 S O tmps bt lw w ρ B→GT xb fb tb sn tmps (manyN b k9 sn (m+1)) m (ptr ⟨pb,0,none⟩)→
    eW P c0 c1 (.int .i64 0) (.bool false) (WU (ints (jS b k9 sn l 512)) K cs) (jS b k9 sn l (m+1)).length (manyN b k9 sn (m+1)) (ints (jS b k9 sn l (m+1))) [] S O (GK 159 bt (.code KH::.inLoop IQ::.inBlock 0::.code (.seq FC (.seq (.block 2 (.loop LP)) vX))::K) .normal cs) w:=by
   clear st uB h50 Qg;intro S O tmps bt lw w ρ B st uB;refine st.piece E (uO (by simp)) (R:=fun a W'=>GT xb fb tb sn a.tmps (manyN b k9 sn (m+1)) ((m+1:Nat):Int) (ptr ⟨pb,0,none⟩)) (fun _ _ _ _ h=>h) (fun ek uV=>?_) ?_
   ·refine AX (aeA (by omega) uB) ?_;rintro e a W' ⟨rfl,h1,rfl⟩;exact⟨rfl,h1,st.kp.heap uV⟩
   clear st uB;rintro tmps bt lw ρ O w st uB - -;refine .ctl rfl rfl (fun w=>xF _ w) rfl rfl ?_;exact ih (m+1) (by omega) S O tmps bt lw w ρ B _ st uB
  cases hsk:ym b k9 sn m
  ·have em:manyN b k9 sn (m+1)=manyN b k9 sn m+1:=by show manyN b k9 sn m+(if ym b k9 sn m then 0 else 1)=_;rw[hsk];rfl
   refine .ctl rfl rfl (fun w=>zm w) rfl rfl (.ctl rfl rfl (jE _ _) rfl rfl ?_);refine st.piece E (uO (by simp)) (R:=fun a W'=>GT xb fb tb sn a.tmps (manyN b k9 sn (m+1)) m (ptr ⟨pb,0,none⟩)∧W'.heap[pb]?=some (.cells #[.int .i64 ((sn ||| m:Nat):Int)] 108 (0,0))) (fun _ _ _ _ h=>h) (fun ek uV=>?_) ?_
   ·refine AX (pR9 (by omega) uB) ?_;rintro e a W' ⟨rfl,h1,rfl⟩;refine⟨rfl,⟨?_,by rw[uV];exact Qg⟩,st.kp.heap uV⟩;rw[em];exact h1
   clear st uB h50 Qg;rintro tmps bt lw ρ O w st ⟨uB,Qg⟩ - -;obtain⟨pc,h8',hρ,e0,zz,hpc⟩:=PV st rfl uB.t8 Qg;have hnB:¬B pb:=fun h=>absurd (af7 pb h) (Nat.lt_irrefl _);have acG:O pc:=by rw[st.ms.own];exact⟨pb,hnB,hρ⟩
   have hSO:∀c,S c→¬O c:=fun c hc=>(st.ms.vB hc).2;have Kr:=st.ms.freeze hρ hnB Qg
   have st2:St P X0 w0 (fun x=>S x∨x=pc) (fun x=>O x∧x≠pc) tmps bt (oz lw pb #[.int .i64 ((sn ||| m:Nat):Int)] 108 0) w ρ (fun x=>B x∨x=pb):=
    ⟨Kr,st.id,fun c hc=>.inl (st.xB c hc),fun c hc=>by
     have hne:c≠pb:=fun e=>hnB (e▸st.xB c hc);have:=px Qg (x:=c);rw[if_neg hne] at this
     exact this.trans (st.kp c hc),st.kw⟩
   have aeP:∀c,X0 c→c<w.heap.size:=fun c hc=>(st.ms.vB (st.xS hc)).1;have II:∀a:cU,X0 a.block→w.cell? a=w0.cell? a:=fun a ha=>iF (st.kw _ ha);have t1':=st.ptr E.xx uB.t1;have t4':=st.ptr E.xf uB.t4;have t5':=st.ptr E.xt uB.t5;refine .ctl rfl rfl ZT rfl rfl ?_;refine .op (by simp) Og.1 Og.2.2.2 Og.2.2.1 (fun w=>Hs Og.2.1 (bq t1') (bq h8') (bq t4') (bq t5') P w) ?_;have hsz:bt.size=71:=by rw[←st.size];exact uB.size
   have vI:(bt.setIfInBounds 53 (.func (.func 178) #[] #[ptr ⟨xb,0,none⟩,ptr ⟨pc,0,none⟩,ptr ⟨fb,0,none⟩,ptr ⟨tb,0,none⟩]))[53]?=some (.func (.func 178) #[] #[ptr ⟨xb,0,none⟩,ptr ⟨pc,0,none⟩,ptr ⟨fb,0,none⟩,ptr ⟨tb,0,none⟩]):=aZ (by omega);have hp9:sn ||| m<512:=Nat.or_lt_two_pow (n:=9) Qe (by omega)
   have Vy:gD P c0 c1 (fun c=>X0 c∨c=pc) (.int .i64 ((sn ||| m:Nat):Int)) (b.sure l (sn ||| m)) (fun _=>False) (vK P 178 #[ptr ⟨xb,0,none⟩,ptr ⟨pc,0,none⟩,ptr ⟨fb,0,none⟩,ptr ⟨tb,0,none⟩]) w:=by
    refine worker E.e E.f178 (fun c hc=>?_) (fun c hc=>?_) st.ms.s5 E.i178 (.inl E.xx) (.inr rfl) (.inl E.xf) (.inl E.xt) ?_ ((II _ E.xf).trans E.fc) ((II _ E.xt).trans E.tc) (fun τ d=>?_)
    ·rcases hc with hc|rfl
     ·obtain⟨cs,e,z,h1,h2⟩:=E.cl c hc;exact⟨cs,e,z,by rw[st.kw c hc];exact h1,fun v hv=>(h2 v hv).mono (r5 fun _ h=>.inl h)⟩
     ·exact⟨_,e0,zz,hpc,fun v hv=>by simp at hv;subst hv;exact .int _ _⟩
    ·rcases hc with hc|rfl
     ·exact E.low c hc
     ·exact(st.ms.wr.low _ _ hρ).2
    ·unfold dC;rw[hpc];rfl
    ·rw[E.e];refine aaP b E.ok men sent marks all l E.Z1 (sn ||| m) hp9 xb pc fb tb _ (E.ra.to (fun c hc=>?_) fun a ha=>?_) (fun i u hi=>?_) ?_
     ·show c<(shut _ w).heap.size;rw[vz];exact aeP c hc
     ·exact(vA (X:=fun c=>X0 c∨c=pc) (w:=w) (.inl ha)).trans (II a ha)
     ·exact(vA (X:=fun c=>X0 c∨c=pc) (w:=w) (a:=⟨xb,i,none⟩) (.inl E.xx)).trans ((II _ E.xx).trans (E.xc i u hi))
     ·refine(vA (X:=fun c=>X0 c∨c=pc) (w:=w) (a:=⟨pc,0,none⟩) (.inr rfl)).trans ?_;unfold dC;rw[hpc];rfl
   refine .spawn (Sk:=fun c=>X0 c∨c=pc) (S':=fun c=>S c∨c=pc) (O':=fun c=>O c∧c≠pc) (U0 (by simp) Oe.1 Oe.2.1 Oe.2.2.1 Oe.2.2.2 (bq vI)) rfl rfl (fun c hc=>?_) Vy (fun c hc=>?_) (fun c hc=>?_) ?_
   ·rcases hc with hc|rfl
    ·exact .inl (st.xS hc)
    ·exact .inr acG
   ·rcases hc with hc|rfl
    ·exact .inl hc
    ·exact .inr acG
   ·exact⟨hc.1,fun h=>h.elim (fun h=>hSO c (st.xS h) hc.1) hc.2,fun h=>h.elim (fun h=>hSO c h hc.1) hc.2⟩
   ·refine .ctl rfl rfl (nX _) rfl rfl (.ctl rfl rfl (fun w=>oB _ w) rfl rfl ?_)
    have hvf:VR fw ρ (.func (.func 178) #[] #[ptr ⟨xb,0,none⟩,ptr ⟨pb,0,none⟩,ptr ⟨fb,0,none⟩,ptr ⟨tb,0,none⟩]) (.func (.func 178) #[] #[ptr ⟨xb,0,none⟩,ptr ⟨pc,0,none⟩,ptr ⟨fb,0,none⟩,ptr ⟨tb,0,none⟩]):=by
     have Rg:∀a:cU,X0 a.block→VR fw ρ (ptr a) (ptr a):=fun a ha=>.ptr ⟨st.id _ _ (uT ha),rfl,rfl⟩
     have Rj:iu fw ρ #[ptr ⟨xb,0,none⟩,ptr ⟨pb,0,none⟩,ptr ⟨fb,0,none⟩,ptr ⟨tb,0,none⟩] #[ptr ⟨xb,0,none⟩,ptr ⟨pc,0,none⟩,ptr ⟨fb,0,none⟩,ptr ⟨tb,0,none⟩]:=
      (((iu.one (Rg ⟨xb,0,none⟩ E.xx)).push (VR.ptr (a:=⟨pb,0,none⟩) (a':=⟨pc,0,none⟩) ⟨hρ,rfl,rfl⟩)).push (Rg ⟨fb,0,none⟩ E.xf)).push (Rg ⟨tb,0,none⟩ E.xt)
     exact .func (by rfl) rfl (fun i x y h=>by simp at h) Rj.size Rj.at_
    have:=last (fun x=>S x∨x=pc) (fun x=>O x∧x≠pc) _ _ _ w ρ _ (st2.set hvf 53) (uB.aa1 _)
    have ea:jS b k9 sn l (m+1)=jS b k9 sn l m++if b.sure l (sn ||| m) then[sn ||| m] else[]:=by
     show jS b k9 sn l m++(if !ym b k9 sn m&&b.sure l (sn ||| m) then[sn ||| m] else[])=_;rw[hsk];rfl
    have ei:ints (jS b k9 sn l (m+1))=ints (jS b k9 sn l m)++if b.sure l (sn ||| m) then[.int .i64 ((sn ||| m:Nat):Int)] else[]:=by
     rw[ea];cases b.sure l (sn ||| m)<;>simp[ints]
    have el:(jS b k9 sn l (m+1)).length=(jS b k9 sn l m).length+(b.sure l (sn ||| m)).toNat:=by
     rw[ea];cases b.sure l (sn ||| m)<;>simp
    rw[ei,el,em] at this;exact this
  ·have em:manyN b k9 sn (m+1)=manyN b k9 sn m:=by show manyN b k9 sn m+(if ym b k9 sn m then 0 else 1)=_;rw[hsk];rfl
   have ea:jS b k9 sn l (m+1)=jS b k9 sn l m:=by show jS b k9 sn l m++(if !ym b k9 sn m&&b.sure l (sn ||| m) then[sn ||| m] else[])=_;rw[hsk];simp
   refine .ctl rfl rfl (Et (k':=.code KH::.inLoop IQ::.inBlock 0::.code (.seq FC (.seq (.block 2 (.loop LP)) vX))::K) rfl) rfl rfl ?_;have:=last S O tmps bt lw w ρ B st (by rw[em];exact uB);rw[em,ea] at this;exact this
end
section
variable{b:BB}{men sent marks all:aj}{xb sn c0 c1 fb tb:Nat}{W:ar}
theorem pR0(hxb:W.heap.size=xb):gR0.wp aq (fun e a W'=>e=.normal∧a=⟨#[.agg (b.open men sent marks all),ptr ⟨xb,0,none⟩,.slice none 0 0,af,af,af,af,af,af,af,af,af,af,af,af,af,af,af,af,af,af,af,af,af,af,af,af,af,af,af,af,af,af,af,af,af,af,af,af,af,af,af,af,af,af,af,af,af,af,af,af,af,af,af,af,af,af,af,af,af,af,af,af,af,af,af,af,af,af,af,af],[]⟩∧W'=W.alloc (.cells (b.open men sent marks all) 122)) ⟨#[.agg (b.open men sent marks all),af,af,af,af,af,af,af,af,af,af,af,af,af,af,af,af,af,af,af,af,af,af,af,af,af,af,af,af,af,af,af,af,af,af,af,af,af,af,af,af,af,af,af,af,af,af,af,af,af,af,af,af,af,af,af,af,af,af,af,af,af,af,af,af,af,af,af,af,af,af],[]⟩ W:=by
 subst hxb;simp only[gR0,gM,qB,kx,sL,sR];go_wp2
theorem pR1{ss:List Int}(oW:∀s∈ss,1≤s∧s≤8)(hc:W.cell? ⟨xb,13,none⟩=some sent)(hs:Reads W sent ss.length (ss.map (aD .i64)))(Qe:bG ss=sn):gR1.wp aq (fun e a W'=>e=.normal∧a=⟨#[.agg (b.open men sent marks all),ptr ⟨xb,0,none⟩,.slice none 0 0,.int .i64 sn,af,af,af,af,af,af,af,ptr ⟨xb,0,none⟩,ptr ⟨xb,0,none⟩,ptr ⟨xb,13,none⟩,sent,.int .i64 sn,af,af,af,af,af,af,af,af,af,af,af,af,af,af,af,af,af,af,af,af,af,af,af,af,af,af,af,af,af,af,af,af,af,af,af,af,af,af,af,af,af,af,af,af,af,af,af,af,af,af,af,af,af,af,af],[]⟩∧W'=W) ⟨#[.agg (b.open men sent marks all),ptr ⟨xb,0,none⟩,.slice none 0 0,af,af,af,af,af,af,af,af,af,af,af,af,af,af,af,af,af,af,af,af,af,af,af,af,af,af,af,af,af,af,af,af,af,af,af,af,af,af,af,af,af,af,af,af,af,af,af,af,af,af,af,af,af,af,af,af,af,af,af,af,af,af,af,af,af,af,af,af],[]⟩ W:=by
 have hP:=kV ss oW sent W hs;rw[Qe] at hP;clear hs oW Qe;simp only[gR1,gM,qB,kx,sL,sR]
 go_wp2_with (go_at_call 106;refine hP.mono ?_;rintro e w' ⟨rfl,rfl⟩)
theorem Wv(W:ar)(o0 o1 o2 o3:Obj):(((((W.alloc o0).alloc o1).alloc o2).alloc o3).drew).heap[W.heap.size]?=some o0∧(((((W.alloc o0).alloc o1).alloc o2).alloc o3).drew).heap[W.heap.size+1]?=some o1∧(((((W.alloc o0).alloc o1).alloc o2).alloc o3).drew).heap[W.heap.size+1+1]?=some o2∧(((((W.alloc o0).alloc o1).alloc o2).alloc o3).drew).heap[W.heap.size+1+1+1]?=some o3∧az W.heap.size W ((((W.alloc o0).alloc o1).alloc o2).alloc o3).drew:=by
 refine⟨?_,?_,?_,?_,(((((aw _ _).alloc (ax _) _).alloc (by simp) _).alloc (by simp<;>omega) _).alloc (by simp<;>omega) _).drew⟩
 ·show((((W.alloc o0).alloc o1).alloc o2).alloc o3).heap[_]?=_;rw[aS _ _ _ (by simp<;>omega),aS _ _ _ (by simp<;>omega),aS _ _ _ (by simp)];exact ay W o0
 ·show((((W.alloc o0).alloc o1).alloc o2).alloc o3).heap[_]?=_;rw[aS _ _ _ (by simp<;>omega),aS _ _ _ (by simp)];have:=ay (W.alloc o0) o1;simpa using this
 ·show((((W.alloc o0).alloc o1).alloc o2).alloc o3).heap[_]?=_;rw[aS _ _ _ (by simp)];have:=ay ((W.alloc o0).alloc o1) o2;simpa using this
 ·show((((W.alloc o0).alloc o1).alloc o2).alloc o3).heap[_]?=_;have:=ay (((W.alloc o0).alloc o1).alloc o2) o3;simpa using this
def Q2(b:BB)(men sent marks all:aj)(xb sn:Nat)(W:ar)(a:iR)(W':ar):Prop:=
 ∃c0 c1 fb tb:Nat,a=⟨#[.agg (b.open men sent marks all),ptr ⟨xb,0,none⟩,.slice none 0 0,.int .i64 sn,ptr ⟨fb,0,none⟩,ptr ⟨tb,0,none⟩,af,af,af,af,af,ptr ⟨xb,0,none⟩,ptr ⟨xb,0,none⟩,ptr ⟨xb,13,none⟩,sent,.int .i64 sn,.chan (some c0),.chan (some c1),af,af,af,af,af,af,af,af,af,af,af,af,af,af,af,af,af,af,af,af,af,af,af,af,af,af,af,af,af,af,af,af,af,af,af,af,af,af,af,af,af,af,af,af,af,af,af,af,af,af,af,af,af],[]⟩∧Chan c0 W'∧Chan c1 W'∧W'.heap[fb]?=some (.cells #[.chan (some c0)] 188 (0,0))∧W'.heap[tb]?=some (.cells #[.chan (some c1)] 189 (0,0))∧c0≠c1∧W.heap.size≤c0∧W.heap.size≤c1∧W.heap.size≤fb∧W.heap.size≤tb∧az W.heap.size W W'
theorem pR2:gR2.wp aq (fun e a W'=>e=.normal∧Q2 b men sent marks all xb sn W a W') ⟨#[.agg (b.open men sent marks all),ptr ⟨xb,0,none⟩,.slice none 0 0,.int .i64 sn,af,af,af,af,af,af,af,ptr ⟨xb,0,none⟩,ptr ⟨xb,0,none⟩,ptr ⟨xb,13,none⟩,sent,.int .i64 sn,af,af,af,af,af,af,af,af,af,af,af,af,af,af,af,af,af,af,af,af,af,af,af,af,af,af,af,af,af,af,af,af,af,af,af,af,af,af,af,af,af,af,af,af,af,af,af,af,af,af,af,af,af,af,af],[]⟩ W:=by
 have ako:∀w,(Instr.makeChan 188 (.int .i64 0)).run aq w=.ok (.chan (some w.heap.size)) (w.alloc (.chan 0 #[] false 0 0 false)):=fun w=>by kernel_rfl
 have akn:∀w,(Instr.makeChan 189 (.int .i64 0)).run aq w=.ok (.chan (some w.heap.size)) (w.alloc (.chan 0 #[] false 0 0 false)):=fun w=>by kernel_rfl
 simp only[gR2,gM,qB,kx,sL,sR]
 go_region
 all_goals refine⟨rfl,_,_,_,_,rfl,?_,?_,?_,?_,by omega,by omega,by omega,by omega,by omega,(Wv W _ _ _ _).2.2.2.2⟩
 all_goals first
  |exact⟨0,false,(Wv W _ _ _ _).1⟩
  |exact⟨0,false,(Wv W _ _ _ _).2.1⟩
  |exact⟨0,false,(Wv W _ _ _ _).2.2.1⟩
  |exact⟨0,false,(Wv W _ _ _ _).2.2.2.1⟩
  |exact(Wv W _ _ _ _).1
  |exact(Wv W _ _ _ _).2.1
  |exact(Wv W _ _ _ _).2.2.1
  |exact(Wv W _ _ _ _).2.2.2.1
theorem pR3:gR3.wp aq (fun e a W'=>e=.normal∧a=⟨#[.agg (b.open men sent marks all),ptr ⟨xb,0,none⟩,.slice none 0 0,.int .i64 sn,ptr ⟨fb,0,none⟩,ptr ⟨tb,0,none⟩,.int .i64 0,af,af,af,af,ptr ⟨xb,0,none⟩,ptr ⟨xb,0,none⟩,ptr ⟨xb,13,none⟩,sent,.int .i64 sn,.chan (some c0),.chan (some c1),af,af,af,af,af,af,af,af,af,af,af,af,af,af,af,af,af,af,af,af,af,af,af,af,af,af,af,af,af,af,af,af,af,af,af,af,af,af,af,af,af,af,af,af,af,af,af,af,af,af,af,af,af],[]⟩∧W'=W) ⟨#[.agg (b.open men sent marks all),ptr ⟨xb,0,none⟩,.slice none 0 0,.int .i64 sn,ptr ⟨fb,0,none⟩,ptr ⟨tb,0,none⟩,af,af,af,af,af,ptr ⟨xb,0,none⟩,ptr ⟨xb,0,none⟩,ptr ⟨xb,13,none⟩,sent,.int .i64 sn,.chan (some c0),.chan (some c1),af,af,af,af,af,af,af,af,af,af,af,af,af,af,af,af,af,af,af,af,af,af,af,af,af,af,af,af,af,af,af,af,af,af,af,af,af,af,af,af,af,af,af,af,af,af,af,af,af,af,af,af,af],[]⟩ W:=by
 simp only[gR3,gM,qB,kx,sL,sR];go_wp2
theorem pR4:gR4.wp aq (fun e a W'=>e=.normal∧a=⟨#[.agg (b.open men sent marks all),ptr ⟨xb,0,none⟩,.slice none 0 0,.int .i64 sn,ptr ⟨fb,0,none⟩,ptr ⟨tb,0,none⟩,.int .i64 0,af,af,af,af,ptr ⟨xb,0,none⟩,ptr ⟨xb,0,none⟩,ptr ⟨xb,13,none⟩,sent,.int .i64 sn,.chan (some c0),.chan (some c1),.int .i64 0,af,af,af,af,af,af,af,af,af,af,af,af,af,af,af,af,af,af,af,af,af,af,af,af,af,af,af,af,af,af,af,af,af,af,af,af,af,af,af,af,af,af,af,af,af,af,af,af,af,af,af,af],[]⟩∧W'=W) ⟨#[.agg (b.open men sent marks all),ptr ⟨xb,0,none⟩,.slice none 0 0,.int .i64 sn,ptr ⟨fb,0,none⟩,ptr ⟨tb,0,none⟩,.int .i64 0,af,af,af,af,ptr ⟨xb,0,none⟩,ptr ⟨xb,0,none⟩,ptr ⟨xb,13,none⟩,sent,.int .i64 sn,.chan (some c0),.chan (some c1),af,af,af,af,af,af,af,af,af,af,af,af,af,af,af,af,af,af,af,af,af,af,af,af,af,af,af,af,af,af,af,af,af,af,af,af,af,af,af,af,af,af,af,af,af,af,af,af,af,af,af,af,af],[]⟩ W:=by
 simp only[gR4,gM,qB,kx,sL,sR];go_wp2
end
end Go.Proofs.YtffladgmkiimjaaGreatDoor
namespace Go.Lag
open Go.Conc
section
variable{P:aI}
def WX(b:bL)(k:List oJ)(cs:List bL):Exit→iR→aB→Prop
 |.normal,a,g=>g=G (b.at a k) cs
 |.exit id,a,g=>∃k',exitTo id k=some k'∧g=G (b.at a k') cs
 |.ret,a,g=>∃todo,g=G { b.at a todo with mode:=.returning } cs
 |_,_,_=>False
def si:Exit→Bool
 |.normal|.exit _|.ret=>true
 |_=>false
def Ub(Q:Exit→iR→ar→Prop)(k:List oJ):Prop:=∀id a w,Q (.exit id) a w→∃k',exitTo id k=some k'
def mP(P:aI)(c:gG)(Q:Exit→iR→ar→Prop)(a:iR)(W:ar):Prop:=
 ∀(b:bL) (k:List oJ) (cs:List bL),b.kind≠.early→Ub Q k→iP P (fun g' W'=>∃e a' τ d,Q e a' (dr W' τ d)∧WX b k cs e a' g') (G (b.at a (.code c::k)) cs) W
def en(P:aI)(ops:Array cz)(Q:Exit→iR→ar→Prop)(l:List Nat)(a:iR)(W:ar):Prop:=
 ∀(b:bL) (k:List oJ) (cs:List bL),b.kind≠.early→Ub Q k→iP P (fun g' W'=>∃e a' τ d,Q e a' (dr W' τ d)∧WX b k cs e a' g') (G (b.at a (.inRegion ops l::k)) cs) W
variable{Q Q':Exit→iR→ar→Prop}{a:iR}{W:ar}{b:bL}{k:List oJ}{cs:List bL}
theorem yy(T:Quiet P){m:List oJ}(hb:b.kind≠.early)(hL:Ub Q k)(hQ:∀e a w,Q e a w→si e=true)
  (h:∀τ,∃e a' w',Q e a' w'∧Arrives P (lone (b.at a m) cs (dr W τ 0)) b k cs e a' w') :
  iP P (fun g' W'=>∃e a' τ d,Q e a' (dr W' τ d)∧WX b k cs e a' g') (G (b.at a m) cs) W:=by
 refine(Bo T (Q:=fun fr' W'=>∃e a',Q e a' W'∧WX b k cs e a' (G fr' cs)) fun τ=>?_).mono ?_
 ·obtain⟨e,a',w',hq,harr⟩:=h τ;have hf:=hQ _ _ _ hq;cases e with
  |normal=>exact⟨_,w',harr,_,a',hq,rfl⟩
  |exit id=>
   obtain⟨k',hk⟩:=hL id _ _ hq;exact⟨_,w',harr k' hk,_,a',hq,k',hk,rfl⟩
  |ret=>
   obtain⟨todo,hs⟩:=harr;exact⟨_,w',hs,_,a',hq,todo,rfl⟩
  |goto l=>cases hf
  |panic c=>cases hf
  |outgrown=>cases hf
 ·rintro g' W' _ ⟨fr',τ,d,rfl,e,a',hq,harr⟩;exact⟨e,a',τ,d,hq,harr⟩
theorem ko(T:Quiet P){c:gG}(hQ:∀e a w,Q e a w→si e=true)(h:∀τ d,c.wp P Q a (dr W τ d)):mP P c Q a W:=fun b k cs hb hL=>
 yy T hb hL hQ fun τ=>h τ 0 b k cs
theorem qF(T:Quiet P){ops:Array cz}{l:List Nat}(hQ:∀e a w,Q e a w→si e=true)(h:∀τ d,wpOps P ops Q l a (dr W τ d)):en P ops Q l a W:=fun b k cs hb hL=>
 yy T hb hL hQ fun τ=>wp_ops l a _ (h τ 0) b k cs
theorem UM{c:gG}{τ:Nat→Question→Nat}{d:Nat}(h:mP P c Q a (dr W τ d)):mP P c Q a W:=fun b k cs hb hL=>(h b k cs hb hL).ofT
theorem jG(T:Quiet P){R:aB→ar→Prop}{fr fr':bL}(h:∀w,step P (lone fr cs w)=.next (lone fr' cs w))(hk:iP P R (G fr' cs) W):iP P R (G fr cs) W:=
 (xe T (τ:=W.tape) (d:=W.drawn) (rp (h _))).bind fun g' W' hs hq=>by
  obtain⟨rfl,τ,d,rfl⟩:=hq;exact hk.PY τ d
theorem jC(T:Quiet P){x y:gG}(h:mP P x (Exit.then (fun a w=>mP P y Q a w) Q) a W):mP P (.seq x y) Q a W:=by
 intro b k cs hb hL;refine jG T (fun w=>step_seq) ?_;refine(h b (.code y::k) cs hb fun id a w hq=>hL id a w hq).bind fun g' W' hs hq=>?_;obtain⟨e,a',τ,d,hq,harr⟩:=hq;cases e with
 |normal=>
  subst harr;exact(hq b k cs hb hL).ofT
 |exit id=>
  obtain⟨k',hk,rfl⟩:=harr;exact .here ⟨.exit id,a',τ,d,hq,k',hk,rfl⟩
 |ret=>
  obtain⟨todo,rfl⟩:=harr;exact .here ⟨.ret,a',τ,d,hq,todo,rfl⟩
 |goto l=>exact harr.elim
 |panic c=>exact harr.elim
 |outgrown=>exact harr.elim
theorem Pa(T:Quiet P){x y:gG}(hQ:∀e a w,e≠.normal→Q e a w→si e=true)(h:∀τ d,x.wp P (Exit.then (fun a w=>mP P y Q a w) Q) a (dr W τ d)):mP P (.seq x y) Q a W:=
 jC T (ko T (fun e a w hq=>by cases e<;>first|rfl|exact hQ _ _ _ (by simp) hq) h)
theorem oa(T:Quiet P){c:bE}{x y:gG}{t:Bool}(hc:a.eval c=.bool t)(h:mP P (if t then x else y) Q a W):mP P (.cond c x y) Q a W:=fun b k cs hb hL=>
 jG T (fun w=>step_cond hc) (h b k cs hb hL)
theorem sJ(T:Quiet P){id:Nat}{ops:Array cz}(h:en P ops Q (aU ops.size) a W):mP P (.region id ops false) Q a W:=fun b k cs hb hL=>
 jG T (fun w=>step_region) (h b k cs hb hL)
theorem R7{ops:Array cz}{i:Nat}{rest:List Nat}{o:cz}(ho:ops[i]?=some o){w:ar}(hw:cF o (jR ops a.tmps)=true){next:iR→ar→Prop}
  (h:o.wp P a w next fun _ _ _=>False):∃a' w',next a' w'∧Steps P (lone (b.at a (.inRegion ops (i::rest)::k)) cs w) (lone (b.at a' (.inRegion ops rest::k)) cs w'):=by
 simp only[Oper.wp,Oper.upon] at h;have hg:=stepG_op (P:=P) (b:=b) (k:=k) (cs:=cs) (w:=w) (rest:=rest) ho hw
 have ru:∀v,(b.at a (.inRegion ops (i::rest)::k)).finish v=b.at (a.put o.dst v) (.inRegion ops rest::k):=by
  intro v;rw[Frame.finish_at,ho];rfl
 split at h
 ·rename_i v w' hr;refine⟨_,_,h,.one (step_lone_go ?_)⟩;rw[hg,←ru];simp[dX,hr]
 ·rename_i w' hr;refine⟨_,_,h,.one (step_lone_go ?_)⟩;rw[hg,←ru];simp[dX,hr]
 ·rename_i d w' hr;refine⟨_,_,h,.one (step_lone_go ?_)⟩
  have:({ b.at a (.inRegion ops (i::rest)::k) with defers:=d::a.defers }:bL).finish af =
    b.at ({ a with defers:=d::a.defers }.put o.dst af) (.inRegion ops rest::k):=by
   have:=Frame.finish_at b { a with defers:=d::a.defers } ops i rest k af;rw[ho] at this;exact this
  rw[hg];simp only[dX,Sem.runT_eq,hr,GStep.bare_after];exact congrArg (fun fr=>GStep.go { frame:=fr,callers:=cs,status:=.running,dying:=none } w') this
 ·rename_i f args w' hr;obtain⟨e,w'',fr,hR,MJ,_,YS⟩:=h (b.at a (.inRegion ops (i::rest)::k)::cs)
  have sY:step P (lone (b.at a (.inRegion ops (i::rest)::k)) cs w)=.next (lone (dZ P f args .normal) (b.at a (.inRegion ops (i::rest)::k)::cs) w'):=
   step_lone_go (by rw[hg];simp[dX,hr,Frame.at])
  cases e with
  |returned v=>
   refine⟨_,_,hR,.head sY (MJ.trans (.one ?_))⟩;rw[←ru];exact step_leave_returned YS
  |panicked chain=>exact hR.elim
  |outgrown=>obtain⟨_,_,h0⟩:=hR;exact h0.elim
 ·rename_i row args w' hr;obtain⟨v,w'',hR,MJ⟩:=h (b.at a (.inRegion ops (i::rest)::k)) cs
  have sY:step P (lone (b.at a (.inRegion ops (i::rest)::k)) cs w)=.next (lone (Frame.ofRow P row args .normal) (b.at a (.inRegion ops (i::rest)::k)::cs) w'):=
   step_lone_go (by rw[hg];simp[dX,hr,Frame.at])
  refine⟨_,_,hR,.head sY ?_⟩;rw[←ru];exact MJ
 ·exact h.elim
 ·exact h.elim
theorem fQ(T:Quiet P){ops:Array cz}{i:Nat}{rest:List Nat}{o:cz}(ho:ops[i]?=some o)(hw:cF o (jR ops a.tmps)=true)
  (h:∀τ d,o.wp P a (dr W τ d) (fun a' w'=>en P ops Q rest a' w') fun _ _ _=>False):en P ops Q (i::rest) a W:=by
 intro b k cs hb hL;refine(Bo T (Q:=fun fr' W'=>∃a',fr'=b.at a' (.inRegion ops rest::k)∧en P ops Q rest a' W') fun τ=>?_).bind ?_
 ·obtain⟨a',w',hn,hs⟩:=R7 (b:=b) (k:=k) (cs:=cs) (rest:=rest) ho hw (h τ 0);exact⟨_,w',hs,a',rfl,hn⟩
 ·rintro g' W' _ ⟨fr',τ,d,rfl,a',rfl,hn⟩;exact(hn b k cs hb hL).ofT
theorem Ju(T:Quiet P){ops:Array cz}{i:Nat}{rest:List Nat}{o:cz}(ho:ops[i]?=some o)(hw:cF o (jR ops a.tmps)=false)(h:en P ops Q rest (a.put o.dst af) W):en P ops Q (i::rest) a W:=by
 intro b k cs hb hL;refine jG T (fun w=>step_op_skip (by simp[ho,hw])) ?_;have e:(ops[i]?).bind (·.dst)=o.dst:=by rw[ho];rfl
 rw[e];exact h b k cs hb hL
theorem qG(T:Quiet P){ops:Array cz}{i:Nat}{rest:List Nat}{o:cz}(ho:ops[i]?=some o)(hw:cF o (jR ops a.tmps)=true){f:dR}{args:Array aj}(he:∀w,(bX a.eval o).run P w=.ok (.enter f args) w)
  {R:aj→ar→Prop} (hc:iQ P f args W R) (h:∀v W',W.heap.size≤W'.heap.size→R v W'→en P ops Q rest (a.put o.dst v) W'):en P ops Q (i::rest) a W:=by
 intro b k cs hb hL
 have sY:∀w,step P (lone (b.at a (.inRegion ops (i::rest)::k)) cs w)=.next (lone (dZ P f args .normal) (b.at a (.inRegion ops (i::rest)::k)::cs) w):=fun w=>by
  have hg:=stepG_op (P:=P) (b:=b) (k:=k) (cs:=cs) (w:=w) (rest:=rest) ho hw;exact step_lone_go (by rw[hg];simp[dX,he w,Frame.at])
 refine(xe T (τ:=W.tape) (d:=W.drawn) (rp (sY _))).bind fun g' W' hs hq=>?_;obtain⟨rfl,τ,d,rfl⟩:=hq;refine iP.PY ?_ τ d;refine(hc (b.at a (.inRegion ops (i::rest)::k)::cs)).bind fun g2 W2 hs2 ML=>?_;obtain⟨fr,v,τ2,d2,rfl,hv,hfn,hl⟩:=ML;refine(Hq T hl).bind fun g3 W3 hs3 hq3=>?_;obtain⟨rfl,τ3,d3,rfl⟩:=hq3
 have ru:(b.at a (.inRegion ops (i::rest)::k)).finish v=b.at (a.put o.dst v) (.inRegion ops rest::k):=by
  rw[Frame.finish_at,ho];rfl
 rw[ru];exact iP.PY (h v W2 hs2 hv b k cs hb hL) τ3 d3
def Gj(P:aI)(fn:Func)(R:aj→ar→Prop):Exit→iR→ar→Prop
 |.normal,a,w|.ret,a,w=>a.defers=[]∧∃v,(results fn a.tmps).run P w=.ok v w∧R v w
 |_,_,_=>False
theorem a8{fn:Func}{R:aj→ar→Prop}:∀e a w,Gj P fn R e a w→si e=true:=fun e a w h=>by cases e<;>first|rfl|exact h.elim
theorem xh{fn:Func}{R:aj→ar→Prop}{c:gG}{w:ar}(h:c.wp P (bodyPost P fn fun e w'=>∃v,e=.returned v∧R v w') a w):c.wp P (Gj P fn R) a w:=by
 refine AX h fun e a w hq=>?_;cases e with
 |normal=>obtain⟨h1,v,h2,v',h3,h4⟩:=hq;cases h3;exact⟨h1,v,h2,h4⟩
 |ret=>obtain⟨h1,v,h2,v',h3,h4⟩:=hq;cases h3;exact⟨h1,v,h2,h4⟩
 |panic chain=>obtain⟨_,v,h3,_⟩:=hq;cases h3
 |exit id=>exact hq.elim
 |goto l=>exact hq.elim
 |outgrown=>obtain⟨v,h3,_⟩:=hq;cases h3
theorem kD(T:Quiet P){f:dR}{fn:Func}{c:gG}{args:Array aj}{R:aj→ar→Prop}(hf:P.funcs[f]?=some fn)(hb:fn.body=some c)(hR:∀v W' τ d,R v (dr W' τ d)→R v W')
  (h:mP P c (Gj P fn R) { tmps:=args++aT (fn.ntmps-args.size) af,defers:=[] } W):iQ P f args W R:=by
 intro cs;let b:Frame:={ (default:bL) with fn:=f,kind:=.normal }
 have sY:dZ P f args .normal=b.at { tmps:=args++aT (fn.ntmps-args.size) af,defers:=[] } [.code c]:=by
  simp[dZ,Frame.at,hf,hb,b]
 rw[sY];refine(h b [] cs (by simp[b]) fun id a w hq=>hq.elim).bind fun g' W' hs hq=>?_;obtain⟨e,a',τ,d,hq,harr⟩:=hq;cases e with
 |normal=>
  subst harr;obtain⟨hd,v,hr,hv⟩:=hq;refine jG T (fun w=>step_end) (.here ⟨_,v,τ,d,rfl,hR _ _ _ _ hv,rfl,rfl,hd,rfl,fn,hf,hr⟩)
 |ret=>
  obtain⟨todo,rfl⟩:=harr;obtain⟨hd,v,hr,hv⟩:=hq;exact .here ⟨_,v,τ,d,rfl,hR _ _ _ _ hv,rfl,rfl,hd,rfl,fn,hf,hr⟩
 |exit id=>exact harr.elim fun _ h=>hq.elim
 |goto l=>exact harr.elim
 |panic c=>exact harr.elim
 |outgrown=>exact harr.elim
end
structure Old(W W':ar):Prop where
 os:W'.os=W.os
 output:W'.output=W.output
 size:W.heap.size≤W'.heap.size
 block:∀k,k<W.heap.size→W'.heap[k]?=W.heap[k]?
theorem Old.refl(W:ar):Old W W:=⟨rfl,rfl,ax _,fun _ _=>rfl⟩
theorem Old.trans{a b c:ar}(h:Old a b)(k:Old b c):Old a c:=⟨k.os.trans h.os,k.output.trans h.output,aN h.size k.size,fun i hi=>(k.block i (bz hi h.size)).trans (h.block i hi)⟩
theorem Old.of_below{W W':ar}(h:RowKit.Below W.heap.size W W'):Old W W':=⟨h.os,h.output,h.size,h.block⟩
theorem Old.PY{W W':ar}(h:Old W W')(τ:Nat→Question→Nat)(d:Nat)(τ':Nat→Question→Nat)(d':Nat):Old (dr W τ d) (dr W' τ' d'):=⟨h.os,h.output,h.size,h.block⟩
theorem Old.cell{W W':ar}(h:Old W W'){a:cU}(ha:a.block<W.heap.size):W'.cell? a=W.cell? a:=iF (h.block _ ha)
theorem yj[uf]{W w:ar}(V:jc W w){k:Nat}{o:Obj}(h:W.heap[k]?=some o)(ho:fL o=true):w.heap[k]?=some o:=by
 rcases V.at_ k with e|⟨e,_⟩
 ·rw[←e];exact h
 ·rw[e] at h;cases h;cases ho
theorem SI[K:uf]{W w w':ar}(V:jc W w)(cS:dw W)(os:w'.os=w.os)(out:w'.output=w.output)(sz:w.heap.size≤w'.heap.size)(n:Nat)(hκ:∀b o,b<W.heap.size→w'.heap[b]?=some o→fL o=false→w.heap[b]?=some o)(hk:∀k,k<n→w'.heap[k]?=w.heap[k]?) :
  ∃W',jc W' w'∧dw W'∧W'.os=W.os∧W'.output=W.output∧W.heap.size≤W'.heap.size∧(∀k,k<n→k<W.heap.size→W'.heap[k]?=W.heap[k]?)∧∀(b:Nat) (o:Obj),w'.heap[b]?=some o→fL o=true→W'.heap[b]?=some o:=by
 obtain⟨W',hV,rr,_,_,lS⟩:=BL w' fun b x h=>⟨by have:=V.old b x h;have:=V.size;omega,fun o h1 h2=>by
  have h3:=V.old b x h;replace h1:=hκ b o h3 h1 h2
  have h4:W.heap[b]?=some (.coro none):=by
   rcases V.at_ b with e|⟨e,_⟩
   ·rw[h1] at e;rcases cS b o e with h5|h5
    ·rw[h5] at h2;cases h2
    ·rw[e,h5]
   ·exact e
  have h5:=V.kept b x h h4
  rw[h1] at h5;exact bf h5⟩
 refine⟨W',hV,rr,hV.os.trans (os.trans V.os.symm),hV.out.trans (out.trans V.out.symm),by rw[hV.size,V.size];exact sz,fun k qg hk2=>?_,lS⟩;have sI:=hk k qg;obtain⟨o,ho⟩:∃o,W.heap[k]?=some o:=⟨_,aM hk2⟩
 rw[ho];rcases cS k o ho with h1|rfl
 ·exact lS k o (by rw[sI];exact yj V ho h1) h1
 ·
  rcases V.at_ k with e|⟨_,x,hx,kJ⟩
  ·have hw':w'.heap[k]?=some (.coro none):=by rw[sI,←e];exact ho
   rcases hV.at_ k with e2|⟨e2,_⟩
   ·rw[e2];exact hw'
   ·exact e2
  ·have hw':w'.heap[k]?=some x:=by rw[sI];exact hx
   rcases hV.at_ k with e2|⟨e2,_⟩
   ·rw[hw'] at e2;rcases rr k x e2 with h|h
    ·rw[h] at kJ;cases kJ
    ·rw[e2,h]
   ·exact e2
section
variable{P:aI}{b:bL}{k:List oJ}{cs:List bL}{W:ar}{R:aB→ar→Prop}
theorem oq(T:Quiet P){c:gG}{a:iR}(hb:b.kind≠.early){Q:iR→ar→Prop}(h:∀τ d,c.wp P (fun e a W'=>e=.normal∧Q a W') a (dr W τ d))
  (hk:∀a' W' τ d,Q a' (dr W' τ d)→iP P R (G (b.at a' k) cs) W'):iP P R (G (b.at a (.code c::k)) cs) W:=by
 refine(yy T (m:=.code c::k) (Q:=fun e a W'=>e=.normal∧Q a W') hb (fun id a w hq=>by cases hq.1) (fun e a w hq=>by rw[hq.1];rfl) fun τ=>h τ 0 b k cs).bind fun g' W' hs hq=>?_;obtain⟨e,a',τ,d,⟨rfl,hq⟩,harr⟩:=hq;subst harr;exact hk a' W' τ d hq
end
end Go.Lag
namespace Go.Lag
open Go Go.Conc Go.RowKit Go.ChangeShapes
section
variable{H:Type}{enc:aX × aj→H}
theorem Kf{a:Assume}{C:Checked}{os:Os}{f:dR}{fn:Func}{s:ChangeSpec}{conds:List PathCond}{apart fresh handsOn again:Bool}{X:ar→Array aj→Prop}
  (hX:∀(w w':ar) (args:Array aj),w.heap=w'.heap→X w args→X w' args)
  (own:ownKnob C.prog.godebug=none) (started:os.Started) (hfn:C.prog.funcs[f]?=some fn)
  (witness:∃(w:ar) (tape:Tape) (i:Input),w.os=os∧(w.forCall tape i).Shaped C.prog∧i.vars=[]∧Input.okWide C.prog (w.forCall tape i) .any w.heap.size f i∧
   ((s.pre enc C.prog fn conds apart (w.forCall tape i).memory i.args∧X (w.forCall tape i).memory i.args)∧sizedMet enc C.prog fn (OpenSpec.ofChange s) apart (w.forCall tape i).memory i.args)∧a.holds C.prog (lone (dZ C.prog f i.args .normal) [] (w.forCall tape i)))
  (runs:∀(W:ar) (base:Nat) (args:Array aj) (ds gs:List (DataW H)) (before:List MemPlace),
   (∀(j:Nat) t v,fn.params[j]?=some t→args[j]?=some v→Value.okWide C.prog W .any base t v)→
   DataW.Whole enc C.prog fn.params.toList s.vars apart W args.toList ds gs before→X W args→
   ∃M last o w' t',runNT C.prog (M+1) (solo (G (dZ C.prog f args .normal) []) W) #[]=(.ended o w',t')∧runN C.prog M (solo (G (dZ C.prog f args .normal) []) W)=.next last∧
    step C.prog last=.ended o w'∧Conc.Good C.prog (fun v W'=>s.post enc C.prog fn apart fresh handsOn again W args v W') last o w' t') :
  ReturnsInLeavingWide a C os f .any (fun w args=>(s.pre enc C.prog fn conds apart w args∧X w args)∧sizedMet enc C.prog fn (OpenSpec.ofChange s) apart w args) (s.post enc C.prog fn apart fresh handsOn again):=by
 refine returnsInLeavingWide_of_good own started witness ?_;intro w tape i _ _ _ cS hpre afz;obtain⟨_,_,_,fn',afG,_,_,_,_,hval⟩:=cS;have e:fn'=fn:=bf (afG.symm.trans hfn);subst e;obtain⟨⟨⟨ds,gs,before,hw,hc⟩,hx⟩,hz⟩:=hpre;have hw':=DataW.Whole.of_heap (w':=w.forCall tape i) (by rfl) hw;obtain⟨M,last,o,w',t',h1,h2,h3,h4⟩:=runs (w.forCall tape i) w.heap.size i.args ds gs before hval hw' (hX _ _ _ (by rfl) hx);exact⟨M,last,o,w',t',h1,h2,h3,h4.mono fun v hp=>ChangeSpec.post_blind hp⟩
theorem wC{P:aI}(hl:laidOutB P=true){W W':ar}(hb:az W.heap.size W W'):∀ {ts:List aX} {vs:List aj} {ds:List (DataW H)} {p:List MemPlace},(∀t∈ts,P.readableRec t=true∧t<P.types.size)→(∀x∈p,x.block<W.heap.size)→
  DataW.TrodAll enc P W 0 (fun _=>true) true ts vs ds p→DataW.TrodAll enc P W' 0 (fun b=>decide (b<W.heap.size)) true ts vs ds p
 |[],[],[],p,_,_,h=>h
 |t::ts,v::vs,d::ds,ps,ht,hp,h=>by
  obtain⟨p,q,h1,h2,rfl⟩:=h;exact⟨p,q,Below.trod hl (ht t (by simp)).1 (ht t (by simp)).2 h1 hb fun x hx=>hp x (by simp[hx]),wC hl hb (fun t h=>ht t (by simp[h])) (fun x hx=>hp x (by simp[hx])) h2,rfl⟩
 |[],[],_::_,_,_,_,h=>h.elim
 |[],_::_,_,_,_,_,h=>h.elim
 |_::_,[],_,_,_,_,h=>h.elim
 |_::_,_::_,[],_,_,_,h=>h.elim
theorem RO{P:aI}{fn:Func}{s:ChangeSpec}{apart:Bool}{W w':ar}{args:Array aj}{ds gs:List (DataW H)}{before:List MemPlace}{tb:aX}(hl:laidOutB P=true)(Xe:s.vars=[])(VF:∀t∈fn.params.toList,P.readableRec t=true∧t<P.types.size)
  (hres:fn.resultTypes = #[tb]) (acv:P.underlying tb=some .bool) (hW:DataW.Whole enc P fn.params.toList s.vars apart W args.toList ds gs before) (hfn:∀ZO:List (DataW H),ZO.length=fn.params.size→s.fn H ZO={ results:=[.lit (.bool true)],args:=ZO })
  (hlen:ds.length=fn.params.size) (hb:az W.heap.size W { w' with tape:=W.tape }):s.post enc P fn apart true false false W args (.bool true) w':=by
 refine ChangeSpec.post_alike (W'':={ w' with tape:=W.tape }) ?_ ⟨rfl,rfl,rfl⟩;have hW':=hW;obtain⟨p,q,hA,hV,rfl,_,_⟩:=hW
 have qh:gs=[]∧q=[]:=by
  rw[Xe] at hV;cases gs with
  |nil=>exact⟨rfl,hV⟩
  |cons=>exact hV.elim
 obtain⟨rfl,rfl⟩:=qh;have hlt:∀x∈p,x.block<W.heap.size:=fun x hx=>hW'.lt x (by simp[hx]);refine⟨ds,[],p++[],[],p,[],hW',?_,?_,?_,hb.frame _,fun h=>by cases h⟩
 ·rw[List.append_nil,hfn ds hlen,hres];exact trodAll_mk1 (shut_bool acv _)
 ·rw[List.append_nil,hfn ds hlen];exact wC hl hb VF hlt hA
 ·rw[List.append_nil,hfn ds hlen,Xe];rfl
end
theorem Df{P:aI}(T:Quiet P){f:dR}{args:Array aj}{v0:aj}(hi:P.inits.idxOf? f=none)(W:ar)
  (h:∀Wk:ar,Wk.heap.size=W.heap.size→(∀(b:Nat) (o:Obj),W.heap[b]?=some o→fL o=true→Wk.heap[b]?=some o)→iQ P f args Wk fun v W'=>v=v0∧Old Wk W') :
  ∃M last o w' t',runNT P (M+1) (solo (G (dZ P f args .normal) []) W) #[]=(.ended o w',t')∧runN P M (solo (G (dZ P f args .normal) []) W)=.next last∧
   step P last=.ended o w'∧Conc.Good P (fun v w'=>v=v0∧az W.heap.size W { w' with tape:=W.tape }) last o w' t':=by
 letI K:uf:=⟨fun b=>W.heap[b]?⟩
 obtain⟨Wk,V,cS,-,-,hk⟩:=BL W fun b x hx=>⟨(ak.1 hx).1,fun o ho _=>bf (ho.symm.trans hx)⟩
 obtain⟨M,last,o,w',t',h1,h2,h3,h4⟩:=Em T hi (h Wk V.size hk) cS V;refine⟨M,last,o,w',t',h1,h2,h3,h4.mono ?_⟩;rintro v ⟨W',⟨rfl,hold⟩,V',-,hs⟩;refine⟨rfl,V'.os.symm.trans (hold.os.trans V.os),rfl,V'.out.symm.trans (hold.output.trans V.out),?_,fun b hb=>?_⟩
 ·show W.heap.size≤w'.heap.size;rw[←V'.size,←V.size];exact hold.size
 ·show w'.heap[b]?=W.heap[b]?;obtain⟨o,ho⟩:∃o,W.heap[b]?=some o:=⟨_,aM hb⟩
  have r8:=hold.block b (by rw[V.size];exact hb);have Xu:W'.heap[b]?=some (.coro none)→w'.heap[b]?=W.heap[b]?:=fun e=>(V'.kept b o ho e).trans ho.symm;rcases V.at_ b with e|⟨e,-⟩
  ·rcases V'.at_ b with e'|⟨e',-⟩
   ·rw[←e',r8,e]
   ·exact Xu e'
  ·exact Xu (r8.trans e)
end Go.Lag
namespace Go.Proofs.YtffladgmkiimjaaGreatDoor
open Go Go.RowKit Go.Lag Go.ChangeShapes
theorem Tryz.own:ownKnob Tryz.prog.godebug=none:=by kernel_rfl
theorem Tryz.laidOut:laidOutB aq=true:=by kernel_rfl
theorem TM(os:Os)(args:Array aj):laidMetH aq Kh ((World.doorLaid aq 400 os).forCall (fun _ _=>0) ⟨#[],args,[]⟩).memory:=
 laidMetH_of_parts3 (fuel:=8) (laidMet_of_run' 8 (by kernel_rfl) (by kernel_rfl)) (by kernel_rfl) (by kernel_rfl)
end Go.Proofs.YtffladgmkiimjaaGreatDoor
namespace Go.Proofs.YtffladgmkiimjaaGreatDoor
open Go Go.RowKit Go.Lag Go.ChangeShapes Go.Conc
theorem Vt{W:ar}{base:Nat}{t:aX}{k:IntKind}{v:aj}(ht:Tryz.prog.underlying t=some (.int k))(h:Value.okWide aq W .any base t v):∃x,v=.int k x∧k.has x:=by
 unfold Value.okWide at h;rw[ht] at h;exact SJ ht h
theorem pK{W Wk:ar}(hk:∀(b:Nat) (o:Obj),W.heap[b]?=some o→fL o=true→Wk.heap[b]?=some o){a:cU}{v:aj}(h:W.cell? a=some v):Wk.cell? a=some v:=by
 unfold dC at h ⊢;cases e:W.heap[a.block]? with
 |none=>rw[e] at h;simp at h
 |some o=>
  rw[e] at h;cases o<;>simp only[] at h<;>first|(rw[hk _ _ e rfl];exact h)|(cases h)
theorem Laid.kill{W Wk:ar}(h:Laid W)(hs:Wk.heap.size=W.heap.size)(hk:∀(b:Nat) (o:Obj),W.heap[b]?=some o→fL o=true→Wk.heap[b]?=some o):Laid Wk:=
 ⟨pK hk h.c0,pK hk h.c1,pK hk h.c2,pK hk h.c3,pK hk h.c4,by rw[hs];exact h.lt⟩
theorem Reads.kill{W Wk:ar}{v:aj}{n:Nat}{xs:List aj}(h:Reads W v n xs)(hs:Wk.heap.size=W.heap.size)(hk:∀(b:Nat) (o:Obj),W.heap[b]?=some o→fL o=true→Wk.heap[b]?=some o):Reads Wk v n xs:=by
 rcases h with h|⟨g,off,cap,h1,h2,h3,h4⟩
 ·exact .inl h
 ·exact .inr ⟨g,off,cap,h1,h2,by rw[hs];exact h3,fun j u hj=>pK hk (h4 j u hj)⟩
theorem SliceAt.lit{W:ar}{v:aj}(h:SliceAt W v):∃p n c,v=.slice p n c:=by
 rcases h with h|⟨g,off,n,c,h,-⟩
 ·exact⟨_,_,_,h⟩
 ·exact⟨_,_,_,h⟩
theorem agC:Tryz.prog.cellsOf 81=3:=by kernel_rfl
theorem co3:Tryz.prog.cellsOf 3=1:=by kernel_rfl
theorem ZU{W:ar}{base:Nat}{a:cU}{cs:List aj}(h:W.cells? base a 1=some cs):∃x,cs=[x]∧W.cell? (a.add 0)=some x:=by
 unfold World.cells? at h;split at h
 ·simp only[show aU 1=[0] from rfl,List.mapM_cons,List.mapM_nil] at h;cases h0:W.cell? (a.add 0)<;>rw[h0] at h<;>simp at h;exact⟨_,h.symm,rfl⟩
 ·cases h
section
variable{H:Type}{enc:aX × aj→H}{W:ar}{hd:Bool}
theorem My{fuel:Nat}{g off n c:Nat}{x:DataW H × List MemPlace}(vT:n≤c)(h:DataW.trod enc aq W 0 (fun _=>true) hd fuel 26 [.slice (some ⟨g,off,none⟩) n c]=some x) :
  ∀i,i<n→∃mk:Mk,∀j u,mk.cells[j]?=some u→W.cell? ⟨g,off+i*3+j,none⟩=some u:=by
 intro i hi;rcases Go.Deep.open_slice Tryz.underlying26 h with⟨h0,-⟩|⟨a,len,cap,mm,nn,D,Pl,h0,-,-,-,hm,-,hel⟩
 ·cases h0
 ·cases h0;obtain⟨cs',hc,ht⟩:=hel i (by rw[hm];simp;omega);rw[agC] at hc;obtain⟨x,y,z,rfl,e0,e1,e2⟩:=TV hc;rw[sG,sG] at e0 e1 e2;obtain⟨y0,y1,n1,-,-,t0,t1⟩:=trod_struct2 Tryz.underlying81 ht;have c23:Tryz.prog.cellsOf 23=2:=by kernel_rfl
  simp only[co3,c23] at t0 t1;obtain⟨z0,z1,n2,-,-,u0,u1⟩:=trod_struct2 Tryz.underlying23 t1;simp only[co3] at u0 u1;obtain⟨m,hs,-⟩:=DataW.trod_int eo t0;obtain⟨lo,hlo,-⟩:=DataW.trod_int eo u0;obtain⟨hi',hhi,-⟩:=DataW.trod_int eo u1;simp at hs hlo hhi;subst hs;subst hlo;subst hhi;refine⟨⟨m,lo,hi'⟩,fun j u hj=>?_⟩
  match j,hj with
  |0,hj=>cases hj;exact e0
  |1,hj=>cases hj;exact e1
  |2,hj=>cases hj;exact e2
  |j+3,hj=>simp[Mk.cells] at hj
theorem Pt{fuel:Nat}{g off n c:Nat}{x:DataW H × List MemPlace}(vT:n≤c)(h:DataW.trod enc aq W 0 (fun _=>true) hd fuel 25 [.slice (some ⟨g,off,none⟩) n c]=some x) :
  ∀i,i<n→∃k:Int,W.cell? ⟨g,off+i,none⟩=some (.int .i64 k):=by
 intro i hi;rcases Go.Deep.open_slice Tryz.underlying25 h with⟨h0,-⟩|⟨a,len,cap,mm,nn,D,Pl,h0,-,-,-,hm,-,hel⟩
 ·cases h0
 ·cases h0;obtain⟨cs',hc,ht⟩:=hel i (by rw[hm];simp;omega);rw[co3] at hc;obtain⟨x,rfl,e0⟩:=ZU hc;rw[sG,sG] at e0;obtain⟨k,hk,-⟩:=DataW.trod_int eo ht;simp at hk;subst hk;exact⟨k,by simpa using e0⟩
end
theorem JX{W:ar}{g off n c:Nat}(vT:n≤c)(hg:g<W.heap.size)(hn:n≤20)(h:∀i,i<n→∃mk:Mk,∀j u,mk.cells[j]?=some u→W.cell? ⟨g,off+i*3+j,none⟩=some u) :
  ∃ms:List Mk,ms.length=n∧Reads W (.slice (some ⟨g,off,none⟩) n c) n (dm ms):=by
 obtain⟨f,hf⟩:∃f:Nat→Mk,∀i,i<n→∀j u,(f i).cells[j]?=some u→W.cell? ⟨g,off+i*3+j,none⟩=some u:=
  ⟨fun i=>if hi:i<n then(h i hi).choose else⟨0,0,0⟩,fun i hi=>by simp only[dif_pos hi];exact(h i hi).choose_spec⟩
 refine⟨(aU n).map f,by simp,.inr ⟨g,off,c,rfl,⟨by omega,vT⟩,hg,fun j u hj=>?_⟩⟩;have LI:j<(dm ((aU n).map f)).length:=(oM.1 hj).1;rw[nH] at LI;simp at LI;have hk:j / 3<n:=by omega
 have e:j=3*(j / 3)+j % 3:=by omega
 rw[e,pF _ _ _ (by simpa using hk) (by omega)] at hj;simp only[List.getElem_map,List.getElem_range] at hj;rw[show off+j=off+(j / 3)*3+j % 3 by omega];exact hf (j / 3) hk _ _ hj
theorem Mi{W:ar}{g off n c:Nat}(vT:n≤c)(hg:g<W.heap.size)(hn:n≤20)(h:∀i,i<n→∃k:Int,W.cell? ⟨g,off+i,none⟩=some (.int .i64 k)) :
  ∃ss:List Int,ss.length=n∧Reads W (.slice (some ⟨g,off,none⟩) n c) n (ss.map (aD .i64)):=by
 obtain⟨f,hf⟩:∃f:Nat→Int,∀i,i<n→W.cell? ⟨g,off+i,none⟩=some (.int .i64 (f i)):=
  ⟨fun i=>if hi:i<n then(h i hi).choose else 0,fun i hi=>by simp only[dif_pos hi];exact(h i hi).choose_spec⟩
 refine⟨(aU n).map f,by simp,.inr ⟨g,off,c,rfl,⟨by omega,vT⟩,hg,fun j u hj=>?_⟩⟩;have LI:j<(((aU n).map f).map (aD .i64)).length:=(oM.1 hj).1;simp at LI;simp[LI] at hj;subst hj;exact hf j LI
theorem SC{H:Type}{enc:aX × aj→H}{W:ar}{b:BB}{m s k:aj}{d:DataW H}{p:List MemPlace}(h:DataW.Trod enc aq W 0 (fun _=>true) true 28 (.agg (b.cells m s k)) d p)(hm:SliceAt W m)(hs:SliceAt W s)(hk:SliceAt W k) :
  ∃(p1 p2 p3:Option cU) (n1 c1 n2 c2 n3 c3:Nat),m=.slice p1 n1 c1∧s=.slice p2 n2 c2∧k=.slice p3 n3 c3∧
   ((20<n1∨20<n2∨20<n3)∨∃(ml:List Mn) (ss:List Int) (ms:List Mk),ml.length=n1∧ss.length=n2∧ms.length=n3∧Reads W m n1 (fF ml)∧Reads W s n2 (ss.map (aD .i64))∧Reads W k n3 (dm ms)):=by
 obtain⟨fuel,ht⟩:=h;obtain⟨⟨f1,y1,t1⟩,⟨f2,y2,t2⟩,⟨f3,y3,t3⟩⟩:=Nr ht
 have A:∃p1 n1 c1,m=.slice p1 n1 c1∧(20<n1∨∃ml:List Mn,ml.length=n1∧Reads W m n1 (fF ml)):=by
  rcases hm with rfl|⟨g,off,n,c,rfl,vT,hg⟩
  ·exact⟨_,_,_,rfl,.inr ⟨[],rfl,.inl ⟨rfl,rfl,rfl⟩⟩⟩
  ·by_cases hb:20<n
   ·exact⟨_,_,_,rfl,.inl hb⟩
   ·exact⟨_,_,_,rfl,.inr (PH vT hg (by omega) (Sw vT t1))⟩
 have B:∃p1 n1 c1,s=.slice p1 n1 c1∧(20<n1∨∃ss:List Int,ss.length=n1∧Reads W s n1 (ss.map (aD .i64))):=by
  rcases hs with rfl|⟨g,off,n,c,rfl,vT,hg⟩
  ·exact⟨_,_,_,rfl,.inr ⟨[],rfl,.inl ⟨rfl,rfl,rfl⟩⟩⟩
  ·by_cases hb:20<n
   ·exact⟨_,_,_,rfl,.inl hb⟩
   ·exact⟨_,_,_,rfl,.inr (Mi vT hg (by omega) (Pt vT t2))⟩
 have C:∃p1 n1 c1,k=.slice p1 n1 c1∧(20<n1∨∃ms:List Mk,ms.length=n1∧Reads W k n1 (dm ms)):=by
  rcases hk with rfl|⟨g,off,n,c,rfl,vT,hg⟩
  ·exact⟨_,_,_,rfl,.inr ⟨[],rfl,.inl ⟨rfl,rfl,rfl⟩⟩⟩
  ·by_cases hb:20<n
   ·exact⟨_,_,_,rfl,.inl hb⟩
   ·exact⟨_,_,_,rfl,.inr (JX vT hg (by omega) (My vT t3))⟩
 obtain⟨p1,n1,c1,e1,A⟩:=A;obtain⟨p2,n2,c2,e2,B⟩:=B;obtain⟨p3,n3,c3,e3,C⟩:=C;refine⟨p1,p2,p3,n1,c1,n2,c2,n3,c3,e1,e2,e3,?_⟩;rcases A with A|⟨ml,a1,a2⟩
 ·exact .inl (.inl A)
 ·rcases B with B|⟨ss,b1,b2⟩
  ·exact .inl (.inr (.inl B))
  ·rcases C with C|⟨ms,k1,k2⟩
   ·exact .inl (.inr (.inr C))
   ·exact .inr ⟨ml,ss,ms,a1,b1,k1,a2,b2,k2⟩
end Go.Proofs.YtffladgmkiimjaaGreatDoor
namespace Go.Proofs.YtffladgmkiimjaaGreatDoor
open Go.RowKit Go.Lag
open Go.Conc
noncomputable def OJ:Code:=.seq FC (.seq (.block 2 (.loop LP)) vX)
theorem IW(tmps:Array aj)(v:aj)(h2:tmps[2]?=some v)(w:ar)(h:tmps.size=71):(results kx tmps).run aq w=.ok v w:=by
 have e2:=bq h2;rw[ue tmps h];simp only[aU,bT,cK,fO,e2];simp[results,kx,go_sem]
theorem aeB{tmps:Array aj}{v:aj}{W:ar}(hs:tmps.size=71)(h9:tmps[9]?=some v):vX.wp aq (fun e a W'=>e=.ret∧a.defers=[]∧a.tmps.size=71∧a.tmps[2]?=some v∧W'=W) ⟨tmps,[]⟩ W:=by
 have e9:=bq h9;rw[ue tmps hs];simp only[aU,bT,cK,fO,e9];simp only[vX,gN,qB,kx,sL,sR];go_wp2
structure Uq(P:aI)(b:BB)(men sent marks all:aj)(l:List eA)(ss:List Int)(ms:List Mk)(Y:Nat→Prop)(W:ar):Prop where
 e:P=aq
 f159:P.funcs[(159:Nat)]?=some kx
 f178:P.funcs[(178:Nat)]?=some Tryz.f178
 i159:P.inits.idxOf? 159=none
 i178:P.inits.idxOf? 178=none
 ok:b.Ok
 Z1:∀a∈l,a.Ok
 Gf:∀s∈ss,1≤s∧s≤8
 mks:∀m∈ms,1≤m.minute∧m.minute≤8
 cl:Closed fw Y W
 low:∀c,Y c→P.globals.size≤c
 s5:P.globals.size≤W.heap.size
 vm:VR fw (xo Y) men men
 vs:VR fw (xo Y) sent sent
 vk:VR fw (xo Y) marks marks
 va:VR fw (xo Y) all all
 rs:lZ Y W sent ss.length (ss.map (aD .i64))
 rm:lZ Y W marks ms.length (dm ms)
 ra:lZ Y W all l.length (rowOf l)
theorem Uq.lt{P:aI}{b:BB}{men sent marks all:aj}{l:List eA}{ss:List Int}{ms:List Mk}{Y:Nat→Prop}{W:ar}(G:Uq P b men sent marks all l ss ms Y W){c:Nat}(hc:Y c):c<W.heap.size:=G.cl.lt hc
def Un(b:BB)(l:List eA)(ss:List Int)(ms:List Mk)(W:ar)(v:aj)(W':ar):Prop:=
 ∃kq:List Nat,Reads W' v kq.length (ints kq)∧kq.Perm (jS b (dp ss ms).toNat (bG ss) l 512)∧Old W W'
section
variable{P:aI}{b:BB}{men sent marks all:aj}{l:List eA}{ss:List Int}{ms:List Mk}{Y:Nat→Prop}{W W1:ar}{xb fb tb c0 c1 sn:Nat}{cs:List bL}
theorem Tx{X:Nat→Prop}(hm:VR fw (xo X) men men)(hs:VR fw (xo X) sent sent)(hk:VR fw (xo X) marks marks)(ha:VR fw (xo X) all all)(hx:X xb)(hf:X fb)(ht:X tb) :
  iu fw (xo X) #[.agg (b.open men sent marks all),ptr ⟨xb,0,none⟩,.slice none 0 0,.int .i64 sn,ptr ⟨fb,0,none⟩,ptr ⟨tb,0,none⟩,.int .i64 0,af,af,af,af,ptr ⟨xb,0,none⟩,ptr ⟨xb,0,none⟩,ptr ⟨xb,13,none⟩,sent,.int .i64 sn,.chan (some c0),.chan (some c1),.int .i64 0,af,af,af,af,af,af,af,af,af,af,af,af,af,af,af,af,af,af,af,af,af,af,af,af,af,af,af,af,af,af,af,af,af,af,af,af,af,af,af,af,af,af,af,af,af,af,af,af,af,af,af,af] #[.agg (b.open men sent marks all),ptr ⟨xb,0,none⟩,.slice none 0 0,.int .i64 sn,ptr ⟨fb,0,none⟩,ptr ⟨tb,0,none⟩,.int .i64 0,af,af,af,af,ptr ⟨xb,0,none⟩,ptr ⟨xb,0,none⟩,ptr ⟨xb,13,none⟩,sent,.int .i64 sn,.chan (some c0),.chan (some c1),.int .i64 0,af,af,af,af,af,af,af,af,af,af,af,af,af,af,af,af,af,af,af,af,af,af,af,af,af,af,af,af,af,af,af,af,af,af,af,af,af,af,af,af,af,af,af,af,af,af,af,af,af,af,af,af]:=by
 have Rg:∀a:cU,X a.block→VR fw (xo X) (ptr a) (ptr a):=fun a ha=>.ptr ⟨uT ha,rfl,rfl⟩
 have hagg:VR fw (xo X) (.agg (b.open men sent marks all)) (.agg (b.open men sent marks all)):=by
  refine .agg rfl fun i x y hi hj=>?_;rw[hi] at hj;cases hj;have hmem:=eH hi;simp only[BB.open,BB.cells,jw,gY,eF,bH,bR,gh,or_false,ie,j5] at hmem;rcases hmem with rfl|rfl|rfl|rfl|rfl|rfl|rfl|rfl|rfl|rfl|rfl|rfl|rfl|rfl|rfl|rfl<;>first|exact .int _ _|assumption
 have hall:∀v∈(#[.agg (b.open men sent marks all),ptr ⟨xb,0,none⟩,.slice none 0 0,.int .i64 sn,ptr ⟨fb,0,none⟩,ptr ⟨tb,0,none⟩,.int .i64 0,af,af,af,af,ptr ⟨xb,0,none⟩,ptr ⟨xb,0,none⟩,ptr ⟨xb,13,none⟩,sent,.int .i64 sn,.chan (some c0),.chan (some c1),.int .i64 0,af,af,af,af,af,af,af,af,af,af,af,af,af,af,af,af,af,af,af,af,af,af,af,af,af,af,af,af,af,af,af,af,af,af,af,af,af,af,af,af,af,af,af,af,af,af,af,af,af,af,af,af]:Array aj),VR fw (xo X) v v:=by
  intro v hv;simp only[eF,bR,gh,or_false] at hv;have hu:VR fw (xo X) af undef:=sM;rcases hv with rfl|rfl|rfl|rfl|rfl|rfl|rfl|rfl|rfl|rfl|rfl|rfl|rfl|rfl|rfl|rfl|rfl|rfl|rfl|rfl|rfl|rfl|rfl|rfl|rfl|rfl|rfl|rfl|rfl|rfl|rfl|rfl|rfl|rfl|rfl|rfl|rfl|rfl|rfl|rfl|rfl|rfl|rfl|rfl|rfl|rfl|rfl|rfl|rfl|rfl|rfl|rfl|rfl|rfl|rfl|rfl|rfl|rfl|rfl|rfl|rfl|rfl|rfl|rfl|rfl|rfl|rfl|rfl|rfl|rfl|rfl<;>first|exact hu|exact .int _ _|exact .DJ _ _|exact .chan _|exact Rg _ hx|exact Rg _ hf|exact Rg _ ht|assumption
 exact⟨rfl,fun i x y hi hj=>by rw[hi] at hj;cases hj;exact hall x (eH hi)⟩
end
theorem Wa:iw (.code vX)=true:=by kernel_rfl
theorem Reads.keep{w w':ar}{v:aj}{n:Nat}{xs:List aj}(h:Reads w v n xs)(hs:w.heap.size≤w'.heap.size)(hk:∀(g:Nat) cs e z,w.heap[g]?=some (.cells cs e z)→w'.heap[g]?=some (.cells cs e z)):Reads w' v n xs:=by
 rcases h with h|⟨g,off,cap,h1,h2,h3,h4⟩
 ·exact .inl h
 ·refine .inr ⟨g,off,cap,h1,h2,bz h3 hs,fun j u hj=>?_⟩;have hc:=h4 j u hj;unfold dC at hc ⊢;cases ho:w.heap[g]? with
  |none=>simp only[ho] at hc;cases hc
  |some o=>
   cases o with
   |cells cs e z=>simp only[hk g cs e z ho];simpa only[ho] using hc
   |_=>simp only[ho] at hc;cases hc
theorem Reads.old{w w':ar}{v:aj}{n:Nat}{xs:List aj}(h:Reads w v n xs)(ho:Old w w'):Reads w' v n xs:=
 h.keep ho.size fun g cs e z hg=>(ho.block g (ey hg)).trans hg
section
variable{P:aI}{b:BB}{men sent marks all:aj}{l:List eA}{ss:List Int}{ms:List Mk}{Y:Nat→Prop}{W W1:ar}{xb fb tb c0 c1:Nat}{cs:List bL}
theorem Tq(e:P=aq)(hf:P.funcs[(159:Nat)]?=some kx){R:aj→ar→Prop}{tmps:Array aj}{v:aj}(hs:tmps.size=71)(h9:tmps[9]?=some v)(hR:R v W) :
  iP P (fun g' W'=>∃fr v τ d,g'=G fr cs∧R v W∧W'.heap=W.heap∧W'.os=W.os∧W'.output=W.output∧fr.fn=159∧fr.leaving P (dr W' τ d) (.returned v)) (GK 159 tmps [.code vX] .normal cs) W:=by
 have T:=quiet_of e;refine(yy T (b:={ (default:bL) with fn:=159,kind:=.normal }) (a:=⟨tmps,[]⟩) (k:=[]) (m:=[.code vX]) (cs:=cs) (W:=W) (Q:=fun e a W'=>e=.ret∧a.defers=[]∧a.tmps.size=71∧a.tmps[2]?=some v∧W'.heap=W.heap∧W'.os=W.os∧W'.output=W.output) (by simp) (fun id a w hq=>by cases hq.1) (fun e a w hq=>by rw[hq.1];rfl) fun τ=>?_).bind fun g' W' hsz hq=>?_
 ·have h:=aeB (W:=dr W τ 0) hs h9;rw[←e] at h
  have h2:vX.wp P (fun e a W'=>e=.ret∧a.defers=[]∧a.tmps.size=71∧a.tmps[2]?=some v∧W'.heap=W.heap∧W'.os=W.os∧W'.output=W.output) ⟨tmps,[]⟩ (dr W τ 0):=
   AX h fun e a W' hq=>⟨hq.1,hq.2.1,hq.2.2.1,hq.2.2.2.1,by rw[hq.2.2.2.2];rfl,by rw[hq.2.2.2.2];rfl,by rw[hq.2.2.2.2];rfl⟩
  exact h2 { (default:bL) with fn:=159,kind:=.normal } [] cs
 ·obtain⟨e1,a',τ,d,⟨rfl,hd,hsz',h2,hh,ho,hu⟩,todo,rfl⟩:=hq;refine .here ⟨_,v,τ,d,rfl,hR,hh,ho,hu,rfl,rfl,hd,rfl,kx,hf,?_⟩;rw[e];exact IW _ v h2 _ hsz'
theorem M4(G0:Uq P b men sent marks all l ss ms Y W)(hold:Old W W1)(hx:W1.heap[xb]?=some (.cells (b.open men sent marks all) 122 (0,0)))(hf:W1.heap[fb]?=some (.cells #[.chan (some c0)] 188 (0,0)))(ht:W1.heap[tb]?=some (.cells #[.chan (some c1)] 189 (0,0)))
  (hc0:Chan c0 W1) (hc1:Chan c1 W1) (hne:c0≠c1) (hl:W.heap.size≤c0∧W.heap.size≤c1∧W.heap.size≤fb∧W.heap.size≤tb∧W.heap.size≤xb) {sn:Nat} (Qe:bG ss=sn) :
  iP P (fun g' W'=>∃fr v τ d,g'=G fr cs∧Un b l ss ms W v W'∧fr.fn=159∧fr.leaving P (dr W' τ d) (.returned v)) (GK 159 #[.agg (b.open men sent marks all),ptr ⟨xb,0,none⟩,.slice none 0 0,.int .i64 sn,ptr ⟨fb,0,none⟩,ptr ⟨tb,0,none⟩,.int .i64 0,af,af,af,af,ptr ⟨xb,0,none⟩,ptr ⟨xb,0,none⟩,ptr ⟨xb,13,none⟩,sent,.int .i64 sn,.chan (some c0),.chan (some c1),.int .i64 0,af,af,af,af,af,af,af,af,af,af,af,af,af,af,af,af,af,af,af,af,af,af,af,af,af,af,af,af,af,af,af,af,af,af,af,af,af,af,af,af,af,af,af,af,af,af,af,af,af,af,af,af] [.code (.block 0 (.loop IQ)),.code OJ] .normal cs) W1:=by
 intro K hg cS w V;have okc:∀ {k:Nat} {cs:Array aj} {e:aX} {z:Nat × Nat},W1.heap[k]?=some (.cells cs e z)→w.heap[k]?=some (.cells cs e z):=fun h=>yj V h rfl;have hW:∀(k:Nat) (o:Obj),W.heap[k]?=some o→fL o=true→w.heap[k]?=some o:=fun k o h ho=>yj V ((hold.block k (ey h)).trans h) ho;obtain⟨X0,UF⟩:∃X0:Nat→Prop,X0=fun c=>Y c∨c=xb∨c=fb∨c=tb:=⟨_,rfl⟩
 have hYX:∀c,Y c→X0 c:=fun c hc=>by rw[UF];exact .inl hc
 have hxX:X0 xb:=by rw[UF];exact .inr (.inl rfl)
 have hfX:X0 fb:=by rw[UF];exact .inr (.inr (.inl rfl))
 have htX:X0 tb:=by rw[UF];exact .inr (.inr (.inr rfl))
 have hvm:=G0.vm.mono (r5 hYX);have Xd:=G0.vs.mono (r5 hYX);have YB:=G0.vk.mono (r5 hYX);have hva:=G0.va.mono (r5 hYX)
 have hcell:∀a:cU,Y a.block→w.cell? a=W.cell? a:=fun a ha=>by
  obtain⟨cs,e,z,h1,_⟩:=G0.cl _ ha;exact iF ((hW _ _ h1 rfl).trans h1.symm)
 have BH:∀ {v:aj} {n:Nat} {xs:List aj},lZ Y W v n xs→lZ X0 w v n xs:=fun h=>by
  rcases h with h|⟨g,off,cap,h1,h2,h3,h4⟩
  ·exact .inl h
  ·exact .inr ⟨g,off,cap,h1,h2,hYX g h3,fun j u hj=>(hcell ⟨g,off+j,none⟩ h3).trans (h4 j u hj)⟩
 have hcl:Closed fw X0 w:=by
  intro c hc;rw[UF] at hc;rcases hc with hc|rfl|rfl|rfl
  ·obtain⟨cs,e,z,h1,h2⟩:=G0.cl c hc;exact⟨cs,e,z,hW _ _ h1 rfl,fun v hv=>(h2 v hv).mono (r5 hYX)⟩
  ·refine⟨_,_,_,okc hx,fun v hv=>?_⟩;simp only[BB.open,BB.cells,jw,gY,eF,bH,bR,gh,or_false,ie,j5] at hv;rcases hv with rfl|rfl|rfl|rfl|rfl|rfl|rfl|rfl|rfl|rfl|rfl|rfl|rfl|rfl|rfl|rfl<;>first|exact .int _ _|assumption
  ·exact⟨_,_,_,okc hf,fun v hv=>by simp at hv;subst hv;exact .chan _⟩
  ·exact⟨_,_,_,okc ht,fun v hv=>by simp at hv;subst hv;exact .chan _⟩
 have hWs:W.heap.size≤w.heap.size:=by rw[←V.size];exact hold.size
 have VI:∀c,X0 c→P.globals.size≤c:=fun c hc=>by
  rw[UF] at hc;have:=G0.s5;rcases hc with hc|rfl|rfl|rfl
  ·exact G0.low c hc
  all_goals omega
 have hcx:∀i u,(b.open men sent marks all)[i]?=some u→w.cell? ⟨xb,i,none⟩=some u:=fun i u hi=>by
  unfold dC;rw[okc hx];exact hi
 have E:NL P b men sent marks all l ss ms X0 w xb fb tb c0 c1:=
  ⟨G0.e,G0.f178,G0.i159,G0.i178,G0.ok,G0.Z1,G0.Gf,G0.mks,hcl,VI,aN G0.s5 hWs,hxX,hfX,htX,hcx,by unfold dC;rw[okc hf];rfl,by unfold dC;rw[okc ht];rfl,BH G0.rs,BH G0.rm,BH G0.ra⟩
 have Rj:=Tx (b:=b) (c0:=c0) (c1:=c1) (sn:=sn) hvm Xd YB hva hxX hfX htX
 have Kr:MS P fw (fun c=>c<w.heap.size) X0 (fun _=>False) #[.agg (b.open men sent marks all),ptr ⟨xb,0,none⟩,.slice none 0 0,.int .i64 sn,ptr ⟨fb,0,none⟩,ptr ⟨tb,0,none⟩,.int .i64 0,af,af,af,af,ptr ⟨xb,0,none⟩,ptr ⟨xb,0,none⟩,ptr ⟨xb,13,none⟩,sent,.int .i64 sn,.chan (some c0),.chan (some c1),.int .i64 0,af,af,af,af,af,af,af,af,af,af,af,af,af,af,af,af,af,af,af,af,af,af,af,af,af,af,af,af,af,af,af,af,af,af,af,af,af,af,af,af,af,af,af,af,af,af,af,af,af,af,af,af] #[.agg (b.open men sent marks all),ptr ⟨xb,0,none⟩,.slice none 0 0,.int .i64 sn,ptr ⟨fb,0,none⟩,ptr ⟨tb,0,none⟩,.int .i64 0,af,af,af,af,ptr ⟨xb,0,none⟩,ptr ⟨xb,0,none⟩,ptr ⟨xb,13,none⟩,sent,.int .i64 sn,.chan (some c0),.chan (some c1),.int .i64 0,af,af,af,af,af,af,af,af,af,af,af,af,af,af,af,af,af,af,af,af,af,af,af,af,af,af,af,af,af,af,af,af,af,af,af,af,af,af,af,af,af,af,af,af,af,af,af,af,af,af,af,af] (shut X0 w) w (xo X0):=
  ⟨Rj,N3 hcl VI,E.s5,by rw[vz];exact E.s5,(Gc hcl).symm,Ba hcl,N4⟩
 have st:St P X0 w X0 (fun _=>False) #[.agg (b.open men sent marks all),ptr ⟨xb,0,none⟩,.slice none 0 0,.int .i64 sn,ptr ⟨fb,0,none⟩,ptr ⟨tb,0,none⟩,.int .i64 0,af,af,af,af,ptr ⟨xb,0,none⟩,ptr ⟨xb,0,none⟩,ptr ⟨xb,13,none⟩,sent,.int .i64 sn,.chan (some c0),.chan (some c1),.int .i64 0,af,af,af,af,af,af,af,af,af,af,af,af,af,af,af,af,af,af,af,af,af,af,af,af,af,af,af,af,af,af,af,af,af,af,af,af,af,af,af,af,af,af,af,af,af,af,af,af,af,af,af,af] #[.agg (b.open men sent marks all),ptr ⟨xb,0,none⟩,.slice none 0 0,.int .i64 sn,ptr ⟨fb,0,none⟩,ptr ⟨tb,0,none⟩,.int .i64 0,af,af,af,af,ptr ⟨xb,0,none⟩,ptr ⟨xb,0,none⟩,ptr ⟨xb,13,none⟩,sent,.int .i64 sn,.chan (some c0),.chan (some c1),.int .i64 0,af,af,af,af,af,af,af,af,af,af,af,af,af,af,af,af,af,af,af,af,af,af,af,af,af,af,af,af,af,af,af,af,af,af,af,af,af,af,af,af,af,af,af,af,af,af,af,af,af,af,af,af] (shut X0 w) w (xo X0) (fun c=>c<w.heap.size):=⟨Kr,fun _ _ h=>h,fun c hc=>hcl.lt hc,fun c hc=>rfl,fun c hc=>rfl⟩
 have uB:GT xb fb tb (bG ss) #[.agg (b.open men sent marks all),ptr ⟨xb,0,none⟩,.slice none 0 0,.int .i64 sn,ptr ⟨fb,0,none⟩,ptr ⟨tb,0,none⟩,.int .i64 0,af,af,af,af,ptr ⟨xb,0,none⟩,ptr ⟨xb,0,none⟩,ptr ⟨xb,13,none⟩,sent,.int .i64 sn,.chan (some c0),.chan (some c1),.int .i64 0,af,af,af,af,af,af,af,af,af,af,af,af,af,af,af,af,af,af,af,af,af,af,af,af,af,af,af,af,af,af,af,af,af,af,af,af,af,af,af,af,af,af,af,af,af,af,af,af,af,af,af,af] (0:Nat) (0:Nat) undef:=by
  rw[Qe];exact⟨rfl,rfl,rfl,rfl,rfl,rfl,rfl,rfl⟩
 have hM:=abJ (K:=[]) (cs:=cs) E 512 0 rfl X0 (fun _=>False) _ _ _ w _ _ _ st uB
 have Zp:eW P c0 c1 (.int .i64 0) (.bool false) (WU (ints (jS b (dp ss ms).toNat (bG ss) l 512)) [] cs) 0 0 [] [] X0 (fun _=>False) (GK 159 #[.agg (b.open men sent marks all),ptr ⟨xb,0,none⟩,.slice none 0 0,.int .i64 sn,ptr ⟨fb,0,none⟩,ptr ⟨tb,0,none⟩,.int .i64 0,af,af,af,af,ptr ⟨xb,0,none⟩,ptr ⟨xb,0,none⟩,ptr ⟨xb,13,none⟩,sent,.int .i64 sn,.chan (some c0),.chan (some c1),.int .i64 0,af,af,af,af,af,af,af,af,af,af,af,af,af,af,af,af,af,af,af,af,af,af,af,af,af,af,af,af,af,af,af,af,af,af,af,af,af,af,af,af,af,af,af,af,af,af,af,af,af,af,af,af] [.code (.block 0 (.loop IQ)),.code OJ] .normal cs) w:=
  .ctl rfl rfl (pJ _ _) rfl rfl (.ctl rfl rfl (KY _) rfl rfl hM)
 have abR:=Zp.wide (w0:=w) (fun c=>c<w.heap.size∧c≠c0∧c≠c1) (fun c hc=>⟨hc.1,id,rfl⟩);have BR:Chan c0 w:=by obtain⟨s,tm,h⟩:=hc0;exact⟨s,tm,yj V h rfl⟩
 have BQ:Chan c1 w:=by obtain⟨s,tm,h⟩:=hc1;exact⟨s,tm,yj V h rfl⟩
 refine(Hx hne abR rfl BR BQ (fun c hc=>?_) (fun c hc h=>h)).bind ?_
 ·rcases hc with(hc|hc)|hc
  ·obtain⟨cs,e,z,h1,_⟩:=hcl c hc;refine⟨ey h1,fun e=>?_,fun e=>?_⟩
   ·subst e;obtain⟨s,tm,h⟩:=BR;rw[h1] at h;cases h
   ·subst e;obtain⟨s,tm,h⟩:=BQ;rw[h1] at h;cases h
  ·exact hc
  ·exact hc.elim
 ·rintro g' w' ⟨acc,out,S,O,⟨⟨S',⟨bt,v,kq,rfl,hts,ht9,Xm,abV,Xz⟩,lS⟩,hC0,hC1⟩,hperm,hsz,hos,hout⟩;rw[Xm,Xz] at hperm;clear Xm Xz
  obtain⟨W',hV',rr,e1,e2,e3,e4,e5⟩:=SI (n:=W.heap.size) V cS hos hout hsz (fun b o hb ho kJ=>by
   by_cases e0:b=c0
   ·subst e0;obtain⟨s,tm,h⟩:=hC0;rw[h] at ho;cases ho;cases kJ
   ·by_cases e1:b=c1
    ·subst e1;obtain⟨s,tm,h⟩:=hC1;rw[h] at ho;cases ho;cases kJ
    ·rw[←(lS b ⟨by rw[←V.size];exact hb,e0,e1⟩).2];exact ho) (fun k hk=>(lS k ⟨by omega,by omega,by omega⟩).2)
  have hO:Old W W':=⟨e1.trans hold.os,e2.trans hold.output,aN hold.size e3,fun k hk=>(e4 k hk (bz hk hold.size)).trans (hold.block k hk)⟩
  have ae4:Reads W' v kq.length (ints kq):=abV.keep (by rw[hV'.size];exact ax _) fun g cs e z h=>e5 g _ h rfl
  have hp:kq.Perm (jS b (dp ss ms).toNat (bG ss) l 512):=by
   have h1:(ints kq).map (fun v=>(intOf v).toNat)=kq:=by simp[ints,intOf,Function.comp_def]
   have h2:(ints (jS b (dp ss ms).toNat (bG ss) l 512)).map (fun v=>(intOf v).toNat)=jS b (dp ss ms).toNat (bG ss) l 512:=by simp[ints,intOf,Function.comp_def]
   rw[←h1,←h2];exact hperm.map _
  have VN:zN (GK 159 bt [.code vX] .normal cs):=⟨⟨by simpa [GK,G,iW] using Wa,rfl⟩,hg.callers,.inl rfl⟩
  refine(Tq (cs:=cs) G0.e G0.f159 (R:=fun v W''=>Un b l ss ms W v W'') hts ht9 ⟨kq,ae4,hp,hO⟩ K VN rr w' hV').mono ?_;rintro g2 w2 ⟨W2,⟨fr,v2,τ,d,rfl,⟨o2,r1,r2,r3⟩,hh,ho,hu,hfn,hlv⟩,V2,hg2,uj,hs2⟩;refine⟨W2,⟨fr,v2,τ,d,rfl,⟨o2,?_,r2,r3.trans ⟨ho,hu,by rw[hh];exact ax _,fun k _=>by rw[hh]⟩⟩,hfn,hlv⟩,V2,hg2,uj,aN e3 hs2⟩;exact r1.keep (by rw[hh];exact ax _) fun g cs e z h=>by rw[hh];exact h
end
end Go.Proofs.YtffladgmkiimjaaGreatDoor
