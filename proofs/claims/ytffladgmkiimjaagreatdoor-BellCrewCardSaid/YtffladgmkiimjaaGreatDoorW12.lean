/- bell.good IN PIECES: its text, and the lone walk of each piece. bell.g .. -/
import Derived.Test.YtffladgmkiimjaaGreatDoorW11
import Derived.Deep.RegionHeld3
import Derived.Test.YtffladgmkiimjaaGreatDoorW01
import Derived.Conc.LoneCalls
import Derived.Conc.LeavingOf
import Derived.ProofKit
import Derived.Test.YtffladgmkiimjaaGreatDoorW00
import Derived.LaidLaws
import Derived.SevenTiedAt
set_option linter.all false
set_option maxHeartbeats 100000000
set_option maxRecDepth 1000000
open Array renaming getElem?_setIfInBounds_self_of_lt → a8,getElem?_setIfInBounds_ne → aA,getElem?_eq_getElem → aM,replicate → aV,getElem?_eq_some_iff → ak,append_empty → dU,mem_of_getElem? → eL
open Bool renaming false_eq_true → bw
open Go renaming wp_mono → A8,Goroutine → aB,Program → aI,TypeId → aZ,undef → af,Value → aj,World → ar,Operand → bH,Frame → bL,execOp → bY,Addr → cU,Oper → cy,FuncId → dR,stepG → eP,Code → gI,zeroValue → iI,yielded → jP,Act → je,CallKind → jz,Item → oO
open Go.Frame renaming enter → eh
open Go.IntKind renaming i64 → ag
open Go.Proofs.Tryz renaming prog → aq,f159 → kq
open Go.Region renaming wanted → cC
open Go.RowKit renaming Below → az
open Go.RowKit.Below renaming heap_alloc → aS,refl → aw
open Go.Value renaming bool → aF,int → aG,int → ah
open Go.World renaming alloc_heap_new → ay,cell? → dH
open Go.stepG renaming apply → dZ,oper → eM
open List renaming range → aT,mem_append → bG,mem_cons → bR,map_cons → cg,mem_toArray → eI,map_nil → fP,not_mem_nil → gh,append_toArray → ia,cons_append → ik,nil_append → j4,push_toArray → jx
open List.range renaming loop → bT
open Nat renaming le_trans → aN,le_refl → ax,lt_of_lt_of_le → bB
open Option renaming bind_some → gg
open Option.some renaming inj → bg
open Pure renaming pure → eH
namespace Go.Proofs.YtffladgmkiimjaaGreatDoor
open Go.RowKit Go.Lag
def sL:gI→gI|.seq a _=>a|_=>.skip
def sR:gI→gI|.seq _ b=>b|_=>.skip
def bC:gI→gI|.block _ c=>c|_=>.skip
def lC:gI→gI|.loop c=>c|_=>.skip
def cT:gI→gI|.cond _ a _=>a|_=>.skip
def cE:gI→gI|.cond _ _ b=>b|_=>.skip
noncomputable def qI:Code:=match Tryz.f159.body with|some c=>c|_=>.skip
noncomputable def gR0:Code:=sL qI
noncomputable def gR1:Code:=sL (sR qI)
noncomputable def gR2:Code:=sL (sR (sR qI))
noncomputable def gR3:Code:=sL (sR (sR (sR qI)))
noncomputable def gM:Code:=sL (sR (sR (sR (sR qI))))
noncomputable def gN:Code:=sR (sR (sR (sR (sR qI))))
noncomputable def gR4:Code:=sL gM
noncomputable def Jb:Code:=lC (bC (sR gM))
noncomputable def gR5:Code:=sL Jb
noncomputable def Nt:Code:=bC (sL (sR (sR Jb)))
noncomputable def gR6:Code:=sL Nt
noncomputable def gR7:Code:=sL (sR Nt)
noncomputable def Z5:Code:=sL (sL (sR (sR Nt)))
noncomputable def gR9:Code:=sL (sR (sR (sR Nt)))
noncomputable def uB:Code:=sR (sR (sR (sR Nt)))
noncomputable def KZ:Code:=sR (sR (sR Jb))
noncomputable def FT:Code:=sL gN
noncomputable def Ml:Code:=lC (bC (sL (sR gN)))
noncomputable def QS:Code:=sL (sL Ml)
noncomputable def TN:Code:=bC (sR Ml)
noncomputable def AG:Code:=sL TN
noncomputable def nv:Code:=sL (sR TN)
noncomputable def TM:Code:=bC (sR (sR TN))
noncomputable def AE:Code:=cT TM
noncomputable def QR:Code:=cT (cE TM)
noncomputable def wy:Code:=sR (sR gN)
theorem Xa:Tryz.f159.body=some (.seq gR0 (.seq gR1 (.seq gR2 (.seq gR3 (.seq (.seq gR4 (.block 0 (.loop Jb))) (.seq FT (.seq (.block 2 (.loop Ml)) wy))))))):=by kernel_rfl
theorem Z7:Jb=.seq gR5 (.seq (.cond (.tmp 19) .skip (.exit 0)) (.seq (.block 1 Nt) KZ)):=by kernel_rfl
theorem aac:Nt=.seq gR6 (.seq gR7 (.seq (.seq Z5 (.cond (.tmp 50) (.exit 1) .skip)) (.seq gR9 uB))):=by kernel_rfl
theorem Z6:Ml=.seq (.seq QS (.cond (.tmp 56) .skip (.exit 2))) (.block 3 TN):=by kernel_rfl
theorem Z9:TN=.seq AG (.seq nv (.block 4 TM)):=by kernel_rfl
theorem Z8:TM=.cond (.tmp 61) AE (.cond (.tmp 62) QR .skip):=by kernel_rfl
theorem WL:uB=.region 10 (opsOf uB) false:=by kernel_rfl
theorem WJ:nv=.region 16 (opsOf nv) false:=by kernel_rfl
theorem aff:[gR5,gR6,gR7,Z5,gR9,KZ,FT,QS,AG,AE,QR].all (fun c=>gS aq fw c&&dP c)=true:=by kernel_rfl
theorem adU(a:Array aj):a=((aT a.size).map fun i=>a.getD i af).toArray:=by
 apply Array.ext
 ·simp
 ·intro i h1 h2;simp[Array.getD,h1]
theorem uo(a:Array aj)(h:a.size=71):a=((aT 71).map fun i=>a.getD i af).toArray:=by
 have:=adU a;rw[h] at this;exact this
structure GT(xb fb tb:Nat)(sn:Nat)(tmps:Array aj)(many m:Int)(t8:aj):Prop where
 size:tmps.size=71
 t1:tmps[1]?=some (ptr ⟨xb,0,none⟩)
 t3:tmps[3]?=some (ah ag sn)
 t4:tmps[4]?=some (ptr ⟨fb,0,none⟩)
 t5:tmps[5]?=some (ptr ⟨tb,0,none⟩)
 t6:tmps[6]?=some (ah ag many)
 t18:tmps[18]?=some (ah ag m)
 t8:tmps[8]?=some t8
section
variable{xb fb tb sn:Nat}{tmps:Array aj}{many m:Int}{t8:aj}{lw:ar}
theorem pR5(h:GT xb fb tb sn tmps many m t8):gR5.wp aq (fun e a W'=>e=.normal∧GT xb fb tb sn a.tmps many m t8∧a.tmps[19]?=some (aF (decide (m<512)))∧W'=lw) ⟨tmps,[]⟩ lw:=by
 have e1:=bq h.t1;have e3:=bq h.t3;have e4:=bq h.t4;have e5:=bq h.t5;have e6:=bq h.t6;have Fq:=bq h.t18;have e8:=bq h.t8;rw[uo tmps h.size];simp only[aT,bT,cg,fP,e1,e3,e4,e5,e6,Fq,e8];clear e1 e3 e4 e5 e6 Fq e8;simp only[gR5,Jb,Nt,gM,gN,qI,kq,sL,sR,bC,lC];go_wp2;exact⟨rfl,rfl,rfl,rfl,rfl,rfl,rfl,rfl⟩
theorem pR6(h:GT xb fb tb sn tmps many m t8):gR6.wp aq (fun e a W'=>e=.normal∧GT xb fb tb sn a.tmps many m t8∧a.tmps[7]?=some (ah ag m)∧W'=lw) ⟨tmps,[]⟩ lw:=by
 have e1:=bq h.t1;have e3:=bq h.t3;have e4:=bq h.t4;have e5:=bq h.t5;have e6:=bq h.t6;have Fq:=bq h.t18;have e8:=bq h.t8;rw[uo tmps h.size];simp only[aT,bT,cg,fP,e1,e3,e4,e5,e6,Fq,e8];clear e1 e3 e4 e5 e6 Fq e8;simp only[gR6,Jb,Nt,gM,gN,qI,kq,sL,sR,bC,lC];go_wp2;exact⟨rfl,rfl,rfl,rfl,rfl,rfl,rfl,rfl⟩
def Q7(xb fb tb sn:Nat)(many:Int)(m:Nat)(lw:ar)(a:je)(W':ar):Prop:=
 GT xb fb tb sn a.tmps many m (ptr ⟨lw.heap.size,0,none⟩)∧a.tmps[7]?=some (ah ag m)∧W'.heap[lw.heap.size]?=some (.cells #[ah ag ((sn ||| m:Nat):Int)] 108 (0,0))∧az lw.heap.size lw W'
theorem pR7{m:Nat}(hs:sn<512)(hm:m<512)(h:GT xb fb tb sn tmps many m t8)(h7:tmps[7]?=some (ah ag m)):gR7.wp aq (fun e a W'=>e=.normal∧Q7 xb fb tb sn many m lw a W') ⟨tmps,[]⟩ lw:=by
 have h64:=abN sn m (by omega) (by omega);have e1:=bq h.t1;have e3:=bq h.t3;have e4:=bq h.t4;have e5:=bq h.t5;have e6:=bq h.t6;have Fq:=bq h.t18;have e8:=bq h.t8;have e7:=bq h7;rw[uo tmps h.size];simp only[aT,bT,cg,fP,e1,e3,e4,e5,e6,Fq,e8,e7];clear e1 e3 e4 e5 e6 Fq e8 e7;simp only[gR7,Jb,Nt,gM,gN,qI,kq,sL,sR,bC,lC];go_wp2;exact⟨⟨rfl,rfl,rfl,rfl,rfl,rfl,rfl,rfl⟩,rfl,ay _ _,(aw _ _).alloc (ax _) _⟩
theorem pR9(hm:0≤many∧many≤1000)(h:GT xb fb tb sn tmps many m t8):gR9.wp aq (fun e a W'=>e=.normal∧GT xb fb tb sn a.tmps (many+1) m t8∧W'=lw) ⟨tmps,[]⟩ lw:=by
 have e1:=bq h.t1;have e3:=bq h.t3;have e4:=bq h.t4;have e5:=bq h.t5;have e6:=bq h.t6;have Fq:=bq h.t18;have e8:=bq h.t8;rw[uo tmps h.size];simp only[aT,bT,cg,fP,e1,e3,e4,e5,e6,Fq,e8];clear e1 e3 e4 e5 e6 Fq e8;simp only[gR9,Jb,Nt,gM,gN,qI,kq,sL,sR,bC,lC];go_wp2;exact⟨rfl,rfl,rfl,rfl,rfl,rfl,rfl,rfl⟩
theorem afb(hm:0≤m∧m≤1000)(h:GT xb fb tb sn tmps many m t8):KZ.wp aq (fun e a W'=>e=.normal∧GT xb fb tb sn a.tmps many (m+1) t8∧W'=lw) ⟨tmps,[]⟩ lw:=by
 have e1:=bq h.t1;have e3:=bq h.t3;have e4:=bq h.t4;have e5:=bq h.t5;have e6:=bq h.t6;have Fq:=bq h.t18;have e8:=bq h.t8;rw[uo tmps h.size];simp only[aT,bT,cg,fP,e1,e3,e4,e5,e6,Fq,e8];clear e1 e3 e4 e5 e6 Fq e8;simp only[KZ,Jb,Nt,gM,gN,qI,kq,sL,sR,bC,lC];go_wp2;exact⟨rfl,rfl,rfl,rfl,rfl,rfl,rfl,rfl⟩
structure GH(fb tb:Nat)(tmps:Array aj)(many:Int)(v:aj):Prop where
 size:tmps.size=71
 t4:tmps[4]?=some (ptr ⟨fb,0,none⟩)
 t5:tmps[5]?=some (ptr ⟨tb,0,none⟩)
 t6:tmps[6]?=some (ah ag many)
 t9:tmps[9]?=some v
theorem afa(h:GT xb fb tb sn tmps many m t8):FT.wp aq (fun e a W'=>e=.normal∧GH fb tb a.tmps many (.slice none 0 0)∧W'=lw) ⟨tmps,[]⟩ lw:=by
 have e1:=bq h.t1;have e3:=bq h.t3;have e4:=bq h.t4;have e5:=bq h.t5;have e6:=bq h.t6;have Fq:=bq h.t18;have e8:=bq h.t8;rw[uo tmps h.size];simp only[aT,bT,cg,fP,e1,e3,e4,e5,e6,Fq,e8];clear e1 e3 e4 e5 e6 Fq e8;simp only[FT,Jb,Nt,gM,gN,qI,kq,sL,sR,bC,lC];go_wp2;exact⟨rfl,rfl,rfl,rfl,rfl⟩
theorem ae9{v:aj}(h:GH fb tb tmps many v):QS.wp aq (fun e a W'=>e=.normal∧GH fb tb a.tmps many v∧a.tmps[56]?=some (aF (decide (0<many)))∧W'=lw) ⟨tmps,[]⟩ lw:=by
 have e4:=bq h.t4;have e5:=bq h.t5;have e6:=bq h.t6;have e9:=bq h.t9;rw[uo tmps h.size];simp only[aT,bT,cg,fP,e4,e5,e6,e9];clear e4 e5 e6 e9;simp only[QS,Ml,TN,TM,gN,qI,kq,sL,sR,bC,lC,cT,cE];go_wp2;exact⟨rfl,rfl,rfl,rfl,rfl⟩
theorem YB{v x y:aj}(h:GH fb tb tmps many v)(hf:lw.cell? ⟨fb,0,none⟩=some x)(ht:lw.cell? ⟨tb,0,none⟩=some y):AG.wp aq (fun e a W'=>e=.normal∧GH fb tb a.tmps many v∧a.tmps[57]?=some x∧a.tmps[58]?=some y∧W'=lw) ⟨tmps,[]⟩ lw:=by
 have e4:=bq h.t4;have e5:=bq h.t5;have e6:=bq h.t6;have e9:=bq h.t9;rw[uo tmps h.size];simp only[aT,bT,cg,fP,e4,e5,e6,e9];clear e4 e5 e6 e9;simp only[AG,Ml,TN,TM,gN,qI,kq,sL,sR,bC,lC,cT,cE];go_wp2;exact⟨rfl,rfl,rfl,rfl,rfl⟩
theorem ae8{v:aj}(hm:0≤many∧many≤1000)(h:GH fb tb tmps many v):QR.wp aq (fun e a W'=>e=.normal∧GH fb tb a.tmps (many-1) v∧W'=lw) ⟨tmps,[]⟩ lw:=by
 have e4:=bq h.t4;have e5:=bq h.t5;have e6:=bq h.t6;have e9:=bq h.t9;rw[uo tmps h.size];simp only[aT,bT,cg,fP,e4,e5,e6,e9];clear e4 e5 e6 e9;simp only[QR,Ml,TN,TM,gN,qI,kq,sL,sR,bC,lC,cT,cE];go_wp2;exact⟨rfl,rfl,rfl,rfl,rfl⟩
end
noncomputable def afe:Array Oper:=opsOf Z5
theorem Z3:Z5=.region 8 afe true:=by kernel_rfl
def yy(b:BB)(lg:Nat)(sn m:Nat):Bool:=decide (m &&& (2 ^ lg-1)≠0)||decide (2 ^ (b.minutes.toNat+1)≤m)||decide (b.dc<((upTo (sn ||| m) 8).length:Int))
theorem _root_.Go.Lag.jg.some{n:Nat}{a:je}{l:List (Tmp × aj)}(h:jg n a l)(k:Nat){t:Tmp}{v:aj}(hk:l[k]?=Option.some (t,v))(ht:t<n):a.tmps[t]?=Option.some v:=by
 have h1:a.tmps.getD t af=v:=h.g k hk;have h2:t<a.tmps.size:=by rw[h.size];exact ht
 simp[Array.getD,h2] at h1;rw[aM h2,h1]
theorem Ou(y:Nat)(hy:y≤63)(t:aZ)(w:ar):(Go.binOp .shl t (ah ag 1) (ah ag (y:Int))).run aq w=.ok (ah ag (IntKind.i64.wrap (2 ^ y))) w:=by
 have h:¬(y:Int)<0:=by omega
 have e:min (y:Int).toNat IntKind.i64.bits=y:=by show min (y:Int).toNat 64=y;omega
 show(Op.shift .shl ag 1 ag (y:Int)).run aq w=_;unfold Op.shift;rw[if_neg h,e];show Result.ok (aG ag (IntKind.i64.wrap (1*2 ^ y))) w=_;rw[Int.one_mul]
section
variable{xb fb tb sn:Nat}{tmps:Array aj}{many:Int}{m:Nat}{lw:ar}
def Q8(xb fb tb sn pb:Nat)(many:Int)(m:Nat)(r:Bool)(lw:ar)(a:je)(W':ar):Prop:=
 GT xb fb tb sn a.tmps many m (ptr ⟨pb,0,none⟩)∧a.tmps[50]?=some (aF r)∧az lw.heap.size lw W'
theorem pR8{b:BB}{men sent marks:aj}{pb:Nat}(hb:b.Ok)(Qv:sn<512)(hm:m<512)(h:GT xb fb tb sn tmps many m (ptr ⟨pb,0,none⟩))(h7:tmps[7]?=some (ah ag m))
  (hx:∀i u,(b.cells men sent marks)[i]?=some u→lw.cell? ⟨xb,i,none⟩=some u) (hp:lw.cell? ⟨pb,0,none⟩=some (ah ag ((sn ||| m:Nat):Int))) (hlt:xb<lw.heap.size∧pb<lw.heap.size)
  {lg:Nat} (WA:1≤lg∧lg≤9) (hB:∀w1,az lw.heap.size lw w1→Calls aq 155 #[.agg (b.cells men sent marks)] w1 fun e w'=>e=.returned (ah ag lg)∧az w1.heap.size w1 w') :
  Z5.wp aq (fun e a W'=>e=.normal∧Q8 xb fb tb sn pb many m (yy b lg sn m) lw a W') ⟨tmps,[]⟩ lw:=by
 have hp9:sn ||| m<512:=Nat.or_lt_two_pow (n:=9) Qv hm
 have Ay:=hb.minutes;have agp:=hb.dc;generalize hpp:sn ||| m=p at *
 obtain⟨Y,hY⟩:∃Y:Int,(2:Int) ^ lg=Y:=⟨_,rfl⟩
 have hYn:Y=((2 ^ lg:Nat):Int):=by rw[←hY];simp
 have hYb:(2:Nat) ^ lg≤512∧1≤(2:Nat) ^ lg:=⟨Nat.pow_le_pow_right (j:=9) (by omega) (by omega),Nat.one_le_two_pow⟩
 generalize hK2:(2:Nat) ^ lg=K2 at hYn hYb;have w1e:IntKind.i64.wrap (2 ^ lg)=Y:=by rw[hY,hYn];exact eY _ (Int.natCast_nonneg _) (by omega)
 have w2:IntKind.i64.wrap (Y-1)=Y-1:=by rw[hYn];exact eY _ (by omega) (by omega)
 have a1:bits .and ag (m:Int) (Y-1)=((m &&& (K2-1):Nat):Int):=by
  have e:Y-1=((K2-1:Nat):Int):=by rw[hYn];omega
  rw[e];exact Yh m (K2-1) (by omega) (by omega)
 obtain⟨mn,hmn⟩:∃mn:Nat,b.minutes=mn:=⟨b.minutes.toNat,by omega⟩
 have hZb:(2:Nat) ^ (mn+1)≤512∧1≤(2:Nat) ^ (mn+1):=⟨Nat.pow_le_pow_right (j:=9) (by omega) (by omega),Nat.one_le_two_pow⟩
 have w3:IntKind.i64.wrap (b.minutes+1)=((mn+1:Nat):Int):=by rw[hmn];exact eY _ (by omega) (by omega)
 obtain⟨Z,hZ⟩:∃Z:Int,(2:Int) ^ (mn+1)=Z:=⟨_,rfl⟩
 have hZn:Z=((2 ^ (mn+1):Nat):Int):=by rw[←hZ];simp
 have hSK:yy b lg sn m=(decide (m &&& (K2-1)≠0)||decide (2 ^ (mn+1)≤m)||decide (b.dc<((upTo p 8).length:Int))):=by unfold yy;rw[hpp,hK2,hmn];rfl
 generalize (2:Nat) ^ (mn+1)=Z2 at *;have w4:IntKind.i64.wrap (2 ^ (mn+1))=Z:=by rw[hZ,hZn];exact eY _ (Int.natCast_nonneg _) (by omega)
 have hF:jg 71 ⟨tmps,[]⟩ [(1,ptr ⟨xb,0,none⟩),(3,ah ag sn),(4,ptr ⟨fb,0,none⟩),(5,ptr ⟨tb,0,none⟩),(6,ah ag many),(18,ah ag m),(8,ptr ⟨pb,0,none⟩),(7,ah ag m)]:=
  ⟨h.size,rfl,bq h.t1,bq h.t3,bq h.t4,bq h.t5,bq h.t6,bq h.t18,bq h.t8,bq h7,trivial⟩
 have cx:∀w1,az lw.heap.size lw w1→∀i u,(b.cells men sent marks)[i]?=some u→w1.cell? ⟨xb,i,none⟩=some u:=fun w1 hS i u hi=>(hS.cell (p:=⟨xb,i,none⟩) hlt.1).trans (hx i u hi);rw[Z3]
 refine aau (by kernel_rfl) ⟨[],[(2,.agg (b.cells men sent marks)),(3,ah ag lg),(4,ah ag Y),(5,ah ag (Y-1)),(6,ah ag ((m &&& (K2-1):Nat):Int)),(13,ah ag b.minutes),(14,ah ag ((mn+1:Nat):Int)),(15,ah ag Z),(19,ah ag (p:Int)),(20,ah ag ((upTo p 8).length:Int)),(24,ah ag b.dc)],[],[]⟩
  [(50,aF (((!(((m &&& (K2-1):Nat):Int)==0))||decide ((m:Int)≥Z))||decide (((upTo p 8).length:Int)>b.dc)))] hF trivial
  ⟨fun w1 hS _=>gs (Instr.loadAt 119 (ptr ⟨xb,0,none⟩)) (by
    have c:=cx w1 hS;have z0:=c 0 _ rfl;have z1:=c 1 _ rfl;have z2:=c 2 _ rfl;have z3:=c 3 _ rfl;have z4:=c 4 _ rfl;have z5:=c 5 _ rfl;have z6:=c 6 _ rfl;have z7:=c 7 _ rfl;have z8:=c 8 _ rfl;have z9:=c 9 _ rfl;have z10:=c 10 _ rfl;have z11:=c 11 _ rfl;have z12:=c 12 _ rfl;have z13:=c 13 _ rfl;have z14:=c 14 _ rfl
    go_simp),
   fun w1 hS _=>gc (hB w1 hS),fun w1 _ _=>gs _ ((Ou lg (by omega) 108 w1).trans (by rw[w1e])),fun _ _ _=>ge (congrArg (aG ag) w2),fun w1 _ _=>gs (Go.binOp .and 108 (ah ag m) (ah ag (Y-1))) (by rw[hYn] at a1 ⊢;go_simp),
   fun w1 hS _=>gl (cx w1 hS 3 _ rfl),fun _ _ _=>ge (congrArg (aG ag) w3),fun w1 _ _=>gs _ ((Ou (mn+1) (by omega) 3 w1).trans (by rw[w4])),fun w1 hS _=>gl ((hS.cell (p:=⟨pb,0,none⟩) hlt.2).trans hp),fun w1 hS _=>gc (sF p hp9 w1),fun w1 hS _=>gl (cx w1 hS 6 _ rfl),trivial⟩ ?_
 intro a w ho hF;refine⟨rfl,⟨hF.size,hF.some 1 rfl (by decide),hF.some 2 rfl (by decide),hF.some 3 rfl (by decide),hF.some 4 rfl (by decide),hF.some 5 rfl (by decide),hF.some 6 rfl (by decide),hF.some 7 rfl (by decide)⟩,?_,ho⟩;rw[hF.some 0 rfl (by decide),hSK];rw[hZn]
 have e1:(!(((m &&& (K2-1):Nat):Int)==0))=decide (m &&& (K2-1)≠0):=by
  rw[Bool.eq_iff_iff];simp
 have e2:decide ((m:Int)≥((Z2:Nat):Int))=decide (Z2≤m):=by simp
 rw[e1,e2]
theorem VW:(Tryz.prog.info? 108).map (fun i=>(i.zero,i.size,i.bytes))=some (some (ah ag 0),1,8):=by kernel_rfl
def Q18(fb tb:Nat)(many:Int)(out:List Nat)(B:Nat)(lw:ar)(a:je)(W':ar):Prop:=
 ∃v,GH fb tb a.tmps many v∧W'.ownsRow B 108 1 v out.length (out.map fun(p:Nat)=>aG ag (p:Int))∧az B lw W'
theorem YA{v:aj}{x y z:aj}{out:List Nat}{p B:Nat}(ho:out.length≤1000)(h:GH fb tb tmps many v)(h59:tmps[59]?=some (.tuple #[x,y,ah ag p,z]))(hown:lw.ownsRow B 108 1 v out.length (out.map fun(p:Nat)=>aG ag (p:Int)))(hB:B≤lw.heap.size) :
  AE.wp aq (fun e a W'=>e=.normal∧Q18 fb tb many (out++[p]) B lw a W') ⟨tmps,[]⟩ lw:=by
 obtain⟨i0,hi,hz0,hz1,hz2⟩:=info_parts VW;have e4:=bq h.t4;have e5:=bq h.t5;have e6:=bq h.t6;have e9:=bq h.t9;have e59:=bq h59;rw[uo tmps h.size];simp only[aT,bT,cg,fP,e4,e5,e6,e9,e59];clear e4 e5 e6 e9 e59;simp only[AE,Ml,TN,TM,gN,qI,kq,sL,sR,bC,lC,cT,cE]
 go_wp2_with (at_builtin;refine wpList_append_own _ rfl _ _ 172 rfl B 108 i0 (ah ag 0) 1 8 Tryz.underlying172 hi hz0 hz1 hz2 rfl (by decide) _ _ _ rfl (hown.alloc _) ⟨lw.heap.size,0,none⟩ 1 1 [ah ag p] rfl rfl (XA (Lx _ _ _)) (SJ rfl) (by unfold maxLen;omega) (by omega) (by simp;omega) ?_)
 intro v' w1 hown' hgrow _;have hb1:az B lw w1:=((aw _ _).alloc hB _).grown hgrow (by simp;omega) (fun j hj=>(hown.lt j hj).1);clear hgrow;go_wp2;exact⟨v',⟨rfl,rfl,rfl,rfl,rfl⟩,by simpa using hown',hb1⟩
end
end Go.Proofs.YtffladgmkiimjaaGreatDoor
namespace Go.Lag
open Go.Conc
section
variable{P:aI}{c0 c1:Nat}{z0 z1:aj}{Fin:List aj→List aj→(Nat→Prop)→(Nat→Prop)→aB→ar→Prop}{f m:Nat}{acc out:List aj}{S O:Nat→Prop}{g:aB}{w:ar}
theorem N8.wide{S E:Nat→Prop}{O:Nat→Prop}{e:Event}(h:N8 (fun c=>S c∨O c) O e):N8 (fun c=>(S c∨E c)∨O c) O e:=
 h.mono (fun c hc=>hc.imp .inl id) fun c hc=>hc
theorem eX.wide{w0:ar}(h:eX P c0 c1 z0 z1 Fin f m acc out S O g w):∀(E:Nat→Prop),(∀c,E c→c<w.heap.size∧¬O c∧w.heap[c]?=w0.heap[c]?)→
  eX P c0 c1 z0 z1 (fun acc out _ O g w'=>∃S,Fin acc out S O g w'∧∀c,E c→¬O c∧w'.heap[c]?=w0.heap[c]?) f m acc out (fun c=>S c∨E c) O g w:=by
 have nar:∀ {S O E:Nat→Prop} {w w1:ar},gY (fun c=>(S c∨E c)∨O c) w w1→gY (fun c=>S c∨O c) w w1:=fun hr=>⟨hr.grow,fun c hc=>hr.keep c (hc.imp .inl id)⟩
 induction h with
 |fin hs h=>
  intro E hE;exact .fin hs fun w1 hr=>⟨_,h w1 (nar hr),fun c hc=>⟨(hE c hc).2.1,(hr.keep c (.inl (.inr hc))).trans (hE c hc).2.2⟩⟩
 |@step f m acc out S O g w a b c d ih=>
  intro E hE;refine .step a b (fun w1 hr=>?_) fun w1 hr g2 w2 es he=>?_
  ·obtain⟨g2,w2,es,e,hg,h1,h2⟩:=c w1 (nar hr);exact⟨g2,w2,es,e,⟨hg.grow,hg.keep,hg.tape,hg.drawn,hg.os,hg.out,fun x hx=>(hg.evs x hx).mono (fun c hc=>hc.imp .inl id) fun c hc=>hc⟩,h1,h2⟩
  ·refine ih w1 (nar hr) g2 w2 es he E fun x hx=>?_;obtain⟨h1,h2,h3⟩:=hE x hx;obtain⟨g3,w3,es3,e3,hg,_,_⟩:=c w1 (nar hr);rw[he] at e3;injection e3 with e4 e5 e6
   subst e5;have hlt:x<w1.heap.size:=bB h1 hr.grow;exact⟨bB hlt hg.grow,fun ho=>ho.elim h2 fun hn=>by omega,by rw[hg.keep x hlt h2,hr.keep x (.inl (.inr hx))];exact h3⟩
 |spawn h1 h2 h2' h3 h4 h5 h6 _ ih=>
  intro E hE
  exact .spawn h1 h2 h2' (fun c hc=>(h3 c hc).imp .inl id) h4 (fun c hc=>hc.elim (fun hc=>(h5 c hc).imp .inl id) fun hc=>.inl (.inr hc)) (fun c hc=>⟨(h6 c hc).1,(h6 c hc).2.1,fun h=>h.elim (h6 c hc).2.2 fun he=>(hE c he).2.1 (h6 c hc).1⟩)
   (ih E fun c hc=>⟨(hE c hc).1,fun ho=>(hE c hc).2.1 (h6 c ho).1,(hE c hc).2.2⟩)
 |select h1 _ _ UW YZ=>
  intro E hE;exact .select h1 (fun v f' e hv=>UW v f' e hv E hE) fun hf=>YZ hf E hE
structure MS(P:aI)(F:Nat→Bool)(B S O:Nat→Prop)(tmps bu:Array aj)(lw w:ar)(ρ:Rn):Prop where
 av:iD F ρ tmps bu
 wr:WR F P.globals.size B ρ lw w
 tD:P.globals.size≤w.heap.size
 Ec:P.globals.size≤lw.heap.size
 own:O=ρ.owns B
 shared:∀c,S c↔∃b,B b∧ρ b=some c
 ok:dB lw
variable{F:Nat→Bool}{B:Nat→Prop}{tmps bu:Array aj}{lw:ar}{ρ:Rn}
theorem MS.rely(h:MS P F B S O tmps bu lw w ρ){w2:ar}(hr:gY (fun c=>S c∨O c) w w2):MS P F B S O tmps bu lw w2 ρ:=
 ⟨h.av,h.wr.rely (by
  have e:(fun c=>S c∨O c)=fun c=>(∃b,B b∧ρ b=some c)∨ρ.owns B c:=by funext c;rw[h.shared c,h.own]
  rwa [e] at hr),aN h.tD hr.grow,h.Ec,h.own,h.shared,h.ok⟩
theorem MS.set(h:MS P F B S O tmps bu lw w ρ){v v':aj}(hv:VR F ρ v v')(i:Nat):MS P F B S O (tmps.setIfInBounds i v) (bu.setIfInBounds i v') lw w ρ:=
 ⟨h.av.set hv i,h.wr,h.tD,h.Ec,h.own,h.shared,h.ok⟩
theorem MS.get(h:MS P F B S O tmps bu lw w ρ){i:Nat}{v:aj}(hv:tmps[i]?=some v):∃v',bu[i]?=some v'∧VR F ρ v v':=h.av.get hv
theorem eX.piece(T:Quiet P)(hF:sP P F){fn:dR}{kd:jz}(hE:kd≠.early)(hi:P.inits.idxOf? fn=none){c:gI}(hc:gS P F c=true)(hc':dP c=true)
  (hm:MS P F B S O tmps bu lw w ρ) {Q:je→ar→Prop} (hQ:∀a W' τ d,Q a (dx W' τ d)→Q a W') (h:∀τ d,c.wp P (fun e a W'=>e=.normal∧Q a W') ⟨tmps,[]⟩ (dx lw τ d)) {k:List oO} {cs:List bL}
  (cont:∀kP iQ jH ρ1 O1 w1,MS P F B S O1 kP iQ jH w1 ρ1→Q ⟨kP,[]⟩ jH→Rn.le ρ ρ1→lw.heap.size≤jH.heap.size→(∀c,O c→O1 c)→eX P c0 c1 z0 z1 Fin f m acc out S O1 (G (iZ fn iQ k .run kd) cs) w1) :
  eX P c0 c1 z0 z1 Fin f m acc out S O (G (iZ fn bu (.code c::k) .run kd) cs) w:=by
 have hw:=xg (main:=true) T hF hm.Ec hE hi hc hc' hm.av hm.wr hm.tD hm.ok hQ h hm.shared k cs;rw[←hm.own] at hw;refine eX.CS hw ?_;rintro O1 g1 w1 ⟨kP,iQ,jH,ρ1,rfl,Np,hq,hkn⟩;refine cont kP iQ jH ρ1 O1 w1 ⟨Np,hkn.wr,hkn.tD,aN hm.Ec hkn.grow,hkn.own,hkn.shared,hkn.ok⟩ hq hkn.le hkn.grow fun c ho=>?_;rw[hm.own] at ho;obtain⟨b,h1,h2⟩:=ho;rw[hkn.own];exact⟨b,h1,hkn.le _ _ h2⟩
def oF(lw:ar)(b:Nat)(cs:Array aj)(e:aZ)(n:Nat):World:={ lw with heap:=lw.heap.setIfInBounds b (.cells cs e (0,max cs.size n)) }
theorem wT{b:Nat}{cs:Array aj}{e:aZ}{n:Nat}:(oF lw b cs e n).heap.size=lw.heap.size:=by simp[oF]
theorem pF{b:Nat}{cs:Array aj}{e:aZ}{z:Nat × Nat}(h:lw.heap[b]?=some (.cells cs e z)){x:Nat}:(oF lw b cs e z.2).heap[x]?=if x=b then some (.cells cs e (0,max cs.size z.2)) else lw.heap[x]?:=by
 unfold oF
 by_cases hx:x=b
 ·subst hx;rw[if_pos rfl];exact a8 (eE h)
 ·rw[if_neg hx];exact aA (Ne.symm hx)
theorem WR.freeze{G:Nat}(h:WR F G B ρ lw w){b c:Nat}(hb:ρ b=some c){cs:Array aj}{e:aZ}{z:Nat × Nat}(ho:lw.heap[b]?=some (.cells cs e z)):WR F G (fun x=>B x∨x=b) ρ (oF lw b cs e z.2) w:=by
 refine⟨h.inj,h.low,fun x hx=>?_,fun x y hx=>?_,fun x o hx=>?_⟩
 ·rw[wT];exact hx.elim (h.base x) fun e=>e▸eE ho
 ·rw[pF ho];obtain⟨o,o',h1,h2,h3,h4⟩:=h.at_ x y hx
  by_cases hxb:x=b
  ·subst hxb;rw[if_pos rfl];rw[ho] at h1;cases h1;refine⟨_,o',rfl,h2,?_,fun _=>⟨_,_,_,rfl,by omega⟩⟩;cases h3 with
   |cells ha hz=>exact .cells ha fun i h5 h6=>⟨Nat.zero_le _,by have:=(hz i h5 h6).2;simp only;omega⟩
  ·rw[if_neg hxb];exact⟨o,o',h1,h2,h3,fun hB=>h4 (hB.elim id fun e=>absurd e hxb)⟩
 ·rw[pF ho] at hx;split at hx
  ·cases hx;rfl
  ·exact h.Iy _ _ hx
theorem K5{b:Nat}{cs:Array aj}{e:aZ}{z:Nat × Nat}(ho:lw.heap[b]?=some (.cells cs e z))(h:dB lw):dB (oF lw b cs e z.2):=by
 intro x o hx;rw[pF ho] at hx;split at hx
 ·cases hx;exact .inl rfl
 ·exact h x o hx
theorem MS.freeze(h:MS P F B S O tmps bu lw w ρ){b c:Nat}(hb:ρ b=some c)(hB:¬B b){cs:Array aj}{e:aZ}{z:Nat × Nat}(ho:lw.heap[b]?=some (.cells cs e z)) :
  MS P F (fun x=>B x∨x=b) (fun x=>S x∨x=c) (fun x=>O x∧x≠c) tmps bu (oF lw b cs e z.2) w ρ:=by
 refine⟨h.av,h.wr.freeze hb ho,h.tD,by rw[wT];exact h.Ec,?_,fun x=>?_,K5 ho h.ok⟩
 ·funext x
  rw[h.own];refine propext ⟨fun⟨⟨y,h1,h2⟩,h3⟩=>⟨y,fun h4=>h4.elim h1 fun e=>h3 ?_,h2⟩,fun⟨y,h1,h2⟩=>⟨⟨y,fun hy=>h1 (.inl hy),h2⟩,fun e=>h1 (.inr ?_)⟩⟩
  ·subst e;rw[hb] at h2;exact(bg h2).symm
  ·subst e;exact h.wr.inj _ _ _ h2 hb
 ·constructor
  ·rintro(hx|rfl)
   ·obtain⟨y,h1,h2⟩:=(h.shared x).1 hx;exact⟨y,.inl h1,h2⟩
   ·exact⟨b,.inr rfl,hb⟩
  ·rintro⟨y,h1|rfl,h2⟩
   ·exact .inl ((h.shared x).2 ⟨y,h1,h2⟩)
   ·rw[hb] at h2;exact .inr (bg h2).symm
variable{fn:dR}{kd:jz}{k:List oO}{cs:List bL}{ops:Array cy}
theorem Vn{i:Nat}{rest:List Nat}{o:cy}{x:bH}{tys:Array aZ}(Cr:kd≠.early)(ho:ops[i]?=some o)(hop:o.op=.go { callee:=.value x,args:=#[],argTypes:=tys })(hd:o.dst=none)(hg:o.guard=none)
  {fi:dR} {captured:Array aj} (hx:(iZ fn tmps (.inRegion ops (i::rest)::k) .run kd).eval x=.func (.func fi) #[] captured):AtGo P (GK fn tmps (.inRegion ops (i::rest)::k) kd cs) (GK fn tmps (.inRegion ops rest::k) kd cs) (vS P fi captured):=by
 refine⟨rfl,rfl,fun w=>?_⟩;have hw:((ops[i]?).map (cC · (jP ops tmps))).getD false=true:=by rw[ho];simp[cC,hg]
 have Wj:(kd == .early)=false:=beq_eq_false_iff_ne.2 Cr;have e1:eP P true (GK fn tmps (.inRegion ops (i::rest)::k) kd cs) w=eM P true (iZ fn tmps (.inRegion ops (i::rest)::k) .run kd) cs none w:=if_pos hw;rw[e1]
 have e2:bY (iZ fn tmps (.inRegion ops (i::rest)::k) .run kd).eval o=eH (Next.spawn { target:=.fn (.func fi) captured,args:=#[] }):=by
  unfold bY;rw[hop];simp only[resolve,hx,Deferred.ofValue,List.map_toArray,fP,dU,pure_bind]
 have e3:eM P true (iZ fn tmps (.inRegion ops (i::rest)::k) .run kd) cs none w=dZ P true (iZ fn tmps (.inRegion ops (i::rest)::k) .run kd) cs none (bY (iZ fn tmps (.inRegion ops (i::rest)::k) .run kd).eval o) w:=by
  unfold eM;have:(iZ fn tmps (.inRegion ops (i::rest)::k) .run kd).oper?=some o:=ho;rw[this];rfl
 rw[e3,e2];unfold dZ;have e4:(eH (Next.spawn { target:=.fn (.func fi) captured,args:=#[] }):Sem Next).runT P w #[]=(.ok (.spawn { target:=.fn (.func fi) captured,args:=#[] }) w,#[]):=rfl;simp only[if_true,e4];simp only[iZ,Wj,bw,if_false,GStep.after,dU,Frame.finish,ho,gg,hd,Bool.and_false,Bool.false_and];rfl
theorem RV{i:Nat}{rest:List Nat}{o:cy}{x y:bH}{t0 t1:aZ}(Cr:kd≠.early)(ho:ops[i]?=some o)(hop:o.op=.select #[{ chan:=x,send:=none,elem:=t0 },{ chan:=y,send:=none,elem:=t1 }] true)(hg:o.guard=none)
  (hz0:∀w es,(iI t0).runT P w es=(.ok z0 w,es)) (hz1:∀w es,(iI t1).runT P w es=(.ok z1 w,es))
  (hx:(iZ fn tmps (.inRegion ops (i::rest)::k) .run kd).eval x=.chan (some c0)) (hy:(iZ fn tmps (.inRegion ops (i::rest)::k) .run kd).eval y=.chan (some c1)):Yq P c0 c1 z0 z1 (GK fn tmps (.inRegion ops (i::rest)::k) kd cs):=by
 refine⟨rfl,rfl,rfl,fun w=>?_⟩;have hw:((ops[i]?).map (cC · (jP ops tmps))).getD false=true:=by rw[ho];simp[cC,hg]
 have Wj:(kd == .early)=false:=beq_eq_false_iff_ne.2 Cr;have e1:eP P true (GK fn tmps (.inRegion ops (i::rest)::k) kd cs) w=eM P true (iZ fn tmps (.inRegion ops (i::rest)::k) .run kd) cs none w:=if_pos hw;rw[e1]
 have e2:(bY (iZ fn tmps (.inRegion ops (i::rest)::k) .run kd).eval o).runT P w #[]=(.ok (Next.comm (jL c0 c1 z0 z1) true .select) w,#[]):=by
  have h1:bY (iZ fn tmps (.inRegion ops (i::rest)::k) .run kd).eval o=((iI t0).bind fun a=>(iI t1).bind fun b=>eH (Next.comm #[{ chan:=.chan (some c0),send:=none,zero:=a },{ chan:=.chan (some c1),send:=none,zero:=b }] true .select)):=by
   unfold bY;rw[hop];simp only[Array.mapM_eq_mapM_toList,←List.mapM'_eq_mapM,List.mapM',hx,hy,Option.map_none,bind_assoc,pure_bind,map_eq_pure_bind];rfl
  rw[h1,Sem.runT_bind',hz0];simp only;rw[Sem.runT_bind',hz1];rfl
 have e3:eM P true (iZ fn tmps (.inRegion ops (i::rest)::k) .run kd) cs none w=dZ P true (iZ fn tmps (.inRegion ops (i::rest)::k) .run kd) cs none (bY (iZ fn tmps (.inRegion ops (i::rest)::k) .run kd).eval o) w:=by
  unfold eM;have:(iZ fn tmps (.inRegion ops (i::rest)::k) .run kd).oper?=some o:=ho;rw[this];rfl
 rw[e3];unfold dZ;simp only[if_true,e2];simp only[iZ,Wj,bw,if_false];rfl
theorem E6{i:Nat}{rest:List Nat}{o:cy}{d:Tmp}(ho:ops[i]?=some o)(hd:o.dst=some d)(kk:Nat)(v:aj) :
  iu P c0 c1 z0 z1 (GK fn tmps (.inRegion ops (i::rest)::k) kd cs) kk v=GK fn (tmps.setIfInBounds d (.tuple #[goInt kk,.bool true,if kk=0 then v else z0,if kk=1 then v else z1])) (.inRegion ops rest::k) kd cs:=by
 have hc:commResult (jL c0 c1 z0 z1) .select kk v true=.tuple #[goInt kk,.bool true,if kk=0 then v else z0,if kk=1 then v else z1]:=by
  simp only[commResult,jL,rcase]
  congr 1
  have e0:(((0:Nat):Int)=(kk:Int))=(kk=0):=by apply propext;omega
  have e1:(((1:Nat):Int)=(kk:Int))=(kk=1):=by apply propext;omega
  simp;simp only[Int.natCast_zero,Int.natCast_one] at e0 e1;constructor
  ·by_cases h:kk=0<;>simp[h,e0]<;>omega
  ·by_cases h:kk=1<;>simp[h,e1]<;>omega
 simp only[iu,Goroutine.finishComm,GK,G,iZ,Frame.finish,ho,hd,gg,hc]
end
section
variable{P:aI}{c0 c1:Nat}{z0 z1:aj}{Fin:List aj→List aj→(Nat→Prop)→(Nat→Prop)→aB→ar→Prop}{f m:Nat}{acc out:List aj}{S O:Nat→Prop}{g:aB}{w:ar}
 {F:Nat→Bool} {B:Nat→Prop} {tmps bu:Array aj} {lw:ar} {ρ:Rn}
theorem MS.vH(h:MS P F B S O tmps bu lw w ρ){c:Nat}(hc:S c):c<w.heap.size∧¬O c:=by
 obtain⟨b,hB,hρ⟩:=(h.shared c).1 hc;obtain⟨o,o',_,h2,_⟩:=h.wr.at_ b c hρ;refine⟨eE h2,fun ho=>?_⟩;rw[h.own] at ho;obtain⟨b',h1,h3⟩:=ho;exact h1 (h.wr.inj _ _ _ hρ h3▸hB)
theorem eX.Yz(T:Quiet P)(hF:sP P F){fn:dR}{kd:jz}(hE:kd≠.early)(hi:P.inits.idxOf? fn=none){c:gI}(hc:gS P F c=true)(hc':dP c=true)
  (hm:MS P F B S O tmps bu lw w ρ) {Q:je→ar→Prop} (hQ:∀a W' τ d,Q a (dx W' τ d)→Q a W') (h:∀τ d,c.wp P (fun e a W'=>e=.normal∧Q a W') ⟨tmps,[]⟩ (dx lw τ d)) {k:List oO} {cs:List bL}
  (cont:∀kP iQ jH ρ1 O1 w1,MS P F B S O1 kP iQ jH w1 ρ1→Q ⟨kP,[]⟩ jH→Rn.le ρ ρ1→(∀c,O c→O1 c)→(∀c,S c→w1.heap[c]?=w.heap[c]?)→eX P c0 c1 z0 z1 Fin f m acc out S O1 (G (iZ fn iQ k .run kd) cs) w1) :
  eX P c0 c1 z0 z1 Fin f m acc out S O (G (iZ fn bu (.code c::k) .run kd) cs) w:=by
 have hw:=xg (main:=true) T hF hm.Ec hE hi hc hc' hm.av hm.wr hm.tD hm.ok hQ h hm.shared k cs;rw[←hm.own] at hw;have hw':=hw.keep w fun c hc=>⟨(hm.vH hc).1,(hm.vH hc).2,rfl⟩
 refine eX.CS hw' ?_;rintro O1 g1 w1 ⟨⟨kP,iQ,jH,ρ1,rfl,Np,hq,hkn⟩,hk⟩;refine cont kP iQ jH ρ1 O1 w1 ⟨Np,hkn.wr,hkn.tD,aN hm.Ec hkn.grow,hkn.own,hkn.shared,hkn.ok⟩ hq hkn.le (fun c ho=>?_) fun c hc=>(hk c hc).2.2;rw[hm.own] at ho;obtain⟨b,h1,h2⟩:=ho;rw[hkn.own];exact⟨b,h1,hkn.le _ _ h2⟩
theorem eX.op{ops:Array cy}{i:Nat}{rest:List Nat}{o:cy}{fn:dR}{kd:jz}{k:List oO}{cs:List bL}{v:aj}{d:Tmp}(Cr:kd≠.early)(ho:ops[i]?=some o)(hg:o.guard=none)(hd:o.dst=some d)
  (h:∀w,(bY (iZ fn bu (.inRegion ops (i::rest)::k) .run kd).eval o).runT P w #[]=(.ok (.value v) w,#[]))
  (hk:eX P c0 c1 z0 z1 Fin f m acc out S O (GK fn (bu.setIfInBounds d v) (.inRegion ops rest::k) kd cs) w):eX P c0 c1 z0 z1 Fin f m acc out S O (GK fn bu (.inRegion ops (i::rest)::k) kd cs) w:=by
 refine .ctl rfl rfl (fun w=>?_) rfl rfl hk;have:=Ol (P:=P) (main:=true) (fn:=fn) (tmps:=bu) (kd:=kd) (k:=k) (cs:=cs) (rest:=rest) Cr ho hg (h w);rw[this];simp only[hd];rfl
end
end Go.Lag
namespace Go.Proofs.YtffladgmkiimjaaGreatDoor
open Go.RowKit Go.Lag
open Go.Conc
def l8(X:Nat→Prop)(w:ar)(v:aj)(n:Nat)(xs:List aj):Prop:=
 (v=.slice none 0 0∧n=0∧xs=[])∨∃g off cap,v=.slice (some ⟨g,off,none⟩) n cap∧(n≤4294967296∧n≤cap)∧X g∧∀j u,xs[j]?=some u→w.cell? ⟨g,off+j,none⟩=some u
theorem l8.to{X:Nat→Prop}{w0 w:ar}{v:aj}{n:Nat}{xs:List aj}(h:l8 X w0 v n xs)(hlt:∀c,X c→c<w.heap.size)(hc:∀a:cU,X a.block→w.cell? a=w0.cell? a):Reads w v n xs:=by
 rcases h with h|⟨g,off,cap,h1,h2,h3,h4⟩
 ·exact .inl h
 ·exact .inr ⟨g,off,cap,h1,h2,hlt g h3,fun j u hj=>(hc ⟨g,off+j,none⟩ h3).trans (h4 j u hj)⟩
structure N6(P:aI)(b:BB)(men sent marks all:aj)(l:List dT)(ss:List Int)(ms:List Mk)(X0:Nat→Prop)(w0:ar)(xb fb tb c0 c1:Nat):Prop where
 e:P=aq
 f178:P.funcs[(178:Nat)]?=some Tryz.f178
 i159:P.inits.idxOf? 159=none
 i178:P.inits.idxOf? 178=none
 ok:b.Ok
 aaz:∀a∈l,a.Ok
 Gs:∀s∈ss,1≤s∧s≤8
 mks:∀m∈ms,1≤m.minute∧m.minute≤8
 cl:Closed fw X0 w0
 low:∀c,X0 c→P.globals.size≤c
 tD:P.globals.size≤w0.heap.size
 xx:X0 xb
 xf:X0 fb
 xt:X0 tb
 xc:∀i u,(b.open men sent marks all)[i]?=some u→w0.cell? ⟨xb,i,none⟩=some u
 fc:w0.cell? ⟨fb,0,none⟩=some (.chan (some c0))
 tc:w0.cell? ⟨tb,0,none⟩=some (.chan (some c1))
 rs:l8 X0 w0 sent ss.length (ss.map (aG .i64))
 rm:l8 X0 w0 marks ms.length (eu ms)
 ra:l8 X0 w0 all l.length (rowOf l)
def Kp(X0:Nat→Prop)(w0 lw:ar):Prop:=∀c,X0 c→lw.heap[c]?=(shut X0 w0).heap[c]?
section
variable{P:aI}{b:BB}{men sent marks all:aj}{l:List dT}{ss:List Int}{ms:List Mk}{X0:Nat→Prop}{w0:ar}{xb fb tb c0 c1:Nat}
 {S O:Nat→Prop} {tmps bu:Array aj} {lw w:ar} {ρ:Rn} {B:Nat→Prop}
theorem Kp.cell(h:Kp X0 w0 lw){a:cU}(ha:X0 a.block):lw.cell? a=w0.cell? a:=(iK (h _ ha)).trans (vG ha)
theorem Kp.lt(E:N6 P b men sent marks all l ss ms X0 w0 xb fb tb c0 c1)(h:Kp X0 w0 lw){c:Nat}(hc:X0 c):c<lw.heap.size:=by
 obtain⟨cs,e,z,h1,_⟩:=E.cl c hc;have:=h c hc;rw[Dj h1 hc] at this;exact eE this
theorem Kp.below(E:N6 P b men sent marks all l ss ms X0 w0 xb fb tb c0 c1)(h:Kp X0 w0 lw){ep:ar}(hb:az lw.heap.size lw ep):Kp X0 w0 ep:=fun c hc=>(hb.block c (h.lt E hc)).trans (h c hc)
theorem Kp.reads(E:N6 P b men sent marks all l ss ms X0 w0 xb fb tb c0 c1)(h:Kp X0 w0 lw){v:aj}{n:Nat}{xs:List aj}(hr:l8 X0 w0 v n xs):Reads lw v n xs:=hr.to (fun c hc=>h.lt E hc) fun a ha=>h.cell ha
theorem Kp.heap(h:Kp X0 w0 lw){ep:ar}(e:ep.heap=lw.heap):Kp X0 w0 ep:=fun c hc=>by rw[e];exact h c hc
structure St(P:aI)(X0:Nat→Prop)(w0:ar)(S O:Nat→Prop)(tmps bu:Array aj)(lw w:ar)(ρ:Rn)(B:Nat→Prop):Prop where
 ms:MS P fw B S O tmps bu lw w ρ
 id:Rn.le (xE X0) ρ
 xB:∀c,X0 c→B c
 kp:Kp X0 w0 lw
 kw:∀c,X0 c→w.heap[c]?=w0.heap[c]?
theorem St.xS(st:St P X0 w0 S O tmps bu lw w ρ B){c:Nat}(hc:X0 c):S c:=(st.ms.shared c).2 ⟨c,st.xB c hc,st.id _ _ (uZ hc)⟩
theorem Xd{ρ:Rn}(hid:Rn.le (xE X0) ρ){a a':cU}(ha:X0 a.block)(h:AR ρ a a'):a'=a:=by
 have h1:=hid _ _ (uZ ha);have h2:=h.block;rw[h1] at h2;have h3:=bg h2;have h4:=h.off;have h5:=h.spot;obtain⟨b1,o1,s1⟩:=a;obtain⟨b2,o2,s2⟩:=a';dsimp only at h3 h4 h5;subst h3;subst h4;subst h5;rfl
theorem St.ptr(st:St P X0 w0 S O tmps bu lw w ρ B){i:Nat}{a:cU}(ha:X0 a.block)(hi:tmps[i]?=some (ptr a)):bu[i]?=some (ptr a):=by
 obtain⟨y,hy,hv⟩:=st.ms.get hi;cases hv with
 |@ptr _ a' Fp=>rw[Xd st.id ha Fp] at hy;exact hy
theorem St.flat(st:St P X0 w0 S O tmps bu lw w ρ B){i:Nat}{v:aj}(hv:v.oneCell'=true∧(match v with|.bool _|.int ..|.chan _=>true|_=>false)=true)(hi:tmps[i]?=some v):bu[i]?=some v:=by
 obtain⟨y,hy,h⟩:=st.ms.get hi;obtain⟨_,h2⟩:=hv;cases h<;>first|exact hy|cases h2
theorem St.bool(st:St P X0 w0 S O tmps bu lw w ρ B){i:Nat}{x:Bool}(hi:tmps[i]?=some (.bool x)):bu[i]?=some (.bool x):=st.flat ⟨rfl,rfl⟩ hi
theorem St.chan(st:St P X0 w0 S O tmps bu lw w ρ B){i:Nat}{x:Option Nat}(hi:tmps[i]?=some (.chan x)):bu[i]?=some (.chan x):=st.flat ⟨rfl,rfl⟩ hi
variable{z0 z1:aj}{Fin:List aj→List aj→(Nat→Prop)→(Nat→Prop)→aB→ar→Prop}{f m:Nat}{acc out:List aj}
theorem St.piece(E:N6 P b men sent marks all l ss ms X0 w0 xb fb tb c0 c1)(st:St P X0 w0 S O tmps bu lw w ρ B){c:gI}(hc:(gS aq fw c&&dP c)=true){R:je→ar→Prop}(hR:∀a W' τ d,R a (dx W' τ d)→R a W')
  (h:∀ep,ep.heap=lw.heap→c.wp aq (fun e a W'=>e=.normal∧R a W'∧Kp X0 w0 W') ⟨tmps,[]⟩ ep) {k:List oO} {cs:List bL}
  (cont:∀kP iQ jH ρ1 O1 w1,St P X0 w0 S O1 kP iQ jH w1 ρ1 B→R ⟨kP,[]⟩ jH→Rn.le ρ ρ1→(∀c,O c→O1 c)→eX P c0 c1 z0 z1 Fin f m acc out S O1 (GK 159 iQ k .normal cs) w1) :
  eX P c0 c1 z0 z1 Fin f m acc out S O (GK 159 bu (.code c::k) .normal cs) w:=by
 have hq:Quiet P:=quiet_of E.e;have QD:sP P fw:=K0 E.e;rw[Bool.and_eq_true] at hc;refine eX.Yz hq QD (by simp) E.i159 (by rw[E.e];exact hc.1) hc.2 st.ms (Q:=fun a W'=>R a W'∧Kp X0 w0 W') (fun a W' τ d hq=>⟨hR _ _ _ _ hq.1,hq.2⟩) (fun τ d=>by rw[E.e];exact h (dx lw τ d) rfl) ?_;intro kP iQ jH ρ1 O1 w1 KL hq hle hO hS;exact cont kP iQ jH ρ1 O1 w1 ⟨KL,fun b c h=>hle _ _ (st.id _ _ h),st.xB,hq.2,fun c hc=>(hS c (st.xS hc)).trans (st.kw c hc)⟩ hq.1 hle hO
end
theorem uV{c:gI}(h:c∈[gR5,gR6,gR7,Z5,gR9,KZ,FT,QS,AG,AE,QR]):(gS aq fw c&&dP c)=true:=List.all_eq_true.1 aff c h
theorem ae4:∀w es,(iI 108).runT aq w es=(.ok (.int .i64 0) w,es):=fun _ _=>by kernel_rfl
theorem z4:∀w es,(iI 4).runT aq w es=(.ok (.bool false) w,es):=fun _ _=>by kernel_rfl
theorem s16:(opsOf nv).size=4:=by kernel_rfl
theorem D5:(opsOf nv)[0]?=some ((opsOf nv).getD 0 default)∧((opsOf nv).getD 0 default).op=.select #[{ chan:=.tmp 57,send:=none,elem:=108 },{ chan:=.tmp 58,send:=none,elem:=4 }] true∧((opsOf nv).getD 0 default).dst=some 59∧((opsOf nv).getD 0 default).guard=none:=⟨by kernel_rfl,by kernel_rfl,by kernel_rfl,by kernel_rfl⟩
theorem BK:(opsOf nv)[1]?=some ((opsOf nv).getD 1 default)∧((opsOf nv).getD 1 default).op=.extract (.tmp 59) 0∧((opsOf nv).getD 1 default).dst=some 60∧((opsOf nv).getD 1 default).guard=none:=⟨by kernel_rfl,by kernel_rfl,by kernel_rfl,by kernel_rfl⟩
theorem BJ:(opsOf nv)[2]?=some ((opsOf nv).getD 2 default)∧((opsOf nv).getD 2 default).op=.binOp .eql 3 (.tmp 60) (.const (.int .i64 0)) 3∧((opsOf nv).getD 2 default).dst=some 61∧((opsOf nv).getD 2 default).guard=none:=⟨by kernel_rfl,by kernel_rfl,by kernel_rfl,by kernel_rfl⟩
theorem BI:(opsOf nv)[3]?=some ((opsOf nv).getD 3 default)∧((opsOf nv).getD 3 default).op=.binOp .eql 3 (.tmp 60) (.const (.int .i64 1)) 3∧((opsOf nv).getD 3 default).dst=some 62∧((opsOf nv).getD 3 default).guard=none:=⟨by kernel_rfl,by kernel_rfl,by kernel_rfl,by kernel_rfl⟩
theorem BG{fr:bL}{o:cy}{x:bH}{i:Nat}{vs:Array aj}{v:aj}(ho:o.op=.extract x i)(hx:fr.eval x=.tuple vs)(hv:vs[i]?=some v)(P:aI)(w:ar):(bY fr.eval o).runT P w #[]=(.ok (.value v) w,#[]):=by
 unfold bY;rw[ho];simp only[hx,Instr.extract,hv];rfl
theorem adF{fr:bL}{o:cy}{x:bH}(ho:o.op=.binOp .eql 3 x (.const (.int .i64 0)) 3)(hx:fr.eval x=.int .i64 0)(w:ar):(bY fr.eval o).runT aq w #[]=(.ok (.value (.bool true)) w,#[]):=by
 unfold bY;rw[ho];simp only[hx]
 kernel_rfl
theorem adE{fr:bL}{o:cy}{x:bH}(ho:o.op=.binOp .eql 3 x (.const (.int .i64 1)) 3)(hx:fr.eval x=.int .i64 0)(w:ar):(bY fr.eval o).runT aq w #[]=(.ok (.value (.bool false)) w,#[]):=by
 unfold bY;rw[ho];simp only[hx]
 kernel_rfl
theorem adD{fr:bL}{o:cy}{x:bH}(ho:o.op=.binOp .eql 3 x (.const (.int .i64 0)) 3)(hx:fr.eval x=.int .i64 1)(w:ar):(bY fr.eval o).runT aq w #[]=(.ok (.value (.bool false)) w,#[]):=by
 unfold bY;rw[ho];simp only[hx]
 kernel_rfl
theorem adC{fr:bL}{o:cy}{x:bH}(ho:o.op=.binOp .eql 3 x (.const (.int .i64 1)) 3)(hx:fr.eval x=.int .i64 1)(w:ar):(bY fr.eval o).runT aq w #[]=(.ok (.value (.bool true)) w,#[]):=by
 unfold bY;rw[ho];simp only[hx]
 kernel_rfl
theorem py{w w':ar}{B:Nat}{e:aZ}{size:Nat}{v:aj}{n:Nat}{xs:List aj}(h:w.ownsRow B e size v n xs)(he:w'.heap=w.heap):w'.ownsRow B e size v n xs:=by
 unfold World.ownsRow at *;rw[he];exact h
def ints(l:List Nat):List Value:=l.map fun(p:Nat)=>aG .i64 (p:Int)
theorem GH.set{fb tb:Nat}{tmps:Array aj}{many:Int}{v:aj}(h:GH fb tb tmps many v)(i:Nat)(x:aj)(hi:i≠4∧i≠5∧i≠6∧i≠9):GH fb tb (tmps.setIfInBounds i x) many v:=
 ⟨by simp[h.size],by rw[aA (by omega)];exact h.t4,by rw[aA (by omega)];exact h.t5,by rw[aA (by omega)];exact h.t6,by rw[aA (by omega)];exact h.t9⟩
section
variable{P:aI}{b:BB}{men sent marks all:aj}{l:List dT}{ss:List Int}{ms:List Mk}{X0:Nat→Prop}{w0:ar}{xb fb tb c0 c1:Nat}
 {S O:Nat→Prop} {tmps bu:Array aj} {lw w:ar} {ρ:Rn} {B:Nat→Prop} {cs:List bL} {K:List oO}
theorem St.set(st:St P X0 w0 S O tmps bu lw w ρ B){v v':aj}(hv:VR fw ρ v v')(i:Nat):St P X0 w0 S O (tmps.setIfInBounds i v) (bu.setIfInBounds i v') lw w ρ B:=⟨st.ms.set hv i,st.id,st.xB,st.kp,st.kw⟩
theorem St.size(st:St P X0 w0 S O tmps bu lw w ρ B):tmps.size=bu.size:=st.ms.av.size
theorem St.row(st:St P X0 w0 S O tmps bu lw w ρ B){i:Nat}{v:aj}{B0:Nat}{out:List Nat}(hi:tmps[i]?=some v)(ho:lw.ownsRow B0 108 1 v out.length (ints out))(hn:out.length≤1000):∃v',bu[i]?=some v'∧Reads w v' out.length (ints out):=by
 obtain⟨v',hy,hv⟩:=st.ms.get hi;refine⟨v',hy,?_⟩;have hc:=fun g hg=>ho.cells (g:=g) hg;have hlen:out.length=0→ints out=[]:=fun h0=>by rw[List.eq_nil_of_length_eq_zero h0];rfl
 rcases ho.2 with⟨rfl,h0⟩|⟨g,cap,cur,rfl,h9⟩
 ·cases hv with
  |D6=>exact .inl ⟨rfl,h0,hlen h0⟩
 ·cases hv with
  |@slice _ a' _ _ Fp=>
   obtain⟨o,o',h1,h2,_⟩:=st.ms.wr.at_ _ _ Fp.block
   have e:a'=⟨a'.block,0,none⟩:=by
    have h4:=Fp.off;have h5:=Fp.spot;obtain⟨x,y,z⟩:=a';dsimp only at h4 h5 ⊢;subst h4;subst h5;rfl
   refine .inr ⟨a'.block,0,cap,by rw[e],⟨by omega,h9.2.2.1⟩,eE h2,fun j u hj=>?_⟩
   have hl:lw.cell? ⟨g,0+j,none⟩=some u:=by
    have:=hc g rfl j u hj;cases j<;>simpa [Addr.add] using this
   obtain⟨u',hu,hvu⟩:=st.ms.wr.cell (a:=⟨g,0+j,none⟩) (a':=⟨a'.block,0+j,none⟩) ⟨Fp.block,rfl,rfl⟩ hl;obtain⟨p,_,rfl⟩:=List.mem_map.1 (List.mem_of_getElem? hj);cases hvu;exact hu
def Xr(A:List aj)(K:List oO)(cs:List bL)(acc out:List aj)(S O:Nat→Prop)(g:aB)(w:ar):Prop:=
 ∃(bu:Array aj) (v:aj) (km:List Nat),g=GK 159 bu (.code wy::K) .normal cs∧bu.size=71∧bu[9]?=some v∧out=ints km∧Reads w v km.length (ints km)∧acc=A
section
variable{k:List oO}{kd:jz}
theorem adL(w:ar):eP P true (GK 159 bu (.code Ml::k) kd cs) w=.go (GK 159 bu (.code (.seq QS (.cond (.tmp 56) .skip (.exit 2)))::.code (.block 3 TN)::k) kd cs) w #[]:=by rw[Z6];exact jD _ _ w
theorem adN(w:ar):eP P true (GK 159 bu (.code TN::k) kd cs) w=.go (GK 159 bu (.code AG::.code (.seq nv (.block 4 TM))::k) kd cs) w #[]:=by rw[Z9];exact jD _ _ w
theorem aap(w:ar):eP P true (GK 159 bu (.code nv::k) kd cs) w=.go (GK 159 bu (.inRegion (opsOf nv) [0,1,2,3]::k) kd cs) w #[]:=by
 have h:=tG (P:=P) (main:=true) (fn:=159) (tmps:=bu) (kd:=kd) (k:=k) (cs:=cs) 16 (opsOf nv) w;rw[←WJ,s16] at h;exact h
theorem Yg{x:Bool}(h:(iZ 159 bu (.code TM::k) .run kd).eval (.tmp 61)=.bool x)(w:ar):eP P true (GK 159 bu (.code TM::k) kd cs) w=.go (GK 159 bu (.code (if x then AE else .cond (.tmp 62) QR .skip)::k) kd cs) w #[]:=by rw[Z8] at h ⊢;exact sD h w
end
theorem Z1(t:Array aj)(h:t.size=71)(a b c d:aj):((((t.setIfInBounds 59 a).setIfInBounds 60 b).setIfInBounds 61 c).setIfInBounds 62 d)[59]?=some a∧((((t.setIfInBounds 59 a).setIfInBounds 60 b).setIfInBounds 61 c).setIfInBounds 62 d)[61]?=some c∧((((t.setIfInBounds 59 a).setIfInBounds 60 b).setIfInBounds 61 c).setIfInBounds 62 d)[62]?=some d∧
  (t.setIfInBounds 59 a)[59]?=some a∧((t.setIfInBounds 59 a).setIfInBounds 60 b)[60]?=some b∧(((t.setIfInBounds 59 a).setIfInBounds 60 b).setIfInBounds 61 c)[60]?=some b:=by
 refine⟨?_,?_,?_,?_,?_,?_⟩<;>simp[Array.getElem?_setIfInBounds,h]
theorem GH.abC{fb tb:Nat}{tmps:Array aj}{many:Int}{v:aj}(h:GH fb tb tmps many v)(a b c d:aj):GH fb tb ((((tmps.setIfInBounds 59 a).setIfInBounds 60 b).setIfInBounds 61 c).setIfInBounds 62 d) many v:=
 (((h.set 59 a (by omega)).set 60 b (by omega)).set 61 c (by omega)).set 62 d (by omega)
theorem qX{F:Nat→Bool}{ρ:Rn}{v:aj}(h:EB v=true):VR F ρ v v:=zn h
theorem ach(E:N6 P b men sent marks all l ss ms X0 w0 xb fb tb c0 c1):∀(N f many:Nat) (jQ km:List Nat) (S O:Nat→Prop) (tmps bu:Array aj) (lw w:ar) (ρ:Rn) (B:Nat→Prop) (v:aj) (B0:Nat),
  f+many=N→f≤many→many≤600→km.length+f≤600→St P X0 w0 S O tmps bu lw w ρ B→GH fb tb tmps many v→lw.ownsRow B0 108 1 v km.length (ints km)→B0≤lw.heap.size→(∀c,X0 c→c<B0)→
  eX P c0 c1 (.int .i64 0) (.bool false) (Xr (ints jQ) K cs) f many (ints jQ) (ints km) S O (GK 159 bu (.code Ml::.inLoop Ml::.inBlock 2::.code wy::K) .normal cs) w:=by
 intro N
 induction N using Nat.strongRecOn with
 |ind N ih=>
  intro f many jQ km S O tmps bu lw w ρ B v B0 hN hfm hm6 hof st FO hown hB0 U4;refine .ctl rfl rfl adL rfl rfl (.ctl rfl rfl (jD _ _) rfl rfl ?_);refine st.piece E (uV (by simp)) (R:=fun a W'=>(GH fb tb a.tmps many v∧a.tmps[56]?=some (.bool (decide ((0:Int)<many))))∧W'.ownsRow B0 108 1 v km.length (ints km)∧B0≤W'.heap.size) (fun _ _ _ _ h=>h) (fun ep ve=>?_) ?_
  ·refine A8 (ae9 FO) ?_;rintro e a W' ⟨rfl,h1,h2,rfl⟩;exact⟨rfl,⟨⟨h1,h2⟩,py hown ve,by rw[ve];exact hB0⟩,st.kp.heap ve⟩
  clear st FO hown hB0;rintro tmps bu lw ρ O w st ⟨⟨FO,h56⟩,hown,hB0⟩ - -;have ado:=st.bool h56;refine .ctl rfl rfl (sD (bq ado)) rfl rfl ?_
  by_cases hz:many=0
  ·subst hz;obtain rfl:f=0:=by omega
   rw[show decide ((0:Int)<((0:Nat):Int))=false from rfl];refine .ctl rfl rfl (EI (k':=.code wy::K) rfl) rfl rfl ?_;refine .fin rfl fun w1 hr=>?_;have Oo:St P X0 w0 S O tmps bu lw w1 ρ B:=⟨st.ms.rely hr,st.id,st.xB,st.kp,fun c hc=>(hr.keep c (.inl (st.xS hc))).trans (st.kw c hc)⟩
   obtain⟨v',hv',vO⟩:=Oo.row FO.t9 hown (by omega);exact⟨bu,v',km,rfl,by rw[←Oo.size];exact FO.size,hv',rfl,vO,rfl⟩
  obtain⟨m,rfl⟩:∃m,many=m+1:=⟨many-1,by omega⟩
  rw[show decide ((0:Int)<((m+1:Nat):Int))=true from decide_eq_true (by omega)];refine .ctl rfl rfl (fun w=>zy w) rfl rfl (.ctl rfl rfl (pY _ _) rfl rfl (.ctl rfl rfl adN rfl rfl ?_));have hcf:lw.cell? ⟨fb,0,none⟩=some (.chan (some c0)):=(st.kp.cell E.xf).trans E.fc;have U2:lw.cell? ⟨tb,0,none⟩=some (.chan (some c1)):=(st.kp.cell E.xt).trans E.tc;refine st.piece E (uV (by simp)) (R:=fun a W'=>(GH fb tb a.tmps (m+1:Nat) v∧a.tmps[57]?=some (.chan (some c0))∧a.tmps[58]?=some (.chan (some c1)))∧W'.ownsRow B0 108 1 v km.length (ints km)∧B0≤W'.heap.size) (fun _ _ _ _ h=>h) (fun ep ve=>?_) ?_
  ·refine A8 (YB FO ((iK (by rw[ve])).trans hcf) ((iK (by rw[ve])).trans U2)) ?_;rintro e a W' ⟨rfl,h1,h2,h3,rfl⟩;exact⟨rfl,⟨⟨h1,h2,h3⟩,py hown ve,by rw[ve];exact hB0⟩,st.kp.heap ve⟩
  clear st FO hown hB0 hcf U2 h56 ado;rintro tmps bu lw ρ O w st ⟨⟨FO,h57,h58⟩,hown,hB0⟩ - -;have ZX:=st.chan h57;have ZW:=st.chan h58;refine .ctl rfl rfl (jD _ _) rfl rfl (.ctl rfl rfl aap rfl rfl ?_);refine .select (RV (t0:=108) (t1:=4) (by simp) D5.1 D5.2.1 D5.2.2.2 (by rw[E.e];exact ae4) (by rw[E.e];exact z4) (bq ZX) (bq ZW)) (fun x f' hf' hx=>?_) (fun age=>?_)
  ·obtain⟨p,hp,rfl⟩:=List.mem_map.1 hx;subst hf';rw[E6 D5.1 D5.2.2.1];have ev:(Value.tuple #[goInt ((0:Nat):Int),.bool true,if (0:Nat)=0 then .int .i64 (p:Int) else .int .i64 0,if (0:Nat)=1 then .int .i64 (p:Int) else .bool false])=.tuple #[.int .i64 0,.bool true,.int .i64 (p:Int),.bool false]:=by simp[goInt]
   rw[ev];have hsz:bu.size=71:=by rw[←st.size];exact FO.size
   obtain⟨g1,g2,g3,g4,g5,g6⟩:=Z1 bu hsz (.tuple #[.int .i64 0,.bool true,.int .i64 (p:Int),.bool false]) (.int .i64 0) (.bool true) (.bool false);obtain⟨l1,-,-,-,-,-⟩:=Z1 tmps FO.size (.tuple #[.int .i64 0,.bool true,.int .i64 (p:Int),.bool false]) (.int .i64 0) (.bool true) (.bool false);refine .op (by simp) BK.1 BK.2.2.2 BK.2.2.1 (fun w=>BG (v:=.int .i64 0) BK.2.1 (bq g4) rfl P w) ?_;refine .op (by simp) BJ.1 BJ.2.2.2 BJ.2.2.1 (fun w=>by rw[E.e];exact adF BJ.2.1 (bq g5) w) ?_;refine .op (by simp) BI.1 BI.2.2.2 BI.2.2.1 (fun w=>by rw[E.e];exact adE BI.2.1 (bq g6) w) ?_;refine .ctl rfl rfl (oa _) rfl rfl (.ctl rfl rfl (pY _ _) rfl rfl (.ctl rfl rfl (Yg (x:=true) (bq g2)) rfl rfl ?_));have st4:=(((st.set (qX (v:=.tuple #[.int .i64 0,.bool true,.int .i64 (p:Int),.bool false]) (by simp[EB,zo])) 59).set (qX (v:=.int .i64 0) rfl) 60).set (qX (v:=.bool true) rfl) 61).set (qX (v:=.bool false) rfl) 62;have hg4:=FO.abC (.tuple #[.int .i64 0,.bool true,.int .i64 (p:Int),.bool false]) (.int .i64 0) (.bool true) (.bool false);refine st4.piece E (uV (by simp)) (R:=fun a W'=>∃v',GH fb tb a.tmps (m+1:Nat) v'∧W'.ownsRow B0 108 1 v' (km++[p]).length (ints (km++[p]))∧B0≤W'.heap.size) (fun _ _ _ _ h=>h) (fun ep ve=>?_) ?_
   ·refine A8 (YA (B:=B0) (out:=km) (by omega) hg4 l1 (py hown ve) (by rw[ve];exact hB0)) ?_;rintro e a W' ⟨rfl,v',h1,h2,h3⟩;exact⟨rfl,⟨v',h1,h2,aN (by rw[ve];exact hB0) h3.size⟩,fun c hc=>(h3.block c (U4 c hc)).trans ((st.kp.heap ve) c hc)⟩
   clear st4 hg4 st FO hown hB0 h57 h58 ZX ZW g1 g2 g3 g4 g5 g6 l1 ev hsz;rintro tmps bu lw ρ O w st ⟨v',FO,hown,hB0⟩ - -;refine .ctl rfl rfl (fun w=>oH _ w) rfl rfl (.ctl rfl rfl (fun w=>oH _ w) rfl rfl (.ctl rfl rfl (fun w=>xQ _ w) rfl rfl ?_));have e:ints km++[aG .i64 (p:Int)]=ints (km++[p]):=by simp[ints]
   rw[e];exact ih (f'+(m+1)) (by omega) f' (m+1) jQ (km++[p]) S O tmps bu lw w ρ B v' B0 rfl (by omega) hm6 (by simp;omega) st FO hown hB0 U4
  ·rw[E6 D5.1 D5.2.2.1];have ev:(Value.tuple #[goInt ((1:Nat):Int),.bool true,if (1:Nat)=0 then .bool true else .int .i64 0,if (1:Nat)=1 then .bool true else .bool false])=.tuple #[.int .i64 1,.bool true,.int .i64 0,.bool true]:=by simp[goInt]
   rw[ev];have hsz:bu.size=71:=by rw[←st.size];exact FO.size
   obtain⟨g1,g2,g3,g4,g5,g6⟩:=Z1 bu hsz (.tuple #[.int .i64 1,.bool true,.int .i64 0,.bool true]) (.int .i64 1) (.bool false) (.bool true);refine .op (by simp) BK.1 BK.2.2.2 BK.2.2.1 (fun w=>BG (v:=.int .i64 1) BK.2.1 (bq g4) rfl P w) ?_;refine .op (by simp) BJ.1 BJ.2.2.2 BJ.2.2.1 (fun w=>by rw[E.e];exact adD BJ.2.1 (bq g5) w) ?_;refine .op (by simp) BI.1 BI.2.2.2 BI.2.2.1 (fun w=>by rw[E.e];exact adC BI.2.1 (bq g6) w) ?_;refine .ctl rfl rfl (oa _) rfl rfl (.ctl rfl rfl (pY _ _) rfl rfl (.ctl rfl rfl (Yg (x:=false) (bq g2)) rfl rfl (.ctl rfl rfl (sD (x:=true) (bq g3)) rfl rfl ?_)));have st4:=(((st.set (qX (v:=.tuple #[.int .i64 1,.bool true,.int .i64 0,.bool true]) (by simp[EB,zo])) 59).set (qX (v:=.int .i64 1) rfl) 60).set (qX (v:=.bool false) rfl) 61).set (qX (v:=.bool true) rfl) 62;have hg4:=FO.abC (.tuple #[.int .i64 1,.bool true,.int .i64 0,.bool true]) (.int .i64 1) (.bool false) (.bool true);refine st4.piece E (uV (by simp)) (R:=fun a W'=>GH fb tb a.tmps m v∧W'.ownsRow B0 108 1 v km.length (ints km)∧B0≤W'.heap.size) (fun _ _ _ _ h=>h) (fun ep ve=>?_) ?_
   ·refine A8 (ae8 (many:=((m+1:Nat):Int)) (by omega) hg4) ?_;rintro e a W' ⟨rfl,h1,rfl⟩;refine⟨rfl,⟨?_,py hown ve,by rw[ve];exact hB0⟩,st.kp.heap ve⟩;have e:((m+1:Nat):Int)-1=(m:Int):=by omega
    rw[e] at h1;exact h1
   clear st4 hg4 st FO hown hB0 h57 h58 ZX ZW g1 g2 g3 g4 g5 g6 ev hsz;rintro tmps bu lw ρ O w st ⟨FO,hown,hB0⟩ - -;refine .ctl rfl rfl (fun w=>oH _ w) rfl rfl (.ctl rfl rfl (fun w=>oH _ w) rfl rfl (.ctl rfl rfl (fun w=>xQ _ w) rfl rfl ?_));exact ih (f+m) (by omega) f m jQ km S O tmps bu lw w ρ B v B0 rfl age (by omega) hof st FO hown hB0 U4
end
theorem s10:(opsOf uB).size=2:=by kernel_rfl
theorem OE:(opsOf uB)[0]?=some ((opsOf uB).getD 0 default)∧((opsOf uB).getD 0 default).op=.makeFunc (.func 178) #[] #[.tmp 1,.tmp 8,.tmp 4,.tmp 5]∧((opsOf uB).getD 0 default).dst=some 53∧((opsOf uB).getD 0 default).guard=none:=⟨by kernel_rfl,by kernel_rfl,by kernel_rfl,by kernel_rfl⟩
theorem OD:(opsOf uB)[1]?=some ((opsOf uB).getD 1 default)∧((opsOf uB).getD 1 default).op=.go { callee:=.value (.tmp 53),args:=#[],argTypes:=#[] }∧((opsOf uB).getD 1 default).dst=none∧((opsOf uB).getD 1 default).guard=none:=⟨by kernel_rfl,by kernel_rfl,by kernel_rfl,by kernel_rfl⟩
theorem Ii{fr:bL}{o:cy}{f:dR}{x y z u:bH}(ho:o.op=.makeFunc (.func f) #[] #[x,y,z,u]){a b c d:aj}(hx:fr.eval x=a)(hy:fr.eval y=b)(hz:fr.eval z=c)(hu:fr.eval u=d)(P:aI)(w:ar) :
  (bY fr.eval o).runT P w #[]=(.ok (.value (.func (.func f) #[] #[a,b,c,d])) w,#[]):=by
 unfold bY;rw[ho];simp only[List.map_toArray,cg,fP,hx,hy,hz,hu];rfl
def manyN(b:BB)(lg sn:Nat):Nat→Nat
 |0=>0
 |m+1=>manyN b lg sn m+if yy b lg sn m then 0 else 1
def jQ(b:BB)(lg sn:Nat)(l:List dT):Nat→List Nat
 |0=>[]
 |m+1=>jQ b lg sn l m++if !yy b lg sn m&&b.sure l (sn ||| m) then[sn ||| m] else[]
theorem Ks(b:BB)(lg sn:Nat):∀m,manyN b lg sn m≤m
 |0=>ax _
 |m+1=>by have:=Ks b lg sn m;unfold manyN;split<;>omega
theorem Pk(b:BB)(lg sn:Nat)(l:List dT):∀m,(jQ b lg sn l m).length≤manyN b lg sn m
 |0=>ax _
 |m+1=>by
  have:=Pk b lg sn l m;unfold jQ manyN;cases hs:yy b lg sn m
  ·cases h2:b.sure l (sn ||| m)<;>simp<;>omega
  ·simp;omega
theorem GT.abB{xb fb tb sn:Nat}{tmps:Array aj}{many m:Int}{t8:aj}(h:GT xb fb tb sn tmps many m t8)(x:aj):GT xb fb tb sn (tmps.setIfInBounds 53 x) many m t8:=
 ⟨by simp[h.size],by rw[aA (by omega)];exact h.t1,by rw[aA (by omega)];exact h.t3,by rw[aA (by omega)];exact h.t4,by rw[aA (by omega)];exact h.t5,
  by rw[aA (by omega)];exact h.t6,by rw[aA (by omega)];exact h.t18,by rw[aA (by omega)];exact h.t8⟩
section
variable{P:aI}{b:BB}{men sent marks all:aj}{l:List dT}{ss:List Int}{ms:List Mk}{X0:Nat→Prop}{w0:ar}{xb fb tb c0 c1:Nat}
 {S O:Nat→Prop} {tmps bu:Array aj} {lw w:ar} {ρ:Rn} {B:Nat→Prop} {cs:List bL} {K k:List oO} {kd:jz}
theorem adM(w:ar):eP P true (GK 159 bu (.code Jb::k) kd cs) w=.go (GK 159 bu (.code gR5::.code (.seq (.cond (.tmp 19) .skip (.exit 0)) (.seq (.block 1 Nt) KZ))::k) kd cs) w #[]:=by rw[Z7];exact jD _ _ w
theorem adO(w:ar):eP P true (GK 159 bu (.code Nt::k) kd cs) w=.go (GK 159 bu (.code gR6::.code (.seq gR7 (.seq (.seq Z5 (.cond (.tmp 50) (.exit 1) .skip)) (.seq gR9 uB)))::k) kd cs) w #[]:=by rw[aac];exact jD _ _ w
theorem aaq(w:ar):eP P true (GK 159 bu (.code uB::k) kd cs) w=.go (GK 159 bu (.inRegion (opsOf uB) [0,1]::k) kd cs) w #[]:=by
 have h:=tG (P:=P) (main:=true) (fn:=159) (tmps:=bu) (kd:=kd) (k:=k) (cs:=cs) 10 (opsOf uB) w;rw[←WL,s10] at h;exact h
theorem Qd(st:St P X0 w0 S O tmps bu lw w ρ B){i pb:Nat}{p:aj}(hf:zo p=true)(hi:tmps[i]?=some (ptr ⟨pb,0,none⟩))(ho:lw.heap[pb]?=some (.cells #[p] 108 (0,0))) :
  ∃pc,bu[i]?=some (ptr ⟨pc,0,none⟩)∧ρ pb=some pc∧(∃e z,w.heap[pc]?=some (.cells #[p] e z)):=by
 obtain⟨y,hy,hv⟩:=st.ms.get hi;cases hv with
 |@ptr _ a' Fp=>
  have e:a'=⟨a'.block,0,none⟩:=by
   have h4:=Fp.off;have h5:=Fp.spot;obtain⟨x,y,z⟩:=a';dsimp only at h4 h5 ⊢;subst h4;subst h5;rfl
  refine⟨a'.block,by rw[←e];exact hy,Fp.block,?_⟩;obtain⟨o,o',h1,h2,h3,_⟩:=st.ms.wr.at_ _ _ Fp.block;rw[ho] at h1;cases h1;cases h3 with
  |@cells cs cs' e z z' RD hz=>
   have hs:cs'.size=1:=RD.size.symm;obtain⟨y,hy,hv⟩:=RD.get (i:=0) (x:=p) rfl
   have e1:cs' = #[y]:=by
    apply Array.ext
    ·simpa using hs
    ·intro j h1 h2;have hj:j=0:=by simp at h2;exact h2
     subst hj;have:=(ak.1 hy).2;simpa using this
   have e2:y=p:=by
    revert hf;cases hv<;>intro hf<;>first|rfl|cases hf
   exact⟨_,_,by rw[h2,e1,e2]⟩
theorem aci(E:N6 P b men sent marks all l ss ms X0 w0 xb fb tb c0 c1):∀(j m:Nat),m+j=512→∀(S O:Nat→Prop) (tmps bu:Array aj) (lw w:ar) (ρ:Rn) (B:Nat→Prop) (t8:aj),
  St P X0 w0 S O tmps bu lw w ρ B→GT xb fb tb (bE ss) tmps (manyN b (dv ss ms).toNat (bE ss) m) m t8→
  eX P c0 c1 (.int .i64 0) (.bool false) (Xr (ints (jQ b (dv ss ms).toNat (bE ss) l 512)) K cs) (jQ b (dv ss ms).toNat (bE ss) l m).length (manyN b (dv ss ms).toNat (bE ss) m) (ints (jQ b (dv ss ms).toNat (bE ss) l m)) [] S O
   (GK 159 bu (.code Jb::.inLoop Jb::.inBlock 0::.code (.seq FT (.seq (.block 2 (.loop Ml)) wy))::K) .normal cs) w:=by
 have Qv:=mU ss E.Gs;have zX:=Rp ss ms (fun s hs=>(E.Gs s hs).2) (fun s hs=>(E.mks s hs).2);obtain⟨lg,WA⟩:∃lg:Nat,dv ss ms=lg:=⟨(dv ss ms).toNat,by omega⟩
 rw[WA,Int.toNat_natCast];rw[WA] at zX;have ac7:1≤lg∧lg≤9:=by omega
 generalize ak6:bE ss=sn at *;intro j
 induction j with
 |zero|succ j ih=>?_
 all_goals
  intro m hm S O tmps bu lw w ρ B t8 st uJ;have aiC:=Ks b lg sn m;have xK:=Pk b lg sn l m;refine .ctl rfl rfl adM rfl rfl ?_;refine st.piece E (uV (by simp)) (R:=fun a W'=>GT xb fb tb sn a.tmps (manyN b lg sn m) m t8∧a.tmps[19]?=some (.bool (decide ((m:Int)<512)))) (fun _ _ _ _ h=>h) (fun ep ve=>?_) ?_
  ·refine A8 (pR5 uJ) ?_;rintro e a W' ⟨rfl,h1,h2,rfl⟩;exact⟨rfl,⟨h1,h2⟩,st.kp.heap ve⟩
  clear st uJ;rintro tmps bu lw ρ O w st ⟨uJ,h19⟩ - -;refine .ctl rfl rfl (jD _ _) rfl rfl (.ctl rfl rfl (sD (bq (st.bool h19))) rfl rfl ?_)
 ·have acP:m=512:=by omega
  rw[show decide ((m:Int)<512)=false from decide_eq_false (by omega)];refine .ctl rfl rfl (EI (k':=.code (.seq FT (.seq (.block 2 (.loop Ml)) wy))::K) rfl) rfl rfl (.ctl rfl rfl (jD _ _) rfl rfl ?_);refine st.piece E (uV (by simp)) (R:=fun a W'=>GH fb tb a.tmps (manyN b lg sn m) (.slice none 0 0)) (fun _ _ _ _ h=>h) (fun ep ve=>?_) ?_
  ·refine A8 (afa uJ) ?_;rintro e a W' ⟨rfl,h1,rfl⟩;exact⟨rfl,h1,st.kp.heap ve⟩
  clear st uJ h19;rintro tmps bu lw ρ O w st FO - -;refine .ctl rfl rfl (jD _ _) rfl rfl (.ctl rfl rfl (pY _ _) rfl rfl (.ctl rfl rfl (Ll _) rfl rfl ?_));subst acP;exact ach E _ _ _ _ [] S O tmps bu lw w ρ B _ lw.heap.size rfl xK (by omega) (by simp;omega) st FO (World.ownsRow_nil _ _ _ _) (ax _) (fun c hc=>st.kp.lt E hc)
 ·rw[show decide ((m:Int)<512)=true from decide_eq_true (by omega)];refine .ctl rfl rfl (fun w=>zy w) rfl rfl (.ctl rfl rfl (jD _ _) rfl rfl (.ctl rfl rfl (pY _ _) rfl rfl (.ctl rfl rfl adO rfl rfl ?_)));refine st.piece E (uV (by simp)) (R:=fun a W'=>GT xb fb tb sn a.tmps (manyN b lg sn m) m t8∧a.tmps[7]?=some (.int .i64 m)) (fun _ _ _ _ h=>h) (fun ep ve=>?_) ?_
  ·refine A8 (pR6 uJ) ?_;rintro e a W' ⟨rfl,h1,h2,rfl⟩;exact⟨rfl,⟨h1,h2⟩,st.kp.heap ve⟩
  clear st uJ h19;rintro tmps bu lw ρ O w st ⟨uJ,h7⟩ - -;refine .ctl rfl rfl (jD _ _) rfl rfl ?_;obtain⟨pb,hpb⟩:∃pb,lw.heap.size=pb:=⟨_,rfl⟩
  have agH:∀c,B c→c<pb:=fun c hc=>hpb▸st.ms.wr.base c hc;refine st.piece E (uV (by simp)) (R:=fun a W'=>(GT xb fb tb sn a.tmps (manyN b lg sn m) m (ptr ⟨pb,0,none⟩)∧a.tmps[7]?=some (.int .i64 m))∧W'.heap[pb]?=some (.cells #[.int .i64 ((sn ||| m:Nat):Int)] 108 (0,0))) (fun _ _ _ _ h=>h) (fun ep ve=>?_) ?_
  ·refine A8 (pR7 Qv (by omega) uJ h7) ?_;rintro e a W' ⟨rfl,h1,h2,h3,h4⟩;have hs:ep.heap.size=pb:=by rw[ve,hpb]
   rw[hs] at h1 h3;exact⟨rfl,⟨⟨h1,h2⟩,h3⟩,(st.kp.heap ve).below E h4⟩
  clear st uJ h7 hpb;rintro tmps bu lw ρ O w st ⟨⟨uJ,h7⟩,Qx⟩ - -;refine .ctl rfl rfl (jD _ _) rfl rfl (.ctl rfl rfl (jD _ _) rfl rfl ?_);refine st.piece E (uV (by simp)) (R:=fun a W'=>(GT xb fb tb sn a.tmps (manyN b lg sn m) m (ptr ⟨pb,0,none⟩)∧a.tmps[50]?=some (.bool (yy b lg sn m)))∧W'.heap[pb]?=some (.cells #[.int .i64 ((sn ||| m:Nat):Int)] 108 (0,0))) (fun _ _ _ _ h=>h) (fun ep ve=>?_) ?_
  ·have kp':=st.kp.heap ve;have Wc:ep.heap[pb]?=some (.cells #[.int .i64 ((sn ||| m:Nat):Int)] 108 (0,0)):=by rw[ve];exact Qx
   refine A8 (pR8 (b:=b) (men:=men) (sent:=sent) (marks:=marks) (pb:=pb) (lw:=ep) E.ok Qv (by omega) uJ h7 (fun i u hi=>(kp'.cell E.xx).trans (E.xc i u ?_)) ?_ ⟨kp'.lt E E.xx,eE Wc⟩ ac7 (fun w1 hb1=>?_)) ?_
   ·have af4:i<(b.cells men sent marks).size:=(ak.1 hi).1;rw[Array.getElem?_append_left af4];exact hi
   ·unfold dH;rw[Wc];rfl
   ·have kw1:=kp'.below E hb1;have:=E7 b men sent marks ss ms E.Gs E.mks w1 (kw1.reads E E.rs) (kw1.reads E E.rm);rw[WA] at this;exact this
   ·rintro e a W' ⟨rfl,h1,h2,h3⟩;exact⟨rfl,⟨⟨h1,h2⟩,(h3.block pb (eE Wc)).trans Wc⟩,kp'.below E h3⟩
  clear st uJ h7 Qx;rintro tmps bu lw ρ O w st ⟨⟨uJ,h50⟩,Qx⟩ - -;refine .ctl rfl rfl (sD (bq (st.bool h50))) rfl rfl ?_
  have last:∀(S O:Nat→Prop) (tmps bu:Array aj) (lw w:ar) (ρ:Rn) (B:Nat→Prop),St P X0 w0 S O tmps bu lw w ρ B→GT xb fb tb sn tmps (manyN b lg sn (m+1)) m (ptr ⟨pb,0,none⟩)→
    eX P c0 c1 (.int .i64 0) (.bool false) (Xr (ints (jQ b lg sn l 512)) K cs) (jQ b lg sn l (m+1)).length (manyN b lg sn (m+1)) (ints (jQ b lg sn l (m+1))) [] S O (GK 159 bu (.code KZ::.inLoop Jb::.inBlock 0::.code (.seq FT (.seq (.block 2 (.loop Ml)) wy))::K) .normal cs) w:=by
   clear st uJ h50 Qx;intro S O tmps bu lw w ρ B st uJ;refine st.piece E (uV (by simp)) (R:=fun a W'=>GT xb fb tb sn a.tmps (manyN b lg sn (m+1)) ((m+1:Nat):Int) (ptr ⟨pb,0,none⟩)) (fun _ _ _ _ h=>h) (fun ep ve=>?_) ?_
   ·refine A8 (afb (by omega) uJ) ?_;rintro e a W' ⟨rfl,h1,rfl⟩;exact⟨rfl,h1,st.kp.heap ve⟩
   clear st uJ;rintro tmps bu lw ρ O w st uJ - -;refine .ctl rfl rfl (fun w=>xQ _ w) rfl rfl ?_;exact ih (m+1) (by omega) S O tmps bu lw w ρ B _ st uJ
  cases hsk:yy b lg sn m
  ·have em:manyN b lg sn (m+1)=manyN b lg sn m+1:=by show manyN b lg sn m+(if yy b lg sn m then 0 else 1)=_;rw[hsk];rfl
   refine .ctl rfl rfl (fun w=>zy w) rfl rfl (.ctl rfl rfl (jD _ _) rfl rfl ?_);refine st.piece E (uV (by simp)) (R:=fun a W'=>GT xb fb tb sn a.tmps (manyN b lg sn (m+1)) m (ptr ⟨pb,0,none⟩)∧W'.heap[pb]?=some (.cells #[.int .i64 ((sn ||| m:Nat):Int)] 108 (0,0))) (fun _ _ _ _ h=>h) (fun ep ve=>?_) ?_
   ·refine A8 (pR9 (by omega) uJ) ?_;rintro e a W' ⟨rfl,h1,rfl⟩;refine⟨rfl,⟨?_,by rw[ve];exact Qx⟩,st.kp.heap ve⟩;rw[em];exact h1
   clear st uJ h50 Qx;rintro tmps bu lw ρ O w st ⟨uJ,Qx⟩ - -;obtain⟨pc,h8',hρ,e0,zz,hpc⟩:=Qd st rfl uJ.t8 Qx;have hnB:¬B pb:=fun h=>absurd (agH pb h) (Nat.lt_irrefl _);have adh:O pc:=by rw[st.ms.own];exact⟨pb,hnB,hρ⟩
   have hSO:∀c,S c→¬O c:=fun c hc=>(st.ms.vH hc).2;have KL:=st.ms.freeze hρ hnB Qx
   have st2:St P X0 w0 (fun x=>S x∨x=pc) (fun x=>O x∧x≠pc) tmps bu (oF lw pb #[.int .i64 ((sn ||| m:Nat):Int)] 108 0) w ρ (fun x=>B x∨x=pb):=
    ⟨KL,st.id,fun c hc=>.inl (st.xB c hc),fun c hc=>by
     have hne:c≠pb:=fun e=>hnB (e▸st.xB c hc);have:=pF Qx (x:=c);rw[if_neg hne] at this
     exact this.trans (st.kp c hc),st.kw⟩
   have afq:∀c,X0 c→c<w.heap.size:=fun c hc=>(st.ms.vH (st.xS hc)).1;have I6:∀a:cU,X0 a.block→w.cell? a=w0.cell? a:=fun a ha=>iK (st.kw _ ha);have t1':=st.ptr E.xx uJ.t1;have t4':=st.ptr E.xf uJ.t4;have t5':=st.ptr E.xt uJ.t5;refine .ctl rfl rfl aaq rfl rfl ?_;refine .op (by simp) OE.1 OE.2.2.2 OE.2.2.1 (fun w=>Ii OE.2.1 (bq t1') (bq h8') (bq t4') (bq t5') P w) ?_;have hsz:bu.size=71:=by rw[←st.size];exact uJ.size
   have vQ:(bu.setIfInBounds 53 (.func (.func 178) #[] #[ptr ⟨xb,0,none⟩,ptr ⟨pc,0,none⟩,ptr ⟨fb,0,none⟩,ptr ⟨tb,0,none⟩]))[53]?=some (.func (.func 178) #[] #[ptr ⟨xb,0,none⟩,ptr ⟨pc,0,none⟩,ptr ⟨fb,0,none⟩,ptr ⟨tb,0,none⟩]):=a8 (by omega);have hp9:sn ||| m<512:=Nat.or_lt_two_pow (n:=9) Qv (by omega)
   have V3:gF P c0 c1 (fun c=>X0 c∨c=pc) (.int .i64 ((sn ||| m:Nat):Int)) (b.sure l (sn ||| m)) (fun _=>False) (vS P 178 #[ptr ⟨xb,0,none⟩,ptr ⟨pc,0,none⟩,ptr ⟨fb,0,none⟩,ptr ⟨tb,0,none⟩]) w:=by
    refine worker E.e E.f178 (fun c hc=>?_) (fun c hc=>?_) st.ms.tD E.i178 (.inl E.xx) (.inr rfl) (.inl E.xf) (.inl E.xt) ?_ ((I6 _ E.xf).trans E.fc) ((I6 _ E.xt).trans E.tc) (fun τ d=>?_)
    ·rcases hc with hc|rfl
     ·obtain⟨cs,e,z,h1,h2⟩:=E.cl c hc;exact⟨cs,e,z,by rw[st.kw c hc];exact h1,fun v hv=>(h2 v hv).mono (sk fun _ h=>.inl h)⟩
     ·exact⟨_,e0,zz,hpc,fun v hv=>by simp at hv;subst hv;exact .int _ _⟩
    ·rcases hc with hc|rfl
     ·exact E.low c hc
     ·exact(st.ms.wr.low _ _ hρ).2
    ·unfold dH;rw[hpc];rfl
    ·rw[E.e];refine abn b E.ok men sent marks all l E.aaz (sn ||| m) hp9 xb pc fb tb _ (E.ra.to (fun c hc=>?_) fun a ha=>?_) (fun i u hi=>?_) ?_
     ·show c<(shut _ w).heap.size;rw[vF];exact afq c hc
     ·exact(vG (X:=fun c=>X0 c∨c=pc) (w:=w) (.inl ha)).trans (I6 a ha)
     ·exact(vG (X:=fun c=>X0 c∨c=pc) (w:=w) (a:=⟨xb,i,none⟩) (.inl E.xx)).trans ((I6 _ E.xx).trans (E.xc i u hi))
     ·refine(vG (X:=fun c=>X0 c∨c=pc) (w:=w) (a:=⟨pc,0,none⟩) (.inr rfl)).trans ?_;unfold dH;rw[hpc];rfl
   refine .spawn (Sk:=fun c=>X0 c∨c=pc) (S':=fun c=>S c∨c=pc) (O':=fun c=>O c∧c≠pc) (Vn (by simp) OD.1 OD.2.1 OD.2.2.1 OD.2.2.2 (bq vQ)) rfl rfl (fun c hc=>?_) V3 (fun c hc=>?_) (fun c hc=>?_) ?_
   ·rcases hc with hc|rfl
    ·exact .inl (st.xS hc)
    ·exact .inr adh
   ·rcases hc with hc|rfl
    ·exact .inl hc
    ·exact .inr adh
   ·exact⟨hc.1,fun h=>h.elim (fun h=>hSO c (st.xS h) hc.1) hc.2,fun h=>h.elim (fun h=>hSO c h hc.1) hc.2⟩
   ·refine .ctl rfl rfl (oa _) rfl rfl (.ctl rfl rfl (fun w=>oH _ w) rfl rfl ?_)
    have hvf:VR fw ρ (.func (.func 178) #[] #[ptr ⟨xb,0,none⟩,ptr ⟨pb,0,none⟩,ptr ⟨fb,0,none⟩,ptr ⟨tb,0,none⟩]) (.func (.func 178) #[] #[ptr ⟨xb,0,none⟩,ptr ⟨pc,0,none⟩,ptr ⟨fb,0,none⟩,ptr ⟨tb,0,none⟩]):=by
     have Rz:∀a:cU,X0 a.block→VR fw ρ (ptr a) (ptr a):=fun a ha=>.ptr ⟨st.id _ _ (uZ ha),rfl,rfl⟩
     have RD:iD fw ρ #[ptr ⟨xb,0,none⟩,ptr ⟨pb,0,none⟩,ptr ⟨fb,0,none⟩,ptr ⟨tb,0,none⟩] #[ptr ⟨xb,0,none⟩,ptr ⟨pc,0,none⟩,ptr ⟨fb,0,none⟩,ptr ⟨tb,0,none⟩]:=
      (((iD.one (Rz ⟨xb,0,none⟩ E.xx)).push (VR.ptr (a:=⟨pb,0,none⟩) (a':=⟨pc,0,none⟩) ⟨hρ,rfl,rfl⟩)).push (Rz ⟨fb,0,none⟩ E.xf)).push (Rz ⟨tb,0,none⟩ E.xt)
     exact .func (by rfl) rfl (fun i x y h=>by simp at h) RD.size RD.at_
    have:=last (fun x=>S x∨x=pc) (fun x=>O x∧x≠pc) _ _ _ w ρ _ (st2.set hvf 53) (uJ.abB _)
    have ea:jQ b lg sn l (m+1)=jQ b lg sn l m++if b.sure l (sn ||| m) then[sn ||| m] else[]:=by
     show jQ b lg sn l m++(if !yy b lg sn m&&b.sure l (sn ||| m) then[sn ||| m] else[])=_;rw[hsk];rfl
    have ei:ints (jQ b lg sn l (m+1))=ints (jQ b lg sn l m)++if b.sure l (sn ||| m) then[.int .i64 ((sn ||| m:Nat):Int)] else[]:=by
     rw[ea];cases b.sure l (sn ||| m)<;>simp[ints]
    have el:(jQ b lg sn l (m+1)).length=(jQ b lg sn l m).length+(b.sure l (sn ||| m)).toNat:=by
     rw[ea];cases b.sure l (sn ||| m)<;>simp
    rw[ei,el,em] at this;exact this
  ·have em:manyN b lg sn (m+1)=manyN b lg sn m:=by show manyN b lg sn m+(if yy b lg sn m then 0 else 1)=_;rw[hsk];rfl
   have ea:jQ b lg sn l (m+1)=jQ b lg sn l m:=by show jQ b lg sn l m++(if !yy b lg sn m&&b.sure l (sn ||| m) then[sn ||| m] else[])=_;rw[hsk];simp
   refine .ctl rfl rfl (EI (k':=.code KZ::.inLoop Jb::.inBlock 0::.code (.seq FT (.seq (.block 2 (.loop Ml)) wy))::K) rfl) rfl rfl ?_;have:=last S O tmps bu lw w ρ B st (by rw[em];exact uJ);rw[em,ea] at this;exact this
end
section
variable{b:BB}{men sent marks all:aj}{xb sn c0 c1 fb tb:Nat}{W:ar}
theorem pR0(hxb:W.heap.size=xb):gR0.wp aq (fun e a W'=>e=.normal∧a=⟨#[.agg (b.open men sent marks all),ptr ⟨xb,0,none⟩,.slice none 0 0,af,af,af,af,af,af,af,af,af,af,af,af,af,af,af,af,af,af,af,af,af,af,af,af,af,af,af,af,af,af,af,af,af,af,af,af,af,af,af,af,af,af,af,af,af,af,af,af,af,af,af,af,af,af,af,af,af,af,af,af,af,af,af,af,af,af,af,af],[]⟩∧W'=W.alloc (.cells (b.open men sent marks all) 122)) ⟨#[.agg (b.open men sent marks all),af,af,af,af,af,af,af,af,af,af,af,af,af,af,af,af,af,af,af,af,af,af,af,af,af,af,af,af,af,af,af,af,af,af,af,af,af,af,af,af,af,af,af,af,af,af,af,af,af,af,af,af,af,af,af,af,af,af,af,af,af,af,af,af,af,af,af,af,af,af],[]⟩ W:=by
 subst hxb;simp only[gR0,gM,qI,kq,sL,sR];go_wp2
theorem pR1{ss:List Int}(o6:∀s∈ss,1≤s∧s≤8)(hc:W.cell? ⟨xb,13,none⟩=some sent)(hs:Reads W sent ss.length (ss.map (aG .i64)))(Qv:bE ss=sn):gR1.wp aq (fun e a W'=>e=.normal∧a=⟨#[.agg (b.open men sent marks all),ptr ⟨xb,0,none⟩,.slice none 0 0,.int .i64 sn,af,af,af,af,af,af,af,ptr ⟨xb,0,none⟩,ptr ⟨xb,0,none⟩,ptr ⟨xb,13,none⟩,sent,.int .i64 sn,af,af,af,af,af,af,af,af,af,af,af,af,af,af,af,af,af,af,af,af,af,af,af,af,af,af,af,af,af,af,af,af,af,af,af,af,af,af,af,af,af,af,af,af,af,af,af,af,af,af,af,af,af,af,af],[]⟩∧W'=W) ⟨#[.agg (b.open men sent marks all),ptr ⟨xb,0,none⟩,.slice none 0 0,af,af,af,af,af,af,af,af,af,af,af,af,af,af,af,af,af,af,af,af,af,af,af,af,af,af,af,af,af,af,af,af,af,af,af,af,af,af,af,af,af,af,af,af,af,af,af,af,af,af,af,af,af,af,af,af,af,af,af,af,af,af,af,af,af,af,af,af],[]⟩ W:=by
 have hP:=kW ss o6 sent W hs;rw[Qv] at hP;clear hs o6 Qv;simp only[gR1,gM,qI,kq,sL,sR]
 go_wp2_with (go_at_call 106;refine hP.mono ?_;rintro e w' ⟨rfl,rfl⟩)
theorem Xe(W:ar)(o0 o1 o2 o3:Obj):(((((W.alloc o0).alloc o1).alloc o2).alloc o3).drew).heap[W.heap.size]?=some o0∧(((((W.alloc o0).alloc o1).alloc o2).alloc o3).drew).heap[W.heap.size+1]?=some o1∧(((((W.alloc o0).alloc o1).alloc o2).alloc o3).drew).heap[W.heap.size+1+1]?=some o2∧(((((W.alloc o0).alloc o1).alloc o2).alloc o3).drew).heap[W.heap.size+1+1+1]?=some o3∧az W.heap.size W ((((W.alloc o0).alloc o1).alloc o2).alloc o3).drew:=by
 refine⟨?_,?_,?_,?_,(((((aw _ _).alloc (ax _) _).alloc (by simp) _).alloc (by simp<;>omega) _).alloc (by simp<;>omega) _).drew⟩
 ·show((((W.alloc o0).alloc o1).alloc o2).alloc o3).heap[_]?=_;rw[aS _ _ _ (by simp<;>omega),aS _ _ _ (by simp<;>omega),aS _ _ _ (by simp)];exact ay W o0
 ·show((((W.alloc o0).alloc o1).alloc o2).alloc o3).heap[_]?=_;rw[aS _ _ _ (by simp<;>omega),aS _ _ _ (by simp)];have:=ay (W.alloc o0) o1;simpa using this
 ·show((((W.alloc o0).alloc o1).alloc o2).alloc o3).heap[_]?=_;rw[aS _ _ _ (by simp)];have:=ay ((W.alloc o0).alloc o1) o2;simpa using this
 ·show((((W.alloc o0).alloc o1).alloc o2).alloc o3).heap[_]?=_;have:=ay (((W.alloc o0).alloc o1).alloc o2) o3;simpa using this
def Q2(b:BB)(men sent marks all:aj)(xb sn:Nat)(W:ar)(a:je)(W':ar):Prop:=
 ∃c0 c1 fb tb:Nat,a=⟨#[.agg (b.open men sent marks all),ptr ⟨xb,0,none⟩,.slice none 0 0,.int .i64 sn,ptr ⟨fb,0,none⟩,ptr ⟨tb,0,none⟩,af,af,af,af,af,ptr ⟨xb,0,none⟩,ptr ⟨xb,0,none⟩,ptr ⟨xb,13,none⟩,sent,.int .i64 sn,.chan (some c0),.chan (some c1),af,af,af,af,af,af,af,af,af,af,af,af,af,af,af,af,af,af,af,af,af,af,af,af,af,af,af,af,af,af,af,af,af,af,af,af,af,af,af,af,af,af,af,af,af,af,af,af,af,af,af,af,af],[]⟩∧Chan c0 W'∧Chan c1 W'∧W'.heap[fb]?=some (.cells #[.chan (some c0)] 188 (0,0))∧W'.heap[tb]?=some (.cells #[.chan (some c1)] 189 (0,0))∧c0≠c1∧W.heap.size≤c0∧W.heap.size≤c1∧W.heap.size≤fb∧W.heap.size≤tb∧az W.heap.size W W'
theorem pR2:gR2.wp aq (fun e a W'=>e=.normal∧Q2 b men sent marks all xb sn W a W') ⟨#[.agg (b.open men sent marks all),ptr ⟨xb,0,none⟩,.slice none 0 0,.int .i64 sn,af,af,af,af,af,af,af,ptr ⟨xb,0,none⟩,ptr ⟨xb,0,none⟩,ptr ⟨xb,13,none⟩,sent,.int .i64 sn,af,af,af,af,af,af,af,af,af,af,af,af,af,af,af,af,af,af,af,af,af,af,af,af,af,af,af,af,af,af,af,af,af,af,af,af,af,af,af,af,af,af,af,af,af,af,af,af,af,af,af,af,af,af,af],[]⟩ W:=by
 have akO:∀w,(Instr.makeChan 188 (.int .i64 0)).run aq w=.ok (.chan (some w.heap.size)) (w.alloc (.chan 0 #[] false 0 0 false)):=fun w=>by kernel_rfl
 have akN:∀w,(Instr.makeChan 189 (.int .i64 0)).run aq w=.ok (.chan (some w.heap.size)) (w.alloc (.chan 0 #[] false 0 0 false)):=fun w=>by kernel_rfl
 simp only[gR2,gM,qI,kq,sL,sR]
 go_region
 all_goals refine⟨rfl,_,_,_,_,rfl,?_,?_,?_,?_,by omega,by omega,by omega,by omega,by omega,(Xe W _ _ _ _).2.2.2.2⟩
 all_goals first
  |exact⟨0,false,(Xe W _ _ _ _).1⟩
  |exact⟨0,false,(Xe W _ _ _ _).2.1⟩
  |exact⟨0,false,(Xe W _ _ _ _).2.2.1⟩
  |exact⟨0,false,(Xe W _ _ _ _).2.2.2.1⟩
  |exact(Xe W _ _ _ _).1
  |exact(Xe W _ _ _ _).2.1
  |exact(Xe W _ _ _ _).2.2.1
  |exact(Xe W _ _ _ _).2.2.2.1
theorem pR3:gR3.wp aq (fun e a W'=>e=.normal∧a=⟨#[.agg (b.open men sent marks all),ptr ⟨xb,0,none⟩,.slice none 0 0,.int .i64 sn,ptr ⟨fb,0,none⟩,ptr ⟨tb,0,none⟩,.int .i64 0,af,af,af,af,ptr ⟨xb,0,none⟩,ptr ⟨xb,0,none⟩,ptr ⟨xb,13,none⟩,sent,.int .i64 sn,.chan (some c0),.chan (some c1),af,af,af,af,af,af,af,af,af,af,af,af,af,af,af,af,af,af,af,af,af,af,af,af,af,af,af,af,af,af,af,af,af,af,af,af,af,af,af,af,af,af,af,af,af,af,af,af,af,af,af,af,af],[]⟩∧W'=W) ⟨#[.agg (b.open men sent marks all),ptr ⟨xb,0,none⟩,.slice none 0 0,.int .i64 sn,ptr ⟨fb,0,none⟩,ptr ⟨tb,0,none⟩,af,af,af,af,af,ptr ⟨xb,0,none⟩,ptr ⟨xb,0,none⟩,ptr ⟨xb,13,none⟩,sent,.int .i64 sn,.chan (some c0),.chan (some c1),af,af,af,af,af,af,af,af,af,af,af,af,af,af,af,af,af,af,af,af,af,af,af,af,af,af,af,af,af,af,af,af,af,af,af,af,af,af,af,af,af,af,af,af,af,af,af,af,af,af,af,af,af],[]⟩ W:=by
 simp only[gR3,gM,qI,kq,sL,sR];go_wp2
theorem pR4:gR4.wp aq (fun e a W'=>e=.normal∧a=⟨#[.agg (b.open men sent marks all),ptr ⟨xb,0,none⟩,.slice none 0 0,.int .i64 sn,ptr ⟨fb,0,none⟩,ptr ⟨tb,0,none⟩,.int .i64 0,af,af,af,af,ptr ⟨xb,0,none⟩,ptr ⟨xb,0,none⟩,ptr ⟨xb,13,none⟩,sent,.int .i64 sn,.chan (some c0),.chan (some c1),.int .i64 0,af,af,af,af,af,af,af,af,af,af,af,af,af,af,af,af,af,af,af,af,af,af,af,af,af,af,af,af,af,af,af,af,af,af,af,af,af,af,af,af,af,af,af,af,af,af,af,af,af,af,af,af],[]⟩∧W'=W) ⟨#[.agg (b.open men sent marks all),ptr ⟨xb,0,none⟩,.slice none 0 0,.int .i64 sn,ptr ⟨fb,0,none⟩,ptr ⟨tb,0,none⟩,.int .i64 0,af,af,af,af,ptr ⟨xb,0,none⟩,ptr ⟨xb,0,none⟩,ptr ⟨xb,13,none⟩,sent,.int .i64 sn,.chan (some c0),.chan (some c1),af,af,af,af,af,af,af,af,af,af,af,af,af,af,af,af,af,af,af,af,af,af,af,af,af,af,af,af,af,af,af,af,af,af,af,af,af,af,af,af,af,af,af,af,af,af,af,af,af,af,af,af,af],[]⟩ W:=by
 simp only[gR4,gM,qI,kq,sL,sR];go_wp2
end
end Go.Proofs.YtffladgmkiimjaaGreatDoor
namespace Go.Lag
open Go.Conc
section
variable{P:aI}
def Xu(b:bL)(k:List oO)(cs:List bL):Exit→je→aB→Prop
 |.normal,a,g=>g=G (b.at a k) cs
 |.exit id,a,g=>∃k',exitTo id k=some k'∧g=G (b.at a k') cs
 |.ret,a,g=>∃todo,g=G { b.at a todo with mode:=.returning } cs
 |_,_,_=>False
def sB:Exit→Bool
 |.normal|.exit _|.ret=>true
 |_=>false
def Ux(Q:Exit→je→ar→Prop)(k:List oO):Prop:=∀id a w,Q (.exit id) a w→∃k',exitTo id k=some k'
def nt(P:aI)(c:gI)(Q:Exit→je→ar→Prop)(a:je)(W:ar):Prop:=
 ∀(b:bL) (k:List oO) (cs:List bL),b.kind≠.early→Ux Q k→iU P (fun g' W'=>∃e a' τ d,Q e a' (dx W' τ d)∧Xu b k cs e a' g') (G (b.at a (.code c::k)) cs) W
def ey(P:aI)(ops:Array cy)(Q:Exit→je→ar→Prop)(l:List Nat)(a:je)(W:ar):Prop:=
 ∀(b:bL) (k:List oO) (cs:List bL),b.kind≠.early→Ux Q k→iU P (fun g' W'=>∃e a' τ d,Q e a' (dx W' τ d)∧Xu b k cs e a' g') (G (b.at a (.inRegion ops l::k)) cs) W
variable{Q Q':Exit→je→ar→Prop}{a:je}{W:ar}{b:bL}{k:List oO}{cs:List bL}
theorem yF(T:Quiet P){m:List oO}(hb:b.kind≠.early)(hL:Ux Q k)(hQ:∀e a w,Q e a w→sB e=true)
  (h:∀τ,∃e a' w',Q e a' w'∧Arrives P (lone (b.at a m) cs (dx W τ 0)) b k cs e a' w') :
  iU P (fun g' W'=>∃e a' τ d,Q e a' (dx W' τ d)∧Xu b k cs e a' g') (G (b.at a m) cs) W:=by
 refine(BF T (Q:=fun fr' W'=>∃e a',Q e a' W'∧Xu b k cs e a' (G fr' cs)) fun τ=>?_).mono ?_
 ·obtain⟨e,a',w',hq,harr⟩:=h τ;have hf:=hQ _ _ _ hq;cases e with
  |normal=>exact⟨_,w',harr,_,a',hq,rfl⟩
  |exit id=>
   obtain⟨k',hk⟩:=hL id _ _ hq;exact⟨_,w',harr k' hk,_,a',hq,k',hk,rfl⟩
  |ret=>
   obtain⟨todo,hs⟩:=harr;exact⟨_,w',hs,_,a',hq,todo,rfl⟩
  |goto l=>cases hf
  |panic c=>cases hf
  |outgrown=>cases hf
 ·rintro g' W' _ ⟨fr',τ,d,rfl,e,a',hq,harr⟩;exact⟨e,a',τ,d,hq,harr⟩
theorem kO(T:Quiet P){c:gI}(hQ:∀e a w,Q e a w→sB e=true)(h:∀τ d,c.wp P Q a (dx W τ d)):nt P c Q a W:=fun b k cs hb hL=>
 yF T hb hL hQ fun τ=>h τ 0 b k cs
theorem qM(T:Quiet P){ops:Array cy}{l:List Nat}(hQ:∀e a w,Q e a w→sB e=true)(h:∀τ d,wpOps P ops Q l a (dx W τ d)):ey P ops Q l a W:=fun b k cs hb hL=>
 yF T hb hL hQ fun τ=>wp_ops l a _ (h τ 0) b k cs
theorem Vc{c:gI}{τ:Nat→Question→Nat}{d:Nat}(h:nt P c Q a (dx W τ d)):nt P c Q a W:=fun b k cs hb hL=>(h b k cs hb hL).ofT
theorem jF(T:Quiet P){R:aB→ar→Prop}{fr fr':bL}(h:∀w,step P (lone fr cs w)=.next (lone fr' cs w))(hk:iU P R (G fr' cs) W):iU P R (G fr cs) W:=
 (xm T (τ:=W.tape) (d:=W.drawn) (rA (h _))).bind fun g' W' hs hq=>by
  obtain⟨rfl,τ,d,rfl⟩:=hq;exact hk.Qf τ d
theorem j7(T:Quiet P){x y:gI}(h:nt P x (Exit.then (fun a w=>nt P y Q a w) Q) a W):nt P (.seq x y) Q a W:=by
 intro b k cs hb hL;refine jF T (fun w=>step_seq) ?_;refine(h b (.code y::k) cs hb fun id a w hq=>hL id a w hq).bind fun g' W' hs hq=>?_;obtain⟨e,a',τ,d,hq,harr⟩:=hq;cases e with
 |normal=>
  subst harr;exact(hq b k cs hb hL).ofT
 |exit id=>
  obtain⟨k',hk,rfl⟩:=harr;exact .here ⟨.exit id,a',τ,d,hq,k',hk,rfl⟩
 |ret=>
  obtain⟨todo,rfl⟩:=harr;exact .here ⟨.ret,a',τ,d,hq,todo,rfl⟩
 |goto l=>exact harr.elim
 |panic c=>exact harr.elim
 |outgrown=>exact harr.elim
theorem Px(T:Quiet P){x y:gI}(hQ:∀e a w,e≠.normal→Q e a w→sB e=true)(h:∀τ d,x.wp P (Exit.then (fun a w=>nt P y Q a w) Q) a (dx W τ d)):nt P (.seq x y) Q a W:=
 j7 T (kO T (fun e a w hq=>by cases e<;>first|rfl|exact hQ _ _ _ (by simp) hq) h)
theorem ot(T:Quiet P){c:bH}{x y:gI}{t:Bool}(hc:a.eval c=.bool t)(h:nt P (if t then x else y) Q a W):nt P (.cond c x y) Q a W:=fun b k cs hb hL=>
 jF T (fun w=>step_cond hc) (h b k cs hb hL)
theorem sT(T:Quiet P){id:Nat}{ops:Array cy}(h:ey P ops Q (aT ops.size) a W):nt P (.region id ops false) Q a W:=fun b k cs hb hL=>
 jF T (fun w=>step_region) (h b k cs hb hL)
theorem SA{ops:Array cy}{i:Nat}{rest:List Nat}{o:cy}(ho:ops[i]?=some o){w:ar}(hw:cC o (jP ops a.tmps)=true){next:je→ar→Prop}
  (h:o.wp P a w next fun _ _ _=>False):∃a' w',next a' w'∧Steps P (lone (b.at a (.inRegion ops (i::rest)::k)) cs w) (lone (b.at a' (.inRegion ops rest::k)) cs w'):=by
 simp only[Oper.wp,Oper.upon] at h;have hg:=stepG_op (P:=P) (b:=b) (k:=k) (cs:=cs) (w:=w) (rest:=rest) ho hw
 have pE:∀v,(b.at a (.inRegion ops (i::rest)::k)).finish v=b.at (a.put o.dst v) (.inRegion ops rest::k):=by
  intro v;rw[Frame.finish_at,ho];rfl
 split at h
 ·rename_i v w' hr;refine⟨_,_,h,.one (step_lone_go ?_)⟩;rw[hg,←pE];simp[dZ,hr]
 ·rename_i w' hr;refine⟨_,_,h,.one (step_lone_go ?_)⟩;rw[hg,←pE];simp[dZ,hr]
 ·rename_i d w' hr;refine⟨_,_,h,.one (step_lone_go ?_)⟩
  have:({ b.at a (.inRegion ops (i::rest)::k) with defers:=d::a.defers }:bL).finish af =
    b.at ({ a with defers:=d::a.defers }.put o.dst af) (.inRegion ops rest::k):=by
   have:=Frame.finish_at b { a with defers:=d::a.defers } ops i rest k af;rw[ho] at this;exact this
  rw[hg];simp only[dZ,Sem.runT_eq,hr,GStep.bare_after];exact congrArg (fun fr=>GStep.go { frame:=fr,callers:=cs,status:=.running,dying:=none } w') this
 ·rename_i f args w' hr;obtain⟨e,w'',fr,hR,Na,_,Zj⟩:=h (b.at a (.inRegion ops (i::rest)::k)::cs)
  have tu:step P (lone (b.at a (.inRegion ops (i::rest)::k)) cs w)=.next (lone (eh P f args .normal) (b.at a (.inRegion ops (i::rest)::k)::cs) w'):=
   step_lone_go (by rw[hg];simp[dZ,hr,Frame.at])
  cases e with
  |returned v=>
   refine⟨_,_,hR,.head tu (Na.trans (.one ?_))⟩;rw[←pE];exact step_leave_returned Zj
  |panicked chain=>exact hR.elim
  |outgrown=>obtain⟨_,_,h0⟩:=hR;exact h0.elim
 ·rename_i row args w' hr;obtain⟨v,w'',hR,Na⟩:=h (b.at a (.inRegion ops (i::rest)::k)) cs
  have tu:step P (lone (b.at a (.inRegion ops (i::rest)::k)) cs w)=.next (lone (Frame.ofRow P row args .normal) (b.at a (.inRegion ops (i::rest)::k)::cs) w'):=
   step_lone_go (by rw[hg];simp[dZ,hr,Frame.at])
  refine⟨_,_,hR,.head tu ?_⟩;rw[←pE];exact Na
 ·exact h.elim
 ·exact h.elim
theorem fR(T:Quiet P){ops:Array cy}{i:Nat}{rest:List Nat}{o:cy}(ho:ops[i]?=some o)(hw:cC o (jP ops a.tmps)=true)
  (h:∀τ d,o.wp P a (dx W τ d) (fun a' w'=>ey P ops Q rest a' w') fun _ _ _=>False):ey P ops Q (i::rest) a W:=by
 intro b k cs hb hL;refine(BF T (Q:=fun fr' W'=>∃a',fr'=b.at a' (.inRegion ops rest::k)∧ey P ops Q rest a' W') fun τ=>?_).bind ?_
 ·obtain⟨a',w',hn,hs⟩:=SA (b:=b) (k:=k) (cs:=cs) (rest:=rest) ho hw (h τ 0);exact⟨_,w',hs,a',rfl,hn⟩
 ·rintro g' W' _ ⟨fr',τ,d,rfl,a',rfl,hn⟩;exact(hn b k cs hb hL).ofT
theorem JL(T:Quiet P){ops:Array cy}{i:Nat}{rest:List Nat}{o:cy}(ho:ops[i]?=some o)(hw:cC o (jP ops a.tmps)=false)(h:ey P ops Q rest (a.put o.dst af) W):ey P ops Q (i::rest) a W:=by
 intro b k cs hb hL;refine jF T (fun w=>step_op_skip (by simp[ho,hw])) ?_;have e:(ops[i]?).bind (·.dst)=o.dst:=by rw[ho];rfl
 rw[e];exact h b k cs hb hL
theorem qN(T:Quiet P){ops:Array cy}{i:Nat}{rest:List Nat}{o:cy}(ho:ops[i]?=some o)(hw:cC o (jP ops a.tmps)=true){f:dR}{args:Array aj}(he:∀w,(bY a.eval o).run P w=.ok (.enter f args) w)
  {R:aj→ar→Prop} (hc:iV P f args W R) (h:∀v W',W.heap.size≤W'.heap.size→R v W'→ey P ops Q rest (a.put o.dst v) W'):ey P ops Q (i::rest) a W:=by
 intro b k cs hb hL
 have tu:∀w,step P (lone (b.at a (.inRegion ops (i::rest)::k)) cs w)=.next (lone (eh P f args .normal) (b.at a (.inRegion ops (i::rest)::k)::cs) w):=fun w=>by
  have hg:=stepG_op (P:=P) (b:=b) (k:=k) (cs:=cs) (w:=w) (rest:=rest) ho hw;exact step_lone_go (by rw[hg];simp[dZ,he w,Frame.at])
 refine(xm T (τ:=W.tape) (d:=W.drawn) (rA (tu _))).bind fun g' W' hs hq=>?_;obtain⟨rfl,τ,d,rfl⟩:=hq;refine iU.Qf ?_ τ d;refine(hc (b.at a (.inRegion ops (i::rest)::k)::cs)).bind fun g2 W2 hs2 UZ=>?_;obtain⟨fr,v,τ2,d2,rfl,hv,hfn,hl⟩:=UZ;refine(Ig T hl).bind fun g3 W3 hs3 hq3=>?_;obtain⟨rfl,τ3,d3,rfl⟩:=hq3
 have pE:(b.at a (.inRegion ops (i::rest)::k)).finish v=b.at (a.put o.dst v) (.inRegion ops rest::k):=by
  rw[Frame.finish_at,ho];rfl
 rw[pE];exact iU.Qf (h v W2 hs2 hv b k cs hb hL) τ3 d3
def Gx(P:aI)(fn:Func)(R:aj→ar→Prop):Exit→je→ar→Prop
 |.normal,a,w|.ret,a,w=>a.defers=[]∧∃v,(results fn a.tmps).run P w=.ok v w∧R v w
 |_,_,_=>False
theorem a7{fn:Func}{R:aj→ar→Prop}:∀e a w,Gx P fn R e a w→sB e=true:=fun e a w h=>by cases e<;>first|rfl|exact h.elim
theorem xp{fn:Func}{R:aj→ar→Prop}{c:gI}{w:ar}(h:c.wp P (bodyPost P fn fun e w'=>∃v,e=.returned v∧R v w') a w):c.wp P (Gx P fn R) a w:=by
 refine A8 h fun e a w hq=>?_;cases e with
 |normal=>obtain⟨h1,v,h2,v',h3,h4⟩:=hq;cases h3;exact⟨h1,v,h2,h4⟩
 |ret=>obtain⟨h1,v,h2,v',h3,h4⟩:=hq;cases h3;exact⟨h1,v,h2,h4⟩
 |panic chain=>obtain⟨_,v,h3,_⟩:=hq;cases h3
 |exit id=>exact hq.elim
 |goto l=>exact hq.elim
 |outgrown=>obtain⟨v,h3,_⟩:=hq;cases h3
theorem kx(T:Quiet P){f:dR}{fn:Func}{c:gI}{args:Array aj}{R:aj→ar→Prop}(hf:P.funcs[f]?=some fn)(hb:fn.body=some c)(hR:∀v W' τ d,R v (dx W' τ d)→R v W')
  (h:nt P c (Gx P fn R) { tmps:=args++aV (fn.ntmps-args.size) af,defers:=[] } W):iV P f args W R:=by
 intro cs;let b:Frame:={ (default:bL) with fn:=f,kind:=.normal }
 have tu:eh P f args .normal=b.at { tmps:=args++aV (fn.ntmps-args.size) af,defers:=[] } [.code c]:=by
  simp[eh,Frame.at,hf,hb,b]
 rw[tu];refine(h b [] cs (by simp[b]) fun id a w hq=>hq.elim).bind fun g' W' hs hq=>?_;obtain⟨e,a',τ,d,hq,harr⟩:=hq;cases e with
 |normal=>
  subst harr;obtain⟨hd,v,hr,hv⟩:=hq;refine jF T (fun w=>step_end) (.here ⟨_,v,τ,d,rfl,hR _ _ _ _ hv,rfl,rfl,hd,rfl,fn,hf,hr⟩)
 |ret=>
  obtain⟨todo,rfl⟩:=harr;obtain⟨hd,v,hr,hv⟩:=hq;exact .here ⟨_,v,τ,d,rfl,hR _ _ _ _ hv,rfl,rfl,hd,rfl,fn,hf,hr⟩
 |exit id=>exact harr.elim fun _ h=>hq.elim
 |goto l=>exact harr.elim
 |panic c=>exact harr.elim
 |outgrown=>exact harr.elim
end
structure Old(W W':ar):Prop where
 os:W'.os=W.os
 output:W'.output=W.output
 size:W.heap.size≤W'.heap.size
 block:∀k,k<W.heap.size→W'.heap[k]?=W.heap[k]?
theorem Old.refl(W:ar):Old W W:=⟨rfl,rfl,ax _,fun _ _=>rfl⟩
theorem Old.trans{a b c:ar}(h:Old a b)(k:Old b c):Old a c:=⟨k.os.trans h.os,k.output.trans h.output,aN h.size k.size,fun i hi=>(k.block i (bB hi h.size)).trans (h.block i hi)⟩
theorem Old.of_below{W W':ar}(h:RowKit.Below W.heap.size W W'):Old W W':=⟨h.os,h.output,h.size,h.block⟩
theorem Old.Qf{W W':ar}(h:Old W W')(τ:Nat→Question→Nat)(d:Nat)(τ':Nat→Question→Nat)(d':Nat):Old (dx W τ d) (dx W' τ' d'):=⟨h.os,h.output,h.size,h.block⟩
theorem Old.cell{W W':ar}(h:Old W W'){a:cU}(ha:a.block<W.heap.size):W'.cell? a=W.cell? a:=iK (h.block _ ha)
theorem yx[uq]{W w:ar}(V:jk W w){k:Nat}{o:Obj}(h:W.heap[k]?=some o)(ho:fO o=true):w.heap[k]?=some o:=by
 rcases V.at_ k with e|⟨e,_⟩
 ·rw[←e];exact h
 ·rw[e] at h;cases h;cases ho
theorem S6[K:uq]{W w w':ar}(V:jk W w)(cN:dB W)(os:w'.os=w.os)(out:w'.output=w.output)(sz:w.heap.size≤w'.heap.size)(n:Nat)(hκ:∀b o,b<W.heap.size→w'.heap[b]?=some o→fO o=false→w.heap[b]?=some o)(hk:∀k,k<n→w'.heap[k]?=w.heap[k]?) :
  ∃W',jk W' w'∧dB W'∧W'.os=W.os∧W'.output=W.output∧W.heap.size≤W'.heap.size∧(∀k,k<n→k<W.heap.size→W'.heap[k]?=W.heap[k]?)∧∀(b:Nat) (o:Obj),w'.heap[b]?=some o→fO o=true→W'.heap[b]?=some o:=by
 obtain⟨W',hV,rC,_,_,m7⟩:=BV w' fun b x h=>⟨by have:=V.old b x h;have:=V.size;omega,fun o h1 h2=>by
  have h3:=V.old b x h;replace h1:=hκ b o h3 h1 h2
  have h4:W.heap[b]?=some (.coro none):=by
   rcases V.at_ b with e|⟨e,_⟩
   ·rw[h1] at e;rcases cN b o e with h5|h5
    ·rw[h5] at h2;cases h2
    ·rw[e,h5]
   ·exact e
  have h5:=V.kept b x h h4
  rw[h1] at h5;exact bg h5⟩
 refine⟨W',hV,rC,hV.os.trans (os.trans V.os.symm),hV.out.trans (out.trans V.out.symm),by rw[hV.size,V.size];exact sz,fun k qq hk2=>?_,m7⟩;have sS:=hk k qq;obtain⟨o,ho⟩:∃o,W.heap[k]?=some o:=⟨_,aM hk2⟩
 rw[ho];rcases cN k o ho with h1|rfl
 ·exact m7 k o (by rw[sS];exact yx V ho h1) h1
 ·
  rcases V.at_ k with e|⟨_,x,hx,kI⟩
  ·have hw':w'.heap[k]?=some (.coro none):=by rw[sS,←e];exact ho
   rcases hV.at_ k with e2|⟨e2,_⟩
   ·rw[e2];exact hw'
   ·exact e2
  ·have hw':w'.heap[k]?=some x:=by rw[sS];exact hx
   rcases hV.at_ k with e2|⟨e2,_⟩
   ·rw[hw'] at e2;rcases rC k x e2 with h|h
    ·rw[h] at kI;cases kI
    ·rw[e2,h]
   ·exact e2
section
variable{P:aI}{b:bL}{k:List oO}{cs:List bL}{W:ar}{R:aB→ar→Prop}
theorem oy(T:Quiet P){c:gI}{a:je}(hb:b.kind≠.early){Q:je→ar→Prop}(h:∀τ d,c.wp P (fun e a W'=>e=.normal∧Q a W') a (dx W τ d))
  (hk:∀a' W' τ d,Q a' (dx W' τ d)→iU P R (G (b.at a' k) cs) W'):iU P R (G (b.at a (.code c::k)) cs) W:=by
 refine(yF T (m:=.code c::k) (Q:=fun e a W'=>e=.normal∧Q a W') hb (fun id a w hq=>by cases hq.1) (fun e a w hq=>by rw[hq.1];rfl) fun τ=>h τ 0 b k cs).bind fun g' W' hs hq=>?_;obtain⟨e,a',τ,d,⟨rfl,hq⟩,harr⟩:=hq;subst harr;exact hk a' W' τ d hq
end
end Go.Lag
namespace Go.Lag
open Go Go.Conc Go.RowKit Go.ChangeShapes
section
variable{H:Type}{enc:aZ × aj→H}
theorem Kz{a:Assume}{C:Checked}{os:Os}{f:dR}{fn:Func}{s:ChangeSpec}{conds:List PathCond}{apart fresh handsOn again:Bool}{X:ar→Array aj→Prop}
  (hX:∀(w w':ar) (args:Array aj),w.heap=w'.heap→X w args→X w' args)
  (own:ownKnob C.prog.godebug=none) (started:os.Started) (hfn:C.prog.funcs[f]?=some fn)
  (witness:∃(w:ar) (tape:Tape) (i:Input),w.os=os∧(w.forCall tape i).Shaped C.prog∧i.vars=[]∧Input.okWide C.prog (w.forCall tape i) .any w.heap.size f i∧
   ((s.pre enc C.prog fn conds apart (w.forCall tape i).memory i.args∧X (w.forCall tape i).memory i.args)∧sizedMet enc C.prog fn (OpenSpec.ofChange s) apart (w.forCall tape i).memory i.args)∧a.holds C.prog (lone (eh C.prog f i.args .normal) [] (w.forCall tape i)))
  (runs:∀(W:ar) (base:Nat) (args:Array aj) (ds gs:List (DataW H)) (before:List MemPlace),
   (∀(j:Nat) t v,fn.params[j]?=some t→args[j]?=some v→Value.okWide C.prog W .any base t v)→
   DataW.Whole enc C.prog fn.params.toList s.vars apart W args.toList ds gs before→X W args→
   ∃M last o w' t',runNT C.prog (M+1) (solo (G (eh C.prog f args .normal) []) W) #[]=(.ended o w',t')∧runN C.prog M (solo (G (eh C.prog f args .normal) []) W)=.next last∧
    step C.prog last=.ended o w'∧Conc.Good C.prog (fun v W'=>s.post enc C.prog fn apart fresh handsOn again W args v W') last o w' t') :
  ReturnsInLeavingWide a C os f .any (fun w args=>(s.pre enc C.prog fn conds apart w args∧X w args)∧sizedMet enc C.prog fn (OpenSpec.ofChange s) apart w args) (s.post enc C.prog fn apart fresh handsOn again):=by
 refine returnsInLeavingWide_of_good own started witness ?_;intro w tape i _ _ _ cN hpre af6;obtain⟨_,_,_,fn',agd,_,_,_,_,hval⟩:=cN;have e:fn'=fn:=bg (agd.symm.trans hfn);subst e;obtain⟨⟨⟨ds,gs,before,hw,hc⟩,hx⟩,hz⟩:=hpre;have hw':=DataW.Whole.of_heap (w':=w.forCall tape i) (by rfl) hw;obtain⟨M,last,o,w',t',h1,h2,h3,h4⟩:=runs (w.forCall tape i) w.heap.size i.args ds gs before hval hw' (hX _ _ _ (by rfl) hx);exact⟨M,last,o,w',t',h1,h2,h3,h4.mono fun v hp=>ChangeSpec.post_blind hp⟩
theorem wJ{P:aI}(hl:laidOutB P=true){W W':ar}(hb:az W.heap.size W W'):∀ {ts:List aZ} {vs:List aj} {ds:List (DataW H)} {p:List MemPlace},(∀t∈ts,P.readableRec t=true∧t<P.types.size)→(∀x∈p,x.block<W.heap.size)→
  DataW.TrodAll enc P W 0 (fun _=>true) true ts vs ds p→DataW.TrodAll enc P W' 0 (fun b=>decide (b<W.heap.size)) true ts vs ds p
 |[],[],[],p,_,_,h=>h
 |t::ts,v::vs,d::ds,ps,ht,hp,h=>by
  obtain⟨p,q,h1,h2,rfl⟩:=h;exact⟨p,q,Below.trod hl (ht t (by simp)).1 (ht t (by simp)).2 h1 hb fun x hx=>hp x (by simp[hx]),wJ hl hb (fun t h=>ht t (by simp[h])) (fun x hx=>hp x (by simp[hx])) h2,rfl⟩
 |[],[],_::_,_,_,_,h=>h.elim
 |[],_::_,_,_,_,_,h=>h.elim
 |_::_,[],_,_,_,_,h=>h.elim
 |_::_,_::_,[],_,_,_,h=>h.elim
theorem Si{P:aI}{fn:Func}{s:ChangeSpec}{apart:Bool}{W w':ar}{args:Array aj}{ds gs:List (DataW H)}{before:List MemPlace}{tb:aZ}(hl:laidOutB P=true)(XE:s.vars=[])(Wb:∀t∈fn.params.toList,P.readableRec t=true∧t<P.types.size)
  (hres:fn.resultTypes = #[tb]) (ac4:P.underlying tb=some .bool) (hW:DataW.Whole enc P fn.params.toList s.vars apart W args.toList ds gs before) (hfn:∀ds':List (DataW H),ds'.length=fn.params.size→s.fn H ds'={ results:=[.lit (.bool true)],args:=ds' })
  (hlen:ds.length=fn.params.size) (hb:az W.heap.size W { w' with tape:=W.tape }):s.post enc P fn apart true false false W args (aF true) w':=by
 refine ChangeSpec.post_alike (W'':={ w' with tape:=W.tape }) ?_ ⟨rfl,rfl,rfl⟩;have hW':=hW;obtain⟨p,q,hA,hV,rfl,_,_⟩:=hW
 have qs:gs=[]∧q=[]:=by
  rw[XE] at hV;cases gs with
  |nil=>exact⟨rfl,hV⟩
  |cons=>exact hV.elim
 obtain⟨rfl,rfl⟩:=qs;have hlt:∀x∈p,x.block<W.heap.size:=fun x hx=>hW'.lt x (by simp[hx]);refine⟨ds,[],p++[],[],p,[],hW',?_,?_,?_,hb.frame _,fun h=>by cases h⟩
 ·rw[List.append_nil,hfn ds hlen,hres];exact trodAll_mk1 (shut_bool ac4 _)
 ·rw[List.append_nil,hfn ds hlen];exact wJ hl hb Wb hlt hA
 ·rw[List.append_nil,hfn ds hlen,XE];rfl
end
theorem Du{P:aI}(T:Quiet P){f:dR}{args:Array aj}{v0:aj}(hi:P.inits.idxOf? f=none)(W:ar)
  (h:∀Wk:ar,Wk.heap.size=W.heap.size→(∀(b:Nat) (o:Obj),W.heap[b]?=some o→fO o=true→Wk.heap[b]?=some o)→iV P f args Wk fun v W'=>v=v0∧Old Wk W') :
  ∃M last o w' t',runNT P (M+1) (solo (G (eh P f args .normal) []) W) #[]=(.ended o w',t')∧runN P M (solo (G (eh P f args .normal) []) W)=.next last∧
   step P last=.ended o w'∧Conc.Good P (fun v w'=>v=v0∧az W.heap.size W { w' with tape:=W.tape }) last o w' t':=by
 letI K:uq:=⟨fun b=>W.heap[b]?⟩
 obtain⟨Wk,V,cN,-,-,hk⟩:=BV W fun b x hx=>⟨(ak.1 hx).1,fun o ho _=>bg (ho.symm.trans hx)⟩
 obtain⟨M,last,o,w',t',h1,h2,h3,h4⟩:=EE T hi (h Wk V.size hk) cN V;refine⟨M,last,o,w',t',h1,h2,h3,h4.mono ?_⟩;rintro v ⟨W',⟨rfl,hold⟩,V',-,hs⟩;refine⟨rfl,V'.os.symm.trans (hold.os.trans V.os),rfl,V'.out.symm.trans (hold.output.trans V.out),?_,fun b hb=>?_⟩
 ·show W.heap.size≤w'.heap.size;rw[←V'.size,←V.size];exact hold.size
 ·show w'.heap[b]?=W.heap[b]?;obtain⟨o,ho⟩:∃o,W.heap[b]?=some o:=⟨_,aM hb⟩
  have sw:=hold.block b (by rw[V.size];exact hb);have XV:W'.heap[b]?=some (.coro none)→w'.heap[b]?=W.heap[b]?:=fun e=>(V'.kept b o ho e).trans ho.symm;rcases V.at_ b with e|⟨e,-⟩
  ·rcases V'.at_ b with e'|⟨e',-⟩
   ·rw[←e',sw,e]
   ·exact XV e'
  ·exact XV (sw.trans e)
end Go.Lag
namespace Go.Proofs.YtffladgmkiimjaaGreatDoor
open Go Go.RowKit Go.Lag Go.ChangeShapes
theorem Tryz.own:ownKnob Tryz.prog.godebug=none:=by kernel_rfl
theorem Tryz.laidOut:laidOutB aq=true:=by kernel_rfl
theorem T8(os:Os)(args:Array aj):laidMetH aq KB ((World.doorLaid aq 400 os).forCall (fun _ _=>0) ⟨#[],args,[]⟩).memory:=
 laidMetH_of_parts3 (fuel:=8) (laidMet_of_run' 8 (by kernel_rfl) (by kernel_rfl)) (by kernel_rfl) (by kernel_rfl)
end Go.Proofs.YtffladgmkiimjaaGreatDoor
namespace Go.Proofs.YtffladgmkiimjaaGreatDoor
open Go Go.RowKit Go.Lag Go.ChangeShapes Go.Conc
theorem OP{W:ar}{base:Nat}{t:aZ}{k:IntKind}{v:aj}(ht:Tryz.prog.underlying t=some (.int k))(h:Value.okWide aq W .any base t v):∃x,v=.int k x∧k.has x:=by
 unfold Value.okWide at h;rw[ht] at h;exact S8 ht h
theorem pZ{W Wk:ar}(hk:∀(b:Nat) (o:Obj),W.heap[b]?=some o→fO o=true→Wk.heap[b]?=some o){a:cU}{v:aj}(h:W.cell? a=some v):Wk.cell? a=some v:=by
 unfold dH at h ⊢;cases e:W.heap[a.block]? with
 |none=>rw[e] at h;simp at h
 |some o=>
  rw[e] at h;cases o<;>simp only[] at h<;>first|(rw[hk _ _ e rfl];exact h)|(cases h)
theorem Laid.kill{W Wk:ar}(h:Laid W)(hs:Wk.heap.size=W.heap.size)(hk:∀(b:Nat) (o:Obj),W.heap[b]?=some o→fO o=true→Wk.heap[b]?=some o):Laid Wk:=
 ⟨pZ hk h.c0,pZ hk h.c1,pZ hk h.c2,pZ hk h.c3,pZ hk h.c4,by rw[hs];exact h.lt⟩
theorem Reads.kill{W Wk:ar}{v:aj}{n:Nat}{xs:List aj}(h:Reads W v n xs)(hs:Wk.heap.size=W.heap.size)(hk:∀(b:Nat) (o:Obj),W.heap[b]?=some o→fO o=true→Wk.heap[b]?=some o):Reads Wk v n xs:=by
 rcases h with h|⟨g,off,cap,h1,h2,h3,h4⟩
 ·exact .inl h
 ·exact .inr ⟨g,off,cap,h1,h2,by rw[hs];exact h3,fun j u hj=>pZ hk (h4 j u hj)⟩
theorem SliceAt.lit{W:ar}{v:aj}(h:SliceAt W v):∃p n c,v=.slice p n c:=by
 rcases h with h|⟨g,off,n,c,h,-⟩
 ·exact⟨_,_,_,h⟩
 ·exact⟨_,_,_,h⟩
theorem YP{H:Type}{enc:aZ × aj→H}{W:ar}{b:BB}{m s k:aj}{d:DataW H}{p:List MemPlace}(h:DataW.Trod enc aq W 0 (fun _=>true) true 28 (.agg (b.cells m s k)) d p)(hm:SliceAt W m) :
  (∃p1 n1 c1,m=.slice p1 n1 c1∧20<n1)∨∃(p1:Option cU) (c1:Nat) (ml:List Mn),m=.slice p1 ml.length c1∧Reads W m ml.length (dS ml):=by
 obtain⟨fuel,ht⟩:=h;obtain⟨⟨n,y,hf⟩,-,-⟩:=NN ht;rcases hm with rfl|⟨g,off,n1,c1,rfl,FM,hg⟩
 ·exact .inr ⟨none,0,[],rfl,.inl ⟨rfl,rfl,rfl⟩⟩
 ·by_cases hb:20<n1
  ·exact .inl ⟨_,_,_,rfl,hb⟩
  ·obtain⟨ml,hl,hr⟩:=P1 FM hg (by omega) (SN FM hf);subst hl;exact .inr ⟨_,_,ml,rfl,hr⟩
end Go.Proofs.YtffladgmkiimjaaGreatDoor
namespace Go.Proofs.YtffladgmkiimjaaGreatDoor
open Go.RowKit Go.Lag
open Go.Conc
noncomputable def O8:Code:=.seq FT (.seq (.block 2 (.loop Ml)) wy)
theorem Je(tmps:Array aj)(v:aj)(h2:tmps[2]?=some v)(w:ar)(h:tmps.size=71):(results kq tmps).run aq w=.ok v w:=by
 have e2:=bq h2;rw[uo tmps h];simp only[aT,bT,cg,fP,e2];simp[results,kq,go_sem]
theorem afc{tmps:Array aj}{v:aj}{W:ar}(hs:tmps.size=71)(h9:tmps[9]?=some v):wy.wp aq (fun e a W'=>e=.ret∧a.defers=[]∧a.tmps.size=71∧a.tmps[2]?=some v∧W'=W) ⟨tmps,[]⟩ W:=by
 have e9:=bq h9;rw[uo tmps hs];simp only[aT,bT,cg,fP,e9];simp only[wy,gN,qI,kq,sL,sR];go_wp2
structure UL(P:aI)(b:BB)(men sent marks all:aj)(l:List dT)(ss:List Int)(ms:List Mk)(Y:Nat→Prop)(W:ar):Prop where
 e:P=aq
 f159:P.funcs[(159:Nat)]?=some kq
 f178:P.funcs[(178:Nat)]?=some Tryz.f178
 i159:P.inits.idxOf? 159=none
 i178:P.inits.idxOf? 178=none
 ok:b.Ok
 aaz:∀a∈l,a.Ok
 Gs:∀s∈ss,1≤s∧s≤8
 mks:∀m∈ms,1≤m.minute∧m.minute≤8
 cl:Closed fw Y W
 low:∀c,Y c→P.globals.size≤c
 tD:P.globals.size≤W.heap.size
 vm:VR fw (xE Y) men men
 vs:VR fw (xE Y) sent sent
 vk:VR fw (xE Y) marks marks
 va:VR fw (xE Y) all all
 rs:l8 Y W sent ss.length (ss.map (aG .i64))
 rm:l8 Y W marks ms.length (eu ms)
 ra:l8 Y W all l.length (rowOf l)
theorem UL.lt{P:aI}{b:BB}{men sent marks all:aj}{l:List dT}{ss:List Int}{ms:List Mk}{Y:Nat→Prop}{W:ar}(G:UL P b men sent marks all l ss ms Y W){c:Nat}(hc:Y c):c<W.heap.size:=G.cl.lt hc
def UJ(b:BB)(l:List dT)(ss:List Int)(ms:List Mk)(W:ar)(v:aj)(W':ar):Prop:=
 ∃km:List Nat,Reads W' v km.length (ints km)∧km.Perm (jQ b (dv ss ms).toNat (bE ss) l 512)∧Old W W'
section
variable{P:aI}{b:BB}{men sent marks all:aj}{l:List dT}{ss:List Int}{ms:List Mk}{Y:Nat→Prop}{W W1:ar}{xb fb tb c0 c1 sn:Nat}{cs:List bL}
theorem TR{X:Nat→Prop}(hm:VR fw (xE X) men men)(hs:VR fw (xE X) sent sent)(hk:VR fw (xE X) marks marks)(ha:VR fw (xE X) all all)(hx:X xb)(hf:X fb)(ht:X tb) :
  iD fw (xE X) #[.agg (b.open men sent marks all),ptr ⟨xb,0,none⟩,.slice none 0 0,.int .i64 sn,ptr ⟨fb,0,none⟩,ptr ⟨tb,0,none⟩,.int .i64 0,af,af,af,af,ptr ⟨xb,0,none⟩,ptr ⟨xb,0,none⟩,ptr ⟨xb,13,none⟩,sent,.int .i64 sn,.chan (some c0),.chan (some c1),.int .i64 0,af,af,af,af,af,af,af,af,af,af,af,af,af,af,af,af,af,af,af,af,af,af,af,af,af,af,af,af,af,af,af,af,af,af,af,af,af,af,af,af,af,af,af,af,af,af,af,af,af,af,af,af] #[.agg (b.open men sent marks all),ptr ⟨xb,0,none⟩,.slice none 0 0,.int .i64 sn,ptr ⟨fb,0,none⟩,ptr ⟨tb,0,none⟩,.int .i64 0,af,af,af,af,ptr ⟨xb,0,none⟩,ptr ⟨xb,0,none⟩,ptr ⟨xb,13,none⟩,sent,.int .i64 sn,.chan (some c0),.chan (some c1),.int .i64 0,af,af,af,af,af,af,af,af,af,af,af,af,af,af,af,af,af,af,af,af,af,af,af,af,af,af,af,af,af,af,af,af,af,af,af,af,af,af,af,af,af,af,af,af,af,af,af,af,af,af,af,af]:=by
 have Rz:∀a:cU,X a.block→VR fw (xE X) (ptr a) (ptr a):=fun a ha=>.ptr ⟨uZ ha,rfl,rfl⟩
 have hagg:VR fw (xE X) (.agg (b.open men sent marks all)) (.agg (b.open men sent marks all)):=by
  refine .agg rfl fun i x y hi hj=>?_;rw[hi] at hj;cases hj;have hmem:=eL hi;simp only[BB.open,BB.cells,jx,ia,eI,bG,bR,gh,or_false,ik,j4] at hmem;rcases hmem with rfl|rfl|rfl|rfl|rfl|rfl|rfl|rfl|rfl|rfl|rfl|rfl|rfl|rfl|rfl|rfl<;>first|exact .int _ _|assumption
 have hall:∀v∈(#[.agg (b.open men sent marks all),ptr ⟨xb,0,none⟩,.slice none 0 0,.int .i64 sn,ptr ⟨fb,0,none⟩,ptr ⟨tb,0,none⟩,.int .i64 0,af,af,af,af,ptr ⟨xb,0,none⟩,ptr ⟨xb,0,none⟩,ptr ⟨xb,13,none⟩,sent,.int .i64 sn,.chan (some c0),.chan (some c1),.int .i64 0,af,af,af,af,af,af,af,af,af,af,af,af,af,af,af,af,af,af,af,af,af,af,af,af,af,af,af,af,af,af,af,af,af,af,af,af,af,af,af,af,af,af,af,af,af,af,af,af,af,af,af,af]:Array aj),VR fw (xE X) v v:=by
  intro v hv;simp only[eI,bR,gh,or_false] at hv;have hu:VR fw (xE X) af undef:=sW;rcases hv with rfl|rfl|rfl|rfl|rfl|rfl|rfl|rfl|rfl|rfl|rfl|rfl|rfl|rfl|rfl|rfl|rfl|rfl|rfl|rfl|rfl|rfl|rfl|rfl|rfl|rfl|rfl|rfl|rfl|rfl|rfl|rfl|rfl|rfl|rfl|rfl|rfl|rfl|rfl|rfl|rfl|rfl|rfl|rfl|rfl|rfl|rfl|rfl|rfl|rfl|rfl|rfl|rfl|rfl|rfl|rfl|rfl|rfl|rfl|rfl|rfl|rfl|rfl|rfl|rfl|rfl|rfl|rfl|rfl|rfl|rfl<;>first|exact hu|exact .int _ _|exact .D6 _ _|exact .chan _|exact Rz _ hx|exact Rz _ hf|exact Rz _ ht|assumption
 exact⟨rfl,fun i x y hi hj=>by rw[hi] at hj;cases hj;exact hall x (eL hi)⟩
end
theorem WM:iF (.code wy)=true:=by kernel_rfl
theorem Reads.keep{w w':ar}{v:aj}{n:Nat}{xs:List aj}(h:Reads w v n xs)(hs:w.heap.size≤w'.heap.size)(hk:∀(g:Nat) cs e z,w.heap[g]?=some (.cells cs e z)→w'.heap[g]?=some (.cells cs e z)):Reads w' v n xs:=by
 rcases h with h|⟨g,off,cap,h1,h2,h3,h4⟩
 ·exact .inl h
 ·refine .inr ⟨g,off,cap,h1,h2,bB h3 hs,fun j u hj=>?_⟩;have hc:=h4 j u hj;unfold dH at hc ⊢;cases ho:w.heap[g]? with
  |none=>simp only[ho] at hc;cases hc
  |some o=>
   cases o with
   |cells cs e z=>simp only[hk g cs e z ho];simpa only[ho] using hc
   |_=>simp only[ho] at hc;cases hc
theorem Reads.old{w w':ar}{v:aj}{n:Nat}{xs:List aj}(h:Reads w v n xs)(ho:Old w w'):Reads w' v n xs:=
 h.keep ho.size fun g cs e z hg=>(ho.block g (eE hg)).trans hg
section
variable{P:aI}{b:BB}{men sent marks all:aj}{l:List dT}{ss:List Int}{ms:List Mk}{Y:Nat→Prop}{W W1:ar}{xb fb tb c0 c1:Nat}{cs:List bL}
theorem TJ(e:P=aq)(hf:P.funcs[(159:Nat)]?=some kq){R:aj→ar→Prop}{tmps:Array aj}{v:aj}(hs:tmps.size=71)(h9:tmps[9]?=some v)(hR:R v W) :
  iU P (fun g' W'=>∃fr v τ d,g'=G fr cs∧R v W∧W'.heap=W.heap∧W'.os=W.os∧W'.output=W.output∧fr.fn=159∧fr.leaving P (dx W' τ d) (.returned v)) (GK 159 tmps [.code wy] .normal cs) W:=by
 have T:=quiet_of e;refine(yF T (b:={ (default:bL) with fn:=159,kind:=.normal }) (a:=⟨tmps,[]⟩) (k:=[]) (m:=[.code wy]) (cs:=cs) (W:=W) (Q:=fun e a W'=>e=.ret∧a.defers=[]∧a.tmps.size=71∧a.tmps[2]?=some v∧W'.heap=W.heap∧W'.os=W.os∧W'.output=W.output) (by simp) (fun id a w hq=>by cases hq.1) (fun e a w hq=>by rw[hq.1];rfl) fun τ=>?_).bind fun g' W' hsz hq=>?_
 ·have h:=afc (W:=dx W τ 0) hs h9;rw[←e] at h
  have h2:wy.wp P (fun e a W'=>e=.ret∧a.defers=[]∧a.tmps.size=71∧a.tmps[2]?=some v∧W'.heap=W.heap∧W'.os=W.os∧W'.output=W.output) ⟨tmps,[]⟩ (dx W τ 0):=
   A8 h fun e a W' hq=>⟨hq.1,hq.2.1,hq.2.2.1,hq.2.2.2.1,by rw[hq.2.2.2.2];rfl,by rw[hq.2.2.2.2];rfl,by rw[hq.2.2.2.2];rfl⟩
  exact h2 { (default:bL) with fn:=159,kind:=.normal } [] cs
 ·obtain⟨e1,a',τ,d,⟨rfl,hd,hsz',h2,hh,ho,hu⟩,todo,rfl⟩:=hq;refine .here ⟨_,v,τ,d,rfl,hR,hh,ho,hu,rfl,rfl,hd,rfl,kq,hf,?_⟩;rw[e];exact Je _ v h2 _ hsz'
theorem Ns(G0:UL P b men sent marks all l ss ms Y W)(hold:Old W W1)(hx:W1.heap[xb]?=some (.cells (b.open men sent marks all) 122 (0,0)))(hf:W1.heap[fb]?=some (.cells #[.chan (some c0)] 188 (0,0)))(ht:W1.heap[tb]?=some (.cells #[.chan (some c1)] 189 (0,0)))
  (hc0:Chan c0 W1) (hc1:Chan c1 W1) (hne:c0≠c1) (hl:W.heap.size≤c0∧W.heap.size≤c1∧W.heap.size≤fb∧W.heap.size≤tb∧W.heap.size≤xb) {sn:Nat} (Qv:bE ss=sn) :
  iU P (fun g' W'=>∃fr v τ d,g'=G fr cs∧UJ b l ss ms W v W'∧fr.fn=159∧fr.leaving P (dx W' τ d) (.returned v)) (GK 159 #[.agg (b.open men sent marks all),ptr ⟨xb,0,none⟩,.slice none 0 0,.int .i64 sn,ptr ⟨fb,0,none⟩,ptr ⟨tb,0,none⟩,.int .i64 0,af,af,af,af,ptr ⟨xb,0,none⟩,ptr ⟨xb,0,none⟩,ptr ⟨xb,13,none⟩,sent,.int .i64 sn,.chan (some c0),.chan (some c1),.int .i64 0,af,af,af,af,af,af,af,af,af,af,af,af,af,af,af,af,af,af,af,af,af,af,af,af,af,af,af,af,af,af,af,af,af,af,af,af,af,af,af,af,af,af,af,af,af,af,af,af,af,af,af,af] [.code (.block 0 (.loop Jb)),.code O8] .normal cs) W1:=by
 intro K hg cN w V;have okc:∀ {k:Nat} {cs:Array aj} {e:aZ} {z:Nat × Nat},W1.heap[k]?=some (.cells cs e z)→w.heap[k]?=some (.cells cs e z):=fun h=>yx V h rfl;have hW:∀(k:Nat) (o:Obj),W.heap[k]?=some o→fO o=true→w.heap[k]?=some o:=fun k o h ho=>yx V ((hold.block k (eE h)).trans h) ho;obtain⟨X0,U4⟩:∃X0:Nat→Prop,X0=fun c=>Y c∨c=xb∨c=fb∨c=tb:=⟨_,rfl⟩
 have hYX:∀c,Y c→X0 c:=fun c hc=>by rw[U4];exact .inl hc
 have hxX:X0 xb:=by rw[U4];exact .inr (.inl rfl)
 have hfX:X0 fb:=by rw[U4];exact .inr (.inr (.inl rfl))
 have htX:X0 tb:=by rw[U4];exact .inr (.inr (.inr rfl))
 have hvm:=G0.vm.mono (sk hYX);have XD:=G0.vs.mono (sk hYX);have Y2:=G0.vk.mono (sk hYX);have hva:=G0.va.mono (sk hYX)
 have hcell:∀a:cU,Y a.block→w.cell? a=W.cell? a:=fun a ha=>by
  obtain⟨cs,e,z,h1,_⟩:=G0.cl _ ha;exact iK ((hW _ _ h1 rfl).trans h1.symm)
 have vO:∀ {v:aj} {n:Nat} {xs:List aj},l8 Y W v n xs→l8 X0 w v n xs:=fun h=>by
  rcases h with h|⟨g,off,cap,h1,h2,h3,h4⟩
  ·exact .inl h
  ·exact .inr ⟨g,off,cap,h1,h2,hYX g h3,fun j u hj=>(hcell ⟨g,off+j,none⟩ h3).trans (h4 j u hj)⟩
 have hcl:Closed fw X0 w:=by
  intro c hc;rw[U4] at hc;rcases hc with hc|rfl|rfl|rfl
  ·obtain⟨cs,e,z,h1,h2⟩:=G0.cl c hc;exact⟨cs,e,z,hW _ _ h1 rfl,fun v hv=>(h2 v hv).mono (sk hYX)⟩
  ·refine⟨_,_,_,okc hx,fun v hv=>?_⟩;simp only[BB.open,BB.cells,jx,ia,eI,bG,bR,gh,or_false,ik,j4] at hv;rcases hv with rfl|rfl|rfl|rfl|rfl|rfl|rfl|rfl|rfl|rfl|rfl|rfl|rfl|rfl|rfl|rfl<;>first|exact .int _ _|assumption
  ·exact⟨_,_,_,okc hf,fun v hv=>by simp at hv;subst hv;exact .chan _⟩
  ·exact⟨_,_,_,okc ht,fun v hv=>by simp at hv;subst hv;exact .chan _⟩
 have hWs:W.heap.size≤w.heap.size:=by rw[←V.size];exact hold.size
 have Wh:∀c,X0 c→P.globals.size≤c:=fun c hc=>by
  rw[U4] at hc;have:=G0.tD;rcases hc with hc|rfl|rfl|rfl
  ·exact G0.low c hc
  all_goals omega
 have hcx:∀i u,(b.open men sent marks all)[i]?=some u→w.cell? ⟨xb,i,none⟩=some u:=fun i u hi=>by
  unfold dH;rw[okc hx];exact hi
 have E:N6 P b men sent marks all l ss ms X0 w xb fb tb c0 c1:=
  ⟨G0.e,G0.f178,G0.i159,G0.i178,G0.ok,G0.aaz,G0.Gs,G0.mks,hcl,Wh,aN G0.tD hWs,hxX,hfX,htX,hcx,by unfold dH;rw[okc hf];rfl,by unfold dH;rw[okc ht];rfl,vO G0.rs,vO G0.rm,vO G0.ra⟩
 have RD:=TR (b:=b) (c0:=c0) (c1:=c1) (sn:=sn) hvm XD Y2 hva hxX hfX htX
 have KL:MS P fw (fun c=>c<w.heap.size) X0 (fun _=>False) #[.agg (b.open men sent marks all),ptr ⟨xb,0,none⟩,.slice none 0 0,.int .i64 sn,ptr ⟨fb,0,none⟩,ptr ⟨tb,0,none⟩,.int .i64 0,af,af,af,af,ptr ⟨xb,0,none⟩,ptr ⟨xb,0,none⟩,ptr ⟨xb,13,none⟩,sent,.int .i64 sn,.chan (some c0),.chan (some c1),.int .i64 0,af,af,af,af,af,af,af,af,af,af,af,af,af,af,af,af,af,af,af,af,af,af,af,af,af,af,af,af,af,af,af,af,af,af,af,af,af,af,af,af,af,af,af,af,af,af,af,af,af,af,af,af] #[.agg (b.open men sent marks all),ptr ⟨xb,0,none⟩,.slice none 0 0,.int .i64 sn,ptr ⟨fb,0,none⟩,ptr ⟨tb,0,none⟩,.int .i64 0,af,af,af,af,ptr ⟨xb,0,none⟩,ptr ⟨xb,0,none⟩,ptr ⟨xb,13,none⟩,sent,.int .i64 sn,.chan (some c0),.chan (some c1),.int .i64 0,af,af,af,af,af,af,af,af,af,af,af,af,af,af,af,af,af,af,af,af,af,af,af,af,af,af,af,af,af,af,af,af,af,af,af,af,af,af,af,af,af,af,af,af,af,af,af,af,af,af,af,af] (shut X0 w) w (xE X0):=
  ⟨RD,Oq hcl Wh,E.tD,by rw[vF];exact E.tD,(Gq hcl).symm,Bl hcl,Ot⟩
 have st:St P X0 w X0 (fun _=>False) #[.agg (b.open men sent marks all),ptr ⟨xb,0,none⟩,.slice none 0 0,.int .i64 sn,ptr ⟨fb,0,none⟩,ptr ⟨tb,0,none⟩,.int .i64 0,af,af,af,af,ptr ⟨xb,0,none⟩,ptr ⟨xb,0,none⟩,ptr ⟨xb,13,none⟩,sent,.int .i64 sn,.chan (some c0),.chan (some c1),.int .i64 0,af,af,af,af,af,af,af,af,af,af,af,af,af,af,af,af,af,af,af,af,af,af,af,af,af,af,af,af,af,af,af,af,af,af,af,af,af,af,af,af,af,af,af,af,af,af,af,af,af,af,af,af] #[.agg (b.open men sent marks all),ptr ⟨xb,0,none⟩,.slice none 0 0,.int .i64 sn,ptr ⟨fb,0,none⟩,ptr ⟨tb,0,none⟩,.int .i64 0,af,af,af,af,ptr ⟨xb,0,none⟩,ptr ⟨xb,0,none⟩,ptr ⟨xb,13,none⟩,sent,.int .i64 sn,.chan (some c0),.chan (some c1),.int .i64 0,af,af,af,af,af,af,af,af,af,af,af,af,af,af,af,af,af,af,af,af,af,af,af,af,af,af,af,af,af,af,af,af,af,af,af,af,af,af,af,af,af,af,af,af,af,af,af,af,af,af,af,af] (shut X0 w) w (xE X0) (fun c=>c<w.heap.size):=⟨KL,fun _ _ h=>h,fun c hc=>hcl.lt hc,fun c hc=>rfl,fun c hc=>rfl⟩
 have uJ:GT xb fb tb (bE ss) #[.agg (b.open men sent marks all),ptr ⟨xb,0,none⟩,.slice none 0 0,.int .i64 sn,ptr ⟨fb,0,none⟩,ptr ⟨tb,0,none⟩,.int .i64 0,af,af,af,af,ptr ⟨xb,0,none⟩,ptr ⟨xb,0,none⟩,ptr ⟨xb,13,none⟩,sent,.int .i64 sn,.chan (some c0),.chan (some c1),.int .i64 0,af,af,af,af,af,af,af,af,af,af,af,af,af,af,af,af,af,af,af,af,af,af,af,af,af,af,af,af,af,af,af,af,af,af,af,af,af,af,af,af,af,af,af,af,af,af,af,af,af,af,af,af] (0:Nat) (0:Nat) undef:=by
  rw[Qv];exact⟨rfl,rfl,rfl,rfl,rfl,rfl,rfl,rfl⟩
 have hM:=aci (K:=[]) (cs:=cs) E 512 0 rfl X0 (fun _=>False) _ _ _ w _ _ _ st uJ
 have ZT:eX P c0 c1 (.int .i64 0) (.bool false) (Xr (ints (jQ b (dv ss ms).toNat (bE ss) l 512)) [] cs) 0 0 [] [] X0 (fun _=>False) (GK 159 #[.agg (b.open men sent marks all),ptr ⟨xb,0,none⟩,.slice none 0 0,.int .i64 sn,ptr ⟨fb,0,none⟩,ptr ⟨tb,0,none⟩,.int .i64 0,af,af,af,af,ptr ⟨xb,0,none⟩,ptr ⟨xb,0,none⟩,ptr ⟨xb,13,none⟩,sent,.int .i64 sn,.chan (some c0),.chan (some c1),.int .i64 0,af,af,af,af,af,af,af,af,af,af,af,af,af,af,af,af,af,af,af,af,af,af,af,af,af,af,af,af,af,af,af,af,af,af,af,af,af,af,af,af,af,af,af,af,af,af,af,af,af,af,af,af] [.code (.block 0 (.loop Jb)),.code O8] .normal cs) w:=
  .ctl rfl rfl (pY _ _) rfl rfl (.ctl rfl rfl (Ll _) rfl rfl hM)
 have acs:=ZT.wide (w0:=w) (fun c=>c<w.heap.size∧c≠c0∧c≠c1) (fun c hc=>⟨hc.1,id,rfl⟩);have B9:Chan c0 w:=by obtain⟨s,tm,h⟩:=hc0;exact⟨s,tm,yx V h rfl⟩
 have B8:Chan c1 w:=by obtain⟨s,tm,h⟩:=hc1;exact⟨s,tm,yx V h rfl⟩
 refine(Ip hne acs rfl B9 B8 (fun c hc=>?_) (fun c hc h=>h)).bind ?_
 ·rcases hc with(hc|hc)|hc
  ·obtain⟨cs,e,z,h1,_⟩:=hcl c hc;refine⟨eE h1,fun e=>?_,fun e=>?_⟩
   ·subst e;obtain⟨s,tm,h⟩:=B9;rw[h1] at h;cases h
   ·subst e;obtain⟨s,tm,h⟩:=B8;rw[h1] at h;cases h
  ·exact hc
  ·exact hc.elim
 ·rintro g' w' ⟨acc,out,S,O,⟨⟨S',⟨bu,v,km,rfl,hts,ht9,XO,acx,X5⟩,m7⟩,hC0,hC1⟩,hperm,hsz,hos,hout⟩;rw[XO,X5] at hperm;clear XO X5
  obtain⟨W',hV',rC,e1,e2,e3,e4,e5⟩:=S6 (n:=W.heap.size) V cN hos hout hsz (fun b o hb ho kI=>by
   by_cases e0:b=c0
   ·subst e0;obtain⟨s,tm,h⟩:=hC0;rw[h] at ho;cases ho;cases kI
   ·by_cases e1:b=c1
    ·subst e1;obtain⟨s,tm,h⟩:=hC1;rw[h] at ho;cases ho;cases kI
    ·rw[←(m7 b ⟨by rw[←V.size];exact hb,e0,e1⟩).2];exact ho) (fun k hk=>(m7 k ⟨by omega,by omega,by omega⟩).2)
  have hO:Old W W':=⟨e1.trans hold.os,e2.trans hold.output,aN hold.size e3,fun k hk=>(e4 k hk (bB hk hold.size)).trans (hold.block k hk)⟩
  have afE:Reads W' v km.length (ints km):=acx.keep (by rw[hV'.size];exact ax _) fun g cs e z h=>e5 g _ h rfl
  have hp:km.Perm (jQ b (dv ss ms).toNat (bE ss) l 512):=by
   have h1:(ints km).map (fun v=>(intOf v).toNat)=km:=by simp[ints,intOf,Function.comp_def]
   have h2:(ints (jQ b (dv ss ms).toNat (bE ss) l 512)).map (fun v=>(intOf v).toNat)=jQ b (dv ss ms).toNat (bE ss) l 512:=by simp[ints,intOf,Function.comp_def]
   rw[←h1,←h2];exact hperm.map _
  have Wn:zY (GK 159 bu [.code wy] .normal cs):=⟨⟨by simpa [GK,G,iZ] using WM,rfl⟩,hg.callers,.inl rfl⟩
  refine(TJ (cs:=cs) G0.e G0.f159 (R:=fun v W''=>UJ b l ss ms W v W'') hts ht9 ⟨km,afE,hp,hO⟩ K Wn rC w' hV').mono ?_;rintro g2 w2 ⟨W2,⟨fr,v2,τ,d,rfl,⟨o2,r1,r2,r3⟩,hh,ho,hu,hfn,hlv⟩,V2,hg2,uw,hs2⟩;refine⟨W2,⟨fr,v2,τ,d,rfl,⟨o2,?_,r2,r3.trans ⟨ho,hu,by rw[hh];exact ax _,fun k _=>by rw[hh]⟩⟩,hfn,hlv⟩,V2,hg2,uw,aN e3 hs2⟩;exact r1.keep (by rw[hh];exact ax _) fun g cs e z h=>by rw[hh];exact h
end
structure Sm(W W':ar):Prop where
 heap:W'.heap=W.heap
 os:W'.os=W.os
 output:W'.output=W.output
theorem Sm.old{W W':ar}(h:Sm W W'):Old W W':=⟨h.os,h.output,by rw[h.heap];exact ax _,fun k _=>by rw[h.heap]⟩
theorem pW(W:ar)(o:Obj):Old W (W.alloc o):=⟨rfl,rfl,by simp,fun k hk=>aS _ _ _ hk⟩
theorem enter_at{P:aI}{f:dR}{fn:Func}{c:gI}{args:Array aj}(hf:P.funcs[f]?=some fn)(hb:fn.body=some c):eh P f args .normal=({ (default:bL) with fn:=f,kind:=.normal }:bL).at ⟨args++aV (fn.ntmps-args.size) af,[]⟩ [.code c]:=by
 simp[eh,Frame.at,hf,hb]
theorem ahi(x:aj) : #[x]++aV (71 - #[x].size) af = #[x,af,af,af,af,af,af,af,af,af,af,af,af,af,af,af,af,af,af,af,af,af,af,af,af,af,af,af,af,af,af,af,af,af,af,af,af,af,af,af,af,af,af,af,af,af,af,af,af,af,af,af,af,af,af,af,af,af,af,af,af,af,af,af,af,af,af,af,af,af,af]:=by
 simp only[List.size_toArray,List.length_cons,List.length_nil,Nat.reduceAdd,Nat.reduceSub,Array.replicate_succ,Array.replicate_zero,jx,ia,j4,ik]
theorem abS:Tryz.f159.ntmps=71:=by kernel_rfl
section
variable{P:aI}{b:BB}{men sent marks all:aj}{l:List dT}{ss:List Int}{ms:List Mk}{Y:Nat→Prop}{W:ar}
theorem ZZ(G0:UL P b men sent marks all l ss ms Y W):iV P 159 #[.agg (b.open men sent marks all)] W (UJ b l ss ms W):=by
 intro cs;have T:=quiet_of G0.e;obtain⟨sn,Qv⟩:∃sn,bE ss=sn:=⟨_,rfl⟩
 obtain⟨xb,hxb⟩:∃xb,W.heap.size=xb:=⟨_,rfl⟩
 have tu:eh P 159 #[.agg (b.open men sent marks all)] .normal=({ (default:bL) with fn:=159,kind:=.normal }:bL).at ⟨#[.agg (b.open men sent marks all),af,af,af,af,af,af,af,af,af,af,af,af,af,af,af,af,af,af,af,af,af,af,af,af,af,af,af,af,af,af,af,af,af,af,af,af,af,af,af,af,af,af,af,af,af,af,af,af,af,af,af,af,af,af,af,af,af,af,af,af,af,af,af,af,af,af,af,af,af,af],[]⟩ [.code (.seq gR0 (.seq gR1 (.seq gR2 (.seq gR3 (.seq (.seq gR4 (.block 0 (.loop Jb))) O8)))))]:=by
  rw[enter_at G0.f159 Xa,abS,ahi];unfold O8;rfl
 rw[tu];have m8:({ (default:bL) with fn:=159,kind:=.normal }:bL).kind≠.early:=by simp
 have hsW:∀ {W':ar},Old W W'→Reads W' sent ss.length (ss.map (aG .i64)):=fun ho=>G0.rs.to (fun c hc=>bB (G0.lt hc) ho.size) fun a ha=>ho.cell (G0.lt ha);refine jF T (fun w=>step_seq) ?_;refine oy T m8 (Q:=fun a W'=>a=⟨#[.agg (b.open men sent marks all),ptr ⟨xb,0,none⟩,.slice none 0 0,af,af,af,af,af,af,af,af,af,af,af,af,af,af,af,af,af,af,af,af,af,af,af,af,af,af,af,af,af,af,af,af,af,af,af,af,af,af,af,af,af,af,af,af,af,af,af,af,af,af,af,af,af,af,af,af,af,af,af,af,af,af,af,af,af,af,af,af],[]⟩∧Sm (W.alloc (.cells (b.open men sent marks all) 122)) W') (fun τ d=>?_) ?_
 ·rw[G0.e];refine A8 (pR0 (W:=dx W τ d) hxb) ?_;rintro e a W' ⟨rfl,rfl,rfl⟩;exact⟨rfl,rfl,rfl,rfl,rfl⟩
 rintro a W1 τ1 d1 ⟨rfl,hsm⟩;have o1:Old W W1:=(pW W _).trans (Sm.old (W':=W1) ⟨hsm.heap,hsm.os,hsm.output⟩)
 have x1:W1.heap[xb]?=some (.cells (b.open men sent marks all) 122 (0,0)):=by
  have h:W1.heap=(W.alloc (.cells (b.open men sent marks all) 122)).heap:=hsm.heap;rw[h,←hxb];exact ay W _
 have s1:xb<W1.heap.size:=eE x1;clear hsm;refine jF T (fun w=>step_seq) ?_;refine oy T m8 (Q:=fun a W'=>a=⟨#[.agg (b.open men sent marks all),ptr ⟨xb,0,none⟩,.slice none 0 0,.int .i64 sn,af,af,af,af,af,af,af,ptr ⟨xb,0,none⟩,ptr ⟨xb,0,none⟩,ptr ⟨xb,13,none⟩,sent,.int .i64 sn,af,af,af,af,af,af,af,af,af,af,af,af,af,af,af,af,af,af,af,af,af,af,af,af,af,af,af,af,af,af,af,af,af,af,af,af,af,af,af,af,af,af,af,af,af,af,af,af,af,af,af,af,af,af,af],[]⟩∧Sm W1 W') (fun τ d=>?_) ?_
 ·rw[G0.e];refine A8 (pR1 (b:=b) (men:=men) (marks:=marks) (all:=all) (W:=dx W1 τ d) G0.Gs ?_ (hsW (W':=dx W1 τ d) ⟨o1.os,o1.output,o1.size,o1.block⟩) Qv) ?_
  ·show W1.cell? ⟨xb,13,none⟩=some sent;unfold dH;rw[x1];rfl
  ·rintro e a W' ⟨rfl,rfl,rfl⟩;exact⟨rfl,rfl,rfl,rfl,rfl⟩
 rintro a W2 τ2 d2 ⟨rfl,hsm⟩;have hh:W2.heap=W1.heap:=hsm.heap;have o2:Old W W2:=o1.trans (Sm.old (W':=W2) ⟨hsm.heap,hsm.os,hsm.output⟩);have x2:W2.heap[xb]?=some (.cells (b.open men sent marks all) 122 (0,0)):=by rw[hh];exact x1
 have s2:W.heap.size<W2.heap.size:=by rw[hh];omega
 clear hsm hh o1 x1 s1;refine jF T (fun w=>step_seq) ?_;refine oy T m8 (Q:=fun a W'=>∃c0 c1 fb tb:Nat,a=⟨#[.agg (b.open men sent marks all),ptr ⟨xb,0,none⟩,.slice none 0 0,.int .i64 sn,ptr ⟨fb,0,none⟩,ptr ⟨tb,0,none⟩,af,af,af,af,af,ptr ⟨xb,0,none⟩,ptr ⟨xb,0,none⟩,ptr ⟨xb,13,none⟩,sent,.int .i64 sn,.chan (some c0),.chan (some c1),af,af,af,af,af,af,af,af,af,af,af,af,af,af,af,af,af,af,af,af,af,af,af,af,af,af,af,af,af,af,af,af,af,af,af,af,af,af,af,af,af,af,af,af,af,af,af,af,af,af,af,af,af],[]⟩∧(Chan c0 W'∧Chan c1 W'∧W'.heap[fb]?=some (.cells #[.chan (some c0)] 188 (0,0))∧W'.heap[tb]?=some (.cells #[.chan (some c1)] 189 (0,0))∧c0≠c1∧W2.heap.size≤c0∧W2.heap.size≤c1∧W2.heap.size≤fb∧W2.heap.size≤tb∧Old W2 W')) (fun τ d=>?_) ?_
 ·rw[G0.e];refine A8 (pR2 (b:=b) (men:=men) (sent:=sent) (marks:=marks) (all:=all) (xb:=xb) (sn:=sn) (W:=dx W2 τ d)) ?_;rintro e a W' ⟨rfl,c0,c1,fb,tb,rfl,h1,h2,h3,h4,h5,h6,h7,h8,h9,h10⟩;exact⟨rfl,c0,c1,fb,tb,rfl,h1,h2,h3,h4,h5,h6,h7,h8,h9,h10.os,h10.output,h10.size,h10.block⟩
 rintro a W3 τ3 d3 ⟨c0,c1,fb,tb,rfl,h1,h2,h3,h4,h5,h6,h7,h8,h9,h10⟩;have o3:Old W W3:=o2.trans ⟨h10.os,h10.output,h10.size,h10.block⟩;have x3:W3.heap[xb]?=some (.cells (b.open men sent marks all) 122 (0,0)):=(h10.block xb (by omega)).trans x2;have k0:Chan c0 W3:=h1;have k1:Chan c1 W3:=h2;have kf:W3.heap[fb]?=some (.cells #[.chan (some c0)] 188 (0,0)):=h3;have kt:W3.heap[tb]?=some (.cells #[.chan (some c1)] 189 (0,0)):=h4;clear h1 h2 h3 h4 h10 o2 x2;refine jF T (fun w=>step_seq) ?_;refine oy T m8 (Q:=fun a W'=>a=⟨#[.agg (b.open men sent marks all),ptr ⟨xb,0,none⟩,.slice none 0 0,.int .i64 sn,ptr ⟨fb,0,none⟩,ptr ⟨tb,0,none⟩,.int .i64 0,af,af,af,af,ptr ⟨xb,0,none⟩,ptr ⟨xb,0,none⟩,ptr ⟨xb,13,none⟩,sent,.int .i64 sn,.chan (some c0),.chan (some c1),af,af,af,af,af,af,af,af,af,af,af,af,af,af,af,af,af,af,af,af,af,af,af,af,af,af,af,af,af,af,af,af,af,af,af,af,af,af,af,af,af,af,af,af,af,af,af,af,af,af,af,af,af],[]⟩∧Sm W3 W') (fun τ d=>?_) ?_
 ·rw[G0.e];refine A8 (pR3 (b:=b) (men:=men) (sent:=sent) (marks:=marks) (all:=all) (xb:=xb) (sn:=sn) (c0:=c0) (c1:=c1) (fb:=fb) (tb:=tb) (W:=dx W3 τ d)) ?_;rintro e a W' ⟨rfl,rfl,rfl⟩;exact⟨rfl,rfl,rfl,rfl,rfl⟩
 rintro a W4 τ4 d4 ⟨rfl,V7⟩;have e4:W4.heap=W3.heap:=V7.heap;have o4:Old W W4:=o3.trans (Sm.old (W':=W4) ⟨V7.heap,V7.os,V7.output⟩);refine jF T (fun w=>step_seq) ?_;refine jF T (fun w=>step_seq) ?_;refine oy T m8 (Q:=fun a W'=>a=⟨#[.agg (b.open men sent marks all),ptr ⟨xb,0,none⟩,.slice none 0 0,.int .i64 sn,ptr ⟨fb,0,none⟩,ptr ⟨tb,0,none⟩,.int .i64 0,af,af,af,af,ptr ⟨xb,0,none⟩,ptr ⟨xb,0,none⟩,ptr ⟨xb,13,none⟩,sent,.int .i64 sn,.chan (some c0),.chan (some c1),.int .i64 0,af,af,af,af,af,af,af,af,af,af,af,af,af,af,af,af,af,af,af,af,af,af,af,af,af,af,af,af,af,af,af,af,af,af,af,af,af,af,af,af,af,af,af,af,af,af,af,af,af,af,af,af],[]⟩∧Sm W4 W') (fun τ d=>?_) ?_
 ·rw[G0.e];refine A8 (pR4 (b:=b) (men:=men) (sent:=sent) (marks:=marks) (all:=all) (xb:=xb) (sn:=sn) (c0:=c0) (c1:=c1) (fb:=fb) (tb:=tb) (W:=dx W4 τ d)) ?_;rintro e a W' ⟨rfl,rfl,rfl⟩;exact⟨rfl,rfl,rfl,rfl,rfl⟩
 rintro a W5 τ5 d5 ⟨rfl,V6⟩;have e5:W5.heap=W3.heap:=(show W5.heap=W4.heap from V6.heap).trans e4;have o5:Old W W5:=o4.trans (Sm.old (W':=W5) ⟨V6.heap,V6.os,V6.output⟩);have kc:∀ {c:Nat},Chan c W3→Chan c W5:=fun h=>by obtain⟨s,tm,h⟩:=h;exact⟨s,tm,by rw[e5];exact h⟩
 exact Ns (cs:=cs) G0 o5 (by rw[e5];exact x3) (by rw[e5];exact kf) (by rw[e5];exact kt) (kc k0) (kc k1) h5 ⟨by omega,by omega,by omega,by omega,by omega⟩ Qv
end
end Go.Proofs.YtffladgmkiimjaaGreatDoor
