/- LONE WALKS: labels: isLetter (183), isDigit (184), IsLabel (177). LONE .. -/
import Derived.Test.YtffladgmkiimjaaGreatDoorW02
import Derived.Test.YtffladgmkiimjaaGreatDoorW00
import Derived.Laws.CopyRow
import Derived.Test.YtffladgmkiimjaaGreatDoorW01
set_option linter.all false
set_option maxHeartbeats 100000000
set_option maxRecDepth 1000000
open Array renaming replicate → aV,getElem?_eq_some_iff → ak
open Go renaming undef → af,Value → aj,World → ar,results_tmp → bU,Calls → bm,bodyPost_ret → bn,wp_cond_split → cB,Addr → cU,bodyPost → dQ,wp_skip → fV,wp_seq → gp,wp_ret → gq,calls_of_wp → mD,wp_block → tS
open Go.Code renaming wp → cH
open Go.Ending renaming returned → aC,returned → aK
open Go.Exit renaming ret → ej
open Go.Instr renaming indexAt → j5
open Go.IntKind renaming i64 → ag,wrap_i64 → cD
open Go.Lib renaming hid → ai
open Go.Obj renaming cells → au
open Go.Operand renaming tmp → aJ
open Go.Proofs.Tryz renaming prog → aq,underlying28 → cG
open Go.RowKit renaming Below → az,Hid → lh
open Go.RowKit.Below renaming heap_alloc → aS,refl → aw
open Go.Value renaming bool → aF,int → aG,agg → aO,slice → ae,int → ah,pointer → bp,oneCell' → cu,bool → l5
open Go.World renaming alloc_heap_new → ay
open List renaming range → aT,all_eq_true → aU,eq_nil_of_length_eq_zero → aY,getElem_mem → bO,mem_range → bt,take_of_length_le → cS,drop_eq_getElem_cons → dM,length_map → dz,mem_of_mem_take → fp,range_eq_range' → mF
open Nat renaming le_trans → aN,le_refl → ax,lt_of_lt_of_le → bB,reduceEqDiff → cR
open Or renaming inl → cF
namespace Go.Proofs.YtffladgmkiimjaaGreatDoor
open Go.RowKit Go.Lag
def eF(s:ByteArray)(k:Nat):Int:=if h:k<s.size then(s[k].toNat:Int) else 0
theorem vz(s:ByteArray)(k:Nat):0≤eF s k∧eF s k<256:=by
 unfold eF;split
 ·have:=s[k].toNat_lt;omega
 ·omega
theorem xD(s:ByteArray)(k:Nat)(h:k<s.size)(w:ar):(Instr.index 9 (.string s) (ah ag (k:Int))).run aq w=.ok (ah .u8 (eF s k)) w:=by
 rw[run_index_string w 9 s ag _ Tryz.underlying9,dif_pos ⟨by omega,by omega⟩];simp[eF,h]
theorem zC(c:Int)(h:0≤c∧c<256):IntKind.i64.wrap c=c:=by rw[cD];omega
def oB(s:ByteArray)(k:Nat):Bool:=aQ (eF s k) 97 122||aQ (eF s k) 48 57
def ji(s:ByteArray):Bool:=(aQ s.size 1 12&&aQ (eF s 0) 97 122)&&(List.range' 1 (s.size-1)).all (oB s)
theorem Qs{s:ByteArray}(h0:aQ s.size 1 12=true)(h1:aQ (eF s 0) 97 122=true)(h:∀i,1≤i→i<s.size→oB s i=true):ji s=true:=by
 unfold ji;simp only[h0,h1,Bool.and_self,Bool.true_and,aU,List.mem_range'_1];intro x hx;exact h x hx.1 (by omega)
theorem M6{s:ByteArray}(h:(aQ s.size 1 12&&aQ (eF s 0) 97 122)=false):ji s=false:=by
 unfold ji;rw[h];rfl
theorem Qt{s:ByteArray}(i:Nat)(h1:1≤i)(h2:i<s.size)(h:oB s i=false):ji s=false:=by
 unfold ji;rw[Bool.and_eq_false_iff];right;rw[List.all_eq_false];exact⟨i,List.mem_range'_1.2 ⟨h1,by omega⟩,by rw[h];simp⟩
theorem M5{s:ByteArray}(h:ji s=true):Jy s:=by
 unfold ji at h;simp only[Bool.and_eq_true,aU,List.mem_range'_1] at h;obtain⟨⟨h0,h1⟩,h2⟩:=h;have h0:=gb.1 h0;refine⟨⟨by omega,by omega⟩,fun k hk=>?_⟩;rcases Nat.eq_zero_or_pos k with rfl|hp
 ·left;have:=gb.1 h1;unfold eF at this;rw[dif_pos hk] at this;exact⟨by omega,by omega⟩
 ·have h3:=h2 k ⟨hp,by omega⟩;unfold oB eF at h3;rw[dif_pos hk,Bool.or_eq_true,gb,gb] at h3;rcases h3 with h3|h3
  ·left;exact⟨by omega,by omega⟩
  ·right;exact⟨by omega,by omega,by omega⟩
theorem zh(c:Int)(hc0:0≤c∧c<256)(w:ar):bm aq 183 #[ah .u8 c] w fun e w'=>e=aC (aF (aQ c 97 122))∧az w.heap.size w w':=by
 refine mD Tryz.func183 rfl ?_;have hF:=kY (args:=#[ah .u8 c]) (n:=6) (by simp) [(0,ah .u8 c)] ⟨nw rfl,trivial⟩;rw[show Tryz.f183.ntmps=6 from rfl];generalize (⟨#[ah .u8 c]++aV (6-(#[ah .u8 c]:Array aj).size) af,[]⟩:Act)=a at *;refine(fun h:∀W,az w.heap.size w W→cH aq _ _ a W=>h w (aw _ _)) ?_;intro W HB;refine kJ ⟨[],[],[],[]⟩ [(2,aF false)] hF hF trivial trivial ?_;intro a W ho hF;replace HB:=HB.tr ho;clear ho;replace hF:=hF.tl
 refine mL [pV (ah .u8 c),pV (ah ag c),pV (aF (aQ c 97 122)),pV (aF (aQ c 97 122))]
  _ (by kernel_rfl) hF.size hF.base ?_ ?_ ?_
 ·exact⟨sV,sV,sV,sV,trivial⟩
 ·refine⟨?_,?_,?_,?_,trivial⟩<;>rintro ev w1 hS hc hg hf ⟨b0,-⟩ hd
  all_goals try
   try have d0:ev (aJ _)=_:=hd.1 rfl
   clear hd;refine yw rfl ?_ rfl;go_simp;done
  ·have d0:ev (aJ 3)=_:=hd.1 rfl;clear hd;have hw:=zC c hc0;exact tV
  ·have d1:ev (aJ 4)=_:=hd.1 rfl;clear hd;refine yc (fA c 97 122 w1) ?_ (fun _=>rfl);go_simp
 intro a W hR;have ho:=hR.s;replace HB:=HB.tr ho;replace hF:=(hR.fr hF (by kernel_rfl)).cons (t:=2) (hR.val 3 (by decide));clear hR ho;refine gq ?_;show dQ aq Tryz.f183 (fun e w'=>e=aK (aF (aQ c 97 122))∧az w.heap.size w w') ej a W;exact bn (bU rfl _ _ _) hF.defers ⟨congrArg aK ((hF.g 0 rfl):a.eval (aJ 2)=aF (aQ c 97 122)),HB⟩
theorem KC(c:Int)(hc0:0≤c∧c<256)(w:ar):bm aq 184 #[ah .u8 c] w fun e w'=>e=aC (aF (aQ c 48 57))∧az w.heap.size w w':=by
 refine mD Tryz.func184 rfl ?_;have hF:=kY (args:=#[ah .u8 c]) (n:=6) (by simp) [(0,ah .u8 c)] ⟨nw rfl,trivial⟩;rw[show Tryz.f184.ntmps=6 from rfl];generalize (⟨#[ah .u8 c]++aV (6-(#[ah .u8 c]:Array aj).size) af,[]⟩:Act)=a at *;refine(fun h:∀W,az w.heap.size w W→cH aq _ _ a W=>h w (aw _ _)) ?_;intro W HB;refine kJ ⟨[],[],[],[]⟩ [(2,aF false)] hF hF trivial trivial ?_;intro a W ho hF;replace HB:=HB.tr ho;clear ho;replace hF:=hF.tl
 refine mL [pV (ah .u8 c),pV (ah ag c),pV (aF (aQ c 48 57)),pV (aF (aQ c 48 57))]
  _ (by kernel_rfl) hF.size hF.base ?_ ?_ ?_
 ·exact⟨sV,sV,sV,sV,trivial⟩
 ·refine⟨?_,?_,?_,?_,trivial⟩<;>rintro ev w1 hS hc hg hf ⟨b0,-⟩ hd
  all_goals try
   try have d0:ev (aJ _)=_:=hd.1 rfl
   clear hd;refine yw rfl ?_ rfl;go_simp;done
  ·have d0:ev (aJ 3)=_:=hd.1 rfl;clear hd;have hw:=zC c hc0;exact tV
  ·have d1:ev (aJ 4)=_:=hd.1 rfl;clear hd;refine yc (fA c 48 57 w1) ?_ (fun _=>rfl);go_simp
 intro a W hR;have ho:=hR.s;replace HB:=HB.tr ho;replace hF:=(hR.fr hF (by kernel_rfl)).cons (t:=2) (hR.val 3 (by decide));clear hR ho;refine gq ?_;show dQ aq Tryz.f184 (fun e w'=>e=aK (aF (aQ c 48 57))∧az w.heap.size w w') ej a W;exact bn (bU rfl _ _ _) hF.defers ⟨congrArg aK ((hF.g 0 rfl):a.eval (aJ 2)=aF (aQ c 48 57)),HB⟩
theorem Qr(s:ByteArray)(w:ar):bm aq 177 #[.string s] w fun e w'=>e=aC (aF (ji s))∧az w.heap.size w w':=by
 refine mD Tryz.func177 rfl ?_;have hF:=kY (args:=#[.string s]) (n:=32) (by simp) [(0,.string s)] ⟨nw rfl,trivial⟩;rw[show Tryz.f177.ntmps=32 from rfl];generalize (⟨#[.string s]++aV (32-(#[.string s]:Array aj).size) af,[]⟩:Act)=a at *;refine(fun h:∀W,az w.heap.size w W→cH aq _ _ a W=>h w (aw _ _)) ?_;intro W HB;refine kJ ⟨[],[],[],[]⟩ [(2,aF false)] hF hF trivial trivial ?_;intro a W ho hF;replace HB:=HB.tr ho;clear ho;refine gp ?_
 refine mL [pV (.string s),pV (ah ag (s.size:Int)),pV (aF (aQ (s.size:Int) 1 12)),pV (aF (!(aQ (s.size:Int) 1 12))),pV (aF (!(aQ (s.size:Int) 1 12))),pC (!(!(aQ (s.size:Int) 1 12))) (.string s),pC (!(!(aQ (s.size:Int) 1 12))) (ah .u8 (eF s 0)),pC (!(!(aQ (s.size:Int) 1 12))) (aF (aQ (eF s 0) 97 122)),pC (!(!(aQ (s.size:Int) 1 12))) (aF (!(aQ (eF s 0) 97 122))),pV (aF ((!(aQ (s.size:Int) 1 12))||(!(aQ (eF s 0) 97 122))))]
  _ (by kernel_rfl) hF.size hF.base ?_ ?_ ?_
 ·exact⟨sV,sV,sV,sV,sV,sC,sC,sC,sC,sV,trivial⟩
 ·refine⟨?_,?_,?_,?_,?_,?_,?_,?_,?_,?_,trivial⟩<;>rintro ev w1 hS hc hg hf ⟨-,b0,-⟩ hd
  all_goals try
   try have d0:ev (aJ _)=_:=hd.1 rfl
   clear hd;refine yw rfl ?_ rfl;go_simp;done
  all_goals try
   try have d0:ev (aJ _)=_:=hd.1 rfl
   try have c0:_→ev (aJ _)=_:=hd.1 rfl
   try have d1:ev (aJ _)=_:=hd.2.1 rfl
   clear hd
   first|refine gC d0 lS fun hA=>?_|refine gC d1 lS fun hA=>?_
   try replace c0:=c0 hA
   refine yw rfl ?_ (fun _=>rfl);go_simp;done
  ·have d1:ev (aJ 5)=_:=hd.1 rfl;clear hd;refine yc (fA (s.size:Int) 1 12 w1) ?_ (fun _=>rfl);go_simp
  ·have d5:_→ev (aJ 9)=_:=hd.1 rfl;have d4:ev (aJ 8)=_:=hd.2.1 rfl;clear hd;refine gC d4 lS fun hA=>?_;have y5:=d5 hA
   have Nc:0<s.size:=by
    have h9:aQ (s.size:Int) 1 12=true:=by revert hA;simp
    have:=gb.1 h9;omega
   have hi:=xD s 0 Nc w1;refine Lag.Yields.value (v:=(ah .u8 (eF s 0):aj)) (w':=w1) ?_ ⟨fun _=>rfl,cF (aw _ _)⟩;rw[show eF s 0=((s[0]'Nc).toNat:Int) from dif_pos Nc];go_simp
  ·have d6:_→ev (aJ 10)=_:=hd.1 rfl;have d4:ev (aJ 8)=_:=hd.2.1 rfl;clear hd;refine gC d4 lS fun hA=>?_;have y6:=d6 hA;refine yc (args:=#[ah .u8 (eF s 0)]) (zh (eF s 0) (vz _ _) w1) ?_ (fun _=>fun _=>rfl);go_simp
  ·have d4:ev (aJ 8)=_:=hd.1 rfl;have d8:_→ev (aJ 12)=_:=hd.2.1 rfl;clear hd;exact yO rfl hc d4 (fun hq=>d8 (by simp[hq])) (rfl)
 intro a W hR;have ho:=hR.s;replace HB:=HB.tr ho;replace hF:=(hR.fr hF (by kernel_rfl)).cons (t:=13) (hR.val 9 (by decide));clear hR ho;refine cB (t:=((!(aQ (s.size:Int) 1 12))||(!(aQ (eF s 0) 97 122)))) (hF.g 0 rfl) (fun QF=>?_) (fun QF=>?_)
 ·skip
  replace hF:=hF.tl;have hres:ji s=false:=M6 (by revert QF;cases aQ (s.size:Int) 1 12<;>cases aQ (eF s 0) 97 122<;>simp);replace hF:=hF.tl;refine kJ ⟨[],[],[],[]⟩ [(2,aF false)] hF hF trivial trivial ?_;intro a W ho hF;replace HB:=HB.tr ho;clear ho;refine gq ?_;show dQ aq Tryz.f177 (fun e w'=>e=aK (aF (ji s))∧az w.heap.size w w') ej a W;exact bn (bU rfl _ _ _) hF.defers ⟨congrArg aK (((hF.g 0 rfl):a.eval (aJ 2)=aF false).trans (congrArg _ hres.symm)),HB⟩
 ·skip
  replace hF:=hF.tl;have h0:aQ (s.size:Int) 1 12=true:=by revert QF;cases aQ (s.size:Int) 1 12<;>simp
  have h1:aQ (eF s 0) 97 122=true:=by revert QF;cases aQ (eF s 0) 97 122<;>simp
  have hn:=gb.1 h0;refine fV ?_;show cH aq _ _ _ _;refine gp ?_;refine kJ ⟨[],[],[],[]⟩ [(3,ah ag 1)] hF hF trivial trivial ?_;intro a W ho hF;replace HB:=HB.tr ho;clear ho;refine tS ?_;refine wp_loop (fun a W=>∃k:Nat,k≤s.size∧(1≤k∧∀i,1≤i→i<k→oB s i=true)∧jg 32 a [(3,ah ag (k:Nat)),(0,.string s)]∧az w.heap.size w W) (fun a _=>s.size-(intOf (a.eval (aJ 3))).toNat) ⟨1,by omega,⟨ax _,fun i h1 h2=>by omega⟩,⟨hF.size,hF.defers,(by obtain⟨b3,-,b0,-⟩:=hF.base;exact⟨b3,b0,trivial⟩)⟩,HB⟩ ?_;clear hF HB
  try clear a
  try clear W
  rintro a W ⟨k,sS,oC,hF,HB⟩;have hk3:a.eval (aJ 3)=ah ag (k:Nat):=(hF.g 0 rfl)
  refine gp ?_;refine kJ ⟨[],[],[],[]⟩ [(17,aF (decide ((k:Int)<(s.size:Int))))] hF hF trivial trivial ?_;intro a W ho hF;replace HB:=HB.tr ho;clear ho;refine cB (t:=(decide ((k:Int)<(s.size:Int)))) (hF.g 0 rfl) (fun ZL=>?_) (fun ZL=>?_)
  ·skip
   replace hF:=hF.tl;have xH:k<s.size:=by simpa using ZL
   have hw1:IntKind.i64.wrap ((k:Int)+1)=(k:Int)+1:=by rw[cD];omega
   refine fV ?_;show cH aq _ _ _ _;refine gp ?_;refine tS ?_
   refine mL [pV (.string s),pV (ah ag (k:Nat)),pV (ah .u8 (eF s k)),pV (aF (aQ (eF s k) 97 122)),pV (aF (!(aQ (eF s k) 97 122))),pV (aF (!(aQ (eF s k) 97 122))),pC (!(aQ (eF s k) 97 122)) (.string s),pC (!(aQ (eF s k) 97 122)) (ah ag (k:Nat)),pC (!(aQ (eF s k) 97 122)) (ah .u8 (eF s k)),pC (!(aQ (eF s k) 97 122)) (aF (aQ (eF s k) 48 57)),pC (!(aQ (eF s k) 97 122)) (aF (!(aQ (eF s k) 48 57))),pV (aF ((!(aQ (eF s k) 97 122))&&(!(aQ (eF s k) 48 57))))]
    _ (by kernel_rfl) hF.size hF.base ?_ ?_ ?_
   ·exact⟨sV,sV,sV,sV,sV,sV,sC,sC,sC,sC,sC,sV,trivial⟩
   ·refine⟨?_,?_,?_,?_,?_,?_,?_,?_,?_,?_,?_,?_,trivial⟩<;>rintro ev w1 hS hc hg hf ⟨b3,b0,-⟩ hd
    all_goals try
     try have d0:ev (aJ _)=_:=hd.1 rfl
     clear hd;refine yw rfl ?_ rfl;go_simp;done
    all_goals try
     try have d0:ev (aJ _)=_:=hd.1 rfl
     try have c0:_→ev (aJ _)=_:=hd.1 rfl
     try have d1:ev (aJ _)=_:=hd.2.1 rfl
     clear hd
     first|refine gC d0 ye fun hA=>?_|refine gC d1 ye fun hA=>?_
     try replace c0:=c0 hA
     refine yw rfl ?_ (fun _=>rfl);go_simp;done
    ·have d0:ev (aJ 20)=_:=hd.1 rfl;have d1:ev (aJ 21)=_:=hd.2.1 rfl;clear hd;have hi:=xD s k xH w1;refine Lag.Yields.value (v:=(ah .u8 (eF s k):aj)) (w':=w1) ?_ ⟨rfl,cF (aw _ _)⟩;go_simp
    ·have d2:ev (aJ 22)=_:=hd.1 rfl;clear hd;refine yc (args:=#[ah .u8 (eF s k)]) (zh (eF s k) (vz _ _) w1) ?_ (fun _=>rfl);go_simp
    ·have d6:_→ev (aJ 26)=_:=hd.1 rfl;have d7:_→ev (aJ 27)=_:=hd.2.1 rfl;have d5:ev (aJ 25)=_:=hd.2.2.1 rfl;clear hd;refine gC d5 ye fun hA=>?_;have y6:=d6 hA;have y7:=d7 hA;have hi:=xD s k xH w1;refine Lag.Yields.value (v:=(ah .u8 (eF s k):aj)) (w':=w1) ?_ ⟨fun _=>rfl,cF (aw _ _)⟩;go_simp
    ·have d8:_→ev (aJ 28)=_:=hd.1 rfl;have d5:ev (aJ 25)=_:=hd.2.1 rfl;clear hd;refine gC d5 ye fun hA=>?_;have y8:=d8 hA;refine yc (args:=#[ah .u8 (eF s k)]) (KC (eF s k) (vz _ _) w1) ?_ (fun _=>fun _=>rfl);go_simp
    ·have d5:ev (aJ 25)=_:=hd.1 rfl;have d10:_→ev (aJ 30)=_:=hd.2.1 rfl;clear hd;exact yA rfl hc d5 (fun hq=>d10 (by simp[hq])) (rfl)
   intro a W hR;have ho:=hR.s;replace HB:=HB.tr ho;replace hF:=(hR.fr hF (by kernel_rfl)).cons (t:=31) (hR.val 11 (by decide));clear hR ho;refine cB (t:=((!(aQ (eF s k) 97 122))&&(!(aQ (eF s k) 48 57)))) (hF.g 0 rfl) (fun ZG=>?_) (fun ZG=>?_)
   ·skip
    replace hF:=hF.tl;have hres:ji s=false:=Qt k oC.1 xH (by unfold oB;revert ZG;cases aQ (eF s k) 97 122<;>cases aQ (eF s k) 48 57<;>simp);refine kJ ⟨[],[],[],[]⟩ [(2,aF false)] hF hF trivial trivial ?_;intro a W ho hF;replace HB:=HB.tr ho;clear ho;refine gq ?_;show dQ aq Tryz.f177 (fun e w'=>e=aK (aF (ji s))∧az w.heap.size w w') ej a W;exact bn (bU rfl _ _ _) hF.defers ⟨congrArg aK (((hF.g 0 rfl):a.eval (aJ 2)=aF false).trans (congrArg _ hres.symm)),HB⟩
   ·skip
    replace hF:=hF.tl;have hz:oB s k=true:=by unfold oB;revert ZG;cases aQ (eF s k) 97 122<;>cases aQ (eF s k) 48 57<;>simp
    refine fV ?_;show cH aq _ _ _ _;have vP:=hF;replace hF:=hF.tl;refine Uf ⟨[],[(1,ah ag ((k:Nat)+1))],[],[]⟩ [(3,ah ag ((k:Nat)+1))] vP hF trivial ⟨fun w1 hS _=>ge (congrArg (aG ag) (show IntKind.i64.wrap ((k:Nat)+1)=((k:Nat)+1) by rw[cD];omega)),trivial⟩ ?_;intro a W ho hF;clear vP;replace HB:=HB.tr ho;clear ho;refine⟨⟨k+1,by omega,⟨by omega,fun i h1 h2=>if hik:i<k then oC.2 i h1 hik else by have e:i=k:=(by omega);rw[e];exact hz⟩,⟨hF.size,hF.defers,hF.base⟩,HB⟩,?_⟩;rw[show a.eval (aJ 3)=ah ag ((k:Nat)+1) from(hF.g 0 rfl)];simp only[hk3];simp[intOf];omega
  ·skip
   replace hF:=hF.tl;refine wp_exit ?_;have Tw:k=s.size:=by simp at ZL;omega
   have hres:ji s=true:=Qs h0 h1 fun i FN hi2=>oC.2 i FN (by omega);show cH aq _ _ a W;show cH aq _ _ _ _;refine kJ ⟨[],[],[],[]⟩ [(2,aF true)] hF hF trivial trivial ?_;intro a W ho hF;replace HB:=HB.tr ho;clear ho;refine gq ?_;show dQ aq Tryz.f177 (fun e w'=>e=aK (aF (ji s))∧az w.heap.size w w') ej a W;exact bn (bU rfl _ _ _) hF.defers ⟨congrArg aK (((hF.g 0 rfl):a.eval (aJ 2)=aF true).trans (congrArg _ hres.symm)),HB⟩
def nM(b:BB)(pl:List Int)(i:Nat):Int:=if !(aQ (pl.getD i 0) 1 b.minutes) then 6 else if 0<i∧pl.getD i 0≤pl.getD (i-1) 0 then 7 else 0
def jA(b:BB)(pl:List Int):Int:=(((aT pl.length).map (nM b pl)).find? fun h=>h !=0).getD (if (pl.length:Int)>b.dc then 8 else 0)
theorem nR(f:Nat→Int):∀(n:Nat),(∀i,i<n→f i=0)→((aT n).map f).find? (fun h=>h !=0)=none:=by
 intro n h;rw[List.find?_eq_none];intro x hx;obtain⟨i,hi,rfl⟩:=List.mem_map.1 hx;simp[h i (bt.1 hi)]
theorem qY(f:Nat→Int)(n k:Nat)(hk:k<n)(h:∀i,i<k→f i=0)(h0:f k≠0):((aT n).map f).find? (fun h=>h !=0)=some (f k):=by
 have e:aT n=aT k++k::List.range' (k+1) (n-k-1):=by
  rw[mF,mF,show n=k+(1+(n-k-1)) by omega,←List.range'_append_1,Nat.zero_add,Nat.add_comm 1,List.range'_succ]
  congr 3
  omega
 have h1:(f k !=0)=true:=by simpa using h0
 rw[e,List.map_append,List.find?_append,nR f k h,List.map_cons,List.find?_cons,h1];rfl
theorem Reads.atK{w:ar}{p:Option cU}{n c:Nat}{zs:List Int}(h:Reads w (ae p n c) n (zs.map (aG ag)))(k:Nat)(hk:k<zs.length):∃g off,p=some ⟨g,off,none⟩∧g<w.heap.size∧∀j (hj:j<zs.length),w.cell? ⟨g,off+j,none⟩=some (ah ag (zs.getD j 0)):=by
 rcases h with⟨_,_,h⟩|⟨g,off,cap,h,_,hg,hc⟩
 ·rw[List.map_eq_nil_iff.1 h] at hk;simp at hk
 ·cases h;refine⟨g,off,rfl,hg,fun j hj=>hc j _ ?_⟩;simp[hj]
theorem FX(b:BB)(men sent marks:aj)(p1:Option cU)(c1:Nat)(pl:List Int)(hlen:pl.length≤1000)(w:ar)(hv:Reads w (ae p1 pl.length c1) pl.length (pl.map (aG ag))):bm aq 107 #[aO (b.cells men sent marks),ae p1 pl.length c1] w fun e w'=>e=aC (ah ag (jA b pl))∧az w.heap.size w w':=by
 refine mD Tryz.func107 rfl ?_;have hF:=kY (args:=#[aO (b.cells men sent marks),ae p1 pl.length c1]) (n:=38) (by simp) [(1,ae p1 pl.length c1),(0,aO (b.cells men sent marks))] ⟨nw rfl,nw rfl,trivial⟩;rw[show Tryz.f107.ntmps=38 from rfl];generalize (⟨#[aO (b.cells men sent marks),ae p1 pl.length c1]++aV (38-(#[aO (b.cells men sent marks),ae p1 pl.length c1]:Array aj).size) af,[]⟩:Act)=a at *;refine(fun h:∀W,az w.heap.size w W→cH aq _ _ a W=>h w (aw _ _)) ?_;intro W HB;have HC:lh (∀k,k<pl.length→∃g off,p1=some ⟨g,off,none⟩∧g<w.heap.size∧∀j (hj:j<pl.length),w.cell? ⟨g,off+j,none⟩=some (ah ag (pl.getD j 0))):=ai fun k hk=>hv.atK k hk;clear hv
 refine mL [fun v ds w9=>∃B,v=pv B 0∧w9.heap[B]?=some (au (b.cells men sent marks) 28 (0,0)),pV (ah ag 0)]
  _ (by kernel_rfl) hF.size hF.base ?_ ?_ ?_
 ·refine⟨?_,sV,trivial⟩
  ·rintro v ds w1 w2 hS ⟨B,h1,h2⟩ hb;exact⟨B,h1,aL h2 hb⟩
 ·refine⟨?_,?_,trivial⟩<;>rintro ev w1 hS hc hg hf ⟨-,b0,-⟩ hd
  ·clear hd;refine Lag.Yields.value (v:=pv w1.heap.size 0) (w':=w1.alloc (au (b.cells men sent marks) 28)) ?_ ⟨⟨_,rfl,ay _ _⟩,cF ((aw _ _).alloc (ax _) _)⟩;go_simp
  ·clear hd;exact tV
 intro a W hR;have ho:=hR.s;obtain⟨B2,e2,K2⟩:=hR.val 0 (by decide);replace e2:a.eval (aJ 2)=bp (some ⟨B2,0,none⟩):=e2;replace HB:=HB.tr ho;replace hF:=((hR.fr hF (by kernel_rfl)).cons (t:=2) e2).cons (t:=4) (hR.val 1 (by decide));clear hR ho e2;refine gp ?_;refine kJ ⟨[],[],[],[]⟩ [(5,ah ag 0)] hF hF trivial trivial ?_;intro a W ho hF;replace HB:=HB.tr ho;replace K2:=aL K2 ho;clear ho;refine tS ?_;refine wp_loop (fun a W=>∃k:Nat,k≤pl.length∧(∀i,i<k→nM b pl i=0)∧jg 38 a [(5,ah ag (k:Nat)),(2,bp (some ⟨B2,0,none⟩)),(1,ae p1 pl.length c1),(0,aO (b.cells men sent marks))]∧W.heap[B2]?=some (au (b.cells men sent marks) 28 (0,0))∧az w.heap.size w W) (fun a _=>pl.length-(intOf (a.eval (aJ 5))).toNat) ⟨0,Nat.zero_le _,fun i hi=>by omega,⟨hF.size,hF.defers,(by obtain⟨b5,-,b2,b1,b0,-⟩:=hF.base;exact⟨b5,b2,b1,b0,trivial⟩)⟩,K2,HB⟩ ?_;clear hF K2 HB
 try clear a
 try clear W
 rintro a W ⟨k,hk,hpre,hF,K2,HB⟩;have hk5:a.eval (aJ 5)=ah ag (k:Nat):=(hF.g 0 rfl)
 refine gp ?_;refine kJ ⟨[],[],[],[]⟩ [(9,aF (decide ((k:Int)<(pl.length:Int))))] hF hF trivial trivial ?_;intro a W ho hF;replace HB:=HB.tr ho;replace K2:=aL K2 ho;clear ho;refine cB (t:=(decide ((k:Int)<(pl.length:Int)))) (hF.g 0 rfl) (fun QE=>?_) (fun QE=>?_)
 ·skip
  replace hF:=hF.tl;have hlt:k<pl.length:=by simpa using QE
  obtain⟨g,off,rfl,hg,hcell⟩:=HC.out k hlt;have hW:w.heap.size≤W.heap.size:=HB.size;obtain⟨x,hx⟩:∃x,pl.getD k 0=x:=⟨_,rfl⟩
  have CX:∀w9,az w.heap.size w w9→w9.cell? ⟨g,off+k,none⟩=some (ah ag x):=fun w9 h9=>(h9.cell (p:=⟨g,off+k,none⟩) hg).trans (by rw[←hx];exact hcell k hlt);rcases k with _|j
  ·skip
   have Cx:lh (∀w9,az W.heap.size W w9→w9.cell? ⟨g,off,none⟩=some (ah ag x)):=ai fun w9 h9=>CX w9 (HB.trans (h9.mono hW));refine fV ?_;show cH aq _ _ _ _;refine gp ?_;refine tS ?_;refine gp ?_;refine He (by kernel_rfl) ⟨[],[(3,bp (some ⟨g,off,none⟩)),(4,ah ag x),(5,aF (aQ x 1 b.minutes))],[(B2,(b.cells men sent marks))],[]⟩ [(18,aF (!(aQ x 1 b.minutes)))] hF ⟨fun w1 hS=>⟨_,_,aL K2 hS⟩,trivial⟩ ⟨fun w1 hS _=>gs (j5 25 (ae (some ⟨g,off,none⟩) pl.length c1) (ah ag ((0:Nat):Int))) (by go_simp),fun w1 hS _=>gl (Cx.out w1 hS),fun w1 hS _=>gc (ry b men sent marks x w1),trivial⟩ ?_;intro a W ho hF;replace HB:=HB.tr ho;replace K2:=aL K2 ho;replace hW:=aN hW ho.size;replace Cx:=ai fun w9 (h9:az W.heap.size W w9)=>Cx.out w9 (ho.trans (h9.mono ho.size));clear ho;refine cB (t:=(!(aQ x 1 b.minutes))) (hF.g 0 rfl) (fun AA=>?_) (fun AA=>?_)
   ·skip
    replace hF:=hF.tl
    have hres:jA b pl=6:=by
     have h6:nM b pl 0=6:=by unfold nM;rw[hx];simp at AA;simp[AA]
     unfold jA;rw[qY _ _ 0 hlt hpre (by rw[h6];decide),h6];rfl
    refine kJ ⟨[],[],[],[]⟩ [(4,ah ag 6)] hF hF trivial trivial ?_;intro a W ho hF;replace HB:=HB.tr ho;replace K2:=aL K2 ho;replace hW:=aN hW ho.size;replace Cx:=ai fun w9 (h9:az W.heap.size W w9)=>Cx.out w9 (ho.trans (h9.mono ho.size));clear ho;refine gq ?_;show dQ aq Tryz.f107 (fun e w'=>e=aK (ah ag (jA b pl))∧az w.heap.size w w') ej a W;exact bn (bU rfl _ _ _) hF.defers ⟨congrArg aK (((hF.g 0 rfl):a.eval (aJ 4)=ah ag 6).trans (congrArg _ hres.symm)),HB⟩
   ·skip
    replace hF:=hF.tl;refine fV ?_;show cH aq _ _ _ _;refine He (by kernel_rfl) ⟨[(2,false)],[(1,aF false)],[],[]⟩ [(32,aF false)] hF trivial ⟨fun w1 hS _=>ge (congrArg l5 (show(decide ((((0:Nat):Int):Int)>(0:Int)))=false from decide_eq_false (by omega))),trivial⟩ ?_;intro a W ho hF;replace HB:=HB.tr ho;replace K2:=aL K2 ho;replace hW:=aN hW ho.size;replace Cx:=ai fun w9 (h9:az W.heap.size W w9)=>Cx.out w9 (ho.trans (h9.mono ho.size));clear ho;refine wp_cond (t:=false) (hF.g 0 rfl) ?_;show cH aq _ _ _ _;replace hF:=hF.tl;have hz:nM b pl 0=0:=by unfold nM;rw[hx];simp at AA;simp[AA]
    refine fV ?_;show cH aq _ _ _ _;have vP:=hF;replace hF:=hF.tl;refine Uf ⟨[],[(1,ah ag (((0:Nat):Int)+1))],[],[]⟩ [(5,ah ag (((0:Nat):Int)+1))] vP hF trivial ⟨fun w1 hS _=>ge (congrArg (aG ag) (show IntKind.i64.wrap (((0:Nat):Int)+1)=(((0:Nat):Int)+1) by rw[cD];omega)),trivial⟩ ?_;intro a W ho hF;clear vP;replace HB:=HB.tr ho;replace K2:=aL K2 ho;replace hW:=aN hW ho.size;replace Cx:=ai fun w9 (h9:az W.heap.size W w9)=>Cx.out w9 (ho.trans (h9.mono ho.size));clear ho;refine⟨⟨0+1,by omega,?_,⟨hF.size,hF.defers,hF.base⟩,K2,HB⟩,?_⟩
    ·intro i hi
     by_cases hik:i<0
     ·exact hpre i hik
     ·obtain rfl:i=0:=by omega
      exact hz
    ·rw[show a.eval (aJ 5)=ah ag (((0:Nat):Int)+1) from(hF.g 0 rfl)];simp only[hk5];simp[intOf];omega
  ·skip
   have Cx:lh (∀w9,az W.heap.size W w9→w9.cell? ⟨g,off+(j+1),none⟩=some (ah ag x)):=ai fun w9 h9=>CX w9 (HB.trans (h9.mono hW));obtain⟨y,hy⟩:∃y,pl.getD j 0=y:=⟨_,rfl⟩
   have Cy:lh (∀w9,az W.heap.size W w9→w9.cell? ⟨g,off+j,none⟩=some (ah ag y)):=ai fun w9 h9=>((HB.trans (h9.mono hW)).cell (p:=⟨g,off+j,none⟩) hg).trans (by rw[←hy];exact hcell j (by omega));refine fV ?_;show cH aq _ _ _ _;refine gp ?_;refine tS ?_;refine gp ?_;refine He (by kernel_rfl) ⟨[],[(3,bp (some ⟨g,off+(j+1),none⟩)),(4,ah ag x),(5,aF (aQ x 1 b.minutes))],[(B2,(b.cells men sent marks))],[]⟩ [(18,aF (!(aQ x 1 b.minutes)))] hF ⟨fun w1 hS=>⟨_,_,aL K2 hS⟩,trivial⟩ ⟨fun w1 hS _=>gs (j5 25 (ae (some ⟨g,off,none⟩) pl.length c1) (ah ag ((j+1:Nat):Int))) (by have FN:¬((pl.length:Int)≤(j:Int)+1):=(by omega);have hi2:0≤(j:Int)+1:=(by omega);go_simp),fun w1 hS _=>gl (Cx.out w1 hS),fun w1 hS _=>gc (ry b men sent marks x w1),trivial⟩ ?_;intro a W ho hF;replace HB:=HB.tr ho;replace K2:=aL K2 ho;replace hW:=aN hW ho.size;replace Cx:=ai fun w9 (h9:az W.heap.size W w9)=>Cx.out w9 (ho.trans (h9.mono ho.size));replace Cy:=ai fun w9 (h9:az W.heap.size W w9)=>Cy.out w9 (ho.trans (h9.mono ho.size));clear ho;refine cB (t:=(!(aQ x 1 b.minutes))) (hF.g 0 rfl) (fun AA=>?_) (fun AA=>?_)
   ·skip
    replace hF:=hF.tl
    have hres:jA b pl=6:=by
     have h6:nM b pl (j+1)=6:=by unfold nM;rw[hx];simp at AA;simp[AA]
     unfold jA;rw[qY _ _ (j+1) hlt hpre (by rw[h6];decide),h6];rfl
    refine kJ ⟨[],[],[],[]⟩ [(4,ah ag 6)] hF hF trivial trivial ?_;intro a W ho hF;replace HB:=HB.tr ho;replace K2:=aL K2 ho;replace hW:=aN hW ho.size;replace Cx:=ai fun w9 (h9:az W.heap.size W w9)=>Cx.out w9 (ho.trans (h9.mono ho.size));replace Cy:=ai fun w9 (h9:az W.heap.size W w9)=>Cy.out w9 (ho.trans (h9.mono ho.size));clear ho;refine gq ?_;show dQ aq Tryz.f107 (fun e w'=>e=aK (ah ag (jA b pl))∧az w.heap.size w w') ej a W;exact bn (bU rfl _ _ _) hF.defers ⟨congrArg aK (((hF.g 0 rfl):a.eval (aJ 4)=ah ag 6).trans (congrArg _ hres.symm)),HB⟩
   ·skip
    replace hF:=hF.tl;refine fV ?_;show cH aq _ _ _ _;refine He (by kernel_rfl) ⟨[(2,true)],[(1,aF true),(5,bp (some ⟨g,off+(j+1),none⟩)),(6,ah ag x),(9,ah ag (j:Int)),(10,bp (some ⟨g,off+j,none⟩)),(11,ah ag y)],[],[]⟩ [(32,aF (decide (x≤y)))] hF trivial ⟨fun w1 hS _=>ge (congrArg l5 (show(decide ((((j+1:Nat):Int):Int)>(0:Int)))=true from decide_eq_true (by omega))),fun w1 hS _=>gs (j5 25 (ae (some ⟨g,off,none⟩) pl.length c1) (ah ag ((j+1:Nat):Int))) (by have FN:¬((pl.length:Int)≤(j:Int)+1):=(by omega);have hi2:0≤(j:Int)+1:=(by omega);go_simp),fun w1 hS _=>gl (Cx.out w1 hS),fun w1 hS _=>ge (congrArg (aG ag) (show IntKind.i64.wrap (((j+1:Nat):Int)-1)=(j:Int) by rw[cD];omega)),fun w1 hS _=>gs (j5 25 (ae (some ⟨g,off,none⟩) pl.length c1) (ah ag (j:Int))) (by have FN:¬(pl.length≤j):=(by omega);go_simp),fun w1 hS _=>gl (Cy.out w1 hS),trivial⟩ ?_;intro a W ho hF;replace HB:=HB.tr ho;replace K2:=aL K2 ho;replace hW:=aN hW ho.size;replace Cx:=ai fun w9 (h9:az W.heap.size W w9)=>Cx.out w9 (ho.trans (h9.mono ho.size));replace Cy:=ai fun w9 (h9:az W.heap.size W w9)=>Cy.out w9 (ho.trans (h9.mono ho.size));clear ho;refine cB (t:=(decide (x≤y))) (hF.g 0 rfl) (fun KT=>?_) (fun KT=>?_)
    ·skip
     replace hF:=hF.tl
     have hres:jA b pl=7:=by
      have h7:nM b pl (j+1)=7:=by unfold nM;rw[hx,show((j+1)-1)=j from rfl,hy];simp at AA KT;simp[AA,KT]
      unfold jA;rw[qY _ _ (j+1) hlt hpre (by rw[h7];decide),h7];rfl
     refine kJ ⟨[],[],[],[]⟩ [(4,ah ag 7)] hF hF trivial trivial ?_;intro a W ho hF;replace HB:=HB.tr ho;replace K2:=aL K2 ho;replace hW:=aN hW ho.size;replace Cx:=ai fun w9 (h9:az W.heap.size W w9)=>Cx.out w9 (ho.trans (h9.mono ho.size));replace Cy:=ai fun w9 (h9:az W.heap.size W w9)=>Cy.out w9 (ho.trans (h9.mono ho.size));clear ho;refine gq ?_;show dQ aq Tryz.f107 (fun e w'=>e=aK (ah ag (jA b pl))∧az w.heap.size w w') ej a W;exact bn (bU rfl _ _ _) hF.defers ⟨congrArg aK (((hF.g 0 rfl):a.eval (aJ 4)=ah ag 7).trans (congrArg _ hres.symm)),HB⟩
    ·skip
     replace hF:=hF.tl;have hz:nM b pl (j+1)=0:=by unfold nM;rw[hx,show((j+1)-1)=j from rfl,hy];simp at AA KT;simp[AA];omega
     refine fV ?_;show cH aq _ _ _ _;have vP:=hF;replace hF:=hF.tl;refine Uf ⟨[],[(1,ah ag (((j+1:Nat):Int)+1))],[],[]⟩ [(5,ah ag (((j+1:Nat):Int)+1))] vP hF trivial ⟨fun w1 hS _=>ge (congrArg (aG ag) (show IntKind.i64.wrap (((j+1:Nat):Int)+1)=(((j+1:Nat):Int)+1) by rw[cD];omega)),trivial⟩ ?_;intro a W ho hF;clear vP;replace HB:=HB.tr ho;replace K2:=aL K2 ho;replace hW:=aN hW ho.size;replace Cx:=ai fun w9 (h9:az W.heap.size W w9)=>Cx.out w9 (ho.trans (h9.mono ho.size));replace Cy:=ai fun w9 (h9:az W.heap.size W w9)=>Cy.out w9 (ho.trans (h9.mono ho.size));clear ho;refine⟨⟨(j+1)+1,by omega,?_,⟨hF.size,hF.defers,hF.base⟩,K2,HB⟩,?_⟩
     ·intro i hi
      by_cases hik:i<(j+1)
      ·exact hpre i hik
      ·obtain rfl:i=(j+1):=by omega
       exact hz
     ·rw[show a.eval (aJ 5)=ah ag (((j+1:Nat):Int)+1) from(hF.g 0 rfl)];simp only[hk5];simp[intOf];omega
 ·skip
  replace hF:=hF.tl;refine wp_exit ?_;have xI:k=pl.length:=by simp at QE;omega
  rw[xI] at hpre;show cH aq _ _ a W;show cH aq _ _ _ _;refine gp ?_;refine kJ ⟨[],[],[(B2,(b.cells men sent marks))],[]⟩ [(37,aF (decide ((pl.length:Int)>b.dc)))] hF hF ⟨fun w1 hS=>⟨_,_,aL K2 hS⟩,trivial⟩ trivial ?_;intro a W ho hF;replace HB:=HB.tr ho;replace K2:=aL K2 ho;clear ho;refine cB (t:=(decide ((pl.length:Int)>b.dc))) (hF.g 0 rfl) (fun Wv=>?_) (fun Wv=>?_)
  ·skip
   replace hF:=hF.tl;have hres:jA b pl=8:=by unfold jA;rw[nR _ _ hpre];simp at Wv;simp[Wv]
   refine kJ ⟨[],[],[],[]⟩ [(4,ah ag 8)] hF hF trivial trivial ?_;intro a W ho hF;replace HB:=HB.tr ho;replace K2:=aL K2 ho;clear ho;refine gq ?_;show dQ aq Tryz.f107 (fun e w'=>e=aK (ah ag (jA b pl))∧az w.heap.size w w') ej a W;exact bn (bU rfl _ _ _) hF.defers ⟨congrArg aK (((hF.g 0 rfl):a.eval (aJ 4)=ah ag 8).trans (congrArg _ hres.symm)),HB⟩
  ·skip
   replace hF:=hF.tl;have hres:jA b pl=0:=by unfold jA;rw[nR _ _ hpre];simp at Wv;simp;omega
   refine fV ?_;show cH aq _ _ _ _;refine kJ ⟨[],[],[],[]⟩ [(4,ah ag 0)] hF hF trivial trivial ?_;intro a W ho hF;replace HB:=HB.tr ho;replace K2:=aL K2 ho;clear ho;refine gq ?_;show dQ aq Tryz.f107 (fun e w'=>e=aK (ah ag (jA b pl))∧az w.heap.size w w') ej a W;exact bn (bU rfl _ _ _) hF.defers ⟨congrArg aK (((hF.g 0 rfl):a.eval (aJ 4)=ah ag 0).trans (congrArg _ hres.symm)),HB⟩
def oZ(l:List Mn)(i:Nat):Mn:=l.getD i ⟨⟨#[]⟩,0,0⟩
theorem yU(l:List Mn)(i:Nat)(h:i<l.length):oZ l i=l[i]:=by simp[oZ,h]
def wY(ml:List Mn)(g off:Nat)(W:ar):Prop:=g<W.heap.size∧∀i,i<ml.length→W.cell? ⟨g,off+i*3,none⟩=some (.string (oZ ml i).name)∧W.cell? ⟨g,off+i*3+1,none⟩=some (ah ag (oZ ml i).lo)∧W.cell? ⟨g,off+i*3+2,none⟩=some (ah ag (oZ ml i).hi)
theorem wY.below{ml:List Mn}{g off:Nat}{W W':ar}(h:wY ml g off W)(ho:az W.heap.size W W'):wY ml g off W':=
 ⟨bB h.1 ho.size,fun i hi=>⟨(ho.cell (p:=⟨g,off+i*3,none⟩) h.1).trans (h.2 i hi).1,(ho.cell (p:=⟨g,off+i*3+1,none⟩) h.1).trans (h.2 i hi).2.1,(ho.cell (p:=⟨g,off+i*3+2,none⟩) h.1).trans (h.2 i hi).2.2⟩⟩
theorem Reads.men{w:ar}{p:Option cU}{n c:Nat}{ml:List Mn}(h:Reads w (ae p n c) n (dS ml))(k:Nat)(hk:k<ml.length):∃g off,p=some ⟨g,off,none⟩∧wY ml g off w:=by
 rcases h with⟨_,_,h⟩|⟨g,off,cap,h,_,hg,hc⟩
 ·have:=congrArg List.length h;rw[rW] at this;simp at this;omega
 ·cases h;refine⟨g,off,rfl,hg,fun i hi=>?_⟩;rw[yU ml i hi];exact CV hc i hi
def Ds(a b:ByteArray):Bool:=a.toList==b.toList
theorem PU{a b:ByteArray}:Ds a b=true↔a=b:=by
 unfold Ds;constructor
 ·intro h
  by_cases e:a=b
  ·exact e
  ·exact absurd (by simpa using h) (LK e)
 ·rintro rfl;simp
def twice(l:List Mn)(i:Nat):Bool:=(aT i).any fun j=>Ds (oZ l j).name (oZ l i).name
theorem Gm{l:List Mn}{i:Nat}(j:Nat)(hj:j<i)(h:Ds (oZ l j).name (oZ l i).name=true):twice l i=true:=by
 unfold twice;rw[List.any_eq_true];exact⟨j,bt.2 hj,h⟩
theorem RR{l:List Mn}{i:Nat}(h:∀j,j<i→Ds (oZ l j).name (oZ l i).name=false):twice l i=false:=by
 unfold twice;rw[List.any_eq_false];intro j hj;rw[h j (bt.1 hj)];simp
def qb(m:Mn):Bool:=(!(bW m.lo m.hi 1 99))||decide (m.hi-m.lo≥3)
def mX(l:List Mn)(i:Nat):Int:=if (!(ji (oZ l i).name))=true then 4 else if twice l i=true then 5 else if qb (oZ l i)=true then 1 else 0
def nu(l:List Mn):Int:=if (l.length:Int)>3 then 2 else(((aT l.length).map (mX l)).find? fun h=>h !=0).getD 0
theorem PH{lo hi:Int}(h:bW lo hi 1 99=true):IntKind.i64.wrap (hi-lo)=hi-lo:=by
 unfold bW at h;simp at h;rw[cD];omega
theorem D8{l:List Mn}{i:Nat}(h:mX l i=0):ji (oZ l i).name=true∧twice l i=false∧qb (oZ l i)=false:=by
 unfold mX at h;cases h1:ji (oZ l i).name<;>cases h2:twice l i<;>cases h3:qb (oZ l i)<;>simp_all
theorem SQ{l:List Mn}(h:nu l=0):mR l:=by
 unfold nu at h
 have h3:(l.length:Int)≤3:=by
  refine Int.not_lt.1 fun h'=>?_;rw[if_pos h'] at h;cases h
 rw[if_neg (by omega)] at h
 have hz:∀i,i<l.length→mX l i=0:=by
  intro i hi;refine Classical.byContradiction fun hne=>?_
  have hs:((aT l.length).map (mX l)).find? (fun h=>h !=0)≠none:=by
   rw[Ne,List.find?_eq_none];intro hall;exact hall _ (List.mem_map.2 ⟨i,bt.2 hi,rfl⟩) (by simpa using hne)
  cases e:((aT l.length).map (mX l)).find? (fun h=>h !=0) with
  |none=>exact hs e
  |some x=>
   rw[e] at h;have:=List.find?_some e;simp at h this;exact this h
 refine⟨fun m hm=>?_,fun i k hi hk hik he=>?_,by omega⟩
 ·obtain⟨i,hi,rfl⟩:=List.getElem_of_mem hm;obtain⟨h1,-,h2⟩:=D8 (hz i hi);rw[yU l i hi] at h1 h2;unfold qb bW at h2;simp at h2;exact⟨M5 h1,by omega,by omega,by omega,by omega⟩
 ·obtain⟨-,h2,-⟩:=D8 (hz k hk);have:=Gm (l:=l) i hik (PU.2 (by rw[yU l i hi,yU l k hk];exact he));rw[this] at h2;cases h2
theorem IE{l:List Mn}(i:Nat)(h3:¬(l.length:Int)>3)(hi:i<l.length)(hpre:∀k,k<i→mX l k=0)(h:mX l i≠0):nu l=mX l i:=by
 unfold nu;rw[if_neg h3,qY _ _ i hi hpre h];rfl
theorem Qj{l:List Mn}(h3:¬(l.length:Int)>3)(hpre:∀k,k<l.length→mX l k=0):nu l=0:=by
 unfold nu;rw[if_neg h3,nR _ _ hpre];rfl
theorem Jh(b:BB)(sent marks:aj)(p1:Option cU)(c1:Nat)(ml:List Mn)(hlen:ml.length≤1000000)(w:ar)(hv:Reads w (ae p1 ml.length c1) ml.length (dS ml)):bm aq 146 #[aO (b.cells (ae p1 ml.length c1) sent marks)] w fun e w'=>e=aC (ah ag (nu ml))∧az w.heap.size w w':=by
 refine mD Tryz.func146 rfl ?_;have hF:=kY (args:=#[aO (b.cells (ae p1 ml.length c1) sent marks)]) (n:=54) (by simp) [(0,aO (b.cells (ae p1 ml.length c1) sent marks))] ⟨nw rfl,trivial⟩;rw[show Tryz.f146.ntmps=54 from rfl];generalize (⟨#[aO (b.cells (ae p1 ml.length c1) sent marks)]++aV (54-(#[aO (b.cells (ae p1 ml.length c1) sent marks)]:Array aj).size) af,[]⟩:Act)=a at *;refine(fun h:∀W,az w.heap.size w W→cH aq _ _ a W=>h w (aw _ _)) ?_;intro W HB;have HC:lh (∀k,k<ml.length→∃g off,p1=some ⟨g,off,none⟩∧wY ml g off w):=ai fun k hk=>hv.men k hk;clear hv
 refine mL [fun v ds w9=>∃B,v=pv B 0∧w9.heap[B]?=some (au (b.cells (ae p1 ml.length c1) sent marks) 28 (0,0)),pV (ah ag 0)]
  _ (by kernel_rfl) hF.size hF.base ?_ ?_ ?_
 ·refine⟨?_,sV,trivial⟩
  ·rintro v ds w1 w2 hS ⟨B,h1,h2⟩ hb;exact⟨B,h1,aL h2 hb⟩
 ·refine⟨?_,?_,trivial⟩<;>rintro ev w1 hS hc hg hf ⟨b0,-⟩ hd
  ·clear hd;refine Lag.Yields.value (v:=pv w1.heap.size 0) (w':=w1.alloc (au (b.cells (ae p1 ml.length c1) sent marks) 28)) ?_ ⟨⟨_,rfl,ay _ _⟩,cF ((aw _ _).alloc (ax _) _)⟩;go_simp
  ·clear hd;exact tV
 intro a W hR;have ho:=hR.s;obtain⟨B1,e1,K1⟩:=hR.val 0 (by decide);replace e1:a.eval (aJ 1)=bp (some ⟨B1,0,none⟩):=e1;replace HB:=HB.tr ho;replace hF:=((hR.fr hF (by kernel_rfl)).cons (t:=1) e1).cons (t:=2) (hR.val 1 (by decide));clear hR ho e1;refine gp ?_;refine kJ ⟨[],[],[(B1,(b.cells (ae p1 ml.length c1) sent marks))],[]⟩ [(9,aF (decide ((ml.length:Int)>3)))] hF hF ⟨fun w1 hS=>⟨_,_,aL K1 hS⟩,trivial⟩ trivial ?_;intro a W ho hF;replace HB:=HB.tr ho;replace K1:=aL K1 ho;clear ho;refine cB (t:=(decide ((ml.length:Int)>3))) (hF.g 0 rfl) (fun QE=>?_) (fun QE=>?_)
 ·skip
  replace hF:=hF.tl;have hres:nu ml=2:=by unfold nu;rw[if_pos (by simpa using QE)]
  replace hF:=hF.tl;refine kJ ⟨[],[],[],[]⟩ [(2,ah ag 2)] hF hF trivial trivial ?_;intro a W ho hF;replace HB:=HB.tr ho;replace K1:=aL K1 ho;clear ho;refine gq ?_;show dQ aq Tryz.f146 (fun e w'=>e=aK (ah ag (nu ml))∧az w.heap.size w w') ej a W;exact bn (bU rfl _ _ _) hF.defers ⟨congrArg aK (((hF.g 0 rfl):a.eval (aJ 2)=ah ag 2).trans (congrArg _ hres.symm)),HB⟩
 ·skip
  replace hF:=hF.tl;have h3:¬(ml.length:Int)>3:=by simpa using QE
  refine fV ?_;show cH aq _ _ _ _;refine gp ?_;refine kJ ⟨[],[],[],[]⟩ [(3,ah ag 0)] hF hF trivial trivial ?_;intro a W ho hF;replace HB:=HB.tr ho;replace K1:=aL K1 ho;clear ho;refine tS ?_;refine wp_loop (fun a W=>∃k:Nat,k≤ml.length∧(∀i,i<k→mX ml i=0)∧jg 54 a [(3,ah ag (k:Nat)),(1,bp (some ⟨B1,0,none⟩)),(0,aO (b.cells (ae p1 ml.length c1) sent marks))]∧az w.heap.size w W∧W.heap[B1]?=some (au (b.cells (ae p1 ml.length c1) sent marks) 28 (0,0))) (fun a _=>ml.length-(intOf (a.eval (aJ 3))).toNat) ⟨0,by omega,fun i hi=>by omega,⟨hF.size,hF.defers,(by obtain⟨b3,-,b1,b0,-⟩:=hF.base;exact⟨b3,b1,b0,trivial⟩)⟩,HB,K1⟩ ?_;clear hF HB K1
  try clear a
  try clear W
  rintro a W ⟨k,sS,oC,hF,HB,K1⟩;have hk3:a.eval (aJ 3)=ah ag (k:Nat):=(hF.g 0 rfl)
  refine gp ?_;refine kJ ⟨[],[],[(B1,(b.cells (ae p1 ml.length c1) sent marks))],[]⟩ [(14,aF (decide ((k:Int)<(ml.length:Int))))] hF hF ⟨fun w1 hS=>⟨_,_,aL K1 hS⟩,trivial⟩ trivial ?_;intro a W ho hF;replace HB:=HB.tr ho;replace K1:=aL K1 ho;clear ho;refine cB (t:=(decide ((k:Int)<(ml.length:Int)))) (hF.g 0 rfl) (fun TA=>?_) (fun TA=>?_)
  ·skip
   replace hF:=hF.tl;have xH:k<ml.length:=by simpa using TA
   obtain⟨g,off,rfl,hM⟩:=HC.out k xH;have CM:=hM.below HB;clear hM;obtain⟨m,hm⟩:∃m,oZ ml k=m:=⟨_,rfl⟩
   have hw1:IntKind.i64.wrap ((k:Int)+1)=(k:Int)+1:=by rw[cD];omega
   refine fV ?_;show cH aq _ _ _ _;refine gp ?_;refine tS ?_
   refine mL [pV (bp (some ⟨B1,12,none⟩)),pV (ae (some ⟨g,off,none⟩) ml.length c1),pV (ah ag (k:Nat)),pV (bp (some ⟨g,off+k*3,none⟩)),pV (aO #[.string m.name,ah ag m.lo,ah ag m.hi]),fun v ds w9=>∃B,∃z:Array aj,v=pv B 0∧w9.heap[B]?=some (au z 79 (0,0))∧z.size=3∧W.heap.size≤B,fun v ds w9=>∃B,ds[0]?=some (pv B 0)∧W.heap.size≤B∧w9.heap[B]?=some (au #[.string m.name,ah ag m.lo,ah ag m.hi] 79 (0,0))]
    _ (by kernel_rfl) hF.size hF.base ?_ ?_ ?_
   ·refine⟨sV,sV,sV,sV,sV,?_,?_,trivial⟩
    ·rintro v ds w1 w2 hS ⟨B,z,h1,h2,h3,h4⟩ hb;exact⟨B,z,h1,aL h2 hb,h3,h4⟩
    ·rintro v ds w1 w2 hS ⟨B,h1,h4,h2⟩ hb;exact⟨B,h1,h4,aL h2 hb⟩
   ·refine⟨?_,?_,?_,?_,?_,?_,?_,trivial⟩<;>rintro ev w1 hS hc hg hf ⟨b3,b1,-,-⟩ hd
    all_goals try
     clear hd;refine yw rfl ?_ rfl;go_simp;done
    ·have d0:ev (aJ 17)=_:=hd.1 rfl;clear hd;have z:=aH (aL K1 hS) 12 _ rfl;exact tV
    ·have d1:ev (aJ 18)=_:=hd.1 rfl;have d2:ev (aJ 19)=_:=hd.2.1 rfl;clear hd;have FN:¬(ml.length≤k):=by omega
     exact tV
    ·have d3:ev (aJ 20)=_:=hd.1 rfl;clear hd;obtain⟨z1,z2,z3⟩:=(wY.below CM hS).2 k (by omega);rw[hm] at z1 z2 z3;exact tV
    ·clear hd;refine Lag.Yields.value (v:=pv w1.heap.size 0) (w':=w1.alloc (au #[.string ⟨#[]⟩,ah ag 0,ah ag 0] 79)) ?_ ⟨⟨_,_,rfl,ay _ _,rfl,hS.size⟩,cF ((aw _ _).alloc (ax _) _)⟩;go_simp
    ·have d5:∃B,∃z:Array aj,(ev (aJ 4))=pv B 0∧w1.heap[B]?=some (au z 79 (0,0))∧z.size=3∧W.heap.size≤B:=hd.1 rfl;have d4:ev (aJ 21)=_:=hd.2.1 rfl;clear hd;obtain⟨B,z,eB,hB,hz,hge⟩:=d5;refine Lag.Yields.nI 79 _ _ rfl B #[.string m.name,ah ag m.lo,ah ag m.hi] eB d4 79 z hB (by kernel_rfl) hz (by simp[cu]) ⟨⟨B,congrArg some eB,hge,cV hB⟩,.inr ⟨dA hS hge,?_⟩⟩;intro j u ds hj hp
     match j,hp with
     |0,hp=>exact hp
     |1,hp=>exact hp
     |2,hp=>exact hp
     |3,hp=>exact hp
     |4,hp=>exact hp
     |5,⟨B',z',h1,h2,h3,h4⟩=>
      by_cases zX:B'=B
      ·subst zX;rw[hB] at h2;cases h2;exact⟨B',_,h1,cV hB,hz.symm.trans h3,h4⟩
      ·exact⟨B',z',h1,(setRow_other zX).trans h2,h3,h4⟩
     |6,_=>exact(hj rfl).elim
     |j+7,_=>trivial
   intro a W hR;have ho:=hR.s;obtain⟨B4,q4,-,K4⟩:=hR.val 6 (by decide);have e4:a.eval (aJ 4)=bp (some ⟨B4,0,none⟩):=Option.some.inj q4;clear q4;replace HB:=HB.tr ho;replace K1:=aL K1 ho;replace CM:=CM.below ho;replace hF:=(hR.fr hF (by kernel_rfl)).cons (t:=4) e4;clear hR ho e4;refine gp ?_;refine kJ ⟨[],[(2,aF (ji m.name))],[(B4,#[.string m.name,ah ag m.lo,ah ag m.hi])],[]⟩ [(25,aF (!(ji m.name)))] hF hF ⟨fun w1 hS=>⟨_,_,aL K4 hS⟩,trivial⟩ ⟨fun w1 hS _=>gc (Qr m.name w1),trivial⟩ ?_;intro a W ho hF;replace HB:=HB.tr ho;replace K1:=aL K1 ho;replace CM:=CM.below ho;replace K4:=aL K4 ho;clear ho;refine cB (t:=(!(ji m.name))) (hF.g 0 rfl) (fun ZJ=>?_) (fun ZJ=>?_)
   ·skip
    replace hF:=hF.tl;have h4:mX ml k=4:=by unfold mX;rw[hm,if_pos ZJ]
    have hres:nu ml=4:=(IE k h3 xH oC (by rw[h4];decide)).trans h4;refine kJ ⟨[],[],[],[]⟩ [(2,ah ag 4)] hF hF trivial trivial ?_;intro a W ho hF;replace HB:=HB.tr ho;replace K1:=aL K1 ho;replace CM:=CM.below ho;replace K4:=aL K4 ho;clear ho;refine gq ?_;show dQ aq Tryz.f146 (fun e w'=>e=aK (ah ag (nu ml))∧az w.heap.size w w') ej a W;exact bn (bU rfl _ _ _) hF.defers ⟨congrArg aK (((hF.g 0 rfl):a.eval (aJ 2)=ah ag 4).trans (congrArg _ hres.symm)),HB⟩
   ·skip
    replace hF:=hF.tl;have QB:(!(ji m.name))≠true:=by rw[ZJ];simp
    refine fV ?_;show cH aq _ _ _ _;refine gp ?_;refine kJ ⟨[],[],[],[]⟩ [(5,ah ag 0)] hF hF trivial trivial ?_;intro a W ho hF;replace HB:=HB.tr ho;replace K1:=aL K1 ho;replace CM:=CM.below ho;replace K4:=aL K4 ho;clear ho;refine tS ?_;refine wp_loop (fun a W=>∃j:Nat,j≤k∧(∀i,i<j→Ds (oZ ml i).name m.name=false)∧jg 54 a [(5,ah ag (j:Nat)),(4,bp (some ⟨B4,0,none⟩)),(3,ah ag (k:Nat)),(1,bp (some ⟨B1,0,none⟩)),(0,aO (b.cells (ae (some ⟨g,off,none⟩) ml.length c1) sent marks))]∧az w.heap.size w W∧W.heap[B1]?=some (au (b.cells (ae (some ⟨g,off,none⟩) ml.length c1) sent marks) 28 (0,0))∧wY ml g off W∧W.heap[B4]?=some (au #[.string m.name,ah ag m.lo,ah ag m.hi] 79 (0,0))) (fun a _=>k-(intOf (a.eval (aJ 5))).toNat) ⟨0,by omega,fun i hi=>by omega,⟨hF.size,hF.defers,hF.base⟩,HB,K1,CM,K4⟩ ?_;clear hF HB K1 CM K4
    try clear a
    try clear W
    rintro a W ⟨j,hkj,XK,hF,HB,K1,CM,K4⟩;have hk5:a.eval (aJ 5)=ah ag (j:Nat):=(hF.g 0 rfl)
    refine gp ?_;refine kJ ⟨[],[],[],[]⟩ [(28,aF (decide ((j:Int)<(k:Int))))] hF hF trivial trivial ?_;intro a W ho hF;replace HB:=HB.tr ho;replace K1:=aL K1 ho;replace CM:=CM.below ho;replace K4:=aL K4 ho;clear ho;refine cB (t:=(decide ((j:Int)<(k:Int)))) (hF.g 0 rfl) (fun ZH=>?_) (fun ZH=>?_)
    ·skip
     replace hF:=hF.tl;have afX:j<k:=by simpa using ZH
     have hw2:IntKind.i64.wrap ((j:Int)+1)=(j:Int)+1:=by rw[cD];omega
     refine fV ?_;show cH aq _ _ _ _;refine gp ?_;refine tS ?_
     refine T7 (by kernel_rfl) [pV (bp (some ⟨B1,12,none⟩)),pV (ae (some ⟨g,off,none⟩) ml.length c1),pV (ah ag (j:Nat)),pV (bp (some ⟨g,off+j*3,none⟩)),pV (bp (some ⟨g,off+j*3,none⟩)),pV (.string (oZ ml j).name),pV (bp (some ⟨B4,0,none⟩)),pV (.string m.name),pV (aF (((oZ ml j).name).toList==m.name.toList))]
      _ (by kernel_rfl) hF.size hF.base ?_ ?_ ?_
     ·exact⟨sV,sV,sV,sV,sV,sV,sV,sV,sV,trivial⟩
     ·refine⟨?_,?_,?_,?_,?_,?_,?_,?_,?_,trivial⟩<;>rintro ev w1 hS hc hg hf ⟨b5,b4,-,b1,-,-⟩ hd
      all_goals try
       try have d0:ev (aJ _)=_:=hd.1 rfl
       try have d1:ev (aJ _)=_:=hd.2.1 rfl
       clear hd;refine yw rfl ?_ rfl;go_simp;done
      ·have d0:ev (aJ 31)=_:=hd.1 rfl;clear hd;have z:=aH (aL K1 hS) 12 _ rfl;exact tV
      ·have d1:ev (aJ 32)=_:=hd.1 rfl;have d2:ev (aJ 33)=_:=hd.2.1 rfl;clear hd;have FN:¬(ml.length≤j):=by omega
       exact tV
      ·have d4:ev (aJ 35)=_:=hd.1 rfl;clear hd;obtain⟨z1,z2,z3⟩:=(wY.below CM hS).2 j (by omega);exact tV
      ·have d6:ev (aJ 37)=_:=hd.1 rfl;clear hd;have z:=aH (aL K4 hS) 0 _ rfl;exact tV
     intro a W hR;have ho:=hR.s;replace HB:=HB.tr ho;replace K1:=aL K1 ho;replace CM:=CM.below ho;replace K4:=aL K4 ho;replace hF:=(hR.fr hF (by kernel_rfl)).cons (t:=39) (hR.val 8 (by decide));clear hR ho;refine cB (t:=(((oZ ml j).name).toList==m.name.toList)) (hF.g 0 rfl) (fun ZE=>?_) (fun ZE=>?_)
     ·skip
      replace hF:=hF.tl;have h5:mX ml k=5:=by unfold mX;rw[hm,if_neg QB,if_pos (Gm j afX (by rw[hm];exact ZE))]
      have hres:nu ml=5:=(IE k h3 xH oC (by rw[h5];decide)).trans h5;refine kJ ⟨[],[],[],[]⟩ [(2,ah ag 5)] hF hF trivial trivial ?_;intro a W ho hF;replace HB:=HB.tr ho;replace K1:=aL K1 ho;replace CM:=CM.below ho;replace K4:=aL K4 ho;clear ho;refine gq ?_;show dQ aq Tryz.f146 (fun e w'=>e=aK (ah ag (nu ml))∧az w.heap.size w w') ej a W;exact bn (bU rfl _ _ _) hF.defers ⟨congrArg aK (((hF.g 0 rfl):a.eval (aJ 2)=ah ag 5).trans (congrArg _ hres.symm)),HB⟩
     ·skip
      replace hF:=hF.tl;have hz:Ds (oZ ml j).name m.name=false:=ZE;refine fV ?_;show cH aq _ _ _ _;have vP:=hF;replace hF:=hF.tl;refine Uf ⟨[],[(1,ah ag ((j:Nat)+1))],[],[]⟩ [(5,ah ag ((j:Nat)+1))] vP hF trivial ⟨fun w1 hS _=>ge (congrArg (aG ag) (show IntKind.i64.wrap ((j:Nat)+1)=((j:Nat)+1) by rw[cD];omega)),trivial⟩ ?_;intro a W ho hF;clear vP;replace HB:=HB.tr ho;replace K1:=aL K1 ho;replace CM:=CM.below ho;replace K4:=aL K4 ho;clear ho;refine⟨⟨j+1,by omega,fun i hi=>if hik:i<j then XK i hik else by have e:i=j:=(by omega);rw[e];exact hz,⟨hF.size,hF.defers,hF.base⟩,HB,K1,CM,K4⟩,?_⟩;rw[show a.eval (aJ 5)=ah ag ((j:Nat)+1) from(hF.g 0 rfl)];simp only[hk5];simp[intOf];omega
    ·skip
     replace hF:=hF.tl;refine wp_exit ?_;have aiV:j=k:=by simp at ZH;omega
     have htw:twice ml k=false:=RR fun i hi=>by rw[hm];exact XK i (by omega)
     show cH aq _ _ a W;show cH aq _ _ _ _
     refine mL [pV (bp (some ⟨B4,1,none⟩)),pV (aO #[ah ag m.lo,ah ag m.hi]),pV (aF (bW m.lo m.hi 1 99)),pV (aF (!(bW m.lo m.hi 1 99))),pV (aF (!(bW m.lo m.hi 1 99))),pC (!(!(bW m.lo m.hi 1 99))) (bp (some ⟨B4,1,none⟩)),pC (!(!(bW m.lo m.hi 1 99))) (bp (some ⟨B4,2,none⟩)),pC (!(!(bW m.lo m.hi 1 99))) (ah ag m.hi),pC (!(!(bW m.lo m.hi 1 99))) (bp (some ⟨B4,1,none⟩)),pC (!(!(bW m.lo m.hi 1 99))) (bp (some ⟨B4,1,none⟩)),pC (!(!(bW m.lo m.hi 1 99))) (ah ag m.lo),pC (!(!(bW m.lo m.hi 1 99))) (ah ag (m.hi-m.lo)),pC (!(!(bW m.lo m.hi 1 99))) (aF (decide ((m.hi-m.lo)≥3))),pV (aF ((!(bW m.lo m.hi 1 99))||(decide ((m.hi-m.lo)≥3))))]
      _ (by kernel_rfl) hF.size hF.base ?_ ?_ ?_
     ·exact⟨sV,sV,sV,sV,sV,sC,sC,sC,sC,sC,sC,sC,sC,sV,trivial⟩
     ·refine⟨?_,?_,?_,?_,?_,?_,?_,?_,?_,?_,?_,?_,?_,?_,trivial⟩<;>rintro ev w1 hS hc hg hf ⟨-,b4,-,-,-,-⟩ hd
      all_goals try
       try have d0:ev (aJ _)=_:=hd.1 rfl
       clear hd;refine yw rfl ?_ rfl;go_simp;done
      all_goals try
       try have d0:ev (aJ _)=_:=hd.1 rfl
       try have c0:_→ev (aJ _)=_:=hd.1 rfl
       try have d1:ev (aJ _)=_:=hd.2.1 rfl
       clear hd
       first|refine gC d0 lS fun hA=>?_|refine gC d1 lS fun hA=>?_
       try replace c0:=c0 hA
       refine yw rfl ?_ (fun _=>rfl);go_simp;done
      ·have d0:ev (aJ 40)=_:=hd.1 rfl;clear hd;have z1:=aH (aL K4 hS) 1 _ rfl;have z2:=aH (aL K4 hS) 2 _ rfl;exact tV
      ·have d1:ev (aJ 41)=_:=hd.1 rfl;clear hd;refine yc (qU m.lo m.hi 1 99 w1) ?_ (fun _=>rfl);go_simp
      ·have d6:_→ev (aJ 46)=_:=hd.1 rfl;have d4:ev (aJ 44)=_:=hd.2.1 rfl;clear hd;refine gC d4 lS fun hA=>?_;have y6:=d6 hA;have z:=aH (aL K4 hS) 2 _ rfl;refine yv ?_ (fun _=>rfl);go_simp
      ·have d9:_→ev (aJ 49)=_:=hd.1 rfl;have d4:ev (aJ 44)=_:=hd.2.1 rfl;clear hd;refine gC d4 lS fun hA=>?_;have y9:=d9 hA;have z:=aH (aL K4 hS) 1 _ rfl;refine yv ?_ (fun _=>rfl);go_simp
      ·have d7:_→ev (aJ 47)=_:=hd.1 rfl;have d10:_→ev (aJ 50)=_:=hd.2.1 rfl;have d4:ev (aJ 44)=_:=hd.2.2.1 rfl;clear hd;refine gC d4 lS fun hA=>?_;have y7:=d7 hA;have Mp:=d10 hA;have hw:=PH (lo:=m.lo) (hi:=m.hi) (by revert hA;cases bW m.lo m.hi 1 99<;>simp);refine yv ?_ (fun _=>rfl);go_simp
      ·have d4:ev (aJ 44)=_:=hd.1 rfl;have d12:_→ev (aJ 52)=_:=hd.2.1 rfl;clear hd;exact yO rfl hc d4 (fun hq=>d12 (by simp[hq])) (rfl)
     intro a W hR;have ho:=hR.s;replace HB:=HB.tr ho;replace K1:=aL K1 ho;replace CM:=CM.below ho;replace K4:=aL K4 ho;replace hF:=(hR.fr hF (by kernel_rfl)).cons (t:=53) (hR.val 13 (by decide));clear hR ho;refine cB (t:=((!(bW m.lo m.hi 1 99))||(decide ((m.hi-m.lo)≥3)))) (hF.g 0 rfl) (fun ZB=>?_) (fun ZB=>?_)
     ·skip
      replace hF:=hF.tl;have h1:mX ml k=1:=by unfold mX;rw[hm,if_neg QB,if_neg (by rw[htw];simp),if_pos (show qb m=true from ZB)]
      have hres:nu ml=1:=(IE k h3 xH oC (by rw[h1];decide)).trans h1;refine kJ ⟨[],[],[],[]⟩ [(2,ah ag 1)] hF hF trivial trivial ?_;intro a W ho hF;replace HB:=HB.tr ho;replace K1:=aL K1 ho;replace CM:=CM.below ho;replace K4:=aL K4 ho;clear ho;refine gq ?_;show dQ aq Tryz.f146 (fun e w'=>e=aK (ah ag (nu ml))∧az w.heap.size w w') ej a W;exact bn (bU rfl _ _ _) hF.defers ⟨congrArg aK (((hF.g 0 rfl):a.eval (aJ 2)=ah ag 1).trans (congrArg _ hres.symm)),HB⟩
     ·skip
      replace hF:=hF.tl;have hz:mX ml k=0:=by unfold mX;rw[hm,if_neg QB,if_neg (by rw[htw];simp),if_neg (by rw[show qb m=_ from ZB];simp)]
      refine fV ?_;show cH aq _ _ _ _;have vP:=hF;replace hF:=hF.del 3;simp only[nS,cR,reduceIte] at hF;refine Uf ⟨[],[(1,ah ag ((k:Nat)+1))],[],[]⟩ [(3,ah ag ((k:Nat)+1))] vP hF trivial ⟨fun w1 hS _=>ge (congrArg (aG ag) (show IntKind.i64.wrap ((k:Nat)+1)=((k:Nat)+1) by rw[cD];omega)),trivial⟩ ?_;intro a W ho hF;clear vP;replace HB:=HB.tr ho;replace K1:=aL K1 ho;replace CM:=CM.below ho;replace K4:=aL K4 ho;clear ho;refine⟨⟨k+1,by omega,fun i hi=>if hik:i<k then oC i hik else by have e:i=k:=(by omega);rw[e];exact hz,⟨hF.size,hF.defers,(by obtain⟨b3,-,-,b1,b0,-⟩:=hF.base;exact⟨b3,b1,b0,trivial⟩)⟩,HB,K1⟩,?_⟩;rw[show a.eval (aJ 3)=ah ag ((k:Nat)+1) from(hF.g 0 rfl)];simp only[hk3];simp[intOf];omega
  ·skip
   replace hF:=hF.tl;refine wp_exit ?_;have Tw:k=ml.length:=by simp at TA;omega
   have hres:nu ml=0:=Qj h3 fun i hi=>oC i (by omega);show cH aq _ _ a W;show cH aq _ _ _ _;refine kJ ⟨[],[],[],[]⟩ [(2,ah ag 0)] hF hF trivial trivial ?_;intro a W ho hF;replace HB:=HB.tr ho;replace K1:=aL K1 ho;clear ho;refine gq ?_;show dQ aq Tryz.f146 (fun e w'=>e=aK (ah ag (nu ml))∧az w.heap.size w w') ej a W;exact bn (bU rfl _ _ _) hF.defers ⟨congrArg aK (((hF.g 0 rfl):a.eval (aJ 2)=ah ag 0).trans (congrArg _ hres.symm)),HB⟩
def IC(l:List Mk)(i:Nat):Mk:=l.getD i ⟨0,0,0⟩
theorem Kq(l:List Mk)(i:Nat)(h:i<l.length):IC l i=l[i]:=by simp[IC,h]
def N0(ms:List Mk)(g off:Nat)(W:ar):Prop:=g<W.heap.size∧∀i,i<ms.length→W.cell? ⟨g,off+i*3,none⟩=some (ah ag (IC ms i).minute)∧W.cell? ⟨g,off+i*3+1,none⟩=some (ah ag (IC ms i).lo)∧W.cell? ⟨g,off+i*3+2,none⟩=some (ah ag (IC ms i).hi)
theorem N0.below{ml:List Mk}{g off:Nat}{W W':ar}(h:N0 ml g off W)(ho:az W.heap.size W W'):N0 ml g off W':=
 ⟨bB h.1 ho.size,fun i hi=>⟨(ho.cell (p:=⟨g,off+i*3,none⟩) h.1).trans (h.2 i hi).1,(ho.cell (p:=⟨g,off+i*3+1,none⟩) h.1).trans (h.2 i hi).2.1,(ho.cell (p:=⟨g,off+i*3+2,none⟩) h.1).trans (h.2 i hi).2.2⟩⟩
theorem Reads.mks{w:ar}{p:Option cU}{n c:Nat}{ms:List Mk}(h:Reads w (ae p n c) n (eu ms))(k:Nat)(hk:k<ms.length):∃g off,p=some ⟨g,off,none⟩∧N0 ms g off w:=by
 rcases h with⟨_,_,h⟩|⟨g,off,cap,h,_,hg,hc⟩
 ·have:=congrArg List.length h;rw[rX] at this;simp at this;omega
 ·cases h;refine⟨g,off,rfl,hg,fun i hi=>?_⟩;rw[Kq ms i hi];exact vN hc i hi
def yT(l:List Mn)(i:Nat):Bool:=decide (((oZ l i).name.size:Int)>100)
def Ja(ml:List Mn)(ss:List Int)(ms:List Mk):Bool:=(decide ((ml.length:Int)>20)||decide ((ss.length:Int)>20))||decide ((ms.length:Int)>20)
def iT(ml:List Mn)(ss:List Int)(ms:List Mk):Bool:=Ja ml ss ms||(aT ml.length).any (yT ml)
def nP(b:BB)(ms:List Mk)(i:Nat):Int:=if (!(aQ (IC ms i).minute 1 b.minutes))=true then 6 else if (!(bW (IC ms i).lo (IC ms i).hi 0 99))=true then 1 else 0
def tk(b:BB)(ms:List Mk):Int:=if (ms.length:Int)>3 then 2 else(((aT ms.length).map (nP b ms)).find? fun h=>h !=0).getD 0
theorem GG{b:BB}{l:List Mk}(i:Nat)(h3:¬(l.length:Int)>3)(hi:i<l.length)(hpre:∀k,k<i→nP b l k=0)(h:nP b l i≠0):tk b l=nP b l i:=by
 unfold tk;rw[if_neg h3,qY _ _ i hi hpre h];rfl
theorem Kr{b:BB}{l:List Mk}(h3:¬(l.length:Int)>3)(hpre:∀k,k<l.length→nP b l k=0):tk b l=0:=by
 unfold tk;rw[if_neg h3,nR _ _ hpre];rfl
def jM(b:BB)(ml:List Mn)(ss:List Int)(ms:List Mk):Int:=if (lX b !=0)=true then lX b else if (nu ml !=0)=true then nu ml else if (jA b ss !=0)=true then jA b ss else tk b ms
theorem QP(b:BB)(p1 p2 p3:Option cU)(c1 c2 c3:Nat)(ml:List Mn)(ss:List Int)(ms:List Mk)(w:ar)(hv:Reads w (ae p1 ml.length c1) ml.length (dS ml)):bm aq 18 #[aO (b.cells (ae p1 ml.length c1) (ae p2 ss.length c2) (ae p3 ms.length c3))] w fun e w'=>e=aC (aF (iT ml ss ms))∧az w.heap.size w w':=by
 refine mD Tryz.func18 rfl ?_;have hF:=kY (args:=#[aO (b.cells (ae p1 ml.length c1) (ae p2 ss.length c2) (ae p3 ms.length c3))]) (n:=35) (by simp) [(0,aO (b.cells (ae p1 ml.length c1) (ae p2 ss.length c2) (ae p3 ms.length c3)))] ⟨nw rfl,trivial⟩;rw[show Tryz.f18.ntmps=35 from rfl];generalize (⟨#[aO (b.cells (ae p1 ml.length c1) (ae p2 ss.length c2) (ae p3 ms.length c3))]++aV (35-(#[aO (b.cells (ae p1 ml.length c1) (ae p2 ss.length c2) (ae p3 ms.length c3))]:Array aj).size) af,[]⟩:Act)=a at *;refine(fun h:∀W,az w.heap.size w W→cH aq _ _ a W=>h w (aw _ _)) ?_;intro W HB;have HC:lh (∀k,k<ml.length→∃g off,p1=some ⟨g,off,none⟩∧wY ml g off w):=ai fun k hk=>hv.men k hk;clear hv
 refine mL [fun v ds w9=>∃B,v=pv B 0∧w9.heap[B]?=some (au (b.cells (ae p1 ml.length c1) (ae p2 ss.length c2) (ae p3 ms.length c3)) 28 (0,0)),pV (aF false)]
  _ (by kernel_rfl) hF.size hF.base ?_ ?_ ?_
 ·refine⟨?_,sV,trivial⟩
  ·rintro v ds w1 w2 hS ⟨B,h1,h2⟩ hb;exact⟨B,h1,aL h2 hb⟩
 ·refine⟨?_,?_,trivial⟩<;>rintro ev w1 hS hc hg hf ⟨b0,-⟩ hd
  ·clear hd;refine Lag.Yields.value (v:=pv w1.heap.size 0) (w':=w1.alloc (au (b.cells (ae p1 ml.length c1) (ae p2 ss.length c2) (ae p3 ms.length c3)) 28)) ?_ ⟨⟨_,rfl,ay _ _⟩,cF ((aw _ _).alloc (ax _) _)⟩;go_simp
  ·clear hd;exact tV
 intro a W hR;have ho:=hR.s;obtain⟨B1,e1,K1⟩:=hR.val 0 (by decide);replace e1:a.eval (aJ 1)=bp (some ⟨B1,0,none⟩):=e1;replace HB:=HB.tr ho;replace hF:=((hR.fr hF (by kernel_rfl)).cons (t:=1) e1).cons (t:=2) (hR.val 1 (by decide));clear hR ho e1;refine gp ?_;refine kJ ⟨[],[],[(B1,(b.cells (ae p1 ml.length c1) (ae p2 ss.length c2) (ae p3 ms.length c3)))],[]⟩ [(19,aF (((decide ((ml.length:Int)>20))||(decide ((ss.length:Int)>20)))||(decide ((ms.length:Int)>20))))] hF hF ⟨fun w1 hS=>⟨_,_,aL K1 hS⟩,trivial⟩ trivial ?_;intro a W ho hF;replace HB:=HB.tr ho;replace K1:=aL K1 ho;clear ho;refine cB (t:=(((decide ((ml.length:Int)>20))||(decide ((ss.length:Int)>20)))||(decide ((ms.length:Int)>20)))) (hF.g 0 rfl) (fun uy=>?_) (fun uy=>?_)
 ·skip
  replace hF:=hF.tl;have hres:iT ml ss ms=true:=by unfold iT;rw[show Ja ml ss ms=true from uy];rfl
  replace hF:=hF.tl;refine kJ ⟨[],[],[],[]⟩ [(2,aF true)] hF hF trivial trivial ?_;intro a W ho hF;replace HB:=HB.tr ho;replace K1:=aL K1 ho;clear ho;refine gq ?_;show dQ aq Tryz.f18 (fun e w'=>e=aK (aF (iT ml ss ms))∧az w.heap.size w w') ej a W;exact bn (bU rfl _ _ _) hF.defers ⟨congrArg aK (((hF.g 0 rfl):a.eval (aJ 2)=aF true).trans (congrArg _ hres.symm)),HB⟩
 ·skip
  replace hF:=hF.tl;have h20:ml.length≤20:=by revert uy;simp;omega
  refine fV ?_;show cH aq _ _ _ _;refine gp ?_;refine kJ ⟨[],[],[],[]⟩ [(3,ah ag 0)] hF hF trivial trivial ?_;intro a W ho hF;replace HB:=HB.tr ho;replace K1:=aL K1 ho;clear ho;refine tS ?_;refine wp_loop (fun a W=>∃k:Nat,k≤ml.length∧(∀i,i<k→yT ml i=false)∧jg 35 a [(3,ah ag (k:Nat)),(1,bp (some ⟨B1,0,none⟩)),(0,aO (b.cells (ae p1 ml.length c1) (ae p2 ss.length c2) (ae p3 ms.length c3)))]∧az w.heap.size w W∧W.heap[B1]?=some (au (b.cells (ae p1 ml.length c1) (ae p2 ss.length c2) (ae p3 ms.length c3)) 28 (0,0))) (fun a _=>ml.length-(intOf (a.eval (aJ 3))).toNat) ⟨0,by omega,fun i hi=>by omega,⟨hF.size,hF.defers,(by obtain⟨b3,-,b1,b0,-⟩:=hF.base;exact⟨b3,b1,b0,trivial⟩)⟩,HB,K1⟩ ?_;clear hF HB K1
  try clear a
  try clear W
  rintro a W ⟨k,sS,oC,hF,HB,K1⟩;have hk3:a.eval (aJ 3)=ah ag (k:Nat):=(hF.g 0 rfl)
  refine gp ?_;refine kJ ⟨[],[],[(B1,(b.cells (ae p1 ml.length c1) (ae p2 ss.length c2) (ae p3 ms.length c3)))],[]⟩ [(24,aF (decide ((k:Int)<(ml.length:Int))))] hF hF ⟨fun w1 hS=>⟨_,_,aL K1 hS⟩,trivial⟩ trivial ?_;intro a W ho hF;replace HB:=HB.tr ho;replace K1:=aL K1 ho;clear ho;refine cB (t:=(decide ((k:Int)<(ml.length:Int)))) (hF.g 0 rfl) (fun Ct=>?_) (fun Ct=>?_)
  ·skip
   replace hF:=hF.tl;have xH:k<ml.length:=by simpa using Ct
   obtain⟨g,off,rfl,hM⟩:=HC.out k xH;have CM:=hM.below HB;clear hM;obtain⟨m,hm⟩:∃m,oZ ml k=m:=⟨_,rfl⟩
   have hw1:IntKind.i64.wrap ((k:Int)+1)=(k:Int)+1:=by rw[cD];omega
   refine fV ?_;show cH aq _ _ _ _;refine gp ?_;refine tS ?_
   refine mL [pV (bp (some ⟨B1,12,none⟩)),pV (ae (some ⟨g,off,none⟩) ml.length c1),pV (ah ag (k:Nat)),pV (bp (some ⟨g,off+k*3,none⟩)),pV (bp (some ⟨g,off+k*3,none⟩)),pV (.string m.name),pV (ah ag (m.name.size:Int)),pV (aF (decide ((m.name.size:Int)>100)))]
    _ (by kernel_rfl) hF.size hF.base ?_ ?_ ?_
   ·exact⟨sV,sV,sV,sV,sV,sV,sV,sV,trivial⟩
   ·refine⟨?_,?_,?_,?_,?_,?_,?_,?_,trivial⟩<;>rintro ev w1 hS hc hg hf ⟨b3,b1,-,-⟩ hd
    all_goals try
     try have d0:ev (aJ _)=_:=hd.1 rfl
     clear hd;refine yw rfl ?_ rfl;go_simp;done
    ·have d0:ev (aJ 27)=_:=hd.1 rfl;clear hd;have z:=aH (aL K1 hS) 12 _ rfl;exact tV
    ·have d1:ev (aJ 28)=_:=hd.1 rfl;have d2:ev (aJ 29)=_:=hd.2.1 rfl;clear hd;have FN:¬(ml.length≤k):=by omega
     exact tV
    ·have d4:ev (aJ 31)=_:=hd.1 rfl;clear hd;obtain⟨z1,z2,z3⟩:=(wY.below CM hS).2 k (by omega);rw[hm] at z1 z2 z3;exact tV
   intro a W hR;have ho:=hR.s;replace HB:=HB.tr ho;replace K1:=aL K1 ho;replace CM:=CM.below ho;replace hF:=(hR.fr hF (by kernel_rfl)).cons (t:=34) (hR.val 7 (by decide));clear hR ho;refine cB (t:=(decide ((m.name.size:Int)>100))) (hF.g 0 rfl) (fun ZF=>?_) (fun ZF=>?_)
   ·skip
    replace hF:=hF.tl;have hres:iT ml ss ms=true:=by unfold iT;rw[Bool.or_eq_true];right;rw[List.any_eq_true];exact⟨k,bt.2 xH,by unfold yT;rw[hm];exact ZF⟩
    refine kJ ⟨[],[],[],[]⟩ [(2,aF true)] hF hF trivial trivial ?_;intro a W ho hF;replace HB:=HB.tr ho;replace K1:=aL K1 ho;replace CM:=CM.below ho;clear ho;refine gq ?_;show dQ aq Tryz.f18 (fun e w'=>e=aK (aF (iT ml ss ms))∧az w.heap.size w w') ej a W;exact bn (bU rfl _ _ _) hF.defers ⟨congrArg aK (((hF.g 0 rfl):a.eval (aJ 2)=aF true).trans (congrArg _ hres.symm)),HB⟩
   ·skip
    replace hF:=hF.tl;have hz:yT ml k=false:=by unfold yT;rw[hm];exact ZF
    refine fV ?_;show cH aq _ _ _ _;have vP:=hF;replace hF:=hF.tl;refine Uf ⟨[],[(1,ah ag ((k:Nat)+1))],[],[]⟩ [(3,ah ag ((k:Nat)+1))] vP hF trivial ⟨fun w1 hS _=>ge (congrArg (aG ag) (show IntKind.i64.wrap ((k:Nat)+1)=((k:Nat)+1) by rw[cD];omega)),trivial⟩ ?_;intro a W ho hF;clear vP;replace HB:=HB.tr ho;replace K1:=aL K1 ho;replace CM:=CM.below ho;clear ho;refine⟨⟨k+1,by omega,fun i hi=>if hik:i<k then oC i hik else by have e:i=k:=(by omega);rw[e];exact hz,⟨hF.size,hF.defers,hF.base⟩,HB,K1⟩,?_⟩;rw[show a.eval (aJ 3)=ah ag ((k:Nat)+1) from(hF.g 0 rfl)];simp only[hk3];simp[intOf];omega
  ·skip
   replace hF:=hF.tl;refine wp_exit ?_;have Tw:k=ml.length:=by simp at Ct;omega
   have hres:iT ml ss ms=false:=by
    unfold iT;rw[show Ja ml ss ms=false from uy,Bool.false_or,List.any_eq_false];intro i hi;rw[oC i (by have:=bt.1 hi;omega)];simp
   show cH aq _ _ a W;show cH aq _ _ _ _;refine kJ ⟨[],[],[],[]⟩ [(2,aF false)] hF hF trivial trivial ?_;intro a W ho hF;replace HB:=HB.tr ho;replace K1:=aL K1 ho;clear ho;refine gq ?_;show dQ aq Tryz.f18 (fun e w'=>e=aK (aF (iT ml ss ms))∧az w.heap.size w w') ej a W;exact bn (bU rfl _ _ _) hF.defers ⟨congrArg aK (((hF.g 0 rfl):a.eval (aJ 2)=aF false).trans (congrArg _ hres.symm)),HB⟩
theorem Kb(b:BB)(p1 p2 p3:Option cU)(c1 c2 c3:Nat)(ml:List Mn)(ss:List Int)(ms:List Mk)(hl:ml.length≤20∧ss.length≤20)(w:ar)(hv:Reads w (ae p1 ml.length c1) ml.length (dS ml))(hu:Reads w (ae p2 ss.length c2) ss.length (ss.map (aG ag)))(hk3:Reads w (ae p3 ms.length c3) ms.length (eu ms)):bm aq 72 #[aO (b.cells (ae p1 ml.length c1) (ae p2 ss.length c2) (ae p3 ms.length c3))] w fun e w'=>e=aC (ah ag (jM b ml ss ms))∧az w.heap.size w w':=by
 refine mD Tryz.func72 rfl ?_;have hF:=kY (args:=#[aO (b.cells (ae p1 ml.length c1) (ae p2 ss.length c2) (ae p3 ms.length c3))]) (n:=52) (by simp) [(0,aO (b.cells (ae p1 ml.length c1) (ae p2 ss.length c2) (ae p3 ms.length c3)))] ⟨nw rfl,trivial⟩;rw[show Tryz.f72.ntmps=52 from rfl];generalize (⟨#[aO (b.cells (ae p1 ml.length c1) (ae p2 ss.length c2) (ae p3 ms.length c3))]++aV (52-(#[aO (b.cells (ae p1 ml.length c1) (ae p2 ss.length c2) (ae p3 ms.length c3))]:Array aj).size) af,[]⟩:Act)=a at *;refine(fun h:∀W,az w.heap.size w W→cH aq _ _ a W=>h w (aw _ _)) ?_;intro W HB;have HC:lh (∀k,k<ms.length→∃g off,p3=some ⟨g,off,none⟩∧N0 ms g off w):=ai fun k hk=>hk3.mks k hk;clear hk3
 refine mL [fun v ds w9=>∃B,v=pv B 0∧w9.heap[B]?=some (au (b.cells (ae p1 ml.length c1) (ae p2 ss.length c2) (ae p3 ms.length c3)) 28 (0,0)),pV (ah ag 0)]
  _ (by kernel_rfl) hF.size hF.base ?_ ?_ ?_
 ·refine⟨?_,sV,trivial⟩
  ·rintro v ds w1 w2 hS ⟨B,h1,h2⟩ hb;exact⟨B,h1,aL h2 hb⟩
 ·refine⟨?_,?_,trivial⟩<;>rintro ev w1 hS hc hg hf ⟨b0,-⟩ hd
  ·clear hd;refine Lag.Yields.value (v:=pv w1.heap.size 0) (w':=w1.alloc (au (b.cells (ae p1 ml.length c1) (ae p2 ss.length c2) (ae p3 ms.length c3)) 28)) ?_ ⟨⟨_,rfl,ay _ _⟩,cF ((aw _ _).alloc (ax _) _)⟩;go_simp
  ·clear hd;exact tV
 intro a W hR;have ho:=hR.s;obtain⟨B1,e1,K1⟩:=hR.val 0 (by decide);replace e1:a.eval (aJ 1)=bp (some ⟨B1,0,none⟩):=e1;replace HB:=HB.tr ho;replace hF:=((hR.fr hF (by kernel_rfl)).cons (t:=1) e1).cons (t:=2) (hR.val 1 (by decide));clear hR ho e1;refine gp ?_;refine kJ ⟨[],[(1,ah ag (lX b))],[(B1,(b.cells (ae p1 ml.length c1) (ae p2 ss.length c2) (ae p3 ms.length c3)))],[]⟩ [(3,ah ag (lX b))] hF hF ⟨fun w1 hS=>⟨_,_,aL K1 hS⟩,trivial⟩ ⟨fun w1 hS _=>gc (FY b (ae p1 ml.length c1) (ae p2 ss.length c2) (ae p3 ms.length c3) w1),trivial⟩ ?_;intro a W ho hF;replace HB:=HB.tr ho;replace K1:=aL K1 ho;clear ho;refine kJ ⟨[],[],[],[]⟩ [(10,aF ((lX b) !=0))] hF hF trivial trivial ?_;intro a W ho hF;replace HB:=HB.tr ho;replace K1:=aL K1 ho;clear ho;refine cB (t:=((lX b) !=0)) (hF.g 0 rfl) (fun Nl=>?_) (fun Nl=>?_)
 ·skip
  replace hF:=hF.tl;have hres:jM b ml ss ms=lX b:=by unfold jM;rw[if_pos Nl]
  replace hF:=hF.del 2;simp only[nS,cR,reduceIte] at hF;refine kJ ⟨[],[],[],[]⟩ [(2,ah ag (lX b))] hF hF trivial trivial ?_;intro a W ho hF;replace HB:=HB.tr ho;replace K1:=aL K1 ho;clear ho;refine gq ?_;show dQ aq Tryz.f72 (fun e w'=>e=aK (ah ag (jM b ml ss ms))∧az w.heap.size w w') ej a W;exact bn (bU rfl _ _ _) hF.defers ⟨congrArg aK (((hF.g 0 rfl):a.eval (aJ 2)=ah ag (lX b)).trans (congrArg _ hres.symm)),HB⟩
 ·skip
  replace hF:=hF.tl;refine fV ?_;show cH aq _ _ _ _;refine gp ?_;refine kJ ⟨[],[(1,ah ag (nu ml))],[(B1,(b.cells (ae p1 ml.length c1) (ae p2 ss.length c2) (ae p3 ms.length c3)))],[]⟩ [(4,ah ag (nu ml))] hF hF ⟨fun w1 hS=>⟨_,_,aL K1 hS⟩,trivial⟩ ⟨fun w1 hS _=>gc (args:=#[aO (b.cells (ae p1 ml.length c1) (ae p2 ss.length c2) (ae p3 ms.length c3))]) (Jh b (ae p2 ss.length c2) (ae p3 ms.length c3) _ _ ml (by omega) w1 (hv.below (HB.tr hS))),trivial⟩ ?_;intro a W ho hF;replace HB:=HB.tr ho;replace K1:=aL K1 ho;clear ho;refine kJ ⟨[],[],[],[]⟩ [(15,aF ((nu ml) !=0))] hF hF trivial trivial ?_;intro a W ho hF;replace HB:=HB.tr ho;replace K1:=aL K1 ho;clear ho;refine cB (t:=((nu ml) !=0)) (hF.g 0 rfl) (fun Wx=>?_) (fun Wx=>?_)
  ·skip
   replace hF:=hF.tl;have hres:jM b ml ss ms=nu ml:=by unfold jM;rw[if_neg (by rw[Nl];simp),if_pos Wx]
   replace hF:=hF.del 2;simp only[nS,cR,reduceIte] at hF;refine kJ ⟨[],[],[],[]⟩ [(2,ah ag (nu ml))] hF hF trivial trivial ?_;intro a W ho hF;replace HB:=HB.tr ho;replace K1:=aL K1 ho;clear ho;refine gq ?_;show dQ aq Tryz.f72 (fun e w'=>e=aK (ah ag (jM b ml ss ms))∧az w.heap.size w w') ej a W;exact bn (bU rfl _ _ _) hF.defers ⟨congrArg aK (((hF.g 0 rfl):a.eval (aJ 2)=ah ag (nu ml)).trans (congrArg _ hres.symm)),HB⟩
  ·skip
   replace hF:=hF.tl;refine fV ?_;show cH aq _ _ _ _;refine gp ?_;refine kJ ⟨[],[(3,ah ag (jA b ss))],[(B1,(b.cells (ae p1 ml.length c1) (ae p2 ss.length c2) (ae p3 ms.length c3)))],[]⟩ [(5,ah ag (jA b ss))] hF hF ⟨fun w1 hS=>⟨_,_,aL K1 hS⟩,trivial⟩ ⟨fun w1 hS _=>gc (args:=#[aO (b.cells (ae p1 ml.length c1) (ae p2 ss.length c2) (ae p3 ms.length c3)),ae p2 ss.length c2]) (FX b (ae p1 ml.length c1) (ae p2 ss.length c2) (ae p3 ms.length c3) _ _ ss (by omega) w1 (hu.below (HB.tr hS))),trivial⟩ ?_;intro a W ho hF;replace HB:=HB.tr ho;replace K1:=aL K1 ho;clear ho;refine kJ ⟨[],[],[],[]⟩ [(22,aF ((jA b ss) !=0))] hF hF trivial trivial ?_;intro a W ho hF;replace HB:=HB.tr ho;replace K1:=aL K1 ho;clear ho;refine cB (t:=((jA b ss) !=0)) (hF.g 0 rfl) (fun ZK=>?_) (fun ZK=>?_)
   ·skip
    replace hF:=hF.tl;have hres:jM b ml ss ms=jA b ss:=by unfold jM;rw[if_neg (by rw[Nl];simp),if_neg (by rw[Wx];simp),if_pos ZK]
    replace hF:=hF.del 2;simp only[nS,cR,reduceIte] at hF;refine kJ ⟨[],[],[],[]⟩ [(2,ah ag (jA b ss))] hF hF trivial trivial ?_;intro a W ho hF;replace HB:=HB.tr ho;replace K1:=aL K1 ho;clear ho;refine gq ?_;show dQ aq Tryz.f72 (fun e w'=>e=aK (ah ag (jM b ml ss ms))∧az w.heap.size w w') ej a W;exact bn (bU rfl _ _ _) hF.defers ⟨congrArg aK (((hF.g 0 rfl):a.eval (aJ 2)=ah ag (jA b ss)).trans (congrArg _ hres.symm)),HB⟩
   ·skip
    replace hF:=hF.tl;have hh:jM b ml ss ms=tk b ms:=by unfold jM;rw[if_neg (by rw[Nl];simp),if_neg (by rw[Wx];simp),if_neg (by rw[ZK];simp)]
    refine fV ?_;show cH aq _ _ _ _;refine gp ?_;refine kJ ⟨[],[],[(B1,(b.cells (ae p1 ml.length c1) (ae p2 ss.length c2) (ae p3 ms.length c3)))],[]⟩ [(27,aF (decide ((ms.length:Int)>3)))] hF hF ⟨fun w1 hS=>⟨_,_,aL K1 hS⟩,trivial⟩ trivial ?_;intro a W ho hF;replace HB:=HB.tr ho;replace K1:=aL K1 ho;clear ho;refine cB (t:=(decide ((ms.length:Int)>3))) (hF.g 0 rfl) (fun ZI=>?_) (fun ZI=>?_)
    ·skip
     replace hF:=hF.tl;have hres:jM b ml ss ms=2:=by rw[hh];unfold tk;rw[if_pos (by simpa using ZI)]
     replace hF:=hF.del 2;simp only[nS,cR,reduceIte] at hF;refine kJ ⟨[],[],[],[]⟩ [(2,ah ag 2)] hF hF trivial trivial ?_;intro a W ho hF;replace HB:=HB.tr ho;replace K1:=aL K1 ho;clear ho;refine gq ?_;show dQ aq Tryz.f72 (fun e w'=>e=aK (ah ag (jM b ml ss ms))∧az w.heap.size w w') ej a W;exact bn (bU rfl _ _ _) hF.defers ⟨congrArg aK (((hF.g 0 rfl):a.eval (aJ 2)=ah ag 2).trans (congrArg _ hres.symm)),HB⟩
    ·skip
     replace hF:=hF.tl;have h3:¬(ms.length:Int)>3:=by simpa using ZI
     refine fV ?_;show cH aq _ _ _ _;refine gp ?_;refine kJ ⟨[],[],[],[]⟩ [(6,ah ag 0)] hF hF trivial trivial ?_;intro a W ho hF;replace HB:=HB.tr ho;replace K1:=aL K1 ho;clear ho;refine tS ?_;refine wp_loop (fun a W=>∃k:Nat,k≤ms.length∧(∀i,i<k→nP b ms i=0)∧jg 52 a [(6,ah ag (k:Nat)),(1,bp (some ⟨B1,0,none⟩)),(0,aO (b.cells (ae p1 ml.length c1) (ae p2 ss.length c2) (ae p3 ms.length c3)))]∧az w.heap.size w W∧W.heap[B1]?=some (au (b.cells (ae p1 ml.length c1) (ae p2 ss.length c2) (ae p3 ms.length c3)) 28 (0,0))) (fun a _=>ms.length-(intOf (a.eval (aJ 6))).toNat) ⟨0,by omega,fun i hi=>by omega,⟨hF.size,hF.defers,(by obtain⟨b6,-,-,-,-,b1,b0,-⟩:=hF.base;exact⟨b6,b1,b0,trivial⟩)⟩,HB,K1⟩ ?_;clear hF HB K1
     try clear a
     try clear W
     rintro a W ⟨k,sS,oC,hF,HB,K1⟩;have hk6:a.eval (aJ 6)=ah ag (k:Nat):=(hF.g 0 rfl)
     refine gp ?_;refine kJ ⟨[],[],[(B1,(b.cells (ae p1 ml.length c1) (ae p2 ss.length c2) (ae p3 ms.length c3)))],[]⟩ [(32,aF (decide ((k:Int)<(ms.length:Int))))] hF hF ⟨fun w1 hS=>⟨_,_,aL K1 hS⟩,trivial⟩ trivial ?_;intro a W ho hF;replace HB:=HB.tr ho;replace K1:=aL K1 ho;clear ho;refine cB (t:=(decide ((k:Int)<(ms.length:Int)))) (hF.g 0 rfl) (fun KT=>?_) (fun KT=>?_)
     ·skip
      replace hF:=hF.tl;have xH:k<ms.length:=by simpa using KT
      obtain⟨g,off,rfl,hM⟩:=HC.out k xH;have CM:=hM.below HB;clear hM;obtain⟨m,hm⟩:∃m,IC ms k=m:=⟨_,rfl⟩
      have hw1:IntKind.i64.wrap ((k:Int)+1)=(k:Int)+1:=by rw[cD];omega
      refine fV ?_;show cH aq _ _ _ _;refine gp ?_;refine tS ?_;refine gp ?_
      refine T7 (by kernel_rfl) [pV (aO (b.cells (ae p1 ml.length c1) (ae p2 ss.length c2) (ae (some ⟨g,off,none⟩) ms.length c3))),pV (bp (some ⟨B1,14,none⟩)),pV (ae (some ⟨g,off,none⟩) ms.length c3),pV (ah ag (k:Nat)),pV (bp (some ⟨g,off+k*3,none⟩)),pV (bp (some ⟨g,off+k*3,none⟩)),pV (ah ag m.minute),pV (aF (aQ m.minute 1 b.minutes)),pV (aF (!(aQ m.minute 1 b.minutes)))]
       _ (by kernel_rfl) hF.size hF.base ?_ ?_ ?_
      ·exact⟨sV,sV,sV,sV,sV,sV,sV,sV,sV,trivial⟩
      ·refine⟨?_,?_,?_,?_,?_,?_,?_,?_,?_,trivial⟩<;>rintro ev w1 hS hc hg hf ⟨b6,b1,-,-⟩ hd
       all_goals try
        try have d0:ev (aJ _)=_:=hd.1 rfl
        clear hd;refine yw rfl ?_ rfl;go_simp;done
       ·clear hd;have m8:=aL K1 hS;exact Ku 28 rfl b1 m8 cG rfl (by kernel_rfl) (rfl)
       ·have d1:ev (aJ 36)=_:=hd.1 rfl;clear hd;have z:=aH (aL K1 hS) 14 _ rfl;exact tV
       ·have d2:ev (aJ 37)=_:=hd.1 rfl;have d3:ev (aJ 38)=_:=hd.2.1 rfl;clear hd;have FN:¬(ms.length≤k):=by omega
        exact tV
       ·have d5:ev (aJ 40)=_:=hd.1 rfl;clear hd;obtain⟨z1,z2,z3⟩:=(N0.below CM hS).2 k (by omega);rw[hm] at z1 z2 z3;exact tV
       ·have d0:ev (aJ 35)=_:=hd.1 rfl;have d6:ev (aJ 41)=_:=hd.2.1 rfl;clear hd;refine yc (ry b (ae p1 ml.length c1) (ae p2 ss.length c2) (ae (some ⟨g,off,none⟩) ms.length c3) m.minute w1) ?_ (fun _=>rfl);go_simp
      intro a W hR;have ho:=hR.s;replace HB:=HB.tr ho;replace K1:=aL K1 ho;replace CM:=CM.below ho;replace hF:=(hR.fr hF (by kernel_rfl)).cons (t:=43) (hR.val 8 (by decide));clear hR ho;refine cB (t:=(!(aQ m.minute 1 b.minutes))) (hF.g 0 rfl) (fun Wu=>?_) (fun Wu=>?_)
      ·skip
       replace hF:=hF.tl;have h6:nP b ms k=6:=by unfold nP;rw[hm,if_pos Wu]
       have hres:jM b ml ss ms=6:=hh.trans ((GG k h3 xH oC (by rw[h6];decide)).trans h6);refine kJ ⟨[],[],[],[]⟩ [(2,ah ag 6)] hF hF trivial trivial ?_;intro a W ho hF;replace HB:=HB.tr ho;replace K1:=aL K1 ho;replace CM:=CM.below ho;clear ho;refine gq ?_;show dQ aq Tryz.f72 (fun e w'=>e=aK (ah ag (jM b ml ss ms))∧az w.heap.size w w') ej a W;exact bn (bU rfl _ _ _) hF.defers ⟨congrArg aK (((hF.g 0 rfl):a.eval (aJ 2)=ah ag 6).trans (congrArg _ hres.symm)),HB⟩
      ·skip
       replace hF:=hF.tl;refine fV ?_;show cH aq _ _ _ _
       refine mL [pV (bp (some ⟨B1,14,none⟩)),pV (ae (some ⟨g,off,none⟩) ms.length c3),pV (ah ag (k:Nat)),pV (bp (some ⟨g,off+k*3,none⟩)),pV (bp (some ⟨g,off+k*3+1,none⟩)),pV (aO #[ah ag m.lo,ah ag m.hi]),pV (aF (bW m.lo m.hi 0 99)),pV (aF (!(bW m.lo m.hi 0 99)))]
        _ (by kernel_rfl) hF.size hF.base ?_ ?_ ?_
       ·exact⟨sV,sV,sV,sV,sV,sV,sV,sV,trivial⟩
       ·refine⟨?_,?_,?_,?_,?_,?_,?_,?_,trivial⟩<;>rintro ev w1 hS hc hg hf ⟨b6,b1,-,-⟩ hd
        all_goals try
         try have d0:ev (aJ _)=_:=hd.1 rfl
         clear hd;refine yw rfl ?_ rfl;go_simp;done
        ·have d0:ev (aJ 44)=_:=hd.1 rfl;clear hd;have z:=aH (aL K1 hS) 14 _ rfl;exact tV
        ·have d1:ev (aJ 45)=_:=hd.1 rfl;have d2:ev (aJ 46)=_:=hd.2.1 rfl;clear hd;have FN:¬(ms.length≤k):=by omega
         exact tV
        ·have d4:ev (aJ 48)=_:=hd.1 rfl;clear hd;obtain⟨z1,z2,z3⟩:=(N0.below CM hS).2 k (by omega);rw[hm] at z1 z2 z3;exact tV
        ·have d5:ev (aJ 49)=_:=hd.1 rfl;clear hd;refine yc (qU m.lo m.hi 0 99 w1) ?_ (fun _=>rfl);go_simp
       intro a W hR;have ho:=hR.s;replace HB:=HB.tr ho;replace K1:=aL K1 ho;replace CM:=CM.below ho;replace hF:=(hR.fr hF (by kernel_rfl)).cons (t:=51) (hR.val 7 (by decide));clear hR ho;refine cB (t:=(!(bW m.lo m.hi 0 99))) (hF.g 0 rfl) (fun ZC=>?_) (fun ZC=>?_)
       ·skip
        replace hF:=hF.tl;have h1:nP b ms k=1:=by unfold nP;rw[hm,if_neg (by rw[Wu];simp),if_pos ZC]
        have hres:jM b ml ss ms=1:=hh.trans ((GG k h3 xH oC (by rw[h1];decide)).trans h1);refine kJ ⟨[],[],[],[]⟩ [(2,ah ag 1)] hF hF trivial trivial ?_;intro a W ho hF;replace HB:=HB.tr ho;replace K1:=aL K1 ho;replace CM:=CM.below ho;clear ho;refine gq ?_;show dQ aq Tryz.f72 (fun e w'=>e=aK (ah ag (jM b ml ss ms))∧az w.heap.size w w') ej a W;exact bn (bU rfl _ _ _) hF.defers ⟨congrArg aK (((hF.g 0 rfl):a.eval (aJ 2)=ah ag 1).trans (congrArg _ hres.symm)),HB⟩
       ·skip
        replace hF:=hF.tl;have hz:nP b ms k=0:=by unfold nP;rw[hm,if_neg (by rw[Wu];simp),if_neg (by rw[ZC];simp)]
        refine fV ?_;show cH aq _ _ _ _;have vP:=hF;replace hF:=hF.tl;refine Uf ⟨[],[(1,ah ag ((k:Nat)+1))],[],[]⟩ [(6,ah ag ((k:Nat)+1))] vP hF trivial ⟨fun w1 hS _=>ge (congrArg (aG ag) (show IntKind.i64.wrap ((k:Nat)+1)=((k:Nat)+1) by rw[cD];omega)),trivial⟩ ?_;intro a W ho hF;clear vP;replace HB:=HB.tr ho;replace K1:=aL K1 ho;replace CM:=CM.below ho;clear ho;refine⟨⟨k+1,by omega,fun i hi=>if hik:i<k then oC i hik else by have e:i=k:=(by omega);rw[e];exact hz,⟨hF.size,hF.defers,hF.base⟩,HB,K1⟩,?_⟩;rw[show a.eval (aJ 6)=ah ag ((k:Nat)+1) from(hF.g 0 rfl)];simp only[hk6];simp[intOf];omega
     ·skip
      replace hF:=hF.tl;refine wp_exit ?_;have Tw:k=ms.length:=by simp at KT;omega
      have hres:jM b ml ss ms=0:=hh.trans (Kr h3 fun i hi=>oC i (by omega));show cH aq _ _ a W;show cH aq _ _ _ _;refine kJ ⟨[],[],[],[]⟩ [(2,ah ag 0)] hF hF trivial trivial ?_;intro a W ho hF;replace HB:=HB.tr ho;replace K1:=aL K1 ho;clear ho;refine gq ?_;show dQ aq Tryz.f72 (fun e w'=>e=aK (ah ag (jM b ml ss ms))∧az w.heap.size w w') ej a W;exact bn (bU rfl _ _ _) hF.defers ⟨congrArg aK (((hF.g 0 rfl):a.eval (aJ 2)=ah ag 0).trans (congrArg _ hres.symm)),HB⟩
def K8(b:BB)(ml:List Mn)(ss:List Int)(ms:List Mk):Bool:=(!(iT ml ss ms))&&(jM b ml ss ms==0)
theorem QN{ml:List Mn}{ss:List Int}{ms:List Mk}(h:iT ml ss ms=false):ml.length≤20∧ss.length≤20:=by
 unfold iT Ja at h;simp at h;omega
theorem WQ(b:BB)(p1 p2 p3:Option cU)(c1 c2 c3:Nat)(ml:List Mn)(ss:List Int)(ms:List Mk)(w:ar)(hv:Reads w (ae p1 ml.length c1) ml.length (dS ml))(hu:Reads w (ae p2 ss.length c2) ss.length (ss.map (aG ag)))(hk3:Reads w (ae p3 ms.length c3) ms.length (eu ms)):bm aq 29 #[aO (b.cells (ae p1 ml.length c1) (ae p2 ss.length c2) (ae p3 ms.length c3))] w fun e w'=>e=aC (aF (K8 b ml ss ms))∧az w.heap.size w w':=by
 refine mD Tryz.func29 rfl ?_;have hF:=kY (args:=#[aO (b.cells (ae p1 ml.length c1) (ae p2 ss.length c2) (ae p3 ms.length c3))]) (n:=11) (by simp) [(0,aO (b.cells (ae p1 ml.length c1) (ae p2 ss.length c2) (ae p3 ms.length c3)))] ⟨nw rfl,trivial⟩;rw[show Tryz.f29.ntmps=11 from rfl];generalize (⟨#[aO (b.cells (ae p1 ml.length c1) (ae p2 ss.length c2) (ae p3 ms.length c3))]++aV (11-(#[aO (b.cells (ae p1 ml.length c1) (ae p2 ss.length c2) (ae p3 ms.length c3))]:Array aj).size) af,[]⟩:Act)=a at *;refine(fun h:∀W,az w.heap.size w W→cH aq _ _ a W=>h w (aw _ _)) ?_;intro W HB
 refine mL [fun v ds w9=>∃B,v=pv B 0∧w9.heap[B]?=some (au (b.cells (ae p1 ml.length c1) (ae p2 ss.length c2) (ae p3 ms.length c3)) 28 (0,0)),pV (aF false)]
  _ (by kernel_rfl) hF.size hF.base ?_ ?_ ?_
 ·refine⟨?_,sV,trivial⟩
  ·rintro v ds w1 w2 hS ⟨B,h1,h2⟩ hb;exact⟨B,h1,aL h2 hb⟩
 ·refine⟨?_,?_,trivial⟩<;>rintro ev w1 hS hc hg hf ⟨b0,-⟩ hd
  ·clear hd;refine Lag.Yields.value (v:=pv w1.heap.size 0) (w':=w1.alloc (au (b.cells (ae p1 ml.length c1) (ae p2 ss.length c2) (ae p3 ms.length c3)) 28)) ?_ ⟨⟨_,rfl,ay _ _⟩,cF ((aw _ _).alloc (ax _) _)⟩;go_simp
  ·clear hd;exact tV
 intro a W hR;have ho:=hR.s;obtain⟨B1,e1,K1⟩:=hR.val 0 (by decide);replace e1:a.eval (aJ 1)=bp (some ⟨B1,0,none⟩):=e1;replace HB:=HB.tr ho;replace hF:=((hR.fr hF (by kernel_rfl)).cons (t:=1) e1).cons (t:=2) (hR.val 1 (by decide));clear hR ho e1;replace hF:=hF.tl
 refine mL [pV (aO (b.cells (ae p1 ml.length c1) (ae p2 ss.length c2) (ae p3 ms.length c3))),pV (aF (iT ml ss ms)),pV (aF (!(iT ml ss ms))),pV (aF (!(iT ml ss ms))),pC (!(iT ml ss ms)) (aO (b.cells (ae p1 ml.length c1) (ae p2 ss.length c2) (ae p3 ms.length c3))),pC (!(iT ml ss ms)) (ah ag (jM b ml ss ms)),pC (!(iT ml ss ms)) (aF ((jM b ml ss ms)==0)),pV (aF ((!(iT ml ss ms))&&((jM b ml ss ms)==0))),pV (aF ((!(iT ml ss ms))&&((jM b ml ss ms)==0)))]
  _ (by kernel_rfl) hF.size hF.base ?_ ?_ ?_
 ·exact⟨sV,sV,sV,sV,sC,sC,sC,sV,sV,trivial⟩
 ·refine⟨?_,?_,?_,?_,?_,?_,?_,?_,?_,trivial⟩<;>rintro ev w1 hS hc hg hf ⟨b1,-,-⟩ hd
  all_goals try
   try have d0:ev (aJ _)=_:=hd.1 rfl
   clear hd;refine yw rfl ?_ rfl;go_simp;done
  ·clear hd;have m8:=aL K1 hS;exact Ku 28 rfl b1 m8 cG rfl (by kernel_rfl) (rfl)
  ·have d0:ev (aJ 3)=_:=hd.1 rfl;clear hd;refine yc (args:=#[aO (b.cells (ae p1 ml.length c1) (ae p2 ss.length c2) (ae p3 ms.length c3))]) (QP b _ _ _ _ _ _ ml ss ms w1 (hv.below (HB.tr hS))) ?_ (fun _=>rfl);go_simp
  ·have d3:ev (aJ 6)=_:=hd.1 rfl;clear hd;refine gC d3 ye fun hA=>?_;have m8:=aL K1 hS;exact Ku 28 rfl b1 m8 cG rfl (by kernel_rfl) (fun _=>rfl)
  ·have d4:_→ev (aJ 7)=_:=hd.1 rfl;have d3:ev (aJ 6)=_:=hd.2.1 rfl;clear hd;refine gC d3 ye fun hA=>?_;have y4:=d4 hA;refine yc (args:=#[aO (b.cells (ae p1 ml.length c1) (ae p2 ss.length c2) (ae p3 ms.length c3))]) (Kb b _ _ _ _ _ _ ml ss ms (QN (ms:=ms) (by revert hA;cases iT ml ss ms<;>simp)) w1 (hv.below (HB.tr hS)) (hu.below (HB.tr hS)) (hk3.below (HB.tr hS))) ?_ (fun _=>fun _=>rfl);go_simp
  ·have d5:_→ev (aJ 8)=_:=hd.1 rfl;have d3:ev (aJ 6)=_:=hd.2.1 rfl;clear hd;refine gC d3 ye fun hA=>?_;have y5:=d5 hA;refine yv ?_ (fun _=>rfl);go_simp
  ·have d3:ev (aJ 6)=_:=hd.1 rfl;have d6:_→ev (aJ 9)=_:=hd.2.1 rfl;clear hd;exact yA rfl hc d3 (fun hq=>d6 (by simp[hq])) (rfl)
 intro a W hR;have ho:=hR.s;replace HB:=HB.tr ho;replace K1:=aL K1 ho;replace hF:=(hR.fr hF (by kernel_rfl)).cons (t:=2) (hR.val 8 (by decide));clear hR ho;refine gq ?_;show dQ aq Tryz.f29 (fun e w'=>e=aK (aF (K8 b ml ss ms))∧az w.heap.size w w') ej a W;exact bn (bU rfl _ _ _) hF.defers ⟨congrArg aK (((hF.g 0 rfl):a.eval (aJ 2)=aF ((!(iT ml ss ms))&&((jM b ml ss ms)==0))).trans rfl),HB⟩
theorem QO(b:BB)(p1:Option cU)(n1 c1:Nat)(hbig:20<n1)(w:ar):bm aq 18 #[aO (b.cells (ae p1 n1 c1) (ae none 0 0) (ae none 0 0))] w fun e w'=>e=aC (aF true)∧az w.heap.size w w':=by
 have hbI:(20:Int)<(n1:Int):=by omega
 refine mD Tryz.func18 rfl ?_;have hF:=kY (args:=#[aO (b.cells (ae p1 n1 c1) (ae none 0 0) (ae none 0 0))]) (n:=35) (by simp) [(0,aO (b.cells (ae p1 n1 c1) (ae none 0 0) (ae none 0 0)))] ⟨nw rfl,trivial⟩;rw[show Tryz.f18.ntmps=35 from rfl];generalize (⟨#[aO (b.cells (ae p1 n1 c1) (ae none 0 0) (ae none 0 0))]++aV (35-(#[aO (b.cells (ae p1 n1 c1) (ae none 0 0) (ae none 0 0))]:Array aj).size) af,[]⟩:Act)=a at *;refine(fun h:∀W,az w.heap.size w W→cH aq _ _ a W=>h w (aw _ _)) ?_;intro W HB
 refine mL [fun v ds w9=>∃B,v=pv B 0∧w9.heap[B]?=some (au (b.cells (ae p1 n1 c1) (ae none 0 0) (ae none 0 0)) 28 (0,0)),pV (aF false)]
  _ (by kernel_rfl) hF.size hF.base ?_ ?_ ?_
 ·refine⟨?_,sV,trivial⟩
  ·rintro v ds w1 w2 hS ⟨B,h1,h2⟩ hb;exact⟨B,h1,aL h2 hb⟩
 ·refine⟨?_,?_,trivial⟩<;>rintro ev w1 hS hc hg hf ⟨b0,-⟩ hd
  ·clear hd;refine Lag.Yields.value (v:=pv w1.heap.size 0) (w':=w1.alloc (au (b.cells (ae p1 n1 c1) (ae none 0 0) (ae none 0 0)) 28)) ?_ ⟨⟨_,rfl,ay _ _⟩,cF ((aw _ _).alloc (ax _) _)⟩;go_simp
  ·clear hd;exact tV
 intro a W hR;have ho:=hR.s;obtain⟨B1,e1,K1⟩:=hR.val 0 (by decide);replace e1:a.eval (aJ 1)=bp (some ⟨B1,0,none⟩):=e1;replace HB:=HB.tr ho;replace hF:=((hR.fr hF (by kernel_rfl)).cons (t:=1) e1).cons (t:=2) (hR.val 1 (by decide));clear hR ho e1;refine gp ?_;refine kJ ⟨[(8,true),(14,true)],[(3,aF true)],[(B1,(b.cells (ae p1 n1 c1) (ae none 0 0) (ae none 0 0)))],[]⟩ [(19,aF true)] hF hF ⟨fun w1 hS=>⟨_,_,aL K1 hS⟩,trivial⟩ ⟨fun w1 hS _=>ge (congrArg l5 (show(decide ((n1:Int)>(20:Int)))=true from decide_eq_true (by omega))),trivial⟩ ?_;intro a W ho hF;replace HB:=HB.tr ho;replace K1:=aL K1 ho;clear ho;refine wp_cond (t:=true) (hF.g 0 rfl) ?_;show cH aq _ _ _ _;replace hF:=hF.tl;replace hF:=hF.tl;refine kJ ⟨[],[],[],[]⟩ [(2,aF true)] hF hF trivial trivial ?_;intro a W ho hF;replace HB:=HB.tr ho;replace K1:=aL K1 ho;clear ho;refine gq ?_;show dQ aq Tryz.f18 (fun e w'=>e=aK (aF true)∧az w.heap.size w w') ej a W;exact bn (bU rfl _ _ _) hF.defers ⟨congrArg aK (((hF.g 0 rfl):a.eval (aJ 2)=aF true).trans rfl),HB⟩
theorem WN(b:BB)(p1:Option cU)(n1 c1:Nat)(hbig:20<n1)(w:ar):bm aq 29 #[aO (b.cells (ae p1 n1 c1) (ae none 0 0) (ae none 0 0))] w fun e w'=>e=aC (aF false)∧az w.heap.size w w':=by
 refine mD Tryz.func29 rfl ?_;have hF:=kY (args:=#[aO (b.cells (ae p1 n1 c1) (ae none 0 0) (ae none 0 0))]) (n:=11) (by simp) [(0,aO (b.cells (ae p1 n1 c1) (ae none 0 0) (ae none 0 0)))] ⟨nw rfl,trivial⟩;rw[show Tryz.f29.ntmps=11 from rfl];generalize (⟨#[aO (b.cells (ae p1 n1 c1) (ae none 0 0) (ae none 0 0))]++aV (11-(#[aO (b.cells (ae p1 n1 c1) (ae none 0 0) (ae none 0 0))]:Array aj).size) af,[]⟩:Act)=a at *;refine(fun h:∀W,az w.heap.size w W→cH aq _ _ a W=>h w (aw _ _)) ?_;intro W HB
 refine mL [fun v ds w9=>∃B,v=pv B 0∧w9.heap[B]?=some (au (b.cells (ae p1 n1 c1) (ae none 0 0) (ae none 0 0)) 28 (0,0)),pV (aF false)]
  _ (by kernel_rfl) hF.size hF.base ?_ ?_ ?_
 ·refine⟨?_,sV,trivial⟩
  ·rintro v ds w1 w2 hS ⟨B,h1,h2⟩ hb;exact⟨B,h1,aL h2 hb⟩
 ·refine⟨?_,?_,trivial⟩<;>rintro ev w1 hS hc hg hf ⟨b0,-⟩ hd
  ·clear hd;refine Lag.Yields.value (v:=pv w1.heap.size 0) (w':=w1.alloc (au (b.cells (ae p1 n1 c1) (ae none 0 0) (ae none 0 0)) 28)) ?_ ⟨⟨_,rfl,ay _ _⟩,cF ((aw _ _).alloc (ax _) _)⟩;go_simp
  ·clear hd;exact tV
 intro a W hR;have ho:=hR.s;obtain⟨B1,e1,K1⟩:=hR.val 0 (by decide);replace e1:a.eval (aJ 1)=bp (some ⟨B1,0,none⟩):=e1;replace HB:=HB.tr ho;replace hF:=((hR.fr hF (by kernel_rfl)).cons (t:=1) e1).cons (t:=2) (hR.val 1 (by decide));clear hR ho e1;replace hF:=hF.tl;refine kJ ⟨[(6,false)],[(1,aF true)],[(B1,(b.cells (ae p1 n1 c1) (ae none 0 0) (ae none 0 0)))],[]⟩ [(2,aF false)] hF hF ⟨fun w1 hS=>⟨_,_,aL K1 hS⟩,trivial⟩ ⟨fun w1 hS _=>gc (QO b p1 n1 c1 hbig w1),trivial⟩ ?_;intro a W ho hF;replace HB:=HB.tr ho;replace K1:=aL K1 ho;clear ho;refine gq ?_;show dQ aq Tryz.f29 (fun e w'=>e=aK (aF false)∧az w.heap.size w w') ej a W;exact bn (bU rfl _ _ _) hF.defers ⟨congrArg aK (((hF.g 0 rfl):a.eval (aJ 2)=aF false).trans rfl),HB⟩
def vt(x y:Int):Int:=if x<y then -1 else if y<x then 1 else 0
theorem IB(x:Int)(w:ar):bm aq 179 #[ah ag x] w fun e w'=>e=aC (aF false)∧w=w':=by
 go_enter Tryz.func179,Tryz.ntmps179
 go_wp2
 go_ret
 exact⟨rfl,rfl⟩
theorem vR(x y:Int)(w:ar):bm aq 161 #[ah ag x,ah ag y] w fun e w'=>e=aC (ah ag (vt x y))∧w=w':=by
 rcases Int.lt_trichotomy x y with h|h|h
 ·have e:vt x y = -1:=by unfold vt;rw[if_pos h]
  rw[e];clear e
  go_enter Tryz.func161,Tryz.ntmps161
  go_wp2_with (go_at_call 179;refine(IB _ _).mono ?_;rintro e w' ⟨rfl,rfl⟩)
  go_ret
  exact⟨rfl,rfl⟩
 ·subst h;have e:vt x x=0:=by unfold vt;simp
  rw[e];clear e
  go_enter Tryz.func161,Tryz.ntmps161
  go_wp2_with (go_at_call 179;refine(IB _ _).mono ?_;rintro e w' ⟨rfl,rfl⟩)
  go_ret
  exact⟨rfl,rfl⟩
 ·have e:vt x y=1:=by unfold vt;rw[if_neg (by omega),if_pos h]
  have h2:¬x<y:=by omega
  rw[e];clear e
  go_enter Tryz.func161,Tryz.ntmps161
  go_wp2_with (go_at_call 179;refine(IB _ _).mono ?_;rintro e w' ⟨rfl,rfl⟩)
  go_ret
  exact⟨rfl,rfl⟩
def gG:List Int→List Int→Int
 |[],[]=>0
 |[],_::_=>-1
 |_::_,[]=>1
 |x::xs,y::ys=>if vt x y≠0 then vt x y else gG xs ys
theorem C7:∀(xs ys:List Int),-1≤gG xs ys∧gG xs ys≤1
 |[],[]=>by simp[gG]
 |[],_::_=>by simp[gG]
 |_::_,[]=>by simp[gG]
 |x::xs,y::ys=>by
  have:=C7 xs ys;unfold gG
  by_cases h:vt x y≠0
  ·rw[if_pos h];unfold vt
   by_cases h1:x<y
   ·rw[if_pos h1];omega
   ·rw[if_neg h1]
    by_cases h2:y<x
    ·rw[if_pos h2];omega
    ·rw[if_neg h2];omega
  ·rw[if_neg h];exact this
theorem Q9(xs ys:List Int)(k:Nat)(hx:k<xs.length)(hy:k<ys.length):gG (xs.drop k) (ys.drop k)=if vt xs[k] ys[k]≠0 then vt xs[k] ys[k] else gG (xs.drop (k+1)) (ys.drop (k+1)):=by
 rw[dM hx,dM hy];rfl
theorem Q6(xs ys:List Int)(k:Nat)(hx:k<xs.length)(hy:ys.length≤k):gG (xs.drop k) (ys.drop k)=1:=by
 rw[dM hx,List.drop_eq_nil_of_le hy];rfl
theorem EN(xs ys:List Int)(k:Nat)(hx:xs.length≤k)(hk:k≤ys.length):gG (xs.drop k) (ys.drop k)=if k<ys.length then -1 else 0:=by
 rw[List.drop_eq_nil_of_le hx]
 by_cases h:k<ys.length
 ·rw[dM h,if_pos h];rfl
 ·rw[List.drop_eq_nil_of_le (by omega),if_neg h];rfl
theorem NC(w:ar):bm aq 98 #[(ae none 0 0),(ae none 0 0)] w fun e w'=>e=aC (ah ag (gG [] []))∧w=w':=by
 go_enter Tryz.func98,Tryz.ntmps98
 go_wp2
 go_loop [11] (fun i=>i=ah ag 0) (fun _=>0)
 case atStart=>exact rfl
 case round=>
  obtain rfl:=hrel;go_wp2
  go_ret
  exact⟨rfl,rfl⟩
theorem NB(w:ar)(ys:List Int)(g2 o2 L2 c2:Nat)(hL2:ys.length=L2)(wa:L2≤4294967296)(hc2:∀j u,(ys.map (aG ag))[j]?=some u→w.cell? ⟨g2,o2+j,none⟩=some u):bm aq 98 #[(ae none 0 0),(ae (some ⟨g2,o2,none⟩) L2 c2)] w fun e w'=>e=aC (ah ag (gG [] ys))∧w=w':=by
 have JG:=ai hL2;have HC2:=ai hc2;clear hL2 hc2
 go_enter Tryz.func98,Tryz.ntmps98
 go_wp2
 go_loop [11] (fun i=>i=ah ag 0) (fun _=>0)
 case atStart=>exact rfl
 case round=>
  obtain rfl:=hrel
  by_cases h0:0<L2
  ·have HE:lh (gG [] ys = -1):=by have:=EN [] ys 0 (by simp) (by omega);rw[JG.out,if_pos h0] at this;exact ai (by simpa using this)
   go_wp2
   go_ret
   exact⟨gR HE.out.symm,rfl⟩
  ·have HE:lh (gG [] ys=0):=by have:=EN [] ys 0 (by simp) (by omega);rw[JG.out,if_neg h0] at this;exact ai (by simpa using this)
   go_wp2
   go_ret
   exact⟨gR HE.out.symm,rfl⟩
theorem NA(w:ar)(xs:List Int)(g1 o1 L1 c1:Nat)(ZU:xs.length=L1)(uf:L1≤4294967296)(hc1:∀j u,(xs.map (aG ag))[j]?=some u→w.cell? ⟨g1,o1+j,none⟩=some u):bm aq 98 #[(ae (some ⟨g1,o1,none⟩) L1 c1),(ae none 0 0)] w fun e w'=>e=aC (ah ag (gG xs []))∧w=w':=by
 have HL1:=ai ZU;have Pu:=ai hc1;clear ZU hc1
 go_enter Tryz.func98,Tryz.ntmps98
 go_wp2
 go_loop [5,6,7,8,11] (fun _ _ _ _ i=>∃k:Nat,k≤L1∧i=ah ag k∧gG xs []=gG (xs.drop k) []) (fun _ _ _ _ i=>L1-(intOf i).toNat)
 case atStart=>exact⟨0,by omega,rfl,by simp⟩
 case round=>
  obtain⟨k,qq,rfl,Nk⟩:=hrel;have Pt:=ai Nk;clear Nk
  by_cases hlt:k<L1
  ·have ki:k<xs.length:=by rw[HL1.out];exact hlt
   have Zy:w.cell? ⟨g1,o1+k,none⟩=some (ah ag xs[k]):=Pu.out k _ (by simp[ki]);have HE:lh (gG xs []=1):=by have h1:=Pt.out;rw[dM ki] at h1;rw[h1];rfl
   generalize xs[k]=x at *
   go_wp2_with (go_at_call 161;refine(vR _ _ _).mono ?_;rintro e w' ⟨rfl,rfl⟩)
   go_ret
   exact⟨gR HE.out.symm,rfl⟩
  ·obtain rfl:k=L1:=by omega
   have HE:lh (gG xs []=0):=by rw[Pt.out,List.drop_eq_nil_of_le (by rw[HL1.out];exact ax _)];rfl
   go_wp2_with (go_at_call 161;refine(vR _ _ _).mono ?_;rintro e w' ⟨rfl,rfl⟩)
   go_ret
   exact⟨gR HE.out.symm,rfl⟩
theorem Nz(w:ar)(xs:List Int)(g1 o1 L1 c1:Nat)(ZU:xs.length=L1)(uf:L1≤4294967296)(hc1:∀j u,(xs.map (aG ag))[j]?=some u→w.cell? ⟨g1,o1+j,none⟩=some u)(ys:List Int)(g2 o2 L2 c2:Nat)(hL2:ys.length=L2)(wa:L2≤4294967296)(hc2:∀j u,(ys.map (aG ag))[j]?=some u→w.cell? ⟨g2,o2+j,none⟩=some u):bm aq 98 #[(ae (some ⟨g1,o1,none⟩) L1 c1),(ae (some ⟨g2,o2,none⟩) L2 c2)] w fun e w'=>e=aC (ah ag (gG xs ys))∧w=w':=by
 have HL1:=ai ZU;have Pu:=ai hc1;clear ZU hc1;have JG:=ai hL2;have HC2:=ai hc2;clear hL2 hc2
 go_enter Tryz.func98,Tryz.ntmps98
 go_wp2
 go_loop [5,6,7,8,11] (fun _ _ _ _ i=>∃k:Nat,k≤L1∧k≤L2∧i=ah ag k∧gG xs ys=gG (xs.drop k) (ys.drop k)) (fun _ _ _ _ i=>L1-(intOf i).toNat)
 case atStart=>exact⟨0,by omega,by omega,rfl,by simp⟩
 case round=>
  obtain⟨k,qq,hk2,rfl,Nk⟩:=hrel;have Pt:=ai Nk;clear Nk
  by_cases hlt:k<L1
  ·have ki:k<xs.length:=by rw[HL1.out];exact hlt
   have Zy:w.cell? ⟨g1,o1+k,none⟩=some (ah ag xs[k]):=Pu.out k _ (by simp[ki])
   by_cases hlt2:k<L2
   ·have hky:k<ys.length:=by rw[JG.out];exact hlt2
    have agn:w.cell? ⟨g2,o2+k,none⟩=some (ah ag ys[k]):=HC2.out k _ (by simp[hky]);have hst:=Q9 xs ys k ki hky;generalize xs[k]=x at *;generalize ys[k]=y at *;have hC:=vR x y;obtain⟨c,hc⟩:∃c,vt x y=c:=⟨_,rfl⟩
    rw[hc] at hst hC;have HCC:=ai hc;clear hc
    by_cases hz:c=0
    ·subst hz;rw[if_neg (by simp)] at hst;have HST:=ai hst;clear hst
     go_wp2_with (go_at_call 161;refine(hC _).mono ?_;rintro e w' ⟨rfl,rfl⟩)
     go_round
     case rel=>exact⟨k+1,by omega,by omega,by go_num,Pt.out.trans HST.out⟩
     case measure=>simp[intOf];omega
    ·have hb:(c==0)=false:=by simpa using hz
     have hb2:(c !=0)=true:=by simpa using hz
     rw[if_pos hz] at hst;have HST:=ai hst;have HZ:=ai hz;clear hst hz
     go_wp2_with (go_at_call 161;refine(hC _).mono ?_;rintro e w' ⟨rfl,rfl⟩)
     go_ret
     exact⟨gR (Pt.out.trans HST.out).symm,rfl⟩
   ·have HE:lh (gG xs ys=1):=Pt.out.trans (Q6 xs ys k ki (by rw[JG.out];omega));generalize xs[k]=x at *
    go_wp2_with (go_at_call 161;refine(vR _ _ _).mono ?_;rintro e w' ⟨rfl,rfl⟩)
    go_ret
    exact⟨gR HE.out.symm,rfl⟩
  ·obtain rfl:k=L1:=by omega
   have hend:=EN xs ys k (by rw[HL1.out];exact ax _) (by rw[JG.out];exact hk2);rw[JG.out] at hend
   by_cases h0:k<L2
   ·rw[if_pos h0] at hend;have HE:lh (gG xs ys = -1):=Pt.out.trans hend;clear hend
    go_wp2_with (go_at_call 161;refine(vR _ _ _).mono ?_;rintro e w' ⟨rfl,rfl⟩)
    go_ret
    exact⟨gR HE.out.symm,rfl⟩
   ·rw[if_neg h0] at hend;have HE:lh (gG xs ys=0):=Pt.out.trans hend;clear hend
    go_wp2_with (go_at_call 161;refine(vR _ _ _).mono ?_;rintro e w' ⟨rfl,rfl⟩)
    go_ret
    exact⟨gR HE.out.symm,rfl⟩
theorem rb(xs ys:List Int)(v1 v2:aj)(w:ar)(h1:Reads w v1 xs.length (xs.map (aG ag)))(h2:Reads w v2 ys.length (ys.map (aG ag))) :
  bm aq 98 #[v1,v2] w fun e w'=>e=aC (ah ag (gG xs ys))∧w=w':=by
 rcases h1 with⟨rfl,hn,_⟩|⟨g1,o1,c1,rfl,uf,_,hc1⟩
 ·obtain rfl:=aY hn;rcases h2 with⟨rfl,hn,_⟩|⟨g2,o2,c2,rfl,wa,_,hc2⟩
  ·obtain rfl:=aY hn;exact NC w
  ·exact NB w ys g2 o2 _ c2 rfl wa.1 hc2
 ·rcases h2 with⟨rfl,hn,_⟩|⟨g2,o2,c2,rfl,wa,_,hc2⟩
  ·obtain rfl:=aY hn;exact NA w xs g1 o1 _ c1 rfl uf.1 hc1
  ·exact Nz w xs g1 o1 _ c1 rfl uf.1 hc1 ys g2 o2 _ c2 rfl wa.1 hc2
def gJ(p:Nat):List Int:=(upTo p 8).map fun(m:Nat)=>(m:Int)
theorem Qk(p:Nat):(gJ p).length=(upTo p 8).length:=by simp[gJ]
theorem r8(p:Nat)(hp:p<512)(w:ar):bm aq 99 #[ah ag p] w fun e w'=>∃v,e=aC v∧Reads w' v (gJ p).length ((gJ p).map (aG ag))∧az w.heap.size w w':=by
 refine(Ky p hp w).mono ?_;rintro e w' ⟨v,rfl,hown,hb⟩;have hle:=vE p 8;refine⟨v,rfl,?_,hb⟩;have:=Reads.iW hown (by omega) (by simp);rw[Qk];simpa [gJ,Function.comp_def] using this
def sj(a b:Nat):Bool:=decide ((upTo a 8).length<(upTo b 8).length)||(decide ((upTo a 8).length=(upTo b 8).length)&&decide (gG (gJ a) (gJ b)<0))
def si(a b:Nat):Bool:=decide ((upTo a 8).length<(upTo b 8).length)||(decide ((upTo a 8).length=(upTo b 8).length)&&decide (0<gG (gJ a) (gJ b)))
theorem Qn(a b:Nat)(ha:a<512)(hb:b<512)(w:ar):bm aq 96 #[ah ag a,ah ag b] w fun e w'=>e=aC (aF (sj a b))∧az w.heap.size w w':=by
 have hA:=sF a ha;have hB:=sF b hb;have lA:=r8 a ha;have lB:=r8 b hb;have afZ:=vE a 8;have afY:=vE b 8;have hL:sj a b=(decide ((upTo a 8).length<(upTo b 8).length)||(decide ((upTo a 8).length=(upTo b 8).length)&&decide (gG (gJ a) (gJ b)<0))):=rfl;have zm:=C7 (gJ a) (gJ b);generalize (upTo a 8).length=na at *;generalize (upTo b 8).length=nb at *;obtain⟨c,hc⟩:∃c,gG (gJ a) (gJ b)=c:=⟨_,rfl⟩
 rw[hc] at hL zm;have hC:=rb (gJ a) (gJ b);rw[hc] at hC;generalize sj a b=r at *;have HL:=ai hL;clear hL hc
 have K:∀w,bm aq 96 #[ah ag a,ah ag b] w fun e w'=>e=aC (aF (decide (na<nb)||(decide (na=nb)&&decide (c<0))))∧az w.heap.size w w':=by
  clear HL;intro w
  by_cases h1:na<nb
  ·have e1:decide (na<nb)=true:=by simp;omega
   have er:(decide (na<nb)||(decide (na=nb)&&decide (c<0)))=true:=by rw[decide_eq_true h1];rfl
   rw[er];have H1:=ai h1;clear h1 er
   go_enter Tryz.func96,Tryz.ntmps96
   go_wp2_with fail
   refine(hA _).mono ?_;rintro e w1 ⟨rfl,hb1⟩
   go_wp2_with fail
   refine(hB _).mono ?_;rintro e w2 ⟨rfl,hb2⟩;go_wp2
   go_ret
   exact⟨rfl,hb1.trans (hb2.mono hb1.size)⟩
  ·have e1:decide (na<nb)=false:=by simp;omega
   by_cases h2:na=nb
   ·subst h2;have er:(decide (na<na)||(decide (na=na)&&decide (c<0)))=decide (c<0):=by simp
    rw[er];clear h1 er e1;have e1:decide (na<na)=false:=by simp
    have e9:(na==na)=true:=by simp
    go_enter Tryz.func96,Tryz.ntmps96
    go_wp2_with fail
    refine(hA _).mono ?_;rintro e w1 ⟨rfl,hb1⟩
    go_wp2_with fail
    refine(hB _).mono ?_;rintro e w2 ⟨rfl,hb2⟩
    go_wp2_with fail
    refine(hA _).mono ?_;rintro e w3 ⟨rfl,hb3⟩
    go_wp2_with fail
    refine(hB _).mono ?_;rintro e w4 ⟨rfl,hb4⟩
    go_wp2_with fail
    refine(lA _).mono ?_;rintro e w5 ⟨v5,rfl,hr5,hb5⟩
    go_wp2_with fail
    refine(lB _).mono ?_;rintro e w6 ⟨v6,rfl,hr6,hb6⟩;have Tj:=hr5.below hb6
    go_wp2_with fail
    refine(hC v5 v6 _ Tj hr6).mono ?_;rintro e w7 ⟨rfl,rfl⟩;clear hr5 Tj hr6;go_wp2
    go_ret
    exact⟨rfl,hb1.trans ((hb2.trans ((hb3.trans ((hb4.trans ((hb5.trans (hb6.mono hb5.size)).mono hb4.size)).mono hb3.size)).mono hb2.size)).mono hb1.size)⟩
   ·have e2:decide ((na:Int)=(nb:Int))=false:=by simp;omega
    have e3:((na:Int)==(nb:Int))=false:=by simp;omega
    have e4:(na==nb)=false:=by simp;omega
    have er:(decide (na<nb)||(decide (na=nb)&&decide (c<0)))=false:=by rw[decide_eq_false h1,decide_eq_false h2];rfl
    rw[er];have H1:=ai h1;have H2:=ai h2;clear h1 h2 er
    go_enter Tryz.func96,Tryz.ntmps96
    go_wp2_with fail
    refine(hA _).mono ?_;rintro e w1 ⟨rfl,hb1⟩
    go_wp2_with fail
    refine(hB _).mono ?_;rintro e w2 ⟨rfl,hb2⟩
    go_wp2_with fail
    refine(hA _).mono ?_;rintro e w3 ⟨rfl,hb3⟩
    go_wp2_with fail
    refine(hB _).mono ?_;rintro e w4 ⟨rfl,hb4⟩;go_wp2
    go_ret
    exact⟨rfl,hb1.trans ((hb2.trans ((hb3.trans (hb4.mono hb3.size)).mono hb2.size)).mono hb1.size)⟩
 rw[HL.out];exact K w
theorem Qm(a b:Nat)(ha:a<512)(hb:b<512)(w:ar):bm aq 102 #[ah ag a,ah ag b] w fun e w'=>e=aC (aF (si a b))∧az w.heap.size w w':=by
 have hA:=sF a ha;have hB:=sF b hb;have lA:=r8 a ha;have lB:=r8 b hb;have afZ:=vE a 8;have afY:=vE b 8;have hL:si a b=(decide ((upTo a 8).length<(upTo b 8).length)||(decide ((upTo a 8).length=(upTo b 8).length)&&decide (0<gG (gJ a) (gJ b)))):=rfl;have zm:=C7 (gJ a) (gJ b);generalize (upTo a 8).length=na at *;generalize (upTo b 8).length=nb at *;obtain⟨c,hc⟩:∃c,gG (gJ a) (gJ b)=c:=⟨_,rfl⟩
 rw[hc] at hL zm;have hC:=rb (gJ a) (gJ b);rw[hc] at hC;generalize si a b=r at *;have HL:=ai hL;clear hL hc
 have K:∀w,bm aq 102 #[ah ag a,ah ag b] w fun e w'=>e=aC (aF (decide (na<nb)||(decide (na=nb)&&decide (0<c))))∧az w.heap.size w w':=by
  clear HL;intro w
  by_cases h1:na<nb
  ·have e1:decide (na<nb)=true:=by simp;omega
   have er:(decide (na<nb)||(decide (na=nb)&&decide (0<c)))=true:=by rw[decide_eq_true h1];rfl
   rw[er];have H1:=ai h1;clear h1 er
   go_enter Tryz.func102,Tryz.ntmps102
   go_wp2_with fail
   refine(hA _).mono ?_;rintro e w1 ⟨rfl,hb1⟩
   go_wp2_with fail
   refine(hB _).mono ?_;rintro e w2 ⟨rfl,hb2⟩;go_wp2
   go_ret
   exact⟨rfl,hb1.trans (hb2.mono hb1.size)⟩
  ·have e1:decide (na<nb)=false:=by simp;omega
   by_cases h2:na=nb
   ·subst h2;have er:(decide (na<na)||(decide (na=na)&&decide (0<c)))=decide (0<c):=by simp
    rw[er];clear h1 er e1;have e1:decide (na<na)=false:=by simp
    have e9:(na==na)=true:=by simp
    go_enter Tryz.func102,Tryz.ntmps102
    go_wp2_with fail
    refine(hA _).mono ?_;rintro e w1 ⟨rfl,hb1⟩
    go_wp2_with fail
    refine(hB _).mono ?_;rintro e w2 ⟨rfl,hb2⟩
    go_wp2_with fail
    refine(hA _).mono ?_;rintro e w3 ⟨rfl,hb3⟩
    go_wp2_with fail
    refine(hB _).mono ?_;rintro e w4 ⟨rfl,hb4⟩
    go_wp2_with fail
    refine(lA _).mono ?_;rintro e w5 ⟨v5,rfl,hr5,hb5⟩
    go_wp2_with fail
    refine(lB _).mono ?_;rintro e w6 ⟨v6,rfl,hr6,hb6⟩;have Tj:=hr5.below hb6
    go_wp2_with fail
    refine(hC v5 v6 _ Tj hr6).mono ?_;rintro e w7 ⟨rfl,rfl⟩;clear hr5 Tj hr6;go_wp2
    go_ret
    exact⟨rfl,hb1.trans ((hb2.trans ((hb3.trans ((hb4.trans ((hb5.trans (hb6.mono hb5.size)).mono hb4.size)).mono hb3.size)).mono hb2.size)).mono hb1.size)⟩
   ·have e2:decide ((na:Int)=(nb:Int))=false:=by simp;omega
    have e3:((na:Int)==(nb:Int))=false:=by simp;omega
    have e4:(na==nb)=false:=by simp;omega
    have er:(decide (na<nb)||(decide (na=nb)&&decide (0<c)))=false:=by rw[decide_eq_false h1,decide_eq_false h2];rfl
    rw[er];have H1:=ai h1;have H2:=ai h2;clear h1 h2 er
    go_enter Tryz.func102,Tryz.ntmps102
    go_wp2_with fail
    refine(hA _).mono ?_;rintro e w1 ⟨rfl,hb1⟩
    go_wp2_with fail
    refine(hB _).mono ?_;rintro e w2 ⟨rfl,hb2⟩
    go_wp2_with fail
    refine(hA _).mono ?_;rintro e w3 ⟨rfl,hb3⟩
    go_wp2_with fail
    refine(hB _).mono ?_;rintro e w4 ⟨rfl,hb4⟩;go_wp2
    go_ret
    exact⟨rfl,hb1.trans ((hb2.trans ((hb3.trans (hb4.mono hb3.size)).mono hb2.size)).mono hb1.size)⟩
 rw[HL.out];exact K w
def jB(lt:Nat→Nat→Bool)(first:Nat)(more:List Nat):Nat:=more.foldl (fun b x=>if lt x b then x else b) first
theorem E4(lt:Nat→Nat→Bool)(first:Nat)(more:List Nat)(k:Nat)(hk:k<more.length):jB lt first (more.take (k+1))=if lt more[k] (jB lt first (more.take k)) then more[k] else jB lt first (more.take k):=by
 unfold jB;rw[List.take_succ_eq_append_getElem hk,List.foldl_append];rfl
theorem zO(lt:Nat→Nat→Bool):∀(more:List Nat) (first:Nat),first<512→(∀x∈more,x<512)→jB lt first more<512
 |[],first,h,_=>h
 |x::more,first,h,hx=>by
  refine zO lt more _ ?_ (fun y hy=>hx y (by simp[hy]));show(if lt x first=true then x else first)<512
  by_cases hl:lt x first=true
  ·rw[if_pos hl];exact hx x (by simp)
  ·rw[if_neg hl];exact h
theorem Ri(first:Nat)(hf:first<512)(more:List Nat)(hm:∀x∈more,x<512)(v:aj)(w:ar)(hv:Reads w v more.length (more.map fun(p:Nat)=>aG ag (p:Int))) :
  bm aq 160 #[.func (.func 96) #[] #[],ah ag first,v] w fun e w'=>e=aC (ah ag (jB sj first more:Nat))∧az w.heap.size w w':=by
 rcases hv with⟨rfl,hn,_⟩|⟨g,off,cap,rfl,hn,hg,hc⟩
 ·obtain rfl:=aY hn;clear hn
  go_enter Tryz.func160,Tryz.ntmps160
  go_wp2
  go_loopw [1,11] (fun b i wr=>i=ah ag 0∧b=ah ag first∧az w.heap.size w wr) (fun _ _ _=>0)
  case atStart=>exact⟨rfl,rfl,aw _ _⟩
  case round=>
   obtain⟨rfl,rfl,dX⟩:=hrel;go_wp2
   go_ret
   exact⟨rfl,dX⟩
 ·have HC:=ai hc;have HM:=ai hm;clear hc hm;generalize hL:more.length=L at *;have HL:=ai hL;clear hL
  go_enter Tryz.func160,Tryz.ntmps160
  go_wp2
  go_loopw [1,8,11] (fun b _ i wr=>∃k:Nat,k≤L∧i=ah ag k∧b=ah ag (jB sj first (more.take k):Nat)∧az w.heap.size w wr) (fun _ _ i _=>L-(intOf i).toNat)
  case atStart=>exact⟨0,by omega,rfl,rfl,aw _ _⟩
  case round=>
   obtain⟨k,hk,rfl,rfl,dX⟩:=hrel;have hbl:=zO sj (more.take k) first hf (fun x hx=>HM.out x (fp hx))
   by_cases hlt:k<L
   ·have ki:k<more.length:=by rw[HL.out];exact hlt
    have hcell:wr.cell? ⟨g,off+k,none⟩=some (ah ag (more[k]:Nat)):=(dX.cell (p:=⟨g,off+k,none⟩) hg).trans (HC.out k _ (by simp[ki]));have hx:=HM.out more[k] (bO ki);have hst:=E4 sj first more k ki
    generalize more[k]=x at *;generalize jB sj first (more.take k)=bst at *
    have hB:=Qn x bst hx hbl;have hsz:=dX.size;cases hr:sj x bst
    all_goals
     rw[hr] at hst hB;have HR:=ai hr;have HST:=ai hst;clear hr hst
     go_wp2_with (go_at_call 96;refine(hB _).mono ?_;rintro e w2 ⟨rfl,hb2⟩)
     go_roundw
     case rel=>exact⟨k+1,by omega,by go_num,by rw[HST.out];rfl,dX.trans (hb2.mono hsz)⟩
     case measure=>simp[intOf];omega
   ·obtain rfl:k=L:=by omega
    have tq:more.take k=more:=cS (by rw[HL.out];exact ax _);rw[tq];clear tq;go_wp2
    go_ret
    exact⟨rfl,dX⟩
theorem Rh(first:Nat)(hf:first<512)(more:List Nat)(hm:∀x∈more,x<512)(v:aj)(w:ar)(hv:Reads w v more.length (more.map fun(p:Nat)=>aG ag (p:Int))) :
  bm aq 160 #[.func (.func 102) #[] #[],ah ag first,v] w fun e w'=>e=aC (ah ag (jB si first more:Nat))∧az w.heap.size w w':=by
 rcases hv with⟨rfl,hn,_⟩|⟨g,off,cap,rfl,hn,hg,hc⟩
 ·obtain rfl:=aY hn;clear hn
  go_enter Tryz.func160,Tryz.ntmps160
  go_wp2
  go_loopw [1,11] (fun b i wr=>i=ah ag 0∧b=ah ag first∧az w.heap.size w wr) (fun _ _ _=>0)
  case atStart=>exact⟨rfl,rfl,aw _ _⟩
  case round=>
   obtain⟨rfl,rfl,dX⟩:=hrel;go_wp2
   go_ret
   exact⟨rfl,dX⟩
 ·have HC:=ai hc;have HM:=ai hm;clear hc hm;generalize hL:more.length=L at *;have HL:=ai hL;clear hL
  go_enter Tryz.func160,Tryz.ntmps160
  go_wp2
  go_loopw [1,8,11] (fun b _ i wr=>∃k:Nat,k≤L∧i=ah ag k∧b=ah ag (jB si first (more.take k):Nat)∧az w.heap.size w wr) (fun _ _ i _=>L-(intOf i).toNat)
  case atStart=>exact⟨0,by omega,rfl,rfl,aw _ _⟩
  case round=>
   obtain⟨k,hk,rfl,rfl,dX⟩:=hrel;have hbl:=zO si (more.take k) first hf (fun x hx=>HM.out x (fp hx))
   by_cases hlt:k<L
   ·have ki:k<more.length:=by rw[HL.out];exact hlt
    have hcell:wr.cell? ⟨g,off+k,none⟩=some (ah ag (more[k]:Nat)):=(dX.cell (p:=⟨g,off+k,none⟩) hg).trans (HC.out k _ (by simp[ki]));have hx:=HM.out more[k] (bO ki);have hst:=E4 si first more k ki
    generalize more[k]=x at *;generalize jB si first (more.take k)=bst at *
    have hB:=Qm x bst hx hbl;have hsz:=dX.size;cases hr:si x bst
    all_goals
     rw[hr] at hst hB;have HR:=ai hr;have HST:=ai hst;clear hr hst
     go_wp2_with (go_at_call 102;refine(hB _).mono ?_;rintro e w2 ⟨rfl,hb2⟩)
     go_roundw
     case rel=>exact⟨k+1,by omega,by go_num,by rw[HST.out];rfl,dX.trans (hb2.mono hsz)⟩
     case measure=>simp[intOf];omega
   ·obtain rfl:k=L:=by omega
    have tq:more.take k=more:=cS (by rw[HL.out];exact ax _);rw[tq];clear tq;go_wp2
    go_ret
    exact⟨rfl,dX⟩
theorem afj(n:Int)(h:0≤n∧n≤99)(w:ar):bm aq 167 #[ah ag n] w fun e w'=>e=aC (aF false)∧w=w':=by
 go_enter Tryz.func167,Tryz.ntmps167
 go_wp2_with (go_at_call 138;refine(iR _ _ _ (by omega) (by omega) _).mono ?_;rintro e w' ⟨rfl,rfl⟩)
 go_ret
 exact⟨rfl,rfl⟩
theorem VX(xs:List Int)(Md:∀x∈xs,0≤x∧x≤99)(v:aj)(w:ar)(hv:Reads w v xs.length (xs.map (aG ag))) :
  bm aq 170 #[v,.func (.func 167) #[] #[]] w fun e w'=>e=aC (ah ag (-1))∧w=w':=by
 rcases hv with⟨rfl,hn,hx0⟩|⟨g,off,cap,rfl,hn,hg,hc⟩
 ·obtain rfl:xs=[]:=by simpa using hx0
  clear hx0 hn
  go_enter Tryz.func170,Tryz.ntmps170
  go_wp2
  go_loopw [8] (fun i wr=>i=ah ag 0∧wr=w) (fun _ _=>0)
  case atStart=>exact⟨rfl,rfl⟩
  case round=>
   obtain⟨rfl,rfl⟩:=hrel;go_wp2
   go_ret
   exact⟨rfl,rfl⟩
 ·have HC:=ai hc;clear hc;generalize hL:xs.length=L at *;have HL:=ai hL;clear hL
  go_enter Tryz.func170,Tryz.ntmps170
  go_wp2
  go_loopw [5,8] (fun _ i wr=>∃k:Nat,k≤L∧i=ah ag k∧wr=w) (fun _ i _=>L-(intOf i).toNat)
  case atStart=>exact⟨0,by omega,rfl,rfl⟩
  case round=>
   obtain⟨k,hk,rfl,rfl⟩:=hrel
   by_cases hlt:k<L
   ·have ki:k<xs.length:=by rw[HL.out];exact hlt
    have hcell:wr.cell? ⟨g,off+k,none⟩=some (ah ag xs[k]):=HC.out k _ (by simp[ki]);have hx:=Md xs[k] (bO ki);generalize xs[k]=x at *;clear Md
    go_wp2_with (go_at_call 167;refine(afj x hx _).mono ?_;rintro e w2 ⟨rfl,rfl⟩)
    go_roundw
    case rel=>exact⟨k+1,by omega,by simp⟩
    case measure=>(simp[intOf];try omega)
   ·obtain rfl:k=L:=by omega
    clear Md;go_wp2
    go_ret
    exact⟨rfl,rfl⟩
theorem Ny(xs:List Int)(Md:∀x∈xs,0≤x∧x≤99)(v:aj)(w:ar)(hv:Reads w v xs.length (xs.map (aG ag))) :
  bm aq 166 #[v,.func (.func 167) #[] #[]] w fun e w'=>e=aC (aF false)∧w=w':=by
 have H:=ai (VX xs Md v w hv);clear Md hv
 go_enter Tryz.func166,Tryz.ntmps166
 go_wp2_with (go_at_call 170;refine H.out.mono ?_;rintro e w2 ⟨rfl,rfl⟩)
 go_ret
 exact⟨rfl,rfl⟩
def pq(lk:Int)(br:List Int):dT:=⟨lk,br.getD 0 0,br.getD 1 0,br.getD 2 0⟩
theorem LU(lk:Int):∀(br:List Int),br.length≤3→
  ((#[aG ag lk,ah ag 0,ah ag 0,ah ag 0]:Array aj).toList.take 1++br.map (aG ag)++(#[aG ag lk,ah ag 0,ah ag 0,ah ag 0]:Array aj).toList.drop (1+(br.map (aG ag)).length)).toArray=(pq lk br).cells
 |[],_=>rfl
 |[_],_=>rfl
 |[_,_],_=>rfl
 |[_,_,_],_=>rfl
 |_::_::_::_::_,h=>by simp at h
theorem KW(b:BB)(men sent marks:aj)(ml:List Mn)(XR:ml.length≤3)(lk:Int)(h0:0≤lk∧lk≤99)(br:List Int)(hbr:∀x∈br,0≤x∧x≤99)(hl:br.length=ml.length)(g off cap:Nat)(w:ar)(hm:Reads w men ml.length (dS ml))
  (hg:g<w.heap.size) (KS:br.length≤cap) (hcc:∀j u,(br.map (aG ag))[j]?=some u→w.cell? ⟨g,off+j,none⟩=some u) :
  bm aq 112 #[aO (b.cells men sent marks),aO #[ah ag lk,ae (some ⟨g,off,none⟩) br.length cap]] w fun e w'=>e=aC (.tuple #[aO (pq lk br).cells,ah ag 0])∧az w.heap.size w w':=by
 have hv:Reads w (ae (some ⟨g,off,none⟩) br.length cap) br.length (br.map (aG ag)):=.inr ⟨g,off,cap,rfl,⟨by omega,KS⟩,hg,hcc⟩;have hb3:az w.heap.size w (((w.alloc (au (b.cells men sent marks) 119)).alloc (au #[ah ag lk,ae (some ⟨g,off,none⟩) br.length cap] 42)).alloc (au #[ah ag 0,ah ag 0,ah ag 0,ah ag 0] 134)):=(((aw _ w).alloc (ax _) _).alloc (by simp) _).alloc (by simp;omega) _;obtain⟨pm,cm,rfl,_⟩:=aR hm;have Ma:=ai (Ny br hbr _ _ (hv.below hb3));have hb8:=((((aw _ w).alloc (ax _) (au (b.cells (ae pm ml.length cm) sent marks) 119)).alloc (by simp) (au #[ah ag lk,ae (some ⟨g,off,none⟩) br.length cap] 42)).alloc (by simp;omega) (au #[ah ag lk,ah ag 0,ah ag 0,ah ag 0] 134)).drew
 have hr8:((((w.alloc (au (b.cells (ae pm ml.length cm) sent marks) 119)).alloc (au #[ah ag lk,ae (some ⟨g,off,none⟩) br.length cap] 42)).alloc (au #[ah ag lk,ah ag 0,ah ag 0,ah ag 0] 134)).drew).heap[w.heap.size+1+1]?=some (au #[ah ag lk,ah ag 0,ah ag 0,ah ag 0] 134 (0,0)):=
  (ou w (b.cells (ae pm ml.length cm) sent marks) #[ah ag lk,ae (some ⟨g,off,none⟩) br.length cap] #[ah ag lk,ah ag 0,ah ag 0,ah ag 0] 119 42 134).2.2
 have ym:=run_copy_row (P:=aq) _ 25 25 3 3 (w.heap.size+1+1) 1 3 3 ⟨g,off,none⟩ br.length cap _ 134 (br.map (aG ag)) Tryz.underlying25 (by kernel_rfl) hr8 (by rw[dz];exact(Nat.min_eq_left (by omega)).symm)
  (fun j u hj=>by
   have h1:=(hb8.cell (p:=⟨g,off+j,none⟩) hg).trans (hcc j u hj);have e:(⟨g,off,none⟩:cU).add j=⟨g,off+j,none⟩:=by cases j<;>simp[Addr.add]
   rw[e];exact h1) (by simp;try omega) (by intro u hu;simp at hu;obtain⟨x,_,rfl⟩:=hu;rfl)
 rw[LU lk br (by omega)] at ym;have HR:lh ((((((w.alloc (au (b.cells (ae pm ml.length cm) sent marks) 119)).alloc (au #[ah ag lk,ae (some ⟨g,off,none⟩) br.length cap] 42)).alloc (au #[ah ag lk,ah ag 0,ah ag 0,ah ag 0] 134)).drew).setRow (w.heap.size+1+1) (pq lk br).cells).heap[w.heap.size+1+1]?=some (au (pq lk br).cells 134 (0,0))):=ai (cV hr8);have HB:=ai hb8;have hbl:(br.map (aG ag)).length=br.length:=dz _;rw[hbl] at ym;clear hb3 hcc hv hm hr8 hb8 hbl hbr;rw[←hl] at *;generalize br.length=L at *;generalize pq lk br=A at *;have z1:IntKind.i64.wrap (L:Int)=L:=eY _ (by omega) (by omega)
 go_enter Tryz.func112,Tryz.ntmps112
 go_wp2_with (first
  |(go_at_call 138;refine(iR _ _ _ (by omega) (by omega) _).mono ?_;rintro e w' ⟨rfl,rfl⟩)
  |(go_at_call 166;refine Ma.out.mono ?_;rintro e w' ⟨rfl,rfl⟩))
 go_region
 all_goals
  go_wp2_with (first
   |(refine wpList_load_row rfl 134 _ rfl _ rfl 134 _ (0,0) _ HR.out Tryz.underlying134 rfl (by kernel_rfl) ?_)
   |(refine wpList_store_row rfl 134 _ _ rfl _ _ rfl rfl 134 _ HR.out (by kernel_rfl) rfl (by simp[cu]) ?_))
  refine bn (results_cell_tmp (g:=w.heap.size+1+1) rfl rfl (run_loadVar_row _ _ 134 134 _ (0,0) _ (cV HR.out) Tryz.underlying134 rfl (by kernel_rfl))) rfl ⟨rfl,?_⟩;exact dA (dA HB.out (by omega)) (by omega)
theorem Un{lk:Int}(h0:0≤lk∧lk≤99):∀ {br:List Int},br.length≤3→(∀x∈br,0≤x∧x≤99)→(pq lk br).Ok
 |[],_,_=>⟨⟨h0.1,by show lk≤400;omega⟩,by simp[pq],by simp[pq],by simp[pq]⟩
 |[a],_,h=>⟨⟨h0.1,by show lk≤400;omega⟩,h a (by simp),by simp[pq],by simp[pq]⟩
 |[a,c],_,h=>⟨⟨h0.1,by show lk≤400;omega⟩,h a (by simp),h c (by simp),by simp[pq]⟩
 |[a,c,d],_,h=>⟨⟨h0.1,by show lk≤400;omega⟩,h a (by simp),h c (by simp),h d (by simp)⟩
 |_::_::_::_::_,h,_=>by simp at h
theorem Xj(b:BB)(men sent marks:aj)(ml:List Mn)(ss:List Int)(ms:List Mk)(w:ar)(hL:Laid w)(hB:cI b men sent marks ml ss ms w)(lk:Int)(h0:0≤lk∧lk≤99)(br:List Int)(hbr:∀x∈br,0≤x∧x≤99)(hl:br.length=ml.length)
  (g off cap:Nat) (hg:g<w.heap.size) (KS:br.length≤cap) (hcc:∀j u,(br.map (aG ag))[j]?=some u→w.cell? ⟨g,off+j,none⟩=some u) (pl:List Int) (hp:fj b pl) (lv:aj) (hlv:Reads w lv pl.length (pl.map (aG ag))) :
  bm aq 32 #[aO (b.cells men sent marks),aO #[ah ag lk,ae (some ⟨g,off,none⟩) br.length cap],lv] w fun e w'=>∃v,e=aC (.tuple #[v,ah ag 0])∧Reads w' v b.minutes.toNat ((b.lN (b.bM+(pq lk br).used) (bE pl) b.minutes.toNat).map (aG ag))∧az w.heap.size w w':=by
 have cN:=hB.ok;have Ay:=cN.minutes;have o6:∀s∈pl,1≤s∧s≤8:=fun s h=>by have:=hp.mem s h;omega
 have Qy:bE pl<512:=mU pl o6;have XR:=hB.gX.len;have hao:=Un h0 (by omega) hbr;obtain⟨pm,cm,rfl,_⟩:=aR hB.rm;obtain⟨pn,cn,rfl,_⟩:=aR hB.rs;obtain⟨pk,ck,rfl,_⟩:=aR hB.rk;obtain⟨qi,qw,rfl,_⟩:=aR hlv;have b0:az w.heap.size w ((w.alloc (au (b.cells (ae pm ml.length cm) (ae pn ss.length cn) (ae pk ms.length ck)) 28)).alloc (au #[ah ag lk,ae (some ⟨g,off,none⟩) br.length cap] 42)):=((aw _ _).alloc (ax _) _).alloc (by simp) _;have HT:lh (Two w (b.cells (ae pm ml.length cm) (ae pn ss.length cn) (ae pk ms.length ck)) 28 #[ah ag lk,ae (some ⟨g,off,none⟩) br.length cap] 42 ((w.alloc (au (b.cells (ae pm ml.length cm) (ae pn ss.length cn) (ae pk ms.length ck)) 28)).alloc (au #[ah ag lk,ae (some ⟨g,off,none⟩) br.length cap] 42))):=ai ⟨(Two.mk' w _ _ _ _).one,(Two.mk' w _ _ _ _).two,b0,by simp⟩;have ur:=ai (eZ b _ _ _ ml ss ms _ (hL.below b0) (hB.below b0))
 have HHd:lh (∀W,az w.heap.size w W→bm aq 112 #[aO (b.cells (ae pm ml.length cm) (ae pn ss.length cn) (ae pk ms.length ck)),aO #[ah ag lk,ae (some ⟨g,off,none⟩) br.length cap]] W fun e w'=>e=aC (.tuple #[aO (pq lk br).cells,ah ag 0])∧az W.heap.size W w'):=ai fun W hb=>
  KW b _ _ _ ml XR lk h0 br hbr hl g off cap W (hB.below hb).rm (bB hg hb.size) KS fun j u hj=>(hb.cell (p:=⟨g,off+j,none⟩) hg).trans (hcc j u hj)
 have Yn:lh (∀W,az w.heap.size w W→bm aq 113 #[aO (b.cells (ae pm ml.length cm) (ae pn ss.length cn) (ae pk ms.length ck)),ae qi pl.length qw] W fun e w'=>e=aC (ah ag 0)∧az W.heap.size W w'):=ai fun W hb=>td b cN _ _ _ _ pl hp W (hlv.below hb);have HLv:=ai hlv;have Xo:=ai o6;clear hL hB hlv o6 hcc b0 hbr hp;generalize hA:pq lk br=A at *;clear hA;generalize ml.length=lm at *;generalize ss.length=ln at *;generalize ms.length=lk2 at *;generalize br.length=lb at *;subst hl
 go_enter Tryz.func32,Tryz.ntmps32
 go_wp2_with (first
  |(go_at_call 71;refine ur.out.mono ?_;clear ur;rintro e w1 ⟨rfl,hb1⟩
    have rN:=HT.out.next hb1;have oQ:=ai rN
    obtain⟨x0,x1,x2,x3,x4,x5,x6,x7,x8,x9,nX,nW,oU,oh,oP⟩:=bN rN.one;have zt:=(aS w1 (au (b.cells (ae pm lb cm) (ae pn ln cn) (ae pk lk2 ck)) 119) (w.heap.size+1) (by have:=rN.size;omega)).trans rN.two;have z0:=aH zt 0 _ rfl;have z1:=aH zt 1 _ rfl;clear zt
    clear rN hb1)
  |(go_at_call 112;refine(HHd.out _ (oQ.out.below.alloc (by have:=oQ.out.size;omega) _)).mono ?_;clear HHd;rintro e w2 ⟨rfl,hb2⟩
    have hk2:=(hb2.block w1.heap.size (by simp)).trans (ay w1 _);have Ga:=ai hk2;have o7:lh (az w.heap.size w w2):=ai ((oQ.out.below.alloc (by have:=oQ.out.size;omega) _).trans (hb2.mono (by have:=oQ.out.size;simp;omega)));obtain⟨y0,y1,y2,y3,y4,y5,y6,y7,y8,y9,Mp,Oc,Ob,Oa,JJ⟩:=bN ((aS w2 (au A.cells 134) _ (ak.1 hk2).1).trans hk2);have hs2:=hb2.size;simp only[World.size_alloc] at hs2
    clear hk2 hb2)
  |(go_at_call 113;refine(Yn.out _ (o7.out.alloc o7.out.size _)).mono ?_;clear Yn;rintro e w3 ⟨rfl,hb3⟩
    have HK3:lh (w3.heap[w1.heap.size]?=some (au (b.cells (ae pm lb cm) (ae pn ln cn) (ae pk lk2 ck)) 119 (0,0))):=ai ((hb3.block _ (by simp;omega)).trans ((aS _ _ _ (by omega)).trans Ga.out));have HA3:lh (w3.heap[w2.heap.size]?=some (au A.cells 134 (0,0))):=ai ((hb3.block _ (by simp)).trans (ay w2 _));have pw:lh (az w.heap.size w w3):=ai ((o7.out.alloc o7.out.size _).trans (hb3.mono (by have:=o7.out.size;simp;omega)))
    clear hb3))
 have hl3:=(ak.1 HK3.out).1;have ZO:=(ak.1 HA3.out).1
 refine bQ (by kernel_rfl) [
 pV (aO (b.cells (ae pm lb cm) (ae pn ln cn) (ae pk lk2 ck))),
  pV (aO A.cells),
  pV (ae qi pl.length qw),
  pV (ah ag (bE pl)),
  fun v ds w9=>Reads w9 v b.minutes.toNat ((b.lN (b.bM+A.used) (bE pl) b.minutes.toNat).map (aG ag)),
  fun v ds w9=>Reads w9 v b.minutes.toNat ((b.lN (b.bM+A.used) (bE pl) b.minutes.toNat).map (aG ag)),
  pV (ah ag 0)]
  (fun w9=>az w3.heap.size w3 w9) [(2,ae qi pl.length qw),(9,pv w1.heap.size 0),(10,pv w2.heap.size 0)] (by kernel_rfl) ?rst (fun w1 w2 h hb=>h.trans (hb.mono h.size)) ((aw _ _).drew) ⟨rfl,rfl,rfl,trivial⟩ ?reach ?rfin
 case rst=>
  refine⟨sV,sV,sV,sV,?_,?_,sV,trivial⟩
  ·rintro v ds w1 w2 hS h hb;exact h.below hb
  ·rintro v ds w1 w2 hS h hb;exact h.below hb
 case reach=>
  refine⟨?_,?_,?_,?_,?_,?_,?_,trivial⟩<;>rintro ev w1 hS hc hg hf ⟨b2,b9,Xc,-⟩ hd
  ·clear hd;obtain⟨u0,u1,u2,u3,u4,u5,u6,u7,u8,u9,u10,u11,u12,u13,u14⟩:=bN ((hS.block _ hl3).trans HK3.out);exact tV
  ·clear hd;obtain⟨u0,u1,u2,u3⟩:=qc ((hS.block _ ZO).trans HA3.out);exact tV
  ·clear hd;exact tV
  ·have d2:ev (aJ 37)=_:=hd.1 rfl;clear hd;refine yq (args:=#[ae qi pl.length qw]) (kW pl Xo.out _ _ (HLv.out.below (pw.out.trans (hS.mono pw.out.size)))) ?_ fun _=>rfl;go_simp
  ·have d0:ev (aJ 35)=_:=hd.1 rfl;have d1:ev (aJ 36)=_:=hd.2.1 rfl;have d3:ev (aJ 38)=_:=hd.2.2.1 rfl;clear hd;refine Lag.Yields.call (f:=114) (args:=#[aO (b.cells (ae pm lb cm) (ae pn ln cn) (ae pk lk2 ck)),aO A.cells,ah ag (bE pl)]) ?_ (DN b cN _ _ _ A hao (bE pl) Qy _) ?_
   ·go_simp
   ·rintro e w2 ⟨v,rfl,h1,h2⟩;exact⟨_,rfl,Reads.iW h1 (by omega) (by simp[BB.lN]),cF h2⟩
  ·exact yv rfl (hd.1 rfl)
  ·clear hd;exact tV
 case rfin=>
  intro a2 w4 hR;have hS:=hR.s;have e5:Reads w4 (a2.tmps.getD 6 af) b.minutes.toNat ((b.lN (b.bM+A.used) (bE pl) b.minutes.toNat).map (aG ag)):=hR.val 5 (by decide);have e6:a2.tmps.getD 7 af=_:=hR.val 6 (by decide);have ha:=hR.lits 40 rfl;simp only[aT,List.range.loop,List.map] at ha;clear hR;have ada:=ha;rw[e6] at ha;generalize a2.tmps.getD 6 af=pv6 at *;generalize a2.tmps.getD=zz at ha;have HE:=ai e5;have HF:=ai hS;clear e5 e6 hS ada;subst ha;go_wp2;go_ret2;exact⟨_,rfl,HE.out,pw.out.trans (HF.out.mono pw.out.size)⟩
end Go.Proofs.YtffladgmkiimjaaGreatDoor
