/- LONE WALKS: CheckPlan (107) of the reference. LONE WALKS: Climbs (49)  .. -/
import Derived.Test.YtffladgmkiimjaaGreatDoorW03
import Derived.Test.YtffladgmkiimjaaGreatDoorW02
import Derived.Test.YtffladgmkiimjaaGreatDoorW01
import Derived.Test.YtffladgmkiimjaaGreatDoorW00
set_option linter.all false
set_option maxHeartbeats 100000000
set_option maxRecDepth 1000000
open Array renaming replicate → aT
open Bool renaming and_eq_true → aC
open Classical renaming byContradiction → eO
open Go renaming undef → af,Value → aj,World → ar,results_tmp → bO,wp_cond_split → bU,bodyPost_ret → bg,Calls → bm,Addr → cU,bodyPost → dK,wp_skip → eV,wp_seq → eZ,wp_ret → fR,calls_of_wp → jU,wp_block → l9
open Go.Code renaming wp → bZ
open Go.Ending renaming returned → aF,returned → aJ
open Go.Exit renaming ret → dQ
open Go.Instr renaming indexAt → jf
open Go.IntKind renaming i64 → ag,wrap_i64 → bY
open Go.Lib renaming hid → ai
open Go.Obj renaming cells → au
open Go.Operand renaming tmp → aK
open Go.Proofs.Tryz renaming prog → aq,underlying28 → cB,underlying26 → rK
open Go.RowKit renaming Below → az
open Go.RowKit.Below renaming heap_alloc → aS,refl → aw
open Go.Value renaming int → aD,bool → aG,agg → aO,slice → ae,int → ah,pointer → bp,oneCell' → cj,bool → np
open Go.World renaming alloc_heap_new → ay
open List renaming range → aU,all_eq_true → aW,mem_range → bB,mem_map → dc,getElem_of_mem → ji,range_eq_range' → mA
open Nat renaming le_trans → aN,le_refl → ax,lt_of_lt_of_le → bz,reduceEqDiff → cG,zero_le → iB
open Option.some renaming inj → bf
open Or renaming inl → cA
namespace Go.Proofs.YtffladgmkiimjaaGreatDoor
open Go.RowKit Go.Lag
def nI(b:BB)(pl:List Int)(i:Nat):Int:=if !(aQ (pl.getD i 0) 1 b.minutes) then 6 else if 0<i∧pl.getD i 0≤pl.getD (i-1) 0 then 7 else 0
def jz(b:BB)(pl:List Int):Int:=(((aU pl.length).map (nI b pl)).find? fun h=>h !=0).getD (if (pl.length:Int)>b.eT then 8 else 0)
theorem nN(f:Nat→Int):∀(n:Nat),(∀i,i<n→f i=0)→((aU n).map f).find? (fun h=>h !=0)=none:=by
 intro n h;rw[List.find?_eq_none];intro x hx;obtain⟨i,hi,rfl⟩:=dc.1 hx;simp[h i (bB.1 hi)]
theorem qR(f:Nat→Int)(n k:Nat)(hk:k<n)(h:∀i,i<k→f i=0)(h0:f k≠0):((aU n).map f).find? (fun h=>h !=0)=some (f k):=by
 have e:aU n=aU k++k::List.range' (k+1) (n-k-1):=by
  rw[mA,mA,show n=k+(1+(n-k-1)) by omega,←List.range'_append_1,Nat.zero_add,Nat.add_comm 1,List.range'_succ]
  congr 3
  omega
 have h1:(f k !=0)=true:=by simpa using h0
 rw[e,List.map_append,List.find?_append,nN f k h,List.map_cons,List.find?_cons,h1];rfl
theorem Reads.atK{w:ar}{p:Option cU}{n c:Nat}{zs:List Int}(h:Reads w (ae p n c) n (zs.map (aD ag)))(k:Nat)(hk:k<zs.length):∃g off,p=some ⟨g,off,none⟩∧g<w.heap.size∧∀j (hj:j<zs.length),w.cell? ⟨g,off+j,none⟩=some (ah ag (zs.getD j 0)):=by
 rcases h with⟨_,_,h⟩|⟨g,off,cap,h,_,hg,hc⟩
 ·rw[List.map_eq_nil_iff.1 h] at hk;simp at hk
 ·cases h;refine⟨g,off,rfl,hg,fun j hj=>hc j _ ?_⟩;simp[hj]
theorem FI(b:BB)(men sent marks:aj)(p1:Option cU)(c1:Nat)(pl:List Int)(hlen:pl.length≤1000)(w:ar)(hv:Reads w (ae p1 pl.length c1) pl.length (pl.map (aD ag))):bm aq 107 #[aO (b.cells men sent marks),ae p1 pl.length c1] w fun e w'=>e=aF (ah ag (jz b pl))∧az w.heap.size w w':=by
 refine jU Tryz.func107 rfl ?_;have hF:=ki (args:=#[aO (b.cells men sent marks),ae p1 pl.length c1]) (n:=38) (by simp) [(1,ae p1 pl.length c1),(0,aO (b.cells men sent marks))] ⟨mO rfl,mO rfl,trivial⟩;rw[show Tryz.f107.ntmps=38 from rfl];generalize (⟨#[aO (b.cells men sent marks),ae p1 pl.length c1]++aT (38-(#[aO (b.cells men sent marks),ae p1 pl.length c1]:Array aj).size) af,[]⟩:Act)=a at *;refine(fun h:∀W,az w.heap.size w W→bZ aq _ _ a W=>h w (aw _ _)) ?_;intro W HB;have HC:Hid (∀k,k<pl.length→∃g off,p1=some ⟨g,off,none⟩∧g<w.heap.size∧∀j (hj:j<pl.length),w.cell? ⟨g,off+j,none⟩=some (ah ag (pl.getD j 0))):=ai fun k hk=>hv.atK k hk;clear hv
 refine nv [fun v ds w9=>∃B,v=pv B 0∧w9.heap[B]?=some (au (b.cells men sent marks) 28 (0,0)),pV (ah ag 0)]
  _ (by kernel_rfl) hF.size hF.base ?_ ?_ ?_
 ·refine⟨?_,sV,trivial⟩
  ·rintro v ds w1 w2 hS ⟨B,h1,h2⟩ hb;exact⟨B,h1,aL h2 hb⟩
 ·refine⟨?_,?_,trivial⟩<;>rintro ev w1 hS hc hg hf ⟨-,b0,-⟩ hd
  ·clear hd;refine Lag.Yields.value (v:=pv w1.heap.size 0) (w':=w1.alloc (au (b.cells men sent marks) 28)) ?_ ⟨⟨_,rfl,ay _ _⟩,cA ((aw _ _).alloc (ax _) _)⟩;go_simp
  ·clear hd;exact tV
 intro a W hR;have ho:=hR.s;obtain⟨B2,e2,K2⟩:=hR.val 0 (by decide);replace e2:a.eval (aK 2)=bp (some ⟨B2,0,none⟩):=e2;replace HB:=HB.tr ho;replace hF:=((hR.fr hF (by kernel_rfl)).cons (t:=2) e2).cons (t:=4) (hR.val 1 (by decide));clear hR ho e2;refine eZ ?_;refine jM ⟨[],[],[],[]⟩ [(5,ah ag 0)] hF hF trivial trivial ?_;intro a W ho hF;replace HB:=HB.tr ho;replace K2:=aL K2 ho;clear ho;refine l9 ?_;refine wp_loop (fun a W=>∃k:Nat,k≤pl.length∧(∀i,i<k→nI b pl i=0)∧iV 38 a [(5,ah ag (k:Nat)),(2,bp (some ⟨B2,0,none⟩)),(1,ae p1 pl.length c1),(0,aO (b.cells men sent marks))]∧W.heap[B2]?=some (au (b.cells men sent marks) 28 (0,0))∧az w.heap.size w W) (fun a _=>pl.length-(intOf (a.eval (aK 5))).toNat) ⟨0,iB _,fun i hi=>by omega,⟨hF.size,hF.defers,(by obtain⟨b5,-,b2,b1,b0,-⟩:=hF.base;exact⟨b5,b2,b1,b0,trivial⟩)⟩,K2,HB⟩ ?_;clear hF K2 HB
 try clear a
 try clear W
 rintro a W ⟨k,hk,hpre,hF,K2,HB⟩;have hk5:a.eval (aK 5)=ah ag (k:Nat):=(hF.g 0 rfl)
 refine eZ ?_;refine jM ⟨[],[],[],[]⟩ [(9,aG (decide ((k:Int)<(pl.length:Int))))] hF hF trivial trivial ?_;intro a W ho hF;replace HB:=HB.tr ho;replace K2:=aL K2 ho;clear ho;refine bU (t:=(decide ((k:Int)<(pl.length:Int)))) (hF.g 0 rfl) (fun Qm=>?_) (fun Qm=>?_)
 ·skip
  replace hF:=hF.tl;have hlt:k<pl.length:=by simpa using Qm
  obtain⟨g,off,rfl,hg,hcell⟩:=HC.out k hlt;have hW:w.heap.size≤W.heap.size:=HB.size;obtain⟨x,hx⟩:∃x,pl.getD k 0=x:=⟨_,rfl⟩
  have CX:∀w9,az w.heap.size w w9→w9.cell? ⟨g,off+k,none⟩=some (ah ag x):=fun w9 h9=>(h9.cell (p:=⟨g,off+k,none⟩) hg).trans (by rw[←hx];exact hcell k hlt);rcases k with _|j
  ·skip
   have Cx:Hid (∀w9,az W.heap.size W w9→w9.cell? ⟨g,off,none⟩=some (ah ag x)):=ai fun w9 h9=>CX w9 (HB.trans (h9.mono hW));refine eV ?_;show bZ aq _ _ _ _;refine eZ ?_;refine l9 ?_;refine eZ ?_;refine GN (by kernel_rfl) ⟨[],[(3,bp (some ⟨g,off,none⟩)),(4,ah ag x),(5,aG (aQ x 1 b.minutes))],[(B2,(b.cells men sent marks))],[]⟩ [(18,aG (!(aQ x 1 b.minutes)))] hF ⟨fun w1 hS=>⟨_,_,aL K2 hS⟩,trivial⟩ ⟨fun w1 hS _=>gs (jf 25 (ae (some ⟨g,off,none⟩) pl.length c1) (ah ag ((0:Nat):Int))) (by go_simp),fun w1 hS _=>gl (Cx.out w1 hS),fun w1 hS _=>gc (ri b men sent marks x w1),trivial⟩ ?_;intro a W ho hF;replace HB:=HB.tr ho;replace K2:=aL K2 ho;replace hW:=aN hW ho.size;replace Cx:=ai fun w9 (h9:az W.heap.size W w9)=>Cx.out w9 (ho.trans (h9.mono ho.size));clear ho;refine bU (t:=(!(aQ x 1 b.minutes))) (hF.g 0 rfl) (fun Al=>?_) (fun Al=>?_)
   ·skip
    replace hF:=hF.tl
    have hres:jz b pl=6:=by
     have h6:nI b pl 0=6:=by unfold nI;rw[hx];simp at Al;simp[Al]
     unfold jz;rw[qR _ _ 0 hlt hpre (by rw[h6];decide),h6];rfl
    refine jM ⟨[],[],[],[]⟩ [(4,ah ag 6)] hF hF trivial trivial ?_;intro a W ho hF;replace HB:=HB.tr ho;replace K2:=aL K2 ho;replace hW:=aN hW ho.size;replace Cx:=ai fun w9 (h9:az W.heap.size W w9)=>Cx.out w9 (ho.trans (h9.mono ho.size));clear ho;refine fR ?_;show dK aq Tryz.f107 (fun e w'=>e=aJ (ah ag (jz b pl))∧az w.heap.size w w') dQ a W;exact bg (bO rfl _ _ _) hF.defers ⟨congrArg aJ (((hF.g 0 rfl):a.eval (aK 4)=ah ag 6).trans (congrArg _ hres.symm)),HB⟩
   ·skip
    replace hF:=hF.tl;refine eV ?_;show bZ aq _ _ _ _;refine GN (by kernel_rfl) ⟨[(2,false)],[(1,aG false)],[],[]⟩ [(32,aG false)] hF trivial ⟨fun w1 hS _=>ge (congrArg np (show(decide ((((0:Nat):Int):Int)>(0:Int)))=false from decide_eq_false (by omega))),trivial⟩ ?_;intro a W ho hF;replace HB:=HB.tr ho;replace K2:=aL K2 ho;replace hW:=aN hW ho.size;replace Cx:=ai fun w9 (h9:az W.heap.size W w9)=>Cx.out w9 (ho.trans (h9.mono ho.size));clear ho;refine wp_cond (t:=false) (hF.g 0 rfl) ?_;show bZ aq _ _ _ _;replace hF:=hF.tl;have hz:nI b pl 0=0:=by unfold nI;rw[hx];simp at Al;simp[Al]
    refine eV ?_;show bZ aq _ _ _ _;have qA:=hF;replace hF:=hF.tl;refine OT ⟨[],[(1,ah ag (((0:Nat):Int)+1))],[],[]⟩ [(5,ah ag (((0:Nat):Int)+1))] qA hF trivial ⟨fun w1 hS _=>ge (congrArg (aD ag) (show IntKind.i64.wrap (((0:Nat):Int)+1)=(((0:Nat):Int)+1) by rw[bY];omega)),trivial⟩ ?_;intro a W ho hF;clear qA;replace HB:=HB.tr ho;replace K2:=aL K2 ho;replace hW:=aN hW ho.size;replace Cx:=ai fun w9 (h9:az W.heap.size W w9)=>Cx.out w9 (ho.trans (h9.mono ho.size));clear ho;refine⟨⟨0+1,by omega,?_,⟨hF.size,hF.defers,hF.base⟩,K2,HB⟩,?_⟩
    ·intro i hi
     by_cases hik:i<0
     ·exact hpre i hik
     ·obtain rfl:i=0:=by omega
      exact hz
    ·rw[show a.eval (aK 5)=ah ag (((0:Nat):Int)+1) from(hF.g 0 rfl)];simp only[hk5];simp[intOf];omega
  ·skip
   have Cx:Hid (∀w9,az W.heap.size W w9→w9.cell? ⟨g,off+(j+1),none⟩=some (ah ag x)):=ai fun w9 h9=>CX w9 (HB.trans (h9.mono hW));obtain⟨y,hy⟩:∃y,pl.getD j 0=y:=⟨_,rfl⟩
   have Cy:Hid (∀w9,az W.heap.size W w9→w9.cell? ⟨g,off+j,none⟩=some (ah ag y)):=ai fun w9 h9=>((HB.trans (h9.mono hW)).cell (p:=⟨g,off+j,none⟩) hg).trans (by rw[←hy];exact hcell j (by omega));refine eV ?_;show bZ aq _ _ _ _;refine eZ ?_;refine l9 ?_;refine eZ ?_;refine GN (by kernel_rfl) ⟨[],[(3,bp (some ⟨g,off+(j+1),none⟩)),(4,ah ag x),(5,aG (aQ x 1 b.minutes))],[(B2,(b.cells men sent marks))],[]⟩ [(18,aG (!(aQ x 1 b.minutes)))] hF ⟨fun w1 hS=>⟨_,_,aL K2 hS⟩,trivial⟩ ⟨fun w1 hS _=>gs (jf 25 (ae (some ⟨g,off,none⟩) pl.length c1) (ah ag ((j+1:Nat):Int))) (by have E7:¬((pl.length:Int)≤(j:Int)+1):=(by omega);have hi2:0≤(j:Int)+1:=(by omega);go_simp),fun w1 hS _=>gl (Cx.out w1 hS),fun w1 hS _=>gc (ri b men sent marks x w1),trivial⟩ ?_;intro a W ho hF;replace HB:=HB.tr ho;replace K2:=aL K2 ho;replace hW:=aN hW ho.size;replace Cx:=ai fun w9 (h9:az W.heap.size W w9)=>Cx.out w9 (ho.trans (h9.mono ho.size));replace Cy:=ai fun w9 (h9:az W.heap.size W w9)=>Cy.out w9 (ho.trans (h9.mono ho.size));clear ho;refine bU (t:=(!(aQ x 1 b.minutes))) (hF.g 0 rfl) (fun Al=>?_) (fun Al=>?_)
   ·skip
    replace hF:=hF.tl
    have hres:jz b pl=6:=by
     have h6:nI b pl (j+1)=6:=by unfold nI;rw[hx];simp at Al;simp[Al]
     unfold jz;rw[qR _ _ (j+1) hlt hpre (by rw[h6];decide),h6];rfl
    refine jM ⟨[],[],[],[]⟩ [(4,ah ag 6)] hF hF trivial trivial ?_;intro a W ho hF;replace HB:=HB.tr ho;replace K2:=aL K2 ho;replace hW:=aN hW ho.size;replace Cx:=ai fun w9 (h9:az W.heap.size W w9)=>Cx.out w9 (ho.trans (h9.mono ho.size));replace Cy:=ai fun w9 (h9:az W.heap.size W w9)=>Cy.out w9 (ho.trans (h9.mono ho.size));clear ho;refine fR ?_;show dK aq Tryz.f107 (fun e w'=>e=aJ (ah ag (jz b pl))∧az w.heap.size w w') dQ a W;exact bg (bO rfl _ _ _) hF.defers ⟨congrArg aJ (((hF.g 0 rfl):a.eval (aK 4)=ah ag 6).trans (congrArg _ hres.symm)),HB⟩
   ·skip
    replace hF:=hF.tl;refine eV ?_;show bZ aq _ _ _ _;refine GN (by kernel_rfl) ⟨[(2,true)],[(1,aG true),(5,bp (some ⟨g,off+(j+1),none⟩)),(6,ah ag x),(9,ah ag (j:Int)),(10,bp (some ⟨g,off+j,none⟩)),(11,ah ag y)],[],[]⟩ [(32,aG (decide (x≤y)))] hF trivial ⟨fun w1 hS _=>ge (congrArg np (show(decide ((((j+1:Nat):Int):Int)>(0:Int)))=true from decide_eq_true (by omega))),fun w1 hS _=>gs (jf 25 (ae (some ⟨g,off,none⟩) pl.length c1) (ah ag ((j+1:Nat):Int))) (by have E7:¬((pl.length:Int)≤(j:Int)+1):=(by omega);have hi2:0≤(j:Int)+1:=(by omega);go_simp),fun w1 hS _=>gl (Cx.out w1 hS),fun w1 hS _=>ge (congrArg (aD ag) (show IntKind.i64.wrap (((j+1:Nat):Int)-1)=(j:Int) by rw[bY];omega)),fun w1 hS _=>gs (jf 25 (ae (some ⟨g,off,none⟩) pl.length c1) (ah ag (j:Int))) (by have E7:¬(pl.length≤j):=(by omega);go_simp),fun w1 hS _=>gl (Cy.out w1 hS),trivial⟩ ?_;intro a W ho hF;replace HB:=HB.tr ho;replace K2:=aL K2 ho;replace hW:=aN hW ho.size;replace Cx:=ai fun w9 (h9:az W.heap.size W w9)=>Cx.out w9 (ho.trans (h9.mono ho.size));replace Cy:=ai fun w9 (h9:az W.heap.size W w9)=>Cy.out w9 (ho.trans (h9.mono ho.size));clear ho;refine bU (t:=(decide (x≤y))) (hF.g 0 rfl) (fun KA=>?_) (fun KA=>?_)
    ·skip
     replace hF:=hF.tl
     have hres:jz b pl=7:=by
      have h7:nI b pl (j+1)=7:=by unfold nI;rw[hx,show((j+1)-1)=j from rfl,hy];simp at Al KA;simp[Al,KA]
      unfold jz;rw[qR _ _ (j+1) hlt hpre (by rw[h7];decide),h7];rfl
     refine jM ⟨[],[],[],[]⟩ [(4,ah ag 7)] hF hF trivial trivial ?_;intro a W ho hF;replace HB:=HB.tr ho;replace K2:=aL K2 ho;replace hW:=aN hW ho.size;replace Cx:=ai fun w9 (h9:az W.heap.size W w9)=>Cx.out w9 (ho.trans (h9.mono ho.size));replace Cy:=ai fun w9 (h9:az W.heap.size W w9)=>Cy.out w9 (ho.trans (h9.mono ho.size));clear ho;refine fR ?_;show dK aq Tryz.f107 (fun e w'=>e=aJ (ah ag (jz b pl))∧az w.heap.size w w') dQ a W;exact bg (bO rfl _ _ _) hF.defers ⟨congrArg aJ (((hF.g 0 rfl):a.eval (aK 4)=ah ag 7).trans (congrArg _ hres.symm)),HB⟩
    ·skip
     replace hF:=hF.tl;have hz:nI b pl (j+1)=0:=by unfold nI;rw[hx,show((j+1)-1)=j from rfl,hy];simp at Al KA;simp[Al];omega
     refine eV ?_;show bZ aq _ _ _ _;have qA:=hF;replace hF:=hF.tl;refine OT ⟨[],[(1,ah ag (((j+1:Nat):Int)+1))],[],[]⟩ [(5,ah ag (((j+1:Nat):Int)+1))] qA hF trivial ⟨fun w1 hS _=>ge (congrArg (aD ag) (show IntKind.i64.wrap (((j+1:Nat):Int)+1)=(((j+1:Nat):Int)+1) by rw[bY];omega)),trivial⟩ ?_;intro a W ho hF;clear qA;replace HB:=HB.tr ho;replace K2:=aL K2 ho;replace hW:=aN hW ho.size;replace Cx:=ai fun w9 (h9:az W.heap.size W w9)=>Cx.out w9 (ho.trans (h9.mono ho.size));replace Cy:=ai fun w9 (h9:az W.heap.size W w9)=>Cy.out w9 (ho.trans (h9.mono ho.size));clear ho;refine⟨⟨(j+1)+1,by omega,?_,⟨hF.size,hF.defers,hF.base⟩,K2,HB⟩,?_⟩
     ·intro i hi
      by_cases hik:i<(j+1)
      ·exact hpre i hik
      ·obtain rfl:i=(j+1):=by omega
       exact hz
     ·rw[show a.eval (aK 5)=ah ag (((j+1:Nat):Int)+1) from(hF.g 0 rfl)];simp only[hk5];simp[intOf];omega
 ·skip
  replace hF:=hF.tl;refine wp_exit ?_;have xu:k=pl.length:=by simp at Qm;omega
  rw[xu] at hpre;show bZ aq _ _ a W;show bZ aq _ _ _ _;refine eZ ?_;refine jM ⟨[],[],[(B2,(b.cells men sent marks))],[]⟩ [(37,aG (decide ((pl.length:Int)>b.eT)))] hF hF ⟨fun w1 hS=>⟨_,_,aL K2 hS⟩,trivial⟩ trivial ?_;intro a W ho hF;replace HB:=HB.tr ho;replace K2:=aL K2 ho;clear ho;refine bU (t:=(decide ((pl.length:Int)>b.eT))) (hF.g 0 rfl) (fun VU=>?_) (fun VU=>?_)
  ·skip
   replace hF:=hF.tl;have hres:jz b pl=8:=by unfold jz;rw[nN _ _ hpre];simp at VU;simp[VU]
   refine jM ⟨[],[],[],[]⟩ [(4,ah ag 8)] hF hF trivial trivial ?_;intro a W ho hF;replace HB:=HB.tr ho;replace K2:=aL K2 ho;clear ho;refine fR ?_;show dK aq Tryz.f107 (fun e w'=>e=aJ (ah ag (jz b pl))∧az w.heap.size w w') dQ a W;exact bg (bO rfl _ _ _) hF.defers ⟨congrArg aJ (((hF.g 0 rfl):a.eval (aK 4)=ah ag 8).trans (congrArg _ hres.symm)),HB⟩
  ·skip
   replace hF:=hF.tl;have hres:jz b pl=0:=by unfold jz;rw[nN _ _ hpre];simp at VU;simp;omega
   refine eV ?_;show bZ aq _ _ _ _;refine jM ⟨[],[],[],[]⟩ [(4,ah ag 0)] hF hF trivial trivial ?_;intro a W ho hF;replace HB:=HB.tr ho;replace K2:=aL K2 ho;clear ho;refine fR ?_;show dK aq Tryz.f107 (fun e w'=>e=aJ (ah ag (jz b pl))∧az w.heap.size w w') dQ a W;exact bg (bO rfl _ _ _) hF.defers ⟨congrArg aJ (((hF.g 0 rfl):a.eval (aK 4)=ah ag 0).trans (congrArg _ hres.symm)),HB⟩
def lr(n:Int)(pl:List Int)(i:Nat):Int:=if !(aQ (pl.getD i 0) 0 (n-1)) then 6 else if 0<i∧pl.getD i 0≤pl.getD (i-1) 0 then 7 else 0
def lM(n:Int)(pl:List Int):Int:=(((aU pl.length).map (lr n pl)).find? fun h=>h !=0).getD 0
theorem Nj(p1:Option cU)(c1:Nat)(pl:List Int)(hlen:pl.length≤1000)(n:Int)(hn:0≤n∧n≤1000)(w:ar)(hv:Reads w (ae p1 pl.length c1) pl.length (pl.map (aD ag))):bm aq 49 #[ae p1 pl.length c1,ah ag n] w fun e w'=>e=aF (ah ag (lM n pl))∧az w.heap.size w w':=by
 refine jU Tryz.func49 rfl ?_;have hF:=ki (args:=#[ae p1 pl.length c1,ah ag n]) (n:=34) (by simp) [(1,ah ag n),(0,ae p1 pl.length c1)] ⟨mO rfl,mO rfl,trivial⟩;rw[show Tryz.f49.ntmps=34 from rfl];generalize (⟨#[ae p1 pl.length c1,ah ag n]++aT (34-(#[ae p1 pl.length c1,ah ag n]:Array aj).size) af,[]⟩:Act)=a at *;refine(fun h:∀W,az w.heap.size w W→bZ aq _ _ a W=>h w (aw _ _)) ?_;intro W HB;have HC:Hid (∀k,k<pl.length→∃g off,p1=some ⟨g,off,none⟩∧g<w.heap.size∧∀j (hj:j<pl.length),w.cell? ⟨g,off+j,none⟩=some (ah ag (pl.getD j 0))):=ai fun k hk=>hv.atK k hk;clear hv;refine jM ⟨[],[],[],[]⟩ [(4,ah ag 0)] hF hF trivial trivial ?_;intro a W ho hF;replace HB:=HB.tr ho;clear ho;refine eZ ?_;refine jM ⟨[],[],[],[]⟩ [(5,ah ag 0)] hF hF trivial trivial ?_;intro a W ho hF;replace HB:=HB.tr ho;clear ho;refine l9 ?_;refine wp_loop (fun a W=>∃k:Nat,k≤pl.length∧(∀i,i<k→lr n pl i=0)∧iV 34 a [(5,ah ag (k:Nat)),(1,ah ag n),(0,ae p1 pl.length c1)]∧az w.heap.size w W) (fun a _=>pl.length-(intOf (a.eval (aK 5))).toNat) ⟨0,iB _,fun i hi=>by omega,⟨hF.size,hF.defers,(by obtain⟨b5,-,b1,b0,-⟩:=hF.base;exact⟨b5,b1,b0,trivial⟩)⟩,HB⟩ ?_;clear hF HB
 try clear a
 try clear W
 rintro a W ⟨k,hk,hpre,hF,HB⟩;have hk5:a.eval (aK 5)=ah ag (k:Nat):=(hF.g 0 rfl)
 refine eZ ?_;refine jM ⟨[],[],[],[]⟩ [(9,aG (decide ((k:Int)<(pl.length:Int))))] hF hF trivial trivial ?_;intro a W ho hF;replace HB:=HB.tr ho;clear ho;refine bU (t:=(decide ((k:Int)<(pl.length:Int)))) (hF.g 0 rfl) (fun Qm=>?_) (fun Qm=>?_)
 ·skip
  replace hF:=hF.tl;have hlt:k<pl.length:=by simpa using Qm
  obtain⟨g,off,rfl,hg,hcell⟩:=HC.out k hlt;have hW:w.heap.size≤W.heap.size:=HB.size;obtain⟨x,hx⟩:∃x,pl.getD k 0=x:=⟨_,rfl⟩
  have CX:∀w9,az w.heap.size w w9→w9.cell? ⟨g,off+k,none⟩=some (ah ag x):=fun w9 h9=>(h9.cell (p:=⟨g,off+k,none⟩) hg).trans (by rw[←hx];exact hcell k hlt);rcases k with _|j
  ·skip
   have Cx:Hid (∀w9,az W.heap.size W w9→w9.cell? ⟨g,off,none⟩=some (ah ag x)):=ai fun w9 h9=>CX w9 (HB.trans (h9.mono hW));refine eV ?_;show bZ aq _ _ _ _;refine eZ ?_;refine l9 ?_;refine eZ ?_;refine jM ⟨[],[(2,bp (some ⟨g,off,none⟩)),(3,ah ag x),(5,ah ag (n-1)),(6,aG (aQ x 0 (n-1)))],[],[]⟩ [(19,aG (!(aQ x 0 (n-1))))] hF hF trivial ⟨fun w1 hS _=>gs (jf 25 (ae (some ⟨g,off,none⟩) pl.length c1) (ah ag ((0:Nat):Int))) (by go_simp),fun w1 hS _=>gl (Cx.out w1 hS),fun w1 hS _=>ge (congrArg (aD ag) (show IntKind.i64.wrap (n-1)=(n-1) by rw[bY];omega)),fun w1 hS _=>gc (fp x 0 (n-1) w1),trivial⟩ ?_;intro a W ho hF;replace HB:=HB.tr ho;replace hW:=aN hW ho.size;replace Cx:=ai fun w9 (h9:az W.heap.size W w9)=>Cx.out w9 (ho.trans (h9.mono ho.size));clear ho;refine bU (t:=(!(aQ x 0 (n-1)))) (hF.g 0 rfl) (fun ry=>?_) (fun ry=>?_)
   ·skip
    replace hF:=hF.tl
    have hres:lM n pl=6:=by
     have h6:lr n pl 0=6:=by unfold lr;rw[hx];simp at ry;simp[ry]
     unfold lM;rw[qR _ _ 0 hlt hpre (by rw[h6];decide),h6];rfl
    refine jM ⟨[],[],[],[]⟩ [(4,ah ag 6)] hF hF trivial trivial ?_;intro a W ho hF;replace HB:=HB.tr ho;replace hW:=aN hW ho.size;replace Cx:=ai fun w9 (h9:az W.heap.size W w9)=>Cx.out w9 (ho.trans (h9.mono ho.size));clear ho;refine fR ?_;show dK aq Tryz.f49 (fun e w'=>e=aJ (ah ag (lM n pl))∧az w.heap.size w w') dQ a W;exact bg (bO rfl _ _ _) hF.defers ⟨congrArg aJ (((hF.g 0 rfl):a.eval (aK 4)=ah ag 6).trans (congrArg _ hres.symm)),HB⟩
   ·skip
    replace hF:=hF.tl;refine eV ?_;show bZ aq _ _ _ _;refine GN (by kernel_rfl) ⟨[(2,false)],[(1,aG false)],[],[]⟩ [(33,aG false)] hF trivial ⟨fun w1 hS _=>ge (congrArg np (show(decide ((((0:Nat):Int):Int)>(0:Int)))=false from decide_eq_false (by omega))),trivial⟩ ?_;intro a W ho hF;replace HB:=HB.tr ho;replace hW:=aN hW ho.size;replace Cx:=ai fun w9 (h9:az W.heap.size W w9)=>Cx.out w9 (ho.trans (h9.mono ho.size));clear ho;refine wp_cond (t:=false) (hF.g 0 rfl) ?_;show bZ aq _ _ _ _;replace hF:=hF.tl;have hz:lr n pl 0=0:=by unfold lr;rw[hx];simp at ry;simp[ry]
    refine eV ?_;show bZ aq _ _ _ _;have qA:=hF;replace hF:=hF.tl;refine OT ⟨[],[(1,ah ag (((0:Nat):Int)+1))],[],[]⟩ [(5,ah ag (((0:Nat):Int)+1))] qA hF trivial ⟨fun w1 hS _=>ge (congrArg (aD ag) (show IntKind.i64.wrap (((0:Nat):Int)+1)=(((0:Nat):Int)+1) by rw[bY];omega)),trivial⟩ ?_;intro a W ho hF;clear qA;replace HB:=HB.tr ho;replace hW:=aN hW ho.size;replace Cx:=ai fun w9 (h9:az W.heap.size W w9)=>Cx.out w9 (ho.trans (h9.mono ho.size));clear ho;refine⟨⟨0+1,by omega,?_,⟨hF.size,hF.defers,hF.base⟩,HB⟩,?_⟩
    ·intro i hi
     by_cases hik:i<0
     ·exact hpre i hik
     ·obtain rfl:i=0:=by omega
      exact hz
    ·rw[show a.eval (aK 5)=ah ag (((0:Nat):Int)+1) from(hF.g 0 rfl)];simp only[hk5];simp[intOf];omega
  ·skip
   have Cx:Hid (∀w9,az W.heap.size W w9→w9.cell? ⟨g,off+(j+1),none⟩=some (ah ag x)):=ai fun w9 h9=>CX w9 (HB.trans (h9.mono hW));obtain⟨y,hy⟩:∃y,pl.getD j 0=y:=⟨_,rfl⟩
   have Cy:Hid (∀w9,az W.heap.size W w9→w9.cell? ⟨g,off+j,none⟩=some (ah ag y)):=ai fun w9 h9=>((HB.trans (h9.mono hW)).cell (p:=⟨g,off+j,none⟩) hg).trans (by rw[←hy];exact hcell j (by omega));refine eV ?_;show bZ aq _ _ _ _;refine eZ ?_;refine l9 ?_;refine eZ ?_;refine jM ⟨[],[(2,bp (some ⟨g,off+(j+1),none⟩)),(3,ah ag x),(5,ah ag (n-1)),(6,aG (aQ x 0 (n-1)))],[],[]⟩ [(19,aG (!(aQ x 0 (n-1))))] hF hF trivial ⟨fun w1 hS _=>gs (jf 25 (ae (some ⟨g,off,none⟩) pl.length c1) (ah ag ((j+1:Nat):Int))) (by have E7:¬((pl.length:Int)≤(j:Int)+1):=(by omega);have hi2:0≤(j:Int)+1:=(by omega);go_simp),fun w1 hS _=>gl (Cx.out w1 hS),fun w1 hS _=>ge (congrArg (aD ag) (show IntKind.i64.wrap (n-1)=(n-1) by rw[bY];omega)),fun w1 hS _=>gc (fp x 0 (n-1) w1),trivial⟩ ?_;intro a W ho hF;replace HB:=HB.tr ho;replace hW:=aN hW ho.size;replace Cx:=ai fun w9 (h9:az W.heap.size W w9)=>Cx.out w9 (ho.trans (h9.mono ho.size));replace Cy:=ai fun w9 (h9:az W.heap.size W w9)=>Cy.out w9 (ho.trans (h9.mono ho.size));clear ho;refine bU (t:=(!(aQ x 0 (n-1)))) (hF.g 0 rfl) (fun ry=>?_) (fun ry=>?_)
   ·skip
    replace hF:=hF.tl
    have hres:lM n pl=6:=by
     have h6:lr n pl (j+1)=6:=by unfold lr;rw[hx];simp at ry;simp[ry]
     unfold lM;rw[qR _ _ (j+1) hlt hpre (by rw[h6];decide),h6];rfl
    refine jM ⟨[],[],[],[]⟩ [(4,ah ag 6)] hF hF trivial trivial ?_;intro a W ho hF;replace HB:=HB.tr ho;replace hW:=aN hW ho.size;replace Cx:=ai fun w9 (h9:az W.heap.size W w9)=>Cx.out w9 (ho.trans (h9.mono ho.size));replace Cy:=ai fun w9 (h9:az W.heap.size W w9)=>Cy.out w9 (ho.trans (h9.mono ho.size));clear ho;refine fR ?_;show dK aq Tryz.f49 (fun e w'=>e=aJ (ah ag (lM n pl))∧az w.heap.size w w') dQ a W;exact bg (bO rfl _ _ _) hF.defers ⟨congrArg aJ (((hF.g 0 rfl):a.eval (aK 4)=ah ag 6).trans (congrArg _ hres.symm)),HB⟩
   ·skip
    replace hF:=hF.tl;refine eV ?_;show bZ aq _ _ _ _;refine GN (by kernel_rfl) ⟨[(2,true)],[(1,aG true),(5,bp (some ⟨g,off+(j+1),none⟩)),(6,ah ag x),(9,ah ag (j:Int)),(10,bp (some ⟨g,off+j,none⟩)),(11,ah ag y)],[],[]⟩ [(33,aG (decide (x≤y)))] hF trivial ⟨fun w1 hS _=>ge (congrArg np (show(decide ((((j+1:Nat):Int):Int)>(0:Int)))=true from decide_eq_true (by omega))),fun w1 hS _=>gs (jf 25 (ae (some ⟨g,off,none⟩) pl.length c1) (ah ag ((j+1:Nat):Int))) (by have E7:¬((pl.length:Int)≤(j:Int)+1):=(by omega);have hi2:0≤(j:Int)+1:=(by omega);go_simp),fun w1 hS _=>gl (Cx.out w1 hS),fun w1 hS _=>ge (congrArg (aD ag) (show IntKind.i64.wrap (((j+1:Nat):Int)-1)=(j:Int) by rw[bY];omega)),fun w1 hS _=>gs (jf 25 (ae (some ⟨g,off,none⟩) pl.length c1) (ah ag (j:Int))) (by have E7:¬(pl.length≤j):=(by omega);go_simp),fun w1 hS _=>gl (Cy.out w1 hS),trivial⟩ ?_;intro a W ho hF;replace HB:=HB.tr ho;replace hW:=aN hW ho.size;replace Cx:=ai fun w9 (h9:az W.heap.size W w9)=>Cx.out w9 (ho.trans (h9.mono ho.size));replace Cy:=ai fun w9 (h9:az W.heap.size W w9)=>Cy.out w9 (ho.trans (h9.mono ho.size));clear ho;refine bU (t:=(decide (x≤y))) (hF.g 0 rfl) (fun VW=>?_) (fun VW=>?_)
    ·skip
     replace hF:=hF.tl
     have hres:lM n pl=7:=by
      have h7:lr n pl (j+1)=7:=by unfold lr;rw[hx,show((j+1)-1)=j from rfl,hy];simp at ry VW;simp[ry,VW]
      unfold lM;rw[qR _ _ (j+1) hlt hpre (by rw[h7];decide),h7];rfl
     refine jM ⟨[],[],[],[]⟩ [(4,ah ag 7)] hF hF trivial trivial ?_;intro a W ho hF;replace HB:=HB.tr ho;replace hW:=aN hW ho.size;replace Cx:=ai fun w9 (h9:az W.heap.size W w9)=>Cx.out w9 (ho.trans (h9.mono ho.size));replace Cy:=ai fun w9 (h9:az W.heap.size W w9)=>Cy.out w9 (ho.trans (h9.mono ho.size));clear ho;refine fR ?_;show dK aq Tryz.f49 (fun e w'=>e=aJ (ah ag (lM n pl))∧az w.heap.size w w') dQ a W;exact bg (bO rfl _ _ _) hF.defers ⟨congrArg aJ (((hF.g 0 rfl):a.eval (aK 4)=ah ag 7).trans (congrArg _ hres.symm)),HB⟩
    ·skip
     replace hF:=hF.tl;have hz:lr n pl (j+1)=0:=by unfold lr;rw[hx,show((j+1)-1)=j from rfl,hy];simp at ry VW;simp[ry];omega
     refine eV ?_;show bZ aq _ _ _ _;have qA:=hF;replace hF:=hF.tl;refine OT ⟨[],[(1,ah ag (((j+1:Nat):Int)+1))],[],[]⟩ [(5,ah ag (((j+1:Nat):Int)+1))] qA hF trivial ⟨fun w1 hS _=>ge (congrArg (aD ag) (show IntKind.i64.wrap (((j+1:Nat):Int)+1)=(((j+1:Nat):Int)+1) by rw[bY];omega)),trivial⟩ ?_;intro a W ho hF;clear qA;replace HB:=HB.tr ho;replace hW:=aN hW ho.size;replace Cx:=ai fun w9 (h9:az W.heap.size W w9)=>Cx.out w9 (ho.trans (h9.mono ho.size));replace Cy:=ai fun w9 (h9:az W.heap.size W w9)=>Cy.out w9 (ho.trans (h9.mono ho.size));clear ho;refine⟨⟨(j+1)+1,by omega,?_,⟨hF.size,hF.defers,hF.base⟩,HB⟩,?_⟩
     ·intro i hi
      by_cases hik:i<(j+1)
      ·exact hpre i hik
      ·obtain rfl:i=(j+1):=by omega
       exact hz
     ·rw[show a.eval (aK 5)=ah ag (((j+1:Nat):Int)+1) from(hF.g 0 rfl)];simp only[hk5];simp[intOf];omega
 ·skip
  replace hF:=hF.tl;refine wp_exit ?_;have xu:k=pl.length:=by simp at Qm;omega
  rw[xu] at hpre;have hres:lM n pl=0:=by unfold lM;rw[nN _ _ hpre];rfl
  show bZ aq _ _ a W;show bZ aq _ _ _ _;refine jM ⟨[],[],[],[]⟩ [(4,ah ag 0)] hF hF trivial trivial ?_;intro a W ho hF;replace HB:=HB.tr ho;clear ho;refine fR ?_;show dK aq Tryz.f49 (fun e w'=>e=aJ (ah ag (lM n pl))∧az w.heap.size w w') dQ a W;exact bg (bO rfl _ _ _) hF.defers ⟨congrArg aJ (((hF.g 0 rfl):a.eval (aK 4)=ah ag 0).trans (congrArg _ hres.symm)),HB⟩
theorem PD(l:List Mk)(m:Mk):dm (l++[m])=dm l++m.cells.toList:=by simp[dm]
theorem Reads.src{w:ar}{v:aj}{n:Nat}{xs:List aj}(h:Reads w v n xs):Src w v n xs:=by
 rcases h with⟨h1,h2,h3⟩|⟨g,off,cap,h1,_,_,h4⟩
 ·exact cA ⟨h1,h2,h3⟩
 ·exact .inr ⟨⟨g,off,none⟩,cap,h1,fun j u hj=>by
   have:=h4 j u hj
   cases j<;>simpa [Addr.add] using this⟩
structure O5(k:Nat)(bk mk:Array aj)(w0:ar)(C:Bool)(w:ar):Prop where
 one:w.heap[k]?=some (au bk 28 (0,0))
 two:w.heap[k+1]?=some (au mk 81 (0,0))
 three:w.heap[k+2]?=some (au #[ah ag 0,ah ag 0,ah ag 0,ah ag 0,ah ag 0,ah ag 0,ah ag 0,ah ag 0,ah ag 0,ah ag 0,ah ag 0,ah ag 0,ae none 0 0,ae none 0 0,ae none 0 0] 28 (0,0))
 four:C=false→w.heap[k+3]?=some (au bk 28 (0,0))
 below:az k w0 w
 size:k+4≤w.heap.size
section
variable{k:Nat}{bk mk:Array aj}{w0 w1 w2:ar}{C C':Bool}
theorem O5.next(hC:C'=false→C=false)(h:O5 k bk mk w0 C w1)(hb:az w1.heap.size w1 w2):O5 k bk mk w0 C' w2:=by
 have hs:=h.size;exact⟨(hb.block _ (by omega)).trans h.one,(hb.block _ (by omega)).trans h.two,(hb.block _ (by omega)).trans h.three,fun e=>(hb.block _ (by omega)).trans (h.four (hC e)),h.below.trans (hb.mono (by omega)),aN hs hb.size⟩
theorem O5.grown{row:Option Nat}(hC:C'=C)(h:O5 k bk mk w0 C w1)(g:w1.grownBy w2 row)(hr:∀q,row=some q→k+4≤q):O5 k bk mk w0 C' w2:=by
 subst hC;have hs:=h.size;have hn:∀q,q<k+4→some q≠row:=fun q hq e=>by have:=hr q e.symm;omega
 exact⟨(g.block _ (by omega) (hn _ (by omega))).trans h.one,(g.block _ (by omega) (hn _ (by omega))).trans h.two,(g.block _ (by omega) (hn _ (by omega))).trans h.three,fun e=>(g.block _ (by omega) (hn _ (by omega))).trans (h.four e),h.below.grown g (by omega) (fun q hq=>by have:=hr q hq;omega),aN hs g.size⟩
theorem O5.put(h:O5 k bk mk w0 C w1)(u:aj)(i:Nat):O5 k bk mk w0 true (w1.setCell ⟨k+3,i,none⟩ u):=by
 have hn:∀q,q≠k+3→(w1.setCell ⟨k+3,i,none⟩ u).heap[q]?=w1.heap[q]?:=fun q hq=>Below.heap_setCell _ _ _ _ hq;exact⟨(hn _ (by omega)).trans h.one,(hn _ (by omega)).trans h.two,(hn _ (by omega)).trans h.three,fun e=>(by cases e),h.below.setCell (p:=⟨k+3,i,none⟩) (by show k≤k+3;omega) _,by simpa using h.size⟩
theorem O5.drew(h:O5 k bk mk w0 C w1):O5 k bk mk w0 C w1.drew:=⟨h.one,h.two,h.three,h.four,h.below.drew,h.size⟩
end
theorem NH(b:BB)(men sent marks:aj)(hv:(∃p n c,men=ae p n c)∧(∃p n c,sent=ae p n c))(ms:List Mk)(hlen:ms.length≤20)(m:Mk)(w:ar)(hk:Reads w marks ms.length (dm ms)) :
  bm aq 88 #[aO (b.cells men sent marks),aO m.cells] w fun e w'=>∃k',e=aF (aO (b.cells men sent k'))∧Reads w' k' (ms++[m]).length (dm (ms++[m]))∧(∃g,k'.ownBlock=some g∧w.heap.size≤g∧∃cs,w'.heap[g]?=some (au cs 81 (0,0)))∧az w.heap.size w w':=by
 obtain⟨i1,E7,Ov,hy1,hy2⟩:=info_parts DW;obtain⟨⟨pm,nm,cm,rfl⟩,⟨pn,nn,cn,rfl⟩⟩:=hv;obtain⟨pk,ck,rfl,_⟩:=aR hk;have HL:=ai (nH ms);have oW:(((w.alloc (au (b.cells (ae pm nm cm) (ae pn nn cn) (ae pk ms.length ck)) 28)).alloc (au m.cells 81)).alloc (au #[ah ag 0,ah ag 0,ah ag 0,ah ag 0,ah ag 0,ah ag 0,ah ag 0,ah ag 0,ah ag 0,ah ag 0,ah ag 0,ah ag 0,ae none 0 0,ae none 0 0,ae none 0 0] 28)).heap.size=w.heap.size+3:=by simp
 have hb3:az w.heap.size w (((w.alloc (au (b.cells (ae pm nm cm) (ae pn nn cn) (ae pk ms.length ck)) 28)).alloc (au m.cells 81)).alloc (au #[ah ag 0,ah ag 0,ah ag 0,ah ag 0,ah ag 0,ah ag 0,ah ag 0,ah ag 0,ah ag 0,ah ag 0,ah ag 0,ah ag 0,ae none 0 0,ae none 0 0,ae none 0 0] 28)):=(((aw _ _).alloc (ax _) _).alloc (by simp) _).alloc (by simp;omega) _;have h0:(((w.alloc (au (b.cells (ae pm nm cm) (ae pn nn cn) (ae pk ms.length ck)) 28)).alloc (au m.cells 81)).alloc (au #[ah ag 0,ah ag 0,ah ag 0,ah ag 0,ah ag 0,ah ag 0,ah ag 0,ah ag 0,ah ag 0,ah ag 0,ah ag 0,ah ag 0,ae none 0 0,ae none 0 0,ae none 0 0] 28)).heap[w.heap.size]?=some (au (b.cells (ae pm nm cm) (ae pn nn cn) (ae pk ms.length ck)) 28 (0,0)):=(aS _ _ _ (by simp;omega)).trans ((aS _ _ _ (by simp)).trans (ay w _));have h1:(((w.alloc (au (b.cells (ae pm nm cm) (ae pn nn cn) (ae pk ms.length ck)) 28)).alloc (au m.cells 81)).alloc (au #[ah ag 0,ah ag 0,ah ag 0,ah ag 0,ah ag 0,ah ag 0,ah ag 0,ah ag 0,ah ag 0,ah ag 0,ah ag 0,ah ag 0,ae none 0 0,ae none 0 0,ae none 0 0] 28)).heap[w.heap.size+1]?=some (au m.cells 81 (0,0)):=(aS _ _ _ (by simp)).trans (by have:=ay (w.alloc (au (b.cells (ae pm nm cm) (ae pn nn cn) (ae pk ms.length ck)) 28)) (au m.cells 81);simpa using this);have h2:(((w.alloc (au (b.cells (ae pm nm cm) (ae pn nn cn) (ae pk ms.length ck)) 28)).alloc (au m.cells 81)).alloc (au #[ah ag 0,ah ag 0,ah ag 0,ah ag 0,ah ag 0,ah ag 0,ah ag 0,ah ag 0,ah ag 0,ah ag 0,ah ag 0,ah ag 0,ae none 0 0,ae none 0 0,ae none 0 0] 28)).heap[w.heap.size+2]?=some (au #[ah ag 0,ah ag 0,ah ag 0,ah ag 0,ah ag 0,ah ag 0,ah ag 0,ah ag 0,ah ag 0,ah ag 0,ah ag 0,ah ag 0,ae none 0 0,ae none 0 0,ae none 0 0] 28 (0,0)):=by have:=ay ((w.alloc (au (b.cells (ae pm nm cm) (ae pn nn cn) (ae pk ms.length ck)) 28)).alloc (au m.cells 81)) (au #[ah ag 0,ah ag 0,ah ag 0,ah ag 0,ah ag 0,ah ag 0,ah ag 0,ah ag 0,ah ag 0,ah ag 0,ah ag 0,ah ag 0,ae none 0 0,ae none 0 0,ae none 0 0] 28);simpa using this
 have h3:((((w.alloc (au (b.cells (ae pm nm cm) (ae pn nn cn) (ae pk ms.length ck)) 28)).alloc (au m.cells 81)).alloc (au #[ah ag 0,ah ag 0,ah ag 0,ah ag 0,ah ag 0,ah ag 0,ah ag 0,ah ag 0,ah ag 0,ah ag 0,ah ag 0,ah ag 0,ae none 0 0,ae none 0 0,ae none 0 0] 28)).alloc (au (b.cells (ae pm nm cm) (ae pn nn cn) (ae pk ms.length ck)) 28)).heap[w.heap.size+3]?=some (au (b.cells (ae pm nm cm) (ae pn nn cn) (ae pk ms.length ck)) 28 (0,0)):=by have:=ay (((w.alloc (au (b.cells (ae pm nm cm) (ae pn nn cn) (ae pk ms.length ck)) 28)).alloc (au m.cells 81)).alloc (au #[ah ag 0,ah ag 0,ah ag 0,ah ag 0,ah ag 0,ah ag 0,ah ag 0,ah ag 0,ah ag 0,ah ag 0,ah ag 0,ah ag 0,ae none 0 0,ae none 0 0,ae none 0 0] 28)) (au (b.cells (ae pm nm cm) (ae pn nn cn) (ae pk ms.length ck)) 28);rw[oW] at this;exact this
 have XS:Hid (O5 w.heap.size (b.cells (ae pm nm cm) (ae pn nn cn) (ae pk ms.length ck)) m.cells w false ((((w.alloc (au (b.cells (ae pm nm cm) (ae pn nn cn) (ae pk ms.length ck)) 28)).alloc (au m.cells 81)).alloc (au #[ah ag 0,ah ag 0,ah ag 0,ah ag 0,ah ag 0,ah ag 0,ah ag 0,ah ag 0,ah ag 0,ah ag 0,ah ag 0,ah ag 0,ae none 0 0,ae none 0 0,ae none 0 0] 28)).alloc (au (b.cells (ae pm nm cm) (ae pn nn cn) (ae pk ms.length ck)) 28))):=
  ai ⟨(aS _ _ _ (by rw[oW];omega)).trans h0,(aS _ _ _ (by rw[oW];omega)).trans h1,(aS _ _ _ (by rw[oW];omega)).trans h2,fun _=>h3,hb3.alloc (by rw[oW];omega) _,by simp⟩
 have HRk:Hid (∀w9,az w.heap.size w w9→Src w9 (ae pk ms.length ck) ms.length (dm ms)):=ai fun w9 h9=>(hk.below h9).src;clear h0 h1 h2 h3 hb3 hk oW
 go_enter Tryz.func88,Tryz.ntmps88
 go_wp2
 refine Ph.bQ (by kernel_rfl) [
 fun v ds w9=>∃q,v=ae (some ⟨q,0,none⟩) 0 0∧w9.ownsRow (w.heap.size+4) 81 3 v 0 [],
  pV (bp (some ⟨w.heap.size,14,none⟩)),
  pV (ae pk ms.length ck),
  fun v ds w9=>∃p c,v=ae p ms.length c∧w9.ownsRow (w.heap.size+4) 81 3 v ms.length (dm ms)∧(ms.length=0→c=0),
  pV (aO m.cells),
  fun v ds w9=>∃q,v=ae (some ⟨q,0,none⟩) 1 1∧w9.ownsRow (w.heap.size+4) 81 3 v 1 m.cells.toList,
  fun v ds w9=>∃p c,v=ae p (ms.length+1) c∧w9.ownsRow (w.heap.size+4) 81 3 v (ms.length+1) (dm ms++m.cells.toList),
  pV (bp (some ⟨w.heap.size+1+1+1,14,none⟩)),
  fun v ds w9=>∃x,ds[1]?=some x∧w9.heap[w.heap.size+3]?=some (au (b.cells (ae pm nm cm) (ae pn nn cn) x) 28 (0,0))]
  (fun L w9=>O5 w.heap.size (b.cells (ae pm nm cm) (ae pn nn cn) (ae pk ms.length ck)) m.cells w (L 8) w9) [(2,bp (some ⟨w.heap.size,0,none⟩)),(3,bp (some ⟨w.heap.size+1,0,none⟩)),(5,bp (some ⟨w.heap.size+1+1+1,0,none⟩))] (by kernel_rfl) ?rst (fun L L2 w1 w2 Ri h hb=>h.next (Ri 8) hb) (XS.out.drew) ⟨rfl,rfl,rfl,trivial⟩ ?reach ?rfin
 case rst=>
  refine⟨?_,Ph.sV,Ph.sV,?_,Ph.sV,?_,?_,Ph.sV,?_,trivial⟩
  ·rintro v ds L w1 w2 hS ⟨q,h1,h2⟩ hb;exact⟨q,h1,cy h2 hb⟩
  ·rintro v ds L w1 w2 hS ⟨p,c,h1,h2,h3⟩ hb;exact⟨p,c,h1,cy h2 hb,h3⟩
  ·rintro v ds L w1 w2 hS ⟨q,h1,h2⟩ hb;exact⟨q,h1,cy h2 hb⟩
  ·rintro v ds L w1 w2 hS ⟨p,c,h1,h2⟩ hb;exact⟨p,c,h1,cy h2 hb⟩
  ·rintro v ds L w1 w2 hS ⟨x,h1,h2⟩ hb;exact⟨x,h1,(hb.block _ (Array.getElem?_eq_some_iff.1 h2).1).trans h2⟩
 case reach=>
  refine⟨?_,?_,?_,?_,?_,?_,?_,?_,?_,trivial⟩<;>rintro Lf ev w1 hn uW hS hc hg hf ⟨b2,b3,b5,-⟩ hd
  ·clear hd;have hs4:=hS.size;refine Lag.Yields.value (v:=ae (some ⟨w1.heap.size,0,none⟩) 0 0) (w':=w1.alloc (au #[] 81)) ?_ ⟨⟨_,rfl,⟨by simp,.inr ⟨w1.heap.size,0,#[],rfl,hs4,ay _ _,ax _,iB _,by simp,by simp⟩⟩⟩,cA ((aw _ _).alloc (ax _) _)⟩;go_simp
  ·clear hd;refine Ph.yv ?_ rfl;go_simp
  ·have d1:ev (aK 8)=_:=hd.1 rfl;clear hd;have c14:=aH hS.one 14 (ae pk ms.length ck) rfl;refine Ph.yv ?_ rfl;go_simp
  ·have d0:∃q,(ev (aK 7))=ae (some ⟨q,0,none⟩) 0 0∧w1.ownsRow (w.heap.size+4) 81 3 (ev (aK 7)) 0 []:=hd.1 rfl;have d2:ev (aK 9)=_:=hd.2.1 rfl;clear hd;obtain⟨q,e7,hq⟩:=d0;rw[e7] at hq;obtain⟨g,c,cur,h1,h2,h3,_,_,h4,_⟩:=hq.2.resolve_left (by simp);cases h1;obtain rfl:cur = #[]:=Array.eq_empty_of_size_eq_zero (by simpa using h4);refine Lag.Yields.append_empty (aK 7) (aK 9) 26 rfl (w.heap.size+4) 81 i1 (aO #[ah ag 0,ah ag 0,ah ag 0]) 3 24 rK E7 Ov hy1 hy2 rfl (by decide) q e7 h3 h2 (ae pk ms.length ck) ms.length (dm ms) d2 (by have:=HL.out;omega) (HRk.out w1 hS.below) (Gk ms) (by unfold maxLen;omega) (by omega) ?_;intro v' w' hown' hb' hz;obtain⟨p',c',rfl⟩:=dG hown';exact⟨⟨p',c',rfl,hown',fun h0=>by have:=hz h0;simp at this;exact this.2.2⟩,cA hb'⟩
  ·clear hd;have q:w1.heap[w.heap.size+1]?=some (au m.cells 81 (0,0)):=hS.two;refine Lag.Yields.yR 81 _ rfl _ b3 81 _ (0,0) _ q Tryz.underlying81 rfl (by kernel_rfl) ⟨rfl,cA (aw _ _)⟩
  ·have d4:ev (aK 11)=_:=hd.1 rfl;clear hd;have hs4:=hS.size;refine Lag.Yields.value (v:=ae (some ⟨w1.heap.size,0,none⟩) 1 1) (w':=w1.alloc (au m.cells 81)) ?_ ⟨⟨_,rfl,World.ownsRow_lit w1 m.cells 1 hs4 (by unfold maxLen;omega) rfl⟩,cA ((aw _ _).alloc (ax _) _)⟩;go_simp
  ·have d3:∃p c,(ev (aK 10))=ae p ms.length c∧w1.ownsRow (w.heap.size+4) 81 3 (ev (aK 10)) ms.length (dm ms)∧(ms.length=0→c=0):=hd.1 rfl;have d5:∃q,(ev (aK 12))=ae (some ⟨q,0,none⟩) 1 1∧w1.ownsRow (w.heap.size+4) 81 3 (ev (aK 12)) 1 m.cells.toList:=hd.2.1 rfl;clear hd;obtain⟨p,c,M9,hown,hz⟩:=d3;obtain⟨q,XJ,hq⟩:=d5;have Qf:=HL.out;rw[M9] at hown;have hown1:=hq;rw[XJ] at hq;obtain⟨g,c2,cur,h1,h2,h3,_,_,h4,h5⟩:=hq.2.resolve_left (by simp);cases h1
   have afN:cur=m.cells:=by
    apply Array.ext';have h6:cur.toList.length=3:=by simpa using h4
    rw[List.take_of_length_le (by omega)] at h5;exact h5
   subst afN;refine Lag.Yields.Nx (aK 10) (aK 12) 26 rfl (w.heap.size+4) 81 i1 (aO #[ah ag 0,ah ag 0,ah ag 0]) 3 24 rK E7 Ov hy1 hy2 rfl (by decide) (ae p ms.length c) ms.length (dm ms) M9 hown (ae (some ⟨q,0,none⟩) 1 1) 1 m.cells.toList XJ rfl (.inr ⟨_,_,rfl,?_⟩) (by simp[cj]) (by unfold maxLen;omega) (by omega) hS.size ?_
   ·intro n u hn;have h5:=aH h3 n u (by simpa using hn);have e:(⟨q,0,none⟩:cU).add n=⟨q,n,none⟩:=by cases n<;>simp[Addr.add]
    rw[e];exact h5
   intro v' w' hown' hgrow lS;obtain⟨p',c',rfl⟩:=dG hown';refine⟨⟨p',c',rfl,hown'⟩,.inr ⟨hS.grown (by simp[Ph.upd]) hgrow (fun q hq=>(hown.lt q hq).1),?_⟩⟩;intro t u ds hj hL hp
   match t,hp with
   |0,⟨q2,h1,h2⟩=>exact⟨q2,h1,lS (iB _) h2⟩
   |1,hp=>exact hp
   |2,hp=>exact hp
   |3,⟨p2,c2,h1,h2,h3⟩=>exact⟨p2,c2,h1,lS (ax _) h2,h3⟩
   |4,hp=>exact hp
   |5,⟨q2,h1,h2⟩=>
    refine⟨q2,h1,?_⟩
    by_cases h0:ms.length=0
    ·have hc:=hz h0;refine fY h2 fun g2 hg2=>hgrow.block g2 (h2.lt g2 hg2).2 fun D9=>?_;rw[h1] at h2;obtain⟨g3,c3,alD,k1,_,k3,_,_,k4,_⟩:=h2.2.resolve_left (by simp);cases k1;have e2:q2=g2:=by rw[h1] at hg2;exact bf hg2
     subst e2;rcases hown.2 with⟨k5,_⟩|⟨g4,c4,alC,k5,_,k6,_,_,k7,_⟩
     ·rw[k5] at D9;cases D9
     ·cases k5;have e4:q2=g4:=bf D9;subst e4;rw[k3] at k6;cases k6;omega
    ·exact lS (by omega) h2
   |6,_=>exact(hj rfl).elim
   |7,hp=>exact hp
   |8,_=>rw[hn 8 (by kernel_rfl)] at hL;cases hL
   |t+9,_=>trivial
  ·clear hd;refine Ph.yv ?_ rfl;go_simp
  ·have d7:ev (aK 14)=_:=hd.1 rfl;have d6:∃p c,(ev (aK 13))=ae p (ms.length+1) c∧w1.ownsRow (w.heap.size+4) 81 3 (ev (aK 13)) (ms.length+1) (dm ms++m.cells.toList):=hd.2.1 rfl;clear hd;obtain⟨p,c,h1,h2⟩:=d6;have r8:w1.heap[w.heap.size+1+1+1]?=some (au (b.cells (ae pm nm cm) (ae pn nn cn) (ae pk ms.length ck)) 28 (0,0)):=hS.four uW;have c1:=aH r8 14 (ae pk ms.length ck) rfl;have f1:=cN r8 14;refine Lag.Yields.skip (w':=w1.setCell ⟨w.heap.size+1+1+1,14,none⟩ (ev (aK 13))) ?_ ⟨⟨_,rfl,cP _ r8⟩,.inr ⟨(hS.put (ev (aK 13)) 14),?_⟩⟩
   ·rw[h1];go_simp
   ·intro t u ds hj hL hp
    match t,hp with
    |0,⟨q2,g1,g2⟩=>exact⟨q2,g1,cY g2 r8 (by decide)⟩
    |1,hp=>exact hp
    |2,hp=>exact hp
    |3,⟨p2,c2,g1,g2,g3⟩=>exact⟨p2,c2,g1,cY g2 r8 (by decide),g3⟩
    |4,hp=>exact hp
    |5,⟨q2,g1,g2⟩=>exact⟨q2,g1,cY g2 r8 (by decide)⟩
    |6,⟨p2,c2,g1,g2⟩=>exact⟨p2,c2,g1,cY g2 r8 (by decide)⟩
    |7,hp=>exact hp
    |8,_=>exact(hj rfl).elim
    |t+9,_=>trivial
 case rfin=>
  intro a3 w3 hR;have hS:=hR.s;have e6:∃p c,(a3.tmps.getD 13 af)=ae p (ms.length+1) c∧w3.ownsRow (w.heap.size+4) 81 3 (a3.tmps.getD 13 af) (ms.length+1) (dm ms++m.cells.toList):=hR.val 6 (by decide);have e8:∃x,([a3.tmps.getD 14 af,a3.tmps.getD 13 af,a3.tmps.getD 13 af,a3.tmps.getD 7 af,a3.tmps.getD 8 af,a3.tmps.getD 9 af,a3.tmps.getD 10 af,a3.tmps.getD 11 af,a3.tmps.getD 12 af,a3.tmps.getD 13 af]:List aj)[1]?=some x∧w3.heap[w.heap.size+3]?=some (au (b.cells (ae pm nm cm) (ae pn nn cn) x) 28 (0,0)):=hR.val 8 (by decide);have k4:a3.tmps.getD 4 af=bp (some ⟨w.heap.size+1+1,0,none⟩):=hR.kept (by kernel_rfl);have k5:a3.tmps.getD 5 af=bp (some ⟨w.heap.size+1+1+1,0,none⟩):=hR.kept (by kernel_rfl);have ha:=hR.lits 16 rfl;simp only[aU,List.range.loop,List.map] at ha;clear hR;obtain⟨x,ex,r8⟩:=e8;have XG:a3.tmps.getD 13 af=x:=bf ex;obtain⟨p13,c13,XI,YO⟩:=e6;rw[XI] at XG YO;subst XG;rw[k4,k5] at ha;generalize a3.tmps.getD=zz at ha;have HOb:Hid (w3.heap[w.heap.size+1+1+1]?=some (au (b.cells (ae pm nm cm) (ae pn nn cn) (ae p13 (ms.length+1) c13)) 28 (0,0))):=ai r8;have HZ:Hid (w3.heap[w.heap.size+1+1]?=some (au #[ah ag 0,ah ag 0,ah ag 0,ah ag 0,ah ag 0,ah ag 0,ah ag 0,ah ag 0,ah ag 0,ah ag 0,ah ag 0,ah ag 0,ae none 0 0,ae none 0 0,ae none 0 0] 28 (0,0))):=ai hS.three;have HB:=ai hS.below;have EY:=ai YO;clear XI ex r8 YO hS k4 k5;subst ha
  go_wp2_with (first
   |(refine wpList_load_row rfl 28 _ rfl _ rfl 28 _ (0,0) _ HOb.out cB rfl (by kernel_rfl) ?_)
   |(refine wpList_store_row rfl 28 _ _ rfl _ _ rfl rfl 28 _ HZ.out (by kernel_rfl) rfl (by simp[cj]) ?_))
  have ho:(w3.setRow (w.heap.size+1+1) (b.cells (ae pm nm cm) (ae pn nn cn) (ae p13 (ms.length+1) c13))).ownsRow (w.heap.size+4) 81 3 (ae p13 (ms.length+1) c13) (ms.length+1) (dm ms++m.cells.toList):=fY EY.out fun g hg=>setRow_other (by have:=(EY.out.lt g hg).1;omega);refine bg (results_cell_row rfl _ _ (w.heap.size+1+1) 28 _ (0,0) _ rfl (cV HZ.out) cB rfl (by kernel_rfl)) rfl ⟨_,rfl,?_,?_,dv HB.out (by omega)⟩
  ·rw[PD];exact Reads.iT ho (by simp;omega) (by have:=HL.out;simp;omega)
  ·obtain⟨g,cap,cur,h1,h2,h3,_⟩:=ho.2.resolve_left (by simp);exact⟨g,by rw[h1];rfl,by omega,cur,h3⟩
section
variable(b:BB)(men sent marks:aj)(ml:List Mn)(ss:List Int)(ms:List Mk)(w:ar)
theorem Ue(hL:Laid w)(hB:cH b men sent marks ml ss ms w) :
  bm aq 33 #[aO (b.cells men sent marks)] w fun e w'=>e=aF (.tuple #[ah ag b.holds,ah ag 0])∧az w.heap.size w w':=by
 have b0:az w.heap.size w (w.alloc (au (b.cells men sent marks) 28)):=(aw _ _).alloc (ax _) _;have ug:=ai (eY b men sent marks ml ss ms _ (hL.below b0) (hB.below b0));have cS:=hB.ok;have HOk:=ai cS;have Jq:=ai b0;clear hL hB b0 cS
 go_enter Tryz.func33,Tryz.ntmps33
 go_wp2_with (first
  |(go_at_call 71;refine ug.out.mono ?_;clear ug;rintro e w1 ⟨rfl,hb1⟩
    have mN:=(hb1.block w.heap.size (by simp)).trans (ay w _);obtain⟨x0,x1,x2,x3,x4,x5,x6,x7,x8,x9,nS,nR,oO,n4,oK⟩:=bM mN
    have yg:=ai hb1;clear mN hb1)
  |(go_at_call 115;refine(Gv b HOk.out men sent marks _).mono ?_;rintro e w2 ⟨rfl,hb2⟩;have oX:=ai hb2;clear hb2))
 go_ret2;have h1:=Jq.out.trans (yg.out.mono Jq.out.size);exact⟨rfl,h1.trans (oX.out.mono h1.size)⟩
theorem aak(hL:Laid w)(hB:cH b men sent marks ml ss ms w)(n:Int)(hn:0≤n∧n≤999) :
  bm aq 65 #[aO (b.cells men sent marks),ah ag n] w fun e w'=>e=aF (.tuple #[ah ag (b.TK n),ah ag 0])∧az w.heap.size w w':=by
 have b0:az w.heap.size w (w.alloc (au (b.cells men sent marks) 28)):=(aw _ _).alloc (ax _) _;have ug:=ai (eY b men sent marks ml ss ms _ (hL.below b0) (hB.below b0));have cS:=hB.ok;have HOk:=ai cS;have Jq:=ai b0;clear hL hB b0 cS
 go_enter Tryz.func65,Tryz.ntmps65
 go_wp2_with (first
  |(go_at_call 71;refine ug.out.mono ?_;clear ug;rintro e w1 ⟨rfl,hb1⟩
    have mN:=(hb1.block w.heap.size (by simp)).trans (ay w _);obtain⟨x0,x1,x2,x3,x4,x5,x6,x7,x8,x9,nS,nR,oO,n4,oK⟩:=bM mN
    have yg:=ai hb1;clear mN hb1)
  |(go_at_call 138;refine(iM _ _ _ (by omega) (by omega) _).mono ?_;rintro e w' ⟨rfl,rfl⟩)
  |(go_at_call 139;refine(IY b HOk.out men sent marks n hn _).mono ?_;rintro e w2 ⟨rfl,hb2⟩;have oX:=ai hb2;clear hb2))
 go_ret2;have h1:=Jq.out.trans (yg.out.mono Jq.out.size);exact⟨rfl,h1.trans (oX.out.mono h1.size)⟩
theorem zI(hL:Laid w)(hB:cH b men sent marks ml ss ms w) :
  bm aq 42 #[aO (b.cells men sent marks)] w fun e w'=>e=aF (.tuple #[ah ag (bn b ml ss ms).length,ah ag 0])∧az w.heap.size w w':=by
 have b0:az w.heap.size w (w.alloc (au (b.cells men sent marks) 28)):=(aw _ _).alloc (ax _) _;have ug:=ai (eY b men sent marks ml ss ms _ (hL.below b0) (hB.below b0));have HBk:=ai (hB.below b0);have Jq:=ai b0;have hlen:=jq ss ms hB.ok hB.gV;clear hL hB b0
 go_enter Tryz.func42,Tryz.ntmps42
 go_wp2_with (first
  |(go_at_call 71;refine ug.out.mono ?_;clear ug;rintro e w1 ⟨rfl,hb1⟩
    have mN:=(hb1.block w.heap.size (by simp)).trans (ay w _);obtain⟨x0,x1,x2,x3,x4,x5,x6,x7,x8,x9,nS,nR,oO,n4,oK⟩:=bM mN
    have yg:=ai hb1;clear mN hb1)
  |(go_at_call 116;refine(oC b men sent marks ml ss ms _ (HBk.out.below yg.out)).mono ?_;rintro e w2 ⟨v,rfl,iU,hb2⟩;have oX:=ai hb2
    obtain⟨p,cap,rfl,_⟩:=aR (iU.reads (by omega));clear hb2 iU))
 go_ret2;have h1:=Jq.out.trans (yg.out.mono Jq.out.size);exact⟨rfl,h1.trans (oX.out.mono h1.size)⟩
end
def eC(s:ByteArray)(k:Nat):Int:=if h:k<s.size then(s[k].toNat:Int) else 0
theorem vt(s:ByteArray)(k:Nat):0≤eC s k∧eC s k<256:=by
 unfold eC;split
 ·have:=s[k].toNat_lt;omega
 ·omega
theorem xm(s:ByteArray)(k:Nat)(h:k<s.size)(w:ar):(Instr.index 9 (.string s) (ah ag (k:Int))).run aq w=.ok (ah .u8 (eC s k)) w:=by
 rw[run_index_string w 9 s ag _ Tryz.underlying9,dif_pos ⟨by omega,by omega⟩];simp[eC,h]
theorem zo(c:Int)(h:0≤c∧c<256):IntKind.i64.wrap c=c:=by rw[bY];omega
def ov(s:ByteArray)(k:Nat):Bool:=aQ (eC s k) 97 122||aQ (eC s k) 48 57
def ja(s:ByteArray):Bool:=(aQ s.size 1 12&&aQ (eC s 0) 97 122)&&(List.range' 1 (s.size-1)).all (ov s)
theorem Qb{s:ByteArray}(h0:aQ s.size 1 12=true)(h1:aQ (eC s 0) 97 122=true)(h:∀i,1≤i→i<s.size→ov s i=true):ja s=true:=by
 unfold ja;simp only[h0,h1,Bool.and_self,Bool.true_and,aW,List.mem_range'_1];intro x hx;exact h x hx.1 (by omega)
theorem MF{s:ByteArray}(h:(aQ s.size 1 12&&aQ (eC s 0) 97 122)=false):ja s=false:=by
 unfold ja;rw[h];rfl
theorem Qc{s:ByteArray}(i:Nat)(h1:1≤i)(h2:i<s.size)(h:ov s i=false):ja s=false:=by
 unfold ja;rw[Bool.and_eq_false_iff];right;rw[List.all_eq_false];exact⟨i,List.mem_range'_1.2 ⟨h1,by omega⟩,by rw[h];simp⟩
theorem ME{s:ByteArray}(h:ja s=true):Ji s:=by
 unfold ja at h;simp only[aC,aW,List.mem_range'_1] at h;obtain⟨⟨h0,h1⟩,h2⟩:=h;have h0:=gb.1 h0;refine⟨⟨by omega,by omega⟩,fun k hk=>?_⟩;rcases Nat.eq_zero_or_pos k with rfl|hp
 ·left;have:=gb.1 h1;unfold eC at this;rw[dif_pos hk] at this;exact⟨by omega,by omega⟩
 ·have h3:=h2 k ⟨hp,by omega⟩;unfold ov eC at h3;rw[dif_pos hk,Bool.or_eq_true,gb,gb] at h3;rcases h3 with h3|h3
  ·left;exact⟨by omega,by omega⟩
  ·right;exact⟨by omega,by omega,by omega⟩
theorem yU(c:Int)(hc0:0≤c∧c<256)(w:ar):bm aq 183 #[ah .u8 c] w fun e w'=>e=aF (aG (aQ c 97 122))∧az w.heap.size w w':=by
 refine jU Tryz.func183 rfl ?_;have hF:=ki (args:=#[ah .u8 c]) (n:=6) (by simp) [(0,ah .u8 c)] ⟨mO rfl,trivial⟩;rw[show Tryz.f183.ntmps=6 from rfl];generalize (⟨#[ah .u8 c]++aT (6-(#[ah .u8 c]:Array aj).size) af,[]⟩:Act)=a at *;refine(fun h:∀W,az w.heap.size w W→bZ aq _ _ a W=>h w (aw _ _)) ?_;intro W HB;refine jM ⟨[],[],[],[]⟩ [(2,aG false)] hF hF trivial trivial ?_;intro a W ho hF;replace HB:=HB.tr ho;clear ho;replace hF:=hF.tl
 refine nv [pV (ah .u8 c),pV (ah ag c),pV (aG (aQ c 97 122)),pV (aG (aQ c 97 122))]
  _ (by kernel_rfl) hF.size hF.base ?_ ?_ ?_
 ·exact⟨sV,sV,sV,sV,trivial⟩
 ·refine⟨?_,?_,?_,?_,trivial⟩<;>rintro ev w1 hS hc hg hf ⟨b0,-⟩ hd
  all_goals try
   try have d0:ev (aK _)=_:=hd.1 rfl
   clear hd;refine yw rfl ?_ rfl;go_simp;done
  ·have d0:ev (aK 3)=_:=hd.1 rfl;clear hd;have hw:=zo c hc0;exact tV
  ·have d1:ev (aK 4)=_:=hd.1 rfl;clear hd;refine yc (fp c 97 122 w1) ?_ (fun _=>rfl);go_simp
 intro a W hR;have ho:=hR.s;replace HB:=HB.tr ho;replace hF:=(hR.fr hF (by kernel_rfl)).cons (t:=2) (hR.val 3 (by decide));clear hR ho;refine fR ?_;show dK aq Tryz.f183 (fun e w'=>e=aJ (aG (aQ c 97 122))∧az w.heap.size w w') dQ a W;exact bg (bO rfl _ _ _) hF.defers ⟨congrArg aJ ((hF.g 0 rfl):a.eval (aK 2)=aG (aQ c 97 122)),HB⟩
theorem Ki(c:Int)(hc0:0≤c∧c<256)(w:ar):bm aq 184 #[ah .u8 c] w fun e w'=>e=aF (aG (aQ c 48 57))∧az w.heap.size w w':=by
 refine jU Tryz.func184 rfl ?_;have hF:=ki (args:=#[ah .u8 c]) (n:=6) (by simp) [(0,ah .u8 c)] ⟨mO rfl,trivial⟩;rw[show Tryz.f184.ntmps=6 from rfl];generalize (⟨#[ah .u8 c]++aT (6-(#[ah .u8 c]:Array aj).size) af,[]⟩:Act)=a at *;refine(fun h:∀W,az w.heap.size w W→bZ aq _ _ a W=>h w (aw _ _)) ?_;intro W HB;refine jM ⟨[],[],[],[]⟩ [(2,aG false)] hF hF trivial trivial ?_;intro a W ho hF;replace HB:=HB.tr ho;clear ho;replace hF:=hF.tl
 refine nv [pV (ah .u8 c),pV (ah ag c),pV (aG (aQ c 48 57)),pV (aG (aQ c 48 57))]
  _ (by kernel_rfl) hF.size hF.base ?_ ?_ ?_
 ·exact⟨sV,sV,sV,sV,trivial⟩
 ·refine⟨?_,?_,?_,?_,trivial⟩<;>rintro ev w1 hS hc hg hf ⟨b0,-⟩ hd
  all_goals try
   try have d0:ev (aK _)=_:=hd.1 rfl
   clear hd;refine yw rfl ?_ rfl;go_simp;done
  ·have d0:ev (aK 3)=_:=hd.1 rfl;clear hd;have hw:=zo c hc0;exact tV
  ·have d1:ev (aK 4)=_:=hd.1 rfl;clear hd;refine yc (fp c 48 57 w1) ?_ (fun _=>rfl);go_simp
 intro a W hR;have ho:=hR.s;replace HB:=HB.tr ho;replace hF:=(hR.fr hF (by kernel_rfl)).cons (t:=2) (hR.val 3 (by decide));clear hR ho;refine fR ?_;show dK aq Tryz.f184 (fun e w'=>e=aJ (aG (aQ c 48 57))∧az w.heap.size w w') dQ a W;exact bg (bO rfl _ _ _) hF.defers ⟨congrArg aJ ((hF.g 0 rfl):a.eval (aK 2)=aG (aQ c 48 57)),HB⟩
theorem Qa(s:ByteArray)(w:ar):bm aq 177 #[.string s] w fun e w'=>e=aF (aG (ja s))∧az w.heap.size w w':=by
 refine jU Tryz.func177 rfl ?_;have hF:=ki (args:=#[.string s]) (n:=32) (by simp) [(0,.string s)] ⟨mO rfl,trivial⟩;rw[show Tryz.f177.ntmps=32 from rfl];generalize (⟨#[.string s]++aT (32-(#[.string s]:Array aj).size) af,[]⟩:Act)=a at *;refine(fun h:∀W,az w.heap.size w W→bZ aq _ _ a W=>h w (aw _ _)) ?_;intro W HB;refine jM ⟨[],[],[],[]⟩ [(2,aG false)] hF hF trivial trivial ?_;intro a W ho hF;replace HB:=HB.tr ho;clear ho;refine eZ ?_
 refine nv [pV (.string s),pV (ah ag (s.size:Int)),pV (aG (aQ (s.size:Int) 1 12)),pV (aG (!(aQ (s.size:Int) 1 12))),pV (aG (!(aQ (s.size:Int) 1 12))),pC (!(!(aQ (s.size:Int) 1 12))) (.string s),pC (!(!(aQ (s.size:Int) 1 12))) (ah .u8 (eC s 0)),pC (!(!(aQ (s.size:Int) 1 12))) (aG (aQ (eC s 0) 97 122)),pC (!(!(aQ (s.size:Int) 1 12))) (aG (!(aQ (eC s 0) 97 122))),pV (aG ((!(aQ (s.size:Int) 1 12))||(!(aQ (eC s 0) 97 122))))]
  _ (by kernel_rfl) hF.size hF.base ?_ ?_ ?_
 ·exact⟨sV,sV,sV,sV,sV,sC,sC,sC,sC,sV,trivial⟩
 ·refine⟨?_,?_,?_,?_,?_,?_,?_,?_,?_,?_,trivial⟩<;>rintro ev w1 hS hc hg hf ⟨-,b0,-⟩ hd
  all_goals try
   try have d0:ev (aK _)=_:=hd.1 rfl
   clear hd;refine yw rfl ?_ rfl;go_simp;done
  all_goals try
   try have d0:ev (aK _)=_:=hd.1 rfl
   try have c0:_→ev (aK _)=_:=hd.1 rfl
   try have d1:ev (aK _)=_:=hd.2.1 rfl
   clear hd
   first|refine gC d0 lN fun hA=>?_|refine gC d1 lN fun hA=>?_
   try replace c0:=c0 hA
   refine yw rfl ?_ (fun _=>rfl);go_simp;done
  ·have d1:ev (aK 5)=_:=hd.1 rfl;clear hd;refine yc (fp (s.size:Int) 1 12 w1) ?_ (fun _=>rfl);go_simp
  ·have d5:_→ev (aK 9)=_:=hd.1 rfl;have d4:ev (aK 8)=_:=hd.2.1 rfl;clear hd;refine gC d4 lN fun hA=>?_;have y5:=d5 hA
   have MN:0<s.size:=by
    have h9:aQ (s.size:Int) 1 12=true:=by revert hA;simp
    have:=gb.1 h9;omega
   have hi:=xm s 0 MN w1;refine Lag.Yields.value (v:=(ah .u8 (eC s 0):aj)) (w':=w1) ?_ ⟨fun _=>rfl,cA (aw _ _)⟩;rw[show eC s 0=((s[0]'MN).toNat:Int) from dif_pos MN];go_simp
  ·have d6:_→ev (aK 10)=_:=hd.1 rfl;have d4:ev (aK 8)=_:=hd.2.1 rfl;clear hd;refine gC d4 lN fun hA=>?_;have y6:=d6 hA;refine yc (args:=#[ah .u8 (eC s 0)]) (yU (eC s 0) (vt _ _) w1) ?_ (fun _=>fun _=>rfl);go_simp
  ·have d4:ev (aK 8)=_:=hd.1 rfl;have d8:_→ev (aK 12)=_:=hd.2.1 rfl;clear hd;exact yO rfl hc d4 (fun hq=>d8 (by simp[hq])) (rfl)
 intro a W hR;have ho:=hR.s;replace HB:=HB.tr ho;replace hF:=(hR.fr hF (by kernel_rfl)).cons (t:=13) (hR.val 9 (by decide));clear hR ho;refine bU (t:=((!(aQ (s.size:Int) 1 12))||(!(aQ (eC s 0) 97 122)))) (hF.g 0 rfl) (fun Qn=>?_) (fun Qn=>?_)
 ·skip
  replace hF:=hF.tl;have hres:ja s=false:=MF (by revert Qn;cases aQ (s.size:Int) 1 12<;>cases aQ (eC s 0) 97 122<;>simp);replace hF:=hF.tl;refine jM ⟨[],[],[],[]⟩ [(2,aG false)] hF hF trivial trivial ?_;intro a W ho hF;replace HB:=HB.tr ho;clear ho;refine fR ?_;show dK aq Tryz.f177 (fun e w'=>e=aJ (aG (ja s))∧az w.heap.size w w') dQ a W;exact bg (bO rfl _ _ _) hF.defers ⟨congrArg aJ (((hF.g 0 rfl):a.eval (aK 2)=aG false).trans (congrArg _ hres.symm)),HB⟩
 ·skip
  replace hF:=hF.tl;have h0:aQ (s.size:Int) 1 12=true:=by revert Qn;cases aQ (s.size:Int) 1 12<;>simp
  have h1:aQ (eC s 0) 97 122=true:=by revert Qn;cases aQ (eC s 0) 97 122<;>simp
  have hn:=gb.1 h0;refine eV ?_;show bZ aq _ _ _ _;refine eZ ?_;refine jM ⟨[],[],[],[]⟩ [(3,ah ag 1)] hF hF trivial trivial ?_;intro a W ho hF;replace HB:=HB.tr ho;clear ho;refine l9 ?_;refine wp_loop (fun a W=>∃k:Nat,k≤s.size∧(1≤k∧∀i,1≤i→i<k→ov s i=true)∧iV 32 a [(3,ah ag (k:Nat)),(0,.string s)]∧az w.heap.size w W) (fun a _=>s.size-(intOf (a.eval (aK 3))).toNat) ⟨1,by omega,⟨ax _,fun i h1 h2=>by omega⟩,⟨hF.size,hF.defers,(by obtain⟨b3,-,b0,-⟩:=hF.base;exact⟨b3,b0,trivial⟩)⟩,HB⟩ ?_;clear hF HB
  try clear a
  try clear W
  rintro a W ⟨k,sI,ox,hF,HB⟩;have hk3:a.eval (aK 3)=ah ag (k:Nat):=(hF.g 0 rfl)
  refine eZ ?_;refine jM ⟨[],[],[],[]⟩ [(17,aG (decide ((k:Int)<(s.size:Int))))] hF hF trivial trivial ?_;intro a W ho hF;replace HB:=HB.tr ho;clear ho;refine bU (t:=(decide ((k:Int)<(s.size:Int)))) (hF.g 0 rfl) (fun Zj=>?_) (fun Zj=>?_)
  ·skip
   replace hF:=hF.tl;have xr:k<s.size:=by simpa using Zj
   have hw1:IntKind.i64.wrap ((k:Int)+1)=(k:Int)+1:=by rw[bY];omega
   refine eV ?_;show bZ aq _ _ _ _;refine eZ ?_;refine l9 ?_
   refine nv [pV (.string s),pV (ah ag (k:Nat)),pV (ah .u8 (eC s k)),pV (aG (aQ (eC s k) 97 122)),pV (aG (!(aQ (eC s k) 97 122))),pV (aG (!(aQ (eC s k) 97 122))),pC (!(aQ (eC s k) 97 122)) (.string s),pC (!(aQ (eC s k) 97 122)) (ah ag (k:Nat)),pC (!(aQ (eC s k) 97 122)) (ah .u8 (eC s k)),pC (!(aQ (eC s k) 97 122)) (aG (aQ (eC s k) 48 57)),pC (!(aQ (eC s k) 97 122)) (aG (!(aQ (eC s k) 48 57))),pV (aG ((!(aQ (eC s k) 97 122))&&(!(aQ (eC s k) 48 57))))]
    _ (by kernel_rfl) hF.size hF.base ?_ ?_ ?_
   ·exact⟨sV,sV,sV,sV,sV,sV,sC,sC,sC,sC,sC,sV,trivial⟩
   ·refine⟨?_,?_,?_,?_,?_,?_,?_,?_,?_,?_,?_,?_,trivial⟩<;>rintro ev w1 hS hc hg hf ⟨b3,b0,-⟩ hd
    all_goals try
     try have d0:ev (aK _)=_:=hd.1 rfl
     clear hd;refine yw rfl ?_ rfl;go_simp;done
    all_goals try
     try have d0:ev (aK _)=_:=hd.1 rfl
     try have c0:_→ev (aK _)=_:=hd.1 rfl
     try have d1:ev (aK _)=_:=hd.2.1 rfl
     clear hd
     first|refine gC d0 xV fun hA=>?_|refine gC d1 xV fun hA=>?_
     try replace c0:=c0 hA
     refine yw rfl ?_ (fun _=>rfl);go_simp;done
    ·have d0:ev (aK 20)=_:=hd.1 rfl;have d1:ev (aK 21)=_:=hd.2.1 rfl;clear hd;have hi:=xm s k xr w1;refine Lag.Yields.value (v:=(ah .u8 (eC s k):aj)) (w':=w1) ?_ ⟨rfl,cA (aw _ _)⟩;go_simp
    ·have d2:ev (aK 22)=_:=hd.1 rfl;clear hd;refine yc (args:=#[ah .u8 (eC s k)]) (yU (eC s k) (vt _ _) w1) ?_ (fun _=>rfl);go_simp
    ·have d6:_→ev (aK 26)=_:=hd.1 rfl;have d7:_→ev (aK 27)=_:=hd.2.1 rfl;have d5:ev (aK 25)=_:=hd.2.2.1 rfl;clear hd;refine gC d5 xV fun hA=>?_;have y6:=d6 hA;have y7:=d7 hA;have hi:=xm s k xr w1;refine Lag.Yields.value (v:=(ah .u8 (eC s k):aj)) (w':=w1) ?_ ⟨fun _=>rfl,cA (aw _ _)⟩;go_simp
    ·have d8:_→ev (aK 28)=_:=hd.1 rfl;have d5:ev (aK 25)=_:=hd.2.1 rfl;clear hd;refine gC d5 xV fun hA=>?_;have y8:=d8 hA;refine yc (args:=#[ah .u8 (eC s k)]) (Ki (eC s k) (vt _ _) w1) ?_ (fun _=>fun _=>rfl);go_simp
    ·have d5:ev (aK 25)=_:=hd.1 rfl;have d10:_→ev (aK 30)=_:=hd.2.1 rfl;clear hd;exact yA rfl hc d5 (fun hq=>d10 (by simp[hq])) (rfl)
   intro a W hR;have ho:=hR.s;replace HB:=HB.tr ho;replace hF:=(hR.fr hF (by kernel_rfl)).cons (t:=31) (hR.val 11 (by decide));clear hR ho;refine bU (t:=((!(aQ (eC s k) 97 122))&&(!(aQ (eC s k) 48 57)))) (hF.g 0 rfl) (fun Ze=>?_) (fun Ze=>?_)
   ·skip
    replace hF:=hF.tl;have hres:ja s=false:=Qc k ox.1 xr (by unfold ov;revert Ze;cases aQ (eC s k) 97 122<;>cases aQ (eC s k) 48 57<;>simp);refine jM ⟨[],[],[],[]⟩ [(2,aG false)] hF hF trivial trivial ?_;intro a W ho hF;replace HB:=HB.tr ho;clear ho;refine fR ?_;show dK aq Tryz.f177 (fun e w'=>e=aJ (aG (ja s))∧az w.heap.size w w') dQ a W;exact bg (bO rfl _ _ _) hF.defers ⟨congrArg aJ (((hF.g 0 rfl):a.eval (aK 2)=aG false).trans (congrArg _ hres.symm)),HB⟩
   ·skip
    replace hF:=hF.tl;have hz:ov s k=true:=by unfold ov;revert Ze;cases aQ (eC s k) 97 122<;>cases aQ (eC s k) 48 57<;>simp
    refine eV ?_;show bZ aq _ _ _ _;have qA:=hF;replace hF:=hF.tl;refine OT ⟨[],[(1,ah ag ((k:Nat)+1))],[],[]⟩ [(3,ah ag ((k:Nat)+1))] qA hF trivial ⟨fun w1 hS _=>ge (congrArg (aD ag) (show IntKind.i64.wrap ((k:Nat)+1)=((k:Nat)+1) by rw[bY];omega)),trivial⟩ ?_;intro a W ho hF;clear qA;replace HB:=HB.tr ho;clear ho;refine⟨⟨k+1,by omega,⟨by omega,fun i h1 h2=>if hik:i<k then ox.2 i h1 hik else by have e:i=k:=(by omega);rw[e];exact hz⟩,⟨hF.size,hF.defers,hF.base⟩,HB⟩,?_⟩;rw[show a.eval (aK 3)=ah ag ((k:Nat)+1) from(hF.g 0 rfl)];simp only[hk3];simp[intOf];omega
  ·skip
   replace hF:=hF.tl;refine wp_exit ?_;have Tb:k=s.size:=by simp at Zj;omega
   have hres:ja s=true:=Qb h0 h1 fun i E7 hi2=>ox.2 i E7 (by omega);show bZ aq _ _ a W;show bZ aq _ _ _ _;refine jM ⟨[],[],[],[]⟩ [(2,aG true)] hF hF trivial trivial ?_;intro a W ho hF;replace HB:=HB.tr ho;clear ho;refine fR ?_;show dK aq Tryz.f177 (fun e w'=>e=aJ (aG (ja s))∧az w.heap.size w w') dQ a W;exact bg (bO rfl _ _ _) hF.defers ⟨congrArg aJ (((hF.g 0 rfl):a.eval (aK 2)=aG true).trans (congrArg _ hres.symm)),HB⟩
def oV(l:List Mn)(i:Nat):Mn:=l.getD i ⟨⟨#[]⟩,0,0⟩
theorem yM(l:List Mn)(i:Nat)(h:i<l.length):oV l i=l[i]:=by simp[oV,h]
def wR(ml:List Mn)(g off:Nat)(W:ar):Prop:=g<W.heap.size∧∀i,i<ml.length→W.cell? ⟨g,off+i*3,none⟩=some (.string (oV ml i).name)∧W.cell? ⟨g,off+i*3+1,none⟩=some (ah ag (oV ml i).lo)∧W.cell? ⟨g,off+i*3+2,none⟩=some (ah ag (oV ml i).hi)
theorem wR.below{ml:List Mn}{g off:Nat}{W W':ar}(h:wR ml g off W)(ho:az W.heap.size W W'):wR ml g off W':=
 ⟨bz h.1 ho.size,fun i hi=>⟨(ho.cell (p:=⟨g,off+i*3,none⟩) h.1).trans (h.2 i hi).1,(ho.cell (p:=⟨g,off+i*3+1,none⟩) h.1).trans (h.2 i hi).2.1,(ho.cell (p:=⟨g,off+i*3+2,none⟩) h.1).trans (h.2 i hi).2.2⟩⟩
theorem Reads.men{w:ar}{p:Option cU}{n c:Nat}{ml:List Mn}(h:Reads w (ae p n c) n (fF ml))(k:Nat)(hk:k<ml.length):∃g off,p=some ⟨g,off,none⟩∧wR ml g off w:=by
 rcases h with⟨_,_,h⟩|⟨g,off,cap,h,_,hg,hc⟩
 ·have:=congrArg List.length h;rw[vD] at this;simp at this;omega
 ·cases h;refine⟨g,off,rfl,hg,fun i hi=>?_⟩;rw[yM ml i hi];exact CH hc i hi
def Dd(a b:ByteArray):Bool:=a.toList==b.toList
theorem Py{a b:ByteArray}:Dd a b=true↔a=b:=by
 unfold Dd;constructor
 ·intro h
  by_cases e:a=b
  ·exact e
  ·exact absurd (by simpa using h) (Ll e)
 ·rintro rfl;simp
def twice(l:List Mn)(i:Nat):Bool:=(aU i).any fun j=>Dd (oV l j).name (oV l i).name
theorem F9{l:List Mn}{i:Nat}(j:Nat)(hj:j<i)(h:Dd (oV l j).name (oV l i).name=true):twice l i=true:=by
 unfold twice;rw[List.any_eq_true];exact⟨j,bB.2 hj,h⟩
theorem Rw{l:List Mn}{i:Nat}(h:∀j,j<i→Dd (oV l j).name (oV l i).name=false):twice l i=false:=by
 unfold twice;rw[List.any_eq_false];intro j hj;rw[h j (bB.1 hj)];simp
def pP(m:Mn):Bool:=(!(bV m.lo m.hi 1 99))||decide (m.hi-m.lo≥3)
def mV(l:List Mn)(i:Nat):Int:=if (!(ja (oV l i).name))=true then 4 else if twice l i=true then 5 else if pP (oV l i)=true then 1 else 0
def nh(l:List Mn):Int:=if (l.length:Int)>3 then 2 else(((aU l.length).map (mV l)).find? fun h=>h !=0).getD 0
theorem Pm{lo hi:Int}(h:bV lo hi 1 99=true):IntKind.i64.wrap (hi-lo)=hi-lo:=by
 unfold bV at h;simp at h;rw[bY];omega
theorem DL{l:List Mn}{i:Nat}(h:mV l i=0):ja (oV l i).name=true∧twice l i=false∧pP (oV l i)=false:=by
 unfold mV at h;cases h1:ja (oV l i).name<;>cases h2:twice l i<;>cases h3:pP (oV l i)<;>simp_all
theorem Sx{l:List Mn}(h:nh l=0):wQ l:=by
 unfold nh at h
 have h3:(l.length:Int)≤3:=by
  refine Int.not_lt.1 fun h'=>?_;rw[if_pos h'] at h;cases h
 rw[if_neg (by omega)] at h
 have hz:∀i,i<l.length→mV l i=0:=by
  intro i hi;refine eO fun hne=>?_
  have hs:((aU l.length).map (mV l)).find? (fun h=>h !=0)≠none:=by
   rw[Ne,List.find?_eq_none];intro hall;exact hall _ (dc.2 ⟨i,bB.2 hi,rfl⟩) (by simpa using hne)
  cases e:((aU l.length).map (mV l)).find? (fun h=>h !=0) with
  |none=>exact hs e
  |some x=>
   rw[e] at h;have:=List.find?_some e;simp at h this;exact this h
 refine⟨fun m hm=>?_,fun i k hi hk hik he=>?_,by omega⟩
 ·obtain⟨i,hi,rfl⟩:=ji hm;obtain⟨h1,-,h2⟩:=DL (hz i hi);rw[yM l i hi] at h1 h2;unfold pP bV at h2;simp at h2;exact⟨ME h1,by omega,by omega,by omega,by omega⟩
 ·obtain⟨-,h2,-⟩:=DL (hz k hk);have:=F9 (l:=l) i hik (Py.2 (by rw[yM l i hi,yM l k hk];exact he));rw[this] at h2;cases h2
theorem Ic{l:List Mn}(i:Nat)(h3:¬(l.length:Int)>3)(hi:i<l.length)(hpre:∀k,k<i→mV l k=0)(h:mV l i≠0):nh l=mV l i:=by
 unfold nh;rw[if_neg h3,qR _ _ i hi hpre h];rfl
theorem P2{l:List Mn}(h3:¬(l.length:Int)>3)(hpre:∀k,k<l.length→mV l k=0):nh l=0:=by
 unfold nh;rw[if_neg h3,nN _ _ hpre];rfl
theorem I2(b:BB)(sent marks:aj)(p1:Option cU)(c1:Nat)(ml:List Mn)(hlen:ml.length≤1000000)(w:ar)(hv:Reads w (ae p1 ml.length c1) ml.length (fF ml)):bm aq 146 #[aO (b.cells (ae p1 ml.length c1) sent marks)] w fun e w'=>e=aF (ah ag (nh ml))∧az w.heap.size w w':=by
 refine jU Tryz.func146 rfl ?_;have hF:=ki (args:=#[aO (b.cells (ae p1 ml.length c1) sent marks)]) (n:=54) (by simp) [(0,aO (b.cells (ae p1 ml.length c1) sent marks))] ⟨mO rfl,trivial⟩;rw[show Tryz.f146.ntmps=54 from rfl];generalize (⟨#[aO (b.cells (ae p1 ml.length c1) sent marks)]++aT (54-(#[aO (b.cells (ae p1 ml.length c1) sent marks)]:Array aj).size) af,[]⟩:Act)=a at *;refine(fun h:∀W,az w.heap.size w W→bZ aq _ _ a W=>h w (aw _ _)) ?_;intro W HB;have HC:Hid (∀k,k<ml.length→∃g off,p1=some ⟨g,off,none⟩∧wR ml g off w):=ai fun k hk=>hv.men k hk;clear hv
 refine nv [fun v ds w9=>∃B,v=pv B 0∧w9.heap[B]?=some (au (b.cells (ae p1 ml.length c1) sent marks) 28 (0,0)),pV (ah ag 0)]
  _ (by kernel_rfl) hF.size hF.base ?_ ?_ ?_
 ·refine⟨?_,sV,trivial⟩
  ·rintro v ds w1 w2 hS ⟨B,h1,h2⟩ hb;exact⟨B,h1,aL h2 hb⟩
 ·refine⟨?_,?_,trivial⟩<;>rintro ev w1 hS hc hg hf ⟨b0,-⟩ hd
  ·clear hd;refine Lag.Yields.value (v:=pv w1.heap.size 0) (w':=w1.alloc (au (b.cells (ae p1 ml.length c1) sent marks) 28)) ?_ ⟨⟨_,rfl,ay _ _⟩,cA ((aw _ _).alloc (ax _) _)⟩;go_simp
  ·clear hd;exact tV
 intro a W hR;have ho:=hR.s;obtain⟨B1,e1,K1⟩:=hR.val 0 (by decide);replace e1:a.eval (aK 1)=bp (some ⟨B1,0,none⟩):=e1;replace HB:=HB.tr ho;replace hF:=((hR.fr hF (by kernel_rfl)).cons (t:=1) e1).cons (t:=2) (hR.val 1 (by decide));clear hR ho e1;refine eZ ?_;refine jM ⟨[],[],[(B1,(b.cells (ae p1 ml.length c1) sent marks))],[]⟩ [(9,aG (decide ((ml.length:Int)>3)))] hF hF ⟨fun w1 hS=>⟨_,_,aL K1 hS⟩,trivial⟩ trivial ?_;intro a W ho hF;replace HB:=HB.tr ho;replace K1:=aL K1 ho;clear ho;refine bU (t:=(decide ((ml.length:Int)>3))) (hF.g 0 rfl) (fun Qm=>?_) (fun Qm=>?_)
 ·skip
  replace hF:=hF.tl;have hres:nh ml=2:=by unfold nh;rw[if_pos (by simpa using Qm)]
  replace hF:=hF.tl;refine jM ⟨[],[],[],[]⟩ [(2,ah ag 2)] hF hF trivial trivial ?_;intro a W ho hF;replace HB:=HB.tr ho;replace K1:=aL K1 ho;clear ho;refine fR ?_;show dK aq Tryz.f146 (fun e w'=>e=aJ (ah ag (nh ml))∧az w.heap.size w w') dQ a W;exact bg (bO rfl _ _ _) hF.defers ⟨congrArg aJ (((hF.g 0 rfl):a.eval (aK 2)=ah ag 2).trans (congrArg _ hres.symm)),HB⟩
 ·skip
  replace hF:=hF.tl;have h3:¬(ml.length:Int)>3:=by simpa using Qm
  refine eV ?_;show bZ aq _ _ _ _;refine eZ ?_;refine jM ⟨[],[],[],[]⟩ [(3,ah ag 0)] hF hF trivial trivial ?_;intro a W ho hF;replace HB:=HB.tr ho;replace K1:=aL K1 ho;clear ho;refine l9 ?_;refine wp_loop (fun a W=>∃k:Nat,k≤ml.length∧(∀i,i<k→mV ml i=0)∧iV 54 a [(3,ah ag (k:Nat)),(1,bp (some ⟨B1,0,none⟩)),(0,aO (b.cells (ae p1 ml.length c1) sent marks))]∧az w.heap.size w W∧W.heap[B1]?=some (au (b.cells (ae p1 ml.length c1) sent marks) 28 (0,0))) (fun a _=>ml.length-(intOf (a.eval (aK 3))).toNat) ⟨0,by omega,fun i hi=>by omega,⟨hF.size,hF.defers,(by obtain⟨b3,-,b1,b0,-⟩:=hF.base;exact⟨b3,b1,b0,trivial⟩)⟩,HB,K1⟩ ?_;clear hF HB K1
  try clear a
  try clear W
  rintro a W ⟨k,sI,ox,hF,HB,K1⟩;have hk3:a.eval (aK 3)=ah ag (k:Nat):=(hF.g 0 rfl)
  refine eZ ?_;refine jM ⟨[],[],[(B1,(b.cells (ae p1 ml.length c1) sent marks))],[]⟩ [(14,aG (decide ((k:Int)<(ml.length:Int))))] hF hF ⟨fun w1 hS=>⟨_,_,aL K1 hS⟩,trivial⟩ trivial ?_;intro a W ho hF;replace HB:=HB.tr ho;replace K1:=aL K1 ho;clear ho;refine bU (t:=(decide ((k:Int)<(ml.length:Int)))) (hF.g 0 rfl) (fun Tf=>?_) (fun Tf=>?_)
  ·skip
   replace hF:=hF.tl;have xr:k<ml.length:=by simpa using Tf
   obtain⟨g,off,rfl,hM⟩:=HC.out k xr;have CM:=hM.below HB;clear hM;obtain⟨m,hm⟩:∃m,oV ml k=m:=⟨_,rfl⟩
   have hw1:IntKind.i64.wrap ((k:Int)+1)=(k:Int)+1:=by rw[bY];omega
   refine eV ?_;show bZ aq _ _ _ _;refine eZ ?_;refine l9 ?_
   refine nv [pV (bp (some ⟨B1,12,none⟩)),pV (ae (some ⟨g,off,none⟩) ml.length c1),pV (ah ag (k:Nat)),pV (bp (some ⟨g,off+k*3,none⟩)),pV (aO #[.string m.name,ah ag m.lo,ah ag m.hi]),fun v ds w9=>∃B,∃z:Array aj,v=pv B 0∧w9.heap[B]?=some (au z 79 (0,0))∧z.size=3∧W.heap.size≤B,fun v ds w9=>∃B,ds[0]?=some (pv B 0)∧W.heap.size≤B∧w9.heap[B]?=some (au #[.string m.name,ah ag m.lo,ah ag m.hi] 79 (0,0))]
    _ (by kernel_rfl) hF.size hF.base ?_ ?_ ?_
   ·refine⟨sV,sV,sV,sV,sV,?_,?_,trivial⟩
    ·rintro v ds w1 w2 hS ⟨B,z,h1,h2,h3,h4⟩ hb;exact⟨B,z,h1,aL h2 hb,h3,h4⟩
    ·rintro v ds w1 w2 hS ⟨B,h1,h4,h2⟩ hb;exact⟨B,h1,h4,aL h2 hb⟩
   ·refine⟨?_,?_,?_,?_,?_,?_,?_,trivial⟩<;>rintro ev w1 hS hc hg hf ⟨b3,b1,-,-⟩ hd
    all_goals try
     clear hd;refine yw rfl ?_ rfl;go_simp;done
    ·have d0:ev (aK 17)=_:=hd.1 rfl;clear hd;have z:=aH (aL K1 hS) 12 _ rfl;exact tV
    ·have d1:ev (aK 18)=_:=hd.1 rfl;have d2:ev (aK 19)=_:=hd.2.1 rfl;clear hd;have E7:¬(ml.length≤k):=by omega
     exact tV
    ·have d3:ev (aK 20)=_:=hd.1 rfl;clear hd;obtain⟨z1,z2,z3⟩:=(wR.below CM hS).2 k (by omega);rw[hm] at z1 z2 z3;exact tV
    ·clear hd;refine Lag.Yields.value (v:=pv w1.heap.size 0) (w':=w1.alloc (au #[.string ⟨#[]⟩,ah ag 0,ah ag 0] 79)) ?_ ⟨⟨_,_,rfl,ay _ _,rfl,hS.size⟩,cA ((aw _ _).alloc (ax _) _)⟩;go_simp
    ·have d5:∃B,∃z:Array aj,(ev (aK 4))=pv B 0∧w1.heap[B]?=some (au z 79 (0,0))∧z.size=3∧W.heap.size≤B:=hd.1 rfl;have d4:ev (aK 21)=_:=hd.2.1 rfl;clear hd;obtain⟨B,z,eB,hB,hz,hge⟩:=d5;refine Lag.Yields.nC 79 _ _ rfl B #[.string m.name,ah ag m.lo,ah ag m.hi] eB d4 79 z hB (by kernel_rfl) hz (by simp[cj]) ⟨⟨B,congrArg some eB,hge,cV hB⟩,.inr ⟨dv hS hge,?_⟩⟩;intro j u ds hj hp
     match j,hp with
     |0,hp=>exact hp
     |1,hp=>exact hp
     |2,hp=>exact hp
     |3,hp=>exact hp
     |4,hp=>exact hp
     |5,⟨B',z',h1,h2,h3,h4⟩=>
      by_cases zM:B'=B
      ·subst zM;rw[hB] at h2;cases h2;exact⟨B',_,h1,cV hB,hz.symm.trans h3,h4⟩
      ·exact⟨B',z',h1,(setRow_other zM).trans h2,h3,h4⟩
     |6,_=>exact(hj rfl).elim
     |j+7,_=>trivial
   intro a W hR;have ho:=hR.s;obtain⟨B4,q4,-,K4⟩:=hR.val 6 (by decide);have e4:a.eval (aK 4)=bp (some ⟨B4,0,none⟩):=bf q4;clear q4;replace HB:=HB.tr ho;replace K1:=aL K1 ho;replace CM:=CM.below ho;replace hF:=(hR.fr hF (by kernel_rfl)).cons (t:=4) e4;clear hR ho e4;refine eZ ?_;refine jM ⟨[],[(2,aG (ja m.name))],[(B4,#[.string m.name,ah ag m.lo,ah ag m.hi])],[]⟩ [(25,aG (!(ja m.name)))] hF hF ⟨fun w1 hS=>⟨_,_,aL K4 hS⟩,trivial⟩ ⟨fun w1 hS _=>gc (Qa m.name w1),trivial⟩ ?_;intro a W ho hF;replace HB:=HB.tr ho;replace K1:=aL K1 ho;replace CM:=CM.below ho;replace K4:=aL K4 ho;clear ho;refine bU (t:=(!(ja m.name))) (hF.g 0 rfl) (fun Zh=>?_) (fun Zh=>?_)
   ·skip
    replace hF:=hF.tl;have h4:mV ml k=4:=by unfold mV;rw[hm,if_pos Zh]
    have hres:nh ml=4:=(Ic k h3 xr ox (by rw[h4];decide)).trans h4;refine jM ⟨[],[],[],[]⟩ [(2,ah ag 4)] hF hF trivial trivial ?_;intro a W ho hF;replace HB:=HB.tr ho;replace K1:=aL K1 ho;replace CM:=CM.below ho;replace K4:=aL K4 ho;clear ho;refine fR ?_;show dK aq Tryz.f146 (fun e w'=>e=aJ (ah ag (nh ml))∧az w.heap.size w w') dQ a W;exact bg (bO rfl _ _ _) hF.defers ⟨congrArg aJ (((hF.g 0 rfl):a.eval (aK 2)=ah ag 4).trans (congrArg _ hres.symm)),HB⟩
   ·skip
    replace hF:=hF.tl;have Qk:(!(ja m.name))≠true:=by rw[Zh];simp
    refine eV ?_;show bZ aq _ _ _ _;refine eZ ?_;refine jM ⟨[],[],[],[]⟩ [(5,ah ag 0)] hF hF trivial trivial ?_;intro a W ho hF;replace HB:=HB.tr ho;replace K1:=aL K1 ho;replace CM:=CM.below ho;replace K4:=aL K4 ho;clear ho;refine l9 ?_;refine wp_loop (fun a W=>∃j:Nat,j≤k∧(∀i,i<j→Dd (oV ml i).name m.name=false)∧iV 54 a [(5,ah ag (j:Nat)),(4,bp (some ⟨B4,0,none⟩)),(3,ah ag (k:Nat)),(1,bp (some ⟨B1,0,none⟩)),(0,aO (b.cells (ae (some ⟨g,off,none⟩) ml.length c1) sent marks))]∧az w.heap.size w W∧W.heap[B1]?=some (au (b.cells (ae (some ⟨g,off,none⟩) ml.length c1) sent marks) 28 (0,0))∧wR ml g off W∧W.heap[B4]?=some (au #[.string m.name,ah ag m.lo,ah ag m.hi] 79 (0,0))) (fun a _=>k-(intOf (a.eval (aK 5))).toNat) ⟨0,by omega,fun i hi=>by omega,⟨hF.size,hF.defers,hF.base⟩,HB,K1,CM,K4⟩ ?_;clear hF HB K1 CM K4
    try clear a
    try clear W
    rintro a W ⟨j,hkj,Xj,hF,HB,K1,CM,K4⟩;have hk5:a.eval (aK 5)=ah ag (j:Nat):=(hF.g 0 rfl)
    refine eZ ?_;refine jM ⟨[],[],[],[]⟩ [(28,aG (decide ((j:Int)<(k:Int))))] hF hF trivial trivial ?_;intro a W ho hF;replace HB:=HB.tr ho;replace K1:=aL K1 ho;replace CM:=CM.below ho;replace K4:=aL K4 ho;clear ho;refine bU (t:=(decide ((j:Int)<(k:Int)))) (hF.g 0 rfl) (fun Zf=>?_) (fun Zf=>?_)
    ·skip
     replace hF:=hF.tl;have afo:j<k:=by simpa using Zf
     have hw2:IntKind.i64.wrap ((j:Int)+1)=(j:Int)+1:=by rw[bY];omega
     refine eV ?_;show bZ aq _ _ _ _;refine eZ ?_;refine l9 ?_
     refine OS (by kernel_rfl) [pV (bp (some ⟨B1,12,none⟩)),pV (ae (some ⟨g,off,none⟩) ml.length c1),pV (ah ag (j:Nat)),pV (bp (some ⟨g,off+j*3,none⟩)),pV (bp (some ⟨g,off+j*3,none⟩)),pV (.string (oV ml j).name),pV (bp (some ⟨B4,0,none⟩)),pV (.string m.name),pV (aG (((oV ml j).name).toList==m.name.toList))]
      _ (by kernel_rfl) hF.size hF.base ?_ ?_ ?_
     ·exact⟨sV,sV,sV,sV,sV,sV,sV,sV,sV,trivial⟩
     ·refine⟨?_,?_,?_,?_,?_,?_,?_,?_,?_,trivial⟩<;>rintro ev w1 hS hc hg hf ⟨b5,b4,-,b1,-,-⟩ hd
      all_goals try
       try have d0:ev (aK _)=_:=hd.1 rfl
       try have d1:ev (aK _)=_:=hd.2.1 rfl
       clear hd;refine yw rfl ?_ rfl;go_simp;done
      ·have d0:ev (aK 31)=_:=hd.1 rfl;clear hd;have z:=aH (aL K1 hS) 12 _ rfl;exact tV
      ·have d1:ev (aK 32)=_:=hd.1 rfl;have d2:ev (aK 33)=_:=hd.2.1 rfl;clear hd;have E7:¬(ml.length≤j):=by omega
       exact tV
      ·have d4:ev (aK 35)=_:=hd.1 rfl;clear hd;obtain⟨z1,z2,z3⟩:=(wR.below CM hS).2 j (by omega);exact tV
      ·have d6:ev (aK 37)=_:=hd.1 rfl;clear hd;have z:=aH (aL K4 hS) 0 _ rfl;exact tV
     intro a W hR;have ho:=hR.s;replace HB:=HB.tr ho;replace K1:=aL K1 ho;replace CM:=CM.below ho;replace K4:=aL K4 ho;replace hF:=(hR.fr hF (by kernel_rfl)).cons (t:=39) (hR.val 8 (by decide));clear hR ho;refine bU (t:=(((oV ml j).name).toList==m.name.toList)) (hF.g 0 rfl) (fun Zc=>?_) (fun Zc=>?_)
     ·skip
      replace hF:=hF.tl;have h5:mV ml k=5:=by unfold mV;rw[hm,if_neg Qk,if_pos (F9 j afo (by rw[hm];exact Zc))]
      have hres:nh ml=5:=(Ic k h3 xr ox (by rw[h5];decide)).trans h5;refine jM ⟨[],[],[],[]⟩ [(2,ah ag 5)] hF hF trivial trivial ?_;intro a W ho hF;replace HB:=HB.tr ho;replace K1:=aL K1 ho;replace CM:=CM.below ho;replace K4:=aL K4 ho;clear ho;refine fR ?_;show dK aq Tryz.f146 (fun e w'=>e=aJ (ah ag (nh ml))∧az w.heap.size w w') dQ a W;exact bg (bO rfl _ _ _) hF.defers ⟨congrArg aJ (((hF.g 0 rfl):a.eval (aK 2)=ah ag 5).trans (congrArg _ hres.symm)),HB⟩
     ·skip
      replace hF:=hF.tl;have hz:Dd (oV ml j).name m.name=false:=Zc;refine eV ?_;show bZ aq _ _ _ _;have qA:=hF;replace hF:=hF.tl;refine OT ⟨[],[(1,ah ag ((j:Nat)+1))],[],[]⟩ [(5,ah ag ((j:Nat)+1))] qA hF trivial ⟨fun w1 hS _=>ge (congrArg (aD ag) (show IntKind.i64.wrap ((j:Nat)+1)=((j:Nat)+1) by rw[bY];omega)),trivial⟩ ?_;intro a W ho hF;clear qA;replace HB:=HB.tr ho;replace K1:=aL K1 ho;replace CM:=CM.below ho;replace K4:=aL K4 ho;clear ho;refine⟨⟨j+1,by omega,fun i hi=>if hik:i<j then Xj i hik else by have e:i=j:=(by omega);rw[e];exact hz,⟨hF.size,hF.defers,hF.base⟩,HB,K1,CM,K4⟩,?_⟩;rw[show a.eval (aK 5)=ah ag ((j:Nat)+1) from(hF.g 0 rfl)];simp only[hk5];simp[intOf];omega
    ·skip
     replace hF:=hF.tl;refine wp_exit ?_;have ain:j=k:=by simp at Zf;omega
     have htw:twice ml k=false:=Rw fun i hi=>by rw[hm];exact Xj i (by omega)
     show bZ aq _ _ a W;show bZ aq _ _ _ _
     refine nv [pV (bp (some ⟨B4,1,none⟩)),pV (aO #[ah ag m.lo,ah ag m.hi]),pV (aG (bV m.lo m.hi 1 99)),pV (aG (!(bV m.lo m.hi 1 99))),pV (aG (!(bV m.lo m.hi 1 99))),pC (!(!(bV m.lo m.hi 1 99))) (bp (some ⟨B4,1,none⟩)),pC (!(!(bV m.lo m.hi 1 99))) (bp (some ⟨B4,2,none⟩)),pC (!(!(bV m.lo m.hi 1 99))) (ah ag m.hi),pC (!(!(bV m.lo m.hi 1 99))) (bp (some ⟨B4,1,none⟩)),pC (!(!(bV m.lo m.hi 1 99))) (bp (some ⟨B4,1,none⟩)),pC (!(!(bV m.lo m.hi 1 99))) (ah ag m.lo),pC (!(!(bV m.lo m.hi 1 99))) (ah ag (m.hi-m.lo)),pC (!(!(bV m.lo m.hi 1 99))) (aG (decide ((m.hi-m.lo)≥3))),pV (aG ((!(bV m.lo m.hi 1 99))||(decide ((m.hi-m.lo)≥3))))]
      _ (by kernel_rfl) hF.size hF.base ?_ ?_ ?_
     ·exact⟨sV,sV,sV,sV,sV,sC,sC,sC,sC,sC,sC,sC,sC,sV,trivial⟩
     ·refine⟨?_,?_,?_,?_,?_,?_,?_,?_,?_,?_,?_,?_,?_,?_,trivial⟩<;>rintro ev w1 hS hc hg hf ⟨-,b4,-,-,-,-⟩ hd
      all_goals try
       try have d0:ev (aK _)=_:=hd.1 rfl
       clear hd;refine yw rfl ?_ rfl;go_simp;done
      all_goals try
       try have d0:ev (aK _)=_:=hd.1 rfl
       try have c0:_→ev (aK _)=_:=hd.1 rfl
       try have d1:ev (aK _)=_:=hd.2.1 rfl
       clear hd
       first|refine gC d0 lN fun hA=>?_|refine gC d1 lN fun hA=>?_
       try replace c0:=c0 hA
       refine yw rfl ?_ (fun _=>rfl);go_simp;done
      ·have d0:ev (aK 40)=_:=hd.1 rfl;clear hd;have z1:=aH (aL K4 hS) 1 _ rfl;have z2:=aH (aL K4 hS) 2 _ rfl;exact tV
      ·have d1:ev (aK 41)=_:=hd.1 rfl;clear hd;refine yc (qN m.lo m.hi 1 99 w1) ?_ (fun _=>rfl);go_simp
      ·have d6:_→ev (aK 46)=_:=hd.1 rfl;have d4:ev (aK 44)=_:=hd.2.1 rfl;clear hd;refine gC d4 lN fun hA=>?_;have y6:=d6 hA;have z:=aH (aL K4 hS) 2 _ rfl;refine yv ?_ (fun _=>rfl);go_simp
      ·have d9:_→ev (aK 49)=_:=hd.1 rfl;have d4:ev (aK 44)=_:=hd.2.1 rfl;clear hd;refine gC d4 lN fun hA=>?_;have y9:=d9 hA;have z:=aH (aL K4 hS) 1 _ rfl;refine yv ?_ (fun _=>rfl);go_simp
      ·have d7:_→ev (aK 47)=_:=hd.1 rfl;have d10:_→ev (aK 50)=_:=hd.2.1 rfl;have d4:ev (aK 44)=_:=hd.2.2.1 rfl;clear hd;refine gC d4 lN fun hA=>?_;have y7:=d7 hA;have LR:=d10 hA;have hw:=Pm (lo:=m.lo) (hi:=m.hi) (by revert hA;cases bV m.lo m.hi 1 99<;>simp);refine yv ?_ (fun _=>rfl);go_simp
      ·have d4:ev (aK 44)=_:=hd.1 rfl;have d12:_→ev (aK 52)=_:=hd.2.1 rfl;clear hd;exact yO rfl hc d4 (fun hq=>d12 (by simp[hq])) (rfl)
     intro a W hR;have ho:=hR.s;replace HB:=HB.tr ho;replace K1:=aL K1 ho;replace CM:=CM.below ho;replace K4:=aL K4 ho;replace hF:=(hR.fr hF (by kernel_rfl)).cons (t:=53) (hR.val 13 (by decide));clear hR ho;refine bU (t:=((!(bV m.lo m.hi 1 99))||(decide ((m.hi-m.lo)≥3)))) (hF.g 0 rfl) (fun Za=>?_) (fun Za=>?_)
     ·skip
      replace hF:=hF.tl;have h1:mV ml k=1:=by unfold mV;rw[hm,if_neg Qk,if_neg (by rw[htw];simp),if_pos (show pP m=true from Za)]
      have hres:nh ml=1:=(Ic k h3 xr ox (by rw[h1];decide)).trans h1;refine jM ⟨[],[],[],[]⟩ [(2,ah ag 1)] hF hF trivial trivial ?_;intro a W ho hF;replace HB:=HB.tr ho;replace K1:=aL K1 ho;replace CM:=CM.below ho;replace K4:=aL K4 ho;clear ho;refine fR ?_;show dK aq Tryz.f146 (fun e w'=>e=aJ (ah ag (nh ml))∧az w.heap.size w w') dQ a W;exact bg (bO rfl _ _ _) hF.defers ⟨congrArg aJ (((hF.g 0 rfl):a.eval (aK 2)=ah ag 1).trans (congrArg _ hres.symm)),HB⟩
     ·skip
      replace hF:=hF.tl;have hz:mV ml k=0:=by unfold mV;rw[hm,if_neg Qk,if_neg (by rw[htw];simp),if_neg (by rw[show pP m=_ from Za];simp)]
      refine eV ?_;show bZ aq _ _ _ _;have qA:=hF;replace hF:=hF.del 3;simp only[m5,cG,reduceIte] at hF;refine OT ⟨[],[(1,ah ag ((k:Nat)+1))],[],[]⟩ [(3,ah ag ((k:Nat)+1))] qA hF trivial ⟨fun w1 hS _=>ge (congrArg (aD ag) (show IntKind.i64.wrap ((k:Nat)+1)=((k:Nat)+1) by rw[bY];omega)),trivial⟩ ?_;intro a W ho hF;clear qA;replace HB:=HB.tr ho;replace K1:=aL K1 ho;replace CM:=CM.below ho;replace K4:=aL K4 ho;clear ho;refine⟨⟨k+1,by omega,fun i hi=>if hik:i<k then ox i hik else by have e:i=k:=(by omega);rw[e];exact hz,⟨hF.size,hF.defers,(by obtain⟨b3,-,-,b1,b0,-⟩:=hF.base;exact⟨b3,b1,b0,trivial⟩)⟩,HB,K1⟩,?_⟩;rw[show a.eval (aK 3)=ah ag ((k:Nat)+1) from(hF.g 0 rfl)];simp only[hk3];simp[intOf];omega
  ·skip
   replace hF:=hF.tl;refine wp_exit ?_;have Tb:k=ml.length:=by simp at Tf;omega
   have hres:nh ml=0:=P2 h3 fun i hi=>ox i (by omega);show bZ aq _ _ a W;show bZ aq _ _ _ _;refine jM ⟨[],[],[],[]⟩ [(2,ah ag 0)] hF hF trivial trivial ?_;intro a W ho hF;replace HB:=HB.tr ho;replace K1:=aL K1 ho;clear ho;refine fR ?_;show dK aq Tryz.f146 (fun e w'=>e=aJ (ah ag (nh ml))∧az w.heap.size w w') dQ a W;exact bg (bO rfl _ _ _) hF.defers ⟨congrArg aJ (((hF.g 0 rfl):a.eval (aK 2)=ah ag 0).trans (congrArg _ hres.symm)),HB⟩
def Ib(l:List Mk)(i:Nat):Mk:=l.getD i ⟨0,0,0⟩
theorem J7(l:List Mk)(i:Nat)(h:i<l.length):Ib l i=l[i]:=by simp[Ib,h]
def NG(ms:List Mk)(g off:Nat)(W:ar):Prop:=g<W.heap.size∧∀i,i<ms.length→W.cell? ⟨g,off+i*3,none⟩=some (ah ag (Ib ms i).minute)∧W.cell? ⟨g,off+i*3+1,none⟩=some (ah ag (Ib ms i).lo)∧W.cell? ⟨g,off+i*3+2,none⟩=some (ah ag (Ib ms i).hi)
theorem NG.below{ml:List Mk}{g off:Nat}{W W':ar}(h:NG ml g off W)(ho:az W.heap.size W W'):NG ml g off W':=
 ⟨bz h.1 ho.size,fun i hi=>⟨(ho.cell (p:=⟨g,off+i*3,none⟩) h.1).trans (h.2 i hi).1,(ho.cell (p:=⟨g,off+i*3+1,none⟩) h.1).trans (h.2 i hi).2.1,(ho.cell (p:=⟨g,off+i*3+2,none⟩) h.1).trans (h.2 i hi).2.2⟩⟩
theorem Reads.mks{w:ar}{p:Option cU}{n c:Nat}{ms:List Mk}(h:Reads w (ae p n c) n (dm ms))(k:Nat)(hk:k<ms.length):∃g off,p=some ⟨g,off,none⟩∧NG ms g off w:=by
 rcases h with⟨_,_,h⟩|⟨g,off,cap,h,_,hg,hc⟩
 ·have:=congrArg List.length h;rw[nH] at this;simp at this;omega
 ·cases h;refine⟨g,off,rfl,hg,fun i hi=>?_⟩;rw[J7 ms i hi];exact vH hc i hi
def yL(l:List Mn)(i:Nat):Bool:=decide (((oV l i).name.size:Int)>100)
def IP(ml:List Mn)(ss:List Int)(ms:List Mk):Bool:=(decide ((ml.length:Int)>20)||decide ((ss.length:Int)>20))||decide ((ms.length:Int)>20)
def iN(ml:List Mn)(ss:List Int)(ms:List Mk):Bool:=IP ml ss ms||(aU ml.length).any (yL ml)
def nL(b:BB)(ms:List Mk)(i:Nat):Int:=if (!(aQ (Ib ms i).minute 1 b.minutes))=true then 6 else if (!(bV (Ib ms i).lo (Ib ms i).hi 0 99))=true then 1 else 0
def sU(b:BB)(ms:List Mk):Int:=if (ms.length:Int)>3 then 2 else(((aU ms.length).map (nL b ms)).find? fun h=>h !=0).getD 0
theorem Gl{b:BB}{l:List Mk}(i:Nat)(h3:¬(l.length:Int)>3)(hi:i<l.length)(hpre:∀k,k<i→nL b l k=0)(h:nL b l i≠0):sU b l=nL b l i:=by
 unfold sU;rw[if_neg h3,qR _ _ i hi hpre h];rfl
theorem J8{b:BB}{l:List Mk}(h3:¬(l.length:Int)>3)(hpre:∀k,k<l.length→nL b l k=0):sU b l=0:=by
 unfold sU;rw[if_neg h3,nN _ _ hpre];rfl
def jO(b:BB)(ml:List Mn)(ss:List Int)(ms:List Mk):Int:=if (lT b !=0)=true then lT b else if (nh ml !=0)=true then nh ml else if (jz b ss !=0)=true then jz b ss else sU b ms
theorem Qw(b:BB)(p1 p2 p3:Option cU)(c1 c2 c3:Nat)(ml:List Mn)(ss:List Int)(ms:List Mk)(w:ar)(hv:Reads w (ae p1 ml.length c1) ml.length (fF ml)):bm aq 18 #[aO (b.cells (ae p1 ml.length c1) (ae p2 ss.length c2) (ae p3 ms.length c3))] w fun e w'=>e=aF (aG (iN ml ss ms))∧az w.heap.size w w':=by
 refine jU Tryz.func18 rfl ?_;have hF:=ki (args:=#[aO (b.cells (ae p1 ml.length c1) (ae p2 ss.length c2) (ae p3 ms.length c3))]) (n:=35) (by simp) [(0,aO (b.cells (ae p1 ml.length c1) (ae p2 ss.length c2) (ae p3 ms.length c3)))] ⟨mO rfl,trivial⟩;rw[show Tryz.f18.ntmps=35 from rfl];generalize (⟨#[aO (b.cells (ae p1 ml.length c1) (ae p2 ss.length c2) (ae p3 ms.length c3))]++aT (35-(#[aO (b.cells (ae p1 ml.length c1) (ae p2 ss.length c2) (ae p3 ms.length c3))]:Array aj).size) af,[]⟩:Act)=a at *;refine(fun h:∀W,az w.heap.size w W→bZ aq _ _ a W=>h w (aw _ _)) ?_;intro W HB;have HC:Hid (∀k,k<ml.length→∃g off,p1=some ⟨g,off,none⟩∧wR ml g off w):=ai fun k hk=>hv.men k hk;clear hv
 refine nv [fun v ds w9=>∃B,v=pv B 0∧w9.heap[B]?=some (au (b.cells (ae p1 ml.length c1) (ae p2 ss.length c2) (ae p3 ms.length c3)) 28 (0,0)),pV (aG false)]
  _ (by kernel_rfl) hF.size hF.base ?_ ?_ ?_
 ·refine⟨?_,sV,trivial⟩
  ·rintro v ds w1 w2 hS ⟨B,h1,h2⟩ hb;exact⟨B,h1,aL h2 hb⟩
 ·refine⟨?_,?_,trivial⟩<;>rintro ev w1 hS hc hg hf ⟨b0,-⟩ hd
  ·clear hd;refine Lag.Yields.value (v:=pv w1.heap.size 0) (w':=w1.alloc (au (b.cells (ae p1 ml.length c1) (ae p2 ss.length c2) (ae p3 ms.length c3)) 28)) ?_ ⟨⟨_,rfl,ay _ _⟩,cA ((aw _ _).alloc (ax _) _)⟩;go_simp
  ·clear hd;exact tV
 intro a W hR;have ho:=hR.s;obtain⟨B1,e1,K1⟩:=hR.val 0 (by decide);replace e1:a.eval (aK 1)=bp (some ⟨B1,0,none⟩):=e1;replace HB:=HB.tr ho;replace hF:=((hR.fr hF (by kernel_rfl)).cons (t:=1) e1).cons (t:=2) (hR.val 1 (by decide));clear hR ho e1;refine eZ ?_;refine jM ⟨[],[],[(B1,(b.cells (ae p1 ml.length c1) (ae p2 ss.length c2) (ae p3 ms.length c3)))],[]⟩ [(19,aG (((decide ((ml.length:Int)>20))||(decide ((ss.length:Int)>20)))||(decide ((ms.length:Int)>20))))] hF hF ⟨fun w1 hS=>⟨_,_,aL K1 hS⟩,trivial⟩ trivial ?_;intro a W ho hF;replace HB:=HB.tr ho;replace K1:=aL K1 ho;clear ho;refine bU (t:=(((decide ((ml.length:Int)>20))||(decide ((ss.length:Int)>20)))||(decide ((ms.length:Int)>20)))) (hF.g 0 rfl) (fun ry=>?_) (fun ry=>?_)
 ·skip
  replace hF:=hF.tl;have hres:iN ml ss ms=true:=by unfold iN;rw[show IP ml ss ms=true from ry];rfl
  replace hF:=hF.tl;refine jM ⟨[],[],[],[]⟩ [(2,aG true)] hF hF trivial trivial ?_;intro a W ho hF;replace HB:=HB.tr ho;replace K1:=aL K1 ho;clear ho;refine fR ?_;show dK aq Tryz.f18 (fun e w'=>e=aJ (aG (iN ml ss ms))∧az w.heap.size w w') dQ a W;exact bg (bO rfl _ _ _) hF.defers ⟨congrArg aJ (((hF.g 0 rfl):a.eval (aK 2)=aG true).trans (congrArg _ hres.symm)),HB⟩
 ·skip
  replace hF:=hF.tl;have h20:ml.length≤20:=by revert ry;simp;omega
  refine eV ?_;show bZ aq _ _ _ _;refine eZ ?_;refine jM ⟨[],[],[],[]⟩ [(3,ah ag 0)] hF hF trivial trivial ?_;intro a W ho hF;replace HB:=HB.tr ho;replace K1:=aL K1 ho;clear ho;refine l9 ?_;refine wp_loop (fun a W=>∃k:Nat,k≤ml.length∧(∀i,i<k→yL ml i=false)∧iV 35 a [(3,ah ag (k:Nat)),(1,bp (some ⟨B1,0,none⟩)),(0,aO (b.cells (ae p1 ml.length c1) (ae p2 ss.length c2) (ae p3 ms.length c3)))]∧az w.heap.size w W∧W.heap[B1]?=some (au (b.cells (ae p1 ml.length c1) (ae p2 ss.length c2) (ae p3 ms.length c3)) 28 (0,0))) (fun a _=>ml.length-(intOf (a.eval (aK 3))).toNat) ⟨0,by omega,fun i hi=>by omega,⟨hF.size,hF.defers,(by obtain⟨b3,-,b1,b0,-⟩:=hF.base;exact⟨b3,b1,b0,trivial⟩)⟩,HB,K1⟩ ?_;clear hF HB K1
  try clear a
  try clear W
  rintro a W ⟨k,sI,ox,hF,HB,K1⟩;have hk3:a.eval (aK 3)=ah ag (k:Nat):=(hF.g 0 rfl)
  refine eZ ?_;refine jM ⟨[],[],[(B1,(b.cells (ae p1 ml.length c1) (ae p2 ss.length c2) (ae p3 ms.length c3)))],[]⟩ [(24,aG (decide ((k:Int)<(ml.length:Int))))] hF hF ⟨fun w1 hS=>⟨_,_,aL K1 hS⟩,trivial⟩ trivial ?_;intro a W ho hF;replace HB:=HB.tr ho;replace K1:=aL K1 ho;clear ho;refine bU (t:=(decide ((k:Int)<(ml.length:Int)))) (hF.g 0 rfl) (fun IJ=>?_) (fun IJ=>?_)
  ·skip
   replace hF:=hF.tl;have xr:k<ml.length:=by simpa using IJ
   obtain⟨g,off,rfl,hM⟩:=HC.out k xr;have CM:=hM.below HB;clear hM;obtain⟨m,hm⟩:∃m,oV ml k=m:=⟨_,rfl⟩
   have hw1:IntKind.i64.wrap ((k:Int)+1)=(k:Int)+1:=by rw[bY];omega
   refine eV ?_;show bZ aq _ _ _ _;refine eZ ?_;refine l9 ?_
   refine nv [pV (bp (some ⟨B1,12,none⟩)),pV (ae (some ⟨g,off,none⟩) ml.length c1),pV (ah ag (k:Nat)),pV (bp (some ⟨g,off+k*3,none⟩)),pV (bp (some ⟨g,off+k*3,none⟩)),pV (.string m.name),pV (ah ag (m.name.size:Int)),pV (aG (decide ((m.name.size:Int)>100)))]
    _ (by kernel_rfl) hF.size hF.base ?_ ?_ ?_
   ·exact⟨sV,sV,sV,sV,sV,sV,sV,sV,trivial⟩
   ·refine⟨?_,?_,?_,?_,?_,?_,?_,?_,trivial⟩<;>rintro ev w1 hS hc hg hf ⟨b3,b1,-,-⟩ hd
    all_goals try
     try have d0:ev (aK _)=_:=hd.1 rfl
     clear hd;refine yw rfl ?_ rfl;go_simp;done
    ·have d0:ev (aK 27)=_:=hd.1 rfl;clear hd;have z:=aH (aL K1 hS) 12 _ rfl;exact tV
    ·have d1:ev (aK 28)=_:=hd.1 rfl;have d2:ev (aK 29)=_:=hd.2.1 rfl;clear hd;have E7:¬(ml.length≤k):=by omega
     exact tV
    ·have d4:ev (aK 31)=_:=hd.1 rfl;clear hd;obtain⟨z1,z2,z3⟩:=(wR.below CM hS).2 k (by omega);rw[hm] at z1 z2 z3;exact tV
   intro a W hR;have ho:=hR.s;replace HB:=HB.tr ho;replace K1:=aL K1 ho;replace CM:=CM.below ho;replace hF:=(hR.fr hF (by kernel_rfl)).cons (t:=34) (hR.val 7 (by decide));clear hR ho;refine bU (t:=(decide ((m.name.size:Int)>100))) (hF.g 0 rfl) (fun Zd=>?_) (fun Zd=>?_)
   ·skip
    replace hF:=hF.tl;have hres:iN ml ss ms=true:=by unfold iN;rw[Bool.or_eq_true];right;rw[List.any_eq_true];exact⟨k,bB.2 xr,by unfold yL;rw[hm];exact Zd⟩
    refine jM ⟨[],[],[],[]⟩ [(2,aG true)] hF hF trivial trivial ?_;intro a W ho hF;replace HB:=HB.tr ho;replace K1:=aL K1 ho;replace CM:=CM.below ho;clear ho;refine fR ?_;show dK aq Tryz.f18 (fun e w'=>e=aJ (aG (iN ml ss ms))∧az w.heap.size w w') dQ a W;exact bg (bO rfl _ _ _) hF.defers ⟨congrArg aJ (((hF.g 0 rfl):a.eval (aK 2)=aG true).trans (congrArg _ hres.symm)),HB⟩
   ·skip
    replace hF:=hF.tl;have hz:yL ml k=false:=by unfold yL;rw[hm];exact Zd
    refine eV ?_;show bZ aq _ _ _ _;have qA:=hF;replace hF:=hF.tl;refine OT ⟨[],[(1,ah ag ((k:Nat)+1))],[],[]⟩ [(3,ah ag ((k:Nat)+1))] qA hF trivial ⟨fun w1 hS _=>ge (congrArg (aD ag) (show IntKind.i64.wrap ((k:Nat)+1)=((k:Nat)+1) by rw[bY];omega)),trivial⟩ ?_;intro a W ho hF;clear qA;replace HB:=HB.tr ho;replace K1:=aL K1 ho;replace CM:=CM.below ho;clear ho;refine⟨⟨k+1,by omega,fun i hi=>if hik:i<k then ox i hik else by have e:i=k:=(by omega);rw[e];exact hz,⟨hF.size,hF.defers,hF.base⟩,HB,K1⟩,?_⟩;rw[show a.eval (aK 3)=ah ag ((k:Nat)+1) from(hF.g 0 rfl)];simp only[hk3];simp[intOf];omega
  ·skip
   replace hF:=hF.tl;refine wp_exit ?_;have Tb:k=ml.length:=by simp at IJ;omega
   have hres:iN ml ss ms=false:=by
    unfold iN;rw[show IP ml ss ms=false from ry,Bool.false_or,List.any_eq_false];intro i hi;rw[ox i (by have:=bB.1 hi;omega)];simp
   show bZ aq _ _ a W;show bZ aq _ _ _ _;refine jM ⟨[],[],[],[]⟩ [(2,aG false)] hF hF trivial trivial ?_;intro a W ho hF;replace HB:=HB.tr ho;replace K1:=aL K1 ho;clear ho;refine fR ?_;show dK aq Tryz.f18 (fun e w'=>e=aJ (aG (iN ml ss ms))∧az w.heap.size w w') dQ a W;exact bg (bO rfl _ _ _) hF.defers ⟨congrArg aJ (((hF.g 0 rfl):a.eval (aK 2)=aG false).trans (congrArg _ hres.symm)),HB⟩
theorem JV(b:BB)(p1 p2 p3:Option cU)(c1 c2 c3:Nat)(ml:List Mn)(ss:List Int)(ms:List Mk)(hl:ml.length≤20∧ss.length≤20)(w:ar)(hv:Reads w (ae p1 ml.length c1) ml.length (fF ml))(hu:Reads w (ae p2 ss.length c2) ss.length (ss.map (aD ag)))(hk3:Reads w (ae p3 ms.length c3) ms.length (dm ms)):bm aq 72 #[aO (b.cells (ae p1 ml.length c1) (ae p2 ss.length c2) (ae p3 ms.length c3))] w fun e w'=>e=aF (ah ag (jO b ml ss ms))∧az w.heap.size w w':=by
 refine jU Tryz.func72 rfl ?_;have hF:=ki (args:=#[aO (b.cells (ae p1 ml.length c1) (ae p2 ss.length c2) (ae p3 ms.length c3))]) (n:=52) (by simp) [(0,aO (b.cells (ae p1 ml.length c1) (ae p2 ss.length c2) (ae p3 ms.length c3)))] ⟨mO rfl,trivial⟩;rw[show Tryz.f72.ntmps=52 from rfl];generalize (⟨#[aO (b.cells (ae p1 ml.length c1) (ae p2 ss.length c2) (ae p3 ms.length c3))]++aT (52-(#[aO (b.cells (ae p1 ml.length c1) (ae p2 ss.length c2) (ae p3 ms.length c3))]:Array aj).size) af,[]⟩:Act)=a at *;refine(fun h:∀W,az w.heap.size w W→bZ aq _ _ a W=>h w (aw _ _)) ?_;intro W HB;have HC:Hid (∀k,k<ms.length→∃g off,p3=some ⟨g,off,none⟩∧NG ms g off w):=ai fun k hk=>hk3.mks k hk;clear hk3
 refine nv [fun v ds w9=>∃B,v=pv B 0∧w9.heap[B]?=some (au (b.cells (ae p1 ml.length c1) (ae p2 ss.length c2) (ae p3 ms.length c3)) 28 (0,0)),pV (ah ag 0)]
  _ (by kernel_rfl) hF.size hF.base ?_ ?_ ?_
 ·refine⟨?_,sV,trivial⟩
  ·rintro v ds w1 w2 hS ⟨B,h1,h2⟩ hb;exact⟨B,h1,aL h2 hb⟩
 ·refine⟨?_,?_,trivial⟩<;>rintro ev w1 hS hc hg hf ⟨b0,-⟩ hd
  ·clear hd;refine Lag.Yields.value (v:=pv w1.heap.size 0) (w':=w1.alloc (au (b.cells (ae p1 ml.length c1) (ae p2 ss.length c2) (ae p3 ms.length c3)) 28)) ?_ ⟨⟨_,rfl,ay _ _⟩,cA ((aw _ _).alloc (ax _) _)⟩;go_simp
  ·clear hd;exact tV
 intro a W hR;have ho:=hR.s;obtain⟨B1,e1,K1⟩:=hR.val 0 (by decide);replace e1:a.eval (aK 1)=bp (some ⟨B1,0,none⟩):=e1;replace HB:=HB.tr ho;replace hF:=((hR.fr hF (by kernel_rfl)).cons (t:=1) e1).cons (t:=2) (hR.val 1 (by decide));clear hR ho e1;refine eZ ?_;refine jM ⟨[],[(1,ah ag (lT b))],[(B1,(b.cells (ae p1 ml.length c1) (ae p2 ss.length c2) (ae p3 ms.length c3)))],[]⟩ [(3,ah ag (lT b))] hF hF ⟨fun w1 hS=>⟨_,_,aL K1 hS⟩,trivial⟩ ⟨fun w1 hS _=>gc (FK b (ae p1 ml.length c1) (ae p2 ss.length c2) (ae p3 ms.length c3) w1),trivial⟩ ?_;intro a W ho hF;replace HB:=HB.tr ho;replace K1:=aL K1 ho;clear ho;refine jM ⟨[],[],[],[]⟩ [(10,aG ((lT b) !=0))] hF hF trivial trivial ?_;intro a W ho hF;replace HB:=HB.tr ho;replace K1:=aL K1 ho;clear ho;refine bU (t:=((lT b) !=0)) (hF.g 0 rfl) (fun Ec=>?_) (fun Ec=>?_)
 ·skip
  replace hF:=hF.tl;have hres:jO b ml ss ms=lT b:=by unfold jO;rw[if_pos Ec]
  replace hF:=hF.del 2;simp only[m5,cG,reduceIte] at hF;refine jM ⟨[],[],[],[]⟩ [(2,ah ag (lT b))] hF hF trivial trivial ?_;intro a W ho hF;replace HB:=HB.tr ho;replace K1:=aL K1 ho;clear ho;refine fR ?_;show dK aq Tryz.f72 (fun e w'=>e=aJ (ah ag (jO b ml ss ms))∧az w.heap.size w w') dQ a W;exact bg (bO rfl _ _ _) hF.defers ⟨congrArg aJ (((hF.g 0 rfl):a.eval (aK 2)=ah ag (lT b)).trans (congrArg _ hres.symm)),HB⟩
 ·skip
  replace hF:=hF.tl;refine eV ?_;show bZ aq _ _ _ _;refine eZ ?_;refine jM ⟨[],[(1,ah ag (nh ml))],[(B1,(b.cells (ae p1 ml.length c1) (ae p2 ss.length c2) (ae p3 ms.length c3)))],[]⟩ [(4,ah ag (nh ml))] hF hF ⟨fun w1 hS=>⟨_,_,aL K1 hS⟩,trivial⟩ ⟨fun w1 hS _=>gc (args:=#[aO (b.cells (ae p1 ml.length c1) (ae p2 ss.length c2) (ae p3 ms.length c3))]) (I2 b (ae p2 ss.length c2) (ae p3 ms.length c3) _ _ ml (by omega) w1 (hv.below (HB.tr hS))),trivial⟩ ?_;intro a W ho hF;replace HB:=HB.tr ho;replace K1:=aL K1 ho;clear ho;refine jM ⟨[],[],[],[]⟩ [(15,aG ((nh ml) !=0))] hF hF trivial trivial ?_;intro a W ho hF;replace HB:=HB.tr ho;replace K1:=aL K1 ho;clear ho;refine bU (t:=((nh ml) !=0)) (hF.g 0 rfl) (fun KB=>?_) (fun KB=>?_)
  ·skip
   replace hF:=hF.tl;have hres:jO b ml ss ms=nh ml:=by unfold jO;rw[if_neg (by rw[Ec];simp),if_pos KB]
   replace hF:=hF.del 2;simp only[m5,cG,reduceIte] at hF;refine jM ⟨[],[],[],[]⟩ [(2,ah ag (nh ml))] hF hF trivial trivial ?_;intro a W ho hF;replace HB:=HB.tr ho;replace K1:=aL K1 ho;clear ho;refine fR ?_;show dK aq Tryz.f72 (fun e w'=>e=aJ (ah ag (jO b ml ss ms))∧az w.heap.size w w') dQ a W;exact bg (bO rfl _ _ _) hF.defers ⟨congrArg aJ (((hF.g 0 rfl):a.eval (aK 2)=ah ag (nh ml)).trans (congrArg _ hres.symm)),HB⟩
  ·skip
   replace hF:=hF.tl;refine eV ?_;show bZ aq _ _ _ _;refine eZ ?_;refine jM ⟨[],[(3,ah ag (jz b ss))],[(B1,(b.cells (ae p1 ml.length c1) (ae p2 ss.length c2) (ae p3 ms.length c3)))],[]⟩ [(5,ah ag (jz b ss))] hF hF ⟨fun w1 hS=>⟨_,_,aL K1 hS⟩,trivial⟩ ⟨fun w1 hS _=>gc (args:=#[aO (b.cells (ae p1 ml.length c1) (ae p2 ss.length c2) (ae p3 ms.length c3)),ae p2 ss.length c2]) (FI b (ae p1 ml.length c1) (ae p2 ss.length c2) (ae p3 ms.length c3) _ _ ss (by omega) w1 (hu.below (HB.tr hS))),trivial⟩ ?_;intro a W ho hF;replace HB:=HB.tr ho;replace K1:=aL K1 ho;clear ho;refine jM ⟨[],[],[],[]⟩ [(22,aG ((jz b ss) !=0))] hF hF trivial trivial ?_;intro a W ho hF;replace HB:=HB.tr ho;replace K1:=aL K1 ho;clear ho;refine bU (t:=((jz b ss) !=0)) (hF.g 0 rfl) (fun Zi=>?_) (fun Zi=>?_)
   ·skip
    replace hF:=hF.tl;have hres:jO b ml ss ms=jz b ss:=by unfold jO;rw[if_neg (by rw[Ec];simp),if_neg (by rw[KB];simp),if_pos Zi]
    replace hF:=hF.del 2;simp only[m5,cG,reduceIte] at hF;refine jM ⟨[],[],[],[]⟩ [(2,ah ag (jz b ss))] hF hF trivial trivial ?_;intro a W ho hF;replace HB:=HB.tr ho;replace K1:=aL K1 ho;clear ho;refine fR ?_;show dK aq Tryz.f72 (fun e w'=>e=aJ (ah ag (jO b ml ss ms))∧az w.heap.size w w') dQ a W;exact bg (bO rfl _ _ _) hF.defers ⟨congrArg aJ (((hF.g 0 rfl):a.eval (aK 2)=ah ag (jz b ss)).trans (congrArg _ hres.symm)),HB⟩
   ·skip
    replace hF:=hF.tl;have hh:jO b ml ss ms=sU b ms:=by unfold jO;rw[if_neg (by rw[Ec];simp),if_neg (by rw[KB];simp),if_neg (by rw[Zi];simp)]
    refine eV ?_;show bZ aq _ _ _ _;refine eZ ?_;refine jM ⟨[],[],[(B1,(b.cells (ae p1 ml.length c1) (ae p2 ss.length c2) (ae p3 ms.length c3)))],[]⟩ [(27,aG (decide ((ms.length:Int)>3)))] hF hF ⟨fun w1 hS=>⟨_,_,aL K1 hS⟩,trivial⟩ trivial ?_;intro a W ho hF;replace HB:=HB.tr ho;replace K1:=aL K1 ho;clear ho;refine bU (t:=(decide ((ms.length:Int)>3))) (hF.g 0 rfl) (fun Zg=>?_) (fun Zg=>?_)
    ·skip
     replace hF:=hF.tl;have hres:jO b ml ss ms=2:=by rw[hh];unfold sU;rw[if_pos (by simpa using Zg)]
     replace hF:=hF.del 2;simp only[m5,cG,reduceIte] at hF;refine jM ⟨[],[],[],[]⟩ [(2,ah ag 2)] hF hF trivial trivial ?_;intro a W ho hF;replace HB:=HB.tr ho;replace K1:=aL K1 ho;clear ho;refine fR ?_;show dK aq Tryz.f72 (fun e w'=>e=aJ (ah ag (jO b ml ss ms))∧az w.heap.size w w') dQ a W;exact bg (bO rfl _ _ _) hF.defers ⟨congrArg aJ (((hF.g 0 rfl):a.eval (aK 2)=ah ag 2).trans (congrArg _ hres.symm)),HB⟩
    ·skip
     replace hF:=hF.tl;have h3:¬(ms.length:Int)>3:=by simpa using Zg
     refine eV ?_;show bZ aq _ _ _ _;refine eZ ?_;refine jM ⟨[],[],[],[]⟩ [(6,ah ag 0)] hF hF trivial trivial ?_;intro a W ho hF;replace HB:=HB.tr ho;replace K1:=aL K1 ho;clear ho;refine l9 ?_;refine wp_loop (fun a W=>∃k:Nat,k≤ms.length∧(∀i,i<k→nL b ms i=0)∧iV 52 a [(6,ah ag (k:Nat)),(1,bp (some ⟨B1,0,none⟩)),(0,aO (b.cells (ae p1 ml.length c1) (ae p2 ss.length c2) (ae p3 ms.length c3)))]∧az w.heap.size w W∧W.heap[B1]?=some (au (b.cells (ae p1 ml.length c1) (ae p2 ss.length c2) (ae p3 ms.length c3)) 28 (0,0))) (fun a _=>ms.length-(intOf (a.eval (aK 6))).toNat) ⟨0,by omega,fun i hi=>by omega,⟨hF.size,hF.defers,(by obtain⟨b6,-,-,-,-,b1,b0,-⟩:=hF.base;exact⟨b6,b1,b0,trivial⟩)⟩,HB,K1⟩ ?_;clear hF HB K1
     try clear a
     try clear W
     rintro a W ⟨k,sI,ox,hF,HB,K1⟩;have hk6:a.eval (aK 6)=ah ag (k:Nat):=(hF.g 0 rfl)
     refine eZ ?_;refine jM ⟨[],[],[(B1,(b.cells (ae p1 ml.length c1) (ae p2 ss.length c2) (ae p3 ms.length c3)))],[]⟩ [(32,aG (decide ((k:Int)<(ms.length:Int))))] hF hF ⟨fun w1 hS=>⟨_,_,aL K1 hS⟩,trivial⟩ trivial ?_;intro a W ho hF;replace HB:=HB.tr ho;replace K1:=aL K1 ho;clear ho;refine bU (t:=(decide ((k:Int)<(ms.length:Int)))) (hF.g 0 rfl) (fun KA=>?_) (fun KA=>?_)
     ·skip
      replace hF:=hF.tl;have xr:k<ms.length:=by simpa using KA
      obtain⟨g,off,rfl,hM⟩:=HC.out k xr;have CM:=hM.below HB;clear hM;obtain⟨m,hm⟩:∃m,Ib ms k=m:=⟨_,rfl⟩
      have hw1:IntKind.i64.wrap ((k:Int)+1)=(k:Int)+1:=by rw[bY];omega
      refine eV ?_;show bZ aq _ _ _ _;refine eZ ?_;refine l9 ?_;refine eZ ?_
      refine OS (by kernel_rfl) [pV (aO (b.cells (ae p1 ml.length c1) (ae p2 ss.length c2) (ae (some ⟨g,off,none⟩) ms.length c3))),pV (bp (some ⟨B1,14,none⟩)),pV (ae (some ⟨g,off,none⟩) ms.length c3),pV (ah ag (k:Nat)),pV (bp (some ⟨g,off+k*3,none⟩)),pV (bp (some ⟨g,off+k*3,none⟩)),pV (ah ag m.minute),pV (aG (aQ m.minute 1 b.minutes)),pV (aG (!(aQ m.minute 1 b.minutes)))]
       _ (by kernel_rfl) hF.size hF.base ?_ ?_ ?_
      ·exact⟨sV,sV,sV,sV,sV,sV,sV,sV,sV,trivial⟩
      ·refine⟨?_,?_,?_,?_,?_,?_,?_,?_,?_,trivial⟩<;>rintro ev w1 hS hc hg hf ⟨b6,b1,-,-⟩ hd
       all_goals try
        try have d0:ev (aK _)=_:=hd.1 rfl
        clear hd;refine yw rfl ?_ rfl;go_simp;done
       ·clear hd;have mN:=aL K1 hS;exact Il 28 rfl b1 mN cB rfl (by kernel_rfl) (rfl)
       ·have d1:ev (aK 36)=_:=hd.1 rfl;clear hd;have z:=aH (aL K1 hS) 14 _ rfl;exact tV
       ·have d2:ev (aK 37)=_:=hd.1 rfl;have d3:ev (aK 38)=_:=hd.2.1 rfl;clear hd;have E7:¬(ms.length≤k):=by omega
        exact tV
       ·have d5:ev (aK 40)=_:=hd.1 rfl;clear hd;obtain⟨z1,z2,z3⟩:=(NG.below CM hS).2 k (by omega);rw[hm] at z1 z2 z3;exact tV
       ·have d0:ev (aK 35)=_:=hd.1 rfl;have d6:ev (aK 41)=_:=hd.2.1 rfl;clear hd;refine yc (ri b (ae p1 ml.length c1) (ae p2 ss.length c2) (ae (some ⟨g,off,none⟩) ms.length c3) m.minute w1) ?_ (fun _=>rfl);go_simp
      intro a W hR;have ho:=hR.s;replace HB:=HB.tr ho;replace K1:=aL K1 ho;replace CM:=CM.below ho;replace hF:=(hR.fr hF (by kernel_rfl)).cons (t:=43) (hR.val 8 (by decide));clear hR ho;refine bU (t:=(!(aQ m.minute 1 b.minutes))) (hF.g 0 rfl) (fun VT=>?_) (fun VT=>?_)
      ·skip
       replace hF:=hF.tl;have h6:nL b ms k=6:=by unfold nL;rw[hm,if_pos VT]
       have hres:jO b ml ss ms=6:=hh.trans ((Gl k h3 xr ox (by rw[h6];decide)).trans h6);refine jM ⟨[],[],[],[]⟩ [(2,ah ag 6)] hF hF trivial trivial ?_;intro a W ho hF;replace HB:=HB.tr ho;replace K1:=aL K1 ho;replace CM:=CM.below ho;clear ho;refine fR ?_;show dK aq Tryz.f72 (fun e w'=>e=aJ (ah ag (jO b ml ss ms))∧az w.heap.size w w') dQ a W;exact bg (bO rfl _ _ _) hF.defers ⟨congrArg aJ (((hF.g 0 rfl):a.eval (aK 2)=ah ag 6).trans (congrArg _ hres.symm)),HB⟩
      ·skip
       replace hF:=hF.tl;refine eV ?_;show bZ aq _ _ _ _
       refine nv [pV (bp (some ⟨B1,14,none⟩)),pV (ae (some ⟨g,off,none⟩) ms.length c3),pV (ah ag (k:Nat)),pV (bp (some ⟨g,off+k*3,none⟩)),pV (bp (some ⟨g,off+k*3+1,none⟩)),pV (aO #[ah ag m.lo,ah ag m.hi]),pV (aG (bV m.lo m.hi 0 99)),pV (aG (!(bV m.lo m.hi 0 99)))]
        _ (by kernel_rfl) hF.size hF.base ?_ ?_ ?_
       ·exact⟨sV,sV,sV,sV,sV,sV,sV,sV,trivial⟩
       ·refine⟨?_,?_,?_,?_,?_,?_,?_,?_,trivial⟩<;>rintro ev w1 hS hc hg hf ⟨b6,b1,-,-⟩ hd
        all_goals try
         try have d0:ev (aK _)=_:=hd.1 rfl
         clear hd;refine yw rfl ?_ rfl;go_simp;done
        ·have d0:ev (aK 44)=_:=hd.1 rfl;clear hd;have z:=aH (aL K1 hS) 14 _ rfl;exact tV
        ·have d1:ev (aK 45)=_:=hd.1 rfl;have d2:ev (aK 46)=_:=hd.2.1 rfl;clear hd;have E7:¬(ms.length≤k):=by omega
         exact tV
        ·have d4:ev (aK 48)=_:=hd.1 rfl;clear hd;obtain⟨z1,z2,z3⟩:=(NG.below CM hS).2 k (by omega);rw[hm] at z1 z2 z3;exact tV
        ·have d5:ev (aK 49)=_:=hd.1 rfl;clear hd;refine yc (qN m.lo m.hi 0 99 w1) ?_ (fun _=>rfl);go_simp
       intro a W hR;have ho:=hR.s;replace HB:=HB.tr ho;replace K1:=aL K1 ho;replace CM:=CM.below ho;replace hF:=(hR.fr hF (by kernel_rfl)).cons (t:=51) (hR.val 7 (by decide));clear hR ho;refine bU (t:=(!(bV m.lo m.hi 0 99))) (hF.g 0 rfl) (fun Zb=>?_) (fun Zb=>?_)
       ·skip
        replace hF:=hF.tl;have h1:nL b ms k=1:=by unfold nL;rw[hm,if_neg (by rw[VT];simp),if_pos Zb]
        have hres:jO b ml ss ms=1:=hh.trans ((Gl k h3 xr ox (by rw[h1];decide)).trans h1);refine jM ⟨[],[],[],[]⟩ [(2,ah ag 1)] hF hF trivial trivial ?_;intro a W ho hF;replace HB:=HB.tr ho;replace K1:=aL K1 ho;replace CM:=CM.below ho;clear ho;refine fR ?_;show dK aq Tryz.f72 (fun e w'=>e=aJ (ah ag (jO b ml ss ms))∧az w.heap.size w w') dQ a W;exact bg (bO rfl _ _ _) hF.defers ⟨congrArg aJ (((hF.g 0 rfl):a.eval (aK 2)=ah ag 1).trans (congrArg _ hres.symm)),HB⟩
       ·skip
        replace hF:=hF.tl;have hz:nL b ms k=0:=by unfold nL;rw[hm,if_neg (by rw[VT];simp),if_neg (by rw[Zb];simp)]
        refine eV ?_;show bZ aq _ _ _ _;have qA:=hF;replace hF:=hF.tl;refine OT ⟨[],[(1,ah ag ((k:Nat)+1))],[],[]⟩ [(6,ah ag ((k:Nat)+1))] qA hF trivial ⟨fun w1 hS _=>ge (congrArg (aD ag) (show IntKind.i64.wrap ((k:Nat)+1)=((k:Nat)+1) by rw[bY];omega)),trivial⟩ ?_;intro a W ho hF;clear qA;replace HB:=HB.tr ho;replace K1:=aL K1 ho;replace CM:=CM.below ho;clear ho;refine⟨⟨k+1,by omega,fun i hi=>if hik:i<k then ox i hik else by have e:i=k:=(by omega);rw[e];exact hz,⟨hF.size,hF.defers,hF.base⟩,HB,K1⟩,?_⟩;rw[show a.eval (aK 6)=ah ag ((k:Nat)+1) from(hF.g 0 rfl)];simp only[hk6];simp[intOf];omega
     ·skip
      replace hF:=hF.tl;refine wp_exit ?_;have Tb:k=ms.length:=by simp at KA;omega
      have hres:jO b ml ss ms=0:=hh.trans (J8 h3 fun i hi=>ox i (by omega));show bZ aq _ _ a W;show bZ aq _ _ _ _;refine jM ⟨[],[],[],[]⟩ [(2,ah ag 0)] hF hF trivial trivial ?_;intro a W ho hF;replace HB:=HB.tr ho;replace K1:=aL K1 ho;clear ho;refine fR ?_;show dK aq Tryz.f72 (fun e w'=>e=aJ (ah ag (jO b ml ss ms))∧az w.heap.size w w') dQ a W;exact bg (bO rfl _ _ _) hF.defers ⟨congrArg aJ (((hF.g 0 rfl):a.eval (aK 2)=ah ag 0).trans (congrArg _ hres.symm)),HB⟩
def KN(b:BB)(ml:List Mn)(ss:List Int)(ms:List Mk):Bool:=(!(iN ml ss ms))&&(jO b ml ss ms==0)
theorem Qv{ml:List Mn}{ss:List Int}{ms:List Mk}(h:iN ml ss ms=false):ml.length≤20∧ss.length≤20:=by
 unfold iN IP at h;simp at h;omega
theorem Wb(b:BB)(p1 p2 p3:Option cU)(c1 c2 c3:Nat)(ml:List Mn)(ss:List Int)(ms:List Mk)(w:ar)(hv:Reads w (ae p1 ml.length c1) ml.length (fF ml))(hu:Reads w (ae p2 ss.length c2) ss.length (ss.map (aD ag)))(hk3:Reads w (ae p3 ms.length c3) ms.length (dm ms)):bm aq 29 #[aO (b.cells (ae p1 ml.length c1) (ae p2 ss.length c2) (ae p3 ms.length c3))] w fun e w'=>e=aF (aG (KN b ml ss ms))∧az w.heap.size w w':=by
 refine jU Tryz.func29 rfl ?_;have hF:=ki (args:=#[aO (b.cells (ae p1 ml.length c1) (ae p2 ss.length c2) (ae p3 ms.length c3))]) (n:=11) (by simp) [(0,aO (b.cells (ae p1 ml.length c1) (ae p2 ss.length c2) (ae p3 ms.length c3)))] ⟨mO rfl,trivial⟩;rw[show Tryz.f29.ntmps=11 from rfl];generalize (⟨#[aO (b.cells (ae p1 ml.length c1) (ae p2 ss.length c2) (ae p3 ms.length c3))]++aT (11-(#[aO (b.cells (ae p1 ml.length c1) (ae p2 ss.length c2) (ae p3 ms.length c3))]:Array aj).size) af,[]⟩:Act)=a at *;refine(fun h:∀W,az w.heap.size w W→bZ aq _ _ a W=>h w (aw _ _)) ?_;intro W HB
 refine nv [fun v ds w9=>∃B,v=pv B 0∧w9.heap[B]?=some (au (b.cells (ae p1 ml.length c1) (ae p2 ss.length c2) (ae p3 ms.length c3)) 28 (0,0)),pV (aG false)]
  _ (by kernel_rfl) hF.size hF.base ?_ ?_ ?_
 ·refine⟨?_,sV,trivial⟩
  ·rintro v ds w1 w2 hS ⟨B,h1,h2⟩ hb;exact⟨B,h1,aL h2 hb⟩
 ·refine⟨?_,?_,trivial⟩<;>rintro ev w1 hS hc hg hf ⟨b0,-⟩ hd
  ·clear hd;refine Lag.Yields.value (v:=pv w1.heap.size 0) (w':=w1.alloc (au (b.cells (ae p1 ml.length c1) (ae p2 ss.length c2) (ae p3 ms.length c3)) 28)) ?_ ⟨⟨_,rfl,ay _ _⟩,cA ((aw _ _).alloc (ax _) _)⟩;go_simp
  ·clear hd;exact tV
 intro a W hR;have ho:=hR.s;obtain⟨B1,e1,K1⟩:=hR.val 0 (by decide);replace e1:a.eval (aK 1)=bp (some ⟨B1,0,none⟩):=e1;replace HB:=HB.tr ho;replace hF:=((hR.fr hF (by kernel_rfl)).cons (t:=1) e1).cons (t:=2) (hR.val 1 (by decide));clear hR ho e1;replace hF:=hF.tl
 refine nv [pV (aO (b.cells (ae p1 ml.length c1) (ae p2 ss.length c2) (ae p3 ms.length c3))),pV (aG (iN ml ss ms)),pV (aG (!(iN ml ss ms))),pV (aG (!(iN ml ss ms))),pC (!(iN ml ss ms)) (aO (b.cells (ae p1 ml.length c1) (ae p2 ss.length c2) (ae p3 ms.length c3))),pC (!(iN ml ss ms)) (ah ag (jO b ml ss ms)),pC (!(iN ml ss ms)) (aG ((jO b ml ss ms)==0)),pV (aG ((!(iN ml ss ms))&&((jO b ml ss ms)==0))),pV (aG ((!(iN ml ss ms))&&((jO b ml ss ms)==0)))]
  _ (by kernel_rfl) hF.size hF.base ?_ ?_ ?_
 ·exact⟨sV,sV,sV,sV,sC,sC,sC,sV,sV,trivial⟩
 ·refine⟨?_,?_,?_,?_,?_,?_,?_,?_,?_,trivial⟩<;>rintro ev w1 hS hc hg hf ⟨b1,-,-⟩ hd
  all_goals try
   try have d0:ev (aK _)=_:=hd.1 rfl
   clear hd;refine yw rfl ?_ rfl;go_simp;done
  ·clear hd;have mN:=aL K1 hS;exact Il 28 rfl b1 mN cB rfl (by kernel_rfl) (rfl)
  ·have d0:ev (aK 3)=_:=hd.1 rfl;clear hd;refine yc (args:=#[aO (b.cells (ae p1 ml.length c1) (ae p2 ss.length c2) (ae p3 ms.length c3))]) (Qw b _ _ _ _ _ _ ml ss ms w1 (hv.below (HB.tr hS))) ?_ (fun _=>rfl);go_simp
  ·have d3:ev (aK 6)=_:=hd.1 rfl;clear hd;refine gC d3 xV fun hA=>?_;have mN:=aL K1 hS;exact Il 28 rfl b1 mN cB rfl (by kernel_rfl) (fun _=>rfl)
  ·have d4:_→ev (aK 7)=_:=hd.1 rfl;have d3:ev (aK 6)=_:=hd.2.1 rfl;clear hd;refine gC d3 xV fun hA=>?_;have y4:=d4 hA;refine yc (args:=#[aO (b.cells (ae p1 ml.length c1) (ae p2 ss.length c2) (ae p3 ms.length c3))]) (JV b _ _ _ _ _ _ ml ss ms (Qv (ms:=ms) (by revert hA;cases iN ml ss ms<;>simp)) w1 (hv.below (HB.tr hS)) (hu.below (HB.tr hS)) (hk3.below (HB.tr hS))) ?_ (fun _=>fun _=>rfl);go_simp
  ·have d5:_→ev (aK 8)=_:=hd.1 rfl;have d3:ev (aK 6)=_:=hd.2.1 rfl;clear hd;refine gC d3 xV fun hA=>?_;have y5:=d5 hA;refine yv ?_ (fun _=>rfl);go_simp
  ·have d3:ev (aK 6)=_:=hd.1 rfl;have d6:_→ev (aK 9)=_:=hd.2.1 rfl;clear hd;exact yA rfl hc d3 (fun hq=>d6 (by simp[hq])) (rfl)
 intro a W hR;have ho:=hR.s;replace HB:=HB.tr ho;replace K1:=aL K1 ho;replace hF:=(hR.fr hF (by kernel_rfl)).cons (t:=2) (hR.val 8 (by decide));clear hR ho;refine fR ?_;show dK aq Tryz.f29 (fun e w'=>e=aJ (aG (KN b ml ss ms))∧az w.heap.size w w') dQ a W;exact bg (bO rfl _ _ _) hF.defers ⟨congrArg aJ (((hF.g 0 rfl):a.eval (aK 2)=aG ((!(iN ml ss ms))&&((jO b ml ss ms)==0))).trans rfl),HB⟩
theorem KG{l:List Int}{i:Nat}(h:i<l.length):l.getD i 0=l[i]:=by simp[h]
theorem Gz{f:Nat→Int}{n:Nat}{c:Int}(h:(((aU n).map f).find? fun h=>h !=0).getD c=0):(∀i,i<n→f i=0)∧c=0:=by
 cases e:((aU n).map f).find? (fun h=>h !=0) with
 |none=>
  rw[e] at h;rw[List.find?_eq_none] at e;refine⟨fun i hi=>?_,h⟩;have:=e _ (dc.2 ⟨i,bB.2 hi,rfl⟩);simpa using this
 |some x=>
  rw[e] at h;have:=List.find?_some e;simp at h this;exact absurd h this
theorem QU{b:BB}(h:lT b=0):b.Ok:=by
 unfold lT at h;have h1:BX b=false:=by cases e:BX b<;>simp_all
 have h2:EP b=false:=by cases e:EP b<;>simp_all
 have h3:GU b=false:=by cases e:GU b<;>simp_all
 unfold BX aQ at h1;unfold EP aQ at h2;unfold GU bV at h3;simp at h1 h2 h3;constructor<;>omega
theorem PN{b:BB}{ss:List Int}(h:jz b ss=0):js b ss:=by
 unfold jz at h;obtain⟨h1,h2⟩:=Gz h
 have hc:(ss.length:Int)≤b.eT:=by
  refine Int.not_lt.1 fun h'=>?_;rw[if_pos h'] at h2;cases h2
 have hk:∀i (hi:i<ss.length),(1≤ss[i]∧ss[i]≤b.minutes)∧¬(0<i∧ss[i]≤ss.getD (i-1) 0):=by
  intro i hi;have:=h1 i hi;unfold nI at this;rw[KG hi] at this;cases e:aQ ss[i] 1 b.minutes with
  |false=>rw[e] at this;simp at this
  |true=>
   refine⟨gb.1 e,fun h'=>?_⟩;rw[e,if_neg (by simp),if_pos h'] at this;cases this
 refine⟨fun p hp=>?_,fun k qy=>?_,hc⟩
 ·obtain⟨i,hi,rfl⟩:=ji hp;exact(hk i hi).1
 ·have:=(hk (k+1) qy).2;rw[show k+1-1=k from rfl,KG (by omega)] at this;omega
theorem Mz{b:BB}{ms:List Mk}(h:sU b ms=0):jF b ms:=by
 unfold sU at h
 have h3:(ms.length:Int)≤3:=by
  refine Int.not_lt.1 fun h'=>?_;rw[if_pos h'] at h;cases h
 rw[if_neg (by omega)] at h;obtain⟨h1,-⟩:=Gz h;refine⟨fun m hm=>?_,by omega⟩;obtain⟨i,hi,rfl⟩:=ji hm;have:=h1 i hi;unfold nL at this;rw[J7 ms i hi] at this;cases e:aQ ms[i].minute 1 b.minutes with
 |false=>rw[e] at this;simp at this
 |true=>
  rw[e,if_neg (by simp)] at this;cases e2:bV ms[i].lo ms[i].hi 0 99 with
  |false=>rw[e2] at this;simp at this
  |true=>
   have e:=gb.1 e;unfold bV at e2;simp at e2;omega
theorem ZH{b:BB}{ml:List Mn}{ss:List Int}{ms:List Mk}(h:KN b ml ss ms=true):b.Ok∧wQ ml∧js b ss∧jF b ms:=by
 unfold KN at h;rw[aC] at h;have h:=h.2;unfold jO at h
 have h1:lT b=0:=by
  refine eO fun hn=>?_;rw[if_pos (by simpa using hn)] at h;simp at h;exact hn h
 rw[h1,if_neg (by simp)] at h
 have h2:nh ml=0:=by
  refine eO fun hn=>?_;rw[if_pos (by simpa using hn)] at h;simp at h;exact hn h
 rw[h2,if_neg (by simp)] at h
 have h3:jz b ss=0:=by
  refine eO fun hn=>?_;rw[if_pos (by simpa using hn)] at h;simp at h;exact hn h
 rw[h3,if_neg (by simp)] at h;exact⟨QU h1,Sx h2,PN h3,Mz (by simpa using h)⟩
end Go.Proofs.YtffladgmkiimjaaGreatDoor
