/- append IN A DRAWN REGION: onto a slice of one's own, onto a fresh empt .. -/
import Derived.Test.YtffladgmkiimjaaGreatDoorW01
import Derived.Laws.AppendOwn
import Derived.Laws.OwnMore
import Derived.Test.YtffladgmkiimjaaGreatDoorW02
import Derived.Test.YtffladgmkiimjaaGreatDoorW00
set_option linter.all false
set_option maxHeartbeats 100000000
set_option maxRecDepth 1000000
open Array renaming replicate → aT,getElem?_eq_some_iff → ak
open Bool renaming and_eq_true → aC
open Go renaming Program → aI,TypeId → aX,undef → af,Value → aj,World → ar,Operand → bE,results_tmp → bO,wp_cond_split → bU,execOp → bX,bodyPost_ret → bg,Calls → bm,Oper → cz,bodyPost → dK,wp_ret → fR,Act → iR,maxLen → jB,yielded → jR,calls_of_wp → jU,Tmp → kz,bytes → rJ
open Go.Addr renaming add → lG
open Go.Builtin renaming append_ → j6
open Go.Code renaming wp → bZ
open Go.Ending renaming returned → aF,returned → aJ
open Go.Exit renaming ret → dQ
open Go.IntKind renaming i64 → ag
open Go.Lib renaming hid → ai
open Go.Obj renaming cells → au
open Go.Operand renaming tmp → aK
open Go.Proofs.Tryz renaming prog → aq,underlying122 → iH
open Go.Region renaming wanted → cF
open Go.Result renaming andThen_ok → A0
open Go.RowKit renaming Below → az,Hid → ld
open Go.RowKit.Below renaming heap_alloc → aS,refl → aw,heap_setCell → bj
open Go.Value renaming int → aD,bool → aG,agg → aO,slice → ae,int → ah,pointer → bp,oneCell' → cj,ownBlock → iY
open Go.World renaming alloc_heap_new → ay,ownsRow_nil → dM,size_alloc → dU
open List renaming range → aU,all_eq_true → aW,eq_nil_of_length_eq_zero → aY,mem_range → bB,mem_cons_of_mem → bI,range' → bS,map_cons → cK,length_pos_iff → cX,length_map → dI,drop_eq_getElem_cons → dN,mem_map → dc,map_append → fD,map_nil → fO,getD_cons_zero → fS,getD_cons_succ → fT,size_toArray → jv,range_eq_range' → mA,map → nt,length_append → pz
open List.cons renaming injEq → zP
open List.range renaming loop → bT
open Nat renaming le_trans → aN,le_refl → ax,lt_of_lt_of_le → bz,zero_add → cZ,eq_of_beq_eq_true → gS,zero_le → iB
open Option.some renaming inj → bf,injEq → gq
open Or renaming inl → cA
open Prod.mk renaming injEq → iq
namespace Go.Lag
open Go Go.RowKit
theorem Yields.qq{P:aI}{o:cz}{ev:bE→aj}{w:ar}{R:aj→ar→Prop}(s x:bE)(t:aX)(ho:o.op=.call { callee:=.builtin .append,args:=#[s,x],argTypes:=#[t,t] })
  (base:Nat) (e:aX) (i:TypeInfo) (z:aj) (size rJ:Nat) (ht:P.underlying t=some (.slice e)) (hi:P.info? e=some i) (hz:i.zero=some z) (hsize:i.size=size) (hby:i.bytes=rJ) (hzs:z.cells.size=size) (hsz:0<size)
  (v:aj) (n:Nat) (xs:List aj) (hs:ev s=v) (hown:w.ownsRow base e size v n xs) (ad:Addr) (m c:Nat) (news:List aj) (hx:ev x=.slice (some ad) m c) (hl:news.length=m*size) (hnews:∀j u,news[j]?=some u→w.cell? (ad.add j)=some u) (h1:∀u∈news,u.oneCell'=true)
  (h63:n+m≤jB) (hbytes:(n+m)*rJ≤140737488355328) (hbase:base≤w.heap.size)
  (h:∀v' w',w'.ownsRow base e size v' (n+m) (xs++news)→w.grownBy w' v.ownBlock→(v'=.slice none 0 0↔v=.slice none 0 0∧m=0)→R v' w'):Lag.Yields P o ev w R:=by
 obtain⟨v',w',hr,h2,h3,h4⟩:=run_append_own (P:=P) w base t o.type e i z size rJ ht hi hz hsize hby hzs hsz v n xs hown ad m c news hl hnews h1 h63 hbytes hbase;refine Lag.Yields.value (v:=v') (w':=w') ?_ (h v' w' h2 h3 h4);unfold bX;simp only[ho,resolve,invoke,builtin,Sem.run_bind,Sem.run_pure,A0,List.map_toArray,cK,fO,hs,hx,hr]
def Src(w:ar)(sv:aj)(m:Nat)(news:List aj):Prop:=
 (sv=.slice none 0 0∧m=0∧news=[])∨∃ad c,sv=.slice (some ad) m c∧∀j u,news[j]?=some u→w.cell? (ad.add j)=some u
section
variable{P:aI}{o:cz}{ev:bE→aj}{w:ar}{R:aj→ar→Prop}
theorem Dj(base:Nat)(t ty e:aX)(i:TypeInfo)(z:aj)(size rJ:Nat)(ht:P.underlying t=some (.slice e))(hi:P.info? e=some i)(hz:i.zero=some z)
  (hsize:i.size=size) (hby:i.bytes=rJ) (hzs:z.cells.size=size) (hsz:0<size)
  (v:aj) (n:Nat) (xs:List aj) (hown:w.ownsRow base e size v n xs) (sv:aj) (m:Nat) (news:List aj) (hl:news.length=m*size) (DX:Src w sv m news) (h1:∀u∈news,u.oneCell'=true)
  (h63:n+m≤jB) (hbytes:(n+m)*rJ≤140737488355328) (hbase:base≤w.heap.size) :
  ∃v' w',(j6 #[t,t] ty #[v,sv]).run P w=.ok v' w'∧w'.ownsRow base e size v' (n+m) (xs++news)∧w.grownBy w' v.ownBlock:=by
 rcases DX with⟨rfl,rfl,rfl⟩|⟨ad,c,rfl,hnews⟩
 ·refine⟨v,w,run_append_owned_none w base t ty e i size ht hi v n xs hown,by simpa using hown,rfl,rfl,rfl,ax _,fun _ _ _=>rfl⟩
 ·obtain⟨v',w',h2,h3,h4,_⟩:=run_append_own (P:=P) w base t ty e i z size rJ ht hi hz hsize hby hzs hsz v n xs hown ad m c news hl hnews h1 h63 hbytes hbase;exact⟨v',w',h2,h3,h4⟩
theorem Jd{w':ar}{v':aj}(base:Nat)(t ty e:aX)(i:TypeInfo)(z:aj)(size rJ:Nat)(ht:P.underlying t=some (.slice e))(hi:P.info? e=some i)(hz:i.zero=some z)(hsize:i.size=size)(hby:i.bytes=rJ)
  (v:aj) (n:Nat) (xs:List aj) (hown:w.ownsRow base e size v n xs) (sv:aj) (m:Nat) (news:List aj) (hl:news.length=m*size) (DX:Src w sv m news) (h1:∀u∈news,u.oneCell'=true)
  (h63:n+m≤jB) (hbytes:(n+m)*rJ≤140737488355328) (hr:(j6 #[t,t] ty #[v,sv]).run P w=.ok v' w') :
  ∀ {b2:Nat} {u:aj} {n2:Nat} {ys:List aj},n2≤n→w.ownsRow b2 e size u n2 ys→w'.ownsRow b2 e size u n2 ys:=by
 intro b2 u n2 ys ye hu;subst hsize;subst hby;have YG:n+m≤9223372036854775807:=by simp only[jB] at h63;omega
 rcases DX with⟨rfl,rfl,rfl⟩|⟨ad,c,rfl,hnews⟩
 ·have h2:=run_append_owned_none w base t ty e i i.size ht hi v n xs hown;rw[h2] at hr;cases hr;exact hu
 have grow:∀(o:Obj),(w.drew.alloc o).ownsRow b2 e i.size u n2 ys:=fun o=>by
  refine⟨hu.1,?_⟩;rcases hu.2 with h|⟨g,cap,cur,h2,h3,h4,h5⟩
  ·exact .inl h
  ·exact .inr ⟨g,cap,cur,h2,h3,(aS w.drew o g (ak.1 h4).1).trans h4,h5⟩
 rcases hown.2 with⟨rfl,rfl⟩|⟨g,cap,cur,rfl,hbg,hg,vT,hcm,hcs,SX⟩
 ·by_cases hm:m=0
  ·subst hm;have hn:news=[]:=aY (by simpa using hl);subst hn
   have h2:(j6 #[t,t] ty #[.slice none 0 0,.slice (some ad) 0 c]).run P w=.ok (.slice none 0 0) w:=by
    simp[j6,run_underlying ht,sizeOf,typeInfo,hi,Builtin.lenOf,Builtin.firstCells,loadCells,loadCellsFrom]
   rw[h2] at hr;cases hr;exact hu
  ·have h2:=run_append_nil (P:=P) w t ty e i z ht hi hz ad m c news hl hnews (by omega) (by omega) (by have hb:=hbytes;simp only[cZ] at hb;omega);rw[h2] at hr;cases hr;exact grow _
 ·by_cases hroom:n+m≤cap
  ·have Ta:n*i.size+news.length≤cur.size:=by rw[hl,hcs,←Nat.add_mul];exact Nat.mul_le_mul_right _ hroom
   have h2:=run_append_room (P:=P) w t ty e i ht hi g n cap cur hg ad m c news hl hnews h1 hroom Ta;rw[h2] at hr;cases hr;refine⟨hu.1,?_⟩;rcases hu.2 with h|⟨g2,ZV,agA,k2,h3,h4,h5,h6,h7,h8⟩
   ·exact .inl h
   ·refine .inr ?_
    by_cases D9:g2=g
    ·subst D9;rw[hg] at h4;cases h4;refine⟨g2,ZV,_,k2,h3,setRow_heap w g2 cur _ e _ hg,h5,h6,?_,?_⟩
     ·rw[←h7];simp only[jv,pz,List.length_take,List.length_drop,Array.length_toList];omega
     ·rw[←h8];have hle:n2*i.size≤n*i.size:=Nat.mul_le_mul_right _ ye;simp only[List.append_assoc];rw[List.take_append_of_le_length (by rw[List.length_take,Array.length_toList];omega),List.take_take,Nat.min_eq_left hle]
    ·exact⟨g2,ZV,agA,k2,h3,(setRow_other w g g2 _ D9).trans h4,h5,h6,h7,h8⟩
  ·have holds:∀j u,xs[j]?=some u→w.cell? ((⟨g,0,none⟩:Addr).add j)=some u:=hown.cells (g:=g) rfl;have h2:=run_append_grow (P:=P) w t ty e i z ht hi hz ⟨g,0,none⟩ n cap xs hown.1 holds ad m c news hl hnews (by omega) (by omega) (growslice_fits (by omega) hbytes);rw[h2] at hr;cases hr;exact grow _
theorem Yields.Nx(s x:bE)(t:aX)(ho:o.op=.call { callee:=.builtin .append,args:=#[s,x],argTypes:=#[t,t] })
  (base:Nat) (e:aX) (i:TypeInfo) (z:aj) (size rJ:Nat) (ht:P.underlying t=some (.slice e)) (hi:P.info? e=some i) (hz:i.zero=some z) (hsize:i.size=size) (hby:i.bytes=rJ) (hzs:z.cells.size=size) (hsz:0<size)
  (v:aj) (n:Nat) (xs:List aj) (hs:ev s=v) (hown:w.ownsRow base e size v n xs) (sv:aj) (m:Nat) (news:List aj) (hx:ev x=sv) (hl:news.length=m*size) (DX:Src w sv m news) (h1:∀u∈news,u.oneCell'=true)
  (h63:n+m≤jB) (hbytes:(n+m)*rJ≤140737488355328) (hbase:base≤w.heap.size)
  (h:∀v' w',w'.ownsRow base e size v' (n+m) (xs++news)→w.grownBy w' v.ownBlock→(∀ {b2:Nat} {u:aj} {n2:Nat} {ys:List aj},n2≤n→w.ownsRow b2 e size u n2 ys→w'.ownsRow b2 e size u n2 ys)→R v' w'):Lag.Yields P o ev w R:=by
 obtain⟨v',w',hr,h2,h3⟩:=Dj (P:=P) (w:=w) base t o.type e i z size rJ ht hi hz hsize hby hzs hsz v n xs hown sv m news hl DX h1 h63 hbytes hbase;refine Lag.Yields.value (v:=v') (w':=w') ?_ (h v' w' h2 h3 (Jd base t o.type e i z size rJ ht hi hz hsize hby v n xs hown sv m news hl DX h1 h63 hbytes hr));unfold bX;simp only[ho,resolve,invoke,builtin,Sem.run_bind,Sem.run_pure,A0,List.map_toArray,cK,fO,hs,hx,hr]
theorem zW(base:Nat)(t ty e:aX)(i:TypeInfo)(z:aj)(size rJ:Nat)(ht:P.underlying t=some (.slice e))(hi:P.info? e=some i)(hz:i.zero=some z)
  (hsize:i.size=size) (hby:i.bytes=rJ) (hzs:z.cells.size=size) (hsz:0<size) (q:Nat) (hq:w.heap[q]?=some (.cells #[] e (0,0))) (hbq:base≤q)
  (sv:aj) (m:Nat) (news:List aj) (hl:news.length=m*size) (DX:Src w sv m news) (h1:∀u∈news,u.oneCell'=true) (h63:m≤jB) (hbytes:m*rJ≤140737488355328) :
  ∃v' w',(j6 #[t,t] ty #[.slice (some ⟨q,0,none⟩) 0 0,sv]).run P w=.ok v' w'∧w'.ownsRow base e size v' m news∧az w.heap.size w w'∧(m=0→v'=.slice (some ⟨q,0,none⟩) 0 0):=by
 have hql:=(ak.1 hq).1;have hown:w.ownsRow base e size (.slice (some ⟨q,0,none⟩) 0 0) 0 []:=⟨by simp,.inr ⟨q,0,#[],rfl,hbq,hq,ax _,iB _,by simp,by simp⟩⟩
 by_cases hm:m=0
 ·subst hm;have hn:news=[]:=aY (by simpa using hl);subst hn;rcases DX with⟨rfl,_,_⟩|⟨ad,c,rfl,hnews⟩
  ·exact⟨_,w,run_append_owned_none w base t ty e i size ht hi _ 0 [] hown,hown,aw _ _,fun _=>rfl⟩
  ·have hr:=run_append_room (P:=P) w t ty e i ht hi q 0 0 #[] hq ad 0 c [] (by simp) hnews h1 (by omega) (by simp)
   have hk:∀k,(w.setRow q (((#[]:Array aj).toList.take (0*i.size)++[]++(#[]:Array aj).toList.drop (0*i.size+([]:List aj).length)).toArray)).heap[k]?=w.heap[k]?:=fun k=>by
    by_cases hkq:k=q
    ·subst hkq;rw[setRow_heap w k #[] _ e (0,0) hq,hq];simp
    ·exact setRow_other w q k _ hkq
   refine⟨_,_,hr,⟨by simp,.inr ⟨q,0,#[],rfl,hbq,(hk q).trans hq,ax _,iB _,by simp,by simp⟩⟩,⟨rfl,rfl,rfl,by simp,fun k _=>hk k⟩,fun _=>rfl⟩
 ·rcases DX with⟨_,h0,_⟩|⟨ad,c,rfl,hnews⟩
  ·exact absurd h0 hm
  ·subst hsize;subst hby;have hr:=run_append_grow (P:=P) w t ty e i z ht hi hz ⟨q,0,none⟩ 0 0 [] (by simp) (fun j u hj=>by simp at hj) ad m c news hl hnews (by omega) (by simp only[jB] at h63;omega) (growslice_fits (by omega) (by simpa using hbytes));have hge:=grownCap_ge w (0+m) 0 e;have hcm:grownCap w (0+m) 0 e≤maxLen:=grownCap_le_maxLen w (0+m) 0 e (by omega);simp only[cZ] at hr hge hcm;refine⟨_,_,hr,⟨by simpa using hl,.inr ⟨w.heap.size,grownCap w m 0 e,_,rfl,by omega,heap_alloc_new w.drew _,by omega,hcm,?_,?_⟩⟩,?_,fun h=>absurd h hm⟩
   ·simp only[Array.size_append,jv,size_zeroCells,hzs,hl,List.length_nil,cZ];rw[←Nat.add_mul]
    congr 1
    omega
   ·simp only[Array.toList_append,List.nil_append];rw[show m*i.size=news.length from hl.symm];exact List.take_left
   ·exact(aw _ _).drew.alloc (ax _) _
theorem Yields.append_empty(s x:bE)(t:aX)(ho:o.op=.call { callee:=.builtin .append,args:=#[s,x],argTypes:=#[t,t] })
  (base:Nat) (e:aX) (i:TypeInfo) (z:aj) (size rJ:Nat) (ht:P.underlying t=some (.slice e)) (hi:P.info? e=some i) (hz:i.zero=some z) (hsize:i.size=size) (hby:i.bytes=rJ) (hzs:z.cells.size=size) (hsz:0<size)
  (q:Nat) (hs:ev s=.slice (some ⟨q,0,none⟩) 0 0) (hq:w.heap[q]?=some (.cells #[] e (0,0))) (hbq:base≤q) (sv:aj) (m:Nat) (news:List aj) (hx:ev x=sv) (hl:news.length=m*size) (DX:Src w sv m news) (h1:∀u∈news,u.oneCell'=true)
  (h63:m≤jB) (hbytes:m*rJ≤140737488355328) (h:∀v' w',w'.ownsRow base e size v' m news→az w.heap.size w w'→(m=0→v'=.slice (some ⟨q,0,none⟩) 0 0)→R v' w'):Lag.Yields P o ev w R:=by
 obtain⟨v',w',hr,h2,h3,h4⟩:=zW (P:=P) (w:=w) base t o.type e i z size rJ ht hi hz hsize hby hzs hsz q hq hbq sv m news hl DX h1 h63 hbytes;refine Lag.Yields.value (v:=v') (w':=w') ?_ (h v' w' h2 h3 h4);unfold bX;simp only[ho,resolve,invoke,builtin,Sem.run_bind,Sem.run_pure,A0,List.map_toArray,cK,fO,hs,hx,hr]
end
end Go.Lag
namespace Go.Proofs.YtffladgmkiimjaaGreatDoor
open Go.RowKit Go.Lag
def gw(ms:List Mk)(l:List Nat):List Mk:=l.filterMap fun i=>ms[i]?
theorem PS(ms:List Mk)(l:List Nat):(gw ms l).length≤l.length:=List.length_filterMap_le _ _
theorem PR{ms:List Mk}{l:List Nat}{m:Mk}(h:m∈gw ms l):m∈ms:=by
 obtain⟨i,_,hi⟩:=List.mem_filterMap.1 h;exact List.mem_of_getElem? hi
theorem Mt(ms:List Mk)(l:List Nat)(j:Nat)(hj:j<ms.length):gw ms (l++[j])=gw ms l++[ms[j]]:=by
 unfold gw;rw[List.filterMap_append];simp[hj]
theorem uN(ms:List Mk)(l:List Nat)(h:∀i∈l,i<ms.length):(gw ms l).length=l.length:=by
 induction l with
 |nil=>rfl
 |cons a l ih=>
  have ha:=h a (by simp);have:=ih fun i hi=>h i (by simp[hi])
  have e:gw ms (a::l)=ms[a]::gw ms l:=by
   unfold gw;rw[List.filterMap_cons];simp[ha]
  rw[e];simp[this]
theorem J1{b:BB}{ms:List Mk}(h:jF b ms){n mask:Nat}(hn:n≤ms.length):jF b (gw ms (cJ n mask)):=
 ⟨fun m hm=>h.mem m (PR hm),by have:=PS ms (cJ n mask);have:=iO n mask;have:=h.len;omega⟩
def jl(b:BB)(ml:List Mn)(ss:List Int)(ms:List Mk)(mask:Nat):Bool:=decide (bn b ml ss (gw ms (cJ ms.length mask))=[])
def xk(b:BB)(ml:List Mn)(ss:List Int)(ms:List Mk)(M:Nat):List (List Int):=((aU M).filter (jl b ml ss ms)).map (dt ms.length)
theorem PZ(b:BB)(ml:List Mn)(ss:List Int)(ms:List Mk)(M:Nat):xk b ml ss ms (M+1)=xk b ml ss ms M++if jl b ml ss ms M then[dt ms.length M] else[]:=by
 unfold xk;rw[List.range_succ,List.filter_append,fD];cases h:jl b ml ss ms M<;>simp[h]
def ub(first:List Int)(more:List (List Int)):List Int:=more.foldl (fun b x=>if fV x b then x else b) first
theorem GQ:∀(more:List VL) (first:VL),(nz first more).2=ub first.2 (more.map (·.2))
 |[],_=>rfl
 |x::more,first=>by
  show(nz (if fV x.2 first.2=true then x else first) more).2=ub (if fV x.2 first.2=true then x.2 else first.2) (more.map (·.2));rw[GQ more]
  by_cases h:fV x.2 first.2=true
  ·rw[if_pos h,if_pos h]
  ·rw[if_neg h,if_neg h]
def kj(b:BB)(ml:List Mn)(ss:List Int)(ms:List Mk):List Int:=
 if bn b ml ss ms≠[] then[] else match xk b ml ss ms (2 ^ ms.length) with|[]=>[]|f::r=>ub f r
theorem QH(n:Nat):cJ n (2 ^ n-1)=aU n:=by
 unfold cJ;rw[List.filter_eq_self];intro i hi;rw[bB] at hi;rw[Nat.testBit_two_pow_sub_one];simp[hi]
theorem PQ(ms:List Mk):gw ms (aU ms.length)=ms:=by
 unfold gw;apply List.ext_getElem?;intro i
 have key:∀k,k≤ms.length→(aU k).filterMap (fun i=>ms[i]?)=ms.take k:=by
  intro k
  induction k with
  |zero=>simp
  |succ k ih=>
   intro hk;rw[List.range_succ,List.filterMap_append,ih (by omega),List.take_succ_eq_append_getElem (by omega)];simp[show k<ms.length by omega]
 rw[key _ (ax _),List.take_length]
theorem Sj{b:BB}{ml:List Mn}{ss:List Int}{ms:List Mk}(h:bn b ml ss ms=[]):xk b ml ss ms (2 ^ ms.length)≠[]:=by
 unfold xk;intro h2;have h3:=List.map_eq_nil_iff.1 h2
 have h4:2 ^ ms.length-1∈(aU (2 ^ ms.length)).filter (jl b ml ss ms):=by
  rw[List.mem_filter];have:0<2 ^ ms.length:=Nat.two_pow_pos _;refine⟨bB.2 (by omega),?_⟩;unfold jl;rw[QH,PQ];simp[h]
 rw[h3] at h4;cases h4
theorem Yx:(Tryz.prog.info? 25).map (fun i=>(i.zero,i.size,i.bytes))=some (some (ae none 0 0),1,24):=by kernel_rfl
theorem Mh(l:List Mk)(m:Mk):dm (l++[m])=dm l++m.cells.toList:=by simp[dm]
structure LG(ob mb:Nat)(bc:aj→Array aj)(V8 NB:aj)(k:Nat)(xs ys:List aj)(mc:Array aj)(wo:ar)(A B C:Bool)(w:ar):Prop where
 Hy:A=false→w.ownsRow (ob+1) 3 1 V8 k xs
 yH:B=false→w.ownsRow (ob+1) 81 3 NB k ys
 Yl:C=false→w.heap[ob]?=some (au (bc NB) 119 (0,0))
 Uw:w.heap[mb]?=some (au mc 81 (0,0))
 below:az ob wo w
 size:ob+1≤w.heap.size
section
variable{ob mb:Nat}{bc:aj→Array aj}{V8 NB:aj}{k:Nat}{xs ys:List aj}{mc:Array aj}{wo w1 w2:ar}{A B C A' B' C':Bool}
theorem LG.next(hA:A'=false→A=false)(hB:B'=false→B=false)(hC:C'=false→C=false)(h:LG ob mb bc V8 NB k xs ys mc wo A B C w1)(hb:az w1.heap.size w1 w2):LG ob mb bc V8 NB k xs ys mc wo A' B' C' w2:=
 ⟨fun e=>cy (h.Hy (hA e)) hb,fun e=>cy (h.yH (hB e)) hb,fun e=>(hb.block _ (by have:=h.size;omega)).trans (h.Yl (hC e)),(hb.block _ (ak.1 h.Uw).1).trans h.Uw,h.below.trans (hb.mono (by have:=h.size;omega)),aN h.size hb.size⟩
theorem LG.agQ(h:LG ob mb bc V8 NB k xs ys mc wo A B C w1)(hA:A=false)(g:w1.grownBy w2 V8.ownBlock)(hB:B'=B)(hC:C'=C):LG ob mb bc V8 NB k xs ys mc wo true B' C' w2:=by
 subst hB;subst hC;have h8:=h.Hy hA;have hm:=(ak.1 h.Uw).1;refine⟨fun e=>(by cases e),fun e=>fY (h.yH e) fun q hq=>g.block q ((h.yH e).lt q hq).2 (yG (h.yH e) h8 (by decide) hq),fun e=>(g.block ob (by have:=h.size;omega) fun hq=>?_).trans (h.Yl e),(g.block mb hm (mE h8 h.Uw (by decide))).trans h.Uw,h.below.grown g (by have:=h.size;omega) fun q hq=>by have:=(h8.lt q hq).1;omega,aN h.size g.size⟩;have:=(h8.lt ob hq.symm).1;omega
theorem LG.adj(h:LG ob mb bc V8 NB k xs ys mc wo A B C w1)(hB:B=false)(g:w1.grownBy w2 NB.ownBlock)(hm:some mb≠NB.ownBlock)(hA:A'=A)(hC:C'=C):LG ob mb bc V8 NB k xs ys mc wo A' true C' w2:=by
 subst hA;subst hC;have h14:=h.yH hB;have S5:=(ak.1 h.Uw).1;refine⟨fun e=>fY (h.Hy e) fun q hq=>g.block q ((h.Hy e).lt q hq).2 (yG (h.Hy e) h14 (by decide) hq),fun e=>(by cases e),fun e=>(g.block ob (by have:=h.size;omega) fun hq=>?_).trans (h.Yl e),(g.block mb S5 hm).trans h.Uw,h.below.grown g (by have:=h.size;omega) fun q hq=>by have:=(h14.lt q hq).1;omega,aN h.size g.size⟩;have:=(h14.lt ob hq.symm).1;omega
theorem LG.drew(h:LG ob mb bc V8 NB k xs ys mc wo A B C w1):LG ob mb bc V8 NB k xs ys mc wo A B C w1.drew:=⟨h.Hy,h.yH,h.Yl,h.Uw,h.below.drew,h.size⟩
theorem Nt{w:ar}{a b:Nat}{x y:Array aj}{t u:aX}(h1:w.heap[a]?=some (au x t (0,0)))(h2:w.heap[b]?=some (au y u (0,0)))(h:t≠u):a≠b:=by
 rintro rfl;rw[h1] at h2;cases h2;exact h rfl
theorem LG.put(h:LG ob mb bc V8 NB k xs ys mc wo A B C w1)(hC:C=false)(hm:mb≠ob)(u:aj)(hA:A'=A)(hB:B'=B):LG ob mb bc V8 NB k xs ys mc wo A' B' true (w1.setCell ⟨ob,14,none⟩ u):=by
 subst hA;subst hB;have ho:=h.Yl hC;exact⟨fun e=>cY (h.Hy e) ho (by decide),fun e=>cY (h.yH e) ho (by decide),fun e=>(by cases e),(bj _ _ _ _ hm).trans h.Uw,h.below.setCell (p:=⟨ob,14,none⟩) (ax _) _,by simpa using h.size⟩
end
theorem LD(b:BB)(men sent marks:aj)(ml:List Mn)(ss:List Int)(ms:List Mk)(w:ar)(hL:Laid w)(hB:cH b men sent marks ml ss ms w) :
  bm aq 50 #[aO (b.cells men sent marks)] w fun e w'=>∃v,e=aF (.tuple #[v,ah ag 0])∧Reads w' v (kj b ml ss ms).length ((kj b ml ss ms).map (aD ag))∧az w.heap.size w w':=by
 have cS:=hB.ok;have hk3:=hB.kG.len;obtain⟨i0,hi,hz0,hz1,hz2⟩:=info_parts info3;obtain⟨i1,E7,Ov,hy1,hy2⟩:=info_parts DW;obtain⟨i2,hi2,hx0,hx1,hx2⟩:=info_parts Yx;obtain⟨pm,cm,rfl,_⟩:=aR hB.rm;obtain⟨pn,cn,rfl,_⟩:=aR hB.rs;obtain⟨pk,ck,rfl,_⟩:=aR hB.rk;have b1:az w.heap.size w (w.alloc (au (b.cells (ae pm ml.length cm) (ae pn ss.length cn) (ae pk ms.length ck)) 28)):=(aw _ _).alloc (ax _) _;have hk:=ay w (au (b.cells (ae pm ml.length cm) (ae pn ss.length cn) (ae pk ms.length ck)) 28);have ug:=ai (eY b _ _ _ ml ss ms _ (hL.below b1) (hB.below b1))
 have HSo:ld (∀(k:aj) (l:List Mk) (r:Bool),decide (bn b ml ss l≠[])=r→jF b l→∀W,az w.heap.size w W→Reads W k l.length (dm l)→bm aq 119 #[aO (b.cells (ae pm ml.length cm) (ae pn ss.length cn) k)] W fun e w'=>e=aF (aG r)∧az W.heap.size W w'):=
  ai fun k l r hr hl W hW hk=>by
   have:=JH b _ _ k ml ss l W ⟨hB.ok,hB.gV,hB.l5,hl,hB.rm.below hW,hB.rs.below hW,hk⟩;rw[hr] at this;exact this
 obtain⟨r,hr⟩:∃r,decide (bn b ml ss ms≠[])=r:=⟨_,rfl⟩
 have HR0:=ai hr;clear hr;have HB:=ai hB;have yg:=ai b1;have HK:=ai hk;have HMo:=ai hB.kG;clear hL hB b1 hk;have HML:=ai (rfl:ml.length=ml.length);generalize ml.length=lm at *;generalize ss.length=ln at *;generalize hlk:ms.length=lk at *;have XU:=ai hlk;clear hlk
 go_enter Tryz.func50,Tryz.ntmps50
 go_wp2_with (first
  |(go_at_call 71;refine ug.out.mono ?_;clear ug;rintro e w1 ⟨rfl,hb1⟩
    have qg:=(hb1.block w.heap.size (by simp)).trans HK.out;obtain⟨x0,x1,x2,x3,x4,x5,x6,x7,x8,x9,nS,nR,oO,n4,oK⟩:=bM qg;have HK1:=ai qg;have hw1:w.heap.size<w1.heap.size:=(ak.1 qg).1;have oX:ld (az w.heap.size w w1):=ai (yg.out.trans (hb1.mono (by simp)))
    clear qg hb1)
  |(go_at_call 119;refine(HSo.out _ ms r HR0.out HMo.out _ (oX.out.alloc (by omega) _) (HB.out.rk.below (oX.out.alloc (by omega) _))).mono ?_;rintro e w2 ⟨rfl,hb2⟩
    have hs2:=hb2.size;simp only[dU] at hs2;have hk2:=(hb2.block w.heap.size (by simp;omega)).trans ((aS w1 (au (b.cells (ae pm lm cm) (ae pn ln cn) (ae pk lk ck)) 119) _ hw1).trans HK1.out);have hx2:=(hb2.block w1.heap.size (by simp)).trans (ay w1 (au (b.cells (ae pm lm cm) (ae pn ln cn) (ae pk lk ck)) 119));have FX:=ai hk2;have HX2:=ai hx2;have o9:ld (az w.heap.size w w2):=ai ((oX.out.alloc (by omega) _).trans (hb2.mono (by simp;omega)));have z14:=aH hk2 14 (ae pk lk ck) rfl;have f14:=cN hk2 14
    clear hk2 hx2 hb2 x0 x1 x2 x3 x4 x5 x6 x7 x8 x9 nS nR oO n4 oK))
 ·have hr1:r=true:=by assumption
  have HQ:ld (kj b ml ss ms=[]):=ai (by have:=HR0.out;rw[hr1] at this;unfold kj;rw[if_pos (by simpa using this)]);go_ret2;exact⟨_,rfl,by rw[HQ.out];exact cA ⟨rfl,rfl,rfl⟩,o9.out⟩
 ·obtain rfl:r=false:=by assumption
  have HE:ld (bn b ml ss ms=[]):=ai (by have:=HR0.out;simpa using this);obtain⟨N,V4⟩:∃N,N=2 ^ lk:=⟨_,rfl⟩
  have hN8:N≤8:=by
   have:lk=0∨lk=1∨lk=2∨lk=3:=by omega
   rcases this with h|h|h|h<;>subst h<;>omega
  have hN:wrap64 (2 ^ lk)=(N:Int):=by
   have:lk=0∨lk=1∨lk=2∨lk=3:=by omega
   rcases this with h|h|h|h<;>subst h<;>subst V4<;>simp[wrap64]
  have HN0:=ai V4
  have HBk:ld (∀w9,az w.heap.size w w9→∀(k:Nat) (hk:k<ms.length),∃g off,pk=some ⟨g,off,none⟩∧w9.cell? ⟨g,off+k*3,none⟩=some (ah ag ms[k].minute)∧w9.cell? ⟨g,off+k*3+1,none⟩=some (ah ag ms[k].lo)∧w9.cell? ⟨g,off+k*3+2,none⟩=some (ah ag ms[k].hi)):=ai fun w9 h9 k hk=>by
   rcases HB.out.rk.below h9 with⟨_,h0,_⟩|⟨g,off,cap,h0,_,_,h1⟩
   ·omega
   ·cases h0;exact⟨g,off,rfl,vH h1 k hk⟩
  rw[hN];clear hN V4
  go_loopw [6,7,8,9,10,11,25,34] (fun v6 _ _ _ _ _ i _ wr=>∃(M:Nat) (rows:List VL),M≤N∧i=ah ag M∧rows.map (·.2)=xk b ml ss ms M∧wr.ownsRow w.heap.size 25 1 v6 rows.length (rows.map (·.1))∧(∀r∈rows,wr.ownsRow w.heap.size 3 1 r.1 r.2.length (r.2.map (aD ag)))∧wr.heap[w.heap.size]?=some (au (b.cells (ae pm lm cm) (ae pn ln cn) (ae pk lk ck)) 28 (0,0))∧wr.heap[w1.heap.size]?=some (au (b.cells (ae pm lm cm) (ae pn ln cn) (ae pk lk ck)) 119 (0,0))∧az w.heap.size w wr) (fun _ _ _ _ _ _ i _ _=>N-(intOf i).toNat)
  case atStart=>exact⟨0,[],iB _,by simp,rfl,dM _ _ _ _,by simp,FX.out,HX2.out,o9.out⟩
  case round=>
   obtain⟨M,rows,hM,rfl,DZ,Km,Oz,hkw,hxw,eh⟩:=hrel;rename ar=>wo
   by_cases hlt:M<N
   ·have HRw:=ai DZ;have HO6:=ai Km;have HOr:=ai Oz;have HKw:=ai hkw;have HXw:=ai hxw;have wS:=ai eh;have Jn:=eh.size;have Vy:=(ak.1 hkw).1;have hwx:=(ak.1 hxw).1;obtain⟨x0,x1,x2,x3,x4,x5,x6,x7,x8,x9,nS,nR,oO,n4,oK⟩:=bM hxw;have g2:(wo.alloc (au #[ah ag b.room,ah ag b.depth,ah ag b.least,ah ag b.minutes,ah ag b.cM,ah ag b.km,ah ag b.eT,ah ag b.j9,ah ag b.ll,ah ag b.lm,ah ag b.pl,ah ag b.pm,ae pm lm cm,ae pn ln cn,ae none 0 0] 119)).heap[w.heap.size]?=some (au (b.cells (ae pm lm cm) (ae pn ln cn) (ae pk lk ck)) 28 (0,0)):=(aS _ _ _ Vy).trans hkw;have z14:=aH g2 14 (ae pk lk ck) rfl;have agp:=cN g2 14;have hb2:az wo.heap.size wo (wo.alloc (au #[ah ag b.room,ah ag b.depth,ah ag b.least,ah ag b.minutes,ah ag b.cM,ah ag b.km,ah ag b.eT,ah ag b.j9,ah ag b.ll,ah ag b.lm,ah ag b.pl,ah ag b.pm,ae pm lm cm,ae pn ln cn,ae none 0 0] 119)):=(aw _ _).alloc (ax _) _;have ho2:=ay wo (au #[ah ag b.room,ah ag b.depth,ah ag b.least,ah ag b.minutes,ah ag b.cM,ah ag b.km,ah ag b.eT,ah ag b.j9,ah ag b.ll,ah ag b.lm,ah ag b.pl,ah ag b.pm,ae pm lm cm,ae pn ln cn,ae none 0 0] 119);have aho:=ai hb2;have ahc:=ai ho2;have abS:(wo.alloc (au #[ah ag b.room,ah ag b.depth,ah ag b.least,ah ag b.minutes,ah ag b.cM,ah ag b.km,ah ag b.eT,ah ag b.j9,ah ag b.ll,ah ag b.lm,ah ag b.pl,ah ag b.pm,ae pm lm cm,ae pn ln cn,ae none 0 0] 119)).heap.size=wo.heap.size+1:=by simp
    clear DZ Km Oz hkw hxw eh f14 g2 hb2 ho2;go_wp2
    go_loopw [8,10,11,34] (fun v8 _ _ i wr=>∃(j:Nat) (v14:aj),j≤lk∧i=ah ag j∧wr.ownsRow (wo.heap.size+1) 3 1 v8 (cJ j M).length ((cJ j M).map fun(i:Nat)=>aD ag (i:Int))∧wr.ownsRow (wo.heap.size+1) 81 3 v14 (cJ j M).length (dm (gw ms (cJ j M)))∧wr.heap[wo.heap.size]?=some (au (b.cells (ae pm lm cm) (ae pn ln cn) v14) 119 (0,0))∧az wo.heap.size wo wr) (fun _ _ _ i _=>lk-(intOf i).toNat)
    case atStart=>exact⟨0,ae none 0 0,iB _,by simp,dM _ _ _ _,dM _ _ _ _,ahc.out,aho.out⟩
    case round=>
     obtain⟨j,v14,hj,rfl,Gu,Ai,UB,yb⟩:=hrel;have YH:=yb.size;have hcl:=iO j M;have hM5:M<512:=bz hlt (aN hN8 (by decide))
     by_cases LI:j<lk
     ·have Qo:=vO M j hM5;have IE:j<ms.length:=by rw[XU.out];exact LI
      obtain⟨g,off,rfl,c0,c1,c2⟩:=HBk.out wr (wS.out.trans (yb.mono Jn)) j IE;obtain⟨p8,c8,rfl⟩:=dG Gu;obtain⟨RY,c14,rfl⟩:=dG Ai;have VF:=Mt ms (cJ j M) j IE;have ads:=ai Gu;have Uh:=ai Ai;have HOj:=ai UB;have Q9:=ai yb;have HPs:=ai VF;have Ow:=(ak.1 UB).1;clear Gu Ai UB yb VF;generalize hmk:ms[j]=mk at *;cases hb:M.testBit j
      ·have e1:cJ (j+1) M=cJ j M:=by rw[mJ,hb];simp
       rw[hb] at Qo;have H1:=ai e1;clear e1;go_wp2;go_roundw
       case rel=>exact⟨j+1,ae RY (cJ j M).length c14,by omega,by simp,by rw[H1.out];exact ads.out.alloc _,by rw[H1.out];exact Uh.out.alloc _,(aS _ _ _ Ow).trans HOj.out,Q9.out.alloc (by omega) _⟩
       case measure=>simp[intOf];omega
      ·have e1:cJ (j+1) M=cJ j M++[j]:=by rw[mJ,hb];simp
       rw[hb] at Qo;have H1:=ai e1;clear e1;have LH:∃xs,((cJ j M).map fun(i:Nat)=>aD ag (i:Int))=xs:=⟨_,rfl⟩
       have hys:∃ys,dm (gw ms (cJ j M))=ys:=⟨_,rfl⟩
       obtain⟨xs,LH⟩:=LH;obtain⟨ys,hys⟩:=hys;have HXs:=ai LH;have HYs:=ai hys;generalize hk:(cJ j M).length=k at *;have HKk:=ai hk;clear hk LH hys
       have XS:ld (LG wo.heap.size wr.heap.size (fun v=>(b.cells (ae pm lm cm) (ae pn ln cn) v)) (ae p8 k c8) (ae RY k c14) k xs ys mk.cells wo false false false (wr.alloc (au mk.cells 81))):=
        ai ⟨fun _=>by have:=ads.out.alloc (au mk.cells 81);rw[HXs.out] at this;exact this,fun _=>by have:=Uh.out.alloc (au mk.cells 81);rw[HYs.out] at this;exact this,fun _=>(aS wr (au mk.cells 81) _ Ow).trans HOj.out,ay _ _,Q9.out.alloc (by omega) _,by simp;omega⟩
       have ab7:some wr.heap.size≠(ae RY k c14:aj).ownBlock:=fun h=>by
        have:=(Uh.out.lt _ h.symm).2;omega
       have afn:wr.heap.size≠wo.heap.size:=by omega
       go_wp2
       refine Ph.uC (late:=[(10,8,ae p8 k c8)]) (hlate:=⟨⟨rfl,rfl⟩,trivial⟩) (by kernel_rfl) [
       pV (ae p8 k c8),
        pV (ah ag j),
        fun v ds w9=>∃q,v=ae (some ⟨q,0,none⟩) 1 1∧w9.heap[q]?=some (au #[ah ag j] 3 (0,0))∧some q≠(ae p8 k c8:aj).ownBlock,
        fun v ds w9=>∃p c,v=ae p (k+1) c∧w9.ownsRow (wo.heap.size+1) 3 1 v (k+1) (xs++[ah ag j]),
        pV (bp (some ⟨wo.heap.size,0,none⟩)),
        pV (bp (some ⟨wo.heap.size,14,none⟩)),
        pV (ae RY k c14),
        pV (aO mk.cells),
        fun v ds w9=>∃q,v=ae (some ⟨q,0,none⟩) 1 1∧w9.heap[q]?=some (au mk.cells 81 (0,0))∧some q≠(ae RY k c14:aj).ownBlock,
        fun v ds w9=>∃p c,v=ae p (k+1) c∧w9.ownsRow (wo.heap.size+1) 81 3 v (k+1) (ys++mk.cells.toList),
        fun v ds w9=>∃p c,v=ae p (k+1) c∧w9.ownsRow (wo.heap.size+1) 3 1 v (k+1) (xs++[ah ag j]),
        pV (bp (some ⟨wo.heap.size,0,none⟩)),
        pV (bp (some ⟨wo.heap.size,14,none⟩)),
        fun v ds w9=>∃x,ds[1]?=some x∧w9.heap[wo.heap.size]?=some (au (b.cells (ae pm lm cm) (ae pn ln cn) x) 119 (0,0))]
        (fun L w9=>LG wo.heap.size wr.heap.size (fun v=>(b.cells (ae pm lm cm) (ae pn ln cn) v)) (ae p8 k c8) (ae RY k c14) k xs ys mk.cells wo (L 3) (L 9) (L 13) w9) [(9,pv wo.heap.size 0),(10,ah ag j),(11,pv wr.heap.size 0)] (by kernel_rfl) ?rst (fun L L2 w1 w2 Ri h hb=>h.next (Ri 3) (Ri 9) (Ri 13) hb) (XS.out.drew) ⟨rfl,rfl,rfl,trivial⟩ ?reach ?rfin
       case rst=>
        refine⟨Ph.sV,Ph.sV,?_,?_,Ph.sV,Ph.sV,Ph.sV,Ph.sV,?_,?_,?_,Ph.sV,Ph.sV,?_,trivial⟩
        ·rintro v ds L w1 w2 hS ⟨q,h1,h2,h3⟩ hb;exact⟨q,h1,(hb.block _ (ak.1 h2).1).trans h2,h3⟩
        ·rintro v ds L w1 w2 hS ⟨p,c,h1,h2⟩ hb;exact⟨p,c,h1,cy h2 hb⟩
        ·rintro v ds L w1 w2 hS ⟨q,h1,h2,h3⟩ hb;exact⟨q,h1,(hb.block _ (ak.1 h2).1).trans h2,h3⟩
        ·rintro v ds L w1 w2 hS ⟨p,c,h1,h2⟩ hb;exact⟨p,c,h1,cy h2 hb⟩
        ·rintro v ds L w1 w2 hS ⟨p,c,h1,h2⟩ hb;exact⟨p,c,h1,cy h2 hb⟩
        ·rintro v ds L w1 w2 hS ⟨x,h1,h2⟩ hb;exact⟨x,h1,(hb.block _ (ak.1 h2).1).trans h2⟩
       case reach=>
        refine⟨?_,?_,?_,?_,?_,?_,?_,?_,?_,?_,?_,?_,?_,?_,trivial⟩<;>rintro Lf ev w1 hn uW hS hc hg hf ⟨b9,T2,b11,hlt⟩ hd
        ·clear hd;have b8:=hlt.1 (hn 10 (by kernel_rfl));refine Ph.yv ?_ rfl;go_simp
        ·clear hd;refine Ph.yv ?_ rfl;go_simp
        ·have d1:ev (aK 45)=_:=hd.1 rfl;clear hd;refine Lag.Yields.value (v:=ae (some ⟨w1.heap.size,0,none⟩) 1 1) (w':=w1.alloc (au #[ah ag j] 3)) ?_ ⟨⟨_,rfl,ay _ _,fun h=>absurd ((hS.Hy (hn 3 (by kernel_rfl))).lt _ h.symm).2 (Nat.lt_irrefl _)⟩,cA ((aw _ _).alloc (ax _) _)⟩;go_simp
        ·have d0:ev (aK 44)=_:=hd.1 rfl;obtain⟨q,e46,UA,ML⟩:=hd.2.1 rfl;clear hd;replace e46:ev (aK 46)=_:=e46;have hown:=hS.Hy uW;refine Yields.qq (aK 44) (aK 46) 25 rfl (wo.heap.size+1) 3 i0 (ah ag 0) 1 8 Tryz.underlying25 hi hz0 hz1 hz2 rfl (by decide) (ae p8 k c8) k _ d0 hown ⟨q,0,none⟩ 1 1 [ah ag j] e46 rfl ?_ (by simp[cj]) (by unfold jB;omega) (by omega) hS.size ?_
         ·intro n u hn;have h5:=aH UA n u (by simpa using hn);have e:(⟨q,0,none⟩:Addr).add n=⟨q,n,none⟩:=by cases n<;>simp[lG]
          rw[e];exact h5
         intro v' w' hown' hgrow hnil;obtain⟨p',c',rfl⟩:=dG hown';refine⟨⟨p',c',rfl,hown'⟩,.inr ⟨hS.agQ uW hgrow (by simp[Ph.upd]) (by simp[Ph.upd]),?_⟩⟩;intro t u ds hj hL hp
         match t,hp with
         |0,hp=>exact hp
         |1,hp=>exact hp
         |2,⟨q2,h1,h2,h3⟩=>exact⟨q2,h1,(hgrow.block q2 (ak.1 h2).1 h3).trans h2,h3⟩
         |3,_=>exact(hj rfl).elim
         |4,hp=>exact hp
         |5,hp=>exact hp
         |6,hp=>exact hp
         |7,hp=>exact hp
         |8,⟨q2,h1,h2,h3⟩=>exact⟨q2,h1,(hgrow.block q2 (ak.1 h2).1 (mE hown h2 (by decide))).trans h2,h3⟩
         |9,_=>rw[hn 9 (by kernel_rfl)] at hL;cases hL
         |10,_=>rw[hn 10 (by kernel_rfl)] at hL;cases hL
         |11,hp=>exact hp
         |12,hp=>exact hp
         |13,_=>rw[hn 13 (by kernel_rfl)] at hL;cases hL
         |t+14,_=>trivial
        ·clear hd;refine Ph.yv ?_ rfl;go_simp
        ·have d4:ev (aK 48)=_:=hd.1 rfl;clear hd;refine Ph.yv ?_ rfl;go_simp
        ·have d5:ev (aK 49)=_:=hd.1 rfl;clear hd;have alF:=aH (hS.Yl (hn 13 (by kernel_rfl))) 14 (ae RY k c14) rfl;refine Ph.yv ?_ rfl;go_simp
        ·clear hd;refine Lag.Yields.yR 81 _ rfl _ b11 81 _ (0,0) _ hS.Uw Tryz.underlying81 rfl (by kernel_rfl) ⟨rfl,cA (aw _ _)⟩
        ·have d7:ev (aK 51)=_:=hd.1 rfl;clear hd;refine Lag.Yields.value (v:=ae (some ⟨w1.heap.size,0,none⟩) 1 1) (w':=w1.alloc (au mk.cells 81)) ?_ ⟨⟨_,rfl,ay _ _,fun h=>absurd ((hS.yH (hn 9 (by kernel_rfl))).lt _ h.symm).2 (Nat.lt_irrefl _)⟩,cA ((aw _ _).alloc (ax _) _)⟩;go_simp
        ·have d6:ev (aK 50)=_:=hd.1 rfl;obtain⟨q,e52,UA,ML⟩:=hd.2.1 rfl;clear hd;replace e52:ev (aK 52)=_:=e52;have hown:=hS.yH uW;refine Yields.qq (aK 50) (aK 52) 26 rfl (wo.heap.size+1) 81 i1 (aO #[ah ag 0,ah ag 0,ah ag 0]) 3 24 Tryz.underlying26 E7 Ov hy1 hy2 rfl (by decide) (ae RY k c14) k _ d6 hown ⟨q,0,none⟩ 1 1 mk.cells.toList e52 rfl ?_ (by simp[cj]) (by unfold jB;omega) (by omega) hS.size ?_
         ·intro n u hn;have h5:=aH UA n u (by simpa using hn);have e:(⟨q,0,none⟩:Addr).add n=⟨q,n,none⟩:=by cases n<;>simp[lG]
          rw[e];exact h5
         intro v' w' hown' hgrow hnil;obtain⟨p',c',rfl⟩:=dG hown';refine⟨⟨p',c',rfl,hown'⟩,.inr ⟨hS.adj uW hgrow ab7 (by simp[Ph.upd]) (by simp[Ph.upd]),?_⟩⟩;intro t u ds hj hL hp
         match t,hp with
         |0,hp=>exact hp
         |1,hp=>exact hp
         |2,⟨q2,h1,h2,h3⟩=>exact⟨q2,h1,(hgrow.block q2 (ak.1 h2).1 (mE hown h2 (by decide))).trans h2,h3⟩
         |3,⟨p,c,h1,h2⟩=>exact⟨p,c,h1,fY h2 fun g hg=>hgrow.block g (h2.lt g hg).2 (yG h2 hown (by decide) hg)⟩
         |4,hp=>exact hp
         |5,hp=>exact hp
         |6,hp=>exact hp
         |7,hp=>exact hp
         |8,⟨q2,h1,h2,h3⟩=>exact⟨q2,h1,(hgrow.block q2 (ak.1 h2).1 h3).trans h2,h3⟩
         |9,_=>exact(hj rfl).elim
         |10,_=>rw[hn 10 (by kernel_rfl)] at hL;cases hL
         |11,hp=>exact hp
         |12,hp=>exact hp
         |13,_=>rw[hn 13 (by kernel_rfl)] at hL;cases hL
         |t+14,_=>trivial
        ·have d3:∃p c,(ev (aK 47))=ae p (k+1) c∧w1.ownsRow (wo.heap.size+1) 3 1 (ev (aK 47)) (k+1) (xs++[ah ag j]):=hd.1 rfl;clear hd;obtain⟨p,c,h1,h2⟩:=d3;refine Lag.Yields.value (v:=ev (aK 47)) (w':=w1) rfl ⟨⟨p,c,h1,h2⟩,cA (aw _ _)⟩
        ·clear hd;refine Ph.yv ?_ rfl;go_simp
        ·have d11:ev (aK 54)=_:=hd.1 rfl;clear hd;refine Ph.yv ?_ rfl;go_simp
        ·have d12:ev (aK 55)=_:=hd.1 rfl;have d9:∃p c,(ev (aK 53))=ae p (k+1) c∧w1.ownsRow (wo.heap.size+1) 81 3 (ev (aK 53)) (k+1) (ys++mk.cells.toList):=hd.2.1 rfl;clear hd;obtain⟨p,c,h1,h2⟩:=d9;have r8:=hS.Yl uW;have c1:=aH r8 14 (ae RY k c14) rfl;have f1:=cN r8 14;refine Lag.Yields.skip (w':=w1.setCell ⟨wo.heap.size,14,none⟩ (ev (aK 53))) ?_ ⟨⟨_,rfl,cP _ r8⟩,.inr ⟨hS.put uW afn (ev (aK 53)) (by simp[Ph.upd]) (by simp[Ph.upd]),?_⟩⟩
         ·rw[h1];go_simp
         ·intro t u ds hj hL hp
          match t,hp with
          |0,hp=>exact hp
          |1,hp=>exact hp
          |2,⟨q2,g1,g2,g3⟩=>exact⟨q2,g1,(bj _ _ _ _ (Nt g2 r8 (by decide))).trans g2,g3⟩
          |3,⟨p2,c2,g1,g2⟩=>exact⟨p2,c2,g1,cY g2 r8 (by decide)⟩
          |4,hp=>exact hp
          |5,hp=>exact hp
          |6,hp=>exact hp
          |7,hp=>exact hp
          |8,⟨q2,g1,g2,g3⟩=>exact⟨q2,g1,(bj _ _ _ _ (Nt g2 r8 (by decide))).trans g2,g3⟩
          |9,⟨p2,c2,g1,g2⟩=>exact⟨p2,c2,g1,cY g2 r8 (by decide)⟩
          |10,⟨p2,c2,g1,g2⟩=>exact⟨p2,c2,g1,cY g2 r8 (by decide)⟩
          |11,hp=>exact hp
          |12,hp=>exact hp
          |13,_=>exact(hj rfl).elim
          |t+14,_=>trivial
       case rfin=>
        intro a3 w3 hR;have hS:=hR.s;have e9:∃p c,(a3.tmps.getD 53 af)=ae p (k+1) c∧w3.ownsRow (wo.heap.size+1) 81 3 (a3.tmps.getD 53 af) (k+1) (ys++mk.cells.toList):=hR.val 9 (by decide);have M9:∃p c,(a3.tmps.getD 8 af)=ae p (k+1) c∧w3.ownsRow (wo.heap.size+1) 3 1 (a3.tmps.getD 8 af) (k+1) (xs++[ah ag j]):=hR.val 10 (by decide);have XI:∃x,([a3.tmps.getD 55 af,a3.tmps.getD 53 af,a3.tmps.getD 8 af,a3.tmps.getD 44 af,a3.tmps.getD 45 af,a3.tmps.getD 46 af,a3.tmps.getD 47 af,a3.tmps.getD 48 af,a3.tmps.getD 49 af,a3.tmps.getD 50 af,a3.tmps.getD 51 af,a3.tmps.getD 52 af,a3.tmps.getD 53 af,a3.tmps.getD 8 af]:List aj)[1]?=some x∧w3.heap[wo.heap.size]?=some (au (b.cells (ae pm lm cm) (ae pn ln cn) x) 119 (0,0)):=hR.val 13 (by decide);have ha:=hR.lits 71 rfl;simp only[aU,bT,nt] at ha;rw[hR.kp 0 (by kernel_rfl),hR.kp 1 (by kernel_rfl),hR.kp 2 (by kernel_rfl),hR.kp 3 (by kernel_rfl),hR.kp 4 (by kernel_rfl),hR.kp 5 (by kernel_rfl),hR.kp 6 (by kernel_rfl),hR.kp 7 (by kernel_rfl),hR.kp 9 (by kernel_rfl),hR.kp 12 (by kernel_rfl),hR.kp 13 (by kernel_rfl),hR.kp 14 (by kernel_rfl),hR.kp 15 (by kernel_rfl),hR.kp 16 (by kernel_rfl),hR.kp 17 (by kernel_rfl),hR.kp 18 (by kernel_rfl),hR.kp 19 (by kernel_rfl),hR.kp 20 (by kernel_rfl),hR.kp 21 (by kernel_rfl),hR.kp 22 (by kernel_rfl),hR.kp 23 (by kernel_rfl),hR.kp 24 (by kernel_rfl),hR.kp 25 (by kernel_rfl),hR.kp 26 (by kernel_rfl),hR.kp 27 (by kernel_rfl),hR.kp 28 (by kernel_rfl),hR.kp 29 (by kernel_rfl),hR.kp 30 (by kernel_rfl),hR.kp 31 (by kernel_rfl),hR.kp 32 (by kernel_rfl),hR.kp 33 (by kernel_rfl),hR.kp 34 (by kernel_rfl),hR.kp 57 (by kernel_rfl),hR.kp 58 (by kernel_rfl),hR.kp 59 (by kernel_rfl),hR.kp 60 (by kernel_rfl),hR.kp 61 (by kernel_rfl),hR.kp 62 (by kernel_rfl),hR.kp 63 (by kernel_rfl),hR.kp 64 (by kernel_rfl),hR.kp 65 (by kernel_rfl),hR.kp 66 (by kernel_rfl),hR.kp 67 (by kernel_rfl),hR.kp 68 (by kernel_rfl),hR.kp 69 (by kernel_rfl),hR.kp 70 (by kernel_rfl)] at ha;simp only[ku,fT,fS] at ha;clear hR;obtain⟨p8n,c8n,e8,ho8⟩:=M9;obtain⟨p53,c53,e53,YM⟩:=e9;obtain⟨x,ex,r8⟩:=XI;have XG:a3.tmps.getD 53 af=x:=bf ex;rw[e53] at XG YM;subst XG;rw[e8] at ho8;rw[e8] at ha;generalize a3.tmps.getD=zz at ha;have o9:=ai hS.below;have HOb:=ai r8;have HN8:=ai ho8;have ahj:=ai YM;clear e8 e53 ex ho8 YM r8 hS;subst ha;go_wp2;go_roundw
        case rel=>
         refine⟨j+1,ae p53 (k+1) c53,by omega,by simp,?_,?_,HOb.out,o9.out⟩
         ·rw[H1.out,pz,fD,HKk.out,HXs.out];exact HN8.out
         ·rw[H1.out,pz,HKk.out,HPs.out,Mh,HYs.out];exact ahj.out
        case measure=>simp[intOf];omega
     ·obtain rfl:lk=j:=by omega
      rename ar=>wc;obtain⟨p8,c8,rfl⟩:=dG Gu;obtain⟨RY,c14,rfl⟩:=dG Ai;obtain⟨p6,c6,rfl⟩:=dG HO6.out;have hpl:(gw ms (cJ lk M)).length=(cJ lk M).length:=uN ms _ fun i hi=>by rw[XU.out];simp[cJ] at hi;exact hi.1
      have YR:=J1 HMo.out (n:=lk) (mask:=M) (by rw[XU.out];exact ax _)
      have hrk:Reads wc (ae RY (cJ lk M).length c14) (gw ms (cJ lk M)).length (dm (gw ms (cJ lk M))):=by
       rw[hpl];exact Reads.iT Ai (by omega) (by rw[nH,hpl];omega)
      have hwc:az w.heap.size w wc:=wS.out.trans (yb.mono Jn);obtain⟨r2,hr2⟩:∃r2,decide (bn b ml ss (gw ms (cJ lk M))≠[])=r2:=⟨_,rfl⟩
      have hso:=HSo.out _ _ r2 hr2 YR wc hwc hrk;have aco:jl b ml ss ms M = !r2:=by unfold jl;rw[XU.out,←hr2];simp
      have VH:=PZ b ml ss ms M;rw[aco] at VH;have hcI:dt ms.length M=(cJ lk M).map fun(i:Nat)=>(i:Int):=by rw[XU.out];rfl
      rw[hcI] at VH;obtain⟨y0,y1,y2,y3,y4,y5,y6,y7,y8,y9,LR,NS,NQ,NP,Js⟩:=bM UB;have SZ:wc.ownsRow w.heap.size 3 1 (ae p8 (cJ lk M).length c8) (cJ lk M).length ((cJ lk M).map fun(i:Nat)=>aD ag (i:Int)):=ownsRow_base Gu (by omega);have adq:=ai hso;have HOd:=ai VH;have HO8:=ai SZ;have HWc:=ai hwc;have Q9:=ai yb
      have hrl:rows.length≤M:=by
       have h1:=congrArg List.length HRw.out;have h2:=List.length_filter_le (jl b ml ss ms) (aU M);unfold xk at h1;simp at h1 h2;omega
      clear hso VH SZ Gu Ai hwc yb UB YR hrk hpl hcI aco x0 x1 x2 x3 x4 x5 x6 x7 x8 x9 nS nR oO n4 oK z14 agp;generalize cJ lk M=C at *
      go_wp2_with (first
       |(go_at_call 119;refine adq.out.mono ?_;clear adq;rintro e w5 ⟨rfl,hb5⟩
         have HB5:=ai hb5;have hs5:=hb5.size;clear hb5 y0 y1 y2 y3 y4 y5 y6 y7 y8 y9 LR NS NQ NP Js)
       |(at_builtin
         have hQ1:∀(i:Nat) (u:aj),([ae p8 C.length c8]:List aj)[i]?=some u→(w5.alloc (au #[ae p8 C.length c8] 25)).cell? ((⟨w5.heap.size,0,none⟩:Addr).add i)=some u:=fun i u hj=>by
          match i,hj with
          |0,hj=>simp at hj;subst hj;simp[lG]
         have Iu:az wo.heap.size wo w5:=Q9.out.trans (HB5.out.mono (by omega));have Zn:w5.ownsRow w.heap.size 25 1 (ae p6 rows.length c6) rows.length (rows.map (·.1)):=cy HO6.out Iu;have WN:=ai Zn;refine wpList_append_own _ rfl _ _ 116 rfl w.heap.size 25 i2 (ae none 0 0) 1 24 Tryz.underlying116 hi2 hx0 hx1 hx2 rfl (by decide) (ae p6 rows.length c6) rows.length (rows.map (·.1)) rfl (Zn.alloc _) ⟨w5.heap.size,0,none⟩ 1 1 [ae p8 C.length c8] rfl rfl hQ1 (by simp[cj]) (by unfold jB;omega) (by omega) (by simp;omega) ?_;intro v' w7 S1 hgrow hnil
         obtain⟨p7,c7,rfl⟩:=dG S1))
      ·have e2:r2=false:=by simp_all
       subst e2;have BI:∀q,(ae p6 rows.length c6:aj).ownBlock=some q→w.heap.size≤q:=fun q hq=>(WN.out.lt q hq).1;have hb7:az w.heap.size w w7:=((wS.out.trans (Iu.mono Jn)).alloc (by omega) _).grown hgrow (by simp;omega) BI;have hn5:∀q,q<w5.heap.size→some q≠(ae p6 rows.length c6:aj).ownBlock→w7.heap[q]?=w5.heap[q]?:=fun q hq hne=>(hgrow.block q (by simp;omega) hne).trans (aS _ _ _ hq);have lS:∀ {base size v n xs},w5.ownsRow base 3 size v n xs→w7.ownsRow base 3 size v n xs:=fun h=>fY h fun q hq=>hn5 q (h.lt q hq).2 (yG h WN.out (by decide) hq);have hk5:=(Iu.block _ Vy).trans HKw.out;have hx5:=(Iu.block _ hwx).trans HXw.out;have hk7:=(hn5 _ (by omega) (mE WN.out hk5 (by decide))).trans hk5;have hx7:=(hn5 _ (by omega) (mE WN.out hx5 (by decide))).trans hx5
       have HR7:ld (∀r∈rows++[((ae p8 C.length c8:aj),C.map fun(i:Nat)=>(i:Int))],w7.ownsRow w.heap.size 3 1 r.1 r.2.length (r.2.map (aD ag))):=ai fun r hr=>by
        rcases List.mem_append.1 hr with h|h
        ·exact lS (cy (HOr.out r h) Iu)
        ·rw[List.mem_singleton] at h;subst h;simp only[dI,List.map_map];exact lS (cy HO8.out HB5.out)
       have HB7:=ai hb7;have HK7:=ai hk7;have HX7:=ai hx7;have HO7:=ai S1;clear hb7 hn5 lS hk5 hx5 hk7 hx7 S1 hgrow hnil hQ1 Zn Iu BI;go_roundw
       case rel=>
        refine⟨M+1,rows++[((ae p8 C.length c8:aj),C.map fun(i:Nat)=>(i:Int))],by omega,by simp,?_,?_,HR7.out,HK7.out,HX7.out,HB7.out⟩
        ·rw[HOd.out,fD,HRw.out];rfl
        ·rw[pz,fD];exact HO7.out
       case measure=>simp[intOf];omega
      ·have e2:r2=true:=by simp_all
       subst e2;have Iu:az wo.heap.size wo w5:=Q9.out.trans (HB5.out.mono (by omega));have HW5:=ai Iu;clear Iu;go_roundw
       case rel=>
        refine⟨M+1,rows,by omega,by simp,?_,cy HO6.out HW5.out,fun r hr=>cy (HOr.out r hr) HW5.out,(HW5.out.block _ Vy).trans HKw.out,(HW5.out.block _ hwx).trans HXw.out,wS.out.trans (HW5.out.mono Jn)⟩;rw[HOd.out,HRw.out];simp
       case measure=>simp[intOf];omega
   ·obtain rfl:N=M:=by omega
    rename ar=>wz;have hz:=eh.size
    obtain⟨f,rest,rfl⟩:∃f rest,rows=f::rest:=by
     cases rows with
     |nil=>
      have h1:=Sj HE.out;rw[XU.out,←HN0.out] at h1;exact absurd DZ.symm h1
     |cons f rest=>exact⟨f,rest,rfl⟩
    have hfr:∀r∈f::rest,rG wz r:=fun r hr=>Reads.iT (Oz r hr) (by
     have h1:r.2∈xk b ml ss ms N:=by rw[←DZ];exact List.mem_map_of_mem hr
     unfold xk at h1;obtain⟨m,_,h2⟩:=dc.1 h1;rw[←h2];unfold dt;have:=iO ms.length m;rw[dI,XU.out] at *
     omega) (by simp)
    have hcl:kj b ml ss ms=(nz f rest).2:=by
     unfold kj;rw[if_neg (by simp[HE.out]),XU.out,←HN0.out,←DZ,GQ];rfl
    have Qp:rG wz (nz f rest):=hfr _ (by
     rcases sF rest f with h|h
     ·rw[h];simp
     ·exact bI _ h)
    have hrl:rest.length+1≤N:=by
     have h1:=congrArg List.length DZ;have h2:=List.length_filter_le (jl b ml ss ms) (aU N);unfold xk at h1;simp at h1 h2;omega
    obtain⟨go,cap,rfl,hgo,Kz,hcell⟩:∃go cap,u6=ae (some ⟨go,0,none⟩) (rest.length+1) cap∧go<wz.heap.size∧rest.length+1≤cap∧∀j u,((f::rest).map (·.1))[j]?=some u→wz.cell? ⟨go,0+j,none⟩=some u:=by
     have h1:=Reads.iT Km (by simp;omega) (by simp);rcases Km.2 with⟨_,h0⟩|⟨g,cap,cur,rfl,_,hg,_⟩
     ·simp at h0
     ·rcases h1 with⟨h2,_⟩|⟨g2,off,ZV,h2,h3,h4,h5⟩
      ·cases h2
      ·cases h2;exact⟨g,cap,rfl,h4,h3.2,h5⟩
    have HC0:ld (∀w,az wz.heap.size wz w→w.cell? ⟨go,0,none⟩=some f.1):=ai fun w hb=>(hb.cell (p:=⟨go,0,none⟩) hgo).trans (hcell 0 _ rfl)
    have Ug:ld (∀w,az wz.heap.size wz w→Reads w (ae (if cap=1 then some ⟨go,0,none⟩ else some ⟨go,1,none⟩) rest.length (cap-1)) rest.length (rest.map (·.1))):=ai fun w hb=>
     if h1:cap=1 then by
      have h0:rest=[]:=aY (by omega);subst h0;rw[if_pos h1];exact .inr ⟨go,0,cap-1,rfl,⟨by simp,by simp⟩,bz hgo hb.size,fun j u hj=>by simp at hj⟩
     else by
     rw[if_neg h1]
     exact .inr ⟨go,1,cap-1,rfl,by omega,bz hgo hb.size,fun j u hj=>(hb.cell (p:=⟨go,_,none⟩) hgo).trans (by
      have:=hcell (j+1) u (by simpa using hj)
      rwa [show 0+(j+1)=1+j by omega] at this)⟩
    have HBe:ld (∀W,az wz.heap.size wz W→bm aq 120 #[.func (.func 121) #[] #[],f.1,ae (if cap=1 then some ⟨go,0,none⟩ else some ⟨go,1,none⟩) rest.length (cap-1)] W fun e w'=>e=aF (nz f rest).1∧az W.heap.size W w'):=ai fun W hb=>
     QR f rest _ W ((hfr f (by simp)).below hb) (fun r hr=>(hfr r (bI _ hr)).below hb) (Ug.out W hb)
    obtain⟨pf,cf,Xv,_⟩:=aR (hfr f (by simp));obtain⟨pb,cb,UE,_⟩:=aR Qp
    have HBm:ld (∀W,az wz.heap.size wz W→Reads W (ae pb (kj b ml ss ms).length cb) (kj b ml ss ms).length ((kj b ml ss ms).map (aD ag))):=ai fun W hb=>by
     have:=Qp.below hb;unfold rG at this;rw[UE] at this;rw[hcl];exact this
    rw[Xv] at HC0 HBe;rw[UE,←hcl] at HBe;generalize VQ:(kj b ml ss ms).length=cn at *;have HCn:=ai VQ;clear VQ;generalize f.2.length=fn at *;have HNz:=ai eh;clear DZ Km Oz hkw hxw eh hfr hcl Qp hcell Xv UE Ug;generalize rest.length=Rn at *;have l2:(1:Int)≤(Rn:Int)+1:=by omega
    go_wp2
    refine bQ (by kernel_rfl) [
    pV (ae (some ⟨go,0,none⟩) (Rn+1) cap),
     pV (pv go 0),
     pV (ae pf fn cf),
     pV (ae (some ⟨go,0,none⟩) (Rn+1) cap),
     pV (ae (if cap=1 then some ⟨go,0,none⟩ else some ⟨go,1,none⟩) Rn (cap-1)),
     pV (ae pb cn cb),
     pV (ae pb cn cb),
     pV (ah ag 0)]
     (fun w9=>az wz.heap.size wz w9) [(6,ae (some ⟨go,0,none⟩) (Rn+1) cap)] (by kernel_rfl) ?rst (fun w1 w2 h hb=>h.trans (hb.mono h.size)) ((aw _ _).drew) ⟨rfl,trivial⟩ ?reach ?rfin
    case rst=>
     refine⟨sV,sV,sV,sV,sV,sV,sV,sV,trivial⟩
    case reach=>
     refine⟨?_,?_,?_,?_,?_,?_,?_,?_,trivial⟩<;>rintro ev w1 hS hc hg hf ⟨b6,-⟩ hd
     ·clear hd;exact tV
     ·have d0:ev (aK 65)=_:=hd.1 rfl;clear hd;exact tV
     ·have d1:ev (aK 66)=_:=hd.1 rfl;clear hd;have z:=HC0.out w1 hS;exact tV
     ·clear hd;exact tV
     ·have d3:ev (aK 68)=_:=hd.1 rfl;clear hd;exact tV
     ·have d2:ev (aK 67)=_:=hd.1 rfl;have d4:ev (aK 69)=_:=hd.2.1 rfl;clear hd;refine yc (HBe.out w1 hS) ?_ fun _=>rfl;go_simp
     ·have d5:ev (aK 70)=_:=hd.1 rfl;clear hd;exact tV
     ·clear hd;exact tV
    case rfin=>
     intro a3 w3 hR;have hS:=hR.s;have e6:a3.tmps.getD 2 af=_:=hR.val 6 (by decide);have e7:a3.tmps.getD 3 af=_:=hR.val 7 (by decide);have ha:=hR.lits 71 rfl;simp only[aU,bT,nt] at ha;clear hR;rw[e6,e7] at ha;generalize a3.tmps.getD=zz at ha;have o9:=ai hS;clear e6 e7 hS;subst ha;go_wp2;go_ret2;exact⟨_,rfl,by rw[HCn.out];exact HBm.out _ o9.out,HNz.out.trans (o9.out.mono (by omega))⟩
theorem CB(b:BB)(men sent marks:aj)(ml:List Mn)(ss:List Int)(ms:List Mk)(w:ar)(hL:Laid w)(hB:cH b men sent marks ml ss ms w)(hne:bn b ml ss ms≠[])(cp:Nat)
  (hown:∀W,az w.heap.size w W→bm aq 164 #[aO (b.cells men sent marks),pv cp 0] W fun e W'=>e=aF (ah ag 0)∧az W.heap.size W W') :
  bm aq 103 #[aO (b.cells men sent marks),.func (.func 164) #[] #[pv cp 0]] w fun e w'=>∃v,e=aF (.tuple #[aO (b.open men sent marks v),ah ag 0])∧gJ w' w.heap.size v (bn b ml ss ms)∧az w.heap.size w w':=by
 have ug:ld (∀W,az w.heap.size w W→bm aq 71 #[aO (b.cells men sent marks)] W fun e w'=>e=aF (ah ag 0)∧az W.heap.size W w'):=ai fun W hb=>eY b men sent marks ml ss ms W (hL.below hb) (hB.below hb);have Ul:ld (∀W,az w.heap.size w W→bm aq 116 #[.func (.func 117) #[aO (b.cells men sent marks)] #[]] W fun e w'=>∃v,e=aF v∧gJ w' W.heap.size v (bn b ml ss ms)∧az W.heap.size W w'):=ai fun W hb=>oC b men sent marks ml ss ms W (hB.below hb);have EY:=ai hown;obtain⟨pm,cm,rfl,_⟩:=aR hB.rm;obtain⟨pn,cn,rfl,_⟩:=aR hB.rs;obtain⟨pk,ck,rfl,_⟩:=aR hB.rk;have kg:0<(bn b ml ss ms).length:=cX.2 hne;clear hL hB hne hown;generalize bn b ml ss ms=all at *;generalize ml.length=lm at *;generalize ss.length=ln at *;generalize ms.length=lk at *;have b0:az w.heap.size w ((w.alloc (au (b.cells (ae pm lm cm) (ae pn ln cn) (ae pk lk ck)) 28)).alloc (au gU 122)):=((aw _ _).alloc (ax _) _).alloc (by simp) _;have HT:ld (Two w (b.cells (ae pm lm cm) (ae pn ln cn) (ae pk lk ck)) 28 gU 122 ((w.alloc (au (b.cells (ae pm lm cm) (ae pn ln cn) (ae pk lk ck)) 28)).alloc (au gU 122))):=ai ⟨(Two.mk' w _ _ _ _).one,(Two.mk' w _ _ _ _).two,b0,by simp⟩;have Jq:=ai b0;clear b0
 go_enter Tryz.func103,Tryz.ntmps103
 go_wp2_with (first
  |(refine wpList_load_row rfl 122 _ rfl _ rfl 122 _ (0,0) _ HL7.out iH rfl (by kernel_rfl) ?_)
  |(refine wpList_store_row rfl 122 _ _ rfl _ _ rfl rfl 122 _ NK.out (by kernel_rfl) rfl (by simp[cj]) ?_)
  |(go_at_call 71;refine(ug.out _ Jq.out).mono ?_;clear ug;rintro e w1 ⟨rfl,hb1⟩
    have rI:=HT.out.next hb1;have oL:=ai rI
    obtain⟨x0,x1,x2,x3,x4,x5,x6,x7,x8,x9,nS,nR,oO,n4,oK⟩:=bM rI.one
    clear rI hb1)
  |(go_at_call 164;refine(EY.out _ (oL.out.below.alloc (by have:=oL.out.size;omega) _)).mono ?_;clear EY;rintro e w2 ⟨rfl,hb2⟩
    have Ce:=(oL.out.next ((aw _ _).alloc (ax _) (au (b.open (ae pm lm cm) (ae pn ln cn) (ae pk lk ck) (ae none 0 0)) 122))).next hb2;have FV:=ai Ce
    have hk2:=(hb2.block w1.heap.size (by simp)).trans (ay w1 _);have FX:=ai hk2;have hs1:=oL.out.size;have hs2:=hb2.size;obtain⟨y0,y1,y2,y3,y4,y5,y6,y7,y8,y9,LR,NS,NQ,NP,Js,G9⟩:=jo hk2
    clear Ce hk2 hb2)
  |(go_at_call 116;refine(Ul.out _ FV.out.below).mono ?_;clear Ul;rintro e w3 ⟨v,rfl,iU,hb3⟩
    have E6:=FV.out.next hb3;have O6:=ai E6;have LB:=ai iU
    simp only[dU] at hs2;have hk3:=(hb3.block w1.heap.size (by omega)).trans FX.out;have HK3:=ai hk3;have hs3:=hb3.size;clear y0 y1 y2 y3 y4 y5 y6 y7 y8 y9 LR NS NQ NP Js G9;have G9:=aH hk3 15 _ rfl;have f7:=cN hk3 15;have o9:=ai hb3
    obtain⟨gv,oF,rfl,D7⟩:∃gv oF,v=ae (some ⟨gv,0,none⟩) all.length oF∧w2.heap.size≤gv:=by
     rcases iU.1.2 with⟨_,h0⟩|⟨g,cap,cur,rfl,hg,_⟩
     ·omega
     ·exact⟨g,cap,rfl,hg⟩
    have HL7:ld ((w3.setCell ⟨w1.heap.size,15,none⟩ (ae (some ⟨gv,0,none⟩) all.length oF)).heap[w1.heap.size]?=some (au (b.open (ae pm lm cm) (ae pn ln cn) (ae pk lk ck) (ae (some ⟨gv,0,none⟩) all.length oF)) 122 (0,0))):=ai (cP _ hk3);have NK:ld ((w3.setCell ⟨w1.heap.size,15,none⟩ (ae (some ⟨gv,0,none⟩) all.length oF)).heap[w.heap.size+1]?=some (au gU 122 (0,0))):=ai ((bj _ _ _ _ (by show w.heap.size+1≠w1.heap.size;omega)).trans E6.two)
    clear E6 hk3 hb3 iU))
 refine bg (results_cell_tmp (g:=w.heap.size+1) rfl rfl (run_loadVar_row _ _ 122 122 _ (0,0) _ (cV NK.out) iH rfl (by kernel_rfl))) rfl ⟨_,rfl,?_,?_⟩
 ·have hs1:=oL.out.size;refine(LB.out.at_ fun g hg=>?_).base (by omega);have D9:g=gv:=by simpa [iY] using hg.symm
  subst D9;exact(setRow_other (by omega)).trans (bj _ _ _ _ (by show g≠w1.heap.size;omega))
 ·have hs1:=oL.out.size;exact dv (O6.out.below.setCell (p:=⟨w1.heap.size,15,none⟩) (by show _≤w1.heap.size;omega) _) (by omega)
theorem Vd(b:BB)(men sent marks:aj)(ml:List Mn)(ss:List Int)(ms:List Mk)(w:ar)(hL:Laid w)(hB:cH b men sent marks ml ss ms w)(hne:bn b ml ss ms≠[])(cp:Nat)
  (hown:∀W,az w.heap.size w W→bm aq 126 #[aO (b.cells men sent marks),pv cp 0] W fun e W'=>e=aF (ah ag 0)∧az W.heap.size W W') :
  bm aq 103 #[aO (b.cells men sent marks),.func (.func 126) #[] #[pv cp 0]] w fun e w'=>∃v,e=aF (.tuple #[aO (b.open men sent marks v),ah ag 0])∧gJ w' w.heap.size v (bn b ml ss ms)∧az w.heap.size w w':=by
 have ug:ld (∀W,az w.heap.size w W→bm aq 71 #[aO (b.cells men sent marks)] W fun e w'=>e=aF (ah ag 0)∧az W.heap.size W w'):=ai fun W hb=>eY b men sent marks ml ss ms W (hL.below hb) (hB.below hb);have Ul:ld (∀W,az w.heap.size w W→bm aq 116 #[.func (.func 117) #[aO (b.cells men sent marks)] #[]] W fun e w'=>∃v,e=aF v∧gJ w' W.heap.size v (bn b ml ss ms)∧az W.heap.size W w'):=ai fun W hb=>oC b men sent marks ml ss ms W (hB.below hb);have EY:=ai hown;obtain⟨pm,cm,rfl,_⟩:=aR hB.rm;obtain⟨pn,cn,rfl,_⟩:=aR hB.rs;obtain⟨pk,ck,rfl,_⟩:=aR hB.rk;have kg:0<(bn b ml ss ms).length:=cX.2 hne;clear hL hB hne hown;generalize bn b ml ss ms=all at *;generalize ml.length=lm at *;generalize ss.length=ln at *;generalize ms.length=lk at *;have b0:az w.heap.size w ((w.alloc (au (b.cells (ae pm lm cm) (ae pn ln cn) (ae pk lk ck)) 28)).alloc (au gU 122)):=((aw _ _).alloc (ax _) _).alloc (by simp) _;have HT:ld (Two w (b.cells (ae pm lm cm) (ae pn ln cn) (ae pk lk ck)) 28 gU 122 ((w.alloc (au (b.cells (ae pm lm cm) (ae pn ln cn) (ae pk lk ck)) 28)).alloc (au gU 122))):=ai ⟨(Two.mk' w _ _ _ _).one,(Two.mk' w _ _ _ _).two,b0,by simp⟩;have Jq:=ai b0;clear b0
 go_enter Tryz.func103,Tryz.ntmps103
 go_wp2_with (first
  |(refine wpList_load_row rfl 122 _ rfl _ rfl 122 _ (0,0) _ HL7.out iH rfl (by kernel_rfl) ?_)
  |(refine wpList_store_row rfl 122 _ _ rfl _ _ rfl rfl 122 _ NK.out (by kernel_rfl) rfl (by simp[cj]) ?_)
  |(go_at_call 71;refine(ug.out _ Jq.out).mono ?_;clear ug;rintro e w1 ⟨rfl,hb1⟩
    have rI:=HT.out.next hb1;have oL:=ai rI
    obtain⟨x0,x1,x2,x3,x4,x5,x6,x7,x8,x9,nS,nR,oO,n4,oK⟩:=bM rI.one
    clear rI hb1)
  |(go_at_call 126;refine(EY.out _ (oL.out.below.alloc (by have:=oL.out.size;omega) _)).mono ?_;clear EY;rintro e w2 ⟨rfl,hb2⟩
    have Ce:=(oL.out.next ((aw _ _).alloc (ax _) (au (b.open (ae pm lm cm) (ae pn ln cn) (ae pk lk ck) (ae none 0 0)) 122))).next hb2;have FV:=ai Ce
    have hk2:=(hb2.block w1.heap.size (by simp)).trans (ay w1 _);have FX:=ai hk2;have hs1:=oL.out.size;have hs2:=hb2.size;obtain⟨y0,y1,y2,y3,y4,y5,y6,y7,y8,y9,LR,NS,NQ,NP,Js,G9⟩:=jo hk2
    clear Ce hk2 hb2)
  |(go_at_call 116;refine(Ul.out _ FV.out.below).mono ?_;clear Ul;rintro e w3 ⟨v,rfl,iU,hb3⟩
    have E6:=FV.out.next hb3;have O6:=ai E6;have LB:=ai iU
    simp only[dU] at hs2;have hk3:=(hb3.block w1.heap.size (by omega)).trans FX.out;have HK3:=ai hk3;have hs3:=hb3.size;clear y0 y1 y2 y3 y4 y5 y6 y7 y8 y9 LR NS NQ NP Js G9;have G9:=aH hk3 15 _ rfl;have f7:=cN hk3 15;have o9:=ai hb3
    obtain⟨gv,oF,rfl,D7⟩:∃gv oF,v=ae (some ⟨gv,0,none⟩) all.length oF∧w2.heap.size≤gv:=by
     rcases iU.1.2 with⟨_,h0⟩|⟨g,cap,cur,rfl,hg,_⟩
     ·omega
     ·exact⟨g,cap,rfl,hg⟩
    have HL7:ld ((w3.setCell ⟨w1.heap.size,15,none⟩ (ae (some ⟨gv,0,none⟩) all.length oF)).heap[w1.heap.size]?=some (au (b.open (ae pm lm cm) (ae pn ln cn) (ae pk lk ck) (ae (some ⟨gv,0,none⟩) all.length oF)) 122 (0,0))):=ai (cP _ hk3);have NK:ld ((w3.setCell ⟨w1.heap.size,15,none⟩ (ae (some ⟨gv,0,none⟩) all.length oF)).heap[w.heap.size+1]?=some (au gU 122 (0,0))):=ai ((bj _ _ _ _ (by show w.heap.size+1≠w1.heap.size;omega)).trans E6.two)
    clear E6 hk3 hb3 iU))
 refine bg (results_cell_tmp (g:=w.heap.size+1) rfl rfl (run_loadVar_row _ _ 122 122 _ (0,0) _ (cV NK.out) iH rfl (by kernel_rfl))) rfl ⟨_,rfl,?_,?_⟩
 ·have hs1:=oL.out.size;refine(LB.out.at_ fun g hg=>?_).base (by omega);have D9:g=gv:=by simpa [iY] using hg.symm
  subst D9;exact(setRow_other (by omega)).trans (bj _ _ _ _ (by show g≠w1.heap.size;omega))
 ·have hs1:=oL.out.size;exact dv (O6.out.below.setCell (p:=⟨w1.heap.size,15,none⟩) (by show _≤w1.heap.size;omega) _) (by omega)
def dV:List Int→List Int→Bool
 |_,[]=>false
 |[],_::_=>true
 |x::xs,y::ys=>if x<y then true else if y<x then false else dV xs ys
theorem IX(xs ys:List Int)(k:Nat)(h1:k<xs.length)(h2:k<ys.length):dV (xs.drop k) (ys.drop k)=if xs[k]<ys[k] then true else if ys[k]<xs[k] then false else dV (xs.drop (k+1)) (ys.drop (k+1)):=by
 rw[dN h1,dN h2];rfl
theorem zg:∀(xs ys:List Int),(!dV xs ys && !dV ys xs)=decide (xs=ys)
 |[],[]=>rfl
 |[],_::_=>by simp[dV]
 |_::_,[]=>by simp[dV]
 |x::xs,y::ys=>by
  have ih:=zg xs ys;unfold dV
  by_cases h1:x<y
  ·have:x≠y:=by omega
   simp[h1,this]
  ·by_cases h2:y<x
   ·have:x≠y:=by omega
    simp[h2,this]
   ·have:x=y:=by omega
    subst this;simp only[Int.lt_irrefl,if_false,zP,true_and];exact ih
theorem uZ(xs ys:List Int)(v1 v2:aj)(w:ar)(h1:Reads w v1 xs.length (xs.map (aD ag)))(h2:Reads w v2 ys.length (ys.map (aD ag))) :
  bm aq 46 #[v1,v2] w fun e w'=>e=aF (aG (dV xs ys))∧az w.heap.size w w':=by
 obtain⟨p1,c1,rfl,hb1⟩:=aR h1;obtain⟨p2,c2,rfl,hb2⟩:=aR h2
 have cell:∀ {zs:List Int} {p:Option Addr} {c:Nat},Reads w (ae p zs.length c) zs.length (zs.map (aD ag))→∀k (hk:k<zs.length),∃g off,p=some ⟨g,off,none⟩∧g<w.heap.size∧w.cell? ⟨g,off+k,none⟩=some (ah ag zs[k]):=by
  rintro zs p c (⟨h,_⟩|⟨g,off,cap,h,_,hg,hc⟩) k hk
  ·cases zs with
   |nil=>simp at hk
   |cons z zs=>simp at h
  ·cases h;exact⟨g,off,rfl,hg,hc k _ (by simp[hk])⟩
 have O8:=ai (cell h1);have HC2:=ai (cell h2);clear cell h1 h2
 go_enter Tryz.func46,Tryz.ntmps46
 go_wp2
 go_loopw [5] (fun i wr=>∃k:Nat,k≤ys.length∧k≤xs.length∧i=ah ag k∧dV xs ys=dV (xs.drop k) (ys.drop k)∧az w.heap.size w wr) (fun i _=>ys.length-(intOf i).toNat)
 case atStart=>exact⟨0,by omega,by omega,rfl,by simp,aw _ _⟩
 case round=>
  obtain⟨k,hk2,qg,rfl,he,eh⟩:=hrel;have hsz:=eh.size;have HE:=ai he;have wS:=ai eh;clear he eh
  by_cases hlt:k<ys.length
  ·obtain⟨g2,o2,hp2,hg2,hc2⟩:=HC2.out k hlt;have HY:ld (∀w9,az wr.heap.size wr w9→w9.cell? ⟨g2,o2+k,none⟩=some (ah ag ys[k])):=ai fun w9 h9=>((wS.out.trans (h9.mono hsz)).cell (p:=⟨g2,o2+k,none⟩) hg2).trans hc2
   by_cases hx:k<xs.length
   ·obtain⟨g1,o1,hp1,hg1,hc1⟩:=O8.out k hx;have HX:ld (∀w9,az wr.heap.size wr w9→w9.cell? ⟨g1,o1+k,none⟩=some (ah ag xs[k])):=ai fun w9 h9=>((wS.out.trans (h9.mono hsz)).cell (p:=⟨g1,o1+k,none⟩) hg1).trans hc1;have hst:=IX xs ys k hx hlt;subst hp1;subst hp2;clear hc1 hc2 O8 HC2;generalize xs[k]=x at *;generalize ys[k]=y at *;generalize tW:xs.length=n1 at *;generalize ye:ys.length=n2 at *;have HN1:=ai tW;have HN2:=ai ye;have Uf:=ai hst;clear tW ye hst;have hge:decide ((n1:Int)≤(k:Int))=false:=decide_eq_false (by omega);have Y4:decide (n1≤k)=false:=decide_eq_false (by omega);obtain⟨lt,Ci⟩:∃lt,decide (x<y)=lt:=⟨_,rfl⟩
    go_wp2
    refine Gd.bQ (by kernel_rfl) [
    pV (ah ag k),
     pV (ae (some ⟨g1,o1,none⟩) n1 c1),
     pV (ah ag n1),
     pV (aG false),
     pV (aG false),
     pV (ae (some ⟨g1,o1,none⟩) n1 c1),
     pV (ah ag k),
     pV (bp (some ⟨g1,o1+k,none⟩)),
     pV (ah ag x),
     pV (ae (some ⟨g2,o2,none⟩) n2 c2),
     pV (ah ag k),
     pV (bp (some ⟨g2,o2+k,none⟩)),
     pV (ah ag y),
     pV (aG lt),
     pV (aG lt)]
     (fun w9=>az wr.heap.size wr w9) [(0,ae (some ⟨g1,o1,none⟩) n1 c1),(1,ae (some ⟨g2,o2,none⟩) n2 c2),(5,ah ag k)] (by kernel_rfl) ?rst (fun w1 w2 h hb=>h.trans (hb.mono h.size)) ((aw _ _).drew) ⟨rfl,rfl,rfl,trivial⟩ ?reach ?rfin
    case rst=>
     refine⟨sV,sV,sV,sV,sV,sV,sV,sV,sV,sV,sV,sV,sV,sV,sV,trivial⟩
    case reach=>
     refine⟨?_,?_,?_,?_,?_,?_,?_,?_,?_,?_,?_,?_,?_,?_,?_,trivial⟩<;>rintro ev w1 hS hc hg hf ⟨b0,b1,b5,-⟩ hd
     ·clear hd;exact tV
     ·clear hd;exact tV
     ·have d1:ev (aK 13)=_:=hd.1 rfl;clear hd;exact tV
     ·have d0:ev (aK 12)=_:=hd.1 rfl;have d2:ev (aK 14)=_:=hd.2.1 rfl;clear hd;exact tV
     ·have d3:ev (aK 15)=_:=hd.1 rfl;clear hd;exact tV
     ·have d4:ev (aK 16)=_:=hd.1 rfl;clear hd;refine gL d4 ?_;exact tV
     ·have d4:ev (aK 16)=_:=hd.1 rfl;clear hd;refine gL d4 ?_;exact tV
     ·have d5:ev (aK 17)=_:=hd.1 rfl;have d6:ev (aK 18)=_:=hd.2.1 rfl;have d4:ev (aK 16)=_:=hd.2.2.1 rfl;clear hd;refine gL d4 ?_;exact tV
     ·have d7:ev (aK 19)=_:=hd.1 rfl;have d4:ev (aK 16)=_:=hd.2.1 rfl;clear hd;refine gL d4 ?_;have z:=HX.out w1 hS;exact tV
     ·have d4:ev (aK 16)=_:=hd.1 rfl;clear hd;refine gL d4 ?_;exact tV
     ·have d4:ev (aK 16)=_:=hd.1 rfl;clear hd;refine gL d4 ?_;exact tV
     ·have d9:ev (aK 21)=_:=hd.1 rfl;have d10:ev (aK 22)=_:=hd.2.1 rfl;have d4:ev (aK 16)=_:=hd.2.2.1 rfl;clear hd;refine gL d4 ?_;exact tV
     ·have d11:ev (aK 23)=_:=hd.1 rfl;have d4:ev (aK 16)=_:=hd.2.1 rfl;clear hd;refine gL d4 ?_;have z:=HY.out w1 hS;exact tV
     ·have d8:ev (aK 20)=_:=hd.1 rfl;have d12:ev (aK 24)=_:=hd.2.1 rfl;have d4:ev (aK 16)=_:=hd.2.2.1 rfl;clear hd;refine gL d4 ?_;refine yv ?_ rfl;rw[←Ci];go_simp
     ·have d4:ev (aK 16)=_:=hd.1 rfl;have d13:ev (aK 25)=_:=hd.2.1 rfl;clear hd;exact tV
    case rfin=>
     intro a3 w3 hR;have hS:=hR.s;have Fb:a3.tmps.getD 26 af=_:=hR.val 14 (by decide);have ha:=hR.lits 36 rfl;simp only[aU,bT,nt] at ha;rw[hR.kp 0 (by kernel_rfl),hR.kp 1 (by kernel_rfl),hR.kp 2 (by kernel_rfl),hR.kp 3 (by kernel_rfl),hR.kp 4 (by kernel_rfl),hR.kp 5 (by kernel_rfl)] at ha;simp only[ku,fT,fS] at ha;clear hR;rw[Fb] at ha;generalize a3.tmps.getD=zz at ha;have o9:=ai hS;clear Fb hS;subst ha;cases lt
     ·have h3:¬x<y:=by simpa using Ci
      obtain⟨gt,Y1⟩:∃gt,decide (y<x)=gt:=⟨_,rfl⟩
      go_wp2
      refine Gd.bQ (by kernel_rfl) [
      pV (ae (some ⟨g1,o1,none⟩) n1 c1),
       pV (ah ag k),
       pV (bp (some ⟨g1,o1+k,none⟩)),
       pV (ah ag x),
       pV (ae (some ⟨g2,o2,none⟩) n2 c2),
       pV (ah ag k),
       pV (bp (some ⟨g2,o2+k,none⟩)),
       pV (ah ag y),
       pV (aG gt)]
       (fun w9=>az w3.heap.size w3 w9) [(0,ae (some ⟨g1,o1,none⟩) n1 c1),(1,ae (some ⟨g2,o2,none⟩) n2 c2),(5,ah ag k)] (by kernel_rfl) ?rst (fun w1 w2 h hb=>h.trans (hb.mono h.size)) ((aw _ _).drew) ⟨rfl,rfl,rfl,trivial⟩ ?reach ?rfin
      case rst=>
       refine⟨sV,sV,sV,sV,sV,sV,sV,sV,sV,trivial⟩
      case reach=>
       refine⟨?_,?_,?_,?_,?_,?_,?_,?_,?_,trivial⟩<;>rintro ev w1 hS hc hg hf ⟨b0,b1,b5,-⟩ hd
       ·clear hd;exact tV
       ·clear hd;exact tV
       ·have d0:ev (aK 27)=_:=hd.1 rfl;have d1:ev (aK 28)=_:=hd.2.1 rfl;clear hd;exact tV
       ·have d2:ev (aK 29)=_:=hd.1 rfl;clear hd;have z:=HX.out w1 (o9.out.trans (hS.mono o9.out.size));exact tV
       ·clear hd;exact tV
       ·clear hd;exact tV
       ·have d4:ev (aK 31)=_:=hd.1 rfl;have d5:ev (aK 32)=_:=hd.2.1 rfl;clear hd;exact tV
       ·have d6:ev (aK 33)=_:=hd.1 rfl;clear hd;have z:=HY.out w1 (o9.out.trans (hS.mono o9.out.size));exact tV
       ·have d3:ev (aK 30)=_:=hd.1 rfl;have d7:ev (aK 34)=_:=hd.2.1 rfl;clear hd;refine yv ?_ rfl;rw[←Y1];go_simp
      case rfin=>
       intro a4 w4 hR;have hS:=hR.s;have e8:a4.tmps.getD 35 af=_:=hR.val 8 (by decide);have ha:=hR.lits 36 rfl;simp only[aU,bT,nt] at ha;rw[hR.kp 0 (by kernel_rfl),hR.kp 1 (by kernel_rfl),hR.kp 2 (by kernel_rfl),hR.kp 3 (by kernel_rfl),hR.kp 4 (by kernel_rfl),hR.kp 5 (by kernel_rfl)] at ha;simp only[ku,fT,fS] at ha;clear hR;rw[e8] at ha;generalize a4.tmps.getD=zz at ha;have HB4:=ai hS;clear e8 hS;subst ha;cases gt
       ·have h4:¬y<x:=by simpa using Y1
        have hs:=Uf.out;rw[if_neg (show ¬x<y by omega),if_neg (show ¬y<x by omega)] at hs;have HS:=ai hs;clear hs;go_wp2;go_roundw
        case rel=>exact⟨k+1,by omega,by omega,by go_num,by rw[HE.out,HS.out],wS.out.trans ((o9.out.trans (HB4.out.mono o9.out.size)).mono hsz)⟩
        case measure=>simp[intOf];omega
       ·have h4:y<x:=by simpa using Y1
        have hs:=Uf.out;rw[if_neg (show ¬x<y by omega),if_pos (show y<x by omega)] at hs;have HS:=ai hs;clear hs;go_wp2
        go_ret
        exact⟨by rw[HE.out,HS.out];rfl,wS.out.trans ((o9.out.trans (HB4.out.mono o9.out.size)).mono hsz)⟩
     ·have h3:x<y:=by simpa using Ci
      have hs:=Uf.out;rw[if_pos (show x<y by omega)] at hs;have HS:=ai hs;clear hs;go_wp2
      go_ret
      exact⟨by rw[HE.out,HS.out];rfl,wS.out.trans (o9.out.mono hsz)⟩
   ·obtain rfl:xs.length=k:=by omega
    have hres:dV xs ys=true:=by
     rw[HE.out,List.drop_length,dN hlt];rfl
    have aad:=ai hres;clear hres hc2 HY O8 HC2;generalize tW:xs.length=n1 at *;generalize ye:ys.length=n2 at *;clear tW ye;have hge:decide ((n1:Int)≤(n1:Int))=true:=decide_eq_true (by omega);go_wp2
    refine Gd.bQ (by kernel_rfl) [
    pV (ah ag n1),
     pV (ae p1 n1 c1),
     pV (ah ag n1),
     pV (aG true),
     pV (aG true),
     fun v ds w9=>True,
     fun v ds w9=>True,
     fun v ds w9=>True,
     fun v ds w9=>True,
     fun v ds w9=>True,
     fun v ds w9=>True,
     fun v ds w9=>True,
     fun v ds w9=>True,
     fun v ds w9=>True,
     pV (aG true)]
     (fun w9=>az wr.heap.size wr w9) [(0,ae p1 n1 c1),(1,ae p2 n2 c2),(5,ah ag n1)] (by kernel_rfl) ?rst (fun w1 w2 h hb=>h.trans (hb.mono h.size)) ((aw _ _).drew) ⟨rfl,rfl,rfl,trivial⟩ ?reach ?rfin
    case rst=>
     refine⟨sV,sV,sV,sV,sV,fun _ _ _ _ _ h _=>h,fun _ _ _ _ _ h _=>h,fun _ _ _ _ _ h _=>h,fun _ _ _ _ _ h _=>h,fun _ _ _ _ _ h _=>h,fun _ _ _ _ _ h _=>h,fun _ _ _ _ _ h _=>h,fun _ _ _ _ _ h _=>h,fun _ _ _ _ _ h _=>h,sV,trivial⟩
    case reach=>
     refine⟨?_,?_,?_,?_,?_,?_,?_,?_,?_,?_,?_,?_,?_,?_,?_,trivial⟩<;>rintro ev w1 hS hc hg hf ⟨b0,b1,b5,-⟩ hd
     ·clear hd;exact tV
     ·clear hd;exact tV
     ·have d1:ev (aK 13)=_:=hd.1 rfl;clear hd;exact tV
     ·have d0:ev (aK 12)=_:=hd.1 rfl;have d2:ev (aK 14)=_:=hd.2.1 rfl;clear hd;exact tV
     ·have d3:ev (aK 15)=_:=hd.1 rfl;clear hd;exact tV
     ·have d4:ev (aK 16)=_:=hd.1 rfl;clear hd;refine⟨fun hgd=>absurd (d4.symm.trans hgd) (by simp),fun hgd=>⟨trivial,cA (aw _ _)⟩⟩
     ·have d4:ev (aK 16)=_:=hd.1 rfl;clear hd;refine⟨fun hgd=>absurd (d4.symm.trans hgd) (by simp),fun hgd=>⟨trivial,cA (aw _ _)⟩⟩
     ·have d4:ev (aK 16)=_:=hd.2.2.1 rfl;clear hd;refine⟨fun hgd=>absurd (d4.symm.trans hgd) (by simp),fun hgd=>⟨trivial,cA (aw _ _)⟩⟩
     ·have d4:ev (aK 16)=_:=hd.2.1 rfl;clear hd;refine⟨fun hgd=>absurd (d4.symm.trans hgd) (by simp),fun hgd=>⟨trivial,cA (aw _ _)⟩⟩
     ·have d4:ev (aK 16)=_:=hd.1 rfl;clear hd;refine⟨fun hgd=>absurd (d4.symm.trans hgd) (by simp),fun hgd=>⟨trivial,cA (aw _ _)⟩⟩
     ·have d4:ev (aK 16)=_:=hd.1 rfl;clear hd;refine⟨fun hgd=>absurd (d4.symm.trans hgd) (by simp),fun hgd=>⟨trivial,cA (aw _ _)⟩⟩
     ·have d4:ev (aK 16)=_:=hd.2.2.1 rfl;clear hd;refine⟨fun hgd=>absurd (d4.symm.trans hgd) (by simp),fun hgd=>⟨trivial,cA (aw _ _)⟩⟩
     ·have d4:ev (aK 16)=_:=hd.2.1 rfl;clear hd;refine⟨fun hgd=>absurd (d4.symm.trans hgd) (by simp),fun hgd=>⟨trivial,cA (aw _ _)⟩⟩
     ·have d4:ev (aK 16)=_:=hd.2.2.1 rfl;clear hd;refine⟨fun hgd=>absurd (d4.symm.trans hgd) (by simp),fun hgd=>⟨trivial,cA (aw _ _)⟩⟩
     ·have d4:ev (aK 16)=_:=hd.1 rfl;clear hd;exact tV
    case rfin=>
     intro a3 w3 hR;have hS:=hR.s;have Fb:a3.tmps.getD 26 af=_:=hR.val 14 (by decide);have ha:=hR.lits 36 rfl;simp only[aU,bT,nt] at ha;rw[hR.kp 0 (by kernel_rfl),hR.kp 1 (by kernel_rfl),hR.kp 2 (by kernel_rfl),hR.kp 3 (by kernel_rfl),hR.kp 4 (by kernel_rfl),hR.kp 5 (by kernel_rfl)] at ha;simp only[ku,fT,fS] at ha;clear hR;rw[Fb] at ha;generalize a3.tmps.getD=zz at ha;have o9:=ai hS;clear Fb hS;subst ha;go_wp2
     go_ret
     exact⟨by rw[aad.out];rfl,wS.out.trans (o9.out.mono hsz)⟩
  ·obtain rfl:ys.length=k:=by omega
   have hres:dV xs ys=false:=by
    rw[HE.out,List.drop_length];cases(xs.drop ys.length)<;>rfl
   have aad:=ai hres;clear hres O8 HC2;generalize tW:xs.length=n1 at *;generalize ye:ys.length=n2 at *;clear tW ye;go_wp2
   go_ret
   exact⟨by rw[aad.out];rfl,wS.out⟩
theorem Hp(xs ys:List Int)(v1 v2:aj)(w:ar)(h1:Reads w v1 xs.length (xs.map (aD ag)))(h2:Reads w v2 ys.length (ys.map (aD ag))) :
  bm aq 22 #[v1,v2] w fun e w'=>e=aF (aG (decide (xs=ys)))∧az w.heap.size w w':=by
 have hA:∀W,az w.heap.size w W→bm aq 46 #[v1,v2] W fun e w'=>e=aF (aG (dV xs ys))∧az W.heap.size W w':=fun W hb=>uZ xs ys v1 v2 W (h1.below hb) (h2.below hb);have hB:∀W,az w.heap.size w W→bm aq 46 #[v2,v1] W fun e w'=>e=aF (aG (dV ys xs))∧az W.heap.size W w':=fun W hb=>uZ ys xs v2 v1 W (h2.below hb) (h1.below hb);obtain⟨p1,c1,rfl,_⟩:=aR h1;obtain⟨p2,c2,rfl,_⟩:=aR h2;rw[←zg];generalize dV xs ys=r at *;generalize dV ys xs=s at *;generalize xs.length=n1 at *;generalize ys.length=n2 at *;have HA:=ai hA;have HB:=ai hB;clear hA hB h1 h2;cases r
 ·go_enter Tryz.func22,Tryz.ntmps22
  go_wp2_with fail
  refine(HA.out w (aw _ _)).mono ?_;rintro e w1 ⟨rfl,hb1⟩;have H1:=ai hb1;clear hb1
  go_wp2_with fail
  refine(HB.out w1 H1.out).mono ?_;rintro e w2 ⟨rfl,hb2⟩;have H2:=ai hb2;clear hb2;go_wp2
  go_ret
  exact⟨rfl,H1.out.trans (H2.out.mono H1.out.size)⟩
 ·go_enter Tryz.func22,Tryz.ntmps22
  go_wp2_with fail
  refine(HA.out w (aw _ _)).mono ?_;rintro e w1 ⟨rfl,hb1⟩;have H1:=ai hb1;clear hb1;go_wp2
  go_ret
  exact⟨rfl,H1.out⟩
end Go.Proofs.YtffladgmkiimjaaGreatDoor
namespace Go.Lag
open Go Go.RowKit Go.Proofs.YtffladgmkiimjaaGreatDoor
abbrev Es:=List (kz × En)
def Vi(d:kz)(ch:List (Nat × Bool)):Bool:=ch.all fun p=>!Nat.beq p.1 d
section
variable(P:aI)(ops:Array cz)(base:List (kz × aj))(C:Cf)(n:Nat)
def qT(es:Es):bE→aj
 |.const v=>v
 |.global g=>.pointer (some ⟨g,0,none⟩)
 |.func f=>.func (.func f) #[] #[]
 |.tmp t=>match lL es t with
  |some e=>e.2.1
  |none=>(lL base t).getD af
def Rc(es:Es)(ch:List (Nat × Bool)):bE→Bool
 |.tmp t=>match lL es t with
  |some e=>subs e.1 ch
  |none=>(lL base t).isSome
 |_=>true
def QP(es:Es)(g:kz):List (Nat × Bool):=match lL es g with|some e=>e.1|none=>[]
def Qx(es:Es)(o:cz):Option (List (Nat × Bool)):=
 match o.guard with
 |none=>some []
 |some (j,b)=>match dT ops j with
  |none=>none
  |some g=>match lL C.lits g with
   |some b'=>bif b'==b then some (QP es g) else none
   |none=>some ((g,b)::QP es g)
def Yt:bE→Option Bool
 |.tmp t=>lL C.lits t
 |_=>none
def NT(c:bE)(b:Bool)(ch:List (Nat × Bool)):List (Nat × Bool):=
 match c with
 |.tmp t=>(t,b)::ch
 |_=>ch
def Gm(es:Es)(i:Nat)(o:cz):Option (Next × List Nat):=look P (TS C i) (bX (qT base es) o)
def wX(es:Es)(i:Nat)(o:cz):aj × List Nat:=
 match lL C.hs i with
 |some v=>(v,[])
 |none=>match o.op with
  |.pick c a b=>(match Yt C c with
   |some true=>qT base es a
   |some false=>qT base es b
   |none=>bools (qT base es c) (qT base es a) (qT base es b),[])
  |_=>match Gm P base C es i o with
   |some (.value v,bl)=>(v,bl)
   |_=>(af,[])
def rA(es:Es)(i:Nat)(o:cz):En:=
 match Qx ops C es o with
 |none=>([],af,[])
 |some ch=>(ch,wX P base C es i o)
def Ml(es:Es)(i:Nat)(o:cz):Es:=
 match o.dst with
 |some d=>(d,rA P ops base C es i o)::es
 |none=>es
def Fp:Nat→List cz→Es→Es
 |_,[],es=>es
 |i,o::l,es=>Fp (i+1) l (Ml P ops base C es i o)
def jL(es:Es)(ch:List (Nat × Bool)):Bool:=ch.all fun p=>MG (qT base es (.tmp p.1)) p.2
def okO(es:Es)(i:Nat)(o:cz)(ch:List (Nat × Bool)):Bool:=
 match o.op with
 |.pick c a b=>(lL C.hs i).isNone&&Rc base es ch c&&(match Yt C c with
  |some true=>MG (qT base es c) true&&Rc base es ch a
  |some false=>MG (qT base es c) false&&Rc base es ch b
  |none=>isBool (qT base es c)&&isBool (qT base es a)&&isBool (qT base es b)&&Rc base es (NT c true ch) a&&Rc base es (NT c false ch) b)
 |_=>(match tT o.op with
   |some l=>l.all (Rc base es ch)
   |none=>false) &&
  (match lL C.hs i with
  |some _=>true
  |none=>match Gm P base C es i o with
   |some (.value _,bl)=>(qc C i).isSome||bl.isEmpty
   |_=>false)
def Ts(es:Es)(o:cz):Bool:=
 match o.guard with
 |none=>true
 |some (j,_)=>match dT ops j with
  |none=>false
  |some g=>((lL es g).isSome||(lL base g).isSome)&&(match lL C.lits g with | some b'=>MG (qT base es (.tmp g)) b' | none=>true)
def OP(es:Es)(e:En)(o:cz):Bool:=
 match o.dst with
 |none=>true
 |some d=>Nat.blt d n&&Vi d e.1&&es.all fun p=>Vi d p.2.1
def Wj:Nat→List cz→Es→Bool
 |_,[],_=>true
 |i,o::l,es=>(Ts ops base C es o&&(match Qx ops C es o with
  |none=>true
  |some ch=>okO P base C es i o ch)&&OP n es (rA P ops base C es i o) o)&&Wj (i+1) l (Ml P ops base C es i o)
def Vp:Nat→List cz→Es→List (List Nat)
 |_,[],_=>[]
 |i,o::l,es=>(rA P ops base C es i o).2.2::Vp (i+1) l (Ml P ops base C es i o)
def Vo:Nat→List cz→Es→List (List Nat)
 |_,[],_=>[]
 |i,o::l,es=>((rA P ops base C es i o).2.2.map fun _=>((qc C i).map (·.1)).getD 0)::Vo (i+1) l (Ml P ops base C es i o)
def zl(i k:Nat):List Oper:=(ops.toList.drop i).take k
def KU(i j:Nat):Es:=Fp P ops base C i (zl ops i (j-i)) []
def Rm(G:Nat→Sem Next→ar→aj→Prop)(S:ar→Prop)(i:Nat):List (Nat × aj)→Prop
 |[]=>True
 |p::l=>(∀w,S w→jL base (KU P ops base C i p.1) (rA P ops base C (KU P ops base C i p.1) p.1 (opAt ops p.1)).1=true→G p.1 (bX (qT base (KU P ops base C i p.1)) (opAt ops p.1)) w p.2)∧Rm G S i l
def abe(es:Es)(t:kz):Option Value:=
 match lL es t with
 |some e=>match e.1 with|[]=>some e.2.1|_=>none
 |none=>none
structure Lz(a0:iR)(es:Es)(a:iR):Prop where
 size:a.tmps.size=n
 defers:a.defers=[]
 ent:∀t e,lL es t=some e→a.eval (.tmp t)=LO (jL base es e.1) e.2.1
 bas:∀t v,lL es t=none→lL base t=some v→a.eval (.tmp t)=v
 keep:∀t,lL es t=none→a.eval (.tmp t)=a0.eval (.tmp t)
structure vS(Wp:List Nat→iR→ar→Prop)(Y:lK):Prop where
 go:∀i rest o a w R,ops[i]?=some o→cF o (jR ops a.tmps)=true→Y o a.eval w R→(∀v w',R v w'→Wp rest (a.put o.dst v) w')→Wp (i::rest) a w
 no:∀i rest o a w,ops[i]?=some o→¬cF o (jR ops a.tmps)=true→Wp rest (a.put o.dst af) w→Wp (i::rest) a w
def yC(dL:List (kz × aj))(i k:Nat)(outs:List (kz × aj)):Bool × List (List Nat) × List (Option aj):=
 (Nat.ble (i+k) ops.size&&(dL.all fun p=>(lL (Fp P ops base C i (zl ops i k) []) p.1).isNone)&&Wj P ops base C n i (zl ops i k) [],Vp P ops base C i (zl ops i k) [],outs.map fun p=>abe (Fp P ops base C i (zl ops i k) []) p.1)
def yB(i k:Nat)(outs:List (kz × aj)):Bool × List (List Nat) × List (Option aj):=(true,Vo P ops base C i (zl ops i k) [],outs.map fun p=>some p.2)
end
section
variable{P:aI}{ops:Array cz}{base:List (kz × aj)}{C:Cf}{n:Nat}{S:ar→Prop}{a0:iR}
theorem uS{β:Type}(d:Nat)(e:β)(es:List (Nat × β))(t:Nat):lL ((d,e)::es) t=if d=t then some e else lL es t:=by
 show(bif Nat.beq d t then some e else lL es t)=_;cases hb:Nat.beq d t with
 |true=>rw[if_pos (gS hb)];rfl
 |false=>rw[if_neg (fun h=>by subst h;rw[Nat.beq_refl] at hb;cases hb)];rfl
theorem CP{es:Es}{t:kz}:qT base es (.tmp t)=match lL es t with|some e=>e.2.1|none=>(lL base t).getD undef:=rfl
theorem Jz{o:cz}{j g:Nat}{b:Bool}{a:iR}(hgd:o.guard=some (j,b))(LK:dT ops j=some g):cF o (jR ops a.tmps)=true↔a.eval (.tmp g)=.bool b:=by
 have hd:(ops[j]?).bind (·.dst)=some g:=LK;have hy:jR ops a.tmps j=match a.tmps[g]? with|some (.bool x)=>some x|_=>none:=by unfold jR;rw[hd];rfl
 have he:a.eval (.tmp g)=(a.tmps[g]?).getD undef:=by unfold Act.eval;simp only[Array.getD_eq_getD_getElem?]
 unfold cF;rw[hgd,he];simp only[];rw[hy];cases h8:a.tmps[g]? with
 |none=>simp[af]
 |some v=>cases v<;>simp
theorem DV{ev:bE→aj}{t:kz}{v:aj}:∀ {l:List (kz × aj)},gF ev l→lL l t=some v→ev (.tmp t)=v
 |p::l,hb,h=>by
  obtain⟨d,x⟩:=p;rw[uS] at h;split at h
  ·rename_i hd;subst hd;cases h;exact hb.1
  ·exact DV hb.2 h
theorem W8{es:Es}{a:iR}{ch:List (Nat × Bool)}(hi:Lz base n a0 es a)(hc:jL base es ch=true):∀ {x:bE},Rc base es ch x=true→a.eval x=qT base es x
 |.const v,_=>rfl
 |.global g,_=>rfl
 |.func f,_=>rfl
 |.tmp t,h=>by
  unfold Rc at h;unfold qT;simp only[] at h ⊢;cases hs:lL es t with
  |none=>
   rw[hs] at h;simp only[] at h ⊢;cases hk:lL base t with
   |none=>rw[hk] at h;cases h
   |some v=>exact hi.bas t v hs hk
  |some e=>
   rw[hs] at h;simp only[] at h ⊢;rw[hi.ent t e hs]
   have:jL base es e.1=true:=by
    unfold subs at h;unfold jL at *;rw[aW] at *;intro p hp;obtain⟨q,hq,h1⟩:=List.any_eq_true.1 (h p hp);rw[aC] at h1;have h2:=hc q hq;rw[gS h1.1,eq_of_beq h1.2];exact h2
   rw[this];rfl
theorem K5{es:Es}{d:kz}{e:En}{ch:List (Nat × Bool)}(h:Vi d ch=true):jL base ((d,e)::es) ch=jL base es ch:=by
 unfold jL;unfold Vi at h;rw[aW] at h;rw[Bool.eq_iff_iff,aW,aW];refine forall_congr' fun p=>forall_congr' fun hp=>?_;have h1:=h p hp;have hne:d≠p.1:=fun e=>by rw[←e,Nat.beq_refl] at h1;cases h1
 rw[CP,CP,uS,if_neg hne]
theorem Oq{es:Es}{a:iR}{i:Nat}{o:cz}{v:aj}(hi:Lz base n a0 es a)(hd:OP n es (rA P ops base C es i o) o=true)(hv:∀d,o.dst=some d→v=LO (jL base es (rA P ops base C es i o).1) (rA P ops base C es i o).2.1) :
  Lz base n a0 (Ml P ops base C es i o) (a.put o.dst v):=by
 unfold Ml;unfold OP at hd;cases hdd:o.dst with
 |none=>exact⟨hi.size,hi.defers,hi.ent,hi.bas,hi.keep⟩
 |some d=>
  rw[hdd] at hd;simp only[aC] at hd ⊢;obtain⟨⟨h1,h2⟩,h3⟩:=hd
  have hdn:d<n:=by
   unfold Nat.blt at h1;exact Nat.le_of_ble_eq_true h1
  rw[aW] at h3;refine⟨by rw[yD,hi.size],by rw[put_defers,hi.defers],fun t e ht=>?_,fun t u ht hb=>?_,fun t ht=>?_⟩
  ·rw[uS] at ht;split at ht
   ·rename_i Y7;subst Y7;cases ht;rw[put_eq a d v (by rw[hi.size];exact hdn),K5 h2];exact hv d hdd
   ·rename_i Y7;rw[sQ _ _ _ _ (by simpa using Y7),hi.ent t e ht,K5];exact h3 (t,e) (yT ht)
  ·rw[uS] at ht;split at ht
   ·cases ht
   ·rename_i Y7;rw[sQ _ _ _ _ (by simpa using Y7)];exact hi.bas t u ht hb
  ·rw[uS] at ht;split at ht
   ·cases ht
   ·rename_i Y7;rw[sQ _ _ _ _ (by simpa using Y7)];exact hi.keep t ht
theorem Rm.get{G:Nat→Sem Next→ar→aj→Prop}{i:Nat}:∀ {l:List (Nat × aj)} {p:Nat × aj},Rm P ops base C G S i l→p∈l→∀w,S w→jL base (KU P ops base C i p.1) (rA P ops base C (KU P ops base C i p.1) p.1 (opAt ops p.1)).1=true→G p.1 (bX (qT base (KU P ops base C i p.1)) (opAt ops p.1)) w p.2
 |q::l,p,h,hp=>by
  rcases List.mem_cons.1 hp with rfl|hp
  ·exact h.1
  ·exact Rm.get h.2 hp
theorem UU{es:Es}{i:Nat}{o:cz}(Qi:∀c a b,o.op≠.pick c a b)(Ak:lL C.hs i=none):wX P base C es i o=match Gm P base C es i o with|some (.value v,bl)=>(v,bl)|_=>(af,[]):=by
 unfold wX;rw[Ak];cases ho:o.op<;>first|exact absurd ho (Qi _ _ _)|rfl
theorem Yj{es:Es}{i:Nat}{o:cz}{ch:List (Nat × Bool)}(Qi:∀c a b,o.op≠.pick c a b):okO P base C es i o ch=((match tT o.op with | some l=>l.all (Rc base es ch) | none=>false)&&(match lL C.hs i with | some _=>true | none=>match Gm P base C es i o with | some (.value _,bl)=>(qc C i).isSome||bl.isEmpty | _=>false)):=by
 unfold okO;cases ho:o.op<;>first|exact absurd ho (Qi _ _ _)|rfl
theorem XZ{Wp:List Nat→iR→ar→Prop}{Y:lK}{G:Nat→Sem Next→ar→aj→Prop}{T:ar→ar→Prop}(L:vS ops Wp Y)(UG:∀w w',S w→T w w'→S w')(Qr:∀w,T w w)
  {i:Nat} {o:cz} (ho:ops[i]?=some o) (hn:lL C.hs i=none→∀s w v,s.run P w=.ok (.value v) w→G i s w v)
  (hY:∀ev w v R,S w→(∀w',S w'→G i (bX ev o) w' v)→(∀w',T w w'→R v w')→Y o ev w R) (hm:nA S C.mem)
  {es:Es} {a:iR} {w:ar} {rest:List Nat} (hi:Lz base n a0 es a) (hS:S w) (h1:Ts ops base C es o=true) (h2:∀ch,Qx ops C es o=some ch→okO P base C es i o ch=true) (h3:OP n es (rA P ops base C es i o) o=true)
  (h4:∀b∈(rA P ops base C es i o).2.2,b=((qc C i).map (·.1)).getD 0) (h5:∀v,lL C.hs i=some v→∀w,S w→jL base es (rA P ops base C es i o).1=true→G i (bX (qT base es) o) w v)
  (hk:∀a w,S w→Lz base n a0 (Ml P ops base C es i o) a→Wp rest a w):Wp (i::rest) a w:=by
 have go:∀ch,Qx ops C es o=some ch→jL base es ch=true→cF o (jR ops a.tmps)=true→Wp (i::rest) a w:=fun ch hgd lI hw=>by
  have uj:=h2 ch hgd;have hse:rA P ops base C es i o=(ch,wX P base C es i o):=by unfold rA;rw[hgd]
  have hput:∀w',T w w'→∀u,u=(wX P base C es i o).1→Wp rest (a.put o.dst u) w':=fun w' ht u hu=>hk _ _ (UG _ _ hS ht) (Oq hi h3 fun d _=>by
   rw[hse];show u=LO (jL base es ch) (wX P base C es i o).1
   rw[lI,hu];rfl)
  have hop:∀ {ch':List (Nat × Bool)} {x:bE},jL base es ch'=true→Rc base es ch' x=true→a.eval x=qT base es x:=fun g1 g2=>W8 hi g1 g2
  have fin:(∀w',S w'→G i (bX a.eval o) w' (wX P base C es i o).1)→Wp (i::rest) a w:=fun hg=>
   L.go i rest o a w (fun v w'=>v=(wX P base C es i o).1∧T w w') ho hw (hY _ _ _ _ hS hg fun w' ht=>⟨rfl,ht⟩) fun v w' ⟨e,ht⟩=>hput w' ht v e
  have rest':(∀c a b,o.op≠.pick c a b)→Wp (i::rest) a w:=fun Qi=>by
   have h6:(match tT o.op with | some l=>l.all (Rc base es ch) | none=>false)=true∧(match lL C.hs i with | some _=>true | none=>match Gm P base C es i o with | some (.value _,bl)=>(qc C i).isSome||bl.isEmpty | _=>false)=true:=by
    rw[Yj Qi,aC] at uj;exact uj
   cases hl:tT o.op with
   |none=>rw[hl] at h6;cases h6.1
   |some l=>
    rw[hl] at h6;have hex:bX a.eval o=bX (qT base es) o:=execOp_congr hl fun x hx=>hop lI (aW.1 h6.1 x hx);cases Ak:lL C.hs i with
    |some v=>
     have hv:(wX P base C es i o).1=v:=by unfold wX;rw[Ak]
     refine fin fun w' LN=>?_;rw[hex,hv];exact h5 v Ak w' LN (by rw[hse];exact lI)
    |none=>
     rw[Ak] at h6;cases hlk:Gm P base C es i o with
     |none=>rw[hlk] at h6;cases h6.2
     |some nb=>
      obtain⟨nx,bl⟩:=nb;rw[hlk] at h6;cases nx<;>try (cases h6.2;done)
      rename_i v;have hv:wX P base C es i o=(v,bl):=by rw[UU Qi Ak,hlk]
      refine fin fun w' LN=>hn Ak _ _ _ ?_;rw[hv,hex];refine mY hlk fun b Qp=>?_;have h7:=h4 b (by rw[hse,hv];exact Qp);have h8:=h6.2;simp only[] at h8;unfold TS;cases hmm:qc C i with
      |none=>
       rw[hmm] at h8;cases bl with
       |nil=>cases Qp
       |cons _ _=>cases h8
      |some m=>
       rw[hmm] at h7;have h7:b=m.1:=h7;subst h7;unfold qc at hmm;exact hm.get (List.mem_of_getElem? hmm) w' LN
  by_cases Rh:∃c a b,o.op=.pick c a b
  case neg=>exact rest' fun c a b h=>Rh ⟨c,a,b,h⟩
  obtain⟨c,x,y,Aj⟩:=Rh;unfold okO at uj;rw[Aj] at uj;simp only[aC] at uj;obtain⟨⟨hnone,YL⟩,rq⟩:=uj;have Ak:lL C.hs i=none:=by simpa using hnone
  have MR:=hop lI YL;cases IC:Yt C c with
  |some t=>
   rw[IC] at rq
   have hv:(wX P base C es i o).1=if t then qT base es x else qT base es y:=by
    unfold wX;rw[Ak,Aj];simp only[IC];cases t<;>rfl
   cases t with
   |true=>
    rw[aC] at rq;refine fin fun w' LN=>hn Ak _ _ _ ?_;rw[hv,qK Aj (MR.trans (nV.1 rq.1)),if_pos rfl,if_pos rfl,hop lI rq.2]
   |false=>
    rw[aC] at rq;refine fin fun w' LN=>hn Ak _ _ _ ?_;rw[hv,qK Aj (MR.trans (nV.1 rq.1)),if_neg (by simp),if_neg (by simp),hop lI rq.2]
  |none=>
   rw[IC] at rq;simp only[aC] at rq;obtain⟨⟨⟨⟨g1,g2⟩,g3⟩,g4⟩,g5⟩:=rq
   have hv:(wX P base C es i o).1=bools (qT base es c) (qT base es x) (qT base es y):=by
    unfold wX;rw[Ak,Aj];simp only[IC]
   have ib:∀ {v:aj},isBool v=true→∃x,v=.bool x:=fun {v} h=>by cases v<;>first|exact⟨_,rfl⟩|cases h
   obtain⟨t,ht⟩:=ib g1;obtain⟨x',hx⟩:=ib g2;obtain⟨y',hy⟩:=ib g3
   have hw2:∀q,t=q→jL base es (NT c q ch)=true:=fun q hq=>by
    unfold NT;cases c<;>simp only[]<;>try exact lI
    unfold jL at lI ⊢;rw[List.all_cons,lI,ht,hq];cases q<;>rfl
   refine fin fun w' LN=>hn Ak _ _ _ ?_;rw[hv,qK Aj (MR.trans ht),ht,hx,hy];cases t with
   |true=>rw[if_pos rfl,hop (hw2 true rfl) g4,hx];rfl
   |false=>rw[if_neg (by simp),hop (hw2 false rfl) g5,hy];rfl
 cases hgd:o.guard with
 |none=>exact go [] (by unfold Qx;rw[hgd]) rfl (by simp[cF,hgd])
 |some jb=>
  obtain⟨j,b⟩:=jb;unfold Ts at h1;rw[hgd] at h1;simp only[] at h1;cases LK:dT ops j with
  |none=>rw[LK] at h1;cases h1
  |some g=>
   rw[LK] at h1;simp only[aC] at h1;obtain⟨hkn,hlt⟩:=h1
   have hval:a.eval (.tmp g)=LO (jL base es (QP es g)) (qT base es (.tmp g)):=by
    unfold QP;rw[CP];cases qy:lL es g with
    |some e=>exact hi.ent g e qy
    |none=>
     rw[qy] at hkn;cases hb:lL base g with
     |none=>rw[hb] at hkn;cases hkn
     |some v=>rw[hi.bas g v qy hb];rfl
   have SV:=Jz (a:=a) hgd LK
   have skip:rA P ops base C es i o=([],af,[])∨jL base es (rA P ops base C es i o).1=false→¬a.eval (.tmp g)=.bool b→Wp (i::rest) a w:=fun hs hne=>
    L.no i rest o a w ho (fun h=>hne (SV.1 h)) (hk _ _ hS (Oq hi h3 fun d _=>by
     rcases hs with hs|hs
     ·rw[hs];rfl
     ·rw[hs];rfl))
   cases qy:lL C.lits g with
   |some b'=>
    rw[qy] at hlt;rw[nV.1 hlt] at hval
    by_cases zM:b'=b
    ·subst zM;have vV:Qx ops C es o=some (QP es g):=by unfold Qx;rw[hgd];simp only[LK,qy];simp
     cases hcc:jL base es (QP es g) with
     |true=>rw[hcc] at hval;exact go _ vV hcc (SV.2 hval)
     |false=>rw[hcc] at hval;exact skip (.inr (by unfold rA;rw[vV];exact hcc)) (by rw[hval];simp[LO,af])
    ·have vV:Qx ops C es o=none:=by
      unfold Qx;rw[hgd];simp only[LK,qy];have:(b'==b)=false:=beq_false_of_ne zM;rw[this];rfl
     refine skip (.inl (by unfold rA;rw[vV])) ?_;rw[hval];cases jL base es (QP es g) with
     |true=>simp[LO];exact zM
     |false=>simp[LO,af]
   |none=>
    have vV:Qx ops C es o=some ((g,b)::QP es g):=by unfold Qx;rw[hgd];simp only[LK,qy]
    have hca:jL base es ((g,b)::QP es g)=(MG (qT base es (.tmp g)) b&&jL base es (QP es g)):=by unfold jL;rw[List.all_cons]
    cases hcc:jL base es (QP es g) with
    |false=>rw[hcc] at hval;exact skip (.inr (by unfold rA;rw[vV];show jL base es ((g,b)::QP es g)=false;rw[hca,hcc,Bool.and_false])) (by rw[hval];simp[LO,af])
    |true=>
     rw[hcc] at hval;have hval:a.eval (.tmp g)=qT base es (.tmp g):=hval;cases hib:MG (qT base es (.tmp g)) b with
     |true=>exact go _ vV (by rw[hca,hcc,hib];rfl) (SV.2 (hval.trans (nV.1 hib)))
     |false=>
      refine skip (.inr (by unfold rA;rw[vV];show jL base es ((g,b)::QP es g)=false;rw[hca,hib];rfl)) fun h=>?_;have h9:=nV.2 (hval.symm.trans h);rw[hib] at h9;cases h9
theorem NZ{Wp:List Nat→iR→ar→Prop}{Y:lK}{G:Nat→Sem Next→ar→aj→Prop}{T:ar→ar→Prop}(L:vS ops Wp Y)(UG:∀w w',S w→T w w'→S w')(Qr:∀w,T w w)
  (hn:∀i,lL C.hs i=none→∀s w v,s.run P w=.ok (.value v) w→G i s w v)
  (hY:∀i o ev w v R,S w→(∀w',S w'→G i (bX ev o) w' v)→(∀w',T w w'→R v w')→Y o ev w R) (hm:nA S C.mem) {rest:List Nat} :
  ∀(l:List cz) (i:Nat) (es:Es) (a:iR) (w:ar),(∀j o,l[j]?=some o→ops[i+j]?=some o)→Wj P ops base C n i l es=true→Vp P ops base C i l es=Vo P ops base C i l es→
  (∀j v,lL C.hs (i+j)=some v→j<l.length→∀w,S w→jL base (Fp P ops base C i (l.take j) es) (rA P ops base C (Fp P ops base C i (l.take j) es) (i+j) (opAt ops (i+j))).1=true→G (i+j) (bX (qT base (Fp P ops base C i (l.take j) es)) (opAt ops (i+j))) w v)→
  Lz base n a0 es a→S w→(∀a w,S w→Lz base n a0 (Fp P ops base C i l es) a→Wp rest a w)→Wp (bS i l.length++rest) a w
 |[],i,es,a,w,_,_,_,_,hi,hS,hk=>hk a w hS hi
 |o::l,i,es,a,w,hat,hck,Qj,hh,hi,hS,hk=>by
  have ho:ops[i]?=some o:=hat 0 o rfl;have hoa:opAt ops i=o:=by unfold opAt;simp[List.getD,ho]
  unfold Wj at hck;rw[aC,aC,aC] at hck;unfold Vp Vo at Qj;rw[zP] at Qj;show Wp (i::(bS (i+1) l.length++rest)) a w;refine XZ L UG Qr ho (hn i) (hY i o) hm hi hS hck.1.1.1 (fun ch hg=>by have:=hck.1.1.2;rw[hg] at this;exact this) hck.1.2 (fun b hb=>?_) (fun v hv w' LN hc=>?_) fun a' w' LN hi'=>?_
  ·rw[Qj.1] at hb;obtain⟨_,_,rfl⟩:=dc.1 hb;rfl
  ·have:=hh 0 v hv (by simp) w' LN;rw[Nat.add_zero,hoa] at this;exact this hc
  ·refine NZ L UG Qr hn hY hm l (i+1) _ a' w' (fun j o' hj=>?_) hck.2 Qj.2 (fun j v hv hj w2 Qs hc=>?_) hi' LN hk
   ·have:=hat (j+1) o' (by simpa using hj);rwa [show i+1+j=i+(j+1) by omega]
   ·have:=hh (j+1) v (by rwa [show i+(j+1)=i+1+j by omega]) (by simpa using hj) w2 Qs;rw[show i+(j+1)=i+1+j by omega] at this;exact this hc
theorem Hv{Wp:List Nat→iR→ar→Prop}{Y:lK}{G:Nat→Sem Next→ar→aj→Prop}{T:ar→ar→Prop}(L:vS ops Wp Y)(UG:∀w w',S w→T w w'→S w')(Qr:∀w,T w w)
  (hn:∀i,lL C.hs i=none→∀s w v,s.run P w=.ok (.value v) w→G i s w v)
  (hY:∀i o ev w v R,S w→(∀w',S w'→G i (bX ev o) w' v)→(∀w',T w w'→R v w')→Y o ev w R)
  {dL:List (kz × aj)} {i k m:Nat} {outs:List (kz × aj)} {W:ar} (hF:iV n a0 base) (hF2:iV n a0 dL) (hr:yC P ops base C n dL i k outs=yB P ops base C i k outs) (hS:S W) (hm:nA S C.mem) (hh:Rm P ops base C G S i C.hs)
  (hy:uz (fun l=>∀a w,S w→iV n a l→Wp (bS (i+k) m) a w) outs dL):Wp (bS i (k+m)) a0 W:=by
 unfold yC yB at hr;rw[iq,iq,aC,aC] at hr;obtain⟨⟨⟨hsz,hb2⟩,hck⟩,Qj,hout⟩:=hr;have hsz:=Nat.le_of_ble_eq_true hsz;have hlen:(zl ops i k).length=k:=by unfold zl;simp;omega
 have hcut:∀j o,(zl ops i k)[j]?=some o→ops[i+j]?=some o:=fun j o h=>by
  unfold zl at h;rw[List.getElem?_take] at h;split at h
  ·rw[List.getElem?_drop] at h;simpa using h
  ·cases h
 have key:=NZ (rest:=bS (i+k) m) (a0:=a0) L UG Qr hn hY hm (zl ops i k) i [] a0 W hcut hck Qj (fun j v hv hj w hSw=>?_) ⟨hF.size,hF.defers,(fun t e h=>by cases h),(fun t v _ h=>DV hF.base h),fun _ _=>rfl⟩ hS fun a w hSw hi=>?_
 ·rw[hlen] at key;rwa [List.range'_append_1] at key
 ·have:=hh.get (yT hv) w hSw
  have e:KU P ops base C i (i+j)=Fp P ops base C i ((zl ops i k).take j) []:=by
   unfold KU zl;rw[List.take_take,show i+j-i=j by omega,Nat.min_eq_left (by rw[hlen] at hj;omega)]
  simp only[e] at this;exact this
 ·refine hy.get a w hSw (iV.rev ?_)
  have S8:iV n a dL:=by
   refine⟨hi.size,hi.defers,hF2.base.congr fun p hp=>hi.keep _ ?_⟩;have:=aW.1 hb2 p hp;simpa using this
  refine⟨S8.size,S8.defers,?_⟩;clear hy
  induction outs with
  |nil=>exact S8.base
  |cons p l ih=>
   rw[cK,cK,zP] at hout;refine⟨?_,ih hout.2⟩;have h1:=hout.1;unfold abe at h1;cases he:lL (Fp P ops base C i (zl ops i k) []) p.1 with
   |none=>rw[he] at h1;cases h1
   |some e=>
    rw[he] at h1;simp only[] at h1;cases hc:e.1 with
    |cons _ _=>rw[hc] at h1;cases h1
    |nil=>
     rw[hc] at h1;have:=hi.ent p.1 e he;rw[hc] at this;rw[this,←bf h1];rfl
variable{Q:Exit→iR→ar→Prop}
theorem Kb:vS ops (wpOps P ops Q) (Yields P):=
 ⟨fun i rest o a w R ho hw hy hk=>by
  rw[wpOps_cons];exact wpOp_step ho fun K' hK=>by rw[if_pos hw];exact hy.wp fun v w' hv=>hK _ _ (hk v w' hv),
 fun i rest o a w ho hw hk=>by
  rw[wpOps_cons]
  exact wpOp_step ho fun K' hK=>by rw[if_neg hw];exact hK _ _ hk⟩
theorem qJ(i k m:Nat)(C:Cf)(outs:List (kz × aj)){dL:List (kz × aj)}{W:ar}(hF:iV n a0 base)(hF2:iV n a0 dL)(hm:nA (fun w=>az W.heap.size W w) C.mem)(hh:Rm P ops base C (fun _=>lV P) (fun w=>az W.heap.size W w) i C.hs)(hy:uz (fun l=>∀a w,az W.heap.size W w→iV n a l→wpOps P ops Q (bS (i+k) m) a w) outs dL)(hr:yC P ops base C n dL i k outs=yB P ops base C i k outs:=by kernel_rfl):wpOps P ops Q (bS i (k+m)) a0 W:=
 Hv (T:=fun w w'=>az w.heap.size w w') Kb (fun _ _ h hb=>h.trans (hb.mono h.size)) (fun w=>aw _ _) (fun i _ s w v h=>gr h) (fun i o ev w v R hS hg hR=>(hg w hS).yields hR) hF hF2 hr (aw _ _) hm hh hy
section
variable{id:Nat}{y:Code}{W:ar}{dL:List (kz × aj)}
theorem TQ{N:Nat}(hN:ops.size=N)(h:wpOps P ops (Exit.then (fun a w=>y.wp P Q a w) Q) (bS 0 N) a0 W):(Code.seq (.region id ops false) y).wp P Q a0 W:=
 wp_seq (wp_region (by rw[mA,hN];exact h))
theorem TR{N:Nat}(hN:ops.size=N)(h:wpOps P ops Q (bS 0 N) a0 W):(Code.region id ops false).wp P Q a0 W:=
 wp_region (by rw[mA,hN];exact h)
theorem XD{i:Nat}(h:y.wp P Q a0 W):wpOps P ops (Exit.then (fun a w=>y.wp P Q a w) Q) (bS i 0) a0 W:=h
theorem XE{i:Nat}(h:Q .normal a0 W):wpOps P ops Q (bS i 0) a0 W:=h
theorem jM(C:Cf)(outs:List (kz × aj))(hF:iV n a0 base)(hF2:iV n a0 dL)(hm:nA (fun w=>az W.heap.size W w) C.mem)(hh:Rm P ops base C (fun _=>lV P) (fun w=>az W.heap.size W w) 0 C.hs)(hy:uz (fun l=>∀a w,az W.heap.size W w→iV n a l→y.wp P Q a w) outs dL)(hr:yC P ops base C n dL 0 ops.size outs=yB P ops base C 0 ops.size outs:=by kernel_rfl):(Code.seq (.region id ops false) y).wp P Q a0 W:=
 TQ rfl (qJ (hr:=hr) 0 ops.size 0 C outs hF hF2 hm hh (by
  rw[cZ]
  exact hy))
theorem OT(C:Cf)(outs:List (kz × aj))(hF:iV n a0 base)(hF2:iV n a0 dL)(hm:nA (fun w=>az W.heap.size W w) C.mem)(hh:Rm P ops base C (fun _=>lV P) (fun w=>az W.heap.size W w) 0 C.hs)(hy:uz (fun l=>∀a w,az W.heap.size W w→iV n a l→Q .normal a w) outs dL)(hr:yC P ops base C n dL 0 ops.size outs=yB P ops base C 0 ops.size outs:=by kernel_rfl):(Code.region id ops false).wp P Q a0 W:=
 TR rfl (qJ (hr:=hr) 0 ops.size 0 C outs hF hF2 hm hh (by
  rw[cZ]
  exact hy))
theorem uz.mono{K K':List (kz × aj)→Prop}(h:∀l,K l→K' l):∀ {r l:List (kz × aj)},uz K r l→uz K' r l
 |[],l,hk=>h l hk
 |p::r,l,hk=>uz.mono h (r:=r) hk
end
def C2(P:aI)(ops:Array cz)(base:List (kz × aj))(C:Cf)(n:Nat)(dL:List (kz × aj))(i:Nat)(d:Option kz):Bool:=
 Nat.blt i ops.size&&Ts ops base C [] (opAt ops i)&&(match Qx ops C [] (opAt ops i) with|some []=>true|_=>false)&&(match tT (opAt ops i).op with|some l=>l.all (Rc base [] [])|none=>false) &&
  (match (opAt ops i).dst,d with|some x,some y=>Nat.beq x y&&Nat.blt y n&&dL.all fun p=>!Nat.beq p.1 y|none,none=>true|_,_=>false)
def jk:Option kz→aj→List (kz × aj)→List (kz × aj)
 |some d,v,l=>(d,v)::l
 |none,_,l=>l
theorem He{Wp:List Nat→iR→ar→Prop}{Y:lK}(L:vS ops Wp Y){dL:List (kz × aj)}{i m:Nat}{d:Option kz}{W:ar}{R:aj→ar→Prop}(hF:iV n a0 base)(hF2:iV n a0 dL)(hc:C2 P ops base C n dL i d=true)
  (hY:∀ev,bX ev (opAt ops i)=bX (qT base []) (opAt ops i)→Y (opAt ops i) ev W R) (hk:∀v w,R v w→∀a,iV n a (jk d v dL)→Wp (bS (i+1) m) a w):Wp (bS i (m+1)) a0 W:=by
 unfold C2 at hc;simp only[aC] at hc;obtain⟨⟨⟨⟨h1,h2⟩,h3⟩,h4⟩,h5⟩:=hc;have hi:i<ops.size:=by unfold Nat.blt at h1;exact Nat.le_of_ble_eq_true h1
 have ho:ops[i]?=some (opAt ops i):=by unfold opAt;simp[List.getD,hi]
 generalize opAt ops i=o at *;have hinv:Lz base n a0 [] a0:=⟨hF.size,hF.defers,(fun t e h=>by cases h),(fun t v _ h=>DV hF.base h),fun _ _=>rfl⟩
 have hex:bX a0.eval o=bX (qT base []) o:=by
  cases hl:tT o.op with
  |none=>rw[hl] at h4;cases h4
  |some l=>
   rw[hl] at h4;exact execOp_congr hl fun x hx=>W8 hinv (ch:=[]) rfl (aW.1 h4 x hx)
 have hw:cF o (jR ops a0.tmps)=true:=by
  unfold cF;cases hgd:o.guard with
  |none=>rfl
  |some jb=>
   obtain⟨j,b⟩:=jb;unfold Ts at h2;unfold Qx at h3;rw[hgd] at h2 h3;simp only[] at h2 h3;cases LK:dT ops j with
   |none=>rw[LK] at h2;cases h2
   |some g=>
    rw[LK] at h2 h3;simp only[aC] at h2 h3
    have hval:a0.eval (.tmp g)=qT base [] (.tmp g):=by
     rw[CP];show _=(lL base g).getD af;cases hb:lL base g with
     |none=>have:=h2.1;rw[hb] at this;cases this
     |some v=>rw[hinv.bas g v rfl hb];rfl
    cases qy:lL C.lits g with
    |none=>rw[qy] at h3;cases h3
    |some b'=>
     rw[qy] at h2 h3
     by_cases zM:b'=b
     ·subst zM;rw[nV.1 h2.2] at hval;have h9:=(Jz (a:=a0) hgd LK).2 hval;unfold cF at h9;rw[hgd] at h9;exact h9
     ·have:(b'==b)=false:=beq_false_of_ne zM;simp only[this] at h3;cases h3
 rw[List.range'_succ];refine L.go i _ o a0 W R ho hw (hY _ hex) fun v w hv=>hk v w hv _ ?_;cases hdd:o.dst with
 |none=>
  rw[hdd] at h5;cases d with
  |some _=>cases h5
  |none=>exact hF2
 |some x=>
  rw[hdd] at h5;cases d with
  |none=>cases h5
  |some y=>
   simp only[aC] at h5;have Yz:=gS h5.1.1;subst Yz;have hlt:x<n:=by have:=h5.1.2;unfold Nat.blt at this;exact Nat.le_of_ble_eq_true this
   exact(hF2.put x v h5.2).cons (put_eq a0 x v (by rw[hF.size];exact hlt))
section
variable{dL:List (kz × aj)}{i m:Nat}{W:ar}
theorem Yields.ex{o:cz}{ev El:bE→aj}{w:ar}{R:aj→ar→Prop}(he:bX ev o=bX El o)(h:Yields P o El w R):Yields P o ev w R:=by
 unfold Yields at *;rw[he];exact h
theorem Ye(C:Cf)(d:Option kz){R:aj→ar→Prop}(hF:iV n a0 base)(hF2:iV n a0 dL)(hc:C2 P ops base C n dL i d=true)(hY:Yields P (opAt ops i) (qT base []) W R)
  (hk:∀v w,R v w→∀a,iV n a (jk d v dL)→wpOps P ops Q (bS (i+1) m) a w):wpOps P ops Q (bS i (m+1)) a0 W:=
 He Kb hF hF2 hc (fun ev he=>hY.ex he) hk
def Ss(P:aI)(r:Nat):Sem Next→Option (Array aj × aX × Nat × Nat × Option (Next × List Nat))
 |.new o k=>match o with
  |.cells cs t fr=>some (cs,t,fr.1,fr.2,look P #[] (k r))
  |_=>none
 |.program k=>Ss P r (k P)
 |_=>none
theorem Oi{P:aI}{s:Sem Next}{cs:Array aj}{t:aX}{v:aj}{w:ar}(h:Ss P w.heap.size s=some (cs,t,0,0,some (.value v,[]))):s.run P w=.ok (.value v) (w.alloc (.cells cs t)):=by
 induction s with
 |new o k _=>
  unfold Ss at h;cases o with
  |cells cs' t' fr=>
   obtain⟨f1,f2⟩:=fr;simp only[gq,iq] at h;obtain⟨rfl,rfl,rfl,rfl,h5⟩:=h
   conv=>lhs;unfold Sem.run
   exact mY h5 (by simp)
  |_=>cases h
 |program k ih=>exact ih P h
 |_=>cases h
theorem Oj(C:Cf)(d:Option kz)(vf:Nat→aj)(cs:Array aj)(t:aX)(hF:iV n a0 base)(hF2:iV n a0 dL)(hk:∀B w a,W.heap.size≤B→az W.heap.size W w→w.heap[B]?=some (.cells cs t (0,0))→iV n a (jk d (vf B) dL)→wpOps P ops Q (bS (i+1) m) a w)(hc:C2 P ops base C n dL i d=true:=by kernel_rfl)(he:∀r,Ss P r (bX (qT base []) (opAt ops i))=some (cs,t,0,0,some (.value (vf r),[])):=by intro r;kernel_rfl):wpOps P ops Q (bS i (m+1)) a0 W:=
 Ye C d (R:=fun v w=>∃B,v=vf B∧W.heap.size≤B∧az W.heap.size W w∧w.heap[B]?=some (.cells cs t (0,0))) hF hF2 hc (.value (Oi (he _)) ⟨_,rfl,ax _,(aw _ _).alloc (ax _) _,ay _ _⟩)
  fun v w ⟨B,e,h1,h2,h3⟩ a hl=>hk B w a h1 h2 h3 (e▸hl)
def stores(P:aI):Sem Next→Option (List (Nat × Nat × aj))
 |.pure .skip=>some []
 |.program k=>stores P (k P)
 |.store _ a v k=>match a.spot,v with
  |some _,_=>none
  |_,.agg _=>none
  |_,.tuple _=>none
  |none,v=>match stores P k with
   |some l=>some ((a.block,a.off,v)::l)
   |none=>none
 |_=>none
def Ds(cs:Array aj):List (Nat × Nat × aj)→Array aj
 |[]=>cs
 |p::l=>Ds (cs.setIfInBounds p.2.1 p.2.2) l
structure But(B:Nat)(w w':ar):Prop where
 os:w'.os=w.os
 tape:w'.tape=w.tape
 output:w'.output=w.output
 size:w'.heap.size=w.heap.size
 block:∀k,k≠B→w'.heap[k]?=w.heap[k]?
theorem But.below{B m:Nat}{V w w':ar}(h:But B w w')(ho:az m V w)(hB:m≤B):az m V w':=⟨h.os.trans ho.os,h.tape.trans ho.tape,h.output.trans ho.output,by rw[h.size];exact ho.size,fun k hk=>(h.block k (by omega)).trans (ho.block k hk)⟩
theorem LW{P:aI}{B:Nat}{t:aX}{s:Sem Next}:∀ {l:List (Nat × Nat × aj)} {cs:Array aj} {w:ar},stores P s=some l→(∀p∈l,p.1=B∧p.2.1<cs.size)→w.heap[B]?=some (.cells cs t (0,0))→
  ∃w',s.run P w=.ok .skip w'∧w'.heap[B]?=some (.cells (Ds cs l) t (0,0))∧But B w w':=by
 induction s with
 |pure x=>intro l cs w h _ hB;cases x<;>cases h;exact⟨w,rfl,hB,rfl,rfl,rfl,rfl,fun _ _=>rfl⟩
 |program k ih=>intro l cs w h hl hB;exact ih P h hl hB
 |store m a v k ih=>
  intro l cs w h hl hB;unfold stores at h
  have main:∀v:aj,(∀x,v≠.agg x)→(∀x,v≠.tuple x)→a.spot=none→(match stores P k with|some l=>some ((a.block,a.off,v)::l)|none=>none)=some l→∃w',(Sem.store m a v k).run P w=.ok .skip w'∧w'.heap[B]?=some (.cells (Ds cs l) t (0,0))∧But B w w':=fun v n1 n2 hs h=>by
   cases hk:stores P k with
   |none=>rw[hk] at h;cases h
   |some l'=>
    rw[hk] at h;cases h;obtain⟨h1,h2⟩:=hl _ (List.mem_cons_self ..);simp only[] at h1 h2;obtain⟨b,off,sp⟩:=a;simp only[] at h1 h2 hs;subst h1 hs;have hc:w.cell? ⟨b,off,none⟩=some cs[off]:=aH hB off _ (Array.getElem?_eq_getElem h2);obtain⟨w',g1,g2,g3⟩:=ih (cs:=cs.setIfInBounds off v) (w:=w.setCell ⟨b,off,none⟩ v) hk (fun p hp=>by simpa using hl p (bI _ hp)) (cP v hB);refine⟨w',?_,g2,g3.os,g3.tape,g3.output,by rw[g3.size];simp,fun k hk=>(g3.block k hk).trans (bj w ⟨b,off,none⟩ v k hk)⟩;rw[←g1];have hf:w.frozen? ⟨b,off,none⟩=false:=cN hB off;cases v<;>first|exact absurd rfl (n1 _)|exact absurd rfl (n2 _)|(conv=>lhs;unfold Sem.run;simp only[hc,hf,Bool.false_eq_true,if_false])
  cases hs:a.spot with
  |some _=>rw[hs] at h;cases h
  |none=>
   rw[hs] at h;cases v<;>first|(cases h;done)|exact main _ (by simp) (by simp) hs h
 |_=>intro l cs w h;cases h
theorem aa7(C:Cf){B:Nat}(cs cs':Array aj){t:aX}(hB:W.heap[B]?=some (.cells cs t (0,0)))(l:List Nat)
  (he:(C2 P ops base C n dL i none,(stores P (bX (qT base []) (opAt ops i))).map fun q=>(q.map (·.1),(q.all fun p=>Nat.blt p.2.1 cs.size),Ds cs q))=(true,some (l.map fun _=>B,true,cs'))) :
  C2 P ops base C n dL i none=true∧∀w,w.heap[B]?=some (.cells cs t (0,0))→∃w',(bX (qT base []) (opAt ops i)).run P w=.ok .skip w'∧w'.heap[B]?=some (.cells cs' t (0,0))∧But B w w':=by
 rw[iq] at he;refine⟨he.1,fun w hw=>?_⟩;cases hs:stores P (bX (qT base []) (opAt ops i)) with
 |none=>rw[hs] at he;cases he.2
 |some q=>
  rw[hs] at he;have h2:=he.2;simp only[Option.map_some,gq,iq] at h2;obtain⟨h3,h4,h5⟩:=h2;subst h5;refine LW hs (fun p hp=>⟨?_,?_⟩) hw
  ·have:p.1∈q.map (·.1):=dc.2 ⟨p,hp,rfl⟩;rw[h3] at this;obtain⟨_,_,e⟩:=dc.1 this;exact e.symm
  ·have:=aW.1 h4 p hp;unfold Nat.blt at this;exact Nat.le_of_ble_eq_true this
end
end
end Go.Lag
namespace Go.Proofs.YtffladgmkiimjaaGreatDoor
open Go.RowKit Go.Lag
theorem fp(n l m:Int)(w:ar):bm aq 35 #[ah ag n,ah ag l,ah ag m] w fun e w'=>e=aF (aG (aQ n l m))∧az w.heap.size w w':=by
 refine jU Tryz.func35 rfl ?_;have hF:=ki (args:=#[ah ag n,ah ag l,ah ag m]) (n:=15) (by simp) [(2,ah ag m),(1,ah ag l),(0,ah ag n)] ⟨mO rfl,mO rfl,mO rfl,trivial⟩;rw[show Tryz.f35.ntmps=15 from rfl];generalize (⟨#[ah ag n,ah ag l,ah ag m]++aT (15-(#[ah ag n,ah ag l,ah ag m]:Array aj).size) af,[]⟩:iR)=a at *;refine(fun h:∀W,az w.heap.size w W→bZ aq _ _ a W=>h w (aw _ _)) ?_;intro W HB;refine jM ⟨[],[],[],[]⟩ [(6,aG false)] hF hF trivial trivial ?_;intro a W ho hF;replace HB:=HB.tr ho;clear ho;replace hF:=hF.tl;refine jM ⟨[],[],[],[]⟩ [(6,aG ((decide (l≤n))&&(decide (n≤m))))] hF hF trivial trivial ?_;intro a W ho hF;replace HB:=HB.tr ho;clear ho;refine fR ?_;show dK aq Tryz.f35 (fun e w'=>e=aJ (aG (aQ n l m))∧az w.heap.size w w') dQ a W;exact bg (bO rfl _ _ _) hF.defers ⟨congrArg aJ (((hF.g 0 rfl):a.eval (aK 6)=aG ((decide (l≤n))&&(decide (n≤m)))).trans (rfl)),HB⟩
def bV(lo hi l m:Int):Bool:=(decide (l≤lo)&&decide (lo≤hi))&&decide (hi≤m)
theorem qN(lo hi l m:Int)(w:ar):bm aq 147 #[aO #[ah ag lo,ah ag hi],ah ag l,ah ag m] w fun e w'=>e=aF (aG (bV lo hi l m))∧az w.heap.size w w':=by
 refine jU Tryz.func147 rfl ?_;have hF:=ki (args:=#[aO #[ah ag lo,ah ag hi],ah ag l,ah ag m]) (n:=24) (by simp) [(2,ah ag m),(1,ah ag l),(0,aO #[ah ag lo,ah ag hi])] ⟨mO rfl,mO rfl,mO rfl,trivial⟩;rw[show Tryz.f147.ntmps=24 from rfl];generalize (⟨#[aO #[ah ag lo,ah ag hi],ah ag l,ah ag m]++aT (24-(#[aO #[ah ag lo,ah ag hi],ah ag l,ah ag m]:Array aj).size) af,[]⟩:iR)=a at *;refine(fun h:∀W,az w.heap.size w W→bZ aq _ _ a W=>h w (aw _ _)) ?_;intro W HB
 refine nv [fun v ds w9=>∃B,v=pv B 0∧w9.heap[B]?=some (au #[ah ag lo,ah ag hi] 23 (0,0)),pV (aG false)]
  _ (by kernel_rfl) hF.size hF.base ?_ ?_ ?_
 ·refine⟨?_,sV,trivial⟩
  ·rintro v ds w1 w2 hS ⟨B,h1,h2⟩ hb;exact⟨B,h1,aL h2 hb⟩
 ·refine⟨?_,?_,trivial⟩<;>rintro ev w1 hS hc hg hf ⟨-,-,b0,-⟩ hd
  ·clear hd;refine Lag.Yields.value (v:=pv w1.heap.size 0) (w':=w1.alloc (au #[ah ag lo,ah ag hi] 23)) ?_ ⟨⟨_,rfl,ay _ _⟩,cA ((aw _ _).alloc (ax _) _)⟩;go_simp
  ·clear hd;exact tV
 intro a W hR;have ho:=hR.s;obtain⟨B3,e3,K3⟩:=hR.val 0 (by decide);replace e3:a.eval (aK 3)=bp (some ⟨B3,0,none⟩):=e3;replace HB:=HB.tr ho;replace hF:=((hR.fr hF (by kernel_rfl)).cons (t:=3) e3).cons (t:=6) (hR.val 1 (by decide));clear hR ho e3;replace hF:=hF.tl;refine jM ⟨[],[],[(B3,#[ah ag lo,ah ag hi])],[]⟩ [(6,aG (((decide (l≤lo))&&(decide (lo≤hi)))&&(decide (hi≤m))))] hF hF ⟨fun w1 hS=>⟨_,_,aL K3 hS⟩,trivial⟩ trivial ?_;intro a W ho hF;replace HB:=HB.tr ho;replace K3:=aL K3 ho;clear ho;refine fR ?_;show dK aq Tryz.f147 (fun e w'=>e=aJ (aG (bV lo hi l m))∧az w.heap.size w w') dQ a W;exact bg (bO rfl _ _ _) hF.defers ⟨congrArg aJ (((hF.g 0 rfl):a.eval (aK 6)=aG (((decide (l≤lo))&&(decide (lo≤hi)))&&(decide (hi≤m)))).trans (rfl)),HB⟩
theorem ri(b:BB)(men sent marks:aj)(n:Int)(w:ar):bm aq 134 #[aO (b.cells men sent marks),ah ag n] w fun e w'=>e=aF (aG (aQ n 1 b.minutes))∧az w.heap.size w w':=by
 refine jU Tryz.func134 rfl ?_;have hF:=ki (args:=#[aO (b.cells men sent marks),ah ag n]) (n:=9) (by simp) [(1,ah ag n),(0,aO (b.cells men sent marks))] ⟨mO rfl,mO rfl,trivial⟩;rw[show Tryz.f134.ntmps=9 from rfl];generalize (⟨#[aO (b.cells men sent marks),ah ag n]++aT (9-(#[aO (b.cells men sent marks),ah ag n]:Array aj).size) af,[]⟩:iR)=a at *;refine(fun h:∀W,az w.heap.size w W→bZ aq _ _ a W=>h w (aw _ _)) ?_;intro W HB
 refine nv [fun v ds w9=>∃B,v=pv B 0∧w9.heap[B]?=some (au (b.cells men sent marks) 28 (0,0)),pV (aG false)]
  _ (by kernel_rfl) hF.size hF.base ?_ ?_ ?_
 ·refine⟨?_,sV,trivial⟩
  ·rintro v ds w1 w2 hS ⟨B,h1,h2⟩ hb;exact⟨B,h1,aL h2 hb⟩
 ·refine⟨?_,?_,trivial⟩<;>rintro ev w1 hS hc hg hf ⟨-,b0,-⟩ hd
  ·clear hd;refine Lag.Yields.value (v:=pv w1.heap.size 0) (w':=w1.alloc (au (b.cells men sent marks) 28)) ?_ ⟨⟨_,rfl,ay _ _⟩,cA ((aw _ _).alloc (ax _) _)⟩;go_simp
  ·clear hd;exact tV
 intro a W hR;have ho:=hR.s;obtain⟨B2,e2,K2⟩:=hR.val 0 (by decide);replace e2:a.eval (aK 2)=bp (some ⟨B2,0,none⟩):=e2;replace HB:=HB.tr ho;replace hF:=((hR.fr hF (by kernel_rfl)).cons (t:=2) e2).cons (t:=4) (hR.val 1 (by decide));clear hR ho e2;replace hF:=hF.tl;refine jM ⟨[],[(3,aG (aQ n 1 b.minutes))],[(B2,(b.cells men sent marks))],[]⟩ [(4,aG (aQ n 1 b.minutes))] hF hF ⟨fun w1 hS=>⟨_,_,aL K2 hS⟩,trivial⟩ ⟨fun w1 hS _=>gc (fp n 1 b.minutes w1),trivial⟩ ?_;intro a W ho hF;replace HB:=HB.tr ho;replace K2:=aL K2 ho;clear ho;refine fR ?_;show dK aq Tryz.f134 (fun e w'=>e=aJ (aG (aQ n 1 b.minutes))∧az w.heap.size w w') dQ a W;exact bg (bO rfl _ _ _) hF.defers ⟨congrArg aJ (((hF.g 0 rfl):a.eval (aK 4)=aG (aQ n 1 b.minutes)).trans (rfl)),HB⟩
theorem Ry{lo hi:Int}(h:bV lo hi 0 99=true):IntKind.i64.wrap (hi-lo)=hi-lo:=by
 unfold bV at h;simp at h;rw[IntKind.wrap_i64];omega
def BX(b:BB):Bool:=(((!(aQ b.room 1 99))||(!(aQ b.depth 0 99)))||(!(aQ b.least 0 99)))||(!(aQ b.minutes 1 8))
def EP(b:BB):Bool:=(((!(aQ b.cM 0 99))||(!(aQ b.km 0 99)))||(!(aQ b.j9 0 99)))||(!(aQ b.eT 0 3))
def GU(b:BB):Bool:=((!(bV b.pl b.pm 1 b.minutes))||(!(bV b.ll b.lm 0 99)))||decide (b.lm-b.ll≥3)
def lT(b:BB):Int:=if BX b then 1 else if EP b then 1 else if GU b then 1 else 0
theorem FK(b:BB)(men sent marks:aj)(w:ar):bm aq 145 #[aO (b.cells men sent marks)] w fun e w'=>e=aF (ah ag (lT b))∧az w.heap.size w w':=by
 refine jU Tryz.func145 rfl ?_;have hF:=ki (args:=#[aO (b.cells men sent marks)]) (n:=69) (by simp) [(0,aO (b.cells men sent marks))] ⟨mO rfl,trivial⟩;rw[show Tryz.f145.ntmps=69 from rfl];generalize (⟨#[aO (b.cells men sent marks)]++aT (69-(#[aO (b.cells men sent marks)]:Array aj).size) af,[]⟩:iR)=a at *;refine(fun h:∀W,az w.heap.size w W→bZ aq _ _ a W=>h w (aw _ _)) ?_;intro W HB
 refine nv [fun v ds w9=>∃B,v=pv B 0∧w9.heap[B]?=some (au (b.cells men sent marks) 28 (0,0)),pV (ah ag 0)]
  _ (by kernel_rfl) hF.size hF.base ?_ ?_ ?_
 ·refine⟨?_,sV,trivial⟩
  ·rintro v ds w1 w2 hS ⟨B,h1,h2⟩ hb;exact⟨B,h1,aL h2 hb⟩
 ·refine⟨?_,?_,trivial⟩<;>rintro ev w1 hS hc hg hf ⟨b0,-⟩ hd
  ·clear hd;refine Lag.Yields.value (v:=pv w1.heap.size 0) (w':=w1.alloc (au (b.cells men sent marks) 28)) ?_ ⟨⟨_,rfl,ay _ _⟩,cA ((aw _ _).alloc (ax _) _)⟩;go_simp
  ·clear hd;exact tV
 intro a W hR;have ho:=hR.s;obtain⟨B1,e1,K1⟩:=hR.val 0 (by decide);replace e1:a.eval (aK 1)=bp (some ⟨B1,0,none⟩):=e1;replace HB:=HB.tr ho;replace hF:=((hR.fr hF (by kernel_rfl)).cons (t:=1) e1).cons (t:=2) (hR.val 1 (by decide));clear hR ho e1;refine wp_seq ?_;refine jM ⟨[],[(2,aG (aQ b.room 1 99)),(7,aG (aQ b.depth 0 99)),(13,aG (aQ b.least 0 99)),(19,aG (aQ b.minutes 1 8))],[(B1,(b.cells men sent marks))],[]⟩ [(24,aG ((((!(aQ b.room 1 99))||(!(aQ b.depth 0 99)))||(!(aQ b.least 0 99)))||(!(aQ b.minutes 1 8))))] hF hF ⟨fun w1 hS=>⟨_,_,aL K1 hS⟩,trivial⟩ ⟨fun w1 hS _=>gc (fp b.room 1 99 w1),fun w1 hS _=>gc (fp b.depth 0 99 w1),fun w1 hS _=>gc (fp b.least 0 99 w1),fun w1 hS _=>gc (fp b.minutes 1 8 w1),trivial⟩ ?_;intro a W ho hF;replace HB:=HB.tr ho;replace K1:=aL K1 ho;clear ho;refine bU (t:=((((!(aQ b.room 1 99))||(!(aQ b.depth 0 99)))||(!(aQ b.least 0 99)))||(!(aQ b.minutes 1 8)))) (hF.g 0 rfl) (fun IJ=>?_) (fun IJ=>?_)
 ·skip
  replace hF:=hF.tl;replace hF:=hF.tl;refine jM ⟨[],[],[],[]⟩ [(2,ah ag 1)] hF hF trivial trivial ?_;intro a W ho hF;replace HB:=HB.tr ho;replace K1:=aL K1 ho;clear ho;refine fR ?_;show dK aq Tryz.f145 (fun e w'=>e=aJ (ah ag (lT b))∧az w.heap.size w w') dQ a W;exact bg (bO rfl _ _ _) hF.defers ⟨congrArg aJ (((hF.g 0 rfl):a.eval (aK 2)=ah ag 1).trans (by unfold lT;rw[if_pos (show BX b=true from IJ)])),HB⟩
 ·skip
  replace hF:=hF.tl;refine wp_skip ?_;show bZ aq _ _ _ _;refine wp_seq ?_;refine jM ⟨[],[(2,aG (aQ b.cM 0 99)),(7,aG (aQ b.km 0 99)),(13,aG (aQ b.j9 0 99)),(19,aG (aQ b.eT 0 3))],[(B1,(b.cells men sent marks))],[]⟩ [(46,aG ((((!(aQ b.cM 0 99))||(!(aQ b.km 0 99)))||(!(aQ b.j9 0 99)))||(!(aQ b.eT 0 3))))] hF hF ⟨fun w1 hS=>⟨_,_,aL K1 hS⟩,trivial⟩ ⟨fun w1 hS _=>gc (fp b.cM 0 99 w1),fun w1 hS _=>gc (fp b.km 0 99 w1),fun w1 hS _=>gc (fp b.j9 0 99 w1),fun w1 hS _=>gc (fp b.eT 0 3 w1),trivial⟩ ?_;intro a W ho hF;replace HB:=HB.tr ho;replace K1:=aL K1 ho;clear ho;refine bU (t:=((((!(aQ b.cM 0 99))||(!(aQ b.km 0 99)))||(!(aQ b.j9 0 99)))||(!(aQ b.eT 0 3)))) (hF.g 0 rfl) (fun VS=>?_) (fun VS=>?_)
  ·skip
   replace hF:=hF.tl;replace hF:=hF.tl;refine jM ⟨[],[],[],[]⟩ [(2,ah ag 1)] hF hF trivial trivial ?_;intro a W ho hF;replace HB:=HB.tr ho;replace K1:=aL K1 ho;clear ho;refine fR ?_;show dK aq Tryz.f145 (fun e w'=>e=aJ (ah ag (lT b))∧az w.heap.size w w') dQ a W;exact bg (bO rfl _ _ _) hF.defers ⟨congrArg aJ (((hF.g 0 rfl):a.eval (aK 2)=ah ag 1).trans (by unfold lT;rw[if_neg (by rw[show BX b=_ from IJ];simp),if_pos (show EP b=true from VS)])),HB⟩
  ·skip
   replace hF:=hF.tl;refine wp_skip ?_;show bZ aq _ _ _ _;refine wp_seq ?_
   refine nv [pV (bp (some ⟨B1,10,none⟩)),pV (aO #[ah ag b.pl,ah ag b.pm]),pV (bp (some ⟨B1,3,none⟩)),pV (ah ag b.minutes),pV (aG (bV b.pl b.pm 1 b.minutes)),pV (aG (!(bV b.pl b.pm 1 b.minutes))),pV (aG (!(bV b.pl b.pm 1 b.minutes))),pC (!(!(bV b.pl b.pm 1 b.minutes))) (bp (some ⟨B1,8,none⟩)),pC (!(!(bV b.pl b.pm 1 b.minutes))) (aO #[ah ag b.ll,ah ag b.lm]),pC (!(!(bV b.pl b.pm 1 b.minutes))) (aG (bV b.ll b.lm 0 99)),pC (!(!(bV b.pl b.pm 1 b.minutes))) (aG (!(bV b.ll b.lm 0 99))),pV (aG ((!(bV b.pl b.pm 1 b.minutes))||(!(bV b.ll b.lm 0 99)))),pV (aG ((!(bV b.pl b.pm 1 b.minutes))||(!(bV b.ll b.lm 0 99)))),pC (!((!(bV b.pl b.pm 1 b.minutes))||(!(bV b.ll b.lm 0 99)))) (bp (some ⟨B1,8,none⟩)),pC (!((!(bV b.pl b.pm 1 b.minutes))||(!(bV b.ll b.lm 0 99)))) (bp (some ⟨B1,9,none⟩)),pC (!((!(bV b.pl b.pm 1 b.minutes))||(!(bV b.ll b.lm 0 99)))) (ah ag b.lm),pC (!((!(bV b.pl b.pm 1 b.minutes))||(!(bV b.ll b.lm 0 99)))) (bp (some ⟨B1,8,none⟩)),pC (!((!(bV b.pl b.pm 1 b.minutes))||(!(bV b.ll b.lm 0 99)))) (bp (some ⟨B1,8,none⟩)),pC (!((!(bV b.pl b.pm 1 b.minutes))||(!(bV b.ll b.lm 0 99)))) (ah ag b.ll),pC (!((!(bV b.pl b.pm 1 b.minutes))||(!(bV b.ll b.lm 0 99)))) (ah ag (b.lm-b.ll)),pC (!((!(bV b.pl b.pm 1 b.minutes))||(!(bV b.ll b.lm 0 99)))) (aG (decide ((b.lm-b.ll)≥3))),pV (aG (((!(bV b.pl b.pm 1 b.minutes))||(!(bV b.ll b.lm 0 99)))||(decide ((b.lm-b.ll)≥3))))]
    _ (by kernel_rfl) hF.size hF.base ?_ ?_ ?_
   ·exact⟨sV,sV,sV,sV,sV,sV,sV,sC,sC,sC,sC,sV,sV,sC,sC,sC,sC,sC,sC,sC,sC,sV,trivial⟩
   ·refine⟨?_,?_,?_,?_,?_,?_,?_,?_,?_,?_,?_,?_,?_,?_,?_,?_,?_,?_,?_,?_,?_,?_,trivial⟩<;>rintro ev w1 hS hc hg hf ⟨-,b1,-,-⟩ hd
    all_goals try
     try have d0:ev (aK _)=_:=hd.1 rfl
     clear hd;refine yw rfl ?_ rfl;go_simp;done
    all_goals try
     try have d0:ev (aK _)=_:=hd.1 rfl
     try have c0:_→ev (aK _)=_:=hd.1 rfl
     try have d1:ev (aK _)=_:=hd.2.1 rfl
     clear hd
     first|refine gC d0 lN fun hA=>?_|refine gC d1 lN fun hA=>?_
     try replace c0:=c0 hA
     refine yw rfl ?_ (fun _=>rfl);go_simp;done
    ·have d0:ev (aK 47)=_:=hd.1 rfl;clear hd;have z10:=aH (aL K1 hS) 10 _ rfl;have z11:=aH (aL K1 hS) 11 _ rfl;exact tV
    ·have d2:ev (aK 49)=_:=hd.1 rfl;clear hd;have z:=aH (aL K1 hS) 3 _ rfl;exact tV
    ·have d1:ev (aK 48)=_:=hd.1 rfl;have d3:ev (aK 50)=_:=hd.2.1 rfl;clear hd;refine yc (qN b.pl b.pm 1 b.minutes w1) ?_ (fun _=>rfl);go_simp
    ·have d7:_→ev (aK 54)=_:=hd.1 rfl;have d6:ev (aK 53)=_:=hd.2.1 rfl;clear hd;refine gC d6 lN fun hA=>?_;have y7:=d7 hA;have z8:=aH (aL K1 hS) 8 _ rfl;have z9:=aH (aL K1 hS) 9 _ rfl;refine yv ?_ (fun _=>rfl);go_simp
    ·have d8:_→ev (aK 55)=_:=hd.1 rfl;have d6:ev (aK 53)=_:=hd.2.1 rfl;clear hd;refine gC d6 lN fun hA=>?_;have y8:=d8 hA;refine yc (qN b.ll b.lm 0 99 w1) ?_ (fun _=>fun _=>rfl);go_simp
    ·have d6:ev (aK 53)=_:=hd.1 rfl;have d10:_→ev (aK 57)=_:=hd.2.1 rfl;clear hd;exact yO rfl hc d6 (fun hq=>d10 (by simp[hq])) (rfl)
    ·have d14:_→ev (aK 61)=_:=hd.1 rfl;have d12:ev (aK 59)=_:=hd.2.1 rfl;clear hd;refine gC d12 lN fun hA=>?_;have Js:=d14 hA;have z:=aH (aL K1 hS) 9 _ rfl;refine yv ?_ (fun _=>rfl);go_simp
    ·have d17:_→ev (aK 64)=_:=hd.1 rfl;have d12:ev (aK 59)=_:=hd.2.1 rfl;clear hd;refine gC d12 lN fun hA=>?_;have y17:=d17 hA;have z:=aH (aL K1 hS) 8 _ rfl;refine yv ?_ (fun _=>rfl);go_simp
    ·have d15:_→ev (aK 62)=_:=hd.1 rfl;have d18:_→ev (aK 65)=_:=hd.2.1 rfl;have d12:ev (aK 59)=_:=hd.2.2.1 rfl;clear hd;refine gC d12 lN fun hA=>?_;have G9:=d15 hA;have y18:=d18 hA;have hw:=Ry (lo:=b.ll) (hi:=b.lm) (by revert hA;cases bV b.ll b.lm 0 99<;>simp);refine yv ?_ (fun _=>rfl);go_simp
    ·have d12:ev (aK 59)=_:=hd.1 rfl;have d20:_→ev (aK 67)=_:=hd.2.1 rfl;clear hd;exact yO rfl hc d12 (fun hq=>d20 (by simp[hq])) (rfl)
   intro a W hR;have ho:=hR.s;replace HB:=HB.tr ho;replace K1:=aL K1 ho;replace hF:=(hR.fr hF (by kernel_rfl)).cons (t:=68) (hR.val 21 (by decide));clear hR ho;refine bU (t:=(((!(bV b.pl b.pm 1 b.minutes))||(!(bV b.ll b.lm 0 99)))||(decide ((b.lm-b.ll)≥3)))) (hF.g 0 rfl) (fun Te=>?_) (fun Te=>?_)
   ·skip
    replace hF:=hF.tl;replace hF:=hF.tl;refine jM ⟨[],[],[],[]⟩ [(2,ah ag 1)] hF hF trivial trivial ?_;intro a W ho hF;replace HB:=HB.tr ho;replace K1:=aL K1 ho;clear ho;refine fR ?_;show dK aq Tryz.f145 (fun e w'=>e=aJ (ah ag (lT b))∧az w.heap.size w w') dQ a W;exact bg (bO rfl _ _ _) hF.defers ⟨congrArg aJ (((hF.g 0 rfl):a.eval (aK 2)=ah ag 1).trans (by unfold lT;rw[if_neg (by rw[show BX b=_ from IJ];simp),if_neg (by rw[show EP b=_ from VS];simp),if_pos (show GU b=true from Te)])),HB⟩
   ·skip
    replace hF:=hF.tl;refine wp_skip ?_;show bZ aq _ _ _ _;replace hF:=hF.tl;refine jM ⟨[],[],[],[]⟩ [(2,ah ag 0)] hF hF trivial trivial ?_;intro a W ho hF;replace HB:=HB.tr ho;replace K1:=aL K1 ho;clear ho;refine fR ?_;show dK aq Tryz.f145 (fun e w'=>e=aJ (ah ag (lT b))∧az w.heap.size w w') dQ a W;exact bg (bO rfl _ _ _) hF.defers ⟨congrArg aJ (((hF.g 0 rfl):a.eval (aK 2)=ah ag 0).trans (by unfold lT;rw[if_neg (by rw[show BX b=_ from IJ];simp),if_neg (by rw[show EP b=_ from VS];simp),if_neg (by rw[show GU b=_ from Te];simp)])),HB⟩
end Go.Proofs.YtffladgmkiimjaaGreatDoor
