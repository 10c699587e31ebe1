/- ████ bell.good IN COMPANY: its contract beside leavers, from its call  .. -/
import Derived.Test.YtffladgmkiimjaaGreatDoorW12
set_option linter.all false
set_option maxHeartbeats 100000000
set_option maxRecDepth 1000000
open Array renaming replicate → aT
open Go renaming wp_mono → AX,undef → af
open Go.Frame renaming enter → dZ
namespace Go.Proofs.YtffladgmkiimjaaGreatDoor
open Go.RowKit Go.Lag
open Go.Conc
structure Sm(W W':World):Prop where
 heap:W'.heap=W.heap
 os:W'.os=W.os
 output:W'.output=W.output
theorem Sm.old{W W':World}(h:Sm W W'):Old W W':=⟨h.os,h.output,by rw[h.heap];exact Nat.le_refl _,fun k _=>by rw[h.heap]⟩
theorem pI(W:World)(o:Obj):Old W (W.alloc o):=⟨rfl,rfl,by simp,fun k hk=>Below.heap_alloc _ _ _ hk⟩
theorem enter_at{P:Program}{f:FuncId}{fn:Func}{c:Code}{args:Array Value}(hf:P.funcs[f]?=some fn)(hb:fn.body=some c):dZ P f args .normal=({ (default:Frame) with fn:=f,kind:=.normal }:Frame).at ⟨args++aT (fn.ntmps-args.size) af,[]⟩ [.code c]:=by
 simp[dZ,Frame.at,hf,hb]
theorem agP(x:Value) : #[x]++aT (71 - #[x].size) af = #[x,af,af,af,af,af,af,af,af,af,af,af,af,af,af,af,af,af,af,af,af,af,af,af,af,af,af,af,af,af,af,af,af,af,af,af,af,af,af,af,af,af,af,af,af,af,af,af,af,af,af,af,af,af,af,af,af,af,af,af,af,af,af,af,af,af,af,af,af,af,af]:=by
 simp only[List.size_toArray,List.length_cons,List.length_nil,Nat.reduceAdd,Nat.reduceSub,Array.replicate_succ,Array.replicate_zero,List.push_toArray,List.append_toArray,List.nil_append,List.cons_append]
theorem abk:Tryz.f159.ntmps=71:=by kernel_rfl
section
variable{P:Program}{b:BB}{men sent marks all:Value}{l:List eA}{ss:List Int}{ms:List Mk}{Y:Nat→Prop}{W:World}
theorem Zv(G0:Uq P b men sent marks all l ss ms Y W):iQ P 159 #[.agg (b.open men sent marks all)] W (Un b l ss ms W):=by
 intro cs;have T:=quiet_of G0.e;obtain⟨sn,Qe⟩:∃sn,bG ss=sn:=⟨_,rfl⟩
 obtain⟨xb,hxb⟩:∃xb,W.heap.size=xb:=⟨_,rfl⟩
 have sY:dZ P 159 #[.agg (b.open men sent marks all)] .normal=({ (default:Frame) with fn:=159,kind:=.normal }:Frame).at ⟨#[.agg (b.open men sent marks all),af,af,af,af,af,af,af,af,af,af,af,af,af,af,af,af,af,af,af,af,af,af,af,af,af,af,af,af,af,af,af,af,af,af,af,af,af,af,af,af,af,af,af,af,af,af,af,af,af,af,af,af,af,af,af,af,af,af,af,af,af,af,af,af,af,af,af,af,af,af],[]⟩ [.code (.seq gR0 (.seq gR1 (.seq gR2 (.seq gR3 (.seq (.seq gR4 (.block 0 (.loop IQ))) OJ)))))]:=by
  rw[enter_at G0.f159 Ws,abk,agP];unfold OJ;rfl
 rw[sY];have mN:({ (default:Frame) with fn:=159,kind:=.normal }:Frame).kind≠.early:=by simp
 have hsW:∀ {W':World},Old W W'→Reads W' sent ss.length (ss.map (Value.int .i64)):=fun ho=>G0.rs.to (fun c hc=>Nat.lt_of_lt_of_le (G0.lt hc) ho.size) fun a ha=>ho.cell (G0.lt ha);refine jG T (fun w=>step_seq) ?_;refine oq T mN (Q:=fun a W'=>a=⟨#[.agg (b.open men sent marks all),ptr ⟨xb,0,none⟩,.slice none 0 0,af,af,af,af,af,af,af,af,af,af,af,af,af,af,af,af,af,af,af,af,af,af,af,af,af,af,af,af,af,af,af,af,af,af,af,af,af,af,af,af,af,af,af,af,af,af,af,af,af,af,af,af,af,af,af,af,af,af,af,af,af,af,af,af,af,af,af,af],[]⟩∧Sm (W.alloc (.cells (b.open men sent marks all) 122)) W') (fun τ d=>?_) ?_
 ·rw[G0.e];refine AX (pR0 (W:=dr W τ d) hxb) ?_;rintro e a W' ⟨rfl,rfl,rfl⟩;exact⟨rfl,rfl,rfl,rfl,rfl⟩
 rintro a W1 τ1 d1 ⟨rfl,hsm⟩;have o1:Old W W1:=(pI W _).trans (Sm.old (W':=W1) ⟨hsm.heap,hsm.os,hsm.output⟩)
 have x1:W1.heap[xb]?=some (.cells (b.open men sent marks all) 122 (0,0)):=by
  have h:W1.heap=(W.alloc (.cells (b.open men sent marks all) 122)).heap:=hsm.heap;rw[h,←hxb];exact World.alloc_heap_new W _
 have s1:xb<W1.heap.size:=ey x1;clear hsm;refine jG T (fun w=>step_seq) ?_;refine oq T mN (Q:=fun a W'=>a=⟨#[.agg (b.open men sent marks all),ptr ⟨xb,0,none⟩,.slice none 0 0,.int .i64 sn,af,af,af,af,af,af,af,ptr ⟨xb,0,none⟩,ptr ⟨xb,0,none⟩,ptr ⟨xb,13,none⟩,sent,.int .i64 sn,af,af,af,af,af,af,af,af,af,af,af,af,af,af,af,af,af,af,af,af,af,af,af,af,af,af,af,af,af,af,af,af,af,af,af,af,af,af,af,af,af,af,af,af,af,af,af,af,af,af,af,af,af,af,af],[]⟩∧Sm W1 W') (fun τ d=>?_) ?_
 ·rw[G0.e];refine AX (pR1 (b:=b) (men:=men) (marks:=marks) (all:=all) (W:=dr W1 τ d) G0.Gf ?_ (hsW (W':=dr W1 τ d) ⟨o1.os,o1.output,o1.size,o1.block⟩) Qe) ?_
  ·show W1.cell? ⟨xb,13,none⟩=some sent;unfold World.cell?;rw[x1];rfl
  ·rintro e a W' ⟨rfl,rfl,rfl⟩;exact⟨rfl,rfl,rfl,rfl,rfl⟩
 rintro a W2 τ2 d2 ⟨rfl,hsm⟩;have hh:W2.heap=W1.heap:=hsm.heap;have o2:Old W W2:=o1.trans (Sm.old (W':=W2) ⟨hsm.heap,hsm.os,hsm.output⟩);have x2:W2.heap[xb]?=some (.cells (b.open men sent marks all) 122 (0,0)):=by rw[hh];exact x1
 have s2:W.heap.size<W2.heap.size:=by rw[hh];omega
 clear hsm hh o1 x1 s1;refine jG T (fun w=>step_seq) ?_;refine oq T mN (Q:=fun a W'=>∃c0 c1 fb tb:Nat,a=⟨#[.agg (b.open men sent marks all),ptr ⟨xb,0,none⟩,.slice none 0 0,.int .i64 sn,ptr ⟨fb,0,none⟩,ptr ⟨tb,0,none⟩,af,af,af,af,af,ptr ⟨xb,0,none⟩,ptr ⟨xb,0,none⟩,ptr ⟨xb,13,none⟩,sent,.int .i64 sn,.chan (some c0),.chan (some c1),af,af,af,af,af,af,af,af,af,af,af,af,af,af,af,af,af,af,af,af,af,af,af,af,af,af,af,af,af,af,af,af,af,af,af,af,af,af,af,af,af,af,af,af,af,af,af,af,af,af,af,af,af],[]⟩∧(Chan c0 W'∧Chan c1 W'∧W'.heap[fb]?=some (.cells #[.chan (some c0)] 188 (0,0))∧W'.heap[tb]?=some (.cells #[.chan (some c1)] 189 (0,0))∧c0≠c1∧W2.heap.size≤c0∧W2.heap.size≤c1∧W2.heap.size≤fb∧W2.heap.size≤tb∧Old W2 W')) (fun τ d=>?_) ?_
 ·rw[G0.e];refine AX (pR2 (b:=b) (men:=men) (sent:=sent) (marks:=marks) (all:=all) (xb:=xb) (sn:=sn) (W:=dr W2 τ d)) ?_;rintro e a W' ⟨rfl,c0,c1,fb,tb,rfl,h1,h2,h3,h4,h5,h6,h7,h8,h9,h10⟩;exact⟨rfl,c0,c1,fb,tb,rfl,h1,h2,h3,h4,h5,h6,h7,h8,h9,h10.os,h10.output,h10.size,h10.block⟩
 rintro a W3 τ3 d3 ⟨c0,c1,fb,tb,rfl,h1,h2,h3,h4,h5,h6,h7,h8,h9,h10⟩;have o3:Old W W3:=o2.trans ⟨h10.os,h10.output,h10.size,h10.block⟩;have x3:W3.heap[xb]?=some (.cells (b.open men sent marks all) 122 (0,0)):=(h10.block xb (by omega)).trans x2;have k0:Chan c0 W3:=h1;have k1:Chan c1 W3:=h2;have kf:W3.heap[fb]?=some (.cells #[.chan (some c0)] 188 (0,0)):=h3;have kt:W3.heap[tb]?=some (.cells #[.chan (some c1)] 189 (0,0)):=h4;clear h1 h2 h3 h4 h10 o2 x2;refine jG T (fun w=>step_seq) ?_;refine oq T mN (Q:=fun a W'=>a=⟨#[.agg (b.open men sent marks all),ptr ⟨xb,0,none⟩,.slice none 0 0,.int .i64 sn,ptr ⟨fb,0,none⟩,ptr ⟨tb,0,none⟩,.int .i64 0,af,af,af,af,ptr ⟨xb,0,none⟩,ptr ⟨xb,0,none⟩,ptr ⟨xb,13,none⟩,sent,.int .i64 sn,.chan (some c0),.chan (some c1),af,af,af,af,af,af,af,af,af,af,af,af,af,af,af,af,af,af,af,af,af,af,af,af,af,af,af,af,af,af,af,af,af,af,af,af,af,af,af,af,af,af,af,af,af,af,af,af,af,af,af,af,af],[]⟩∧Sm W3 W') (fun τ d=>?_) ?_
 ·rw[G0.e];refine AX (pR3 (b:=b) (men:=men) (sent:=sent) (marks:=marks) (all:=all) (xb:=xb) (sn:=sn) (c0:=c0) (c1:=c1) (fb:=fb) (tb:=tb) (W:=dr W3 τ d)) ?_;rintro e a W' ⟨rfl,rfl,rfl⟩;exact⟨rfl,rfl,rfl,rfl,rfl⟩
 rintro a W4 τ4 d4 ⟨rfl,VB⟩;have e4:W4.heap=W3.heap:=VB.heap;have o4:Old W W4:=o3.trans (Sm.old (W':=W4) ⟨VB.heap,VB.os,VB.output⟩);refine jG T (fun w=>step_seq) ?_;refine jG T (fun w=>step_seq) ?_;refine oq T mN (Q:=fun a W'=>a=⟨#[.agg (b.open men sent marks all),ptr ⟨xb,0,none⟩,.slice none 0 0,.int .i64 sn,ptr ⟨fb,0,none⟩,ptr ⟨tb,0,none⟩,.int .i64 0,af,af,af,af,ptr ⟨xb,0,none⟩,ptr ⟨xb,0,none⟩,ptr ⟨xb,13,none⟩,sent,.int .i64 sn,.chan (some c0),.chan (some c1),.int .i64 0,af,af,af,af,af,af,af,af,af,af,af,af,af,af,af,af,af,af,af,af,af,af,af,af,af,af,af,af,af,af,af,af,af,af,af,af,af,af,af,af,af,af,af,af,af,af,af,af,af,af,af,af],[]⟩∧Sm W4 W') (fun τ d=>?_) ?_
 ·rw[G0.e];refine AX (pR4 (b:=b) (men:=men) (sent:=sent) (marks:=marks) (all:=all) (xb:=xb) (sn:=sn) (c0:=c0) (c1:=c1) (fb:=fb) (tb:=tb) (W:=dr W4 τ d)) ?_;rintro e a W' ⟨rfl,rfl,rfl⟩;exact⟨rfl,rfl,rfl,rfl,rfl⟩
 rintro a W5 τ5 d5 ⟨rfl,VA⟩;have e5:W5.heap=W3.heap:=(show W5.heap=W4.heap from VA.heap).trans e4;have o5:Old W W5:=o4.trans (Sm.old (W':=W5) ⟨VA.heap,VA.os,VA.output⟩);have kc:∀ {c:Nat},Chan c W3→Chan c W5:=fun h=>by obtain⟨s,tm,h⟩:=h;exact⟨s,tm,by rw[e5];exact h⟩
 exact M4 (cs:=cs) G0 o5 (by rw[e5];exact x3) (by rw[e5];exact kf) (by rw[e5];exact kt) (kc k0) (kc k1) h5 ⟨by omega,by omega,by omega,by omega,by omega⟩ Qe
end
end Go.Proofs.YtffladgmkiimjaaGreatDoor
