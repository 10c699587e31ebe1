/- BellMore (5): THE ROW. -/
import Derived.Test.YtffladgmkiimjaaGreatDoorW12
set_option linter.all false
set_option maxHeartbeats 0
set_option maxRecDepth 1000000
open Go.Proofs.Tryz renaming prog -> aq
namespace Go.Proofs.YtffladgmkiimjaaGreatDoor
open Go Go.RowKit Go.Lag Go.ChangeShapes Go.Conc
def JP{P:Program}{H:Type}{enc:TypeId × Value->H}{w:World}{base:Nat}{spare:Nat->Bool}{held:Bool}{t1 t2 t3 t4 t5:TypeId}{args:Array Value}{ds:List (DataW H)}{ps:List MemPlace}(h:DataW.TrodAll enc P w base spare held [t1,t2,t3,t4,t5] args.toList ds ps) :
  ∃v1 v2 v3 v4 v5 d1 d2 d3 d4 d5 p1 p2 p3 p4 p5,args = #[v1,v2,v3,v4,v5]/\ds=[d1,d2,d3,d4,d5]/\ps=p1++p2++p3++p4++p5/\DataW.Trod enc P w base spare held t1 v1 d1 p1/\DataW.Trod enc P w base spare held t2 v2 d2 p2/\DataW.Trod enc P w base spare held t3 v3 d3 p3/\DataW.Trod enc P w base spare held t4 v4 d4 p4/\DataW.Trod enc P w base spare held t5 v5 d5 p5:=by
 obtain⟨v1,vs1,d1,ds1,p1,q1,aaG,rfl,rfl,h1,r1⟩:=trodAll_cons h;obtain⟨v2,vs2,d2,ds2,p2,q2,rfl,rfl,rfl,h2,r2⟩:=trodAll_cons r1;obtain⟨v3,vs3,d3,ds3,p3,q3,rfl,rfl,rfl,h3,r3⟩:=trodAll_cons r2;obtain⟨v4,vs4,d4,ds4,p4,q4,rfl,rfl,rfl,h4,r4⟩:=trodAll_cons r3;obtain⟨v5,vs5,d5,ds5,p5,q5,rfl,rfl,rfl,h5,r5⟩:=trodAll_cons r4;obtain⟨rfl,rfl,rfl⟩:=trodAll_nil r5;exact⟨v1,v2,v3,v4,v5,d1,d2,d3,d4,d5,p1,p2,p3,p4,p5,by cases args;simp_all,rfl,sM,h1,h2,h3,h4,h5⟩
def OG{W:World}{base:Nat}{t e:TypeId}{v:Value}(ht:Tryz.prog.underlying t=some (.slice e))(h:Value.okWide aq W .any base t v):Cell.okWide aq W .any base t v:=by
 unfold Value.okWide at h;rw[ht] at h;exact h
def sZ.kill{W Wk:World}{p:Option Addr}{n c:Nat}{pk:Nat->Nat}(h:sZ W p n c pk)(hs:Wk.heap.size=W.heap.size)(hk:∀(b:Nat) (o:Obj),W.heap[b]?=some o->gg o=true->Wk.heap[b]?=some o):sZ Wk p n c pk:=
 ⟨h.lt,h.out,fun k hn=>by obtain⟨g,off,h1,h2,h3⟩:=h.at_ k hn;exact⟨g,off,h1,by rw[hs];exact h2,oO hk h3⟩⟩
def My(os:Os)(started:os.Started)(H:Type)(enc:TypeId × Value->H) :
  ReturnsInLeavingWide {} Tryz.checked os 5 .any (fun w args=>(Rows.bellMoreSpec.pre enc aq Tryz.f5 [] false w args/\laidMetH aq MN w)/\sizedMet enc aq Tryz.f5 (OpenSpec.ofChange Rows.bellMoreSpec) false w args)
   (Rows.bellMoreSpec.post enc aq Tryz.f5 false true false false):=by
 refine MK (C:=Tryz.checked) (X:=fun w _=>laidMetH aq MN w) (fun _ _ _ hh h=>h.of_heap hh) Tryz.own started Tryz.func5
  (ChangeSpec.witness_shaped (enc:=enc) (C:=Tryz.checked) (os:=os) (X:=fun w _=>laidMetH aq MN w) false (World.doorLaid aq 400 os) #[.agg zP,.slice none 0 0,.int .u16 0,.int .u8 0,.int .u8 0] 8 rfl (World.shaped_of_RefB kQ kQ) kQ kQ kQ (WZ os _)) ?_
 intro W base args ds gs before aan hW hL;have hval:∀(j:Nat) t v,Tryz.f5.params[j]?=some t->args[j]?=some v->Value.okWide aq W .any base t v:=aan;have hW':=hW;obtain⟨p,q,hA0,hV,-,-,-⟩:=hW;have hA:DataW.TrodAll enc aq W 0 (fun _=>true) true Tryz.f5.params.toList args.toList ds p:=hA0;rw[Tryz.params5] at hA hval;obtain⟨v0,v1,v2,v3,v4,d0,d1,d2,d3,d4,p0,p1,p2,p3,p4,rfl,rfl,rfl,h0,h1,h2,h3,h4⟩:=JP hA;clear hA0 aan hA;obtain⟨b,m,s,k,rfl,hm,hs,hk⟩:=ZH (hval 0 28 v0 rfl rfl);have hsp:SliceAt W v1:=LW Tryz.underlying39 (OG Tryz.underlying39 (hval 1 39 v1 rfl rfl));obtain⟨pq,nq,cq,pk,rfl,Hi⟩:=UU h1 hsp;obtain⟨x,rfl,hx⟩:=Ky Tryz.underlying40 (hval 2 40 v2 rfl rfl);obtain⟨dz3,rfl,afK⟩:=Ky Tryz.underlying5 (hval 3 5 v3 rfl rfl);obtain⟨mn,rfl⟩:∃mn:Nat,dz3=mn:=⟨dz3.toNat,by have:=afK.1;simp[IntKind.min,IntKind.signed] at this;omega⟩
 have hmn:mn<256:=by have:=afK.2;simp[IntKind.max,IntKind.signed,IntKind.bits] at this;omega
 obtain⟨dz4,rfl,afJ⟩:=Ky Tryz.underlying5 (hval 4 5 v4 rfl rfl);obtain⟨an,rfl⟩:∃an:Nat,dz4=an:=⟨dz4.toNat,by have:=afJ.1;simp[IntKind.min,IntKind.signed] at this;omega⟩
 have han:an<256:=by have:=afJ.2;simp[IntKind.max,IntKind.signed,IntKind.bits] at this;omega
 have hla:=YJ hL;obtain⟨q1,q2,q3,n1,c1,n2,c2,n3,c3,rfl,rfl,rfl,hl⟩:=Vo h0 hm hs hk
 obtain⟨M,last,o,w',t',r1,r2,r3,r4⟩:=Fa quiet (f:=5) (args:=#[.agg (b.sl q1 n1 c1 q2 n2 c2 q3 n3 c3),.slice pq nq cq,.int .u16 x,.int .u8 (mn:Int),.int .u8 (an:Int)]) (v0:=.bool true) kQ W fun Wk hsz jx=>by
  rcases hl with hbig|⟨ml,ss,ms,rfl,rfl,rfl,a1,a2,a3⟩
  .exact SV b _ _ _ _ _ _ _ _ _ _ _ _ hbig x mn an (hla.kill hsz jx)
  exact abt b _ _ _ _ _ _ _ _ _ ml ss ms pk x mn an hmn han (hla.kill hsz jx) (Reads.kill a1 hsz jx) (Reads.kill a2 hsz jx) (Reads.kill a3 hsz jx) (sZ.kill Hi hsz jx)
 refine⟨M,last,o,w',t',r1,r2,r3,r4.mono ?_⟩;rintro v ⟨rfl,hb⟩;refine UO (tb:=4) Tryz.laidOut rfl (fun t ht=>?_) kQ Tryz.underlying4 hW' (fun ds' hl=>?_) ?_ hb
 .rw[Tryz.params5] at ht;simp at ht;rcases ht with rfl|rfl|rfl|rfl<;>exact⟨kQ,of_decide_eq_true kQ⟩
 .rw[Tryz.params5] at hl
  match ds',hl with
  |[a,b,c,d,e],_=>rfl
 rw[Tryz.params5];rfl
end Go.Proofs.YtffladgmkiimjaaGreatDoor
