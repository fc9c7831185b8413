/-
  What the rows of chapter 15 share: the listed variable's cell, a world that meets the condition, the readings of the arguments.
-/
import Derived.ProofKit
import Derived.OpenShut
import Derived.ShutString
import Derived.ChangeOld
import Derived.ChangeVars
import Derived.JoinedOf
import Derived.LaidLaws
import Derived.LaidHandle
import Derived.Stop.Joined
import Derived.Deep.Slices
import Derived.Lib.SmallJoins
import Derived.SizedLaws
import Derived.Test.YtiifmcicleljjaaGreatDoorZ15
set_option maxRecDepth 100000
set_option maxHeartbeats 12800000
namespace Go.Proofs.YtiifmcicleljjaaGreatDoor
open Go.ChangeShapes Go.WideShapes Go.ChangeAt Go.RowKit Go.Joins
theorem cardI64 {n:Int} (h:(Lit.int .i64 n).wf=true): -9223372036854775808<=n/\n<=9223372036854775807:=by
 simp[Lit.wf,IntKind.min,IntKind.max,IntKind.signed,IntKind.bits] at h;omega
theorem cardOwn:ownKnob Tryz.prog.godebug=none:=by kernel_rfl
theorem cardLaidOut:laidOutB Tryz.prog=true:=by kernel_rfl
theorem cardEt:Tryz.prog.globalNamed "errors.errorType"=some 0:=by kernel_rfl
theorem cardRt:(Tryz.prog.cutTypes.find? (·.1== "internal/reflectlite.rtype")).map (·.2)=some 283:=by kernel_rfl
theorem cardSize:Tryz.prog.types.size=349:=by kernel_rfl
theorem cardOne:((List.range 349).filter fun t=>Tryz.prog.rowNamed t [101,114,114,111,114])=[114]:=by kernel_rfl
abbrev cardLaid:List (String×DataW Unit):=[("errors.errorType",Rows.laid_errors_errorType)]
theorem errVar_of_laid {W:World} (h:laidMetH Tryz.prog cardLaid W):iF W:=by
 have h':laidMet Tryz.prog [] W/\handlesMet Tryz.prog cardLaid W:=h;obtain⟨name,u,ty,e1,e2,e3,e4,e5⟩:=h'.2 _ (List.mem_singleton.2 rfl);have en:name=[101,114,114,111,114]:=(Option.some.inj e1).symm;subst en;obtain rfl:=Option.some.inj (cardRt.symm.trans e2);have hm:ty∈(List.range 349).filter fun t=>Tryz.prog.rowNamed t [101,114,114,111,114]:=List.mem_filter.2 ⟨List.mem_range.2 (by rw[<-cardSize];exact e3),e4⟩
 rw[cardOne] at hm;obtain rfl:=List.mem_singleton.1 hm;have hh:typeHandle Tryz.prog 114=.pointer (some ⟨2,114,none⟩):=by kernel_rfl
 rw[hh] at e5;have:=World.var?_cell cardEt e5 0;unfold iF
 simpa using this
noncomputable def cardWorld (os:Os):World:=
 let w0:=World.holding Tryz.prog os ⟨#[],#[],[]⟩
 {w0 with heap:=w0.heap.modify 0 fun
   |.cells _ t frozen=>.cells #[.iface 283 (.agg #[.pointer (some ⟨2,114,none⟩)])] t frozen
   |o=>o}
theorem cardWorld_met (os:Os) (args:Array Value):laidMetH Tryz.prog cardLaid ((cardWorld os).forCall (fun _ _=>0) ⟨#[],args,[]⟩).memory:=
 laidMetH_of_parts (laidMet_nil _ _) (by kernel_rfl)
theorem card_i64 {n:Int} (h:(Lit.int .i64 n).wf=true): -9223372036854775808<=n/\n<=9223372036854775807:=cardI64 h
theorem card_two {α:Type}:∀{l:List α},l.length=2->∃x y,l=[x,y]
 |[x,y],_=>⟨x,y,rfl⟩
section
variable {H:Type} {enc:TypeId×Value->H} {w:World} {base:Nat} {spare:Nat->Bool} {held:Bool}
theorem card_pairs {fuel:Nat} {v:Value} {x:DataW H×List MemPlace} (h:DataW.trod enc Tryz.prog w base spare held fuel 22 [v]=some x):∃l,RdP w v l/\WfP l:=by
 have c50:Tryz.prog.cellsOf 61=2:=by kernel_rfl
 have c3:Tryz.prog.cellsOf 3=1:=by kernel_rfl
 rcases Go.Deep.open_slice Tryz.underlying22 h with⟨hcs,_⟩|⟨a,len,cap,m,n,D,Pl,hcs,_,hl,hm,hmm,_,hi⟩
 ·obtain rfl:v=.slice none 0 0:=by simpa using hcs
  exact⟨[],⟨none,0,rfl,Nat.le_refl _,by simp[maxLen],fun h=>absurd h (by simp)⟩,by intro p hp;simp at hp⟩
 ·obtain rfl:v=.slice (some a) len cap:=by simpa using hcs
  have hlm:len<=m:=by rw[hmm];split<;>omega
  have key:∀i,i<len->∃p:Int×Int,(w.cell? (a.add (i*2))=some (.int .i64 p.1)/\w.cell? (a.add (i*2+1))=some (.int .i64 p.2))/\((-9223372036854775808<=p.1/\p.1<=9223372036854775807)/\(-9223372036854775808<=p.2/\p.2<=9223372036854775807)):=fun i hil=>by
   obtain⟨cs',hc,ht⟩:=hi i (Nat.lt_of_lt_of_le hil hlm);rw[c50] at hc;obtain⟨xs,k,_,_,_,hx2,hel⟩:=DataW.trod_array Tryz.underlying61 ht;obtain⟨_,hcl,hat⟩:=World.cells?_some hc;obtain⟨u0,u1,rfl⟩:=card_two hcl;obtain⟨y0,y1,rfl⟩:=card_two hx2;have e0:=hel 0 (by decide);have e1:=hel 1 (by decide);rw[c3] at e0 e1;obtain⟨n0,q0,_,b0⟩:=DataW.trod_int Tryz.underlying3 (show DataW.trod enc Tryz.prog w base spare held k 3 [u0]=some y0 from e0);obtain⟨n1,q1,_,b1⟩:=DataW.trod_int Tryz.underlying3 (show DataW.trod enc Tryz.prog w base spare held k 3 [u1]=some y1 from e1)
   have q0':u0=.int .i64 n0:=List.singleton_inj.1 q0;have q1':u1=.int .i64 n1:=List.singleton_inj.1 q1;clear e0 e1 hel hi ht h;subst q0' q1';have a0:=hat 0 (by decide);have a1:=hat 1 (by decide);refine⟨(n0,n1),⟨?_,?_⟩,card_i64 b0,card_i64 b1⟩
   ·have e0:(a.add (i*2)).add 0=a.add (i*2):=by rw[Go.Deep.add_add,Nat.add_zero]
    rw[<-e0,a0];rfl
   ·simpa [<-Go.Deep.add_add] using a1
  have hch:∃f:Nat->Int×Int,∀i,i<len->(w.cell? (a.add (i*2))=some (.int .i64 (f i).1)/\w.cell? (a.add (i*2+1))=some (.int .i64 (f i).2))/\((-9223372036854775808<=(f i).1/\(f i).1<=9223372036854775807)/\(-9223372036854775808<=(f i).2/\(f i).2<=9223372036854775807)):=
   ⟨fun i=>if h:i<len then(key i h).choose else(0,0),fun i hil=>by simp only[hil,dif_pos];exact(key i hil).choose_spec⟩
  obtain⟨f,hf⟩:=hch;refine⟨(List.range len).map f,⟨some a,cap,by simp,by simpa using hl,hm,fun h0=>?_⟩,fun p hp=>?_⟩
  ·have h0':0<len:=by simpa using h0
   have c0:=(hf 0 h0').1.1;obtain⟨b,off,spot⟩:=a;have hsp:spot=none:=by simpa [Addr.add] using World.cell?_spot c0
   subst hsp;refine⟨b,off,rfl,World.block_lt_of_cell? w _ c0,fun j p hp=>?_⟩;obtain⟨hj,rfl⟩:j<len/\f j=p:=by
    rw[List.getElem?_map] at hp
    by_cases hj:j<len
    ·rw[List.getElem?_range hj] at hp;exact⟨hj,by simpa using hp⟩
    ·rw[List.getElem?_eq_none (by simpa using hj)] at hp;simp at hp
   have e:∀q,(⟨b,off,none⟩:Addr).add q=⟨b,off+q,none⟩:=fun q=>by unfold Addr.add;split<;>simp_all
   have:=(hf j hj).1;rw[e,e] at this;exact⟨this.1,by rw[Nat.add_assoc];exact this.2⟩
  ·rw[List.mem_map] at hp;obtain⟨i,hi',rfl⟩:=hp;exact(hf i (by simpa using hi')).2
end
end Go.Proofs.YtiifmcicleljjaaGreatDoor
