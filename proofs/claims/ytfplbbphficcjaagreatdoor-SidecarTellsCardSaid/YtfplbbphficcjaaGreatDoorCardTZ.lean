/-
  The reading of parameters of the type [][3]int.
-/
import Derived.Test.YtfplbbphficcjaaGreatDoorCardLZ
import Derived.Test.YtfplbbphficcjaaGreatDoorZ33
set_option linter.unusedVariables false
set_option linter.unusedSimpArgs false
set_option maxRecDepth 100000
set_option maxHeartbeats 12800000
namespace Go.Proofs.YtfplbbphficcjaaGreatDoor
open Go.ChangeShapes Go.WideShapes Go.ChangeAt Go.RowKit Go.Joins
theorem card_three {α:Type}:∀{l:List α},l.length=3->∃x y z,l=[x,y,z]
 |[x,y,z],_=>⟨x,y,z,rfl⟩
theorem card_i64t {n:Int} (h:(Lit.int .i64 n).wf=true): -9223372036854775808<=n/\n<=9223372036854775807:=by
 simp[Lit.wf,IntKind.min,IntKind.max,IntKind.signed,IntKind.bits] at h;omega
section
variable {H:Type} {enc:TypeId×Value->H} {w:World} {base:Nat} {spare:Nat->Bool} {held:Bool}
theorem card_trips {fuel:Nat} {v:Value} {x:DataW H×List MemPlace} (h:DataW.trod enc Tryz.prog w base spare held fuel 23 [v]=some x):∃l,RdR w v (l.map AM)/\WfT l:=by
 have c50:Tryz.prog.cellsOf 51=3:=by kernel_rfl
 have c3:Tryz.prog.cellsOf 3=1:=by kernel_rfl
 rcases Go.Deep.open_slice Tryz.underlying23 h with⟨hcs,_⟩|⟨a,len,cap,m,n,D,Pl,hcs,_,hl,hm,hmm,_,hi⟩
 ·obtain rfl:v=.slice none 0 0:=by simpa using hcs
  exact⟨[],RdR.nil w,by intro p hp;simp at hp⟩
 ·obtain rfl:v=.slice (some a) len cap:=by simpa using hcs
  have hlm:len<=m:=by rw[hmm];split<;>omega
  have key:∀i,i<len->∃p:kE,(w.cell? (a.add (i*3))=some (.int .i64 p.1)/\w.cell? (a.add (i*3+1))=some (.int .i64 p.2.1)/\w.cell? (a.add (i*3+2))=some (.int .i64 p.2.2))/\((-9223372036854775808<=p.1/\p.1<=9223372036854775807)/\(-9223372036854775808<=p.2.1/\p.2.1<=9223372036854775807)/\(-9223372036854775808<=p.2.2/\p.2.2<=9223372036854775807)):=fun i hil=>by
   obtain⟨cs',hc,ht⟩:=hi i (Nat.lt_of_lt_of_le hil hlm);rw[c50] at hc;obtain⟨xs,k,_,_,_,hx2,hel⟩:=DataW.trod_array Tryz.underlying51 ht;obtain⟨_,hcl,hat⟩:=World.cells?_some hc;obtain⟨u0,u1,u2,rfl⟩:=card_three hcl;obtain⟨y0,y1,y2,rfl⟩:=card_three hx2;have e0:=hel 0 (by decide);have e1:=hel 1 (by decide);have e2:=hel 2 (by decide);rw[c3] at e0 e1 e2;obtain⟨n0,q0,_,b0⟩:=DataW.trod_int Tryz.underlying3 (show DataW.trod enc Tryz.prog w base spare held k 3 [u0]=some y0 from e0)
   obtain⟨n1,q1,_,b1⟩:=DataW.trod_int Tryz.underlying3 (show DataW.trod enc Tryz.prog w base spare held k 3 [u1]=some y1 from e1);obtain⟨n2,q2,_,b2⟩:=DataW.trod_int Tryz.underlying3 (show DataW.trod enc Tryz.prog w base spare held k 3 [u2]=some y2 from e2);have q0':u0=.int .i64 n0:=List.singleton_inj.1 q0;have q1':u1=.int .i64 n1:=List.singleton_inj.1 q1;have q2':u2=.int .i64 n2:=List.singleton_inj.1 q2;clear e0 e1 e2 hel hi ht h;subst q0' q1' q2';have a0:=hat 0 (by decide);have a1:=hat 1 (by decide);have a2:=hat 2 (by decide)
   refine⟨(n0,n1,n2),⟨?_,?_,?_⟩,card_i64t b0,card_i64t b1,card_i64t b2⟩
   ·have e0:(a.add (i*3)).add 0=a.add (i*3):=by rw[Go.Deep.add_add,Nat.add_zero]
    rw[<-e0,a0];rfl
   ·simpa [<-Go.Deep.add_add] using a1
   ·simpa [<-Go.Deep.add_add] using a2
  have hch:∃f:Nat->kE,∀i,i<len->(w.cell? (a.add (i*3))=some (.int .i64 (f i).1)/\w.cell? (a.add (i*3+1))=some (.int .i64 (f i).2.1)/\w.cell? (a.add (i*3+2))=some (.int .i64 (f i).2.2))/\((-9223372036854775808<=(f i).1/\(f i).1<=9223372036854775807)/\(-9223372036854775808<=(f i).2.1/\(f i).2.1<=9223372036854775807)/\(-9223372036854775808<=(f i).2.2/\(f i).2.2<=9223372036854775807)):=
   ⟨fun i=>if h:i<len then(key i h).choose else(0,0,0),fun i hil=>by simp only[hil,dif_pos];exact(key i hil).choose_spec⟩
  obtain⟨f,hf⟩:=hch;have hw:=bFl ((List.range len).map f);have hfl:=FE hw;rw[List.length_map,List.length_map,List.length_range] at hfl;refine⟨(List.range len).map f,⟨some a,cap,by simp,by simpa using hl,hm,?_⟩,fun p hp=>?_⟩
  ·rcases Nat.eq_zero_or_pos len with h0|h0
   ·left
    subst h0;rfl
   ·right
    have c0:=(hf 0 h0).1.1;obtain⟨b,off,spot⟩:=a;have hsp:spot=none:=by simpa [Addr.add] using World.cell?_spot c0
    subst hsp;refine⟨b,off,rfl,World.block_lt_of_cell? w _ c0,fun j hj=>?_⟩;rw[hfl] at hj;have hjl:j/3<len:=by omega
    have e:∀q,(⟨b,off,none⟩:Addr).add q=⟨b,off+q,none⟩:=fun q=>by unfold Addr.add;split<;>simp_all
    obtain⟨k0,k1,k2⟩:=(hf (j/3) hjl).1;rw[e] at k0 k1 k2;have hq:(((List.range len).map f).map AM)[j/3]? =some (AM (f (j/3))):=by rw[List.getElem?_map,List.getElem?_map,List.getElem?_range hjl];rfl
    obtain⟨u,hu,hcu⟩:∃u,(AM (f (j/3)))[j%3]? =some u/\w.cell? ⟨b,off+(j/3*3+j%3),none⟩=some u:=by
     have h3:j%3=0\/j%3=1\/j%3=2:=by omega
     rcases h3 with h3|h3|h3
     ·rw[h3];exact⟨_,rfl,k0⟩
     ·rw[h3];exact⟨_,rfl,k1⟩
     ·rw[h3];exact⟨_,rfl,k2⟩
    have hg:=FF hw _ _ _ _ hq hu;rw[Nat.div_add_mod'] at hg hcu;rw[hcu,List.getD_eq_getElem?_getD,hg];rfl
  ·rw[List.mem_map] at hp;obtain⟨i,hi',rfl⟩:=hp;exact(hf i (by simpa using hi')).2
end
end Go.Proofs.YtfplbbphficcjaaGreatDoor
