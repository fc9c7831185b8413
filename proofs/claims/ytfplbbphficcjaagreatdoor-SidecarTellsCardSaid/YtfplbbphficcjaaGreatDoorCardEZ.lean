/-
  The reading of parameters of the type []api.Entry.
-/
import Derived.Test.YtfplbbphficcjaaGreatDoorCardTZ
import Derived.Test.YtfplbbphficcjaaGreatDoorZ34
set_option linter.unusedVariables false
set_option linter.unusedSimpArgs false
set_option maxRecDepth 100000
set_option maxHeartbeats 12800000
namespace Go.Proofs.YtfplbbphficcjaaGreatDoor
open Go.ChangeShapes Go.WideShapes Go.ChangeAt Go.RowKit Go.Joins
theorem card_five {α:Type}:∀{l:List α},l.length=5->∃x y z u v,l=[x,y,z,u,v]
 |[x,y,z,u,v],_=>⟨x,y,z,u,v,rfl⟩
theorem card_u32e {n:Int} (h:(Lit.int .u32 n).wf=true):0<=n/\n<4294967296:=by
 simp[Lit.wf,IntKind.min,IntKind.max,IntKind.signed,IntKind.bits] at h;omega
section
variable {H:Type} {enc:TypeId×Value->H} {w:World} {base:Nat} {spare:Nat->Bool} {held:Bool}
theorem card_ents {fuel:Nat} {v:Value} {x:DataW H×List MemPlace} (h:DataW.trod enc Tryz.prog w base spare held fuel 22 [v]=some x):∃l,RdR w v (l.map bG)/\WfE l:=by
 have c50:Tryz.prog.cellsOf 47=5:=by kernel_rfl
 have c3:Tryz.prog.cellsOf 3=1:=by kernel_rfl
 have c4:Tryz.prog.cellsOf 38=1:=by kernel_rfl
 rcases Go.Deep.open_slice Tryz.underlying22 h with⟨hcs,_⟩|⟨a,len,cap,m,n,D,Pl,hcs,_,hl,hm,hmm,_,hi⟩
 ·obtain rfl:v=.slice none 0 0:=by simpa using hcs
  exact⟨[],RdR.nil w,by intro p hp;simp at hp⟩
 ·obtain rfl:v=.slice (some a) len cap:=by simpa using hcs
  have hlm:len<=m:=by rw[hmm];split<;>omega
  have key:∀i,i<len->∃p:Ent,(w.cell? (a.add (i*5))=some (.int .i64 p.a)/\w.cell? (a.add (i*5+1))=some (.int .i64 p.r)/\w.cell? (a.add (i*5+2))=some (.int .i64 p.f)/\w.cell? (a.add (i*5+3))=some (.int .i64 p.n)/\w.cell? (a.add (i*5+4))=some (.int .u32 p.y))/\WfE [p]:=fun i hil=>by
   obtain⟨cs',hc,ht⟩:=hi i (Nat.lt_of_lt_of_le hil hlm);rw[c50] at hc;obtain⟨xs,k,_,_,_,hx2,hel⟩:=DataW.trod_struct Tryz.underlying47 ht;obtain⟨_,hcl,hat⟩:=World.cells?_some hc;obtain⟨u0,u1,u2,u3,u4,rfl⟩:=card_five hcl;obtain⟨y0,y1,y2,y3,y4,rfl⟩:=card_five hx2;have e0:DataW.trod enc Tryz.prog w base spare held k 3 (([u0,u1,u2,u3,u4].drop 0).take (Tryz.prog.cellsOf 3))=some y0:=hel 0 _ rfl;rw[c3] at e0;have e1:DataW.trod enc Tryz.prog w base spare held k 3 (([u0,u1,u2,u3,u4].drop 1).take (Tryz.prog.cellsOf 3))=some y1:=hel 1 _ rfl;rw[c3] at e1
   have e2:DataW.trod enc Tryz.prog w base spare held k 3 (([u0,u1,u2,u3,u4].drop 2).take (Tryz.prog.cellsOf 3))=some y2:=hel 2 _ rfl;rw[c3] at e2;have e3:DataW.trod enc Tryz.prog w base spare held k 3 (([u0,u1,u2,u3,u4].drop 3).take (Tryz.prog.cellsOf 3))=some y3:=hel 3 _ rfl;rw[c3] at e3;have e4:DataW.trod enc Tryz.prog w base spare held k 38 (([u0,u1,u2,u3,u4].drop 4).take (Tryz.prog.cellsOf 38))=some y4:=hel 4 _ rfl;rw[c4] at e4;obtain⟨n0,q0,_,b0⟩:=DataW.trod_int Tryz.underlying3 (show DataW.trod enc Tryz.prog w base spare held k 3 [u0]=some y0 from e0)
   obtain⟨n1,q1,_,b1⟩:=DataW.trod_int Tryz.underlying3 (show DataW.trod enc Tryz.prog w base spare held k 3 [u1]=some y1 from e1);obtain⟨n2,q2,_,b2⟩:=DataW.trod_int Tryz.underlying3 (show DataW.trod enc Tryz.prog w base spare held k 3 [u2]=some y2 from e2);obtain⟨n3,q3,_,b3⟩:=DataW.trod_int Tryz.underlying3 (show DataW.trod enc Tryz.prog w base spare held k 3 [u3]=some y3 from e3);obtain⟨n4,q4,_,b4⟩:=DataW.trod_int Tryz.underlying38 (show DataW.trod enc Tryz.prog w base spare held k 38 [u4]=some y4 from e4);have q0':u0=.int .i64 n0:=List.singleton_inj.1 q0
   have q1':u1=.int .i64 n1:=List.singleton_inj.1 q1;have q2':u2=.int .i64 n2:=List.singleton_inj.1 q2;have q3':u3=.int .i64 n3:=List.singleton_inj.1 q3;have q4':u4=.int .u32 n4:=List.singleton_inj.1 q4;clear e0 e1 e2 e3 e4 hel hi ht h;subst q0' q1' q2' q3' q4';have a0:=hat 0 (by decide);have a1:=hat 1 (by decide);have a2:=hat 2 (by decide);have a3:=hat 3 (by decide);have a4:=hat 4 (by decide);refine⟨⟨n0,n1,n2,n3,n4⟩,⟨?_,?_,?_,?_,?_⟩,fun p hp=>?_⟩
   ·have e0:(a.add (i*5)).add 0=a.add (i*5):=by rw[Go.Deep.add_add,Nat.add_zero]
    rw[<-e0,a0];rfl
   ·simpa [<-Go.Deep.add_add] using a1
   ·simpa [<-Go.Deep.add_add] using a2
   ·simpa [<-Go.Deep.add_add] using a3
   ·simpa [<-Go.Deep.add_add] using a4
   ·obtain rfl:=List.mem_singleton.1 hp;exact⟨card_i64t b0,card_i64t b1,card_i64t b2,card_i64t b3,card_u32e b4⟩
  have hch:∃f:Nat->Ent,∀i,i<len->(w.cell? (a.add (i*5))=some (.int .i64 (f i).a)/\w.cell? (a.add (i*5+1))=some (.int .i64 (f i).r)/\w.cell? (a.add (i*5+2))=some (.int .i64 (f i).f)/\w.cell? (a.add (i*5+3))=some (.int .i64 (f i).n)/\w.cell? (a.add (i*5+4))=some (.int .u32 (f i).y))/\WfE [f i]:=
   ⟨fun i=>if h:i<len then(key i h).choose else⟨0,0,0,0,0⟩,fun i hil=>by simp only[hil,dif_pos];exact(key i hil).choose_spec⟩
  obtain⟨f,hf⟩:=hch;have hw:=yG ((List.range len).map f);have hfl:=FE hw;rw[List.length_map,List.length_map,List.length_range] at hfl;refine⟨(List.range len).map f,⟨some a,cap,by simp,by simpa using hl,hm,?_⟩,fun p hp=>?_⟩
  ·rcases Nat.eq_zero_or_pos len with h0|h0
   ·left
    subst h0;rfl
   ·right
    have c0:=(hf 0 h0).1.1;obtain⟨b,off,spot⟩:=a;have hsp:spot=none:=by simpa [Addr.add] using World.cell?_spot c0
    subst hsp;refine⟨b,off,rfl,World.block_lt_of_cell? w _ c0,fun j hj=>?_⟩;rw[hfl] at hj;have hjl:j/5<len:=by omega
    have e:∀q,(⟨b,off,none⟩:Addr).add q=⟨b,off+q,none⟩:=fun q=>by unfold Addr.add;split<;>simp_all
    obtain⟨k0,k1,k2,k3,k4⟩:=(hf (j/5) hjl).1;rw[e] at k0 k1 k2 k3 k4;have hq:(((List.range len).map f).map bG)[j/5]? =some (bG (f (j/5))):=by rw[List.getElem?_map,List.getElem?_map,List.getElem?_range hjl];rfl
    obtain⟨u,hu,hcu⟩:∃u,(bG (f (j/5)))[j%5]? =some u/\w.cell? ⟨b,off+(j/5*5+j%5),none⟩=some u:=by
     have h3:j%5=0\/j%5=1\/j%5=2\/j%5=3\/j%5=4:=by omega
     rcases h3 with h3|h3|h3|h3|h3
     ·rw[h3];exact⟨_,rfl,k0⟩
     ·rw[h3];exact⟨_,rfl,k1⟩
     ·rw[h3];exact⟨_,rfl,k2⟩
     ·rw[h3];exact⟨_,rfl,k3⟩
     ·rw[h3];exact⟨_,rfl,k4⟩
    have hg:=FF hw _ _ _ _ hq hu;rw[Nat.div_add_mod'] at hg hcu;rw[hcu,List.getD_eq_getElem?_getD,hg];rfl
  ·rw[List.mem_map] at hp;obtain⟨i,hi',rfl⟩:=hp;exact(hf i (by simpa using hi')).2 _ (List.mem_singleton.2 rfl)
end
end Go.Proofs.YtfplbbphficcjaaGreatDoor
