/-
  Texts put together (part 40): the walks and the plain laws on which the statement stands.
-/
import Derived.ProofKit
import Derived.OpenShut
import Derived.ShutString
import Derived.ChangeOld
import Derived.ChangeVars
import Derived.JoinedOf
import Derived.LaidLaws
import Derived.LaidHandle
import Derived.Stop.Joined
import Derived.Deep.Slices
import Derived.Lib.SmallJoins
import Derived.SizedLaws
import Derived.Test.YtfckbfofgeilgaaGreatDoorZ38
set_option maxRecDepth 100000
set_option maxHeartbeats 12800000
set_option linter.unusedVariables false
set_option linter.unusedSimpArgs false
open Go.Proofs.Tryz
open Go.Proofs.Tryz renaming prog->pG
open Go.Addr renaming add->gP
open Go.AllReadyH renaming cons->DG
open Go.DataW renaming trod->bHw,trod_int->bH2
open List renaming mem_singleton->cP,range->eT,singleton_inj->bH3
open Option.some renaming inj->cC
namespace Go.Proofs.YtfckbfofgeilgaaGreatDoor
section
open Go.RowKit
def WfI (l:List Int):Prop:=∀x∈l,-9223372036854775808<=x/\x<=9223372036854775807
theorem WfI.get {l:List Int} (h:WfI l) {k:Nat} {x:Int} (d:l[k]? =some x): -9223372036854775808<=x/\x<=9223372036854775807:=h x (List.mem_of_getElem? d)
end
section
section
variable (lt:Int->Int->Prop)
variable {lt}
theorem jM.tiny (f:Nat->Int) (a b:Nat) (h:b<=a+1):jM lt f a b:=fun i j d e A=>by omega
end
end
section
open Go.RowKit
def tN (w0:World) (g n d:Nat) (A:Int->Int->Bool):Prop:=
 ∀W,w0.grownBy W (some g)->∀x y:Int,0<=x->x<(n:Int)->0<=y->y<(n:Int)->
  Calls pG 999983 #[.int .i64 x,.int .i64 y,.pointer (some ⟨d,0,none⟩)] W fun e D=>∃c:Int,e=.returned (.int .i64 c)/\decide (c<0)=A x y/\Below W.heap.size W D
theorem tN.later {w0 d:World} {g n e:Nat} {A:Int->Int->Bool} (h:tN w0 g n e A) (D:w0.grownBy d (some g)):tN d g n e A:=by grind [eU,tN]
structure pK (lt:Int->Int->Prop) (f g:Nat->Int) (a b:Nat):Prop where
 frm:∀k,a<=k->k<b->∃k',a<=k'/\k'<b/\g k=f k'
 srt:jM lt g a b
theorem pK.empty {lt:Int->Int->Prop} {f g:Nat->Int} {a b:Nat} (h:b<=a):pK lt f g a b:=
 ⟨fun k d e=>by omega,jM.tiny _ _ _ (by omega)⟩
end
section
open Go.ChangeShapes Go.WideShapes Go.ChangeAt Go.RowKit Go.Joins
theorem aSj {n:Int} (h:(Lit.int .i64 n).wf=true): -9223372036854775808<=n/\n<=9223372036854775807:=by
 simp[Lit.wf,IntKind.min,IntKind.max,IntKind.signed,IntKind.bits] at h;omega
theorem bGr:ownKnob pG.godebug=none:=by kernel_rfl
theorem bGs:laidOutB pG=true:=by kernel_rfl
theorem aSk:pG.globalNamed "errors.errorType"=some 0:=by kernel_rfl
theorem aSl:(pG.cutTypes.find? (·.1== "internal/reflectlite.rtype")).map (·.2)=some 279:=by kernel_rfl
theorem aSm:pG.types.size=421:=by kernel_rfl
theorem aSn:((eT 421).filter fun t=>pG.rowNamed t [101,114,114,111,114])=[93]:=by kernel_rfl
abbrev QZ:List (String×DataW Unit):=[("errors.errorType",Rows.laid_errors_errorType)]
theorem bGt {W:World} (h:laidMetH pG QZ W):dU W:=by
 have A:laidMet pG [] W/\handlesMet pG QZ W:=h;obtain⟨D,u,F,G,I,J,L,d⟩:=A.2 _ (cP.2 rfl);have M:D=[101,114,114,111,114]:=(cC G).symm;subst M;obtain rfl:=cC (aSl.symm.trans I);have e:F∈(eT 421).filter fun t=>pG.rowNamed t [101,114,114,111,114]:=List.mem_filter.2 ⟨List.mem_range.2 (by rw[<-aSm];exact J),L⟩
 rw[aSn] at e;obtain rfl:=cP.1 e;have O:typeHandle pG 93=.pointer (some ⟨1,93,none⟩):=by kernel_rfl
 rw[O] at d;have:=World.var?_cell aSk d 0;unfold dU
 simpa using this
noncomputable def aSo (os:Os):World:=
 let w0:=World.holding pG os ⟨#[],#[],[]⟩
 {w0 with heap:=w0.heap.modify 0 fun
   |.cells _ t d=>.cells #[.iface 279 (.agg #[.pointer (some ⟨1,93,none⟩)])] t d
   |o=>o}
theorem bGu (os:Os) (args:Array Value):laidMetH pG QZ ((aSo os).forCall (fun _ _=>0) ⟨#[],args,[]⟩).memory:=
 laidMetH_of_parts (laidMet_nil _ _) (by kernel_rfl)
theorem aBp {n:Int} (h:(Lit.int .i64 n).wf=true): -9223372036854775808<=n/\n<=9223372036854775807:=aSj h
theorem aBq {α:Type}:∀{l:List α},l.length=2->∃x y,l=[x,y]
 |[x,y],_=>⟨x,y,rfl⟩
section
variable {H:Type} {enc:TypeId×Value->H} {w:World} {base:Nat} {spare:Nat->Bool} {held:Bool}
theorem bGv {a2:Nat} {v:Value} {x:DataW H×List MemPlace} (h:bHw enc pG w base spare held a2 22 [v]=some x):∃l,RdP w v l/\WfP l:=by
 have a3:pG.cellsOf 61=2:=by kernel_rfl
 have c3:pG.cellsOf 3=1:=by kernel_rfl
 rcases Go.Deep.open_slice underlying22 h with⟨J,_⟩|⟨a,A,cap,m,n,D,Pl,J,_,hl,hm,a4,_,R⟩
 ·obtain rfl:v=.slice none 0 0:=by simpa using J
  exact⟨[],⟨none,0,rfl,Nat.le_refl _,by simp[maxLen],fun h=>absurd h (by simp)⟩,by intro p d;simp at d⟩
 ·obtain rfl:v=.slice (some a) A cap:=by simpa using J
  have a5:A<=m:=by rw[a4];split<;>omega
  have U:∀i,i<A->∃p:Int×Int,(w.cell? (a.add (i*2))=some (.int .i64 p.1)/\w.cell? (a.add (i*2+1))=some (.int .i64 p.2))/\((-9223372036854775808<=p.1/\p.1<=9223372036854775807)/\(-9223372036854775808<=p.2/\p.2<=9223372036854775807)):=fun i I=>by
   obtain⟨b7,V,Y⟩:=R i (Nat.lt_of_lt_of_le I a5);rw[a3] at V;obtain⟨xs,k,_,_,_,a6,L⟩:=DataW.trod_array underlying61 Y;obtain⟨_,a7,Z⟩:=World.cells?_some V;obtain⟨u0,u1,rfl⟩:=aBq a7;obtain⟨y0,y1,rfl⟩:=aBq a6;have F:=L 0 (by decide);have M:=L 1 (by decide);rw[c3] at F M;obtain⟨n0,q0,_,b0⟩:=bH2 underlying3 (show bHw enc pG w base spare held k 3 [u0]=some y0 from F);obtain⟨n1,q1,_,b1⟩:=bH2 underlying3 (show bHw enc pG w base spare held k 3 [u1]=some y1 from M);have a8:u0=.int .i64 n0:=bH3.1 q0
   have a9:u1=.int .i64 n1:=bH3.1 q1;clear F M L R Y h;subst a8 a9;have a0:=Z 0 (by decide);have a1:=Z 1 (by decide);refine⟨(n0,n1),⟨?_,?_⟩,aBp b0,aBp b1⟩
   ·have F:(a.add (i*2)).add 0=a.add (i*2):=by rw[Go.Deep.add_add,Nat.add_zero]
    rw[<-F,a0];rfl
   ·simpa [<-Go.Deep.add_add] using a1
  have b2:∃f:Nat->Int×Int,∀i,i<A->(w.cell? (a.add (i*2))=some (.int .i64 (f i).1)/\w.cell? (a.add (i*2+1))=some (.int .i64 (f i).2))/\((-9223372036854775808<=(f i).1/\(f i).1<=9223372036854775807)/\(-9223372036854775808<=(f i).2/\(f i).2<=9223372036854775807)):=
   ⟨fun i=>if h:i<A then(U i h).choose else(0,0),fun i I=>by simp only[I,dif_pos];exact(U i I).choose_spec⟩
  obtain⟨f,O⟩:=b2;refine⟨(eT A).map f,⟨some a,cap,by simp,by simpa using hl,hm,fun h0=>?_⟩,fun p d=>?_⟩
  ·have b3:0<A:=by simpa using h0
   have c0:=(O 0 b3).1.1;obtain⟨b,off,b4⟩:=a;have b5:b4=none:=by simpa [gP] using World.cell?_spot c0
   subst b5;refine⟨b,off,rfl,World.block_lt_of_cell? w _ c0,fun j p d=>?_⟩;obtain⟨G,rfl⟩:j<A/\f j=p:=by
    rw[List.getElem?_map] at d
    by_cases G:j<A
    ·rw[List.getElem?_range G] at d;exact⟨G,by simpa using d⟩
    ·rw[List.getElem?_eq_none (by simpa using G)] at d;simp at d
   have e:∀q,(⟨b,off,none⟩:Addr).add q=⟨b,off+q,none⟩:=fun q=>by unfold gP;split<;>simp_all
   have:=(O j G).1;rw[e,e] at this;exact⟨this.1,by rw[Nat.add_assoc];exact this.2⟩
  ·rw[List.mem_map] at d;obtain⟨i,b6,rfl⟩:=d;exact(O i (by simpa using b6)).2
end
end
section
open Go.RowKit Go Go.Shelf
section
variable {P:Program} {ops:Array Oper} {Q:Exit->Act->World->Prop} {md:Region.Mode} {S:World->Prop}
theorem bPj {e:Nat} {d:Array Bool} {a:Act} {w:World} (i j k:Nat) {o A D:Oper} (F:Region.ready md ops d=[i,j,k]) (G:ops[i]? =some o) (I:ops[j]? =some A) (J:ops[k]? =some D)
  (h:Rdy P md ops Q S e d a w i o) (L:Rdy P md ops Q S e d a w j A) (M:Rdy P md ops Q S e d a w k D):wpAnyH P md ops Q S (e+1) d a w:=
 wpAnyH_ready F (by simp) (DG G h (DG I L (DG J M AllReadyH.nil)))
end
section
variable {w W W':World} {B z n r g Z cap:Nat} {y0 y1:Value} {T:List Value} {a:ByteArray} {vi vh:Value} {room clock:Int} {P:List Prt} {H:List Hld} {Rs:List Rdr} {dec:Int}
end
end
end Go.Proofs.YtfckbfofgeilgaaGreatDoor
