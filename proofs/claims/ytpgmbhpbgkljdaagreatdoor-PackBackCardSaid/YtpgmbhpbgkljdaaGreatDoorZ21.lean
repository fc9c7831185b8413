/-
  Texts put together (part 21): the walks and the plain laws on which the statement stands.
-/
import Derived.ProofKit
import Derived.OpenShut
import Derived.ShutString
import Derived.ChangeOld
import Derived.ChangeVars
import Derived.JoinedOf
import Derived.LaidLaws
import Derived.LaidHandle
import Derived.Stop.Joined
import Derived.Deep.Slices
import Derived.Lib.SmallJoins
import Derived.SizedLaws
import Derived.ChangeSlices
import Derived.Test.YtpgmbhpbgkljdaaGreatDoorZ15
set_option maxRecDepth 100000
set_option maxHeartbeats 12800000
open Go.Addr renaming add->iN
open Go.Value renaming slice->lK
open Go.World renaming block_lt_of_cell?->iO
open List renaming mem_map->dU,mem_singleton->dC,range->dG
open Nat renaming le_refl->aA
open Option.some renaming inj->bW
namespace Go.Proofs.YtpgmbhpbgkljdaaGreatDoor
section
open Go.RowKit
structure MF (a:ByteArray) (l:List Int) (most:Int) (t:ByteArray):Prop where
 pos:0<t.size
 tm:(t.size:Int)<=most
 len:t.size=(cE l).length
 two:2<=l.length
 last:l[l.length-1]? =some ((a.size:Int)+1)
 sym:∀x∈l.take (l.length-1),0<=x/\x<(a.size:Int)+1
 asz:a.size<=256
 bK:mkS (bK (a++t).data.toList)=a
theorem aOm (a t:ByteArray):(a++t).data.toList=a.data.toList++t.data.toList:=by simp
theorem aOn {s:List UInt8} {o:Nat} (h:o<s.length):∀b∈nF s o,b∈s:=fun b hb=>by
 obtain⟨i,_,rfl⟩:=dU.1 hb;have hlt:=sU s o h (i+1);rw[List.getD_eq_getElem?_getD,List.getElem?_eq_getElem hlt];exact List.getElem_mem hlt
theorem aOo (a:ByteArray) (o:Int) (l:List Int) (most:Int):
  (∃e,rest a o l most=(cW,e)/\e≠0)\/∃t,rest a o l most=(t,0)/\MF a l most t:=by
 by_cases h1:a.data.toList≠[]/\Go.Proofs.YtpgmbhpbgkljdaaGreatDoor.bK a.data.toList=a.data.toList
 rotate_left
 ·exact .inl ⟨1,wQ h1,by decide⟩
 by_cases h2:gW l ((a.size:Int)+1)
 rotate_left
 ·exact .inl ⟨3,zK h1 h2,by decide⟩
 by_cases h3:((cE l).length:Int)<=most
 rotate_left
 ·exact .inl ⟨4,zL h1 h2 h3,by decide⟩
 by_cases h4:0<=o/\o<((cE l).length:Int)
 rotate_left
 ·exact .inl ⟨3,zM h1 h2 h3 h4,by decide⟩
 refine .inr ⟨_,wR h1 h2 h3 h4,?_⟩;have hal:a.data.toList.length=a.size:=by rw[Array.length_toList];rfl
 have hap:0<a.size:=by rw[<-hal];exact List.length_pos_iff.2 h1.1
 have hul:(unL a.data.toList (cE l)).length=(cE l).length:=oO _ _;have hbl:(nF (unL a.data.toList (cE l)) o.toNat).length=(cE l).length:=by rw[CN,hul]
 have hmem:∀b∈nF (unL a.data.toList (cE l)) o.toNat,b∈a.data.toList:=fun b hb=>
  IQ _ _ (by rw[hal];exact LQ h2 hap) b (aOn (by rw[hul];omega) b hb)
 refine⟨by rw[cP,hbl];omega,by rw[cP,hbl];exact h3,by rw[cP,hbl],?_,h2.2.1,h2.2.2,?_,?_⟩
 ·rcases Nat.lt_or_ge l.length 2 with q|q
  ·have e:cE l=[]:=by
    unfold cE;rw[show l.length-1=0 by omega];rfl
   rw[e] at h4;simp at h4;omega
  ·exact q
 ·rw[<-hal,<-h1.2];exact rX _
 ·rw[aOm,fW,PJ (t:=a.data.toList),h1.2,pL];intro b;rw[List.mem_append];exact⟨fun h=>h.elim id (hmem b),.inl⟩
theorem MF.own {a t:ByteArray} {l:List Int} {most:Int} (h:MF a l most t) (hO:fS t):sqE t=0/\rest (sqA t) (sqO t) (sqS t) (t.size:Int)=(t,0):=
 ⟨XZ h.pos,YE h.pos hO (Int.le_refl _)⟩
end
section
open Go.ChangeShapes Go.WideShapes Go.ChangeAt Go.RowKit Go.Joins
theorem dF {n:Int} (h:(Lit.int .i64 n).wf=true): -9223372036854775808<=n/\n<=9223372036854775807:=by
 simp[Lit.wf,IntKind.min,IntKind.max,IntKind.signed,IntKind.bits] at h;omega
theorem aS4:Tryz.prog.globalNamed "errors.errorType"=some 1:=by kernel_rfl
theorem aS5:(Tryz.prog.cutTypes.find? (·.1== "internal/reflectlite.rtype")).map (·.2)=some 330:=by kernel_rfl
theorem aS6:Tryz.prog.types.size=373:=by kernel_rfl
theorem aS7:((dG 373).filter fun t=>Tryz.prog.rowNamed t [101,114,114,111,114])=[92]:=by kernel_rfl
abbrev pE:List (String×DataW Unit):=[("errors.errorType",Rows.laid_errors_errorType)]
theorem NF {W:World} (h:laidMetH Tryz.prog pE W):iF W:=by
 have h':laidMet Tryz.prog [] W/\handlesMet Tryz.prog pE W:=h;obtain⟨name,u,ty,e1,e2,e3,e4,e5⟩:=h'.2 _ (dC.2 rfl);have en:name=[101,114,114,111,114]:=(bW e1).symm;subst en;obtain rfl:=bW (aS5.symm.trans e2);have hm:ty∈(dG 373).filter fun t=>Tryz.prog.rowNamed t [101,114,114,111,114]:=List.mem_filter.2 ⟨List.mem_range.2 (by rw[<-aS6];exact e3),e4⟩
 rw[aS7] at hm;obtain rfl:=dC.1 hm;have hh:typeHandle Tryz.prog 92=.pointer (some ⟨2,92,none⟩):=by kernel_rfl
 rw[hh] at e5;have:=World.var?_cell aS4 e5 0;unfold iF
 simpa using this
theorem cardOwn:ownKnob Tryz.prog.godebug=none:=by kernel_rfl
theorem cardLaidOut:laidOutB Tryz.prog=true:=by kernel_rfl
noncomputable def cardWorld (os:Os):World:=
 let w0:=World.holding Tryz.prog os ⟨#[],#[],[]⟩
 {w0 with heap:=w0.heap.modify 1 fun
  | .cells _ t frozen=>.cells #[.iface 330 (.agg #[.pointer (some ⟨2,92,none⟩)])] t frozen
  | o=>o}
theorem cardWorld_met (os:Os) (args:Array Value):laidMetH Tryz.prog pE ((cardWorld os).forCall (fun _ _=>0) ⟨#[],args,[]⟩).memory:=laidMetH_of_parts (laidMet_nil _ _) (by kernel_rfl)
theorem cardRt':(Tryz.prog.cutTypes.find? (·.1=="internal/reflectlite.rtype")).map (·.2)=some 330:=by kernel_rfl
theorem FK {n:Int} (h:(Lit.int .i64 n).wf=true): -9223372036854775808<=n/\n<=9223372036854775807:=dF h
theorem aBt {α:Type}:∀{l:List α},l.length=2->∃x y,l=[x,y]
 |[x,y],_=>⟨x,y,rfl⟩
section
variable {H:Type} {enc:TypeId×Value->H} {w:World} {base:Nat} {spare:Nat->Bool} {held:Bool}
theorem aBu {fuel:Nat} {v:Value} {x:DataW H×List MemPlace} (h:DataW.trod enc Tryz.prog w base spare held fuel 22 [v]=some x):∃l,RdP w v l/\WfP l:=by
 have c50:Tryz.prog.cellsOf 116=2:=by kernel_rfl
 have c3:Tryz.prog.cellsOf 3=1:=by kernel_rfl
 rcases Go.Deep.open_slice Tryz.underlying22 h with⟨hcs,_⟩|⟨a,len,cap,m,n,D,Pl,hcs,_,hl,hm,hmm,_,hi⟩
 ·obtain rfl:v=.slice none 0 0:=by simpa using hcs
  exact⟨[],⟨none,0,rfl,aA _,by simp[maxLen],fun h=>absurd h (by simp)⟩,by intro p hp;simp at hp⟩
 ·obtain rfl:v=.slice (some a) len cap:=by simpa using hcs
  have hlm:len<=m:=by rw[hmm];split<;>omega
  have key:∀i,i<len->∃p:Int×Int,(w.cell? (a.add (i*2))=some (.int .i64 p.1)/\w.cell? (a.add (i*2+1))=some (.int .i64 p.2))/\((-9223372036854775808<=p.1/\p.1<=9223372036854775807)/\(-9223372036854775808<=p.2/\p.2<=9223372036854775807)):=fun i hil=>by
   obtain⟨cs',hc,ht⟩:=hi i (Nat.lt_of_lt_of_le hil hlm);rw[c50] at hc;obtain⟨xs,k,_,_,_,hx2,hel⟩:=DataW.trod_array Tryz.underlying116 ht;obtain⟨_,hcl,hat⟩:=World.cells?_some hc;obtain⟨u0,u1,rfl⟩:=aBt hcl;obtain⟨y0,y1,rfl⟩:=aBt hx2;have e0:=hel 0 (by decide);have e1:=hel 1 (by decide);rw[c3] at e0 e1;obtain⟨n0,q0,_,b0⟩:=DataW.trod_int Tryz.underlying3 (show DataW.trod enc Tryz.prog w base spare held k 3 [u0]=some y0 from e0);obtain⟨n1,q1,_,b1⟩:=DataW.trod_int Tryz.underlying3 (show DataW.trod enc Tryz.prog w base spare held k 3 [u1]=some y1 from e1)
   have q0':u0=.int .i64 n0:=List.singleton_inj.1 q0;have q1':u1=.int .i64 n1:=List.singleton_inj.1 q1;clear e0 e1 hel hi ht h;subst q0' q1';have a0:=hat 0 (by decide);have a1:=hat 1 (by decide);refine⟨(n0,n1),⟨?_,?_⟩,FK b0,FK b1⟩
   ·have e0:(a.add (i*2)).add 0=a.add (i*2):=by rw[Go.Deep.add_add,Nat.add_zero]
    rw[<-e0,a0];rfl
   ·simpa [<-Go.Deep.add_add] using a1
  have hch:∃f:Nat->Int×Int,∀i,i<len->(w.cell? (a.add (i*2))=some (.int .i64 (f i).1)/\w.cell? (a.add (i*2+1))=some (.int .i64 (f i).2))/\((-9223372036854775808<=(f i).1/\(f i).1<=9223372036854775807)/\(-9223372036854775808<=(f i).2/\(f i).2<=9223372036854775807)):=
   ⟨fun i=>if h:i<len then(key i h).choose else(0,0),fun i hil=>by simp only[hil,dif_pos];exact(key i hil).choose_spec⟩
  obtain⟨f,hf⟩:=hch;refine⟨(dG len).map f,⟨some a,cap,by simp,by simpa using hl,hm,fun h0=>?_⟩,fun p hp=>?_⟩
  ·have h0':0<len:=by simpa using h0
   have c0:=(hf 0 h0').1.1;obtain⟨b,off,spot⟩:=a;have hsp:spot=none:=by simpa [iN] using World.cell?_spot c0
   subst hsp;refine⟨b,off,rfl,iO w _ c0,fun j p hp=>?_⟩;obtain⟨hj,rfl⟩:j<len/\f j=p:=by
    rw[List.getElem?_map] at hp
    by_cases hj:j<len
    ·rw[List.getElem?_range hj] at hp;exact⟨hj,by simpa using hp⟩
    ·rw[List.getElem?_eq_none (by simpa using hj)] at hp;simp at hp
   have e:∀q,(⟨b,off,none⟩:Addr).add q=⟨b,off+q,none⟩:=fun q=>by unfold iN;split<;>simp_all
   have:=(hf j hj).1;rw[e,e] at this;exact⟨this.1,by rw[Nat.add_assoc];exact this.2⟩
  ·rw[dU] at hp;obtain⟨i,hi',rfl⟩:=hp;exact(hf i (by simpa using hi')).2
end
theorem aT3 {w:World} {a:Option Addr} {len cap:Nat} {zs:List Int}
  (h:(a=none/\len=0/\cap=0/\zs=[])\/∃x,a=some x/\len<=cap/\cap<=maxLen/\zs.length=cap/\(∀i,i<zs.length->w.cell? (x.add i)=some (.int .i64 (zs.getD i 0)))/\∀n∈zs,(Lit.int .i64 n).wf=true):
  RdI w (.slice a len cap) (zs.take len)/\WfI (zs.take len):=by
 rcases h with⟨rfl,rfl,rfl,rfl⟩|⟨⟨b,off,spot⟩,rfl,hl,hm,hz,hc,hw⟩
 ·exact⟨⟨none,0,rfl,aA _,by simp[maxLen],.inl rfl⟩,by intro x hx;simp at hx⟩
 ·have hlen:(zs.take len).length=len:=by simp;omega
  refine⟨⟨some ⟨b,off,spot⟩,cap,by rw[hlen],by rw[hlen];exact hl,hm,?_⟩,fun x hx=>?_⟩
  ·rcases Nat.eq_zero_or_pos len with h0|h0
   ·left;subst h0;simp
   ·right
    have h1:=hc 0 (by omega);have hsp:spot=none:=by simpa [iN] using World.cell?_spot h1
    subst hsp;refine⟨b,off,rfl,iO w _ h1,fun j hj=>?_⟩;have hj':j<len:=by rw[List.length_map,hlen] at hj;exact hj
    have h2:=hc j (by omega);have e:(⟨b,off,none⟩:Addr).add j=⟨b,off+j,none⟩:=by unfold iN;split<;>simp_all
    rw[e] at h2;rw[h2];have hjz:j<zs.length:=by omega
    simp[List.getD,hj',hjz]
  ·have:=hw x (List.mem_of_mem_take hx);simp[Lit.wf,IntKind.min,IntKind.max,IntKind.signed,IntKind.bits] at this;omega
section
variable {H:Type} {enc:TypeId×Value->H} {w:World} {base:Nat} {held:Bool}
theorem aBv {s:Option Addr} {n c:Nat} {d:DataW H} {p:List MemPlace} (h:DataW.Trod enc Tryz.prog w base (fun _=>true) held 39 (.slice s n c) d p):∃l,RdI w (.slice s n c) l/\WfI l:=by
 obtain⟨fuel,hf⟩:=h;rcases open_ints Tryz.underlying39 Tryz.underlying3 (by kernel_rfl) hf with⟨hc,_⟩|⟨a,len,cap,zs,hc,_,hl,hm,hz,_,hcell,hwf⟩
 ·have hc:lK s n c=.slice none 0 0:=by simpa [Value.cells] using hc
  rw[hc];exact⟨_,aT3 (zs:=[]) (.inl ⟨rfl,rfl,rfl,rfl⟩)⟩
 ·have hc:lK s n c=.slice (some a) len cap:=by simpa [Value.cells] using hc
  rw[hc];exact⟨_,aT3 (zs:=zs) (.inr ⟨a,rfl,hl,hm,by simpa using hz,hcell,hwf⟩)⟩
end
end
end Go.Proofs.YtpgmbhpbgkljdaaGreatDoor
