/-
  Texts put together (part 9): the walks and the plain laws on which the statement stands.
-/
import Derived.Maps.AppendAt
import Derived.Test.YtfckbfofgeilgaaGreatDoorZ7
import Derived.Test.YtfckbfofgeilgaaGreatDoorZ8
set_option maxRecDepth 100000
set_option maxHeartbeats 12800000
set_option linter.unusedVariables false
set_option linter.unusedSimpArgs false
open Go.Proofs.Tryz
open Go.Proofs.Tryz renaming prog->pG
open Array renaming getElem?_eq_some_iff->fE
open Go renaming Operand->iF,Program->fO,cell_of_row->yI,info_parts->AN,run_append_own->IJ,wpList_plain->yK
open Go.Addr renaming add->gP
open Go.Builtin renaming append_->sA
open Go.IntKind renaming i64->aJ,u64->eZ,wrap_i64->aM,wrap_u64->fC
open Go.Oper renaming wp->nC
open Go.Region renaming wanted->qL
open Go.Result renaming andThen_ok->AR
open Go.RowKit.Below renaming refl->aH
open Go.Sem renaming run_bind->vI,run_pure->AQ
open Go.Value renaming int->bQ
open Go.World renaming ownsRow_nil->WJ
open Go.World.ownsRow renaming alloc->WK,kept->yJ,lt->aK9
open List renaming flatten_cons->kW,getD_eq_getElem?_getD->bV,getElem?_eq_getElem->aN,getElem?_eq_some_iff->eF,length_append->aL,length_cons->aU,length_map->aS,map_cons->kI,map_nil->vJ,map_toArray->AS,mem_append->dK,mem_cons_of_mem->iQ,mem_cons_self->jK,mem_of_getElem?->cN,take_add_one->cG,take_of_length_le->cD
open Nat renaming le_mul_of_pos_right->AO,le_refl->aD,le_trans->aR,mul_assoc->DK,mul_comm->pE,mul_le_mul_left->XO,pow_le_pow_right->nF,pow_pos->DN,pow_succ->oP,zero_add->iP,zero_le->aO
open Option.some renaming inj->cC
namespace Go.Proofs.YtfckbfofgeilgaaGreatDoor
section
open Go.RowKit Go Go.Shelf
theorem lR {D:Array Oper} {rest:List Oper} {o:Oper} {a:Act} {Q:Exit->Act->World->Prop} {w:World} (G:o.guard=none) (s x:iF)
  (I:o.op=.call {callee:=.builtin .append,args:=#[s,x],argTypes:=#[53,53]}) (base:Nat) (v:Value) (l m:List Int) (hs:a.eval s=v) (hown:OwI w base v l)
  (u:Value) (hx:a.eval x=u) (hr:RdI w u m) (hm:0<m.length) (hroom:(l.length+m.length)*8<=140737488355328) (hbase:base<=w.heap.size)
  (h:∀d w',OwI w' base d (l++m)->Below base w w'->w.grownBy w' v.ownBlock->(d.ownBlock=v.ownBlock\/d.ownBlock=some w.heap.size)->wpList pG D Q rest (a.put o.dst d) w'):wpList pG D Q (o::rest) a w:=by
 obtain⟨i,J,L,M,O⟩:=jL.info;obtain⟨ad,c,rfl,a0,a1,R⟩:=hr.open;obtain⟨b,off,rfl,hb,U⟩:=R hm;refine wpList_append_own_at w G s x 53 I base 3 i (.int .i64 0) 1 8 underlying53 J L M O rfl (by decide) v (l.map (bQ .i64)).length (l.map (bQ .i64)) hs hown ⟨b,off,none⟩ m.length c (m.map (bQ .i64)) hx (by simp)
  (fun j V A=>?_) (fun V Y=>?_) (by simp only[maxLen,aS];omega) (by simpa using hroom) hbase (fun d w' Z F _ q4=>h d w' ?_ (rJ hown F hbase) F q4)
 ·rw[List.getElem?_map] at A
  cases e:m[j]? with
  |none=>rw[e] at A;simp at A
  |some y=>
   rw[e] at A;simp at A;rw[show(⟨b,off,none⟩:Addr).add j=⟨b,off+j,none⟩ by unfold gP;split<;>simp_all,U j y e,<-A]
 ·obtain⟨y,_,rfl⟩:=List.mem_map.1 Y;rfl
 ·unfold OwI Ow;rw[List.map_append,aL]
  simpa using Z
def fD (l:List Bool):List Value:=[.string (mkS (aI l)),.int .i64 (l.length:Int)]
def eO (w:World) (B:Nat) (v:Value) (d:List (List Bool)):Prop:=w.ownsRow B 69 2 v d.length (d.flatMap fD)
theorem eO.nil (w:World) (B:Nat):eO w B (.slice none 0 0) []:=WJ _ _ _ _
theorem eO.alloc {w:World} {B:Nat} {v:Value} {l:List (List Bool)} (h:eO w B v l) (o:Obj):eO (w.alloc o) B v l:=WK h o
theorem eO.below {w w':World} {B C:Nat} {v:Value} {l:List (List Bool)} (h:eO w B v l) (d:Below C w w') (e:w.heap.size<=C):eO w' B v l:=IX h d e
theorem eO.base {w:World} {B d:Nat} {v:Value} {l:List (List Bool)} (h:eO w B v l) (e:d<=B):eO w d v l:=DR h e
theorem aEk:∀(d:List (List Bool)) (j:Nat) (l:List Bool),d[j]? =some l->(d.flatMap fD)[j*2]? =some (.string (mkS (aI l)))/\(d.flatMap fD)[j*2+1]? =some (.int .i64 (l.length:Int))
 |[],j,l,h=>by simp at h
 |x::d,0,l,h=>by grind [fD,mkS,aI]
 |x::d,j+1,l,h=>by
  have e:=aEk d j l (by simpa using h)
  grind [fD,mkS,aI]
theorem eO.rd {w:World} {B:Nat} {v:Value} {d:List (List Bool)} (h:eO w B v d):xV w v d:=by
 obtain⟨I,h⟩:=h;rcases h with⟨rfl,J⟩|⟨g,cap,A,rfl,L,e,F,G,M,O⟩
 ·grind [eO,xV]
 ·refine⟨_,cap,rfl,F,G,fun _=>⟨g,0,rfl,(fE.1 e).1,fun j l D=>?_⟩⟩;obtain⟨R,U⟩:=aEk d j l D;have V:=(eF.1 D).1;rw[iP,yI w g (j*2) A _ (0,0) e,yI w g (j*2+1) A _ (0,0) e]
  grind
abbrev lC:=List (List Value)
def oW (k:Nat) (l:lC):Prop:=∀q∈l,q.length=k/\∀u∈q,u.oneCell'=true
theorem oW.app {k:Nat} {l m:lC} (h:oW k l) (g:oW k m):oW k (l++m):=fun q d=>(dK.1 d).elim (h q) (g q)
theorem oW.one {k:Nat} {q:List Value} (h:q.length=k) (g:∀u∈q,u.oneCell'=true):oW k [q]:=by grind [oW]
theorem FE {k:Nat}:∀{l:lC},oW k l->l.flatten.length=l.length*k
 |[],_=>by simp
 |x::l,h=>by
  rw[kW,aL,FE (l:=l) (fun q d=>h q (iQ _ d)),(h x (jK ..)).1,aU,Nat.succ_mul,Nat.add_comm]
theorem FF {k:Nat}:∀{l:lC},oW k l->∀(j i:Nat) (q:List Value) (u:Value),l[j]? =some q->q[i]? =some u->l.flatten[j*k+i]? =some u
 |[],_,j,i,q,u,h,_=>by simp at h
 |x::l,d,0,i,q,u,h,A=>by grind
 |x::l,d,j+1,i,q,u,h,A=>by
  have F:=FF (fun q D=>d q (iQ _ D)) j i q u (by simpa using h) A;have G:=(d x (jK ..)).1
  grind
theorem aWj {k:Nat} {l:lC} (h:oW k l):∀u∈l.flatten,u.oneCell'=true:=fun u d=>by
 obtain⟨q,A,d⟩:=List.mem_flatten.1 d;exact(h q A).2 u d
structure ElR (P:fO) (t e k bytes:Nat) (z:Value):Prop where
 under:P.underlying t=some (.slice e)
 info:∃i,P.info? e=some i/\i.zero=some z/\i.size=k/\i.bytes=bytes
 cells:z.cells.size=k
 pos:1<=bytes
 some':1<=k
theorem ElR.mk' {P:fO} {t e k bytes:Nat} {z:Value} (h:(P.info? e).map (fun i=>(i.zero,i.size,i.bytes))=some (some z,k,bytes)) (d:P.underlying t=some (.slice e)) (A:z.cells.size=k) (D:1<=bytes) (F:1<=k):ElR P t e k bytes z:=by
 obtain⟨G,I,J,L,M⟩:=AN h;exact⟨d,⟨G,I,J,L,M⟩,A,D,F⟩
def RdR (w:World) (v:Value) (l:lC):Prop:=Rd w v l.length l.flatten
theorem RdR.below {w w':World} {v:Value} {l:lC} (h:RdR w v l) (d:Below w.heap.size w w'):RdR w' v l:=Rd.below h d
def OwR (w:World) (B e k:Nat) (v:Value) (l:lC):Prop:=w.ownsRow B e k v l.length l.flatten
theorem OwR.nil (w:World) (B e k:Nat):OwR w B e k (.slice none 0 0) []:=WJ _ _ _ _
theorem OwR.alloc {w:World} {B e k:Nat} {v:Value} {l:lC} (h:OwR w B e k v l) (o:Obj):OwR (w.alloc o) B e k v l:=WK h o
theorem OwR.below {w w':World} {B C e k:Nat} {v:Value} {l:lC} (h:OwR w B e k v l) (d:Below C w w') (A:w.heap.size<=C):OwR w' B e k v l:=IX h d A
theorem OwR.base {w:World} {B d e k:Nat} {v:Value} {l:lC} (h:OwR w B e k v l) (A:d<=B):OwR w d e k v l:=DR h A
theorem OwR.kept {w w':World} {B e k:Nat} {v:Value} {l:lC} {row:Option Nat} (h:OwR w B e k v l) (d:w.grownBy w' row) (A:v.ownBlock=none\/v.ownBlock≠row):OwR w' B e k v l:=yJ h d A
theorem OwR.lt {w:World} {B e k:Nat} {v:Value} {l:lC} (h:OwR w B e k v l):∀g,v.ownBlock=some g->B<=g/\g<w.heap.size:=aK9 h
theorem OwR.rd {w:World} {B e k:Nat} {v:Value} {l:lC} (h:OwR w B e k v l):RdR w v l:=Rd.of_own h
theorem RdR.open {w:World} {v:Value} {l:lC} {k:Nat} (h:RdR w v l) (A:oW k l) (D:1<=k):∃a cap,v=.slice a l.length cap/\l.length<=cap/\cap<=maxLen/\
  (0<l.length->∃b off,a=some ⟨b,off,none⟩/\b<w.heap.size/\∀j q i u,l[j]? =some q->q[i]? =some u->w.cell? ⟨b,off+(j*k+i),none⟩=some u):=by
 obtain⟨a,cap,rfl,F,G,d⟩:=h;refine⟨a,cap,rfl,F,G,fun I=>?_⟩;have J:=FE A;rcases d with d|⟨b,off,rfl,L,R⟩
 ·rw[d,List.length_nil] at J;have:=Nat.mul_pos I D;omega
 ·refine⟨b,off,rfl,L,fun j q i u M O=>?_⟩;have U:=FF A j i q u M O
  grind
theorem RdR.one {w:World} {g e:Nat} {q:List Value} (h:Arr w g e q):RdR w (.slice (some ⟨g,0,none⟩) 1 1) [q]:=by
 refine⟨_,1,rfl,aD _,by simp[maxLen],.inr ⟨g,0,rfl,h.lt,fun j d=>?_⟩⟩;rw[kW,List.flatten_nil,List.append_nil] at d ⊢;rw[iP,h.cell (i:=j) (aN d),bV,aN d];rfl
section
variable {P:fO} {t e k bytes:Nat} {z:Value}
theorem LS (E:ElR P t e k bytes z) {w:World} (G:TypeId) (base:Nat) (v:Value) (l:lC) (I:OwR w base e k v l) (J:Value) (m:lC) (a0:RdR w J m) (d:oW k m) (hm:0<m.length) (L:(l.length+m.length)*bytes<=140737488355328) (M:base<=w.heap.size):
  ∃A w',(sA #[t,t] G #[v,J]).run P w=.ok A w'/\OwR w' base e k A (l++m)/\Below base w w'/\w.grownBy w' v.ownBlock:=by
 obtain⟨i,hi,hz,h2,h3⟩:=E.info;obtain⟨a,cap,rfl,a3,a4,h⟩:=a0.open d E.some';obtain⟨b,off,rfl,a5,hc⟩:=h hm;have a1:=E.pos;have D:=E.some';have hn:l.length+m.length<=140737488355328:=aR (AO _ a1) L;have O:=FE d;obtain⟨A,w',q1,q2,R,_⟩:=IJ (P:=P) w base t G e i z k bytes E.under hi hz h2 h3 E.cells D v l.length _ I ⟨b,off,none⟩ m.length cap m.flatten O (fun j u F=>by
   have U:=(eF.1 F).1;rw[O] at U;have V:j/k<m.length:=(Nat.div_lt_iff_lt_mul D).2 U;have Y:m[j/k]? =some m[j/k]:=aN V;have a6:=(d _ (List.getElem_mem V)).1;have a7:=Nat.mod_lt j D;have Z:m[j/k][j%k]? =some (m[j/k][j%k]'(by grind)):=aN _;have hg:=FF d _ _ _ _ Y Z;have hd:j/k*k+j%k=j:=Nat.div_add_mod' j k;have a2:=hc _ _ _ _ Y Z;rw[hd] at hg a2;rw[hg] at F;rw[<-cC F];have e:(⟨b,off,none⟩:Addr).add j=⟨b,off+j,none⟩:=by unfold gP;split<;>simp_all
   grind) (aWj d) (by simp only[maxLen];omega) L M
 refine⟨A,w',q1,?_,rJ I R M,R⟩;unfold OwR
 grind
theorem EH (E:ElR P t e k bytes z) {A:Array Oper} {rest:List Oper} {o:Oper} {a:Act} {Q:Exit->Act->World->Prop} {w:World} (D:o.guard=none) (s x:iF)
  (F:o.op=.call {callee:=.builtin .append,args:=#[s,x],argTypes:=#[t,t]}) (base:Nat) (v:Value) (l:lC) (hs:a.eval s=v) (hown:OwR w base e k v l)
  (sv:Value) (m:lC) (hx:a.eval x=sv) (hsrc:RdR w sv m) (h1:oW k m) (hm:0<m.length) (hroom:(l.length+m.length)*bytes<=140737488355328) (hbase:base<=w.heap.size)
  (h:∀d w',OwR w' base e k d (l++m)->Below base w w'->w.grownBy w' v.ownBlock->wpList P A Q rest (a.put o.dst d) w'):wpList P A Q (o::rest) a w:=by
 refine yK D fun K G=>?_
 obtain⟨d,w',I,J,L,M⟩:=LS E o.type base v l hown sv m hsrc h1 hm hroom hbase;unfold nC execOp;simp only[F,resolve,invoke,builtin,vI,AQ,AR,AS,kI,vJ,hs,hx,I];exact G _ _ (h d w' J L M)
end
theorem aEu (t:Nat) (w:World) (d:2<=t) (A:t<=6):
  Calls pG 114 #[.int .i64 (t:Int)] w fun e w'=>e=.returned (.string (mkS (cT t)))/\w'=w:=by
 obtain rfl|rfl|rfl|rfl|rfl:t=2\/t=3\/t=4\/t=5\/t=6:=by omega
 all_goals
  go_enter func114,ntmps114;go_wp2_with fail;go_ret;exact⟨by kernel_rfl,rfl⟩
theorem aWz {l:List Int} {k:Nat} {x:Int} (h:l[k]? =some x):kZ (l.take (k+1))=kZ (l.take k)+2^(20-x.toNat):=by grind [kZ,cG]
theorem aEv (l:List Int):kZ l<=1048576*l.length:=by
 unfold kZ
 induction l with
 |nil=>simp
 |cons x l d=>
  rw[kI,List.sum_cons,aU];have:2^(20-x.toNat)<=2^20:=nF (by decide) (by omega);have e:(2:Nat)^20=1048576:=by decide
  omega
theorem aEw {l:List Int} (h:¬(2<=l.length/\l.length<=258)):bM l=1:=by
 unfold bM;rw[aB (fun q=>h ⟨q.1,q.2.1⟩)]
theorem LU {l:List Int} {k:Nat} {x:Int} (h:l[k]? =some x) (d:¬(1<=x/\x<=20)):bM l=1:=by
 unfold bM;rw[aB (fun q=>d (q.2.2 x (cN h)))]
theorem aEx {l:List Int} (h:gM l):bM l=if 1048576<kZ l then 6 else 0:=by grind [bM,gM,kZ]
theorem LV (v:Value) (l:List Int) (w:World) (hr:RdI w v l):
  Calls pG 147 #[v] w fun e w'=>e=.returned (.int .i64 (bM l))/\w'=w:=by
 obtain⟨a,ca,rfl,b0,a6,M⟩:=hr.open;unfold maxLen at a6;clear hr
 by_cases Y:2<=l.length/\l.length<=258
 rotate_left
 ·have A:=hid (aEw Y)
  by_cases h3:l.length<2
  ·have D:decide ((l.length:Int)<2)=true:=aG (by omega);go_enter func147,ntmps147;go_wp2_with fail;go_ret;exact⟨by rw[A.out];rfl,rfl⟩
  ·have D:decide ((l.length:Int)<2)=false:=aE (by omega);have t2:decide ((l.length:Int)>258)=true:=aG (by omega);have t3:decide ((258:Int)<(l.length:Int))=true:=aG (by omega);go_enter func147,ntmps147;go_wp2_with fail;go_ret;exact⟨by rw[A.out];rfl,rfl⟩
 ·have D:decide ((l.length:Int)<2)=false:=aE (by omega);have t2:decide ((l.length:Int)>258)=false:=aE (by omega);have t3:decide ((258:Int)<(l.length:Int))=false:=aE (by omega);go_enter func147,ntmps147;go_wp2_with fail;clear D t2 t3
  go_loopg [3] l.length (fun g s3 wr=>∃k:Nat,k<=l.length/\g=l.length-k/\s3=.int .i64 (k:Int)/\Hid (∀x∈l.take k,1<=x/\x<=20)/\wr=w)
  case atStart=>exact⟨0,aO _,rfl,rfl,hid (fun x d=>by simp at d),rfl⟩
  case round=>
   obtain⟨k,hk,F,rfl,Z,rfl⟩:=hrel;have HG:=hid F;clear F
   by_cases a0:k<l.length
   ·have D:decide ((k:Int)<(l.length:Int))=true:=aG (by omega);obtain⟨b1,o1,rfl,a7,J⟩:=M (by omega);obtain⟨x,d⟩:=eG a0;have c1:=J k x d;clear J M
    by_cases a2:x<1
    ·have u1:decide (x<1)=true:=aG a2;have A:=hid (LU d (by omega));clear d;go_wp2_with fail;go_ret;exact⟨by rw[A.out];rfl,rfl⟩
    ·have u1:decide (x<1)=false:=aE a2
     by_cases O:20<x
     ·have u2:decide (20<x)=true:=aG O;have u3:decide (x>20)=true:=aG O;have A:=hid (LU d (by omega));clear d;go_wp2_with fail;go_ret;exact⟨by rw[A.out];rfl,rfl⟩
     ·have u2:decide (20<x)=false:=aE O;have u3:decide (x>20)=false:=aE O;have HS:=hid (show ∀y∈l.take (k+1),1<=y/\y<=20 from fun y I=>by
       rw[cG,d] at I;rcases dK.1 I with I|I
       ·exact Z.out y I
       ·simp at I;omega)
      clear d;go_wp2_with fail;have F:=HG.out
      go_roundg (l.length-(k+1))
      ·exact⟨k+1,by omega,rfl,by go_num,HS,rfl⟩
      ·omega
   ·have D:decide ((k:Int)<(l.length:Int))=false:=aE (by omega);have R:=Z.out;rw[cD (by omega)] at R;have a8:=hid R;have A:=hid (aEx ⟨Y.1,Y.2,R⟩);have b2:=aEv l;clear R Z;go_wp2_with fail
    go_loopg [4,5] l.length (fun g s4 s5 wx=>∃k K:Nat,k<=l.length/\g=l.length-k/\s5=.int .i64 (k:Int)/\s4=.int .i64 (K:Int)/\Hid (K=kZ (l.take k))/\wx=wr)
    case atStart=>exact⟨0,0,aO _,rfl,rfl,rfl,hid rfl,rfl⟩
    case round=>
     obtain⟨k,K,hk,F,rfl,rfl,HK,rfl⟩:=hrel;have HG:=hid F;clear F;have a3:=aEv (l.take k);rw[<-HK.out,List.length_take] at a3;have b3:K<=300000000:=by omega
     clear a3
     by_cases a0:k<l.length
     ·have D:decide ((k:Int)<(l.length:Int))=true:=aG (by omega);obtain⟨b1,o1,rfl,a7,J⟩:=M (by omega);obtain⟨x,d⟩:=eG a0;have c1:=J k x d;have b4:=a8.out x (cN d);obtain⟨q,hq⟩:∃q:Nat,q=20-x.toNat:=⟨_,rfl⟩;have m1:aJ.wrap (20-x)=(q:Int):=by rw[aM];omega
      have b5:20-x=(q:Int):=by omega
      have m2:min q 64=q:=by omega
      obtain⟨P,U⟩:∃P:Nat,P=2^q:=⟨_,rfl⟩;have b6:P<=1048576:=by rw[U];exact nF (n:=2) (i:=q) (j:=20) (by decide) (by omega)
      have e1:(2:Int)^q=(P:Int):=by rw[U];push_cast;rfl
      have m3:aJ.wrap (P:Int)=(P:Int):=by rw[aM];omega
      have HS:=hid (show kZ (l.take (k+1))=K+P by rw[aWz d,<-HK.out,U,hq]);obtain⟨L,a4⟩:∃L:Nat,L=K+P:=⟨_,rfl⟩;have m4:aJ.wrap ((K:Int)+(P:Int))=(L:Int):=by rw[aM];omega
      have b7:(K:Int)+(P:Int)=(L:Int):=by omega
      have a9:=hid a4;clear hq U d J M a4;go_wp2_with fail;have F:=HG.out
      go_roundg (l.length-(k+1))
      ·exact⟨k+1,L,by omega,rfl,by go_num,rfl,hid (by rw[HS.out,a9.out]),rfl⟩
      ·omega
     ·have D:decide ((k:Int)<(l.length:Int))=false:=aE (by omega);have V:=HK.out;rw[cD (by omega)] at V;have G:=A.out;rw[<-V] at G
      by_cases a5:1048576<K
      ·rw[aB a5] at G;have a1:=hid G;have u1:decide ((1048576:Int)<(K:Int))=true:=aG (by omega);have u2:decide ((K:Int)>1048576)=true:=aG (by omega);clear G V;go_wp2_with fail;go_ret;exact⟨by rw[a1.out];rfl,rfl⟩
      ·rw[aA a5] at G;have a1:=hid G;have u1:decide ((1048576:Int)<(K:Int))=false:=aE (by omega);have u2:decide ((K:Int)>1048576)=false:=aE (by omega);clear G V;go_wp2_with fail;go_ret;exact⟨by rw[a1.out];rfl,rfl⟩
def cY (n:Nat) (f:Nat->Value×Value):List Value:=(List.range (n*2)).map (fun j=>if j%2=0 then(f (j/2)).1 else(f (j/2)).2)
theorem LX (n:Nat) (f:Nat->Value×Value):(cY n f).length=n*2:=by simp[cY]
theorem zR (n:Nat) (f:Nat->Value×Value) (i:Nat) (h:i<n):(cY n f)[i*2]? =some (f i).1:=by grind [cY]
theorem zS (n:Nat) (f:Nat->Value×Value) (i:Nat) (h:i<n):(cY n f)[i*2+1]? =some (f i).2:=by grind [cY]
theorem TB (n:Nat) (f e:Nat->Value×Value) (i:Nat) (a b:Value) (h:∀d,d<n->e d=if d=i then(a,b) else f d):((cY n f).set (i*2) a).set (i*2+1) b=cY n e:=by
 apply List.ext_getElem?
 grind [cY,LX]
theorem wM {n:Nat} {f g:Nat->Value×Value} (h:∀d,d<n->f d=g d):cY n f=cY n g:=by grind [cY,List.map_congr_left]
theorem aEy (a b:Value) (n:Nat):(madeCells #[a,b] (n*2))=(cY n (fun _=>(a,b))).toArray:=by
 unfold madeCells cY
 grind
theorem mk2 {P:fO} {d:Array Oper} {rest:List Oper} {o:Oper} {a:Act} {Q:Exit->Act->World->Prop} {w:World} {t e A:Nat} {z x y:Value} (F:P.underlying t=some (.slice e)) (G:(P.info? e).map (fun i=>(i.zero,i.size,i.bytes))=some (some z,2,A)) (I:z.cells=#[x,y]) (J:o.guard=none) (l c:iF)
  (L:o.op=.makeSlice t l c) (n:Nat) (M:a.eval l=.int .i64 (n:Int)) (O:a.eval c=.int .i64 (n:Int)) (a0:n*A<=140737488355328) (hn:n<=140737488355328)
  (h:wpList P d Q rest (a.put o.dst (.slice (some ⟨w.heap.size,0,none⟩) n n)) (w.alloc (.cells (cY n (fun _=>(x,y))).toArray e))):wpList P d Q (o::rest) a w:=by
 refine yK J fun K R=>?_
 obtain⟨i,U,V,Y,h3⟩:=AN G;have Z:(i.bytes:Int)*(n:Int)<=281474976710656:=by grind
 have D:=run_make (P:=P) w t e i z F U V .i64 .i64 (n:Int) (n:Int) (by omega) (Int.le_refl _) Z (by omega);rw[Y,Int.toNat_natCast,I,aEy] at D;unfold nC;simp[execOp,L,M,O,D,Result.andThen];exact R _ _ h
def uU (l:List Int) (d:Nat):Value×Value:=(.int .i64 (bL l d:Int),.int .u64 (gZ l d:Int))
def oX (l:List Int) (n i d:Nat):Value×Value:=if bL l d<n\/(bL l d=n/\d<i) then uU l d else(.int .i64 0,.int .u64 0)
theorem aW0 {l:List Int} (h:gM l):cY l.length (oX l 1 0)=cY l.length (fun _=>(.int .i64 0,.int .u64 0)):=by grind [wM,lX,oX,gM,cY]
theorem aW1 (l:List Int) (n:Nat):cY l.length (oX l n l.length)=cY l.length (oX l (n+1) 0):=by grind [wM,oX,bL,cY]
theorem aW2 {l:List Int} (h:gM l):cY l.length (oX l 21 0)=cY l.length (uU l):=by grind [wM,lX,oX,gM,cY,uU]
theorem aW3 {l:List Int} {n i:Nat} (h:bL l i≠n):cY l.length (oX l n i)=cY l.length (oX l n (i+1)):=by grind [wM,oX,bL,cY]
theorem aW4 {l:List Int} {n i:Nat} (h:bL l i=n):((cY l.length (oX l n i)).set (i*2) (.int .i64 (n:Int))).set (i*2+1) (.int .u64 (gZ l i:Int))=cY l.length (oX l n (i+1)):=by grind [TB,oX,uU,bL,cY,gZ]
def lS (l:List Int) (n i:Nat):Nat:=gY l n+cL (l.take i) n
theorem aW5 (l:List Int) (n:Nat):lS l (n+1) 0=2*lS l n l.length:=by
 unfold lS;rw[List.take_zero,List.take_length];rfl
theorem LY {l:List Int} (h:gM l) (e:kZ l<=1048576) {n i:Nat} (d:n<=20):lS l n i<=1048576:=by
 have A:=aB0 h.2.2 e d;have D:cL (l.take i) n<=cL l n:=by
  unfold cL;exact List.Sublist.countP_le (List.take_sublist ..)
 have F:2^n<=2^20:=nF (by decide) d
 grind [lS,gM,kZ]
theorem aW6 {l:List Int} {n i:Nat} (d:i<l.length) (h:l.getD i 0≠(n:Int)):lS l n (i+1)=lS l n i:=by grind [lS,KM]
theorem aW7 {l:List Int} {n i:Nat} (h:bL l i=n):lS l n i=gZ l i:=by
 unfold lS gZ;rw[h]
theorem aW8 {l:List Int} {n i:Nat} (d:i<l.length) (h:l.getD i 0=(n:Int)):lS l n (i+1)=lS l n i+1:=by grind [lS,KM]
def xW (N V L n:Nat):Prop:=(L=0/\V=0/\N=0)\/(1<=L/\L<=n/\(V+1)*2^(n-L)=N)
theorem aW9 {N V L n:Nat} (h:xW N V L n):xW (2*N) V L (n+1):=by
 rcases h with⟨d,A,e⟩|⟨d,A,e⟩
 ·grind [xW]
 ·refine .inr ⟨d,by omega,?_⟩;rw[show n+1-L=n-L+1 by omega,oP,<-DK,e,pE]
theorem aEz {N n:Nat} (h:1<=n):xW (N+1) N n n:=by grind [xW]
theorem aXa {N V L n:Nat} (h:xW N V L n):V<=N/\L<=n:=by
 rcases h with⟨d,e,A⟩|⟨d,e,A⟩
 ·omega
 ·have:1<=2^(n-L):=DN (by decide);have D:=XO (V+1) this;omega
theorem aE0:(pG.info? 201).map (fun i=>(i.zero,i.size,i.bytes))=some (some (.agg #[.int .i64 0,.int .u64 0]),2,16):=by kernel_rfl
def Wds (w:World) (B:Nat) (v:Value) (l:List Int):Prop:=∃b,B<=b/\v=.slice (some ⟨b,0,none⟩) l.length l.length/\Arr w b 201 (cY l.length (uU l))
theorem Wds.below {w w':World} {B C:Nat} {v:Value} {l:List Int} (h:Wds w B v l) (e:Below C w w') (F:w.heap.size<=C):Wds w' B v l:=by
 obtain⟨b,A,D,d⟩:=h;exact⟨b,A,D,d.below e (by have:=d.lt;omega)⟩
theorem aE1 (v:Value) (l:List Int) (w:World) (hr:RdI w v l):
  Calls pG 115 #[v] w fun e w'=>∃u,e=.returned (.tuple #[u,.int .i64 (bM l)])/\(bM l=0->Wds w' w.heap.size u l)/\(bM l≠0->u=.slice none 0 0)/\Below w.heap.size w w':=by
 obtain⟨a,ca,rfl,e8,c6,hA⟩:=hr.open;unfold maxLen at c6
 by_cases G:bM l=0
 rotate_left
 ·have HE:=hid G;obtain⟨E,a2⟩:=ex1 (bM l);rw[<-a2] at G;have t0:decide (E=0)=false:=aE G;have e9:(E != 0)=true:=by simpa using G
  go_enter func115,ntmps115;go_wp2_with fail;refine(LV _ l _ hr).mono ?_;rintro e d ⟨rfl,rfl⟩;rw[<-a2];have c7:=hid a2;clear a2;go_wp2_with fail
  go_ret2
  exact⟨_,by rw[c7.out];rfl,fun q=>absurd q HE.out,fun _=>rfl,aH _ _⟩
 ·have R:=gE G;have HO:=hid R.1;have a5:=hid (fun n i hn=>LY (l:=l) (n:=n) (i:=i) R.1 R.2 hn);have f2:=R.1.2.1;have f3:=R.1.1;go_enter func115,ntmps115;go_wp2_with fail;refine(LV _ l _ hr).mono ?_;rintro e d ⟨rfl,rfl⟩;rw[G];have HE:=hid G;clear G R hr;go_wp2_with (at_make;refine mk2 underlying197 aE0 rfl rfl _ _ rfl l.length rfl rfl ?_ ?_ ?_;(omega);(omega));have b2:=Arr.new d 201 (cY l.length (fun _=>(.int .i64 0,.int .u64 0)));rw[<-aW0 HO.out] at b2 ⊢
  have c8:Below d.heap.size d (d.alloc (.cells (cY l.length (oX l 1 0)).toArray 201)):=bD (aH _ _) _;generalize d.alloc (.cells (cY l.length (oX l 1 0)).toArray 201)=w0 at*
  have c9:=hid (fun i (h:i<l.length)=>(lX HO.out h));go_wp2_with fail
  go_loopg [6,7,8,9,10] 20 (fun g s6 s7 s8 _s9 _s10 wr=>∃n V L N:Nat,1<=n/\n<=21/\g=21-n/\s8=.int .i64 (n:Int)/\s7=.int .i64 (L:Int)/\s6=.int .u64 (V:Int)/\xW N V L n/\Hid (N=lS l n 0)/\Arr wr d.heap.size 201 (cY l.length (oX l n 0))/\Below d.heap.size d wr)
  case atStart=>exact⟨1,0,0,0,by omega,by omega,rfl,rfl,rfl,rfl,.inl ⟨rfl,rfl,rfl⟩,hid (by unfold lS;rw[aBw (fun x hx=>(HO.out.2.2 x hx).1)];rfl),b2,c8⟩
  case round=>
   obtain⟨n,V,L,N,b3,f4,F,rfl,rfl,rfl,J,D,A,I⟩:=hrel;have HG:=hid F;clear F
   by_cases hn:n<=20
   ·have t1:decide ((n:Int)<=20)=true:=aG (by omega);go_wp2_with fail
    go_loopg [6,7,9,10] l.length (fun g s6 s7 s9 _s10 wx=>∃i V L N:Nat,i<=l.length/\g=l.length-i/\s9=.int .i64 (i:Int)/\s7=.int .i64 (L:Int)/\s6=.int .u64 (V:Int)/\xW N V L n/\Hid (N=lS l n i)/\Arr wx d.heap.size 201 (cY l.length (oX l n i))/\Below d.heap.size d wx)
    case atStart=>exact⟨0,V,L,N,by omega,rfl,rfl,rfl,rfl,J,D,A,I⟩
    case round=>
     clear A I J D;obtain⟨i,V,L,N,hi,F,rfl,rfl,rfl,J,D,A,I⟩:=hrel;have a6:=hid F;clear F;have d2:=a5.out n i hn;rw[<-D.out] at d2;have d3:=aXa J
     by_cases a1:i<l.length
     ·have t2:decide ((i:Int)<(l.length:Int))=true:=aG (by omega);obtain⟨b1,o1,rfl,d4,d5⟩:=hA (by omega);obtain⟨d6,d7,hx⟩:=c9.out i a1;have c1:=((pJ I).1 b1 (o1+i) d4).trans (d5 i _ hx);have Y:l.getD i 0=(bL l i:Int):=by rw[bV,hx];rfl
      have d8:=hid (rfl:bL l i=bL l i);obtain⟨x,a7⟩:=ex1 (bL l i);rw[<-a7] at c1 Y d6 d7;have HX:=hid a7;clear a7 hx d8
      by_cases b4:x=n
      ·subst b4;have t3:decide ((x:Int)=(x:Int))=true:=aG rfl;have d9:(!decide ((x:Int)=(x:Int)))=false:=by rw[t3];rfl
       have HW:=hid (aW7 (l:=l) HX.out.symm);have Z:=hid (aW8 a1 Y);have a3:=hid (aW4 (l:=l) (n:=x) (i:=i) HX.out.symm);have d0:=A.cell (zR _ _ i a1);have d1:=A.cell (zS _ _ i a1);have f0:=A.free (i*2);have f1:=A.free (i*2+1);have b5:∀u u',Below d.heap.size d ((wr.setCell ⟨d.heap.size,i*2,none⟩ u).setCell ⟨d.heap.size,i*2+1,none⟩ u'):=fun u u'=>(I.setCell (p:=⟨d.heap.size,i*2,none⟩) (aD _) u).setCell (p:=⟨d.heap.size,i*2+1,none⟩) (aD _) u'
       rcases J with⟨hL,hV,e0⟩|⟨f5,e1,b6⟩
       ·have t4:decide ((L:Int)>0)=false:=aE (by omega);have t5:decide (0<L)=false:=aE (by omega);have e2:¬0<L:=by omega
        have b7:gZ l i=V:=by rw[<-HW.out,<-D.out];omega
        have M:=a3.out;rw[b7] at M;have a8:=hid M;have a9:=hid (show xW (N+1) V x x by rw[show V=N by omega];exact aEz b3);have a0:=hid (show N+1=lS l x (i+1) by rw[Z.out,D.out]);clear M a3 b7 hL hV e0 D Z HW HX Y a5;go_wp2_with fail;have b8:=a6.out
        go_roundg (l.length-(i+1))
        ·exact⟨i+1,V,x,N+1,by omega,rfl,by go_num,rfl,rfl,a9.out,a0,by rw[<-a8.out];exact(A.set _ _).set _ _,b5 _ _⟩
        ·omega
       ·have t4:decide ((L:Int)>0)=true:=aG (by omega);have t5:decide (0<L)=true:=aG (by omega);have e2:0<L:=by omega
        obtain⟨U0,b9⟩:=ex1 (V+1);have m1:eZ.wrap (U0:Int)=(U0:Int):=by rw[fC];omega
        have f6:(V:Int)+1=(U0:Int):=by omega
        have e3:=hid (show U0*2^(x-L)=N by rw[b9];exact b6);have c0:=hid (show gZ l i=N by rw[<-HW.out,<-D.out]);have a0:=hid (show N+1=lS l x (i+1) by rw[Z.out,D.out]);clear b6 b9 D Z HW HX Y a5 d3;go_wp2_with fail
        go_loopg [6,10] (x-L) (fun g s6 e4 wy=>∃k U:Nat,L<=k/\k<=x/\g=x-k/\e4=.int .i64 (k:Int)/\s6=.int .u64 (U:Int)/\Hid (U*2^(x-k)=N)/\wy=wr)
        case atStart=>exact⟨L,U0,aD _,e1,rfl,rfl,rfl,e3,rfl⟩
        case round=>
         obtain⟨k,U,f7,f8,F,rfl,rfl,HU,rfl⟩:=hrel;have e5:=hid F;clear F
         by_cases f9:k<x
         ·have t6:decide ((k:Int)<(x:Int))=true:=aG (by omega);obtain⟨O,c2⟩:=ex1 (2*U);have c3:=hid (show O*2^(x-(k+1))=N by
           have e:=HU.out;rw[show x-k=x-(k+1)+1 by omega,oP] at e;rw[c2,<-e,pE 2 U,DK,pE 2])
          have g0:O<=N:=by
           have e:=c3.out;have:1<=2^(x-(k+1)):=DN (by decide);have:=XO O this;omega
          have m2:eZ.wrap (2*(U:Int))=(O:Int):=by rw[fC];omega
          have g1:2*(U:Int)=(O:Int):=by omega
          have g2:2*(U:Int)%18446744073709551616=(O:Int):=by omega
          clear c2;go_wp2_with fail;have g3:=e5.out
          go_roundg (x-(k+1))
          ·exact⟨k+1,O,by omega,by omega,rfl,by go_num,rfl,c3,rfl⟩
          ·omega
         ·have t6:decide ((k:Int)<(x:Int))=false:=aE (by omega);have e6:k=x:=by omega
          have b0:U=N:=by
           have e:=HU.out;rw[show x-k=0 by omega] at e;omega
          have M:=a3.out;rw[c0.out,<-b0] at M;have a8:=hid M;have a9:=hid (show xW (N+1) U x x by rw[b0];exact aEz b3);clear M a3 b0 HU c0 e6;go_wp2_with fail;have b8:=a6.out
          go_roundg (l.length-(i+1))
          ·exact⟨i+1,U,x,N+1,by omega,rfl,by go_num,rfl,rfl,a9.out,a0,by rw[<-a8.out];exact(A.set _ _).set _ _,b5 _ _⟩
          ·omega
      ·have t3:decide ((x:Int)=(n:Int))=false:=aE (by omega);have d9:(!decide ((x:Int)=(n:Int)))=true:=by rw[t3];rfl
       have a4:bL l i≠n:=by rw[<-HX.out];exact b4
       have hP:=aW6 (n:=n) a1 (by rw[Y];omega);rw[aW3 a4] at A;have Z:=hid hP;clear hP Y a4;go_wp2_with fail;have b8:=a6.out
       go_roundg (l.length-(i+1))
       ·exact⟨i+1,V,L,N,by omega,rfl,by go_num,rfl,rfl,J,hid (by rw[Z.out];exact D.out),A,I⟩
       ·omega
     ·have t2:decide ((i:Int)<(l.length:Int))=false:=aE (by omega);have e7:i=l.length:=by omega
      subst e7;rw[aW1] at A;have c4:=aW9 J;have a0:=hid (show 2*N=lS l (n+1) 0 by rw[aW5,<-D.out]);obtain⟨N2,c5⟩:=ex1 (2*N);rw[<-c5] at c4 a0;clear c5;go_wp2_with fail;have F:=HG.out
      go_roundg (21-(n+1))
      ·exact⟨n+1,V,L,N2,by omega,by omega,rfl,by go_num,rfl,rfl,c4,a0,A,I⟩
      ·omega
   ·have t1:decide ((n:Int)<=20)=false:=aE (by omega);have a4:n=21:=by omega
    subst a4;rw[aW2 HO.out] at A;go_wp2_with fail
    go_ret2
    exact⟨_,by rw[HE.out];rfl,fun _=>⟨d.heap.size,aD _,rfl,A⟩,fun q=>absurd HE.out q,I⟩
theorem TC {e:Array Oper} {o:Oper} {a:Act} {K:Act->World->Prop} {Q:Exit->Act->World->Prop} {E:Prop} {w:World} (A:o.guard=none) (s x:iF)
  (D:o.op=.call {callee:=.builtin .append,args:=#[s,x],argTypes:=#[53,53]}) (base:Nat) (v:Value) (l:List Int) (hs:a.eval s=v) (hown:OwI w base v l)
  (sv:Value) (m:List Int) (hx:a.eval x=sv) (hsrc:tQ w sv m) (hroom:(l.length+m.length)*8<=140737488355328) (hbase:base<=w.heap.size)
  (h:∀d w',OwI w' base d (l++m)->Below base w w'->w.grownBy w' v.ownBlock->K (a.put o.dst d) w'):if qL o (yielded e a.tmps)=true then nC pG o a w K Q else E:=by
 have F:qL o (yielded e a.tmps)=true:=by simp[qL,A]
 rw[aB F];obtain⟨d,w',G,I,J,L⟩:=aAf o.type base v l hown sv m hsrc hroom hbase;unfold nC execOp;simp only[D,resolve,invoke,builtin,vI,AQ,AR,AS,kI,vJ,hs,hx,G];exact h d w' I J L
theorem oF {d e:World} {D F G:Addr} {v1 v2 v3:Value} {B:Nat} {w0:World}
  (h:d.cell? D=some v1/\d.cell? F=some v2/\d.cell? G=some v3/\Below B w0 d/\B<=d.heap.size) (A:Below d.heap.size d e):
  e.cell? D=some v1/\e.cell? F=some v2/\e.cell? G=some v3/\Below B w0 e/\B<=e.heap.size:=by
 obtain⟨L,M,O,R,I⟩:=h;have k:∀{p:Addr} {v:Value},d.cell? p=some v->e.cell? p=some v:=fun{p} {v} J=>(A.cell (World.block_lt_of_cell? d p J)).trans J
 exact⟨k L,k M,k O,R.trans (A.mono I),aR I A.size⟩
theorem LZ {d e:World} {D I F J G L:Nat} {v1 v2 v3:Value} {B:Nat} {w0:World}
  (h:d.cell? ⟨D,I,none⟩=some v1/\d.cell? ⟨F,J,none⟩=some v2/\d.cell? ⟨G,L,none⟩=some v3/\Below B w0 d/\B<=d.heap.size) (A:Below B d e) (M:D<B) (O:F<B) (R:G<B):
  e.cell? ⟨D,I,none⟩=some v1/\e.cell? ⟨F,J,none⟩=some v2/\e.cell? ⟨G,L,none⟩=some v3/\Below B w0 e/\B<=e.heap.size:=by
 obtain⟨U,V,Y,Z,h7⟩:=h;exact⟨(A.cell (p:=⟨D,I,none⟩) M).trans U,(A.cell (p:=⟨F,J,none⟩) O).trans V,(A.cell (p:=⟨G,L,none⟩) R).trans Y,Z.trans A,aR h7 A.size⟩
abbrev VV:=Value×Value
def prC (l:List VV):List Value:=l.flatMap (fun q=>[q.1,q.2])
theorem aFg (l m:List VV):prC (l++m)=prC l++prC m:=List.flatMap_append
theorem TF (l:List VV):(prC l).length=l.length*2:=by
 induction l with
 |nil=>rfl
 |cons x l d=>show([x.1,x.2]++prC l).length=_;rw[aL,d];simp;omega
theorem ME:∀(l:List VV) (j:Nat) (q:VV),l[j]? =some q->(prC l)[j*2]? =some q.1/\(prC l)[j*2+1]? =some q.2
 |[],j,q,h=>by simp at h
 |x::l,0,q,h=>by
  simp at h;subst h;exact⟨rfl,rfl⟩
 |x::l,j+1,q,h=>by
  have d:=ME l j q (by simpa using h);have e:prC (x::l)=x.1::x.2::prC l:=rfl
  grind
theorem aXr (l:List VV) (j:Nat) (u:Value) (h:(prC l)[j]? =some u):∃q,l[j/2]? =some q/\u=if j%2=0 then q.1 else q.2:=by
 have d:=(eF.1 h).1;rw[TF] at d;have A:l[j/2]? =some l[j/2]:=aN (by omega);obtain⟨D,F⟩:=ME l _ _ A
 grind
def rA (l:List VV):Prop:=∀q∈l,q.1.oneCell'=true/\q.2.oneCell'=true
theorem rA.cells {l:List VV} (h:rA l):∀u∈prC l,u.oneCell'=true:=fun u d=>by
 obtain⟨q,A,d⟩:=List.mem_flatMap.1 d;rcases List.mem_cons.1 d with rfl|d
 ·exact(h q A).1
 ·obtain rfl:=List.mem_singleton.1 d;exact(h q A).2
theorem rA.app {l m:List VV} (h:rA l) (k:rA m):rA (l++m):=fun q d=>(dK.1 d).elim (h q) (k q)
theorem rA.sub {l m:List VV} (h:rA l) (k:∀q∈m,q∈l):rA m:=fun q d=>h q (k q d)
structure El2 (P:fO) (t e bytes:Nat) (z:Value):Prop where
 under:P.underlying t=some (.slice e)
 info:∃i,P.info? e=some i/\i.zero=some z/\i.size=2/\i.bytes=bytes
 cells:z.cells.size=2
 pos:1<=bytes
theorem El2.mk' {P:fO} {t e bytes:Nat} {z:Value} (h:(P.info? e).map (fun i=>(i.zero,i.size,i.bytes))=some (some z,2,bytes)) (d:P.underlying t=some (.slice e)) (A:z.cells.size=2) (D:1<=bytes):El2 P t e bytes z:=by
 obtain⟨F,G,I,J,L⟩:=AN h;exact⟨d,⟨F,G,I,J,L⟩,A,D⟩
def OwP (w:World) (B e:Nat) (v:Value) (l:List VV):Prop:=w.ownsRow B e 2 v l.length (prC l)
theorem OwP.nil (w:World) (B e:Nat):OwP w B e (.slice none 0 0) []:=WJ _ _ _ _
theorem OwP.alloc {w:World} {B e:Nat} {v:Value} {l:List VV} (h:OwP w B e v l) (o:Obj):OwP (w.alloc o) B e v l:=WK h o
theorem OwP.below {w w':World} {B C e:Nat} {v:Value} {l:List VV} (h:OwP w B e v l) (d:Below C w w') (A:w.heap.size<=C):OwP w' B e v l:=IX h d A
theorem OwP.base {w:World} {B d e:Nat} {v:Value} {l:List VV} (h:OwP w B e v l) (A:d<=B):OwP w d e v l:=DR h A
theorem OwP.kept {w w':World} {B e:Nat} {v:Value} {l:List VV} {row:Option Nat} (h:OwP w B e v l) (d:w.grownBy w' row) (A:v.ownBlock=none\/v.ownBlock≠row):OwP w' B e v l:=yJ h d A
theorem OwP.lt {w:World} {B e:Nat} {v:Value} {l:List VV} (h:OwP w B e v l):∀k,v.ownBlock=some k->B<=k/\k<w.heap.size:=aK9 h
def nN (w:World) (v:Value) (l:List VV):Prop:=
 (v=.slice none 0 0/\l=[])\/∃b off cap,v=.slice (some ⟨b,off,none⟩) l.length cap/\l.length<=cap/\cap<=maxLen/\b<w.heap.size/\∀j q,l[j]? =some q->w.cell? ⟨b,off+j*2,none⟩=some q.1/\w.cell? ⟨b,off+j*2+1,none⟩=some q.2
theorem nN.below {w w':World} {v:Value} {l:List VV} (h:nN w v l) (d:Below w.heap.size w w'):nN w' v l:=by
 rcases h with h|⟨b,off,cap,rfl,D,F,A,G⟩
 ·exact .inl h
 ·exact .inr ⟨b,off,cap,rfl,D,F,Nat.lt_of_lt_of_le A d.size,fun j q I=>by rw[d.cell (p:=⟨b,off+j*2,none⟩) A,d.cell (p:=⟨b,off+j*2+1,none⟩) A];exact G j q I⟩
theorem OwP.src {w:World} {B e:Nat} {v:Value} {l:List VV} (h:OwP w B e v l):nN w v l:=by
 obtain⟨J,h⟩:=h;rcases h with⟨rfl,F⟩|⟨g,cap,A,rfl,L,d,G,I,M,O⟩
 ·exact .inl ⟨rfl,List.length_eq_zero_iff.1 F⟩
 ·refine .inr ⟨g,0,cap,rfl,G,I,(fE.1 d).1,fun j q D=>?_⟩;obtain⟨R,U⟩:=ME l j q D;have V:=(eF.1 D).1;rw[iP,yI w g (j*2) A _ (0,0) d,yI w g (j*2+1) A _ (0,0) d]
  grind
theorem nN.new (w:World) (e:TypeId) (q:VV):nN (w.alloc (.cells #[q.1,q.2] e)) (.slice (some ⟨w.heap.size,0,none⟩) 1 1) [q]:=by
 have h:=Arr.new w e [q.1,q.2];refine .inr ⟨w.heap.size,0,1,rfl,by simp,by simp[maxLen],by simp,fun j p d=>?_⟩
 cases j with
 |zero=>simp at d;subst d;exact⟨h.cell (i:=0) rfl,h.cell (i:=1) rfl⟩
 |succ j=>simp at d
theorem nN.open {w:World} {v:Value} {l:List VV} (h:nN w v l):∃a cap,v=.slice a l.length cap/\l.length<=cap/\cap<=maxLen/\
  (0<l.length->∃b off,a=some ⟨b,off,none⟩/\b<w.heap.size/\∀j q,l[j]? =some q->w.cell? ⟨b,off+j*2,none⟩=some q.1/\w.cell? ⟨b,off+j*2+1,none⟩=some q.2):=by
 rcases h with⟨rfl,rfl⟩|⟨b,off,cap,rfl,d,A,D,F⟩
 ·exact⟨none,0,rfl,aD _,by simp[maxLen],fun h=>absurd h (by simp)⟩
 grind
section
variable {P:fO} {t e bytes:Nat} {z:Value}
theorem TG (E:El2 P t e bytes z) {w:World} (A:TypeId) (base:Nat) (v:Value) (l:List VV) (D:OwP w base e v l) (F:Value) (m:List VV) (M:nN w F m) (O:rA m) (G:(l.length+m.length)*bytes<=140737488355328) (I:base<=w.heap.size):
  ∃d w',(sA #[t,t] A #[v,F]).run P w=.ok d w'/\OwP w' base e d (l++m)/\Below base w w'/\w.grownBy w' v.ownBlock:=by
 obtain⟨i,J,R,U,V⟩:=E.info;rcases M with⟨rfl,rfl⟩|⟨b,off,cap,rfl,_,_,_,Y⟩
 ·refine⟨v,w,run_append_owned_none (P:=P) (w:=w) base t A e i 2 E.under J v l.length _ D,by grind,aH _ _,⟨rfl,rfl,rfl,aD _,fun _ _ _=>rfl⟩⟩
 ·have Z:=E.pos;have hn:l.length+m.length<=140737488355328:=aR (AO _ Z) G;obtain⟨d,w',q1,q2,L,_⟩:=IJ (P:=P) w base t A e i z 2 bytes E.under J R U V E.cells (by decide) v l.length _ D ⟨b,off,none⟩ m.length cap (prC m) (TF m) (fun j u hu=>by
    obtain⟨q,hq,rfl⟩:=aXr m j u hu;obtain⟨c1,c2⟩:=Y _ _ hq;have e:(⟨b,off,none⟩:Addr).add j=⟨b,off+j,none⟩:=by unfold gP;split<;>simp_all
    grind) O.cells (by simp only[maxLen];omega) G I
  refine⟨d,w',q1,?_,rJ D L I,L⟩;unfold OwP;rw[aFg,aL];exact q2
theorem aFh (E:El2 P t e bytes z) {A:Array Oper} {rest:List Oper} {o:Oper} {a:Act} {Q:Exit->Act->World->Prop} {w:World} (D:o.guard=none) (s x:iF)
  (F:o.op=.call {callee:=.builtin .append,args:=#[s,x],argTypes:=#[t,t]}) (base:Nat) (v:Value) (l:List VV) (hs:a.eval s=v) (hown:OwP w base e v l)
  (sv:Value) (m:List VV) (hx:a.eval x=sv) (hsrc:nN w sv m) (h1:rA m) (hroom:(l.length+m.length)*bytes<=140737488355328) (hbase:base<=w.heap.size)
  (h:∀d w',OwP w' base e d (l++m)->Below base w w'->w.grownBy w' v.ownBlock->wpList P A Q rest (a.put o.dst d) w'):wpList P A Q (o::rest) a w:=by
 refine yK D fun K G=>?_
 obtain⟨d,w',I,J,L,M⟩:=TG E o.type base v l hown sv m hsrc h1 hroom hbase;unfold nC execOp;simp only[F,resolve,invoke,builtin,vI,AQ,AR,AS,kI,vJ,hs,hx,I];exact G _ _ (h d w' J L M)
theorem MF (E:El2 P t e bytes z) {A:Array Oper} {o:Oper} {a:Act} {K:Act->World->Prop} {Q:Exit->Act->World->Prop} {D:Prop} {w:World} (F:o.guard=none) (s x:iF)
  (G:o.op=.call {callee:=.builtin .append,args:=#[s,x],argTypes:=#[t,t]}) (base:Nat) (v:Value) (l:List VV) (hs:a.eval s=v) (hown:OwP w base e v l)
  (sv:Value) (m:List VV) (hx:a.eval x=sv) (hsrc:nN w sv m) (h1:rA m) (hroom:(l.length+m.length)*bytes<=140737488355328) (hbase:base<=w.heap.size)
  (h:∀d w',OwP w' base e d (l++m)->Below base w w'->w.grownBy w' v.ownBlock->K (a.put o.dst d) w'):if qL o (yielded A a.tmps)=true then nC P o a w K Q else D:=by
 have I:qL o (yielded A a.tmps)=true:=by simp[qL,F]
 rw[aB I];obtain⟨d,w',J,L,M,O⟩:=TG E o.type base v l hown sv m hsrc h1 hroom hbase;unfold nC execOp;simp only[G,resolve,invoke,builtin,vI,AQ,AR,AS,kI,vJ,hs,hx,J];exact h d w' L M O
end
theorem aGa (s:List UInt8) (a:Int) (k:Nat) (h:(bC s a k).2.2.2≠0):∀m,(bC s a (k+m))=bC s a k
 |0=>rfl
 |m+1=>by
  have d:=aGa s a k h m
  grind [bC]
theorem TL (s:List UInt8) (a n:Nat) (d:2<=n) (e:n<=258):gS s (a:Int) (n:Int)=if(bC s a n).2.2.2≠0 then([],0,(bC s a n).2.2.2) else((bC s a n).1,(bC s a n).2.2.1,0):=by grind [gS,bC]
theorem aGb {s:List UInt8} {a n k:Nat} (d:2<=n) (e:n<=258) (A:k<=n) (h:(bC s a k).2.2.2≠0):gS s (a:Int) (n:Int)=([],0,(bC s a k).2.2.2):=by
 have:=aGa s a k h (n-k)
 grind [TL,bC,gS]
theorem aGc (s:List UInt8) (a:Int):bC s a 0=([],(aK s a 5:Int),a+5,if aP s.length a 5≠0 then aP s.length a 5 else if(aK s a 5:Int)<1\/20<(aK s a 5:Int) then 3 else 0):=rfl
theorem aGd {s:List UInt8} {a:Int} {k:Nat} (h:(bC s a k).2.2.2=0):bC s a (k+1)=
  if(fS s (bC s a k).2.2.1 (bC s a k).2.1).2.2≠0 then((bC s a k).1,(bC s a k).2.1,(bC s a k).2.2.1,(fS s (bC s a k).2.2.1 (bC s a k).2.1).2.2)
  else((bC s a k).1++[(fS s (bC s a k).2.2.1 (bC s a k).2.1).1],(fS s (bC s a k).2.2.1 (bC s a k).2.1).1,(fS s (bC s a k).2.2.1 (bC s a k).2.1).2.1,0):=by grind [bC,fS]
def CL (w w':World) (s:List UInt8) (a n:Nat) (e:Ending):Prop:=
 ∃v,e=.returned (.tuple #[v,.int .i64 (gS s (a:Int) (n:Int)).2.1,.int .i64 (gS s (a:Int) (n:Int)).2.2])/\OwI w' w.heap.size v (gS s (a:Int) (n:Int)).1/\Below w.heap.size w w'
theorem FL {w w':World} {s:List UInt8} {a n:Nat} {E:Int} (h:gS s (a:Int) (n:Int)=([],0,E)) (d:Below w.heap.size w w'):CL w w' s a n (.returned (.tuple #[.slice none 0 0,.int .i64 0,.int .i64 E])):=by grind [OwI.nil,gS,CL]
end
section
open Go.RowKit
theorem zY (l:List Bool) (w:World) (hl:l.length<=1000000):
  Calls pG 30 #[.agg #[.string (mkS (aI l)),.int .i64 (l.length:Int)]] w fun e w'=>∃v,e=.returned v/\RdI w' v (bI l)/\Below w.heap.size w w':=by
 go_enter func30,ntmps30;go_wp2_with fail;have A:=Arr.new w 69 [.string (mkS (aI l)),.int .i64 (l.length:Int)];have L:Below w.heap.size w (w.alloc (.cells #[.string (mkS (aI l)),.int .i64 (l.length:Int)] 69)):=bD (aH _ _) _;change Arr (w.alloc (.cells #[.string (mkS (aI l)),.int .i64 (l.length:Int)] 69)) _ _ _ at A;generalize w.alloc (.cells #[.string (mkS (aI l)),.int .i64 (l.length:Int)] 69)=w0 at*
 have a1:(aI l).length<=125001:=by rw[iJ];omega
 refine(aEd (mkS (aI l)) _ (by rw[cS];omega)).mono ?_;rintro e M ⟨v,rfl,d,G⟩;rw[dP] at d;obtain⟨a,c,rfl,a2,a3,_⟩:=d.rd.open;have O:=A.below G A.lt;have c1:=O.cell (i:=1) rfl;have a4:(bI (eR (aI l))).length=8*((l.length+7)/8):=by rw[cX,qU,iJ]
 have D:(bI (eR (aI l))).take l.length=bI l:=by rw[aV5,aSu]
 have R:RdI M (.slice a l.length c) (bI l):=by
  have a5:l.length=(bI l).length:=(cX l).symm;rw[<-D];have U:=d.rd;obtain⟨a',c',e,k1,I,V⟩:=U.open
  injection e with e1 e2 e3
  subst e1;subst e3;rcases Nat.eq_zero_or_pos l.length with q|q
  ·rw[q];exact⟨_,_,rfl,aO _,I,.inl (by simp)⟩
  ·obtain⟨b,off,rfl,Y,Z⟩:=V (by omega);have F:((bI (eR (aI l))).take l.length).length=l.length:=by rw[D,cX]
   refine⟨_,_,by rw[F],by rw[F];omega,I,.inr ⟨b,off,rfl,Y,fun j J=>?_⟩⟩;rw[aS,F] at J;rw[Z j _ (aN (by omega))];simp[List.getD,show j<(bI (eR (aI l))).length by omega,J]
 have a0:=aW L G;have z1:l.length<=c:=by omega
 have z2:(l.length:Int)<=(c:Int):=by omega
 clear D d;go_wp2_with fail;go_ret;exact⟨_,rfl,R,a0⟩
end
end Go.Proofs.YtfckbfofgeilgaaGreatDoor
