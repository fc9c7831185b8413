/-
  Texts put together (part 31): the walks and the plain laws on which the statement stands.
-/
import Derived.Test.YtfckbfofgeilgaaGreatDoorZ27
set_option maxRecDepth 100000
set_option maxHeartbeats 12800000
set_option linter.unusedVariables false
set_option linter.unusedSimpArgs false
open Go.Proofs.Tryz
open Go.Proofs.Tryz renaming prog->pG
open Go.RowKit.Below renaming refl->aH
open List renaming take_of_length_le->cD
namespace Go.Proofs.YtfckbfofgeilgaaGreatDoor
section
open Go.RowKit
theorem bDk {l m:List Int} {k:Nat} {x y:Int} (h:l.take k=m.take k) (d:l[k]? =some x) (e:m[k]? =some y) (A:x=y):l.take (k+1)=m.take (k+1):=by grind [List.take_add_one]
theorem bDl (I J:Value) (d lb:List Int) (w:World) (L:RdI w I d) (M:RdI w J lb):
  Calls pG 22 #[I,J] w fun e w'=>e=.returned (.bool (d==lb))/\Below w.heap.size w w':=by
 obtain⟨a,ca,rfl,a7,a1,O⟩:=L.open;obtain⟨b,cb,rfl,a8,a2,R⟩:=M.open;clear L M;unfold maxLen at a1 a2
 by_cases D:d.length=lb.length
 case neg=>
  have a3:d≠lb:=fun e=>D (by rw[e])
  have hd:((d.length:Int) != (lb.length:Int))=true:=by rw[bne_iff_ne];omega
  go_enter func22,ntmps22;go_wp2;go_ret;exact⟨sJ (by rw[beq_eq_false_iff_ne.2 a3]),aH _ _⟩
 case pos=>
  have hd:((d.length:Int) != (lb.length:Int))=false:=by rw[bne_eq_false_iff_eq];omega
  have HL:=hid D;have a9:d.length<=lb.length:=by omega
  have b0:lb.length<=d.length:=by omega
  clear D;go_enter func22,ntmps22;go_wp2
  go_loopw [5] (fun i wr=>∃k:Nat,k<=d.length/\i=.int .i64 k/\Hid (d.take k=lb.take k)/\Below w.heap.size w wr) (fun i _=>d.length-(intOf i).toNat)
  case atStart=>exact⟨0,Nat.zero_le _,rfl,hid rfl,aH _ _⟩
  case round=>
   obtain⟨k,hk,rfl,HT,A⟩:=hrel
   by_cases a4:k<d.length
   ·obtain⟨U,V,rfl,a5,Y⟩:=O (by omega);obtain⟨Z,o2,rfl,a6,a0⟩:=R (by omega);obtain⟨x,F⟩:=eG a4;obtain⟨y,G⟩:=eG (l:=lb) (k:=k) (by omega);have c1:wr.cell? ⟨U,V+k,none⟩=some (.int .i64 x):=by rw[A.cell (p:=⟨U,V+k,none⟩) a5];exact Y k _ F
    have c2:wr.cell? ⟨Z,o2+k,none⟩=some (.int .i64 y):=by rw[A.cell (p:=⟨Z,o2+k,none⟩) a6];exact a0 k _ G
    have HX:=hid F;have HY:=hid G;clear Y a0 O R F G;go_wp2
    go_quiet (fail)
    go_wp2
    ·have h:(x != y)=true:=by assumption
     go_ret;refine⟨sJ ?_,below_drewN A _⟩;have h':x≠y:=by simpa using h
     rw[eq_comm,cB];intro e;have:=HX.out;rw[e,HY.out] at this;exact h' (by simpa using this.symm)
    ·have h:(x != y)=false:=by assumption
     go_roundw
     case rel=>exact⟨k+1,by omega,by go_num,hid (bDk HT.out HX.out HY.out (by simpa using h)),below_drewN A _⟩
     case measure=>simp[intOf];omega
   ·go_wp2;go_ret;exact⟨sJ (by
     have e:=HT.out;rw[cD (by omega),cD (by omega)] at e;simp[e]),A⟩
theorem bDm (d A:Value) (l:List Int) (w:World) (D:RdI w d l) (F:RdI w A l):
  Calls pG 22 #[d,A] w fun e w'=>e=.returned (.bool true)/\Below w.heap.size w w':=by grind [bDl,sJ,RdI]
end
section
theorem HT.down {G D:Nat->Int}:∀(t:HT) (A:Nat),t.root<=A->t.upOk G->t.inc->(∀x,x<A->D x=D (G x).toNat+1)->∀d:Nat,D t.root=(d:Int)->∀q∈t.deep d,D q.1=(q.2:Int)
 |.leaf n,_,_,_,_,_,d,F,q,e=>by
  obtain rfl:=List.mem_singleton.1 e;exact F
 |.node n l r,A,J,⟨h1,h2,L,M⟩,⟨O,R,U,V⟩,I,d,F,q,e=>by
  have hl:=O _ (HT.root_mem l);have hr:=R _ (HT.root_mem r);have a0:n<=A:=J;have a1:D n=(d:Int):=F;have Y:D l.root=((d+1:Nat):Int):=by grind
  have Z:D r.root=((d+1:Nat):Int):=by grind
  rcases List.mem_append.1 e with e|e
  ·exact HT.down l A (by omega) L U I (d+1) Y q e
  ·exact HT.down r A (by omega) M V I (d+1) Z q e
theorem ML {a b c:Int×Int} (d:¬ahd b a) (e:¬ahd c b):¬ahd c a:=by unfold ahd at*;omega
theorem TR {a b:Int×Int} (h:ahd a b):¬ahd b a:=by unfold ahd at*;omega
def pR (l:List (Int×Int)) (i j:Nat):List (Int×Int):=(l.set i (l.getD j (0,0))).set j (l.getD i (0,0))
theorem CN (l:List (Int×Int)) (i j:Nat):(pR l i j).length=l.length:=by simp[pR]
theorem aGu {l:List (Int×Int)} {i j:Nat} (d:i<l.length) (e:j<l.length) (k:Nat):(pR l i j).getD k (0,0)=if k=j then l.getD i (0,0) else if k=i then l.getD j (0,0) else l.getD k (0,0):=by grind [pR]
def tX (l:List (Int×Int)) (i:Nat):Prop:=(∀j,0<j->j<l.length->(j-1)/2≠i->¬ahd (l.getD j (0,0)) (l.getD ((j-1)/2) (0,0)))/\
 (0<i->∀j,0<j->j<l.length->(j-1)/2=i->¬ahd (l.getD j (0,0)) (l.getD ((i-1)/2) (0,0)))
theorem pS.step {l:List (Int×Int)} {i:Nat} (h:pS l i) (R:0<i) (J:i<l.length) (U:ahd (l.getD i (0,0)) (l.getD ((i-1)/2) (0,0))):pS (pR l i ((i-1)/2)) ((i-1)/2):=by
 have D:(i-1)/2<l.length:=by omega
 have L:i≠(i-1)/2:=by omega
 have g:=aGu J D;generalize V:(i-1)/2=u at*
 refine⟨fun j F d Y=>?_,fun M j F d O=>?_⟩
 ·grind [CN,TR,ML,pS,ahd,pR]
 ·rw[CN] at d;have G:(u-1)/2≠u/\(u-1)/2≠i:=by omega
  rw[g,g,aA G.1,aA G.2,aA (show j≠u by omega)];have I:=h.1 u M D (fun e=>L e.symm)
  by_cases A:j=i
  ·rw[aB A];exact I
  ·rw[aA A];have:=h.1 j F d A;rw[O] at this;exact ML I this
theorem tX.step {l:List (Int×Int)} {i f:Nat} (h:tX l i) (L:0<f) (D:f<l.length) (F:(f-1)/2=i) (M:ahd (l.getD f (0,0)) (l.getD i (0,0)))
  (O:∀j,0<j->j<l.length->(j-1)/2=i->¬ahd (l.getD j (0,0)) (l.getD f (0,0))):tX (pR l i f) f:=by
 have R:i<l.length:=by omega
 have U:i≠f:=by omega
 have g:=aGu R D;refine⟨fun j d e G=>?_,fun _ j d e G=>?_⟩
 ·rw[CN] at e;rw[g,g,aA G]
  by_cases I:j=f
  ·subst I;rw[aB rfl,aB F];exact TR M
  ·rw[aA I]
   by_cases J:j=i
   ·subst J;rw[aB rfl,aA (by omega)];exact h.2 d f L D F
   ·rw[aA J]
    by_cases A:(j-1)/2=i
    ·rw[aB A];exact O j d e A
    ·rw[aA A];exact h.1 j d e A
 grind [CN,tX,ahd,pR]
structure zV (N:Nat) (U:Nat->Int) (j:Nat) (D:Nat->Int):Prop where
 top:D (N-1)=0
 down:∀x,j<=x->x<N-1->D x=D (U x).toNat+1
 bd:∀x,j<=x->x<N->0<=D x/\D x<=((N-x:Nat):Int)
theorem zV.step {N:Nat} {U:Nat->Int} {j u:Nat} {D:Nat->Int} (h:zV N U (j+1) D) (L:j+1<N) (G:U j=(u:Int)) (M:j<u) (I:u<N) (J:∀x,j<=x->x<N-1->j<(U x).toNat):zV N U j (fun d=>if d=j then D u+1 else D d):=by
 refine⟨?_,fun x F A=>?_,fun x F A=>?_⟩
 ·show(if N-1=j then _ else _)=_;rw[aA (by omega)];exact h.top
 ·show(if x=j then _ else _)=(if(U x).toNat=j then _ else _)+1;have O:=J x F A;rw[aA (show ¬(U x).toNat=j by omega)]
  by_cases e:x=j
  ·subst e;rw[aB rfl,G,Int.toNat_natCast]
  ·rw[aA e];exact h.down x (by omega) A
 ·show 0<=(if x=j then _ else _)/\(if x=j then _ else _)<=_
  by_cases e:x=j
  ·subst e;rw[aB rfl];have:=h.bd u (by omega) I;omega
  ·rw[aA e];exact h.bd x (by omega) A
end
section
open Go.RowKit Go
theorem bTc (P:List Prt) (room:Int):∀(j k:Nat) (S:Dk),bMs P room (j+1) k S=bL4 P room (bMs P room j k S) (k+j)
 |0,_,_=>rfl
 |j+1,k,S=>by
  have:=bTc P room j (k+1) (bL4 P room S k);rw[show k+1+j=k+(j+1) by omega] at this;exact this
theorem bTh (P:List Prt) (room:Int) (S:Dk) (k:Nat):(bL4 P room S k).Hs.map Hld.b=((k:Int)::(S.Hs.map Hld.b).filter (fun x=>decide (x≠(k:Int)))).take room.toNat:=by
 show((_::bLc S.Hs (k:Int)).take room.toNat).map Hld.b=_;rw[List.map_take,List.map_cons,List.filter_map];rfl
theorem bTd (P:List Prt) (room:Int) (S:Dk) (k:Nat):(bL4 P room S k).dec=if decide ((k:Int)∈S.Hs.map Hld.b)=true then S.dec else S.dec+1:=by
 show(if(bLt S.Hs (k:Int)).isSome then S.dec else S.dec+1)=_;have:(bLt S.Hs (k:Int)).isSome=decide ((k:Int)∈S.Hs.map Hld.b):=by
  rw[Bool.eq_iff_iff,decide_eq_true_iff];unfold bLt;rw[List.find?_isSome,List.mem_map];exact⟨fun⟨x,h,e⟩=>⟨x,h,of_decide_eq_true e⟩,fun⟨x,h,e⟩=>⟨x,h,aG e⟩⟩
 rw[this]
theorem bTe (P:List Prt) (room:Int):∀(j k:Nat) (S:Dk),S.dec<=(bMs P room j k S).dec/\(bMs P room j k S).dec<=S.dec+j
 |0,_,S=>⟨Int.le_refl _,by show S.dec<=S.dec+((0:Nat):Int);omega⟩
 |j+1,k,S=>by
  have h:=bTe P room j (k+1) (bL4 P room S k);have e:=bTd P room S k;show S.dec<=(bMs P room j (k+1) (bL4 P room S k)).dec/\(bMs P room j (k+1) (bL4 P room S k)).dec<=_;split at e<;>omega
structure Opn where
 s:Int
 o:Int
 m:Int
 c:Int
def opR (P:List Prt) (q:Opn) (y:Rdr):Prop:=(q=⟨0,0,0,0⟩/\y=bK8)\/∃(o m f e k:Nat) (c:Int),q=⟨1,o,m,c⟩/\0<=c/\bL9 P o m f e k/\(((y=bK5 P o m e k 1 ⟨#[]⟩\/y=bK5 P o m e k 2 ⟨#[]⟩)/\c<=(k:Int)-f)\/∃p,P[k]? =some p/\y=bK5 P o m e k 3 p.t/\c<=(k:Int)-f+1)
theorem opR.free {P:List Prt} {q:Opn} {y:Rdr} (h:opR P q y):(q.s=0/\q=⟨0,0,0,0⟩/\y=bK8)\/(q.s=1/\y.st≠0):=by
 rcases h with⟨rfl,rfl⟩|⟨o,m,f,e,k,c,rfl,-,-,⟨rfl|rfl,-⟩|⟨p,-,rfl,-⟩⟩
 ·exact .inl ⟨rfl,rfl,rfl⟩
 ·exact .inr ⟨rfl,by show(1:Int)≠0;decide⟩
 ·exact .inr ⟨rfl,by show(2:Int)≠0;decide⟩
 ·exact .inr ⟨rfl,by show(3:Int)≠0;decide⟩
end
end Go.Proofs.YtfckbfofgeilgaaGreatDoor
