/-
  Texts put together (part 10): the walks and the plain laws on which the statement stands.
-/
import Derived.Deep.AppendLies
import Derived.Test.YtfckbfofgeilgaaGreatDoorZ6
import Derived.Test.YtfckbfofgeilgaaGreatDoorZ7
import Derived.Test.YtfckbfofgeilgaaGreatDoorZ8
set_option maxRecDepth 100000
set_option maxHeartbeats 12800000
set_option linter.unusedVariables false
set_option linter.unusedSimpArgs false
open Go.Proofs.Tryz
open Go.Proofs.Tryz renaming prog->pG
open Go renaming bodyPost_ret->fM
open Go.Addr renaming add->gP
open Go.ByteArray renaming toList_eq->WU
open Go.Calls renaming quiet_of->WV
open Go.IntKind renaming i64->aJ,wrap_i64->aM
open Go.Lib renaming toList_data->pY
open Go.Op renaming bytesLess->sF
open Go.Oper renaming wp->nC
open Go.Region renaming wanted->qL
open Go.RowKit.Below renaming refl->aH
open Go.Value renaming int->bQ,slice->mM
open Go.World renaming block_lt_of_cell?->gV,size_alloc->fP
open List renaming drop_of_length_le->sB,ext_getElem?->lH,getD->jD,getElem?_eq_getElem->aN,length_append->aL,length_cons->aU,length_drop->bA,length_map->aS,length_nil->aV,length_take->aQ,mem_map->eK,mem_range->qM,pairwise_iff_getElem->DH,range->eT
open List.Pairwise renaming imp_of_mem->aLc,nil->bNd
open Nat renaming eq_zero_or_pos->jE,le_refl->aD,le_trans->aR,mod_eq_of_lt->jT,mod_lt->kU,zero_le->aO
namespace Go.Proofs.YtfckbfofgeilgaaGreatDoor
section
theorem aPw {n x:Nat} (d:0<n):(x+(n-1))%n<n:=kU _ d
theorem aPx {n x y:Nat} (A:x<n) (D:y<n) (h:(x+(n-1))%n=(y+(n-1))%n):x=y:=by
 have e:∀z,z<n->(z+(n-1))%n=if z=0 then n-1 else z-1:=by
  intro z F
  by_cases d:z=0
  ·rw[aB d,d,Nat.zero_add];exact jT (by omega)
  ·rw[aA d,show z+(n-1)=(z-1)+n by omega,Nat.add_mod_right];exact jT (by omega)
 grind
theorem aPy {n y:Nat} (d:y<n):((y+1)%n+(n-1))%n=y:=by
 rw[Nat.mod_add_mod,show y+1+(n-1)=y+n by omega,Nat.add_mod_right];exact jT d
theorem aPz {c:Nat->Nat} {n m:Nat} {o:Nat->Int} (h:Ord c n m o):((eT n).map (fun i=>((o i).toNat+(n-1))%n)).Perm (eT n):=by
 rw[List.perm_ext_iff_of_nodup ?_ List.nodup_range]
 ·intro y;rw[eK,qM];constructor
  ·rintro⟨i,G,rfl⟩;exact aPw (by grind)
  ·intro I;obtain⟨k,J,e⟩:=h.onto (y:=(y+1)%n) (kU _ (by omega))
   grind [aPy]
 ·unfold List.Nodup;rw[List.pairwise_map];refine aLc ?_ List.pairwise_lt_range;intro a b D F L e;have d:=qM.1 D;have A:=qM.1 F;have M:=h.rng a d;have O:=h.rng b A;have:=aPx (by omega) (by omega) e;exact h.ne d A (by omega) (by omega)
theorem aP0 (l:List UInt8):(eT l.length).map (fun i=>l.getD i 0)=l:=by
 apply lH
 grind
theorem QK (s:ByteArray) {c:Nat->Nat} {m:Nat} {o:Nat->Int} (h:Ord c s.size m o):(eM s o s.size).Perm s.data.toList:=by
 have d:=(aPz h).map (fun i=>s.data.toList.getD i 0);rw[List.map_map] at d;have e:=aP0 s.data.toList;rw[show s.data.toList.length=s.size by simp] at e;rw[e] at d;exact d
theorem aP1 (o:Nat->Int):∀k,(∃j,j<k/\o j=0)->gX o k<k/\o (gX o k)=0:=by
 intro k
 induction k with
 |zero=>rintro⟨j,d,_⟩;omega
 |succ k A=>
  rintro⟨j,d,e⟩;unfold gX
  by_cases h:o k=0
  ·grind
  ·grind
theorem aP2 {c:Nat->Nat} {n m:Nat} {o:Nat->Int} (h:Ord c n m o) (d:0<n):gX o n<n/\o (gX o n)=0:=
 aP1 o n (by obtain⟨k,A,e⟩:=h.onto (y:=0) d;exact⟨k,A,by simpa using e⟩)
end
section
open Go.RowKit
theorem aP3 (v:Value) (most:Int) (w:World) (D:RdI w v []) (a0: -9223372036854775808<=most) (a1:most<=1000000):
  Calls pG 232 #[v,.int .i64 most] w fun e w'=>∃F,e=.returned (.tuple #[F,.int .i64 (rM [] most)])/\OwI w' w.heap.size F (sQ [] most)/\Below w.heap.size w w':=by
 have G:Calls pG 244 #[v] w fun e w'=>e=.returned (.bool false)/\w'=w:=(PT v [] w D).mono fun e w' ⟨I,M⟩=>by
  rw[sK (fun x O=>by simp at O)] at I;exact⟨I,M⟩
 obtain⟨a,R,rfl,U,a2,V⟩:=D.open;simp only[aV] at U V G ⊢;go_enter func232,ntmps232;go_wp2_with fail;refine G.mono ?_;rintro e J ⟨rfl,rfl⟩;go_wp2_with fail
 go_loopg [0,8,9,10] 0 (fun Y Z _s8 _s9 _s10 wq=>Y=0/\Z=.slice a 0 R/\wq=J.alloc (.cells #[.slice none 0 0] 376))
 case atStart=>exact⟨rfl,rfl,rfl⟩
 case round=>
 obtain⟨hg,rfl,rfl⟩:=hrel;have hc:=bX J (.slice none 0 0) 376
 by_cases L:most<0
 ·have t1:decide (most<0)=true:=aG L;have d:rM [] most=4:=(vW (by show ¬((([]:List Int).length:Nat):Int)<=most;simp;omega)).2;have A:sQ [] most=[]:=(vW (by show ¬((([]:List Int).length:Nat):Int)<=most;simp;omega)).1;go_wp2_with fail
  go_ret2
  exact⟨.slice none 0 0,by first|(rw[d];rfl)|rfl,by first|(rw[A];exact OwI.nil _ _)|exact OwI.nil _ _,(aH _ _).alloc (aD _) _⟩
 ·have t1:decide (most<0)=false:=aE L;have d:rM [] most=0:=(BN (by show((([]:List Int).length:Nat):Int)<=most;simp;omega)).2;have A:sQ [] most=[]:=(BN (by show((([]:List Int).length:Nat):Int)<=most;simp;omega)).1;go_wp2_with fail
  go_ret2
  exact⟨.slice none 0 0,by first|(rw[d];rfl)|rfl,by first|(rw[A];exact OwI.nil _ _)|exact OwI.nil _ _,(aH _ _).alloc (aD _) _⟩
theorem aP4 (v:Value) (m:List Int) (most:Int) (w:World) (A:RdI w v m) (D:m.length<=1000000) (F:∀x∈m,0<=x/\x<=1000000) (G: -9223372036854775808<=most) (I:most<=1000000):
  Calls pG 232 #[v,.int .i64 most] w fun e w'=>∃d,e=.returned (.tuple #[d,.int .i64 (rM m most)])/\OwI w' w.heap.size d (sQ m most)/\Below w.heap.size w w':=by grind [jE,List.length_eq_zero_iff,aP3,aO6,RdI,rM,OwI,sQ]
theorem BQ (a:ByteArray) (o:Int) (y:Value) (_hy:y.oneCell'=true) (w:World) (d:a.size<=140737488355328):
  Calls pG 195 #[.agg #[.string a,.int .i64 o,y]] w fun e w'=>e=.returned (.int .i64 ((a.size:Int)+1))/\Below w.heap.size w w':=by
 have A:aJ.wrap ((a.size:Int)+1)=(a.size:Int)+1:=by rw[aM];omega
 go_enter func195,ntmps195;go_wp2_with fail;go_ret;exact⟨rfl,(aH _ _).alloc (aD _) _⟩
def rN (s:ByteArray) (o:Nat->Int):List Int:=dM 0 (dL (bY s.data.toList) (eM s o s.size))++[((bY s.data.toList).length:Int)+1]
theorem JX:(pG.info? 140).map (·.size)=some 3:=by kernel_rfl
def dN:ByteArray:={data:=#[]}
theorem vX (s:List UInt8):(bY s).length<=256:=by grind [bY,kL,dZ]
theorem xK {s:ByteArray} (h:0<s.size):s.toList.isEmpty=false:=by
 rw[pY]
 cases e:s.data.toList with
 |nil=>
  have:s.data.toList.length=s.size:=by simp
  rw[e] at this;simp at this;omega
 |cons b l=>rfl
theorem aAy (s:ByteArray) (k:Nat) (w:World) (A:s.size<=1000000) (D:k<=s.size):
  Calls pG 140 #[.string s,.int .i64 (k:Int)] w fun e w'=>e=.returned (.string (mkS (rot s k)))/\∃m,w'=w.drewN m:=by
 have e:=QI s k;have d:=hid e;clear e;go_enter func140,ntmps140;go_wp2
 go_quiet (fail)
 go_wp2;go_ret;exact⟨yV d.out,_,rfl⟩
theorem aQa (s:ByteArray) (w:World) (hn:s.size<=1000000)
  (U:∀w,Calls pG 139 #[.string s] w fun e w'=>∃v o,e=.returned v/\Ord (cQ s) s.size s.size o/\OwI w' w.heap.size v (iY s.size o)/\Below w.heap.size w w'):
  Calls pG 106 #[.string s] w fun e w'=>
   ∃o,Ord (cQ s) s.size s.size o/\e=.returned (.tuple #[.string (mkS (eM s o s.size)),.int .i64 ((gX o s.size:Nat):Int)])/\Below w.heap.size w w':=by
 have a6:=hid U;clear U;go_enter func106,ntmps106;go_wp2_with fail;refine(a6.out _).mono ?_;rintro e V ⟨v,o,rfl,Y,Z,a0⟩;obtain⟨a,cap,rfl,a7,a8,M⟩:=Z.rd.open;rw[qE] at a7 M ⊢;unfold maxLen at a8;have HO:=hid Y;have HA:=hid M;clear Y M Z;go_wp2_with fail
 go_loopg [5,6,7,8] s.size (fun gh s5 s6 s7 _s8 wr=>∃k:Nat,k<=s.size/\gh=s.size-k/\s7=.int .i64 k/\s6=.int .i64 ((gX o k:Nat):Int)/\s5=.string (mkS (eM s o k))/\Below V.heap.size V wr)
 case atStart=>exact⟨0,aO _,rfl,rfl,rfl,rfl,aH _ _⟩
 case round=>
  obtain⟨k,hk,F,rfl,rfl,rfl,D⟩:=hrel;have HG:=hid F;clear F
  by_cases a1:k<s.size
  ·obtain⟨b,off,rfl,a9,hc⟩:=HA.out (by omega);have b0:=HO.out.rng k a1;obtain⟨A,a2⟩:=ex1 ((o k).toNat);have O:o k=(A:Int):=by omega
   have b1:A<s.size:=by omega
   have G:=(D.cell (p:=⟨b,off+k,none⟩) a9).trans (hc k _ (BP _ _ _ a1));rw[O] at G;have EK:=hid O;have b2:=hid a2;clear O a2 b0 hc;go_wp2_with fail;refine(aPt s A _ hn (by omega)).mono ?_;rintro e w2 ⟨rfl,a3⟩;obtain⟨t,I⟩:=ex1 (mkS (rot s A));rw[<-I];have b6:t.size=s.size:=by rw[I,cS,EE _ _ (by omega)]
   obtain⟨d,R⟩:=ex1 (s.size-1);have b3:d<s.size:=by omega
   have b4:d<t.size:=by omega
   have ed:(s.size:Int)-1=(d:Int):=by omega
   obtain⟨C,J⟩:=ex1 (mkS [s.data.toList.getD ((A+d)%s.size) 0]);have b7:t.extract d s.size=C:=by
    have h1:=QH s A d b1 b3;have h2:=JA t d b4;rw[show d+1=s.size by omega] at h2;rw[h2,J,show t.data.toList=rot s A by rw[I];rfl,jD,h1];rfl
   have b8:C.size=1:=by rw[J];rfl
   obtain⟨S,L⟩:=ex1 (mkS (eM s o k));rw[<-L];have b9:S.size<=1000000:=by rw[L,cS,xJ];omega
   have a4:mkS (eM s o (k+1))=S++C:=by
    rw[L,J,sI,QJ,<-b2.out,<-R]
   have HN:=hid a4;have HD:=hid R;have a5:=D.trans (a3.mono D.size);have c0:=(a3.cell (p:=⟨b,off+k,none⟩) (gV wr _ G)).trans G;have c2:d<=s.size:=by omega
   clear D I R J L a4 G
   by_cases h0:A=0
   ·have t1:((A:Int)==0)=true:=by rw[beq_iff_eq];omega
    go_wp2_with fail;have F:=HG.out
    go_roundg (s.size-(k+1))
    ·
     refine⟨k+1,by omega,rfl,by go_num,?_,by rw[HN.out],a5⟩;unfold gX;rw[aB (by rw[EK.out];omega)]
    ·omega
   ·have t1:((A:Int)==0)=false:=by rw[cB];omega
    go_wp2_with fail;have F:=HG.out
    go_roundg (s.size-(k+1))
    ·
     refine⟨k+1,by omega,rfl,by go_num,?_,by rw[HN.out],a5⟩;show _=bQ .i64 (((if o k=0 then k else gX o k:Nat)):Int);rw[aA (by rw[EK.out];omega)]
    ·omega
  ·have b5:k=s.size:=by omega
   subst b5;go_wp2_with fail
   go_ret2
   exact⟨o,HO.out,rfl,a0.trans (D.mono a0.size)⟩
theorem aQb:∀(t:Nat) (x y:List UInt8) (p q:UInt8),(∀u,u<t->x[u]? =y[u]?)->x[t]? =some p->y[t]? =some q->p.toNat<q.toNat->sF x y=true:=by
 intro t
 induction t with
 |zero=>
  intro x y p q _ d e A
  cases x with
  |nil=>simp at d
  |cons a x=>
   cases y with
   |nil=>simp at e
   |cons b y=>
    simp at d e;subst d;subst e;simp[sF,UInt8.lt_iff_toNat_lt,A]
 |succ t F=>
  intro x y p q h d e A
  cases x with
  |nil=>simp at d
  |cons a x=>
   cases y with
   |nil=>simp at e
   |cons b y=>
    have D:=h 0 (by omega);simp at D d e;subst D;have:=F x y p q (fun u G=>by grind) d e A;simp[sF,this]
theorem aQc (x:List UInt8):sF x x=false:=by
 induction x with
 |nil=>rfl
 |cons a x d=>simp[sF,d]
theorem EF (s:ByteArray) {k i:Nat} (d:k<s.size) (e:i<s.size):∃b,(rot s k)[i]? =some b/\b.toNat=cQ s (k+i):=⟨_,QH s k i d e,rfl⟩
theorem aAz (s:ByteArray) {a b i:Nat} (d:a<s.size) (e:b<s.size) (A:i<s.size) (h:cQ s (a+i)=cQ s (b+i)):(rot s a)[i]? =(rot s b)[i]? :=by grind [EF,UInt8.toNat_inj,cQ,rot]
theorem aQd (s:ByteArray) {a b:Nat} (d:a<s.size) (e:b<s.size) (h:eqm (cQ s) s.size a b):rot s a=rot s b:=by
 apply lH
 grind [aAz,EE,eqm,cQ,rot]
theorem aA0 (s:ByteArray) {a b:Nat} (d:a<s.size) (e:b<s.size) (h:ltm (cQ s) s.size a b):sF (rot s a) (rot s b)=true:=by
 obtain⟨t,A,D,F⟩:=h
 grind [EF,aQb,aAz,ltm,cQ,rot]
theorem aQe {s:ByteArray} {o d:Nat->Int} {n:Nat} (h:∀k,k<n->o k=d k):eM s o n=eM s d n:=by grind [eM,List.map_congr_left]
theorem aQf {o d:Nat->Int}:∀{n:Nat},(∀k,k<n->o k=d k)->gX o n=gX d n:=by
 intro n
 induction n with
 |zero=>intro _;rfl
 |succ n e=>intro h;unfold gX;rw[h n (by omega),e (fun k A=>h k (by omega))]
end
section
theorem aQg:∀(x y:List UInt8),sF x y=true->sF y x=false:=by
 intro x
 induction x with
 |nil=>
  intro y h
  cases y with
  |nil=>rfl
  |cons b y=>rfl
 |cons a x d=>
  intro y h
  cases y with
  |nil=>simp[sF] at h
  |cons b y=>
   simp only[sF,Bool.or_eq_true,Bool.and_eq_true,decide_eq_true_eq,beq_iff_eq,Bool.or_eq_false_iff,Bool.and_eq_false_iff,decide_eq_false_iff_not] at h ⊢;rcases h with h|⟨e,A⟩
   ·grind
   ·grind
theorem aQh (s:ByteArray) {a b:Nat} (d:a<s.size) (e:b<s.size):sF (rot s a) (rot s b)=true↔ltm (cQ s) s.size a b:=by grind [zA,cQ,aQd,aQc,aQg,aA0,rot,ltm]
def qF (L:List Int) (j:Nat) (k:Int):List Int:=L.take j++k::L.drop j
theorem QL (L:List Int) (j:Nat) (k:Int):(qF L j k).length=L.length+1:=by grind [qF]
theorem QM {R:Int->Int->Prop} {L:List Int} {j:Nat} {k:Int} (h:L.Pairwise R) (d:∀x∈L.take j,R x k) (e:∀x∈L.drop j,R k x):(qF L j k).Pairwise R:=by grind [qF,List.take_sublist,List.pairwise_cons,List.drop_sublist,List.take_append_drop]
theorem QN {L:List Int} {j:Nat} {k:Nat} (h:∀x∈L,0<=x/\x<(k:Int)):∀x∈qF L j k,0<=x/\x<((k+1:Nat):Int):=by grind [qF]
theorem aQi {c:Nat->Nat} {n:Nat} {L:List Int} (h:L.Pairwise (bef c n)) {j:Nat} {y k:Int} (I:0<j) (d:L[j-1]? =some y) (e:bef c n y k):∀x∈L.take j,bef c n x k:=by
 intro x A;obtain⟨i,D,rfl⟩:=List.mem_iff_getElem.1 A;rw[aQ] at D;rw[List.getElem_take];obtain⟨F,G⟩:=List.getElem?_eq_some_iff.1 d;rcases Nat.lt_or_ge i (j-1) with p|p
 ·have:=DH.1 h i (j-1) (by omega) F p;rw[G] at this;exact(BJ c n).tr _ _ _ this e
 grind
theorem aQj {c:Nat->Nat} {n:Nat} {L:List Int} (d:L.length=n) (e:∀x∈L,0<=x/\x<(n:Int)) (A:L.Pairwise (bef c n)):Ord c n n (fun k=>L.getD k 0):=by
 subst d;refine⟨fun k G=>e _ (by grind),fun i j _ D F=>?_⟩;have:=DH.1 A i j (by omega) F D
 grind
end
section
open Go.RowKit
theorem uK {D:Array Oper} {o:Oper} {a:Act} {K:Act->World->Prop} {Q:Exit->Act->World->Prop} {E:Prop} {w:World} (I:o.guard=none) (s x:Operand)
  (J:o.op=.call {callee:=.builtin .append,args:=#[s,x],argTypes:=#[53,53]}) (base:Nat) (v:Value) (l:List Int) (hs:a.eval s=v) (hown:OwI w base v l)
  (ad:Addr) (m c:Nat) (new:List Int) (hx:a.eval x=.slice (some ad) m c) (hl:new.length=m) (hnews:∀j y,new[j]? =some y->w.cell? (ad.add j)=some (.int .i64 y)) (hroom:(l.length+m)*8<=140737488355328) (hbase:base<=w.heap.size)
  (h:∀e w',OwI w' base e (l++new)->Below base w w'->w.grownBy w' v.ownBlock->K (a.put o.dst e) w'):if qL o (yielded D a.tmps)=true then nC pG o a w K Q else E:=by
 have L:qL o (yielded D a.tmps)=true:=by simp[qL,I]
 rw[aB L];obtain⟨i,M,O,R,U⟩:=jL.info;have V:(bQ .i64 0).cells.size=1:=by rw[jL.cells];rfl
 have F:w.ownsRow base 3 1 v l.length (l.map (bQ .i64)):=by have:=hown;unfold OwI Ow at this;rwa[aS] at this
 refine wp_append_own w s x _ J base 3 i _ 1 8 jL.under M O R U V (by decide) v l.length _ hs F ad m c (new.map (bQ .i64)) hx (by simp[hl]) ?_ ?_ (by simp only[maxLen];omega) hroom hbase (fun e w' Y G _=>h e w' ?_ (rJ F G hbase) G)
 ·intro j u d;rw[List.getElem?_map] at d
  cases A:new[j]? with
  |none=>rw[A] at d;simp at d
  |some y=>rw[A] at d;simp at d;subst d;exact hnews j y A
 ·intro u d;obtain⟨y,_,rfl⟩:=eK.1 d;rfl
 ·unfold OwI Ow;rw[List.map_append];rw[aL,aS,aS,hl];exact Y
theorem aA1 {d:Array Oper} {o:Oper} {a:Act} {K:Act->World->Prop} {Q:Exit->Act->World->Prop} {E:Prop} {w:World} (e:o.guard=none) (s x:Operand)
  (A:o.op=.call {callee:=.builtin .append,args:=#[s,x],argTypes:=#[53,53]}) (base:Nat) (v:Value) (l:List Int) (hs:a.eval s=v) (hown:OwI w base v l)
  (hx:a.eval x=.slice none 0 0)
  (h:K (a.put o.dst v) w):if qL o (yielded d a.tmps)=true then nC pG o a w K Q else E:=by
 have D:qL o (yielded d a.tmps)=true:=by simp[qL,e]
 rw[aB D];obtain⟨i,F,_,_,_⟩:=jL.info;have G:w.ownsRow base 3 1 v l.length (l.map (bQ .i64)):=by have:=hown;unfold OwI Ow at this;rwa[aS] at this
 have I:=run_append_owned_none (P:=pG) (w:=w) base _ o.type 3 i 1 jL.under F v l.length _ G;unfold nC;simp[execOp,A,resolve,invoke,builtin,hs,hx,I,Result.andThen];exact h
theorem aA2 (b off j:Nat):(⟨b,off,none⟩:Addr).add j=⟨b,off+j,none⟩:=by unfold gP;split<;>simp_all
theorem EG {wr w:World} {b off:Nat} {L:List Int} (d:b<wr.heap.size) (A:∀j x,L[j]? =some x->wr.cell? ⟨b,off+j,none⟩=some (.int .i64 x)) (h:Below wr.heap.size wr w/\wr.heap.size<=w.heap.size) (n:Nat):
  (∀j y,(L.take n)[j]? =some y->w.cell? ((⟨b,off,none⟩:Addr).add j)=some (.int .i64 y))/\(∀j y,(L.drop n)[j]? =some y->w.cell? ((⟨b,off+n,none⟩:Addr).add j)=some (.int .i64 y)):=by
 refine⟨fun j y e=>?_,fun j y e=>?_⟩
 ·rw[aA2,h.1.cell (p:=⟨b,off+j,none⟩) d]
  grind
 ·rw[aA2,h.1.cell (p:=⟨b,off+n+j,none⟩) d]
  grind
theorem BR {B:Nat} {w0 d e:World} (h:Below B w0 d/\B<=d.heap.size) (A:Below B d e):Below B w0 e/\B<=e.heap.size:=⟨h.1.trans A,aR h.2 A.size⟩
theorem zE {B:Nat} {w0 d:World} (h:Below B w0 d/\B<=d.heap.size) (o:Obj):Below B w0 (d.alloc o)/\B<=(d.alloc o).heap.size:=⟨h.1.alloc h.2 o,aR h.2 (by simp)⟩
theorem JY {B:Nat} {w0 d:World} (h:Below B w0 d) (e:B<=d.heap.size) (n:Nat):Below B w0 (d.drewN n).drew/\B<=(d.drewN n).drew.heap.size:=⟨(kY h n).drew,e⟩
theorem JZ {B:Nat} {w0 d:World} (h:Below B w0 d) (e:B<=d.heap.size) (n:Nat) (o:Obj):Below B w0 ((d.drewN n).alloc o)/\B<=((d.drewN n).alloc o).heap.size:=zE ⟨kY h n,e⟩ o
theorem KA {W w':World} {p:Addr} {v:Value} (e:W.grownBy w' none) (d:W.cell? p=some v):w'.cell? p=some v:=by
 rw[<-d];exact World.cell?_of_block (w:=W) (e.block p.block (gV W p d) (by simp))
theorem xL {w:World} {g:Nat} {x:Int} (h:w.cell? ⟨g,0,none⟩=some (.int .i64 x)):∀j y,[x][j]? =some y->w.cell? ((⟨g,0,none⟩:Addr).add j)=some (.int .i64 y):=by
 intro j y d
 cases j with
 |zero=>simp at d;subst d;simpa [gP] using h
 |succ j=>simp at d
theorem aQk (s:ByteArray) (w:World) (hn:s.size<=1000000):
  Calls pG 139 #[.string s] w fun e w'=>∃v o,e=.returned v/\Ord (cQ s) s.size s.size o/\OwI w' w.heap.size v (iY s.size o)/\Below w.heap.size w w':=by
 go_enter func139,ntmps139;go_wp2_with fail
 go_loopg [3,4,5] s.size (fun gh s3 s4 _s5 wr=>∃(k:Nat) (L:List Int),k<=s.size/\gh=s.size-k/\s4=.int .i64 k/\OwI wr w.heap.size s3 L/\Hid (L.length=k/\(∀x∈L,0<=x/\x<(k:Int))/\L.Pairwise (bef (cQ s) s.size))/\(k=0->s3=.slice none 0 0)/\Below w.heap.size w wr)
 case atStart=>exact⟨0,[],aO _,rfl,rfl,OwI.nil _ _,hid ⟨rfl,fun x F=>by simp at F,bNd⟩,fun _=>rfl,aH _ _⟩
 case round=>
  obtain⟨k,L,hk,J,rfl,a2,I,a9,G⟩:=hrel;have HG:=hid J;have c3:=hid a9;clear J a9
  by_cases c4:k<s.size
  ·obtain⟨va,cap,rfl,c5,c6,R⟩:=a2.rd.open;rw[I.out.1] at c5 R ⊢;unfold maxLen at c6;have HA:=hid R;have d4:=hid a2;clear R a2;obtain⟨d,rfl⟩:∃d:World,d=wr:=⟨_,rfl⟩;go_wp2_with fail
   go_loopg [5] k (fun gh s5 wr=>∃j:Nat,j<=k/\gh=j/\s5=.int .i64 j/\Hid (∀x∈L.drop j,bef (cQ s) s.size (k:Int) x)/\Below d.heap.size d wr)
   case atStart=>exact⟨k,aD _,rfl,rfl,hid (fun x F=>by rw[sB (by rw[I.out.1];exact aD _)] at F;simp at F),aH _ _⟩
   case round=>
    obtain⟨j,hj,J,rfl,HD,D⟩:=hrel;have c7:=hid J;clear J;rcases jE j with Y|Y
    ·have t1:decide (0<j)=false:=aE (by omega);have HT:=hid (show ∀x∈L.take j,bef (cQ s) s.size x (k:Int) from fun x F=>by rw[Y] at F;simp at F);have b0:=hid Y;clear Y;go_wp2_with fail
     go_quiet (fail)
     go_wp2_with fail;rcases jE k with a0|a0
     ·have b1:=c3.out a0;rw[mM.injEq] at b1;obtain⟨rfl,_,rfl⟩:=b1;have d5:L=[]:=List.eq_nil_of_length_eq_zero (by rw[I.out.1];exact a0);subst a0;have c8:j=0:=b0.out;subst c8
      go_region_held3 (fun w'=>Below d.heap.size d w'/\d.heap.size<=w'.heap.size)
       (first
        |with_reducible assumption
        |with_reducible exact zE (by assumption) _
        |with_reducible exact BR (by assumption) (by assumption)
        |with_reducible exact JY D D.size _
        |with_reducible exact JZ D D.size _ _)
       (first
        |(refine aA1 rfl _ _ rfl d.heap.size (.slice none 0 0) [] rfl (OwI.nil _ _) rfl ?_)
        |(refine uK rfl _ _ rfl d.heap.size _ [] rfl (OwI.nil _ _) ⟨_,0,none⟩ 1 1 [((0:Nat):Int)] rfl rfl ?_ ?_ ?_ ?_;(first|exact xL (bX _ _ _)|exact xL (KA (by assumption) (by exact bX _ _ _)));(simp only[aV];omega);(exact(show Below d.heap.size d _/\d.heap.size<=_ by assumption).2);intro v2 w2 a3 a7 a4)
        |(refine aA1 rfl _ _ rfl d.heap.size _ ([]++[((0:Nat):Int)]) rfl (by assumption) rfl ?_))
      all_goals go_wp2_with fail
      all_goals
       have J:=HG.out
       go_roundg (s.size-(0+1))
       ·
        have U:Below d.heap.size d _/\d.heap.size<=_:=(show Below d.heap.size d w2/\d.heap.size<=w2.heap.size by assumption);refine⟨0+1,[((0:Nat):Int)],by omega,rfl,by go_num,?_,hid ⟨rfl,fun x F=>by simp at F;omega,List.pairwise_singleton _ _⟩,fun e=>by omega,G.trans (U.1.mono G.size)⟩;exact Ow.base a3 G.size
       ·omega
     ·obtain⟨b,off,rfl,V,Z⟩:=HA.out a0;have HC:=hid Z;have M:=hid I.out.1;clear Z;have d6:(j:Int)<=(k:Int):=by omega
      have c9:j<=cap:=by omega
      have b2:¬cap=j:=by have:=b0.out;omega
      go_region_held3 (fun w'=>Below d.heap.size d w'/\d.heap.size<=w'.heap.size)
       (first
        |with_reducible assumption
        |with_reducible exact zE (by assumption) _
        |with_reducible exact BR (by assumption) (by assumption)
        |with_reducible exact JY D D.size _
        |with_reducible exact JZ D D.size _ _)
       (first
        |(refine uK rfl _ _ rfl d.heap.size (.slice none 0 0) [] rfl (OwI.nil _ _) ⟨b,off,none⟩ j cap (L.take j) rfl ?_ ?_ ?_ ?_ ?_;(rw[aQ,M.out];omega);(exact(EG V HC.out (by assumption) j).1);(simp only[aV];omega);(exact(show Below d.heap.size d _/\d.heap.size<=_ by assumption).2);intro v1 w1 b3 b4 b5)
        |(refine uK rfl _ _ rfl d.heap.size _ ([]++L.take j) rfl (by first|assumption|exact OwI.alloc (by assumption) _) ⟨_,0,none⟩ 1 1 [(k:Int)] rfl rfl ?_ ?_ ?_ ?_;(first|exact xL (bX _ _ _)|exact xL (KA (by assumption) (by exact bX _ _ _)));(simp only[aL,aV,aQ];omega);(exact(show Below d.heap.size d _/\d.heap.size<=_ by assumption).2);intro v2 w2 a3 a7 a4)
        |(refine uK rfl _ _ rfl d.heap.size _ (([]++L.take j)++[(k:Int)]) rfl (by assumption) ⟨b,off+j,none⟩ (k-j) (cap-j) (L.drop j) rfl ?_ ?_ ?_ ?_ ?_;(rw[bA,M.out]);(exact(EG V HC.out (by assumption) j).2);(simp only[aL,aV,aQ,aU];omega);(exact(show Below d.heap.size d _/\d.heap.size<=_ by assumption).2);intro v3 O a1 b6 b7))
      all_goals go_wp2_with fail
      all_goals
       have J:=HG.out
       go_roundg (s.size-(k+1))
       ·
        obtain⟨q1,q2,q3⟩:=I.out;have U:Below d.heap.size d _/\d.heap.size<=_:=(show Below d.heap.size d O/\d.heap.size<=O.heap.size by assumption);refine⟨k+1,qF L j k,by omega,rfl,by go_num,?_,hid ⟨by rw[QL,q1],QN q2,QM q3 HT.out HD.out⟩,fun e=>by omega,G.trans (U.1.mono G.size)⟩;have e:([]++L.take j++[(k:Int)])++L.drop j=qF L j k:=by simp[qF]
        rw[<-e];exact Ow.base a1 G.size
       ·omega
    ·have t1:decide (0<j)=true:=aG Y;obtain⟨b,off,rfl,V,Z⟩:=HA.out (by omega);obtain⟨h1,h2,h3⟩:=I.out;have a5:j-1<L.length:=by omega
     have a8:L[j-1]? =some (L.getD (j-1) 0):=by simp[jD,aN a5]
     have d0:=h2 _ (List.mem_of_getElem? a8);obtain⟨y,hy⟩:∃y:Nat,L.getD (j-1) 0=(y:Int):=⟨(L.getD (j-1) 0).toNat,by omega⟩;have d1:y<k:=by omega
     have c1:=(D.cell (p:=⟨b,off+(j-1),none⟩) V).trans (Z (j-1) _ a8);rw[hy] at c1;have HY:=hid hy;have s1:aJ.wrap ((j:Int)-1)=(j:Int)-1:=IntWalk.i64_in _ (by omega);have s2:((j:Int)-1).toNat=j-1:=by omega
     have s3:(0:Int)<=(j:Int)-1:=by omega
     have s4:(j:Int)-1<(k:Int):=by omega
     have s6:(1:Int)<=(j:Int):=by omega
     have s9:(j:Int)<=(k:Int):=by omega
     obtain⟨A,R⟩:=ex1 (mkS (rot s k));obtain⟨B,hB⟩:=ex1 (mkS (rot s y));have qa:∀W,Calls pG 140 #[.string s,.int .i64 (k:Int)] W fun e w'=>e=.returned (.string A)/\∃m,w'=W.drewN m:=fun W=>by rw[R];exact aAy s k W hn (by omega)
     have qb:∀W,Calls pG 140 #[.string s,.int .i64 (y:Int)] W fun e w'=>e=.returned (.string B)/\∃m,w'=W.drewN m:=fun W=>by rw[hB];exact aAy s y W hn (by omega)
     have QA:=hid qa;have QB:=hid qb;have b8:A.toList=rot s k:=by rw[WU,R];rfl
     have b9:B.toList=rot s y:=by rw[WU,hB];rfl
     have c0:sF A.toList B.toList=true↔ltm (cQ s) s.size k y:=by rw[b8,b9];exact aQh s c4 (by omega)
     have c2:=hid c0;have HC:=hid Z;clear qa qb b8 b9 c0 R hB hy d0 a8 h1 h2 h3 Z
     by_cases a6:sF A.toList B.toList=true
     ·go_wp2_with fail
      go_quiet (first|(go_at_call_of 140 (bQ .i64 (k:Int));refine WV (QA.out _))|(go_at_call_of 140 (bQ .i64 (y:Int));refine WV (QB.out _)))
      go_wp2_with fail;have a4:=c7.out
      go_roundg (j-1)
      ·
       refine⟨j-1,by omega,rfl,congrArg _ (by omega),hid (fun x F=>?_),kY D _⟩;rw[List.drop_eq_getElem_cons a5,List.mem_cons] at F;rcases F with rfl|F
       ·have e:L[j-1]=(y:Int):=by rw[<-HY.out];simp[jD,aN a5]
        rw[e];exact .inl (by simpa using c2.out.1 a6)
       ·rw[show j-1+1=j by omega] at F;exact HD.out x F
      ·omega
     ·have d2:sF A.toList B.toList=false:=by simpa using a6
      have M:=hid I.out.1;have c9:j<=cap:=by omega
      have HT:=hid (show ∀x∈L.take j,bef (cQ s) s.size x (k:Int) from aQi (y:=(y:Int)) I.out.2.2 Y (by simp[<-HY.out,jD,aN a5]) (by
       rcases zA (cQ s) y k s.size with p|p|p
       ·exact .inl (by simpa using p)
       ·exact .inr ⟨by simpa using p,by omega⟩
       ·exact absurd (c2.out.2 p) a6))
      go_wp2_with fail
      go_quiet (first|(go_at_call_of 140 (bQ .i64 (k:Int));refine WV (QA.out _))|(go_at_call_of 140 (bQ .i64 (y:Int));refine WV (QB.out _)))
      clear a6 d2 c1 s1 s2 s3 s4 s6 d1;go_wp2_with fail;obtain⟨wq,d7⟩:∃wq:World,wq=wr:=⟨_,rfl⟩
      by_cases b2:cap=j
      ·obtain rfl:cap=j:=b2;obtain rfl:k=cap:=by omega
       go_region_held3 (fun w'=>Below d.heap.size d w'/\d.heap.size<=w'.heap.size)
        (first
         |with_reducible assumption
         |with_reducible exact zE (by assumption) _
         |with_reducible exact BR (by assumption) (by assumption)
         |with_reducible exact JY D D.size _
         |with_reducible exact JZ D D.size _ _)
        (first
         |(refine uK rfl _ _ rfl d.heap.size (.slice none 0 0) [] rfl (OwI.nil _ _) ⟨b,off,none⟩ k k (L.take k) rfl ?_ ?_ ?_ ?_ ?_;(rw[aQ,M.out];omega);(exact(EG V HC.out (by assumption) k).1);(simp only[aV];omega);(exact(show Below d.heap.size d _/\d.heap.size<=_ by assumption).2);intro v1 w1 b3 b4 b5)
         |(refine uK rfl _ _ rfl d.heap.size _ ([]++L.take k) rfl (by first|assumption|exact OwI.alloc (by assumption) _) ⟨_,0,none⟩ 1 1 [(k:Int)] rfl rfl ?_ ?_ ?_ ?_;(first|exact xL (bX _ _ _)|exact xL (KA (by assumption) (by exact bX _ _ _)));(simp only[aL,aV,aQ];omega);(exact(show Below d.heap.size d _/\d.heap.size<=_ by assumption).2);intro v2 w2 a3 a7 a4)
         |(refine uK rfl _ _ rfl d.heap.size _ (([]++L.take k)++[(k:Int)]) rfl (by assumption) ⟨b,off,none⟩ 0 0 (L.drop k) rfl ?_ ?_ ?_ ?_ ?_;(rw[bA,M.out];omega);(intro j y hy;rw[sB (by rw[M.out];exact aD _)] at hy;simp at hy);(simp only[aL,aV,aQ,aU];omega);(exact(show Below d.heap.size d _/\d.heap.size<=_ by assumption).2);intro v3 O a1 b6 b7))
       all_goals go_wp2_with fail
       all_goals
        have J:=HG.out
        go_roundg (s.size-(k+1))
        ·
         obtain⟨q1,q2,q3⟩:=I.out;have U:Below d.heap.size d _/\d.heap.size<=_:=(show Below d.heap.size d O/\d.heap.size<=O.heap.size by assumption);refine⟨k+1,qF L k k,by omega,rfl,by go_num,?_,hid ⟨by rw[QL,q1],QN q2,QM q3 HT.out HD.out⟩,fun e=>by omega,G.trans (U.1.mono G.size)⟩;have e:([]++L.take k++[(k:Int)])++L.drop k=qF L k k:=by simp[qF]
         rw[<-e];exact Ow.base a1 G.size
        ·omega
      ·go_region_held3 (fun w'=>Below d.heap.size d w'/\d.heap.size<=w'.heap.size)
        (first
         |with_reducible assumption
         |with_reducible exact zE (by assumption) _
         |with_reducible exact BR (by assumption) (by assumption)
         |with_reducible exact JY D D.size _
         |with_reducible exact JZ D D.size _ _)
        (first
         |(refine uK rfl _ _ rfl d.heap.size (.slice none 0 0) [] rfl (OwI.nil _ _) ⟨b,off,none⟩ j cap (L.take j) rfl ?_ ?_ ?_ ?_ ?_;(rw[aQ,M.out];omega);(exact(EG V HC.out (by assumption) j).1);(simp only[aV];omega);(exact(show Below d.heap.size d _/\d.heap.size<=_ by assumption).2);intro v1 w1 b3 b4 b5)
         |(refine uK rfl _ _ rfl d.heap.size _ ([]++L.take j) rfl (by first|assumption|exact OwI.alloc (by assumption) _) ⟨_,0,none⟩ 1 1 [(k:Int)] rfl rfl ?_ ?_ ?_ ?_;(first|exact xL (bX _ _ _)|exact xL (KA (by assumption) (by exact bX _ _ _)));(simp only[aL,aV,aQ];omega);(exact(show Below d.heap.size d _/\d.heap.size<=_ by assumption).2);intro v2 w2 a3 a7 a4)
         |(refine uK rfl _ _ rfl d.heap.size _ (([]++L.take j)++[(k:Int)]) rfl (by assumption) ⟨b,off+j,none⟩ (k-j) (cap-j) (L.drop j) rfl ?_ ?_ ?_ ?_ ?_;(rw[bA,M.out]);(exact(EG V HC.out (by assumption) j).2);(simp only[aL,aV,aQ,aU];omega);(exact(show Below d.heap.size d _/\d.heap.size<=_ by assumption).2);intro v3 O a1 b6 b7))
       all_goals go_wp2_with fail
       all_goals
        have J:=HG.out
        go_roundg (s.size-(k+1))
        ·
         obtain⟨q1,q2,q3⟩:=I.out;have U:Below d.heap.size d _/\d.heap.size<=_:=(show Below d.heap.size d O/\d.heap.size<=O.heap.size by assumption);refine⟨k+1,qF L j k,by omega,rfl,by go_num,?_,hid ⟨by rw[QL,q1],QN q2,QM q3 HT.out HD.out⟩,fun e=>by omega,G.trans (U.1.mono G.size)⟩;have e:([]++L.take j++[(k:Int)])++L.drop j=qF L j k:=by simp[qF]
         rw[<-e];exact Ow.base a1 G.size
        ·omega
  ·have d3:k=s.size:=by omega
   subst d3;go_wp2_with fail;go_ret;obtain⟨h1,h2,h3⟩:=I.out;refine⟨_,_,rfl,aQj h1 h2 h3,?_,G⟩;have e:=aAp L;rw[h1] at e;rw[e];exact a2
theorem aQl (w:World):
  Calls pG 67 #[.string dN] w fun e w'=>e=.returned (.tuple #[.agg #[.string dN,.int .i64 0,.slice none 0 0],.int .i64 1])/\Below w.heap.size w w':=by
 unfold dN;have d:=Arr.new w 140 [.string {data:=#[]},.int .i64 0,.slice none 0 0];have A:=d.cell (i:=0) rfl;have D:=d.cell (i:=1) rfl;have F:=d.cell (i:=2) rfl;have G:=d.free;go_enter func67,ntmps67;go_wp2_with fail;exact fM (EB rfl _ _ w.heap.size _ _ (0,0) _ rfl d underlying140 rfl JX) rfl ⟨rfl,(aH _ _).alloc (aD _) _⟩
theorem aQm (s:ByteArray) (w:World) (h0:0<s.size) (hs:s.size<=65536):
  Calls pG 67 #[.string s] w fun e w'=>∃o v,Ord (cQ s) s.size s.size o/\e=.returned (.tuple #[.agg #[.string (mkS (bY s.data.toList)),.int .i64 ((gX o s.size:Nat):Int),v],.int .i64 0])/\OwI w' w.heap.size v (rN s o)/\Below w.heap.size w w':=by
 have t0:=xK h0;have t1:decide ((65536:Int)<(s.size:Int))=false:=aE (by omega);have t2:decide (65536<s.size)=false:=aE (by omega);go_enter func67,ntmps67;go_wp2_with fail;refine(PX s _ (by omega)).mono ?_;rintro e w1 ⟨rfl,Z⟩;have b2:=Z.size;simp only[fP] at b2;obtain⟨A,d⟩:=ex1 (mkS (bY s.data.toList));rw[<-d];have b3:=hid d;clear d;go_wp2_with fail;refine(aQa s _ (by omega) (fun w=>aQk s w (by omega))).mono ?_;rintro e w2 ⟨o,hO,rfl,a0⟩;have c8:=a0.size;obtain⟨n,I⟩:=ex1 (gX o s.size);have b4:=aAr o s.size
 rw[<-I] at b4 ⊢;have HN:=hid I;clear I;obtain⟨L,F⟩:=ex1 (mkS (eM s o s.size));have d:=b3.out;have J:L.data.toList=eM s o s.size:=by rw[F];rfl
 have G:A.data.toList=bY s.data.toList:=by rw[d];rfl
 have a1:L.size=s.size:=by rw[F,cS,xJ]
 have c9:A.size<=256:=by rw[d,cS];exact vX _
 have a2:A.data.toList.Nodup:=by rw[G];exact JE _
 have O:∀b∈L.data.toList,b∈A.data.toList:=fun b hb=>by
  rw[G,DS];rw[J] at hb;exact(QK s hO).mem_iff.1 hb
 have b5:(dL A.data.toList L.data.toList).length=s.size:=by rw[vQ];simp[a1]
 have R:∀x∈dL A.data.toList L.data.toList,0<=x/\x<=1000000:=fun x hx=>by
  have:=BH L.data.toList A.data.toList O x hx;have hl:=mV A;omega
 have a3:rN s o=dM 0 (dL A.data.toList L.data.toList)++[(A.size:Int)+1]:=by
  unfold rN;rw[<-G,<-J];simp
 have a4:=hid a3;have HA:=hid d;rw[<-F];have a5:∀W,Calls pG 107 #[.string A,.string L] W fun e w'=>∃v,e=.returned (.tuple #[v,.int .i64 0])/\OwI w' W.heap.size v (dL A.data.toList L.data.toList)/\Below W.heap.size W w':=fun W=>aAw A L W (by omega) (by omega) a2 O
 have a7:=hid a5;obtain⟨M,hM⟩:=ex1 (dL A.data.toList L.data.toList);rw[<-hM] at b5 R a4 a7;have b6:=hid R;clear a5 a2 O F d J G a1 hM R a3;go_wp2_with fail;refine(a7.out w2).mono ?_;rintro e U ⟨v3,rfl,b7,a8⟩;have d0:=a8.size;go_wp2_with fail;refine(aP8 v3 M U b7.rd (by omega) (by omega) b6.out).mono ?_;rintro e V ⟨v4,rfl,b8,a9⟩;have d1:=a9.size;have b9:=Arr.new w 140 [.string {data:=#[]},.int .i64 0,.slice none 0 0];have c0:=hid (PM M 0);have e1:aJ.wrap ((A.size:Int)+1)=(A.size:Int)+1:=by rw[aM];omega
 have c1:w.heap.size+1<=V.heap.size:=by omega
 have c2:w.heap.size+1<=U.heap.size:=by omega
 have c3:Below (w.heap.size+1) (w.alloc (.cells #[.string {data:=#[]},.int .i64 0,.slice none 0 0] 140)) V:=(((Z.mono (by simp)).trans (a0.mono (by omega))).trans (a8.mono (by omega))).trans (a9.mono (by omega))
 go_wp2_with (at_builtin;(refine gK rfl _ _ rfl U.heap.size _ _ rfl (b8.alloc _) V.heap.size ((A.size:Int)+1) rfl ?_ ?_ ?_ ?_;(exact bX _ _ _);(have:=c0.out.1;omega);(simp;omega);intro v6 w6 Y b0 _;obtain⟨a6,c6,e6,_,_,_⟩:=Y.rd.open;subst e6;have c4:=b0.size;simp only[fP] at c4;have b1:=(c3.alloc c1 _).trans (b0.mono c2);have D:=b9.below b1 (by omega);have p1:=D.cell (i:=0) rfl;have p2:=D.cell (i:=1) rfl;have p3:=D.cell (i:=2) rfl;have p4:=D.free));rw[show(dM 0 M++[(A.size:Int)+1]).length=(dM 0 M).length+1 by simp] at Y
 generalize hv:mM a6 ((dM 0 M).length+1) c6=v6 at*
 have hF:Arr (((w6.setCell ⟨w.heap.size,0,none⟩ (.string A)).setCell ⟨w.heap.size,1,none⟩ (.int .i64 (n:Int))).setCell ⟨w.heap.size,2,none⟩ v6) w.heap.size 140 [.string A,.int .i64 (n:Int),v6]:=((D.set 0 _).set 1 _).set 2 _;have c5:=Y.kept (qS (qS (qS (EA _ (some w.heap.size)) 0 (.string A)) 1 (.int .i64 (n:Int))) 2 v6) (fun b e=>by simp at e;omega)
 have c7:=(((((aH w.heap.size w).alloc (aD _) _).trans (b1.mono (by omega))).setCell (p:=⟨w.heap.size,0,none⟩) (aD _) (.string A)).setCell (p:=⟨w.heap.size,1,none⟩) (aD _) (.int .i64 (n:Int))).setCell (p:=⟨w.heap.size,2,none⟩) (aD _) v6;refine fM (EB rfl _ _ w.heap.size _ _ (0,0) _ rfl hF underlying140 rfl JX) rfl ⟨o,v6,hO,?_,?_,c7⟩
 ·rw[<-HA.out,<-HN.out];rfl
 ·rw[a4.out];exact c5.base (by omega)
theorem aA3 (a:ByteArray) (o:Int) (y:Value) (D:y.oneCell'=true) (w:World) (F:a.size<=140737488355328):
  Calls pG 175 #[.agg #[.string a,.int .i64 o,y]] w fun e w'=>e=.returned (.int .i64 ((a.size:Int)+2))/\Below w.heap.size w w':=by
 have I:aJ.wrap ((a.size:Int)+1+1)=(a.size:Int)+2:=by rw[aM];omega
 have d:=Arr.new w 140 [.string a,.int .i64 o,y];have J:=d.cell (i:=0) rfl;have L:=d.cell (i:=1) rfl;have M:=d.cell (i:=2) rfl;have A:=(aH w.heap.size w).alloc (aD _) (.cells #[.string a,.int .i64 o,y] 140);go_enter func175,ntmps175;go_wp2_with fail;refine(BQ a o y D _ F).mono ?_;rintro e O ⟨rfl,G⟩;go_wp2_with fail;go_ret;exact⟨rfl,A.trans (G.mono A.size)⟩
theorem aQn (a:ByteArray) (o:Int) (y:Value) (_hy:y.oneCell'=true) (w:World) (d:a.size<=140737488355328):
  Calls pG 69 #[.agg #[.string a,.int .i64 o,y]] w fun e w'=>e=.returned (.int .i64 ((a.size:Int)+2))/\Below w.heap.size w w':=by
 have A:aJ.wrap ((a.size:Int)+2)=(a.size:Int)+2:=by rw[aM];omega
 go_enter func69,ntmps69;go_wp2_with fail;go_ret;exact⟨rfl,(aH _ _).alloc (aD _) _⟩
theorem aA4 {a b:ByteArray} (h:a≠b):(a.toList==b.toList)=false:=by
 rw[pY,pY,<-Bool.not_eq_true,beq_iff_eq]
 grind [qB]
def jU (l:List Int) (e:Int):Prop:=0<l.length/\l[l.length-1]? =some e/\∀x∈l.take (l.length-1),0<=x/\x<e
instance (l:List Int) (e:Int):Decidable (jU l e):=inferInstanceAs (Decidable (0<l.length/\l[l.length-1]? =some e/\∀x∈l.take (l.length-1),0<=x/\x<e))
def dD (l:List Int):List Int:=dT (l.take (l.length-1))
def rest (a:ByteArray) (o:Int) (l:List Int) (most:Int):ByteArray×Int:=
 if ¬(a.data.toList≠[]/\bY a.data.toList=a.data.toList) then(dN,1)
 else if ¬jU l ((a.size:Int)+1) then(dN,3)
 else if ¬((dD l).length:Int)<=most then(dN,4)
 else if ¬(0<=o/\o<((dD l).length:Int)) then(dN,3)
 else(mkS (qR (unL a.data.toList (dD l)) o.toNat),0)
theorem KB {a:ByteArray} {o:Int} {l:List Int} {most:Int} (h:¬(a.data.toList≠[]/\bY a.data.toList=a.data.toList)):rest a o l most=(dN,1):=aB h
theorem QQ {a:ByteArray} {o:Int} {l:List Int} {most:Int} (h:a.data.toList≠[]/\bY a.data.toList=a.data.toList) (d:¬jU l ((a.size:Int)+1)):rest a o l most=(dN,3):=by grind [rest,bY,jU,dN]
theorem KC {a:ByteArray} {o:Int} {l:List Int} {most:Int} (h:a.data.toList≠[]/\bY a.data.toList=a.data.toList) (d:jU l ((a.size:Int)+1)) (e:¬((dD l).length:Int)<=most):rest a o l most=(dN,4):=by grind [rest,bY,jU,dD,dN]
theorem KD {a:ByteArray} {o:Int} {l:List Int} {most:Int} (h:a.data.toList≠[]/\bY a.data.toList=a.data.toList) (d:jU l ((a.size:Int)+1)) (e:((dD l).length:Int)<=most) (A:¬(0<=o/\o<((dD l).length:Int))):rest a o l most=(dN,3):=by grind [rest,bY,jU,dD,dN]
theorem KE {a:ByteArray} {o:Int} {l:List Int} {most:Int} (h:a.data.toList≠[]/\bY a.data.toList=a.data.toList) (d:jU l ((a.size:Int)+1)) (e:((dD l).length:Int)<=most) (A:0<=o/\o<((dD l).length:Int)):rest a o l most=(mkS (qR (unL a.data.toList (dD l)) o.toNat),0):=by grind [rest,bY,jU,dD,mkS,qR,unL]
theorem aQv:∀(m:List Int) (n p:Nat),∀y∈zx n p m,y=0\/∃x∈m,2<=x/\y=x-1:=by
 intro m
 induction m with
 |nil=>intro n p y d;exact .inl (List.eq_of_mem_replicate d)
 |cons x m e=>
  intro n p y d;unfold zx at d
  by_cases h:x<2
  ·grind
  ·grind
theorem QS {l:List Int} {n:Nat} (h:jU l ((n:Int)+1)) (e:0<n):∀y∈dD l,0<=y/\y<(n:Int):=fun y d=>by
 rcases aQv _ _ _ y d with q|⟨x,A,D,q⟩
 ·omega
 grind [jU,dD]
theorem aA7 {w:World} {d:Option Addr} {n A:Nat} {l:List Int} (h:RdI w (.slice d n A) l) (D:0<l.length):∃b off,d=some ⟨b,off,none⟩/\b<w.heap.size/\∀j x,l[j]? =some x->w.cell? ⟨b,off+j,none⟩=some (.int .i64 x):=by
 obtain⟨a,c,e,_,_,F⟩:=h.open
 grind
theorem KF {w:World} {b off d:Nat} {l:List Int} (A:b<w.heap.size) (F:∀j x,l[j]? =some x->w.cell? ⟨b,off+j,none⟩=some (.int .i64 x)) (k:Nat) (G:k<=l.length) (I:l.length<=d) (D:d<=maxLen):RdI w (.slice (some ⟨b,off,none⟩) k d) (l.take k):=by
 have e:(l.take k).length=k:=by grind
 refine⟨_,_,by rw[e],by rw[e];omega,D,.inr ⟨b,off,rfl,A,fun j J=>?_⟩⟩
 grind
theorem EI {s:ByteArray} (h:s.data.toList=[]):s.toList.isEmpty=true:=by
 rw[pY,h];rfl
theorem xM {s:ByteArray} (h:s.data.toList≠[]):s.toList.isEmpty=false:=by
 rw[pY]
 grind
theorem aA8 {W w w':World} {d:Nat} {x:Value} (h:w.cell? ⟨d,0,none⟩=some x/\Below W.heap.size W w) (A:d<W.heap.size) (e:Below w.heap.size w w'):w'.cell? ⟨d,0,none⟩=some x/\Below W.heap.size W w':=
 ⟨by rw[e.cell (p:=⟨d,0,none⟩) (Nat.lt_of_lt_of_le A h.2.size)];exact h.1,h.2.trans (e.mono h.2.size)⟩
theorem aA9 {w:World} {d:Nat} {x:Value} (h:w.cell? ⟨d,0,none⟩=some x):w.drew.cell? ⟨d,0,none⟩=some x/\Below w.heap.size w w.drew:=⟨h,(aH _ _).drew⟩
theorem aQx (d:Nat) (a:ByteArray) (o most:Int) (v U:Value) (b:ByteArray) (w:World) (L:a.size<=140737488355328) (M:Arr w d 315 [.string a,.int .i64 o,v,.int .i64 most,U,.string b]):
  Calls pG 201 #[.pointer (some ⟨d,0,none⟩)] w fun e w'=>e=.returned (.int .i64 (if a.data.toList≠[]/\bY a.data.toList=a.data.toList then 0 else 1))/\Below w.heap.size w w':=by
 have O:=M.cell (i:=0) rfl;have R:=M.lt
 by_cases F:a.data.toList=[]
 ·have V:=EI F;rw[aA (fun h=>h.1 F)];go_enter func201,ntmps201;go_wp2_with fail
  go_quiet (fail)
  go_wp2_with fail;go_ret;exact⟨rfl,kY (aH _ _) _⟩
 have V:=xM F
 by_cases A:bY a.data.toList=a.data.toList
 ·rw[aB ⟨F,A⟩];have Y:(a.toList==a.toList)=true:=by simp
  have Z:=hid A;clear A;go_enter func201,ntmps201;go_upto_region 1 with fail
  go_cut [22] (fun G I=>G=.bool false/\Below w.heap.size w I)
  case first=>
   go_region_held3 (fun w'=>w'.cell? ⟨d,0,none⟩=some (.string a)/\Below w.heap.size w w')
    (first
     |with_reducible assumption
     |with_reducible exact aA9 O
     |with_reducible exact aA8 (by assumption) R (by assumption))
    (first
     |(go_at_call 229;refine(PV a _ L).mono ?_;rintro e D ⟨rfl,hb⟩;rw[Z.out,qB]))
   all_goals go_wp2_with fail
   all_goals go_meet
   all_goals exact⟨rfl,And.right (show D.cell? ⟨d,0,none⟩=some (.string a)/\Below w.heap.size w D by assumption)⟩
  case rest=>
   obtain⟨rfl,J⟩:=hcut;go_wp2_with fail;go_ret;exact⟨rfl,J⟩
 ·rw[aA (fun h=>A h.2)];have Y:((mkS (bY a.data.toList)).toList==a.toList)=false:=aA4 (fun e=>A (by have:=congrArg (fun s=>s.data.toList) e;simpa using this));go_enter func201,ntmps201;go_upto_region 1 with fail
  go_cut [22] (fun G I=>G=.bool true/\Below w.heap.size w I)
  case first=>
   go_region_held3 (fun w'=>w'.cell? ⟨d,0,none⟩=some (.string a)/\Below w.heap.size w w')
    (first
     |with_reducible assumption
     |with_reducible exact aA9 O
     |with_reducible exact aA8 (by assumption) R (by assumption))
    (first
     |(go_at_call 229;refine(PV a _ L).mono ?_;rintro e D ⟨rfl,hb⟩))
   all_goals go_wp2_with fail
   all_goals go_meet
   all_goals exact⟨rfl,And.right (show D.cell? ⟨d,0,none⟩=some (.string a)/\Below w.heap.size w D by assumption)⟩
  case rest=>
   obtain⟨rfl,J⟩:=hcut;go_wp2_with fail;go_ret;exact⟨rfl,J⟩
end
end Go.Proofs.YtfckbfofgeilgaaGreatDoor
