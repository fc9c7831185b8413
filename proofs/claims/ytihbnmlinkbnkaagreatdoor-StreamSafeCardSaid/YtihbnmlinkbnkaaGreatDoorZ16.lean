/-
  Texts put together (part 16): the walks and the plain laws on which the statement stands.
-/
import Derived.Test.YtihbnmlinkbnkaaGreatDoorZ10
import Derived.Test.YtihbnmlinkbnkaaGreatDoorZ11
set_option maxRecDepth 100000
set_option maxHeartbeats 12800000
set_option linter.unusedVariables false
set_option linter.unusedSimpArgs false
open Go.Proofs.Tryz
open Go.Proofs.Tryz renaming prog->pG
open Bool renaming or_false->OZ
open Classical renaming byContradiction->aLh
open Go renaming Program->fO,bodyPost_ret->fM,results_cell_row->DJ,wp_load_row->ID
open Go.IntKind renaming i64->aJ,u64->eZ,wrap_i64->aM,wrap_u64->fC
open Go.RowKit.Below renaming refl->aH
open Go.World.ownsRow renaming alloc->WK,kept->yJ,lt->aK9
open Int renaming toNat_natCast->fL
open List renaming append_assoc->bU,append_nil->dI,ext_getElem?->lH,length_append->aL,mem_cons_of_mem->iQ,mem_cons_self->jK,mem_map->eK,mem_range->qM,range->eT
open List.Pairwise renaming imp_of_mem->aLc
open Nat renaming add_assoc->fU,add_mul_mod_self_left->bGi,add_zero->pV,le_refl->aD,lt_or_ge->cF,mod_add_div->WO,mod_add_mod->IB,mod_eq_of_lt->jT,mod_lt->kU,pow_le_pow_right->nF,zero_add->iP
open UInt8 renaming ofNat->eA
namespace Go.Proofs.YtihbnmlinkbnkaaGreatDoor
section
theorem aPw {n x:Nat} (d:0<n):(x+(n-1))%n<n:=kU _ d
theorem aPx {n x y:Nat} (A:x<n) (F:y<n) (h:(x+(n-1))%n=(y+(n-1))%n):x=y:=by
 have e:∀z,z<n->(z+(n-1))%n=if z=0 then n-1 else z-1:=by
  intro z G
  by_cases d:z=0
  ·rw[aB d,d,iP];exact jT (by omega)
  ·rw[aA d,show z+(n-1)=(z-1)+n by omega,Nat.add_mod_right];exact jT (by omega)
 grind
theorem aPy {n y:Nat} (d:y<n):((y+1)%n+(n-1))%n=y:=by
 rw[IB,show y+1+(n-1)=y+n by omega,Nat.add_mod_right];exact jT d
theorem aPz {c:Nat->Nat} {n m:Nat} {o:Nat->Int} (h:Ord c n m o):((eT n).map (fun i=>((o i).toNat+(n-1))%n)).Perm (eT n):=by
 rw[List.perm_ext_iff_of_nodup ?_ List.nodup_range]
 ·intro y;rw[eK,qM];constructor
  ·rintro⟨i,hi,rfl⟩;exact aPw (by grind)
  ·intro H;obtain⟨k,I,e⟩:=h.onto (y:=(y+1)%n) (kU _ (by omega))
   grind [aPy]
 ·unfold List.Nodup;rw[List.pairwise_map];refine aLc ?_ List.pairwise_lt_range;intro a b F G J e;have d:=qM.1 F;have A:=qM.1 G;have L:=h.rng a d;have M:=h.rng b A;have:=aPx (by omega) (by omega) e;exact h.ne d A (by omega) (by omega)
theorem aP0 (l:List UInt8):(eT l.length).map (fun i=>l.getD i 0)=l:=by
 apply lH
 grind
theorem QK (s:ByteArray) {c:Nat->Nat} {m:Nat} {o:Nat->Int} (h:Ord c s.size m o):(eM s o s.size).Perm s.data.toList:=by
 have d:=(aPz h).map (fun i=>s.data.toList.getD i 0);rw[List.map_map] at d;have A:=aP0 s.data.toList;rw[show s.data.toList.length=s.size by simp] at A;rw[A] at d;exact d
theorem aP1 (o:Nat->Int):∀k,(∃j,j<k/\o j=0)->gX o k<k/\o (gX o k)=0:=by
 intro k
 induction k with
 |zero=>rintro⟨j,d,_⟩;omega
 |succ k A=>
  rintro⟨j,d,e⟩;unfold gX
  by_cases h:o k=0
  ·grind
  ·grind
theorem aP2 {c:Nat->Nat} {n m:Nat} {o:Nat->Int} (h:Ord c n m o) (d:0<n):gX o n<n/\o (gX o n)=0:=
 aP1 o n (by obtain⟨k,A,e⟩:=h.onto (y:=0) d;exact⟨k,A,by simpa using e⟩)
theorem aBg {N:Nat} {lt:Nat->Nat->Prop} (J:∀x,¬lt x x) (A:∀x y z,lt x z->lt x y\/lt y z) {a b:Nat->Nat}
  (L:∀i j,i<N->j<N->a i=a j->i=j) (F:∀i,i<N->∃j,j<N/\b j=a i)
  (M:∀i j,i<j->j<N->¬lt (a j) (a i)) (O:∀i j,i<j->j<N->¬lt (b j) (b i)):∀i,i<N->¬lt (a i) (b i):=by
 intro i hi h;have G:∀k,k<=i->∃j,j<i/\b j=a k:=by
  intro k d;obtain⟨j,U,e⟩:=F k (by omega);refine⟨j,?_,e⟩;have H:lt (a k) (b i):=by
   rcases A (a i) (a k) (b i) h with p|p
   ·grind
   ·exact p
  grind
 obtain⟨f,I⟩:∃f:Nat->Nat,∀k,k<=i->f k<i/\b (f k)=a k:=by
  refine⟨fun k=>if h:k<=i then Classical.choose (G k h) else 0,fun k d=>?_⟩
  grind
 obtain⟨x,y,H,V,Z⟩:=php i f (fun k d=>(I k d).1)
 grind
theorem aBh {c:Nat->Nat} {m:Nat} (x y z:Nat) (h:ltm c m x z):ltm c m x y\/ltm c m y z:=by
 rcases zA c x y m with p|p|p
 ·exact .inl p
 ·exact .inr (p.symm.ltm h)
 grind [ltm]
theorem aSa {c:Nat->Nat} {m N:Nat} {a b:Nat->Nat} (F:∀i j,i<N->j<N->a i=a j->i=j) (G:∀i j,i<N->j<N->b i=b j->i=j)
  (H:∀i,i<N->∃j,j<N/\a j=b i) (I:∀i,i<N->∃j,j<N/\b j=a i)
  (d:∀i j,i<j->j<N->¬ltm c m (a j) (a i)) (A:∀i j,i<j->j<N->¬ltm c m (b j) (b i)):∀i,i<N->eqm c m (a i) (b i):=by
 intro i hi;have J:=aBg (lt:=ltm c m) (fun _=>ltm.irrefl) aBh F I d A i hi;have L:=aBg (lt:=ltm c m) (fun _=>ltm.irrefl) aBh G H A d i hi
 grind [zA,ltm,eqm]
theorem Ord.weak {c:Nat->Nat} {n m:Nat} {o:Nat->Int} (h:Ord c n m o) {i j:Nat} (d:i<j) (A:j<n):¬ltm c m (o j).toNat (o i).toNat:=by
 intro k;rcases h.srt i j (Nat.zero_le _) d A with p|⟨p,_⟩
 ·grind [ltm]
 ·exact k.not_eqm p.symm
theorem Ord.nat {c:Nat->Nat} {n m:Nat} {o:Nat->Int} (h:Ord c n m o) {i:Nat} (hi:i<n):o i=(((o i).toNat:Nat):Int)/\(o i).toNat<n:=by
 have:=h.rng i hi;omega
theorem Ord.inj {c:Nat->Nat} {n m:Nat} {o:Nat->Int} (h:Ord c n m o) {i j:Nat} (hi:i<n) (d:j<n) (e:(o i).toNat=(o j).toNat):i=j:=by
 apply aLh;intro A;have F:=(h.nat hi).1;have G:=(h.nat d).1;exact h.ne hi d A (by rw[F,G,e])
theorem aSb {n k x y:Nat} (F:x<n) (G:y<n) (h:(x+k)%n=(y+k)%n):x=y:=by
 have e:∀z,z<n->((z+k)%n+(n-k%n))%n=z:=by
  intro z d;have H:=kU k (show 0<n by omega);rw[IB,<-IB];have A:z+k+(n-k%n)=z+n*(k/n+1):=by
   have:=WO k n
   grind
  rw[IB,A,bGi,jT d]
 grind
theorem aSc {n k y:Nat} (d:y<n):∃x,x<n/\(x+k)%n=y:=by
 refine⟨(y+(n-k%n))%n,kU _ (by omega),?_⟩;have F:=kU k (show 0<n by omega);have A:y+(n-k%n)+k=y+n*(k/n+1):=by
  have:=WO k n
  grind
 rw[IB,A,bGi,jT d]
theorem aSd (s:ByteArray) (o:Nat->Int) (n:Nat) {i:Nat} (hi:i<n):∃b,(eM s o n)[i]? =some b/\b.toNat=cQ s ((o i).toNat+(s.size-1)):=by
 refine⟨s.data.toList.getD (((o i).toNat+(s.size-1))%s.size) 0,?_,rfl⟩
 grind [eM,cQ]
theorem aSe {x y:List UInt8} (d:x.length=y.length) (h:∀i,i<x.length->∃a b,x[i]? =some a/\y[i]? =some b/\a.toNat=b.toNat):x=y:=by
 apply lH
 grind [UInt8.toNat_inj,List.getElem?_eq_none]
theorem aUm (s:List UInt8):∀j,j<s.length->∀i,i<j->(s.getD (nxt s i) 0).toNat<(s.getD (nxt s j) 0).toNat\/((s.getD (nxt s i) 0).toNat=(s.getD (nxt s j) 0).toNat/\nxt s i<nxt s j):=by
 intro j
 induction j with
 |zero=>intro _ i hi;omega
 |succ j A=>
  intro F i hi;obtain⟨G,d⟩:=aNu s j F;rcases cF i j with p|p
  ·rcases A (by omega) i p with q|⟨q,H⟩
   ·exact .inl (by omega)
   ·rcases cF (s.getD (nxt s j) 0).toNat (s.getD (nxt s (j+1)) 0).toNat with t|t
    ·exact .inl (by omega)
    ·have:=d (by omega);exact .inr ⟨by omega,by omega⟩
  ·have:i=j:=by omega
   subst this;rcases cF (s.getD (nxt s i) 0).toNat (s.getD (nxt s (i+1)) 0).toNat with t|t
   ·exact .inl t
   ·exact .inr ⟨by omega,d (by omega)⟩
theorem aC7 {c:Nat->Nat} {n:Nat} (d:Cyc c n) (A:0<n) {x y:Nat} (h:eqm c n x y) (t:Nat):c (x+t)=c (y+t):=
 (d.all A (m:=n+t+1) (by omega)).1.2 h t (by omega)
theorem aC8 {c:Nat->Nat} {n:Nat} (d:Cyc c n) (A:0<n) {x y:Nat} (h:eqm c n x y) (k:Nat):eqm c n (x+k) (y+k):=fun t _=>by
 rw[fU,fU];exact aC7 d A h _
theorem SE {c:Nat->Nat} {n:Nat} (d:Cyc c n) (x:Nat):eqm c n (x+n) x:=fun t _=>by
 rw[show x+n+t=x+t+n by omega,d]
section
variable {s:ByteArray} {o:Nat->Int}
theorem SF (_h:Ord (cQ s) s.size s.size o) {i:Nat} (hi:i<s.size):((eM s o s.size).getD i 0).toNat=cQ s ((o i).toNat+(s.size-1)):=by
 obtain⟨b,d,A⟩:=aSd s o s.size hi;rw[List.getD,d];exact A
theorem aUn (h:Ord (cQ s) s.size s.size o):∀i,i<s.size->eqm (cQ s) s.size ((o (nxt (eM s o s.size) i)).toNat+(s.size-1)) (o i).toNat:=by
 have F:=xI s;have V:=xJ s o s.size;have A:∀{i},i<s.size->nxt (eM s o s.size) i<s.size:=fun{i} hi=>by have:=JR (eM s o s.size) i (by omega);omega
 intro i hi;rw[<-F.eqm,jT (h.nat hi).2];refine aSa (a:=fun i=>((o (nxt (eM s o s.size) i)).toNat+(s.size-1))%s.size) (b:=fun i=>(o i).toNat) (N:=s.size) ?_ (fun i j hi d e=>h.inj hi d e) ?_ ?_ ?_ (fun i j G d=>h.weak G d) i hi
 ·intro i j hi d e;have H:=aSb (h.nat (A hi)).2 (h.nat (A d)).2 e;exact aNi _ i j (by omega) (by omega) (h.inj (A hi) (A d) H)
 ·intro i hi;obtain⟨x,J,e⟩:=aSc (k:=s.size-1) (h.nat hi).2;obtain⟨j,d,L⟩:=h.onto J;have Z:=ZD (eM s o s.size) j (by omega);refine⟨kX (eM s o s.size) j,by omega,?_⟩;rw[aNh _ j (by omega),L,fL,e]
 ·intro i hi;obtain⟨j,d,e⟩:=h.onto (y:=((o (nxt (eM s o s.size) i)).toNat+(s.size-1))%s.size) (kU _ (by omega));exact⟨j,d,by rw[e,fL]⟩
 ·intro i j G d;have M:0<s.size:=by omega
  have hi:i<s.size:=by omega
  have v:=aUm (eM s o s.size) j (by omega) i G;rw[SF h (A hi),SF h (A d)] at v;have bi:=h.nat (A hi);have bj:=h.nat (A d);rw[F.ltm,<-(F.all M (m:=1+s.size) (by omega)).2,ZJ];rintro(⟨t,t1,_,O⟩|⟨t,I⟩)
  ·have:t=0:=by omega
   subst this;simp only[pV] at O;omega
  ·have H:=t 0 (by omega);simp only[pV] at H;rcases v with v|⟨_,v⟩
   ·omega
   ·rw[show(o (nxt (eM s o s.size) j)).toNat+(s.size-1)+1=(o (nxt (eM s o s.size) j)).toNat+s.size by omega,
     show(o (nxt (eM s o s.size) i)).toNat+(s.size-1)+1=(o (nxt (eM s o s.size) i)).toNat+s.size by omega] at I
    have U:=((SE F _).symm.ltm I).eqm (SE F _);exact h.weak v (A d) U
theorem aUo (h:Ord (cQ s) s.size s.size o) {i:Nat} (hi:i<s.size):eqm (cQ s) s.size (o (nxt (eM s o s.size) i)).toNat ((o i).toNat+1):=by
 have d:=xI s;have A:0<s.size:=by omega
 have:=aC8 d A (aUn h i hi) 1;rw[show(o (nxt (eM s o s.size) i)).toNat+(s.size-1)+1=(o (nxt (eM s o s.size) i)).toNat+s.size by omega] at this;exact(SE d _).symm.trans this
theorem aUp (h:Ord (cQ s) s.size s.size o) {k:Nat} (G:k<s.size):∀j,eqm (cQ s) s.size (o (nI (eM s o s.size) j k)).toNat ((o k).toNat+j):=by
 have d:=xI s;have A:0<s.size:=by omega
 have H:=xJ s o s.size;intro j
 induction j with
 |zero=>exact eqm.refl _ _
 |succ j F=>
  have I:=xG (eM s o s.size) k (by omega) j;exact(aUo h (by omega)).trans (aC8 d A F 1)
theorem aUq (h:Ord (cQ s) s.size s.size o) {k:Nat} (d:k<s.size):qR (eM s o s.size) k=rot s (o k).toNat:=by
 have A:=xJ s o s.size;have F:=(h.nat d).2;have G:0<s.size:=by omega
 refine aSe (by rw[JS,EE _ _ (by omega),A]) (fun i hi=>?_);rw[JS,A] at hi;obtain⟨b,H,I⟩:=EF s F hi;refine⟨_,b,aNs _ _ _ (by omega),H,?_⟩;have J:=xG (eM s o s.size) k (by omega) (i+1);rw[SF h (by omega),I,aC7 (xI s) G (aUp h d (i+1)) (s.size-1),show(o k).toNat+(i+1)+(s.size-1)=(o k).toNat+i+s.size by omega,xI s]
end
end
section
open Go.RowKit Go Go.Shelf
def pQ (s:List UInt8) (k:Nat):List Bool:=(eT k).map (lP s)
theorem aGh (s:List UInt8) (k:Nat):pQ s (k+1)=pQ s k++[lP s k]:=by grind [pQ,List.range_succ,lP]
theorem FM (s:List UInt8) (k:Nat):(pQ s k).length=k:=by simp[pQ]
theorem TN (s:List UInt8) (k:Nat):iA s (k+1)=iA s k++if lP s k then iK s k else[]:=rfl
theorem aYw {s:List UInt8} (h:s≠[]):0<(iA s 16).length:=by
 have d:=aCr h;rw[Ne,EN,Bool.not_eq_false,List.any_eq_true] at d;obtain⟨b,A,G⟩:=d;unfold pO at A;obtain⟨k,F,rfl⟩:=eK.1 A;rw[qM] at F;obtain⟨m,H⟩:=aCq s (k+1) (by omega)
 grind [lP,TN,zJ,iA]
theorem aYx {w w':World} {B:Nat} {a v:Value} {l m:List Int} (h:OwI w B a l) (F:OwI w' w.heap.size v m):tV a v:=by
 cases d:a.ownBlock with
 |none=>exact .inl d
 |some k=>
  cases A:v.ownBlock with
  |none=>exact .inr (.inl A)
  |some j=>
   right;right
   rw[d,A];have G:=(Ow.lt h k d).2;have H:=(Ow.lt F j A).1;intro e
   injection e with e
   omega
theorem aGi (w:World) (x:Int):RdI (w.alloc (.cells #[.int .i64 x] 3)) (.slice (some ⟨w.heap.size,0,none⟩) 1 1) [x]:=uF w 3 [.int .i64 x] 1 rfl (by decide)
theorem aYy (s:ByteArray) (w:World) (hs:s.size<=1000000) (h0:s.data.toList≠[]):
  Calls pG 103 #[.string s] w fun e w'=>e=.returned (fT (iL s.data.toList))/\Below w.heap.size w w':=by
 have H0:=hid (aYw h0);have a2:=hid (fun k=>KP s.data.toList k);clear h0;go_enter func103,ntmps103;go_wp2_with fail;have a0:=Arr.new w 79 [.string ⟨#[]⟩,.int .i64 0];change Arr (w.alloc (.cells #[.string ⟨#[]⟩,.int .i64 0] 79)) _ _ _ at a0;have c1:(w.alloc (.cells #[.string ⟨#[]⟩,.int .i64 0] 79)).heap.size=w.heap.size+1:=by simp
 have a3:Below w.heap.size w (w.alloc (.cells #[.string ⟨#[]⟩,.int .i64 0] 79)):=bD (aH _ _) _;generalize w.alloc (.cells #[.string ⟨#[]⟩,.int .i64 0] 79)=w0 at*
 go_loopg [3,4,5,6,7] 16 (fun g s3 s4 s5 _s6 _s7 wr=>∃k:Nat,k<=16/\g=16-k/\s5=.int .i64 (k:Int)/\OwI wr (w.heap.size+1) s3 (bI (pQ s.data.toList k))/\OwI wr (w.heap.size+1) s4 (bI (iA s.data.toList k))/\tV s3 s4/\Below (w.heap.size+1) w0 wr)
 case atStart=>exact⟨0,by omega,rfl,rfl,OwI.nil _ _,OwI.nil _ _,.inl rfl,aH _ _⟩
 case round=>
  obtain⟨k,hk,L,rfl,G,M,O,H⟩:=hrel;have HG:=hid L;clear L;have c2:=H.size
  by_cases b2:k<16
  ·have t1:decide ((k:Int)<16)=true:=aG (by omega);have a4:=fun W=>aYv s k W (by omega) b2
   have U:(bI (pQ s.data.toList k)).length=k:=by rw[cX,FM]
   have b3:(bI (iA s.data.toList k)).length<=16*k:=by rw[cX];exact a2.out k
   have a5:(bI (iK s.data.toList k)).length=16:=by rw[cX,zJ]
   have HF:=hid (aGh s.data.toList k);have HR:=hid (TN s.data.toList k);obtain⟨T,hT⟩:∃T,T=lP s.data.toList k:=⟨_,rfl⟩;rw[<-hT] at a4 HF HR;clear hT;go_wp2_with fail;refine(a4 _).mono ?_;rintro e w1 ⟨v,rfl,a6,V⟩;have a7:=OwI.below G V (aD _);have Z:=OwI.below M V (aD _);have c3:=V.size;have a8:=H.trans (V.mono (by omega));have b4:=aYx G a6;clear G M
   cases T with
   |true=>
    go_wp2_with (first
     |(at_builtin;refine lR rfl _ _ rfl (w.heap.size+1) _ _ [1] rfl (OwI.alloc a7 _) _ rfl (aGi w1 1) (by decide) ?_ ?_ ?_;(rw[U];show(k+1)*8<=_;omega);(simp;omega);intro v3 w3 A d F I;(have b5:=Ow.kept (OwI.alloc Z (.cells #[.int .i64 1] 3)) F O.keeps);(have b6:=(Ow.kept (OwI.alloc a6 (.cells #[.int .i64 1] 3)) F b4.keeps));(have a9:=O.left (OwI.alloc Z (.cells #[.int .i64 1] 3)) I);(have b7:=d.size))
     |(at_builtin;refine lR rfl _ _ rfl (w.heap.size+1) _ _ (bI (iK s.data.toList k)) rfl b5 v rfl (OwI.rd b6) ?_ ?_ ?_ ?_;(rw[a5];decide);(rw[a5];omega);(simp at b7;omega);intro v4 w4 r1 r2 r3 r4))
    have L:=HG.out
    go_roundg (16-(k+1))
    case measure=>omega
    case rel=>exact⟨k+1,by omega,rfl,by go_num,by rw[HF.out,iT];exact Ow.kept A r3 a9.symm.keeps,by rw[HR.out,aB trivial,iT];exact r1,(a9.symm.left A r4).symm,((a8.alloc (by omega) _).trans d).trans r2⟩
   |false=>
    go_wp2_with (at_builtin;refine lR rfl _ _ rfl (w.heap.size+1) _ _ [0] rfl (OwI.alloc a7 _) _ rfl (aGi w1 0) (by decide) ?_ ?_ ?_;(rw[U];show(k+1)*8<=_;omega);(simp;omega);intro v3 w3 A d F I);have L:=HG.out
    go_roundg (16-(k+1))
    case measure=>omega
    case rel=>exact⟨k+1,by omega,rfl,by go_num,by rw[HF.out,iT];exact A,by rw[HR.out,aA (by decide),dI];exact Ow.kept (OwI.alloc Z (.cells #[.int .i64 0] 3)) F O.keeps,O.left (OwI.alloc Z (.cells #[.int .i64 0] 3)) I,(a8.alloc (by omega) _).trans d⟩
  ·have t1:decide ((k:Int)<16)=false:=aE (by omega);have b8:k=16:=by omega
   subst b8;have U:(bI (pQ s.data.toList 16)).length=16:=by rw[cX,FM]
   have b3:(bI (iA s.data.toList 16)).length<=16*16:=by rw[cX];exact a2.out 16
   have b9:0<(bI (iA s.data.toList 16)).length:=by rw[cX];exact H0.out
   have b0:=OwI.rd M;go_wp2_with (at_builtin;refine lR rfl _ _ rfl (w.heap.size+1) _ _ (bI (iA s.data.toList 16)) rfl G _ rfl b0 b9 ?_ ?_ ?_;(rw[U];omega);(omega);intro v5 w5 A d F I);have hm:bI (pQ s.data.toList 16)++bI (iA s.data.toList 16)=bI (iL s.data.toList):=by rw[<-iT];rfl
   rw[hm] at A;have c4:=KR s.data.toList;refine(CF v5 (iL s.data.toList) w5 (OwI.rd A) (by omega)).mono ?_;rintro e w6 ⟨rfl,a1⟩;have J:=((a0.below H (by omega)).below d (by omega)).below a1 (by have:=d.size;omega);have c0:Below w.heap.size w w6:=((a3.trans (H.mono (by omega))).trans (d.mono (by omega))).trans (a1.mono (by have:=d.size;omega));have d0:=J.cell (i:=0) rfl;have d1:=J.cell (i:=1) rfl;have f0:=J.free 0;have f1:=J.free 1;clear a0 hm a1 A d F I G M b0 H a3;generalize b1:iL s.data.toList=m at*
   have HM:=hid b1;clear b1;go_wp2_with fail;have z0:Arr ((w6.setCell ⟨w.heap.size,0,none⟩ (.string (mkS (aI m)))).setCell ⟨w.heap.size,1,none⟩ (.int .i64 (m.length:Int))) w.heap.size 79 [.string (mkS (aI m)),.int .i64 (m.length:Int)]:=(J.set 0 _).set 1 _;refine fM (DJ rfl _ _ w.heap.size _ _ (0,0) _ rfl z0 underlying79 rfl rQ) rfl ?_;exact⟨by rw[HM.out];rfl,(c0.setCell (p:=⟨w.heap.size,0,none⟩) (aD _) _).setCell (p:=⟨w.heap.size,1,none⟩) (aD _) _⟩
theorem UI {s:List UInt8} {at':Int} {k:Nat} {e:Int} (d:e≠0) (F:k<=16) (h:(dQ s at' k).2.2.2=e):dF s at'=([],0,e):=by
 have A:=CC (s:=s) (at':=at') (k:=k) (by rw[h];exact d) (16-k);rw[show k+(16-k)=16 by omega] at A;unfold dF
 grind
theorem aHv (s:List UInt8) (at':Int):dQ s at' 0=([],at'+16,aK s at' 16==0,aP s.length at' 16):=rfl
theorem aHw {s:List UInt8} {at':Int} {k:Nat} {o:List UInt8} {d:Int} {A:Bool} (h:dQ s at' k=(o,d,A,0)) (F:(aK s at' 16).testBit (15-k)=false):dQ s at' (k+1)=(o,d,A,0):=by grind [dQ,aK]
theorem aHx {s:List UInt8} {at':Int} {k:Nat} {o:List UInt8} {d:Int} {A:Bool} (h:dQ s at' k=(o,d,A,0)) (F:(aK s at' 16).testBit (15-k)=true) (G:aP s.length d 16≠0):(dQ s at' (k+1)).2.2.2=aP s.length d 16:=by grind [dQ,aK,aP]
theorem aHy {s:List UInt8} {at':Int} {k:Nat} {o:List UInt8} {d:Int} {A:Bool} (h:dQ s at' k=(o,d,A,0)) (F:(aK s at' 16).testBit (15-k)=true) (G:aP s.length d 16=0):
  dQ s at' (k+1)=(o++nJ (aK s d 16) k 16,d+16,A||aK s d 16==0,0):=by grind [dQ,aK,aP,nJ]
theorem aHz {s:List UInt8} {at':Int} {o:List UInt8} {d:Int} {A:Bool} (h:dQ s at' 16=(o,d,A,0)):dF s at'=if A then([],0,3) else(o,d,0):=by grind [dF,dQ]
theorem aH0 (v k i:Nat):nJ v k (i+1)=nJ v k i++if v.testBit (15-i) then[eA (16*k+i)] else[]:=rfl
abbrev lC:=List (List Value)
def oW (k:Nat) (l:lC):Prop:=∀q∈l,q.length=k/\∀u∈q,u.oneCell'=true
theorem oW.app {k:Nat} {l m:lC} (h:oW k l) (g:oW k m):oW k (l++m):=fun q d=>(List.mem_append.1 d).elim (h q) (g q)
theorem FE {k:Nat}:∀{l:lC},oW k l->l.flatten.length=l.length*k
 |[],_=>by simp
 |x::l,h=>by
  rw[List.flatten_cons,aL,FE (l:=l) (fun q d=>h q (iQ _ d)),(h x (jK ..)).1,List.length_cons,Nat.succ_mul,Nat.add_comm]
theorem FF {k:Nat}:∀{l:lC},oW k l->∀(j i:Nat) (q:List Value) (u:Value),l[j]? =some q->q[i]? =some u->l.flatten[j*k+i]? =some u
 |[],_,j,i,q,u,h,_=>by simp at h
 |x::l,d,0,i,q,u,h,A=>by grind
 |x::l,d,j+1,i,q,u,h,A=>by
  have G:=FF (fun q F=>d q (iQ _ F)) j i q u (by simpa using h) A;have H:=(d x (jK ..)).1
  grind
structure ElR (P:fO) (t e k bytes:Nat) (z:Value):Prop where
 under:P.underlying t=some (.slice e)
 info:∃i,P.info? e=some i/\i.zero=some z/\i.size=k/\i.bytes=bytes
 cells:z.cells.size=k
 pos:1<=bytes
 some':1<=k
theorem ElR.mk' {P:fO} {t e k bytes:Nat} {z:Value} (h:(P.info? e).map (fun i=>(i.zero,i.size,i.bytes))=some (some z,k,bytes)) (d:P.underlying t=some (.slice e)) (A:z.cells.size=k) (F:1<=bytes) (G:1<=k):ElR P t e k bytes z:=by
 obtain⟨H,hi,I,J,L⟩:=info_parts h;exact⟨d,⟨H,hi,I,J,L⟩,A,F,G⟩
def RdR (w:World) (v:Value) (l:lC):Prop:=Rd w v l.length l.flatten
theorem RdR.below {w w':World} {v:Value} {l:lC} (h:RdR w v l) (d:Below w.heap.size w w'):RdR w' v l:=Rd.below h d
def OwR (w:World) (B e k:Nat) (v:Value) (l:lC):Prop:=w.ownsRow B e k v l.length l.flatten
theorem OwR.nil (w:World) (B e k:Nat):OwR w B e k (.slice none 0 0) []:=World.ownsRow_nil _ _ _ _
theorem OwR.alloc {w:World} {B e k:Nat} {v:Value} {l:lC} (h:OwR w B e k v l) (o:Obj):OwR (w.alloc o) B e k v l:=WK h o
theorem OwR.below {w w':World} {B C e k:Nat} {v:Value} {l:lC} (h:OwR w B e k v l) (d:Below C w w') (A:w.heap.size<=C):OwR w' B e k v l:=IX h d A
theorem OwR.kept {w w':World} {B e k:Nat} {v:Value} {l:lC} {row:Option Nat} (h:OwR w B e k v l) (d:w.grownBy w' row) (A:v.ownBlock=none\/v.ownBlock≠row):OwR w' B e k v l:=yJ h d A
theorem OwR.lt {w:World} {B e k:Nat} {v:Value} {l:lC} (h:OwR w B e k v l):∀g,v.ownBlock=some g->B<=g/\g<w.heap.size:=aK9 h
theorem OwR.rd {w:World} {B e k:Nat} {v:Value} {l:lC} (h:OwR w B e k v l):RdR w v l:=Rd.of_own h
theorem RdR.open {w:World} {v:Value} {l:lC} {k:Nat} (h:RdR w v l) (A:oW k l) (F:1<=k):∃a cap,v=.slice a l.length cap/\l.length<=cap/\cap<=maxLen/\
  (0<l.length->∃b off,a=some ⟨b,off,none⟩/\b<w.heap.size/\∀j q i u,l[j]? =some q->q[i]? =some u->w.cell? ⟨b,off+(j*k+i),none⟩=some u):=by
 obtain⟨a,cap,rfl,G,H,d⟩:=h;refine⟨a,cap,rfl,G,H,fun I=>?_⟩;have J:=FE A;rcases d with d|⟨b,off,rfl,L,U⟩
 ·rw[d,List.length_nil] at J;have:=Nat.mul_pos I F;omega
 ·refine⟨b,off,rfl,L,fun j q i u M O=>?_⟩;have V:=FF A j i q u M O
  grind
section
variable {P:fO} {t e k bytes:Nat} {z:Value}
end
theorem aGj (s:List UInt8) (k:Nat) (w:World) (hk:k<16):
  Calls pG 139 #[.agg (gL (dZ s)).toArray,.int .i64 (k:Int)] w fun e w'=>e=.returned (.int .u64 (dG (iK s k):Int))/\Below w.heap.size w w':=by
 obtain⟨F,Z⟩:∃F,F=16*k:=⟨_,rfl⟩;have m4:aJ.wrap ((k:Int)*16)=(F:Int):=by rw[aM];omega
 have m5:(k:Int)*16=(F:Int):=by omega
 have a7:F<=240:=by omega
 have a3:=hid Z;clear Z;have a0:=Arr.new w 187 (gL (dZ s));have a1:Below w.heap.size w (w.alloc (.cells (gL (dZ s)).toArray 187)):=bD (aH _ _) _;obtain⟨A,L⟩:∃A,A=(gL (dZ s)).toArray:=⟨_,rfl⟩;rw[<-L] at a0 a1 ⊢;have a8:A.size=256:=by rw[L];exact PU _
 clear L;go_enter func139,ntmps139;go_wp2_with fail;generalize w.alloc (.cells A 187)=w0 at*
 go_loopg [4,5,6] 16 (fun g s4 _s5 s6 wr=>∃j V:Nat,j<=16/\g=16-j/\s6=.int .i64 (j:Int)/\s4=.int .u64 (V:Int)/\Hid (V=dG (sW s k j))/\wr=w0)
 case atStart=>exact⟨0,0,by omega,rfl,rfl,rfl,hid rfl,rfl⟩
 case round=>
  obtain⟨j,V,hj,G,rfl,rfl,M,rfl⟩:=hrel;have HG:=hid G;clear G
  by_cases a9:j<16
  ·have t1:decide ((j:Int)<16)=true:=aG (by omega);have a2:=wC (sW s k j);rw[<-M.out,aGf] at a2;have h2:2^j<=2^16:=nF (by decide) (by omega);have b0:V<65536:=by
     have:(2:Nat)^16=65536:=by decide
     omega
   clear h2 a2;obtain⟨c,hc⟩:∃c:Nat,c=F+j:=⟨_,rfl⟩;have m8:aJ.wrap ((F:Int)+(j:Int))=(c:Int):=by rw[aM];omega
   have b1:(F:Int)+(j:Int)=(c:Int):=by omega
   have a4:c<256:=by omega
   have b2:(c:Int)<256:=by omega
   have c1:=a0.cell (DY (dZ s) c a4);obtain⟨d,hd⟩:∃d:Nat,d=2*V:=⟨_,rfl⟩;have m6:eZ.wrap ((V:Int)*2)=(d:Int):=by rw[fC];omega
   have b3:(V:Int)*2%18446744073709551616=(d:Int):=by omega
   have O:=SU V true (by omega);rw[m6] at O;obtain⟨H,U⟩:∃H:Nat,H=2*V+1:=⟨_,rfl⟩;have e2:bits .or .u64 (d:Int) 1=(H:Int):=by rw[U];exact O
   have I:=hid (show dG (sW s k (j+1))=2*V+(dZ s c).toNat by rw[aGe,wB,<-M.out,hc,a3.out]);have HD:=hid hd;have a5:=hid U;clear hd U hc O
   cases J:dZ s c with
   |true=>
    rw[J] at c1 I;clear J;go_wp2_with fail;have G:=HG.out
    go_roundg (16-(j+1))
    case measure=>omega
    case rel=>exact⟨j+1,H,by omega,rfl,by go_num,rfl,hid (by rw[I.out,a5.out];rfl),rfl⟩
   |false=>
    rw[J] at c1 I;clear J;go_wp2_with fail;have G:=HG.out
    go_roundg (16-(j+1))
    case measure=>omega
    case rel=>exact⟨j+1,d,by omega,rfl,by go_num,rfl,hid (by rw[I.out,HD.out];rfl),rfl⟩
  ·have t1:decide ((j:Int)<16)=false:=aE (by omega);have a6:j=16:=by omega
   subst a6;have HF:=hid (show V=dG (iK s k) by rw[M.out,TM]);go_wp2_with fail;go_ret;exact⟨eI (by rw[HF.out]),a1⟩
theorem gbB {W d:World} {g:Option Nat} (h:Below W.heap.size W d):W.grownBy d g:=⟨h.os,h.tape,h.output,h.size,fun k A _=>h.block k A⟩
theorem gbT {A B C:World} {g:Option Nat} (h:A.grownBy B g) (k:B.grownBy C g):A.grownBy C g:=
 ⟨k.os.trans h.os,k.tape.trans h.tape,k.output.trans h.output,Nat.le_trans h.size k.size,fun i hi d=>(k.block i (Nat.lt_of_lt_of_le hi h.size) d).trans (h.block i hi d)⟩
theorem gbS (W:World) (g i:Nat) (v:Value):W.grownBy (W.setCell ⟨g,i,none⟩ v) (some g):=
 ⟨rfl,rfl,rfl,by simp,fun k _ d=>heap_setCell_other W ⟨g,i,none⟩ k v (fun e=>d (by rw[e]))⟩
theorem aGk (g:Nat) (l:List Bool) (v:Nat) (W:World) (h:Arr W g 79 (fD l)) (M:v<65536) (O:l.length<=10000):
  Calls pG 137 #[.int .u64 (v:Int),.pointer (some ⟨g,0,none⟩)] W fun e F=>e=.returned (.tuple #[])/\Arr F g 79 (fD (l++aT v 16))/\W.grownBy F (some g):=by
 have I:=h.cell (i:=0) rfl;have J:=h.cell (i:=1) rfl;have A:=wL l v 16 W (by omega) (by decide) (by omega);unfold fT at A;go_enter func137,ntmps137;go_wp2_with fail;refine A.mono ?_;rintro e w1 ⟨rfl,G⟩;have d:=h.below G h.lt;have U:=d.cell (i:=0) rfl;have V:=d.cell (i:=1) rfl;have Z:=d.free 0;have f1:=d.free 1;generalize H:l++aT v 16=m at*
 have L:=hid H;clear H I J A;go_wp2_with fail
 go_end0
 exact⟨rfl,by rw[L.out];exact(d.set 0 _).set 1 _,gbT (gbT (gbB G) (gbS _ _ _ _)) (gbS _ _ _ _)⟩
theorem Arr.gb {W d:World} {g b:Nat} {e:TypeId} {l:List Value} (h:Arr W b e l) (A:W.grownBy d (some g)) (F:b≠g):Arr d b e l:=h.grown A (fun q=>F (by injection q))
theorem aGl {B g:Nat} {a W d:World} (h:Below B a W) (A:W.grownBy d (some g)) (G:B<=g) (F:B<=W.heap.size):Below B a d:=
 h.grown A F (fun k e=>by grind)
theorem aGm (s:List UInt8) (k:Nat):(dG (iK s k)=0↔lP s k=false):=EN _
theorem aYz (s:ByteArray) (w:World) (hs:s.size<=140737488355328):
  Calls pG 87 #[.string s] w fun e w'=>e=.returned (fT (iL s.data.toList))/\Below w.heap.size w w':=by
 have c9:∀(fn:Fn) (first cap:Array Value) (w:World),(Instr.makeFunc fn first cap).run pG w=.ok (.func fn first cap) w:=fun _ _ _ _=>rfl
 have hE:∀args W,(callFunc 137 args).run pG W=.ok (.enter 137 args) W:=enters_of func137 (by kernel_rfl) rfl;have c3:=hid (fun k=>KP s.data.toList k);go_enter func87,ntmps87;go_wp2_with fail;have a3:=Arr.new w 79 [.string ⟨#[]⟩,.int .i64 0];change Arr (w.alloc (.cells #[.string ⟨#[]⟩,.int .i64 0] 79)) _ _ _ at a3;have d0:(w.alloc (.cells #[.string ⟨#[]⟩,.int .i64 0] 79)).heap.size=w.heap.size+1:=by simp
 have a9:Below w.heap.size w (w.alloc (.cells #[.string ⟨#[]⟩,.int .i64 0] 79)):=bD (aH _ _) _;generalize w.alloc (.cells #[.string ⟨#[]⟩,.int .i64 0] 79)=w0 at*
 refine(ZV s _ hs).mono ?_;rintro e w1 ⟨rfl,a1⟩;have ha:Arr (w1.alloc (.cells Tryz.zeroCells187 187)) w1.heap.size 187 (gL (fun _=>false)):=by rw[ZT];exact Arr.new w1 _ _
 have c4:=ZU ha (by simp[gL]) (dZ s.data.toList);have b0:Arr ((w1.alloc (.cells Tryz.zeroCells187 187)).setRow w1.heap.size (gL (dZ s.data.toList)).toArray) w1.heap.size 187 (gL (dZ s.data.toList)):=setRow_heap (w1.alloc (.cells Tryz.zeroCells187 187)) w1.heap.size _ _ 187 (0,0) ha;have d2:=a1.size;have a4:Below w0.heap.size w0 ((w1.alloc (.cells Tryz.zeroCells187 187)).setRow w1.heap.size (gL (dZ s.data.toList)).toArray):=DZ (a1.alloc a1.size _) _ a1.size _;go_wp2_with fail
 generalize (w1.alloc (.cells Tryz.zeroCells187 187)).setRow w1.heap.size (gL (dZ s.data.toList)).toArray=w2 at*
 have b1:=a3.below a4 a3.lt;have b2:=a9.trans (a4.mono (by omega));clear c4 ha a3 a9 a1 a4;have b3:w1.heap.size≠w.heap.size:=by omega
 go_wp2_with fail
 go_loopg [5,6,12] 16 (fun g s5 _s6 c5 wr=>∃k V:Nat,k<=16/\g=16-k/\c5=.int .i64 (k:Int)/\s5=.int .u64 (V:Int)/\Hid (V=dG (pQ s.data.toList k))/\Arr wr w.heap.size 79 [.string ⟨#[]⟩,.int .i64 0]/\Arr wr w1.heap.size 187 (gL (dZ s.data.toList))/\Below w.heap.size w wr)
 case atStart=>exact⟨0,0,by omega,rfl,rfl,rfl,hid rfl,b1,b0,b2⟩
 case round=>
  obtain⟨k,V,hk,J,rfl,rfl,HV,A,G,I⟩:=hrel;have HG:=hid J;clear J b1 b0 b2;have O:=I.size;have b4:=wC (pQ s.data.toList k);rw[<-HV.out,FM] at b4;have h2:2^k<=2^16:=nF (by decide) hk;have d3:V<=65535:=by
    have:(2:Nat)^16=65536:=by decide
    omega
  clear h2 b4
  by_cases a5:k<16
  ·have t1:decide ((k:Int)<16)=true:=aG (by omega);obtain⟨d,hd⟩:∃d:Nat,d=2*V:=⟨_,rfl⟩;have m6:eZ.wrap ((V:Int)*2)=(d:Int):=by rw[fC];omega
   have d4:(V:Int)*2%18446744073709551616=(d:Int):=by omega
   have e1:=SU V true (by omega);rw[m6] at e1;obtain⟨d1,a6⟩:∃d1:Nat,d1=2*V+1:=⟨_,rfl⟩;have e2:bits .or .u64 (d:Int) 1=(d1:Int):=by rw[a6];exact e1
   have HS:=hid (show dG (pQ s.data.toList (k+1))=2*V+(lP s.data.toList k).toNat by rw[aGh,wB,<-HV.out]);have HD:=hid hd;have c6:=hid a6;have H:=fun W=>aGj s.data.toList k W a5
   have F:=aGm s.data.toList k;obtain⟨X,hX⟩:∃X,X=dG (iK s.data.toList k):=⟨_,rfl⟩;rw[<-hX] at H F;clear hd a6 e1 hX
   cases L:lP s.data.toList k with
   |true=>
    rw[L] at HS F;have u1:((X:Int) != 0)=true:=by rw[bne_iff_ne];intro h;have:=F.1 (by omega);simp at this
    have u2:((X:Int)==0)=false:=by rw[cB];intro h;have:=F.1 (by omega);simp at this
    clear L F;go_wp2_with fail;refine ID 187 (.tmp 4) rfl w1.heap.size rfl _ _ (0,0) (.array 256 4) G zD rfl (BM _) ?_;go_wp2_with fail;refine(H _).mono ?_;rintro e w3 ⟨rfl,U⟩;go_wp2_with fail;have J:=HG.out
    go_roundg (16-(k+1))
    case measure=>omega
    case rel=>exact⟨k+1,d1,by omega,rfl,by go_num,rfl,hid (by rw[HS.out,c6.out];rfl),A.below U A.lt,G.below U G.lt,I.trans (U.mono O)⟩
   |false=>
    rw[L] at HS F;have Z:X=0:=F.2 rfl;have u1:((X:Int) != 0)=false:=by rw[Z];rfl
    have u2:((X:Int)==0)=true:=by rw[Z];rfl
    clear L F Z;go_wp2_with fail;refine ID 187 (.tmp 4) rfl w1.heap.size rfl _ _ (0,0) (.array 256 4) G zD rfl (BM _) ?_;go_wp2_with fail;refine(H _).mono ?_;rintro e w3 ⟨rfl,U⟩;go_wp2_with fail;have J:=HG.out
    go_roundg (16-(k+1))
    case measure=>omega
    case rel=>exact⟨k+1,d,by omega,rfl,by go_num,rfl,hid (by rw[HS.out,HD.out];rfl),A.below U A.lt,G.below U G.lt,I.trans (U.mono O)⟩
  ·have t1:decide ((k:Int)<16)=false:=aE (by omega);have a7:k=16:=by omega
   subst a7;have H:=aGk w.heap.size [] V wr A (by omega) (by decide);have a0:[]++aT V 16=pQ s.data.toList 16:=by
    rw[List.nil_append,HV.out];have:=RA (pQ s.data.toList 16);rwa[FM] at this
   rw[a0] at H;clear a0;go_wp2_with fail;refine H.mono ?_;rintro e w3 ⟨rfl,b5,a8⟩;have b6:=G.gb a8 b3;have b7:=aGl I a8 (aD _) O;clear A G I a8 H O;go_wp2_with fail
   go_loopg [7,8,27] 16 (fun g _s7 _s8 c7 wx=>∃k:Nat,k<=16/\g=16-k/\c7=.int .i64 (k:Int)/\Arr wx w.heap.size 79 (fD (pQ s.data.toList 16++iA s.data.toList k))/\Arr wx w1.heap.size 187 (gL (dZ s.data.toList))/\Below w.heap.size w wx)
   case atStart=>exact⟨0,by omega,rfl,rfl,by rw[show iA s.data.toList 0=[] from rfl,dI];exact b5,b6,b7⟩
   case round=>
    obtain⟨k,hk,J,rfl,A,G,I⟩:=hrel;have HG:=hid J;clear J b5 b6 b7;have O:=I.size
    by_cases a5:k<16
    ·have t1:decide ((k:Int)<16)=true:=aG (by omega);have H:=fun W=>aGj s.data.toList k W a5
     have F:=aGm s.data.toList k;have b8:=wC (iK s.data.toList k);have a0:=RA (iK s.data.toList k);have d5:=c3.out k;have HR:=hid (TN s.data.toList k);rw[zJ] at b8 a0;obtain⟨X,hX⟩:∃X,X=dG (iK s.data.toList k):=⟨_,rfl⟩;rw[<-hX] at H F b8 a0;have HN:=hid a0;clear hX a0
     cases L:lP s.data.toList k with
     |true=>
      rw[L] at HR F;have u1:((X:Int) != 0)=true:=by rw[bne_iff_ne];intro h;have:=F.1 (by omega);simp at this
      have u2:((X:Int)==0)=false:=by rw[cB];intro h;have:=F.1 (by omega);simp at this
      clear L F;go_wp2_with fail;refine ID 187 (.tmp 4) rfl w1.heap.size rfl _ _ (0,0) (.array 256 4) G zD rfl (BM _) ?_;go_wp2_with fail;refine(H _).mono ?_;rintro e w4 ⟨rfl,M⟩;have c8:=aGk w.heap.size _ X w4 (A.below M A.lt) (by omega) (by rw[aL,FM];omega);go_wp2_with fail;refine c8.mono ?_;rintro e w5 ⟨rfl,b9,c2⟩;go_wp2_with fail;have J:=HG.out
      go_roundg (16-(k+1))
      case measure=>omega
      case rel=>exact⟨k+1,by omega,rfl,by go_num,by rw[HR.out,aB trivial,<-bU];rw[HN.out] at b9;exact b9,(G.below M G.lt).gb c2 b3,aGl (I.trans (M.mono O)) c2 (aD _) (by have:=M.size;omega)⟩
     |false=>
      rw[L] at HR F;have Z:X=0:=F.2 rfl;have u1:((X:Int) != 0)=false:=by rw[Z];rfl
      have u2:((X:Int)==0)=true:=by rw[Z];rfl
      clear L F Z;go_wp2_with fail;refine ID 187 (.tmp 4) rfl w1.heap.size rfl _ _ (0,0) (.array 256 4) G zD rfl (BM _) ?_;go_wp2_with fail;refine(H _).mono ?_;rintro e w4 ⟨rfl,M⟩;go_wp2_with fail;have J:=HG.out
      go_roundg (16-(k+1))
      case measure=>omega
      case rel=>exact⟨k+1,by omega,rfl,by go_num,by rw[HR.out,aA (by decide),dI];exact A.below M A.lt,G.below M G.lt,I.trans (M.mono O)⟩
    ·have t1:decide ((k:Int)<16)=false:=aE (by omega);have a7:k=16:=by omega
     subst a7;have a2:pQ s.data.toList 16++iA s.data.toList 16=iL s.data.toList:=rfl;rw[a2] at A;clear a2;unfold fD at A;generalize a2:iL s.data.toList=m at*
     have HM:=hid a2;clear a2;have c0:=A.cell (i:=0) rfl;have c1:=A.cell (i:=1) rfl;have f0:=A.free 0;have f1:=A.free 1;go_wp2_with fail;have z0:Arr ((wr.setCell ⟨w.heap.size,0,none⟩ (.string (mkS (aI m)))).setCell ⟨w.heap.size,1,none⟩ (.int .i64 (m.length:Int))) w.heap.size 79 [.string (mkS (aI m)),.int .i64 (m.length:Int)]:=(A.set 0 _).set 1 _;refine fM (DJ rfl _ _ w.heap.size _ _ (0,0) _ rfl z0 underlying79 rfl rQ) rfl ?_
     exact⟨by rw[HM.out];rfl,(I.setCell (p:=⟨w.heap.size,0,none⟩) (aD _) _).setCell (p:=⟨w.heap.size,1,none⟩) (aD _) _⟩
theorem bCi (s:ByteArray) (p:Int) (w:World) (hs:s.size<=1000000) (d0: -9223372036854775808<=p) (d1:p<=9223372036854775807):
  Calls pG 119 #[.string s,.int .i64 p] w fun e w'=>e=.returned (.tuple #[.string (mkS (dF s.data.toList p).1),.int .i64 (dF s.data.toList p).2.1,.int .i64 (dF s.data.toList p).2.2])/\Below w.heap.size w w':=by
 have hL:s.data.toList.length=s.size:=by simp
 have hz:=aHv s.data.toList p;have b9:=fun W=>uQ s p 16 W hs (by decide) d0 d1
 have d2:=jV s.data.toList p 16;rw[hL] at hz;obtain⟨H,a6⟩:∃E,E=aP s.size p 16:=⟨_,rfl⟩;obtain⟨F,hF⟩:∃F,F=aK s.data.toList p 16:=⟨_,rfl⟩;rw[<-hF,<-a6] at hz b9;rw[<-hF] at d2;have d3:F<18446744073709551616:=by omega
 have a7:H=0->0<=p/\p<=8000000:=fun h=>by
  have:=iG (n:=s.size) (at':=p) (k:=16) (by rw[<-a6];exact h);omega
 obtain⟨L,a8⟩:∃L:Bool,L=(F==0):=⟨_,rfl⟩;have t0:((F:Int)==0)=L:=by
  rw[a8]
  by_cases h:F=0
  ·rw[h];rfl
  ·rw[beq_eq_false_iff_ne.2 h,cB];omega
 obtain⟨a9,b0⟩:∃q:Int,q=aJ.wrap (p+16):=⟨_,rfl⟩;have c0:H=0->a9=p+16:=fun h=>by
  have:=a7 h;rw[b0,aM];omega
 have HF:=hid hF;have HL:=hid hL;have c1:=hid (show(H=0/\dQ s.data.toList p 0=([],a9,L||false,0))\/(H≠0/\(dQ s.data.toList p 0).2.2.2=H) by
  by_cases h:H=0
  ·left;exact⟨h,by rw[hz,c0 h,<-a8,h,OZ]⟩
  ·right;exact⟨h,by rw[hz]⟩)
 have d4:=hid a7;have m0:=b0.symm;clear hF hz hL a8 c0 a7 b0 a6;go_enter func119,ntmps119;go_wp2_with fail;refine(b9 _).mono ?_;rintro e w1 ⟨rfl,rfl⟩;go_wp2_with fail
 go_loopg [1,6,7,8,10] 16 (fun g s1 s6 s7 s8 d5 wr=>∃(k:Nat) (o:List UInt8) (d:Int) (G:Bool) (E:Int),k<=16/\g=16-k/\d5=.int .i64 (k:Int)/\s1=.int .i64 d/\s8=.bool G/\s6=.int .i64 E/\Hid ((E=0/\dQ s.data.toList p k=(o,d,L||G,0))\/(E≠0/\(dQ s.data.toList p k).2.2.2=E))/\o.length<=16*k/\OwB wr w1.heap.size s7 o/\Below w1.heap.size w1 wr)
 case atStart=>exact⟨0,[],a9,false,H,by omega,rfl,rfl,rfl,rfl,rfl,c1,by simp,Ow.nil _ _ _,aH _ _⟩
 case round=>
  obtain⟨k,o,d,G,E,hk,I,rfl,rfl,rfl,rfl,HU,f0,a3,M⟩:=hrel;have HG:=hid I;clear I m0;have f1:=M.size
  by_cases Z:E=0
  rotate_left
  ·have t2:(E==0)=false:=by rw[cB];exact Z
   have t3:(E != 0)=true:=by rw[bne_iff_ne];exact Z
   have A:dF s.data.toList p=([],0,E):=by
    rcases HU.out with⟨h,_⟩|⟨_,h⟩
    ·exact absurd h Z
    ·exact UI Z hk h
   have c2:=hid A;clear A Z
   by_cases d6:k<16
   ·have t1:decide ((k:Int)<16)=true:=aG (by omega);go_wp2_with fail
    go_ret3
    exact⟨by rw[c2.out];rfl,M⟩
   ·have t1:decide ((k:Int)<16)=false:=aE (by omega);go_wp2_with fail
    go_ret3
    exact⟨by rw[c2.out];rfl,M⟩
  ·subst Z;have A:dQ s.data.toList p k=(o,d,L||G,0):=by
    rcases HU.out with⟨_,h⟩|⟨h,_⟩
    ·exact h
    ·exact absurd rfl h
   have f2:0<=p/\p<=8000000:=by
    apply d4.out
    by_cases h:H=0
    ·exact h
    ·have h0:(dQ s.data.toList p 0).2.2.2=H:=by
      rcases c1.out with⟨h1,_⟩|⟨_,h1⟩
      ·exact absurd h1 h
      ·exact h1
     have h2:=CC (s:=s.data.toList) (at':=p) (k:=0) (by rw[h0];exact h) k;rw[iP] at h2;rw[h2] at A;rw[A] at h0;exact h0.symm
   have b1:=EO s.data.toList p k;rw[A] at b1;have d7:=b1.2 rfl;simp only at d7;clear b1
   by_cases d6:k<16
   ·have t1:decide ((k:Int)<16)=true:=aG (by omega);obtain⟨q,hq⟩:∃q,q=15-k:=⟨_,rfl⟩;have m1:aJ.wrap (15-(k:Int))=(q:Int):=by rw[aM];omega
    have f3:(15:Int)-(k:Int)=(q:Int):=by omega
    have m2:min q 64=q:=by omega
    have e4:=SW F q d3;obtain⟨b,U⟩:∃b,b=F.testBit q:=⟨_,rfl⟩;rw[<-U] at e4;have HB:=hid (show(aK s.data.toList p 16).testBit (15-k)=b by rw[<-HF.out,<-hq,U]);clear hq U
    cases b with
    |false=>
     have HS:=hid (aHw A HB.out);have e5:((false.toNat:Nat):Int)=0:=rfl;rw[e5] at e4;clear A;go_wp2_with fail;have I:=HG.out
     go_roundg (16-(k+1))
     case measure=>omega
     case rel=>exact⟨k+1,o,d,G,0,by omega,rfl,by go_num,rfl,rfl,rfl,hid (.inl ⟨rfl,HS.out⟩),by omega,a3,M⟩
    |true=>
     have e5:((true.toNat:Nat):Int)=1:=rfl;rw[e5] at e4;have c3:=fun W=>uQ s d 16 W hs (by decide) (by omega) (by omega)
     have hV:=jV s.data.toList d 16;have b2:=KS (aK s.data.toList d 16) k;obtain⟨b3,c4⟩:∃q:Int,q=d+16:=⟨_,rfl⟩;have m3:aJ.wrap (d+16)=b3:=by rw[aM];omega
     have a4:(aP s.size d 16=0/\dQ s.data.toList p (k+1)=(o++nJ (aK s.data.toList d 16) k 16,b3,L||(G||aK s.data.toList d 16==0),0))\/(aP s.size d 16≠0/\(dQ s.data.toList p (k+1)).2.2.2=aP s.size d 16):=by
      by_cases h:aP s.size d 16=0
      ·left
       have:=aHy A HB.out (by rw[HL.out];exact h);rw[Bool.or_assoc] at this;exact⟨h,by rw[this,c4]⟩
      ·right
       have:=aHx A HB.out (by rw[HL.out];exact h);rw[HL.out] at this;exact⟨h,this⟩
     obtain⟨V,b4⟩:∃V,V=aK s.data.toList d 16:=⟨_,rfl⟩;obtain⟨E2,c5⟩:∃E,E=aP s.size d 16:=⟨_,rfl⟩;rw[<-b4,<-c5] at c3 a4;rw[<-b4] at hV b2;have d8:V<18446744073709551616:=by omega
     obtain⟨T1,b5⟩:∃T1:Bool,T1=(V==0):=⟨_,rfl⟩;have u1:((V:Int)==0)=T1:=by
      rw[b5]
      by_cases h:V=0
      ·rw[h];rfl
      ·rw[beq_eq_false_iff_ne.2 h,cB];omega
     rw[<-b5] at a4;have d9:=hid a4;obtain⟨O,c6⟩:∃O,O=16*k:=⟨_,rfl⟩;have m4:aJ.wrap ((k:Int)*16)=(O:Int):=by rw[aM];omega
     have m5:(k:Int)*16=(O:Int):=by omega
     have e0:=hid c6;have f4:O<=240:=by omega
     have c7:=hid b2;clear c6 b5 c4 b4 b2 a4 A c5;go_wp2_with fail;refine(c3 _).mono ?_;rintro e w2 ⟨rfl,rfl⟩;go_upto_region 12 with fail
     go_cut [8] (fun c8 wx=>c8=.bool (G||T1)/\wx=w2)
     case first=>
      cases G with
      |true=>go_wp2_with fail;go_meet;exact⟨rfl,rfl⟩
      |false=>go_wp2_with fail;go_meet;exact⟨rfl,rfl⟩
     case rest=>
      obtain⟨rfl,rfl⟩:=hcut;go_wp2_with fail
      go_loopg [7,48] 16 (fun g s7 e1 wx=>∃i:Nat,i<=16/\g=16-i/\e1=.int .i64 (i:Int)/\OwB wx w1.heap.size s7 (o++nJ V k i)/\Below w1.heap.size w1 wx)
      case atStart=>exact⟨0,by omega,rfl,rfl,by rw[show nJ V k 0=[] from rfl,dI];exact a3,M⟩
      case round=>
       obtain⟨i,hi,I,rfl,b6,a5⟩:=hrel;have c9:=hid I;clear I e4
       by_cases f5:i<16
       ·have u2:decide ((i:Int)<16)=true:=aG (by omega);obtain⟨q2,b7⟩:∃q,q=15-i:=⟨_,rfl⟩;have m6:aJ.wrap (15-(i:Int))=(q2:Int):=by rw[aM];omega
        have f6:(15:Int)-(i:Int)=(q2:Int):=by omega
        have m7:min q2 64=q2:=by omega
        have e6:=SW V q2 d8;have a1:=hid (aH0 V k i);rw[<-b7] at a1;have f7:=c7.out i
        cases a0:V.testBit q2 with
        |false=>
         rw[a0,show((false.toNat:Nat):Int)=0 from rfl] at e6;rw[a0] at a1;clear a0 b7;go_wp2_with fail;have I:=c9.out
         go_roundg (16-(i+1))
         case measure=>omega
         case rel=>exact⟨i+1,by omega,rfl,by go_num,by rw[a1.out,aA (by decide),dI];exact b6,a5⟩
        |true=>
         rw[a0,show((true.toNat:Nat):Int)=1 from rfl] at e6;rw[a0] at a1;obtain⟨c,hc⟩:∃c:Nat,c=O+i:=⟨_,rfl⟩;have m8:aJ.wrap ((O:Int)+(i:Int))=(c:Int):=by rw[aM];omega
         have f8:(O:Int)+(i:Int)=(c:Int):=by omega
         obtain⟨b,U⟩:∃b:UInt8,b=eA c:=⟨_,rfl⟩;have b8:b.toNat=c:=by rw[U,UInt8.toNat_ofNat'];omega
         have m9:IntKind.u8.wrap (c:Int)=(b.toNat:Int):=by rw[b8,IntKind.wrap_u8];omega
         have f9:(c:Int)%256=(b.toNat:Int):=by rw[b8];omega
         have e2:=hid (show eA (16*k+i)=b by rw[U,hc,e0.out]);have e3:=a5.size;clear a0 b7 hc U b8;go_wp2_with (at_builtin;refine DX rfl _ _ rfl w1.heap.size _ _ rfl (Ow.alloc b6 _) wr.heap.size b rfl ?_ ?_ ?_ ?_;(exact bX _ _ _);(rw[aL];omega);(simp;omega);intro v' w3 e7 hB g0);have I:=c9.out
         go_roundg (16-(i+1))
         case measure=>omega
         case rel=>exact⟨i+1,by omega,rfl,by go_num,by rw[a1.out,aB trivial,e2.out,<-bU];exact e7,(a5.alloc e3 _).trans hB⟩
       ·have u2:decide ((i:Int)<16)=false:=aE (by omega);have e8:i=16:=by omega
        subst e8;have g1:=c7.out 16;go_wp2_with fail;have I:=HG.out
        go_roundg (16-(k+1))
        case measure=>omega
        case rel=>exact⟨k+1,_,b3,G||T1,E2,by omega,rfl,by go_num,rfl,rfl,rfl,d9,by rw[aL];omega,b6,a5⟩
   ·have t1:decide ((k:Int)<16)=false:=aE (by omega);have e9:k=16:=by omega
    subst e9;have J:=aHz A
    cases G with
    |true=>
     rw[Bool.or_true,aB rfl] at J;have a2:=hid J;clear J A;go_wp2_with fail
     go_ret3
     exact⟨by rw[a2.out];rfl,M⟩
    |false=>
     cases L with
     |true=>
      rw[OZ,aB rfl] at J;have a2:=hid J;clear J A;go_wp2_with fail
      go_ret3
      exact⟨by rw[a2.out];rfl,M⟩
     |false=>
      rw[OZ,aA (by decide)] at J;have a2:=hid J;clear J A;obtain⟨a,n,c,rfl,HN,g2,g3⟩:=a3.openN;have g4:(convert 48 9 (.slice a n c)).run pG wr=.ok (.string (mkS o)) wr:=mP a3.rd;go_wp2_with fail
      go_ret3
      exact⟨by rw[a2.out];rfl,M⟩
end
end Go.Proofs.YtihbnmlinkbnkaaGreatDoor
