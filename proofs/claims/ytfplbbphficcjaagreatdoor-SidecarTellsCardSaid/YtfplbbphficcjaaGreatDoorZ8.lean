/-
  Texts put together (part 8): the walks and the plain laws on which the statement stands.
-/
import Derived.OrdersIn
import Derived.Test.YtfplbbphficcjaaGreatDoorZ2
import Derived.Test.YtfplbbphficcjaaGreatDoorZ3
import Derived.Test.YtfplbbphficcjaaGreatDoorZ4
set_option maxRecDepth 100000
set_option maxHeartbeats 12800000
set_option linter.unusedVariables false
set_option linter.unusedSimpArgs false
open Go.Proofs.Tryz
open Go.Proofs.Tryz renaming prog->pG
open Array renaming getElem?_eq_some_iff->fE
open Go renaming Program->fO
open Go.Fence renaming wide->cZ
open Go.IntKind renaming i64->aJ,wrap_i64->aM
open Go.RowKit.Below renaming refl->aH
open Go.World renaming alloc_heap_new->AZ,cell?_setCell_other->lI,putObj_heap_other->qA,putObj_heap_same->BA
open List renaming append_nil->dI,drop_drop->kG,drop_eq_nil_of_le->IU,drop_zero->pI,getElem?_drop->jR,length->nU,length_append->aL,length_drop->bA,length_take->aQ,mem_of_getElem?->cN,mem_range->qM,range->eT,take_add_one->cG,take_of_length_le->cD
open List.Pairwise renaming imp_of_mem->aLc
open Nat renaming le_refl->aD,lt_or_ge->cF,mod_eq_of_lt->jT,mod_lt->kU,zero_le->aO
open Option renaming some->aY,toList_some->rD
open Option.some renaming inj->cC
open UInt8 renaming toNat_inj->tH
namespace Go.Proofs.YtfplbbphficcjaaGreatDoor
section
theorem aPw {n x:Nat} (d:0<n):(x+(n-1))%n<n:=kU _ d
theorem aPx {n x y:Nat} (A:x<n) (D:y<n) (h:(x+(n-1))%n=(y+(n-1))%n):x=y:=by
 have e:∀z,z<n->(z+(n-1))%n=if z=0 then n-1 else z-1:=by
  intro z F
  by_cases d:z=0
  ·rw[aB d,d,Nat.zero_add];exact jT (by omega)
  ·rw[aA d,show z+(n-1)=(z-1)+n by omega,Nat.add_mod_right];exact jT (by omega)
 grind
theorem aPy {n y:Nat} (d:y<n):((y+1)%n+(n-1))%n=y:=by
 rw[Nat.mod_add_mod,show y+1+(n-1)=y+n by omega,Nat.add_mod_right];exact jT d
theorem aPz {c:Nat->Nat} {n m:Nat} {o:Nat->Int} (h:Ord c n m o):((eT n).map (fun i=>((o i).toNat+(n-1))%n)).Perm (eT n):=by
 rw[List.perm_ext_iff_of_nodup ?_ List.nodup_range]
 ·intro y;rw[List.mem_map,qM];constructor
  ·rintro⟨i,G,rfl⟩;exact aPw (by grind)
  ·intro H;obtain⟨k,I,e⟩:=h.onto (y:=(y+1)%n) (kU _ (by omega))
   grind [aPy]
 ·unfold List.Nodup;rw[List.pairwise_map];refine aLc ?_ List.pairwise_lt_range;intro a b D F J e;have d:=qM.1 D;have A:=qM.1 F;have L:=h.rng a d;have M:=h.rng b A;have:=aPx (by omega) (by omega) e;exact h.ne d A (by omega) (by omega)
theorem aP0 (l:List UInt8):(eT l.length).map (fun i=>l.getD i 0)=l:=by
 apply List.ext_getElem?
 grind
theorem QK (s:ByteArray) {c:Nat->Nat} {m:Nat} {o:Nat->Int} (h:Ord c s.size m o):(eM s o s.size).Perm s.data.toList:=by
 have d:=(aPz h).map (fun i=>s.data.toList.getD i 0);rw[List.map_map] at d;have e:=aP0 s.data.toList;rw[show s.data.toList.length=s.size by simp] at e;rw[e] at d;exact d
theorem aP1 (o:Nat->Int):∀k,(∃j,j<k/\o j=0)->gX o k<k/\o (gX o k)=0:=by
 intro k
 induction k with
 |zero=>rintro⟨j,d,_⟩;omega
 |succ k A=>
  rintro⟨j,d,e⟩;unfold gX
  by_cases h:o k=0
  ·grind
  ·grind
theorem aP2 {c:Nat->Nat} {n m:Nat} {o:Nat->Int} (h:Ord c n m o) (d:0<n):gX o n<n/\o (gX o n)=0:=
 aP1 o n (by obtain⟨k,A,e⟩:=h.onto (y:=0) d;exact⟨k,A,by simpa using e⟩)
end
section
open Go.RowKit
theorem aP9 (a:ByteArray) (i:Nat):a.extract i (i+1)++a.extract 0 i++a.extract (i+1) a.size=mkS (gC a.data.toList i):=by
 rw[iW,iW,iW,sI,sI];unfold gC;rw[pI,Nat.sub_zero,show i+1-i=1 by omega,cD (l:=a.data.toList.drop (i+1)) (by simp)]
theorem aAt (a:ByteArray) (b:UInt8) (w:World) (Y:a.size<=1000000000) (F:b∈a.data.toList):
  Calls pG 106 #[.string a,.int .u8 (b.toNat:Int)] w fun e w'=>e=.returned (.int .i64 ((plc a.data.toList b:Nat):Int))/\w'=w:=by
 have h:a.data.toList.length=a.size:=by simp
 have G:=vP F;rw[h] at G;obtain⟨p,A⟩:∃p,p=plc a.data.toList b:=⟨_,rfl⟩;rw[<-A] at G ⊢;have H:=hid A;have L:=hid h;have Z:=b.toNat_lt;clear h A;go_enter func106,ntmps106;go_wp2_with fail
 go_loopg [5] p (fun M O wr=>∃k:Nat,k<=p/\M=p-k/\O=.int .i64 k/\w=wr)
 case atStart=>exact⟨0,aO _,rfl,rfl,rfl⟩
 case round=>
 obtain⟨k,hk,D,rfl,rfl⟩:=hrel;have T:=hid D;clear D;have I:k<a.size:=by omega
 have a0:=a[k].toNat_lt
 by_cases U:k<p
 ·have a1:a[k].toNat≠b.toNat:=by
   have d:=YL (a:=a.data.toList) (c:=b) (i:=k) (by rw[<-H.out];exact U) (by rw[L.out];exact I);intro e;exact d (tH.1 e)
  have V:((a[k].toNat:Int)==(b.toNat:Int))=false:=by rw[cB];omega
  have t2:¬((a[k].toNat:Int)=(b.toNat:Int)):=by omega
  go_wp2_with fail;have D:=T.out
  go_roundg (p-(k+1))
  case measure=>omega
  case rel=>exact⟨k+1,by omega,rfl,by go_num,rfl⟩
 ·obtain rfl:p=k:=by omega
  have J:a[p]=b:=by
   have d:=JG F;rw[<-H.out] at d;rw[fW a p I] at d;exact cC d
  have V:((a[p].toNat:Int)==(b.toNat:Int))=true:=by rw[beq_iff_eq,J]
  clear J;go_wp2_with fail;go_ret;exact⟨rfl,rfl⟩
theorem aAu (a:ByteArray) (w:World) (D:a.size<=1000000000) (h:a.data.toList.Nodup):
  Calls pG 105 #[.string a] w fun e w'=>e=.returned (.bool true)/\w'=w:=by
 have F:=hid h;clear h;go_enter func105,ntmps105;go_wp2_with fail
 go_loopg [3] a.size (fun G H wr=>∃k:Nat,k<=a.size/\G=a.size-k/\H=.int .i64 k/\w=wr)
 case atStart=>exact⟨0,aO _,rfl,rfl,rfl⟩
 case round=>
 obtain⟨k,M,d,rfl,rfl⟩:=hrel;have I:=hid d;clear d
 by_cases A:k<a.size
 ·have J:=hid (show plc a.data.toList a[k]=k from PE (a:=a.data.toList) F.out (i:=k) (by simpa using A));have L:a[k]∈a.data.toList:=cN (fW a k A);have O:decide ((k:Int)<(k:Int))=false:=aE (by omega);go_wp2_with fail;refine(aAt a a[k] _ D L).mono ?_;rintro e T ⟨rfl,rfl⟩;rw[J.out];go_wp2_with fail;have d:=I.out
  go_roundg (a.size-(k+1))
  case measure=>omega
  case rel=>exact⟨k+1,by omega,rfl,by go_num,rfl⟩
 ·go_wp2_with fail;go_ret;exact⟨rfl,rfl⟩
theorem aAv (a:ByteArray) (i:Nat) (w:World) (h:a.size<=1000000000) (A:i<a.size):
  Calls pG 107 #[.string a,.int .i64 (i:Int)] w fun e w'=>e=.returned (.string (mkS (gC a.data.toList i)))/\Below w.heap.size w w':=by
 have e:=aP9 a i;have d:=hid e;clear e;have D:i<=a.size:=by omega
 have F:i+1<=a.size:=by omega
 go_enter func107,ntmps107;go_wp2
 go_quiet (fail)
 go_wp2;go_ret;exact⟨yV d.out,kY (aH _ _) _⟩
theorem aAw (a s:ByteArray) (w:World) (ha:a.size<=1000) (hs:s.size<=1000000) (G:a.data.toList.Nodup) (H:∀b∈s.data.toList,b∈a.data.toList):
  Calls pG 76 #[.string a,.string s] w fun e w'=>∃v,e=.returned (.tuple #[v,.int .i64 0])/\OwI w' w.heap.size v (dL a.data.toList s.data.toList)/\Below w.heap.size w w':=by
 have U:Calls pG 92 #[.string a,.string s] w fun e w'=>∃v u,e=.returned (.tuple #[v,u,.int .i64 0])/\OwI w' w.heap.size v (dL a.data.toList s.data.toList)/\Below w.heap.size w w':=by
  have HN:=hid G;have a1:=hid H;have V:s.data.toList.length=s.size:=by simp
  have Y:a.data.toList.length=a.size:=by simp
  have Z:=hid V;have a8:=hid Y;clear G H V Y;go_enter func92,ntmps92;go_wp2_with fail;refine(aAu a _ (by omega) HN.out).mono ?_;rintro e d ⟨rfl,rfl⟩;go_wp2_with fail
  go_loopg [8,9,10,11] s.size (fun gh s8 s9 a2 _s11 wr=>∃k:Nat,k<=s.size/\gh=s.size-k/\a2=.int .i64 k/\s8=.string (mkS (fH a.data.toList (s.data.toList.take k)))/\OwI wr d.heap.size s9 (dL a.data.toList (s.data.toList.take k))/\Below d.heap.size d wr)
  case atStart=>exact⟨0,aO _,rfl,rfl,by simp[fH,qB],OwI.nil _ _,aH _ _⟩
  case round=>
  obtain⟨k,hk,I,rfl,rfl,h,J⟩:=hrel;have HG:=hid I;clear I
  by_cases L:k<s.size
  ·obtain⟨A,M⟩:∃A,A=mkS (fH a.data.toList (s.data.toList.take k)):=⟨_,rfl⟩;have D:A.data.toList=fH a.data.toList (s.data.toList.take k):=by rw[M];rfl
   have F:=JH (s.data.toList.take k) a.data.toList;rw[<-D] at F;have a3:A.size=a.size:=by
    have:=F.length_eq
    simpa using this
   have a0:s[k]∈A.data.toList:=F.mem_iff.2 (a1.out _ (cN (fW s k L)));have e1:=hid (show dL a.data.toList (s.data.toList.take (k+1))=dL a.data.toList (s.data.toList.take k)++[((plc A.data.toList s[k]:Nat):Int)] by
    rw[cG,fW s k L,rD,JI,<-D])
   have e2:=hid (show fH a.data.toList (s.data.toList.take (k+1))=gC A.data.toList (plc A.data.toList s[k]) by
    rw[cG,fW s k L,rD,PF,<-D])
   have a4:=hid (show(dL a.data.toList (s.data.toList.take k)).length=k by rw[vQ,aQ,Z.out];omega);rw[<-M];have O:=vP a0;rw[show A.data.toList.length=A.size by simp] at O;obtain⟨p,T⟩:∃p,p=plc A.data.toList s[k]:=⟨_,rfl⟩;rw[<-T] at O e1 e2;have a5:=hid T;have a9:A.size<=1000:=by omega
   have a6:=J.size;have hb:=s[k].toNat_lt;clear M D F a3 T;go_wp2_with fail;refine(aAt A s[k] _ (by omega) a0).mono ?_;rintro e w2 ⟨rfl,rfl⟩;rw[<-a5.out];go_wp2_with (at_builtin;refine gK rfl _ _ rfl d.heap.size _ _ rfl (h.alloc _) w2.heap.size (p:Int) rfl ?_ ?_ ?_ ?_;(exact bX _ _ _);(rw[a4.out];omega);(simp;omega);intro v' w3 a7 hB b0);refine(aAv A p _ (by omega) O).mono ?_;rintro e w4 ⟨rfl,h4⟩;rw[<-e2.out];go_wp2_with fail;have I:=HG.out
   go_roundg (s.size-(k+1))
   case measure=>omega
   case rel=>exact⟨k+1,by omega,rfl,by go_num,rfl,by rw[e1.out];exact a7.below h4 (aD _),((J.alloc a6 _).trans hB).trans (h4.mono (by have:=hB.size;simp at this;omega))⟩
  ·have b1:k=s.size:=by omega
   go_wp2_with fail
   go_ret3
   rw[cD (by rw[Z.out];omega)] at h;exact⟨_,_,rfl,h,J⟩
 have HT:=hid U;clear U G H;go_enter func76,ntmps76;go_wp2_with fail;refine HT.out.mono ?_;rintro e d ⟨v,u,rfl,h,hb⟩;go_wp2_with fail
 go_ret2
 exact⟨_,rfl,h,hb⟩
theorem aAx (a:ByteArray) (v:Value) (l:List Int) (w:World) (ha:a.size<=1000) (hl:l.length<=1000000) (J:a.data.toList.Nodup) (L:RdI w v l) (d:∀x∈l,0<=x/\x<(a.size:Int)):
  Calls pG 115 #[.string a,v] w fun e w'=>e=.returned (.tuple #[.string (mkS (unL a.data.toList l)),.int .i64 0])/\Below w.heap.size w w':=by
 obtain⟨ad,ca,rfl,a4,Y,M⟩:=L.open;unfold maxLen at Y;have Z:=hid J;have HX:=hid d;clear J d L;go_enter func115,ntmps115;go_wp2_with fail;refine(aAu a _ (by omega) Z.out).mono ?_;rintro e O ⟨rfl,rfl⟩;go_wp2_with fail
 go_loopg [7,8,9] l.length (fun gh s7 s8 s9 wr=>∃k:Nat,k<=l.length/\gh=l.length-k/\s9=.int .i64 k/\s7=.string (mkS (unA a.data.toList (l.take k)))/\s8=.string (mkS (unL a.data.toList (l.take k)))/\Below O.heap.size O wr)
 case atStart=>exact⟨0,aO _,rfl,rfl,by simp[unA,qB],by simp[unL,mkS],aH _ _⟩
 case round=>
 obtain⟨k,hk,H,rfl,rfl,rfl,h⟩:=hrel;have HG:=hid H;clear H
 by_cases a0:k<l.length
 ·obtain⟨b0,o0,rfl,T,U⟩:=M (by omega);obtain⟨x,d⟩:=eG a0;have c1:=(h.cell (p:=⟨b0,o0+k,none⟩) T).trans (U k x d);have a1:=HX.out x (cN d);obtain⟨i,rfl⟩:∃i:Nat,x=(i:Int):=⟨x.toNat,by omega⟩;obtain⟨A,D⟩:∃A,A=mkS (unA a.data.toList (l.take k)):=⟨_,rfl⟩;have I:A.data.toList=unA a.data.toList (l.take k):=by rw[D];rfl
  have a2:A.size=a.size:=by rw[D,cS,(YM _ _).length_eq];simp
  obtain⟨S,F⟩:∃S,S=mkS (unL a.data.toList (l.take k)):=⟨_,rfl⟩;have a3:S.size=k:=by rw[F,cS,sL,aQ];omega
  have V:i<A.size:=by omega
  have a5:A.size<=1000:=by omega
  obtain⟨C,G⟩:∃C,C=mkS [A.data.toList.getD i 0]:=⟨_,rfl⟩;have eC:A.extract i (i+1)=C:=by rw[JA A i V,G]
  have a6:C.size=1:=by rw[G];rfl
  have e1:=hid (show mkS (unL a.data.toList (l.take (k+1)))=S++C by
   rw[cG,d,rD,PH,<-sI,F,G,I];rfl)
  have e2:=hid (show mkS (unA a.data.toList (l.take (k+1)))=mkS (gC A.data.toList i) by
   rw[cG,d,rD,PI,<-I];rfl)
  rw[<-D,<-F];have t1:decide ((i:Int)<0)=false:=aE (by omega);have t2:decide (A.size<=i)=false:=aE (by omega);have a7:i+1<=A.size:=by omega
  have a8:S.size<=1000000:=by omega
  have a9:=Nat.lt_of_lt_of_le T h.size;clear U M d a1 D I a2 F a3 G;go_wp2_with fail
  go_quiet (fail)
  clear eC;go_wp2_with fail;refine(aAv A i _ (by omega) V).mono ?_;rintro e w2 ⟨rfl,h2⟩;rw[<-e2.out];go_wp2_with fail;have H:=HG.out
  go_roundg (l.length-(k+1))
  case measure=>omega
  case rel=>exact⟨k+1,by omega,rfl,by go_num,rfl,by rw[e1.out],(kY h _).trans (h2.mono h.size)⟩
 ·have b1:k=l.length:=by omega
  go_wp2_with fail
  go_ret2
  rw[cD (by omega)];exact⟨rfl,h⟩
end
section
open Go.RowKit Go Go.Shelf
def bW (e:Option Nat) (W d:World):Prop:=W.heap.size<=d.heap.size/\∀k o,W.heap[k]? =some o->o.isCells=true->some k≠e->d.heap[k]? =some o
theorem bW.refl (d:Option Nat) (W:World):bW d W W:=by grind [bW]
theorem bW.trans {d:Option Nat} {A B C:World} (h:bW d A B) (k:bW d B C):bW d A C:=by grind [bW]
theorem bW.of_below {e:Option Nat} {A B:World} (h:Below A.heap.size A B):bW e A B:=⟨h.size,fun k _ d _ _=>(h.block k (fE.1 d).1).trans d⟩
theorem bW.some {A B:World} (h:bW none A B) (d:Option Nat):bW d A B:=by grind [bW]
theorem bW.putObj {d:Option Nat} (W:World) {l:Nat} {o:Obj} (A:Obj) (h:W.heap[l]? =aY o) (F:o.isCells=false):bW d W (W.putObj l A):=
 ⟨by simp,fun k q D G _=>by
  have:k≠l:=fun e=>by grind
  rw[qA this];exact D⟩
theorem bW.grownBy {A B:World} {d:Option Nat} (h:A.grownBy B d):bW d A B:=⟨h.size,fun k _ e _ D=>(h.block k (fE.1 e).1 D).trans e⟩
theorem bW.arr {d:Option Nat} {A B:World} (h:bW d A B) {b:Nat} {e:TypeId} {l:List Value} (D:Arr A b e l) (F:aY b≠d):Arr B b e l:=h.2 b _ D rfl F
theorem bW.cell {D:Option Nat} {A B:World} (h:bW D A B) {p:Addr} {v:Value} (d:A.cell? p=aY v) (F:aY p.block≠D):B.cell? p=aY v:=by
 unfold World.cell? at d ⊢
 cases e:A.heap[p.block]? with
 |none=>rw[e] at d;simp at d
 |some o=>
  have G:o.isCells=true:=by
   rw[e] at d
   cases o<;>simp_all [Obj.isCells]
  rw[h.2 _ _ e G F];rw[e] at d;exact d
theorem bW.ow {A B:World} {d:Option Nat} (h:bW d A B) {base e:Nat} {v:Value} {D:List Value} (F:Ow A base e v D) (H:∀k,v.ownBlock=aY k->aY k≠d):Ow B base e v D:=by
 refine⟨F.1,?_⟩;rcases F.2 with I|⟨g,cap,J,G,L,M,rest⟩
 ·exact .inl I
 ·exact .inr ⟨g,cap,J,G,L,h.2 g _ M rfl (H g (by rw[G];rfl)),rest⟩
theorem TW (W:World) (g i:Nat) (v:Value):W.grownBy (W.setCell ⟨g,i,none⟩ v) (some g):=
 ⟨rfl,rfl,rfl,by simp,fun k _ d=>heap_setCell_other W ⟨g,i,none⟩ k v (fun e=>d (by rw[e]))⟩
def aG6 {α:Type} (n:Nat) (P:fO) (g:Nat) (lb:Array Value) (encs:α->Array Value) (Kp:World->World->Prop) (Pre:Nat->List α->α->World->Prop) (H:List α->Prop) (w:World):Prop:=
 ∀(l:Nat) (J F:List α->World->Prop) (W:World),Below w.heap.size w W->(∀s A B,J s A->Below W.heap.size A B->J s B)->(∀s A B,F s A->Below W.heap.size A B->F s B)->
  (∀d x D,J d D->W.heap.size<=D.heap.size->Pre W.heap.size d x D->
   YieldAt cZ (n-1) P l (encs x) D fun e h=>(e=.returned (.bool true)/\J (d++[x]) h/\Kp D h)\/(e=.returned (.bool false)/\F (d++[x]) h))->
  J [] W->
  CallsIn cZ n P g (#[.func (.yield l) #[] #[]]++lb) W fun e h=>(∃v,e=.returned v)/\((∃G,H G/\J G h)\/∃d,F d h)
theorem aG7 {α:Type} {n:Nat} {P:fO} {g:Operand} {ps:Array Tmp} {assign body:Code} {Q:Exit->Act->World->Prop} {a:Act} {w:World}
  (h1:1<=n) {gf:Nat} {lb:Array Value} (hg:a.eval g=.func (.func gf) #[] lb) (eg:∀args w,(callFunc gf args).run P w=.ok (.enter gf args) w)
  {encs:α->Array Value} {Kp:World->World->Prop} {Pre:Nat->List α->α->World->Prop} {b3:List α->Prop} {w0:World} (b8:aG6 (n-1) P gf lb encs Kp Pre b3 w0) (b4:Below w0.heap.size w0 w) (b9:∀x,(encs x).size=ps.size)
  (b0:∀{A B C:World},Kp A B->Kp B C->Kp A C) (b1:∀A B,bW none A B->Kp A B)
  (b5:∀B d x A A',Pre B d x A->bW none A A'->Pre B d x A')
  (I:List α->World->Prop) (Ix:Code->List α->World->Prop) (hI:∀s A B,I s A->Below w.heap.size A B->I s B) (a6:∀c s A B,Ix c s A->Below w.heap.size A B->Ix c s B) (h0:I [] w)
  (Ax:α->Act->World->Prop) (c0:∀x O A A',Ax x O A->bW none A A'->Ax x O A')
  (c1:∀(l B:Nat) (d:List α) (x:α) (W:World) (K:Act->World->Prop),I d W->w.heap.size<=B->B<=W.heap.size->Pre B d x W->(∀O W',Below W.heap.size W W'->Ax x O W'->K O W')->
   assign.wpIn (cZ.inRound l) (n-1-1) P (Exit.then K (fun _ _ _=>False)) {tmps:=(ps.zip (encs x)).foldl (fun t (p,v)=>t.setIfInBounds p v) a.tmps,defers:=[]} W)
  (hbody:∀(l B:Nat) (d:List α) (x:α) (O:Act) (W:World),I d W->w.heap.size<=B->B<=W.heap.size->Pre B d x W->Ax x O W->body.wpIn (cZ.inRound l) (n-1-1) P (ownPostG w.heap.size Kp I Ix (d++[x]) W) O W)
  (hdone:∀(D:Nat) (xs:List α) (W:World),w.heap.size<=D->b3 xs->I xs W->W.heap[D]? =some (.deferred (some []))->Q .normal {a with defers:={target:=.collected D,args:=#[]}::a.defers} W)
  (hstop:∀(D:Nat) (c:Code) (d:List α) (W:World),w.heap.size<=D->Ix c d W->W.heap[D]? =some (.deferred (some []))->c.wpIn cZ n P Q {a with defers:={target:=.collected D,args:=#[]}::a.defers} W):
  (Code.rangeFunc g ps assign body).wpIn cZ n P Q a w:=by
 refine wpIn_rangeFunc ?_;intro fn c2;rw[show cZ.round=none from rfl];obtain⟨F,T⟩:∃F:LoopState->Option Code->Loop,F=fun st pe=>{state:=st,pending:=pe,fn,tmps:=a.tmps,params:=ps,assign,body,defers:=w.heap.size}:=⟨_,rfl⟩
 obtain⟨G,a7⟩:∃G,(w.alloc (.deferred (some []))).alloc (.loop (F .ready none))=G:=⟨_,rfl⟩;have c3:G.heap[w.heap.size+1]? =some (.loop (F .ready none)):=by
  rw[<-a7];have:=AZ (w.alloc (.deferred (some []))) (.loop (F .ready none));rwa[World.size_alloc] at this
 have c4:G.heap[w.heap.size]? =some (.deferred (some [])):=by
  rw[<-a7];exact(Below.heap_alloc _ _ _ (by simp)).trans (AZ w _)
 have b6:Below w.heap.size w G:=by rw[<-a7];exact((aH _ w).alloc (aD _) _).alloc (by simp) _
 have c5:I [] G:=hI _ _ _ h0 b6;have d7:G.heap.size=w.heap.size+2:=by rw[<-a7];simp
 have c6:Below w0.heap.size w0 G:=b4.trans (b6.mono b4.size);have Z:∀(A:World) (l:Nat) (o o':Obj),w.heap.size<=l->A.heap[l]? =some o->o.isCells=false->o.isWalk=false->Below w.heap.size A (A.putObj l o'):=fun A l o o' H h k1 k2=>belowK_b (w:=w) (aD _) A l o o' H h k1 k2
 refine⟨w.heap.size+1,[{target:=.collected w.heap.size,args:=#[]}],G,{target:=.fn (.func gf) lb,args:=#[.func (.yield (w.heap.size+1)) #[] #[]]},G,gf,
  #[.func (.yield (w.heap.size+1)) #[] #[]]++lb,G,?_,?_,?_,?_,fun _=>h1,?_⟩
 ·rw[<-a7,T];exact run_enterLoop_outer _ _ _ _ _
 ·simp only[resolve,hg];simp[go_sem]
 ·exact fun _ _=>trivial
 ·simp[invoke,go_sem,eg]
 ·have a8:∀{A B:World} {k:Nat} {o:Obj},Below G.heap.size A B->k<G.heap.size->A.heap[k]? =some o->B.heap[k]? =some o:=fun h V ho=>(h.block _ V).trans ho
  refine(b8 (w.heap.size+1)
   (fun d W=>I d W/\W.heap[w.heap.size+1]? =some (.loop (F .ready none))/\W.heap[w.heap.size]? =some (.deferred (some [])))
   (fun d W=>∃c,Ix c d W/\W.heap[w.heap.size+1]? =some (.loop (F .done (some c)))/\W.heap[w.heap.size]? =some (.deferred (some [])))
   G c6
   (fun s A B hs a0=>⟨hI s A B hs.1 (a0.mono (by omega)),a8 a0 (by omega) hs.2.1,a8 a0 (by omega) hs.2.2⟩)
   (fun s A B hs a0=>by
    obtain⟨c,hc,H,V⟩:=hs;exact⟨c,a6 c s A B hc (a0.mono (by omega)),a8 a0 (by omega) H,a8 a0 (by omega) V⟩)
   ?_ ⟨c5,c3,c4⟩).mono ?_
  ·rintro d x W ⟨hi,H,V⟩ c7 b7;have c8:w.heap.size+1<W.heap.size:=(fE.1 H).1;have hy:=run_yield (P:=P) (args:=encs x) H (by rw[T];exact b9 x);rw[T] at hy;refine⟨fn,_,assign,body,hy,roundIn_of_wpIn c2 (c1 _ _ d x W _ hi (by omega) c7 b7 ?_)⟩;clear hy;intro O Y a5 c9;have a9:Y.heap[w.heap.size+1]? =some (.loop (F .ready none)):=(a5.block _ c8).trans H;have d0:Y.heap[w.heap.size]? =some (.deferred (some [])):=(a5.block _ (by omega)).trans V;have d1:w.heap.size+1<Y.heap.size:=(fE.1 a9).1;have d2:I d Y:=hI _ _ _ hi (a5.mono (by omega))
   have d3:=b5 _ _ _ _ _ b7 (bW.of_below a5);refine⟨_,run_beginRound a9 (by rw[T]),?_⟩;have d4:(Y.putObj (w.heap.size+1) (.loop {F .ready none with state:=.busy})).heap[w.heap.size+1]? =some (.loop {F .ready none with state:=.busy}):=BA d1;have d5:(Y.putObj (w.heap.size+1) (.loop {F .ready none with state:=.busy})).heap[w.heap.size]? =some (.deferred (some [])):=(qA (by omega)).trans d0;have b2:∀bo,bW bo Y (Y.putObj (w.heap.size+1) (.loop {F .ready none with state:=.busy})):=fun bo=>bW.putObj _ _ a9 rfl
   refine wpIn_mono (hbody _ _ d x O _ (hI _ _ _ d2 (Z _ _ _ _ (by omega) a9 rfl rfl)) (by omega) (by have:=a5.size;simp;omega) (b5 _ _ _ _ _ d3 (b2 none)) (c0 _ _ _ _ c9 (b2 none))) ?_;have fin:∀(L:Option Code) (M:World),KeepsFrom w.heap.size (Y.putObj (w.heap.size+1) (.loop {F .ready none with state:=.busy})) M->
     (Instr.endRound (w.heap.size+1) L).run P M=.ok (.bool L.isNone) (M.putObj (w.heap.size+1) (.loop (F (if L.isNone then .ready else .done) L)))/\
     M.heap[w.heap.size+1]? =some (.loop {F .ready none with state:=.busy})/\
     (M.putObj (w.heap.size+1) (.loop (F (if L.isNone then .ready else .done) L))).heap[w.heap.size+1]? =some (.loop (F (if L.isNone then .ready else .done) L))/\
     (M.putObj (w.heap.size+1) (.loop (F (if L.isNone then .ready else .done) L))).heap[w.heap.size]? =some (.deferred (some [])):=fun L M U=>by
    have J:=U.same _ _ (by omega) d4 rfl;have:=run_endRound (P:=P) L J;rw[T] at this ⊢;exact⟨this,by rw[T] at J;exact J,BA (fE.1 J).1,(qA (by omega)).trans (U.same _ _ (aD _) d5 rfl)⟩
   rintro e a3 M hp
   cases e with
   |normal=>
    obtain⟨U,d6,a1⟩:=hp;obtain⟨hr,J,a2,a4⟩:=fin none M U;exact⟨_,_,hr,.inl ⟨rfl,⟨hI _ _ _ a1 (Z _ _ _ _ (by omega) J rfl rfl),a2,a4⟩,b0 (b1 _ _ (bW.of_below a5)) (b0 (b1 _ _ (b2 none)) (b0 d6 (b1 _ _ (bW.putObj _ _ J rfl))))⟩⟩
   |ret=>
    obtain⟨U,a1⟩:=hp;obtain⟨hr,J,a2,a4⟩:=fin (some .ret) M U;exact⟨_,_,hr,.inr ⟨rfl,.ret,a6 _ _ _ _ a1 (Z _ _ _ _ (by omega) J rfl rfl),a2,a4⟩⟩
   |exit id=>
    obtain⟨U,a1⟩:=hp;obtain⟨hr,J,a2,a4⟩:=fin (some (.exit id)) M U;exact⟨_,_,hr,.inr ⟨rfl,.exit id,a6 _ _ _ _ a1 (Z _ _ _ _ (by omega) J rfl rfl),a2,a4⟩⟩
   |goto t=>
    obtain⟨U,a1⟩:=hp;obtain⟨hr,J,a2,a4⟩:=fin (some (.goto t)) M U;exact⟨_,_,hr,.inr ⟨rfl,.goto t,a6 _ _ _ _ a1 (Z _ _ _ _ (by omega) J rfl rfl),a2,a4⟩⟩
   |panic ch=>exact hp.elim
   |outgrown=>exact hp.elim
  ·rintro e W2 ⟨⟨v,rfl⟩,(⟨xs,hS,hi,H,V⟩|⟨d,c,hi,H,V⟩)⟩
   ·exact⟨none,_,by have:=run_endLoop (P:=P) H (by rw[T];simp);rw[T] at this;exact this,hdone _ xs _ (aD _) hS (hI _ _ _ hi (Z _ _ _ _ (by omega) H rfl rfl)) ((qA (by omega)).trans V)⟩
   ·exact⟨some c,_,by have:=run_endLoop (P:=P) H (by rw[T];simp);rw[T] at this;exact this,hstop _ c d _ (aD _) (a6 _ _ _ _ hi (Z _ _ _ _ (by omega) H rfl rfl)) ((qA (by omega)).trans V)⟩
theorem aZ4 {l0 n:Nat} {P:fO} {row:String} {args:Array Value} {w:World} {R:Value->World->Prop} (h:Rows P row args w R):RowsIn (cZ.inRound l0) n P row args w R:=fun c d _=>
 let⟨v,w',r,s⟩:=h c d;⟨v,w',r,stepsIn_wide.2 s⟩
theorem aZ5 {l0 n:Nat} (d:1<=n) {P:fO} {o:Oper} (e:∀c,o.op≠.defer c) {a:Act} {w:World} {K:Act->World->Prop} {Q:Exit->Act->World->Prop} (h:o.wp P a w K Q):o.wpIn (cZ.inRound l0) n P a w K Q:=by
 refine⟨fun _ _=>trivial,?_⟩;rw[Oper.semAt_plain (cZ.inRound l0) _ _ e];unfold Oper.wp at h
 revert h
 generalize (execOp a.eval o).run P w=r;intro h
 cases r with
 |ok x w'=>
  cases x<;>first|exact h|exact⟨fun _=>d,callsIn_wide.2 h⟩|exact⟨fun _=>d,aZ4 h⟩|exact h.elim
 |halt A w'=>
  cases A<;>first|exact h|exact h.elim
theorem aG8 {l0 n:Nat} (I:1<=n) {P:fO} {md:Region.Mode} {A:Array Oper} {Q:Exit->Act->World->Prop} (J:¬LetsOut Q) (L:∀(i:Nat) (o:Oper),A[i]? =some o->∀c,o.op≠.defer c):
  ∀(D:Nat) (F:Array Bool) (a:Act) (w:World),wpAny P md A Q D F a w->wpAnyIn (cZ.inRound l0) n P md A Q D F a w
 |0,_,_,_,h=>h
 |D+1,F,a,w,h=>⟨h.1,fun i M=>by
  have d:=h.2 i M;have G:=aG8 (l0:=l0) (P:=P) (md:=md) (Q:=Q) I J L D (F.setIfInBounds i true);unfold wpOp at d;unfold wpOpIn
  cases e:A[i]? with
  |none=>rw[e] at d;exact G _ _ d
  |some o=>
   rw[e] at d;dsimp only at d ⊢;split
   ·next H=>
    rw[aB H] at d;refine aZ5 I (L i o e) ?_;exact Oper.wp_mono (fun O w'=>G O w') (d.resolve_right (fun x=>J x.2))
   ·next H=>
    rw[aA H] at d;exact⟨fun _ _=>trivial,G _ _ d⟩⟩
def TX (o:Oper):Bool:=match o.op with|.defer _=>false|_=>true
theorem aZ6 {d:Array Oper} (h:d.toList.all TX=true):∀(i:Nat) (o:Oper),d[i]? =some o->∀c,o.op≠.defer c:=by grind [TX]
theorem aG9 {l0 n:Nat} (e:1<=n) {P:fO} {A:Nat} {d:Array Oper} {Q:Exit->Act->World->Prop} {a:Act} {w:World} (S:World->Prop) (D:P.follows .mixedOrders=true) (F:¬LetsOut Q) (G:d.toList.all TX=true)
  (h:wpAnyH P .any d Q S d.size (Array.replicate d.size false) a w.drew):(Code.region A d true).wpIn (cZ.inRound l0) n P Q a w:=
 wpIn_region_any D (aG8 e F (aZ6 G) _ _ _ _ (wpAny_of_held _ _ _ _ h))
theorem nA {b c o p:Nat} (h:b≠c):(⟨b,o,none⟩:Addr)≠⟨c,p,none⟩:=by simp
theorem FQ {w:World} {d e A D q:Addr} {F G H I:Value} (h:w.cell? d=some F/\w.cell? e=some G/\w.cell? A=some H/\w.cell? D=some I) (J:q≠d) (L:q≠e) (M:q≠A) (O:q≠D) (v:Value):
  (w.setCell q v).cell? d=some F/\(w.setCell q v).cell? e=some G/\(w.setCell q v).cell? A=some H/\(w.setCell q v).cell? D=some I:=by
 rw[lI _ _ _ _ J,lI _ _ _ _ L,lI _ _ _ _ M,lI _ _ _ _ O];exact h
end
section
open Go.RowKit Go
theorem bAe (s:ByteArray) (w:World) (hs:s.size<=140737488355328):
  Calls pG 73 #[.string s] w fun e w'=>e=.returned (.int .i64 ((bF s.data.toList:Nat):Int))/\Below w.heap.size w w':=by
 have D:=hid (show s.data.toList.length=s.size by simp);go_enter func73,ntmps73;go_wp2_with fail
 go_loopg [3] 256 (fun g T wr=>∃k:Nat,k<=s.size/\k<=255/\g=256-k/\T=.int .i64 (k:Int)/\Hid (∀j,j<k->s.data.toList[j]? =s.data.toList[0]?)/\Below w.heap.size w wr)
 case atStart=>exact⟨0,aO _,by omega,rfl,rfl,hid (fun j U=>by omega),aH _ _⟩
 case round=>
  obtain⟨k,J,L,M,rfl,F,G⟩:=hrel;have V:=hid M;clear M
  by_cases Y:k<s.size
  ·have Z:decide ((k:Int)<(s.size:Int))=true:=aG (by omega)
   by_cases a0:k<255
   ·have t2:decide ((k:Int)<255)=true:=aG (by omega);have h0:0<s.size:=by omega
    have H:=fW s k Y;have I:=fW s 0 h0;obtain⟨b,d⟩:∃b,b=s[k].toNat:=⟨_,rfl⟩;obtain⟨c,h⟩:∃c,c=s[0].toNat:=⟨_,rfl⟩
    by_cases O:b=c
    ·have t3:((b:Int)==(c:Int))=true:=by rw[O];simp
     have t4:decide ((b:Int)=(c:Int))=true:=aG (by omega);have HS:=hid (show s.data.toList[k]? =s.data.toList[0]? by rw[H,I];congr 1;exact tH.1 (by rw[<-d,<-h];exact O));have e1:(s[k].toNat:Int)=(b:Int):=by rw[d]
     have e2:(s[0].toNat:Int)=(c:Int):=by rw[h]
     clear H I d h;go_wp2_with fail
     go_quiet (fail)
     go_wp2_with fail;have M:=V.out
     go_roundg (256-(k+1))
     case measure=>omega
     case rel=>exact⟨k+1,by omega,by omega,rfl,by go_num,hid (fun j U=>by rcases cF j k with q|q;exact F.out j q;rw[show j=k by omega];exact HS.out),kY G _⟩
    ·have t3:((b:Int)==(c:Int))=false:=by rw[cB];omega
     have t4:decide ((b:Int)=(c:Int))=false:=aE (by omega);have A:=hid (show bF s.data.toList=k from zL L (by rw[D.out];exact J) F.out (.inr (.inr (by rw[H,I];intro e;injection e with e;exact O (by rw[d,h,e])))));have e1:(s[k].toNat:Int)=(b:Int):=by rw[d]
     have e2:(s[0].toNat:Int)=(c:Int):=by rw[h]
     clear H I d h;go_wp2_with fail
     go_quiet (fail)
     go_wp2_with fail;go_ret;exact⟨eI (by rw[A.out]),kY G _⟩
   ·have t2:decide ((k:Int)<255)=false:=aE (by omega);have A:=hid (show bF s.data.toList=k from zL L (by rw[D.out];exact J) F.out (.inl (by omega)));go_wp2_with fail
    go_quiet (fail)
    go_wp2_with fail;go_ret;exact⟨eI (by rw[A.out]),kY G _⟩
  ·have Z:decide ((k:Int)<(s.size:Int))=false:=aE (by omega);have A:=hid (show bF s.data.toList=k from zL L (by rw[D.out];exact J) F.out (.inr (.inl (by rw[D.out];omega))));go_wp2_with fail
   go_quiet (fail)
   go_wp2_with fail;go_ret;exact⟨eI (by rw[A.out]),kY G _⟩
theorem bAf (b:UInt8) (W:World):(convert 61 9 (.slice (some ⟨W.heap.size,0,none⟩) 1 1)).run pG (W.alloc (.cells #[.int .u8 (b.toNat:Int)] 5)).drew=.ok (.string (mkS [b])) (W.alloc (.cells #[.int .u8 (b.toNat:Int)] 5)).drew:=
 mP (l:=[b]) (Arr.rdB (w:=(W.alloc (.cells #[.int .u8 (b.toNat:Int)] 5)).drew) (l:=[b]) (Arr.new W 5 [.int .u8 (b.toNat:Int)]) rfl (by decide))
theorem aHf (s:ByteArray) (w:World) (hs:s.size<=1000000):
  Calls pG 58 #[.string s] w fun e w'=>e=.returned (.string (mkS (bT s.data.toList)))/\Below w.heap.size w w':=by
 have F:=hid (show s.data.toList.length=s.size by simp);go_enter func58,ntmps58;go_wp2_with fail
 go_loopg [3,4,5] s.size (fun g s3 s4 _s5 wr=>∃(a:Nat) (o:List UInt8),a<=s.size/\g=s.size-a/\s4=.int .i64 (a:Int)/\s3=.string (mkS o)/\Hid (o++bT (s.data.toList.drop a)=bT s.data.toList)/\Below w.heap.size w wr)
 case atStart=>exact⟨0,[],aO _,rfl,rfl,rfl,hid (by simp),aH _ _⟩
 case round=>
  obtain⟨a,o,ha,I,rfl,rfl,O,G⟩:=hrel;have HG:=hid I;clear I
  by_cases b2:a<s.size
  ·have t1:decide ((a:Int)<(s.size:Int))=true:=aG (by omega);have T:s.data.toList.drop a≠[]:=fun e=>by have:=congrArg nU e;rw[bA,F.out] at this;simp at this;omega
   have a3:=mH _ T;have J:=aTn T O.out;have b3:o.length<=2000000:=by
    have h1:=(uM s.data.toList.length s.data.toList (aD _)).1;have h2:=congrArg nU O.out;rw[aL] at h2;rw[F.out] at h1;omega
   have hx:s.extract a s.size=mkS (s.data.toList.drop a):=by
    rw[iW,cD (by rw[bA,F.out];omega)]
   have a9:(s.data.toList.drop a).length=s.size-a:=by rw[bA,F.out]
   obtain⟨r,L⟩:∃r,r=s.data.toList.drop a:=⟨_,rfl⟩;rw[<-L] at hx a3 J a9;have U:=fun W=>bAe (mkS r) W (by rw[cS];omega)
   obtain⟨n,V⟩:∃n,n=bF r:=⟨_,rfl⟩;rw[dP,<-V] at U;rw[<-V] at a3 J;have a4:r.drop n=s.data.toList.drop (a+n):=by rw[L,kG]
   have a5:=hid J;have HD:=hid a4;have HR:=hid L;clear T V L J a4;have q1:a<=s.size:=ha;have q2:(a:Int)<=(s.size:Int):=by omega
   by_cases h4:n<4
   ·have t2:decide ((n:Int)<4)=true:=aG (by omega);have Y:aJ.wrap ((a:Int)+(n:Int))=((a+n:Nat):Int):=by rw[aM];omega
    have Z:a+n<=s.size:=by omega
    have q4:((a+n:Nat):Int)<=(s.size:Int):=by omega
    have q5:(a:Int)<=((a+n:Nat):Int):=by omega
    have q6:a<=a+n:=by omega
    have H:s.extract a (a+n)=mkS (pP r n):=by
     rw[iW,<-HR.out,show a+n-a=n by omega]
     congr 1
     unfold pP;rw[aA (by omega),dI,Nat.min_eq_left (by omega)]
    have a6:(pP r n).length<=5:=by
     rw[RR r n (by omega)];split<;>omega
    obtain⟨p,A⟩:∃p,p=pP r n:=⟨_,rfl⟩;rw[<-A] at H a6;have HP:=hid A;clear A;obtain⟨c,h⟩:∃c:Nat,c=a+n:=⟨_,rfl⟩;rw[<-h] at Y Z q4 q5 q6 H;have b0:mkS o++mkS p=mkS (o++p):=sI o p;have HC:=hid h;clear h;go_wp2_with fail;refine(U _).mono ?_;rintro e w1 ⟨rfl,M⟩;go_wp2_with fail;have I:=HG.out;have h:=HC.out;have a0:=G.size
    go_roundg (s.size-c)
    case measure=>omega
    case rel=>exact⟨c,o++p,Z,rfl,by go_num,rfl,hid (by rw[HP.out,h,<-HD.out];exact a5.out),G.trans (M.mono a0)⟩
   ·have t2:decide ((n:Int)<4)=false:=aE (by omega);have Y:aJ.wrap ((a:Int)+4)=((a+4:Nat):Int):=by rw[aM];omega
    have m2:aJ.wrap ((a:Int)+(n:Int))=((a+n:Nat):Int):=by rw[aM];omega
    have m3:aJ.wrap ((n:Int)-4)=((n-4:Nat):Int):=by rw[aM];omega
    have H:s.extract a (a+4)=mkS (r.take 4):=by
     rw[iW,<-HR.out,show a+4-a=4 by omega]
    obtain⟨d,hd⟩:∃d:Nat,d=n-4:=⟨_,rfl⟩;obtain⟨b,hb⟩:∃b:UInt8,b=UInt8.ofNat d:=⟨_,rfl⟩;have a7:b.toNat=d:=by rw[hb,UInt8.toNat_ofNat'];omega
    have m4:IntKind.u8.wrap (d:Int)=(b.toNat:Int):=by rw[a7,IntKind.wrap_u8];omega
    have a1:r.take 4++[b]=pP r n:=by
     unfold pP;rw[aB (by omega),Nat.min_eq_right (by omega),hb,hd]
    rw[<-hd] at m3;obtain⟨D,a8⟩:∃D:Nat,D=a+4:=⟨_,rfl⟩;obtain⟨c,h⟩:∃c:Nat,c=a+n:=⟨_,rfl⟩;rw[<-a8] at Y H;rw[<-h] at m2;have Z:D<=s.size:=by omega
    have q4:(D:Int)<=(s.size:Int):=by omega
    have q5:(a:Int)<=(D:Int):=by omega
    have q6:a<=D:=by omega
    obtain⟨p,A⟩:∃p,p=r.take 4:=⟨_,rfl⟩;have a6:p.length<=4:=by rw[A,aQ];omega
    rw[<-A] at H a1;have b0:mkS o++mkS p=mkS (o++p):=sI o p;have b4:mkS (o++p)++mkS [b]=mkS (o++p++[b]):=sI _ _;have b1:=hid a1;have HC:=hid h;have q7:c<=s.size:=by omega
    have b5:=bAf b;have q8:¬9223372036854775807<o.length+p.length:=by omega
    have q9:¬9223372036854775807<o.length+p.length+1:=by omega
    clear hb a7 hd A a1 a8 h;go_wp2_with fail;refine(U _).mono ?_;rintro e w1 ⟨rfl,M⟩;go_wp2_with fail
    go_region
    all_goals
     go_wp2_with fail;have I:=HG.out;have h:=HC.out;have a0:=G.size;have b6:=M.size
     go_roundg (s.size-c)
     case measure=>omega
     case rel=>exact⟨c,o++(p++[b]),q7,rfl,by go_num,rfl,hid (by rw[b1.out,h,<-HD.out];exact a5.out),(G.trans (M.mono a0)).trans (((aH _ w1).alloc (aD _) _).mono (by omega)).drew⟩
  ·have t1:decide ((a:Int)<(s.size:Int))=false:=aE (by omega);have a2:=O.out;rw[IU (by rw[F.out];omega),LD,dI] at a2;have HF:=hid a2;clear a2;go_wp2_with fail;go_ret;exact⟨yV (by rw[HF.out]),G⟩
def FT (s:List UInt8):Ending:=match eX s with
 |none=>.returned (.tuple #[.string ⟨#[]⟩,.bool false])
 |some o=>.returned (.tuple #[.string (mkS o),.bool true])
theorem aHg {s:List UInt8} (h:eX s=none):FT s=.returned (.tuple #[.string ⟨#[]⟩,.bool false]):=by unfold FT;rw[h]
theorem aHh {s o:List UInt8} (h:eX s=some o):FT s=.returned (.tuple #[.string (mkS o),.bool true]):=by unfold FT;rw[h]
theorem bAg (s:ByteArray) (w:World) (hs:s.size<=1000000):
  Calls pG 117 #[.string s] w fun e w'=>e=FT s.data.toList/\Below w.heap.size w w':=by
 have HL:=hid (show s.data.toList.length=s.size by simp);go_enter func117,ntmps117;go_wp2_with fail
 go_loopg [4,5,6,7] s.size (fun g s4 s5 _s6 _s7 wr=>∃(a:Nat) (o:List UInt8),a<=s.size/\g=s.size-a/\s5=.int .i64 (a:Int)/\s4=.string (mkS o)/\Hid (eX s.data.toList=(eX (s.data.toList.drop a)).map (o++·))/\o.length<=52*a/\Below w.heap.size w wr)
 case atStart=>exact⟨0,[],aO _,rfl,rfl,rfl,hid (by rw[pI];cases eX s.data.toList<;>rfl),by simp,aH _ _⟩
 case round=>
  obtain⟨a,o,ha,d,rfl,rfl,HO,b8,a1⟩:=hrel;have a8:=hid d;clear d
  by_cases a2:a<s.size
  ·have t1:decide ((a:Int)<(s.size:Int))=true:=aG (by omega);have b9:=a1.size;have a9:(s.data.toList.drop a).length=s.size-a:=by rw[bA,HL.out]
   go_wp2_with fail
   go_loopg [6] 5 (fun g s6 J=>∃n:Nat,n<=4/\a+n<=s.size/\g=5-n/\s6=.int .i64 (n:Int)/\Hid (∀j,j<n->(s.data.toList.drop a)[j]? =some s[a])/\Below w.heap.size w J)
   case atStart=>exact⟨0,by omega,by omega,rfl,rfl,hid (fun j hj=>by omega),a1⟩
   case round=>
    obtain⟨n,c0,c2,d,rfl,L,M⟩:=hrel;have HG:=hid d;clear d;have O:=fW s a a2;obtain⟨T,hT⟩:∃T:Bool,T=decide (n<4/\a+n<s.size/\s.data.toList[a+n]? =some s[a]):=⟨_,rfl⟩;have HT:=hid hT;clear hT;go_upto_region 5 with fail
    go_cut [32] (fun b3 J=>b3=.bool T/\Below w.heap.size w J)
    case first=>
     by_cases U:n<4
     ·have u1:decide ((n:Int)<4)=true:=aG (by omega);obtain⟨q,D⟩:∃q,q=a+n:=⟨_,rfl⟩;have m1:aJ.wrap ((a:Int)+(n:Int))=(q:Int):=by rw[aM];omega
      have m2:(a:Int)+(n:Int)=(q:Int):=by omega
      rw[<-D] at HT;clear D
      by_cases I:q<s.size
      ·have u2:decide ((q:Int)<(s.size:Int))=true:=aG (by omega);have V:=fW s q I
       by_cases F:s[q]=s[a]
       ·have u3:((s[q].toNat:Int)==(s[a].toNat:Int))=true:=by rw[F];simp
        have u4:decide ((s[q].toNat:Int)=(s[a].toNat:Int))=true:=aG (by rw[F]);have G:=hid (show T=true by rw[HT.out,aG];exact⟨U,I,by rw[V,F]⟩);clear F O V
        go_quiet (fail)
        go_wp2_with fail;go_meet;exact⟨by rw[G.out],kY M _⟩
       ·have a3:(s[q].toNat:Int)≠(s[a].toNat:Int):=fun e=>F (tH.1 (by omega))
        have u3:((s[q].toNat:Int)==(s[a].toNat:Int))=false:=by rw[cB];exact a3
        have u4:decide ((s[q].toNat:Int)=(s[a].toNat:Int))=false:=aE a3;have G:=hid (show T=false by rw[HT.out,aE];rintro⟨_,_,Y⟩;rw[V] at Y;injection Y with Y;exact F Y);clear F O V a3
        go_quiet (fail)
        go_wp2_with fail;go_meet;exact⟨by rw[G.out],kY M _⟩
      ·have u2:decide ((q:Int)<(s.size:Int))=false:=aE (by omega);have G:=hid (show T=false by rw[HT.out,aE];rintro⟨_,h2,_⟩;exact I h2)
       go_quiet (fail)
       go_wp2_with fail;go_meet;exact⟨by rw[G.out],kY M _⟩
     ·have u1:decide ((n:Int)<4)=false:=aE (by omega);have G:=hid (show T=false by rw[HT.out,aE];rintro⟨h1,_,_⟩;exact U h1)
      go_quiet (fail)
      go_wp2_with fail;go_meet;exact⟨by rw[G.out],kY M _⟩
    case rest=>
    obtain⟨rfl,Z⟩:=hcut;clear M
    cases T with
    |true=>
     have a0:=of_decide_eq_true HT.out.symm;have HS:=hid (show(s.data.toList.drop a)[n]? =some s[a] by rw[jR];exact a0.2.2);have U:=a0.1;have I:=a0.2.1;clear a0 O;go_wp2_with fail;have d:=HG.out
     go_roundg (5-(n+1))
     case measure=>omega
     case rel=>exact⟨n+1,by omega,by omega,rfl,by go_num,hid (fun j hj=>by rcases cF j n with h|h;exact L.out j h;rw[show j=n by omega];exact HS.out),Z⟩
    |false=>
     have a4:=of_decide_eq_false HT.out.symm;have b4:1<=n:=by
      rcases Nat.eq_zero_or_pos n with h|h
      ·exact absurd (show n<4/\a+n<s.size/\s.data.toList[a+n]? =some s[a] from⟨by omega,by omega,by rw[h];exact O⟩) a4
      ·exact h
     have b0:n=4\/n=(s.data.toList.drop a).length\/(s.data.toList.drop a)[n]?≠some s[a]:=by
      by_cases U:n<4
      ·by_cases I:a+n<s.size
       ·right;right
        rw[jR];exact fun h=>a4 ⟨U,I,h⟩
       ·right;left;rw[a9];omega
      ·left;omega
     have HE:=hid b0;clear a4 b0 O HT;have a5:=HO.out;obtain⟨r,hr⟩:∃r,r=s.data.toList.drop a:=⟨_,rfl⟩;rw[<-hr] at HE L a9 a5;obtain⟨q,D⟩:∃q,q=a+n:=⟨_,rfl⟩;have m1:aJ.wrap ((a:Int)+(n:Int))=(q:Int):=by rw[aM];omega
     have m2:(a:Int)+(n:Int)=(q:Int):=by omega
     have q1:a<=s.size:=ha;have q2:(a:Int)<=(s.size:Int):=by omega
     have q3:q<=s.size:=by omega
     have q4:(q:Int)<=(s.size:Int):=by omega
     have q5:(a:Int)<=(q:Int):=by omega
     have q6:a<=q:=by omega
     have hx:s.extract a q=mkS (r.take n):=by rw[iW,<-hr,show q-a=n by omega]
     obtain⟨p,hp⟩:∃p,p=r.take n:=⟨_,rfl⟩;have c3:p.length=n:=by rw[hp,aQ];omega
     rw[<-hp] at hx;have c4:mkS o++mkS p=mkS (o++p):=sI o p;have q8:¬9223372036854775807<o.length+p.length:=by omega
     have HQ:=hid D;have HP:=hid hp;have HR:=hid hr;have HH:=hid a5;clear D hp hr a5
     by_cases h4:n<4
     ·have u5:decide ((n:Int)<4)=true:=aG (by omega);go_wp2_with fail;have d:=a8.out;have D:=HQ.out
      go_roundg (s.size-q)
      case measure=>omega
      case rel=>
       refine⟨q,o++p,q3,rfl,by go_num,rfl,hid ?_,by rw[aL];omega,Z⟩;have:=aU5 HH.out L.out b4 h4 (by rcases HE.out with h|h|h;omega;exact .inl h;exact .inr h);rw[HP.out,D,<-kG,<-HR.out];exact this
     ·have hn:n=4:=by omega
      subst hn;have u5:decide (((4:Nat):Int)<4)=false:=by decide
      have c6:decide ((4:Int)<4)=false:=by decide
      by_cases h5:q<s.size
      ·have u6:decide ((q:Int)>=(s.size:Int))=false:=aE (by omega);have u7:decide ((s.size:Int)<=(q:Int))=false:=aE (by omega);have m3:(a:Int)+4=(q:Int):=by omega
       have m4:aJ.wrap ((a:Int)+4)=(q:Int):=by rw[aM];omega
       have hb:=s[q].toNat_lt;have HF:=hid (aU7 HH.out L.out (b:=s[q]) (by rw[HR.out,jR,<-HQ.out];exact fW s q h5));obtain⟨A,b1⟩:∃A,A=a+1:=⟨_,rfl⟩;have c7:s.extract a A=mkS [s[a]]:=by
        rw[b1,JA s a a2,List.getD_eq_getElem?_getD,fW s a a2];rfl
       have m5:(a:Int)+1=(A:Int):=by omega
       have m6:aJ.wrap ((a:Int)+1)=(A:Int):=by rw[aM];omega
       have r3:A<=s.size:=by omega
       have r4:(A:Int)<=(s.size:Int):=by omega
       have r5:(a:Int)<=(A:Int):=by omega
       have r6:a<=A:=by omega
       clear b1;go_wp2_with fail
       go_loopg [4,7] 256 (fun g s4 s7 J=>∃(k:Nat) (X:List UInt8),k<=s[q].toNat/\g=256-k/\s7=.int .i64 (k:Int)/\s4=.string (mkS X)/\Hid (X=o++p++List.replicate k s[a])/\X.length<=52*a+4+k/\Below w.heap.size w J)
       case atStart=>exact⟨0,o++p,aO _,rfl,rfl,rfl,hid (by simp),by rw[aL];omega,Z⟩
       case round=>
        obtain⟨k,X,hk,d,rfl,rfl,HX,c8,b2⟩:=hrel;have b5:=hid d;clear d
        by_cases c9:k<s[q].toNat
        ·have v1:decide ((k:Int)<(s[q].toNat:Int))=true:=aG (by omega);have d0:mkS X++mkS [s[a]]=mkS (X++[s[a]]):=sI _ _;have q9:¬9223372036854775807<X.length+1:=by omega
         go_wp2_with fail;have d:=b5.out
         go_roundg (256-(k+1))
         case measure=>omega
         case rel=>exact⟨k+1,X++[s[a]],by omega,rfl,by go_num,rfl,hid (by rw[HX.out,List.replicate_succ',<-List.append_assoc]),by rw[aL,List.length_singleton];omega,b2⟩
        ·have v1:decide ((k:Int)<(s[q].toNat:Int))=false:=aE (by omega);have b6:k=s[q].toNat:=by omega
         obtain⟨H,a6⟩:∃H,H=q+1:=⟨_,rfl⟩;have m8:(a:Int)+5=(H:Int):=by omega
         have m9:aJ.wrap ((a:Int)+5)=(H:Int):=by rw[aM];omega
         have b7:=hid a6;clear a6;go_wp2_with fail;have d:=a8.out;have D:=HQ.out;have a6:=b7.out
         go_roundg (s.size-H)
         case measure=>omega
         case rel=>
          refine⟨H,X,by omega,rfl,by go_num,rfl,hid ?_,by omega,b2⟩;rw[HX.out,b6,HP.out,show H=a+5 by omega,<-kG,<-HR.out];exact HF.out
      ·have u6:decide ((q:Int)>=(s.size:Int))=true:=aG (by omega);have u7:decide ((s.size:Int)<=(q:Int))=true:=aG (by omega);have m3:(a:Int)+4=(q:Int):=by omega
       have m4:aJ.wrap ((a:Int)+4)=(q:Int):=by rw[aM];omega
       have hN:=aU6 HH.out (by have:=HQ.out;omega) L.out;have HN:=hid (aHg hN);clear hN;go_wp2_with fail
       go_ret2
       exact⟨HN.out.symm,Z⟩
  ·have t1:decide ((a:Int)<(s.size:Int))=false:=aE (by omega);have a7:=HO.out;rw[IU (by rw[HL.out];omega)] at a7;have HN:=hid (aHh (s:=s.data.toList) (o:=o) (by rw[a7];show some (o++[])=some o;rw[dI]));clear a7;go_wp2_with fail
   go_ret2
   exact⟨HN.out.symm,a1⟩
theorem bAh (s:ByteArray) (most:Int) (w:World) (G:s.size<=1000000) (_hm1: -9223372036854775808<=most) (_hm2:most<=9223372036854775807):
  Calls pG 102 #[.string s,.int .i64 most] w fun e w'=>e=.returned (.tuple #[.string (mkS (jX s.data.toList most).1),.int .i64 (jX s.data.toList most).2])/\Below w.heap.size w w':=by
 have A:=bAg s w G
 cases d:eX s.data.toList with
 |none=>
  rw[aHg d] at A;rw[aDh d];clear d;go_enter func102,ntmps102;go_wp2_with fail;refine A.mono ?_;rintro e F ⟨rfl,D⟩;go_wp2_with fail
  go_ret2
  exact⟨rfl,D⟩
 |some o=>
  rw[aHh d] at A;rw[SJ d];clear d
  by_cases h:most<(o.length:Int)
  ·rw[aB h];have H:decide (most<(o.length:Int))=true:=aG h;have I:decide ((o.length:Int)>most)=true:=aG h;go_enter func102,ntmps102;go_wp2_with fail;refine A.mono ?_;rintro e F ⟨rfl,D⟩;go_wp2_with fail
   go_ret2
   exact⟨rfl,D⟩
  ·rw[aA h];have H:decide (most<(o.length:Int))=false:=aE h;have I:decide ((o.length:Int)>most)=false:=aE h;go_enter func102,ntmps102;go_wp2_with fail;refine A.mono ?_;rintro e F ⟨rfl,D⟩;go_wp2_with fail
   go_ret2
   exact⟨rfl,D⟩
end
end Go.Proofs.YtfplbbphficcjaaGreatDoor
