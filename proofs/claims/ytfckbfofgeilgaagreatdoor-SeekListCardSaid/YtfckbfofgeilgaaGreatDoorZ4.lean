/-
  Texts put together (part 4): the walks and the plain laws on which the statement stands.
-/
import Derived.Maps.RangeWalk
import Derived.Shelf.Strings.Builder1
import Derived.Shelf.Strings.BuilderF
import Derived.Shelf.Strings.BuilderK
import Derived.Test.YtfckbfofgeilgaaGreatDoorZ1
set_option maxRecDepth 100000
set_option maxHeartbeats 12800000
set_option linter.unusedVariables false
set_option linter.unusedSimpArgs false
open Go.Proofs.Tryz
open Go.Proofs.Tryz renaming prog->pG
open Array renaming toList_inj->YF
open ByteArray renaming ext->YE
open Go.Lib renaming byteCells->pU
open Go.Lit renaming int->OK
open Int renaming le_refl->lV
open List renaming Perm->wV,append_assoc->bU,eraseIdx_sublist->XC,ext_getElem?->lH,filter_cons_of_neg->bGo,filter_cons_of_pos->bOl,flatMap_cons->yR,getD_eq_getElem?_getD->bV,getElem?_eq_getElem->aN,getElem?_of_mem->XQ,length_cons->aU,mem_append->dK,mem_cons->jQ,mem_cons_of_mem->iQ,mem_cons_self->jK,mem_filter->NT,mem_flatMap->aL1,mem_iff_getElem->yN,mem_map->eK,mem_singleton->cP,nodup_append->IP,nodup_cons->XB,not_mem_nil->YB,pairwise_cons->bLs,pairwise_singleton->bGd,perm_append_comm->aLe,sum_cons->xB,take_add_one->cG,take_of_length_le->cD
open List.Pairwise renaming nil->bNd
open List.Perm renaming refl->GZ
open Nat renaming lt_or_ge->cF
namespace Go.Proofs.YtfckbfofgeilgaaGreatDoor
section
structure Ent where
 a:Int
 r:Int
 f:Int
 n:Int
 y:Int
def Ent.ok (d at':Int) (x:Ent):Prop:=x.f=d/\1<=x.n/\x.n<=18720/\40<=x.r/\x.r<=360/\x.r%40=0/\at'<x.a
instance okDec (fr at':Int) (x:Ent):Decidable (x.ok fr at'):=inferInstanceAs (Decidable (_/\_))
def oL:Int->Int->List Ent->Prop
 |_,_,[]=>True
 |d,at',x::l=>x.ok d at'/\oL (x.f+x.n) x.a l
instance rightDec:(fr at':Int)->(l:List Ent)->Decidable (oL fr at' l)
 |_,_,[]=>isTrue trivial
 |fr,at',x::l=>by
  unfold oL;have:=rightDec (x.f+x.n) x.a l;exact inferInstance
def jA (l:List Ent):Prop:=oL 0 31 l
instance rightLDec (l:List Ent):Decidable (jA l):=inferInstanceAs (Decidable (oL _ _ _))
def lF (l:List Ent):Int:=(l.map Ent.n).sum
def lG (l:List Ent):Int:=if jA l then lF l else 0
def NH (l:List Ent) (off:Int):Nat:=(l.filter (fun x=>decide (x.f<=off))).length
def nB (l:List Ent) (off:Int):Int:=if off<0\/lG l<=off then-1 else(NH l off:Int)-1
def yF (l:List Ent) (off n:Int):Int×Int:=
 if n<1\/lG l<=off\/off<= -n then(-1,-1)
 else
  let d:=max off 0
  (nB l d,nB l (d+min (n-(d-off)) (lG l-d)-1))
theorem GH (x:Ent) (l:List Ent):lF (x::l)=x.n+lF l:=by unfold lF;simp
theorem aJw:lF []=0:=rfl
theorem aJx {d at':Int}:∀{l:List Ent},oL d at' l->0<=lF l
 |[],_=>by rw[aJw];exact lV _
 |x::l,h=>by
  have:=aJx h.2;have:=h.1.2.1;rw[GH];omega
theorem VM {l:List Ent} {i:Nat} {x:Ent} (h:l[i]? =some x):lF (l.take (i+1))=lF (l.take i)+x.n:=by grind [cG,lF]
theorem AH:∀{l:List Ent} {e at':Int},oL e at' l->∀(i:Nat) (x:Ent),l[i]? =some x->x.f=e+lF (l.take i)/\1<=x.n/\x.n<=18720
 |[],_,_,_,i,x,d=>by simp at d
 |y::l,e,at',h,0,x,d=>by
  obtain rfl:y=x:=by simpa using d
  refine⟨?_,h.1.2.1,h.1.2.2.1⟩;rw[h.1.1];show e=e+0;omega
 |y::l,e,at',h,i+1,x,d=>by
  have d:l[i]? =some x:=by simpa using d
  obtain⟨A,D⟩:=AH h.2 i x d;refine⟨?_,D⟩;rw[A,List.take_succ_cons,GH,h.1.1];omega
theorem aJy {l:List Ent} {D at':Int} (h:oL D at' l) (i:Nat):∀d,lF (l.take i)<=lF (l.take (i+d))
 |0=>lV _
 |d+1=>by
  have A:=aJy h i d
  cases e:l[i+d]? with
  |none=>
   have F:=List.getElem?_eq_none_iff.1 e;rw[cD F] at A;rw[cD (by omega:l.length<=i+(d+1))];exact A
  |some x=>
   have:=(AH h _ x e).2.1;have:=VM e;rw[<-Nat.add_assoc];omega
theorem NI {l:List Ent} {e at':Int} (h:oL e at' l) {i j:Nat} {x y:Ent} (d:l[i]? =some x) (A:l[j]? =some y) (F:i<j):x.f+x.n<=y.f:=by
 have G:=AH h i x d;have I:=AH h j y A;have J:=VM d;have D:=aJy h (i+1) (j-(i+1));rw[show i+1+(j-(i+1))=j by omega] at D;omega
theorem aJz:∀{l:List Ent} {d at':Int},oL d at' l->∀(off:Int),d<=off->off<d+lF l->∃(k:Nat) (x:Ent),l[k]? =some x/\x.f<=off/\off<x.f+x.n
 |[],d,_,_,off,A,e=>by rw[aJw] at e;omega
 |y::l,d,at',h,off,A,e=>by
  rw[GH] at e;have G:=h.1.1
  by_cases q:off<y.f+y.n
  ·exact⟨0,y,rfl,by omega,q⟩
  ·obtain⟨k,x,D,F⟩:=aJz h.2 off (by omega) (by omega);exact⟨k+1,x,by simpa using D,F⟩
theorem bD3 {l:List Ent} {D at':Int} (h:oL D at' l) {off:Int} {k:Nat} {x:Ent} (e:l[k]? =some x) (G:x.f<=off) (I:off<x.f+x.n):NH l off=k+1:=by
 have J:k<l.length:=(List.getElem?_eq_some_iff.1 e).1;have L:(l.take (k+1)).filter (fun x=>decide (x.f<=off))=l.take (k+1):=by
  rw[List.filter_eq_self];intro y A;obtain⟨j,d⟩:=XQ A;have F:j<k+1:=by grind
  rw[List.getElem?_take,aB F] at d
  by_cases q:j=k
  ·grind
  ·have:=NI h d e (by omega);have:=(AH h j y d).2.1
   grind
 have M:(l.drop (k+1)).filter (fun x=>decide (x.f<=off))=[]:=by
  rw[List.filter_eq_nil_iff];intro y A;obtain⟨j,d⟩:=XQ A;rw[List.getElem?_drop] at d;have:=NI h e d (by omega);simp;omega
 grind [NH,List.take_append_drop,List.length_take,oL]
theorem bD4 {l:List Ent} (h:jA l) {off:Int} (d:0<=off) (e:off<lF l):∃(k:Nat) (x:Ent),l[k]? =some x/\x.f<=off/\off<x.f+x.n/\nB l off=(k:Int):=by
 obtain⟨k,x,A,D,F⟩:=aJz h off d (by omega)
 grind [bD3,nB,lG,jA,lF]
theorem aJ0 {l:List Ent} {off:Int} (h:off<0\/lG l<=off):nB l off= -1:=aB h
theorem bKl {l:List Ent} (h:jA l) {o p:Int} (d:0<=o) (I:o<=p) (e:p<lF l):nB l o<=nB l p:=by
 obtain⟨k,x,A,J,L,D⟩:=bD4 h d (by omega);obtain⟨j,y,F,M,O,G⟩:=bD4 h (show 0<=p by omega) e;rw[D,G];rcases cF j k with q|q
 ·have:=NI h F A q;omega
 ·omega
theorem bKm {l:List Ent} (h:jA l) {o p:Int} (D:0<=o) (M:o<=p) (F:p<lF l) {i:Nat} {x:Ent} (d:l[i]? =some x):(x.f<=p/\o<x.f+x.n)↔(nB l o<=(i:Int)/\(i:Int)<=nB l p):=by
 obtain⟨k,y,e,O,R,G⟩:=bD4 h D (by omega);obtain⟨j,z,A,U,V,I⟩:=bD4 h (show 0<=p by omega) F;rw[G,I];constructor
 ·rintro⟨J,L⟩;constructor
  ·rcases cF i k with q|q
   ·have:=NI h d e q;omega
   ·omega
  ·rcases cF j i with q|q
   ·have:=NI h A d q;omega
   ·omega
 ·rintro⟨J,L⟩;constructor
  ·by_cases q:i=j
   ·grind
   ·have:=NI h d A (by omega);have:=(AH h i x d).2.1;omega
  ·by_cases q:i=k
   ·grind
   ·have:=NI h e d (by omega);have:=(AH h i x d).2.1;omega
end
section
open Go.RowKit Go
structure Hld where
 b:Int
 s:Int
 t:ByteArray
def mX (h:Hld):List Value:=[.int .i64 h.b,.int .i64 h.s,.string h.t]
def okH (room clock:Int) (H:List Hld):Prop:=(1<=room/\room<=64)/\(0<=clock/\clock<=1099511627776)/\(H.length:Int)<=room/\H.Pairwise (fun x y=>x.b<y.b)/\(∀h∈H,0<=h.b/\1<=h.s/\h.s<=clock)/\H.Pairwise (fun x y=>x.s≠y.s)
def bLf:List Hld->Hld->List Hld
 |[],h=>[h]
 |x::H,h=>if x.b<h.b then x::bLf H h else if x.b=h.b then h::H else h::x::H
def bLc (H:List Hld) (b:Int):List Hld:=H.filter (fun x=>decide (x.b≠b))
def bLt (H:List Hld) (b:Int):Option Hld:=H.find? (fun x=>decide (x.b=b))
theorem bL5 {H:List Hld} {b:Int} (h:∀x∈H,x.b≠b):bLc H b=H:=List.filter_eq_self.2 (fun x d=>aG (h x d))
theorem bMm:∀{H:List Hld} (h:Hld),H.Pairwise (fun x y=>x.b<y.b)->(bLf H h).Perm (h::bLc H h.b)
 |[],h,_=>GZ _
 |x::H,h,A=>by
  obtain⟨e,D⟩:=bLs.1 A;unfold bLf bLc;rcases Int.lt_trichotomy x.b h.b with q|q|q
  ·rw[aB q,bOl (p:=fun y:Hld=>decide (y.b≠h.b)) (by exact aG (show x.b≠h.b by omega))];exact((bMm h D).cons x).trans (wV.swap _ _ _)
  ·rw[aA (by omega),aB q,bGo (by simpa using q)];rw[show H.filter (fun y=>decide (y.b≠h.b))=H from bL5 (fun y d=>by have:=e y d;omega)]
  ·rw[aA (by omega),aA (by omega),bOl (p:=fun y:Hld=>decide (y.b≠h.b)) (by exact aG (show x.b≠h.b by omega))];rw[show H.filter (fun y=>decide (y.b≠h.b))=H from bL5 (fun y d=>by have:=e y d;omega)]
theorem bOn {H:List Hld} {h x:Hld} (d:H.Pairwise (fun x y=>x.b<y.b)):x∈bLf H h↔x=h\/(x∈H/\x.b≠h.b):=by
 rw[(bMm h d).mem_iff,jQ];unfold bLc;rw[NT,decide_eq_true_iff]
theorem bMv:∀{H:List Hld} (h:Hld),H.Pairwise (fun x y=>x.b<y.b)->(bLf H h).Pairwise (fun x y=>x.b<y.b)
 |[],h,_=>bGd _ _
 |x::H,h,D=>by
  obtain⟨e,A⟩:=bLs.1 D;unfold bLf;split
  ·refine bLs.2 ⟨fun y d=>?_,bMv h A⟩;rcases(bOn A).1 d with rfl|⟨k,-⟩
   ·assumption
   ·exact e y k
  ·split
   ·exact bLs.2 ⟨fun y d=>by have:=e y d;omega,A⟩
   ·refine bLs.2 ⟨fun y d=>?_,D⟩;rcases jQ.1 d with rfl|k
    ·omega
    ·have:=e y k;omega
theorem bNx:∀{H K:List Hld},H.Pairwise (fun x y=>x.b<y.b)->K.Pairwise (fun x y=>x.b<y.b)->H.Perm K->H=K
 |[],K,_,_,d=>(List.nil_perm.1 d).symm
 |x::H,[],_,_,d=>absurd d.length_eq (by simp)
 |x::H,y::K,A,D,d=>by
  obtain⟨F,G⟩:=bLs.1 A;obtain⟨I,J⟩:=bLs.1 D;have e:x=y:=by
   rcases jQ.1 (d.mem_iff.1 jK) with k|k
   ·exact k
   ·rcases jQ.1 (d.mem_iff.2 (jK (a:=y))) with j|j
    ·exact j.symm
    ·have:=F y j;have:=I x k;omega
  subst e;rw[bNx G J (List.perm_cons x |>.1 d)]
theorem okH.put {room clock:Int} {H:List Hld} (h:okH room clock H) {b:Int} {t:ByteArray} (D:0<=b) (F:((bLc H b).length:Int)+1<=room) (M:clock+1<=1099511627776):okH room (clock+1) (bLf H ⟨b,clock+1,t⟩):=by
 obtain⟨G,O,R,d,e,I⟩:=h;have A:=bMm ⟨b,clock+1,t⟩ d;refine⟨G,by omega,?_,bMv _ d,fun x J=>?_,?_⟩
 ·rw[A.length_eq,aU];push_cast;exact F
 ·rcases(bOn d).1 J with rfl|⟨k,-⟩
  ·exact⟨D,by show 1<=clock+1;omega,lV _⟩
  ·have:=e x k;omega
 ·refine(A.pairwise_iff (fun{x y} q=>Ne.symm q)).2 (bLs.2 ⟨fun y L=>?_,I.filter _⟩);have:=(e y (NT.1 L).1).2.2;show clock+1≠y.s;omega
theorem okH.del {room clock:Int} {H:List Hld} (h:okH room clock H) (b:Int):okH room clock (bLc H b):=by
 obtain⟨d,e,I,A,D,F⟩:=h;have:=List.length_filter_le (fun x:Hld=>decide (x.b≠b)) H;exact⟨d,e,by unfold bLc;omega,A.filter _,fun x G=>D x (NT.1 G).1,F.filter _⟩
theorem bOo {H:List Hld} {b:Int} {x:Hld} (d:x∈H) (e:x.b=b):(bLc H b).length+1<=H.length:=by
 have A:=List.length_filter_lt_length_iff_exists (p:=fun y:Hld=>decide (y.b≠b)) (l:=H) |>.2 ⟨x,d,by simpa using e⟩;unfold bLc;omega
theorem bNg {H:List Hld} {b:Int} {x:Hld} (h:bLt H b=some x):x∈H/\x.b=b:=⟨List.mem_of_find?_eq_some h,of_decide_eq_true (List.find?_some (p:=fun y:Hld=>decide (y.b=b)) h)⟩
theorem bP9 {H:List Hld} {b:Int} (h:bLt H b=none):∀x∈H,x.b≠b:=fun x d q=>absurd (aG q) (by simpa using(List.find?_eq_none.1 h) x d)
theorem bQa {room:Int} (d:1<=room) (e:room<=64):okH room 0 []:=⟨⟨d,e⟩,by decide,by show(0:Int)<=room;omega,bNd,fun _ h=>absurd h YB,bNd⟩
def bL6 (h:Hld):DataW Unit:=.agg [.lit (.int .i64 h.b),.lit (.int .i64 h.s),.lit (.string h.t.data.toList)]
def bLu (v:Value):Option (DataW Unit×List MemPlace):=
 match v with
 |.agg d=>match d.toList with
  |[.int .i64 b,.int .i64 s,.string t]=>some (bL6 ⟨b,s,t⟩,[])
  |_=>none
 |_=>none
theorem bM1 (h:Hld):bLu (.agg (mX h).toArray)=some (bL6 h,[]):=rfl
theorem bNy {v:Value} {y:DataW Unit×List MemPlace} (h:bLu v=some y):∃x:Hld,v=.agg (mX x).toArray/\y=(bL6 x,[]):=by
 unfold bLu at h;split at h
 ·rename_i d
  split at h
  ·rename_i b s t e
   cases h
   exact⟨⟨b,s,t⟩,by rw[show d=(mX ⟨b,s,t⟩).toArray from YF.1 e],rfl⟩
  ·cases h
 ·cases h
theorem bNz {x y:Hld} (h:bL6 x=bL6 y):x=y:=by
 obtain⟨b,s,t⟩:=x;obtain⟨A,D,d⟩:=y;unfold bL6 at h;simp only[DataW.agg.injEq,List.cons.injEq,DataW.lit.injEq,OK.injEq,Lit.string.injEq,true_and,and_true] at h;obtain⟨rfl,rfl,e⟩:=h;rw[show t=d from YE (YF.1 e)]
theorem bNh:∀{H:List Hld} {x:Hld},H.Pairwise (fun x y=>x.b<y.b)->x∈H->(bLc H x.b).length+1=H.length
 |y::H,x,e,d=>by
  obtain⟨A,D⟩:=bLs.1 e;unfold bLc
  by_cases q:y.b=x.b
  ·rw[bGo (by simpa using q),show H.filter (fun z=>decide (z.b≠x.b))=H from bL5 (fun z F=>by have:=A z F;omega),aU]
  ·rcases jQ.1 d with rfl|d
   ·exact absurd rfl q
   ·rw[bOl (by simpa using q),aU,aU];have:=bNh D d;unfold bLc at this;omega
def bLg (D:DataW Unit) (H:List Hld):Prop:=(∀k:Int,Maps.has D (.int .i64 k)=true↔∃h∈H,h.b=k)/\(∀h∈H,∀d,D.atKey (.int .i64 h.b) d=bL6 h)/\Maps.size D=H.length
theorem bLg.nil:bLg (.map []) []:=⟨fun k=>by simp[Maps.has],fun h d=>absurd d YB,rfl⟩
theorem bM2 {a b:Int} (h:a≠b):(OK .i64 a)≠.int .i64 b:=fun e=>h (by injection e)
theorem bLg.put {D:DataW Unit} {H:List Hld} (h:bLg D H) (A:Maps.Tidy D) (x:Hld) (G:WideAt.IsKeyLit (.int .i64 x.b)) (J:H.Pairwise (fun x y=>x.b<y.b)):bLg (D.put (.int .i64 x.b) (bL6 x)) (x::bLc H x.b):=by
 obtain⟨F,L,M⟩:=h;refine⟨fun k=>?_,fun y d O=>?_,?_⟩
 ·by_cases q:k=x.b
  ·subst q;exact⟨fun _=>⟨x,jK,rfl⟩,fun _=>Maps.has_put_same A.isMap G _⟩
  ·rw[Maps.has_put_other (bM2 q),F k];constructor
   ·rintro⟨y,d,rfl⟩;exact⟨y,iQ _ (NT.2 ⟨d,aG q⟩),rfl⟩
   ·rintro⟨y,d,rfl⟩;rcases jQ.1 d with rfl|d
    ·exact absurd rfl q
    ·exact⟨y,(NT.1 d).1,rfl⟩
 ·rcases jQ.1 d with rfl|d
  ·exact Maps.atKey_put_same A.isMap G _ _
  ·obtain⟨R,U⟩:=NT.1 d;rw[Maps.atKey_put_other (bM2 (of_decide_eq_true U)),L y R O]
 ·rw[Maps.size_put A,aU,M]
  cases I:Maps.has D (.int .i64 x.b)
  ·have V:∀y∈H,y.b≠x.b:=fun y d e=>by
    have:=(F x.b).2 ⟨y,d,e⟩;rw[I] at this
    cases this
   rw[bL5 V];rfl
  ·obtain⟨y,d,e⟩:=(F x.b).1 I;have Y:(bLc H y.b).length+1=H.length:=bNh J d;rw[<-e,Y];rfl
theorem bLg.del {D:DataW Unit} {H:List Hld} (h:bLg D H) (G:Maps.Tidy D) {x:Hld} (A:x∈H) (I:H.Pairwise (fun x y=>x.b<y.b)):bLg (D.del (.int .i64 x.b)) (bLc H x.b):=by
 obtain⟨F,J,L⟩:=h;refine⟨fun k=>?_,fun y d M=>?_,?_⟩
 ·by_cases q:k=x.b
  ·subst q;rw[Maps.has_del_same];constructor
   ·intro c
    cases c
   ·rintro⟨y,d,e⟩;exact absurd e (of_decide_eq_true (NT.1 d).2)
  ·rw[Maps.has_del_other (bM2 q),F k];constructor
   ·rintro⟨y,d,rfl⟩;exact⟨y,NT.2 ⟨d,aG q⟩,rfl⟩
   ·rintro⟨y,d,rfl⟩;exact⟨y,(NT.1 d).1,rfl⟩
 ·obtain⟨O,R⟩:=NT.1 d;rw[Maps.atKey_del_other (bM2 (of_decide_eq_true R)),J y O M]
 ·have U:=Maps.size_del (k:=.int .i64 x.b) G;rw[aB ((F x.b).2 ⟨x,A,rfl⟩),L] at U;have V:=bNh I A;omega
def bMc (d:Lit->Bool) (e rest H:List Hld):Prop:=(e++rest).Perm H/\(∀k:Int,d (.int .i64 k)=true↔∃h∈rest,h.b=k)/\rest.Pairwise (fun x y=>x.b≠y.b)
theorem bMc.start {D:DataW Unit} {H:List Hld} (h:bLg D H) (d:H.Pairwise (fun x y=>x.b<y.b)):bMc (Maps.has D) [] H H:=⟨GZ _,h.1,d.imp (fun{x y} q=>by omega)⟩
theorem bMc.step {D:Lit->Bool} {A rest H:List Hld} (h:bMc D A rest H) {x:Hld} (F:x∈rest):∃G,bMc (fun z=>D z&& !z.sameKey (.int .i64 x.b)) (A++[x]) G H:=by
 obtain⟨I,J,L⟩:=h;obtain⟨s,t,rfl⟩:=List.append_of_mem F;have e:(s++x::t).Perm (x::(s++t)):=List.perm_middle;have M:=(e.pairwise_iff (fun{a b} (q:a.b≠b.b)=>Ne.symm q)).1 L;obtain⟨O,R⟩:=bLs.1 M;refine⟨s++t,?_,fun k=>?_,R⟩
 ·rw[bU];exact((e.symm.append_left A)).trans I
 ·have U:(OK .i64 k).sameKey (.int .i64 x.b)=decide (k=x.b):=by simp[Lit.sameKey]
  dsimp only
  rw[U,Bool.and_eq_true,J k];constructor
  ·rintro⟨⟨y,d,rfl⟩,q⟩;have q:y.b≠x.b:=by simpa using q
   rcases jQ.1 (e.mem_iff.1 d) with rfl|d
   ·exact absurd rfl q
   ·exact⟨y,d,rfl⟩
  ·rintro⟨y,d,rfl⟩;exact⟨⟨y,e.mem_iff.2 (iQ _ d),rfl⟩,by have:=O y d;simp;omega⟩
theorem bMc.done {d:Lit->Bool} {e rest H:List Hld} (h:bMc d e rest H) (D:∀F,d F=false):e.Perm H:=by
 obtain⟨A,G,-⟩:=h
 cases rest with
 |nil=>rw[List.append_nil] at A;exact A
 |cons x r=>
  have:=(G x.b).2 ⟨x,jK,rfl⟩;rw[D] at this
  cases this
end
section
def oD (f:Nat->Int):Nat->Nat
 |0=>0
 |k+1=>if f k<f (oD f k) then k else oD f k
theorem EQ (f:Nat->Int):∀k,0<k->oD f k<k/\(∀j,j<k->f (oD f k)<=f j)/\∀j,j<oD f k->f (oD f k)<f j
 |0,h=>by omega
 |1,_=>by simp[oD]
 |k+2,_=>by
  obtain⟨d,e,A⟩:=EQ f (k+1) (by omega)
  grind [oD]
inductive HT where
 |leaf (n:Nat)
 |node (n:Nat) (l r:HT)
def HT.root:HT->Nat
 |.leaf n=>n
 |.node n _ _=>n
def HT.leaves:HT->List Nat
 |.leaf n=>[n]
 |.node _ l r=>l.leaves++r.leaves
def HT.nums:HT->List Nat
 |.leaf n=>[n]
 |.node n l r=>n::(l.nums++r.nums)
def HT.high:HT->Nat
 |.leaf _=>0
 |.node _ l r=>max l.high r.high+1
def HT.deep:Nat->HT->List (Nat×Nat)
 |d,.leaf n=>[(n,d)]
 |d,.node _ l r=>l.deep (d+1)++r.deep (d+1)
theorem HT.leaves_sub:∀(t:HT),∀x∈t.leaves,x∈t.nums
 |.leaf _,x,h=>h
 |.node _ l r,x,h=>by
  unfold HT.leaves at h;unfold HT.nums;rcases dK.1 h with h|h
  ·exact iQ _ (dK.2 (.inl (HT.leaves_sub l x h)))
  ·exact iQ _ (dK.2 (.inr (HT.leaves_sub r x h)))
theorem HT.root_mem:∀t:HT,t.root∈t.nums
 |.leaf _=>cP.2 rfl
 |.node _ _ _=>jK ..
theorem HT.leaves_nodup:∀t:HT,t.nums.Nodup->t.leaves.Nodup
 |.leaf _,h=>h
 |.node _ l r,h=>by
  unfold HT.nums at h;obtain⟨_,h⟩:=XB.1 h;obtain⟨d,e,A⟩:=IP.1 h;unfold HT.leaves;exact IP.2 ⟨HT.leaves_nodup l d,HT.leaves_nodup r e,fun a D b F=>A a (HT.leaves_sub l a D) b (HT.leaves_sub r b F)⟩
theorem HT.deep_map:∀(t:HT) (d:Nat),(t.deep d).map (·.1)=t.leaves
 |.leaf _,_=>rfl
 |.node _ l r,d=>by simp[HT.deep,HT.leaves,HT.deep_map]
theorem HT.deep_add:∀(t:HT) (d e:Nat),t.deep (d+e)=(t.deep d).map (fun p=>(p.1,p.2+e))
 |.leaf _,_,_=>rfl
 |.node _ l r,d,e=>by
  unfold HT.deep;rw[List.map_append,show d+e+1=d+1+e by omega,HT.deep_add l,HT.deep_add r]
theorem HT.deep_bd:∀(t:HT) (d:Nat),∀p∈t.deep d,d<=p.2/\p.2<=d+t.high
 |.leaf _,d,p,h=>by
  obtain rfl:=cP.1 h;exact⟨Nat.le_refl _,Nat.le_add_right _ _⟩
 |.node _ l r,d,p,h=>by
  unfold HT.deep at h;unfold HT.high;rcases dK.1 h with h|h
  ·have:=HT.deep_bd l _ p h;omega
  ·have:=HT.deep_bd r _ p h;omega
abbrev cE:=List (Int×HT)
def cE.least (r:cE):Nat:=oD (fun i=>(r.getD i (0,.leaf 0)).1) r.length
def cA (r:cE):(Int×HT)×cE:=(r.getD (cE.least r) (0,.leaf 0),r.eraseIdx (cE.least r))
def qV (n:Nat) (r:cE):cE:=(cA (cA r).2).2++[((cA r).1.1+(cA (cA r).2).1.1,.node n (cA r).1.2 (cA (cA r).2).1.2)]
def bS (d:List Int):Nat->cE
 |0=>d.zipIdx.map (fun p=>(p.1,.leaf p.2))
 |t+1=>qV (d.length+t) (bS d t)
theorem zK (r:cE) (h:r≠[]):(cA r).1∈r/\(cA r).2.length+1=r.length/\((cA r).1::(cA r).2).Perm r/\(∀x∈r,(cA r).1.1<=x.1):=by
 have A:0<r.length:=List.length_pos_iff.2 h;obtain⟨D,F,J⟩:=EQ (fun i=>(r.getD i (0,.leaf 0)).1) r.length A;have G:cE.least r<r.length:=D;have d:(cA r).1=r[cE.least r]:=by unfold cA;rw[bV,aN G];rfl
 refine⟨by grind,?_,?_,fun x I=>?_⟩
 ·show(r.eraseIdx (cE.least r)).length+1=_
  grind
 ·rw[d];show(r[cE.least r]::r.eraseIdx (cE.least r)).Perm r;rw[List.eraseIdx_eq_take_drop_succ];have:r=r.take (cE.least r)++r[cE.least r]::r.drop (cE.least r+1):=by simp
  conv=>rhs;rw[this]
  exact List.perm_middle.symm
 ·obtain⟨j,e,rfl⟩:=yN.1 I;have:=F j e;rw[d];simp only[bV] at this;rw[aN e] at this;have L:r[oD (fun i=>(r[i]?.getD (0,.leaf 0)).1) r.length]? =some r[cE.least r]:=by simp[cE.least,cE,cA]
  grind
theorem aS8 (n:Nat) (r:cE) (h:2<=r.length):(qV n r).length+1=r.length:=by
 have d:=(zK r (by grind)).2.1;have e:=(zK (cA r).2 (by grind)).2.1;unfold qV
 grind
theorem tS (d:List Int):∀t,t<d.length->(bS d t).length+t=d.length:=by
 intro t
 induction t with
 |zero=>intro _;unfold bS;simp
 |succ t e=>
  intro h;have:=e (by omega);have:=aS8 (d.length+t) (bS d t) (by omega);show(qV _ _).length+_=_;omega
structure mT (k n:Nat) (r:cE):Prop where
 nodup:(r.flatMap (fun p=>p.2.nums)).Nodup
 lt:∀p∈r,∀x∈p.2.nums,x<n
 leaves:∀j,j<k->∃p∈r,j∈p.2.leaves
 sorted:r.Pairwise (fun p q=>p.2.root<q.2.root)
theorem aB6 {α β:Type} {f:α->List β} {r s:List α} (h:r.Perm s):(r.flatMap f).Perm (s.flatMap f):=by
 induction h with
 |nil=>exact GZ _
 |cons x _ d=>simp only[yR];exact d.append_left _
 |swap x y l=>simp only[yR,<-bU];exact aLe.append_right _
 |trans _ _ e A=>exact e.trans A
theorem uL (n:Nat) (r:cE) (h:2<=r.length):∃a b s,(a::b::s).Perm r/\qV n r=s++[(a.1+b.1,.node n a.2 b.2)]/\(cA r).1=a/\(cA (cA r).2).1=b/\(cA (cA r).2).2=s/\(∀x∈s,b.1<=x.1)/\a.1<=b.1:=by
 have d:=zK r (by grind);have e:=zK (cA r).2 (by grind);refine⟨_,_,_,?_,rfl,rfl,rfl,rfl,fun x A=>?_,?_⟩
 ·exact(wV.cons _ e.2.2.1).trans d.2.2.1
 ·grind
 grind
theorem mT.step {k n:Nat} {r:cE} (A:mT k n r) (h:2<=r.length):mT k (n+1) (qV n r):=by
 obtain⟨a,b,s,F,I,_,_,_,_,_⟩:=uL n r h;have M:((a::b::s).flatMap (fun p=>p.2.nums)).Nodup:=(aB6 F).nodup_iff.2 A.nodup;simp only[yR] at M;have O:a∈r:=F.mem_iff.1 (by simp);have R:b∈r:=F.mem_iff.1 (by simp);have J:∀x∈s,x∈r:=fun x d=>F.mem_iff.1 (by simp[d])
 rw[I];refine⟨?_,?_,?_,?_⟩
 ·have U:(n::((a.2.nums++b.2.nums)++s.flatMap (fun p=>p.2.nums))).Perm ((s++[(a.1+b.1,HT.node n a.2 b.2)]).flatMap (fun p=>p.2.nums)):=by
   rw[List.flatMap_append,List.flatMap_singleton];show(n::((a.2.nums++b.2.nums)++_)).Perm (_++(n::(a.2.nums++b.2.nums)));rw[<-List.cons_append];exact aLe
  rw[<-U.nodup_iff,XB];refine⟨fun hm=>?_,by grind⟩;have:∃p∈r,n∈p.2.nums:=by grind
  obtain⟨p,G,D⟩:=this;have:=A.lt p G n D;omega
 ·intro p D x d;rcases dK.1 D with q|q
  ·have:=A.lt p (J p q) x d;omega
  ·obtain rfl:=cP.1 q;rcases jQ.1 d with rfl|d
   ·omega
   ·rcases dK.1 d with d|d
    ·have:=A.lt a O x d;omega
    ·have:=A.lt b R x d;omega
 ·intro j V;obtain⟨p,G,D⟩:=A.leaves j V;have:=F.mem_iff.2 G;simp only[jQ] at this;rcases this with rfl|rfl|q
  ·exact⟨_,dK.2 (.inr (cP.2 rfl)),dK.2 (.inl D)⟩
  ·exact⟨_,dK.2 (.inr (cP.2 rfl)),dK.2 (.inr D)⟩
  grind
 ·have Y:s.Sublist r:=by
   obtain⟨_,_,_,h3⟩:=uL n r h;have e:s=(r.eraseIdx (cE.least r)).eraseIdx (cE.least (r.eraseIdx (cE.least r))):=by
    have:=I;unfold qV at this;have L:=congrArg (fun l=>l.take (l.length-1)) this;simp only[List.length_append,List.length_singleton,Nat.add_sub_cancel,List.take_left'] at L;exact L.symm
   rw[e];exact(XC ..).trans (XC ..)
  rw[List.pairwise_append];refine⟨A.sorted.sublist Y,bGd _ _,fun p G q Z=>?_⟩;obtain rfl:=cP.1 Z;exact A.lt p (J p G) _ (HT.root_mem _)
def lZ (e:List Int) (A:List Nat):List Int:=A.foldl (fun d j=>d.set j (d.getD j 0+1)) e
theorem KZ:∀(e:List Nat) (d:List Int),(lZ d e).length=d.length
 |[],_=>rfl
 |j::e,d=>by
  show(lZ (d.set j (d.getD j 0+1)) e).length=_;rw[KZ e,List.length_set]
theorem BW:∀(e:List Nat) (d:List Int),e.Nodup->∀j,j<d.length->(lZ d e).getD j 0=d.getD j 0+if j∈e then 1 else 0
 |[],d,_,j,_=>by simp[lZ]
 |i::e,d,h,j,D=>by
  obtain⟨F,A⟩:=XB.1 h;show(lZ (d.set i (d.getD i 0+1)) e).getD j 0=_;rw[BW e _ A j (by grind)]
  grind
def tT (k:Nat) (r:cE) (d:List Int):Prop:=d.length=k/\∀p∈r,∀q∈p.2.deep 0,q.1<k/\d.getD q.1 0=(q.2:Int)
theorem HT.deep_leaf (t:HT) (d:Nat):∀q∈t.deep d,q.1∈t.leaves:=by grind [HT.deep_map]
theorem RM {r:cE} {a b:Int×HT} {s:cE} (G:(r.flatMap (fun p=>p.2.nums)).Nodup) (I:(a::b::s).Perm r):
  (a.2.leaves++b.2.leaves).Nodup/\(∀p∈s,∀x∈p.2.nums,x ∉ a.2.nums/\x ∉ b.2.nums)/\(∀x∈a.2.nums,x ∉ b.2.nums)/\a.2.nums.Nodup/\b.2.nums.Nodup/\∀p∈s,p.2.nums.Nodup:=by
 have h:((a::b::s).flatMap (fun p=>p.2.nums)).Nodup:=(aB6 I).nodup_iff.2 G;simp only[yR] at h;obtain⟨D,J,e⟩:=IP.1 h;obtain⟨F,R,L⟩:=IP.1 J;have M:∀p∈s,p.2.nums.Nodup:=fun p A=>by grind
 refine⟨?_,fun p A x d=>⟨fun q=>e x q x (dK.2 (.inr (aL1.2 ⟨p,A,d⟩))) rfl,fun q=>L x q x (aL1.2 ⟨p,A,d⟩) rfl⟩,fun x d q=>e x d x (dK.2 (.inl q)) rfl,D,F,M⟩;exact IP.2 ⟨HT.leaves_nodup _ D,HT.leaves_nodup _ F,fun x d y O=>e x (HT.leaves_sub _ x d) y (dK.2 (.inl (HT.leaves_sub _ y O)))⟩
theorem tT.step {k n:Nat} {r:cE} (Y:mT k n r) (h:2<=r.length) {J:List Int} (A:tT k r J):
  tT k (qV n r) (lZ J ((cA r).1.2.leaves++(cA (cA r).2).1.2.leaves)):=by
 obtain⟨a,b,s,L,Z,ea,eb,_,_,_⟩:=uL n r h;obtain⟨M,R,_,_,_,_⟩:=RM Y.nodup L;have ha:a∈r:=L.mem_iff.1 (by simp);have hb:b∈r:=L.mem_iff.1 (by simp);rw[ea,eb,Z];refine⟨by rw[KZ];exact A.1,fun p a0 q O=>?_⟩;rcases dK.1 a0 with F|F
 ·obtain⟨e,G⟩:=A.2 p (L.mem_iff.1 (by simp[F])) q O;refine⟨e,?_⟩;rw[BW _ _ M _ (by rw[A.1];exact e),aA,Int.add_zero,G];intro d;have U:=HT.leaves_sub _ _ (HT.deep_leaf _ _ q O);rcases dK.1 d with d|d
  ·exact(R p F _ U).1 (HT.leaves_sub _ _ d)
  ·exact(R p F _ U).2 (HT.leaves_sub _ _ d)
 ·obtain rfl:=cP.1 F;have V:q∈a.2.deep (0+1)++b.2.deep (0+1):=O;rw[HT.deep_add,HT.deep_add] at V;rcases dK.1 V with d|d
  ·obtain⟨D,I,rfl⟩:=eK.1 d;obtain⟨e,G⟩:=A.2 a ha D I;refine⟨e,?_⟩;show(lZ J (a.2.leaves++b.2.leaves)).getD D.1 0=_;rw[BW _ _ M _ (by rw[A.1];exact e),aB (dK.2 (.inl (HT.deep_leaf _ _ D I))),G];rfl
  ·obtain⟨D,I,rfl⟩:=eK.1 d;obtain⟨e,G⟩:=A.2 b hb D I;refine⟨e,?_⟩;show(lZ J (a.2.leaves++b.2.leaves)).getD D.1 0=_;rw[BW _ _ M _ (by rw[A.1];exact e),aB (dK.2 (.inr (HT.deep_leaf _ _ D I))),G];rfl
def HT.upOk (d:Nat->Int):HT->Prop
 |.leaf _=>True
 |.node n l r=>d l.root=(n:Int)/\d r.root=(n:Int)/\l.upOk d/\r.upOk d
def HT.inc:HT->Prop
 |.leaf _=>True
 |.node n l r=>(∀x∈l.nums,x<n)/\(∀x∈r.nums,x<n)/\l.inc/\r.inc
theorem HT.upOk_congr {f g:Nat->Int}:∀t:HT,(∀x∈t.nums,x≠t.root->f x=g x)->t.nums.Nodup->t.upOk f->t.upOk g
 |.leaf _,_,_,_=>trivial
 |.node n l r,h,A,⟨R,U,F,G⟩=>by
  unfold HT.nums at A h;obtain⟨D,I⟩:=XB.1 A;obtain⟨J,L,V⟩:=IP.1 I;have M:∀x∈l.nums,f x=g x:=fun x d=>h x (iQ _ (dK.2 (.inl d))) (fun e=>D (by rw[<-show x=n from e];exact dK.2 (.inl d)))
  have O:∀x∈r.nums,f x=g x:=fun x d=>h x (iQ _ (dK.2 (.inr d))) (fun e=>D (by rw[<-show x=n from e];exact dK.2 (.inr d)))
  exact⟨by grind [HT.root_mem],by grind [HT.root_mem],HT.upOk_congr l (fun x d _=>M x d) J F,HT.upOk_congr r (fun x d _=>O x d) L G⟩
def HUp (r:cE) (d:Nat->Int):Prop:=∀p∈r,p.2.upOk d/\p.2.inc
theorem HUp.step {k n:Nat} {r:cE} (F:mT k n r) (h:2<=r.length) {L:Nat->Int} (G:HUp r L):
  HUp (qV n r) (fun x=>if x=(cA (cA r).2).1.2.root then(n:Int) else if x=(cA r).1.2.root then(n:Int) else L x):=by
 obtain⟨a,b,s,D,U,V,Y,_,_,_⟩:=uL n r h;obtain⟨_,M,I,Z,h5,h6⟩:=RM F.nodup D;have O:a∈r:=D.mem_iff.1 (by simp);have R:b∈r:=D.mem_iff.1 (by simp);rw[V,Y,U];have a3:a.2.root≠b.2.root:=fun e=>I _ (HT.root_mem _) (by rw[e];exact HT.root_mem _)
 intro p a0;rcases dK.1 a0 with A|A
 ·obtain⟨k1,k2⟩:=G p (D.mem_iff.1 (by simp[A]));refine⟨HT.upOk_congr _ (fun x d _=>?_) (h6 p A) k1,k2⟩;rw[aA (fun e=>(M p A x d).2 (by rw[e];exact HT.root_mem _)),aA (fun e=>(M p A x d).1 (by rw[e];exact HT.root_mem _))]
 ·obtain rfl:=cP.1 A;obtain⟨a1,a2⟩:=G a O;obtain⟨b1,b2⟩:=G b R;refine⟨⟨?_,?_,?_,?_⟩,?_,?_,a2,b2⟩
  ·simp
  ·simp
  ·refine HT.upOk_congr _ (fun x d J=>?_) Z a1;rw[aA (fun e=>I x d (by rw[e];exact HT.root_mem _)),aA J]
  ·refine HT.upOk_congr _ (fun x d J=>?_) h5 b1;rw[aA J,aA (fun e=>I _ (HT.root_mem _) (by grind))]
  ·exact fun x d=>F.lt a O x d
  ·exact fun x d=>F.lt b R x d
theorem mT.start (d:List Int):mT d.length d.length (bS d 0):=by
 have e:(bS d 0).flatMap (fun p=>p.2.nums)=List.range d.length:=by
  unfold bS;rw[List.flatMap_map];have:(fun a:Int×Nat=>(HT.leaf a.2).nums)=fun a=>[a.2]:=rfl
  simp only[this];rw[<-List.map_eq_flatMap];apply lH
  grind
 have F:∀p∈bS d 0,∃j,j<d.length/\p=(d.getD j 0,.leaf j):=fun p D=>by grind [bS]
 refine⟨by grind,fun p D x G=>?_,fun j A=>?_,?_⟩
 ·obtain⟨j,A,rfl⟩:=F p D;obtain rfl:=cP.1 G;exact A
 ·refine⟨(d.getD j 0,.leaf j),?_,cP.2 rfl⟩;unfold bS;refine eK.2 ⟨(d.getD j 0,j),yN.2 ⟨j,by simpa using A,by simp[A]⟩,rfl⟩
 ·unfold bS;rw[List.pairwise_iff_getElem];intro i j I A J;simp at I A ⊢;exact J
theorem cE.start_mem {d:List Int} {p:Int×HT} (e:p∈bS d 0):∃j,j<d.length/\p=(d.getD j 0,.leaf j):=by grind [bS]
theorem mT.all (d:List Int):∀t,t<d.length->mT d.length (d.length+t) (bS d t)
 |0,_=>mT.start d
 |t+1,h=>(mT.all d t (by omega)).step (by grind [tS,bS])
def jO (d:List Int):Nat->List Int
 |0=>List.replicate d.length 0
 |t+1=>lZ (jO d t) ((cA (bS d t)).1.2.leaves++(cA (cA (bS d t)).2).1.2.leaves)
theorem wD (d:List Int):∀t,(jO d t).length=d.length
 |0=>by simp[jO]
 |t+1=>by simp[jO,KZ,wD]
theorem tT.all (d:List Int):∀t,t<d.length->tT d.length (bS d t) (jO d t)
 |0,_=>⟨by simp[jO],fun p e q A=>by
   obtain⟨j,D,rfl⟩:=cE.start_mem e;obtain rfl:=cP.1 A
   grind [jO,tT,bS]⟩
 |t+1,h=>(tT.all d t (by omega)).step (mT.all d t (by omega)) (by have:=tS d t (by omega);omega)
def kQ (d:List Int):Nat->Nat->Int
 |0=>fun _=>0
 |t+1=>fun x=>if x=(cA (cA (bS d t)).2).1.2.root then((d.length+t:Nat):Int) else if x=(cA (bS d t)).1.2.root then((d.length+t:Nat):Int) else kQ d t x
theorem HUp.all (d:List Int):∀t,t<d.length->HUp (bS d t) (kQ d t)
 |0,_=>fun p e=>by
   obtain⟨j,A,rfl⟩:=cE.start_mem e;exact⟨trivial,trivial⟩
 |t+1,h=>(HUp.all d t (by omega)).step (mT.all d t (by omega)) (by grind [tS,HUp,bS,kQ])
def nK (d:List Int):List Int:=jO d (d.length-1)
theorem LA (d:List Int) (h:2<=d.length):∃p,bS d (d.length-1)=[p]/\p.2.root=2*d.length-2:=by
 obtain⟨t,A⟩:∃t,d.length=t+2:=⟨d.length-2,by omega⟩;have G:=tS d (d.length-1) (by omega);obtain⟨p,e⟩:=List.length_eq_one_iff.1 (show(bS d (d.length-1)).length=1 by omega);refine⟨p,e,?_⟩;rw[A,show t+2-1=t+1 by omega] at e;have D:bS d (t+1)=qV (d.length+t) (bS d t):=rfl;obtain⟨a,b,s,_,F,_⟩:=uL (d.length+t) (bS d t) (by grind [tS,bS]);rw[D,F] at e;have:s=[]:=by
  have:=congrArg List.length e;simp at this;exact this
 rw[this] at e;simp at e;rw[<-e];show d.length+t=_;omega
def HT.wt (f:Nat->Int):HT->Int
 |.leaf n=>f n
 |.node _ l r=>l.wt f+r.wt f
def HT.kids (f:Nat->Int) (x:Int):HT->Prop
 |.leaf _=>True
 |.node _ l r=>l.wt f<=x/\r.wt f<=x
def HT.even (f:Nat->Int):HT->Prop
 |.leaf n=>1<=f n
 |.node _ l r=>l.even f/\r.even f/\l.kids f (r.wt f)/\r.kids f (l.wt f)
def oE:Nat->Int
 |0=>1
 |1=>2
 |n+2=>oE (n+1)+oE n
theorem RN:∀n,1<=oE n
 |0=>by decide
 |1=>by decide
 |n+2=>by have:=RN (n+1);have:=RN n;unfold oE;omega
theorem aS9 (n:Nat):oE n<=oE (n+1):=by
 cases n with
 |zero=>decide
 |succ n=>have:=RN n;show _<=oE (n+1)+oE n;omega
theorem aB7 {m n:Nat} (h:m<=n):oE m<=oE n:=by
 induction h with
 |refl=>exact lV _
 |step _ d=>exact Int.le_trans d (aS9 _)
theorem HT.wt_pos {f:Nat->Int}:∀t:HT,t.even f->1<=t.wt f
 |.leaf _,h=>h
 |.node _ l r,h=>by have:=HT.wt_pos l h.1;have:=HT.wt_pos r h.2.1;unfold HT.wt;omega
theorem HT.wt_high2 {f:Nat->Int}:∀t:HT,t.even f->oE t.high<=t.wt f/\∀x,1<=x->t.kids f x->oE (t.high+1)<=t.wt f+x
 |.leaf n,h=>⟨h,fun x D _=>by
   have F:1<=f n:=h;show(2:Int)<=f n+x;omega⟩
 |.node n l r,h=>by
  obtain⟨G,e⟩:=HT.wt_high2 l h.1;obtain⟨I,A⟩:=HT.wt_high2 r h.2.1;have J:=e _ (HT.wt_pos r h.2.1) h.2.2.1;have L:=A _ (HT.wt_pos l h.1) h.2.2.2;have first:oE (max l.high r.high+1)<=l.wt f+r.wt f:=by grind
  refine⟨first,fun x _ d=>?_⟩;show oE (max l.high r.high+1)+oE (max l.high r.high)<=l.wt f+r.wt f+x;have M:l.wt f<=x:=d.1;have O:r.wt f<=x:=d.2
  grind
theorem HT.wt_high {f:Nat->Int} (t:HT) (h:t.even f):oE t.high<=t.wt f:=(HT.wt_high2 t h).1
theorem aTa {l m:List Int} (h:l.Perm m):l.sum=m.sum:=by
 induction h with
 |nil=>rfl
 |cons x _ d=>simp only[xB];omega
 |swap x y l=>simp only[xB];omega
 |trans _ _ e A=>omega
structure wE (f:Nat->Int) (r:cE):Prop where
 wt:∀p∈r,p.1=p.2.wt f
 even:∀p∈r,p.2.even f
 kids:∀p∈r,∀q∈r,p.2.kids f (q.2.wt f)
theorem HT.kids_le {f:Nat->Int} {x y:Int} (h:x<=y):∀t:HT,t.kids f x->t.kids f y
 |.leaf _,_=>trivial
 |.node _ _ _,⟨d,e⟩=>⟨by omega,by omega⟩
theorem wE.step {f:Nat->Int} {n:Nat} {r:cE} (d:wE f r) (h:2<=r.length):wE f (qV n r)/\((qV n r).map (·.1)).sum=(r.map (·.1)).sum:=by
 obtain⟨a,b,s,F,M,Y,Z,es,O,a0⟩:=uL n r h;have e:a∈r:=F.mem_iff.1 (by simp);have A:b∈r:=F.mem_iff.1 (by simp);have G:∀x∈s,x∈r:=fun x R=>F.mem_iff.1 (by simp[R])
 have wa:=d.wt a e;have U:=d.wt b A;have pa:=HT.wt_pos _ (d.even a e);have pb:=HT.wt_pos _ (d.even b A);rw[M];refine⟨⟨fun p D=>?_,fun p D=>?_,fun p D q J=>?_⟩,?_⟩
 ·rcases dK.1 D with q|q
  ·exact d.wt p (G p q)
  ·obtain rfl:=cP.1 q;show a.1+b.1=a.2.wt f+b.2.wt f;omega
 ·rcases dK.1 D with q|q
  ·exact d.even p (G p q)
  ·obtain rfl:=cP.1 q;exact⟨d.even a e,d.even b A,d.kids a e b A,d.kids b A a e⟩
 ·have a1:∀u∈r,u.2.kids f (q.2.wt f):=fun u L=>by
   rcases dK.1 J with k|k
   ·exact d.kids u L q (G q k)
   ·obtain rfl:=cP.1 k;exact HT.kids_le (show a.2.wt f<=a.2.wt f+b.2.wt f by omega) _ (d.kids u L a e)
  rcases dK.1 D with k|k
  ·grind
  ·obtain rfl:=cP.1 k;have V:b.2.wt f<=q.2.wt f:=by
    rcases dK.1 J with I|I
    ·have:=O q I;rw[<-U,<-d.wt q (G q I)];exact this
    ·obtain rfl:=cP.1 I;show _<=a.2.wt f+b.2.wt f;omega
   exact⟨by omega,V⟩
 ·have:(r.map (·.1)).sum=((a::b::s).map (·.1)).sum:=(aTa (F.map _)).symm
  grind
theorem wE.all (d:List Int) (D:∀x∈d,1<=x):∀t,t<d.length->wE (fun j=>d.getD j 0) (bS d t)/\((bS d t).map (·.1)).sum=d.sum
 |0,_=>by
  refine⟨⟨fun p e=>?_,fun p e=>?_,fun p e q _=>?_⟩,?_⟩
  ·obtain⟨j,A,rfl⟩:=cE.start_mem e;rfl
  ·obtain⟨j,A,rfl⟩:=cE.start_mem e;show 1<=d.getD j 0
   grind [aN,List.getElem_mem,bS]
  ·obtain⟨j,A,rfl⟩:=cE.start_mem e;trivial
  ·congr 1
   unfold bS;rw[List.map_map];apply lH
   grind
 |t+1,h=>by
  obtain⟨F,G⟩:=wE.all d D t (by omega);obtain⟨I,J⟩:=F.step (n:=d.length+t) (by grind [tS,bS])
  grind [bS]
theorem aTb (d:List Int) (h:2<=d.length) (R:∀x∈d,1<=x) (hs:d.sum<28657):(nK d).length=d.length/\∀x∈nK d,1<=x/\x<=20:=by
 refine⟨wD _ _,fun x U=>?_⟩;obtain⟨p,V,Y⟩:=LA d h;have F:=mT.all d (d.length-1) (by omega);have J:=tT.all d (d.length-1) (by omega);obtain⟨G,Z⟩:=wE.all d R (d.length-1) (by omega);rw[V] at F J G Z;obtain⟨j,hj,rfl⟩:=yN.1 U;have a0:j<d.length:=by grind [wD,nK]
 obtain⟨A,a1,L⟩:=F.leaves j a0;obtain rfl:=cP.1 a1;rw[<-HT.deep_map A.2 0] at L;obtain⟨q,D,a2⟩:=eK.1 L;have e2:=(J.2 A (cP.2 rfl) q D).2;rw[show q.1=j from a2] at e2;have e3:(nK d)[j]=(q.2:Int):=by grind [jO,nK]
 rw[e3];have hb:=HT.deep_bd A.2 0 q D;have hw:=HT.wt_high A.2 (G.even A (cP.2 rfl));have a5:=G.wt A (cP.2 rfl);have a6:A.1=d.sum:=by grind
 have hh:A.2.high<=20:=by
  rcases cF 20 A.2.high with k|k
  ·have:=aB7 (show 21<=A.2.high from k);have e:oE 21=28657:=by decide
   omega
  ·exact k
 refine⟨?_,by omega⟩;rcases Nat.eq_zero_or_pos q.2 with k|k
 ·exfalso
  cases I:A.2 with
  |leaf m=>
   have a7:m=2*d.length-2:=by rw[<-Y,I];rfl
   obtain⟨p0,a3,M⟩:=F.leaves 0 (by omega);obtain⟨p2,a4,O⟩:=F.leaves 1 (by omega);obtain rfl:=cP.1 a3;obtain rfl:=cP.1 a4;rw[I] at M O;have:=cP.1 M;have:=cP.1 O;omega
  |node m l r=>
   rw[I] at D;rcases dK.1 D with D|D
   ·have:=HT.deep_bd l _ q D;omega
   ·have:=HT.deep_bd r _ q D;omega
 ·omega
theorem aFr:∀(n:Nat) (l:List Nat),l.Nodup->(∀x∈l,x<n)->l.length<=n
 |0,l,_,h=>by
  cases l with
  |nil=>simp
  |cons x l=>have:=h x (jK ..);omega
 |n+1,l,d,h=>by
  have e:=aFr n (l.erase n) (d.erase n) (fun x A=>by grind)
  grind
theorem aFs (d:List Int) (t:Nat) (A:t<d.length) {p:Int×HT} (D:p∈bS d t):∀x∈p.2.leaves,x<d.length:=fun x e=>by
 rw[<-HT.deep_map p.2 0] at e;obtain⟨q,F,rfl⟩:=eK.1 e;exact((tT.all d t A).2 p D q F).1
def oY (d:List Int) (t:Nat):List Nat:=(cA (bS d t)).1.2.leaves++(cA (cA (bS d t)).2).1.2.leaves
theorem TH (d:List Int) (t:Nat) (M:t+1<d.length):(oY d t).Nodup/\(∀x∈oY d t,x<d.length)/\(oY d t).length<=d.length:=by
 have O:=tS d t (by omega);obtain⟨a,b,s,A,R,G,I,_,_,_⟩:=uL (d.length+t) (bS d t) (by omega);obtain⟨D,_⟩:=RM (mT.all d t (by omega)).nodup A;have J:a∈bS d t:=A.mem_iff.1 (by simp);have L:b∈bS d t:=A.mem_iff.1 (by simp);unfold oY;rw[G,I];have F:∀x∈a.2.leaves++b.2.leaves,x<d.length:=fun x e=>by
  rcases dK.1 e with e|e
  ·exact aFs d t (by omega) J x e
  ·exact aFs d t (by omega) L x e
 exact⟨D,F,aFr _ _ D F⟩
theorem aFt (d:List Int) (t:Nat):jO d (t+1)=lZ (jO d t) (oY d t):=rfl
theorem aFu (d:List Int):∀t,t<d.length->∀j,j<d.length->0<=(jO d t).getD j 0/\(jO d t).getD j 0<=(t:Int)
 |0,_,j,e=>by simp[jO,e]
 |t+1,A,j,e=>by
  have D:=aFu d t (by omega) j e
  grind [wD,aFt,BW,TH,jO]
theorem aX3 (d:List Int) (e:List Nat) (y:Nat):lZ d (e++[y])=(lZ d e).set y ((lZ d e).getD y 0+1):=by simp[lZ]
theorem aX4 (e:List Int) (t:Nat) (D:t+1<e.length) {j y:Nat} (F:(oY e t)[j]? =some y):y<e.length/\∃d:Int,(lZ (jO e t) ((oY e t).take j))[y]? =some d/\0<=d/\d<=1000+(e.length:Int)/\
  lZ (jO e t) ((oY e t).take (j+1))=(lZ (jO e t) ((oY e t).take j)).set y (d+1):=by
 obtain⟨G,I,J⟩:=TH e t D;have A:=I y (List.mem_of_getElem? F);have L:(lZ (jO e t) ((oY e t).take j)).length=e.length:=by rw[KZ,wD]
 have M:=BW ((oY e t).take j) (jO e t) (G.sublist (List.take_sublist _ _)) y (by rw[wD];exact A);have O:=aFu e t (by omega) y A
 grind [lZ,jO,oY,aN,cG,Option.toList_some,aX3]
end
section
open Go.Shelf Go.RowKit
def FU:Go.Shelf.Ren:=⟨fun|166=>36|167=>211|169=>37|170=>210|240=>80|276=>121|n=>n,fun|3=>3|4=>4|5=>5|9=>9|20=>20|37=>84|70=>83|72=>86|75=>93|80=>96|127=>159|164=>208|n=>n,fun|n=>n⟩
theorem bAi:Go.Proofs.Lays.n166 pG FU:={
 mixed:=by kernel_rfl
 f166:=func36.trans (congrArg some (by kernel_rfl))
 f240:=func80.trans (congrArg some (by kernel_rfl))
 f276:=func121.trans (congrArg some (by kernel_rfl))
 t0:=underlying0
 a0:=Tryz.isAgg0
 z0:=Tryz.sizeOf0
 v0:=Tryz.zeroValue0
 t3:=underlying3
 a3:=Tryz.isAgg3
 z3:=Tryz.sizeOf3
 v3:=Tryz.zeroValue3
 t4:=underlying4
 a4:=Tryz.isAgg4
 z4:=Tryz.sizeOf4
 v4:=Tryz.zeroValue4
 t9:=underlying9
 a9:=Tryz.isAgg9
 z9:=Tryz.sizeOf9
 v9:=Tryz.zeroValue9
 t20:=underlying20
 a20:=Tryz.isAgg20
 z20:=Tryz.sizeOf20
 v20:=Tryz.zeroValue20
 t37:=underlying84
 a37:=Tryz.isAgg84
 z37:=Tryz.sizeOf84
 v37:=Tryz.zeroValue84
 t70:=underlying83
 a70:=Tryz.isAgg83
 z70:=Tryz.sizeOf83
 v70:=Tryz.zeroValue83
 t72:=underlying86
 a72:=Tryz.isAgg86
 z72:=Tryz.sizeOf86
 v72:=Tryz.zeroValue86
 t75:=underlying93
 a75:=Tryz.isAgg93
 z75:=Tryz.sizeOf93
 v75:=Tryz.zeroValue93
 t164:=underlying208
 a164:=Tryz.isAgg208
 z164:=Tryz.sizeOf208
 v164:=Tryz.zeroValue208}
theorem bAj:Go.Proofs.Lays.n167 pG FU:={
 mixed:=by kernel_rfl
 f167:=func211.trans (congrArg some (by kernel_rfl))
 f240:=func80.trans (congrArg some (by kernel_rfl))
 f276:=func121.trans (congrArg some (by kernel_rfl))
 t0:=underlying0
 a0:=Tryz.isAgg0
 z0:=Tryz.sizeOf0
 v0:=Tryz.zeroValue0
 t4:=underlying4
 a4:=Tryz.isAgg4
 z4:=Tryz.sizeOf4
 v4:=Tryz.zeroValue4
 t5:=underlying5
 a5:=Tryz.isAgg5
 z5:=Tryz.sizeOf5
 v5:=Tryz.zeroValue5
 t9:=underlying9
 a9:=Tryz.isAgg9
 z9:=Tryz.sizeOf9
 v9:=Tryz.zeroValue9
 t20:=underlying20
 a20:=Tryz.isAgg20
 z20:=Tryz.sizeOf20
 v20:=Tryz.zeroValue20
 t37:=underlying84
 a37:=Tryz.isAgg84
 z37:=Tryz.sizeOf84
 v37:=Tryz.zeroValue84
 t70:=underlying83
 a70:=Tryz.isAgg83
 z70:=Tryz.sizeOf83
 v70:=Tryz.zeroValue83
 t72:=underlying86
 a72:=Tryz.isAgg86
 z72:=Tryz.sizeOf86
 v72:=Tryz.zeroValue86
 t75:=underlying93
 a75:=Tryz.isAgg93
 z75:=Tryz.sizeOf93
 v75:=Tryz.zeroValue93
 t164:=underlying208
 a164:=Tryz.isAgg208
 z164:=Tryz.sizeOf208
 v164:=Tryz.zeroValue208}
theorem bAk:Go.Proofs.Lays.n169 pG FU:={
 mixed:=by kernel_rfl
 f169:=func37.trans (congrArg some (by kernel_rfl))
 t0:=underlying0
 a0:=Tryz.isAgg0
 z0:=Tryz.sizeOf0
 v0:=Tryz.zeroValue0
 t3:=underlying3
 a3:=Tryz.isAgg3
 z3:=Tryz.sizeOf3
 v3:=Tryz.zeroValue3
 t9:=underlying9
 a9:=Tryz.isAgg9
 z9:=Tryz.sizeOf9
 v9:=Tryz.zeroValue9
 t37:=underlying84
 a37:=Tryz.isAgg84
 z37:=Tryz.sizeOf84
 v37:=Tryz.zeroValue84
 t70:=underlying83
 a70:=Tryz.isAgg83
 z70:=Tryz.sizeOf83
 v70:=Tryz.zeroValue83
 t72:=underlying86
 a72:=Tryz.isAgg86
 z72:=Tryz.sizeOf86
 v72:=Tryz.zeroValue86
 t127:=underlying159
 a127:=Tryz.isAgg159
 z127:=Tryz.sizeOf159
 v127:=Tryz.zeroValue159}
theorem bAl:Go.Proofs.Lays.n170 pG FU:={
 mixed:=by kernel_rfl
 f170:=func210.trans (congrArg some (by kernel_rfl))
 t0:=underlying0
 a0:=Tryz.isAgg0
 z0:=Tryz.sizeOf0
 v0:=Tryz.zeroValue0
 t3:=underlying3
 a3:=Tryz.isAgg3
 z3:=Tryz.sizeOf3
 v3:=Tryz.zeroValue3
 t37:=underlying84
 a37:=Tryz.isAgg84
 z37:=Tryz.sizeOf84
 v37:=Tryz.zeroValue84
 t70:=underlying83
 a70:=Tryz.isAgg83
 z70:=Tryz.sizeOf83
 v70:=Tryz.zeroValue83
 t72:=underlying86
 a72:=Tryz.isAgg86
 z72:=Tryz.sizeOf86
 v72:=Tryz.zeroValue86}
theorem UB:Builder.Extra pG FU:={
 sizeBuilder:=by kernel_rfl
 liesBuilder:=by kernel_rfl
 t5:=underlying5
 a5:=Tryz.isAgg5
 z5:=Tryz.sizeOf5
 v5:=Tryz.zeroValue5
 infoByte:=by kernel_rfl
 cellsByte:=by kernel_rfl
 sizeByte:=by kernel_rfl
 neB5:=by decide}
def Bld (w:World) (B b:Nat) (l:List UInt8):Prop:=Lib.IsBuilderF 86 5 B b (pU l) w
theorem UC (B b:Nat) (l:List UInt8) (s:ByteArray) (w:World) (h:Bld w B b l) (d:l.length+s.size<=140737488355328) (A:B<=w.heap.size):
  Calls pG 36 #[.pointer (some ⟨b,0,none⟩),.string s] w fun e w'=>e=.returned (.tuple #[.int .i64 (s.size:Int),.nilIface])/\Bld w' B b (l++s.data.toList)/\Below B w w'/\Lib.OthersKept 5 (some b) w w':=by
 refine(Any.Builder_WriteString_k bAi UB B b (pU l) s w h (by simpa [pU] using d) A).mono ?_;rintro e w' ⟨rfl,D,F,G⟩;refine⟨rfl,.inr ?_,F,G⟩;have e:pU (l++s.data.toList)=pU l++Lib.strCells s:=by simp[pU,Lib.strCells]
 rw[e];exact D
theorem aHi (B b:Nat) (l:List UInt8) (c:UInt8) (w:World) (h:Bld w B b l) (d:l.length+1<=140737488355328) (A:B<=w.heap.size):
  Calls pG 211 #[.pointer (some ⟨b,0,none⟩),.int .u8 (c.toNat:Int)] w fun e w'=>e=.returned .nilIface/\Bld w' B b (l++[c])/\Below B w w'/\Lib.OthersKept 5 (some b) w w':=by
 refine(Any.Builder_WriteByte_k bAj UB B b (pU l) (c.toNat:Int) w h (by simpa [pU] using d) A).mono ?_;rintro e w' ⟨rfl,D,F,G⟩;refine⟨rfl,.inr ?_,F,G⟩;have e:pU (l++[c])=pU l++[Value.int .u8 (c.toNat:Int)]:=by simp[pU]
 rw[e];exact D
theorem MP (B b:Nat) (l:List UInt8) (w:World) (h:Bld w B b l) (d:B<=w.heap.size):
  Calls pG 37 #[.pointer (some ⟨b,0,none⟩)] w fun e w'=>e=.returned (.string (mkS l))/\Bld w' B b l/\Below B w w'/\Lib.OthersKept 5 (some b) w w':=
 Any.Builder_String_any_k bAk UB B b l w h d
theorem MQ (B b:Nat) (l:List UInt8) (w:World) (h:Bld w B b l):
  Calls pG 210 #[.pointer (some ⟨b,0,none⟩)] w fun e w'=>e=.returned (.int .i64 (l.length:Int))/\w'=w:=by
 refine(Any.Builder_Len_f bAl B b (pU l) w h).mono ?_;rintro e w' ⟨rfl,rfl⟩;refine⟨?_,rfl⟩;simp[pU]
end
end Go.Proofs.YtfckbfofgeilgaaGreatDoor
