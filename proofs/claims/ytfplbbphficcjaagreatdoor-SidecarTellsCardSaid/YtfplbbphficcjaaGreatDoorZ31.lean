/-
  Texts put together (part 31): the walks and the plain laws on which the statement stands.
-/
import Derived.Test.YtfplbbphficcjaaGreatDoorZ29
set_option maxRecDepth 100000
set_option maxHeartbeats 12800000
set_option linter.unusedVariables false
set_option linter.unusedSimpArgs false
open Go.Proofs.Tryz
open Go.Proofs.Tryz renaming prog->pG
open ByteArray renaming size_append->rG,size_extract->aL6
open Go.Act renaming put->bJ
open Go.IntKind renaming i64->aJ,wrap_i64->aM
open Go.RowKit.Below renaming refl->aH
open Go.Value renaming int->bQ
open Go.World.ownsRow renaming kept->yJ
open Int renaming neg_tmod->OP,tmod_eq_emod_of_nonneg->mL,toNat_of_nonneg->rI
open List renaming drop_zero->pI,getElem?_cons_succ->gH,getElem?_cons_zero->gB,getElem?_eq_getElem->aN,getElem?_toArray->gA,length_cons->aU,length_nil->aV,length_set->nW,length_take->aQ,mem_cons_of_mem->iQ,mem_cons_self->jK,setIfInBounds_toArray->bK,set_cons_succ->bB,set_cons_zero->bH,size_toArray->dB,take_add_one->cG
open Nat renaming le_refl->aD,le_trans->aR,reduceAdd->cV,reduceSub->dC,shiftRight_eq_div_pow->AW,sub_zero->sD
open Option.some renaming inj->cC
open Or renaming inl->gJ,inr->gI
open UInt8 renaming ofNat->eA
namespace Go.Proofs.YtfplbbphficcjaaGreatDoor
open Go.RowKit Go Go.Shelf
theorem MV (t:ByteArray) (l:List ByteArray):fN (t::l)=eJ t++fN l:=rfl
theorem bBs (x y:List ByteArray):fN (x++y)=fN x++fN y:=by unfold fN;simp
theorem bBt {l:List ByteArray} {i:Nat} {t:ByteArray} (h:l[i]? =some t):fN (l.take (i+1))=fN (l.take i)++eJ t:=by grind [cG,fN,bBs,MV,eJ]
def oH (r:Int):List ByteArray->Int
 |[]=>0
 |t::l=>if jZ t r≠0 then jZ t r else oH r l
def wrE (n:Int) (l:List ByteArray):Int:=if n<1\/9<n then 1 else oH (40*n) l
theorem AA {r:Int}:∀{l:List ByteArray},(∀t∈l,jZ t r=0)->oH r l=0
 |[],_=>rfl
 |x::l,h=>by
  unfold oH;rw[aA (fun k=>k (h x (jK ..)))];exact AA (fun t d=>h t (iQ _ d))
theorem UL {r:Int}:∀{l:List ByteArray} {k:Nat},(∀t∈l.take k,jZ t r=0)->oH r l=oH r (l.drop k)
 |_,0,_=>rfl
 |[],_+1,_=>rfl
 |x::l,k+1,h=>by
  show oH r (x::l)=oH r (l.drop k)
  conv=>lhs;unfold oH
  rw[aA (fun q=>q (h x (by simp)))];exact UL (fun t d=>h t (by grind))
theorem aIl {t:ByteArray} {r:Int} (h:jZ t r=0) (d:iZ (mkS (bT t.data.toList))):okT r t:=by grind [bBx,jZ,iZ,mkS,bT,okT]
theorem yC {r:Int} (d:r<=360):∀(l:List ByteArray),(∀t∈l,okT r t)->(fN l).length<=28000*l.length
 |[],_=>aD _
 |t::l,h=>by
  obtain⟨A,D,F⟩:=h t (jK ..);have G:=yC d l (fun x e=>h x (iQ _ e))
  grind [bBw,MV,okT,fN]
def gU:Int->List Prt->List Ent
 |_,[]=>[]
 |d,p::l=>⟨p.a,p.r,d,(p.t.size:Int),p.y⟩::gU (d+(p.t.size:Int)) l
def vE (l:List Prt):Nat:=(l.map (fun p=>p.t.size)).sum
theorem bEn (p:Prt) (l:List Prt):vE (p::l)=p.t.size+vE l:=by unfold vE;simp
theorem NK:∀(l:List Prt) (d:Int),(gU d l).length=l.length
 |[],_=>rfl
 |p::l,d=>by simp[gU,NK]
theorem aKo:∀(l m:List Prt) (d:Int),gU d (l++m)=gU d l++gU (d+(vE l:Int)) m
 |[],m,d=>by
  show gU d m=gU (d+((0:Nat):Int)) m;rw[Int.natCast_zero,Int.add_zero]
 |p::l,m,d=>by
  show _::gU _ (l++m)=_::(gU _ l++_);rw[aKo l m,bEn]
  grind
theorem bEo {l:List Prt} {k:Nat} {p:Prt} (h:l[k]? =some p):gU 0 (l.take (k+1))=gU 0 (l.take k)++[⟨p.a,p.r,(vE (l.take k):Int),(p.t.size:Int),p.y⟩]:=by
 rw[cG,h]
 grind [gU,aKo,vE]
theorem bEp {l:List Prt} {k:Nat} {p:Prt} (h:l[k]? =some p):vE (l.take (k+1))=vE (l.take k)+p.t.size:=by grind [cG,vE]
def mJ (d e:Nat) (A B:World):Prop:=A.heap.size<=B.heap.size/\∀k,k<A.heap.size->k≠d->k≠e->B.heap[k]? =A.heap[k]?
theorem mJ.refl (d e:Nat) (A:World):mJ d e A A:=⟨aD _,fun _ _ _ _=>rfl⟩
theorem mJ.trans {d e:Nat} {A B C:World} (h:mJ d e A B) (k:mJ d e B C):mJ d e A C:=⟨aR h.1 k.1,fun i D F G=>(k.2 i (Nat.lt_of_lt_of_le D h.1) F G).trans (h.2 i D F G)⟩
theorem mJ.cell {d e:Nat} {A B:World} (h:mJ d e A B) {b o:Nat} {v:Value} (D:A.cell? ⟨b,o,none⟩=some v) (F:b≠d) (G:b≠e):B.cell? ⟨b,o,none⟩=some v:=by
 rw[<-D];exact World.cell?_of_block (h.2 b (World.block_lt_of_cell? A _ D) F G)
def LF (w:World) (B:Nat) (d:List Value) (e:List (List Int)):Prop:=d.length=e.length/\∀(j:Nat) (x:Value) (g:List Int),d[j]? =some x->e[j]? =some g->nO w B x g
theorem LF.nil (w:World) (B:Nat):LF w B [] []:=⟨rfl,fun j x g h=>by simp at h⟩
theorem LF.map {w w':World} {B d:Nat} {e:List Value} {A:List (List Int)} (h:LF w B e A) (k:∀(x:Value) (g:List Int),nO w B x g->nO w' d x g):LF w' d e A:=⟨h.1,fun j x g D F=>k x g (h.2 j x g D F)⟩
theorem LF.below {w w':World} {B:Nat} {d:List Value} {e:List (List Int)} (h:LF w B d e) (A:Below w.heap.size w w'):LF w' B d e:=h.map (fun _ _ k=>k.below A)
theorem nO.kept {w w':World} {B A:Nat} {v u:Value} {l:List Int} {D:List Value} (h:nO w B v l) (F:Ow w A 55 u D) (G:w.grownBy w' u.ownBlock):nO w' B v l:=by
 obtain⟨b,R,e,H,d⟩:=h;exact⟨b,R,e,H,d.grown G (MG d F (by decide))⟩
theorem nO.one {w:World} {B:Nat} {v:Value} {l:List Int} (h:nO w B v l):v.oneCell'=true:=by
 obtain⟨b,R,e,_,_⟩:=h;rw[e];rfl
theorem WrL.below {w w':World} {p B:Nat} {d:List (List Bool)} (h:WrL w p B d) (e:Below w.heap.size w w'):WrL w' p B d:=by
 obtain⟨v,A,D⟩:=h;exact⟨v,A.below e A.lt,D.below e (aD _)⟩
def oI (l:List ByteArray):List Value:=l.map Value.string
def RdT (w:World) (v:Value) (l:List ByteArray):Prop:=Rd w v l.length (oI l)
theorem FX (l:List ByteArray):(oI l).length=l.length:=List.length_map ..
theorem RdT.below {w w':World} {v:Value} {l:List ByteArray} (h:RdT w v l) (d:Below w.heap.size w w'):RdT w' v l:=Rd.below h d
theorem RdT.open {w:World} {v:Value} {l:List ByteArray} (h:RdT w v l):
  ∃a cap,v=.slice a l.length cap/\l.length<=cap/\cap<=maxLen/\
   (0<l.length->∃b off,a=some ⟨b,off,none⟩/\b<w.heap.size/\∀j x,l[j]? =some x->w.cell? ⟨b,off+j,none⟩=some (.string x)):=by
 obtain⟨a,cap,rfl,D,F,d⟩:=h;refine⟨a,cap,rfl,D,F,fun J=>?_⟩;rcases d with d|⟨b,off,rfl,G,H⟩
 ·have:=congrArg List.length d;rw[FX,aV] at this;omega
 ·refine⟨b,off,rfl,G,fun j x A=>?_⟩;have I:=(List.getElem?_eq_some_iff.1 A).1;have e:(oI l)[j]? =some (.string x):=by unfold oI;rw[List.getElem?_map,A];rfl
  rw[H j (by rw[FX];exact I),List.getD_eq_getElem?_getD,e];rfl
theorem MY {w w':World} {B e size n G A H I:Nat} {v D:Value} {F J:List Value} (h:w.ownsRow B e size v n F) (L:w.ownsRow G A H D I J) (M:w.grownBy w' D.ownBlock) (O:e≠A):w'.ownsRow B e size v n F:=by
 refine yJ h M ?_;rcases h.2 with⟨rfl,_⟩|⟨g,cap,U,rfl,_,T,_⟩
 ·exact .inl rfl
 ·refine .inr fun q=>?_
  rcases L.2 with⟨rfl,_⟩|⟨V,Y,Z,rfl,_,d,_⟩
  ·cases q
  ·obtain rfl:=cC q;rw[T] at d
   injection d with d
   injection d with _ q2 _
   exact O q2
theorem bBy:ElT pG 81 38 4 (.int .u32 0):=ElT.mk' (by kernel_rfl) underlying81 rfl (by decide)
theorem aIn {e:Array Oper} {rest:List Oper} {o:Oper} {a:Act} {Q:Exit->Act->World->Prop} {w:World} (A:o.guard=none) (s x:Operand)
  (D:o.op=.call {callee:=.builtin .append,args:=#[s,x],argTypes:=#[81,81]}) (base:Nat) (v:Value) (l:List (BitVec 32)) (hs:a.eval s=v) (hown:OwS w base v l)
  (g:Nat) (n:BitVec 32) (hx:a.eval x=.slice (some ⟨g,0,none⟩) 1 1) (hc:w.cell? ⟨g,0,none⟩=some (.int .u32 (n.toNat:Int))) (hroom:(l.length+1)*4<=140737488355328) (hbase:base<=w.heap.size)
  (h:∀d w',OwS w' base d (l++[n])->Below base w w'->w.grownBy w' v.ownBlock->wpList pG e Q rest (a.put o.dst d) w'):wpList pG e Q (o::rest) a w:=
 tM bBy A s x D base v _ hs hown g _ hx hc rfl (by simpa [uX] using hroom) hbase (fun d w' F G H=>h d w' (by unfold OwS uX;rw[List.map_append];exact F) G H)
def aIo (w w':World) (n:Int) (l:List ByteArray) (e:Ending):Prop:=
 (wrE n l=0/\e=.returned (.tuple #[.string (mkS (aI (cM n.toNat l))),.int .i64 0])/\(∀t∈l,okT (40*n) t)/\Below w.heap.size w w')\/(wrE n l≠0/\e=.returned (.tuple #[.string ⟨#[]⟩,.int .i64 (wrE n l)])/\Below w.heap.size w w')
theorem VE (c n:Int) (w:World) (A: -9223372036854775808<=c) (D:c<=9223372036854775807) (F:1<=n) (G:n<=1000000000):
  Calls pG 20 #[.int .i64 c,.int .i64 n] w fun e w'=>e=.returned (.int .i64 (cK c n))/\w=w':=by
 by_cases h:c<0
 ·have d:=hid (show cK c n=(-(c+1))%n from by simp[cK,h]);go_enter func20,ntmps20;go_wp2;go_ret;exact⟨eI (by rw[d.out];rw[<-OP,mL (by omega)]),rfl⟩
 ·have d:=hid (show cK c n=c%n from by simp[cK,h]);have H:0<=c:=by omega
  go_enter func20,ntmps20;go_wp2;go_ret;exact⟨eI (by rw[d.out]),rfl⟩
theorem bDg (s:ByteArray) (w:World) (A:s.size<=1000000):
  Calls pG 56 #[.string s] w fun e w'=>e=.returned (.int .i64 (lnL s.data.toList:Int))/\Below w.heap.size w w':=by
 have h:=aHf s w A;obtain⟨P,d⟩:∃P,P=mkS (bT s.data.toList):=⟨_,rfl⟩;have D:=hid (show(P.size:Int)=(lnL s.data.toList:Int) by rw[d,cS];rfl);rw[<-d] at h;clear d;go_enter func56,ntmps56;go_wp2_with fail;refine h.mono ?_;rintro e G ⟨rfl,F⟩;go_wp2_with fail;go_ret;exact⟨eI D.out,F⟩
theorem aJd (s:ByteArray) (room:Nat) (w:World) (hs:s.size<=100000) (hr:room<=1000000):
  Calls pG 40 #[.string s,.int .i64 (room:Int)] w fun e w'=>e=.returned (.int .i64 (cJ s.data.toList room:Int))/\Below w.heap.size w w':=by
 have G:=hid (show s.data.toList.length=s.size by simp);have hcut:=pT s.data.toList room;obtain⟨C,O⟩:∃C,C=cJ s.data.toList room:=⟨_,rfl⟩;rw[<-O] at hcut ⊢;obtain⟨a0,a1,H⟩:=hcut;rw[G.out] at a0 H;have HU:=hid (fun i (h1:i<=s.size)=>show lnL (s.data.toList.take i)<=room↔i<=C from by
  constructor
  ·intro h;refine Nat.le_of_not_lt fun q=>?_
   have a:=H (by omega);have b:=AC s.data.toList (C+1) (i-(C+1)) (by rw[G.out];omega);rw[show C+1+(i-(C+1))=i by omega] at b;omega
  ·intro h;have b:=AC s.data.toList i (C-i) (by rw[G.out];omega);rw[show i+(C-i)=C by omega] at b;omega)
 clear O a1 H;go_enter func40,ntmps40;go_wp2_with fail
 go_loopg [5,6] (s.size+1) (fun g s5 s6 wr=>∃i K:Nat,i<=s.size+1/\g=s.size+1-i/\s6=.int .i64 (i:Int)/\s5=.int .i64 (K:Int)/\Hid (K=min (i-1) C)/\Below w.heap.size w wr)
 case atStart=>exact⟨0,0,Nat.zero_le _,rfl,rfl,rfl,hid (by omega),aH _ _⟩
 case round=>
  obtain⟨i,K,hi,F,rfl,rfl,I,U⟩:=hrel;have V:=hid F;clear F
  by_cases a2:i<=s.size
  ·have t1:decide ((i:Int)<=(s.size:Int))=true:=aG (by omega);have q1:(i:Int)<=(s.size:Int):=by omega
   obtain⟨T,J⟩:∃T,T=s.extract 0 i:=⟨_,rfl⟩;have L:T.data.toList=s.data.toList.take i:=by rw[J,iW,dP,pI,sD]
   have a5:T.size<=s.size:=by
    have:T.data.toList.length=T.size:=by simp
    rw[<-this,L,aQ];omega
   have A:=bDg T wr (by omega);rw[L] at A;have D:=HU.out i a2;obtain⟨X,Y⟩:∃X,X=lnL (s.data.toList.take i):=⟨_,rfl⟩;rw[<-Y] at A D;have a6:=J.symm;clear J L Y;go_wp2_with fail;refine A.mono ?_;rintro e w2 ⟨rfl,a3⟩;have Z:=aW U a3
   by_cases d:X<=room
   ·have t2:decide ((X:Int)<=(room:Int))=true:=aG (by omega);have a4:decide (X<=room)=true:=aG d;have hK:=I.out;have M:=hid (show i=min (i+1-1) C by have:=D.1 d;omega);clear hK D d A;go_wp2_with fail;have F:=V.out
    go_roundg (s.size+1-(i+1))
    case measure=>omega
    case rel=>exact⟨i+1,i,by omega,rfl,by go_num,rfl,M,Z⟩
   ·have t2:decide ((X:Int)<=(room:Int))=false:=aE (by omega);have a4:decide (X<=room)=false:=aE d;have M:=hid (show K=min (i+1-1) C by have:=I.out;have:=fun q=>d (D.2 q);omega);clear D d A;go_wp2_with fail;have F:=V.out
    go_roundg (s.size+1-(i+1))
    case measure=>omega
    case rel=>exact⟨i+1,K,by omega,rfl,by go_num,rfl,M,Z⟩
  ·have t1:decide ((i:Int)<=(s.size:Int))=false:=aE (by omega);have HF:=hid (show(K:Int)=(C:Int) by have:=I.out;omega);go_wp2_with fail;go_ret;exact⟨eI HF.out,U⟩
theorem aJe:ElT pG 40 9 16 (.string ⟨#[]⟩):=ElT.mk' (by kernel_rfl) underlying40 rfl (by decide)
def OwT (w:World) (B:Nat) (v:Value) (l:List ByteArray):Prop:=Ow w B 9 v (oI l)
theorem OwT.rd {w:World} {B:Nat} {v:Value} {l:List ByteArray} (h:OwT w B v l):RdT w v l:=by grind [RdT,Ow.rd,FX,OwT]
theorem aJf {e:Array Oper} {rest:List Oper} {o:Oper} {a:Act} {Q:Exit->Act->World->Prop} {w:World} (A:o.guard=none) (s x:Operand)
  (D:o.op=.call {callee:=.builtin .append,args:=#[s,x],argTypes:=#[40,40]}) (base:Nat) (v:Value) (l:List ByteArray) (hs:a.eval s=v) (hown:OwT w base v l)
  (g:Nat) (n:ByteArray) (hx:a.eval x=.slice (some ⟨g,0,none⟩) 1 1) (hc:w.cell? ⟨g,0,none⟩=some (.string n)) (hroom:(l.length+1)*16<=140737488355328) (hbase:base<=w.heap.size)
  (h:∀d w',OwT w' base d (l++[n])->Below base w w'->w.grownBy w' v.ownBlock->wpList pG e Q rest (a.put o.dst d) w'):wpList pG e Q (o::rest) a w:=
 tM aJe A s x D base v _ hs hown g _ hx hc rfl (by simpa [oI] using hroom) hbase (fun d w' H F G=>h d w' (by grind [OwT,oI,rest]) F G)
theorem kpT {d e w0:World} {B:Nat} (h:Below B w0 d/\B<=d.heap.size) (A:Below d.heap.size d e):Below B w0 e/\B<=e.heap.size:=⟨h.1.trans (A.mono h.2),aR h.2 A.size⟩
def vC (l:List ByteArray):Prop:=∀t∈l,0<t.size/\lnL t.data.toList<=40/\t.size<=360
theorem bDh (s:ByteArray) (v:Value) (M:List (Int×Int)) (w:World) (hr:RdP w v M) (a3:WfP M):
  Calls pG 19 #[.string s,v] w fun e w'=>∃u l,e=.returned u/\RdT w' u l/\l.length<=5/\vC l/\Below w.heap.size w w':=by
 obtain⟨m,a4,b2,b3⟩:=BE s.size 60 (by decide);have b4:min (s.size:Int) 60=(m:Int):=by rw[<-a4,Int.min_def];split<;>split<;>omega
 obtain⟨X,O⟩:∃X,X=s.extract 0 m:=⟨_,rfl⟩;have b5:X.size<=60:=by rw[O];simp;omega
 have b6:=O.symm;have q1:(m:Int)<=(s.size:Int):=by omega
 have a5:=fun W (h:Below w.heap.size w W/\w.heap.size<=W.heap.size)=>aBo v M 300 W (hr.below h.1) a3 (by decide) (by decide)
 have b7:Below w.heap.size w w.drew/\w.heap.size<=w.drew.heap.size:=⟨(aH w.heap.size w).drew,aD _⟩;clear O;go_enter func19,ntmps19;go_wp2_with fail
 go_cut [6] (fun c6 H=>∃Y:ByteArray,c6=.string Y/\Y.size<=360/\Below w.heap.size w H)
 case first=>
  go_region_held3 (fun H=>Below w.heap.size w H/\w.heap.size<=H.heap.size)
   (first
    |with_reducible assumption
    |with_reducible exact kpT (by assumption) (by assumption))
   (first
    |(go_at_call 39;with_reducible refine(a5 _ (by assumption)).mono ?_;rintro e d ⟨t2,rfl,c8,h2⟩;have q3:¬9223372036854775807<X.size+t2.size:=by omega))
  all_goals
   obtain⟨A,a6⟩:=(show Below w.heap.size w d/\w.heap.size<=d.heap.size by assumption);have b8:(X++t2).size<=360:=by rw[rG];omega
   go_wp2_with fail;go_meet;exact⟨_,rfl,b8,A⟩
 case rest=>
  obtain⟨Y,rfl,hY,a7⟩:=hcut;clear a4 b4 b2 b3 b6 q1 a5 b7 b5 hr a3;go_wp2_with fail
  go_loopg [5,6,7,8] 5 (fun g s5 s6 s7 _s8 wr=>∃(i:Nat) (rest:ByteArray) (l:List ByteArray),i<=5/\g=5-i/\s7=.int .i64 (i:Int)/\s6=.string rest/\rest.size<=360/\l.length=i/\vC l/\OwT wr w.heap.size s5 l/\Below w.heap.size w wr)
  case atStart=>exact⟨0,Y,[],by decide,rfl,rfl,rfl,hY,rfl,fun t ht=>by simp at ht,Ow.nil _ _ _,a7⟩
  case round=>
   clear hY a7;obtain⟨i,rest,l,hi,T,rfl,rfl,c9,D,U,I,A⟩:=hrel;have HG:=hid T;have J:=hid D;clear T D;have a6:=A.size
   by_cases d0:i<5
   rotate_left
   ·have t1:decide ((i:Int)<5)=false:=aE (by omega);go_wp2_with fail;go_ret;exact⟨_,l,rfl,I.rd,by rw[J.out];omega,U,A⟩
   have t1:decide ((i:Int)<5)=true:=aG (by omega)
   by_cases F:rest.data.toList=[]
   ·have te:rest.toList.isEmpty=true:=by rw[Lib.toList_data,F];rfl
    clear F;go_wp2_with fail;go_ret;exact⟨_,l,rfl,I.rd,by rw[J.out];omega,U,A⟩
   have te:rest.toList.isEmpty=false:=xM F;obtain⟨R,b9,d1,a8⟩:∃R:Nat,1<=R/\R<=40/\([bQ .i64 40,.int .i64 7,.int .i64 23,.int .i64 40,.int .i64 13]:List Value)[i]? =some (.int .i64 (R:Int)):=by
    rcases(show i=0\/i=1\/i=2\/i=3\/i=4 by omega) with rfl|rfl|rfl|rfl|rfl
    ·exact⟨40,by decide,by decide,rfl⟩
    ·exact⟨7,by decide,by decide,rfl⟩
    ·exact⟨23,by decide,by decide,rfl⟩
    ·exact⟨40,by decide,by decide,rfl⟩
    ·exact⟨13,by decide,by decide,rfl⟩
   have hA:=Arr.new wr 3 [bQ .i64 40,.int .i64 7,.int .i64 23,.int .i64 40,.int .i64 13];have c1:=hA.cell a8;change (wr.alloc (.cells #[bQ .i64 40,.int .i64 7,.int .i64 23,.int .i64 40,.int .i64 13] 3)).cell? _=_ at c1;have hcut:=fun W=>aJd rest R W (by omega) (by omega)
   have a9:=AE (s:=rest.data.toList) (room:=R) F b9;have L:=pT rest.data.toList R;obtain⟨K,hK⟩:∃K,K=cJ rest.data.toList R:=⟨_,rfl⟩;rw[<-hK] at hcut a9 L;have D:rest.data.toList.length=rest.size:=by simp
   have d2:K<=rest.size:=by rw[<-D];exact L.1
   have q1:(i:Int)<5:=by omega
   have q2:(K:Int)<=(rest.size:Int):=by omega
   obtain⟨x,V⟩:∃x,x=rest.extract 0 K:=⟨_,rfl⟩;have Z:x.data.toList=rest.data.toList.take K:=by rw[V,iW,dP,pI,sD]
   have c0:x.size=K:=by
    have:x.data.toList.length=x.size:=by simp
    rw[<-this,Z,aQ,D];omega
   obtain⟨y,hy⟩:∃y,y=rest.extract K rest.size:=⟨_,rfl⟩;have c2:y.size<=360:=by rw[hy];simp;omega
   have d3:=V.symm;have d4:=hy.symm;have b0:vC (l++[x]):=fun u G=>by
    rcases List.mem_append.1 G with G|G
    ·exact U u G
    ·obtain rfl:=List.mem_singleton.1 G;exact⟨by omega,by rw[Z];have:=L.2.1;omega,by omega⟩
   have HF:=hid b0;have c3:=hid (show(l++[x]).length=i+1 by rw[List.length_append,J.out];rfl);have d5:l.length<=5:=by rw[J.out];exact hi
   clear F a8 hA a9 L hK D V Z c0 hy b0;go_wp2_with fail;refine(hcut _).mono ?_;rintro e d ⟨rfl,a0⟩;have a1:Below w.heap.size w (wr.alloc (.cells #[bQ .i64 40,.int .i64 7,.int .i64 23,.int .i64 40,.int .i64 13] 3)):=A.alloc a6 _;have a2:=a1.trans (a0.mono a1.size);have b1:OwT d w.heap.size u5 l:=Ow.below (Ow.alloc I (.cells #[bQ .i64 40,.int .i64 7,.int .i64 23,.int .i64 40,.int .i64 13] 3)) a0 (aD _);have c4:=a2.size;have hN:=bX d (.string x) 9;have c5:OwT (d.alloc (.cells #[.string x] 9)) w.heap.size u5 l:=Ow.alloc b1 _
   have c7:Below w.heap.size w (d.alloc (.cells #[.string x] 9)):=a2.alloc c4 _;clear a1 a0 I b1 A a2 hcut c1;go_wp2_with (at_builtin;refine aJf rfl _ _ rfl w.heap.size _ _ rfl c5 _ x rfl hN ?_ ?_ ?_;(omega);(simp;omega);intro v3 w3 p1 p2 p3);have T:=HG.out
   go_roundg (5-(i+1))
   case measure=>omega
   case rel=>exact⟨i+1,y,l++[x],by omega,rfl,by go_num,rfl,c2,c3.out,HF.out,p1,c7.trans p2⟩
theorem NO (c n:Int) (w:World) (A: -9223372036854775808<=c) (D:c<=9223372036854775807) (F:1<=n) (G:n<=1000000000):
  Calls pG 30 #[.int .i64 c,.int .i64 n] w fun e w'=>e=.returned (.int .i64 (cK c n))/\w=w':=by
 by_cases h:c<0
 ·have d:=hid (show cK c n=(-(c+1))%n from by simp[cK,h]);go_enter func30,ntmps30;go_wp2;go_ret;exact⟨eI (by rw[d.out];rw[<-OP,mL (by omega)]),rfl⟩
 ·have d:=hid (show cK c n=c%n from by simp[cK,h]);have H:0<=c:=by omega
  go_enter func30,ntmps30;go_wp2;go_ret;exact⟨eI (by rw[d.out]),rfl⟩
theorem aK4 {x:Int} (c:Nat) (D:0<c) (F: -9223372036854775808<=x) (G:x<=9223372036854775807): -9223372036854775808<=x.tdiv c/\x.tdiv c<=9223372036854775807:=by
 rcases Int.lt_or_le x 0 with h|h
 ·have e:x.tdiv c= -((-x).tdiv c):=by rw[Int.neg_tdiv,Int.neg_neg]
  have d:=Int.tdiv_nonneg (a:= -x) (b:=(c:Int)) (by omega) (by omega);have A:=Int.tdiv_le_self (a:= -x) (c:Int) (by omega);omega
 ·have d:=Int.tdiv_nonneg (a:=x) (b:=(c:Int)) (by omega) (by omega);have A:=Int.tdiv_le_self (a:=x) (c:Int) (by omega);omega
theorem bF0 {x:Int} (c:Nat) (d:0<c) (e: -9223372036854775808<=x) (h:x<=9223372036854775807):aJ.wrap (x.tdiv c)=x.tdiv c:=by
 have:=aK4 c d e h;rw[aM];omega
theorem aK5 {q:Nat} (h:q<256):(eA q).toNat=q:=by
 simp;omega
theorem bF1 (y:UInt8) (r:Nat):bits .xor .u8 (y.toNat:Int) ((128:Int)/2^r)=((eA (y.toNat^^^(128>>>r))).toNat:Int):=by
 have e:(128:Int)/(2:Int)^r=((128>>>r:Nat):Int):=by grind [AW,CE]
 have d:128>>>r<256:=Nat.lt_of_le_of_lt (by rw[AW];exact Nat.div_le_self _ _) (by decide);rw[e,u8_xor_nat _ _ y.toNat_lt d,aK5 (Nat.xor_lt_two_pow (n:=8) y.toNat_lt d)]
theorem ByA.rdB {w:World} {g cap:Nat} {l:List UInt8} (h:ByA w g l) (e:l.length<=cap) (A:cap<=maxLen):RdB w (.slice (some ⟨g,0,none⟩) l.length cap) l:=by
 refine⟨_,cap,rfl,e,A,.inr ⟨g,0,rfl,h.1,fun j d=>?_⟩⟩;rw[vO] at d;obtain⟨b,D⟩:∃b,l[j]? =some b:=⟨_,aN d⟩
 grind [IZ,ByA,RdB]
theorem ByA.drew {w:World} {g:Nat} {l:List UInt8} (h:ByA w g l):ByA w.drew g l:=h
theorem bF2 (q:Nat) (d:q<256) (W:World):(convert 61 9 (.slice (some ⟨W.heap.size,0,none⟩) 1 1)).run pG (W.alloc (.cells #[.int .u8 (q:Int)] 5))=.ok (.string (mkS [eA q])) (W.alloc (.cells #[.int .u8 (q:Int)] 5)):=by grind [aBn,aK5,mkS]
theorem bHo (a:ByteArray) (which x:Int) (w:World) (ha:a.size<=100000) (b3: -9223372036854775808<=which) (b4:which<=9223372036854775807) (a0: -9223372036854775808<=x) (a1:x<=9223372036854775807):
  Calls pG 11 #[.string a,.int .i64 which,.int .i64 x] w fun e w'=>∃t:ByteArray,e=.returned (.string t)/\t.size<=a.size/\Below w.heap.size w w':=by
 have H:=hid (show a.data.toList.length=a.size by simp)
 by_cases h0:a.size=0
 ·have u1:a.toList.isEmpty=true:=EI (List.eq_nil_of_length_eq_zero (by rw[H.out];exact h0));have HZ:=hid h0;clear h0;go_enter func11,ntmps11;go_wp2_with fail;go_ret;exact⟨a,rfl,aD _,aH _ _⟩
 have u1:a.toList.isEmpty=false:=xK (by omega);have m1:aJ.wrap (8*(a.size:Int))=8*(a.size:Int):=by rw[aM];omega
 have I:=NO x (8*(a.size:Int)) w a0 a1 (by omega) (by omega);obtain⟨D,O⟩:=lN x (8*(a.size:Int)) (by omega);obtain⟨K,d⟩:∃K:Nat,cK x (8*(a.size:Int))=(K:Int):=⟨_,(rI D).symm⟩;rw[d] at I;have J:=NO which 4 w b3 b4 (by decide) (by decide);obtain⟨p1,p2⟩:=lN which 4 (by decide);obtain⟨V,hV⟩:∃V:Nat,cK which 4=(V:Int):=⟨_,(rI p1).symm⟩;rw[hV] at J;have b5:V=0\/V=1\/V=2\/V=3:=by omega
 have c9:K<8*a.size:=by omega
 obtain⟨q,hq⟩:∃q,q=K/8:=⟨_,rfl⟩;obtain⟨r,hr⟩:∃r,r=K%8:=⟨_,rfl⟩;have a5:q<a.size:=by omega
 have d0:r<8:=by omega
 have m2:(K:Int).tdiv 8=(q:Int):=by rw[hq];exact Int.ofNat_tdiv K 8
 have m3:aJ.wrap (q:Int)=(q:Int):=by rw[aM];omega
 have m4:(K:Int)/8=(q:Int):=by omega
 have m5:(K:Int).tmod 8=(r:Int):=by rw[mL (by omega)];omega
 have m6:aJ.wrap (r:Int)=(r:Int):=by rw[aM];omega
 have m7:(K:Int)%8=(r:Int):=by omega
 have m8:min r 8=r:=by omega
 clear d hV D O p1 p2 hq hr h0;rcases b5 with rfl|rfl|b6
 ·have m9:aJ.wrap ((a.size:Int)+1)=(a.size:Int)+1:=by rw[aM];omega
  have hs:=NO x ((a.size:Int)+1) w a0 a1 (by omega) (by omega);obtain⟨D,O⟩:=lN x ((a.size:Int)+1) (by omega);obtain⟨j,T⟩:∃j:Nat,cK x ((a.size:Int)+1)=(j:Int):=⟨_,(rI D).symm⟩;rw[T] at hs;have j1:j<=a.size:=by omega
  have j2:(j:Int)<=(a.size:Int):=by omega
  clear T D O m2 m3 m4 m5 m6 m7 m8;go_enter func11,ntmps11;go_wp2_with fail;refine I.mono ?_;rintro e w' ⟨rfl,rfl⟩;go_wp2_with fail;refine J.mono ?_;rintro e w' ⟨rfl,rfl⟩;go_wp2_with fail;refine hs.mono ?_;rintro e w' ⟨rfl,rfl⟩;go_wp2_with fail;go_ret;exact⟨_,rfl,by rw[aL6];omega,aH _ _⟩
 ·obtain⟨A,b7⟩:∃A,A=q+1:=⟨_,rfl⟩;have n1:aJ.wrap ((q:Int)+1)=(A:Int):=by rw[aM];omega
  have n2:(q:Int)+1=(A:Int):=by omega
  have n3:A<=a.size:=by omega
  have n4:(A:Int)<=(a.size:Int):=by omega
  have n5:q<=a.size:=by omega
  have d1:aJ.wrap (A:Int)=(A:Int):=by rw[aM];omega
  have d2:(0:Int)<=(A:Int):=by omega
  have d3:(0:Int)<=(q:Int):=by omega
  have n6:(q:Int)<=(a.size:Int):=by omega
  have n7:aJ.wrap (x.tdiv 7)=x.tdiv 7:=bF0 7 (by decide) a0 a1;obtain⟨t1,t2⟩:=aK4 7 (by decide) a0 a1;have hz:=fun W=>NO (x.tdiv 7) 256 W t1 t2 (by decide) (by decide)
  obtain⟨D,O⟩:=lN (x.tdiv 7) 256 (by decide);obtain⟨j,T⟩:∃j:Nat,cK (x.tdiv 7) 256=(j:Int):=⟨_,(rI D).symm⟩;rw[T] at hz;have j1:j<256:=by omega
  have n8:IntKind.u8.wrap (j:Int)=(j:Int):=by rw[IntKind.wrap_u8];omega
  have n9:(j:Int)%256=(j:Int):=by omega
  have a3:(convert 61 9 (.slice (some ⟨w.heap.size,0,none⟩) 1 1)).run pG (w.alloc (.cells #[.int .u8 (j:Int)] 5)).drew=.ok (.string (mkS [eA j])) (w.alloc (.cells #[.int .u8 (j:Int)] 5)).drew:=bF2 j j1 w.drew;have a6:(a.extract 0 q).size=q:=by rw[aL6];omega
  have a7:(a.extract A a.size).size=a.size-A:=by rw[aL6];omega
  obtain⟨G,b8⟩:∃G,a.extract 0 q=G:=⟨_,rfl⟩;obtain⟨U,b9⟩:∃U,a.extract A a.size=U:=⟨_,rfl⟩;obtain⟨F,a4⟩:∃F,mkS [eA j]=F:=⟨_,rfl⟩;have c0:F.size=1:=by rw[<-a4];rfl
  rw[b8] at a6;rw[b9] at a7;rw[a4] at a3;have o1:¬9223372036854775807<G.size+F.size:=by omega
  have o2:¬9223372036854775807<(G.size:Int)+(F.size:Int):=by omega
  have o3:¬9223372036854775807<G.size+F.size+U.size:=by omega
  have o4:¬9223372036854775807<(G.size:Int)+(F.size:Int)+(U.size:Int):=by omega
  have c3:=hid (show(G++F++U).size<=a.size by rw[rG,rG];omega);clear T D O m5 m6 m7 m8 a6 c0 a7 b7 a4;go_enter func11,ntmps11;go_wp2_with fail;refine I.mono ?_;rintro e w' ⟨rfl,rfl⟩;go_wp2_with fail;refine J.mono ?_;rintro e w' ⟨rfl,rfl⟩;clear I J;go_wp2_with fail;have L:Below w.heap.size w w.drew:=(aH _ _).drew;have M:Below w.heap.size w (w.alloc (.cells #[.int .u8 (j:Int)] 5)).drew:=bD L _;refine wp_region_held_drew (S:=fun w'=>Below w.heap.size w w') (by kernel_rfl) L (fun d4=>?_)
  iterate 6
   refine fV 0 0 (by simp only[dB,aU,aV,cV,dC]<;>rfl) (by simp only[gA,gH,gB];rfl) (by kernel_rfl) (by exact fun _ _ _ h=>h) (by first|exact gI ⟨by rfl,rfl⟩|(refine gJ ⟨by rfl,?_⟩;intro w' Z;(try dsimp only at Z);(try go_simp);try with_reducible rfl)) L ?_
   try simp only[bJ,bK,bH,bB]
  iterate 5
   refine fV 5 0 (by simp only[dB,aU,aV,cV,dC]<;>rfl) (by simp only[gA,gH,gB];rfl) (by kernel_rfl) (by exact fun _ _ _ h=>h) (by first|exact gI ⟨by rfl,rfl⟩|(refine gJ ⟨by rfl,?_⟩;intro w' Z;(try dsimp only at Z);(try go_simp);try with_reducible rfl)) L ?_
   try simp only[bJ,bK,bH,bB]
  refine dJ (i:=6) (by kernel_rfl) rfl (fun K d=>?_);go_simp;refine(hz _).mono ?_;rintro e w4 ⟨rfl,rfl⟩;refine d.out _ _ L (fun _=>?_);clear d K
  try simp only[bJ,bK,bH,bB]
  refine fV 0 5 (by simp only[dB,aU,aV,cV,dC]<;>rfl) (by simp only[gA,gH,gB];rfl) (by kernel_rfl) (by exact fun _ _ _ h=>h) (by first|exact gI ⟨by rfl,rfl⟩|(refine gJ ⟨by rfl,?_⟩;intro w' Z;(try dsimp only at Z);(try go_simp);try with_reducible rfl)) L ?_
  try simp only[bJ,bK,bH,bB]
  refine dJ (i:=8) (by kernel_rfl) rfl (fun K d=>?_);go_simp;refine d.out _ _ M (fun _=>?_);clear d K
  try simp only[bJ,bK,bH,bB]
  refine dJ (i:=9) (by kernel_rfl) rfl (fun K d=>?_);go_simp;refine d.out _ _ M (fun _=>?_);clear d K
  try simp only[bJ,bK,bH,bB]
  refine dJ (i:=10) (by kernel_rfl) rfl (fun K d=>?_);go_simp;refine d.out _ _ M (fun _=>?_);clear d K
  try simp only[bJ,bK,bH,bB]
  refine dJ (i:=16) (by kernel_rfl) rfl (fun K d=>?_);go_simp;refine d.out _ _ M (fun _=>?_);clear d K
  try simp only[bJ,bK,bH,bB]
  refine dJ (i:=17) (by kernel_rfl) rfl (fun K d=>?_);go_simp;refine d.out _ _ M (fun _=>?_);clear d K
  try simp only[bJ,bK,bH,bB]
  refine wpAnyH_done (by kernel_rfl) ?_ _;go_wp2_with fail;go_ret;exact⟨_,rfl,c3.out,M⟩
 ·obtain⟨cap,w2,a3,c4,c5,hA,a8,c6⟩:=PZ w a (by omega);obtain⟨Y,hY⟩:∃Y,a.data.toList[q]? =some Y:=⟨_,aN (by rw[H.out];exact a5)⟩;have c1:=hA.2.1 q Y hY;have f1:=hA.2.2 q (by rw[H.out];exact a5);have a9:=bF1 Y r;obtain⟨Y2,b0⟩:∃Y2,Y2=eA (Y.toNat^^^(128>>>r)):=⟨_,rfl⟩;rw[<-b0] at a9;have q1:(q:Int)<(a.size:Int):=by omega
  have v1:((V:Int)==0)=false:=by rw[cB];omega
  have v2:((V:Int)==1)=false:=by rw[cB];omega
  have v3:(V==0)=false:=by rw[cB];omega
  have v4:(V==1)=false:=by rw[cB];omega
  have b1:=(hA.drew).set q Y2;have a2:=mP (b1.rdB (cap:=cap) (by rw[nW,H.out];exact c4) c5);rw[nW,H.out] at a2;have HB:=hid a2;have c7:=Y.toNat_lt;obtain⟨yv,b2⟩:∃yv,yv=Y.toNat:=⟨_,rfl⟩;rw[<-b2] at c1 a9 c7;clear b6 hY b0 b2 hA b1 a2;go_enter func11,ntmps11;go_wp2_with fail;refine I.mono ?_;rintro e w' ⟨rfl,rfl⟩;go_wp2_with fail;refine J.mono ?_;rintro e w' ⟨rfl,rfl⟩;clear I J;go_wp2_with fail
  go_still_tail 13,(by kernel_rfl)
  change wpList _ _ _ _ _ w2.drew;have c2:w2.drew.cell? ⟨w.heap.size,q,none⟩=some (.int .u8 (yv:Int)):=c1;have f2:w2.drew.frozen? ⟨w.heap.size,q,none⟩=false:=f1;have c8:=a8.drew;clear c1 f1 a8 c6 a3;generalize w2.drew=w3 at*
  have a2:=HB.out;go_wp2_with fail;go_ret;exact⟨_,rfl,by rw[cS,nW,H.out];exact aD _,c8.setCell (p:=⟨w.heap.size,q,none⟩) (aD _) _⟩
end Go.Proofs.YtfplbbphficcjaaGreatDoor
