/-
  Texts put together (part 21): the walks and the plain laws on which the statement stands.
-/
import Derived.WalkMore
import Derived.Test.YtihbnmlinkbnkaaGreatDoorZ18
set_option maxRecDepth 100000
set_option maxHeartbeats 12800000
set_option linter.unusedVariables false
set_option linter.unusedSimpArgs false
open Go.Proofs.Tryz
open Go.Proofs.Tryz renaming prog->pG
open Go renaming below_drewN->uD
open Go.IntKind renaming i64->aJ,u64->eZ,wrap_i64->aM,wrap_u64->fC
open Go.RowKit.Below renaming refl->aH
open Go.World renaming block_lt_of_cell?->gV
open Int renaming le_refl->lV
open List renaming getElem?_eq_getElem->aN,getElem?_eq_some_iff->eF,getElem?_of_mem->XQ,take_of_length_le->cD
open Nat renaming le_refl->aD,le_trans->aR,zero_le->aO
open Option.some renaming inj->cC
namespace Go.Proofs.YtihbnmlinkbnkaaGreatDoor
section
def jA (l:List Ent):Prop:=oL 0 31 l
instance (l:List Ent):Decidable (jA l):=inferInstanceAs (Decidable (oL _ _ _))
def lF (l:List Ent):Int:=(l.map Ent.n).sum
def lG (l:List Ent):Int:=if jA l then lF l else 0
def NH (l:List Ent) (off:Int):Nat:=(l.filter (fun x=>decide (x.f<=off))).length
def nB (l:List Ent) (off:Int):Int:=if off<0\/lG l<=off then-1 else(NH l off:Int)-1
def yF (l:List Ent) (off n:Int):Int×Int:=
 if n<1\/lG l<=off\/off<= -n then(-1,-1)
 else
  let d:=max off 0
  (nB l d,nB l (d+min (n-(d-off)) (lG l-d)-1))
theorem GH (x:Ent) (l:List Ent):lF (x::l)=x.n+lF l:=by unfold lF;simp
theorem aJw:lF []=0:=rfl
theorem aJx {d at':Int}:∀{l:List Ent},oL d at' l->0<=lF l
 |[],_=>by rw[aJw];exact lV _
 |x::l,h=>by
  have:=aJx h.2;have:=h.1.2.1;rw[GH];omega
theorem VM {l:List Ent} {i:Nat} {x:Ent} (h:l[i]? =some x):lF (l.take (i+1))=lF (l.take i)+x.n:=by grind [List.take_add_one,lF]
theorem AH:∀{l:List Ent} {A at':Int},oL A at' l->∀(i:Nat) (x:Ent),l[i]? =some x->x.f=A+lF (l.take i)/\1<=x.n/\x.n<=18720
 |[],_,_,_,i,x,d=>by simp at d
 |y::l,A,at',h,0,x,d=>by
  obtain rfl:y=x:=by simpa using d
  refine⟨?_,h.1.2.1,h.1.2.2.1⟩;rw[h.1.1];show A=A+0;omega
 |y::l,A,at',h,i+1,x,d=>by
  have d:l[i]? =some x:=by simpa using d
  obtain⟨F,G⟩:=AH h.2 i x d;refine⟨?_,G⟩;rw[F,List.take_succ_cons,GH,h.1.1];omega
theorem aJy {l:List Ent} {F at':Int} (h:oL F at' l) (i:Nat):∀d,lF (l.take i)<=lF (l.take (i+d))
 |0=>lV _
 |d+1=>by
  have A:=aJy h i d
  cases e:l[i+d]? with
  |none=>
   have G:=List.getElem?_eq_none_iff.1 e;rw[cD G] at A;rw[cD (by omega:l.length<=i+(d+1))];exact A
  |some x=>
   have:=(AH h _ x e).2.1;have:=VM e;rw[<-Nat.add_assoc];omega
theorem NI {l:List Ent} {A at':Int} (h:oL A at' l) {i j:Nat} {x y:Ent} (d:l[i]? =some x) (F:l[j]? =some y) (H:i<j):x.f+x.n<=y.f:=by
 have I:=AH h i x d;have J:=AH h j y F;have L:=VM d;have G:=aJy h (i+1) (j-(i+1));rw[show i+1+(j-(i+1))=j by omega] at G;omega
theorem aJz:∀{l:List Ent} {d at':Int},oL d at' l->∀(off:Int),d<=off->off<d+lF l->∃(k:Nat) (x:Ent),l[k]? =some x/\x.f<=off/\off<x.f+x.n
 |[],d,_,_,off,F,A=>by rw[aJw] at A;omega
 |y::l,d,at',h,off,F,A=>by
  rw[GH] at A;have I:=h.1.1
  by_cases q:off<y.f+y.n
  ·exact⟨0,y,rfl,by omega,q⟩
  ·obtain⟨k,x,G,H⟩:=aJz h.2 off (by omega) (by omega);exact⟨k+1,x,by simpa using G,H⟩
theorem bD3 {l:List Ent} {G at':Int} (h:oL G at' l) {off:Int} {k:Nat} {x:Ent} (A:l[k]? =some x) (I:x.f<=off) (J:off<x.f+x.n):NH l off=k+1:=by
 have L:k<l.length:=(eF.1 A).1;have M:(l.take (k+1)).filter (fun x=>decide (x.f<=off))=l.take (k+1):=by
  rw[List.filter_eq_self];intro y F;obtain⟨j,d⟩:=XQ F;have H:j<k+1:=by grind
  rw[List.getElem?_take,aB H] at d
  by_cases q:j=k
  ·grind
  ·have:=NI h d A (by omega);have:=(AH h j y d).2.1
   grind
 have O:(l.drop (k+1)).filter (fun x=>decide (x.f<=off))=[]:=by
  rw[List.filter_eq_nil_iff];intro y F;obtain⟨j,d⟩:=XQ F;rw[List.getElem?_drop] at d;have:=NI h A d (by omega);simp;omega
 grind [NH,List.take_append_drop,List.length_take,oL]
theorem bD4 {l:List Ent} (h:jA l) {off:Int} (d:0<=off) (A:off<lF l):∃(k:Nat) (x:Ent),l[k]? =some x/\x.f<=off/\off<x.f+x.n/\nB l off=(k:Int):=by
 obtain⟨k,x,F,G,H⟩:=aJz h off d (by omega)
 grind [bD3,nB,lG,jA,lF]
theorem aJ0 {l:List Ent} {off:Int} (h:off<0\/lG l<=off):nB l off= -1:=aB h
def Ent.fit (x:Ent):Prop:=0<=x.a/\x.a<9223372036854775808/\0<=x.r/\x.r<65536/\0<=x.f/\x.f<9223372036854775808/\0<=x.n/\x.n<4294967296/\0<=x.y/\x.y<4294967296
end
section
open Go.RowKit Go Go.Shelf
theorem oW.one {k:Nat} {q:List Value} (h:q.length=k) (g:∀u∈q,u.oneCell'=true):oW k [q]:=by grind [oW]
theorem aWj {k:Nat} {l:lC} (h:oW k l):∀u∈l.flatten,u.oneCell'=true:=fun u d=>by
 obtain⟨q,A,d⟩:=List.mem_flatten.1 d;exact(h q A).2 u d
theorem RdR.one {w:World} {g e:Nat} {q:List Value} (h:Arr w g e q):RdR w (.slice (some ⟨g,0,none⟩) 1 1) [q]:=by
 refine⟨_,1,rfl,aD _,by simp[maxLen],.inr ⟨g,0,rfl,h.lt,fun j d=>?_⟩⟩;rw[List.flatten_cons,List.flatten_nil,List.append_nil] at d ⊢;rw[Nat.zero_add,h.cell (i:=j) (aN d),List.getD_eq_getElem?_getD,aN d];rfl
section
variable {P:Program} {t e k bytes:Nat} {z:Value}
theorem LS (E:ElR P t e k bytes z) {w:World} (I:TypeId) (d:Nat) (v:Value) (l:lC) (J:OwR w d e k v l) (L:Value) (m:lC) (a2:RdR w L m) (A:oW k m) (hm:0<m.length) (M:(l.length+m.length)*bytes<=140737488355328) (O:d<=w.heap.size):
  ∃F w',(Builtin.append_ #[t,t] I #[v,L]).run P w=.ok F w'/\OwR w' d e k F (l++m)/\Below d w w'/\w.grownBy w' v.ownBlock:=by
 obtain⟨i,hi,hz,h2,h3⟩:=E.info;obtain⟨a,cap,rfl,a5,a6,h⟩:=a2.open A E.some';obtain⟨b,off,rfl,a7,hc⟩:=h hm;have a3:=E.pos;have G:=E.some';have hn:l.length+m.length<=140737488355328:=aR (Nat.le_mul_of_pos_right _ a3) M;have U:=FE A;obtain⟨F,w',q1,q2,V,_⟩:=run_append_own (P:=P) w d t I e i z k bytes E.under hi hz h2 h3 E.cells G v l.length _ J ⟨b,off,none⟩ m.length cap m.flatten U (fun j u H=>by
   have Z:=(eF.1 H).1;rw[U] at Z;have a0:j/k<m.length:=(Nat.div_lt_iff_lt_mul G).2 Z;have hq:m[j/k]? =some m[j/k]:=aN a0;have a8:=(A _ (List.getElem_mem a0)).1;have a9:=Nat.mod_lt j G;have a1:m[j/k][j%k]? =some (m[j/k][j%k]'(by grind)):=aN _;have hg:=FF A _ _ _ _ hq a1;have hd:j/k*k+j%k=j:=Nat.div_add_mod' j k;have a4:=hc _ _ _ _ hq a1;rw[hd] at hg a4;rw[hg] at H;rw[<-cC H];have e:(⟨b,off,none⟩:Addr).add j=⟨b,off+j,none⟩:=by unfold Addr.add;split<;>simp_all
   grind) (aWj A) (by simp only[maxLen];omega) M O
 refine⟨F,w',q1,?_,rJ J V O,V⟩;unfold OwR
 grind
end
theorem tE (d:Nat) (h:d<=9223372036854775807):aJ.wrap (d:Int)=(d:Int):=by rw[aM];omega
def bG (x:Ent):List Value:=[.int .i64 x.a,.int .i64 x.r,.int .i64 x.f,.int .i64 x.n,.int .u32 x.y]
theorem yG (l:List Ent):oW 5 (l.map bG):=fun q A=>by
 obtain⟨p,_,rfl⟩:=List.mem_map.1 A;exact⟨rfl,fun u d=>by unfold bG at d;simp only[List.mem_cons,List.not_mem_nil,or_false] at d;rcases d with rfl|rfl|rfl|rfl|rfl<;>rfl⟩
theorem nS {w:World} {v:Value} {l:List Ent} (h:RdR w v (l.map bG)):∃a cap,v=.slice a l.length cap/\l.length<=cap/\cap<=maxLen/\
  (0<l.length->∃b off,a=some ⟨b,off,none⟩/\b<w.heap.size/\∀j p,l[j]? =some p->w.cell? ⟨b,off+j*5,none⟩=some (.int .i64 p.a)/\w.cell? ⟨b,off+j*5+1,none⟩=some (.int .i64 p.r)/\w.cell? ⟨b,off+j*5+2,none⟩=some (.int .i64 p.f)/\w.cell? ⟨b,off+j*5+3,none⟩=some (.int .i64 p.n)/\w.cell? ⟨b,off+j*5+4,none⟩=some (.int .u32 p.y)):=by
 obtain⟨a,cap,d,A,G,F⟩:=h.open (yG l) (by decide);rw[List.length_map] at d A F;refine⟨a,cap,d,A,G,fun H=>?_⟩;obtain⟨b,off,I,J,L⟩:=F H;refine⟨b,off,I,J,fun j p M=>?_⟩;have e:(l.map bG)[j]? =some (bG p):=by grind
 have c:=fun i u hi=>L j (bG p) i u e hi
 refine⟨c 0 _ rfl,?_,?_,?_,?_⟩
 ·grind [RdR,bG]
 ·grind [RdR,bG]
 ·grind [RdR,bG]
 grind [RdR,bG]
theorem DB (v:Value) (l:List Ent) (w:World) (hr:RdR w v (l.map bG)) (hl:l.length<=1000000):
  Calls pG 40 #[v] w fun e w'=>e=.returned (.bool (decide (jA l)))/\Below w.heap.size w w':=by
 obtain⟨a,ca,rfl,a8,a4,hA⟩:=nS hr;unfold maxLen at a4;obtain⟨R,hR⟩:∃R:Bool,R=decide (jA l):=⟨_,rfl⟩;rw[<-hR];have H:=hid hR;clear hR hr;go_enter func40,ntmps40;go_wp2_with fail
 go_step3
 go_wp2_with fail
 go_step3
 go_wp2_with fail
 go_loopg [3,4,5,7,10,14] l.length (fun g s3 s4 s5 _s7 a5 _s14 wr=>∃(k:Nat) (I lo:Int),k<=l.length/\g=l.length-k/\a5=.int .i64 (k:Int)/\s3=.int .i64 I/\s4=.int .i64 lo/\s5=.bool true/\(0<=I/\I<=18720*(k:Int))/\Hid (jA l↔oL I lo (l.drop k))/\Below w.heap.size w wr)
 case atStart=>exact⟨0,0,31,aO _,rfl,rfl,rfl,rfl,rfl,⟨by decide,by decide⟩,hid (Iff.refl _),aH _ _⟩
 case round=>
  obtain⟨k,I,lo,hk,hg,rfl,rfl,rfl,rfl,a9,HI,J⟩:=hrel;have HG:=hid hg;have a6:=J.size;clear hg
  by_cases a0:k<l.length
  ·have t1:decide ((k:Int)<(l.length:Int))=true:=aG (by omega);obtain⟨b,off,rfl,U,hc⟩:=hA (by omega);obtain⟨x,hx⟩:∃x,l[k]? =some x:=⟨_,aN a0⟩;have G:=hid (show jA l↔x.ok I lo/\oL (x.f+x.n) x.a (l.drop (k+1)) by
    have e:l[k]=x:=by rw[aN a0] at hx;exact cC hx
    rw[HI.out,List.drop_eq_getElem_cons a0,e];exact Iff.rfl)
   obtain⟨x0,x1,x2,x3,x4⟩:=hc k x hx;clear hc hx hA HI;obtain⟨M,d,V,A,xy⟩:=x;have c0:=(J.cell (p:=⟨b,off+k*5,none⟩) U).trans x0;have c1:=(J.cell (p:=⟨b,off+k*5+1,none⟩) U).trans x1;have c2:=(J.cell (p:=⟨b,off+k*5+2,none⟩) U).trans x2;have c3:=(J.cell (p:=⟨b,off+k*5+3,none⟩) U).trans x3;have c4:=(J.cell (p:=⟨b,off+k*5+4,none⟩) U).trans x4;dsimp only at c0 c1 c2 c3 c4;have L:=fun o=>J.alloc a6 o
   clear x0 x1 x2 x3 x4
   by_cases q1:V=I
   rotate_left
   ·obtain rfl:R=false:=by rw[H.out];exact aE (fun h=>q1 (G.out.1 h).1.1)
    have O:(V != I)=true:=bne_iff_ne.2 q1;go_wp2_with fail;go_ret;exact⟨rfl,L _⟩
   obtain rfl:=q1
   by_cases q2:A<1
   ·obtain rfl:R=false:=by rw[H.out];exact aE (fun h=>absurd (G.out.1 h).1.2.1 (by show ¬1<=A;omega))
    have O:decide (A<1)=true:=aG q2;go_wp2_with fail;go_ret;exact⟨rfl,L _⟩
   have u2:decide (A<1)=false:=aE q2
   by_cases q3:18720<A
   ·obtain rfl:R=false:=by rw[H.out];exact aE (fun h=>absurd (G.out.1 h).1.2.2.1 (by show ¬A<=18720;omega))
    have O:decide (A>18720)=true:=aG q3;have a7:decide (18720<A)=true:=aG q3;go_wp2_with fail;go_ret;exact⟨rfl,L _⟩
   have u3:decide (A>18720)=false:=aE q3;have b0:decide (18720<A)=false:=aE q3
   by_cases q4:d<40
   ·obtain rfl:R=false:=by rw[H.out];exact aE (fun h=>absurd (G.out.1 h).1.2.2.2.1 (by show ¬40<=d;omega))
    have O:decide (d<40)=true:=aG q4;go_wp2_with fail;go_ret;exact⟨rfl,L _⟩
   have u4:decide (d<40)=false:=aE q4
   by_cases q5:360<d
   ·obtain rfl:R=false:=by rw[H.out];exact aE (fun h=>absurd (G.out.1 h).1.2.2.2.2.1 (by show ¬d<=360;omega))
    have O:decide (d>360)=true:=aG q5;have a7:decide (360<d)=true:=aG q5;go_wp2_with fail;go_ret;exact⟨rfl,L _⟩
   have u5:decide (d>360)=false:=aE q5;have b1:decide (360<d)=false:=aE q5;obtain⟨Z,hZ⟩:∃Z,Z=d.tmod 40:=⟨_,rfl⟩;have a1:Z=d%40:=by rw[hZ];exact Int.tmod_eq_emod_of_nonneg (by omega)
   have mZ:aJ.wrap Z=Z:=by rw[aM];omega
   have b2:=hZ.symm;have HZ:=hid a1;clear hZ a1
   by_cases q6:Z=0
   rotate_left
   ·obtain rfl:R=false:=by rw[H.out];exact aE (fun h=>q6 (by rw[HZ.out];exact(G.out.1 h).1.2.2.2.2.2.1))
    have O:(Z != 0)=true:=bne_iff_ne.2 q6;go_wp2_with fail;go_ret;exact⟨rfl,L _⟩
   subst q6
   by_cases q7:M<=lo
   ·obtain rfl:R=false:=by rw[H.out];exact aE (fun h=>absurd (G.out.1 h).1.2.2.2.2.2.2 (by show ¬lo<M;omega))
    have O:decide (M<=lo)=true:=aG q7;go_wp2_with fail;go_ret;exact⟨rfl,L _⟩
   have u7:decide (M<=lo)=false:=aE q7;have a2:=hid (show jA l↔oL (V+A) M (l.drop (k+1)) from⟨fun h=>(G.out.1 h).2,fun h=>G.out.2 ⟨⟨rfl,by show 1<=A;omega,by show A<=18720;omega,by show 40<=d;omega,by show d<=360;omega,by show d%40=0;exact HZ.out.symm,by show lo<M;omega⟩,h⟩⟩);obtain⟨F,hF⟩:∃F,F=V+A:=⟨_,rfl⟩;have mF:aJ.wrap (V+A)=F:=by rw[<-hF,aM];omega
   have a3:0<=F/\F<=18720*((k:Int)+1):=by omega
   have b3:=hF.symm;rw[<-hF] at a2;clear hF HZ G;go_wp2_with fail
   go_quiet (fail)
   go_wp2_with fail;have hg:=HG.out
   go_roundg (l.length-(k+1))
   case measure=>omega
   case rel=>exact⟨k+1,F,M,by omega,rfl,by go_num,rfl,rfl,rfl,⟨a3.1,by push_cast;exact a3.2⟩,a2,uD (L _) _⟩
  ·have t1:decide ((k:Int)<(l.length:Int))=false:=aE (by omega);obtain rfl:R=true:=by
    rw[H.out];refine aG (HI.out.2 ?_);rw[List.drop_of_length_le (by omega)]
    trivial
   go_wp2_with fail;rw[Exit.noGoto_ret];go_ret;exact⟨rfl,J⟩
theorem bD5 {l:List Ent} (h:jA l) {K:Nat} (A:K+1=l.length) {x:Ent} (d:l[K]? =some x):x.f+x.n=lF l:=by
 have F:=AH h K x d;have G:=VM d
 grind
theorem bD6 {l:List Ent}:∀{d lo:Int},oL d lo l->lF l<=18720*(l.length:Int):=by
 induction l with
 |nil=>intro _ _ _;exact lV _
 |cons x l A=>
  intro d lo h;have F:=A h.2;have G:=h.1.2.2.1;rw[GH,List.length_cons];push_cast;omega
theorem VN {l:List Ent} (d:l.length<=1000000):0<=lG l/\lG l<=18720000000:=by
 unfold lG;split
 ·next h=>
  have:=bD6 h;have:=aJx h;omega
 ·omega
theorem VO (v:Value) (l:List Ent) (w:World) (J:RdR w v (l.map bG)) (hl:l.length<=1000000):
  Calls pG 42 #[v] w fun e w'=>e=.returned (.int .i64 (lG l))/\Below w.heap.size w w':=by
 have H:=DB v l w J hl;obtain⟨a,ca,rfl,a2,a0,O⟩:=nS J;unfold maxLen at a0
 by_cases h0:l.length=0
 ·have e0:l=[]:=List.length_eq_zero_iff.1 h0;subst e0;go_enter func42,ntmps42;go_wp2_with fail;go_ret;exact⟨rfl,aH _ _⟩
 obtain⟨K,U⟩:∃K,K+1=l.length:=⟨l.length-1,by omega⟩;obtain⟨b,off,rfl,F,V⟩:=O (by omega);obtain⟨x,L⟩:∃x,l[K]? =some x:=⟨_,aN (by omega)⟩;obtain⟨Z,x1,x2,x3,x4⟩:=V K x L;have n1:((l.length:Int)==0)=false:=beq_eq_false_iff_ne.2 (by omega);have m1:aJ.wrap ((l.length:Int)-1)=(K:Int):=by rw[show(l.length:Int)-1=(K:Int) by omega];exact tE K (by omega)
 have a3:(l.length:Int)-1=(K:Int):=by omega
 have a4:K<l.length:=by omega
 by_cases A:jA l
 ·rw[aG A] at H;have M:=bD5 A U L;have a1:=VN (l:=l) (by omega);have G:lG l=lF l:=aB A;obtain⟨S,I⟩:∃S,S=lG l:=⟨_,rfl⟩;rw[<-I] at a1 ⊢;have mS:aJ.wrap (x.f+x.n)=S:=by rw[M,<-G,<-I,aM];omega
  have a5:x.f+x.n=S:=by rw[M,<-G,<-I]
  clear G I M A O V L U J;go_enter func42,ntmps42;go_wp2_with fail;refine H.mono ?_;rintro e w1 ⟨rfl,d⟩;have c0:=(d.cell (p:=⟨b,off+K*5,none⟩) F).trans Z;have c1:=(d.cell (p:=⟨b,off+K*5+1,none⟩) F).trans x1;have c2:=(d.cell (p:=⟨b,off+K*5+2,none⟩) F).trans x2;have c3:=(d.cell (p:=⟨b,off+K*5+3,none⟩) F).trans x3;have c4:=(d.cell (p:=⟨b,off+K*5+4,none⟩) F).trans x4;clear Z x1 x2 x3 x4;go_wp2_with fail;go_ret;exact⟨rfl,bD d _⟩
 ·rw[aE A] at H;have G:lG l=0:=aA A;rw[G];go_enter func42,ntmps42;go_wp2_with fail;refine H.mono ?_;rintro e w1 ⟨rfl,d⟩;go_wp2_with fail;go_ret;exact⟨rfl,d⟩
theorem aKl {w1 w2:World} {A F:Addr} {G H:Value} {B:Nat} {w0:World} (h:w1.cell? A=some G/\w1.cell? F=some H/\Below B w0 w1/\B<=w1.heap.size) (d:Below w1.heap.size w1 w2):
  w2.cell? A=some G/\w2.cell? F=some H/\Below B w0 w2/\B<=w2.heap.size:=by
 obtain⟨L,M,O,I⟩:=h;have k:∀{p:Addr} {v:Value},w1.cell? p=some v->w2.cell? p=some v:=fun{p} {v} J=>(d.cell (gV w1 p J)).trans J
 exact⟨k L,k M,O.trans (d.mono I),aR I d.size⟩
theorem bEi (a:Option Addr) (F:Nat) (l:List Ent) (off:Int) (z i:Nat) (x:Ent) (w:World) (G:RdR w (.slice a l.length F) (l.map bG)) (c0:w.cell? ⟨z,0,none⟩=some (.slice a l.length F)) (c1:w.cell? ⟨z+1,0,none⟩=some (.int .i64 off)) (A:l[i]? =some x) (hl:l.length<=1000000):
  Calls pG 73 #[.int .i64 (i:Int),.pointer (some ⟨z,0,none⟩),.pointer (some ⟨z+1,0,none⟩)] w fun e w'=>e=.returned (.bool (decide (off<x.f)))/\Below w.heap.size w w':=by
 have hi:=(eF.1 A).1;obtain⟨a',a0,J,a1,L,H⟩:=nS G;obtain⟨b,o,M,hb,I⟩:=H (by omega)
 injection J with v1 v2 v3
 subst v1;subst v3;subst M;obtain⟨O,U,x2,V,Z⟩:=I i x A;obtain⟨R,d⟩:∃R:Bool,R=decide (off<x.f):=⟨_,rfl⟩;have t1:decide (x.f>off)=R:=d.symm;have t2:decide (off<x.f)=R:=d.symm;rw[<-d];unfold maxLen at L;clear d I H G A O U V Z;go_enter func73,ntmps73;go_wp2_with fail
 go_quiet (fail)
 go_wp2_with fail;go_ret;exact⟨rfl,uD (aH _ _) _⟩
theorem bEj (n:Nat) (z:Nat) (f:Nat->Bool) (w:World) (hn:n<=1000000) (V:∀i,i<n->∀W,Below w.heap.size w W->Calls pG 73 #[.int .i64 (i:Int),.pointer (some ⟨z,0,none⟩),.pointer (some ⟨z+1,0,none⟩)] W fun e w'=>e=.returned (.bool (f i))/\Below W.heap.size W w'):
  Calls pG 72 #[.int .i64 (n:Int),.func (.func 73) #[] #[.pointer (some ⟨z,0,none⟩),.pointer (some ⟨z+1,0,none⟩)]] w fun e w'=>∃m:Nat,e=.returned (.int .i64 (m:Int))/\m<=n/\(m<n->f m=true)/\(∀j,j+1=m->f j=false)/\Below w.heap.size w w':=by
 go_enter func72,ntmps72;go_wp2_with fail
 go_loopg [5,6,7] n (fun g Z s6 _s7 wr=>∃i j:Nat,i<=j/\j<=n/\g=j-i/\Z=.int .i64 (i:Int)/\s6=.int .i64 (j:Int)/\Hid ((j<n->f j=true)/\(∀q,q+1=i->f q=false))/\Below w.heap.size w wr)
 case atStart=>exact⟨0,n,aO _,aD _,rfl,rfl,rfl,hid ⟨fun h=>absurd h (Nat.lt_irrefl _),fun q h=>absurd h (Nat.succ_ne_zero _)⟩,aH _ _⟩
 case round=>
  obtain⟨i,j,a5,J,d,rfl,rfl,A,G⟩:=hrel;have L:=hid d;clear d
  by_cases a6:i<j
  ·have t1:decide ((i:Int)<(j:Int))=true:=aG (by omega);obtain⟨S,M⟩:∃S,S=i+j:=⟨_,rfl⟩;obtain⟨m,H⟩:∃m,m=S/2:=⟨_,rfl⟩;have m1:aJ.wrap ((i:Int)+(j:Int))=(S:Int):=by rw[show(i:Int)+(j:Int)=(S:Int) by omega];exact tE S (by omega)
   have a0:(i:Int)+(j:Int)=(S:Int):=by omega
   have m2:eZ.wrap (S:Int)=(S:Int):=by rw[fC];omega
   have a1:(S:Int)%18446744073709551616=(S:Int):=by omega
   have m3:((S:Int)>>>1)=(m:Int):=by rw[H,Int.shiftRight_eq_div_pow];rfl
   have a2:(S:Int)/2=(m:Int):=by omega
   have m4:eZ.wrap (m:Int)=(m:Int):=by rw[fC];omega
   have a3:(m:Int)%18446744073709551616=(m:Int):=by omega
   have m5:aJ.wrap (m:Int)=(m:Int):=tE m (by omega);have a4:i<=m/\m<j:=by omega
   have I:=V m (by omega) wr G;have HS:=hid M;have HM:=hid H;clear M H;obtain⟨F,hF⟩:∃F:Bool,F=f m:=⟨_,rfl⟩;rw[<-hF] at I;have O:=hid hF;clear hF;go_wp2_with fail;refine I.mono ?_;rintro e w1 ⟨rfl,h1⟩;have U:=aW G h1;clear I m1 a0 m2 a1 m3 a2 m4 a3
   cases F with
   |true=>
    go_wp2_with fail;have d:=L.out
    go_roundg (m-i)
    case measure=>omega
    case rel=>exact⟨i,m,a4.1,by omega,rfl,rfl,rfl,hid ⟨fun _=>O.out.symm,A.out.2⟩,U⟩
   |false=>
    have m6:aJ.wrap ((m:Int)+1)=((m+1:Nat):Int):=by rw[show(m:Int)+1=((m+1:Nat):Int) by push_cast;rfl];exact tE (m+1) (by omega)
    go_wp2_with fail;have d:=L.out
    go_roundg (j-(m+1))
    case measure=>omega
    case rel=>exact⟨m+1,j,by omega,J,rfl,by go_num,rfl,hid ⟨A.out.1,fun q h=>by rw[show q=m by omega];exact O.out.symm⟩,U⟩
  ·have t1:decide ((i:Int)<(j:Int))=false:=aE (by omega);obtain rfl:i=j:=by omega
   go_wp2_with fail;go_ret;exact⟨i,rfl,J,A.out.1,A.out.2,G⟩
theorem bEk {l:List Ent} {A lo:Int} (h:oL A lo l) {i j:Nat} {x y:Ent} (d:l[i]? =some x) (F:l[j]? =some y) (G:i<=j):x.f<=y.f:=by
 rcases Nat.lt_or_ge i j with q|q
 ·have:=NI h d F q;have:=(AH h i x d).2.1;omega
 grind
theorem bEl {l:List Ent} (h:jA l) {off:Int} (F:0<=off) (G:off<lF l) {m:Nat} (L:m<=l.length) (H:∀x,l[m]? =some x->off<x.f) (I:∀j x,j+1=m->l[j]? =some x->x.f<=off):nB l off=(m:Int)-1:=by
 obtain⟨k,x,A,M,O,e⟩:=bD4 h F G;have U:=(eF.1 A).1;have J:m=k+1:=by
  rcases Nat.lt_trichotomy m (k+1) with q|q|q
  ·obtain⟨y,d⟩:∃y,l[m]? =some y:=⟨_,aN (by omega)⟩;have:=H y d;have:=bEk h d A (by omega);omega
  ·exact q
  ·obtain⟨y,d⟩:∃y,l[m-1]? =some y:=⟨_,aN (by omega)⟩;have:=I (m-1) y (by omega) d;have:=NI h A d (by omega);omega
 rw[e,J];omega
theorem aKm (v:Value) (l:List Ent) (off:Int) (w:World) (O:RdR w v (l.map bG)) (H:l.length<=1000000):
  Calls pG 45 #[v,.int .i64 off] w fun e w'=>e=.returned (.int .i64 (nB l off))/\Below w.heap.size w w':=by
 obtain⟨a,A,rfl,b9,b3,-⟩:=nS O;have b4:=VN H;unfold maxLen at b3
 by_cases U:off<0
 ·rw[aJ0 (.inl U)];have t1:decide (off<0)=true:=aG U;go_enter func45,ntmps45;go_wp2_with fail
  go_quiet (fail)
  go_wp2_with fail;go_ret;exact⟨rfl,uD (bD (bD (aH _ _) _) _) _⟩
 have t1:decide (off<0)=false:=aE U;obtain⟨I,V⟩:∃I,I=nB l off:=⟨_,rfl⟩;rw[<-V];have a2:=hid V;clear V;obtain⟨T,Z⟩:∃T,T=lG l:=⟨_,rfl⟩;obtain⟨Q,J⟩:∃Q:Bool,Q=decide (T<=off):=⟨_,rfl⟩;have a0:=fun W h=>VO (.slice a l.length A) l W h H
 rw[<-Z] at a0 b4;have t2:decide (off>=T)=Q:=J.symm;have t3:decide (T<=off)=Q:=J.symm;have HQ:=hid J;have HT:=hid Z;clear J Z;obtain⟨z,L⟩:∃z,z=w.heap.size:=⟨_,rfl⟩;have a1:Below w.heap.size w ((w.alloc (.cells #[.slice a l.length A] 56)).alloc (.cells #[.int .i64 off] 3)):=bD (bD (aH _ _) _) _;have c0:((w.alloc (.cells #[.slice a l.length A] 56)).alloc (.cells #[.int .i64 off] 3)).cell? ⟨z,0,none⟩=some (.slice a l.length A):=by
  rw[L];have h:=Arr.new w 56 [.slice a l.length A];exact(h.below (bD (aH _ _) (.cells #[.int .i64 off] 3)) h.lt).cell (i:=0) rfl
 have c1:((w.alloc (.cells #[.slice a l.length A] 56)).alloc (.cells #[.int .i64 off] 3)).cell? ⟨z+1,0,none⟩=some (.int .i64 off):=by
  rw[L];have h:=Arr.new (w.alloc (.cells #[.slice a l.length A] 56)) 3 [.int .i64 off];rw[World.size_alloc] at h;exact h.cell (i:=0) rfl
 have a3:=(O.below a1);go_enter func45,ntmps45;go_wp2_with fail;generalize (w.alloc (.cells #[.slice a l.length A] 56)).alloc (.cells #[.int .i64 off] 3)=d at*
 rw[<-L] at ⊢;clear L O;have b5:=aKl (B:=d.heap.size) (w0:=d) ⟨c0,c1,aH _ _,aD _⟩ (aH d.heap.size d).drew
 go_cut [12] (fun b6 F=>b6=.bool Q/\F.cell? ⟨z,0,none⟩=some (.slice a l.length A)/\F.cell? ⟨z+1,0,none⟩=some (.int .i64 off)/\Below d.heap.size d F/\d.heap.size<=F.heap.size)
 case first=>
  go_region_held3 (fun F=>F.cell? ⟨z,0,none⟩=some (.slice a l.length A)/\F.cell? ⟨z+1,0,none⟩=some (.int .i64 off)/\Below d.heap.size d F/\d.heap.size<=F.heap.size)
   (first
    |with_reducible assumption
    |with_reducible exact aKl (by assumption) (by assumption))
   (first
    |(go_at_call 42;refine(a0 _ (a3.below (by first|exact(by assumption:_/\_/\Below d.heap.size d _/\_).2.2.1|assumption))).mono ?_;rintro e w4 ⟨rfl,h4⟩))
  all_goals
   go_wp2_with fail;go_meet;exact⟨rfl,by assumption⟩
 case rest=>
 obtain⟨rfl,d0,d1,a4,c2⟩:=hcut;have a5:=a3.below a4;have h1:=a1.trans (a4.mono a1.size);clear a0 b5 c0 c1
 cases Q with
 |true=>
  have a6:T<=off:=of_decide_eq_true HQ.out.symm;obtain rfl:I= -1:=by rw[a2.out];exact aJ0 (.inr (by rw[<-HT.out];exact a6))
  clear a6;go_wp2_with fail;go_ret;exact⟨rfl,h1⟩
 |false=>
  have a7:off<T:=by have:=of_decide_eq_false HQ.out.symm;omega
  have hR:jA l:=by
   apply Decidable.byContradiction;intro q;have:lG l=0:=aA q;rw[<-HT.out] at this;omega
  have a8:off<lF l:=by
   have:lG l=lF l:=aB hR;rw[<-this,<-HT.out];exact a7
  have a9:=bEj l.length z (fun i=>match l[i]? with|some x=>decide (off<x.f)|none=>true) wc H (fun i hi W hW=>by
   obtain⟨x,G⟩:∃x,l[i]? =some x:=⟨_,aN hi⟩;simp only[G];exact bEi a A l off z i x W (a5.below hW) ((hW.cell (gV wc _ d0)).trans d0) ((hW.cell (gV wc _ d1)).trans d1) G H)
  clear t2 t3 a7 a5;have HS:=hid a8;have b7:=hid hR;clear a8 hR;go_wp2_with fail;refine a9.mono ?_;rintro e w2 ⟨m,rfl,hm,b0,b1,h2⟩;have b2:nB l off=(m:Int)-1:=bEl b7.out (by omega) HS.out hm (fun x G=>by
    have b8:=(eF.1 G).1;have q:=b0 b8;simp only[G] at q;exact of_decide_eq_true q) (fun j x hj G=>by
    have q:=b1 j hj;simp only[G] at q;have:=of_decide_eq_false q;omega)
  obtain⟨D,M⟩:∃D,D=(m:Int)-1:=⟨_,rfl⟩;have mD:aJ.wrap ((m:Int)-1)=D:=by rw[<-M,aM];omega
  have c3:=M.symm;obtain rfl:I=D:=by rw[a2.out,b2,M]
  clear M b2 b0 b1 a9;go_wp2_with fail;go_ret;exact⟨rfl,h1.trans (h2.mono h1.size)⟩
theorem aKn (v:Value) (l:List Ent) (off n:Int) (w:World) (hr:RdR w v (l.map bG)) (hl:l.length<=1000000) (b4: -9223372036854775808<=off) (b5:off<=9223372036854775807) (b6: -9223372036854775808<=n) (b7:n<=9223372036854775807):
  Calls pG 47 #[v,.int .i64 off,.int .i64 n] w fun e w'=>e=.returned (.tuple #[.int .i64 (yF l off n).1,.int .i64 (yF l off n).2])/\Below w.heap.size w w':=by
 have a2:=VO v l w hr hl;have a9:=VN hl;have a3:=fun o W h=>aKm v l o W h hl
 obtain⟨a,ca,rfl,b8,b0,-⟩:=nS hr;unfold maxLen at b0;have M:=hid (show yF l off n=if n<1\/lG l<=off\/off<= -n then(-1,-1) else(nB l (max off 0),nB l (max off 0+min (n-(max off 0-off)) (lG l-max off 0)-1)) from rfl);obtain⟨T,hT⟩:∃T,T=lG l:=⟨_,rfl⟩;obtain⟨A,d⟩:∃A,A=yF l off n:=⟨_,rfl⟩;rw[<-hT] at a2 a9;rw[<-d] at ⊢;rw[<-hT,<-d] at M;clear hT d;go_enter func47,ntmps47;go_wp2_with fail;refine a2.mono ?_;rintro e w1 ⟨rfl,O⟩;have a6:=hr.below O;clear a2 hr
 by_cases q1:n<1
 ·obtain rfl:A=(-1,-1):=by rw[M.out,aB (.inl q1)]
  have t1:decide (n<1)=true:=aG q1;go_wp2_with fail
  go_ret2
  exact⟨rfl,O⟩
 have t1:decide (n<1)=false:=aE q1
 by_cases U:T<=off
 ·obtain rfl:A=(-1,-1):=by rw[M.out,aB (.inr (.inl U))]
  have t2:decide (off>=T)=true:=aG U;have b1:decide (T<=off)=true:=aG U;go_wp2_with fail
  go_ret2
  exact⟨rfl,O⟩
 have t2:decide (off>=T)=false:=aE U;have b1:decide (T<=off)=false:=aE U;obtain⟨N,V⟩:∃N,N= -n:=⟨_,rfl⟩;have mN:aJ.wrap (-n)=N:=by rw[<-V,aM];omega
 have b9:=V.symm
 by_cases q3:off<=N
 ·obtain rfl:A=(-1,-1):=by rw[M.out,aB (.inr (.inr (by rw[<-V];exact q3)))]
  have t3:decide (off<=N)=true:=aG q3;clear V;go_wp2_with fail
  go_ret2
  exact⟨rfl,O⟩
 have t3:decide (off<=N)=false:=aE q3;have d:A=(nB l (max off 0),nB l (max off 0+min (n-(max off 0-off)) (T-max off 0)-1)):=by rw[M.out,aA (by omega)]
 obtain⟨F,hF⟩:∃F,F=max off 0:=⟨_,rfl⟩;rw[<-hF] at d;obtain⟨Z,a0⟩:∃Z,Z=F-off:=⟨_,rfl⟩;rw[<-a0] at d;obtain⟨L,a1⟩:∃L,L=n-Z:=⟨_,rfl⟩;rw[<-a1] at d;obtain⟨G,hG⟩:∃G,G=T-F:=⟨_,rfl⟩;rw[<-hG] at d;obtain⟨H,hH⟩:∃H,H=min L G:=⟨_,rfl⟩;rw[<-hH] at d;obtain⟨I,hI⟩:∃I,I=F+H:=⟨_,rfl⟩;rw[<-hI] at d;obtain⟨J,hJ⟩:∃J,J=I-1:=⟨_,rfl⟩;rw[<-hJ] at d;have x1:(if off<=0 then 0 else off)=F:=by rw[hF,Int.max_def]
 have x2:max off 0=F:=hF.symm;have c0:max 0 off=F:=by rw[hF];omega
 have m1:aJ.wrap (F-off)=Z:=by rw[<-a0,aM];omega
 have m2:aJ.wrap (n-Z)=L:=by rw[<-a1,aM];omega
 have m3:aJ.wrap (T-F)=G:=by rw[<-hG,aM];omega
 have y1:(if L<=G then L else G)=H:=by rw[hH,Int.min_def]
 have y2:min L G=H:=hH.symm;have m4:aJ.wrap (F+H)=I:=by rw[<-hI,aM];omega
 have m5:aJ.wrap (I-1)=J:=by rw[<-hJ,aM];omega
 have c1:=a0.symm;have c2:=a1.symm;have c3:=hG.symm;have c4:=hI.symm;have c5:=hJ.symm;have b2:=hid d;obtain⟨f1,a4⟩:∃f1,f1=nB l F:=⟨_,rfl⟩;obtain⟨f2,a5⟩:∃f2,f2=nB l J:=⟨_,rfl⟩;have a7:=fun W h=>a3 F W h
 have a8:=fun W h=>a3 J W h
 rw[<-a4] at a7;rw[<-a5] at a8;obtain rfl:A=(f1,f2):=by rw[d,a4,a5]
 clear hF a0 a1 hG hH hI hJ d a4 a5 a3 V b2 M;go_wp2_with fail;refine(a7 _ a6).mono ?_;rintro e w2 ⟨rfl,h2⟩;have b3:=a6.below h2;go_wp2_with fail;refine(a8 _ b3).mono ?_;rintro e w3 ⟨rfl,h3⟩;go_wp2_with fail
 go_ret2
 exact⟨rfl,aW (aW O h2) h3⟩
end
end Go.Proofs.YtihbnmlinkbnkaaGreatDoor
