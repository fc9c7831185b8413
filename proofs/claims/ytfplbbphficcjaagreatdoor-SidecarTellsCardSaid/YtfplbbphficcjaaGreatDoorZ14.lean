/-
  Texts put together (part 14): the walks and the plain laws on which the statement stands.
-/
import Derived.WalkMore
import Derived.ArgAppend
import Derived.Lib.SlBytesConst
import Derived.LaidEql
import Derived.Stop.Asserts
import Derived.Lib.IfaceEq
import Derived.RowKitTokens
import Derived.Test.YtfplbbphficcjaaGreatDoorZ5
import Derived.Test.YtfplbbphficcjaaGreatDoorZ7
import Derived.Test.YtfplbbphficcjaaGreatDoorZ9
set_option maxRecDepth 100000
set_option maxHeartbeats 12800000
set_option linter.unusedVariables false
set_option linter.unusedSimpArgs false
open Go.Proofs.Tryz
open Go.Proofs.Tryz renaming prog->pG
open Go renaming Program->fO,rounds_succ->uA,run_callFunc_extern->rZ,run_typeAssert_lacksB->XA,wp_loop_rounds->ON
open Go.Addr renaming add->gP
open Go.Extern.ReflectliteType renaming method->WZ,typeOf->OL
open Go.Instr renaming index->rE,typeAssert->tZ
open Go.IntKind renaming i64->aJ,u32->sH,u64->eZ,wrap_i64->aM,wrap_u32->uB,wrap_u64->fC
open Go.RowKit.Below renaming refl->aH
open Go.World.ownsRow renaming alloc->WK,kept->yJ,lt->aK9
open List renaming append_assoc->bU,append_nil->dI,flatten_cons->kW,getElem?_eq_getElem->aN,length_append->aL,length_map->aS,length_singleton->fQ,mem_cons_of_mem->iQ,mem_cons_self->jK,mem_map->eK
open Nat renaming le_refl->aD,le_trans->aR,zero_le->aO
open Option.some renaming inj->cC
open UInt8 renaming ofNat->eA
namespace Go.Proofs.YtfplbbphficcjaaGreatDoor
section
open Go.RowKit Go Go.Shelf
abbrev lC:=List (List Value)
def oW (k:Nat) (l:lC):Prop:=∀q∈l,q.length=k/\∀u∈q,u.oneCell'=true
theorem oW.app {k:Nat} {l m:lC} (h:oW k l) (g:oW k m):oW k (l++m):=fun q d=>(List.mem_append.1 d).elim (h q) (g q)
theorem oW.one {k:Nat} {q:List Value} (h:q.length=k) (g:∀u∈q,u.oneCell'=true):oW k [q]:=by grind [oW]
theorem FE {k:Nat}:∀{l:lC},oW k l->l.flatten.length=l.length*k
 |[],_=>by simp
 |x::l,h=>by
  rw[kW,aL,FE (l:=l) (fun q d=>h q (iQ _ d)),(h x (jK ..)).1,List.length_cons,Nat.succ_mul,Nat.add_comm]
theorem FF {k:Nat}:∀{l:lC},oW k l->∀(j i:Nat) (q:List Value) (u:Value),l[j]? =some q->q[i]? =some u->l.flatten[j*k+i]? =some u
 |[],_,j,i,q,u,h,_=>by simp at h
 |x::l,d,0,i,q,u,h,A=>by grind
 |x::l,d,j+1,i,q,u,h,A=>by
  have F:=FF (fun q D=>d q (iQ _ D)) j i q u (by simpa using h) A;have G:=(d x (jK ..)).1
  grind
theorem aWj {k:Nat} {l:lC} (h:oW k l):∀u∈l.flatten,u.oneCell'=true:=fun u d=>by
 obtain⟨q,A,d⟩:=List.mem_flatten.1 d;exact(h q A).2 u d
structure ElR (P:fO) (t e k bytes:Nat) (z:Value):Prop where
 under:P.underlying t=some (.slice e)
 info:∃i,P.info? e=some i/\i.zero=some z/\i.size=k/\i.bytes=bytes
 cells:z.cells.size=k
 pos:1<=bytes
 some':1<=k
theorem ElR.mk' {P:fO} {t e k bytes:Nat} {z:Value} (h:(P.info? e).map (fun i=>(i.zero,i.size,i.bytes))=some (some z,k,bytes)) (d:P.underlying t=some (.slice e)) (A:z.cells.size=k) (D:1<=bytes) (F:1<=k):ElR P t e k bytes z:=by
 obtain⟨G,H,I,J,L⟩:=info_parts h;exact⟨d,⟨G,H,I,J,L⟩,A,D,F⟩
def RdR (w:World) (v:Value) (l:lC):Prop:=Rd w v l.length l.flatten
theorem RdR.below {w w':World} {v:Value} {l:lC} (h:RdR w v l) (d:Below w.heap.size w w'):RdR w' v l:=Rd.below h d
def OwR (w:World) (B e k:Nat) (v:Value) (l:lC):Prop:=w.ownsRow B e k v l.length l.flatten
theorem OwR.nil (w:World) (B e k:Nat):OwR w B e k (.slice none 0 0) []:=World.ownsRow_nil _ _ _ _
theorem OwR.alloc {w:World} {B e k:Nat} {v:Value} {l:lC} (h:OwR w B e k v l) (o:Obj):OwR (w.alloc o) B e k v l:=WK h o
theorem OwR.below {w w':World} {B C e k:Nat} {v:Value} {l:lC} (h:OwR w B e k v l) (d:Below C w w') (A:w.heap.size<=C):OwR w' B e k v l:=IX h d A
theorem OwR.base {w:World} {B d e k:Nat} {v:Value} {l:lC} (h:OwR w B e k v l) (A:d<=B):OwR w d e k v l:=DR h A
theorem OwR.kept {w w':World} {B e k:Nat} {v:Value} {l:lC} {row:Option Nat} (h:OwR w B e k v l) (d:w.grownBy w' row) (A:v.ownBlock=none\/v.ownBlock≠row):OwR w' B e k v l:=yJ h d A
theorem OwR.lt {w:World} {B e k:Nat} {v:Value} {l:lC} (h:OwR w B e k v l):∀g,v.ownBlock=some g->B<=g/\g<w.heap.size:=aK9 h
theorem OwR.rd {w:World} {B e k:Nat} {v:Value} {l:lC} (h:OwR w B e k v l):RdR w v l:=Rd.of_own h
theorem RdR.open {w:World} {v:Value} {l:lC} {k:Nat} (h:RdR w v l) (A:oW k l) (D:1<=k):∃a cap,v=.slice a l.length cap/\l.length<=cap/\cap<=maxLen/\
  (0<l.length->∃b off,a=some ⟨b,off,none⟩/\b<w.heap.size/\∀j q i u,l[j]? =some q->q[i]? =some u->w.cell? ⟨b,off+(j*k+i),none⟩=some u):=by
 obtain⟨a,cap,rfl,F,G,d⟩:=h;refine⟨a,cap,rfl,F,G,fun H=>?_⟩;have I:=FE A;rcases d with d|⟨b,off,rfl,J,O⟩
 ·rw[d,List.length_nil] at I;have:=Nat.mul_pos H D;omega
 ·refine⟨b,off,rfl,J,fun j q i u L M=>?_⟩;have T:=FF A j i q u L M
  grind
theorem RdR.one {w:World} {g e:Nat} {q:List Value} (h:Arr w g e q):RdR w (.slice (some ⟨g,0,none⟩) 1 1) [q]:=by
 refine⟨_,1,rfl,aD _,by simp[maxLen],.inr ⟨g,0,rfl,h.lt,fun j d=>?_⟩⟩;rw[kW,List.flatten_nil,dI] at d ⊢;rw[Nat.zero_add,h.cell (i:=j) (aN d),List.getD_eq_getElem?_getD,aN d];rfl
section
variable {P:fO} {t e k bytes:Nat} {z:Value}
theorem LS (E:ElR P t e k bytes z) {w:World} (G:TypeId) (base:Nat) (v:Value) (l:lC) (H:OwR w base e k v l) (I:Value) (m:lC) (a0:RdR w I m) (d:oW k m) (hm:0<m.length) (J:(l.length+m.length)*bytes<=140737488355328) (L:base<=w.heap.size):
  ∃A w',(Builtin.append_ #[t,t] G #[v,I]).run P w=.ok A w'/\OwR w' base e k A (l++m)/\Below base w w'/\w.grownBy w' v.ownBlock:=by
 obtain⟨i,hi,hz,h2,h3⟩:=E.info;obtain⟨a,cap,rfl,a3,a4,h⟩:=a0.open d E.some';obtain⟨b,off,rfl,a5,hc⟩:=h hm;have a1:=E.pos;have D:=E.some';have hn:l.length+m.length<=140737488355328:=aR (Nat.le_mul_of_pos_right _ a1) J;have M:=FE d;obtain⟨A,w',q1,q2,O,_⟩:=run_append_own (P:=P) w base t G e i z k bytes E.under hi hz h2 h3 E.cells D v l.length _ H ⟨b,off,none⟩ m.length cap m.flatten M (fun j u F=>by
   have T:=(List.getElem?_eq_some_iff.1 F).1;rw[M] at T;have U:j/k<m.length:=(Nat.div_lt_iff_lt_mul D).2 T;have V:m[j/k]? =some m[j/k]:=aN U;have a6:=(d _ (List.getElem_mem U)).1;have a7:=Nat.mod_lt j D;have Y:m[j/k][j%k]? =some (m[j/k][j%k]'(by grind)):=aN _;have Z:=FF d _ _ _ _ V Y;have hd:j/k*k+j%k=j:=Nat.div_add_mod' j k;have a2:=hc _ _ _ _ V Y;rw[hd] at Z a2;rw[Z] at F;rw[<-cC F];have e:(⟨b,off,none⟩:Addr).add j=⟨b,off+j,none⟩:=by unfold gP;split<;>simp_all
   grind) (aWj d) (by simp only[maxLen];omega) J L
 refine⟨A,w',q1,?_,rJ H O L,O⟩;unfold OwR
 grind
theorem EH (E:ElR P t e k bytes z) {A:Array Oper} {rest:List Oper} {o:Oper} {a:Act} {Q:Exit->Act->World->Prop} {w:World} (D:o.guard=none) (s x:Operand)
  (F:o.op=.call {callee:=.builtin .append,args:=#[s,x],argTypes:=#[t,t]}) (base:Nat) (v:Value) (l:lC) (hs:a.eval s=v) (hown:OwR w base e k v l)
  (sv:Value) (m:lC) (hx:a.eval x=sv) (hsrc:RdR w sv m) (h1:oW k m) (hm:0<m.length) (hroom:(l.length+m.length)*bytes<=140737488355328) (hbase:base<=w.heap.size)
  (h:∀d w',OwR w' base e k d (l++m)->Below base w w'->w.grownBy w' v.ownBlock->wpList P A Q rest (a.put o.dst d) w'):wpList P A Q (o::rest) a w:=by
 refine wpList_plain D fun K G=>?_
 obtain⟨d,w',H,I,J,L⟩:=LS E o.type base v l hown sv m hsrc h1 hm hroom hbase;unfold Oper.wp execOp;simp only[F,resolve,invoke,builtin,Sem.run_bind,Sem.run_pure,Result.andThen_ok,List.map_toArray,List.map_cons,List.map_nil,hs,hx,H];exact G _ _ (h d w' I J L)
end
theorem tE (d:Nat) (h:d<=9223372036854775807):aJ.wrap (d:Int)=(d:Int):=by rw[aM];omega
def bG (x:Ent):List Value:=[.int .i64 x.a,.int .i64 x.r,.int .i64 x.f,.int .i64 x.n,.int .u32 x.y]
theorem yG (l:List Ent):oW 5 (l.map bG):=fun q e=>by
 obtain⟨p,_,rfl⟩:=eK.1 e;exact⟨rfl,fun u d=>by unfold bG at d;simp only[List.mem_cons,List.not_mem_nil,or_false] at d;rcases d with rfl|rfl|rfl|rfl|rfl<;>rfl⟩
theorem nS {w:World} {v:Value} {l:List Ent} (h:RdR w v (l.map bG)):∃a cap,v=.slice a l.length cap/\l.length<=cap/\cap<=maxLen/\
  (0<l.length->∃b off,a=some ⟨b,off,none⟩/\b<w.heap.size/\∀j p,l[j]? =some p->w.cell? ⟨b,off+j*5,none⟩=some (.int .i64 p.a)/\w.cell? ⟨b,off+j*5+1,none⟩=some (.int .i64 p.r)/\w.cell? ⟨b,off+j*5+2,none⟩=some (.int .i64 p.f)/\w.cell? ⟨b,off+j*5+3,none⟩=some (.int .i64 p.n)/\w.cell? ⟨b,off+j*5+4,none⟩=some (.int .u32 p.y)):=by
 obtain⟨a,cap,d,A,F,D⟩:=h.open (yG l) (by decide);rw[aS] at d A D;refine⟨a,cap,d,A,F,fun G=>?_⟩;obtain⟨b,off,H,I,J⟩:=D G;refine⟨b,off,H,I,fun j p M=>?_⟩;have e:(l.map bG)[j]? =some (bG p):=by grind
 have c:=fun i u L=>J j (bG p) i u e L
 refine⟨c 0 _ rfl,?_,?_,?_,?_⟩
 ·grind [RdR,bG]
 ·grind [RdR,bG]
 ·grind [RdR,bG]
 grind [RdR,bG]
theorem DB (v:Value) (l:List Ent) (w:World) (hr:RdR w v (l.map bG)) (hl:l.length<=1000000):
  Calls pG 25 #[v] w fun e w'=>e=.returned (.bool (decide (jA l)))/\Below w.heap.size w w':=by
 obtain⟨a,ca,rfl,a8,a4,hA⟩:=nS hr;unfold maxLen at a4;obtain⟨R,hR⟩:∃R:Bool,R=decide (jA l):=⟨_,rfl⟩;rw[<-hR];have H:=hid hR;clear hR hr;go_enter func25,ntmps25;go_wp2_with fail
 go_step3
 go_wp2_with fail
 go_step3
 go_wp2_with fail
 go_loopg [3,4,5,7,10,14] l.length (fun g s3 s4 s5 _s7 a5 _s14 wr=>∃(k:Nat) (I G:Int),k<=l.length/\g=l.length-k/\a5=.int .i64 (k:Int)/\s3=.int .i64 I/\s4=.int .i64 G/\s5=.bool true/\(0<=I/\I<=18720*(k:Int))/\Hid (jA l↔oL I G (l.drop k))/\Below w.heap.size w wr)
 case atStart=>exact⟨0,0,31,aO _,rfl,rfl,rfl,rfl,rfl,⟨by decide,by decide⟩,hid (Iff.refl _),aH _ _⟩
 case round=>
  obtain⟨k,I,G,hk,hg,rfl,rfl,rfl,rfl,a9,HI,J⟩:=hrel;have HG:=hid hg;have a6:=J.size;clear hg
  by_cases a0:k<l.length
  ·have t1:decide ((k:Int)<(l.length:Int))=true:=aG (by omega);obtain⟨b,off,rfl,T,hc⟩:=hA (by omega);obtain⟨x,V⟩:∃x,l[k]? =some x:=⟨_,aN a0⟩;have D:=hid (show jA l↔x.ok I G/\oL (x.f+x.n) x.a (l.drop (k+1)) by
    have e:l[k]=x:=by rw[aN a0] at V;exact cC V
    rw[HI.out,List.drop_eq_getElem_cons a0,e];exact Iff.rfl)
   obtain⟨x0,x1,x2,x3,x4⟩:=hc k x V;clear hc V hA HI;obtain⟨M,d,U,A,xy⟩:=x;have c0:=(J.cell (p:=⟨b,off+k*5,none⟩) T).trans x0;have c1:=(J.cell (p:=⟨b,off+k*5+1,none⟩) T).trans x1;have c2:=(J.cell (p:=⟨b,off+k*5+2,none⟩) T).trans x2;have c3:=(J.cell (p:=⟨b,off+k*5+3,none⟩) T).trans x3;have c4:=(J.cell (p:=⟨b,off+k*5+4,none⟩) T).trans x4;dsimp only at c0 c1 c2 c3 c4;have L:=fun o=>J.alloc a6 o
   clear x0 x1 x2 x3 x4
   by_cases q1:U=I
   rotate_left
   ·obtain rfl:R=false:=by rw[H.out];exact aE (fun h=>q1 (D.out.1 h).1.1)
    have O:(U != I)=true:=bne_iff_ne.2 q1;go_wp2_with fail;go_ret;exact⟨rfl,L _⟩
   obtain rfl:=q1
   by_cases q2:A<1
   ·obtain rfl:R=false:=by rw[H.out];exact aE (fun h=>absurd (D.out.1 h).1.2.1 (by show ¬1<=A;omega))
    have O:decide (A<1)=true:=aG q2;go_wp2_with fail;go_ret;exact⟨rfl,L _⟩
   have u2:decide (A<1)=false:=aE q2
   by_cases Y:18720<A
   ·obtain rfl:R=false:=by rw[H.out];exact aE (fun h=>absurd (D.out.1 h).1.2.2.1 (by show ¬A<=18720;omega))
    have O:decide (A>18720)=true:=aG Y;have a7:decide (18720<A)=true:=aG Y;go_wp2_with fail;go_ret;exact⟨rfl,L _⟩
   have u3:decide (A>18720)=false:=aE Y;have b0:decide (18720<A)=false:=aE Y
   by_cases q4:d<40
   ·obtain rfl:R=false:=by rw[H.out];exact aE (fun h=>absurd (D.out.1 h).1.2.2.2.1 (by show ¬40<=d;omega))
    have O:decide (d<40)=true:=aG q4;go_wp2_with fail;go_ret;exact⟨rfl,L _⟩
   have u4:decide (d<40)=false:=aE q4
   by_cases q5:360<d
   ·obtain rfl:R=false:=by rw[H.out];exact aE (fun h=>absurd (D.out.1 h).1.2.2.2.2.1 (by show ¬d<=360;omega))
    have O:decide (d>360)=true:=aG q5;have a7:decide (360<d)=true:=aG q5;go_wp2_with fail;go_ret;exact⟨rfl,L _⟩
   have u5:decide (d>360)=false:=aE q5;have b1:decide (360<d)=false:=aE q5;obtain⟨Z,hZ⟩:∃Z,Z=d.tmod 40:=⟨_,rfl⟩;have a1:Z=d%40:=by rw[hZ];exact Int.tmod_eq_emod_of_nonneg (by omega)
   have mZ:aJ.wrap Z=Z:=by rw[aM];omega
   have b2:=hZ.symm;have HZ:=hid a1;clear hZ a1
   by_cases q6:Z=0
   rotate_left
   ·obtain rfl:R=false:=by rw[H.out];exact aE (fun h=>q6 (by rw[HZ.out];exact(D.out.1 h).1.2.2.2.2.2.1))
    have O:(Z != 0)=true:=bne_iff_ne.2 q6;go_wp2_with fail;go_ret;exact⟨rfl,L _⟩
   subst q6
   by_cases q7:M<=G
   ·obtain rfl:R=false:=by rw[H.out];exact aE (fun h=>absurd (D.out.1 h).1.2.2.2.2.2.2 (by show ¬G<M;omega))
    have O:decide (M<=G)=true:=aG q7;go_wp2_with fail;go_ret;exact⟨rfl,L _⟩
   have u7:decide (M<=G)=false:=aE q7;have a2:=hid (show jA l↔oL (U+A) M (l.drop (k+1)) from⟨fun h=>(D.out.1 h).2,fun h=>D.out.2 ⟨⟨rfl,by show 1<=A;omega,by show A<=18720;omega,by show 40<=d;omega,by show d<=360;omega,by show d%40=0;exact HZ.out.symm,by show G<M;omega⟩,h⟩⟩);obtain⟨F,hF⟩:∃F,F=U+A:=⟨_,rfl⟩;have mF:aJ.wrap (U+A)=F:=by rw[<-hF,aM];omega
   have a3:0<=F/\F<=18720*((k:Int)+1):=by omega
   have b3:=hF.symm;rw[<-hF] at a2;clear hF HZ D;go_wp2_with fail
   go_quiet (fail)
   go_wp2_with fail;have hg:=HG.out
   go_roundg (l.length-(k+1))
   case measure=>omega
   case rel=>exact⟨k+1,F,M,by omega,rfl,by go_num,rfl,rfl,rfl,⟨a3.1,by push_cast;exact a3.2⟩,a2,below_drewN (L _) _⟩
  ·have t1:decide ((k:Int)<(l.length:Int))=false:=aE (by omega);obtain rfl:R=true:=by
    rw[H.out];refine aG (HI.out.2 ?_);rw[List.drop_of_length_le (by omega)]
    trivial
   go_wp2_with fail;rw[Exit.noGoto_ret];go_ret;exact⟨rfl,J⟩
def oN (w w':World):Prop:=∀(g:Nat) (d:List Value),Arr w g 47 d->Arr w' g 47 d
theorem oN.refl (w:World):oN w w:=fun _ _ h=>h
theorem oN.trans {a b c:World} (h:oN a b) (k:oN b c):oN a c:=fun g d q=>k g d (h g d q)
theorem oN.alloc (w:World) (o:Obj):oN w (w.alloc o):=fun _ _ q=>q.alloc o
theorem OwB.keepE {w w':World} {B:Nat} {v:Value} {l:List UInt8} (D:OwB w B v l) (h:w.grownBy w' v.ownBlock):oN w w':=fun g F d=>d.grown h (by
 intro e;rcases D.2 with⟨A,_⟩|⟨G,cap,H,A,_,h,_⟩
 ·rw[A] at e;simp[Value.ownBlock] at e
 ·rw[A] at e;simp[Value.ownBlock] at e;subst e;unfold Arr at d;rw[h] at d
  injection d with d
  injection d with _ h2 _
  exact absurd h2 (by decide))
def aJ7 (w:World) (v:Value) (s:List UInt8):Prop:=∃g,v=.slice (some ⟨g,0,none⟩) s.length s.length/\∀(j:Nat) (u:Value),(fG s)[j]? =some u->w.cell? ⟨g,j,none⟩=some u
def vD (w:World) (B:Nat) (v:Value) (s:List UInt8):Prop:=OwB w B v s\/aJ7 w v s
theorem vD.alloc {w:World} {B:Nat} {v:Value} {s:List UInt8} (h:vD w B v s) (o:Obj):vD (w.alloc o) B v s:=by
 rcases h with h|⟨g,rfl,d⟩
 ·exact .inl (Ow.alloc h o)
 ·refine .inr ⟨g,rfl,fun j u e=>?_⟩;have h:=d j u e;rw[World.cell?_alloc_lt _ _ _ (World.block_lt_of_cell? w _ h)];exact h
theorem aJ8 {I:Array Oper} {rest:List Oper} {o:Oper} {a:Act} {Q:Exit->Act->World->Prop} {w:World} (J:o.guard=none) (s x:Operand)
  (L:o.op=.call {callee:=.builtin .append,args:=#[s,x],argTypes:=#[61,61]}) (base:Nat) (v:Value) (l:List UInt8) (hs:a.eval s=v) (D:vD w base v l)
  (g:Nat) (b:UInt8) (hx:a.eval x=.slice (some ⟨g,0,none⟩) 1 1) (hc:w.cell? ⟨g,0,none⟩=some (.int .u8 (b.toNat:Int))) (hroom:(l.length+1)*1<=140737488355328) (hbase:base<=w.heap.size)
  (h:∀d w',OwB w' base d (l++[b])->Below base w w'->oN w w'->wpList pG I Q rest (a.put o.dst d) w'):wpList pG I Q (o::rest) a w:=by
 rcases D with D|⟨G,rfl,M⟩
 ·exact FB J s x L base v l hs D g b hx hc hroom hbase (fun d w' H F O=>h d w' H F (D.keepE O))
 ·obtain⟨i,T,U,V,Y⟩:=yU.info;refine wpList_append_grows w J s x 61 L 5 i (.int .u8 0) 1 1 underlying61 T U V Y rfl (by decide) (some ⟨G,0,none⟩) l.length l.length (fG l) hs (fun e=>nomatch e) (by simp[fG])
   (fun b Z j u A=>?_) ⟨g,0,none⟩ 1 1 [.int .u8 (b.toNat:Int)] hx rfl (fun j u A=>?_) (fun u hu=>by rw[List.mem_singleton.1 hu];rfl) (Nat.lt_succ_self _) (by simp only[maxLen];omega) hroom (fun d w' H F=>h d w' ?_ ?_ ?_)
  ·cases Z
   have e:(⟨G,0,none⟩:Addr).add j=⟨G,j,none⟩:=by unfold gP;split<;>simp_all
   rw[e];exact M j u A
  ·cases j with
   |zero=>simp at A;subst A;simpa [gP] using hc
   |succ j=>simp at A
  ·unfold OwB Ow;rw[IY,aL];refine DR (base:=w.heap.size) ?_ hbase
   simpa [fG] using H
  ·exact(aH base w).grown F hbase (fun k hk=>nomatch hk)
  ·exact fun g cs hA=>hA.grown F (by simp)
theorem aJ9 (X D k:Nat) (d:D=8*k):IntKind.u8.wrap ((X:Int)/2^D)=((eA (X/256^k)).toNat:Int):=by
 rw[CE,d,Nat.pow_mul,show(2:Nat)^8=256 from rfl,IntKind.wrap_u8,UInt8.toNat_ofNat'];omega
theorem DC (v:Value) (s:List UInt8) (X m B:Nat) (w:World) (T:vD w B v s) (U:1<=m) (hX:X<9223372036854775808) (hm:m<=8) (hs:s.length<=1000000) (V:B<=w.heap.size):
  Calls pG 26 #[v,.int .i64 (X:Int),.int .i64 (m:Int)] w fun e w'=>∃u,e=.returned u/\OwB w' B u (s++beL m X)/\Below B w w'/\oN w w':=by
 have m0:aJ.wrap ((m:Int)-1)=(m:Int)-1:=by rw[aM];omega
 have mX:eZ.wrap (X:Int)=(X:Int):=by rw[fC];omega
 go_enter func26,ntmps26;go_wp2_with fail
 go_loopg [0,7] m (fun g H Y wr=>∃(k:Nat) (r:List UInt8),k<=m/\g=k/\Y=.int .i64 ((k:Int)-1)/\Hid (r.length+k=s.length+m)/\Hid (s++beL m X=r++beL k X)/\vD wr B H r/\(k<m->OwB wr B H r)/\Below B w wr/\oN w wr)
 case atStart=>exact⟨m,s,aD _,rfl,rfl,hid rfl,hid rfl,T,fun h=>absurd h (Nat.lt_irrefl _),aH _ _,oN.refl _⟩
 case round=>
  obtain⟨k,r,hk,I,rfl,d,A,hor,Z,F,J⟩:=hrel;obtain rfl:=I.symm;have a0:=F.size
  by_cases h0:k=0
  ·subst h0;have t1:decide (((0:Nat):Int)-1>=0)=false:=aE (by omega);have t2:decide (0<=((0:Nat):Int)-1)=false:=aE (by omega);have e1:s++beL m X=r:=by rw[A.out];exact dI _
   clear A d I;go_wp2_with fail;go_ret;exact⟨_,rfl,by rw[e1];exact Z U,F,J⟩
  ·obtain⟨j,rfl⟩:∃j,k=j+1:=⟨k-1,by omega⟩;obtain⟨D,L⟩:∃D,D=8*j:=⟨_,rfl⟩;have a5:D<=56:=by omega
   have M:((j+1:Nat):Int)-1=(j:Int):=by omega
   rw[M];have t1:decide ((j:Int)>=0)=true:=aG (by omega);have t2:decide (0<=(j:Int))=true:=aG (by omega);have e7:min D 64=D:=by omega
   have mD:aJ.wrap (8*(j:Int))=(D:Int):=by rw[aM];omega
   have a6:8*(j:Int)=(D:Int):=by omega
   have e4:=aJ9 X D j L;obtain⟨b,G⟩:∃b,b=eA (X/256^j):=⟨_,rfl⟩;rw[<-G] at e4;have a1:=hid (show s++beL m X=(r++[b])++beL j X by rw[A.out,bU,G];rfl);have mj:aJ.wrap ((j:Int)-1)=(j:Int)-1:=by rw[aM];omega
   have a7:r.length<=1000008:=by have:=d.out;omega
   have a2:=hid (show(r++[b]).length+j=s.length+m by have:=d.out;rw[aL,fQ];omega);clear G L A d M;go_wp2_with (at_builtin;refine aJ8 rfl _ _ rfl B _ _ rfl (vD.alloc hor _) wr.heap.size b rfl ?_ ?_ ?_ ?_;(exact bX _ _ _);(omega);(simp;omega);intro v' w3 O a3 a4)
   go_roundg j
   case measure=>omega
   case rel=>exact⟨j,r++[b],by omega,rfl,rfl,a2,a1,.inl O,fun _=>O,(F.alloc (aR V a0) _).trans a3,J.trans ((oN.alloc _ _).trans a4)⟩
theorem aKa (v:Value) (s:List UInt8) (X m B:Nat) (w:World) (T:vD w B v s) (U:1<=m) (hX:X<4294967296) (hm:m<=8) (hs:s.length<=1000000) (V:B<=w.heap.size):
  Calls pG 27 #[v,.int .u32 (X:Int),.int .i64 (m:Int)] w fun e w'=>∃u,e=.returned u/\OwB w' B u (s++beL m X)/\Below B w w'/\oN w w':=by
 have m0:aJ.wrap ((m:Int)-1)=(m:Int)-1:=by rw[aM];omega
 have mX:eZ.wrap (X:Int)=(X:Int):=by rw[fC];omega
 go_enter func27,ntmps27;go_wp2_with fail
 go_loopg [0,7] m (fun g H Y wr=>∃(k:Nat) (r:List UInt8),k<=m/\g=k/\Y=.int .i64 ((k:Int)-1)/\Hid (r.length+k=s.length+m)/\Hid (s++beL m X=r++beL k X)/\vD wr B H r/\(k<m->OwB wr B H r)/\Below B w wr/\oN w wr)
 case atStart=>exact⟨m,s,aD _,rfl,rfl,hid rfl,hid rfl,T,fun h=>absurd h (Nat.lt_irrefl _),aH _ _,oN.refl _⟩
 case round=>
  obtain⟨k,r,hk,I,rfl,d,A,hor,Z,F,J⟩:=hrel;obtain rfl:=I.symm;have a0:=F.size
  by_cases h0:k=0
  ·subst h0;have t1:decide (((0:Nat):Int)-1>=0)=false:=aE (by omega);have t2:decide (0<=((0:Nat):Int)-1)=false:=aE (by omega);have e1:s++beL m X=r:=by rw[A.out];exact dI _
   clear A d I;go_wp2_with fail;go_ret;exact⟨_,rfl,by rw[e1];exact Z U,F,J⟩
  ·obtain⟨j,rfl⟩:∃j,k=j+1:=⟨k-1,by omega⟩;obtain⟨D,L⟩:∃D,D=8*j:=⟨_,rfl⟩;have a5:D<=56:=by omega
   have M:((j+1:Nat):Int)-1=(j:Int):=by omega
   rw[M];have t1:decide ((j:Int)>=0)=true:=aG (by omega);have t2:decide (0<=(j:Int))=true:=aG (by omega);have e7:min D 64=D:=by omega
   have mD:aJ.wrap (8*(j:Int))=(D:Int):=by rw[aM];omega
   have a6:8*(j:Int)=(D:Int):=by omega
   have e4:=aJ9 X D j L;obtain⟨b,G⟩:∃b,b=eA (X/256^j):=⟨_,rfl⟩;rw[<-G] at e4;have a1:=hid (show s++beL m X=(r++[b])++beL j X by rw[A.out,bU,G];rfl);have mj:aJ.wrap ((j:Int)-1)=(j:Int)-1:=by rw[aM];omega
   have a7:r.length<=1000008:=by have:=d.out;omega
   have a2:=hid (show(r++[b]).length+j=s.length+m by have:=d.out;rw[aL,fQ];omega);clear G L A d M;go_wp2_with (at_builtin;refine aJ8 rfl _ _ rfl B _ _ rfl (vD.alloc hor _) wr.heap.size b rfl ?_ ?_ ?_ ?_;(exact bX _ _ _);(omega);(simp;omega);intro v' w3 O a3 a4)
   go_roundg j
   case measure=>omega
   case rel=>exact⟨j,r++[b],by omega,rfl,rfl,a2,a1,.inl O,fun _=>O,(F.alloc (aR V a0) _).trans a3,J.trans ((oN.alloc _ _).trans a4)⟩
theorem aWr (k:Nat) (x:BitVec 32):mB (k+1) x=if(mB k x).msb then(mB k x)<<<1^^^79764919#32 else(mB k x)<<<1:=rfl
theorem aEp (a:BitVec 32):bits .xor .u32 sH.max (a.toNat:Int)=((~~~ a).toNat:Int):=by
 have h:=CG (0xffffffff#32) a;have e:(((0xffffffff#32:BitVec 32).toNat:Nat):Int)=sH.max:=by decide
 rw[e] at h;rw[h];have:(0xffffffff#32)^^^a= ~~~ a:=by
  have:=BitVec.allOnes_xor (x:=a);exact this
 rw[this]
theorem aWs (i:Nat) (hi:i<256) (w:World):
  Calls pG 50 #[.int .i64 (i:Int)] w fun e w'=>e=.returned (.int .u32 ((nL i).toNat:Int))/\w'=w:=by
 have O:=aWl i hi;have m0:sH.wrap (i:Int)=(i:Int):=by rw[uB];omega
 have a0:(i:Int)%4294967296=(i:Int):=by omega
 obtain⟨h,T⟩:∃h,h=BitVec.ofNat 32 i<<<24:=⟨_,rfl⟩;obtain⟨G,U⟩:∃G,G=h.toNat:=⟨_,rfl⟩;rw[<-T,<-U] at O;have a1:(i:Int)*16777216%4294967296=(G:Int):=by rw[<-O,uB]
 have HT:=hid (show nL i=mB 8 h by rw[T];rfl);have a2:=hid U;clear U T;go_enter func50,ntmps50;go_wp2_with fail
 go_loopg [3,7] 8 (fun g s3 s7 wr=>∃j X:Nat,j<=8/\g=8-j/\s7=.int .i64 (j:Int)/\s3=.int .u32 (X:Int)/\Hid (X=(mB j h).toNat)/\wr=w)
 case atStart=>exact⟨0,G,by omega,rfl,rfl,rfl,a2,rfl⟩
 case round=>
  obtain⟨j,X,hj,H,rfl,rfl,HX,rfl⟩:=hrel;have HG:=hid H;clear H O a1 m0 a0
  by_cases a3:j<8
  ·have t1:decide ((j:Int)<8)=true:=aG (by omega);obtain⟨x,I⟩:∃x,x=mB j h:=⟨_,rfl⟩;have D:=HX.out;rw[<-I] at D;have d:=aWr j h;rw[<-I] at d;have V:=aWn x;have e2:=SZ x;obtain⟨y,J⟩:∃y,y=x<<<1:=⟨_,rfl⟩;obtain⟨Y,F⟩:∃Y,Y=y.toNat:=⟨_,rfl⟩;have e3:=aEn y;obtain⟨z,L⟩:∃z,z=y^^^79764919#32:=⟨_,rfl⟩;obtain⟨Z,M⟩:∃Z,Z=z.toNat:=⟨_,rfl⟩;rw[<-D] at V;rw[<-D,<-J,<-F] at e2;rw[<-F,<-L,<-M] at e3;rw[<-J,<-L] at d;have a4:(X:Int)*2%4294967296=(Y:Int):=by rw[<-e2,uB]
   have HY:=hid F;have HZ:=hid M
   by_cases A:x.msb=true
   ·rw[aB A] at V;rw[aB A] at d;have HS:=hid d;clear I D J F L M d A;go_wp2_with fail;have H:=HG.out
    go_roundg (8-(j+1))
    case measure=>omega
    case rel=>exact⟨j+1,Z,by omega,rfl,by go_num,rfl,hid (by rw[HS.out];exact HZ.out),rfl⟩
   ·rw[aA A] at V;rw[aA A] at d;have HS:=hid d;clear I D J F L M d A e3;go_wp2_with fail;have H:=HG.out
    go_roundg (8-(j+1))
    case measure=>omega
    case rel=>exact⟨j+1,Y,by omega,rfl,by go_num,rfl,hid (by rw[HS.out];exact HY.out),rfl⟩
  ·have t1:decide ((j:Int)<8)=false:=aE (by omega);have ej:j=8:=by omega
   subst ej;go_wp2_with fail;go_ret;exact⟨eI (by rw[HT.out,<-HX.out]),rfl⟩
def iO (f:Nat->Nat):List Value:=(List.range 256).map fun c=>.int .u32 (f c:Int)
theorem LT (f:Nat->Nat) (c:Nat) (h:c<256):(iO f)[c]? =some (.int .u32 (f c:Int)):=by simp[iO,h]
theorem aWt (f e:Nat->Nat) (c:Nat) (v:Nat) (h:∀d,e d=if d=c then v else f d):(iO f).set c (.int .u32 (v:Int))=iO e:=by
 apply List.ext_getElem?
 grind [iO,LT]
theorem aEq:Tryz.zeroCells95=(iO (fun _=>0)).toArray:=by kernel_rfl
theorem aWu (f:Nat->Nat):(iO f).toArray.size=256:=by simp[iO]
theorem aEr (f:Nat->Nat):(pG.info? 95).map (·.size)=some (iO f).toArray.size:=by rw[aWu];kernel_rfl
theorem aEs:pG.underlying 95=some (.array 256 38):=by kernel_rfl
theorem aEt {w:World} {b:Nat} {e:TypeId} {l:List Value} (h:Arr w b e l) (d:l.length=256) (f:Nat->Nat):
  (storeCells ⟨b,0,none⟩ (iO f)).run pG w=.ok () (w.setRow b (iO f).toArray):=by
 have A:(iO f).length=256:=by simp[iO]
 have D:=run_storeCells_from (P:=pG) b e (iO f) 0 l.toArray w h (by simp[d,A]) (fun v F=>by obtain⟨c,_,rfl⟩:=eK.1 F;rfl);rw[D]
 congr 2
def uT (k c:Nat):Nat:=if c<k then(nL c).toNat else 0
theorem aWv (k c:Nat):uT (k+1) c=if c=k then(nL k).toNat else uT k c:=by grind [uT,nL]
theorem aWw (w:World):
  Calls pG 49 #[.func (.func 50) #[] #[]] w fun e w'=>e=.returned (.agg (iO (fun c=>(nL c).toNat)).toArray)/\Below w.heap.size w w':=by
 go_enter func49,ntmps49;go_wp2_with fail
 go_loopg [3,4] 256 (fun H _s3 I wr=>∃k:Nat,k<=256/\H=256-k/\I=.int .i64 k/\Arr wr w.heap.size 95 (iO (uT k))/\Below w.heap.size w wr)
 case atStart=>
  refine⟨0,aO _,rfl,rfl,?_,(aH _ _).alloc (aD _) _⟩;rw[aEq,show uT 0=fun _=>0 from by funext c;simp[uT]];exact Arr.new w _ _
 case round=>
 obtain⟨k,T,h,rfl,d,A⟩:=hrel;have J:=hid h;clear h
 by_cases D:k<256
 ·have L:decide ((k:Int)<256)=true:=aG (by omega);have U:=d.cell (LT (uT k) k D);have V:=d.free k;go_wp2_with fail;refine(aWs k D _).mono ?_;rintro e Y ⟨rfl,rfl⟩;have Z:(k:Int)<256:=by omega
  go_wp2_with fail;have h:=J.out
  go_roundg (256-(k+1))
  case measure=>omega
  case rel=>
   refine⟨k+1,by omega,rfl,by go_num,?_,A.setCell (p:=⟨w.heap.size,k,none⟩) (aD _) _⟩;have:=d.set k (.int .u32 ((nL k).toNat:Int));rwa[aWt _ (uT (k+1)) _ _ (aWv k)] at this
 ·have M:k=256:=by omega
  subst M;have L:decide ((256:Int)<256)=false:=by decide
  have F:iO (uT 256)=iO (fun c=>(nL c).toNat):=by
   unfold iO;apply List.map_congr_left;intro c G;rw[List.mem_range] at G;unfold uT;rw[aB G]
  rw[F] at d;clear F;go_wp2_with fail;refine wp_load_row 95 (.tmp 2) rfl w.heap.size rfl _ _ (0,0) (.array 256 38) d aEs rfl (aEr _) ?_;have a0:=aEt d (by simp[iO]) (fun c=>(nL c).toNat);go_wp2_with fail;have O:Arr (wr.setRow w.heap.size (iO (fun c=>(nL c).toNat)).toArray) w.heap.size 95 (iO (fun c=>(nL c).toNat)):=setRow_heap wr w.heap.size _ _ 95 (0,0) d;refine bodyPost_ret (results_cell_row rfl _ _ w.heap.size _ _ (0,0) (.array 256 38) rfl O aEs rfl (aEr _)) rfl ?_;exact⟨rfl,DZ A _ (aD _) _⟩
theorem aWx (c:BitVec 32) (s:ByteArray) (w:World) (hs:s.size<=140737488355328):
  Calls pG 32 #[.int .u32 (c.toNat:Int),.string s] w fun e w'=>e=.returned (.int .u32 ((~~~ nM (~~~ c) s.data.toList).toNat:Int))/\Below w.heap.size w w':=by
 have HL:=hid (show s.data.toList.length=s.size by simp);have H:=aEp c;obtain⟨C,hC⟩:∃C,C=c.toNat:=⟨_,rfl⟩;obtain⟨D,I⟩:∃D,D=(~~~ c).toNat:=⟨_,rfl⟩;rw[<-hC] at H ⊢;rw[<-I] at H;have HD:=hid I;obtain⟨h9,a2⟩:∃h9,h9= ~~~ c:=⟨_,rfl⟩;rw[<-a2] at HD ⊢;clear hC I a2;go_enter func32,ntmps32;go_wp2_with fail;refine(aWw _).mono ?_;rintro e d ⟨rfl,J⟩;have L:Arr (d.alloc (.cells Tryz.zeroCells95 95)) d.heap.size 95 (iO (fun _=>0)):=by rw[aEq];exact Arr.new d _ _
 have a4:=aEt L (by simp[iO]) (fun c=>(nL c).toNat);have a3:Arr ((d.alloc (.cells Tryz.zeroCells95 95)).setRow d.heap.size (iO (fun c=>(nL c).toNat)).toArray) d.heap.size 95 (iO (fun c=>(nL c).toNat)):=setRow_heap (d.alloc (.cells Tryz.zeroCells95 95)) d.heap.size _ _ 95 (0,0) L;have a5:Below w.heap.size w ((d.alloc (.cells Tryz.zeroCells95 95)).setRow d.heap.size (iO (fun c=>(nL c).toNat)).toArray):=DZ (J.alloc J.size _) _ J.size _;go_wp2_with fail
 generalize (d.alloc (.cells Tryz.zeroCells95 95)).setRow d.heap.size (iO (fun c=>(nL c).toNat)).toArray=w2 at*
 have a6:=hid (fun c (hc:c<256)=>a3.cell (LT (fun c=>(nL c).toNat) c hc));clear a4 L a3;go_wp2_with fail
 go_loopg [0,6,12] s.size (fun g s0 _s6 a7 wr=>∃k X:Nat,k<=s.size/\g=s.size-k/\a7=.int .i64 (k:Int)/\s0=.int .u32 (X:Int)/\Hid (X=(nM h9 (s.data.toList.take k)).toNat)/\wr=w2)
 case atStart=>exact⟨0,D,aO _,rfl,rfl,rfl,HD,rfl⟩
 case round=>
  obtain⟨k,X,hk,M,rfl,rfl,O,rfl⟩:=hrel;have HG:=hid M;clear M H
  by_cases a8:k<s.size
  ·have t1:decide ((k:Int)<(s.size:Int))=true:=aG (by omega);have U:=s[k].toNat_lt;have V:=hid (aEo h9 s.data.toList k s[k] (fW s k a8));obtain⟨x,F⟩:∃x,x=nM h9 (s.data.toList.take k):=⟨_,rfl⟩;rw[<-F] at O V;have hX:=O.out;have G:=aTl x s[k].toNat U;have e1:=aWk x;have e2:=aWm x;have a0:(x>>>24).toNat<256:=by
    have:(x>>>24).toNat=x.toNat/16777216:=by simp[Nat.shiftRight_eq_div_pow]
    have:=x.isLt;omega
   obtain⟨y,hy⟩:∃y,y=x<<<8:=⟨_,rfl⟩;obtain⟨Y,hY⟩:∃Y,Y=y.toNat:=⟨_,rfl⟩;obtain⟨Q,hQ⟩:∃Q,Q=(x>>>24).toNat:=⟨_,rfl⟩;rw[<-hX] at e1 e2;rw[<-hy,<-hY] at e1;rw[<-hQ] at e2 a0;rw[<-hy,<-hQ] at G;have e3:(Q:Int)%256=(Q:Int):=by omega
   have e6:(X:Int)/16777216=(Q:Int):=by omega
   clear e2;have e4:=u8_xor_nat Q s[k].toNat a0 U;obtain⟨R,hR⟩:∃R,R=Q^^^s[k].toNat:=⟨_,rfl⟩;have a9:R<256:=by rw[hR];exact Nat.xor_lt_two_pow (n:=8) a0 U
   rw[<-hR] at e4 G;have c1:=a6.out R a9;have b0:(R:Int)<256:=by omega
   obtain⟨t,ht⟩:∃t,t=nL R:=⟨_,rfl⟩;have e5:=CG y t;rw[<-ht] at c1 G;obtain⟨T,hT⟩:∃T,T=t.toNat:=⟨_,rfl⟩;obtain⟨z,hz⟩:∃z,z=y^^^t:=⟨_,rfl⟩;obtain⟨Z,A⟩:∃Z,Z=z.toNat:=⟨_,rfl⟩;rw[<-hT] at c1;rw[<-hY,<-hT,<-hz,<-A] at e5;have HZ:=hid (show Z=(nM h9 (s.data.toList.take (k+1))).toNat by rw[V.out,G,A,hz]);have b1:(X:Int)*256%4294967296=(Y:Int):=by rw[<-e1,uB]
   clear F hX G hy hY hQ hR ht hT hz A V;go_wp2_with fail;have M:=HG.out
   go_roundg (s.size-(k+1))
   case measure=>omega
   case rel=>exact⟨k+1,Z,by omega,rfl,by go_num,rfl,HZ,rfl⟩
  ·have t1:decide ((k:Int)<(s.size:Int))=false:=aE (by omega);obtain⟨x,F⟩:∃x,x=nM h9 (s.data.toList.take k):=⟨_,rfl⟩;have a1:=O.out;rw[<-F] at a1;have x2:=aEp x;rw[<-a1] at x2;obtain⟨Z,A⟩:∃Z,Z=(~~~ x).toNat:=⟨_,rfl⟩;rw[<-A] at x2;have HF:=hid (show((Z:Nat):Int)=((~~~ nM h9 s.data.toList).toNat:Int) by rw[A,F,List.take_of_length_le (by rw[HL.out];omega)]);clear F a1 A;go_wp2_with fail;go_ret;exact⟨eI HF.out,a5⟩
theorem zQ (s:ByteArray) (w:World) (h:s.size<=140737488355328):
  Calls pG 13 #[.string s] w fun e w'=>e=.returned (.int .u32 ((cH s.data.toList).toNat:Int))/\Below w.heap.size w w':=by
 have d:=aWx (0#32) s w h;have A:(((0#32:BitVec 32).toNat:Nat):Int)=0:=rfl;have D:(~~~ nM (~~~ (0#32)) s.data.toList)=cH s.data.toList:=rfl;rw[A,D] at d;go_enter func13,ntmps13;go_wp2_with fail;refine d.mono ?_;rintro e G ⟨rfl,F⟩;go_wp2_with fail;go_ret;exact⟨rfl,F⟩
end
section
open Go.RowKit
theorem zY (l:List Bool) (w:World) (Z:l.length<=1000000):
  Calls pG 43 #[.agg #[.string (mkS (aI l)),.int .i64 (l.length:Int)]] w fun e w'=>∃v,e=.returned v/\RdI w' v (bI l)/\Below w.heap.size w w':=by
 go_enter func43,ntmps43;go_wp2_with fail;have h:=Arr.new w 83 [.string (mkS (aI l)),.int .i64 (l.length:Int)];have I:Below w.heap.size w (w.alloc (.cells #[.string (mkS (aI l)),.int .i64 (l.length:Int)] 83)):=bD (aH _ _) _;change Arr (w.alloc (.cells #[.string (mkS (aI l)),.int .i64 (l.length:Int)] 83)) _ _ _ at h;generalize w.alloc (.cells #[.string (mkS (aI l)),.int .i64 (l.length:Int)] 83)=w0 at*
 have a0:(aI l).length<=125001:=by rw[iJ];omega
 refine(aEd (mkS (aI l)) _ (by rw[cS];omega)).mono ?_;rintro e J ⟨v,rfl,d,F⟩;rw[dP] at d;obtain⟨a,c,rfl,a1,a2,_⟩:=d.rd.open;have L:=h.below F h.lt;have c1:=L.cell (i:=1) rfl;have a3:(bI (eR (aI l))).length=8*((l.length+7)/8):=by rw[cX,qU,iJ]
 have A:(bI (eR (aI l))).take l.length=bI l:=by rw[aV5,aSu]
 have M:RdI J (.slice a l.length c) (bI l):=by
  have a4:l.length=(bI l).length:=(cX l).symm;rw[<-A];have O:=d.rd;obtain⟨a',c',e,k1,G,T⟩:=O.open
  injection e with e1 e2 e3
  subst e1;subst e3;rcases Nat.eq_zero_or_pos l.length with q|q
  ·rw[q];exact⟨_,_,rfl,aO _,G,.inl (by simp)⟩
  ·obtain⟨b,off,rfl,U,V⟩:=T (by omega);have D:((bI (eR (aI l))).take l.length).length=l.length:=by rw[A,cX]
   refine⟨_,_,by rw[D],by rw[D];omega,G,.inr ⟨b,off,rfl,U,fun j H=>?_⟩⟩;rw[aS,D] at H;rw[V j _ (aN (by omega))];simp[List.getD,show j<(bI (eR (aI l))).length by omega,H]
 have Y:=aW I F;have z1:l.length<=c:=by omega
 have z2:(l.length:Int)<=(c:Int):=by omega
 clear A d;go_wp2_with fail;go_ret;exact⟨_,rfl,M,Y⟩
end
section
open Go.RowKit Go.Extern.Stop Go.Stop Go.Extern
theorem bEq (v:Value) (w:World):(OL #[.iface 75 v]).run pG w=.ok (.iface 155 (.agg #[.pointer (some ⟨1,75,none⟩)])) w:=by kernel_rfl
def aKr:TypeId->Sem Value:=fun t=>do Rtype.noPackHeld "Comparable" t;pure (.bool (<-typeInfo t).comparable)
theorem bEr (w:World):(WZ aKr #[.agg #[.pointer (some ⟨1,75,none⟩)]]).run pG w=.ok (.bool true) w:=by kernel_rfl
theorem bEs (v:Value) (w:World):(Go.method 431 155 v "Comparable").run pG w=.ok (230,v) w:=by kernel_rfl
theorem bEt (v:Value) (w:World):(Go.method 431 75 v "Is").run pG w=.ok (225,v) w:=by kernel_rfl
theorem bEu (v:Value) (w:World):(Go.method 431 77 v "Unwrap").run pG w=.ok (227,v) w:=by kernel_rfl
theorem bEv:(pG.info? 75).map (·.comparable)=some true:=by kernel_rfl
theorem bEw (v:Value) (d:TypeId) (w:World):(tZ (.iface 75 v) d 157 true).run pG w=.ok (.tuple #[.iface 75 v,.bool true]) w:=run_typeAssert_hasB underlying157 (by kernel_rfl) v d w
theorem bEx (v:Value) (d:TypeId) (w:World):(tZ (.iface 75 v) d 160 true).run pG w=.ok (.tuple #[.nilIface,.bool false]) w:=XA underlying160 (by kernel_rfl) (by kernel_rfl) v d w
theorem bEy (v:Value) (d:TypeId) (w:World):(tZ (.iface 75 v) d 162 true).run pG w=.ok (.tuple #[.nilIface,.bool false]) w:=XA underlying162 (by kernel_rfl) (by kernel_rfl) v d w
theorem bEz (v:Value) (d:TypeId) (w:World):(tZ (.iface 77 v) d 157 true).run pG w=.ok (.tuple #[.nilIface,.bool false]) w:=XA underlying157 (by kernel_rfl) (by kernel_rfl) v d w
theorem bE0 (v:Value) (d:TypeId) (w:World):(tZ (.iface 77 v) d 160 true).run pG w=.ok (.tuple #[.iface 77 v,.bool true]) w:=run_typeAssert_hasB underlying160 (by kernel_rfl) v d w
theorem bE1 (c:Int) (w:World):(tZ (.iface 75 (.int .i64 c)) 68 75 true).run pG w=.ok (.tuple #[.int .i64 c,.bool true]) w:=by kernel_rfl
theorem bE2 (p:ByteArray) (x:Int) (w:World):
  Calls pG 227 #[.agg #[.string p,.iface 75 (.int .i64 x)]] w fun e w'=>e=.returned (.iface 75 (.int .i64 x))/\Below w.heap.size w w':=by
 have d:Below w.heap.size w (w.alloc (.cells #[.string p,.iface 75 (.int .i64 x)] 77)):=bD (aH _ _) _;go_enter func227,ntmps227;go_wp2;go_ret;exact⟨rfl,d⟩
theorem bE3 (x c:Int) (w:World):
  Calls pG 225 #[.int .i64 x,.iface 75 (.int .i64 c)] w fun e w'=>e=.returned (.bool (x==c))/\w'=w:=by
 have d:=bE1;go_enter func225,ntmps225;go_wp2;go_ret;exact⟨rfl,rfl⟩
theorem bE4 (p:ByteArray) (x c:Int) (w:World):
  Calls pG 71 #[.iface 77 (.agg #[.string p,.iface 75 (.int .i64 x)]),.iface 75 (.int .i64 c),.bool true] w fun e w'=>e=.returned (.bool (x==c))/\Below w.heap.size w w':=by
 have G:=bEw;have H:=bEx;have I:=bEy;have J:=bEz;have L:=bE0;have M:=bEt;have O:=bEu;have T:∀w,(binOp .eql 68 (.iface 77 (.agg #[.string p,.iface 75 (.int .i64 x)])) (.iface 75 (.int .i64 c))).run pG w=.ok (.bool false) w:=run_eql_iface_types (P:=pG) _ _ _ _ underlying68 (by decide);have D:∀w,(binOp .eql 68 (.iface 75 (.int .i64 x)) (.iface 75 (.int .i64 c))).run pG w=.ok (.bool (x==c)) w:=fun w=>Lib.run_eql_iface_int (P:=pG) w x c underlying68 bEv underlying75
 have U:∀w,(binOp .eql 68 (.iface 75 (.int .i64 x)) .nilIface).run pG w=.ok (.bool false) w:=fun w=>by kernel_rfl
 obtain⟨r,d⟩:∃r:Bool,r=(x==c):=⟨_,rfl⟩;have h:=fun W=>bE3 x c W
 have F:=fun W=>bE2 p x W
 rw[<-d] at D ⊢;rw[<-d] at h;clear d;go_enter func71,ntmps71;go_wp2_with fail;refine ON 2 ?_;rw[uA];go_wp2_with fail;refine(F _).mono ?_;rintro e V ⟨rfl,A⟩;go_wp2_with fail;rw[uA]
 cases r with
 |true=>
  go_wp2_with fail;go_ret;exact⟨rfl,A⟩
 |false=>
  go_wp2_with fail;refine(h _).mono ?_;rintro e Y ⟨rfl,rfl⟩;go_wp2_with fail;go_ret;exact⟨rfl,A⟩
theorem bE5 (p:ByteArray) (x c:Int) (w:World):
  Calls pG 52 #[.iface 77 (.agg #[.string p,.iface 75 (.int .i64 x)]),.iface 75 (.int .i64 c)] w fun e w'=>e=.returned (.bool (x==c))/\Below w.heap.size w w':=by
 have A:=@rZ pG 70 _ OL func70 (by kernel_rfl) (by kernel_rfl) (by kernel_rfl) (by kernel_rfl);have D:=@rZ pG 230 _ (WZ aKr) func230 (by kernel_rfl) (by kernel_rfl) (by kernel_rfl) (by kernel_rfl);have F:=bEq;have G:=bEr;have H:=bEs;have I:∀w,(binOp .eql 68 (.iface 77 (.agg #[.string p,.iface 75 (.int .i64 x)])) .nilIface).run pG w=.ok (.bool false) w:=fun w=>by kernel_rfl
 have J:∀w,(binOp .eql 68 (.iface 75 (.int .i64 c)) .nilIface).run pG w=.ok (.bool false) w:=fun w=>by kernel_rfl
 have d:=fun W=>bE4 p x c W
 go_enter func52,ntmps52;go_wp2_with fail;refine(d _).mono ?_;rintro e L ⟨rfl,h⟩;go_wp2_with fail;go_ret;exact⟨rfl,h⟩
theorem WB (c:Int) (w:World):
  Calls pG 52 #[.nilIface,.iface 75 (.int .i64 c)] w fun e w'=>e=.returned (.bool false)/\w'=w:=by
 have d:=run_eql_iface_nil_left (P:=pG) w 75 (.int .i64 c) underlying68;go_enter func52,ntmps52;go_wp2;go_ret;exact⟨rfl,rfl⟩
theorem GN (p:ByteArray) (x:Int) (w:World) (h:x=2\/x=3\/x=7):
  Calls pG 34 #[.iface 77 (.agg #[.string p,.iface 75 (.int .i64 x)])] w fun e w'=>e=.returned (.int .i64 x)/\Below w.heap.size w w':=by
 have d:=fun c W=>bE5 p x c W
 have L:∀w,(rE 102 (.agg #[.int .i64 2,.int .i64 3,.int .i64 7]) (.int .i64 0)).run pG w=.ok (.int .i64 2) w:=fun w=>by kernel_rfl
 have M:∀w,(rE 102 (.agg #[.int .i64 2,.int .i64 3,.int .i64 7]) (.int .i64 1)).run pG w=.ok (.int .i64 3) w:=fun w=>by kernel_rfl
 have O:∀w,(rE 102 (.agg #[.int .i64 2,.int .i64 3,.int .i64 7]) (.int .i64 2)).run pG w=.ok (.int .i64 7) w:=fun w=>by kernel_rfl
 have F:=d 2;have G:=d 3;have H:=d 7;clear d;go_enter func34,ntmps34;go_wp2_with fail;refine ON 4 ?_;rw[uA];go_wp2_with fail;refine(F _).mono ?_;rintro e T ⟨rfl,A⟩;rcases h with rfl|h
 ·go_wp2_with fail;go_ret;exact⟨rfl,A⟩
 have I:(x==2)=false:=beq_eq_false_iff_ne.2 (by omega);rw[I];go_wp2_with fail;rw[uA];go_wp2_with fail;refine(G _).mono ?_;rintro e U ⟨rfl,D⟩;rcases h with rfl|rfl
 ·go_wp2_with fail;go_ret;exact⟨rfl,aW A D⟩
 go_wp2_with fail;rw[uA];go_wp2_with fail;refine(H _).mono ?_;rintro e V ⟨rfl,J⟩;go_wp2_with fail;go_ret;exact⟨rfl,aW (aW A D) J⟩
theorem bE6 (w:World):
  Calls pG 34 #[.nilIface] w fun e w'=>e=.returned (.int .i64 0)/\w'=w:=by
 have F:∀w,(rE 102 (.agg #[.int .i64 2,.int .i64 3,.int .i64 7]) (.int .i64 0)).run pG w=.ok (.int .i64 2) w:=fun w=>by kernel_rfl
 have G:∀w,(rE 102 (.agg #[.int .i64 2,.int .i64 3,.int .i64 7]) (.int .i64 1)).run pG w=.ok (.int .i64 3) w:=fun w=>by kernel_rfl
 have H:∀w,(rE 102 (.agg #[.int .i64 2,.int .i64 3,.int .i64 7]) (.int .i64 2)).run pG w=.ok (.int .i64 7) w:=fun w=>by kernel_rfl
 have h:=fun W=>WB 2 W
 have A:=fun W=>WB 3 W
 have D:=fun W=>WB 7 W
 go_enter func34,ntmps34;go_wp2_with fail;refine ON 4 ?_;rw[uA];go_wp2_with fail;refine(h _).mono ?_;rintro e d ⟨rfl,rfl⟩;go_wp2_with fail;rw[uA];go_wp2_with fail;refine(A _).mono ?_;rintro e d ⟨rfl,rfl⟩;go_wp2_with fail;rw[uA];go_wp2_with fail;refine(D _).mono ?_;rintro e d ⟨rfl,rfl⟩;go_wp2_with fail;rw[uA];go_wp2_with fail;go_ret;exact⟨rfl,rfl⟩
end
end Go.Proofs.YtfplbbphficcjaaGreatDoor
