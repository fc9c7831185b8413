/- The walks and the plain laws, part 6. -/
import Derived.Maps.AppendAt
import Derived.Test.YtiifmcicleljjaaGreatDoorT3
import Derived.Test.YtiifmcicleljjaaGreatDoorT5
set_option maxRecDepth 100000
set_option maxHeartbeats 12800000
set_option linter.unusedVariables false
open Array renaming getElem?_eq_some_iff->gQ
open Go renaming Operand->iM,Program->gD,bodyPost_ret->gJ,cell_of_row->tN,info_parts->AC,wpList_plain->AD
open Go.Addr renaming add->iN
open Go.IntKind renaming i64->aI,u64->fU,wrap_i64->aM,wrap_u64->gF
open Go.Oper renaming wp->lX
open Go.Region renaming wanted->nR
open Go.Result renaming andThen_ok->GG
open Go.RowKit.Below renaming refl->aB
open Go.Sem renaming run_bind->vL,run_pure->GF
open Go.Value renaming int->bO
open Go.World renaming ownsRow_nil->aBx
open Go.World.ownsRow renaming alloc->aBy,kept->NH
open Int renaming natCast_zero->OF,toNat_natCast->eG
open List renaming append_assoc->cF,append_nil->eE,flatMap_append->pZ,getD_eq_getElem?_getD->aV,getElem?_eq_getElem->aN,getElem?_eq_none->dL,getElem?_eq_some_iff->eU,getElem?_map->dY,getElem?_range->pF,getElem?_take->lW,getElem_mem->gT,length_append->aL,length_cons->cR,length_eq_zero_iff->mV,length_map->bJ,length_nil->cX,length_set->mW,length_take->aX,map_append->fI,map_cons->pG,map_nil->xS,map_toArray->GH,mem_append->cU,mem_cons->kD,mem_map->dU,mem_of_getElem?->cH,mem_of_mem_take->nO,mem_range->jF,mem_singleton->dC,range->dG,range_succ->sF,replicate->bB,take_add_one->cQ,take_length->kE,take_of_length_le->cS
open Nat renaming add_sub_cancel->jZ,add_zero->pH,le_refl->aA,le_trans->aW,lt_of_lt_of_le->dR,min_eq_left->gU,mod_two_eq_zero_or_one->FU,mul_assoc->vH,mul_comm->oG,mul_le_mul_left->aCp,pow_le_pow_right->jC,pow_pos->xL,pow_succ->nQ,zero_add->iZ,zero_le->aU
open Option renaming map_some->xW
open Option.some renaming inj->bW
namespace Go.Proofs.YtiifmcicleljjaaGreatDoor
section
open Go.RowKit Go Go.Shelf
theorem kG {A:Array Oper} {rest:List Oper} {o:Oper} {a:Act} {Q:Exit->Act->World->Prop} {w:World} (F:o.guard=none) (s x:iM)
  (G:o.op=.call {callee:=.builtin .append,args:=#[s,x],argTypes:=#[27,27]}) (base:Nat) (v:Value) (l m:List Int) (hs:a.eval s=v) (hown:OwI w base v l)
  (u:Value) (hx:a.eval x=u) (hr:RdI w u m) (hm:0<m.length) (hroom:(l.length+m.length)*8<=140737488355328) (hbase:base<=w.heap.size)
  (h:∀d w',OwI w' base d (l++m)->Below base w w'->w.grownBy w' v.ownBlock->(d.ownBlock=v.ownBlock\/d.ownBlock=some w.heap.size)->wpList Tryz.prog A Q rest (a.put o.dst d) w'):wpList Tryz.prog A Q (o::rest) a w:=by
 obtain⟨i,hi,H,I,J⟩:=gL.info;obtain⟨Y,c,rfl,Z,a0,L⟩:=hr.open;obtain⟨b,off,rfl,hb,M⟩:=L hm;refine wpList_append_own_at w F s x 27 G base 3 i (.int .i64 0) 1 8 Tryz.underlying27 hi H I J rfl (by decide) v (l.map (bO .i64)).length (l.map (bO .i64)) hs hown ⟨b,off,none⟩ m.length c (m.map (bO .i64)) hx (by simp)
  (fun j O z=>?_) (fun O T=>?_) (by simp only[maxLen,bJ];omega) (by simpa using hroom) hbase (fun d w' U E _ V=>h d w' ?_ (rC hown E hbase) E V)
 ·rw[dY] at z
  cases e:m[j]? with
  |none=>rw[e] at z;simp at z
  |some y=>
   rw[e] at z;simp at z;rw[show(⟨b,off,none⟩:Addr).add j=⟨b,off+j,none⟩ by unfold iN;split<;>simp_all,M j y e,<-z]
 ·obtain⟨y,_,rfl⟩:=dU.1 T;rfl
 ·unfold OwI Ow;rw[fI,aL]
  simpa using U
def kH (l:List Bool):List Value:=[.string (mkS (aD l)),.int .i64 (l.length:Int)]
def gG (w:World) (B:Nat) (v:Value) (d:List (List Bool)):Prop:=w.ownsRow B 29 2 v d.length (d.flatMap kH)
theorem gG.nil (w:World) (B:Nat):gG w B (.slice none 0 0) []:=aBx _ _ _ _
theorem gG.alloc {w:World} {B:Nat} {v:Value} {l:List (List Bool)} (h:gG w B v l) (o:Obj):gG (w.alloc o) B v l:=aBy h o
theorem gG.below {w w':World} {B C:Nat} {v:Value} {l:List (List Bool)} (h:gG w B v l) (d:Below C w w') (z:w.heap.size<=C):gG w' B v l:=GZ h d z
theorem gG.base {w:World} {B B':Nat} {v:Value} {l:List (List Bool)} (h:gG w B v l) (d:B'<=B):gG w B' v l:=IA h d
theorem PX:∀(d:List (List Bool)) (j:Nat) (l:List Bool),d[j]? =some l->(d.flatMap kH)[j*2]? =some (.string (mkS (aD l)))/\(d.flatMap kH)[j*2+1]? =some (.int .i64 (l.length:Int))
 |[],j,l,h=>by simp at h
 |x::d,0,l,h=>by
  simp at h;subst h;exact⟨rfl,rfl⟩
 |x::d,j+1,l,h=>by
  have z:=PX d j l (by simpa using h);rw[List.flatMap_cons,show(j+1)*2=j*2+2 by omega];exact⟨by rw[<-z.1];rfl,by rw[<-z.2];rfl⟩
theorem gG.rd {w:World} {B:Nat} {v:Value} {d:List (List Bool)} (h:gG w B v d):qI w v d:=by
 obtain⟨M,h⟩:=h;rcases h with⟨rfl,H⟩|⟨g,cap,A,rfl,O,z,I,J,T,L⟩
 ·have:d=[]:=mV.1 H;subst this;exact⟨none,0,rfl,aA _,by simp[maxLen],fun h=>absurd h (by simp)⟩
 ·refine⟨_,cap,rfl,I,J,fun _=>⟨g,0,rfl,(gQ.1 z).1,fun j l E=>?_⟩⟩;obtain⟨F,G⟩:=PX d j l E;have U:=(eU.1 E).1;rw[iZ,tN w g (j*2) A _ (0,0) z,tN w g (j*2+1) A _ (0,0) z];rw[<-L,lW,if_pos (by omega)] at F G;exact⟨by simpa using F,by simpa using G⟩
theorem JB:(Tryz.prog.info? 29).map (fun i=>(i.zero,i.size,i.bytes))=some (some (.agg #[.string ⟨#[]⟩,.int .i64 0]),2,24):=by kernel_rfl
theorem PY {A:Array Oper} {rest:List Oper} {o:Oper} {a:Act} {Q:Exit->Act->World->Prop} {w:World} (F:o.guard=none) (s x:iM)
  (G:o.op=.call {callee:=.builtin .append,args:=#[s,x],argTypes:=#[67,67]}) (base:Nat) (v:Value) (ls:List (List Bool)) (l:List Bool) (hs:a.eval s=v) (hown:gG w base v ls)
  (g:Nat) (hx:a.eval x=.slice (some ⟨g,0,none⟩) 1 1) (hc:Arr w g 29 (kH l)) (hroom:(ls.length+1)*24<=140737488355328) (hbase:base<=w.heap.size)
  (h:∀d w',gG w' base d (ls++[l])->Below base w w'->w.grownBy w' v.ownBlock->wpList Tryz.prog A Q rest (a.put o.dst d) w'):wpList Tryz.prog A Q (o::rest) a w:=by
 obtain⟨i,hi,H,I,J⟩:=AC JB;refine wpList_append_own_at w F s x 67 G base 29 i _ 2 24 Tryz.underlying67 hi H I J rfl (by decide) v ls.length (ls.flatMap kH) hs hown ⟨g,0,none⟩ 1 1 (kH l) hx rfl
  (fun j L M=>?_) (fun L z=>?_) (by simp only[maxLen];omega) hroom hbase (fun d w' O E _ _=>h d w' ?_ (rC hown E hbase) E)
 ·rw[show(⟨g,0,none⟩:Addr).add j=⟨g,j,none⟩ by unfold iN;split<;>simp_all];exact hc.cell M
 ·unfold kH at z;rcases kD.1 z with rfl|z
  ·rfl
  ·obtain rfl:=dC.1 z;rfl
 ·unfold gG;rw[aL,pZ,List.flatMap_singleton];exact O
abbrev VV:=Value×Value
def prC (l:List VV):List Value:=l.flatMap (fun q=>[q.1,q.2])
theorem RK (l m:List VV):prC (l++m)=prC l++prC m:=pZ
theorem JK (l:List VV):(prC l).length=l.length*2:=by
 induction l with
 |nil=>rfl
 |cons x l d=>show([x.1,x.2]++prC l).length=_;rw[aL,d];simp;omega
theorem CQ:∀(l:List VV) (j:Nat) (q:VV),l[j]? =some q->(prC l)[j*2]? =some q.1/\(prC l)[j*2+1]? =some q.2
 |[],j,q,h=>by simp at h
 |x::l,0,q,h=>by
  simp at h;subst h;exact⟨rfl,rfl⟩
 |x::l,j+1,q,h=>by
  have d:=CQ l j q (by simpa using h);have e:prC (x::l)=x.1::x.2::prC l:=rfl;rw[e,show(j+1)*2=j*2+2 by omega];exact⟨by rw[<-d.1];rfl,by rw[<-d.2];rfl⟩
theorem aGc (l:List VV) (j:Nat) (u:Value) (h:(prC l)[j]? =some u):∃q,l[j/2]? =some q/\u=if j%2=0 then q.1 else q.2:=by
 have F:=(eU.1 h).1;rw[JK] at F;have d:l[j/2]? =some l[j/2]:=aN (by omega);obtain⟨A,E⟩:=CQ l _ _ d;refine⟨_,d,?_⟩;rcases FU j with k|k
 ·rw[show j/2*2=j by omega,h] at A;rw[if_pos k];exact bW A
 ·rw[show j/2*2+1=j by omega,h] at E;rw[if_neg (by omega)];exact bW E
def nG (l:List VV):Prop:=∀q∈l,q.1.oneCell'=true/\q.2.oneCell'=true
theorem nG.cells {l:List VV} (h:nG l):∀u∈prC l,u.oneCell'=true:=fun u d=>by
 obtain⟨q,A,d⟩:=List.mem_flatMap.1 d;rcases kD.1 d with rfl|d
 ·exact(h q A).1
 ·obtain rfl:=dC.1 d;exact(h q A).2
theorem nG.app {l m:List VV} (h:nG l) (k:nG m):nG (l++m):=fun q d=>(cU.1 d).elim (h q) (k q)
theorem nG.sub {l m:List VV} (h:nG l) (k:∀q∈m,q∈l):nG m:=fun q d=>h q (k q d)
structure El2 (P:gD) (t e bytes:Nat) (z:Value):Prop where
 under:P.underlying t=some (.slice e)
 info:∃i,P.info? e=some i/\i.zero=some z/\i.size=2/\i.bytes=bytes
 cells:z.cells.size=2
 pos:1<=bytes
theorem El2.mk' {P:gD} {t e bytes:Nat} {z:Value} (h:(P.info? e).map (fun i=>(i.zero,i.size,i.bytes))=some (some z,2,bytes)) (d:P.underlying t=some (.slice e)) (A:z.cells.size=2) (E:1<=bytes):El2 P t e bytes z:=by
 obtain⟨F,hi,G,H,I⟩:=AC h;exact⟨d,⟨F,hi,G,H,I⟩,A,E⟩
def OwP (w:World) (B e:Nat) (v:Value) (l:List VV):Prop:=w.ownsRow B e 2 v l.length (prC l)
theorem OwP.nil (w:World) (B e:Nat):OwP w B e (.slice none 0 0) []:=aBx _ _ _ _
theorem OwP.alloc {w:World} {B e:Nat} {v:Value} {l:List VV} (h:OwP w B e v l) (o:Obj):OwP (w.alloc o) B e v l:=aBy h o
theorem OwP.below {w w':World} {B C e:Nat} {v:Value} {l:List VV} (h:OwP w B e v l) (d:Below C w w') (A:w.heap.size<=C):OwP w' B e v l:=GZ h d A
theorem OwP.base {w:World} {B B' e:Nat} {v:Value} {l:List VV} (h:OwP w B e v l) (d:B'<=B):OwP w B' e v l:=IA h d
theorem OwP.kept {w w':World} {B e:Nat} {v:Value} {l:List VV} {row:Option Nat} (h:OwP w B e v l) (d:w.grownBy w' row) (A:v.ownBlock=none\/v.ownBlock≠row):OwP w' B e v l:=NH h d A
theorem OwP.lt {w:World} {B e:Nat} {v:Value} {l:List VV} (h:OwP w B e v l):∀k,v.ownBlock=some k->B<=k/\k<w.heap.size:=World.ownsRow.lt h
def kK (w:World) (v:Value) (l:List VV):Prop:=
 (v=.slice none 0 0/\l=[])\/∃b off cap,v=.slice (some ⟨b,off,none⟩) l.length cap/\l.length<=cap/\cap<=maxLen/\b<w.heap.size/\∀j q,l[j]? =some q->w.cell? ⟨b,off+j*2,none⟩=some q.1/\w.cell? ⟨b,off+j*2+1,none⟩=some q.2
theorem kK.below {w w':World} {v:Value} {l:List VV} (h:kK w v l) (d:Below w.heap.size w w'):kK w' v l:=by
 rcases h with h|⟨b,off,cap,rfl,E,F,A,G⟩
 ·exact .inl h
 ·exact .inr ⟨b,off,cap,rfl,E,F,dR A d.size,fun j q H=>by rw[d.cell (p:=⟨b,off+j*2,none⟩) A,d.cell (p:=⟨b,off+j*2+1,none⟩) A];exact G j q H⟩
theorem OwP.src {w:World} {B e:Nat} {v:Value} {l:List VV} (h:OwP w B e v l):kK w v l:=by
 obtain⟨M,h⟩:=h;rcases h with⟨rfl,H⟩|⟨g,cap,A,rfl,O,d,I,J,T,L⟩
 ·exact .inl ⟨rfl,mV.1 H⟩
 ·refine .inr ⟨g,0,cap,rfl,I,J,(gQ.1 d).1,fun j q E=>?_⟩;obtain⟨F,G⟩:=CQ l j q E;have U:=(eU.1 E).1;rw[iZ,tN w g (j*2) A _ (0,0) d,tN w g (j*2+1) A _ (0,0) d];rw[<-L,lW,if_pos (by omega)] at F G;exact⟨by simpa using F,by simpa using G⟩
theorem kK.new (w:World) (e:TypeId) (q:VV):kK (w.alloc (.cells #[q.1,q.2] e)) (.slice (some ⟨w.heap.size,0,none⟩) 1 1) [q]:=by
 have h:=Arr.new w e [q.1,q.2];refine .inr ⟨w.heap.size,0,1,rfl,by simp,by simp[maxLen],by simp,fun j p d=>?_⟩
 cases j with
 |zero=>simp at d;subst d;exact⟨h.cell (i:=0) rfl,h.cell (i:=1) rfl⟩
 |succ j=>simp at d
theorem kK.open {w:World} {v:Value} {l:List VV} (h:kK w v l):∃a cap,v=.slice a l.length cap/\l.length<=cap/\cap<=maxLen/\
  (0<l.length->∃b off,a=some ⟨b,off,none⟩/\b<w.heap.size/\∀j q,l[j]? =some q->w.cell? ⟨b,off+j*2,none⟩=some q.1/\w.cell? ⟨b,off+j*2+1,none⟩=some q.2):=by
 rcases h with⟨rfl,rfl⟩|⟨b,off,cap,rfl,d,A,E,F⟩
 ·exact⟨none,0,rfl,aA _,by simp[maxLen],fun h=>absurd h (by simp)⟩
 ·exact⟨_,cap,rfl,d,A,fun _=>⟨b,off,rfl,E,F⟩⟩
section
variable {P:gD} {t e bytes:Nat} {z:Value}
theorem JL (E:El2 P t e bytes z) {w:World} (G:TypeId) (d:Nat) (v:Value) (l:List VV) (A:OwP w d e v l) (H:Value) (m:List VV) (M:kK w H m) (O:nG m) (I:(l.length+m.length)*bytes<=140737488355328) (J:d<=w.heap.size):
  ∃F w',(Builtin.append_ #[t,t] G #[v,H]).run P w=.ok F w'/\OwP w' d e F (l++m)/\Below d w w'/\w.grownBy w' v.ownBlock:=by
 obtain⟨i,hi,T,U,V⟩:=E.info;rcases M with⟨rfl,rfl⟩|⟨b,off,cap,rfl,_,_,_,Y⟩
 ·refine⟨v,w,run_append_owned_none (P:=P) (w:=w) d t G e i 2 E.under hi v l.length _ A,by rw[eE];exact A,aB _ _,⟨rfl,rfl,rfl,aA _,fun _ _ _=>rfl⟩⟩
 ·have Z:=E.pos;have hn:l.length+m.length<=140737488355328:=aW (Nat.le_mul_of_pos_right _ Z) I;obtain⟨F,w',q1,q2,L,_⟩:=run_append_own (P:=P) w d t G e i z 2 bytes E.under hi T U V E.cells (by decide) v l.length _ A ⟨b,off,none⟩ m.length cap (prC m) (JK m) (fun j u hu=>by
    obtain⟨q,hq,rfl⟩:=aGc m j u hu;obtain⟨c1,c2⟩:=Y _ _ hq;have e:(⟨b,off,none⟩:Addr).add j=⟨b,off+j,none⟩:=by unfold iN;split<;>simp_all
    rw[e];rcases FU j with k|k
    ·rw[if_pos k,<-c1,show j/2*2=j by omega]
    ·rw[if_neg (by omega),<-c2,Nat.add_assoc,show j/2*2+1=j by omega]) O.cells (by simp only[maxLen];omega) I J
  refine⟨F,w',q1,?_,rC A L J,L⟩;unfold OwP;rw[RK,aL];exact q2
theorem RL (E:El2 P t e bytes z) {A:Array Oper} {rest:List Oper} {o:Oper} {a:Act} {Q:Exit->Act->World->Prop} {w:World} (F:o.guard=none) (s x:iM)
  (G:o.op=.call {callee:=.builtin .append,args:=#[s,x],argTypes:=#[t,t]}) (base:Nat) (v:Value) (l:List VV) (hs:a.eval s=v) (hown:OwP w base e v l)
  (sv:Value) (m:List VV) (hx:a.eval x=sv) (hsrc:kK w sv m) (h1:nG m) (hroom:(l.length+m.length)*bytes<=140737488355328) (hbase:base<=w.heap.size)
  (h:∀d w',OwP w' base e d (l++m)->Below base w w'->w.grownBy w' v.ownBlock->wpList P A Q rest (a.put o.dst d) w'):wpList P A Q (o::rest) a w:=by
 refine AD F fun K H=>?_
 obtain⟨d,w',I,J,L,M⟩:=JL E o.type base v l hown sv m hsrc h1 hroom hbase;unfold lX execOp;simp only[G,resolve,invoke,builtin,vL,GF,GG,GH,pG,xS,hs,hx,I];exact H _ _ (h d w' J L M)
theorem CR (E:El2 P t e bytes z) {A:Array Oper} {o:Oper} {a:Act} {K:Act->World->Prop} {Q:Exit->Act->World->Prop} {F:Prop} {w:World} (G:o.guard=none) (s x:iM)
  (H:o.op=.call {callee:=.builtin .append,args:=#[s,x],argTypes:=#[t,t]}) (base:Nat) (v:Value) (l:List VV) (hs:a.eval s=v) (hown:OwP w base e v l)
  (sv:Value) (m:List VV) (hx:a.eval x=sv) (hsrc:kK w sv m) (h1:nG m) (hroom:(l.length+m.length)*bytes<=140737488355328) (hbase:base<=w.heap.size)
  (h:∀d w',OwP w' base e d (l++m)->Below base w w'->w.grownBy w' v.ownBlock->K (a.put o.dst d) w'):if nR o (yielded A a.tmps)=true then lX P o a w K Q else F:=by
 have I:nR o (yielded A a.tmps)=true:=by simp[nR,G]
 rw[if_pos I];obtain⟨d,w',J,L,M,O⟩:=JL E o.type base v l hown sv m hsrc h1 hroom hbase;unfold lX execOp;simp only[H,resolve,invoke,builtin,vL,GF,GG,GH,pG,xS,hs,hx,J];exact h d w' L M O
end
theorem JW {z:Array Oper} {o:Oper} {a:Act} {K:Act->World->Prop} {Q:Exit->Act->World->Prop} {E:Prop} {w:World} (A:o.guard=none) (s x:iM)
  (F:o.op=.call {callee:=.builtin .append,args:=#[s,x],argTypes:=#[27,27]}) (base:Nat) (v:Value) (l:List Int) (hs:a.eval s=v) (hown:OwI w base v l)
  (sv:Value) (m:List Int) (hx:a.eval x=sv) (hsrc:pQ w sv m) (hroom:(l.length+m.length)*8<=140737488355328) (hbase:base<=w.heap.size)
  (h:∀d w',OwI w' base d (l++m)->Below base w w'->w.grownBy w' v.ownBlock->K (a.put o.dst d) w'):if nR o (yielded z a.tmps)=true then lX Tryz.prog o a w K Q else E:=by
 have G:nR o (yielded z a.tmps)=true:=by simp[nR,A]
 rw[if_pos G];obtain⟨d,w',H,I,J,L⟩:=RH o.type base v l hown sv m hsrc hroom hbase;unfold lX execOp;simp only[F,resolve,invoke,builtin,vL,GF,GG,GH,pG,xS,hs,hx,H];exact h d w' I J L
theorem kZ {d z:World} {E F G:Addr} {v1 v2 v3:Value} {B:Nat} {w0:World}
  (h:d.cell? E=some v1/\d.cell? F=some v2/\d.cell? G=some v3/\Below B w0 d/\B<=d.heap.size) (A:Below d.heap.size d z):
  z.cell? E=some v1/\z.cell? F=some v2/\z.cell? G=some v3/\Below B w0 z/\B<=z.heap.size:=by
 obtain⟨J,L,M,O,H⟩:=h;have k:∀{p:Addr} {v:Value},d.cell? p=some v->z.cell? p=some v:=fun{p} {v} I=>(A.cell (World.block_lt_of_cell? d p I)).trans I
 exact⟨k J,k L,k M,O.trans (A.mono H),aW H A.size⟩
theorem CX {d z:World} {E H F I G J:Nat} {v1 v2 v3:Value} {B:Nat} {w0:World}
  (h:d.cell? ⟨E,H,none⟩=some v1/\d.cell? ⟨F,I,none⟩=some v2/\d.cell? ⟨G,J,none⟩=some v3/\Below B w0 d/\B<=d.heap.size) (A:Below B d z) (L:E<B) (M:F<B) (O:G<B):
  z.cell? ⟨E,H,none⟩=some v1/\z.cell? ⟨F,I,none⟩=some v2/\z.cell? ⟨G,J,none⟩=some v3/\Below B w0 z/\B<=z.heap.size:=by
 obtain⟨T,U,V,Y,Z⟩:=h;exact⟨(A.cell (p:=⟨E,H,none⟩) L).trans T,(A.cell (p:=⟨F,I,none⟩) M).trans U,(A.cell (p:=⟨G,J,none⟩) O).trans V,Y.trans A,aW Z A.size⟩
theorem aHs {l:List Int} {k:Nat} {x:Int} (h:l[k]? =some x):jR (l.take (k+1))=jR (l.take k)+2^(20-x.toNat):=by
 unfold jR;rw[cQ,h];simp
theorem SV (l:List Int):jR l<=1048576*l.length:=by
 unfold jR
 induction l with
 |nil=>simp
 |cons x l d=>
  rw[pG,List.sum_cons,cR];have:2^(20-x.toNat)<=2^20:=jC (by decide) (by omega);have e:(2:Nat)^20=1048576:=by decide
  omega
theorem ST {l:List Int} (h:¬(2<=l.length/\l.length<=258)):bL l=1:=by
 unfold bL;rw[if_pos (fun q=>h ⟨q.1,q.2.1⟩)]
theorem DG {l:List Int} {k:Nat} {x:Int} (h:l[k]? =some x) (d:¬(1<=x/\x<=20)):bL l=1:=by
 unfold bL;rw[if_pos (fun q=>d (q.2.2 x (cH h)))]
theorem SU {l:List Int} (h:fY l):bL l=if 1048576<jR l then 6 else 0:=by
 unfold bL;rw[if_neg (fun k=>k h)]
theorem DH (v:Value) (l:List Int) (w:World) (hr:RdI w v l):
  Calls Tryz.prog 161 #[v] w fun e w'=>e=.returned (.int .i64 (bL l))/\w'=w:=by
 obtain⟨a,ca,rfl,a9,a5,I⟩:=hr.open;unfold maxLen at a5;clear hr
 by_cases T:2<=l.length/\l.length<=258
 rotate_left
 ·have z:=hid (ST T)
  by_cases h3:l.length<2
  ·have t1:decide ((l.length:Int)<2)=true:=decide_eq_true (by omega);go_enter Tryz.func161,Tryz.ntmps161;go_wp2_with fail;go_ret;exact⟨by rw[z.out];rfl,rfl⟩
  ·have t1:decide ((l.length:Int)<2)=false:=decide_eq_false (by omega);have t2:decide ((l.length:Int)>258)=true:=decide_eq_true (by omega);have t3:decide ((258:Int)<(l.length:Int))=true:=decide_eq_true (by omega);go_enter Tryz.func161,Tryz.ntmps161;go_wp2_with fail;go_ret;exact⟨by rw[z.out];rfl,rfl⟩
 ·have t1:decide ((l.length:Int)<2)=false:=decide_eq_false (by omega);have t2:decide ((l.length:Int)>258)=false:=decide_eq_false (by omega);have t3:decide ((258:Int)<(l.length:Int))=false:=decide_eq_false (by omega);go_enter Tryz.func161,Tryz.ntmps161;go_wp2_with fail;clear t1 t2 t3
  go_loopg [3] l.length (fun g s3 wr=>∃k:Nat,k<=l.length/\g=l.length-k/\s3=.int .i64 (k:Int)/\Hid (∀x∈l.take k,1<=x/\x<=20)/\wr=w)
  case atStart=>exact⟨0,aU _,rfl,rfl,hid (fun x d=>by simp at d),rfl⟩
  case round=>
   obtain⟨k,hk,A,rfl,U,rfl⟩:=hrel;have V:=hid A;clear A
   by_cases Y:k<l.length
   ·have t1:decide ((k:Int)<(l.length:Int))=true:=decide_eq_true (by omega);obtain⟨b1,o1,rfl,a6,G⟩:=I (by omega);obtain⟨x,d⟩:=dH Y;have c1:=G k x d;clear G I
    by_cases a1:x<1
    ·have Z:decide (x<1)=true:=decide_eq_true a1;have z:=hid (DG d (by omega));clear d;go_wp2_with fail;go_ret;exact⟨by rw[z.out];rfl,rfl⟩
    ·have Z:decide (x<1)=false:=decide_eq_false a1
     by_cases J:20<x
     ·have u2:decide (20<x)=true:=decide_eq_true J;have u3:decide (x>20)=true:=decide_eq_true J;have z:=hid (DG d (by omega));clear d;go_wp2_with fail;go_ret;exact⟨by rw[z.out];rfl,rfl⟩
     ·have u2:decide (20<x)=false:=decide_eq_false J;have u3:decide (x>20)=false:=decide_eq_false J;have HS:=hid (show ∀y∈l.take (k+1),1<=y/\y<=20 from fun y F=>by
       rw[cQ,d] at F;rcases cU.1 F with F|F
       ·exact U.out y F
       ·simp at F;omega)
      clear d;go_wp2_with fail;have A:=V.out
      go_roundg (l.length-(k+1))
      case measure=>omega
      case rel=>exact⟨k+1,by omega,rfl,by go_num,HS,rfl⟩
   ·have t1:decide ((k:Int)<(l.length:Int))=false:=decide_eq_false (by omega);have L:=U.out;rw[cS (by omega)] at L;have a7:=hid L;have z:=hid (SU ⟨T.1,T.2,L⟩);have b0:=SV l;clear L U;go_wp2_with fail
    go_loopg [4,5] l.length (fun g s4 s5 wx=>∃k K:Nat,k<=l.length/\g=l.length-k/\s5=.int .i64 (k:Int)/\s4=.int .i64 (K:Int)/\Hid (K=jR (l.take k))/\wx=wr)
    case atStart=>exact⟨0,0,aU _,rfl,rfl,rfl,hid rfl,rfl⟩
    case round=>
     obtain⟨k,K,hk,A,rfl,rfl,HK,rfl⟩:=hrel;have V:=hid A;clear A;have a2:=SV (l.take k);rw[<-HK.out,aX] at a2;have b2:K<=300000000:=by omega
     clear a2
     by_cases Y:k<l.length
     ·have t1:decide ((k:Int)<(l.length:Int))=true:=decide_eq_true (by omega);obtain⟨b1,o1,rfl,a6,G⟩:=I (by omega);obtain⟨x,d⟩:=dH Y;have c1:=G k x d;have b3:=a7.out x (cH d);obtain⟨q,hq⟩:∃q:Nat,q=20-x.toNat:=⟨_,rfl⟩;have m1:aI.wrap (20-x)=(q:Int):=by rw[aM];omega
      have b4:20-x=(q:Int):=by omega
      have m2:min q 64=q:=by omega
      obtain⟨P,M⟩:∃P:Nat,P=2^q:=⟨_,rfl⟩;have b5:P<=1048576:=by rw[M];exact jC (n:=2) (i:=q) (j:=20) (by decide) (by omega)
      have e1:(2:Int)^q=(P:Int):=by rw[M];push_cast;rfl
      have m3:aI.wrap (P:Int)=(P:Int):=by rw[aM];omega
      have HS:=hid (show jR (l.take (k+1))=K+P by rw[aHs d,<-HK.out,M,hq]);obtain⟨H,a3⟩:∃H:Nat,H=K+P:=⟨_,rfl⟩;have m4:aI.wrap ((K:Int)+(P:Int))=(H:Int):=by rw[aM];omega
      have b6:(K:Int)+(P:Int)=(H:Int):=by omega
      have a8:=hid a3;clear hq M d G I a3;go_wp2_with fail;have A:=V.out
      go_roundg (l.length-(k+1))
      case measure=>omega
      case rel=>exact⟨k+1,H,by omega,rfl,by go_num,rfl,hid (by rw[HS.out,a8.out]),rfl⟩
     ·have t1:decide ((k:Int)<(l.length:Int))=false:=decide_eq_false (by omega);have O:=HK.out;rw[cS (by omega)] at O;have E:=z.out;rw[<-O] at E
      by_cases a4:1048576<K
      ·rw[if_pos a4] at E;have a0:=hid E;have Z:decide ((1048576:Int)<(K:Int))=true:=decide_eq_true (by omega);have u2:decide ((K:Int)>1048576)=true:=decide_eq_true (by omega);clear E O;go_wp2_with fail;go_ret;exact⟨by rw[a0.out];rfl,rfl⟩
      ·rw[if_neg a4] at E;have a0:=hid E;have Z:decide ((1048576:Int)<(K:Int))=false:=decide_eq_false (by omega);have u2:decide ((K:Int)>1048576)=false:=decide_eq_false (by omega);clear E O;go_wp2_with fail;go_ret;exact⟨by rw[a0.out];rfl,rfl⟩
def cD (n:Nat) (f:Nat->Value×Value):List Value:=(dG (n*2)).map (fun j=>if j%2=0 then(f (j/2)).1 else(f (j/2)).2)
theorem DI (n:Nat) (f:Nat->Value×Value):(cD n f).length=n*2:=by simp[cD]
theorem uR (n:Nat) (f:Nat->Value×Value) (i:Nat) (h:i<n):(cD n f)[i*2]? =some (f i).1:=by
 unfold cD;rw[dY,pF (by omega)];simp
theorem uS (n:Nat) (f:Nat->Value×Value) (i:Nat) (h:i<n):(cD n f)[i*2+1]? =some (f i).2:=by
 unfold cD;rw[dY,pF (by omega)];have d:(i*2+1)%2=1:=by omega
 have z:(i*2+1)/2=i:=by omega
 simp[d,z]
theorem KG (n:Nat) (f f':Nat->Value×Value) (i:Nat) (a b:Value) (h:∀d,d<n->f' d=if d=i then(a,b) else f d):((cD n f).set (i*2) a).set (i*2+1) b=cD n f':=by
 apply List.ext_getElem?;intro j
 by_cases A:j<n*2
 ·rw[List.getElem?_set,List.getElem?_set];have H:((cD n f).set (i*2) a).length=n*2:=by rw[mW,DI]
  rw[H,DI];have z:=h (j/2) (by omega)
  by_cases F:i*2+1=j
  ·have E:j/2=i:=by omega
   rw[if_pos F,if_pos (by omega)];unfold cD;rw[dY,pF A];simp only[xW];rw[z,if_pos E];simp[show ¬j%2=0 by omega]
  ·rw[if_neg F]
   by_cases G:i*2=j
   ·have E:j/2=i:=by omega
    rw[if_pos G,if_pos (by omega)];unfold cD;rw[dY,pF A];simp only[xW];rw[z,if_pos E];simp[show j%2=0 by omega]
   ·rw[if_neg G];unfold cD;rw[dY,dY,pF A];have I:¬j/2=i:=fun e=>by
     have J:=Nat.div_add_mod j 2;have L:=Nat.mod_lt j (by decide:0<2);omega
    rw[if_neg I] at z;rw[xW,xW,z]
 ·rw[dL (by rw[mW,mW,DI];omega),dL (by rw[DI];omega)]
theorem rS {n:Nat} {f g:Nat->Value×Value} (h:∀d,d<n->f d=g d):cD n f=cD n g:=by
 unfold cD;apply List.map_congr_left;intro j z;rw[jF] at z;rw[h (j/2) (by omega)]
theorem SW (a b:Value) (n:Nat):(madeCells #[a,b] (n*2))=(cD n (fun _=>(a,b))).toArray:=by
 unfold madeCells cD;apply Array.ext
 ·simp
 ·intro j d z;simp only[Array.getElem_map,Array.getElem_range,List.getElem_toArray,List.getElem_map,List.getElem_range];rcases FU j with e|e
  ·simp[e]
  ·simp[e]
theorem mk2 {P:gD} {d:Array Oper} {rest:List Oper} {o:Oper} {a:Act} {Q:Exit->Act->World->Prop} {w:World} {t e A:Nat} {z x y:Value} (F:P.underlying t=some (.slice e)) (G:(P.info? e).map (fun i=>(i.zero,i.size,i.bytes))=some (some z,2,A)) (H:z.cells=#[x,y]) (I:o.guard=none) (l c:iM)
  (J:o.op=.makeSlice t l c) (n:Nat) (L:a.eval l=.int .i64 (n:Int)) (M:a.eval c=.int .i64 (n:Int)) (Z:n*A<=140737488355328) (hn:n<=140737488355328)
  (h:wpList P d Q rest (a.put o.dst (.slice (some ⟨w.heap.size,0,none⟩) n n)) (w.alloc (.cells (cD n (fun _=>(x,y))).toArray e))):wpList P d Q (o::rest) a w:=by
 refine AD I fun K O=>?_
 obtain⟨i,hi,T,U,V⟩:=AC G;have Y:(i.bytes:Int)*(n:Int)<=281474976710656:=by
  rw[V,<-Int.natCast_mul,oG];omega
 have E:=run_make (P:=P) w t e i z F hi T .i64 .i64 (n:Int) (n:Int) (by omega) (Int.le_refl _) Y (by omega);rw[U,eG,H,SW] at E;unfold lX;simp[execOp,J,L,M,E,Result.andThen];exact O _ _ h
theorem aH4 {l:List Int} {k:Nat} {x:Int} (h:l[k]? =some x):kF (l.take (k+1))=max (kF (l.take k)) x:=by
 unfold kF;rw[cQ,h];simp
theorem aH5 {l:List Int} (h:∀x∈l,1<=x/\x<=20):0<=kF l/\kF l<=20:=by
 unfold kF
 suffices H:∀(m:List Int) (a:Int),(∀x∈m,1<=x/\x<=20)->0<=a->a<=20->0<=m.foldl max a/\m.foldl max a<=20 from H l 0 h (by omega) (by omega)
 intro m
 induction m with
 |nil=>intro a _ d z;exact⟨d,z⟩
 |cons x m E=>
  intro a A d z;have G:=A x (List.mem_cons_self ..);exact E (max a x) (fun y F=>A y (List.mem_cons_of_mem _ F)) (by omega) (by omega)
theorem TA (v:Value) (l:List Int) (w:World) (E:RdI w v l) (F:∀x∈l,1<=x/\x<=20):
  Calls Tryz.prog 215 #[v] w fun e w'=>e=.returned (.int .i64 (kF l))/\w'=w:=by
 obtain⟨a,Z,rfl,a0,O,G⟩:=E.open;unfold maxLen at O;clear E;have HL:=hid F;clear F;go_enter Tryz.func215,Tryz.ntmps215;go_wp2_with fail
 go_loopg [3,4] l.length (fun g T U wr=>∃(k:Nat) (M:Int),k<=l.length/\g=l.length-k/\U=.int .i64 (k:Int)/\T=.int .i64 M/\Hid (M=kF (l.take k))/\wr=w)
 case atStart=>exact⟨0,0,aU _,rfl,rfl,rfl,hid rfl,rfl⟩
 case round=>
  obtain⟨k,M,hk,d,rfl,rfl,z,rfl⟩:=hrel;have H:=hid d;clear d
  by_cases V:k<l.length
  ·have t1:decide ((k:Int)<(l.length:Int))=true:=decide_eq_true (by omega);obtain⟨b1,o1,rfl,a1,I⟩:=G (by omega);obtain⟨x,A⟩:=dH V;have c1:=I k x A;have J:=hid (aH4 A);clear I G A
   by_cases a2:x<=M
   ·have Y:max M x=M:=by omega
    go_wp2_with fail;have d:=H.out
    go_roundg (l.length-(k+1))
    case measure=>omega
    case rel=>exact⟨k+1,M,by omega,rfl,by go_num,rfl,hid (by rw[J.out,<-z.out];omega),rfl⟩
   ·have Y:max M x=x:=by omega
    go_wp2_with fail;have d:=H.out
    go_roundg (l.length-(k+1))
    case measure=>omega
    case rel=>exact⟨k+1,x,by omega,rfl,by go_num,rfl,hid (by rw[J.out,<-z.out];omega),rfl⟩
  ·have t1:decide ((k:Int)<(l.length:Int))=false:=decide_eq_false (by omega);have L:=hid (show M=kF l by rw[z.out,cS (by omega)]);go_wp2_with fail;go_ret;exact⟨fX (by first|exact L.out|(rw[L.out])),rfl⟩
def qP (l:List Int) (d:Nat):Value×Value:=(.int .i64 (bG l d:Int),.int .u64 (fO l d:Int))
def lH (l:List Int) (n i d:Nat):Value×Value:=if bG l d<n\/(bG l d=n/\d<i) then qP l d else(.int .i64 0,.int .u64 0)
theorem aHt {l:List Int} (h:fY l):cD l.length (lH l 1 0)=cD l.length (fun _=>(.int .i64 0,.int .u64 0)):=
 rS fun d z=>by
  have:=(jG h z).1;unfold lH;rw[if_neg (by omega)]
theorem aHu (l:List Int) (n:Nat):cD l.length (lH l n l.length)=cD l.length (lH l (n+1) 0):=
 rS fun d z=>by
  unfold lH
  by_cases h:bG l d<=n
  ·rw[if_pos (by omega),if_pos (by omega)]
  ·rw[if_neg (by omega),if_neg (by omega)]
theorem aHv {l:List Int} (h:fY l):cD l.length (lH l 21 0)=cD l.length (qP l):=
 rS fun d z=>by
  have:=(jG h z).2.1;unfold lH;rw[if_pos (by omega)]
theorem aHw {l:List Int} {n i:Nat} (h:bG l i≠n):cD l.length (lH l n i)=cD l.length (lH l n (i+1)):=
 rS fun d E=>by
  unfold lH
  by_cases A:d=i
  ·subst A
   by_cases z:bG l d<n
   ·rw[if_pos (by omega),if_pos (by omega)]
   ·rw[if_neg (by omega),if_neg (by omega)]
  ·by_cases z:bG l d<n\/(bG l d=n/\d<i)
   ·rw[if_pos z,if_pos (by omega)]
   ·rw[if_neg z,if_neg (by omega)]
theorem aHx {l:List Int} {n i:Nat} (h:bG l i=n):((cD l.length (lH l n i)).set (i*2) (.int .i64 (n:Int))).set (i*2+1) (.int .u64 (fO l i:Int))=cD l.length (lH l n (i+1)):=
 KG _ _ _ _ _ _ fun d E=>by
  unfold lH
  by_cases z:d=i
  ·subst z;rw[if_pos (by omega),if_pos rfl];unfold qP;rw[h]
  ·rw[if_neg z]
   by_cases A:bG l d<n\/(bG l d=n/\d<i)
   ·rw[if_pos A,if_pos (by omega)]
   ·rw[if_neg A,if_neg (by omega)]
def iW (l:List Int) (n i:Nat):Nat:=fC l n+bU (l.take i) n
theorem aHy (l:List Int) (n:Nat):iW l (n+1) 0=2*iW l n l.length:=by
 unfold iW;rw[List.take_zero,kE];rfl
theorem DJ {l:List Int} (h:fY l) (z:jR l<=1048576) {n i:Nat} (d:n<=20):iW l n i<=1048576:=by
 have A:=PE h.2.2 z d;have E:bU (l.take i) n<=bU l n:=by
  unfold bU;exact List.Sublist.countP_le (List.take_sublist ..)
 have F:2^n<=2^20:=jC (by decide) d;have G:(2:Nat)^20=1048576:=by decide
 unfold iW;omega
theorem aHz {l:List Int} {n i:Nat} (hi:i<l.length) (h:l.getD i 0≠(n:Int)):iW l n (i+1)=iW l n i:=by
 unfold iW;rw[BN hi,if_neg (by simpa using h)];rfl
theorem aH0 {l:List Int} {n i:Nat} (h:bG l i=n):iW l n i=fO l i:=by
 unfold iW fO;rw[h]
theorem aH1 {l:List Int} {n i:Nat} (hi:i<l.length) (h:l.getD i 0=(n:Int)):iW l n (i+1)=iW l n i+1:=by
 unfold iW;rw[BN hi,if_pos (by simpa using h)];omega
def tA (N V L n:Nat):Prop:=(L=0/\V=0/\N=0)\/(1<=L/\L<=n/\(V+1)*2^(n-L)=N)
theorem aH2 {N V L n:Nat} (h:tA N V L n):tA (2*N) V L (n+1):=by
 rcases h with⟨d,z,A⟩|⟨d,z,A⟩
 ·exact .inl ⟨d,z,by omega⟩
 ·refine .inr ⟨d,by omega,?_⟩;rw[show n+1-L=n-L+1 by omega,nQ,<-vH,A,oG]
theorem SY {N n:Nat} (h:1<=n):tA (N+1) N n n:=.inr ⟨h,aA _,by simp⟩
theorem aH3 {N V L n:Nat} (h:tA N V L n):V<=N/\L<=n:=by
 rcases h with⟨d,z,A⟩|⟨d,z,A⟩
 ·omega
 ·have:1<=2^(n-L):=xL (by decide);have E:=aCp (V+1) this;omega
theorem SX:(Tryz.prog.info? 153).map (fun i=>(i.zero,i.size,i.bytes))=some (some (.agg #[.int .i64 0,.int .u64 0]),2,16):=by kernel_rfl
def Wds (w:World) (B:Nat) (v:Value) (l:List Int):Prop:=∃b,B<=b/\v=.slice (some ⟨b,0,none⟩) l.length l.length/\Arr w b 153 (cD l.length (qP l))
theorem Wds.below {w w':World} {B C:Nat} {v:Value} {l:List Int} (h:Wds w B v l) (z:Below C w w') (F:w.heap.size<=C):Wds w' B v l:=by
 obtain⟨b,A,E,d⟩:=h;exact⟨b,A,E,d.below z (by have:=d.lt;omega)⟩
theorem SZ (v:Value) (l:List Int) (w:World) (hr:RdI w v l):
  Calls Tryz.prog 109 #[v] w fun e w'=>∃u,e=.returned (.tuple #[u,.int .i64 (bL l)])/\(bL l=0->Wds w' w.heap.size u l)/\(bL l≠0->u=.slice none 0 0)/\Below w.heap.size w w':=by
 obtain⟨a,ca,rfl,e8,c6,hA⟩:=hr.open;unfold maxLen at c6
 by_cases H:bL l=0
 rotate_left
 ·have HE:=hid H;obtain⟨E,a2⟩:∃E,E=bL l:=⟨_,rfl⟩;rw[<-a2] at H;have t0:decide (E=0)=false:=decide_eq_false H;have e9:(E != 0)=true:=by simpa using H
  go_enter Tryz.func109,Tryz.ntmps109;go_wp2_with fail;refine(DH _ l _ hr).mono ?_;rintro e d ⟨rfl,rfl⟩;rw[<-a2];have c7:=hid a2;clear a2;go_wp2_with fail
  go_ret2
  exact⟨_,by rw[c7.out];rfl,fun q=>absurd q HE.out,fun _=>rfl,aB _ _⟩
 ·have T:=eH H;have HO:=hid T.1;have a5:=hid (fun n i hn=>DJ (l:=l) (n:=n) (i:=i) T.1 T.2 hn);have f2:=T.1.2.1;have f3:=T.1.1;go_enter Tryz.func109,Tryz.ntmps109;go_wp2_with fail;refine(DH _ l _ hr).mono ?_;rintro e d ⟨rfl,rfl⟩;rw[H];have HE:=hid H;clear H T hr;go_wp2_with (at_make;refine mk2 Tryz.underlying149 SX rfl rfl _ _ rfl l.length rfl rfl ?_ ?_ ?_;(omega);(omega));have b2:=Arr.new d 153 (cD l.length (fun _=>(.int .i64 0,.int .u64 0)));rw[<-aHt HO.out] at b2 ⊢
  have c8:Below d.heap.size d (d.alloc (.cells (cD l.length (lH l 1 0)).toArray 153)):=bD (aB _ _) _;generalize d.alloc (.cells (cD l.length (lH l 1 0)).toArray 153)=w0 at*
  have c9:=hid (fun i (h:i<l.length)=>(jG HO.out h));go_wp2_with fail
  go_loopg [6,7,8,9,10] 20 (fun g s6 s7 s8 _s9 _s10 wr=>∃n V L N:Nat,1<=n/\n<=21/\g=21-n/\s8=.int .i64 (n:Int)/\s7=.int .i64 (L:Int)/\s6=.int .u64 (V:Int)/\tA N V L n/\Hid (N=iW l n 0)/\Arr wr d.heap.size 153 (cD l.length (lH l n 0))/\Below d.heap.size d wr)
  case atStart=>exact⟨1,0,0,0,by omega,by omega,rfl,rfl,rfl,rfl,.inl ⟨rfl,rfl,rfl⟩,hid (by unfold iW;rw[PA (fun x hx=>(HO.out.2.2 x hx).1)];rfl),b2,c8⟩
  case round=>
   obtain⟨n,V,L,N,b3,f4,F,rfl,rfl,rfl,J,A,z,I⟩:=hrel;have HG:=hid F;clear F
   by_cases hn:n<=20
   ·have t1:decide ((n:Int)<=20)=true:=decide_eq_true (by omega);go_wp2_with fail
    go_loopg [6,7,9,10] l.length (fun g s6 s7 s9 _s10 wx=>∃i V L N:Nat,i<=l.length/\g=l.length-i/\s9=.int .i64 (i:Int)/\s7=.int .i64 (L:Int)/\s6=.int .u64 (V:Int)/\tA N V L n/\Hid (N=iW l n i)/\Arr wx d.heap.size 153 (cD l.length (lH l n i))/\Below d.heap.size d wx)
    case atStart=>exact⟨0,V,L,N,by omega,rfl,rfl,rfl,rfl,J,A,z,I⟩
    case round=>
     clear z I J A;obtain⟨i,V,L,N,hi,F,rfl,rfl,rfl,J,A,z,I⟩:=hrel;have a6:=hid F;clear F;have d2:=a5.out n i hn;rw[<-A.out] at d2;have d3:=aH3 J
     by_cases a1:i<l.length
     ·have t2:decide ((i:Int)<(l.length:Int))=true:=decide_eq_true (by omega);obtain⟨b1,o1,rfl,d4,d5⟩:=hA (by omega);obtain⟨d6,d7,hx⟩:=c9.out i a1;have c1:=((lP I).1 b1 (o1+i) d4).trans (d5 i _ hx);have Y:l.getD i 0=(bG l i:Int):=by rw[aV,hx];rfl
      have d8:=hid (rfl:bG l i=bG l i);obtain⟨x,a7⟩:∃x,x=bG l i:=⟨_,rfl⟩;rw[<-a7] at c1 Y d6 d7;have HX:=hid a7;clear a7 hx d8
      by_cases b4:x=n
      ·subst b4;have t3:decide ((x:Int)=(x:Int))=true:=decide_eq_true rfl;have d9:(!decide ((x:Int)=(x:Int)))=false:=by rw[t3];rfl
       have HW:=hid (aH0 (l:=l) HX.out.symm);have Z:=hid (aH1 a1 Y);have a3:=hid (aHx (l:=l) (n:=x) (i:=i) HX.out.symm);have d0:=z.cell (uR _ _ i a1);have d1:=z.cell (uS _ _ i a1);have f0:=z.free (i*2);have f1:=z.free (i*2+1);have b5:∀u u',Below d.heap.size d ((wr.setCell ⟨d.heap.size,i*2,none⟩ u).setCell ⟨d.heap.size,i*2+1,none⟩ u'):=fun u u'=>(I.setCell (p:=⟨d.heap.size,i*2,none⟩) (aA _) u).setCell (p:=⟨d.heap.size,i*2+1,none⟩) (aA _) u'
       rcases J with⟨hL,hV,e0⟩|⟨f5,e1,b6⟩
       ·have t4:decide ((L:Int)>0)=false:=decide_eq_false (by omega);have t5:decide (0<L)=false:=decide_eq_false (by omega);have e2:¬0<L:=by omega
        have b7:fO l i=V:=by rw[<-HW.out,<-A.out];omega
        have M:=a3.out;rw[b7] at M;have a8:=hid M;have a9:=hid (show tA (N+1) V x x by rw[show V=N by omega];exact SY b3);have a0:=hid (show N+1=iW l x (i+1) by rw[Z.out,A.out]);clear M a3 b7 hL hV e0 A Z HW HX Y a5;go_wp2_with fail;have b8:=a6.out
        go_roundg (l.length-(i+1))
        case measure=>omega
        case rel=>exact⟨i+1,V,x,N+1,by omega,rfl,by go_num,rfl,rfl,a9.out,a0,by rw[<-a8.out];exact(z.set _ _).set _ _,b5 _ _⟩
       ·have t4:decide ((L:Int)>0)=true:=decide_eq_true (by omega);have t5:decide (0<L)=true:=decide_eq_true (by omega);have e2:0<L:=by omega
        obtain⟨O,b9⟩:∃O,O=V+1:=⟨_,rfl⟩;have m1:fU.wrap (O:Int)=(O:Int):=by rw[gF];omega
        have f6:(V:Int)+1=(O:Int):=by omega
        have e3:=hid (show O*2^(x-L)=N by rw[b9];exact b6);have c0:=hid (show fO l i=N by rw[<-HW.out,<-A.out]);have a0:=hid (show N+1=iW l x (i+1) by rw[Z.out,A.out]);clear b6 b9 A Z HW HX Y a5 d3;go_wp2_with fail
        go_loopg [6,10] (x-L) (fun g s6 e4 wy=>∃k U:Nat,L<=k/\k<=x/\g=x-k/\e4=.int .i64 (k:Int)/\s6=.int .u64 (U:Int)/\Hid (U*2^(x-k)=N)/\wy=wr)
        case atStart=>exact⟨L,O,aA _,e1,rfl,rfl,rfl,e3,rfl⟩
        case round=>
         obtain⟨k,U,f7,f8,F,rfl,rfl,HU,rfl⟩:=hrel;have e5:=hid F;clear F
         by_cases f9:k<x
         ·have t6:decide ((k:Int)<(x:Int))=true:=decide_eq_true (by omega);obtain⟨G,c2⟩:∃G,G=2*U:=⟨_,rfl⟩;have c3:=hid (show G*2^(x-(k+1))=N by
           have e:=HU.out;rw[show x-k=x-(k+1)+1 by omega,nQ] at e;rw[c2,<-e,oG 2 U,vH,oG 2])
          have g0:G<=N:=by
           have e:=c3.out;have:1<=2^(x-(k+1)):=xL (by decide);have:=aCp G this;omega
          have m2:fU.wrap (2*(U:Int))=(G:Int):=by rw[gF];omega
          have g1:2*(U:Int)=(G:Int):=by omega
          have g2:2*(U:Int)%18446744073709551616=(G:Int):=by omega
          clear c2;go_wp2_with fail;have g3:=e5.out
          go_roundg (x-(k+1))
          case measure=>omega
          case rel=>exact⟨k+1,G,by omega,by omega,rfl,by go_num,rfl,c3,rfl⟩
         ·have t6:decide ((k:Int)<(x:Int))=false:=decide_eq_false (by omega);have e6:k=x:=by omega
          have b0:U=N:=by
           have e:=HU.out;rw[show x-k=0 by omega] at e;omega
          have M:=a3.out;rw[c0.out,<-b0] at M;have a8:=hid M;have a9:=hid (show tA (N+1) U x x by rw[b0];exact SY b3);clear M a3 b0 HU c0 e6;go_wp2_with fail;have b8:=a6.out
          go_roundg (l.length-(i+1))
          case measure=>omega
          case rel=>exact⟨i+1,U,x,N+1,by omega,rfl,by go_num,rfl,rfl,a9.out,a0,by rw[<-a8.out];exact(z.set _ _).set _ _,b5 _ _⟩
      ·have t3:decide ((x:Int)=(n:Int))=false:=decide_eq_false (by omega);have d9:(!decide ((x:Int)=(n:Int)))=true:=by rw[t3];rfl
       have a4:bG l i≠n:=by rw[<-HX.out];exact b4
       have hP:=aHz (n:=n) a1 (by rw[Y];omega);rw[aHw a4] at z;have Z:=hid hP;clear hP Y a4;go_wp2_with fail;have b8:=a6.out
       go_roundg (l.length-(i+1))
       case measure=>omega
       case rel=>exact⟨i+1,V,L,N,by omega,rfl,by go_num,rfl,rfl,J,hid (by rw[Z.out];exact A.out),z,I⟩
     ·have t2:decide ((i:Int)<(l.length:Int))=false:=decide_eq_false (by omega);have e7:i=l.length:=by omega
      subst e7;rw[aHu] at z;have c4:=aH2 J;have a0:=hid (show 2*N=iW l (n+1) 0 by rw[aHy,<-A.out]);obtain⟨N2,c5⟩:∃N2,N2=2*N:=⟨_,rfl⟩;rw[<-c5] at c4 a0;clear c5;go_wp2_with fail;have F:=HG.out
      go_roundg (21-(n+1))
      case measure=>omega
      case rel=>exact⟨n+1,V,L,N2,by omega,by omega,rfl,by go_num,rfl,rfl,c4,a0,z,I⟩
   ·have t1:decide ((n:Int)<=20)=false:=decide_eq_false (by omega);have a4:n=21:=by omega
    subst a4;rw[aHv HO.out] at z;go_wp2_with fail
    go_ret2
    exact⟨_,by rw[HE.out];rfl,fun _=>⟨d.heap.size,aA _,rfl,z⟩,fun q=>absurd HE.out q,I⟩
theorem aIk {v n:Nat} (h:1<=n):0<(bI (aY v n)).length:=by rw[cN,cY];omega
theorem aIl {l d:List Int} {k:Nat} {x:Int} (h:d[k]? =some x):eR l (d.take (k+1))=eR l (d.take k)++aY (fO l x.toNat) (bG l x.toNat):=by
 rw[cQ,h];exact SI ..
theorem TO (v u:Value) (l d:List Int) (w:World) (hr:RdI w v l) (hu:RdI w u d) (Z:bL l=0) (hs:∀x∈d,0<=x/\x<(l.length:Int)) (O:d.length<=10000):
  Calls Tryz.prog 48 #[v,u] w fun e w'=>e=.returned (.tuple #[eL (eR l d),.int .i64 0])/\Below w.heap.size w w':=by
 have F:=eH Z;have b3:=hid (fun i (h:i<l.length)=>(jG F.1 h));have b4:=hid (fun i (h:i<l.length)=>(IG F.1 F.2 h));have c6:=F.1.2.1;have HS:=hid hs;have a4:=hid (fun k=>rR F.1 (d.take k) (fun x G=>hs x (nO G)));clear hs F;have a0:=Arr.new w 29 [.string ⟨#[]⟩,.int .i64 0];have c7:(w.alloc (.cells #[.string ⟨#[]⟩,.int .i64 0] 29)).heap.size=w.heap.size+1:=by simp
 have T:Below w.heap.size w (w.alloc (.cells #[.string ⟨#[]⟩,.int .i64 0] 29)):=bD (aB _ _) _;change Arr (w.alloc (.cells #[.string ⟨#[]⟩,.int .i64 0] 29)) _ _ _ at a0;go_enter Tryz.func48,Tryz.ntmps48;go_wp2_with fail;generalize w.alloc (.cells #[.string ⟨#[]⟩,.int .i64 0] 29)=w0 at*
 refine(SZ _ l _ (hr.below T)).mono ?_;rintro e z ⟨uw,rfl,H,-,A⟩;obtain⟨bw,c8,rfl,U⟩:=H Z;rw[Z];have a5:=(hu.below T).below A;have a6:=a0.below A (by omega);have a7:=T.trans (A.mono (by omega));have c9:=A.size;obtain⟨a,ca,rfl,d2,b5,hA⟩:=a5.open;unfold maxLen at b5;clear hu a5 hr a0 T A H;go_wp2_with fail
 go_loopg [8,9] d.length (fun g s8 s9 wr=>∃k:Nat,k<=d.length/\g=d.length-k/\s9=.int .i64 (k:Int)/\OwI wr z.heap.size s8 (bI (eR l (d.take k)))/\Below z.heap.size z wr)
 case atStart=>exact⟨0,aU _,rfl,rfl,OwI.nil _ _,aB _ _⟩
 case round=>
  obtain⟨k,hk,hg,rfl,I,E⟩:=hrel;have HG:=hid hg;clear hg;have b6:=E.size
  by_cases b7:k<d.length
  ·have t1:decide ((k:Int)<(d.length:Int))=true:=decide_eq_true (by omega);obtain⟨b1,o1,rfl,A,a8⟩:=hA (by omega);obtain⟨x,G⟩:=dH b7;have c1:=((lP E).1 b1 (o1+k) A).trans (a8 k _ G);have b8:=HS.out x (cH G);have HT:=hid (aIl (l:=l) G);have V:=a4.out k;rw[aX,gU hk] at V;obtain⟨y,rfl⟩:∃y:Nat,x=(y:Int):=⟨x.toNat,by omega⟩;rw[eG] at HT;have Y:y<l.length:=by omega
   have a1:=U.below E U.lt;have J:=a1.cell (uR _ _ y Y);have L:=a1.cell (uS _ _ y Y);obtain⟨hy1,hy2,_⟩:=b3.out y Y;have a2:=b4.out y Y;unfold qP at J L;obtain⟨n,O⟩:∃n,n=bG l y:=⟨_,rfl⟩;obtain⟨W,H⟩:∃W,W=fO l y:=⟨_,rfl⟩;rw[<-O,<-H] at J L HT a2;rw[<-O] at hy1 hy2;have b9:W<18446744073709551616:=dR a2 (aW (jC (by decide) hy2) (by decide));have u1:decide ((y:Int)<0)=false:=decide_eq_false (by omega);have u2:decide ((y:Int)>=(l.length:Int))=false:=decide_eq_false (by omega)
   have u3:decide ((l.length:Int)<=(y:Int))=false:=decide_eq_false (by omega);have u4:decide (l.length<=y)=false:=decide_eq_false (by omega);clear O H G a8 hA b8 a2;go_wp2_with fail;have d3:=aIk (v:=W) hy1;have d4:(bI (aY W n)).length<=20:=by rw[cN,cY];exact hy2
   have d5:(bI (eR l (d.take k))).length<=20*k:=by rw[cN];exact V
   have c0:=kZ ⟨c1,J,L,E,b6⟩ (aB wr.heap.size wr).drew;have a9:bw<z.heap.size:=U.lt;have c2:OwI wr.drew z.heap.size u8 (bI (eR l (d.take k))):=I;have d6:wr.drew.heap.size=wr.heap.size:=rfl;clear c1 J L a1 I
   go_region_held3 (fun w'=>w'.cell? ⟨b1,o1+k,none⟩=some (.int .i64 (y:Int))/\w'.cell? ⟨bw,y*2,none⟩=some (.int .i64 (n:Int))/\w'.cell? ⟨bw,y*2+1,none⟩=some (.int .u64 (W:Int))/\Below z.heap.size z w'/\z.heap.size<=w'.heap.size)
    (first
     |with_reducible assumption
     |with_reducible exact kZ (by assumption) (by assumption)
     |with_reducible exact CX (by assumption) (by assumption) A a9 a9)
    (first
     |(go_at_call 41;refine(uF W n _ b9 (by omega)).mono ?_;rintro e w2 ⟨x2,rfl,c3,b0⟩)
     |(refine JW rfl _ _ rfl z.heap.size u8 (bI (eR l (d.take k))) rfl (OwI.below c2 (by assumption) (aA _)) x2 (bI (aY W n)) rfl (OwI.src c3) ?_ ?_ ?_;(omega);(have:=b0.size;omega);intro v3 w3 p1 p2 p3))
   all_goals go_wp2_with fail
   all_goals
    have hg:=HG.out
    go_roundg (d.length-(k+1))
    case measure=>omega
    case rel=>exact⟨k+1,by omega,rfl,by go_num,by rw[HT.out,gB];exact p1,c0.2.2.2.1.trans ((b0.mono (by omega)).trans p2)⟩
  ·have t1:decide ((k:Int)<(d.length:Int))=false:=decide_eq_false (by omega);have c4:k=d.length:=by omega
   subst c4;rw[kE] at I;have V:=a4.out d.length;rw[kE] at V;go_wp2_with fail;refine(uG _ (eR l d) _ (OwI.rd I) (by omega)).mono ?_;rintro e w6 ⟨rfl,a3⟩;have M:=(a6.below E (by omega)).below a3 (by omega);have c5:Below w.heap.size w w6:=(a7.trans (E.mono (by omega))).trans (a3.mono (by omega));have J:=M.cell (i:=0) rfl;have L:=M.cell (i:=1) rfl;have f0:=M.free 0;have f1:=M.free 1;clear a6 a3 I E a7 U;generalize b2:eR l d=m at*
   have HM:=hid b2;clear b2;go_wp2_with fail;have z0:Arr ((w6.setCell ⟨w.heap.size,0,none⟩ (.string (mkS (aD m)))).setCell ⟨w.heap.size,1,none⟩ (.int .i64 (m.length:Int))) w.heap.size 29 [.string (mkS (aD m)),.int .i64 (m.length:Int)]:=(M.set 0 _).set 1 _;refine gJ (qH rfl _ _ w.heap.size _ _ (0,0) _ rfl z0 Tryz.underlying29 rfl mF) rfl ?_;exact⟨by rw[HM.out];rfl,(c5.setCell (p:=⟨w.heap.size,0,none⟩) (aA _) _).setCell (p:=⟨w.heap.size,1,none⟩) (aA _) _⟩
theorem yS (c:Nat) (u:List Bool):(bB (c+1) u).flatten=(bB c u).flatten++u:=by
 rw[List.replicate_succ',List.flatten_append];simp
theorem yT (c:Nat) (x y:Bool):((bB c [x,y]).flatten).length=2*c:=by
 induction c with
 |zero=>rfl
 |succ c d=>rw[yS,aL,d];simp;omega
theorem aIm {l:List Int} {i:Nat} (h:i<l.length):(l.take i).getLastD (l.getD 0 0)=l.getD (i-1) 0:=by
 cases i with
 |zero=>simp
 |succ i=>
  have d:l[i]? =some l[i]:=aN (by omega);have e:l.take (i+1)=l.take i++[l[i]]:=by rw[cQ,d];rfl
  rw[e,jZ,aV,aV,d,List.getLastD_eq_getLast?,List.getLast?_concat];rfl
theorem TP {l:List Int} {i:Nat} {x:Int} (h:l[i]? =some x):eI (l.getD 0 0) (l.take (i+1))=eI (l.getD 0 0) (l.take i)++jU (l.getD (i-1) 0) x:=by
 have hi:=(eU.1 h).1;rw[cQ,h];show eI _ (_++[x])=_;rw[CY,aIm hi]
theorem aIn (w:World) (x:Int):RdI (w.alloc (.cells #[.int .i64 x] 3)) (.slice (some ⟨w.heap.size,0,none⟩) 1 1) [x]:=xY w 3 [.int .i64 x] 1 rfl (by decide)
theorem TQ (w:World) (x y:Int):RdI (w.alloc (.cells #[.int .i64 x,.int .i64 y] 3)) (.slice (some ⟨w.heap.size,0,none⟩) 2 2) [x,y]:=xY w 3 [.int .i64 x,.int .i64 y] 2 rfl (by decide)
theorem TR (v:Value) (l:List Int) (w:World) (hr:RdI w v l) (c7:fY l):
  Calls Tryz.prog 46 #[v] w fun e w'=>e=.returned (.tuple #[eL (dW l),.int .i64 0])/\Below w.heap.size w w':=by
 obtain⟨e5,e6,G⟩:=c7;have HB:=hid G;have c8:=hid (fun k=>CZ (l.take k) (l.getD 0 0) (by
  rw[aV,aN (show 0<l.length by omega)];exact(G _ (gT _)).1) (by
  rw[aV,aN (show 0<l.length by omega)];exact(G _ (gT _)).2) (fun x d=>G x (nO d)))
 have b5:∀i,i<l.length->1<=l.getD i 0/\l.getD i 0<=20/\l[i]? =some (l.getD i 0):=fun i hi=>by
  rw[aV,aN hi];exact⟨(G _ (gT hi)).1,(G _ (gT hi)).2,rfl⟩
 have a1:=hid b5;clear G;have t1:decide ((l.length:Int)<2)=false:=decide_eq_false (by omega);have t2:decide ((l.length:Int)>258)=false:=decide_eq_false (by omega);have t3:decide ((258:Int)<(l.length:Int))=false:=decide_eq_false (by omega);have a8:=Arr.new w 29 [.string ⟨#[]⟩,.int .i64 0];have c9:(w.alloc (.cells #[.string ⟨#[]⟩,.int .i64 0] 29)).heap.size=w.heap.size+1:=by simp
 have a9:Below w.heap.size w (w.alloc (.cells #[.string ⟨#[]⟩,.int .i64 0] 29)):=bD (aB _ _) _;change Arr (w.alloc (.cells #[.string ⟨#[]⟩,.int .i64 0] 29)) _ _ _ at a8;have b6:=hr.below a9;obtain⟨a,ca,rfl,e7,d2,hA⟩:=b6.open;unfold maxLen at d2;clear hr b6 b5;obtain⟨J,L,rfl,O,U⟩:=hA (by omega);clear hA;go_enter Tryz.func46,Tryz.ntmps46;go_wp2_with fail;generalize w.alloc (.cells #[.string ⟨#[]⟩,.int .i64 0] 29)=w0 at*
 go_loopg [4] l.length (fun g s4 wr=>∃k:Nat,k<=l.length/\g=l.length-k/\s4=.int .i64 (k:Int)/\wr=w0)
 case atStart=>exact⟨0,aU _,rfl,rfl,rfl⟩
 case round=>
  obtain⟨k,hk,F,rfl,rfl⟩:=hrel;have HG:=hid F;clear F
  by_cases d3:k<l.length
  ·have u1:decide ((k:Int)<(l.length:Int))=true:=decide_eq_true (by omega);obtain⟨x1,x2,d⟩:=a1.out k d3;have H:=U k _ d;obtain⟨x,T⟩:∃x,x=l.getD k 0:=⟨_,rfl⟩;rw[<-T] at x1 x2 H;have v1:decide (x<1)=false:=decide_eq_false (by omega);have v2:decide (x>20)=false:=decide_eq_false (by omega);have v3:decide (20<x)=false:=decide_eq_false (by omega);clear T d U;go_wp2_with fail;have F:=HG.out
   go_roundg (l.length-(k+1))
   case measure=>omega
   case rel=>exact⟨k+1,by omega,rfl,by go_num,rfl⟩
  ·have u1:decide ((k:Int)<(l.length:Int))=false:=decide_eq_false (by omega);obtain⟨x1,x2,d⟩:=a1.out 0 (by omega);have c0:=U 0 _ d;rw[pH] at c0;obtain⟨y,hy⟩:∃y:Nat,l.getD 0 0=(y:Int):=⟨(l.getD 0 0).toNat,by omega⟩;have HY:=hid hy;rw[hy] at c0 x1 x2;have y1:y<18446744073709551616:=by omega
   have m1:fU.wrap (y:Int)=(y:Int):=by rw[gF];omega
   have m2:(y:Int)%18446744073709551616=(y:Int):=by omega
   have z1:0<l.length:=by omega
   have z2:(0:Int)<(l.length:Int):=by omega
   clear hy d hk;go_wp2_with fail;refine(uF y 5 _ y1 (by decide)).mono ?_;rintro e w1 ⟨u5,rfl,b0,a2⟩;have d4:=a2.size;have b7:=a8.below a2 (by omega);have b8:=a9.trans (a2.mono (by omega));have b9:∀j x,l[j]? =some x->w1.cell? ⟨J,L+j,none⟩=some (.int .i64 x):=fun j x hj=>((lP a2).1 J (L+j) O).trans (U j x hj)
   have a3:=hid b9;clear U b9 c0 a8 a9;rw[c9] at b0 O d4;go_wp2_with fail
   go_loopg [5,6,7,8,9] l.length (fun g V s6 _s7 _s8 _s9 wx=>∃i:Nat,i<=l.length/\g=l.length-i/\s6=.int .i64 (i:Int)/\OwI wx (w.heap.size+1) V (bI (aY y 5++eI (l.getD 0 0) (l.take i)))/\Below (w.heap.size+1) w1 wx)
   case atStart=>exact⟨0,aU _,rfl,rfl,by simpa [eI] using b0,aB _ _⟩
   case round=>
    obtain⟨i,hi,F,rfl,z,I⟩:=hrel;have d5:=hid F;clear F b0 HG;have e8:=I.size;have c2:=c8.out i;rw[aX,gU hi] at c2;obtain⟨D,hD⟩:∃D,D=aY y 5++eI (l.getD 0 0) (l.take i):=⟨_,rfl⟩;have e9:D.length<=5+39*i:=by rw[hD,aL,cY];omega
    rw[<-hD] at z;have HD:=hid hD;clear hD c2
    by_cases d6:i<l.length
    ·have u2:decide ((i:Int)<(l.length:Int))=true:=decide_eq_true (by omega);obtain⟨d7,d8,d⟩:=a1.out i d6;obtain⟨p1,p2,hp⟩:=a1.out (i-1) (by omega);have H:=(I.cell (p:=⟨J,L+i,none⟩) O).trans (a3.out i _ d);obtain⟨M,hM⟩:∃M:Nat,M=i-1:=⟨_,rfl⟩;have c3:=(I.cell (p:=⟨J,L+(i-1),none⟩) O).trans (a3.out (i-1) _ hp);have a4:=TP d;obtain⟨x,T⟩:∃x,x=l.getD i 0:=⟨_,rfl⟩;obtain⟨p,c4⟩:∃p,p=l.getD (i-1) 0:=⟨_,rfl⟩;rw[<-T] at d7 d8 H a4;rw[<-c4] at p1 p2 c3 a4;rw[<-hM] at c3
     have c5:=hid (show aY y 5++eI (l.getD 0 0) (l.take (i+1))=D++((bB (x-p).toNat [true,false]).flatten++(bB (p-x).toNat [true,true]).flatten++[false]) by rw[a4,HD.out,cF];rfl);obtain⟨A,b2⟩:∃A,A=(x-p).toNat:=⟨_,rfl⟩;obtain⟨B,b3⟩:∃B,B=(p-x).toNat:=⟨_,rfl⟩;rw[<-b2,<-b3] at c5;have HA:=hid b2;have a5:=hid b3;have f2:A<=20:=by omega
     have f3:B<=20:=by omega
     have m3:max (aI.wrap ((i:Int)-1)) 0=(M:Int):=by rw[aM];omega
     have m4:max ((i:Int)-1) 0=(M:Int):=by omega
     have m5:aI.wrap ((i:Int)-1)=(i:Int)-1:=by rw[aM];omega
     have q1:(M:Int)<(l.length:Int):=by omega
     have q2:M<l.length:=by omega
     rw[<-T] at d;have HX:=hid d;clear hM T c4 a4 d hp b2 b3;go_wp2_with fail
     go_loopg [5,8] A (fun g V s8 Y=>∃c:Nat,c<=A/\g=A-c/\s8=.int .i64 (p+(c:Int))/\OwI Y (w.heap.size+1) V (bI (D++(bB c [true,false]).flatten))/\Below (w.heap.size+1) w1 Y)
     case atStart=>exact⟨0,aU _,rfl,by rw[OF,Int.add_zero],by simpa using z,I⟩
     case round=>
      clear z H c3;obtain⟨c,d9,F,rfl,z,a6⟩:=hrel;have e0:=hid F;clear F;have f4:=a6.size;have H:=(a6.cell (p:=⟨J,L+i,none⟩) O).trans (a3.out i _ HX.out);have c6:(bI (D++(bB c [true,false]).flatten)).length<=20000:=by rw[cN,aL,yT];omega
      by_cases e1:c<A
      ·have u3:decide (p+(c:Int)<x)=true:=decide_eq_true (by have:=HA.out;omega);have m6:aI.wrap (p+(c:Int)+1)=p+(c:Int)+1:=by rw[aM];omega
       go_wp2_with (at_builtin;refine kG rfl _ _ rfl (w.heap.size+1) _ _ [1,0] rfl (OwI.alloc z _) _ rfl (TQ wr 1 0) (by decide) ?_ ?_ ?_;(simp only[cR,cX];omega);(simp;omega);intro v3 w3 Z r2 r3 r4);have f5:=e0.out
       go_roundg (A-(c+1))
       case measure=>omega
       case rel=>exact⟨c+1,by omega,rfl,congrArg _ (by push_cast;omega),by rw[yS,<-cF,gB];exact Z,(a6.alloc (by omega) _).trans r2⟩
      ·have u3:decide (p+(c:Int)<x)=false:=decide_eq_false (by have:=HA.out;omega);obtain rfl:A=c:=by omega
       obtain⟨E,hE⟩:∃E,E=D++(bB A [true,false]).flatten:=⟨_,rfl⟩;have f6:E.length<=5+39*i+40:=by rw[hE,aL,yT];omega
       rw[<-hE] at z;have HE:=hid hE;clear hE c6;go_wp2_with fail
       go_loopg [5,9] B (fun g V s9 Y=>∃c:Nat,c<=B/\g=B-c/\s9=.int .i64 (p-(c:Int))/\OwI Y (w.heap.size+1) V (bI (E++(bB c [true,true]).flatten))/\Below (w.heap.size+1) w1 Y)
       case atStart=>exact⟨0,aU _,rfl,by rw[OF,Int.sub_zero],by simpa using z,a6⟩
       case round=>
        clear z H;obtain⟨c,d9,F,rfl,z,a7⟩:=hrel;have e2:=hid F;clear F;have f7:=a7.size;have H:=(a7.cell (p:=⟨J,L+i,none⟩) O).trans (a3.out i _ HX.out);have c6:(bI (E++(bB c [true,true]).flatten)).length<=20000:=by rw[cN,aL,yT];omega
        by_cases e1:c<B
        ·have v3:decide (p-(c:Int)>x)=true:=decide_eq_true (by have:=a5.out;omega);have v4:decide (x<p-(c:Int))=true:=decide_eq_true (by have:=a5.out;omega);have m6:aI.wrap (p-(c:Int)-1)=p-(c:Int)-1:=by rw[aM];omega
         go_wp2_with (at_builtin;refine kG rfl _ _ rfl (w.heap.size+1) _ _ [1,1] rfl (OwI.alloc z _) _ rfl (TQ wr 1 1) (by decide) ?_ ?_ ?_;(simp only[cR,cX];omega);(simp;omega);intro v3 w3 Z r2 r3 r4);have f8:=e2.out
         go_roundg (B-(c+1))
         case measure=>omega
         case rel=>exact⟨c+1,by omega,rfl,congrArg _ (by push_cast;omega),by rw[yS,<-cF,gB];exact Z,(a7.alloc (by omega) _).trans r2⟩
        ·have v3:decide (p-(c:Int)>x)=false:=decide_eq_false (by have:=a5.out;omega);have v4:decide (x<p-(c:Int))=false:=decide_eq_false (by have:=a5.out;omega);obtain rfl:B=c:=by omega
         have HT:=hid (show bI (E++(bB B [true,true]).flatten)++[0]=bI (aY y 5++eI (l.getD 0 0) (l.take (i+1))) by
          rw[c5.out,HE.out,gB,gB,gB,gB,gB];simp only[cF];rfl)
         go_wp2_with (at_builtin;(refine kG rfl _ _ rfl (w.heap.size+1) _ _ [0] rfl (OwI.alloc z _) _ rfl (aIn wr 0) (by decide) ?_ ?_ ?_;(simp only[cR,cX];omega);(simp;omega);intro v3 w3 Z r2 r3 r4));have f9:=d5.out
         go_roundg (l.length-(i+1))
         case measure=>omega
         case rel=>exact⟨i+1,by omega,rfl,by go_num,by rw[<-HT.out];exact Z,(a7.alloc (by omega) _).trans r2⟩
    ·have u2:decide ((i:Int)<(l.length:Int))=false:=decide_eq_false (by omega);have e3:i=l.length:=by omega
     subst e3;have HF:=hid (show D=dW l by
      rw[HD.out,kE];unfold dW;rw[HY.out,eG])
     go_wp2_with fail;refine(uG _ D _ (OwI.rd z) (by omega)).mono ?_;rintro e w6 ⟨rfl,b4⟩;have a0:=(b7.below I (by omega)).below b4 (by omega);have e4:Below w.heap.size w w6:=(b8.trans (I.mono (by omega))).trans (b4.mono (by omega));have d0:=a0.cell (i:=0) rfl;have d1:=a0.cell (i:=1) rfl;have f0:=a0.free 0;have f1:=a0.free 1;clear b7 b4 z I b8;go_wp2_with fail;have z0:Arr ((w6.setCell ⟨w.heap.size,0,none⟩ (.string (mkS (aD D)))).setCell ⟨w.heap.size,1,none⟩ (.int .i64 (D.length:Int))) w.heap.size 29 [.string (mkS (aD D)),.int .i64 (D.length:Int)]:=(a0.set 0 _).set 1 _
     refine gJ (qH rfl _ _ w.heap.size _ _ (0,0) _ rfl z0 Tryz.underlying29 rfl mF) rfl ?_;exact⟨by rw[<-HF.out];rfl,(e4.setCell (p:=⟨w.heap.size,0,none⟩) (aA _) _).setCell (p:=⟨w.heap.size,1,none⟩) (aA _) _⟩
theorem aI7 (s:ByteArray) (a:Nat) (n:Int) (w:World) (hs:s.size<=1000000) (ha:a<=100000000) (a1:1<=n) (a2:n<=20):
  Calls Tryz.prog 214 #[.string s,.int .i64 (a:Int),.int .i64 n] w fun e w'=>e=.returned (.tuple #[.int .i64 (eD s.data.toList (a:Int) n).1,.int .i64 (eD s.data.toList (a:Int) n).2.1,.int .i64 (eD s.data.toList (a:Int) n).2.2])/\w'=w:=by
 have HL:=hid (show s.data.toList.length=s.size by simp);obtain⟨R,O⟩:∃R,R=eD s.data.toList (a:Int) n:=⟨_,rfl⟩;rw[<-O];have HR:=hid O.symm;clear O;go_enter Tryz.func214,Tryz.ntmps214;go_wp2_with fail
 go_loopg [9,10,11,12,13,14] (8*s.size+2-a) (fun g s9 a3 _s11 _s12 _s13 _s14 wr=>∃(p:Nat) (m:Int),p<=100000002/\1<=m/\m<=20/\g=8*s.size+2-p/\a3=.int .i64 (p:Int)/\s9=.int .i64 m/\Hid (eD s.data.toList (p:Int) m=R)/\wr=w)
 case atStart=>exact⟨a,n,by omega,a1,a2,rfl,rfl,rfl,HR,rfl⟩
 case round=>
  obtain⟨p,m,hp,a4,a5,J,rfl,rfl,HP,rfl⟩:=hrel;have HG:=hid J;clear J;have d:=wF s.data.toList (p:Int) m (by omega);rw[HP.out,HL.out] at d;have E:=fun W=>oP s (p:Int) 1 W hs (by decide) (by omega) (by omega)
  have T:=fQ (n:=s.size) (at':=(p:Int)) (k:=1);have U:=fQ (n:=s.size) (at':=((p:Int)+1)) (k:=1);have F:=fun W=>oP s ((p:Int)+1) 1 W hs (by decide) (by omega) (by omega)
  obtain⟨L,V⟩:∃L,L=aO s.size (p:Int) 1:=⟨_,rfl⟩;obtain⟨H,Y⟩:∃H,H=aE s.data.toList (p:Int) 1:=⟨_,rfl⟩;obtain⟨M,Z⟩:∃M,M=aO s.size ((p:Int)+1) 1:=⟨_,rfl⟩;obtain⟨I,a0⟩:∃I,I=aE s.data.toList ((p:Int)+1) 1:=⟨_,rfl⟩;rw[<-V,<-Y,<-Z,<-a0] at d;rw[<-V] at E T;rw[<-Z] at F U;rw[<-Y] at E;rw[<-a0] at F;clear V Y Z a0;have m1:aI.wrap ((p:Int)+1)=((p:Int)+1):=by rw[aM];omega
  by_cases h1:L=0
  ·subst h1;rw[if_neg (fun k=>k rfl)] at d;have T:=T rfl
   by_cases h2:H=0
   ·subst h2;rw[if_pos rfl] at d;have A:=hid d;clear d F;go_wp2_with fail;refine(E _).mono ?_;rintro e z ⟨rfl,rfl⟩;go_wp2_with fail
    go_ret3
    exact⟨by rw[A.out];rfl,rfl⟩
   ·rw[if_neg h2] at d;have v1:decide ((H:Int)=0)=false:=decide_eq_false (by omega);have v2:((H:Int)==0)=false:=by rw[beq_eq_false_iff_ne];omega
    have v3:(H==0)=false:=by rw[beq_eq_false_iff_ne];omega
    by_cases h3:M=0
    ·subst h3;rw[if_neg (fun k=>k rfl)] at d;have U:=U rfl;have m2:aI.wrap ((p:Int)+2)=(p:Int)+2:=by rw[aM];omega
     have m3:aI.wrap (m+1)=m+1:=by rw[aM];omega
     have m4:aI.wrap (m-1)=m-1:=by rw[aM];omega
     by_cases h4:I=0
     ·subst h4;rw[if_pos rfl] at d
      by_cases G:20<m+1
      ·rw[if_pos (.inr G)] at d;have w0:decide (m+1<1)=false:=decide_eq_false (by omega);have w1:decide (m+1>20)=true:=decide_eq_true G;have z:decide (20<m+1)=true:=decide_eq_true G;have A:=hid d;clear d;go_wp2_with fail;refine(E _).mono ?_;rintro e z ⟨rfl,rfl⟩;go_wp2_with fail;refine(F _).mono ?_;rintro e z ⟨rfl,rfl⟩;go_wp2_with fail
       go_ret3
       exact⟨by rw[A.out];rfl,rfl⟩
      ·rw[if_neg (by omega)] at d;have w0:decide (m+1<1)=false:=decide_eq_false (by omega);have w1:decide (m+1>20)=false:=decide_eq_false G;have z:decide (20<m+1)=false:=decide_eq_false G;have A:=hid d.symm;clear d;go_wp2_with fail;refine(E _).mono ?_;rintro e z ⟨rfl,rfl⟩;go_wp2_with fail;refine(F _).mono ?_;rintro e z ⟨rfl,rfl⟩;go_wp2_with fail;have J:=HG.out
       go_roundg (8*s.size+2-(p+2))
       case measure=>omega
       case rel=>exact⟨p+2,m+1,by omega,by omega,by omega,rfl,by go_num,rfl,A,rfl⟩
     ·rw[if_neg h4] at d;have x1:decide ((I:Int)=0)=false:=decide_eq_false (by omega);have x2:((I:Int)==0)=false:=by rw[beq_eq_false_iff_ne];omega
      have x3:(I==0)=false:=by rw[beq_eq_false_iff_ne];omega
      by_cases G:m-1<1
      ·rw[if_pos (.inl G)] at d;have w1:decide (m-1<1)=true:=decide_eq_true G;have A:=hid d;clear d;go_wp2_with fail;refine(E _).mono ?_;rintro e z ⟨rfl,rfl⟩;go_wp2_with fail;refine(F _).mono ?_;rintro e z ⟨rfl,rfl⟩;go_wp2_with fail
       go_ret3
       exact⟨by rw[A.out];rfl,rfl⟩
      ·rw[if_neg (by omega)] at d;have w1:decide (m-1<1)=false:=decide_eq_false G;have z:decide (m-1>20)=false:=decide_eq_false (by omega);have w3:decide (20<m-1)=false:=decide_eq_false (by omega);have A:=hid d.symm;clear d;go_wp2_with fail;refine(E _).mono ?_;rintro e z ⟨rfl,rfl⟩;go_wp2_with fail;refine(F _).mono ?_;rintro e z ⟨rfl,rfl⟩;go_wp2_with fail;have J:=HG.out
       go_roundg (8*s.size+2-(p+2))
       case measure=>omega
       case rel=>exact⟨p+2,m-1,by omega,by omega,by omega,rfl,by go_num,rfl,A,rfl⟩
    ·rw[if_pos h3] at d;have u1:(M != 0)=true:=by simpa using h3
     have A:=hid d;clear d;go_wp2_with fail;refine(E _).mono ?_;rintro e z ⟨rfl,rfl⟩;go_wp2_with fail;refine(F _).mono ?_;rintro e z ⟨rfl,rfl⟩;go_wp2_with fail
     go_ret3
     exact⟨by rw[A.out];rfl,rfl⟩
  ·rw[if_pos h1] at d;have u1:(L != 0)=true:=by simpa using h1
   have A:=hid d;clear d F;go_wp2_with fail;refine(E _).mono ?_;rintro e z ⟨rfl,rfl⟩;go_wp2_with fail
   go_ret3
   exact⟨by rw[A.out];rfl,rfl⟩
theorem UE (s:List UInt8) (a:Int) (k:Nat) (h:(aZ s a k).2.2.2≠0):∀m,(aZ s a (k+m))=aZ s a k
 |0=>rfl
 |m+1=>by
  have d:=UE s a k h m;show(if(aZ s a (k+m)).2.2.2≠0 then aZ s a (k+m) else _)=_;rw[d,if_pos h]
theorem KO (s:List UInt8) (a n:Nat) (d:2<=n) (z:n<=258):eJ s (a:Int) (n:Int)=if(aZ s a n).2.2.2≠0 then([],0,(aZ s a n).2.2.2) else((aZ s a n).1,(aZ s a n).2.2.1,0):=by
 unfold eJ;rw[if_neg (by omega),eG]
theorem UF {s:List UInt8} {a n k:Nat} (d:2<=n) (z:n<=258) (A:k<=n) (h:(aZ s a k).2.2.2≠0):eJ s (a:Int) (n:Int)=([],0,(aZ s a k).2.2.2):=by
 have:=UE s a k h (n-k);rw[show k+(n-k)=n by omega] at this;rw[KO s a n d z,this,if_pos h]
theorem UG (s:List UInt8) (a:Int):aZ s a 0=([],(aE s a 5:Int),a+5,if aO s.length a 5≠0 then aO s.length a 5 else if(aE s a 5:Int)<1\/20<(aE s a 5:Int) then 3 else 0):=rfl
theorem UH {s:List UInt8} {a:Int} {k:Nat} (h:(aZ s a k).2.2.2=0):aZ s a (k+1)=
  if(eD s (aZ s a k).2.2.1 (aZ s a k).2.1).2.2≠0 then((aZ s a k).1,(aZ s a k).2.1,(aZ s a k).2.2.1,(eD s (aZ s a k).2.2.1 (aZ s a k).2.1).2.2)
  else((aZ s a k).1++[(eD s (aZ s a k).2.2.1 (aZ s a k).2.1).1],(eD s (aZ s a k).2.2.1 (aZ s a k).2.1).1,(eD s (aZ s a k).2.2.1 (aZ s a k).2.1).2.1,0):=by
 show(if(aZ s a k).2.2.2≠0 then aZ s a k else _)=_;rw[if_neg (fun q=>q h)]
def wM (w w':World) (s:List UInt8) (a n:Nat) (e:Ending):Prop:=
 ∃v,e=.returned (.tuple #[v,.int .i64 (eJ s (a:Int) (n:Int)).2.1,.int .i64 (eJ s (a:Int) (n:Int)).2.2])/\OwI w' w.heap.size v (eJ s (a:Int) (n:Int)).1/\Below w.heap.size w w'
theorem yY {w w':World} {s:List UInt8} {a n:Nat} {E:Int} (h:eJ s (a:Int) (n:Int)=([],0,E)) (d:Below w.heap.size w w'):wM w w' s a n (.returned (.tuple #[.slice none 0 0,.int .i64 0,.int .i64 E])):=by
 refine⟨.slice none 0 0,?_,?_,d⟩
 ·rw[h]
 ·rw[h];exact OwI.nil _ _
theorem aI8 (s:ByteArray) (a n:Nat) (w:World) (hs:s.size<=1000000) (ha:a<=90000000) (a7:2<=n) (a8:n<=258):
  Calls Tryz.prog 178 #[.string s,.int .i64 (a:Int),.int .i64 (n:Int)] w fun e w'=>wM w w' s.data.toList a n e:=by
 have HL:=hid (show s.data.toList.length=s.size by simp);have t1:decide ((a:Int)<0)=false:=decide_eq_false (by omega);have t2:decide ((n:Int)<2)=false:=decide_eq_false (by omega);have t3:decide ((n:Int)>258)=false:=decide_eq_false (by omega);have t4:decide ((258:Int)<(n:Int))=false:=decide_eq_false (by omega);have a0:=hid (fun k hk=>UF (s:=s.data.toList) (a:=a) (k:=k) a7 a8 hk);have b3:=hid (KO s.data.toList a n a7 a8);have d:=UG s.data.toList (a:Int);rw[HL.out] at d;have I:=oP s (a:Int) 5 w hs (by decide) (by omega) (by omega)
 have a5:=iA s.data.toList (a:Int) 5;have M:=fQ (n:=s.size) (at':=(a:Int)) (k:=5);obtain⟨E,hE⟩:∃E,E=aO s.size (a:Int) 5:=⟨_,rfl⟩;obtain⟨V,hV⟩:∃V,V=aE s.data.toList (a:Int) 5:=⟨_,rfl⟩;rw[<-hE,<-hV] at d I;rw[<-hV] at a5;rw[<-hE] at M;have c0:V<32:=a5;clear hE hV a5
 by_cases O:E=0
 rotate_left
 ·have u1:(E != 0)=true:=by simpa using O
  rw[if_pos O] at d;have z:=hid (a0.out 0 (by omega) (by rw[d];exact O));rw[d] at z;clear d M;go_enter Tryz.func178,Tryz.ntmps178;go_wp2_with fail;refine I.mono ?_;rintro e F ⟨rfl,rfl⟩;go_wp2_with fail
  go_ret3
  exact yY z.out (aB _ _)
 ·subst O;rw[if_neg (fun k=>k rfl)] at d;have M:=M rfl;have m1:aI.wrap (V:Int)=(V:Int):=by rw[aM];omega
  have m2:aI.wrap ((a:Int)+5)=(a:Int)+5:=by rw[aM];omega
  by_cases a9:(V:Int)<1\/20<(V:Int)
  ·rw[if_pos a9] at d;have z:=hid (a0.out 0 (by omega) (by rw[d];exact(by decide:(3:Int)≠0)));rw[d] at z;clear d
   by_cases b0:(V:Int)<1
   ·have u1:decide ((V:Int)<1)=true:=decide_eq_true b0;have u2:V<1:=by omega
    have u3:V=0:=by omega
    go_enter Tryz.func178,Tryz.ntmps178;go_wp2_with fail;refine I.mono ?_;rintro e F ⟨rfl,rfl⟩;go_wp2_with fail
    go_ret3
    exact yY z.out (aB _ _)
   ·have u1:decide ((V:Int)<1)=false:=decide_eq_false b0;have u2:decide ((V:Int)>20)=true:=decide_eq_true (by omega);have u3:decide ((20:Int)<(V:Int))=true:=decide_eq_true (by omega);go_enter Tryz.func178,Tryz.ntmps178;go_wp2_with fail;refine I.mono ?_;rintro e F ⟨rfl,rfl⟩;go_wp2_with fail
    go_ret3
    exact yY z.out (aB _ _)
  ·rw[if_neg a9] at d;have u1:decide ((V:Int)<1)=false:=decide_eq_false (by omega);have u2:decide ((V:Int)>20)=false:=decide_eq_false (by omega);have u3:decide ((20:Int)<(V:Int))=false:=decide_eq_false (by omega);have J:=hid d;clear d;go_enter Tryz.func178,Tryz.ntmps178;go_wp2_with fail;refine I.mono ?_;rintro e F ⟨rfl,rfl⟩;go_wp2_with fail
   go_loopg [11,12,13,14,15,16,17] n (fun g b4 b5 b6 b7 _s15 _s16 _s17 wr=>∃(k p:Nat) (m:Int),k<=n/\g=n-k/\b7=.int .i64 (k:Int)/\b4=.int .i64 m/\b5=.int .i64 (p:Int)/\1<=m/\m<=20/\p<=90000005/\Hid ((aZ s.data.toList (a:Int) k).2.2.2=0/\(aZ s.data.toList (a:Int) k).2.1=m/\(aZ s.data.toList (a:Int) k).2.2.1=(p:Int)/\(aZ s.data.toList (a:Int) k).1.length=k)/\OwI wr F.heap.size b6 (aZ s.data.toList (a:Int) k).1/\Below F.heap.size F wr)
   case atStart=>exact⟨0,a+5,(V:Int),aU _,rfl,rfl,rfl,by go_num,by omega,by omega,by omega,hid ⟨by rw[J.out],by rw[J.out],by rw[J.out];push_cast;rfl,by rw[J.out];rfl⟩,by rw[J.out];exact OwI.nil _ _,aB _ _⟩
   case round=>
    obtain⟨k,p,m,hk,hg,rfl,rfl,rfl,b1,b2,c1,G,ho,T⟩:=hrel;have HG:=hid hg;clear hg;have b8:=T.size
    by_cases c2:k<n
    ·have v1:decide ((k:Int)<(n:Int))=true:=decide_eq_true (by omega);have A:=UH G.out.1;rw[G.out.2.1,G.out.2.2.1] at A;have U:=fun W=>aI7 s p m W hs (by omega) b1 b2
     have H:=DA s.data.toList (8*s.data.toList.length+2) (p:Int) m (by omega) b1 b2;rw[HL.out] at H;rw[show iB s.data.toList (8*s.size+2) (p:Int) m=eD s.data.toList (p:Int) m by unfold eD;rw[HL.out]] at H;obtain⟨Y,Z,q3,hq⟩:∃Y Z q3,eD s.data.toList (p:Int) m=(Y,Z,q3):=⟨_,_,_,rfl⟩;rw[hq] at A U H;simp only at A U H;clear hq
     by_cases hq3:q3=0
     ·subst hq3;rw[if_neg (fun k=>k rfl)] at A;obtain⟨a1,a2,a3,a4⟩:=H rfl;obtain⟨pp,rfl⟩:∃pp:Nat,Z=(pp:Int):=⟨Z.toNat,by omega⟩;have L:=hid A;clear A;have c3:(aZ s.data.toList (a:Int) k).1.length<=258:=by rw[G.out.2.2.2];omega
      go_wp2_with fail;refine(U _).mono ?_;rintro e w3 ⟨rfl,rfl⟩;go_wp2_with (at_builtin;refine eN rfl _ _ rfl F.heap.size _ _ rfl (OwI.alloc ho _) _ Y rfl (bS _ _ _) ?_ ?_ ?_;(omega);(simp;omega);intro v4 w4 r1 r2 r3);have hg:=HG.out
      go_roundg (n-(k+1))
      case measure=>omega
      case rel=>exact⟨k+1,pp,Y,by omega,rfl,by go_num,rfl,rfl,a1,a2,by omega,hid ⟨by rw[L.out],by rw[L.out],by rw[L.out],by rw[L.out,aL,G.out.2.2.2];rfl⟩,by rw[L.out];exact r1,(T.alloc b8 _).trans r2⟩
     ·rw[if_pos hq3] at A;have v2:(q3 != 0)=true:=by simpa using hq3
      have z:=hid (a0.out (k+1) (by omega) (by rw[A];exact hq3));rw[A] at z;clear A H;go_wp2_with fail;refine(U _).mono ?_;rintro e w3 ⟨rfl,rfl⟩;go_wp2_with fail
      go_ret3
      exact yY z.out T
    ·have v1:decide ((k:Int)<(n:Int))=false:=decide_eq_false (by omega);have b9:k=n:=by omega
     subst b9;have a6:=b3.out;rw[if_neg (fun q=>q G.out.1),G.out.2.2.1] at a6;have z:=hid a6;clear a6;go_wp2_with fail
     go_ret3
     exact⟨_,by rw[z.out];rfl,by rw[z.out];exact ho,T⟩
def oU (s:List UInt8) (k j:Nat):List Bool:=(dG j).map (fun i=>dB s (16*k+i))
theorem VC (s:List UInt8) (k j:Nat):oU s k (j+1)=oU s k j++[dB s (16*k+j)]:=by unfold oU;rw[sF,fI];rfl
theorem VD (s:List UInt8) (k j:Nat):(oU s k j).length=j:=by simp[oU]
theorem LC (s:List UInt8) (k:Nat):oU s k 16=eQ s k:=rfl
theorem VE (l:List Bool) (b:Bool):(l++[b]).any id=(l.any id||b):=by simp
theorem aJo (s:ByteArray) (k:Nat) (w:World) (hs:s.size<=140737488355328) (hk:k<16):
  Calls Tryz.prog 107 #[.string s,.int .i64 (k:Int)] w fun e w'=>∃v,e=.returned (.tuple #[v,.bool (iT s.data.toList k)])/\OwI w' w.heap.size v (bI (eQ s.data.toList k))/\Below w.heap.size w w':=by
 obtain⟨q,U⟩:∃q,q=16*k:=⟨_,rfl⟩;have m1:aI.wrap (16*(k:Int))=(q:Int):=by rw[aM];omega
 have a5:16*(k:Int)=(q:Int):=by omega
 obtain⟨d,hq2⟩:∃d,d=q+16:=⟨_,rfl⟩;have m2:aI.wrap ((q:Int)+16)=(d:Int):=by rw[aM];omega
 have a6:(q:Int)+16=(d:Int):=by omega
 have HQ:=hid U;have a7:=hid hq2;have a8:d<=256:=by omega
 have z:d=q+16:=hq2;have a1:=hid z;clear U hq2 z;go_enter Tryz.func107,Tryz.ntmps107;go_wp2_with fail
 go_loopg [6,7,8,9] 16 (fun g s6 s7 s8 _s9 wr=>∃(j c:Nat) (T:Bool),j<=16/\g=16-j/\s8=.int .i64 (c:Int)/\s7=.bool T/\Hid (c=q+j)/\Hid (T=(oU s.data.toList k j).any id)/\OwI wr w.heap.size s6 (bI (oU s.data.toList k j))/\Below w.heap.size w wr)
 case atStart=>exact⟨0,q,false,by omega,rfl,rfl,rfl,hid rfl,hid rfl,OwI.nil _ _,aB _ _⟩
 case round=>
  obtain⟨j,c,T,hj,A,rfl,rfl,I,HT,E,F⟩:=hrel;have V:=hid A;clear A;have J:=I.out;have z:=a1.out
  by_cases a9:j<16
  ·have t1:decide ((c:Int)<(d:Int))=true:=decide_eq_true (by omega);have t2:decide (c<d)=true:=decide_eq_true (by omega);have a2:c<256:=by omega
   have Y:(bI (oU s.data.toList k j)).length=j:=by rw[cN,VD]
   have Z:=fun W=>UU s c W hs a2
   have a0:=F.size;have G:=hid (VC s.data.toList k j);obtain⟨h,L⟩:∃h,h=dB s.data.toList c:=⟨_,rfl⟩;rw[<-L] at Z;have H:=hid (show dB s.data.toList (16*k+j)=h by rw[L,J,HQ.out]);have b0:aI.wrap ((c:Int)+1)=((c+1:Nat):Int):=by rw[aM];omega
   clear L J z;go_wp2_with fail;refine(Z _).mono ?_;rintro e w1 ⟨rfl,rfl⟩
   cases h with
   |true=>
    go_wp2_with (at_builtin;refine eN rfl _ _ rfl w.heap.size _ _ rfl (E.alloc _) w1.heap.size (1:Int) rfl ?_ ?_ ?_ ?_;(exact bS _ _ _);(rw[Y];omega);(simp;omega);intro v' w2 M O a3);have A:=V.out
    go_roundg (16-(j+1))
    case measure=>omega
    case rel=>exact⟨j+1,c+1,true,by omega,rfl,by go_num,rfl,hid (by have:=I.out;omega),hid (by rw[G.out,H.out,VE,Bool.or_true]),by rw[G.out,H.out,gB];exact M,(F.alloc a0 _).trans O⟩
   |false=>
    go_wp2_with (at_builtin;refine eN rfl _ _ rfl w.heap.size _ _ rfl (E.alloc _) w1.heap.size (0:Int) rfl ?_ ?_ ?_ ?_;(exact bS _ _ _);(rw[Y];omega);(simp;omega);intro v' w2 M O a3);have A:=V.out
    go_roundg (16-(j+1))
    case measure=>omega
    case rel=>exact⟨j+1,c+1,T,by omega,rfl,by go_num,rfl,hid (by have:=I.out;omega),hid (by rw[G.out,H.out,VE,Bool.or_false];exact HT.out),by rw[G.out,H.out,gB];exact M,(F.alloc a0 _).trans O⟩
  ·have t1:decide ((c:Int)<(d:Int))=false:=decide_eq_false (by omega);have t2:decide (c<d)=false:=decide_eq_false (by omega);have a4:j=16:=by omega
   subst a4;rw[LC] at E;have HF:=hid (show T=iT s.data.toList k by rw[HT.out,LC];rfl);clear J z;go_wp2_with fail
   go_ret2
   exact⟨_,by rw[HF.out];rfl,E,F⟩
def pT (a b:Value):Prop:=a.ownBlock=none\/b.ownBlock=none\/a.ownBlock≠b.ownBlock
theorem pT.symm {a b:Value} (h:pT a b):pT b a:=by
 rcases h with h|h|h
 ·exact .inr (.inl h)
 ·exact .inl h
 ·exact .inr (.inr (fun e=>h e.symm))
theorem pT.keeps {a b:Value} (h:pT a b):b.ownBlock=none\/b.ownBlock≠a.ownBlock:=by
 rcases h with h|h|h
 ·cases d:b.ownBlock with
  |none=>exact .inl rfl
  |some k=>right;rw[h];simp
 ·exact .inl h
 ·exact .inr (fun e=>h e.symm)
theorem pT.left {w:World} {B:Nat} {a d b:Value} {l:List Int} (h:pT a b) (A:OwI w B b l) (E:d.ownBlock=a.ownBlock\/d.ownBlock=some w.heap.size):pT d b:=by
 rcases E with e|e
 ·unfold pT at h ⊢;rw[e];exact h
 ·right
  cases F:b.ownBlock with
  |none=>exact .inl rfl
  |some k=>
   right
   rw[e];have:=(Ow.lt A k F).2;intro z
   injection z with z
   omega
def lU (s:List UInt8) (k:Nat):List Bool:=(dG k).map (iT s)
theorem VF (s:List UInt8) (k:Nat):lU s (k+1)=lU s k++[iT s k]:=by unfold lU;rw[sF,fI];rfl
theorem zC (s:List UInt8) (k:Nat):(lU s k).length=k:=by simp[lU]
theorem LD (s:List UInt8) (k:Nat):eX s (k+1)=eX s k++if iT s k then eQ s k else[]:=rfl
theorem aJp {s:List UInt8} (h:s≠[]):0<(eX s 16).length:=by
 have z:=VB h;rw[Ne,yD,Bool.not_eq_false,List.any_eq_true] at z;obtain⟨b,A,d⟩:=z;unfold nB at A;obtain⟨k,E,rfl⟩:=dU.1 A;rw[jF] at E;obtain⟨m,F⟩:=VA s (k+1) (by omega);have d:iT s k=true:=d;rw[F,LD,d,if_pos rfl];simp only[aL,sR];omega
theorem aJq {w w':World} {B:Nat} {a v:Value} {l m:List Int} (h:OwI w B a l) (A:OwI w' w.heap.size v m):pT a v:=by
 cases d:a.ownBlock with
 |none=>exact .inl d
 |some k=>
  cases z:v.ownBlock with
  |none=>exact .inr (.inl z)
  |some j=>
   right;right
   rw[d,z];have E:=(Ow.lt h k d).2;have F:=(Ow.lt A j z).1;intro e
   injection e with e
   omega
theorem VG (w:World) (x:Int):RdI (w.alloc (.cells #[.int .i64 x] 3)) (.slice (some ⟨w.heap.size,0,none⟩) 1 1) [x]:=xY w 3 [.int .i64 x] 1 rfl (by decide)
theorem aJr (s:ByteArray) (w:World) (hs:s.size<=1000000) (h0:s.data.toList≠[]):
  Calls Tryz.prog 44 #[.string s] w fun e w'=>e=.returned (eL (fZ s.data.toList))/\Below w.heap.size w w':=by
 have H0:=hid (aJp h0);have a1:=hid (fun k=>CC s.data.toList k);clear h0;go_enter Tryz.func44,Tryz.ntmps44;go_wp2_with fail;have V:=Arr.new w 29 [.string ⟨#[]⟩,.int .i64 0];change Arr (w.alloc (.cells #[.string ⟨#[]⟩,.int .i64 0] 29)) _ _ _ at V;have c0:(w.alloc (.cells #[.string ⟨#[]⟩,.int .i64 0] 29)).heap.size=w.heap.size+1:=by simp
 have a2:Below w.heap.size w (w.alloc (.cells #[.string ⟨#[]⟩,.int .i64 0] 29)):=bD (aB _ _) _;generalize w.alloc (.cells #[.string ⟨#[]⟩,.int .i64 0] 29)=w0 at*
 go_loopg [3,4,5,6,7] 16 (fun g s3 s4 s5 _s6 _s7 wr=>∃k:Nat,k<=16/\g=16-k/\s5=.int .i64 (k:Int)/\OwI wr (w.heap.size+1) s3 (bI (lU s.data.toList k))/\OwI wr (w.heap.size+1) s4 (bI (eX s.data.toList k))/\pT s3 s4/\Below (w.heap.size+1) w0 wr)
 case atStart=>exact⟨0,by omega,rfl,rfl,OwI.nil _ _,OwI.nil _ _,.inl rfl,aB _ _⟩
 case round=>
  obtain⟨k,hk,I,rfl,E,J,L,F⟩:=hrel;have HG:=hid I;clear I;have c1:=F.size
  by_cases b1:k<16
  ·have t1:decide ((k:Int)<16)=true:=decide_eq_true (by omega);have a3:=fun W=>aJo s k W (by omega) b1
   have M:(bI (lU s.data.toList k)).length=k:=by rw[cN,zC]
   have b2:(bI (eX s.data.toList k)).length<=16*k:=by rw[cN];exact a1.out k
   have a4:(bI (eQ s.data.toList k)).length=16:=by rw[cN,sR]
   have Y:=hid (VF s.data.toList k);have Z:=hid (LD s.data.toList k);obtain⟨T,hT⟩:∃T,T=iT s.data.toList k:=⟨_,rfl⟩;rw[<-hT] at a3 Y Z;clear hT;go_wp2_with fail;refine(a3 _).mono ?_;rintro e w1 ⟨v,rfl,a5,O⟩;have a6:=OwI.below E O (aA _);have U:=OwI.below J O (aA _);have c2:=O.size;have a7:=F.trans (O.mono (by omega));have b3:=aJq E a5;clear E J
   cases T with
   |true=>
    go_wp2_with (first
     |(at_builtin;refine kG rfl _ _ rfl (w.heap.size+1) _ _ [1] rfl (OwI.alloc a6 _) _ rfl (VG w1 1) (by decide) ?_ ?_ ?_;(rw[M];show(k+1)*8<=_;omega);(simp;omega);intro v3 w3 z d A G;(have b4:=Ow.kept (OwI.alloc U (.cells #[.int .i64 1] 3)) A L.keeps);(have b5:=(Ow.kept (OwI.alloc a5 (.cells #[.int .i64 1] 3)) A b3.keeps));(have a8:=L.left (OwI.alloc U (.cells #[.int .i64 1] 3)) G);(have b6:=d.size))
     |(at_builtin;refine kG rfl _ _ rfl (w.heap.size+1) _ _ (bI (eQ s.data.toList k)) rfl b4 v rfl (OwI.rd b5) ?_ ?_ ?_ ?_;(rw[a4];decide);(rw[a4];omega);(simp at b6;omega);intro v4 w4 r1 r2 r3 r4))
    have I:=HG.out
    go_roundg (16-(k+1))
    case measure=>omega
    case rel=>exact⟨k+1,by omega,rfl,by go_num,by rw[Y.out,gB];exact Ow.kept z r3 a8.symm.keeps,by rw[Z.out,if_pos trivial,gB];exact r1,(a8.symm.left z r4).symm,((a7.alloc (by omega) _).trans d).trans r2⟩
   |false=>
    go_wp2_with (at_builtin;refine kG rfl _ _ rfl (w.heap.size+1) _ _ [0] rfl (OwI.alloc a6 _) _ rfl (VG w1 0) (by decide) ?_ ?_ ?_;(rw[M];show(k+1)*8<=_;omega);(simp;omega);intro v3 w3 z d A G);have I:=HG.out
    go_roundg (16-(k+1))
    case measure=>omega
    case rel=>exact⟨k+1,by omega,rfl,by go_num,by rw[Y.out,gB];exact z,by rw[Z.out,if_neg (by decide),eE];exact Ow.kept (OwI.alloc U (.cells #[.int .i64 0] 3)) A L.keeps,L.left (OwI.alloc U (.cells #[.int .i64 0] 3)) G,(a7.alloc (by omega) _).trans d⟩
  ·have t1:decide ((k:Int)<16)=false:=decide_eq_false (by omega);have b7:k=16:=by omega
   subst b7;have M:(bI (lU s.data.toList 16)).length=16:=by rw[cN,zC]
   have b2:(bI (eX s.data.toList 16)).length<=16*16:=by rw[cN];exact a1.out 16
   have b8:0<(bI (eX s.data.toList 16)).length:=by rw[cN];exact H0.out
   have a9:=OwI.rd J;go_wp2_with (at_builtin;refine kG rfl _ _ rfl (w.heap.size+1) _ _ (bI (eX s.data.toList 16)) rfl E _ rfl a9 b8 ?_ ?_ ?_;(rw[M];omega);(omega);intro v5 w5 z d A G);have hm:bI (lU s.data.toList 16)++bI (eX s.data.toList 16)=bI (fZ s.data.toList):=by rw[<-gB];rfl
   rw[hm] at z;have c3:=CD s.data.toList;refine(uG v5 (fZ s.data.toList) w5 (OwI.rd z) (by omega)).mono ?_;rintro e w6 ⟨rfl,a0⟩;have H:=((V.below F (by omega)).below d (by omega)).below a0 (by have:=d.size;omega);have b9:Below w.heap.size w w6:=((a2.trans (F.mono (by omega))).trans (d.mono (by omega))).trans (a0.mono (by have:=d.size;omega));have d0:=H.cell (i:=0) rfl;have d1:=H.cell (i:=1) rfl;have f0:=H.free 0;have f1:=H.free 1;clear V hm a0 z d A G E J a9 F a2;generalize b0:fZ s.data.toList=m at*
   have HM:=hid b0;clear b0;go_wp2_with fail;have z0:Arr ((w6.setCell ⟨w.heap.size,0,none⟩ (.string (mkS (aD m)))).setCell ⟨w.heap.size,1,none⟩ (.int .i64 (m.length:Int))) w.heap.size 29 [.string (mkS (aD m)),.int .i64 (m.length:Int)]:=(H.set 0 _).set 1 _;refine gJ (results_cell_row rfl _ _ w.heap.size _ _ (0,0) _ rfl z0 Tryz.underlying29 rfl mF) rfl ?_;exact⟨by rw[HM.out];rfl,(b9.setCell (p:=⟨w.heap.size,0,none⟩) (aA _) _).setCell (p:=⟨w.heap.size,1,none⟩) (aA _) _⟩
end
section
open Go.RowKit
theorem wV (l:List Bool) (w:World) (Z:l.length<=1000000):
  Calls Tryz.prog 43 #[.agg #[.string (mkS (aD l)),.int .i64 (l.length:Int)]] w fun e w'=>∃v,e=.returned v/\RdI w' v (bI l)/\Below w.heap.size w w':=by
 go_enter Tryz.func43,Tryz.ntmps43;go_wp2_with fail;have z:=Arr.new w 29 [.string (mkS (aD l)),.int .i64 (l.length:Int)];have I:Below w.heap.size w (w.alloc (.cells #[.string (mkS (aD l)),.int .i64 (l.length:Int)] 29)):=bD (aB _ _) _;change Arr (w.alloc (.cells #[.string (mkS (aD l)),.int .i64 (l.length:Int)] 29)) _ _ _ at z;generalize w.alloc (.cells #[.string (mkS (aD l)),.int .i64 (l.length:Int)] 29)=w0 at*
 have a0:(aD l).length<=125001:=by rw[gY];omega
 refine(aD7 (mkS (aD l)) _ (by rw[cP];omega)).mono ?_;rintro e J ⟨v,rfl,d,F⟩;rw[fW] at d;obtain⟨a,c,rfl,a1,a2,_⟩:=d.rd.open;have L:=z.below F z.lt;have c1:=L.cell (i:=1) rfl;have a3:(bI (kW (aD l))).length=8*((l.length+7)/8):=by rw[cN,xZ,gY]
 have A:(bI (kW (aD l))).take l.length=bI l:=by rw[aD5,aDl]
 have M:RdI J (.slice a l.length c) (bI l):=by
  have a4:l.length=(bI l).length:=(cN l).symm;rw[<-A];have O:=d.rd;obtain⟨a',c',e,k1,G,T⟩:=O.open
  injection e with e1 e2 e3
  subst e1;subst e3;rcases Nat.eq_zero_or_pos l.length with q|q
  ·rw[q];exact⟨_,_,rfl,aU _,G,.inl (by simp)⟩
  ·obtain⟨b,off,rfl,U,V⟩:=T (by omega);have E:((bI (kW (aD l))).take l.length).length=l.length:=by rw[A,cN]
   refine⟨_,_,by rw[E],by rw[E];omega,G,.inr ⟨b,off,rfl,U,fun j H=>?_⟩⟩;rw[bJ,E] at H;rw[V j _ (aN (by omega))];simp[List.getD,show j<(bI (kW (aD l))).length by omega,H]
 have Y:=bV I F;have z1:l.length<=c:=by omega
 have z2:(l.length:Int)<=(c:Int):=by omega
 clear A d;go_wp2_with fail;go_ret;exact⟨_,rfl,M,Y⟩
end
section
open Go.RowKit Go Go.Shelf
theorem ZL (n:Nat) (w:World) (d:2<=n) (z:n<=258):Calls Tryz.prog 90 #[.int .i64 (n:Int)] w fun e w'=>e=.returned (.bool true)/\w'=w:=by
 have t1:decide ((n:Int)>=2)=true:=decide_eq_true (by omega);have A:decide ((2:Int)<=(n:Int))=true:=decide_eq_true (by omega);have E:decide ((n:Int)<=258)=true:=decide_eq_true (by omega);go_enter Tryz.func90,Tryz.ntmps90;go_wp2;go_ret;exact⟨rfl,rfl⟩
theorem ZM (x:Int) (w:World):Calls Tryz.prog 92 #[.int .i64 x] w fun e w'=>e=.returned (.bool (decide (1<=x)&&decide (x<=20)))/\w'=w:=by
 by_cases d:1<=x
 ·have t1:decide (x>=1)=true:=decide_eq_true d;have A:decide (1<=x)=true:=decide_eq_true d
  by_cases z:x<=20
  ·have E:decide (x<=20)=true:=decide_eq_true z;go_enter Tryz.func92,Tryz.ntmps92;go_wp2;go_ret;exact⟨by first|rfl|(simp[d,z]),rfl⟩
  ·have E:decide (x<=20)=false:=decide_eq_false z;go_enter Tryz.func92,Tryz.ntmps92;go_wp2;go_ret;exact⟨by first|rfl|(simp[d,z]),rfl⟩
 ·have t1:decide (x>=1)=false:=decide_eq_false d;have A:decide (1<=x)=false:=decide_eq_false d;go_enter Tryz.func92,Tryz.ntmps92;go_wp2;go_ret;exact⟨by first|rfl|(simp[d]),rfl⟩
theorem aPj (x:Int) (w:World):Calls Tryz.prog 91 #[.int .i64 x] w fun e w'=>e=.returned (.bool (!(decide (1<=x)&&decide (x<=20))))/\w'=w:=by
 have h:=ZM x;obtain⟨b,d⟩:∃b,b=(decide (1<=x)&&decide (x<=20)):=⟨_,rfl⟩;rw[<-d];rw[<-d] at h;clear d;go_enter Tryz.func91,Tryz.ntmps91;go_wp2_with fail;refine(h _).mono ?_;rintro e w' ⟨rfl,rfl⟩;go_wp2;go_ret;exact⟨rfl,rfl⟩
def qR (w:World) (b:Nat) (D:List Bool):Prop:=Arr w b 29 [.string (mkS (aD D)),.int .i64 (D.length:Int)]
theorem qR.set {w:World} {b:Nat} {D:List Bool} (h:qR w b D) (E:List Bool):qR ((w.setCell ⟨b,0,none⟩ (.string (mkS (aD E)))).setCell ⟨b,1,none⟩ (.int .i64 (E.length:Int))) b E:=(Arr.set h 0 _).set 1 _
theorem ZN (v:Value) (l:List Int) (w:World) (hr:RdI w v l) (d2:fY l):
  Calls Tryz.prog 34 #[v] w fun e w'=>e=.returned (.tuple #[eL (dW l),.int .i64 0])/\Below w.heap.size w w':=by
 obtain⟨d3,d4,U⟩:=d2;have b7:∀W,Below w.heap.size w W->Calls Tryz.prog 85 #[v,.func (.func 91) #[] #[]] W fun e w'=>e=.returned (.bool false)/\w'=W:=fun W hW=>
  (uN 91 #[] (fun x=> !(decide (1<=x)&&decide (x<=20))) v l W (hr.below hW) (enters_of Tryz.func91 (by kernel_rfl) rfl) (fun W _ x _=>aPj x W)).mono fun e w' ⟨h1,h2⟩=>by
  rw[oN (fun x I=>by have:=U x I;simp;omega)] at h1;exact⟨h1,h2⟩
 have d5:=hid (fun k=>CZ (l.take k) (l.getD 0 0) (by
  rw[aV,aN (show 0<l.length by omega)];exact(U _ (gT _)).1) (by
  rw[aV,aN (show 0<l.length by omega)];exact(U _ (gT _)).2) (fun x I=>U x (nO I)))
 have b8:∀i,i<l.length->1<=l.getD i 0/\l.getD i 0<=20/\l[i]? =some (l.getD i 0):=fun i hi=>by
  rw[aV,aN hi];exact⟨(U _ (gT hi)).1,(U _ (gT hi)).2,rfl⟩
 have a9:=hid b8;clear U;have a1:=Arr.new w 29 [.string ⟨#[]⟩,.int .i64 0];have f5:(w.alloc (.cells #[.string ⟨#[]⟩,.int .i64 0] 29)).heap.size=w.heap.size+1:=by simp
 have a5:Below w.heap.size w (w.alloc (.cells #[.string ⟨#[]⟩,.int .i64 0] 29)):=bD (aB _ _) _;change Arr (w.alloc (.cells #[.string ⟨#[]⟩,.int .i64 0] 29)) _ _ _ at a1;obtain⟨a,ca,rfl,f6,d6,hA⟩:=hr.open;unfold maxLen at d6;obtain⟨V,Y,rfl,b0,b9⟩:=hA (by omega);clear hA b8 hr;go_enter Tryz.func34,Tryz.ntmps34;go_wp2_with fail;generalize w.alloc (.cells #[.string ⟨#[]⟩,.int .i64 0] 29)=w0 at*
 refine(ZL l.length _ d3 d4).mono ?_;rintro e w1 ⟨rfl,rfl⟩;go_wp2_with fail;refine(b7 _ a5).mono ?_;rintro e w2 ⟨rfl,rfl⟩;obtain⟨x1,x2,I⟩:=a9.out 0 (by omega);have b2:∀j x,l[j]? =some x->w2.cell? ⟨V,Y+j,none⟩=some (.int .i64 x):=fun j x hj=>((lP a5).1 V (Y+j) b0).trans (b9 j x hj)
 have c0:=b2 0 _ I;rw[pH] at c0;obtain⟨y,hy⟩:∃y:Nat,l.getD 0 0=(y:Int):=⟨(l.getD 0 0).toNat,by omega⟩;have HY:=hid hy;rw[hy] at c0 x1 x2;have y1:y<18446744073709551616:=by omega
 have m1:fU.wrap (y:Int)=(y:Int):=by rw[gF];omega
 have m2:(y:Int)%18446744073709551616=(y:Int):=by omega
 have z1:0<l.length:=by omega
 have z2:(0:Int)<(l.length:Int):=by omega
 have J:=a1.cell (i:=0) rfl;have M:=a1.cell (i:=1) rfl;clear hy I b7 b9;go_wp2_with fail;refine(uH [] y 5 _ y1 (by decide) (by decide)).mono ?_;rintro e Z ⟨rfl,a2⟩;unfold eL;rw[List.nil_append];have a0:=a1.below a2 (by omega);have c2:=a5.trans (a2.mono (by omega));have c3:∀j x,l[j]? =some x->Z.cell? ⟨V,Y+j,none⟩=some (.int .i64 x):=fun j x hj=>((lP a2).1 V (Y+j) (by omega)).trans (b2 j x hj)
 have f7:=a2.size;have e0:=a0.cell (i:=0) rfl;have e1:=a0.cell (i:=1) rfl;have f0:=a0.free 0;have f1:=a0.free 1;clear a1 a5 b2 c0 J M;obtain⟨D,hD⟩:∃D,D=aY y 5:=⟨_,rfl⟩;rw[<-hD];have HD:=hid hD;clear hD;go_wp2_with fail;have c4:qR ((Z.setCell ⟨w.heap.size,0,none⟩ (.string (mkS (aD D)))).setCell ⟨w.heap.size,1,none⟩ (.int .i64 (D.length:Int))) w.heap.size D:=(a0.set 0 _).set 1 _
 have a6:Below w.heap.size Z ((Z.setCell ⟨w.heap.size,0,none⟩ (.string (mkS (aD D)))).setCell ⟨w.heap.size,1,none⟩ (.int .i64 (D.length:Int))):=((aB w.heap.size Z).setCell (p:=⟨w.heap.size,0,none⟩) (aA _) _).setCell (p:=⟨w.heap.size,1,none⟩) (aA _) _;generalize (Z.setCell ⟨w.heap.size,0,none⟩ (.string (mkS (aD D)))).setCell ⟨w.heap.size,1,none⟩ (.int .i64 (D.length:Int))=w4 at*
 have d7:=hid (fun j x hj=>(a6.cell (p:=⟨V,Y+j,none⟩) b0).trans (c3 j x hj));have d8:=c2.trans a6;have f8:=a6.size;have a7:=fun(L:List Bool) (v n:Nat) W h1 h2 h3=>uH L v n W h1 h2 h3
 unfold eL at a7;clear e0 e1 f0 f1 a0 c3 a2 c2 a6
 go_loopg [4,6,28] l.length (fun g s4 _s6 d9 wx=>∃(i:Nat) (p:Int),i<=l.length/\g=l.length-i/\d9=.int .i64 (i:Int)/\s4=.int .i64 p/\p=l.getD (i-1) 0/\qR wx w.heap.size (aY y 5++eI (l.getD 0 0) (l.take i))/\Below w.heap.size w4 wx)
 case atStart=>exact⟨0,(y:Int),aU _,rfl,rfl,rfl,HY.out.symm,by rw[<-HD.out];simpa [eI] using c4,aB _ _⟩
 case round=>
  obtain⟨i,p,hi,O,rfl,rfl,c5,d,a8⟩:=hrel;have e2:=hid O;clear O c4;have f9:=a8.size;have c6:=d5.out i;rw[aX,gU hi] at c6;obtain⟨E,hE⟩:∃E,E=aY y 5++eI (l.getD 0 0) (l.take i):=⟨_,rfl⟩;have g0:E.length<=5+39*i:=by rw[hE,aL,cY];omega
  rw[<-hE] at d;have HE:=hid hE;clear hE c6
  by_cases e3:i<l.length
  ·have u2:decide ((i:Int)<(l.length:Int))=true:=decide_eq_true (by omega);obtain⟨e4,e5,I⟩:=a9.out i e3;obtain⟨p1,p2,hp⟩:=a9.out (i-1) (by omega);have c1:=(a8.cell (p:=⟨V,Y+i,none⟩) b0).trans (d7.out i _ I);have a3:=TP I;have c7:=hid (show l.getD (i+1-1) 0=l.getD i 0 by rw[jZ]);obtain⟨x,c8⟩:∃x,x=l.getD i 0:=⟨_,rfl⟩;rw[<-c8] at e4 e5 c1 a3 c7;rw[<-c5] at p1 p2 a3;obtain⟨A,b3⟩:∃A,A=(x-p).toNat:=⟨_,rfl⟩;obtain⟨B,b4⟩:∃B,B=(p-x).toNat:=⟨_,rfl⟩
   have c9:jU p x=(bB A [true,false]).flatten++(bB B [true,true]).flatten++[false]:=by unfold jU;rw[b3,b4]
   rw[c9] at a3;have e6:=hid (show aY y 5++eI (l.getD 0 0) (l.take (i+1))=E++((bB A [true,false]).flatten++(bB B [true,true]).flatten++[false]) by rw[a3,HE.out];simp only[cF]);have HA:=hid b3;have e7:=hid b4;have g1:A<=20:=by omega
   have g2:B<=20:=by omega
   clear c8 c5 a3 I hp b3 b4 c9;go_wp2_with fail
   go_loopg [4] A (fun g s4 wy=>∃c:Nat,c<=A/\g=A-c/\s4=.int .i64 (p+(c:Int))/\qR wy w.heap.size (E++(bB c [true,false]).flatten)/\Below w.heap.size w4 wy)
   case atStart=>exact⟨0,aU _,rfl,by rw[OF,Int.add_zero],by simpa using d,a8⟩
   case round=>
    clear d;obtain⟨c,e8,O,rfl,d,b5⟩:=hrel;have e9:=hid O;clear O;obtain⟨F,hF⟩:∃F,F=E++(bB c [true,false]).flatten:=⟨_,rfl⟩;have g3:F.length<=20000:=by rw[hF,aL,yT];omega
    rw[<-hF] at d;have HF:=hid hF;clear hF;have g4:=b5.size;have J:=Arr.cell d (i:=0) rfl;have M:=Arr.cell d (i:=1) rfl
    by_cases g5:c<A
    ·have u3:decide (p+(c:Int)<x)=true:=decide_eq_true (by have:=HA.out;omega);have m6:aI.wrap (p+(c:Int)+1)=p+(c:Int)+1:=by rw[aM];omega
     go_wp2_with fail;refine(a7 F 2 2 _ (by decide) (by decide) (by omega)).mono ?_;rintro e w5 ⟨rfl,T⟩;have z:qR w5 w.heap.size F:=Arr.below d T (by omega);have a4:=b5.trans (T.mono (by omega));obtain⟨N,G⟩:∃N,N=F++aY 2 2:=⟨_,rfl⟩;rw[<-G];have HN:=hid (show N=E++(bB (c+1) [true,false]).flatten by rw[G,HF.out,yS,<-cF];rfl);have e0:=Arr.cell z (i:=0) rfl;have e1:=Arr.cell z (i:=1) rfl;have f0:=Arr.free z 0;have f1:=Arr.free z 1;clear G d J M;go_wp2_with fail;have g6:=e9.out
     go_roundg (A-(c+1))
     case measure=>omega
     case rel=>exact⟨c+1,by omega,rfl,congrArg _ (by push_cast;omega),by rw[<-HN.out];exact z.set N,(a4.setCell (p:=⟨w.heap.size,0,none⟩) (aA _) _).setCell (p:=⟨w.heap.size,1,none⟩) (aA _) _⟩
    ·have u3:decide (p+(c:Int)<x)=false:=decide_eq_false (by have:=HA.out;omega);obtain rfl:A=c:=by omega
     obtain⟨q,hq⟩:∃q:Int,q=p+(A:Int):=⟨_,rfl⟩;have HQ:=hid (show(B=0/\q=x)\/(A=0/\q=p/\(B:Int)=p-x) by have:=HA.out;have:=e7.out;omega);have g7:1<=q/\q<=20:=by have:=HQ.out;omega
     rw[<-hq] at u3 ⊢;clear hq J M;go_wp2_with fail
     go_loopg [4] B (fun g s4 wy=>∃c:Nat,c<=B/\g=B-c/\s4=.int .i64 (q-(c:Int))/\qR wy w.heap.size (F++(bB c [true,true]).flatten)/\Below w.heap.size w4 wy)
     case atStart=>exact⟨0,aU _,rfl,by rw[OF,Int.sub_zero],by simpa using d,b5⟩
     case round=>
      clear d;obtain⟨c,e8,O,rfl,d,b6⟩:=hrel;have f2:=hid O;clear O;obtain⟨H,hH⟩:∃H,H=F++(bB c [true,true]).flatten:=⟨_,rfl⟩;have g8:H.length<=20100:=by rw[hH,aL,yT];omega
      rw[<-hH] at d;have HH:=hid hH;clear hH;have g9:=b6.size;have J:=Arr.cell d (i:=0) rfl;have M:=Arr.cell d (i:=1) rfl
      by_cases i0:c<B
      ·have v3:decide (q-(c:Int)>x)=true:=decide_eq_true (by have:=HQ.out;omega);have v4:decide (x<q-(c:Int))=true:=decide_eq_true (by have:=HQ.out;omega);have m6:aI.wrap (q-(c:Int)-1)=q-(c:Int)-1:=by rw[aM];omega
       go_wp2_with fail;refine(a7 H 3 2 _ (by decide) (by decide) (by omega)).mono ?_;rintro e w5 ⟨rfl,T⟩;have z:qR w5 w.heap.size H:=Arr.below d T (by omega);have a4:=b6.trans (T.mono (by omega));obtain⟨N,G⟩:∃N,N=H++aY 3 2:=⟨_,rfl⟩;rw[<-G];have HN:=hid (show N=F++(bB (c+1) [true,true]).flatten by rw[G,HH.out,yS,<-cF];rfl);have e0:=Arr.cell z (i:=0) rfl;have e1:=Arr.cell z (i:=1) rfl;have f0:=Arr.free z 0;have f1:=Arr.free z 1;clear G d J M;go_wp2_with fail;have i1:=f2.out
       go_roundg (B-(c+1))
       case measure=>omega
       case rel=>exact⟨c+1,by omega,rfl,congrArg _ (by push_cast;omega),by rw[<-HN.out];exact z.set N,(a4.setCell (p:=⟨w.heap.size,0,none⟩) (aA _) _).setCell (p:=⟨w.heap.size,1,none⟩) (aA _) _⟩
      ·have v3:decide (q-(c:Int)>x)=false:=decide_eq_false (by have:=HQ.out;omega);have v4:decide (x<q-(c:Int))=false:=decide_eq_false (by have:=HQ.out;omega);obtain rfl:B=c:=by omega
       have f3:=hid (show q-(B:Int)=x by have:=HQ.out;have:=HA.out;omega);go_wp2_with fail;refine(a7 H 0 1 _ (by decide) (by decide) (by omega)).mono ?_;rintro e w5 ⟨rfl,T⟩;have z:qR w5 w.heap.size H:=Arr.below d T (by omega);have a4:=b6.trans (T.mono (by omega));obtain⟨N,G⟩:∃N,N=H++aY 0 1:=⟨_,rfl⟩;rw[<-G];have HN:=hid (show N=aY y 5++eI (l.getD 0 0) (l.take (i+1)) by
        rw[G,HH.out,HF.out,e6.out];simp only[cF];rfl)
       have e0:=Arr.cell z (i:=0) rfl;have e1:=Arr.cell z (i:=1) rfl;have f0:=Arr.free z 0;have f1:=Arr.free z 1;clear G d J M;go_wp2_with fail;have i2:=e2.out
       go_roundg (l.length-(i+1))
       case measure=>omega
       case rel=>exact⟨i+1,q-(B:Int),by omega,rfl,by go_num,rfl,by rw[f3.out,c7.out],by rw[<-HN.out];exact z.set N,(a4.setCell (p:=⟨w.heap.size,0,none⟩) (aA _) _).setCell (p:=⟨w.heap.size,1,none⟩) (aA _) _⟩
  ·have u2:decide ((i:Int)<(l.length:Int))=false:=decide_eq_false (by omega);have f4:i=l.length:=by omega
   subst f4;have HF:=hid (show E=dW l by
    rw[HE.out,kE];unfold dW;rw[HY.out,eG])
   have J:=Arr.cell d (i:=0) rfl;have M:=Arr.cell d (i:=1) rfl;have f0:=Arr.free d 0;have f1:=Arr.free d 1;have hz:=d.set E;go_wp2_with fail;refine gJ (qH rfl _ _ w.heap.size _ _ (0,0) _ rfl hz Tryz.underlying29 rfl mF) rfl ?_;exact⟨by rw[<-HF.out];rfl,((d8.trans a8).setCell (p:=⟨w.heap.size,0,none⟩) (aA _) _).setCell (p:=⟨w.heap.size,1,none⟩) (aA _) _⟩
theorem ZO (s:List UInt8) (k:Nat) (w:World) (hk:k<16):
  Calls Tryz.prog 77 #[.agg (eS (dB s)).toArray,.int .i64 (k:Int)] w fun e w'=>e=.returned (.int .u64 (bY (eQ s k):Int))/\Below w.heap.size w w':=by
 obtain⟨z,O⟩:∃z,z=16*k:=⟨_,rfl⟩;have m4:aI.wrap ((k:Int)*16)=(z:Int):=by rw[aM];omega
 have m5:(k:Int)*16=(z:Int):=by omega
 have a4:z<=240:=by omega
 have a0:=hid O;clear O;have T:=Arr.new w 124 (eS (dB s));have U:Below w.heap.size w (w.alloc (.cells (eS (dB s)).toArray 124)):=bD (aB _ _) _;obtain⟨A,I⟩:∃A,A=(eS (dB s)).toArray:=⟨_,rfl⟩;rw[<-I] at T U ⊢;have a5:A.size=256:=by rw[I];exact KX _
 clear I;go_enter Tryz.func77,Tryz.ntmps77;go_wp2_with fail;generalize w.alloc (.cells A 124)=w0 at*
 go_loopg [4,5,6] 16 (fun g s4 _s5 s6 wr=>∃j V:Nat,j<=16/\g=16-j/\s6=.int .i64 (j:Int)/\s4=.int .u64 (V:Int)/\Hid (V=bY (oU s k j))/\wr=w0)
 case atStart=>exact⟨0,0,by omega,rfl,rfl,rfl,hid rfl,rfl⟩
 case round=>
  obtain⟨j,V,hj,E,rfl,rfl,J,rfl⟩:=hrel;have Y:=hid E;clear E
  by_cases a6:j<16
  ·have t1:decide ((j:Int)<16)=true:=decide_eq_true (by omega);have Z:=qE (oU s k j);rw[<-J.out,VD] at Z;have h2:2^j<=2^16:=jC (by decide) (by omega);have a7:V<65536:=by
     have:(2:Nat)^16=65536:=by decide
     omega
   clear h2 Z;obtain⟨c,hc⟩:∃c:Nat,c=z+j:=⟨_,rfl⟩;have m8:aI.wrap ((z:Int)+(j:Int))=(c:Int):=by rw[aM];omega
   have a8:(z:Int)+(j:Int)=(c:Int):=by omega
   have a1:c<256:=by omega
   have a9:(c:Int)<256:=by omega
   have c1:=T.cell (zA (dB s) c a1);obtain⟨d,hd⟩:∃d:Nat,d=2*V:=⟨_,rfl⟩;have m6:fU.wrap ((V:Int)*2)=(d:Int):=by rw[gF];omega
   have b0:(V:Int)*2%18446744073709551616=(d:Int):=by omega
   have L:=IV V true (by omega);rw[m6] at L;obtain⟨F,M⟩:∃F:Nat,F=2*V+1:=⟨_,rfl⟩;have e2:bits .or .u64 (d:Int) 1=(F:Int):=by rw[M];exact L
   have G:=hid (show bY (oU s k (j+1))=2*V+(dB s c).toNat by rw[VC,rF,<-J.out,hc,a0.out]);have HD:=hid hd;have a2:=hid M;clear hd M hc L
   cases H:dB s c with
   |true=>
    rw[H] at c1 G;clear H;go_wp2_with fail;have E:=Y.out
    go_roundg (16-(j+1))
    case measure=>omega
    case rel=>exact⟨j+1,F,by omega,rfl,by go_num,rfl,hid (by rw[G.out,a2.out];rfl),rfl⟩
   |false=>
    rw[H] at c1 G;clear H;go_wp2_with fail;have E:=Y.out
    go_roundg (16-(j+1))
    case measure=>omega
    case rel=>exact⟨j+1,d,by omega,rfl,by go_num,rfl,hid (by rw[G.out,HD.out];rfl),rfl⟩
  ·have t1:decide ((j:Int)<16)=false:=decide_eq_false (by omega);have a3:j=16:=by omega
   subst a3;have HF:=hid (show V=bY (eQ s k) by rw[J.out,LC]);go_wp2_with fail;go_ret;exact⟨fX (by rw[HF.out]),U⟩
end
end Go.Proofs.YtiifmcicleljjaaGreatDoor
