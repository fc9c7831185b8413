/-
  Rows of elements of several cells: read, owned, appended to.
-/
import Derived.Test.YtpgmbhpbgkljdaaGreatDoorZ8
set_option linter.unusedVariables false
set_option linter.unusedSimpArgs false
set_option maxRecDepth 100000
set_option maxHeartbeats 12800000
namespace Go.Proofs.YtpgmbhpbgkljdaaGreatDoor
open Go.RowKit Go Go.Shelf
abbrev RowCells:=List (List Value)
def Wide (k:Nat) (l:RowCells):Prop:=∀q∈l,q.length=k/\∀u∈q,u.oneCell'=true
theorem Wide.app {k:Nat} {l m:RowCells} (h:Wide k l) (g:Wide k m):Wide k (l++m):=fun q hq=>(List.mem_append.1 hq).elim (h q) (g q)
theorem Wide.one {k:Nat} {q:List Value} (h:q.length=k) (g:∀u∈q,u.oneCell'=true):Wide k [q]:=fun x hx=>by obtain rfl:=List.mem_singleton.1 hx;exact⟨h,g⟩
theorem flat_length {k:Nat}:∀{l:RowCells},Wide k l->l.flatten.length=l.length*k
 |[],_=>by simp
 |x::l,h=>by
  rw[List.flatten_cons,List.length_append,flat_length (l:=l) (fun q hq=>h q (List.mem_cons_of_mem _ hq)),(h x (List.mem_cons_self ..)).1,List.length_cons,Nat.succ_mul,Nat.add_comm]
theorem flat_get {k:Nat}:∀{l:RowCells},Wide k l->∀(j i:Nat) (q:List Value) (u:Value),l[j]? =some q->q[i]? =some u->l.flatten[j*k+i]? =some u
 |[],_,j,i,q,u,h,_=>by simp at h
 |x::l,hw,0,i,q,u,h,hu=>by
  obtain rfl:x=q:=by simpa using h
  have hi:=(List.getElem?_eq_some_iff.1 hu).1;rw[List.flatten_cons,Nat.zero_mul,Nat.zero_add,List.getElem?_append_left hi];exact hu
 |x::l,hw,j+1,i,q,u,h,hu=>by
  have ih:=flat_get (fun q hq=>hw q (List.mem_cons_of_mem _ hq)) j i q u (by simpa using h) hu;have hx:=(hw x (List.mem_cons_self ..)).1;rw[List.flatten_cons,List.getElem?_append_right (by rw[hx,Nat.succ_mul];omega),hx,show(j+1)*k+i-k=j*k+i by rw[Nat.succ_mul];omega];exact ih
theorem flat_cells {k:Nat} {l:RowCells} (h:Wide k l):∀u∈l.flatten,u.oneCell'=true:=fun u hu=>by
 obtain⟨q,hq,hu⟩:=List.mem_flatten.1 hu;exact(h q hq).2 u hu
structure ElR (P:Program) (t e k bytes:Nat) (z:Value):Prop where
 under:P.underlying t=some (.slice e)
 info:∃i,P.info? e=some i/\i.zero=some z/\i.size=k/\i.bytes=bytes
 cells:z.cells.size=k
 pos:1<=bytes
 some':1<=k
theorem ElR.mk' {P:Program} {t e k bytes:Nat} {z:Value} (h:(P.info? e).map (fun i=>(i.zero,i.size,i.bytes))=some (some z,k,bytes)) (hu:P.underlying t=some (.slice e)) (hc:z.cells.size=k) (hb:1<=bytes) (hk:1<=k):ElR P t e k bytes z:=by
 obtain⟨i0,hi,hz0,hz1,hz2⟩:=info_parts h;exact⟨hu,⟨i0,hi,hz0,hz1,hz2⟩,hc,hb,hk⟩
def RdR (w:World) (v:Value) (l:RowCells):Prop:=Rd w v l.length l.flatten
theorem RdR.below {w w':World} {v:Value} {l:RowCells} (h:RdR w v l) (hb:Below w.heap.size w w'):RdR w' v l:=Rd.below h hb
def OwR (w:World) (B e k:Nat) (v:Value) (l:RowCells):Prop:=w.ownsRow B e k v l.length l.flatten
theorem OwR.nil (w:World) (B e k:Nat):OwR w B e k (.slice none 0 0) []:=World.ownsRow_nil _ _ _ _
theorem OwR.alloc {w:World} {B e k:Nat} {v:Value} {l:RowCells} (h:OwR w B e k v l) (o:Obj):OwR (w.alloc o) B e k v l:=World.ownsRow.alloc h o
theorem OwR.below {w w':World} {B C e k:Nat} {v:Value} {l:RowCells} (h:OwR w B e k v l) (hb:Below C w w') (hC:w.heap.size<=C):OwR w' B e k v l:=GZ h hb hC
theorem OwR.base {w:World} {B B' e k:Nat} {v:Value} {l:RowCells} (h:OwR w B e k v l) (hb:B'<=B):OwR w B' e k v l:=IA h hb
theorem OwR.kept {w w':World} {B e k:Nat} {v:Value} {l:RowCells} {row:Option Nat} (h:OwR w B e k v l) (hg:w.grownBy w' row) (hne:v.ownBlock=none\/v.ownBlock≠row):OwR w' B e k v l:=World.ownsRow.kept h hg hne
theorem OwR.lt {w:World} {B e k:Nat} {v:Value} {l:RowCells} (h:OwR w B e k v l):∀g,v.ownBlock=some g->B<=g/\g<w.heap.size:=World.ownsRow.lt h
theorem OwR.rd {w:World} {B e k:Nat} {v:Value} {l:RowCells} (h:OwR w B e k v l):RdR w v l:=Rd.of_own h
theorem RdR.open {w:World} {v:Value} {l:RowCells} {k:Nat} (h:RdR w v l) (hw:Wide k l) (hk:1<=k):∃a cap,v=.slice a l.length cap/\l.length<=cap/\cap<=maxLen/\
  (0<l.length->∃b off,a=some ⟨b,off,none⟩/\b<w.heap.size/\∀j q i u,l[j]? =some q->q[i]? =some u->w.cell? ⟨b,off+(j*k+i),none⟩=some u):=by
 obtain⟨a,cap,rfl,h1,h2,h3⟩:=h;refine⟨a,cap,rfl,h1,h2,fun hne=>?_⟩;have hfl:=flat_length hw;rcases h3 with h3|⟨b,off,rfl,hlt,hc⟩
 ·rw[h3,List.length_nil] at hfl;have:=Nat.mul_pos hne hk;omega
 ·refine⟨b,off,rfl,hlt,fun j q i u hq hu=>?_⟩;have hf:=flat_get hw j i q u hq hu;obtain⟨hj,hx⟩:=List.getElem?_eq_some_iff.1 hf;rw[hc _ hj,List.getD_eq_getElem?_getD,hf];rfl
theorem RdR.one {w:World} {g e:Nat} {q:List Value} (h:Arr w g e q):RdR w (.slice (some ⟨g,0,none⟩) 1 1) [q]:=by
 refine⟨_,1,rfl,Nat.le_refl _,by simp[maxLen],.inr ⟨g,0,rfl,h.lt,fun j hj=>?_⟩⟩;rw[List.flatten_cons,List.flatten_nil,List.append_nil] at hj ⊢;rw[Nat.zero_add,h.cell (i:=j) (List.getElem?_eq_getElem hj),List.getD_eq_getElem?_getD,List.getElem?_eq_getElem hj];rfl
section
variable {P:Program} {t e k bytes:Nat} {z:Value}
theorem run_appR (E:ElR P t e k bytes z) {w:World} (ty:TypeId) (base:Nat) (v:Value) (l:RowCells) (hown:OwR w base e k v l) (sv:Value) (m:RowCells) (hsrc:RdR w sv m) (h1:Wide k m) (hm:0<m.length) (hroom:(l.length+m.length)*bytes<=140737488355328) (hbase:base<=w.heap.size):
  ∃v' w',(Builtin.append_ #[t,t] ty #[v,sv]).run P w=.ok v' w'/\OwR w' base e k v' (l++m)/\Below base w w'/\w.grownBy w' v.ownBlock:=by
 obtain⟨i,hi,hz,h2,h3⟩:=E.info;obtain⟨a,cap,rfl,hc1,hc2,h⟩:=hsrc.open h1 E.some';obtain⟨b,off,rfl,hlt,hc⟩:=h hm;have hpos:=E.pos;have hk:=E.some';have hn:l.length+m.length<=140737488355328:=Nat.le_trans (Nat.le_mul_of_pos_right _ hpos) hroom;have hfl:=flat_length h1;obtain⟨v',w',q1,q2,q3,_⟩:=run_append_own (P:=P) w base t ty e i z k bytes E.under hi hz h2 h3 E.cells hk v l.length _ hown ⟨b,off,none⟩ m.length cap m.flatten hfl (fun j u hu=>by
   have hj:=(List.getElem?_eq_some_iff.1 hu).1;rw[hfl] at hj;have hjk:j/k<m.length:=(Nat.div_lt_iff_lt_mul hk).2 hj;have hq:m[j/k]? =some m[j/k]:=List.getElem?_eq_getElem hjk;have hql:=(h1 _ (List.getElem_mem hjk)).1;have hlt2:=Nat.mod_lt j hk;have hqi:m[j/k][j%k]? =some (m[j/k][j%k]'(by rw[hql];exact hlt2)):=List.getElem?_eq_getElem _;have hg:=flat_get h1 _ _ _ _ hq hqi;have hd:j/k*k+j%k=j:=Nat.div_add_mod' j k;have hcc:=hc _ _ _ _ hq hqi;rw[hd] at hg hcc;rw[hg] at hu;rw[<-Option.some.inj hu];have e:(⟨b,off,none⟩:Addr).add j=⟨b,off+j,none⟩:=by unfold Addr.add;split<;>simp_all
   rw[e];exact hcc) (flat_cells h1) (by simp only[maxLen];omega) hroom hbase
 refine⟨v',w',q1,?_,rC hown q3 hbase,q3⟩;unfold OwR;rw[List.flatten_append,List.length_append];exact q2
theorem appR (E:ElR P t e k bytes z) {ops:Array Oper} {rest:List Oper} {o:Oper} {a:Act} {Q:Exit->Act->World->Prop} {w:World} (hgd:o.guard=none) (s x:Operand)
  (ho:o.op=.call {callee:=.builtin .append,args:=#[s,x],argTypes:=#[t,t]}) (base:Nat) (v:Value) (l:RowCells) (hs:a.eval s=v) (hown:OwR w base e k v l)
  (sv:Value) (m:RowCells) (hx:a.eval x=sv) (hsrc:RdR w sv m) (h1:Wide k m) (hm:0<m.length) (hroom:(l.length+m.length)*bytes<=140737488355328) (hbase:base<=w.heap.size)
  (h:∀v' w',OwR w' base e k v' (l++m)->Below base w w'->w.grownBy w' v.ownBlock->wpList P ops Q rest (a.put o.dst v') w'):wpList P ops Q (o::rest) a w:=by
 refine wpList_plain hgd fun K hK=>?_
 obtain⟨v',w',hr,q1,q2,q3⟩:=run_appR E o.type base v l hown sv m hsrc h1 hm hroom hbase;unfold Oper.wp execOp;simp only[ho,resolve,invoke,builtin,Sem.run_bind,Sem.run_pure,Result.andThen_ok,List.map_toArray,List.map_cons,List.map_nil,hs,hx,hr];exact hK _ _ (h v' w' q1 q2 q3)
end
end Go.Proofs.YtpgmbhpbgkljdaaGreatDoor
