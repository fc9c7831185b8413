/-
  Texts put together (part 30): the walks and the plain laws on which the statement stands.
-/
import Derived.Test.YtfckbfofgeilgaaGreatDoorZ25
import Derived.Test.YtfckbfofgeilgaaGreatDoorZ26
set_option maxRecDepth 100000
set_option maxHeartbeats 12800000
set_option linter.unusedVariables false
set_option linter.unusedSimpArgs false
open Go.Proofs.Tryz
open Go.Proofs.Tryz renaming prog->pG
open And renaming intro->tK
open Go renaming bodyPost_ret->fM
open Go.Act renaming put->bJ
open Go.ByteArray renaming toList_eq->WU
open Go.IntKind renaming i64->aJ,u32->sH,wrap_i64->aM,wrap_u32->uB
open Go.RowKit.Below renaming refl->aH
open Go.World renaming block_lt_of_cell?->gV,size_alloc->fP
open List renaming drop_drop->kG,getElem?_eq_getElem->aN,getElem?_map->eQ,length_append->aL,length_drop->bA,length_map->aS,length_take->aQ,map_append->dY,map_cons->kI,mem_cons_self->jK,setIfInBounds_toArray->bK,set_cons_succ->bB,set_cons_zero->bH,take_add_one->cG,take_of_length_le->cD
open Nat renaming add_assoc->fU,le_of_lt->nG,le_refl->aD,reduceAdd->cV,succ_pos->YD,zero_le->aO
namespace Go.Proofs.YtfckbfofgeilgaaGreatDoor
section
open Go.RowKit Go Go.Shelf
theorem aJg {s:List UInt8} {A:Int}:∀{l:List Prt} {e:Int},qZ s e l A->∀p∈l,zP s p
 |[],_,_,p,d=>by simp at d
 |x::l,e,h,p,d=>by
  rcases List.mem_cons.1 d with rfl|d
  ·exact h.2.1
  ·exact aJg h.2.2 p d
theorem aJh {s:List UInt8}:∀p∈eY s,zP s p:=fun p d=>by
 unfold eY at d
 by_cases q:(cI s).2=0
 ·rw[aB q] at d;exact aJg (ST q) p d
 ·rw[aA q] at d;simp at d
theorem GC (s:ByteArray):(eY s.data.toList).length<=8*s.size+2:=by
 have:=aI4 s rfl;unfold jY okP at this;rw[aL,aS] at this;unfold eY;split
 ·omega
 ·simp
theorem VF {w:World} {v:Value} {l:List Prt} (h:RdR w v (l.map kD)):∃a cap,v=.slice a l.length cap/\l.length<=cap/\cap<=maxLen/\
  (0<l.length->∃b off,a=some ⟨b,off,none⟩/\b<w.heap.size/\∀j p,l[j]? =some p->w.cell? ⟨b,off+j*5,none⟩=some (.string p.t)/\w.cell? ⟨b,off+j*5+1,none⟩=some (.int .u32 p.y)/\w.cell? ⟨b,off+j*5+2,none⟩=some (.int .i64 p.a)/\w.cell? ⟨b,off+j*5+3,none⟩=some (.int .i64 p.z)/\w.cell? ⟨b,off+j*5+4,none⟩=some (.int .i64 p.r)):=by
 obtain⟨a,cap,d,A,F,D⟩:=h.open (CU l) (by decide);rw[aS] at d A D;refine⟨a,cap,d,A,F,fun G=>?_⟩;obtain⟨b,off,I,J,L⟩:=D G;refine⟨b,off,I,J,fun j p M=>?_⟩;have e:(l.map kD)[j]? =some (kD p):=by rw[eQ,M];rfl
 have c:=fun i u O=>L j (kD p) i u e O
 refine⟨c 0 _ rfl,?_,?_,?_,?_⟩
 ·rw[fU];exact c 1 _ rfl
 ·rw[fU];exact c 2 _ rfl
 ·rw[fU];exact c 3 _ rfl
 ·rw[fU];exact c 4 _ rfl
theorem bDi {P:Program} {t e k A:Nat} {z:Value} (E:ElR P t e k A z) {D:Array Oper} {rest:List Oper} {o:Oper} {a:Act} {Q:Exit->Act->World->Prop} {w:World} (G:o.guard=none) (s x:Operand)
  (I:o.op=.call {callee:=.builtin .append,args:=#[s,x],argTypes:=#[t,t]}) (base:Nat) (v:Value) (l:lC) (hs:a.eval s=v) (hown:OwR w base e k v l)
  (g:Nat) (q:List Value) (hx:a.eval x=.slice (some ⟨g,0,none⟩) 1 1) (hc:Arr w g e q) (hq:q.length=k) (h1:∀u∈q,u.oneCell'=true) (hroom:(l.length+1)*A<=140737488355328) (hbase:base<=w.heap.size)
  (h:∀d w',OwR w' base e k d (l++[q])->Below base w w'->w.grownBy w' v.ownBlock->wpList P D Q rest (a.put o.dst d) w'):wpList P D Q (o::rest) a w:=by
 obtain⟨i,J,L,M,O⟩:=E.info;have R:=E.pos;have Y:l.length+1<=140737488355328:=Nat.le_trans (Nat.le_mul_of_pos_right _ R) hroom;refine wpList_append_own w G s x t I base e i z k A E.under J L M O E.cells E.some' v l.length l.flatten hs hown ⟨g,0,none⟩ 1 1 q hx (by rw[hq,Nat.one_mul]) (fun j u U=>?_) h1 (by simp only[maxLen];omega) hroom hbase (fun d w' V F _=>h d w' ?_ (rJ hown F hbase) F)
 ·rw[show(⟨g,0,none⟩:Addr).add j=⟨g,j,none⟩ by unfold Addr.add;split<;>simp_all];exact hc.cell U
 ·unfold OwR;rw[List.flatten_append,aL,List.flatten_cons,List.flatten_nil,List.append_nil];exact V
theorem aJi (s:ByteArray) (w:World) (hE:dU w) (hs:s.size<=120000):
  Calls pG 38 #[.string s] w fun e w'=>∃v,e=.returned (.tuple #[v,.int .i64 (cI s.data.toList).2])/\RdR w' v ((eY s.data.toList).map oK)/\Below w.heap.size w w':=by
 have a1:=GC s;have L:=VB s w hE hs;obtain⟨l,F⟩:=ex1 (eY s.data.toList);obtain⟨E,M⟩:=ex1 ((cI s.data.toList).2);rw[<-F,<-M] at L ⊢;rw[<-F] at a1;clear F M;go_enter func38,ntmps38;go_wp2_with fail;refine L.mono ?_;rintro e D ⟨v,rfl,O,R⟩;obtain⟨a,ca,rfl,a6,a2,U⟩:=VF O;unfold maxLen at a2;have a3:=R.size;clear O;go_wp2_with fail
 go_loopg [2,6,14] l.length (fun g s2 _s6 a4 wr=>∃k:Nat,k<=l.length/\g=l.length-k/\a4=.int .i64 (k:Int)/\OwR wr D.heap.size 89 4 s2 ((l.take k).map oK)/\Below D.heap.size D wr)
 case atStart=>exact⟨0,aO _,rfl,rfl,OwR.nil _ _ _ _,aH _ _⟩
 case round=>
  obtain⟨k,hk,G,rfl,hor,d⟩:=hrel;have HG:=hid G;clear G
  by_cases a5:k<l.length
  ·have t1:decide ((k:Int)<(l.length:Int))=true:=aG (by omega);obtain⟨b,off,rfl,A,V⟩:=U (by omega);obtain⟨p,I⟩:∃p,l[k]? =some p:=⟨_,aN a5⟩;obtain⟨Y,Z,x2,x3,x4⟩:=V k p I;have c0:=(d.cell (p:=⟨b,off+k*5,none⟩) A).trans Y;have c1:=(d.cell (p:=⟨b,off+k*5+1,none⟩) A).trans Z;have c2:=(d.cell (p:=⟨b,off+k*5+2,none⟩) A).trans x2;have c3:=(d.cell (p:=⟨b,off+k*5+3,none⟩) A).trans x3;have c4:=(d.cell (p:=⟨b,off+k*5+4,none⟩) A).trans x4;have HT:=hid (show(l.take (k+1)).map oK=(l.take k).map oK++[oK p] by rw[cG,I,dY];rfl);have a7:=d.size
   have a8:((l.take k).map oK).length<=960010:=by rw[aS,aQ];omega
   clear Y Z x2 x3 x4 V I U;have J:=Arr.new (wr.alloc (.cells #[.string p.t,.int .u32 p.y,.int .i64 p.a,.int .i64 p.z,.int .i64 p.r] 91)) 89 (oK p);rw[fP] at J;have a0:=OwR.alloc (OwR.alloc hor (.cells #[.string p.t,.int .u32 p.y,.int .i64 p.a,.int .i64 p.z,.int .i64 p.r] 91)) (.cells (oK p).toArray 89);change Arr ((wr.alloc (.cells #[.string p.t,.int .u32 p.y,.int .i64 p.a,.int .i64 p.z,.int .i64 p.r] 91)).alloc (.cells #[.string p.t,.int .u32 p.y,.int .i64 p.a,.int .i64 p.z] 89)) _ _ _ at J
   change OwR ((wr.alloc (.cells #[.string p.t,.int .u32 p.y,.int .i64 p.a,.int .i64 p.z,.int .i64 p.r] 91)).alloc (.cells #[.string p.t,.int .u32 p.y,.int .i64 p.a,.int .i64 p.z] 89)) _ _ _ _ _ at a0;go_wp2_with (at_builtin;refine bDi bC2 rfl _ _ rfl D.heap.size _ _ rfl a0 _ (oK p) rfl J rfl (fun u hu=>(aI5 [p] _ (by simp)).2 u hu) ?_ ?_ ?_;(omega);(simp;omega);intro v3 w3 p1 p2 p3);have G:=HG.out
   go_roundg (l.length-(k+1))
   ·exact⟨k+1,by omega,rfl,by go_num,by rw[HT.out];exact p1,(((d.alloc (by omega) _).alloc (by simp;omega) _).trans p2)⟩
   ·omega
  ·have t1:decide ((k:Int)<(l.length:Int))=false:=aE (by omega);have HT:=hid (show(l.take k).map oK=l.map oK by rw[cD (by omega)]);go_wp2_with fail
   go_ret2
   exact⟨_,rfl,by rw[<-HT.out];exact hor.rd,R.trans (d.mono a3)⟩
theorem aJj (s:ByteArray) (w:World) (hE:dU w) (hs:s.size<=120000):
  Calls pG 39 #[.string s] w fun e w'=>∃v,e=.returned (.tuple #[v,.int .i64 (cI s.data.toList).2])/\RdI w' v ((eY s.data.toList).map Prt.r)/\Below w.heap.size w w':=by
 have a0:=GC s;have J:=VB s w hE hs;obtain⟨l,F⟩:=ex1 (eY s.data.toList);obtain⟨E,L⟩:=ex1 ((cI s.data.toList).2);rw[<-F,<-L] at J ⊢;rw[<-F] at a0;clear F L;go_enter func39,ntmps39;go_wp2_with fail;refine J.mono ?_;rintro e D ⟨v,rfl,M,O⟩;obtain⟨a,ca,rfl,a6,a1,R⟩:=VF M;unfold maxLen at a1;have a2:=O.size;clear M;go_wp2_with fail
 go_loopg [2,6,14] l.length (fun g s2 _s6 a3 wr=>∃k:Nat,k<=l.length/\g=l.length-k/\a3=.int .i64 (k:Int)/\OwI wr D.heap.size s2 ((l.take k).map Prt.r)/\Below D.heap.size D wr)
 case atStart=>exact⟨0,aO _,rfl,rfl,OwI.nil _ _,aH _ _⟩
 case round=>
  obtain⟨k,hk,G,rfl,hor,d⟩:=hrel;have HG:=hid G;clear G
  by_cases a4:k<l.length
  ·have t1:decide ((k:Int)<(l.length:Int))=true:=aG (by omega);obtain⟨b,off,rfl,A,U⟩:=R (by omega);obtain⟨p,I⟩:∃p,l[k]? =some p:=⟨_,aN a4⟩;obtain⟨V,Y,Z,x3,x4⟩:=U k p I;have c0:=(d.cell (p:=⟨b,off+k*5,none⟩) A).trans V;have c1:=(d.cell (p:=⟨b,off+k*5+1,none⟩) A).trans Y;have c2:=(d.cell (p:=⟨b,off+k*5+2,none⟩) A).trans Z;have c3:=(d.cell (p:=⟨b,off+k*5+3,none⟩) A).trans x3;have c4:=(d.cell (p:=⟨b,off+k*5+4,none⟩) A).trans x4;have HT:=hid (show(l.take (k+1)).map Prt.r=(l.take k).map Prt.r++[p.r] by rw[cG,I,dY];rfl);have a7:=d.size
   have a8:((l.take k).map Prt.r).length<=960010:=by rw[aS,aQ];omega
   clear V Y Z x3 x4 U I R;have hN:=bX (wr.alloc (.cells #[.string p.t,.int .u32 p.y,.int .i64 p.a,.int .i64 p.z,.int .i64 p.r] 91)) (.int .i64 p.r) 3;rw[fP] at hN;have a5:=OwI.alloc (OwI.alloc hor (.cells #[.string p.t,.int .u32 p.y,.int .i64 p.a,.int .i64 p.z,.int .i64 p.r] 91)) (.cells #[.int .i64 p.r] 3);go_wp2_with (at_builtin;refine gK rfl _ _ rfl D.heap.size _ _ rfl a5 _ p.r rfl hN ?_ ?_ ?_;(omega);(simp;omega);intro v3 w3 p1 p2 p3);have G:=HG.out
   go_roundg (l.length-(k+1))
   ·exact⟨k+1,by omega,rfl,by go_num,by rw[HT.out];exact p1,(((d.alloc (by omega) _).alloc (by simp;omega) _).trans p2)⟩
   ·omega
  ·have t1:decide ((k:Int)<(l.length:Int))=false:=aE (by omega);have HT:=hid (show(l.take k).map Prt.r=l.map Prt.r by rw[cD (by omega)]);go_wp2_with fail
   go_ret2
   exact⟨_,rfl,by rw[<-HT.out];exact hor.rd,O.trans (d.mono a2)⟩
theorem bDj (s:List UInt8) (k:Nat):(iH (((eY s).take k).map Prt.t)).data.toList.length<=18720*((eY s).take k).length:=by
 have h:∀l:List Prt,(∀p∈l,zP s p)->(iH (l.map Prt.t)).data.toList.length<=18720*l.length:=fun l=>by
  induction l with
  |nil=>intro _;exact aD _
  |cons p l A=>
   intro d;have e:=congrArg List.length (MX [p.t] (l.map Prt.t));have I:=A (fun q D=>d q (List.mem_cons_of_mem _ D));obtain⟨-,J,L,-⟩:=(d p (jK ..)).facts;obtain⟨-,-,M,-⟩:=d p (jK ..);have F:(iH [p.t]).data.toList.length=p.t.size:=by unfold iH;simp
   rw[aL,F] at e;rw[kI,List.length_cons];change (iH ([p.t]++l.map Prt.t)).data.toList.length<=_;omega
 exact h _ (fun p G=>aJh p (List.mem_of_mem_take G))
theorem aJk (s:ByteArray) (w:World) (hE:dU w) (hs:s.size<=120000):
  Calls pG 9 #[.string s] w fun e w'=>e=.returned (.tuple #[.string (iH ((eY s.data.toList).map Prt.t)),.int .i64 (cI s.data.toList).2])/\Below w.heap.size w w':=by
 have a4:=GC s;have F:=bDj s.data.toList;have R:=VB s w hE hs;obtain⟨l,G⟩:=ex1 (eY s.data.toList);obtain⟨E,U⟩:=ex1 ((cI s.data.toList).2);rw[<-G,<-U] at R ⊢;rw[<-G] at a4 F;clear G U;go_enter func9,ntmps9;go_wp2_with fail;refine R.mono ?_;rintro e d ⟨v,rfl,V,Y⟩;obtain⟨a,ca,rfl,b3,a5,Z⟩:=VF V;unfold maxLen at a5;have a6:=Y.size;have a0:=MR d;have a1:Below d.heap.size d (d.alloc (.cells #[.pointer none,.slice none 0 0] 86)):=bD (aH _ _) _;clear V;go_wp2_with fail;generalize d.alloc (.cells #[.pointer none,.slice none 0 0] 86)=w2 at*
 go_loopg [8,16] l.length (fun g _s8 a7 wr=>∃k:Nat,k<=l.length/\g=l.length-k/\a7=.int .i64 (k:Int)/\Bld wr d.heap.size d.heap.size (iH ((l.take k).map Prt.t)).data.toList/\Below d.heap.size d wr)
 case atStart=>exact⟨0,aO _,rfl,rfl,a0,a1⟩
 case round=>
  obtain⟨k,I,J,rfl,hor,A⟩:=hrel;have HG:=hid J;clear J a0 a1
  by_cases a8:k<l.length
  ·have t1:decide ((k:Int)<(l.length:Int))=true:=aG (by omega);obtain⟨b,off,rfl,D,hc⟩:=Z (by omega);obtain⟨p,L⟩:∃p,l[k]? =some p:=⟨_,aN a8⟩;obtain⟨x0,x1,x2,x3,x4⟩:=hc k p L;have c0:=(A.cell (p:=⟨b,off+k*5,none⟩) D).trans x0;have c1:=(A.cell (p:=⟨b,off+k*5+1,none⟩) D).trans x1;have c2:=(A.cell (p:=⟨b,off+k*5+2,none⟩) D).trans x2;have c3:=(A.cell (p:=⟨b,off+k*5+3,none⟩) D).trans x3;have c4:=(A.cell (p:=⟨b,off+k*5+4,none⟩) D).trans x4;have HT:=hid (show(iH ((l.take (k+1)).map Prt.t)).data.toList=(iH ((l.take k).map Prt.t)).data.toList++p.t.data.toList by
    rw[cG,L,dY,MX]
    congr 1
    unfold iH;simp)
   have a2:=F k;have M:=F (k+1);rw[HT.out,aL] at M;rw[aQ] at a2 M;have a9:p.t.data.toList.length=p.t.size:=by simp
   have a3:=A.size;have b0:=fun W hW=>UC d.heap.size d.heap.size (iH ((l.take k).map Prt.t)).data.toList p.t W hW (by omega)
   have b1:=hor.same (w':=wr.alloc (.cells #[.string p.t,.int .u32 p.y,.int .i64 p.a,.int .i64 p.z,.int .i64 p.r] 91)) (fun k o I _ _=>by rw[Below.heap_alloc _ _ _ (Array.getElem?_eq_some_iff.1 I).1];exact I);clear x0 x1 x2 x3 x4 hc L Z a2 M F a9;go_wp2_with fail;refine(b0 _ b1 (by simp;omega)).mono ?_;rintro e w3 ⟨rfl,b2,O,-⟩;go_wp2_with fail;have J:=HG.out
   go_roundg (l.length-(k+1))
   ·exact⟨k+1,by omega,rfl,by go_num,by rw[HT.out];exact b2,(A.alloc (by omega) _).trans O⟩
   ·omega
  ·have t1:decide ((k:Int)<(l.length:Int))=false:=aE (by omega);have HT:=hid (show mkS (iH ((l.take k).map Prt.t)).data.toList=iH (l.map Prt.t) by rw[cD (by omega),qB]);have a3:=A.size;go_wp2_with fail;refine(MP d.heap.size d.heap.size _ _ hor a3).mono ?_;rintro e w3 ⟨rfl,-,O,-⟩;go_wp2_with fail
   go_ret2
   exact⟨by show Ending.returned (.tuple #[.string (mkS (iH (List.take k (l.map Prt.t))).data.toList),.int .i64 E])=_;rw[<-List.map_take,HT.out],Y.trans ((A.trans O).mono a6)⟩
theorem bEm {w:World} {v:Value} {l:List Prt} (h:RdR w v (l.map oK)):∃a cap,v=.slice a l.length cap/\l.length<=cap/\cap<=maxLen/\
  (0<l.length->∃b off,a=some ⟨b,off,none⟩/\b<w.heap.size/\∀j p,l[j]? =some p->w.cell? ⟨b,off+j*4,none⟩=some (.string p.t)/\w.cell? ⟨b,off+j*4+1,none⟩=some (.int .u32 p.y)/\w.cell? ⟨b,off+j*4+2,none⟩=some (.int .i64 p.a)/\w.cell? ⟨b,off+j*4+3,none⟩=some (.int .i64 p.z)):=by
 obtain⟨a,cap,d,A,F,D⟩:=h.open (aI5 l) (by decide);rw[aS] at d A D;refine⟨a,cap,d,A,F,fun G=>?_⟩;obtain⟨b,off,I,J,L⟩:=D G;refine⟨b,off,I,J,fun j p O=>?_⟩;have e:(l.map oK)[j]? =some (oK p):=by grind
 have c:=fun i u M=>L j (oK p) i u e M
 refine⟨c 0 _ rfl,?_,?_,?_⟩
 ·grind [RdR,oK]
 ·grind [RdR,oK]
 grind [RdR,oK]
theorem AK:ElR pG 30 103 5 40 (.agg #[.int .i64 0,.int .i64 0,.int .i64 0,.int .i64 0,.int .u32 0]):=ElR.mk' (by kernel_rfl) underlying30 rfl (by decide) (by decide)
theorem RdR.nil (w:World):RdR w (.slice none 0 0) []:=⟨none,0,rfl,aD _,by simp[maxLen],.inl rfl⟩
theorem GK (s:ByteArray) (w:World) (hE:dU w) (hs:s.size<=120000):
  Calls pG 10 #[.string s] w fun e w'=>∃v,e=.returned (.tuple #[v,.int .i64 (cI s.data.toList).2])/\RdR w' v ((gU 0 (eY s.data.toList)).map bG)/\Below w.heap.size w w':=by
 have d6:=GC s;have b0:=fun p (h:p∈eY s.data.toList)=>aJh p h
 have Y:(cI s.data.toList).2≠0->eY s.data.toList=[]:=fun h=>aA h
 have a2:=fun W h=>aJi s W h hs
 have a3:=fun W h=>aJj s W h hs
 obtain⟨l,Z⟩:=ex1 (eY s.data.toList);obtain⟨E,b1⟩:=ex1 ((cI s.data.toList).2);have d7:∀p∈l,p.t.size<=18720:=fun p A=>by
  rw[Z] at A;have h:=b0 p A;obtain⟨-,-,g3,-⟩:=h.facts;obtain⟨-,-,g5,-⟩:=h;omega
 rw[<-Z,<-b1] at a2 a3 Y ⊢;rw[<-Z] at d6;clear Z b1 b0;go_enter func10,ntmps10;go_wp2_with fail;refine(a2 _ hE).mono ?_;rintro e w1 ⟨v1,rfl,b3,h1⟩;have b4:=hE.below h1
 by_cases h0:E=0
 rotate_left
 ·have t1:(E != 0)=true:=bne_iff_ne.2 h0;have HN:=hid (Y h0);clear Y;go_wp2_with fail
  go_ret2
  exact⟨_,rfl,by rw[HN.out];exact RdR.nil _,h1⟩
 subst h0;clear Y;go_wp2_with fail;refine(a3 _ b4).mono ?_;rintro e D ⟨v2,rfl,b5,h2⟩;have V:=b3.below h2;have b6:=aW h1 h2;obtain⟨pa,pc,rfl,f0,d8,b7⟩:=bEm V;obtain⟨ra,rc,rfl,d9,e1,a4⟩:=b5.open;rw[aS] at d9 a4 ⊢;unfold maxLen at d8 e1;have e2:=b6.size;clear b3 V b5 a2 a3 h1 h2 b4 hE;go_wp2_with fail
 go_loopg [2,7,8,9,25] l.length (fun g s2 s7 _s8 _s9 e3 wr=>∃k F:Nat,k<=l.length/\g=l.length-k/\e3=.int .i64 (k:Int)/\s7=.int .i64 (F:Int)/\Hid (F=vE (l.take k))/\F<=18720*k/\OwR wr D.heap.size 103 5 s2 ((gU 0 (l.take k)).map bG)/\Below D.heap.size D wr)
 case atStart=>exact⟨0,0,aO _,rfl,rfl,rfl,hid rfl,aO _,OwR.nil _ _ _ _,aH _ _⟩
 case round=>
  obtain⟨k,F,hk,hg,rfl,rfl,HF,f1,hor,G⟩:=hrel;have HG:=hid hg;have e4:=G.size;clear hg
  by_cases e5:k<l.length
  ·have t1:decide ((k:Int)<(l.length:Int))=true:=aG (by omega);obtain⟨b,off,rfl,hb,hc⟩:=b7 (by omega);obtain⟨M,O,rfl,V,b8⟩:=a4 (by omega);obtain⟨p,A⟩:∃p,l[k]? =some p:=⟨_,aN e5⟩;obtain⟨x0,x1,x2,x3⟩:=hc k p A;have y0:=b8 k p.r (by rw[eQ,A];rfl);have c0:=(G.cell (p:=⟨b,off+k*4,none⟩) hb).trans x0;have c1:=(G.cell (p:=⟨b,off+k*4+1,none⟩) hb).trans x1;have c2:=(G.cell (p:=⟨b,off+k*4+2,none⟩) hb).trans x2;have c3:=(G.cell (p:=⟨b,off+k*4+3,none⟩) hb).trans x3;have d0:=(G.cell (p:=⟨M,O+k,none⟩) V).trans y0;have f2:=d7 p (List.mem_of_getElem? A)
   have HT:=hid (show(gU 0 (l.take (k+1))).map bG=(gU 0 (l.take k)).map bG++[bG ⟨p.a,p.r,(F:Int),(p.t.size:Int),p.y⟩] by rw[bEo A,dY,HF.out];rfl);have b9:=hid (show F+p.t.size=vE (l.take (k+1)) by rw[bEp A,HF.out]);have f3:((gU 0 (l.take k)).map bG).length<=960010:=by rw[aS,NK,aQ];omega
   clear x0 x1 x2 x3 hc b8 b7 a4 A;go_wp2_with fail;obtain⟨I,hz⟩:=ex1 (wr.heap.size);have L:=Arr.new wr 89 [.string p.t,.int .u32 p.y,.int .i64 p.a,.int .i64 p.z];have c4:=OwR.alloc hor (.cells #[.string p.t,.int .u32 p.y,.int .i64 p.a,.int .i64 p.z] 89);have a5:=G.alloc e4 (.cells #[.string p.t,.int .u32 p.y,.int .i64 p.a,.int .i64 p.z] 89)
   have e0:(wr.alloc (.cells #[.string p.t,.int .u32 p.y,.int .i64 p.a,.int .i64 p.z] 89)).cell? ⟨M,O+k,none⟩=some (.int .i64 p.r):=((bD (aH _ wr) (.cells #[.string p.t,.int .u32 p.y,.int .i64 p.a,.int .i64 p.z] 89)).cell (p:=⟨M,O+k,none⟩) (gV wr _ d0)).trans d0;change Arr (wr.alloc (.cells #[.string p.t,.int .u32 p.y,.int .i64 p.a,.int .i64 p.z] 89)) _ _ _ at L;clear c0 c1 c2 c3 d0;rw[<-hz] at L ⊢;generalize wr.alloc (.cells #[.string p.t,.int .u32 p.y,.int .i64 p.a,.int .i64 p.z] 89)=d at*
   have c5:=a5.size;clear hz hor G;obtain⟨a0,R⟩:=ex1 ((d.alloc (.cells #[.int .i64 p.a,.int .i64 p.r,.int .i64 (F:Int),.int .i64 (p.t.size:Int),.int .u32 p.y] 103)).drew);have c6:Arr a0 I 89 [.string p.t,.int .u32 p.y,.int .i64 p.a,.int .i64 p.z]:=by rw[R];exact Arr.alloc L _
   have a6:OwR a0 D.heap.size 103 5 u2 ((gU 0 (l.take k)).map bG):=by rw[R];exact OwR.alloc c4 _
   have c7:Arr a0 d.heap.size 103 (bG ⟨p.a,p.r,(F:Int),(p.t.size:Int),p.y⟩):=by rw[R];exact Arr.new d 103 (bG ⟨p.a,p.r,(F:Int),(p.t.size:Int),p.y⟩)
   have a7:Below D.heap.size D a0:=by rw[R];exact(a5.alloc c5 _).drew
   have c8:=a7.size;obtain⟨v',a8,hr,e6,c9,d1⟩:=LS AK 30 D.heap.size u2 _ a6 _ [bG ⟨p.a,p.r,(F:Int),(p.t.size:Int),p.y⟩] (RdR.one c7) (yG [⟨p.a,p.r,(F:Int),(p.t.size:Int),p.y⟩]) (YD _) (by simp only[List.length_singleton];omega) c8;have a1:Arr a8 I 89 [.string p.t,.int .u32 p.y,.int .i64 p.a,.int .i64 p.z]:=c6.otherRow a6 d1 (by decide);have d2:=a7.trans c9;have z0:=L.cell (i:=0) rfl;have z1:=L.cell (i:=1) rfl;have z2:=L.cell (i:=2) rfl;rw[R] at hr;clear c6 a6 c7 a7 c8 R d1 c9 c4 a5 c5 L
   have kk:∀{a:Addr} {v:Value},d.cell? a=some v->(d.alloc (.cells #[.int .i64 p.a,.int .i64 p.r,.int .i64 (F:Int),.int .i64 (p.t.size:Int),.int .u32 p.y] 103)).drew.cell? a=some v:=fun{a} {v} h=>((bD (aH _ d) (.cells #[.int .i64 p.a,.int .i64 p.r,.int .i64 (F:Int),.int .i64 (p.t.size:Int),.int .u32 p.y] 103)).drew.cell (gV d _ h)).trans h
   have d3:d.drew.cell? ⟨I,0,none⟩=some (.string p.t)/\d.drew.cell? ⟨I,1,none⟩=some (.int .u32 p.y)/\d.drew.cell? ⟨I,2,none⟩=some (.int .i64 p.a)/\d.drew.cell? ⟨M,O+k,none⟩=some (.int .i64 p.r):=⟨z0,z1,z2,e0⟩;have d4:=tK (kk z0) (tK (kk z1) (tK (kk z2) (kk e0)));have a9:=tK (a1.cell (i:=0) rfl) (tK (a1.cell (i:=1) rfl) (tK (a1.cell (i:=2) rfl) (((show Below D.heap.size D a8 from d2).cell (p:=⟨M,O+k,none⟩) V).trans y0)))
   refine wp_region_held_drew (S:=fun wx=>wx.cell? ⟨I,0,none⟩=some (.string p.t)/\wx.cell? ⟨I,1,none⟩=some (.int .u32 p.y)/\wx.cell? ⟨I,2,none⟩=some (.int .i64 p.a)/\wx.cell? ⟨M,O+k,none⟩=some (.int .i64 p.r)) (by kernel_rfl) d3 (fun e7=>?_);refine bKf [0,1,2,3,4,5,6,7,8,9,10,11,12,13] ?_
   iterate 14
    refine bKg (by simp only[List.getElem?_toArray,List.getElem?_cons_succ,List.getElem?_cons_zero];rfl) (by kernel_rfl) (by exact fun _ _ _ h=>h) (by first|exact Or.inr ⟨by rfl,rfl⟩|(refine Or.inl ⟨by rfl,?_⟩;intro w' e8;(try dsimp only at e8);(try go_simp);try with_reducible rfl)) (by assumption) ?_
    try simp only[bJ,bK,bH,bB]
   refine dJ (i:=14) (by kernel_rfl) rfl (fun K J=>?_);go_simp;refine J.out _ _ d4 (fun _=>?_)
   try simp only[bJ,bK,bH,bB]
   clear J K;refine dJ (i:=15) (by kernel_rfl) rfl (fun K J=>?_);refine sX rfl (.tmp 30) (.tmp 44) 30 rfl u2 (.slice (some ⟨d.heap.size,0,none⟩) 1 1) v' a8 (by simp[Act.eval]) (by simp[Act.eval]) hr ?_;refine J.out _ _ a9 (fun _=>?_)
   try simp only[bJ,bK,bH,bB]
   clear J K;refine dJ (i:=16) (by kernel_rfl) rfl (fun K J=>?_);go_simp;refine J.out _ _ a9 (fun _=>?_)
   try simp only[bJ,bK,bH,bB]
   clear J K;refine wpAnyH_done (by kernel_rfl) ?_ _;have g0:=a1.cell (i:=0) rfl;obtain⟨U,d5⟩:=ex1 (F+p.t.size);have m1:aJ.wrap ((F:Int)+(p.t.size:Int))=(U:Int):=by rw[show(F:Int)+(p.t.size:Int)=(U:Int) by omega];exact tE U (by omega)
   have f4:(F:Int)+(p.t.size:Int)=(U:Int):=by omega
   have e9:U<=18720*(k+1):=by omega
   rw[<-d5] at b9;clear d5 z0 z1 z2 hr e0 d3 d4 a9 e7;go_wp2_with fail;have hg:=HG.out
   go_roundg (l.length-(k+1))
   ·exact⟨k+1,U,by omega,rfl,by go_num,rfl,b9,e9,by rw[HT.out];exact e6,d2⟩
   ·omega
  ·have t1:decide ((k:Int)<(l.length:Int))=false:=aE (by omega);have HT:=hid (show l.take k=l by rw[cD (by omega)]);go_wp2_with fail
   go_ret2
   exact⟨_,rfl,by rw[<-HT.out];exact hor.rd,b6.trans (G.mono e2)⟩
end
section
open Go
theorem aKs {s:List UInt8} {D:Int}:∀(l:List Prt) (d at' e:Int),qZ s d l D->at'<d->oL e at' (gU e l)
 |[],_,_,_,_,_=>trivial
 |p::l,d,at',e,h,L=>by
  obtain⟨M,A,F⟩:=h;obtain⟨O,R,U,V,Y,Z⟩:=A.facts;obtain⟨_,G,I,J⟩:=A;refine⟨⟨rfl,?_,?_,G,I,J,?_⟩,aKs l p.z p.a _ F (by omega)⟩
  ·show(1:Int)<=(p.t.size:Int);omega
  ·show(p.t.size:Int)<=18720;omega
  ·show at'<p.a;omega
theorem bFc {s:List UInt8} (h:(cI s).2=0):jA (gU 0 (cI s).1):=aKs _ 32 31 0 (ST h) (by decide)
def vF (a s:List UInt8):Int:=
 if(dX s).2.2.2≠0 then(dX s).2.2.2
 else if(dX s).2.1≠a.length\/(dX s).2.2.1≠(cH a).toNat then 7
 else if(cI a).2≠0 then(cI a).2
 else if gU 0 (eY a)≠(dX s).1 then 3 else 0
end
section
open Go.RowKit Go Go.Shelf
theorem NL (p:Nat) (t:List UInt8) (d:Bool) (m:Nat) (w:World) (A:Arr w p 215 [.string (mkS t),.bool d]) (D:m<=8) (F:m<=t.length) (G:t.length<=1000000000):
  Calls pG 124 #[.pointer (some ⟨p,0,none⟩),.int .i64 (m:Int)] w fun e w'=>e=.returned (.int .i64 (aJ.wrap (bP (t.take m):Int)))/\Arr w' p 215 [.string (mkS (t.drop m)),.bool (d||decide (9223372036854775808<=bP (t.take m)))]/\w.grownBy w' (some p):=by grind [bEh,mkS,cS,dP,Arr,bP]
theorem GL (p:Nat) (t:List UInt8) (d:Bool) (m V:Nat) (w:World) (A:Arr w p 215 [.string (mkS t),.bool d]) (G:m<=4) (D:m<=t.length) (F:t.length<=1000000000) (I:V=bP (t.take m)):
  Calls pG 124 #[.pointer (some ⟨p,0,none⟩),.int .i64 (m:Int)] w fun e w'=>e=.returned (.int .i64 (V:Int))/\Arr w' p 215 [.string (mkS (t.drop m)),.bool d]/\w.grownBy w' (some p):=by
 have h:=NL p t d m w A (by omega) D F;have J:=DD (s:=t.take m) (k:=4) (n:=4294967296) (by grind) (by decide);have L:aJ.wrap (bP (t.take m):Int)=(bP (t.take m):Int):=by rw[aM];omega
 grind
theorem yH {B g:Nat} {a W d:World} (h:Below B a W) (A:W.grownBy d (some g)) (F:B<=g) (D:B<=W.heap.size):Below B a d:=
 h.grown A D (fun k e=>by grind)
theorem aKp {e:Array Oper} {rest:List Oper} {o:Oper} {a:Act} {Q:Exit->Act->World->Prop} {w:World} (A:o.guard=none) (s x:Operand)
  (D:o.op=.call {callee:=.builtin .append,args:=#[s,x],argTypes:=#[30,30]}) (base:Nat) (v:Value) (l:lC) (hs:a.eval s=v) (hown:OwR w base 103 5 v l)
  (p:Ent) (g:Nat) (hx:a.eval x=.slice (some ⟨g,0,none⟩) 1 1) (hA:Arr w g 103 (bG p)) (hroom:(l.length+1)*40<=140737488355328) (hbase:base<=w.heap.size)
  (h:∀d w',OwR w' base 103 5 d (l++[bG p])->Below base w w'->wpList pG e Q rest (a.put o.dst d) w'):wpList pG e Q (o::rest) a w:=by
 refine wpList_plain A fun K F=>?_
 obtain⟨d,w',G,I,J,L⟩:=LS AK o.type base v l hown _ _ (RdR.one hA) (yG [p]) (YD _) hroom hbase;unfold Oper.wp execOp;simp only[D,resolve,invoke,builtin,Sem.run_bind,Sem.run_pure,Result.andThen_ok,List.map_toArray,kI,List.map_nil,hs,hx,G];exact F _ _ (h d w' I J)
theorem wS {d:Func} {t u v x:Tmp} (h:d.results=#[.tmp t,.tmp u,.tmp v,.tmp x]) (tmps:Array Value) (P:Program) (w:World):
  (results d tmps).run P w=.ok (.tuple #[tmps.getD t undef,tmps.getD u undef,tmps.getD v undef,tmps.getD x undef]) w:=by
 simp[results,h]
def aKq (d:Value) (x:Int):Prop:=(d=.nilIface/\x=0)\/∃p:ByteArray,d=.iface 167 (.agg #[.string p,.iface 165 (.int .i64 x)])/\(x=2\/x=3\/x=7)
theorem GM (s:ByteArray) (w:World) (hs:s.size<=1000000):
  Calls pG 83 #[.string s] w fun e w'=>∃(v er:Value),e=.returned (.tuple #[v,.int .i64 ((dX s.data.toList).2.1:Int),.int .u32 ((dX s.data.toList).2.2.1:Int),er])/\RdR w' v ((dX s.data.toList).1.map bG)/\aKq er (dX s.data.toList).2.2.2/\Below w.heap.size w w':=by
 have J:s.data.toList.length=s.size:=rfl;obtain⟨l,hl⟩:=ex1 (s.data.toList);have b6:=iW s 0 4;have b7:=iW s 4 s.size;rw[<-hl] at J b6 b7 ⊢;rw[cD (by rw[bA,J];omega)] at b7;rw[List.drop_zero,Nat.sub_zero] at b6;obtain⟨D,hD⟩:=ex1 (dX l);rw[<-hD];have HD:=hid hD;have A:=hid J;clear hD hl J
 by_cases q1:s.size<20
 ·obtain rfl:D=([],0,0,2):=by
   have J:=A.out;rw[HD.out];unfold dX;rw[aB (by omega)]
  have t1:decide ((s.size:Int)<20)=true:=aG (by omega);go_enter func83,ntmps83;go_wp2_with fail;refine fM (wS rfl _ _ _) rfl ?_;exact⟨_,_,rfl,RdR.nil _,.inr ⟨_,rfl,.inl rfl⟩,aH _ _⟩
 have t1:decide ((s.size:Int)<20)=false:=aE (by omega);obtain⟨R,b8⟩:=ex1 (bP ((l.drop 4).take 8));obtain⟨F,a7⟩:=ex1 (bP ((l.drop 12).take 4));obtain⟨d,a2⟩:=ex1 (bP ((l.drop 16).take 4));obtain⟨G,hG⟩:=ex1 (decide (9223372036854775808<=R));have b2:F<4294967296:=by rw[a7];exact DD (k:=4) (by rw[aQ];omega) (by decide)
 have b3:d<4294967296:=by rw[a2];exact DD (k:=4) (by rw[aQ];omega) (by decide)
 have M:=fun W h=>NL w.heap.size (l.drop 4) false 8 W h (by decide) (by rw[bA,A.out];omega) (by rw[bA,A.out];omega)
 have U:=fun W h=>GL w.heap.size (l.drop 12) G 4 F W h (by decide) (by rw[bA,A.out];omega) (by rw[bA,A.out];omega) a7
 have O:=fun W h=>GL w.heap.size (l.drop 16) G 4 d W h (by decide) (by rw[bA,A.out];omega) (by rw[bA,A.out];omega) a2
 rw[<-b8,Bool.false_or,<-hG] at M;simp only[kG,cV] at M U O;have a8:=hid (show D=if l.take 4≠[80,77,105,49]\/9223372036854775808<=R then([],0,0,3)
   else if l.length<20+26*d then([],0,0,2)
   else if 20+26*d<l.length then([],0,0,3)
   else if ¬((∀x∈jC d (l.drop 20),x.a<9223372036854775808/\x.f<9223372036854775808)/\jA (jC d (l.drop 20))) then([],0,0,3)
   else(jC d (l.drop 20),R,F,0) by
  have J:=A.out;rw[HD.out];unfold dX;rw[aA (by omega),<-b8,<-a7,<-a2])
 have e4:=hid hG;clear HD b8 a7 a2 hG;have m2:sH.wrap (F:Int)=(F:Int):=by rw[uB];omega
 have f8:(F:Int)%4294967296=(F:Int):=by omega
 have hN:=Arr.new w 215 [.string (mkS (l.drop 4)),.bool false];change Arr (w.alloc (.cells #[.string (mkS (l.drop 4)),.bool false] 215)) _ _ _ at hN;have b9:Below w.heap.size w (w.alloc (.cells #[.string (mkS (l.drop 4)),.bool false] 215)):=bD (aH _ _) _;obtain⟨p,hp⟩:=ex1 (w.heap.size);go_enter func83,ntmps83;go_wp2_with fail;generalize w.alloc (.cells #[.string (mkS (l.drop 4)),.bool false] 215)=w0 at*
 rw[<-hp] at hN M U O b9 ⊢;have HP:=hid hp;clear hp;refine(M _ hN).mono ?_;rintro e w1 ⟨rfl,c2,a0⟩;have h1:=yH b9 a0 (aD _) (nG hN.lt);clear M a0 hN b9;go_wp2_with fail;refine(U _ c2).mono ?_;rintro e w2 ⟨rfl,c3,a1⟩;have h2:=yH h1 a1 (aD _) (nG c2.lt);clear U a1 c2 h1;go_wp2_with fail;refine(O _ c3).mono ?_;rintro e w3 ⟨rfl,a3,e5⟩;have h3:=yH h2 e5 (aD _) (nG c3.lt);clear O e5 c3 h2;have c1:=a3.cell (i:=1) rfl;have a4:∀x:List UInt8,(mkS x).toList=x:=fun x=>by rw[WU,dP]
 by_cases V:l.take 4=[80,77,105,49]
 rotate_left
 ·obtain rfl:D=([],0,0,3):=by rw[a8.out,aB (.inl V)]
  have u1:((mkS (l.take 4)).toList==[80,77,105,49])=false:=by rw[a4];exact beq_eq_false_iff_ne.2 V
  clear a4;go_wp2_with fail;refine fM (wS rfl _ _ _) rfl ?_;exact⟨_,_,rfl,RdR.nil _,.inr ⟨_,rfl,.inr (.inl rfl)⟩,by rw[<-HP.out];exact h3⟩
 have u1:((mkS (l.take 4)).toList==[80,77,105,49])=true:=by rw[a4];exact beq_iff_eq.2 V
 have HQ:=hid V;clear a4 V
 cases G with
 |true=>
  obtain rfl:D=([],0,0,3):=by rw[a8.out,aB (.inr (of_decide_eq_true e4.out.symm))]
  go_wp2_with fail;refine fM (wS rfl _ _ _) rfl ?_;exact⟨_,_,rfl,RdR.nil _,.inr ⟨_,rfl,.inr (.inl rfl)⟩,by rw[<-HP.out];exact h3⟩
 |false=>
 have hG:=of_decide_eq_false e4.out.symm;have mV:aJ.wrap (R:Int)=(R:Int):=by rw[aM];omega
 have a5:=hid (show D=if l.length<20+26*d then([],0,0,2)
   else if 20+26*d<l.length then([],0,0,3)
   else if ¬((∀x∈jC d (l.drop 20),x.a<9223372036854775808/\x.f<9223372036854775808)/\jA (jC d (l.drop 20))) then([],0,0,3)
   else(jC d (l.drop 20),R,F,0) by
  rw[a8.out,aA (by rintro(h|h)<;>first|exact h HQ.out|exact hG h)])
 have c4:(l.drop 20).length=s.size-20:=by rw[bA,A.out]
 obtain⟨K,hK⟩:=ex1 (s.size-20);have f9:l.length=K+20:=by rw[A.out];omega
 rw[<-hK] at c4;obtain⟨T,hT⟩:=ex1 (l.drop 20);rw[<-hT] at c4 a3 a5;have g0:K<=1000000:=by omega
 clear a8 hG hK hT;have c0:=a3.cell (i:=0) rfl;obtain⟨N,e6⟩:=ex1 (26*d);have m3:aJ.wrap (26*(d:Int))=(N:Int):=by rw[aM];omega
 have g3:26*(d:Int)=(N:Int):=by omega
 have HN:=hid e6;clear e6
 by_cases q3:K<N
 ·obtain rfl:D=([],0,0,2):=by
   have:=HN.out;rw[a5.out,aB (by omega)]
  have u2:decide ((K:Int)<(N:Int))=true:=aG (by omega);go_wp2_with fail;refine fM (wS rfl _ _ _) rfl ?_;exact⟨_,_,rfl,RdR.nil _,.inr ⟨_,rfl,.inl rfl⟩,by rw[<-HP.out];exact h3⟩
 have u2:decide ((K:Int)<(N:Int))=false:=aE (by omega)
 by_cases q4:N<K
 ·obtain rfl:D=([],0,0,3):=by
   have:=HN.out;rw[a5.out,aA (by omega),aB (by omega)]
  have u3:decide ((K:Int)>(N:Int))=true:=aG (by omega);have f1:decide ((N:Int)<(K:Int))=true:=aG (by omega);go_wp2_with fail;refine fM (wS rfl _ _ _) rfl ?_;exact⟨_,_,rfl,RdR.nil _,.inr ⟨_,rfl,.inr (.inl rfl)⟩,by rw[<-HP.out];exact h3⟩
 have u3:decide ((K:Int)>(N:Int))=false:=aE (by omega);have f1:decide ((N:Int)<(K:Int))=false:=aE (by omega);have c5:=hid (show D=if ¬((∀x∈jC d T,x.a<9223372036854775808/\x.f<9223372036854775808)/\jA (jC d T)) then([],0,0,3) else(jC d T,R,F,0) by
  have:=HN.out;rw[a5.out,aA (by omega),aA (by omega)])
 have HT:=hid (show T.length=26*d by have:=HN.out;omega);have a2:d<=40000:=by have:=HN.out;omega
 clear a5 HN;go_wp2_with fail;clear c0 c1 b6 b7
 go_loopg [2,53] d (fun g s2 f2 wr=>∃k:Nat,k<=d/\g=d-k/\f2=.int .i64 (k:Int)/\Arr wr p 215 [.string (mkS (T.drop (26*k))),.bool (rC k T)]/\OwR wr (p+1) 103 5 s2 ((qK k T).map bG)/\Below p w wr)
 case atStart=>exact⟨0,aO _,rfl,rfl,a3,OwR.nil _ _ _ _,h3⟩
 case round=>
  obtain⟨k,hk,hg,rfl,Y,hor,a6⟩:=hrel;have HG:=hid hg;clear hg a3 h3
  by_cases g4:k<d
  ·have v1:decide ((k:Int)<(d:Int))=true:=aG (by omega);obtain⟨t,ht⟩:=ex1 (T.drop (26*k));have a4:26<=t.length/\t.length<=1000000:=by
    have h1:=HT.out;have h2:T.length=K:=c4;rw[ht,bA];omega
   obtain⟨Z1,c6⟩:∃Z1:Int,Z1=aJ.wrap (bP (t.take 8):Int):=⟨_,rfl⟩;obtain⟨Z2,c7⟩:∃Z2:Nat,Z2=bP ((t.drop 8).take 2):=⟨_,rfl⟩;obtain⟨Z3,c8⟩:∃Z3:Int,Z3=aJ.wrap (bP ((t.drop 10).take 8):Int):=⟨_,rfl⟩;obtain⟨Z4,c9⟩:∃Z4:Nat,Z4=bP ((t.drop 18).take 4):=⟨_,rfl⟩;obtain⟨I,a9⟩:∃I:Nat,I=bP ((t.drop 22).take 4):=⟨_,rfl⟩;obtain⟨g1,a0⟩:∃g1:Bool,g1=(rC k T||decide (9223372036854775808<=bP (t.take 8))):=⟨_,rfl⟩;obtain⟨g2,a1⟩:∃g2:Bool,g2=(g1||decide (9223372036854775808<=bP ((t.drop 10).take 8))):=⟨_,rfl⟩
   have HE:=hid (show(qK (k+1) T).map bG=(qK k T).map bG++[bG ⟨Z1,(Z2:Int),Z3,(Z4:Int),(I:Int)⟩] by
    rw[aKh,dY,<-ht,c6,c7,c8,c9,a9];rfl)
   have e7:=hid (show g2=rC (k+1) T by
    rw[aKi,<-ht,a1,a0,Bool.or_assoc];rfl)
   have f3:=hid (show t.drop 26=T.drop (26*(k+1)) by rw[ht,kG];rfl);have M:=fun W h=>NL p t (rC k T) 8 W h (by decide) (by omega) (by omega)
   have U:=fun W h=>GL p (t.drop 8) g1 2 Z2 W h (by decide) (by rw[bA];omega) (by rw[bA];omega) c7
   have O:=fun W h=>NL p (t.drop 10) g1 8 W h (by decide) (by rw[bA];omega) (by rw[bA];omega)
   have d0:=fun W h=>GL p (t.drop 18) g2 4 Z4 W h (by decide) (by rw[bA];omega) (by rw[bA];omega) c9
   have b0:=fun W h=>GL p (t.drop 22) g2 4 I W h (by decide) (by rw[bA];omega) (by rw[bA];omega) a9
   have b5:I<4294967296:=by rw[a9];exact DD (k:=4) (by rw[aQ];omega) (by decide)
   rw[<-c6,<-a0] at M;rw[<-c8,<-a1] at O;simp only[kG,cV] at U O d0 b0;rw[f3.out,e7.out] at b0;rw[<-ht] at Y;have f4:((qK k T).map bG).length<=40000:=by rw[aS,VZ];omega
   obtain⟨L,J⟩:=ex1 ((qK k T).map bG);rw[<-J] at HE hor f4;have m5:sH.wrap (I:Int)=(I:Int):=by rw[uB];omega
   have g5:(I:Int)%4294967296=(I:Int):=by omega
   clear ht c6 c7 c8 c9 a9 a0 a1 J;go_wp2_with fail;refine(M _ Y).mono ?_;rintro e w4 ⟨rfl,d1,d2⟩;have h4:=yH a6 d2 (aD _) (nG Y.lt);have d3:=hor.kept d2 (.inr (fun e=>absurd (hor.lt _ e).1 (by omega)));clear M Y d2 a6 hor;go_wp2_with fail;refine(U _ d1).mono ?_;rintro e w5 ⟨rfl,d4,d5⟩;have h5:=yH h4 d5 (aD _) (nG d1.lt);have d6:=d3.kept d5 (.inr (fun e=>absurd (d3.lt _ e).1 (by omega)));clear U d1 d5 h4 d3;go_wp2_with fail;refine(O _ d4).mono ?_;rintro e w6 ⟨rfl,d7,d8⟩;have h6:=yH h5 d8 (aD _) (nG d4.lt)
   have d9:=d6.kept d8 (.inr (fun e=>absurd (d6.lt _ e).1 (by omega)));clear O d4 d8 h5 d6;go_wp2_with fail;refine(d0 _ d7).mono ?_;rintro e w7 ⟨rfl,b1,e0⟩;have h7:=yH h6 e0 (aD _) (nG d7.lt);have e1:=d9.kept e0 (.inr (fun e=>absurd (d9.lt _ e).1 (by omega)));clear d0 d7 e0 h6 d9;rw[e7.out] at b1;go_wp2_with fail;refine(b0 _ b1).mono ?_;rintro e w8 ⟨rfl,e8,e2⟩;have h8:=yH h7 e2 (aD _) (nG b1.lt);have f5:=e1.kept e2 (.inr (fun e=>absurd (e1.lt _ e).1 (by omega)));have f6:=e8.lt;clear b0 b1 e2 h7 e1
   go_wp2_with (at_builtin;refine aKp rfl _ _ rfl (p+1) _ _ rfl (OwR.alloc f5 _) ⟨Z1,(Z2:Int),Z3,(Z4:Int),(I:Int)⟩ w8.heap.size rfl (Arr.new w8 _ _) ?_ ?_ ?_;(omega);(simp;omega);intro v' w9 q1 V);have hg:=HG.out
   go_roundg (d-(k+1))
   ·exact⟨k+1,by omega,rfl,by go_num,(e8.alloc _).below V (Nat.lt_succ_self _),by rw[HE.out];exact q1,(h8.alloc (nG f6) _).trans (V.mono (Nat.le_succ _))⟩
   ·omega
  ·have v1:decide ((k:Int)<(d:Int))=false:=aE (by omega);obtain rfl:k=d:=by omega
   have c1:=Y.cell (i:=1) rfl;have e9:=Y.lt;have f0:(qK k T).length<=1000000:=by rw[VZ];omega
   cases Z:rC k T with
   |true=>
    rw[Z] at c1;obtain rfl:D=([],0,0,3):=by
     rw[c5.out,aB (fun h=>by rw[(WA k T).2 h.1] at Z;exact absurd Z (by decide))]
    clear Z Y;go_wp2_with fail;refine fM (wS rfl _ _ _) rfl ?_;exact⟨_,_,rfl,RdR.nil _,.inr ⟨_,rfl,.inr (.inl rfl)⟩,by rw[<-HP.out];exact a6⟩
   |false=>
    rw[Z] at c1;have e3:=(WA k T).1 Z;have hr:=OwR.rd hor;rw[aKk k T Z] at hr f0;clear Z Y hor;have b4:=DB u2 _ wr hr f0
    by_cases hR:jA (jC k T)
    ·rw[aG hR] at b4;obtain rfl:D=(jC k T,R,F,0):=by rw[c5.out,aA (fun h=>h ⟨e3,hR⟩)]
     clear e3 hR;go_wp2_with fail;refine b4.mono ?_;rintro e w4 ⟨rfl,h4⟩;have f7:=hr.below h4;have h5:Below p w w4:=a6.trans (h4.mono (nG e9));go_wp2_with fail;refine fM (wS rfl _ _ _) rfl ?_;exact⟨_,_,rfl,f7,.inl ⟨rfl,rfl⟩,by rw[<-HP.out];exact h5⟩
    ·rw[aE hR] at b4;obtain rfl:D=([],0,0,3):=by rw[c5.out,aB (fun h=>hR h.2)]
     clear e3 hR;go_wp2_with fail;refine b4.mono ?_;rintro e w4 ⟨rfl,h4⟩;have h5:Below p w w4:=a6.trans (h4.mono (nG e9));go_wp2_with fail;refine fM (wS rfl _ _ _) rfl ?_;exact⟨_,_,rfl,RdR.nil _,.inr ⟨_,rfl,.inr (.inl rfl)⟩,by rw[<-HP.out];exact h5⟩
theorem WC (a s:ByteArray) (w:World) (G:s.size<=1000000) (d:(dX s.data.toList).2.2.2≠0):
  Calls pG 47 #[.string a,.string s] w fun e w'=>e=.returned (.tuple #[.slice none 0 0,.int .i64 (dX s.data.toList).2.2.2])/\Below w.heap.size w w':=by
 have A:=GM s w G;obtain⟨⟨l,n,c,x⟩,F⟩:∃D,D=dX s.data.toList:=⟨_,rfl⟩;rw[<-F] at A d ⊢;dsimp only at A d ⊢;clear F;go_enter func47,ntmps47;go_wp2_with fail;refine A.mono ?_;rintro e R ⟨v,U,rfl,-,I,J⟩;rcases I with⟨-,L⟩|⟨p,rfl,M⟩
 ·exact absurd L d
 have V:∀w,(binOp .eql 93 (.iface 167 (.agg #[.string p,.iface 165 (.int .i64 x)])) .nilIface).run pG w=.ok (.bool false) w:=fun w=>by kernel_rfl
 have Y:∀w,(binOp .neq 93 (.iface 167 (.agg #[.string p,.iface 165 (.int .i64 x)])) .nilIface).run pG w=.ok (.bool true) w:=fun w=>by kernel_rfl
 go_wp2_with fail;refine(GN p x _ M).mono ?_;rintro e Z ⟨rfl,O⟩;go_wp2_with fail
 go_ret2
 exact⟨rfl,aW J O⟩
end
end Go.Proofs.YtfckbfofgeilgaaGreatDoor
