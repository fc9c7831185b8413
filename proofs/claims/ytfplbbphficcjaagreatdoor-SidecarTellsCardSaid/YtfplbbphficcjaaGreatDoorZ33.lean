/-
  Texts put together (part 33): the walks and the plain laws on which the statement stands.
-/
import Derived.Test.YtfplbbphficcjaaGreatDoorZ31
import Derived.Test.YtfplbbphficcjaaGreatDoorZ32
set_option maxRecDepth 100000
set_option maxHeartbeats 12800000
set_option linter.unusedVariables false
set_option linter.unusedSimpArgs false
open Go.Proofs.Tryz
open Go.Proofs.Tryz renaming prog->pG
open And renaming intro->tK
open Go renaming wp_region_held_drew->rF
open Go.Act renaming eval->lL,put->bJ
open Go.IntKind renaming i64->aJ
open Go.RowKit.Below renaming refl->aH
open Go.World renaming block_lt_of_cell?->gV,size_alloc->fP
open Int renaming toNat_of_nonneg->rI
open List renaming flatten_cons->kW,getElem?_cons_succ->gH,getElem?_cons_zero->gB,getElem?_eq_getElem->aN,getElem?_map->eQ,getElem?_toArray->gA,length_append->aL,length_cons->aU,length_map->aS,length_nil->aV,length_singleton->fQ,length_take->aQ,map_append->dY,mem_cons->jQ,mem_of_getElem?->cN,setIfInBounds_toArray->bK,set_cons_succ->bB,set_cons_zero->bH,size_toArray->dB,take_add_one->cG,take_of_length_le->cD
open Nat renaming add_assoc->fU,le_refl->aD,reduceAdd->cV,reduceSub->dC,succ_pos->YD,zero_le->aO
open Or renaming inl->gJ,inr->gI
namespace Go.Proofs.YtfplbbphficcjaaGreatDoor
open Go.RowKit Go Go.Shelf
theorem aJg {s:List UInt8} {A:Int}:∀{l:List Prt} {e:Int},qZ s e l A->∀p∈l,zP s p
 |[],_,_,p,d=>by simp at d
 |x::l,e,h,p,d=>by
  rcases jQ.1 d with rfl|d
  ·exact h.2.1
  ·exact aJg h.2.2 p d
theorem aJh {s:List UInt8}:∀p∈eY s,zP s p:=fun p d=>by
 unfold eY at d
 by_cases q:(cI s).2=0
 ·rw[aB q] at d;exact aJg (ST q) p d
 ·rw[aA q] at d;simp at d
theorem GC (s:ByteArray):(eY s.data.toList).length<=8*s.size+2:=by
 have:=aI4 s rfl;unfold jY okP at this;rw[aL,aS] at this;unfold eY;split
 ·omega
 ·simp
theorem VF {w:World} {v:Value} {l:List Prt} (h:RdR w v (l.map kD)):∃a cap,v=.slice a l.length cap/\l.length<=cap/\cap<=maxLen/\
  (0<l.length->∃b off,a=some ⟨b,off,none⟩/\b<w.heap.size/\∀j p,l[j]? =some p->w.cell? ⟨b,off+j*5,none⟩=some (.string p.t)/\w.cell? ⟨b,off+j*5+1,none⟩=some (.int .u32 p.y)/\w.cell? ⟨b,off+j*5+2,none⟩=some (.int .i64 p.a)/\w.cell? ⟨b,off+j*5+3,none⟩=some (.int .i64 p.z)/\w.cell? ⟨b,off+j*5+4,none⟩=some (.int .i64 p.r)):=by
 obtain⟨a,cap,d,A,F,D⟩:=h.open (CU l) (by decide);rw[aS] at d A D;refine⟨a,cap,d,A,F,fun G=>?_⟩;obtain⟨b,off,H,I,J⟩:=D G;refine⟨b,off,H,I,fun j p L=>?_⟩;have e:(l.map kD)[j]? =some (kD p):=by rw[eQ,L];rfl
 have c:=fun i u M=>J j (kD p) i u e M
 refine⟨c 0 _ rfl,?_,?_,?_,?_⟩
 ·rw[fU];exact c 1 _ rfl
 ·rw[fU];exact c 2 _ rfl
 ·rw[fU];exact c 3 _ rfl
 ·rw[fU];exact c 4 _ rfl
theorem bDi {P:Program} {t e k A:Nat} {z:Value} (E:ElR P t e k A z) {D:Array Oper} {rest:List Oper} {o:Oper} {a:Act} {Q:Exit->Act->World->Prop} {w:World} (G:o.guard=none) (s x:Operand)
  (H:o.op=.call {callee:=.builtin .append,args:=#[s,x],argTypes:=#[t,t]}) (base:Nat) (v:Value) (l:lC) (hs:a.eval s=v) (hown:OwR w base e k v l)
  (g:Nat) (q:List Value) (hx:a.eval x=.slice (some ⟨g,0,none⟩) 1 1) (hc:Arr w g e q) (hq:q.length=k) (h1:∀u∈q,u.oneCell'=true) (hroom:(l.length+1)*A<=140737488355328) (hbase:base<=w.heap.size)
  (h:∀d w',OwR w' base e k d (l++[q])->Below base w w'->w.grownBy w' v.ownBlock->wpList P D Q rest (a.put o.dst d) w'):wpList P D Q (o::rest) a w:=by
 obtain⟨i,I,J,L,M⟩:=E.info;have O:=E.pos;have V:l.length+1<=140737488355328:=Nat.le_trans (Nat.le_mul_of_pos_right _ O) hroom;refine wpList_append_own w G s x t H base e i z k A E.under I J L M E.cells E.some' v l.length l.flatten hs hown ⟨g,0,none⟩ 1 1 q hx (by rw[hq,Nat.one_mul]) (fun j u T=>?_) h1 (by simp only[maxLen];omega) hroom hbase (fun d w' U F _=>h d w' ?_ (rJ hown F hbase) F)
 ·rw[show(⟨g,0,none⟩:Addr).add j=⟨g,j,none⟩ by unfold Addr.add;split<;>simp_all];exact hc.cell T
 ·unfold OwR;rw[List.flatten_append,aL,kW,List.flatten_nil,List.append_nil];exact U
theorem aJi (s:ByteArray) (w:World) (hE:dU w) (hs:s.size<=120000):
  Calls pG 53 #[.string s] w fun e w'=>∃v,e=.returned (.tuple #[v,.int .i64 (cI s.data.toList).2])/\RdR w' v ((eY s.data.toList).map oK)/\Below w.heap.size w w':=by
 have a1:=GC s;have I:=VB s w hE hs;obtain⟨l,D⟩:∃l,l=eY s.data.toList:=⟨_,rfl⟩;obtain⟨E,J⟩:∃E,E=(cI s.data.toList).2:=⟨_,rfl⟩;rw[<-D,<-J] at I ⊢;rw[<-D] at a1;clear D J;go_enter func53,ntmps53;go_wp2_with fail;refine I.mono ?_;rintro e A ⟨v,rfl,L,M⟩;obtain⟨a,ca,rfl,a6,a2,O⟩:=VF L;unfold maxLen at a2;have a3:=M.size;clear L;go_wp2_with fail
 go_loopg [2,6,14] l.length (fun g s2 _s6 a4 wr=>∃k:Nat,k<=l.length/\g=l.length-k/\a4=.int .i64 (k:Int)/\OwR wr A.heap.size 59 4 s2 ((l.take k).map oK)/\Below A.heap.size A wr)
 case atStart=>exact⟨0,aO _,rfl,rfl,OwR.nil _ _ _ _,aH _ _⟩
 case round=>
  obtain⟨k,hk,F,rfl,hor,d⟩:=hrel;have HG:=hid F;clear F
  by_cases a5:k<l.length
  ·have t1:decide ((k:Int)<(l.length:Int))=true:=aG (by omega);obtain⟨b,off,rfl,h,T⟩:=O (by omega);obtain⟨p,G⟩:∃p,l[k]? =some p:=⟨_,aN a5⟩;obtain⟨U,V,Y,Z,x4⟩:=T k p G;have c0:=(d.cell (p:=⟨b,off+k*5,none⟩) h).trans U;have c1:=(d.cell (p:=⟨b,off+k*5+1,none⟩) h).trans V;have c2:=(d.cell (p:=⟨b,off+k*5+2,none⟩) h).trans Y;have c3:=(d.cell (p:=⟨b,off+k*5+3,none⟩) h).trans Z;have c4:=(d.cell (p:=⟨b,off+k*5+4,none⟩) h).trans x4;have HT:=hid (show(l.take (k+1)).map oK=(l.take k).map oK++[oK p] by rw[cG,G,dY];rfl);have a7:=d.size
   have a8:((l.take k).map oK).length<=960010:=by rw[aS,aQ];omega
   clear U V Y Z x4 T G O;have H:=Arr.new (wr.alloc (.cells #[.string p.t,.int .u32 p.y,.int .i64 p.a,.int .i64 p.z,.int .i64 p.r] 131)) 59 (oK p);rw[fP] at H;have a0:=OwR.alloc (OwR.alloc hor (.cells #[.string p.t,.int .u32 p.y,.int .i64 p.a,.int .i64 p.z,.int .i64 p.r] 131)) (.cells (oK p).toArray 59);change Arr ((wr.alloc (.cells #[.string p.t,.int .u32 p.y,.int .i64 p.a,.int .i64 p.z,.int .i64 p.r] 131)).alloc (.cells #[.string p.t,.int .u32 p.y,.int .i64 p.a,.int .i64 p.z] 59)) _ _ _ at H
   change OwR ((wr.alloc (.cells #[.string p.t,.int .u32 p.y,.int .i64 p.a,.int .i64 p.z,.int .i64 p.r] 131)).alloc (.cells #[.string p.t,.int .u32 p.y,.int .i64 p.a,.int .i64 p.z] 59)) _ _ _ _ _ at a0;go_wp2_with (at_builtin;refine bDi bC2 rfl _ _ rfl A.heap.size _ _ rfl a0 _ (oK p) rfl H rfl (fun u hu=>(aI5 [p] _ (by simp)).2 u hu) ?_ ?_ ?_;(omega);(simp;omega);intro v3 w3 p1 p2 p3);have F:=HG.out
   go_roundg (l.length-(k+1))
   case measure=>omega
   case rel=>exact⟨k+1,by omega,rfl,by go_num,by rw[HT.out];exact p1,(((d.alloc (by omega) _).alloc (by simp;omega) _).trans p2)⟩
  ·have t1:decide ((k:Int)<(l.length:Int))=false:=aE (by omega);have HT:=hid (show(l.take k).map oK=l.map oK by rw[cD (by omega)]);go_wp2_with fail
   go_ret2
   exact⟨_,rfl,by rw[<-HT.out];exact hor.rd,M.trans (d.mono a3)⟩
theorem aJj (s:ByteArray) (w:World) (hE:dU w) (hs:s.size<=120000):
  Calls pG 54 #[.string s] w fun e w'=>∃v,e=.returned (.tuple #[v,.int .i64 (cI s.data.toList).2])/\RdI w' v ((eY s.data.toList).map Prt.r)/\Below w.heap.size w w':=by
 have a0:=GC s;have H:=VB s w hE hs;obtain⟨l,D⟩:∃l,l=eY s.data.toList:=⟨_,rfl⟩;obtain⟨E,I⟩:∃E,E=(cI s.data.toList).2:=⟨_,rfl⟩;rw[<-D,<-I] at H ⊢;rw[<-D] at a0;clear D I;go_enter func54,ntmps54;go_wp2_with fail;refine H.mono ?_;rintro e A ⟨v,rfl,J,L⟩;obtain⟨a,ca,rfl,a6,a1,M⟩:=VF J;unfold maxLen at a1;have a2:=L.size;clear J;go_wp2_with fail
 go_loopg [2,6,14] l.length (fun g s2 _s6 a3 wr=>∃k:Nat,k<=l.length/\g=l.length-k/\a3=.int .i64 (k:Int)/\OwI wr A.heap.size s2 ((l.take k).map Prt.r)/\Below A.heap.size A wr)
 case atStart=>exact⟨0,aO _,rfl,rfl,OwI.nil _ _,aH _ _⟩
 case round=>
  obtain⟨k,hk,F,rfl,hor,d⟩:=hrel;have HG:=hid F;clear F
  by_cases a4:k<l.length
  ·have t1:decide ((k:Int)<(l.length:Int))=true:=aG (by omega);obtain⟨b,off,rfl,h,O⟩:=M (by omega);obtain⟨p,G⟩:∃p,l[k]? =some p:=⟨_,aN a4⟩;obtain⟨T,U,V,Y,Z⟩:=O k p G;have c0:=(d.cell (p:=⟨b,off+k*5,none⟩) h).trans T;have c1:=(d.cell (p:=⟨b,off+k*5+1,none⟩) h).trans U;have c2:=(d.cell (p:=⟨b,off+k*5+2,none⟩) h).trans V;have c3:=(d.cell (p:=⟨b,off+k*5+3,none⟩) h).trans Y;have c4:=(d.cell (p:=⟨b,off+k*5+4,none⟩) h).trans Z;have HT:=hid (show(l.take (k+1)).map Prt.r=(l.take k).map Prt.r++[p.r] by rw[cG,G,dY];rfl);have a7:=d.size
   have a8:((l.take k).map Prt.r).length<=960010:=by rw[aS,aQ];omega
   clear T U V Y Z O G M;have hN:=bX (wr.alloc (.cells #[.string p.t,.int .u32 p.y,.int .i64 p.a,.int .i64 p.z,.int .i64 p.r] 131)) (.int .i64 p.r) 3;rw[fP] at hN;have a5:=OwI.alloc (OwI.alloc hor (.cells #[.string p.t,.int .u32 p.y,.int .i64 p.a,.int .i64 p.z,.int .i64 p.r] 131)) (.cells #[.int .i64 p.r] 3);go_wp2_with (at_builtin;refine gK rfl _ _ rfl A.heap.size _ _ rfl a5 _ p.r rfl hN ?_ ?_ ?_;(omega);(simp;omega);intro v3 w3 p1 p2 p3);have F:=HG.out
   go_roundg (l.length-(k+1))
   case measure=>omega
   case rel=>exact⟨k+1,by omega,rfl,by go_num,by rw[HT.out];exact p1,(((d.alloc (by omega) _).alloc (by simp;omega) _).trans p2)⟩
  ·have t1:decide ((k:Int)<(l.length:Int))=false:=aE (by omega);have HT:=hid (show(l.take k).map Prt.r=l.map Prt.r by rw[cD (by omega)]);go_wp2_with fail
   go_ret2
   exact⟨_,rfl,by rw[<-HT.out];exact hor.rd,L.trans (d.mono a2)⟩
theorem AK:ElR pG 22 47 5 40 (.agg #[.int .i64 0,.int .i64 0,.int .i64 0,.int .i64 0,.int .u32 0]):=ElR.mk' (by kernel_rfl) underlying22 rfl (by decide) (by decide)
theorem RdR.nil (w:World):RdR w (.slice none 0 0) []:=⟨none,0,rfl,aD _,by simp[maxLen],.inl rfl⟩
theorem GK (s:ByteArray) (w:World) (hE:dU w) (hs:s.size<=120000):
  Calls pG 37 #[.string s] w fun e w'=>∃v,e=.returned (.tuple #[v,.int .i64 (cI s.data.toList).2])/\RdR w' v ((gU 0 (eY s.data.toList)).map bG)/\Below w.heap.size w w':=by
 have d5:=GC s;have a9:=fun p (h:p∈eY s.data.toList)=>aJh p h
 have Y:(cI s.data.toList).2≠0->eY s.data.toList=[]:=fun h=>aA h
 have a1:=fun W h=>aJi s W h hs
 have a2:=fun W h=>aJj s W h hs
 obtain⟨l,Z⟩:∃l,l=eY s.data.toList:=⟨_,rfl⟩;obtain⟨E,b0⟩:∃E,E=(cI s.data.toList).2:=⟨_,rfl⟩;have d6:∀p∈l,p.t.size<=18720:=fun p D=>by
  rw[Z] at D;have h:=a9 p D;obtain⟨-,-,g3,-⟩:=h.facts;obtain⟨-,-,g5,-⟩:=h;omega
 rw[<-Z,<-b0] at a1 a2 Y ⊢;rw[<-Z] at d5;clear Z b0 a9;go_enter func37,ntmps37;go_wp2_with fail;refine(a1 _ hE).mono ?_;rintro e w1 ⟨v1,rfl,b1,h1⟩;have b3:=hE.below h1
 by_cases h0:E=0
 rotate_left
 ·have t1:(E != 0)=true:=bne_iff_ne.2 h0;have HN:=hid (Y h0);clear Y;go_wp2_with fail
  go_ret2
  exact⟨_,rfl,by rw[HN.out];exact RdR.nil _,h1⟩
 subst h0;clear Y;go_wp2_with fail;refine(a2 _ b3).mono ?_;rintro e G ⟨v2,rfl,b4,h2⟩;have V:=b1.below h2;have b5:=aW h1 h2;obtain⟨pa,pc,rfl,e9,d7,b6⟩:=bEm V;obtain⟨ra,rc,rfl,d8,d9,a3⟩:=b4.open;rw[aS] at d8 a3 ⊢;unfold maxLen at d7 d9;have e1:=b5.size;clear b1 V b4 a1 a2 h1 h2 b3 hE;go_wp2_with fail
 go_loopg [2,7,8,9,25] l.length (fun g s2 s7 _s8 _s9 e2 wr=>∃k F:Nat,k<=l.length/\g=l.length-k/\e2=.int .i64 (k:Int)/\s7=.int .i64 (F:Int)/\Hid (F=vE (l.take k))/\F<=18720*k/\OwR wr G.heap.size 47 5 s2 ((gU 0 (l.take k)).map bG)/\Below G.heap.size G wr)
 case atStart=>exact⟨0,0,aO _,rfl,rfl,rfl,hid rfl,aO _,OwR.nil _ _ _ _,aH _ _⟩
 case round=>
  obtain⟨k,F,hk,hg,rfl,rfl,HF,f0,hor,H⟩:=hrel;have HG:=hid hg;have e3:=H.size;clear hg
  by_cases e4:k<l.length
  ·have t1:decide ((k:Int)<(l.length:Int))=true:=aG (by omega);obtain⟨b,off,rfl,hb,hc⟩:=b6 (by omega);obtain⟨M,O,rfl,V,b7⟩:=a3 (by omega);obtain⟨p,D⟩:∃p,l[k]? =some p:=⟨_,aN e4⟩;obtain⟨x0,x1,x2,x3⟩:=hc k p D;have y0:=b7 k p.r (by rw[eQ,D];rfl);have c0:=(H.cell (p:=⟨b,off+k*4,none⟩) hb).trans x0;have c1:=(H.cell (p:=⟨b,off+k*4+1,none⟩) hb).trans x1;have c2:=(H.cell (p:=⟨b,off+k*4+2,none⟩) hb).trans x2;have c3:=(H.cell (p:=⟨b,off+k*4+3,none⟩) hb).trans x3;have d0:=(H.cell (p:=⟨M,O+k,none⟩) V).trans y0;have f1:=d6 p (cN D)
   have HT:=hid (show(gU 0 (l.take (k+1))).map bG=(gU 0 (l.take k)).map bG++[bG ⟨p.a,p.r,(F:Int),(p.t.size:Int),p.y⟩] by rw[bEo D,dY,HF.out];rfl);have b8:=hid (show F+p.t.size=vE (l.take (k+1)) by rw[bEp D,HF.out]);have f2:((gU 0 (l.take k)).map bG).length<=960010:=by rw[aS,NK,aQ];omega
   clear x0 x1 x2 x3 hc b7 b6 a3 D;go_wp2_with fail;obtain⟨A,hz⟩:∃A,A=wr.heap.size:=⟨_,rfl⟩;have L:=Arr.new wr 59 [.string p.t,.int .u32 p.y,.int .i64 p.a,.int .i64 p.z];have b9:=OwR.alloc hor (.cells #[.string p.t,.int .u32 p.y,.int .i64 p.a,.int .i64 p.z] 59);have a4:=H.alloc e3 (.cells #[.string p.t,.int .u32 p.y,.int .i64 p.a,.int .i64 p.z] 59)
   have e0:(wr.alloc (.cells #[.string p.t,.int .u32 p.y,.int .i64 p.a,.int .i64 p.z] 59)).cell? ⟨M,O+k,none⟩=some (.int .i64 p.r):=((bD (aH _ wr) (.cells #[.string p.t,.int .u32 p.y,.int .i64 p.a,.int .i64 p.z] 59)).cell (p:=⟨M,O+k,none⟩) (gV wr _ d0)).trans d0;change Arr (wr.alloc (.cells #[.string p.t,.int .u32 p.y,.int .i64 p.a,.int .i64 p.z] 59)) _ _ _ at L;clear c0 c1 c2 c3 d0;rw[<-hz] at L ⊢;generalize wr.alloc (.cells #[.string p.t,.int .u32 p.y,.int .i64 p.a,.int .i64 p.z] 59)=d at*
   have c4:=a4.size;clear hz hor H;obtain⟨T,U⟩:∃T,T=(d.alloc (.cells #[.int .i64 p.a,.int .i64 p.r,.int .i64 (F:Int),.int .i64 (p.t.size:Int),.int .u32 p.y] 47)).drew:=⟨_,rfl⟩;have c5:Arr T A 59 [.string p.t,.int .u32 p.y,.int .i64 p.a,.int .i64 p.z]:=by rw[U];exact Arr.alloc L _
   have a5:OwR T G.heap.size 47 5 u2 ((gU 0 (l.take k)).map bG):=by rw[U];exact OwR.alloc b9 _
   have c6:Arr T d.heap.size 47 (bG ⟨p.a,p.r,(F:Int),(p.t.size:Int),p.y⟩):=by rw[U];exact Arr.new d 47 (bG ⟨p.a,p.r,(F:Int),(p.t.size:Int),p.y⟩)
   have a6:Below G.heap.size G T:=by rw[U];exact(a4.alloc c4 _).drew
   have c7:=a6.size;obtain⟨v',a7,hr,e5,c8,c9⟩:=LS AK 22 G.heap.size u2 _ a5 _ [bG ⟨p.a,p.r,(F:Int),(p.t.size:Int),p.y⟩] (RdR.one c6) (yG [⟨p.a,p.r,(F:Int),(p.t.size:Int),p.y⟩]) (YD _) (by simp only[fQ];omega) c7;have a0:Arr a7 A 59 [.string p.t,.int .u32 p.y,.int .i64 p.a,.int .i64 p.z]:=c5.otherRow a5 c9 (by decide);have d1:=a6.trans c8;have z0:=L.cell (i:=0) rfl;have z1:=L.cell (i:=1) rfl;have z2:=L.cell (i:=2) rfl;rw[U] at hr;clear c5 a5 c6 a6 c7 U c9 c8 b9 a4 c4 L
   have kk:∀{a:Addr} {v:Value},d.cell? a=some v->(d.alloc (.cells #[.int .i64 p.a,.int .i64 p.r,.int .i64 (F:Int),.int .i64 (p.t.size:Int),.int .u32 p.y] 47)).drew.cell? a=some v:=fun{a} {v} h=>((bD (aH _ d) (.cells #[.int .i64 p.a,.int .i64 p.r,.int .i64 (F:Int),.int .i64 (p.t.size:Int),.int .u32 p.y] 47)).drew.cell (gV d _ h)).trans h
   have d2:d.drew.cell? ⟨A,0,none⟩=some (.string p.t)/\d.drew.cell? ⟨A,1,none⟩=some (.int .u32 p.y)/\d.drew.cell? ⟨A,2,none⟩=some (.int .i64 p.a)/\d.drew.cell? ⟨M,O+k,none⟩=some (.int .i64 p.r):=⟨z0,z1,z2,e0⟩;have d3:=tK (kk z0) (tK (kk z1) (tK (kk z2) (kk e0)));have a8:=tK (a0.cell (i:=0) rfl) (tK (a0.cell (i:=1) rfl) (tK (a0.cell (i:=2) rfl) (((show Below G.heap.size G a7 from d1).cell (p:=⟨M,O+k,none⟩) V).trans y0)))
   refine rF (S:=fun wx=>wx.cell? ⟨A,0,none⟩=some (.string p.t)/\wx.cell? ⟨A,1,none⟩=some (.int .u32 p.y)/\wx.cell? ⟨A,2,none⟩=some (.int .i64 p.a)/\wx.cell? ⟨M,O+k,none⟩=some (.int .i64 p.r)) (by kernel_rfl) d2 (fun e6=>?_)
   iterate 14
    refine fV 0 0 (by simp only[dB,aU,aV,cV,dC]<;>rfl) (by simp only[gA,gH,gB];rfl) (by kernel_rfl) (by exact fun _ _ _ h=>h) (by first|exact gI ⟨by rfl,rfl⟩|(refine gJ ⟨by rfl,?_⟩;intro w' e7;(try dsimp only at e7);(try go_simp);try with_reducible rfl)) (by assumption) ?_
    try simp only[bJ,bK,bH,bB]
   refine dJ (i:=14) (by kernel_rfl) rfl (fun K I=>?_);go_simp;refine I.out _ _ d3 (fun _=>?_)
   try simp only[bJ,bK,bH,bB]
   clear I K;refine dJ (i:=15) (by kernel_rfl) rfl (fun K I=>?_);refine sX rfl (.tmp 30) (.tmp 44) 22 rfl u2 (.slice (some ⟨d.heap.size,0,none⟩) 1 1) v' a7 (by simp[lL]) (by simp[lL]) hr ?_;refine I.out _ _ a8 (fun _=>?_)
   try simp only[bJ,bK,bH,bB]
   clear I K;refine dJ (i:=16) (by kernel_rfl) rfl (fun K I=>?_);go_simp;refine I.out _ _ a8 (fun _=>?_)
   try simp only[bJ,bK,bH,bB]
   clear I K;refine wpAnyH_done (by kernel_rfl) ?_ _;have g0:=a0.cell (i:=0) rfl;obtain⟨J,d4⟩:∃J,J=F+p.t.size:=⟨_,rfl⟩;have m1:aJ.wrap ((F:Int)+(p.t.size:Int))=(J:Int):=by rw[show(F:Int)+(p.t.size:Int)=(J:Int) by omega];exact tE J (by omega)
   have f3:(F:Int)+(p.t.size:Int)=(J:Int):=by omega
   have e8:J<=18720*(k+1):=by omega
   rw[<-d4] at b8;clear d4 z0 z1 z2 hr e0 d2 d3 a8 e6;go_wp2_with fail;have hg:=HG.out
   go_roundg (l.length-(k+1))
   case measure=>omega
   case rel=>exact⟨k+1,J,by omega,rfl,by go_num,rfl,b8,e8,by rw[HT.out];exact e5,d1⟩
  ·have t1:decide ((k:Int)<(l.length:Int))=false:=aE (by omega);have HT:=hid (show l.take k=l by rw[cD (by omega)]);go_wp2_with fail
   go_ret2
   exact⟨_,rfl,by rw[<-HT.out];exact hor.rd,b5.trans (H.mono e1)⟩
theorem AL (c n:Int) (w:World) (A: -9223372036854775808<=c) (D:c<=9223372036854775807) (F:1<=n) (G:n<=4611686018427387904):
  Calls pG 22 #[.int .i64 c,.int .i64 n] w fun e w'=>e=.returned (.int .i64 (cK c n))/\w=w':=by
 by_cases h:c<0
 ·have d:=hid (show cK c n=(-(c+1))%n from by simp[cK,h]);go_enter func22,ntmps22;go_wp2;go_ret;exact⟨eI (by rw[d.out];rw[<-Int.neg_tmod,Int.tmod_eq_emod_of_nonneg (by omega)]),rfl⟩
 ·have d:=hid (show cK c n=c%n from by simp[cK,h]);have H:0<=c:=by omega
  go_enter func22,ntmps22;go_wp2;go_ret;exact⟨eI (by rw[d.out]),rfl⟩
def AM (x:kE):List Value:=[.int .i64 x.1,.int .i64 x.2.1,.int .i64 x.2.2]
def WfT (l:List kE):Prop:=∀x∈l,(-9223372036854775808<=x.1/\x.1<=9223372036854775807)/\(-9223372036854775808<=x.2.1/\x.2.1<=9223372036854775807)/\(-9223372036854775808<=x.2.2/\x.2.2<=9223372036854775807)
theorem bFl (l:List kE):oW 3 (l.map AM):=fun q e=>by
 obtain⟨p,_,rfl⟩:=List.mem_map.1 e;exact⟨rfl,fun u d=>by unfold AM at d;simp only[jQ,List.not_mem_nil,or_false] at d;rcases d with rfl|rfl|rfl<;>rfl⟩
theorem bFm {w:World} {v:Value} {l:List kE} (h:RdR w v (l.map AM)):∃a cap,v=.slice a l.length cap/\l.length<=cap/\cap<=maxLen/\
  (0<l.length->∃b off,a=some ⟨b,off,none⟩/\b<w.heap.size/\∀j p,l[j]? =some p->w.cell? ⟨b,off+j*3,none⟩=some (.int .i64 p.1)/\w.cell? ⟨b,off+j*3+1,none⟩=some (.int .i64 p.2.1)/\w.cell? ⟨b,off+j*3+2,none⟩=some (.int .i64 p.2.2)):=by
 obtain⟨a,cap,d,A,F,D⟩:=h.open (bFl l) (by decide);rw[aS] at d A D;refine⟨a,cap,d,A,F,fun G=>?_⟩;obtain⟨b,off,H,I,J⟩:=D G;refine⟨b,off,H,I,fun j p M=>?_⟩;have e:(l.map AM)[j]? =some (AM p):=by grind
 have c:=fun i u L=>J j (AM p) i u e L
 refine⟨c 0 _ rfl,?_,?_⟩
 ·rw[fU];exact c 1 _ rfl
 ·rw[fU];exact c 2 _ rfl
theorem bHk (v:Value) (d:List kE) (w:World) (T:RdR w v (d.map AM)) (c3:WfT d):
  Calls pG 6 #[v] w fun e w'=>∃u,e=.returned u/\RdR w' u ((tY d).map bG)/\Below w.heap.size w w':=by
 obtain⟨a,ca,rfl,e8,d4,hA⟩:=bFm T;unfold maxLen at d4;clear T;go_enter func6,ntmps6;go_wp2_with fail
 go_loopg [3,4,5,6,7] d.length (fun g s3 s4 s5 s6 _s7 wr=>∃k P F:Nat,k<=d.length/\k<=20/\g=d.length-k/\s6=.int .i64 (k:Int)/\s4=.int .i64 (P:Int)/\s5=.int .i64 (F:Int)/\Hid ((P:Int)=tG (d.take k) 32/\(F:Int)=rB (d.take k) 0)/\(P<=6032/\F<=600)/\OwR wr w.heap.size 47 5 s3 ((pC (d.take k) 32 0).map bG)/\Below w.heap.size w wr)
 case atStart=>exact⟨0,32,0,aO _,aO _,rfl,rfl,rfl,rfl,hid ⟨rfl,rfl⟩,⟨by decide,by decide⟩,OwR.nil _ _ _ _,aH _ _⟩
 case round=>
  obtain⟨k,P,F,hk,e9,hg,rfl,rfl,rfl,a0,f0,hor,M⟩:=hrel;have HG:=hid hg;have d5:=M.size;clear hg
  by_cases d6:k<d.length
  rotate_left
  ·have t1:decide ((k:Int)<(d.length:Int))=false:=aE (by omega);have HT:=hid (show pC (d.take k) 32 0=tY d by unfold tY;rw[cD (by omega),cD (by omega)]);go_wp2_with fail;go_ret;exact⟨_,rfl,by rw[<-HT.out];exact hor.rd,M⟩
  have t1:decide ((k:Int)<(d.length:Int))=true:=aG (by omega)
  by_cases f1:k<20
  rotate_left
  ·have t2:decide ((k:Int)<20)=false:=aE (by omega);obtain rfl:k=20:=by omega
   go_wp2_with fail;go_ret;exact⟨_,rfl,hor.rd,M⟩
  have t2:decide ((k:Int)<20)=true:=aG (by omega);obtain⟨b,off,rfl,U,hc⟩:=hA (by omega);obtain⟨x,hx⟩:∃x,d[k]? =some x:=⟨_,aN d6⟩;obtain⟨y0,y1,y2⟩:=hc k x hx;obtain⟨⟨w1,w2⟩,⟨w3,w4⟩,⟨w5,w6⟩⟩:=c3 x (cN hx);have c0:=(M.cell (p:=⟨b,off+k*3,none⟩) U).trans y0;have c1:=(M.cell (p:=⟨b,off+k*3+1,none⟩) U).trans y1;have c2:=(M.cell (p:=⟨b,off+k*3+2,none⟩) U).trans y2;have a7:=fun W=>AL x.1 300 W w1 w2 (by decide) (by decide)
  have a8:=fun W=>AL x.2.1 30 W w3 w4 (by decide) (by decide)
  have a9:=fun W=>AL x.2.2 9 W w5 w6 (by decide) (by decide)
  have b0:=fun W=>AL x.2.2 1000 W w5 w6 (by decide) (by decide)
  obtain⟨p1,p2⟩:=lN x.1 300 (by decide);obtain⟨p3,p4⟩:=lN x.2.1 30 (by decide);obtain⟨p5,p6⟩:=lN x.2.2 9 (by decide);obtain⟨p7,p8⟩:=lN x.2.2 1000 (by decide);have b1:d.take (k+1)=d.take k++[x]:=by rw[cG,hx];rfl
  have HT:=hid (show(pC (d.take (k+1)) 32 0).map bG=(pC (d.take k) 32 0).map bG++[bG (GJ x (P:Int) (F:Int))] by rw[b1,aKd,dY,<-a0.out.1,<-a0.out.2];rfl);have b2:=hid (show tG (d.take (k+1)) 32=(P:Int)+cK x.1 300+1 by rw[b1,aKe,<-a0.out.1]);have b3:=hid (show rB (d.take (k+1)) 0=(F:Int)+(1+cK x.2.1 30) by rw[b1,aKf,<-a0.out.2]);have b5:=aKg (d.take (k+1)) 32;have b6:=VX (d.take (k+1)) 0;rw[b2.out] at b5;rw[b3.out] at b6;have d7:(d.take (k+1)).length<=20:=by rw[aQ];omega
  have f2:((pC (d.take k) 32 0).map bG).length<=20:=by rw[aS,VY,aQ];omega
  unfold GJ at HT;obtain⟨V,c4⟩:∃V:Nat,cK x.1 300=(V:Int):=⟨_,(rI p1).symm⟩;obtain⟨Y,c5⟩:∃Y:Nat,cK x.2.1 30=(Y:Int):=⟨_,(rI p3).symm⟩;obtain⟨Z,c6⟩:∃Z:Nat,cK x.2.2 9=(Z:Int):=⟨_,(rI p5).symm⟩;obtain⟨G,c7⟩:∃G:Nat,cK x.2.2 1000=(G:Int):=⟨_,(rI p7).symm⟩;rw[c4] at a7 HT b2 b5 p2;rw[c5] at a8 HT b3 b6 p4;rw[c6] at a9 HT p6;rw[c7] at b0 HT p8;obtain⟨A,d8⟩:∃A,A=P+V:=⟨_,rfl⟩;obtain⟨n,hn⟩:∃n,n=1+Y:=⟨_,rfl⟩;obtain⟨I,d9⟩:∃I,I=1+Z:=⟨_,rfl⟩;obtain⟨H,e0⟩:∃H,H=40*I:=⟨_,rfl⟩;obtain⟨J,e1⟩:∃J,J=A+1:=⟨_,rfl⟩
  obtain⟨L,e2⟩:∃L,L=F+n:=⟨_,rfl⟩;have e3:=hid (show(J:Int)=tG (d.take (k+1)) 32/\(L:Int)=rB (d.take (k+1)) 0 from⟨by rw[b2.out];omega,by rw[b3.out];omega⟩);rw[show(P:Int)+(V:Int)=(A:Int) by omega,show 40*(1+(Z:Int))=(H:Int) by omega,show 1+(Y:Int)=(n:Int) by omega] at HT;have m1:aJ.wrap ((P:Int)+(V:Int))=(A:Int):=by rw[show(P:Int)+(V:Int)=(A:Int) by omega];exact tE A (by omega)
  have m2:aJ.wrap (1+(Y:Int))=(n:Int):=by rw[show 1+(Y:Int)=(n:Int) by omega];exact tE n (by omega)
  have m3:aJ.wrap (1+(Z:Int))=(I:Int):=by rw[show 1+(Z:Int)=(I:Int) by omega];exact tE I (by omega)
  have m4:aJ.wrap (40*(I:Int))=(H:Int):=by rw[show 40*(I:Int)=(H:Int) by omega];exact tE H (by omega)
  have m5:aJ.wrap ((A:Int)+1)=(J:Int):=by rw[show(A:Int)+1=(J:Int) by omega];exact tE J (by omega)
  have m6:aJ.wrap ((F:Int)+(n:Int))=(L:Int):=by rw[show(F:Int)+(n:Int)=(L:Int) by omega];exact tE L (by omega)
  have m7:IntKind.u32.wrap (G:Int)=(G:Int):=by rw[IntKind.wrap_u32];omega
  have f3:(G:Int)%4294967296=(G:Int):=by omega
  have e4:J<=6032/\L<=600:=by omega
  clear hc hA hx b1 b2 b3 b5 b6 d7 c4 c5 c6 c7 d8 hn d9 e0 e1 e2 a0 w1 w2 w3 w4 w5 w6 p1 p3 p5 p7 c3;obtain⟨x0,x1,x2⟩:=x;dsimp only at c0 c1 c2 y0 y1 y2 a7 a8 a9 b0 HT;go_wp2_with fail;refine(a7 _).mono ?_;rintro e w' ⟨rfl,rfl⟩;go_wp2_with fail;refine(a8 _).mono ?_;rintro e w' ⟨rfl,rfl⟩;clear a7 a8;go_wp2_with fail;obtain⟨a5,a6⟩:∃a5,a5=(wr.alloc (.cells #[.int .i64 (A:Int),.int .i64 (H:Int),.int .i64 (F:Int),.int .i64 (n:Int),.int .u32 (G:Int)] 47)).drew:=⟨_,rfl⟩;have c8:OwR a5 w.heap.size 47 5 u3 ((pC (d.take k) 32 0).map bG):=by rw[a6];exact OwR.alloc hor _
  have c9:Arr a5 wr.heap.size 47 (bG ⟨(A:Int),(H:Int),(F:Int),(n:Int),(G:Int)⟩):=by rw[a6];exact Arr.new wr 47 (bG ⟨(A:Int),(H:Int),(F:Int),(n:Int),(G:Int)⟩)
  have b7:Below w.heap.size w a5:=by rw[a6];exact(M.alloc d5 _).drew
  have d0:=b7.size;obtain⟨v',e5,T,e6,d1,e7⟩:=LS AK 22 w.heap.size u3 _ c8 _ [bG ⟨(A:Int),(H:Int),(F:Int),(n:Int),(G:Int)⟩] (RdR.one c9) (yG [⟨(A:Int),(H:Int),(F:Int),(n:Int),(G:Int)⟩]) (YD _) (by simp only[fQ];omega) d0;have b4:=b7.trans d1;rw[a6] at T
  have kk:∀{a:Addr} {v:Value},wr.cell? a=some v->(wr.alloc (.cells #[.int .i64 (A:Int),.int .i64 (H:Int),.int .i64 (F:Int),.int .i64 (n:Int),.int .u32 (G:Int)] 47)).drew.cell? a=some v:=fun{a} {v} h=>((bD (aH _ wr) (.cells #[.int .i64 (A:Int),.int .i64 (H:Int),.int .i64 (F:Int),.int .i64 (n:Int),.int .u32 (G:Int)] 47)).drew.cell (gV wr _ h)).trans h
  have d2:wr.drew.cell? ⟨b,off+k*3,none⟩=some (.int .i64 x0)/\wr.drew.cell? ⟨b,off+k*3+1,none⟩=some (.int .i64 x1)/\wr.drew.cell? ⟨b,off+k*3+2,none⟩=some (.int .i64 x2):=⟨c0,c1,c2⟩;have d3:=tK (kk c0) (tK (kk c1) (kk c2));have b8:=tK ((b4.cell (p:=⟨b,off+k*3,none⟩) U).trans y0) (tK ((b4.cell (p:=⟨b,off+k*3+1,none⟩) U).trans y1) ((b4.cell (p:=⟨b,off+k*3+2,none⟩) U).trans y2));clear c8 c9 b7 d0 a6 e7 d1 hor c0 c1 c2 y0 y1 y2 kk
  refine rF (S:=fun wx=>wx.cell? ⟨b,off+k*3,none⟩=some (.int .i64 x0)/\wx.cell? ⟨b,off+k*3+1,none⟩=some (.int .i64 x1)/\wx.cell? ⟨b,off+k*3+2,none⟩=some (.int .i64 x2)) (by kernel_rfl) d2 (fun b9=>?_)
  iterate 7
   refine fV 0 0 (by simp only[dB,aU,aV,cV,dC]<;>rfl) (by simp only[gA,gH,gB];rfl) (by kernel_rfl) (by exact fun _ _ _ h=>h) (by first|exact gI ⟨by rfl,rfl⟩|(refine gJ ⟨by rfl,?_⟩;intro w' O;(try dsimp only at O);(try go_simp);try with_reducible rfl)) (by assumption) ?_
   try simp only[bJ,bK,bH,bB]
  iterate 7
   refine fV 3 0 (by simp only[dB,aU,aV,cV,dC]<;>rfl) (by simp only[gA,gH,gB];rfl) (by kernel_rfl) (by exact fun _ _ _ h=>h) (by first|exact gI ⟨by rfl,rfl⟩|(refine gJ ⟨by rfl,?_⟩;intro w' O;(try dsimp only at O);(try go_simp);try with_reducible rfl)) (by assumption) ?_
   try simp only[bJ,bK,bH,bB]
  refine dJ (i:=7) (by kernel_rfl) rfl (fun K D=>?_);go_simp;refine(a9 _).mono ?_;rintro e w' ⟨rfl,rfl⟩
  (try go_wp2_with fail)
  refine D.out _ _ b9 (fun _=>?_)
  try simp only[bJ,bK,bH,bB]
  clear D K
  iterate 2
   refine fV 0 7 (by simp only[dB,aU,aV,cV,dC]<;>rfl) (by simp only[gA,gH,gB];rfl) (by kernel_rfl) (by exact fun _ _ _ h=>h) (by first|exact gI ⟨by rfl,rfl⟩|(refine gJ ⟨by rfl,?_⟩;intro w' O;(try dsimp only at O);(try go_simp);try with_reducible rfl)) (by assumption) ?_
   try simp only[bJ,bK,bH,bB]
  refine dJ (i:=17) (by kernel_rfl) rfl (fun K D=>?_);go_simp;refine(b0 _).mono ?_;rintro e w' ⟨rfl,rfl⟩
  (try go_wp2_with fail)
  refine D.out _ _ b9 (fun _=>?_)
  try simp only[bJ,bK,bH,bB]
  clear D K
  iterate 2
   refine fV 0 0 (by simp only[dB,aU,aV,cV,dC]<;>rfl) (by simp only[gA,gH,gB];rfl) (by kernel_rfl) (by exact fun _ _ _ h=>h) (by first|exact gI ⟨by rfl,rfl⟩|(refine gJ ⟨by rfl,?_⟩;intro w' O;(try dsimp only at O);(try go_simp);try with_reducible rfl)) (by assumption) ?_
   try simp only[bJ,bK,bH,bB]
  refine dJ (i:=20) (by kernel_rfl) rfl (fun K D=>?_);go_simp;refine D.out _ _ d3 (fun _=>?_)
  try simp only[bJ,bK,bH,bB]
  clear D K;refine dJ (i:=21) (by kernel_rfl) rfl (fun K D=>?_);refine sX rfl (.tmp 33) (.tmp 53) 22 rfl u3 (.slice (some ⟨wr.heap.size,0,none⟩) 1 1) v' e5 (by simp[lL]) (by simp[lL]) T ?_;refine D.out _ _ b8 (fun _=>?_)
  try simp only[bJ,bK,bH,bB]
  clear D K;refine dJ (i:=22) (by kernel_rfl) rfl (fun K D=>?_);go_simp;refine D.out _ _ b8 (fun _=>?_)
  try simp only[bJ,bK,bH,bB]
  clear D K;refine wpAnyH_done (by kernel_rfl) ?_ _;clear T a9 b0 d2 d3 b8 b9;go_wp2_with fail;have hg:=HG.out
  go_roundg (d.length-(k+1))
  case measure=>omega
  case rel=>exact⟨k+1,J,L,by omega,by omega,rfl,by go_num,rfl,rfl,e3,e4,by rw[HT.out];exact e6,b4⟩
abbrev okA (l:List (Nat×List ByteArray)):Prop:=∀p∈l,1<=p.1/\p.1<=9/\∀t∈p.2,okT (40*(p.1:Int)) t
noncomputable def aZ (l:List (Nat×List ByteArray)):ByteArray:=mkS (aI (dH l))
def nQ (l:List (Nat×List ByteArray)):List ByteArray:=(l.map (fun p=>p.2)).flatten
theorem AG (x y:List (Nat×List ByteArray)):aZ x++aZ y=aZ (x++y):=by unfold aZ;rw[sI,aDu]
theorem NE {x y:List (Nat×List ByteArray)} (h:okA x) (k:okA y):okA (x++y):=fun p d=>(List.mem_append.1 d).elim (h p) (k p)
theorem NF {n:Nat} {l:List ByteArray} (d:1<=n) (e:n<=9) (h:∀t∈l,okT (40*(n:Int)) t):okA [(n,l)]:=fun p A=>by obtain rfl:=List.mem_singleton.1 A;exact⟨d,e,h⟩
theorem wQ:∀{l:List (Nat×List ByteArray)},okA l->(aZ l).size<=3500*(nQ l).length+15*l.length
 |[],_=>by unfold aZ;rw[cS];exact aD _
 |p::l,h=>by
  have d:=wQ (l:=l) (fun q A=>h q (List.mem_cons_of_mem _ A));obtain⟨H,I,D⟩:=h p (List.mem_cons_self ..);have J:=yC (r:=40*(p.1:Int)) (by omega) p.2 D;have e:dH (p::l)=iD (cM p.1 p.2)++dH l:=rfl;have L:=zO (cM p.1 p.2);have M:=zN (cM p.1 p.2).length;have O:=aDk (cM p.1 p.2).length;have T:=xT p.1 p.2;have F:=LP (p::l);have U:=LP l;have G:(nQ (p::l)).length=p.2.length+(nQ l).length:=by unfold nQ;rw[List.map_cons,kW,aL]
  unfold aZ at d ⊢;rw[cS] at d ⊢;rw[e,aL] at F;rw[e];rw[G,aU];omega
theorem GD {l:List (Nat×List ByteArray)} (d:l≠[]) (e:okA l):eY (aZ l).data.toList=kT 0 l/\(cI (aZ l).data.toList).2=0:=by
 have h:=aVk d e;unfold aZ;rw[dP];unfold eY;rw[h];exact⟨rfl,rfl⟩
theorem RdT.nil (w:World):RdT w (.slice none 0 0) []:=⟨none,0,rfl,aD _,by simp[maxLen],.inl rfl⟩
end Go.Proofs.YtfplbbphficcjaaGreatDoor
