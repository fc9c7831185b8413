/-
  Texts put together (part 34): the walks and the plain laws on which the statement stands.
-/
import Derived.Shelf.SlSortCmp.NoneTotal
import Derived.Test.YtfckbfofgeilgaaGreatDoorZ29
set_option maxRecDepth 100000
set_option maxHeartbeats 12800000
set_option linter.unusedVariables false
set_option linter.unusedSimpArgs false
open Go.Proofs.Tryz
open Go.Proofs.Tryz renaming prog->pG
open Go renaming heap_setCell_other->kF,wpAnyH_done->nY,wp_region_held_drew->rF
open Go.Act renaming put->bJ
open Go.IntKind renaming i64->aJ,wrap_i64->aM
open Go.RowKit renaming ownsRow_setCell_below->vL
open Go.RowKit.Below renaming refl->aH
open Go.World renaming block_lt_of_cell?->gV,cell?_setCell_far->bMe,size_alloc->fP
open List renaming getElem?_cons_succ->gH,getElem?_cons_zero->gB,getElem?_toArray->gA,getElem_mem->kK,length_cons->aU,mem_cons->jQ,mem_cons_self->jK,pairwise_cons->bLs,pairwise_iff_getElem->DH,setIfInBounds_toArray->bK,set_cons_succ->bB,set_cons_zero->bH
open Option.some renaming inj->cC
open Or renaming inl->gJ,inr->gI
namespace Go.Proofs.YtfckbfofgeilgaaGreatDoor
open Go.RowKit Go Go.Shelf
theorem bQ5 {d H:List Hld} (e:d.Perm H) (A:H.Pairwise (fun x y=>x.b<y.b)) (D:d.Pairwise (fun a b=>¬b.b<a.b)):d=H:=by
 refine bNx ?_ A e;have F:=(e.pairwise_iff (fun{a b} (q:a.b≠b.b)=>Ne.symm q)).2 (A.imp (fun{x y} q=>by omega));exact(D.and F).imp (fun{x y} q=>by omega)
theorem bNi (I nn B:Nat) (D:DataW Unit) (K:List Hld) (v:Value) (room clock F:Int) (M:ByteArray) (w:World) (a7:w.ownsMap pG 3 bLu I nn D) (hn:nn<=1000) (b7:bLg D K) (A:K.Pairwise (fun x y=>x.b<y.b)) (hl:K.length<=11) (hv:∃a n c,v=.slice a n c) (hB:B<=w.heap.size) (d4:B<=I)
  (d5:0<=clock) (f5:clock<=1099511627776) (b8:0<=F) (d6:F<=9223372036854775807):
  Calls pG 154 #[.map (some I),.agg #[.int .i64 room,.int .i64 clock,v],.int .i64 F,.string M] w fun e w'=>∃u,e=.returned (.agg #[.int .i64 room,.int .i64 (clock+1),u])/\OwR w' w.heap.size 113 3 u ((bLf K ⟨F,clock+1,M⟩).map mX)/\Below B w w'/\w.heap.size<=w'.heap.size/\(∀k,k<w.heap.size->k≠I->w'.heap[k]? =w.heap[k]?):=by
 obtain⟨va,vn,vc,rfl⟩:=hv;have m1:aJ.wrap (clock+1)=clock+1:=by rw[aM];omega
 obtain⟨C,hC⟩:=ex1 (clock+1);rw[<-hC] at m1 ⊢;have f6:=hC.symm;have m2:aJ.wrap C=C:=by rw[aM];omega
 have b9:=bMn (n:=F) (by omega) d6;have b0:=hid (bMm ⟨F,C,M⟩ A);have c0:=hid (bMv ⟨F,C,M⟩ A);have c2:=b7.put (a7.tidy bLv) ⟨F,C,M⟩ (bLv.key b9) A;have d7:=hid (c2.perm b0.out.symm);have f7:(bLf K ⟨F,C,M⟩).length<=12:=by
  have:=b0.out.length_eq;have:=List.length_filter_le (fun x:Hld=>decide (x.b≠F)) K;simp only[aU] at*
  unfold bLc at*
  omega
 have f8:0<(bLf K ⟨F,C,M⟩).length:=by
  have:=b0.out.length_eq;simp only[aU] at this;omega
 generalize hL:bLf K ⟨F,C,M⟩=L at*
 have hA:=(Arr.new w 37 [.int .i64 room,.int .i64 clock,.slice va vn vc]).alloc (.cells #[.int .i64 0,.int .i64 0,.slice none 0 0] 37);have hR:=Arr.new (w.alloc (.cells #[.int .i64 room,.int .i64 clock,.slice va vn vc] 37)) 37 [.int .i64 0,.int .i64 0,.slice none 0 0];rw[fP] at hR;change Arr ((w.alloc (.cells #[.int .i64 room,.int .i64 clock,.slice va vn vc] 37)).alloc (.cells #[.int .i64 0,.int .i64 0,.slice none 0 0] 37)) _ _ _ at hA hR
 have b1:=bD (bD (aH w.heap.size w) (.cells #[.int .i64 room,.int .i64 clock,.slice va vn vc] 37)) (.cells #[.int .i64 0,.int .i64 0,.slice none 0 0] 37);have c3:=(a7.alloc (.cells #[.int .i64 room,.int .i64 clock,.slice va vn vc] 37)).alloc (.cells #[.int .i64 0,.int .i64 0,.slice none 0 0] 37);have f9:=a7.lt;have c1:=hA.cell (i:=1) rfl;clear b7 c2 hC a7 hL;go_enter func154,ntmps154
 go_wp2_with (at_mapUpdate;refine wpList_mapUpdate_own _ rfl _ _ _ 252 rfl 3 113 bLv underlying252 _ I nn _ rfl c3 (by unfold maxLen;omega) _ _ _ rfl rfl b9 _ [] (bM1 ⟨F,C,M⟩) ?_;intro G d8 Z);have b2:=bM3 hA Z (by intro q;injection q;omega);have c4:=bM3 hR Z (by intro q;injection q;omega);have b8:Below B w G:=(b1.mono hB).grown Z (by simp;omega) (fun j hj=>by cases hj;exact d4);have d9:∀k,k<w.heap.size->k≠I->G.heap[k]? =w.heap[k]? :=fun k h1 h2=>(Z.block k (by simp;omega) (fun q=>h2 (cC q))).trans (b1.block k h1)
 have e0:w.heap.size+2<=G.heap.size:=by have:=Z.size;simp at this;omega
 obtain⟨z,hz⟩:=ex1 (w.heap.size);rw[<-hz] at b2 c4 e0 ⊢;have O:=hid hz;clear hA hR b1 c3 c1 hz Z;have b3:(fun d=>d.cell? ⟨z,0,none⟩=some (.int .i64 room)/\d.cell? ⟨z,1,none⟩=some (.int .i64 clock)/\Below G.heap.size G d/\G.heap.size<=d.heap.size) G.drew:=⟨b2.cell (i:=0) rfl,b2.cell (i:=1) rfl,(aH _ _).drew,Nat.le_refl _⟩
 have a8:∀d wy,(fun d=>d.cell? ⟨z,0,none⟩=some (.int .i64 room)/\d.cell? ⟨z,1,none⟩=some (.int .i64 clock)/\Below G.heap.size G d/\G.heap.size<=d.heap.size) d->Below d.heap.size d wy->(fun d=>d.cell? ⟨z,0,none⟩=some (.int .i64 room)/\d.cell? ⟨z,1,none⟩=some (.int .i64 clock)/\Below G.heap.size G d/\G.heap.size<=d.heap.size) wy:=fun d wy ⟨a0,a1,a2,a3⟩ hb=>⟨(hb.cell (p:=⟨z,0,none⟩) (gV d _ a0)).trans a0,(hb.cell (p:=⟨z,1,none⟩) (gV d _ a1)).trans a1,a2.trans (hb.mono a3),Nat.le_trans a3 hb.size⟩
 have e1:=fun W=>bQ0 I W
 refine rF (S:=fun d=>d.cell? ⟨z,0,none⟩=some (.int .i64 room)/\d.cell? ⟨z,1,none⟩=some (.int .i64 clock)) (by kernel_rfl) ⟨b3.1,b3.2.1⟩ (fun e2=>?_);refine bKf [0,1,2,3,4,6] ?_
 iterate 6
  refine bKg (by simp only[gA,gH,gB];rfl) (by kernel_rfl) (by exact fun _ _ _ h=>h) (by first|exact gI ⟨by rfl,rfl⟩|(refine gJ ⟨by rfl,?_⟩;intro w' b4;(try dsimp only at b4);(try go_simp);try with_reducible rfl)) e2 ?_
  try simp only[bJ,bK,bH,bB]
 refine dJ (i:=5) (by kernel_rfl) rfl (fun K A=>?_);go_simp;refine(bQ3 _).mono ?_;rintro e w2 ⟨rfl,h2⟩;have b5:=a8 _ _ b3 h2
 (try go_wp2_with fail)
 refine A.out _ _ ⟨b5.1,b5.2.1⟩ (fun _=>?_)
 try simp only[bJ,bK,bH,bB]
 clear A K;refine dJ (i:=7) (by kernel_rfl) rfl (fun K A=>?_);go_simp;refine(e1 _).mono ?_;rintro e w3 ⟨rfl,rfl⟩;have a9:=a8 _ (w2.alloc (.cells #[.map (some I)] 252)) b5 (bD (aH _ _) _)
 (try go_wp2_with fail)
 refine A.out _ _ ⟨a9.1,a9.2.1⟩ (fun _=>?_)
 try simp only[bJ,bK,bH,bB]
 clear A K;refine dJ (i:=8) (by kernel_rfl) rfl (fun K A=>?_);go_simp;refine(bQo w2.heap.size I (nn+1) _ L _ (Arr.new w2 252 [.map (some I)]) (bN2 d8 a9.2.2.1) d7.out c0.out (by omega)).mono ?_;rintro e w4 ⟨v4,xs,rfl,c5,c6,h4⟩;have a6:=a8 _ _ a9 h4;obtain⟨a4,g3,c7,-⟩:=(OwR.rd c6).open (bLd xs) (by decide:1<=3);obtain⟨n4,c8⟩:=ex1 ((xs.map mX).length);rw[<-c8] at c7;subst c7;have g4:=c5.length_eq;clear c8
 (try go_wp2_with fail)
 refine A.out _ _ ⟨a6.1,a6.2.1⟩ (fun _=>?_)
 try simp only[bJ,bK,bH,bB]
 clear A K;refine dJ (i:=9) (by kernel_rfl) rfl (fun K A=>?_);go_simp;refine(bOy 193 (fun h=>h.b) (enters_of func193 (by kernel_rfl) rfl) bQp _ xs _ (OwR.rd c6) (by omega) (by omega)).mono ?_;rintro e w5 ⟨v5,ys,rfl,c9,d0,d1,h5⟩;have J:=a8 _ _ a6 h5;obtain⟨R,U,d2,-⟩:=(OwR.rd d1).open (bLd ys) (by decide:1<=3);obtain⟨V,d3⟩:=ex1 ((ys.map mX).length);rw[<-d3] at d2;subst d2;have e3:ys=L:=bQ5 (c9.trans c5) c0.out d0;have g5:=a6.2.2.2;clear d3 h5 c9 d0
 (try go_wp2_with fail)
 refine A.out _ _ ⟨J.1,J.2.1⟩ (fun _=>?_)
 try simp only[bJ,bK,bH,bB]
 clear A K;refine fV 0 0 (by simp only[List.size_toArray,aU,List.length_nil,Nat.reduceAdd,Nat.reduceSub]<;>rfl) (by simp only[gA,gH,gB];rfl) (by kernel_rfl) (by exact fun _ _ _ h=>h) (by first|exact gI ⟨by rfl,rfl⟩|(refine gJ ⟨by rfl,?_⟩;intro w' b4;(try dsimp only at b4);(try go_simp);try with_reducible rfl)) ⟨J.1,J.2.1⟩ ?_
 try simp only[bJ,bK,bH,bB]
 have Y:=c4.below J.2.2.1 (by omega);have g0:=Y.cell (i:=0) rfl;have g1:=Y.cell (i:=1) rfl;have g2:=Y.cell (i:=2) rfl;have f0:=Y.free 0;have f1:=Y.free 1;have f2:=Y.free 2;have e4:=b8.trans (J.2.2.1.mono (by have:=O.out;omega));have e5:(((w5.setCell ⟨z+1,0,none⟩ (.int .i64 room)).setCell ⟨z+1,1,none⟩ (.int .i64 C)).setCell ⟨z+1,2,none⟩ (.slice R V U)).cell? ⟨z,0,none⟩=some (.int .i64 room):=by
  rw[bMe _ _ _ _ (by show z+1≠z;omega),bMe _ _ _ _ (by show z+1≠z;omega),bMe _ _ _ _ (by show z+1≠z;omega)];exact J.1
 have e6:(((w5.setCell ⟨z+1,0,none⟩ (.int .i64 room)).setCell ⟨z+1,1,none⟩ (.int .i64 C)).setCell ⟨z+1,2,none⟩ (.slice R V U)).cell? ⟨z,1,none⟩=some (.int .i64 clock):=by
  rw[bMe _ _ _ _ (by show z+1≠z;omega),bMe _ _ _ _ (by show z+1≠z;omega),bMe _ _ _ _ (by show z+1≠z;omega)];exact J.2.1
 have e7:=((Y.set 0 (.int .i64 room)).set 1 (.int .i64 C)).set 2 (.slice R V U);have e8:=vL (vL (vL d1 (a:=⟨z+1,0,none⟩) (by show z+1<_;omega) (.int .i64 room)) (a:=⟨z+1,1,none⟩) (by show z+1<_;omega) (.int .i64 C)) (a:=⟨z+1,2,none⟩) (by show z+1<_;omega) (.slice R V U);have e9:=((e4.setCell (p:=⟨z+1,0,none⟩) (by show B<=z+1;rw[O.out];omega) (.int .i64 room)).setCell (p:=⟨z+1,1,none⟩) (by show B<=z+1;rw[O.out];omega) (.int .i64 C)).setCell (p:=⟨z+1,2,none⟩) (by show B<=z+1;rw[O.out];omega) (.slice R V U)
 have f3:∀k,k<w.heap.size->k≠I->(((w5.setCell ⟨z+1,0,none⟩ (.int .i64 room)).setCell ⟨z+1,1,none⟩ (.int .i64 C)).setCell ⟨z+1,2,none⟩ (.slice R V U)).heap[k]? =w.heap[k]? :=fun k h1 h2=>by
  have b6:k≠z+1:=by have:=O.out;omega
  rw[kF _ ⟨z+1,2,none⟩ k _ b6,kF _ ⟨z+1,1,none⟩ k _ b6,kF _ ⟨z+1,0,none⟩ k _ b6,J.2.2.1.block k (by have:=O.out;omega)];exact d9 k h1 h2
 have f4:w.heap.size<=(((w5.setCell ⟨z+1,0,none⟩ (.int .i64 room)).setCell ⟨z+1,1,none⟩ (.int .i64 C)).setCell ⟨z+1,2,none⟩ (.slice R V U)).heap.size:=by have:=O.out;have:=J.2.2.2;simp;omega
 clear d5;refine dJ (i:=11) (by kernel_rfl) rfl (fun K A=>?_);go_simp;refine A.out _ _ ⟨e5,e6⟩ (fun _=>?_)
 try simp only[bJ,bK,bH,bB]
 clear A K;refine nY (by kernel_rfl) ?_ _;generalize ((w5.setCell ⟨z+1,0,none⟩ (.int .i64 room)).setCell ⟨z+1,1,none⟩ (.int .i64 C)).setCell ⟨z+1,2,none⟩ (.slice R V U)=w6 at*
 subst e3;go_wp2_with fail;refine bQe rfl e7 rfl rfl ⟨_,rfl,?_,e9,f4,f3⟩;exact OwR.base e8 (by have:=O.out;have:=a6.2.2.2;omega)
theorem bO0 (w:World):(zeroValue 113).run pG w=.ok (.agg #[.int .i64 0,.int .i64 0,.string ⟨#[]⟩]) w:=by kernel_rfl
theorem bO1 {w:World} {e G:Nat} {D:DataW Unit} {H:List Hld} (I:w.ownsMap pG 3 bLu e G D) (A:bLg D H) {h:Hld} (F:h∈H) (J: -9223372036854775808<=h.b) (L:h.b<=9223372036854775807):
  (Instr.lookup 252 (.map (some e)) (.int .i64 h.b) true).run pG w=.ok (.tuple #[.agg #[.int .i64 h.b,.int .i64 h.s,.string h.t],.bool true]) w:=by
 obtain⟨v,R,M,O⟩:=I.look_ok bLv underlying252 (bO0 w) (bM1 ⟨0,0,⟨#[]⟩⟩) (bMn J L);rw[A.2.1 h F,(A.1 h.b).2 ⟨h,F,rfl⟩] at*
 obtain⟨x,rfl,d⟩:=bNy O
 injection d with d _
 obtain rfl:=bNz d;exact M
theorem bN4 {w:World} {A J:Nat} {D:DataW Unit} {H:List Hld} (L:w.ownsMap pG 3 bLu A J D) (M:bLg D H) {b:Int} (O:∀h∈H,h.b≠b) (R: -9223372036854775808<=b) (U:b<=9223372036854775807):
  (Instr.lookup 252 (.map (some A)) (.int .i64 b) true).run pG w=.ok (.tuple #[.agg #[.int .i64 0,.int .i64 0,.string ⟨#[]⟩],.bool false]) w:=by
 obtain⟨v,Y,F,G⟩:=L.look_ok bLv underlying252 (bO0 w) (bM1 ⟨0,0,⟨#[]⟩⟩) (bMn R U);have I:Maps.has D (.int .i64 b)=false:=by
  cases q:Maps.has D (.int .i64 b) with
  |false=>rfl
  |true=>
   obtain⟨h,V,e⟩:=(M.1 b).1 q;exact absurd e (O h V)
 rw[Maps.atKey_of_not_has I] at G;rw[I] at F;obtain⟨x,rfl,d⟩:=bNy G
 injection d with d _
 obtain rfl:=bNz d;exact F
theorem bQ6 (v:Value) (room clock O:Int) (H:List Hld) (w:World) (Y:RdR w v (H.map mX)) (R:okH room clock H) (a8:∀h∈H,h.b<=9223372036854775807) (hc:clock<1099511627776) (b5:0<=O) (a9:O<=9223372036854775807) (b0:∀h∈H,h.b≠O):
  Calls pG 126 #[.agg #[.int .i64 room,.int .i64 clock,v],.int .i64 O] w fun e w'=>e=.returned (.tuple #[.string ⟨#[]⟩,.agg #[.int .i64 0,.int .i64 0,.slice none 0 0],.int .i64 5])/\Below w.heap.size w w':=by
 have a4:=Y;obtain⟨A,F,rfl,-⟩:=bLm Y;have a5:=fun W h=>bMf (.slice A H.length F) room clock H W h R
 have a6:=fun W h=>bM5 (.slice A H.length F) room clock H W h R a8
 have HK:=hid R;obtain⟨k1,k2,k3,k4,-,-⟩:=R;have q1:(clock==1099511627776)=false:=beq_eq_false_iff_ne.2 (by omega);have U:=(Arr.new w 37 [.int .i64 room,.int .i64 clock,.slice A H.length F]).alloc (.cells #[.int .i64 0,.int .i64 0,.slice none 0 0] 37);have L:=Arr.new (w.alloc (.cells #[.int .i64 room,.int .i64 clock,.slice A H.length F] 37)) 37 [.int .i64 0,.int .i64 0,.slice none 0 0];rw[fP] at L;change Arr ((w.alloc (.cells #[.int .i64 room,.int .i64 clock,.slice A H.length F] 37)).alloc (.cells #[.int .i64 0,.int .i64 0,.slice none 0 0] 37)) _ _ _ at U L
 have Z:=bD (bD (aH w.heap.size w) (.cells #[.int .i64 room,.int .i64 clock,.slice A H.length F] 37)) (.cells #[.int .i64 0,.int .i64 0,.slice none 0 0] 37);go_enter func126,ntmps126;go_wp2_with fail;generalize (w.alloc (.cells #[.int .i64 room,.int .i64 clock,.slice A H.length F] 37)).alloc (.cells #[.int .i64 0,.int .i64 0,.slice none 0 0] 37)=w1 at*
 have a0:=a4.below Z;refine(a5 _ a0).mono ?_;rintro e w2 ⟨rfl,M⟩;have G:=U.below M U.lt;have I:=L.below M L.lt;have a1:=a0.below M;have b1:=aW Z M;obtain⟨z,hz⟩:=ex1 (w.heap.size);have HZ:=hid hz;rw[<-hz] at G I ⊢;have c0:=G.cell (i:=0) rfl;have c1:=G.cell (i:=1) rfl;have c2:=G.cell (i:=2) rfl;clear U L M Z a0 a5 a4 Y hz;go_wp2_with fail;refine(a6 _ a1).mono ?_;rintro e w3 ⟨mb,D,rfl,b2,b3,b6,V⟩;have b4:=G.below V G.lt;have d:=I.below V I.lt;have b7:=a1.below V;have a2:=aW b1 V;have b8:z+2<=w3.heap.size:=by have:=d.lt;omega
 have b9:z<=mb:=by have:=I.lt;omega
 have c3:z+1<mb:=by have:=I.lt;omega
 clear G I a1 a6 c0 c1 c2;have c4:=bN4 b2 b3 b0 (by omega) a9;have J:=d.alloc (.cells #[.int .i64 0,.int .i64 0,.string ⟨#[]⟩] 113);have c5:=a2.alloc a2.size (.cells #[.int .i64 0,.int .i64 0,.string ⟨#[]⟩] 113);have e0:=J.cell (i:=0) rfl;have e1:=J.cell (i:=1) rfl;have e2:=J.cell (i:=2) rfl;have f0:=J.free 0;have f1:=J.free 1;have f2:=J.free 2;have c6:z+1<w3.heap.size:=d.lt;have c1:=b4.cell (i:=1) rfl;have d0:=d.cell (i:=0) rfl;have d1:=d.cell (i:=1) rfl;have d2:=d.cell (i:=2) rfl;have g0:=d.free 0;have g1:=d.free 1;have g2:=d.free 2;go_wp2_with fail
 have a3:w.heap.size<=z+1:=by have:=HZ.out;omega
 have a7:=((a2.setCell (p:=⟨z+1,0,none⟩) a3 (.int .i64 0)).setCell (p:=⟨z+1,1,none⟩) a3 (.int .i64 0)).setCell (p:=⟨z+1,2,none⟩) a3 (.slice none 0 0);exact bM4 rfl ((((d.set 0 _).set 1 _).set 2 _).alloc _) rfl rfl rfl rfl ⟨rfl,a7.alloc a7.size _⟩
theorem bQ7 (v:Value) (room clock:Int) (H:List Hld) (h:Hld) (w:World) (hr:RdR w v (H.map mX)) (U:okH room clock H) (b8:∀h∈H,h.b<=9223372036854775807) (hl:H.length<=11) (hc:clock<1099511627776) (hh:h∈H):
  Calls pG 126 #[.agg #[.int .i64 room,.int .i64 clock,v],.int .i64 h.b] w fun e w'=>∃u,e=.returned (.tuple #[.string h.t,.agg #[.int .i64 room,.int .i64 (clock+1),u],.int .i64 0])/\OwR w' w.heap.size 113 3 u ((bLf H ⟨h.b,clock+1,h.t⟩).map mX)/\Below w.heap.size w w':=by
 have d5:=U.2.2.2.2.1 h hh;have b9:=b8 h hh;have c3:=hr;obtain⟨A,F,rfl,-⟩:=bLm hr;have c4:=fun W h=>bMf (.slice A H.length F) room clock H W h U
 have c5:=fun W h=>bM5 (.slice A H.length F) room clock H W h U b8
 have HK:=hid U;obtain⟨k1,k2,k3,k4,-,-⟩:=U;have q1:(clock==1099511627776)=false:=beq_eq_false_iff_ne.2 (by omega);have hA:=(Arr.new w 37 [.int .i64 room,.int .i64 clock,.slice A H.length F]).alloc (.cells #[.int .i64 0,.int .i64 0,.slice none 0 0] 37);have V:=Arr.new (w.alloc (.cells #[.int .i64 room,.int .i64 clock,.slice A H.length F] 37)) 37 [.int .i64 0,.int .i64 0,.slice none 0 0];rw[fP] at V;change Arr ((w.alloc (.cells #[.int .i64 room,.int .i64 clock,.slice A H.length F] 37)).alloc (.cells #[.int .i64 0,.int .i64 0,.slice none 0 0] 37)) _ _ _ at hA V
 have a6:=bD (bD (aH w.heap.size w) (.cells #[.int .i64 room,.int .i64 clock,.slice A H.length F] 37)) (.cells #[.int .i64 0,.int .i64 0,.slice none 0 0] 37);go_enter func126,ntmps126;go_wp2_with fail;generalize (w.alloc (.cells #[.int .i64 room,.int .i64 clock,.slice A H.length F] 37)).alloc (.cells #[.int .i64 0,.int .i64 0,.slice none 0 0] 37)=w1 at*
 have a7:=c3.below a6;refine(c4 _ a7).mono ?_;rintro e w2 ⟨rfl,Y⟩;have I:=hA.below Y hA.lt;have M:=V.below Y V.lt;have a8:=a7.below Y;have d6:=aW a6 Y;obtain⟨z,hz⟩:=ex1 (w.heap.size);have HZ:=hid hz;rw[<-hz] at I M ⊢;have c0:=I.cell (i:=0) rfl;have c1:=I.cell (i:=1) rfl;have c2:=I.cell (i:=2) rfl;clear hA V Y a6 a7 c4 c3 hr hz;go_wp2_with fail;refine(c5 _ a8).mono ?_;rintro e G ⟨mb,D,rfl,a3,c6,f4,h3⟩;have a4:=I.below h3 I.lt;have a9:=M.below h3 M.lt;have d7:=a8.below h3;have b0:=aW d6 h3;have d8:z+2<=G.heap.size:=by have:=a9.lt;omega
 have f5:z<=mb:=by have:=M.lt;omega
 have d9:z+1<mb:=by have:=M.lt;omega
 clear I M a8 c5 c0 c1 c2;have e3:=bO1 a3 c6 hh (by omega) b9;have c1:=a4.cell (i:=1) rfl;have f6:z<G.heap.size:=a4.lt;have Z:=Arr.new G 113 [.int .i64 h.b,.int .i64 h.s,.string h.t];change Arr (G.alloc (.cells #[.int .i64 h.b,.int .i64 h.s,.string h.t] 113)) _ _ _ at Z;have a0:=a4.alloc (.cells #[.int .i64 h.b,.int .i64 h.s,.string h.t] 113);have c7:=a9.alloc (.cells #[.int .i64 h.b,.int .i64 h.s,.string h.t] 113);have b1:=b0.alloc b0.size (.cells #[.int .i64 h.b,.int .i64 h.s,.string h.t] 113);have e4:=a3.alloc (.cells #[.int .i64 h.b,.int .i64 h.s,.string h.t] 113)
 have e5:(G.alloc (.cells #[.int .i64 h.b,.int .i64 h.s,.string h.t] 113)).heap.size=G.heap.size+1:=by simp
 have e6:=a3.lt;have f7:z+1<mb:=d9;go_wp2_with fail;generalize G.alloc (.cells #[.int .i64 h.b,.int .i64 h.s,.string h.t] 113)=w4 at*
 obtain⟨g,hg⟩:=ex1 (G.heap.size);rw[<-hg] at Z e5 d8 e6 ⊢;have c8:(fun d=>d.cell? ⟨g,2,none⟩=some (.string h.t)/\d.cell? ⟨z,0,none⟩=some (.int .i64 room)/\d.cell? ⟨z,1,none⟩=some (.int .i64 clock)/\d.cell? ⟨z,2,none⟩=some (.slice A H.length F)) w4.drew:=⟨Z.cell (i:=2) rfl,a0.cell (i:=0) rfl,a0.cell (i:=1) rfl,a0.cell (i:=2) rfl⟩;have e7:=fun W ho hB=>bNi mb H.length w.heap.size D H (.slice A H.length F) room clock h.b h.t W ho (by omega) c6 k4 hl ⟨_,_,_,rfl⟩ hB (by have:=HZ.out;omega) k2.1 (by omega) d5.1 b9
 clear e3 c1 a4 a9 d7 a3 b0 hg;refine rF (S:=fun d=>d.cell? ⟨g,2,none⟩=some (.string h.t)/\d.cell? ⟨z,0,none⟩=some (.int .i64 room)/\d.cell? ⟨z,1,none⟩=some (.int .i64 clock)/\d.cell? ⟨z,2,none⟩=some (.slice A H.length F)) (by kernel_rfl) c8 (fun c9=>?_);refine bKf [0,1,2,3,4,5,6] ?_
 iterate 7
  refine bKg (by simp only[gA,gH,gB];rfl) (by kernel_rfl) (by exact fun _ _ _ h=>h) (by first|exact gI ⟨by rfl,rfl⟩|(refine gJ ⟨by rfl,?_⟩;intro w' a1;(try dsimp only at a1);(try go_simp);try with_reducible rfl)) c9 ?_
  try simp only[bJ,bK,bH,bB]
 refine dJ (i:=7) (by kernel_rfl) rfl (fun K hK=>?_);go_simp;refine(e7 w4.drew e4.drew b1.size).mono ?_;rintro e O ⟨u5,rfl,d0,h5,f8,b2⟩;have e8:Arr O g 113 _:=(b2 g Z.lt (by omega)).trans Z;have b3:Arr O z 37 _:=(b2 z a0.lt (by omega)).trans a0;have J:Arr O (z+1) 37 _:=(b2 (z+1) c7.lt (by omega)).trans c7;have L:(fun d=>d.cell? ⟨g,2,none⟩=some (.string h.t)/\d.cell? ⟨z,0,none⟩=some (.int .i64 room)/\d.cell? ⟨z,1,none⟩=some (.int .i64 clock)/\d.cell? ⟨z,2,none⟩=some (.slice A H.length F)) O:=⟨e8.cell (i:=2) rfl,b3.cell (i:=0) rfl,b3.cell (i:=1) rfl,b3.cell (i:=2) rfl⟩
 have d1:=b1.drew.trans h5;obtain⟨a5,b4,d2,-⟩:=(OwR.rd d0).open (bLd _) (by decide:1<=3);obtain⟨n5,d3⟩:=ex1 (((bLf H ⟨h.b,clock+1,h.t⟩).map mX).length);rw[<-d3] at d2;subst d2;clear d3
 (try go_wp2_with fail)
 refine hK.out _ _ L (fun _=>?_)
 try simp only[bJ,bK,bH,bB]
 clear hK K;refine bKf [8] ?_;refine bKg (by simp only[gA,gH,gB];rfl) (by kernel_rfl) (by exact fun _ _ _ h=>h) (by first|exact gI ⟨by rfl,rfl⟩|(refine gJ ⟨by rfl,?_⟩;intro w' a1;(try dsimp only at a1);(try go_simp);try with_reducible rfl)) L ?_
 try simp only[bJ,bK,bH,bB]
 have e0:=J.cell (i:=0) rfl;have e1:=J.cell (i:=1) rfl;have e2:=J.cell (i:=2) rfl;have f0:=J.free 0;have f1:=J.free 1;have f2:=J.free 2;obtain⟨w6,R⟩:=ex1 (((O.setCell ⟨z+1,0,none⟩ (.int .i64 room)).setCell ⟨z+1,1,none⟩ (.int .i64 (clock+1))).setCell ⟨z+1,2,none⟩ (.slice a5 n5 b4));have a2:∀(p:Addr),p.block≠z+1->w6.cell? p=O.cell? p:=fun p hp=>by
  rw[R,bMe _ _ _ _ (by show z+1≠p.block;omega),bMe _ _ _ _ (by show z+1≠p.block;omega),bMe _ _ _ _ (by show z+1≠p.block;omega)]
 have b5:(fun d=>d.cell? ⟨g,2,none⟩=some (.string h.t)/\d.cell? ⟨z,0,none⟩=some (.int .i64 room)/\d.cell? ⟨z,1,none⟩=some (.int .i64 clock)/\d.cell? ⟨z,2,none⟩=some (.slice A H.length F)) w6:=⟨(a2 ⟨g,2,none⟩ (by show g≠z+1;omega)).trans L.1,(a2 ⟨z,0,none⟩ (by show z≠z+1;omega)).trans L.2.1,(a2 ⟨z,1,none⟩ (by show z≠z+1;omega)).trans L.2.2.1,(a2 ⟨z,2,none⟩ (by show z≠z+1;omega)).trans L.2.2.2⟩;have b6:w.heap.size<=z+1:=by have:=HZ.out;omega
 have e9:Arr w6 (z+1) 37 [.int .i64 room,.int .i64 (clock+1),.slice a5 n5 b4]:=by rw[R];exact((J.set 0 _).set 1 _).set 2 _
 have d4:Below w.heap.size w w6:=by rw[R];exact((d1.setCell (p:=⟨z+1,0,none⟩) b6 _).setCell (p:=⟨z+1,1,none⟩) b6 _).setCell (p:=⟨z+1,2,none⟩) b6 _
 have b7:z+1<w4.drew.heap.size:=by show z+1<w4.heap.size;omega
 have f3:OwR w6 w4.drew.heap.size 113 3 (.slice a5 n5 b4) ((bLf H ⟨h.b,clock+1,h.t⟩).map mX):=by rw[R];exact vL (vL (vL d0 (a:=⟨z+1,0,none⟩) b7 _) (a:=⟨z+1,1,none⟩) b7 _) (a:=⟨z+1,2,none⟩) b7 _
 refine dJ (i:=9) (by kernel_rfl) rfl (fun K hK=>?_);go_simp;rw[<-R];clear R a2;refine hK.out _ _ b5 (fun _=>?_)
 try simp only[bJ,bK,bH,bB]
 clear hK K;refine bKf [10] ?_;refine bKg (by simp only[gA,gH,gB];rfl) (by kernel_rfl) (by exact fun _ _ _ h=>h) (by first|exact gI ⟨by rfl,rfl⟩|(refine gJ ⟨by rfl,?_⟩;intro w' a1;(try dsimp only at a1);(try go_simp);try with_reducible rfl)) b5 ?_
 try simp only[bJ,bK,bH,bB]
 refine nY (by kernel_rfl) ?_ _;clear c9 c8 L b5;go_wp2_with fail;exact bM4 rfl e9 rfl rfl rfl rfl ⟨_,rfl,OwR.base f3 (by first|exact b1.size|exact d4.size|exact d1.size|omega),d4⟩
theorem bO2:∀{H K:List Hld},H.Pairwise (fun x y=>y.s<x.s)->K.Pairwise (fun x y=>y.s<x.s)->H.Perm K->H=K
 |[],K,_,_,d=>(List.nil_perm.1 d).symm
 |x::H,[],_,_,d=>absurd d.length_eq (by simp)
 |x::H,y::K,A,D,d=>by
  obtain⟨F,G⟩:=bLs.1 A;obtain⟨I,J⟩:=bLs.1 D;have e:x=y:=by
   rcases jQ.1 (d.mem_iff.1 jK) with k|k
   ·exact k
   ·rcases jQ.1 (d.mem_iff.2 (jK (a:=y))) with j|j
    ·exact j.symm
    ·have:=F y j;have:=I x k;omega
  subst e;rw[bO2 G J (List.perm_cons x |>.1 d)]
theorem bQ8 (f:Nat) (v:Value) (w:World) (L:RdR w v (([]:List Hld).map mX)):
  Calls pG 60 #[.agg #[.func (.func f) #[] #[]],v] w fun e w'=>∃u:Value,e=.returned u/\RdR w' u (([]:List Hld).map mX)/\Below w.heap.size w w':=by
 obtain⟨a,d,rfl,-⟩:=bLm L;have M:=bD (aH w.heap.size w) (.cells #[.func (.func f) #[] #[]] 133);have O:=fun W=>bOx a ([]:List Hld).length d W
 go_enter func60,ntmps60;go_wp2_with fail;generalize w.alloc (.cells #[.func (.func f) #[] #[]] 133)=A at*
 refine(O _).mono ?_;rintro e F ⟨rfl,rfl⟩;have G:=Arr.new A 35 [.slice a ([]:List Hld).length d];change Arr (A.alloc (.cells #[.slice a ([]:List Hld).length d] 35)) _ _ _ at G;have R:=bD M (.cells #[.slice a ([]:List Hld).length d] 35);have I:=bOu A.heap.size (.slice a ([]:List Hld).length d) [] _ w M.size G L R (by simp);clear O G;generalize A.alloc (.cells #[.slice a ([]:List Hld).length d] 35)=F at*
 have U:Calls pG 98 #[.func (.func 135) #[] #[.pointer (some ⟨A.heap.size,0,none⟩)],.func (.func 100) #[] #[.pointer (some ⟨w.heap.size,0,none⟩)]] F fun e w'=>∃u:Value,e=.returned u/\RdR w' u (([]:List Hld).map mX)/\Below F.heap.size F w':=by
  go_enter func98,ntmps98;go_wp2_with fail;refine I.mono ?_;rintro e w3 ⟨u,xs,rfl,rfl,V,J⟩;have D:=OwR.rd V;obtain⟨Y,Z,rfl,-⟩:=bLm D;have hn:∀W,Calls pG 134 #[.slice Y 0 Z,.func (.func 100) #[] #[.pointer (some ⟨w.heap.size,0,none⟩)]] W fun e w'=>e=.returned (.tuple #[])/\w'=W:=fun W=>AnyF.slices_SortFunc_none Tryz.sortHeld Y Z (.func (.func 100) #[] #[.pointer (some ⟨w.heap.size,0,none⟩)]) W
  clear I V;go_wp2_with fail;refine(hn _).mono ?_;rintro e w4 ⟨rfl,rfl⟩;go_wp2_with fail;go_ret;exact⟨_,rfl,D,J⟩
 go_wp2_with fail;refine U.mono ?_;rintro e w3 ⟨u,rfl,D,J⟩;have a0:=aW R J;obtain⟨au,cu,rfl,-⟩:=bLm D;clear U I;go_wp2_with fail;go_ret;exact⟨_,rfl,D,a0⟩
theorem bQ9 {d H e:List Hld} {room clock:Int} (J:okH room clock H) (A:d.Perm H) (L:d.Pairwise (fun a b=>¬wrap64 (-b.s)<wrap64 (-a.s))) (M:e.Perm H) (O:e.Pairwise (fun a b=>b.s<a.s)):d=e:=by
 refine bO2 ?_ O (A.trans M.symm);obtain⟨-,h2,-,-,R,U⟩:=J;have V:=(A.pairwise_iff (fun{a b} (q:a.s≠b.s)=>Ne.symm q)).2 U;have G:∀y∈d,1<=y.s/\y.s<=1099511627776:=fun y Y=>by
  have:=R y (A.mem_iff.1 Y);omega
 refine DH.2 fun i j D F I=>?_
 have Z:=DH.1 L i j D F I;have a2:=DH.1 V i j D F I;have b1:=G _ (kK D);have b2:=G _ (kK F);unfold wrap64 at Z;omega
theorem bRa (v:Value) (room clock:Int) (H J:List Hld) (w:World) (hr:RdR w v (H.map mX)) (R:okH room clock H) (hl:H.length<=12) (a1:J.Perm H) (G:J.Pairwise (fun a b=>b.s<a.s)):
  Calls pG 19 #[.agg #[.int .i64 room,.int .i64 clock,v]] w fun e w'=>∃u:Value,e=.returned u/\RdI w' u (J.map Hld.b)/\Below w.heap.size w w':=by
 have a7:=hr;obtain⟨A,D,rfl,-⟩:=bLm hr;have a8:=fun W h=>bMf (.slice A H.length D) room clock H W h R
 have b0:∀W,RdR W (.slice A H.length D) (H.map mX)->Calls pG 60 #[.agg #[.func (.func 97) #[] #[]],.slice A H.length D] W fun e w'=>∃(u:Value) (d:List Hld),e=.returned u/\d=J/\RdR w' u (d.map mX)/\Below W.heap.size W w':=fun W h=>by
  rcases Nat.eq_zero_or_pos H.length with h0|h0
  ·obtain rfl:H=[]:=List.eq_nil_of_length_eq_zero h0;obtain rfl:J=[]:=List.Perm.eq_nil a1;exact(bQ8 _ _ W h).mono fun _ _ ⟨u,e,r,b⟩=>⟨u,[],e,rfl,r,b⟩
  ·exact(bOy 97 (fun h=>wrap64 (-h.s)) (enters_of func97 (by kernel_rfl) rfl) bQq _ H W h h0 hl).mono fun _ _ ⟨u,d,e,p,s,o,b⟩=>⟨u,d,e,bQ9 R p s a1 G,OwR.rd o,b⟩
 have U:=Arr.new w 37 [.int .i64 room,.int .i64 clock,.slice A H.length D];change Arr (w.alloc (.cells #[.int .i64 room,.int .i64 clock,.slice A H.length D] 37)) _ _ _ at U;have a2:=bD (aH w.heap.size w) (.cells #[.int .i64 room,.int .i64 clock,.slice A H.length D] 37);go_enter func19,ntmps19;go_wp2_with fail;generalize w.alloc (.cells #[.int .i64 room,.int .i64 clock,.slice A H.length D] 37)=w1 at*
 have a3:=a7.below a2;refine(a8 _ a3).mono ?_;rintro e V ⟨rfl,Y⟩;have L:=U.below Y U.lt;have b1:=a3.below Y;have b2:=aW a2 Y;obtain⟨z,hz⟩:=ex1 (w.heap.size);rw[<-hz] at L ⊢;clear U Y a2 a3 a8 a7 hr hz R;go_wp2_with fail;have b3:(fun F=>F.cell? ⟨z,2,none⟩=some (.slice A H.length D)) V.drew:=L.cell (i:=2) rfl;refine rF (S:=fun F=>F.cell? ⟨z,2,none⟩=some (.slice A H.length D)) (by kernel_rfl) b3 (fun b4=>?_);refine bKf [1,2,5] ?_
 iterate 3
  refine bKg (by simp only[gA,gH,gB];rfl) (by kernel_rfl) (by exact fun _ _ _ h=>h) (by first|exact gI ⟨by rfl,rfl⟩|(refine gJ ⟨by rfl,?_⟩;intro w' a5;(try dsimp only at a5);(try go_simp);try with_reducible rfl)) b4 ?_
  try simp only[bJ,bK,bH,bB]
 refine dJ (i:=0) (by kernel_rfl) rfl (fun K M=>?_);go_simp;refine(bQ4 _).mono ?_;rintro e w3 ⟨rfl,Z⟩;have a0:Arr w3 z 37 _:=Arr.below (w:=V.drew) L Z L.lt;have b5:=RdR.below (w:=V.drew) b1 Z;have b6:(fun F=>F.cell? ⟨z,2,none⟩=some (.slice A H.length D)) w3:=a0.cell (i:=2) rfl;have b7:=aW (b:=V.drew) b2.drew Z
 (try go_wp2_with fail)
 refine M.out _ _ b6 (fun _=>?_)
 try simp only[bJ,bK,bH,bB]
 clear M K;refine dJ (i:=3) (by kernel_rfl) rfl (fun K M=>?_);go_simp;refine(b0 _ b5).mono ?_;rintro e O ⟨u4,d,rfl,d3,b8,h4⟩;have b9:=a0.below h4 a0.lt;have a6:(fun F=>F.cell? ⟨z,2,none⟩=some (.slice A H.length D)) O:=b9.cell (i:=2) rfl;have c3:=aW b7 h4;obtain⟨a4,c4,rfl,e2,d4,c5⟩:=bLm b8
 (try go_wp2_with fail)
 refine M.out _ _ a6 (fun _=>?_)
 try simp only[bJ,bK,bH,bB]
 clear M K;refine bKf [4] ?_;refine bKg (by simp only[gA,gH,gB];rfl) (by kernel_rfl) (by exact fun _ _ _ h=>h) (by first|exact gI ⟨by rfl,rfl⟩|(refine gJ ⟨by rfl,?_⟩;intro w' a5;(try dsimp only at a5);(try go_simp);try with_reducible rfl)) a6 ?_
 try simp only[bJ,bK,bH,bB]
 refine nY (by kernel_rfl) ?_ _;subst d3;have e3:d.length<=12:=by rw[a1.length_eq];exact hl
 have e4:=c3.size;clear b4 b3 b6 a6 L a0 b9 b1 b5 b2 b7 Z h4 b0 b8;unfold maxLen at d4;go_wp2_with fail
 go_loopg [2,4,13] d.length (fun g s2 _s4 d5 wr=>∃k:Nat,k<=d.length/\g=d.length-k/\d5=.int .i64 (k:Int)/\OwI wr O.heap.size s2 ((d.take k).map Hld.b)/\Below O.heap.size O wr)
 case atStart=>exact⟨0,Nat.zero_le _,rfl,rfl,OwI.nil _ _,aH _ _⟩
 case round=>
  obtain⟨k,R,hg,rfl,G,I⟩:=hrel;have HG:=hid hg;clear hg
  by_cases d6:k<d.length
  ·have u1:decide ((k:Int)<(d.length:Int))=true:=aG (by omega);obtain⟨b,off,rfl,hb,hc⟩:=c5 (by omega);obtain⟨x,hx⟩:∃x,d[k]? =some x:=⟨_,List.getElem?_eq_getElem d6⟩;obtain⟨x0,x1,x2⟩:=hc k x hx;have c0:=(I.cell (p:=⟨b,off+k*3,none⟩) hb).trans x0;have c1:=(I.cell (p:=⟨b,off+k*3+1,none⟩) hb).trans x1;have c2:=(I.cell (p:=⟨b,off+k*3+2,none⟩) hb).trans x2;have HT:=hid (show(d.take (k+1)).map Hld.b=(d.take k).map Hld.b++[x.b] by rw[List.take_add_one,hx,List.map_append];rfl);have d7:=I.size;have c6:=(I.alloc d7 (.cells #[.int .i64 x.b,.int .i64 x.s,.string x.t] 113))
   have d8:=c6.alloc c6.size (.cells #[.int .i64 x.b] 3);obtain⟨e5,e6,c7,-⟩:=(OwI.rd G).open;obtain⟨e7,c8⟩:=ex1 (((d.take k).map Hld.b).length);rw[<-c8] at c7;subst c7;clear c8;have d9:(((d.take k).map Hld.b).length+1)*8<=140737488355328:=by rw[List.length_map,List.length_take];omega
   have d0:=bX (wr.alloc (.cells #[.int .i64 x.b,.int .i64 x.s,.string x.t] 113)) (.int .i64 x.b) 3;rw[fP] at d0;clear hc c5 x0 x1 x2 hx;go_wp2_with (at_builtin;refine gK rfl _ _ rfl O.heap.size _ _ rfl ((G.alloc _).alloc _) (wr.heap.size+1) x.b rfl d0 d9 (by simp;omega) ?_;intro v3 w5 q1 q2 q3;(obtain⟨a9,c9,d1,-⟩:=(OwI.rd q1).open);(obtain⟨n9,d2⟩:=ex1 (((d.take k).map Hld.b++[x.b]).length));rw[<-d2] at d1;subst d1;clear d2);rw[<-HT.out] at q1;have e0:=d8.trans q2;go_wp2_with fail;have hg:=HG.out
   go_roundg (d.length-(k+1))
   ·exact⟨k+1,by omega,rfl,by go_num,q1,e0⟩
   ·omega
  ·have u1:decide ((k:Int)<(d.length:Int))=false:=aE (by omega);rw[List.take_of_length_le (by omega)] at G;have e1:=aW c3 I;go_wp2_with fail;go_ret;exact⟨_,rfl,OwI.rd G,e1⟩
end Go.Proofs.YtfckbfofgeilgaaGreatDoor
