/- The walks and the plain laws, part 20. -/
import Derived.Test.YtiifmcicleljjaaGreatDoorT15
set_option maxRecDepth 100000
set_option maxHeartbeats 12800000
set_option linter.unusedVariables false
open Array renaming getElem?_eq_some_iff->gQ,replicate_succ->lL,replicate_zero->lM
open Go renaming belowK_b->pJ,callsIn_of_wp->tW,callsIn_of_wp_marks->xX,grownBy_putObj'->mC,heap_alloc_new->FL,heap_setCell_other->kT,results_none->qX,run_takeDeferred->sJ,run_underlying->sI,wpAnyH_done->pY,wpAnyH_ready->fL
open Go.Act renaming eval->qC,put->aJ
open Go.Addr renaming add->iN
open Go.AllReadyH renaming cons->fA,nil->fM
open Go.Builtin renaming append_->tT
open Go.Fence renaming wide->eA
open Go.Instr renaming index->tV,sliceAt->GN
open Go.IntKind renaming i64->aI,u64->fU,wrap_i64->aM,wrap_u64->gF
open Go.KeepsOthers renaming drew->aC3,setCell->iH
open Go.Oper renaming semAt_some->rB
open Go.Result renaming andThen->jB
open Go.RowKit.Below renaming heap_alloc->oF,refl->aB
open Go.Value renaming func->iR,int->bO,slice->lK
open Go.World renaming block_lt_of_cell?->iO
open Int renaming tmod_eq_emod_of_nonneg->oJ,toNat_natCast->eG
open List renaming append_assoc->cF,append_nil->eE,append_toArray->lO,cons_append->gE,drop_eq_getElem_cons->oH,flatten_append->AM,flatten_cons->AS,flatten_nil->OO,getD_eq_getElem?_getD->aV,getElem?_append_left->gS,getElem?_append_right->jY,getElem?_drop->gR,getElem?_eq_getElem->aN,getElem?_eq_none->dL,getElem?_eq_some_iff->eU,getElem?_map->dY,getElem?_take_of_lt->mB,length_append->aL,length_cons->cR,length_drop->cI,length_map->bJ,length_nil->cX,length_pos_iff->kV,length_singleton->fK,length_take->aX,map_append->fI,map_set->vF,mem_of_getElem?->cH,nil_append->iG,push_toArray->lN,replicate->bB,setIfInBounds_toArray->aK,set_cons_succ->aG,set_cons_zero->aH,size_toArray->mY,take_add_one->cQ,take_append_drop->jE,take_of_length_le->cS
open List.Perm renaming refl->xP
open Nat renaming le_refl->aA,le_trans->aW,lt_of_lt_of_le->dR,min_eq_left->gU,mul_one->sE,reduceAdd->lZ,reduceSub->mZ,sub_self->oI,zero_add->iZ,zero_le->aU
open Option.some renaming inj->bW
namespace Go.Proofs.YtiifmcicleljjaaGreatDoor
section
open Go.RowKit Go Go.Shelf
theorem QU.below {w w':World} {p B:Nat} {l:List (Int×Int)} (h:QU w p B l) (d:Below w.heap.size w w'):QU w' p B l:=by
 obtain⟨v,z,A⟩:=h;exact⟨v,z.below d z.lt,A.below d (aA _)⟩
theorem QU.grown {w w':World} {p B b:Nat} {l:List (Int×Int)} {xs:List Value} (h:QU w p B l) (A:Arr w b 3 xs) (d:w.grownBy w' (some b)) (F:b≠p):QU w' p B l:=by
 obtain⟨v,E,z⟩:=h;refine⟨v,E.grown d (by simp;omega),z.kept d ?_⟩;exact .inr (DF A z (by decide)).symm
def QR (w:World) (p:Nat) (r:bQ):Prop:=∃l,QU w p (p+1) l/\nN l/\l.Perm (oD r)
theorem QR.below {w w':World} {p:Nat} {r:bQ} (h:QR w p r) (d:Below w.heap.size w w'):QR w' p r:=by
 obtain⟨l,z,A,E⟩:=h;exact⟨l,z.below d,A,E⟩
theorem QR.grown {w w':World} {p b:Nat} {r:bQ} {xs:List Value} (h:QR w p r) (d:Arr w b 3 xs) (z:w.grownBy w' (some b)) (A:b≠p):QR w' p r:=by
 obtain⟨l,E,F,G⟩:=h;exact⟨l,E.grown d z A,F,G⟩
theorem aA9 (r:bQ):(oD r).length=r.length:=by simp[oD]
theorem aBa (p:Nat) (r:bQ) (x:Int) (n:Nat) (T:HT) (z:T.root=n) (w:World) (h:QR w p r) (A:p+1<=w.heap.size) (E:r.length<=1000000):
  Calls Tryz.prog 194 #[.pointer (some ⟨p,0,none⟩),.agg #[.int .i64 x,.int .i64 (n:Int)]] w fun e w'=>e=.returned (.tuple #[])/\QR w' p (r++[(x,T)])/\Below p w w'/\KQ p w w':=by
 obtain⟨l,F,G,d⟩:=h;refine(aRm p (p+1) l (x,(n:Int)) w F G (by omega) A (by rw[d.length_eq,aA9];exact E)).mono ?_;rintro e w' ⟨H,⟨I,J,L,M⟩,O,U⟩;refine⟨H,⟨I,J,L,M.trans ?_⟩,O,U⟩;have V:oD (r++[(x,T)])=oD r++[(x,(n:Int))]:=by unfold oD;rw[fI];simp[z]
 rw[V];exact d.append_right _
theorem aBb (p:Nat) (r:bQ) (w:World) (h:QR w p r) (d:r≠[]) (F:r.Pairwise (fun p q=>p.2.root<q.2.root)) (Y:r.length<=1000000):
  Calls Tryz.prog 195 #[.pointer (some ⟨p,0,none⟩)] w fun e w'=>e=.returned (.agg #[.int .i64 (bM r).1.1,.int .i64 ((bM r).1.2.root:Int)])/\QR w' p (bM r).2/\Below p w w'/\KQ p w w':=by
 obtain⟨l,G,z,A⟩:=h;have H:l.length=r.length:=by rw[A.length_eq,aA9]
 refine(aRo p (p+1) l w G z (by omega) (by rw[H];exact kV.2 d) (by omega)).mono ?_;rintro e w' ⟨E,⟨I,J,L,M⟩,O,T⟩;obtain⟨U,V⟩:=aRq z A d F M;rw[U] at E;exact⟨E,⟨I,J,L,V⟩,O,T⟩
def kS (w:World) (B:Nat) (v:Value) (l:List Int):Prop:=∃b R,v=.slice (some ⟨b,0,none⟩) l.length l.length/\B<=b/\Arr w b 3 (l.map (bO .i64)++R)
theorem kS.rd {w:World} {B:Nat} {v:Value} {l:List Int} (h:kS w B v l) (A:l.length<=1000000):RdI w v l:=by
 obtain⟨b,R,rfl,E,z⟩:=h;refine⟨_,_,rfl,aA _,by unfold maxLen;omega,.inr ⟨b,0,rfl,z.lt,fun j d=>?_⟩⟩;rw[iZ];exact z.cell (by rw[gS d,aN d,aV,aN d];rfl)
theorem kS.below {w w':World} {B:Nat} {v:Value} {l:List Int} (h:kS w B v l) (z:Below w.heap.size w w'):kS w' B v l:=by
 obtain⟨b,R,e,A,d⟩:=h;exact⟨b,R,e,A,d.below z d.lt⟩
theorem kS.base {w:World} {B B':Nat} {v:Value} {l:List Int} (h:kS w B v l) (d:B'<=B):kS w B' v l:=by
 obtain⟨b,R,e,z,A⟩:=h;exact⟨b,R,e,aW d z,A⟩
theorem aRr (n m:Nat) (f:Nat->Int) (h:n<=m):tab m f=tab n f++(tab m f).drop n:=by
 rw[show tab n f=(tab m f).take n by
  unfold tab;rw[<-List.map_take,List.take_range,gU h],jE]
theorem aRs {n:Nat} {f:Nat->Int} {l:List Int} (z:l.length=n) (h:∀j,j<n->f j=l.getD j 0):tab n f=l.map (bO .i64):=by
 apply List.ext_getElem?;intro j
 by_cases d:j<n
 ·rw[iS n f j d,dY,aN (by omega),h j d,aV,aN (by omega)];rfl
 ·rw[dL (by simp[tab];omega),dL (by simp;omega)]
theorem aRt (v:Value) (ws:List Int) (w:World) (hr:RdI w v ws) (h2:2<=ws.length) (i0:ws.length<=258) (h1:∀x∈ws,1<=x) (hs:ws.sum<28657):
  Calls Tryz.prog 146 #[v] w fun e w'=>∃v',e=.returned v'/\kS w' w.heap.size v' (kL ws)/\Below w.heap.size w w':=by
 have d3:=hid (SK ws h1);have i5:=hid hs;obtain⟨a,ca,rfl,i6,i7,hA⟩:=hr.open;unfold maxLen at i7;obtain⟨b,off,rfl,hb,hc⟩:=hA (by omega);have HC:=hid hc;have b6:QR (w.alloc (.cells #[.slice none 0 0,oE] 240)) w.heap.size []:=
  ⟨[],⟨.slice none 0 0,Arr.new w _ _,OwP.nil _ _ _⟩,fun j h0 hj=>by simp at hj,xP _⟩
 have b7:=bD (aB _ w) (.cells #[.slice none 0 0,oE] 240);have d4:(w.alloc (.cells #[.slice none 0 0,oE] 240)).heap.size=w.heap.size+1:=by simp
 have s1:(store ⟨w.heap.size,1,none⟩ (iR (.func 193) #[] #[])).run Tryz.prog (w.alloc (.cells #[.slice none 0 0,.nilFunc] 240))=.ok () (w.alloc (.cells #[.slice none 0 0,iR (.func 193) #[] #[]] 240)):=by
  rw[run_store _ _ _ _ _ rfl];simp[World.setCell_alloc_new]
 clear hA hc hr h1 hs;go_enter Tryz.func146,Tryz.ntmps146;go_wp2_with fail;clear s1;generalize w.alloc (.cells #[.slice none 0 0,oE] 240)=W0 at*
 obtain⟨p,hp⟩:∃p,p=w.heap.size:=⟨_,rfl⟩;rw[<-hp] at b6 b7 d4 hb ⊢;have d5:=hid hp;clear hp
 go_loopg [4,5,15] ws.length (fun g _s4 _s5 i8 wr=>∃k:Nat,k<=ws.length/\g=ws.length-k/\i8=.int .i64 (k:Int)/\QR wr p (bP (ws.take k) 0)/\Below p w wr/\p+1<=wr.heap.size)
 case atStart=>exact⟨0,aU _,rfl,rfl,b6,b7,by omega⟩
 case round=>
  clear b6 b7 d4;obtain⟨k,hk,T,rfl,Y,F,V⟩:=hrel;have HG:=hid T;clear T;have a0:(bP (ws.take k) 0).length=k:=by show((ws.take k).zipIdx.map _).length=k;rw[bJ,List.length_zipIdx,aX];omega
  by_cases a2:k<ws.length
  ·have u1:decide ((k:Int)<(ws.length:Int))=true:=decide_eq_true (by omega);obtain⟨x,hx⟩:=dH a2;have c1:=(F.cell (p:=⟨b,off+k,none⟩) hb).trans (HC.out k x hx);have HT:=hid (SM hx);have b8:=aBa p (bP (ws.take k) 0) x k (.leaf k) rfl wr Y V (by omega);rw[<-HT.out] at b8;clear hx a0;go_wp2_with fail;refine b8.mono ?_;rintro e w2 ⟨rfl,b1,b2,a3⟩;clear b8;go_wp2_with fail;have T:=HG.out
   go_roundg (ws.length-(k+1))
   case measure=>omega
   case rel=>exact⟨k+1,by omega,rfl,by go_num,b1,F.trans b2,aW V a3.1⟩
  ·have u1:decide ((k:Int)<(ws.length:Int))=false:=decide_eq_false (by omega);have d6:k=ws.length:=by omega
   rw[d6,List.take_length] at Y;obtain⟨H,rfl⟩:∃H,H=wr:=⟨_,rfl⟩;obtain⟨n,hn⟩:∃n,n=ws.length:=⟨_,rfl⟩;have HN:=hid hn;obtain⟨N2,d7⟩:∃N2,N2=2*n:=⟨_,rfl⟩;obtain⟨M,hM⟩:∃M,M=2*n-1:=⟨_,rfl⟩;have HM:=hid hM;have o0:=hid d7;have o1:2<=n:=by omega
   have o2:n<=258:=by omega
   rw[<-hn] at i6 u1 ⊢;have m1:aI.wrap (2*(n:Int))=(N2:Int):=by rw[aM];omega
   have m2:2*(n:Int)=(N2:Int):=by omega
   have m3:aI.wrap ((N2:Int)-1)=(M:Int):=by rw[aM];omega
   have m4:(N2:Int)-1=(M:Int):=by omega
   have o3:M<=1000:=by omega
   have o4:¬k<n:=by omega
   clear d6 a0 h2 i0 hn d7 hM a2 hk;go_wp2_with (at_make;refine mkA gL rfl _ _ rfl M rfl rfl ?_ ?_;omega);have b9:Arr (H.alloc (.cells (fB (.int .i64 0) M) 3)) H.heap.size 3 (tab M (iJ ws 0)):=by
    have:=Arr.made H 3 (.int .i64 0) M;rw[BF] at this;exact this
   have d8:=Y.below (bD (aB _ H) (.cells (fB (.int .i64 0) M) 3));have a4:=F.alloc (o:=.cells (fB (.int .i64 0) M) 3) (by omega);have d9:(H.alloc (.cells (fB (.int .i64 0) M) 3)).heap.size=H.heap.size+1:=by simp
   generalize H.alloc (.cells (fB (.int .i64 0) M) 3)=W1 at*
   obtain⟨L,e0⟩:∃L,L=H.heap.size:=⟨_,rfl⟩;rw[<-e0] at b9 d9 V ⊢;have b3:L≠p:=by omega
   have e3:p+1<=W1.heap.size:=by omega
   clear Y F e0 d9
   go_loopg [7,8,9] n (fun g s7 _s8 _s9 wr=>∃t m:Nat,Hid (m=n+t)/\t<n/\g=n-t/\s7=.int .i64 (m:Int)/\QR wr p (bP ws t)/\Arr wr L 3 (tab M (iJ ws t))/\Below p w wr/\p+1<=wr.heap.size)
   case atStart=>exact⟨0,n,hid (by omega),by omega,by omega,rfl,d8,b9,a4,e3⟩
   case round=>
    clear d8 b9 a4 e3;obtain⟨t,m,c0,o5,T,rfl,Y,E,F,V⟩:=hrel;have i9:=hid T;clear T;have b4:=c0.out;have hN:=HN.out;have hM:=HM.out;have a0:=pR ws t (by omega)
    by_cases a2:t+1<n
    ·have v1:decide ((m:Int)<(M:Int))=true:=decide_eq_true (by omega);have j1:m<M:=by omega
     have a5:=jT.all ws t (by omega);obtain⟨A,I,s,a6,e4,ea,eb,es,_,_⟩:=qL (ws.length+t) (bP ws t) (by omega);have c4:bP ws t≠[]:=by intro e;rw[e] at a0;simp at a0;omega
     have b5:=uO (bP ws t) c4;have c5:(bM (bP ws t)).2≠[]:=by intro e;rw[e] at b5;have:=b5.2.1;simp at this;omega
     have j2:=d3.out t (by omega) A (a6.mem_iff.1 (by simp));have j3:=d3.out t (by omega) I (a6.mem_iff.1 (by simp));have e5:=a5.lt A (a6.mem_iff.1 (by simp)) _ (HT.root_mem _);have e6:=a5.lt I (a6.mem_iff.1 (by simp)) _ (HT.root_mem _);have hq1:=aBb p (bP ws t) wr Y c4 a5.sorted (by omega);have e7:(bM (bP ws t)).2.length<=1000000:=by have:=b5.2.1;omega
     have hq2:=fun W h=>aBb p (bM (bP ws t)).2 W h c5 (aRi a5.sorted) e7
     have hq3:=fun W h1 h2=>aBa p (bM (bM (bP ws t)).2).2 (A.1+I.1) m (.node (ws.length+t) A.2 I.2) (by show ws.length+t=m;omega) W h1 h2 (by have:=(uO _ c5).2.1;omega)
     have j4:=hid (show(bM (bM (bP ws t)).2).2++[(A.1+I.1,.node (ws.length+t) A.2 I.2)]=bP ws (t+1) by rw[es];exact e4.symm);have c6:=hid (show ∀x,iJ ws (t+1) x=if x=I.2.root then(m:Int) else if x=A.2.root then(m:Int) else iJ ws t x from fun x=>by rw[<-ea,<-eb,b4,hN];rfl);rw[ea] at hq1;rw[eb] at hq2;rw[j4.out] at hq3;obtain⟨G,e8⟩:∃r,r=A.2.root:=⟨_,rfl⟩;obtain⟨J,e9⟩:∃r,r=I.2.root:=⟨_,rfl⟩;rw[<-e8] at hq1 e5 c6;rw[<-e9] at hq2 e6 c6;have j5:G<M:=by omega
     have f0:J<M:=by omega
     have j6:(A.1+I.1)<=100000/\0<=A.1+I.1:=by have:=i5.out;omega
     obtain⟨S,hS⟩:∃S,S=A.1+I.1:=⟨_,rfl⟩;rw[<-hS] at hq3 j6;have mS:A.1+I.1=S:=hS.symm;have j7:aI.wrap S=S:=by rw[aM];omega
     have o6:aI.wrap (A.1+I.1)=S:=by rw[mS,j7]
     clear hS;clear a5 a6 e4 ea eb es c4 b5 c5 j2 j3 e5 e6 e8 e9 e7 a0 b4 hN hM Y;go_wp2_with fail;refine hq1.mono ?_;rintro e w2 ⟨rfl,b1,b2,a3⟩;have E:=a3.arr E b3 (by decide);have F:=F.trans b2;have V:=aW V a3.1;clear hq1 b2 a3;go_wp2_with fail;refine(hq2 _ b1).mono ?_;rintro e O ⟨rfl,f1,f2,c7⟩;have E:=c7.arr E b3 (by decide);have F:=F.trans f2;have V:=aW V c7.1;clear hq2 f2 c7 b1;go_wp2_with fail
     have a7:Arr ((O.alloc (.cells #[.int .i64 A.1,.int .i64 (G:Int)] 236)).alloc (.cells #[.int .i64 I.1,.int .i64 (J:Int)] 236)) O.heap.size 236 [.int .i64 A.1,.int .i64 (G:Int)]:=(Arr.new O _ [.int .i64 A.1,.int .i64 (G:Int)]).alloc _;have a8:Arr ((O.alloc (.cells #[.int .i64 A.1,.int .i64 (G:Int)] 236)).alloc (.cells #[.int .i64 I.1,.int .i64 (J:Int)] 236)) (O.heap.size+1) 236 [.int .i64 I.1,.int .i64 (J:Int)]:=by
      rw[show O.heap.size+1=(O.alloc (.cells #[.int .i64 A.1,.int .i64 (G:Int)] 236)).heap.size by simp];exact Arr.new _ _ _
     have a9:Below O.heap.size O ((O.alloc (.cells #[.int .i64 A.1,.int .i64 (G:Int)] 236)).alloc (.cells #[.int .i64 I.1,.int .i64 (J:Int)] 236)):=bD (bD (aB _ _) _) _;generalize (O.alloc (.cells #[.int .i64 A.1,.int .i64 (G:Int)] 236)).alloc (.cells #[.int .i64 I.1,.int .i64 (J:Int)] 236)=w4 at*
     have f4:L<O.heap.size:=E.lt;have E:=E.below a9 E.lt;have f5:=f1.below a9;have F:=F.trans (a9.mono (by omega));have j8:=aW V a9.size;obtain⟨za,c8⟩:∃z,z=O.heap.size:=⟨_,rfl⟩;have o7:L<za:=by rw[c8];exact f4
     rw[<-c8] at a7 a8 ⊢;have j9:=a7.cell (i:=1) rfl;have k0:=a8.cell (i:=1) rfl;have k1:=E.cell (iS M _ G j5);have k2:=E.cell (iS M _ J f0);have k3:=E.free G;have k4:=E.free J;have Z:=E.set G (.int .i64 (m:Int));rw[qD M (iJ ws t) (fun x=>if x=G then(m:Int) else iJ ws t x) G m (fun _ _=>rfl)] at Z;have k5:=Z.cell (iS M _ J f0);have k6:=Z.free J;have i1:(G:Int)<(M:Int):=by omega
     have i2:(J:Int)<(M:Int):=by omega
     have i3:(0:Int)<=(G:Int):=by omega
     have i4:(0:Int)<=(J:Int):=by omega
     clear c8 a9 f1 f4
     go_region
     have k7:Arr ((w4.setCell ⟨L,G,none⟩ (.int .i64 (m:Int))).setCell ⟨L,J,none⟩ (.int .i64 (m:Int))).drew L 3 (tab M (iJ ws (t+1))):=by
      have:=Z.set J (.int .i64 (m:Int));rw[qD M _ (iJ ws (t+1)) J m (fun d _=>c6.out d)] at this;exact this
     have a1:w4.grownBy ((w4.setCell ⟨L,G,none⟩ (.int .i64 (m:Int))).setCell ⟨L,J,none⟩ (.int .i64 (m:Int))).drew (some L):=nC (dS (eM _ L G _) (eM _ L J _));have k8:=f5.grown E a1 b3;have a7:=a7.grown a1 (by simp;omega);have a8:=a8.grown a1 (by simp;omega);have F:=F.grown a1 (by omega) (fun k hk=>by obtain rfl:=bW hk;omega);have f6:=aW j8 a1.size;generalize ((w4.setCell ⟨L,G,none⟩ (.int .i64 (m:Int))).setCell ⟨L,J,none⟩ (.int .i64 (m:Int))).drew=w5 at*
     clear Z k1 k2 k5 k3 k4 k6 f5 E j9 k0 a1;have o8:=a7.cell (i:=0) rfl;have o9:=a8.cell (i:=0) rfl;go_wp2_with fail;refine(hq3 _ k8 f6).mono ?_;rintro e w6 ⟨rfl,k9,l1,f7⟩;have l2:=f7.arr k7 b3 (by decide);go_wp2_with fail;have T:=i9.out;have b4:=c0.out
     go_roundg (n-(t+1))
     case measure=>omega
     case rel=>exact⟨t+1,m+1,hid (by omega),a2,rfl,by go_num,k9,l2,F.trans l1,aW f6 f7.1⟩
    ·have v1:decide ((m:Int)<(M:Int))=false:=decide_eq_false (by omega);have j1:¬m<M:=by omega
     have f8:t=ws.length-1:=by omega
     rw[f8] at E;have c9:=hid (aRp ws (by omega));have f9:2<=ws.length:=by omega
     have g0:=hid (fun(D:Nat->Int) h0 hD=>aGe ws f9 (D:=D) h0 hD);have g1:(kL ws).length=n:=by rw[show(kL ws).length=ws.length from rN _ _];omega
     have g2:=hid g1;have d0:=hid (show M-1=2*ws.length-2 by omega);obtain⟨U,g3⟩:∃U,U=iJ ws (ws.length-1):=⟨_,rfl⟩;rw[<-g3] at E c9 g0;obtain⟨j0,g4⟩:∃j0,j0=M-2:=⟨_,rfl⟩;have m5:aI.wrap ((M:Int)-2)=(j0:Int):=by rw[aM];omega
     have m6:(M:Int)-2=(j0:Int):=by omega
     have g5:=hid (show j0+2=M by omega);have l3:=hid (show p<=wr.heap.size by omega);clear f9 b4 hN hM a0 a2 f8 g1 g3 g4 c0 Y;obtain⟨H,rfl⟩:∃H,H=wr:=⟨_,rfl⟩;go_wp2_with (at_make;refine mkA gL rfl _ _ rfl M rfl rfl ?_ ?_;omega);have d1:Arr (H.alloc (.cells (fB (.int .i64 0) M) 3)) H.heap.size 3 (tab M (fun _=>0)):=by
      have:=Arr.made H 3 (.int .i64 0) M;rw[BF] at this;exact this
     have Z:=E.alloc (.cells (fB (.int .i64 0) M) 3);have a4:=F.alloc (o:=.cells (fB (.int .i64 0) M) 3) (by omega);have l4:=E.lt;generalize H.alloc (.cells (fB (.int .i64 0) M) 3)=W2 at*
     obtain⟨bd,g6⟩:∃bd,bd=H.heap.size:=⟨_,rfl⟩;rw[<-g6] at d1 l4 ⊢;have p0:p<bd:=by omega
     clear E F g6 l3
     go_loopg [11] (M-1) (fun g l5 wr=>∃(j:Nat) (q:Int) (D:Nat->Int),Hid (q=(j:Int)-1)/\j+1<=M/\g=j/\l5=.int .i64 q/\Hid (vD M U j D)/\Arr wr bd 3 (tab M D)/\Arr wr L 3 (tab M U)/\Below p w wr)
     case atStart=>exact⟨M-1,(j0:Int),fun _=>0,hid (by have:=g5.out;omega),by have:=g5.out;omega,rfl,rfl,hid (vD.start M U),d1,Z,a4⟩
     case round=>
      clear d1 Z a4;obtain⟨j,q,D,HQ,p1,T,rfl,HD,b0,E,F⟩:=hrel;have l6:=hid T;clear T
      by_cases g4:0<j
      ·obtain⟨y,hy⟩:∃y,j=y+1:=⟨j-1,by omega⟩;have hq:=HQ.out;obtain rfl:q=(y:Int):=by omega
       subst hy;have l7:=d0.out;obtain⟨u,hu,l8,p2⟩:=c9.out y (by omega);have d2:u<M:=by omega
       have g7:y<M:=by omega
       have r1:decide ((y:Int)>=0)=true:=decide_eq_true (by omega);have r2:decide (0<=(y:Int))=true:=decide_eq_true (by omega);have c1:=E.cell (iS M U y g7);rw[hu] at c1;have c2:=b0.cell (iS M D u d2);have c3:=b0.cell (iS M D y g7);have f3:=b0.free y;have l9:=HD.out.bd u (by omega) d2;have g8:=hid (HD.out.step (by omega) hu l8 d2 (fun x p3 p4=>by
        obtain⟨u2,e1,e2,_⟩:=c9.out x (by omega);rw[e1];omega))
       obtain⟨Du,g9⟩:∃x,x=D u:=⟨_,rfl⟩;rw[<-g9] at c2 l9 g8;have n1:aI.wrap (Du+1)=Du+1:=by rw[aM];omega
       have n2:aI.wrap ((y:Int)-1)=(y:Int)-1:=by rw[aM];omega
       have i1:(y:Int)<(M:Int):=by omega
       have i2:(u:Int)<(M:Int):=by omega
       have i3:(0:Int)<=(u:Int):=by omega
       have i4:(0:Int)<=(y:Int):=by omega
       clear hu g9 hq l7;go_wp2_with fail;have T:=l6.out
       go_roundg y
       case measure=>omega
       case rel=>
        refine⟨y,_,_,hid rfl,by omega,rfl,by go_num,g8,?_,?_,?_⟩
        ·have:=b0.set y (.int .i64 (Du+1));rw[qD M D (fun d=>if d=y then Du+1 else D d) y (Du+1) (fun _ _=>rfl)] at this;exact this
        ·exact E.other ⟨bd,y,none⟩ (by simp;omega) _
        ·exact F.setCell (p:=⟨bd,y,none⟩) (by show p<=bd;omega) _
      ·have hq:=HQ.out;have r1:decide (q>=0)=false:=decide_eq_false (by omega);have r2:decide (0<=q)=false:=decide_eq_false (by omega);have r3:¬0<=q:=by omega
       obtain rfl:j=0:=by omega
       have m0:n<=M:=by omega
       have i1:(n:Int)<=(M:Int):=by omega
       have m7:=hid m0;clear hq;go_wp2_with fail;go_ret;have m8:=g0.out D (by rw[<-d0.out];exact HD.out.top) (fun x hx=>HD.out.down x (aU _) (by rw[d0.out];exact hx));have m9:=aRs (f:=D) g2.out (fun j hj=>m8 j (by rw[<-HN.out];exact hj));refine⟨_,rfl,⟨bd,(tab M D).drop n,by rw[g2.out];rfl,by rw[<-d5.out];omega,?_⟩,by rw[<-d5.out];exact F⟩;rw[<-m9,<-aRr n M D m7.out];exact b0
theorem Ow.openA {w:World} {B e:Nat} {v:Value} {xs:List Value} (h:Ow w B e v xs) (J:0<xs.length):∃g cap R,v=.slice (some ⟨g,0,none⟩) xs.length cap/\B<=g/\Arr w g e (xs++R)/\xs.length<=cap/\cap<=maxLen/\(xs++R).length=cap:=by
 obtain⟨L,h⟩:=h;rcases h with⟨rfl,M⟩|⟨g,cap,d,rfl,F,G,H,I,z,A⟩
 ·omega
 ·rw[sE] at z A;have E:xs++d.toList.drop xs.length=d.toList:=by
   have:=jE xs.length d.toList;rw[A] at this;exact this
  refine⟨g,cap,d.toList.drop xs.length,rfl,F,?_,H,I,?_⟩
  ·unfold Arr;rw[E,Array.toArray_toList];exact G
  ·rw[E,Array.length_toList];exact z
theorem aRu {w:World} {g cap e:Nat} {xs R:List Value} (h:Arr w g e (xs++R)) (z:xs.length<=cap) (A:cap<=maxLen):Rd w (.slice (some ⟨g,0,none⟩) xs.length cap) xs.length xs:=
 ⟨_,_,rfl,z,A,.inr ⟨g,0,rfl,h.lt,fun j d=>by
  rw[iZ];exact h.cell (by rw[gS d,aN d,aV,aN d];rfl)⟩⟩
theorem MY {w:World} {g cap n:Nat} {l:List Int} {R:List Value} (h:Arr w g 3 (l.map (bO .i64)++R)) (d:l.length=n) (z:n<=cap) (A:cap<=maxLen):RdI w (.slice (some ⟨g,0,none⟩) n cap) l:=by
 subst d;have:=aRu (cap:=cap) h (by simpa using z) A;unfold RdI
 simpa using this
def pB (f:Int->Int) (l:List Int) (k:Nat):List Int:=(l.take k).map f++l.drop k
theorem aRv (f:Int->Int) (l:List Int) (k:Nat):(pB f l k).length=l.length:=by unfold pB;simp;omega
theorem aRw {f:Int->Int} {l:List Int} {k:Nat} {x:Int} (h:l[k]? =some x):(pB f l k)[k]? =some x:=by
 have d:=(eU.1 h).1;unfold pB;rw[jY (by simp;omega)];simp only[bJ,aX,gR];rw[show k+(k-min k l.length)=k by omega];exact h
theorem aRx {f:Int->Int} {l:List Int} {k:Nat} {x:Int} (h:l[k]? =some x):pB f l (k+1)=(pB f l k).set k (f x):=by
 have d:=(eU.1 h).1;unfold pB;rw[List.set_append_right _ _ (by simp;omega),bJ,aX,gU (by omega),oI,cQ,h,oH d,aH];simp
theorem aRy (f:Int->Int) (l:List Int) (k:Nat) (h:l.length<=k):pB f l k=l.map f:=by
 unfold pB;rw[cS h,List.drop_eq_nil_of_le h,eE]
theorem aRz (v:Value) (l:List Int) (w:World) (F:RdI w v l) (h2:2<=l.length) (a5:l.length<=258) (G:∀x∈l,0<=x/\x<=20000) (J:l.sum<=20000):
  Calls Tryz.prog 82 #[v,.int .i64 20] w fun e w'=>∃V,e=.returned (.tuple #[V,.int .i64 0])/\kS w' w.heap.size V (nJ l)/\Below w.heap.size w w':=by
 have L:=hid (KE h2 a5 (fun x z=>(G x z).1) J);have a6:=hid (DD l (fun x z=>(G x z).1));have HS:=hid J;have Y:=aA3 v l w F (by omega) (by omega);have Z:=aPi v l w F (fun x z=>by have:=G x z;omega);obtain⟨a,ca,rfl,b5,b6,hA⟩:=F.open;have t1:decide ((l.length:Int)<2)=false:=decide_eq_false (by omega);have t2:decide ((l.length:Int)>258)=false:=decide_eq_false (by omega);have t3:decide (258<(l.length:Int))=false:=decide_eq_false (by omega);clear hA F J G;go_enter Tryz.func82,Tryz.ntmps82;go_wp2_with fail;refine Z.mono ?_;rintro e w' ⟨rfl,rfl⟩;go_wp2_with fail
 refine Y.mono ?_;rintro e w1 ⟨v1,rfl,ho,a0⟩;obtain⟨g,cap,R,rfl,a7,A,a1,a2,a8⟩:=Ow.openA ho (by rw[bJ];omega);rw[bJ] at a1 ⊢;have a3:=hid a2;unfold maxLen at a2;clear Z Y ho a8;go_wp2_with fail
 go_loopg [7,8,37] l.length (fun gg _s7 _s8 a9 wr=>∃k:Nat,k<=l.length/\gg=l.length-k/\a9=.int .i64 (k:Int)/\Arr wr g 3 ((pB (fun x=>max x 1) l k).map (bO .i64)++R)/\Below w'.heap.size w' wr)
 case atStart=>exact⟨0,aU _,rfl,rfl,A,a0⟩
 case round=>
  clear A a0;obtain⟨k,hk,O,rfl,A,H⟩:=hrel;have HG:=hid O;clear O;have I:=aRv (fun x=>max x 1) l k
  by_cases T:k<l.length
  ·have u1:decide ((k:Int)<(l.length:Int))=true:=decide_eq_true (by omega);obtain⟨x,z⟩:=dH T;have c1:=A.cell (i:=k) (v:=.int .i64 x) (by rw[gS (by rw[bJ,I];exact T),dY,aRw z];rfl);have f1:=A.free k;obtain⟨M,hM⟩:∃M,max x 1=M:=⟨_,rfl⟩;have a3:(if x<1 then 1 else x)=M:=by rw[<-hM];split<;>omega
   have HT:=hid (show(pB (fun x=>max x 1) l (k+1)).map (bO .i64)++R=((pB (fun x=>max x 1) l k).map (bO .i64)++R).set k (.int .i64 M) by
    rw[List.set_append_left _ _ (by rw[bJ,I];exact T),aRx z,vF,<-hM])
   clear z I;go_wp2_with fail;have O:=HG.out
   go_roundg (l.length-(k+1))
   case measure=>omega
   case rel=>exact⟨k+1,by omega,rfl,by go_num,by rw[HT.out];exact A.set k _,H.setCell (p:=⟨g,k,none⟩) a7 _⟩
  ·have u1:decide ((k:Int)<(l.length:Int))=false:=decide_eq_false (by omega);rw[aRy _ _ _ (by omega)] at A;have b0:=H.size;have E:=aRt (.slice (some ⟨g,0,none⟩) l.length cap) (l.map (fun x=>max x 1)) wr (MY A (by rw[bJ]) a1 a3.out) (by rw[bJ];omega) (by rw[bJ];omega) (fun x z=>by
    obtain⟨y,_,rfl⟩:=List.mem_map.1 z;omega) (by have:=a6.out;have:=HS.out;omega)
   have b1:kL (l.map (fun x=>max x 1))=nJ l:=rfl;rw[b1] at E;clear I A;go_wp2_with fail;refine E.mono ?_;rintro e w5 ⟨v9,rfl,U,a4⟩;have b2:=bV H a4;have b3:=U.base b0;have b4:=ZH v9 (nJ l) w5 (U.rd (by rw[L.out.2];omega)) (by rw[L.out.2];omega);have HB:=hid (fun x z=>(L.out.1.2.2 x z).2);clear E H a4 U;go_wp2_with fail
   go_loopg [9,10,11,56] 0 (fun g s9 _s10 _s11 _s56 wx=>g=0/\s9=v9/\wx=w5)
   case atStart=>exact⟨rfl,rfl,rfl⟩
   case round=>
    obtain⟨_,rfl,rfl⟩:=hrel;go_wp2_with fail;refine b4.mono ?_;rintro e w6 ⟨d,rfl,E,_,rfl⟩;have b7:=HB.out d E;have v1:decide (d>20)=false:=decide_eq_false (by omega);have v2:decide (20<d)=false:=decide_eq_false (by omega);go_wp2_with fail
    go_ret2
    exact⟨_,rfl,b3,b2⟩
end
section
open Go.RowKit Go Go.Shelf
attribute [local go_sem] rB
def chV (b off n i:Nat):Value:=.slice (some ⟨b,off+10*i,none⟩) (min 10 (n-10*i)) (min 10 (n-10*i))
def chL (b off n:Nat):List Value:=(List.range ((n+9)/10)).map (chV b off n)
theorem zY (b off n:Nat):(chL b off n).length=(n+9)/10:=by simp[chL]
theorem aBf {b off n i:Nat} (h:i<(n+9)/10):(chL b off n)[i]? =some (chV b off n i):=by simp[chL,h]
theorem aR1 {b off n i:Nat} (h:i<(n+9)/10):(chL b off n).take (i+1)=(chL b off n).take i++[chV b off n i]:=by rw[cQ,aBf h];rfl
def KpA (d:Nat) (A B:World):Prop:=A.heap.size<=B.heap.size/\∀k o,(k=d\/k=d+1)->A.heap[k]? =some o->o.isCells=true->B.heap[k]? =some o
theorem KpA.trans {d:Nat} {A B C:World} (h:KpA d A B) (k:KpA d B C):KpA d A C:=⟨aW h.1 k.1,fun i o hi E z=>k.2 i o hi (h.2 i o hi E z) z⟩
theorem KpA.put {d B:Nat} (_:d+1<B) (W:World) (l:Nat) (o z:Obj) (E:B<=l) (_:W.heap[l]? =some o) (_:o.isCells=false) (_:o.isWalk=false):KpA d W (W.putObj l z):=
 ⟨by simp,fun k q F A _=>by rw[World.putObj_heap_other (by omega)];exact A⟩
theorem aR2 {B:Nat} {J:List Value->World->Prop} (h:AbidesFrom B J) {s:List Value} {A:World} (d:J s A) (k:Nat):J s (A.drewN k):=
 h s A _ none d ⟨rfl,rfl,rfl,aA _,fun _ _ _=>rfl⟩ (fun r e=>by cases e)
theorem aR3 {b off n i:Nat} (h:i<(n+9)/10):(chL b off n).take i++chV b off n i::(chL b off n).drop (i+1)=chL b off n:=by
 have:=jE i (chL b off n);rw[oH (by rw[zY];exact h)] at this;rw[show(chL b off n)[i]'(by rw[zY];exact h)=chV b off n i by simp[chL]] at this;exact this
theorem KpA.arr {d b e:Nat} {A B:World} {l:List Value} (h:KpA d A B) (z:Arr A b e l) (E:b=d\/b=d+1):Arr B b e l:=h.2 b _ E z rfl
theorem aR4 (n:Nat) (hn:1<=n) (z b off cap N:Nat) (a9:N<=cap) (hm:N<=1000000) (w:World) (A:Arr w z 27 [.slice (some ⟨b,off,none⟩) N cap]) (E:Arr w (z+1) 3 [.int .i64 10]):
  MN n Tryz.prog 150 #[.pointer (some ⟨z,0,none⟩),.pointer (some ⟨z+1,0,none⟩)] (fun x=>#[x]) z (KpA z) (chL b off N) w:=by
 intro l J W L U _ V F;have A:=A.below L A.lt;have E:=E.below L E.lt;refine tW Tryz.func150 rfl trivial ?_ rfl;simp only[Tryz.ntmps150,mY,cR,cX,lZ,mZ,lL,lM,lN,lO,iG,gE];have HY:=hid V;have HJ:=hid U;clear L U V
 gi_wp2_with fail
 gi_loopg [4,5] ((N+9)/10) (fun g s4 _s5 wr=>∃k i:Nat,Hid (i=10*k)/\k<=(N+9)/10/\g=(N+9)/10-k/\s4=.int .i64 (i:Int)/\J ((chL b off N).take k) wr/\W.heap.size<=wr.heap.size/\Arr wr z 27 [.slice (some ⟨b,off,none⟩) N cap]/\Arr wr (z+1) 3 [.int .i64 10])
 case atStart=>exact⟨0,0,hid rfl,aU _,rfl,rfl,F,aA _,A,E⟩
 case round=>
  clear F A E;obtain⟨k,i,Y,hk,M,rfl,H,a3,A,E⟩:=hrel;have HG:=hid M;clear M;have hi:=Y.out;have c0:=A.cell (i:=0) rfl;have c1:=E.cell (i:=0) rfl
  by_cases b0:i<N
  ·have u1:decide ((i:Int)<(N:Int))=true:=decide_eq_true (by omega);obtain⟨d,O⟩:∃d,d=N-i:=⟨_,rfl⟩;obtain⟨e,Z⟩:∃e,e=min 10 d:=⟨_,rfl⟩;obtain⟨h,hh⟩:∃h,h=i+e:=⟨_,rfl⟩;have m1:min (10:Int) (d:Int)=(e:Int):=by omega
   have m2:(if(d:Int)<10 then(d:Int) else 10)=(e:Int):=by split<;>omega
   have m3:(if(10:Int)<(d:Int) then 10 else(d:Int))=(e:Int):=by split<;>omega
   have m4:aI.wrap ((i:Int)+(e:Int))=(h:Int):=by rw[aM];omega
   have m5:(i:Int)+(e:Int)=(h:Int):=by omega
   have m6:aI.wrap ((i:Int)+10)=(i:Int)+10:=by rw[aM];omega
   have b1:∀W,(GN 27 (.slice (some ⟨b,off,none⟩) N cap) (some (.int .i64 (i:Int))) none none).run Tryz.prog W=.ok (.slice (some ⟨b,off+i,none⟩) d (cap-i)) W:=fun W=>by
    have k1:(0:Int)<=(i:Int):=by omega
    have k2:(i:Int)<=(N:Int):=by omega
    have I:i<=N:=by omega
    have G:¬cap=i:=by omega
    subst O
    by_cases F:i=0
    ·subst F;simp[go_sem,G,iN]
    ·simp[go_sem,I,G,iN,F]
   have b2:∀W,(GN 27 (.slice (some ⟨b,off,none⟩) N cap) (some (.int .i64 (i:Int))) (some (.int .i64 (h:Int))) (some (.int .i64 (h:Int)))).run Tryz.prog W=.ok (.slice (some ⟨b,off+i,none⟩) e e) W:=fun W=>by
    have k1:(0:Int)<=(i:Int):=by omega
    have k2:i<=h:=by omega
    have I:h<=cap:=by omega
    have G:¬h=i:=by omega
    have k5:h-i=e:=by omega
    by_cases F:i=0
    ·subst F;simp[go_sem,I,G,k5,iN]
    ·simp[go_sem,k2,I,G,k5,iN,F]
   have hx:lK (some ⟨b,off+i,none⟩) e e=chV b off N k:=by unfold chV;rw[<-hi,<-O,<-Z]
   have HK:=hid (show k<(N+9)/10 by omega);have HX:=hid hx;clear O Z hh hi hx
   gi_wp2_with fail
   gi_quiet (fail)
   have a0:Arr (wr.drewN nq) z 27 [.slice (some ⟨b,off,none⟩) N cap]:=A;have a4:Arr (wr.drewN nq) (z+1) 3 [.int .i64 10]:=E;have a1:=aR2 HJ.out H nq;have a5:W.heap.size<=(wr.drewN nq).heap.size:=a3;generalize wr.drewN nq=W2 at*
   obtain⟨fn,tmps,assign,body,hy,hR⟩:=HY.out _ (chV b off N k) W2 a1 ⟨_,aR3 HK.out⟩;rw[<-HX.out] at hy;rw[<-aR1 HK.out] at hR;have d0:=a0.cell (i:=0) rfl;clear c0 c1 A E H a1
   gi_wp2_with fail
   refine hR.mono ?_;rintro e2 W3 ⟨rfl,a6,T⟩
   ·have a7:=T.arr a0 (.inl rfl);have a2:=T.arr a4 (.inr rfl);have d1:=a2.cell (i:=0) rfl;have a8:=aW a5 T.1
    gi_wp2_with fail
    have M:=HG.out;have hi:=Y.out
    gi_roundg ((N+9)/10-(k+1))
    case measure=>omega
    case rel=>exact⟨k+1,i+10,hid (by omega),by omega,rfl,by go_num,a6,a8,a7,a2⟩
  ·have u1:decide ((i:Int)<(N:Int))=false:=decide_eq_false (by omega);rw[cS (by rw[zY];omega)] at H;clear hi
   gi_wp2_with fail
   refine⟨rfl,_,qX rfl _ _ _,⟨_,rfl⟩,H⟩
theorem aSc {P:Program} {t e F:Nat} {z:Value} (E:ElT P t e F z) {w:World} (H:TypeId) (d:Nat) (v:Value) (xs:List Value) (I:Ow w d e v xs) (g:Nat) (u:Value) (O:w.cell? ⟨g,0,none⟩=some u) (T:u.oneCell'=true) (J:(xs.length+1)*F<=140737488355328) (L:d<=w.heap.size):
  ∃A w',(tT #[t,t] H #[v,.slice (some ⟨g,0,none⟩) 1 1]).run P w=.ok A w'/\Ow w' d e A (xs++[u])/\Below d w w'/\w.grownBy w' v.ownBlock:=by
 obtain⟨i,hi,U,V,Y⟩:=E.info;have Z:z.cells.size=1:=by rw[E.cells];rfl
 have a0:=E.pos;have hn:xs.length+1<=140737488355328:=aW (Nat.le_mul_of_pos_right _ a0) J;obtain⟨A,w',q1,q2,M,_⟩:=run_append_own (P:=P) w d t H e i z 1 F E.under hi U V Y Z (by decide) v xs.length xs I ⟨g,0,none⟩ 1 1 [u] rfl (fun j u' G=>by
  cases j with
  |zero=>simp at G;subst G;simpa [iN] using O
  |succ j=>simp at G) (by simpa using T) (by simp only[maxLen];omega) J L
 exact⟨A,w',q1,by unfold Ow;rw[aL];exact q2,rC I M L,M⟩
theorem Ow.keptB {w w':World} {B e:Nat} {v:Value} {xs:List Value} {row:Option Nat} (h:Ow w B e v xs) (z:w.grownBy w' row) (A:∀r,row=some r->∃o:Obj,w.heap[r]? =some o/\o.isCells=false):Ow w' B e v xs:=by
 refine Ow.kept h z ?_;rcases h.2 with⟨rfl,_⟩|⟨g,cap,G,rfl,_,E,_⟩
 ·exact .inl rfl
 ·refine .inr (fun e=>?_);obtain⟨o,d,F⟩:=A g e.symm;rw[E] at d;obtain rfl:=bW d;exact Bool.noConfusion F
theorem aSd {w:World} {b off cap:Nat} {m:List Int} (A:b<w.heap.size) (E:∀j x,m[j]? =some x->w.cell? ⟨b,off+j,none⟩=some (.int .i64 x)) (G:m.length<=cap) (H:cap<=maxLen) {i:Nat} (_:i<(m.length+9)/10):
  RdI w (chV b off m.length i) ((m.drop (10*i)).take 10):=by
 have d:((m.drop (10*i)).take 10).length=min 10 (m.length-10*i):=by rw[aX,cI]
 refine⟨_,_,by rw[d];rfl,by rw[d];exact aA _,by omega,.inr ⟨b,off+10*i,rfl,A,fun j F=>?_⟩⟩;rw[bJ,d] at F;have z:m[10*i+j]? =some m[10*i+j]:=aN (by omega);rw[Nat.add_assoc,E _ _ z,aV,dY,mB (by omega),gR,z];rfl
def aSe (O z:Nat) (m:List Int) (k:Nat) (W A w d:World):Prop:=
 KeepsFrom A.heap.size W d/\KpA z W d/\(∃v xs,Arr d O 63 [v]/\Ow d (z+1+1) 27 v xs/\fE d (z+1+1) xs ((cK m).take k)/\z+1+1<=d.heap.size)/\Below O w d
theorem aSf (O z:Nat) (L:List Value) (x:Value) (m g:List Int) (W w1 w:World) {M:Option Addr} {T:Nat} {xs:List Value} (hO:Arr W O 63 [.slice M xs.length T]) (hv:Ow W (z+1+1) 27 (.slice M xs.length T) xs)
  (hx:fE W (z+1+1) xs ((cK m).take L.length)) (a8:z+1+1<=W.heap.size) (a9:Below O w W) (b2:O<z) (hz:w1.heap.size=z+1+1) (hg:(cK m).take (L++[x]).length=(cK m).take L.length++[g]) (b0:(xs.length+1)*24<=140737488355328)
  (A:World) (H:Below W.heap.size W A) (E:Option Addr) (F G:Nat) (ho:OwI A W.heap.size (.slice E F G) g):
  ∃(I:Option Addr) (n3 J:Nat) (d:World),(tT #[63,63] 63 #[.slice M xs.length T,.slice (some ⟨A.heap.size,0,none⟩) 1 1]).run Tryz.prog (A.alloc (.cells #[.slice E F G] 27))=.ok (.slice I n3 J) d/\
   d.cell? ⟨O,0,none⟩=some (.slice M xs.length T)/\d.frozen? ⟨O,0,none⟩=false/\aSe O z m (L++[x]).length W w1 w (d.setCell ⟨O,0,none⟩ (.slice I n3 J)):=by
 have b3:=H.size;obtain⟨o,a5⟩:∃o:Obj,o=.cells #[.slice E F G] 27:=⟨_,rfl⟩;have U:=(hv.below H (aA _)).alloc o;obtain⟨v3,d,q1,Z,q3,q4⟩:=aSc wK (w:=A.alloc o) 63 (z+1+1) _ xs U A.heap.size (.slice E F G) (by rw[a5];exact bS _ _ _) rfl b0 (by simp;omega);rw[<-a5];obtain⟨I,J,rfl,-⟩:=Z.rd;have a0:=((hO.below H hO.lt).alloc o).below q3 (by omega);have a1:Below W.heap.size W (A.alloc o):=H.alloc (by omega) o;have a4:Below (z+1+1) W d:=(a1.mono (by omega)).trans q3;have b4:=a4.size
 have a6:∀{B:Nat} {u:Value} {ys:List Value} {e:Nat},Ow d (z+1+1) e u ys->u.ownBlock=none\/u.ownBlock≠some O:=fun h=>iL h (by omega)
 have a7:=eM d O 0 (.slice I (xs++[lK E F G]).length J);refine⟨I,_,J,d,q1,a0.cell (i:=0) rfl,a0.free 0,?_,?_,⟨_,xs++[.slice E F G],a0.set 0 _,Ow.kept Z a7 (a6 (B:=0) Z),?_,by simp;omega⟩,?_⟩
 ·refine KeepsOthers.from ?_ _;refine KeepsOthers.trans ?_ (iH _ _ _);refine KeepsOthers.trans (B:=A.alloc o) ⟨a1.size,fun k q hk _=>(a1.block k (gQ.1 hk).1).trans hk⟩ ?_;refine KeepsOthers.of_grownBy q4 (fun j q V Y=>?_);rcases U.2 with⟨e,_⟩|⟨gg,cap,b5,e,_,b1,_⟩
  ·rw[e] at V;cases V
  ·rw[e] at V;obtain rfl:=bW V;rw[b1] at Y;obtain rfl:=bW Y;rfl
 ·refine⟨by simp;omega,fun k q hk Y _=>?_⟩;rw[kT d ⟨O,0,none⟩ k _ (by simp;omega)];exact(a4.block k (by omega)).trans Y
 ·rw[hg];refine fE.map (B:=z+1+1) (w:=d) ?_ (fun x g k=>Ow.kept k a7 (a6 (B:=0) k));refine fE.snoc (((hx.below H).alloc o).app U q4) ?_;exact Ow.base (Ow.kept (OwI.alloc ho o) q4 (qO (OwI.alloc ho o) U (by decide))) a8
 ·exact(a9.trans (a4.mono (by omega))).setCell (p:=⟨O,0,none⟩) (aA _) _
theorem aSg (n:Nat) (hn:3<=n) (v:Value) (m:List Int) (w:World) (M:RdI w v m) (h0:0<m.length) (hm:m.length<=1000000):
  CallsIn eA n Tryz.prog 35 #[v] w fun e w'=>∃v' xs,e=.returned v'/\Ow w' w.heap.size 27 v' xs/\fE w' w.heap.size xs (cK m)/\Below w.heap.size w w':=by
 have h1:1<=n:=by omega
 obtain⟨a,I,rfl,b5,c9,hA⟩:=M.open;obtain⟨b,off,rfl,hb,hc⟩:=hA h0;have HC:=hid (fun(W:World) (hW:Below w.heap.size w W) (i:Nat) (hi:i<(m.length+9)/10)=>aSd (w:=W) (cap:=I) (dR hb hW.size) (fun j x hj=>(hW.cell (p:=⟨b,off+j,none⟩) hb).trans (hc j x hj)) b5 c9 hi);have H:=Arr.new w 63 [.slice none 0 0];have a4:=bD (aB _ w) (.cells #[.slice none 0 0] 63);have b6:(w.alloc (.cells #[.slice none 0 0] 63)).heap.size=w.heap.size+1:=by simp
 clear M hA hc;refine xX Tryz.func35 rfl trivial ?_ rfl;simp only[Tryz.ntmps35,mY,cR,cX,lZ,mZ,lL,lM,lN,lO,iG,gE]
 gi_wp2_with fail
 refine⟨trivial,(callsIn_wide.2 (aRd _ _ _ _)).mono ?_⟩;rintro e w' ⟨rfl,rfl⟩
 gi_wp2_with fail
 generalize w.alloc (.cells #[.slice none 0 0] 63)=T at*
 have a9:=(Arr.new T 27 [.slice (some ⟨b,off,none⟩) m.length I]).alloc (.cells #[.int .i64 10] 3);have b7:Arr ((T.alloc (.cells #[.slice (some ⟨b,off,none⟩) m.length I] 27)).alloc (.cells #[.int .i64 10] 3)) (T.heap.size+1) 3 [.int .i64 10]:=by
  rw[show T.heap.size+1=(T.alloc (.cells #[.slice (some ⟨b,off,none⟩) m.length I] 27)).heap.size by simp];exact Arr.new _ _ _
 change Arr ((T.alloc (.cells #[.slice (some ⟨b,off,none⟩) m.length I] 27)).alloc (.cells #[.int .i64 10] 3)) _ _ _ at a9;have H:=(H.alloc (.cells #[.slice (some ⟨b,off,none⟩) m.length I] 27)).alloc (.cells #[.int .i64 10] 3);have a4:=(a4.alloc (o:=.cells #[.slice (some ⟨b,off,none⟩) m.length I] 27) (by omega)).alloc (o:=.cells #[.int .i64 10] 3) (by simp;omega);have hz:((T.alloc (.cells #[.slice (some ⟨b,off,none⟩) m.length I] 27)).alloc (.cells #[.int .i64 10] 3)).heap.size=T.heap.size+1+1:=by simp
 generalize (T.alloc (.cells #[.slice (some ⟨b,off,none⟩) m.length I] 27)).alloc (.cells #[.int .i64 10] 3)=w1 at*
 obtain⟨O,a5⟩:∃O,O=w.heap.size:=⟨_,rfl⟩;obtain⟨z,a6⟩:∃z,z=w.heap.size+1:=⟨_,rfl⟩;rw[b6,<-a6] at a9 b7 hz;rw[<-a6,<-a5];rw[<-a5] at H a4 a6 HC hb;have HO:=hid a5;have d1:O<z:=by omega
 clear a5 a6 b6;refine MO (w0:=w1) (Bs:=z) h1 (gf:=150) (lb:=#[.pointer (some ⟨z,0,none⟩),.pointer (some ⟨z+1,0,none⟩)]) rfl (enters_of Tryz.func150 (by kernel_rfl) rfl)
  (aR4 (n-1) (by omega) z b off I m.length b5 hm w1 a9 b7) (fun h k=>h.trans k) (KpA.put (by omega)) (aB _ _) (fun _=>rfl) (by omega)
  (fun G W=>(∃v xs,Arr W O 63 [v]/\Ow W (z+1+1) 27 v xs/\fE W (z+1+1) xs ((cK m).take G.length)/\z+1+1<=W.heap.size)/\Below O w W)
  (OwnFrom.and (Own.from (fun s A B row hs U M=>by
   obtain⟨v,xs,k1,k2,k3,k4⟩:=hs;exact⟨v,xs,k1.keptB U M,k2.keptB U M,k3.map (fun x g k=>Ow.keptB k U M),aW k4 U.size⟩) _) (ownFrom_below (by rw[HO.out];exact aA _) (by omega)))
  (fun G A v ⟨⟨u,xs,k1,k2,k3,k4⟩,k6⟩=>⟨⟨u,xs,k1.other ⟨z,0,none⟩ (by simp;omega) v,Ow.kept k2 (eM A z 0 v) (iL k2 (by omega)),k3.map (fun x g k=>Ow.kept k (eM A z 0 v) (iL k (by omega))),by simpa using k4⟩,k6.setCell (p:=⟨z,0,none⟩) (by show O<=z;omega) _⟩)
  ⟨⟨_,[],H,Ow.nil _ _ _,fE.nil _ _,by omega⟩,a4⟩
  (fun x=>{tmps:=#[.slice (some ⟨b,off,none⟩) m.length I,undef,.pointer (some ⟨O,0,none⟩),x,.slice (some ⟨b,off,none⟩) m.length I,.func (.func 150) #[] #[.pointer (some ⟨z,0,none⟩),.pointer (some ⟨z+1,0,none⟩)],x,undef,undef,undef,undef,undef,undef],defers:=[]}) ?assign ?body ?done
 case assign=>
  intro l x W K d
  gi_wp2
  exact d
 case body=>
  rintro l G x W ⟨⟨v,xs,H,V,Z,b8⟩,a7⟩ ⟨r,M⟩;have b9:=congrArg List.length M;rw[zY,aL,cR] at b9;have hi:G.length<(m.length+9)/10:=by omega
  have c1:x=chV b off m.length G.length:=by
   have e1:(G++x::r)[G.length]? =some x:=by rw[jY (aA _),oI];rfl
   rw[M,aBf hi] at e1;exact(bW e1).symm
  have b0:=HC.out W a7 _ hi;rw[<-c1] at b0;have c4:=hid (show(cK m).take (G++[x]).length=(cK m).take G.length++[(m.drop (10*G.length)).take 10] by
   rw[aL,fK,cQ,wH m _ hi];rfl)
  have c5:0<((m.drop (10*G.length)).take 10).length:=by rw[aX,cI];omega
  have b1:((m.drop (10*G.length)).take 10).length<=10:=by rw[aX];omega
  obtain⟨g,U⟩:∃g,g=(m.drop (10*G.length)).take 10:=⟨_,rfl⟩;rw[<-U] at b0 c4 c5 b1;have d2:xs.length=G.length:=by rw[Z.1,aX,iD];omega
  have c6:(xs.length+1)*24<=140737488355328:=by omega
  have c7:=fun(W':World) (h:Below W.heap.size W W')=>aA3 x g W' (b0.below h) c5 (by omega)
  obtain⟨J,L,b2,-⟩:=V.rd;subst b2;have b3:=hid (fun(E:World) (a0:Below W.heap.size W E) (a2:Option Addr) (n2 c2:Nat) (B2:Nat) (d3:B2=W.heap.size) (Y:OwI E B2 (.slice a2 n2 c2) g)=>aSf O z G x m g W w1 w H V Z b8 a7 d1 hz c4.out c6 E a0 a2 n2 c2 (d3▸Y));obtain⟨F,a1⟩:∃F,F=xs.length:=⟨_,rfl⟩;rw[<-a1] at b3 H;have c0:=H.cell (i:=0) rfl;clear a1 b9 hi c1 U d2 c6 V Z M H
  gi_wp2_with fail
  refine aAf (by omega) (fun _=>True) (by kernel_rfl) (fun⟨_,_,h⟩=>(h:False).elim) (by kernel_rfl) ?_;have hT:True:=trivial;refine wpAnyH_take (i:=1) (oi:=?oi1) (v:=?v1) ?hi1 (by kernel_rfl) (by kernel_rfl) (by kernel_rfl) ?hq1 ?hy1 (by assumption) ?_
  case hi1=>(simp only[List.getElem?_toArray,List.getElem?_cons_succ,List.getElem?_cons_zero];rfl)
  case hq1=>exact fun _ _ _ h=>h
  case hy1=>(refine Or.inl ⟨by rfl,?_⟩;intro w' d4;(try dsimp only at d4);(try go_simp);try with_reducible rfl)
  try simp only[aJ,aK,aH,aG]
  refine fL (rs:=[0,2]) (by kernel_rfl) (by simp) ?_;refine fA rfl (fun K d=>?_) (fA rfl (fun K d=>?_) fM)
  ·go_simp;refine d.out _ _ trivial (fun _=>?_)
   try simp only[aJ,aK,aH,aG]
   clear d K;refine fL (rs:=[2]) (by kernel_rfl) (by simp) ?_;refine fA rfl (fun K d=>?_) fM;go_simp;refine(c7 W.drew (aB _ W).drew).mono ?_;rintro e E ⟨v2,rfl,Y,a0⟩;obtain⟨a2,c2,rfl,-⟩:=(OwI.rd Y).open;have a8:Below W.heap.size W E:=(aB _ W).drew.trans a0;obtain⟨a3,n3,c3,w3,q1,d0,fd,hP⟩:=b3.out E a8 _ _ _ _ rfl Y;refine d.out _ _ trivial (fun _=>?_)
   try simp only[aJ,aK,aH,aG]
   clear d K;refine fL (rs:=[3]) (by kernel_rfl) (by simp) ?_;refine fA rfl (fun K d=>?_) fM;go_simp;refine d.out _ _ trivial (fun _=>?_)
   try simp only[aJ,aK,aH,aG]
   clear d K;refine fL (rs:=[4]) (by kernel_rfl) (by simp) ?_;refine fA rfl (fun K d=>?_) fM;refine xC rfl (.tmp 7) (.tmp 10) 63 rfl (.slice J F L) (.slice (some ⟨E.heap.size,0,none⟩) 1 1) (.slice a3 n3 c3) w3 (by simp[qC]) (by simp[qC]) q1 ?_;refine d.out _ _ trivial (fun _=>?_)
   try simp only[aJ]
   clear d K;refine fL (rs:=[5]) (by kernel_rfl) (by simp) ?_;refine fA rfl (fun K d=>?_) fM;go_simp;refine d.out _ _ trivial (fun _=>?_)
   try simp only[aJ,aK,aH,aG]
   clear d K;refine pY (by kernel_rfl) ?_ _
   gi_wp2_with fail
   exact hP
  ·go_simp;refine(c7 W.drew (aB _ W).drew).mono ?_;rintro e E ⟨v2,rfl,Y,a0⟩;obtain⟨a2,c2,rfl,-⟩:=(OwI.rd Y).open;have a8:Below W.heap.size W E:=(aB _ W).drew.trans a0;obtain⟨a3,n3,c3,w3,q1,d0,fd,hP⟩:=b3.out E a8 _ _ _ _ rfl Y;have c8:E.cell? ⟨O,0,none⟩=some (.slice J F L):=(a8.cell (p:=⟨O,0,none⟩) (iO W _ c0)).trans c0;refine d.out _ _ trivial (fun _=>?_)
   try simp only[aJ,aK,aH,aG]
   clear d K;have d7:(E.alloc (.cells #[.slice a2 g.length c2] 27)).cell? ⟨O,0,none⟩=some (.slice J F L):=((bD (aB _ E) (.cells #[.slice a2 g.length c2] 27)).cell (p:=⟨O,0,none⟩) (iO E _ c8)).trans c8;refine fL (rs:=[0,3]) (by kernel_rfl) (by simp) ?_;refine fA rfl (fun K d=>?_) (fA rfl (fun K d=>?_) fM)
   ·go_simp;refine d.out _ _ trivial (fun _=>?_)
    try simp only[aJ,aK,aH,aG]
    clear d K;refine fL (rs:=[3]) (by kernel_rfl) (by simp) ?_;refine fA rfl (fun K d=>?_) fM;go_simp;refine d.out _ _ trivial (fun _=>?_)
    try simp only[aJ,aK,aH,aG]
    clear d K;refine fL (rs:=[4]) (by kernel_rfl) (by simp) ?_;refine fA rfl (fun K d=>?_) fM;refine xC rfl (.tmp 7) (.tmp 10) 63 rfl (.slice J F L) (.slice (some ⟨E.heap.size,0,none⟩) 1 1) (.slice a3 n3 c3) w3 (by simp[qC]) (by simp[qC]) q1 ?_;refine d.out _ _ trivial (fun _=>?_)
    try simp only[aJ]
    clear d K;refine fL (rs:=[5]) (by kernel_rfl) (by simp) ?_;refine fA rfl (fun K d=>?_) fM;go_simp;refine d.out _ _ trivial (fun _=>?_)
    try simp only[aJ,aK,aH,aG]
    clear d K;refine pY (by kernel_rfl) ?_ _
    gi_wp2_with fail
    exact hP
   ·go_simp;refine d.out _ _ trivial (fun _=>?_)
    try simp only[aJ,aK,aH,aG]
    clear d K;refine fL (rs:=[0]) (by kernel_rfl) (by simp) ?_;refine fA rfl (fun K d=>?_) fM;go_simp;refine d.out _ _ trivial (fun _=>?_)
    try simp only[aJ,aK,aH,aG]
    clear d K;refine fL (rs:=[4]) (by kernel_rfl) (by simp) ?_;refine fA rfl (fun K d=>?_) fM;refine xC rfl (.tmp 7) (.tmp 10) 63 rfl (.slice J F L) (.slice (some ⟨E.heap.size,0,none⟩) 1 1) (.slice a3 n3 c3) w3 (by simp[qC]) (by simp[qC]) q1 ?_;refine d.out _ _ trivial (fun _=>?_)
    try simp only[aJ]
    clear d K;refine fL (rs:=[5]) (by kernel_rfl) (by simp) ?_;refine fA rfl (fun K d=>?_) fM;go_simp;refine d.out _ _ trivial (fun _=>?_)
    try simp only[aJ,aK,aH,aG]
    clear d K;refine pY (by kernel_rfl) ?_ _
    gi_wp2_with fail
    exact hP
 case done=>
  rintro D W hD ⟨⟨v,xs,H,V,Z,b8⟩,a7⟩ d;rw[cS (by rw[iD,zY];exact aA _)] at Z;obtain⟨J,L,b2,-⟩:=V.rd;subst b2;have c0:=H.cell (i:=0) rfl;have f0:=H.free 0;obtain⟨F,a1⟩:∃F,F=xs.length:=⟨_,rfl⟩;rw[<-a1] at c0 H V;clear a1
  gi_wp2_with fail
  have b4:=(iH W ⟨O,0,none⟩ (.slice J F L)).same D _ d rfl;refine⟨by simp,.inl ⟨_,_,rfl,sJ b4,?_⟩⟩;have d5:=((H.set 0 (.slice J F L)).grown (mC _ D (.deferred none)) (by simp;omega)).cell (i:=0) rfl;refine⟨.slice J F L,?_,?_⟩
  ·simp[results,Tryz.f35,go_sem,d5]
  ·have b1:=eM W O 0 (.slice J F L);have d6:∀r,some D=some r->∃o:Obj,(W.setCell ⟨O,0,none⟩ (.slice J F L)).heap[r]? =some o/\o.isCells=false:=fun r e=>by cases e;exact⟨_,b4,rfl⟩
   have hk:∀{e:Nat} {u:Value} {ys:List Value},Ow W (z+1+1) e u ys->Ow ((W.setCell ⟨O,0,none⟩ (.slice J F L)).putObj D (.deferred none)) w.heap.size e u ys:=fun h=>
    Ow.base (Ow.keptB (Ow.kept h b1 (iL h (by omega))) (mC _ D (.deferred none)) d6) (by rw[<-HO.out];omega)
   refine⟨_,xs,rfl,hk V,Z.map (fun x g k=>hk k),?_⟩;rw[<-HO.out];exact(a7.setCell (p:=⟨O,0,none⟩) (aA _) _).trans (pJ (w:=w1) (by omega) _ D _ _ hD b4 rfl rfl)
theorem aBi (v:Value) (m:List Int) (w:World) (z:RdI w v m) (A:0<m.length) (E:m.length<=1000000):
  Calls Tryz.prog 35 #[v] w fun e w'=>∃d xs,e=.returned d/\Ow w' w.heap.size 27 d xs/\fE w' w.heap.size xs (cK m)/\Below w.heap.size w w':=
 callsIn_wide.1 (aSg 3 (aA _) v m w z A E)
end
section
open Go.RowKit Go Go.Shelf
def jP (d z:Nat) (A B:World):Prop:=A.heap.size<=B.heap.size/\∀k,k<A.heap.size->k≠d->k≠z->B.heap[k]? =A.heap[k]?
theorem jP.refl (d z:Nat) (A:World):jP d z A A:=⟨aA _,fun _ _ _ _=>rfl⟩
theorem jP.trans {d z:Nat} {A B C:World} (h:jP d z A B) (k:jP d z B C):jP d z A C:=⟨aW h.1 k.1,fun i hi E F=>(k.2 i (dR hi h.1) E F).trans (h.2 i hi E F)⟩
theorem jP.set0 {d z:Nat} (A:World) (i:Nat) (v:Value):jP d z A (A.setCell ⟨d,i,none⟩ v):=⟨by simp,fun k _ E _=>kT A ⟨d,i,none⟩ k v E⟩
theorem jP.set1 {z d:Nat} (A:World) (i:Nat) (v:Value):jP z d A (A.setCell ⟨d,i,none⟩ v):=⟨by simp,fun k _ _ E=>kT A ⟨d,i,none⟩ k v E⟩
theorem jP.cell {d z:Nat} {A B:World} (h:jP d z A B) {b o:Nat} {v:Value} (E:A.cell? ⟨b,o,none⟩=some v) (F:b≠d) (G:b≠z):B.cell? ⟨b,o,none⟩=some v:=by
 rw[<-E];exact World.cell?_of_block (h.2 b (iO A _ E) F G)
theorem jP.arr {d z:Nat} {A B:World} (h:jP d z A B) {b e:Nat} {l:List Value} (E:Arr A b e l) (F:b≠d) (G:b≠z):Arr B b e l:=(h.2 b E.lt F G).trans E
theorem jP.ow {z E:Nat} {A B:World} (h:jP z E A B) {d e:Nat} {v:Value} {xs:List Value} (F:Ow A d e v xs) (M:z<d) (O:E<d):Ow B d e v xs:=by
 refine⟨F.1,?_⟩;rcases F.2 with H|⟨g,cap,I,J,L,G,rest⟩
 ·exact .inl H
 ·exact .inr ⟨g,cap,I,J,L,(h.2 g (gQ.1 G).1 (by omega) (by omega)).trans G,rest⟩
def Wts (w A:World) (n:Nat) (d z bx:Nat):Prop:=
 Arr A d 3 (bB n (.int .i64 0))/\Arr A z 3 (bB n (.int .i64 0))/\Arr A bx 132 [.slice (some ⟨d,0,none⟩) n n,.slice (some ⟨z,0,none⟩) n n]/\
  d≠z/\bx≠d/\bx≠z/\w.heap.size<=d/\w.heap.size<=z/\Below w.heap.size w A
def LF (w:World) (B:Nat) (xs:List Value) (gs:List (List Int)):Prop:=xs.length=gs.length/\∀(j:Nat) (x:Value) (g:List Int),xs[j]? =some x->gs[j]? =some g->kS w B x g
theorem LF.nil (w:World) (B:Nat):LF w B [] []:=⟨rfl,fun j x g h=>by simp at h⟩
theorem LF.map {w w':World} {B B':Nat} {xs:List Value} {gs:List (List Int)} (h:LF w B xs gs) (k:∀(x:Value) (g:List Int),kS w B x g->kS w' B' x g):LF w' B' xs gs:=⟨h.1,fun j x g d z=>k x g (h.2 j x g d z)⟩
theorem LF.below {w w':World} {B:Nat} {xs:List Value} {gs:List (List Int)} (h:LF w B xs gs) (d:Below w.heap.size w w'):LF w' B xs gs:=h.map (fun _ _ k=>k.below d)
theorem LF.snoc {w:World} {B:Nat} {xs:List Value} {gs:List (List Int)} (h:LF w B xs gs) {x:Value} {g:List Int} (A:kS w B x g):LF w B (xs++[x]) (gs++[g]):=by
 refine⟨by simp[h.1],fun j y l d z=>?_⟩;rcases Nat.lt_trichotomy j xs.length with k|k|k
 ·rw[gS k] at d;rw[gS (by rw[<-h.1];exact k)] at z;exact h.2 j y l d z
 ·subst k;rw[jY (aA _),oI] at d;rw[h.1,jY (aA _),oI] at z;obtain rfl:=bW d;obtain rfl:=bW z;exact A
 ·rw[dL (by simp;omega)] at d;cases d
theorem kS.kept {w w':World} {B B':Nat} {v u:Value} {l:List Int} {z:List Value} (h:kS w B v l) (A:Ow w B' 27 u z) (E:w.grownBy w' u.ownBlock):kS w' B v l:=by
 obtain⟨b,R,e,F,d⟩:=h;exact⟨b,R,e,F,d.grown E (DF d A (by decide))⟩
theorem kS.one {w:World} {B:Nat} {v:Value} {l:List Int} (h:kS w B v l):v.oneCell'=true:=by
 obtain⟨b,R,e,_,_⟩:=h;rw[e];rfl
theorem aSh (w:World) (d z A:Obj):(((w.alloc d).alloc z).alloc A).drew.heap[w.heap.size]? =some d/\(((w.alloc d).alloc z).alloc A).drew.heap[w.heap.size+1]? =some z/\(((w.alloc d).alloc z).alloc A).drew.heap[w.heap.size+1+1]? =some A/\Below w.heap.size w (((w.alloc d).alloc z).alloc A).drew:=by
 have E:(w.alloc d).heap.size=w.heap.size+1:=by simp
 have F:((w.alloc d).alloc z).heap.size=w.heap.size+1+1:=by simp
 refine⟨?_,?_,?_,(bD (bD (bD (aB _ _) _) _) _).drew⟩
 ·show(((w.alloc d).alloc z).alloc A).heap[w.heap.size]? =_;rw[oF _ _ _ (by omega),oF _ _ _ (by omega)];exact FL w d
 ·show(((w.alloc d).alloc z).alloc A).heap[w.heap.size+1]? =_;rw[oF _ _ _ (by omega),<-E];exact FL _ z
 ·show(((w.alloc d).alloc z).alloc A).heap[w.heap.size+1+1]? =_;rw[<-F];exact FL _ A
theorem aSi (x y:Value) (w:World):(tV 132 (.agg #[x,y]) (.int .i64 0)).run Tryz.prog w=.ok x w:=by
 simp[tV,sI Tryz.underlying132,asIntOf,part,isAgg,sI Tryz.underlying27,jB]
theorem aSj (x y:Value) (w:World):(tV 132 (.agg #[x,y]) (.int .i64 1)).run Tryz.prog w=.ok y w:=by
 simp[tV,sI Tryz.underlying132,asIntOf,part,isAgg,sI Tryz.underlying27,jB]
theorem aSk (v:Value) (m:List Int) (n:Nat) (w:World) (hr:RdI w v m) (m0:0<m.length) (hm:m.length<=20000) (h2:2<=n) (b3:n<=258) (z:∀x∈m,0<=x/\x<(n:Int)):
  Calls Tryz.prog 29 #[v,.int .i64 (n:Int)] w fun e w'=>TH w w' m n e:=by
 have i1:=hid (tB (which:=0) h2 b3 z hm);have i2:=hid (tB (which:=1) h2 b3 z hm);have d4:=hid (rQ (which:=0) h2 b3 z hm).2;have d5:=hid (rQ (which:=1) h2 b3 z hm).2;have HX:=hid z;have i3:=ZJ v m n w hr z;obtain⟨a,ca,rfl,q3,q4,hA⟩:=hr.open;have t1:decide ((n:Int)<2)=false:=decide_eq_false (by omega);have t2:decide ((n:Int)>258)=false:=decide_eq_false (by omega);have t3:decide (258<(n:Int))=false:=decide_eq_false (by omega);have t4:((m.length:Int)==0)=false:=by rw[beq_eq_false_iff_ne];omega
 have t5:decide ((m.length:Int)>1048576)=false:=decide_eq_false (by omega);have t6:decide (1048576<(m.length:Int))=false:=decide_eq_false (by omega);have t7:(m.length==0)=false:=by rw[beq_eq_false_iff_ne];omega
 have m3:∀W:World,(Instr.makeSlice 27 (.int .i64 (n:Int)) (.int .i64 (n:Int))).run Tryz.prog W=.ok (.slice (some ⟨W.heap.size,0,none⟩) n n) (W.alloc (.cells (fB (.int .i64 0) n) 3)):=fun W=>by
  obtain⟨i,hi,hz,e2,e3⟩:=gL.info;have hb:(i.bytes:Int)*(n:Int)<=281474976710656:=by rw[e3];omega
  have:=run_make (P:=Tryz.prog) W 27 3 i (.int .i64 0) gL.under hi hz .i64 .i64 (n:Int) (n:Int) (by omega) (Int.le_refl _) hb (by omega);rw[e2,sE,eG,gL.cells,show madeCells #[bO .i64 0] n=fB (.int .i64 0) n from by rw[fB,<-toList_madeCells_one]] at this;exact this
 have i4:=fun W (h:RdI W (.slice a m.length ca) m)=>aBi (.slice a m.length ca) m W h m0 (by omega)
 have m4:=hid i4;clear hA z i4;go_enter Tryz.func29,Tryz.ntmps29;go_wp2_with fail;refine i3.mono ?_;rintro e w1 ⟨rfl,b5⟩;have b6:=hr.below b5;clear i3 hr;go_wp2_with fail
 go_cut [7] (fun c7 wx=>∃J L bx,c7=.pointer (some ⟨bx,0,none⟩)/\Wts w1 wx n J L bx)
 case first=>
  go_region
  all_goals
   go_wp2_with fail;go_meet;obtain⟨k1,k2,k3,k4⟩:=aSh w1 _ _ _
   first
    |exact⟨_,_,_,rfl,k1,k2,k3,by omega,by omega,by omega,by omega,by omega,k4⟩
    |exact⟨_,_,_,rfl,k2,k1,k3,by omega,by omega,by omega,by omega,by omega,k4⟩
    |exact⟨_,_,_,rfl,k1,k3,k2,by omega,by omega,by omega,by omega,by omega,k4⟩
    |exact⟨_,_,_,rfl,k3,k1,k2,by omega,by omega,by omega,by omega,by omega,k4⟩
    |exact⟨_,_,_,rfl,k2,k3,k1,by omega,by omega,by omega,by omega,by omega,k4⟩
    |exact⟨_,_,_,rfl,k3,k2,k1,by omega,by omega,by omega,by omega,by omega,k4⟩
 case rest=>
  obtain⟨J,L,bx,rfl,H,I,b7,q5,i5,i6,f0,f1,f3⟩:=hcut;have i7:=b6.below f3;have M:=bV b5 f3;have e0:∀wh,bB n (bO .i64 0)=(dJ m n wh 0).map (bO .i64):=fun wh=>by show _=(bB n (0:Int)).map _;rw[List.map_replicate]
  rw[e0 0] at H;rw[e0 1] at I;have d6:J<wc.heap.size:=H.lt;have d7:L<wc.heap.size:=I.lt;have i8:bx<wc.heap.size:=b7.lt;have f0:w.heap.size<=J:=aW b5.size f0;have f1:w.heap.size<=L:=aW b5.size f1;clear m3 e0 b6 f3 b5;go_wp2_with fail;refine(m4.out _ i7).mono ?_;rintro e w5 ⟨v8,gs,rfl,a0,a1,a8⟩;have m5:=a8.size;have H:=H.below a8 d6;have I:=I.below a8 d7;have b7:=b7.below a8 i8;have M:=M.trans (a8.mono M.size);obtain⟨BB,i9⟩:∃BB,BB=wc.heap.size:=⟨_,rfl⟩;rw[<-i9] at a0 a1 d6 d7 i8 m5;have b9:gs.length=(m.length+9)/10:=by rw[a1.1,iD]
  obtain⟨b8,o8,c8,rfl⟩:=Ow.openN a0 (by omega);have q6:=(Ow.lt a0 b8 rfl).1;obtain⟨G,hG⟩:∃G,G=gs.length:=⟨_,rfl⟩;have j0:=hid (hG.trans b9);rw[<-hG];have q7:G<=2001:=by omega
  have f4:=hid (fun wh k U=>(wI m n wh HX.out k U).2.2);have c0:=hid (fun wh=>rP m n wh);have f5:=hid (fun wh k x (h:m[k]? =some x)=>TE (n:=n) (wh:=wh) h);have j1:=hid a0;have f6:=hid a1;clear i7 i9 b9 a8 hG a0 a1;go_wp2_with fail
  go_loopg [9,10,12,54,61] G (fun g _s9 _s10 _s12 m7 _s61 wr=>∃i k:Nat,Hid (k=min (10*i) m.length)/\i<=G/\g=G-i/\m7=.int .i64 (i:Int)/\Arr wr J 3 ((dJ m n 0 k).map (bO .i64))/\Arr wr L 3 ((dJ m n 1 k).map (bO .i64))/\jP J L w5 wr/\Below w.heap.size w wr)
  case atStart=>exact⟨0,0,hid (by simp),aU _,rfl,rfl,H,I,jP.refl _ _ _,M⟩
  case round=>
   clear H I M;obtain⟨i,k,HK,hi,F,rfl,H,I,O,M⟩:=hrel;have HG:=hid F;have d8:=j0.out;have U:=HK.out;have a9:=O.arr b7 i5 i6;clear F
   by_cases m8:i<G
   ·have u1:decide ((i:Int)<(G:Int))=true:=decide_eq_true (by omega);have a5:(cK m)[i]? =some ((m.drop (10*i)).take 10):=wH m i (by omega);have m9:k=10*i:=by rw[U];exact gU (by omega)
    clear U HK;subst m9;obtain⟨x,z⟩:∃x,gs[i]? =some x:=⟨_,aN (by rw[f6.out.1,iD];omega)⟩;have d9:=f6.out.2 i x _ z a5;have c1:=O.cell (j1.out.cellAt z) (by omega) (by omega);obtain⟨g,e4⟩:∃g,g=(m.drop (10*i)).take 10:=⟨_,rfl⟩;rw[<-e4] at d9;have b9:g.length=min 10 (m.length-10*i):=by rw[e4,aX,cI]
    have j2:0<g.length:=by omega
    have o0:=hid (fun j (hj:j<g.length)=>show g[j]? =m[10*i+j]? by rw[e4,mB (by omega),gR]);obtain⟨ag,cg,rfl,_,_,j3⟩:=(OwI.rd d9).open;obtain⟨bg,og,rfl,q8,j4⟩:=j3 j2;have q9:=(Ow.lt d9 bg rfl).1;have o1:=hid j4;obtain⟨N,hN⟩:∃N,N=g.length:=⟨_,rfl⟩;rw[<-hN] at c1 j2;have HN:=hid (hN.trans b9);have o2:=hid hN;have r0:N<=10:=by omega
    clear z a5 d9 e4 b9 j3 j4 hN;obtain⟨T,rfl⟩:∃T,T=wr:=⟨_,rfl⟩;go_wp2_with fail
    go_loopg [12,61] N (fun gm _s12 o3 wr=>∃j k:Nat,Hid (k=10*i+j)/\j<=N/\gm=N-j/\o3=.int .i64 (j:Int)/\Arr wr J 3 ((dJ m n 0 k).map (bO .i64))/\Arr wr L 3 ((dJ m n 1 k).map (bO .i64))/\jP J L w5 wr/\Below w.heap.size w wr)
    case atStart=>exact⟨0,10*i,hid (by omega),aU _,rfl,rfl,H,I,O,M⟩
    case round=>
     clear H I O M a9 c1;obtain⟨j,k,HK,hj,F,rfl,H,I,O,M⟩:=hrel;have j5:=hid F;have U:=HK.out;have a9:=O.arr b7 i5 i6;have d0:=a9.cell (i:=0) rfl;have d1:=a9.cell (i:=1) rfl;clear F
     by_cases o4:j<N
     ·have v1:decide ((j:Int)<(N:Int))=true:=decide_eq_true (by omega);have o5:=HN.out;have f7:k<m.length:=by omega
      obtain⟨x,z⟩:=dH f7;have j6:g[j]? =some x:=by rw[o0.out j (by rw[<-o2.out];exact o4),<-U];exact z
      have c1:=O.cell (o1.out j x j6) (by omega) (by omega);have j7:=HX.out x (cH z);have a3:=f5.out 0 k x z;have a4:=f5.out 1 k x z;have j8:k/10=i:=by omega
      rw[j8] at a3 a4;obtain⟨X,rfl⟩:∃X:Nat,x=(X:Int):=⟨x.toNat,by omega⟩;rw[eG] at a3 a4;have q1:(X:Int)<(n:Int):=j7.2;have j9:X<n:=by omega
      have k0:k<=m.length:=by omega
      clear j6 z j8 U j7;rcases Nat.mod_two_eq_zero_or_one i with hp|hp
      ·rw[if_pos hp] at a3;rw[if_neg (by omega)] at a4;have m1:(i:Int).tmod 2=0:=by rw[oJ (by omega)];omega
       have m2:(i:Int)%2=0:=by omega
       have a6:(dJ m n 0 k)[X]? =some ((dJ m n 0 k).getD X 0):=by rw[aV,aN (by rw[c0.out 0 k];exact j9)];rfl
       have f8:=f4.out 0 k k0 _ (cH a6);have c2:=H.cell (i:=X) (v:=.int .i64 ((dJ m n 0 k).getD X 0)) (by rw[dY,a6];rfl);have f2:=H.free X;have HS:=hid (show((dJ m n 0 (k+1)).map (bO .i64))=((dJ m n 0 k).map (bO .i64)).set X (.int .i64 ((dJ m n 0 k).getD X 0+1)) by rw[a3,vF]);have f9:=hid a4;obtain⟨d,hd⟩:∃d,d=(dJ m n 0 k).getD X 0:=⟨_,rfl⟩;rw[<-hd] at c2 f8 HS;have m6:aI.wrap (d+1)=d+1:=by rw[aM];omega
       clear hd a3 a4 a6 hp;go_wp2_with fail;have F:=j5.out;have U:=HK.out
       go_roundg (N-(j+1))
       case measure=>omega
       case rel=>exact⟨j+1,k+1,hid (by omega),by omega,rfl,by go_num,by rw[HS.out];exact H.set X _,by rw[f9.out];exact I.other ⟨J,X,none⟩ (by simp;omega) _,O.trans (jP.set0 _ _ _),M.setCell (p:=⟨J,X,none⟩) f0 _⟩
      ·rw[if_neg (by omega)] at a3;rw[if_pos hp] at a4;have m1:(i:Int).tmod 2=1:=by rw[oJ (by omega)];omega
       have m2:(i:Int)%2=1:=by omega
       have a6:(dJ m n 1 k)[X]? =some ((dJ m n 1 k).getD X 0):=by rw[aV,aN (by rw[c0.out 1 k];exact j9)];rfl
       have f8:=f4.out 1 k k0 _ (cH a6);have c2:=I.cell (i:=X) (v:=.int .i64 ((dJ m n 1 k).getD X 0)) (by rw[dY,a6];rfl);have f2:=I.free X;have HS:=hid (show((dJ m n 1 (k+1)).map (bO .i64))=((dJ m n 1 k).map (bO .i64)).set X (.int .i64 ((dJ m n 1 k).getD X 0+1)) by rw[a4,vF]);have f9:=hid a3;obtain⟨d,hd⟩:∃d,d=(dJ m n 1 k).getD X 0:=⟨_,rfl⟩;rw[<-hd] at c2 f8 HS;have m6:aI.wrap (d+1)=d+1:=by rw[aM];omega
       clear hd a3 a4 a6 hp;go_wp2_with fail;have F:=j5.out;have U:=HK.out
       go_roundg (N-(j+1))
       case measure=>omega
       case rel=>exact⟨j+1,k+1,hid (by omega),by omega,rfl,by go_num,by rw[f9.out];exact H.other ⟨L,X,none⟩ (by simp;omega) _,by rw[HS.out];exact I.set X _,O.trans (jP.set1 _ _ _),M.setCell (p:=⟨L,X,none⟩) f1 _⟩
     ·have v1:decide ((j:Int)<(N:Int))=false:=decide_eq_false (by omega);clear U;go_wp2_with fail;have F:=HG.out;have U:=HK.out;have o5:=HN.out
      go_roundg (G-(i+1))
      case measure=>omega
      case rel=>exact⟨i+1,k,hid (by omega),by omega,rfl,by go_num,H,I,O,M⟩
   ·have u1:decide ((i:Int)<(G:Int))=false:=decide_eq_false (by omega);have f7:k=m.length:=by omega
    subst f7;obtain⟨T,rfl⟩:∃T,T=wr:=⟨_,rfl⟩;have o6:=M.size;have k5:RdI T (.slice (some ⟨J,0,none⟩) n n) (iK m n 0):=MY (R:=[]) (by rw[eE];exact H) (c0.out 0 _) (aA _) (by simp only[maxLen];omega);have b6:RdI T (.slice (some ⟨L,0,none⟩) n n) (iK m n 1):=MY (R:=[]) (by rw[eE];exact I) (c0.out 1 _) (aA _) (by simp only[maxLen];omega)
    have g0:=fun(wh:Nat) u W (h:RdI W u (iK m n wh))=>aRz u (iK m n wh) W h (by rw[(tD hm HX.out).1];exact h2) (by rw[(tD hm HX.out).1];exact b3) (tD hm HX.out).2.2 (tD hm HX.out).2.1
    have e5:=hid (g0 0 (.slice (some ⟨J,0,none⟩) n n));have e6:=hid (g0 1 (.slice (some ⟨L,0,none⟩) n n));rw[show nJ (iK m n 0)=dN m n 0 from rfl] at e5;rw[show nJ (iK m n 1)=dN m n 1 from rfl] at e6;obtain⟨A,e7⟩:∃A,A=dN m n 0:=⟨_,rfl⟩;obtain⟨C,e8⟩:∃C,C=dN m n 1:=⟨_,rfl⟩;rw[<-e7] at e5 i1 d4;rw[<-e8] at e6 i2 d5;have o7:=hid (show cT m n=(cK m).map (nX A C) by unfold cT;rw[e7,e8]);have o9:=hid (show([dN m n 0,dN m n 1]:List (List Int))=[A,C] by rw[e7,e8]);have a0:=O.ow j1.out d6 d7;have a1:=f6.out.map (fun x g k=>O.ow k d6 d7);have d0:=a9.cell (i:=0) rfl
    have d1:=a9.cell (i:=1) rfl;clear g0 H I e7 e8 O U HK f4 c0 f5 d8;go_wp2_with fail
    go_loopg [4,14,15,16,77] 2 (fun gm s4 _s14 _s15 _s16 p2 wr=>∃(q:Nat) (xs:List Value) (v4:Value),q<=2/\gm=2-q/\v4=s4/\p2=.int .i64 (q:Int)/\Ow wr T.heap.size 27 v4 xs/\LF wr T.heap.size xs ([A,C].take q)/\Below T.heap.size T wr)
    case atStart=>exact⟨0,[],_,by omega,rfl,rfl,rfl,Ow.nil _ _ _,LF.nil _ _,aB _ _⟩
    case round=>
     obtain⟨q,xs,v4,hq,F,rfl,rfl,ho,hl,a2⟩:=hrel;have k6:=hid F;have c3:=a2.size;have k7:xs.length=q:=by rw[hl.1,aX];simp;omega
     have g1:(xs.length+1)*24<=140737488355328:=by omega
     clear F;rcases(show q=0\/q=1\/q=2 by omega) with rfl|rfl|rfl
     ·have g2:=e5.out wr (k5.below a2);have ix:=fun W=>aSi (.slice (some ⟨J,0,none⟩) n n) (.slice (some ⟨L,0,none⟩) n n) W
      go_wp2_with fail;refine g2.mono ?_;rintro e w6 ⟨v15,rfl,hf,Z⟩;have p3:=Z.size;obtain⟨bf,Rf,c5,-,-⟩:=id hf;obtain⟨E,c6⟩:∃E,E=A.length:=⟨_,rfl⟩;rw[<-c6] at c5;subst c5;have HF:=hid hf;clear hf c6;go_wp2_with (at_builtin;refine rD wK rfl _ _ rfl T.heap.size _ xs rfl ((ho.below Z (aA _)).alloc _) w6.heap.size (.slice (some ⟨bf,0,none⟩) E E) rfl (bS _ _ _) rfl ?_ ?_ ?_;(exact g1);(simp;omega);intro v9 V r1 r2 r3);have c9:(w6.alloc (.cells #[.slice (some ⟨bf,0,none⟩) E E] 27)).grownBy V v4.ownBlock:=r3
      have d2:=(ho.below Z (aA _)).alloc (.cells #[.slice (some ⟨bf,0,none⟩) E E] 27);have a7:=bD (aB _ w6) (.cells #[.slice (some ⟨bf,0,none⟩) E E] 27);have F:=k6.out
      go_roundg 1
      case measure=>omega
      case rel=>
       refine⟨1,_,_,by omega,rfl,rfl,by go_num,r1,?_,((a2.trans (Z.mono c3)).trans (a7.mono (by omega))).trans r2⟩;refine LF.snoc (gs:=[]) ?_ ?_
       ·exact(((hl.below Z).below a7).map (fun x g k=>k.kept d2 c9))
       ·exact((HF.out.base c3).below a7).kept d2 c9
     ·have g2:=e6.out wr (b6.below a2);have ix:=fun W=>aSj (.slice (some ⟨J,0,none⟩) n n) (.slice (some ⟨L,0,none⟩) n n) W
      go_wp2_with fail;refine g2.mono ?_;rintro e w6 ⟨v15,rfl,hf,Z⟩;have p3:=Z.size;obtain⟨bf,Rf,c5,-,-⟩:=id hf;obtain⟨E,c6⟩:∃E,E=C.length:=⟨_,rfl⟩;rw[<-c6] at c5;subst c5;have HF:=hid hf;clear hf c6;go_wp2_with (at_builtin;refine rD wK rfl _ _ rfl T.heap.size _ xs rfl ((ho.below Z (aA _)).alloc _) w6.heap.size (.slice (some ⟨bf,0,none⟩) E E) rfl (bS _ _ _) rfl ?_ ?_ ?_;(exact g1);(simp;omega);intro v9 V r1 r2 r3);have c9:(w6.alloc (.cells #[.slice (some ⟨bf,0,none⟩) E E] 27)).grownBy V v4.ownBlock:=r3
      have d2:=(ho.below Z (aA _)).alloc (.cells #[.slice (some ⟨bf,0,none⟩) E E] 27);have a7:=bD (aB _ w6) (.cells #[.slice (some ⟨bf,0,none⟩) E E] 27);have F:=k6.out
      go_roundg 0
      case measure=>omega
      case rel=>
       refine⟨2,_,_,by omega,rfl,rfl,by go_num,r1,?_,((a2.trans (Z.mono c3)).trans (a7.mono (by omega))).trans r2⟩;refine LF.snoc (gs:=[A]) ?_ ?_
       ·exact(((hl.below Z).below a7).map (fun x g k=>k.kept d2 c9))
       ·exact((HF.out.base c3).below a7).kept d2 c9
     ·obtain⟨x0,x1,rfl⟩:∃x0 x1,xs=[x0,x1]:=by
       match xs,k7 with
       |[x0,x1],_=>exact⟨x0,x1,rfl⟩
      obtain⟨V,rfl⟩:∃V,V=wr:=⟨_,rfl⟩;have k8:=hl.2 0 x0 A rfl rfl;have k9:=hl.2 1 x1 C rfl rfl;obtain⟨b4,c4,R4,rfl,r4,g3,r5,r6,_⟩:=Ow.openA ho (by simp);have l1:=M.trans (a2.mono o6);have a0:=a0.below a2 (aA _);have a1:=a1.below a2;have r7:=hid hl;have p4:=hid ho;have p5:=hid (fun j g (h:(cK m)[j]? =some g)=>DK h);have p6:=hid (fun(g:List Int) u W (h:RdI W u g) (hv:RdI W x0 A) (h1:∀x∈g,x∈m) (h3:g.length<=10)=>ZK x0 u A g W hv h i1.out (by rw[d4.out];exact fun x z=>HX.out x (h1 x z)) (by omega))
      have p7:=hid (fun(g:List Int) u W (h:RdI W u g) (hv:RdI W x1 C) (h1:∀x∈g,x∈m) (h3:g.length<=10)=>ZK x1 u C g W hv h i2.out (by rw[d5.out];exact fun x z=>HX.out x (h1 x z)) (by omega));clear e5 e6 k5 b6 hl ho g1 k7 a2 c3;have e0:=g3.cell (i:=0) rfl;have e1:=g3.cell (i:=1) rfl;have g4:=g3.lt;go_wp2_with fail
      go_loopg [5,18,19,20,21,22,23,92] G (fun gm s5 _s18 _s19 _s20 _s21 _s22 _s23 p8 wr=>∃(i:Nat) (u:Value),i<=G/\gm=G-i/\u=s5/\p8=.int .i64 (i:Int)/\OwI wr V.heap.size u (((cK m).take i).map (nX A C))/\Below V.heap.size V wr)
      case atStart=>exact⟨0,_,aU _,rfl,rfl,rfl,OwI.nil _ _,aB _ _⟩
      case round=>
       obtain⟨i,u,hi,F,rfl,rfl,hu,Y⟩:=hrel;have l2:=hid F;have l3:=Y.size;have d8:=j0.out;have p9:(((cK m).take i).map (nX A C)).length<=3000:=by rw[bJ,aX];omega
       clear F
       by_cases m8:i<G
       ·have u1:decide ((i:Int)<(G:Int))=true:=decide_eq_true (by omega);obtain⟨g,a5⟩:∃g,(cK m)[i]? =some g:=⟨_,aN (by rw[iD];omega)⟩;obtain⟨x,z⟩:∃x,gs[i]? =some x:=⟨_,aN (by rw[a1.1,iD];omega)⟩;have g5:=OwI.rd (a1.2 i x g z a5);have g6:=a0.cellAt z;have c1:=(Y.cell (p:=⟨b8,o8+i,none⟩) (iO V _ g6)).trans g6;obtain⟨q1,q2⟩:=p5.out i g a5;have g7:=g5.below Y;have g8:=p6.out g x wr g7 ((k8.below Y).rd (by rw[d4.out];omega)) q1 q2
        have g9:=fun W (hb:Below wr.heap.size wr W)=>p7.out g x W (g7.below hb) (((k9.below Y).below hb).rd (by rw[d5.out];omega)) q1 q2
        have b2:=hid (show((cK m).take (i+1)).map (nX A C)=((cK m).take i).map (nX A C)++[if nI C g<nI A g then 1 else 0] by rw[cQ,a5,fI];rfl);obtain⟨p0,l4⟩:∃p0,p0=nI A g:=⟨_,rfl⟩;obtain⟨p1,l5⟩:∃p1,p1=nI C g:=⟨_,rfl⟩;rw[<-l4] at g8 b2;rw[<-l5] at g9 b2;obtain⟨ax,cx,rfl,_,_,_⟩:=g5.open;have e0:=(Y.cell (p:=⟨b4,0,none⟩) g4).trans e0;have e1:=(Y.cell (p:=⟨b4,1,none⟩) g4).trans e1;clear a5 z g5 g6 g7 l4 l5 d8 q1;go_wp2_with fail;refine g8.mono ?_;rintro e w8 ⟨rfl,d3⟩;have e1:=(d3.cell (p:=⟨b4,1,none⟩) (dR g4 l3)).trans e1
        go_wp2_with fail;refine(g9 _ d3).mono ?_;rintro e w9 ⟨rfl,l6⟩;have i0:=d3.trans (l6.mono d3.size);have l7:=OwI.below hu i0 (aA _);have r8:=i0.size;have l8:=Y.trans (i0.mono l3);clear g8 g9 d3 l6 e0 e1 c1
        by_cases e9:p1<p0
        ·have v1:decide (p1<p0)=true:=decide_eq_true e9;rw[if_pos e9] at b2;go_wp2_with (at_builtin;refine eN rfl _ _ rfl V.heap.size _ _ rfl (OwI.alloc l7 _) _ 1 rfl (bS _ _ _) ?_ ?_ ?_;(omega);(simp;omega);intro v10 q0 r1 r2 r3);have F:=l2.out
         go_roundg (G-(i+1))
         case measure=>omega
         case rel=>exact⟨i+1,_,by omega,rfl,rfl,by go_num,by rw[b2.out];exact r1,(l8.alloc (by omega) _).trans r2⟩
        ·have v1:decide (p1<p0)=false:=decide_eq_false e9;rw[if_neg e9] at b2;go_wp2_with (at_builtin;refine eN rfl _ _ rfl V.heap.size _ _ rfl (OwI.alloc l7 _) _ 0 rfl (bS _ _ _) ?_ ?_ ?_;(omega);(simp;omega);intro v10 q0 r1 r2 r3);have F:=l2.out
         go_roundg (G-(i+1))
         case measure=>omega
         case rel=>exact⟨i+1,_,by omega,rfl,rfl,by go_num,by rw[b2.out];exact r1,(l8.alloc (by omega) _).trans r2⟩
       ·have u1:decide ((i:Int)<(G:Int))=false:=decide_eq_false (by omega);rw[cS (by rw[iD];omega),<-o7.out] at hu;have l9:=l1.size;clear d8 p9;go_wp2_with fail
        go_ret3
        refine⟨_,_,rfl,?_,OwI.base hu l9,l1.trans (Y.mono l9)⟩;rw[o9.out];exact⟨[x0,x1],(Ow.rd p4.out).below Y,LOK.two ((k8.below Y).rd (by rw[d4.out];omega)) ((k9.below Y).rd (by rw[d5.out];omega))⟩
end
section
open Go.RowKit Go Go.Shelf
attribute [local go_sem] rB
theorem aSq (M k:Nat) (d:k<=64) (z:M<2^k):bits .and .u64 (M:Int) ((2^k-1:Nat):Int)=(M:Int):=by
 have A:2^k<=18446744073709551616:=aW (Nat.pow_le_pow_right (by decide) d) (by decide);rw[u64_and_nat _ _ (by omega) (by omega),Nat.and_two_pow_sub_one_eq_mod,Nat.mod_eq_of_lt z]
theorem aSr (n:Nat) (hn:2<=n) (B:Nat) (s:ByteArray) (a k:Nat) (w:World) (T:s.size<=1000000) (ha:a<=90000000) (a1:1<=k) (U:k<=64)
  (d:Arr w B 9 [.string s]) (z:Arr w (B+1) 3 [.int .i64 (a:Int)]) (A:Arr w (B+1+1) 3 [.int .i64 (k:Int)]):
  aBk n Tryz.prog 143 #[.pointer (some ⟨B+1,0,none⟩),.pointer (some ⟨B+1+1,0,none⟩),.pointer (some ⟨B,0,none⟩)] (fun x:Int×Int=>#[.int .i64 x.1,.int .u64 x.2]) (a+k<=8*s.size) ((a:Int),(aE s.data.toList (a:Int) k:Int)) w:=by
 intro l J Jx W G _ _ F L;have d:=d.below G d.lt;have z:=z.below G z.lt;have A:=A.below G A.lt;have c0:=d.cell (i:=0) rfl;have c1:=z.cell (i:=0) rfl;have c2:=A.cell (i:=0) rfl;have M:=sT s (a:Int) k W T U (by omega) (by omega);have m0:max (a:Int) 0=(a:Int):=by omega
 have m1:aI.wrap (8*(s.size:Int))=8*(s.size:Int):=by rw[aM];omega
 have m2:aI.wrap (8*(s.size:Int)-(k:Int))=8*(s.size:Int)-(k:Int):=by rw[aM];omega
 have m3:(if(a:Int)<0 then(0:Int) else(a:Int))=(a:Int):=by rw[if_neg (by omega)]
 have m4:(if(0:Int)<(a:Int) then(a:Int) else 0)=(a:Int):=by split<;>omega
 have m5:(if(a:Int)<=0 then(0:Int) else(a:Int))=(a:Int):=by split<;>omega
 have u1:decide ((k:Int)<1)=false:=decide_eq_false (by omega);have u2:decide ((k:Int)>64)=false:=decide_eq_false (by omega);have u3:decide (64<(k:Int))=false:=decide_eq_false (by omega);obtain⟨V,H⟩:∃V,V=aE s.data.toList (a:Int) k:=⟨_,rfl⟩;obtain⟨E,O⟩:∃E,E=aO s.size (a:Int) k:=⟨_,rfl⟩;rw[<-H] at F;simp only at F;rw[<-H,<-O] at M;refine tW Tryz.func143 rfl trivial ?_ rfl
 simp only[Tryz.ntmps143,mY,cR,cX,lZ,mZ,lL,lM,lN,lO,iG,gE];clear G H O d z A
 by_cases I:a+k<=8*s.size
 ·have Y:decide ((a:Int)>8*(s.size:Int)-(k:Int))=false:=decide_eq_false (by omega);have Z:decide (8*(s.size:Int)-(k:Int)<(a:Int))=false:=decide_eq_false (by omega);have HY:=hid (F I W L (aA _));clear F
  gi_wp2_with fail
  refine⟨trivial,fun _=>by omega,(callsIn_wide.2 M).mono ?_⟩;rintro e w' ⟨rfl,rfl⟩
  gi_wp2_with fail
  gi_loopg [6,8,9,10] 0 (fun _g s6 s8 _s9 _s10 wr=>s6=.int .u64 (V:Int)/\s8=.int .i64 (a:Int)/\wr=w')
  case atStart=>exact⟨rfl,rfl,rfl⟩
  case round=>
   obtain⟨rfl,rfl,rfl⟩:=hrel;obtain⟨fn,tmps,assign,body,hy,hR⟩:=HY.out
   gi_wp2_with fail
   refine⟨fun _=>by omega,hR.mono ?_⟩;rintro e2 W3 ⟨rfl,a0⟩
   gi_wp2_with fail
   exact⟨rfl,_,qX rfl _ _ _,⟨_,rfl⟩,.inr ⟨I,a0⟩⟩
 ·have Y:decide ((a:Int)>8*(s.size:Int)-(k:Int))=true:=decide_eq_true (by omega);have Z:decide (8*(s.size:Int)-(k:Int)<(a:Int))=true:=decide_eq_true (by omega);clear F
  gi_wp2_with fail
  exact⟨rfl,_,qX rfl _ _ _,⟨_,rfl⟩,.inl ⟨I,L⟩⟩
theorem aBl (w:World) (t1 d z:TypeId) (v1 v2 v3:Value):∀W,W=((w.alloc (.cells #[v1] t1)).alloc (.cells #[v2] d)).alloc (.cells #[v3] z)->
  (Arr W w.heap.size t1 [v1]/\Arr W (w.heap.size+1) d [v2]/\Arr W (w.heap.size+1+1) z [v3])/\Below w.heap.size w W/\W.heap.size=w.heap.size+1+1+1:=by
 rintro W rfl;have F:=Arr.new w t1 [v1];have A:=Arr.new (w.alloc (.cells #[v1] t1)) d [v2];have E:=Arr.new ((w.alloc (.cells #[v1] t1)).alloc (.cells #[v2] d)) z [v3];have e:∀(W:World) (o:Obj),(W.alloc o).heap.size=W.heap.size+1:=fun W o=>by simp
 rw[e] at A;rw[e,e] at E;refine⟨⟨(F.alloc _).alloc _,A.alloc _,E⟩,?_,by simp⟩;exact(((aB _ w).alloc (aA _) _).alloc (by simp) _).alloc (by simp;omega) _
theorem aSs (n:Nat) (hn:4<=n) (s:ByteArray) (a k M:Nat) (w:World) (hs:s.size<=1000000) (ha:a<=90000000) (a0:1<=k) (Z:k<=64) (hM:M<2^k):
  CallsIn eA n Tryz.prog 25 #[.string s,.int .i64 (a:Int),.int .u64 (M:Int),.int .i64 (k:Int)] w fun e w'=>e=.returned (.bool (decide (a+k<=8*s.size/\aE s.data.toList (a:Int) k=M)))/\Below w.heap.size w w':=by
 have h1:1<=n:=by omega
 have a6:=aSq M k Z hM;have a1:=fun(W:World)=>(callsIn_wide (n:=n-1-1-1)).2 (aRc k W a0 Z)
 obtain⟨Lw,a2⟩:∃Lw:Nat,Lw=2^k-1:=⟨_,rfl⟩;rw[<-a2] at a6 a1;clear a2 hM;obtain⟨⟨G,z,H⟩,a3,a7⟩:=aBl w 54 3 4 (.int .u64 (M:Int)) (.int .i64 (k:Int)) (.bool false) _ rfl;have c7:=z.cell (i:=0) rfl;have u1:decide ((a:Int)<0)=false:=decide_eq_false (by omega);refine xX Tryz.func25 rfl trivial ?_ rfl;simp only[Tryz.ntmps25,mY,cR,cX,lZ,mZ,lL,lM,lN,lO,iG,gE]
 gi_wp2_with fail
 generalize ((w.alloc (.cells #[.int .u64 (M:Int)] 54)).alloc (.cells #[.int .i64 (k:Int)] 3)).alloc (.cells #[.bool false] 4)=w0 at*
 refine⟨trivial,(callsIn_wide.2 (aRe _ _ _ _)).mono ?_⟩;rintro e w' ⟨rfl,rfl⟩;obtain⟨⟨q0,q1,q2⟩,E,a4⟩:=aBl w0 9 3 3 (.string s) (.int .i64 (a:Int)) (.int .i64 (k:Int)) _ rfl;have G:=G.below E G.lt;have z:=z.below E z.lt;have H:=H.below E H.lt;have E:=a3.trans (E.mono (by omega));generalize ((w0.alloc (.cells #[.string s] 9)).alloc (.cells #[.int .i64 (a:Int)] 3)).alloc (.cells #[.int .i64 (k:Int)] 3)=L at*
 obtain⟨O,U⟩:∃O,O=w.heap.size:=⟨_,rfl⟩;obtain⟨B,hB⟩:∃B,B=w0.heap.size:=⟨_,rfl⟩;rw[<-hB] at q0 q1 q2 a4;rw[<-hB,<-U];rw[<-U] at G z H E;have b0:O+1+1<L.heap.size:=by omega
 have HO:=hid U;clear hB U c7 a7 a3 a4
 gi_wp2_with fail
 refine aSp (w0:=L) h1 (gf:=143) (lb:=#[.pointer (some ⟨B+1,0,none⟩),.pointer (some ⟨B+1+1,0,none⟩),.pointer (some ⟨B,0,none⟩)]) rfl (enters_of Tryz.func143 (by kernel_rfl) rfl)
  (aSr (n-1) (by omega) B s a k L hs ha a0 Z q0 q1 q2) (aB _ _) (fun _=>rfl)
  (fun W=>(Arr W O 54 [.int .u64 (M:Int)]/\Arr W (O+1) 3 [.int .i64 (k:Int)]/\Arr W (O+1+1) 4 [.bool false])/\Below O w W)
  (fun W=>Arr W (O+1+1) 4 [.bool (decide (aE s.data.toList (a:Int) k=M))]/\Below O w W)
  (fun A B' h F=>⟨⟨h.1.1.below F (by omega),h.1.2.1.below F (by omega),h.1.2.2.below F (by omega)⟩,h.2.trans (F.mono (by omega))⟩)
  (fun A B' h F=>⟨h.1.below F (by omega),h.2.trans (F.mono (by omega))⟩)
  ⟨⟨G,z,H⟩,E⟩
  {tmps:=#[.string s,.int .i64 (a:Int),.int .u64 (M:Int),.int .i64 (k:Int),undef,undef,.pointer (some ⟨O,0,none⟩),.pointer (some ⟨O+1,0,none⟩),.pointer (some ⟨O+1+1,0,none⟩),undef,.int .u64 (aE s.data.toList (a:Int) k:Int),.int .i64 (a:Int),.bool false,.string s,.int .i64 (a:Int),.int .i64 (k:Int),.func (.func 143) #[] #[.pointer (some ⟨B+1,0,none⟩),.pointer (some ⟨B+1+1,0,none⟩),.pointer (some ⟨B,0,none⟩)],.int .i64 (a:Int),.int .u64 (aE s.data.toList (a:Int) k:Int),undef,undef,undef,undef,undef,undef],defers:=[]} ?assign ?body ?done ?stop
 case assign=>
  intro l W K I
  gi_wp2
  exact I
 case body=>
  rintro Y l W ⟨⟨k6,k7,d⟩,T⟩ b1;obtain⟨V,hV⟩:∃V,V=aE s.data.toList (a:Int) k:=⟨_,rfl⟩;rw[<-hV];clear hV G z H q0 q1 q2;have c6:=k6.cell (i:=0) rfl;have c7:=k7.cell (i:=0) rfl;have c8:=d.cell (i:=0) rfl;have f8:=d.free 0;have a8:((V:Int)==(M:Int))=decide (V=M):=by
   by_cases h:V=M
   ·subst h;simp
   ·rw[decide_eq_false h,beq_eq_false_iff_ne];omega
  have a9:(V==M)=decide (V=M):=by
   by_cases h:V=M
   ·subst h;simp
   ·rw[decide_eq_false h,beq_eq_false_iff_ne];exact h
  obtain⟨D,J⟩:∃D,D=decide (V=M):=⟨_,rfl⟩;rw[<-J] at a8 a9 ⊢;clear J
  gi_wp2_with fail
  gi_region_with (refine⟨trivial,fun _=>by omega,((a1 _).inRound l).mono ?_⟩;rintro e w2 ⟨rfl,rfl⟩)
  all_goals
   gi_wp2_with fail
   exact⟨((iH W _ _).trans (aC3 _)).from _,d.set 0 _,(T.setCell (p:=⟨O+1+1,0,none⟩) (by show O<=O+1+1;omega) _).drew⟩
 case done=>
  rintro D W Y J ⟨⟨k6,k7,d⟩,T⟩ I;have c8:=d.cell (i:=0) rfl;have f8:=d.free 0
  gi_wp2_with fail
  have a5:=(iH W ⟨O+1+1,0,none⟩ (.bool false)).same D _ I rfl;refine⟨by simp,.inl ⟨_,_,rfl,sJ a5,?_⟩⟩;have hc:=((d.set 0 (.bool false)).grown (mC _ D (.deferred none)) (by simp;omega)).cell (i:=0) rfl;refine⟨.bool false,?_,by rw[decide_eq_false (fun h=>Y h.1)],?_⟩
  ·simp[results,Tryz.f25,go_sem,hc]
  ·rw[<-HO.out];exact(T.setCell (p:=⟨O+1+1,0,none⟩) (by show O<=O+1+1;omega) _).trans (pJ (w:=L) (by omega) _ D _ _ J a5 rfl rfl)
 case stop=>
  rintro D W Y J ⟨d,T⟩ I;have c8:=d.cell (i:=0) rfl
  gi_wp2_with fail
  refine⟨by simp,.inl ⟨_,_,rfl,sJ I,?_⟩⟩;have hc:=(d.grown (mC _ D (.deferred none)) (by simp;omega)).cell (i:=0) rfl;refine⟨.bool (decide (aE s.data.toList (a:Int) k=M)),?_,?_,?_⟩
  ·simp[results,Tryz.f25,go_sem,hc]
  ·simp[Y]
  ·rw[<-HO.out];exact T.trans (pJ (w:=L) (by omega) _ D _ _ J I rfl rfl)
theorem aSt (s:ByteArray) (a k M:Nat) (w:World) (d:s.size<=1000000) (z:a<=90000000) (A:1<=k) (E:k<=64) (F:M<2^k):
  Calls Tryz.prog 25 #[.string s,.int .i64 (a:Int),.int .u64 (M:Int),.int .i64 (k:Int)] w fun e w'=>e=.returned (.bool (decide (a+k<=8*s.size/\aE s.data.toList (a:Int) k=M)))/\Below w.heap.size w w':=
 callsIn_wide.1 (aSs 4 (aA _) s a k M w d z A E F)
end
end Go.Proofs.YtiifmcicleljjaaGreatDoor
