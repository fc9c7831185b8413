/-
  Texts put together (part 18): the walks and the plain laws on which the statement stands.
-/
import Derived.Sort.BigQuietIn
import Derived.Sort.LoopGhostIn
import Derived.Sort.QuietIn
import Derived.Sort.CutIn
import Derived.Test.YtfckbfofgeilgaaGreatDoorZ10
import Derived.Test.YtfckbfofgeilgaaGreatDoorZ11
import Derived.Test.YtfckbfofgeilgaaGreatDoorZ12
import Derived.Test.YtfckbfofgeilgaaGreatDoorZ13
import Derived.Test.YtfckbfofgeilgaaGreatDoorZ14
set_option maxRecDepth 100000
set_option maxHeartbeats 12800000
set_option linter.unusedVariables false
set_option linter.unusedSimpArgs false
open Go.Proofs.Tryz
open Go.Proofs.Tryz renaming prog->pG
open Array renaming replicate_succ->jG,replicate_zero->jH
open Go renaming grownBy_putObj'->kV,run_takeDeferred->sE
open Go.Act renaming put->bJ
open Go.Fence renaming wide->cZ
open Go.IntKind renaming i64->aJ,u64->eZ,wrap_i64->aM,wrap_u64->fC
open Go.KeepsOthers renaming setCell->kJ
open Go.Lib renaming byteCells->pU
open Go.Oper renaming semAt_some->mO
open Go.RowKit.Below renaming refl->aH
open List renaming append_toArray->jJ,cons_append->fF,getElem?_eq_getElem->aN,length_cons->aU,length_nil->aV,length_take->aQ,map_append->dY,nil_append->eL,push_toArray->jI,setIfInBounds_toArray->bK,set_cons_succ->bB,set_cons_zero->bH,size_toArray->dB,take_length->jS
open Nat renaming le_refl->aD,le_trans->aR,reduceAdd->cV,reduceSub->dC
namespace Go.Proofs.YtfckbfofgeilgaaGreatDoor
section
open Go.RowKit Go Go.Shelf
attribute [local go_sem] mO
theorem aIb (n:Nat) (b o d cap:Nat) (w:World):
  CallsIn cZ n pG 228 #[.slice (some ⟨b,o,none⟩) d cap] w fun e w'=>e=.returned (.func (.func 241) #[] #[.pointer (some ⟨w.heap.size,0,none⟩)])/\w'=w.alloc (.cells #[.slice (some ⟨b,o,none⟩) d cap] 53):=by
 refine callsIn_of_wp func228 rfl trivial ?_ rfl;simp only[ntmps228,dB,aU,aV,cV,dC,jG,jH,jI,jJ,eL,fF]
 gi_wp2
 go_ret;exact⟨rfl,rfl⟩
theorem aIc (n:Nat) (M:1<=n) (D A e F I:Nat) (d:List Int) (O:bM d=0) (w:World) (L:Arr w D 53 [.slice (some ⟨e,F,none⟩) d.length I]) (R:∀i x,d[i]? =some x->w.cell? ⟨e,F+i,none⟩=some (.int .i64 x)) (U:e≠A) (V:D≠A) (a0:A<w.heap.size) (Y:e<w.heap.size):
  aG6 n pG 241 #[.pointer (some ⟨D,0,none⟩)] (yB d) (bW (some A)) (CS d) (fun Z=>Z.map (·.1)=lU d 21) w:=fun l J Jx W G hJ _ hY h0=>by
 have hs:=G.size;exact bBc n M l D A e F I d O J Jx W (L.below G L.lt) (fun i x hi=>(G.cell (p:=⟨e,F+i,none⟩) Y).trans (R i x hi)) U V (by omega) (by omega) hJ hY h0
theorem aId {d:List Int}:∀(B:Nat) (D:List (Nat×Value)) (x:Nat×Value) (A F:World),CS d B D x A->bW none A F->CS d B D x F:=fun _ _ _ _ _ ⟨G,I,J,L,M⟩ O=>⟨G,I,J,L,bW.ow O M (fun _ _ e=>by cases e)⟩
theorem aIt:∀(l:List Int) (a:Int),a<=l.foldl max a/\(∀x∈l,x<=l.foldl max a)/\(l.foldl max a=a\/l.foldl max a∈l)
 |[],a=>⟨by simp,fun x d=>by simp at d,.inl rfl⟩
 |y::l,a=>by
  obtain⟨e,A,D⟩:=aIt l (max a y)
  grind
theorem aIu {l:List Int} (h:gM l):mQ l∈l/\∀x∈l,x<=mQ l:=by
 obtain⟨D,d,e⟩:=aIt l 0;refine⟨?_,d⟩;rcases e with q|q
 ·exfalso;have A:0<l.length:=by have:=h.1;omega
  have F:=h.2.2 _ (List.getElem_mem A)
  grind [gM,mQ]
 ·exact q
theorem bB5 {l:List Int} {n:Nat} (h:0<cL l n):((n:Nat):Int)∈l:=by grind [cL,List.countP_pos_iff]
theorem UT {l:List Int} {n:Nat} (h:((n:Nat):Int)∈l):0<cL l n:=by grind [cL]
def CT (l:List Int) (s:List UInt8) (a:Nat) (S:List Nat):Prop:=∀n∈S,aP s.length (a:Int) n=0/\∀i,i<l.length->bL l i=n->¬lA l s a i
theorem UU {l:List Int} {n k:Nat}:n∈lU l k↔n<k/\0<cL l n:=by simp[lU,cL]
theorem bB6 {l:List Int} {s:List UInt8} {a n:Nat} (d:bM l=0) (A:0<cL l n) (h:CT l s a (lU l n)) (D:aP s.length (a:Int) n≠0):aP s.length (a:Int) n=2/\dE l s (a:Int)=(0,0,2):=by
 have e:=gE d;have F:8*(s.length:Int)-(n:Int)<(a:Int):=by
  unfold aP at D;omega
 refine⟨by unfold aP;rw[aA (by omega),aB F],?_⟩;rw[zI d,aB]
 ·have:=(aIu e.1).2 _ (bB5 A);omega
 ·intro i G I;have J:=lX e.1 G
  by_cases L:bL l i<n
  ·grind [bL,UU,UT,bM,cL,CT,lU,aP,dE]
  ·have:=I.1;omega
theorem bB7 {l:List Int} {s:List UInt8} {a:Nat} (e:bM l=0) (h:CT l s a (lU l 21)):dE l s (a:Int)=(0,0,3):=by
 have A:=gE e;obtain⟨d,G⟩:=aIu A.1;have D:=A.1.2.2 _ d;rw[zI e,aA]
 ·obtain⟨M,F⟩:∃M:Nat,mQ l=(M:Int):=⟨(mQ l).toNat,by omega⟩;rw[F] at d D ⊢;have:=iG (h M (UU.2 ⟨by omega,UT d⟩)).1;omega
 grind [lX,bL,UU,UT,bM,CT,lU,dE]
theorem bB8 {l:List Int} {s:List UInt8} {a n k y:Nat} (d:bM l=0) (D:aP s.length (a:Int) n=0) (e:(qG l n l.length)[k]? =some y) (F:aK s (a:Int) n=gY l n+k):dE l s (a:Int)=((y:Int),(a:Int)+(n:Int),0):=by
 have G:=gE d;obtain⟨I,A,J⟩:=aB1 l n l.length (aD _) k y e;have L:bL l y=n:=by unfold bL;rw[A];rfl
 grind [zH,TI,gZ,bM,aP,qG,aK,gY,dE]
theorem bB9 (l:List Int) (s:List UInt8) (a:Nat):CT l s a []:=fun n d=>by simp at d
theorem bCa {l:List Int} {s:List UInt8} {a n:Nat} {S:List Nat} (d:gM l) (h:CT l s a S) (e:aP s.length (a:Int) n=0) (A:¬(gY l n<=aK s (a:Int) n/\aK s (a:Int) n<gY l n+cL l n)):CT l s a (S++[n]):=by grind [TI,KL,gM,CT,aP,gY,aK,cL]
theorem bCb (w:World) (d A D F G:TypeId) (v1 v2 v3 v4 v5:Value):∀W,W=((((w.alloc (.cells #[v1] d)).alloc (.cells #[v2] A)).alloc (.cells #[v3] D)).alloc (.cells #[v4] F)).alloc (.cells #[v5] G)->
  (Arr W w.heap.size d [v1]/\Arr W (w.heap.size+1) A [v2]/\Arr W (w.heap.size+2) D [v3]/\Arr W (w.heap.size+3) F [v4]/\Arr W (w.heap.size+4) G [v5])/\Below w.heap.size w W/\W.heap.size=w.heap.size+5:=by
 rintro W rfl;have O:=Arr.new w d [v1];have I:=Arr.new (w.alloc (.cells #[v1] d)) A [v2];have J:=Arr.new ((w.alloc (.cells #[v1] d)).alloc (.cells #[v2] A)) D [v3];have L:=Arr.new (((w.alloc (.cells #[v1] d)).alloc (.cells #[v2] A)).alloc (.cells #[v3] D)) F [v4];have M:=Arr.new ((((w.alloc (.cells #[v1] d)).alloc (.cells #[v2] A)).alloc (.cells #[v3] D)).alloc (.cells #[v4] F)) G [v5];have e:∀(W:World) (o:Obj),(W.alloc o).heap.size=W.heap.size+1:=fun W o=>by simp
 rw[e] at I;rw[e,e] at J;rw[e,e,e] at L;rw[e,e,e,e] at M;refine⟨⟨(((O.alloc _).alloc _).alloc _).alloc _,((I.alloc _).alloc _).alloc _,(J.alloc _).alloc _,L.alloc _,M⟩,?_,by simp⟩;exact(((((aH _ w).alloc (aD _) _).alloc (by simp) _).alloc (by simp;omega) _).alloc (by simp;omega) _).alloc (by simp;omega) _
theorem UV {W w:World} {z:Nat} {d e A:TypeId} {u1 D F:Value} (G:Arr W (z+1+1) d [u1]) (I:Arr W (z+1+1+1) e [D]) (J:Arr W (z+1+1+1+1) A [F]) (L:Below z w W) (v1 v2 v3:Value):
  Arr (((W.setCell ⟨z+1+1,0,none⟩ v1).setCell ⟨z+1+1+1,0,none⟩ v2).setCell ⟨z+1+1+1+1,0,none⟩ v3) (z+1+1) d [v1]/\
  Arr (((W.setCell ⟨z+1+1,0,none⟩ v1).setCell ⟨z+1+1+1,0,none⟩ v2).setCell ⟨z+1+1+1+1,0,none⟩ v3) (z+1+1+1) e [v2]/\
  Arr (((W.setCell ⟨z+1+1,0,none⟩ v1).setCell ⟨z+1+1+1,0,none⟩ v2).setCell ⟨z+1+1+1+1,0,none⟩ v3) (z+1+1+1+1) A [v3]/\
  Below z w (((W.setCell ⟨z+1+1,0,none⟩ v1).setCell ⟨z+1+1+1,0,none⟩ v2).setCell ⟨z+1+1+1+1,0,none⟩ v3):=
 ⟨((G.set 0 v1).other _ (by simp) v2).other _ (by grind) v3,((I.other _ (by simp) v1).set 0 v2).other _ (by simp) v3,((J.other _ (by simp) v1).other _ (by simp) v2).set 0 v3,
  ((L.setCell (p:=⟨z+1+1,0,none⟩) (by grind) _).setCell (p:=⟨z+1+1+1,0,none⟩) (by grind) _).setCell (p:=⟨z+1+1+1+1,0,none⟩) (by grind) _⟩
theorem bCc (n:Nat) (hn:3<=n) (v:Value) (l:List Int) (s:ByteArray) (a:Nat) (w:World) (hr:RdI w v l) (hE:bM l=0) (hs:s.size<=1000000) (ha:a<=100000000):
  CallsIn cZ n pG 199 #[v,.string s,.int .i64 (a:Int)] w fun e w'=>e=.returned (.tuple #[.int .i64 (dE l s.data.toList (a:Int)).1,.int .i64 (dE l s.data.toList (a:Int)).2.1,.int .i64 (dE l s.data.toList (a:Int)).2.2])/\Below w.heap.size w w':=by
 have h1:1<=n:=by omega
 obtain⟨ad,O,rfl,i5,e0,hA⟩:=hr.open;unfold maxLen at e0;have a5:=gE hE;have HO:=hid a5.1;have e1:=hid (fun k (hk:k<=20)=>LY (i:=0) a5.1 a5.2 hk);have e2:=a5.1.2.1;have i6:=a5.1.1;have HE:=hid hE;have HL:=hid (mV s);obtain⟨J,L,rfl,c0,c1⟩:=hA (by omega);have e3:=hid c1;refine callsIn_of_wp_marks func199 rfl trivial ?_ rfl;simp only[ntmps199,dB,aU,aV,cV,dC,jG,jH,jI,jJ,eL,fF];clear c1 hA a5
 gi_wp2_with fail
 obtain⟨⟨Y,Z,I,d,G⟩,b4,e9⟩:=bCb w 9 3 3 3 27 (.string s) (.int .i64 (a:Int)) (.int .i64 0) (.int .i64 0) (.int .i64 0) _ rfl;generalize ((((w.alloc (.cells #[.string s] 9)).alloc (.cells #[.int .i64 (a:Int)] 3)).alloc (.cells #[.int .i64 0] 3)).alloc (.cells #[.int .i64 0] 3)).alloc (.cells #[.int .i64 0] 27)=w0 at*
 refine⟨trivial,(callsIn_wide.2 (FK _ l _ (hr.below b4))).mono ?_⟩;rintro e w1 ⟨rfl,a3⟩;rw[hE];obtain⟨z,hz⟩:=ex1 (w.heap.size);have f0:=a3.size;have Y:=Y.below a3 (by omega);have Z:=Z.below a3 (by omega);have I:=I.below a3 (by omega);have d:=d.below a3 (by omega);have G:=G.below a3 (by omega);have c2:Below w.heap.size w w1:=b4.trans (a3.mono (by omega));clear b4 a3 hr hE
 gi_wp2_with fail
 refine⟨trivial,(aIb (n-1) J L l.length O _).mono ?_⟩;rintro e w' ⟨rfl,rfl⟩;have g9:=Arr.new w1 53 [.slice (some ⟨J,L,none⟩) l.length O];have Y:=Y.alloc (.cells #[.slice (some ⟨J,L,none⟩) l.length O] 53);have Z:=Z.alloc (.cells #[.slice (some ⟨J,L,none⟩) l.length O] 53);have I:=I.alloc (.cells #[.slice (some ⟨J,L,none⟩) l.length O] 53);have d:=d.alloc (.cells #[.slice (some ⟨J,L,none⟩) l.length O] 53);have G:=G.alloc (.cells #[.slice (some ⟨J,L,none⟩) l.length O] 53);have b5:=c2.alloc (o:=.cells #[.slice (some ⟨J,L,none⟩) l.length O] 53) (by omega)
 have f1:(w1.alloc (.cells #[.slice (some ⟨J,L,none⟩) l.length O] 53)).heap.size=w1.heap.size+1:=by simp
 have f2:∀i x,l[i]? =some x->(w1.alloc (.cells #[.slice (some ⟨J,L,none⟩) l.length O] 53)).cell? ⟨J,L+i,none⟩=some (.int .i64 x):=fun i x hi=>(b5.cell (p:=⟨J,L+i,none⟩) c0).trans (e3.out i x hi)
 obtain⟨Bs,c3⟩:=ex1 (w1.heap.size)
 gi_wp2_with fail
 change Arr (w1.alloc (.cells #[.slice (some ⟨J,L,none⟩) l.length O] 53)) _ _ _ at g9;generalize w1.alloc (.cells #[.slice (some ⟨J,L,none⟩) l.length O] 53)=w3 at*
 rw[<-c3] at g9 f1 f0 ⊢;rw[<-hz] at Y Z I d G e9 b5 c0 ⊢;have HZ:=hid hz;clear c3 hz c2;refine aG7 (w0:=w3) (Kp:=bW (some (z+1+1))) (Pre:=CS l) (encs:=yB l) h1 (gf:=241) (lb:=#[.pointer (some ⟨Bs,0,none⟩)]) rfl (enters_of func241 (by kernel_rfl) rfl)
  (aIc (n-1) (by omega) Bs (z+1+1) J L O l HE.out w3 g9 f2 (by omega) (by omega) (by omega) (by omega)) (aH _ _) (fun _=>rfl)
  (fun h k=>h.trans k) (fun _ _ h=>h.some _) aId
  (fun a6 W=>(Hid (CT l s.data.toList a (a6.map (·.1)))/\Arr W z 9 [.string s]/\Arr W (z+1) 3 [.int .i64 (a:Int)]/\Arr W (z+1+1) 3 [.int .i64 0]/\Arr W (z+1+1+1) 3 [.int .i64 0]/\Arr W (z+1+1+1+1) 27 [.int .i64 0])/\Below z w W)
  (fun c _ W=>(c=.ret/\∃r1 r2 r3,Hid (dE l s.data.toList (a:Int)=(r1,r2,r3))/\Arr W (z+1+1) 3 [.int .i64 r1]/\Arr W (z+1+1+1) 3 [.int .i64 r2]/\Arr W (z+1+1+1+1) 27 [.int .i64 r3])/\Below z w W)
  (fun a6 A B ⟨⟨h,k1,k2,k3,k4,k5⟩,k6⟩ a0=>⟨⟨h,k1.below a0 (by omega),k2.below a0 (by omega),k3.below a0 (by omega),k4.below a0 (by omega),k5.below a0 (by omega)⟩,k6.trans (a0.mono (by omega))⟩)
  (fun c a6 A B ⟨⟨h,r1,r2,r3,h',k1,k2,k3⟩,k6⟩ a0=>⟨⟨h,r1,r2,r3,h',k1.below a0 (by omega),k2.below a0 (by omega),k3.below a0 (by omega)⟩,k6.trans (a0.mono (by omega))⟩)
  ⟨⟨hid (bB9 _ _ _),Y,Z,I,d,G⟩,b5⟩
  (fun x a' W=>∃sb,w3.heap.size<=sb/\Arr W sb 351 [.int .i64 (x.1:Int),.int .u64 (gY l x.1:Int),x.2]/\a'={tmps:=#[.slice (some ⟨J,L,none⟩) l.length O,.string s,.int .i64 (a:Int),undef,.pointer (some ⟨z,0,none⟩),.pointer (some ⟨z+1,0,none⟩),.pointer (some ⟨z+1+1,0,none⟩),.pointer (some ⟨z+1+1+1,0,none⟩),.pointer (some ⟨z+1+1+1+1,0,none⟩),.int .i64 0,.pointer (some ⟨sb,0,none⟩),undef,undef,.slice (some ⟨J,L,none⟩) l.length O,.int .i64 0,.int .i64 0,.bool false,undef,.slice (some ⟨J,L,none⟩) l.length O,.func (.func 241) #[] #[.pointer (some ⟨Bs,0,none⟩)],.agg #[.int .i64 (x.1:Int),.int .u64 (gY l x.1:Int),x.2],undef,undef,undef,undef,undef,undef,undef,undef,undef,undef,undef,undef,undef,undef,undef,undef,undef,undef,undef,undef,undef,undef,undef,undef,undef,undef,undef,undef,undef,undef],defers:=[]})
  (fun x a' A A' ⟨sb,k1,k2,k3⟩ hk=>⟨sb,k1,hk.arr k2 (by simp),k3⟩) ?assign ?body ?done ?stop
 case assign=>
  rintro l0 B a6 ⟨m,u⟩ W K hI hB f3 f4 R;obtain⟨a',b6,a8,_,_,_⟩:=(OwI.rd f4.2.2.2.2).open;dsimp only at a8;subst a8;unfold yB
  gi_wp2
  exact R _ _ (bD (aH _ _) _) ⟨W.heap.size,by omega,Arr.new W _ [_,_,_],rfl⟩
 case body=>
  rintro l0 B a6 ⟨m,u⟩ a' W ⟨⟨b0,Y,Z,I,d,G⟩,a4⟩ hB f3 ⟨_,⟨f5,b7⟩,c4,b8,ho⟩ ⟨sb,i7,hS,rfl⟩;dsimp only at f5 b7 c4 b8 ho hS ⊢;obtain⟨C,hC⟩:=ex1 (cL l m);have c5:(pA l m l.length).length=C:=by rw[MU l m _ (aD _),jS,hC]
  have c6:(qG l m l.length).length=C:=by rw[KN l m _ (aD _),jS,hC]
  have i8:C<=258:=by rw[hC];unfold cL;exact aR List.countP_le_length e2
  have f9:gY l m<=1048576:=by
   have:=e1.out m b7;unfold lS at this;omega
  obtain⟨a',b6,a8,h4,h5,h6⟩:=(OwI.rd ho).open;rw[c5] at a8 h4 h6;obtain⟨bu,ou,rfl,i9,c7⟩:=h6 (by omega);subst a8;have a2:=bB6 (s:=s.data.toList) (a:=a) HE.out (by omega:0<cL l m);rw[<-b8] at a2;have a2:=a2 b0.out;have a1:=fun k y=>bB8 (s:=s.data.toList) (a:=a) (n:=m) (k:=k) (y:=y) HE.out
  have U:=bCa (s:=s.data.toList) (a:=a) (n:=m) HO.out b0.out;rw[HL.out] at a2 a1 U;have a7:=fun W=>uQ s (a:Int) m W hs (by omega) (by omega) (by omega)
  have c8:=jV s.data.toList (a:Int) m;have g0:aK s.data.toList (a:Int) m<1048576:=Nat.lt_of_lt_of_le c8 (aR (Nat.pow_le_pow_right (by decide) b7) (by decide));obtain⟨E,c9⟩:=ex1 (aP s.size (a:Int) m);obtain⟨V,hV⟩:=ex1 (aK s.data.toList (a:Int) m);obtain⟨F,hF⟩:=ex1 (gY l m);rw[<-hF] at hS f9 U;rw[<-hF] at a1;rw[<-hC] at U;rw[<-c9] at a2 a1 U a7;rw[<-hV] at a1 U a7 g0;have d0:=hS.cell (i:=0) rfl;have d1:=hS.cell (i:=1) rfl;have d2:=hS.cell (i:=2) rfl;have e4:=Y.cell (i:=0) rfl;have e5:=Z.cell (i:=0) rfl;have e6:=I.cell (i:=0) rfl;have e7:=d.cell (i:=0) rfl
  have e8:=G.cell (i:=0) rfl;have f6:=I.free 0;have f7:=d.free 0;have f8:=G.free 0;have b2:=hid (UV I d G a4);have g1:=hid c6;have g2:=hid c7;have g3:=hid ho;clear c8 hV c9 hF hC c5 c6 c7 c4 b8 ho
  by_cases d3:E=0
  ·subst d3;have a1:=fun k y=>a1 k y rfl
   have U:=U rfl;have m1:eZ.wrap (C:Int)=(C:Int):=by rw[fC];omega
   have m2:(C:Int)%18446744073709551616=(C:Int):=by omega
   by_cases b3:F<=V/\V<F+C
   ·obtain⟨D,hD⟩:=ex1 (V-F);have i0:D<C:=by omega
    obtain⟨y,hy⟩:∃y,(qG l m l.length)[D]? =some y:=⟨_,aN (by rw[g1.out];exact i0)⟩;have a9:=hid (a1 D y hy (by omega));have cu:W.cell? ⟨bu,ou+D,none⟩=some (.int .i64 (y:Int)):=g2.out D _ (by unfold pA;rw[List.getElem?_map,hy];rfl);have m3:eZ.wrap ((V:Int)-(F:Int))=(D:Int):=by rw[fC];omega
    have m4:(V:Int)-(F:Int)=(D:Int):=by omega
    have m5:eZ.wrap (D:Int)=(D:Int):=by rw[fC];omega
    have m6:aJ.wrap ((a:Int)+(m:Int))=(a:Int)+(m:Int):=by rw[aM];omega
    have t1:decide ((D:Int)<(C:Int))=true:=aG (by omega);have q1:(D:Int)<(C:Int):=by omega
    clear a2 a1 U b3 hD hy
    gi_wp2_with fail
    refine⟨trivial,fun _=>by omega,((callsIn_wide.2 (a7 _)).inRound l0).mono ?_⟩;rintro e M ⟨rfl,rfl⟩
    gi_wp2_with fail
    refine aG9 (by omega) (fun w'=>w'.cell? ⟨sb,0,none⟩=some (.int .i64 (m:Int))/\w'.cell? ⟨sb,2,none⟩=some (.slice (some ⟨bu,ou,none⟩) C b6)/\w'.cell? ⟨bu,ou+D,none⟩=some (.int .i64 (y:Int))/\w'.cell? ⟨z+1,0,none⟩=some (.int .i64 (a:Int))) (by kernel_rfl) (fun⟨_,_,h⟩=>(h:False).elim) (by kernel_rfl) ?_;have d4:M.drew.cell? ⟨sb,0,none⟩=some (.int .i64 (m:Int))/\M.drew.cell? ⟨sb,2,none⟩=some (.slice (some ⟨bu,ou,none⟩) C b6)/\M.drew.cell? ⟨bu,ou+D,none⟩=some (.int .i64 (y:Int))/\M.drew.cell? ⟨z+1,0,none⟩=some (.int .i64 (a:Int)):=⟨d0,d2,cu,e5⟩
    iterate 9
     refine fV 0 0 (by simp only[dB,aU,aV,cV,dC]<;>rfl) (by simp only[List.getElem?_toArray,List.getElem?_cons_succ,List.getElem?_cons_zero];rfl) (by kernel_rfl) (by exact fun _ _ _ h=>h) (by first|exact Or.inr ⟨by rfl,rfl⟩|(refine Or.inl ⟨by rfl,?_⟩;intro w' i1;(try dsimp only at i1);(try go_simp);try with_reducible rfl)) (by assumption) ?_
     try simp only[bJ,bK,bH,bB]
    have j0:w3.heap.size<=bu:=by have:=(Ow.lt g3.out bu rfl).1;omega
    have j1:M.drew.cell? ⟨z+1+1,0,none⟩=some (.int .i64 0):=e6;have j2:M.drew.frozen? ⟨z+1+1,0,none⟩=false:=f6;have G7:Arr (M.drew.setCell ⟨z+1+1,0,none⟩ (.int .i64 (y:Int))) (z+1+1+1) 3 [.int .i64 0]:=Arr.other (w:=M.drew) d _ (by show _≠_;simp only[ne_eq];omega) _;have j3:=G7.cell (i:=0) rfl;have j4:=G7.free 0;have G8:Arr ((M.drew.setCell ⟨z+1+1,0,none⟩ (.int .i64 (y:Int))).setCell ⟨z+1+1+1,0,none⟩ (.int .i64 ((a:Int)+(m:Int)))) (z+1+1+1+1) 27 [.int .i64 0]:=(Arr.other (w:=M.drew) G _ (by show _≠_;simp only[ne_eq];omega) _).other _ (by show _≠_;simp only[ne_eq];omega) _
    have j5:=G8.cell (i:=0) rfl;have j6:=G8.free 0;have d5:=FQ d4 (q:=⟨z+1+1,0,none⟩) (nA (by omega)) (nA (by omega)) (nA (by omega)) (nA (by omega)) (.int .i64 (y:Int));have i2:=FQ d5 (q:=⟨z+1+1+1,0,none⟩) (nA (by omega)) (nA (by omega)) (nA (by omega)) (nA (by omega)) (.int .i64 ((a:Int)+(m:Int)));refine dJ (i:=9) (by kernel_rfl) rfl (fun K R=>?_);go_simp;refine R.out _ _ ?_ (fun _=>?_)
    ·exact FQ d4 (nA (by omega)) (nA (by omega)) (nA (by omega)) (nA (by omega)) _
    try simp only[bJ,bK,bH,bB]
    refine dJ (i:=10) (by kernel_rfl) rfl (fun K R=>?_);go_simp;refine R.out _ _ ?_ (fun _=>?_)
    ·exact FQ d5 (nA (by omega)) (nA (by omega)) (nA (by omega)) (nA (by omega)) _
    try simp only[bJ,bK,bH,bB]
    refine dJ (i:=11) (by kernel_rfl) rfl (fun K R=>?_);go_simp;refine R.out _ _ ?_ (fun _=>?_)
    ·exact FQ i2 (nA (by omega)) (nA (by omega)) (nA (by omega)) (nA (by omega)) _
    try simp only[bJ,bK,bH,bB]
    refine wpAnyH_done (by kernel_rfl) ?_ _;obtain⟨s1,s2,s3,s4⟩:=UV (W:=M.drew) (w:=w) I d G a4.drew (.int .i64 (y:Int)) (.int .i64 ((a:Int)+(m:Int))) (.int .i64 0)
    gi_wp2_with fail
    exact⟨((KeepsOthers.drew M).trans (((kJ M.drew _ _).trans (kJ _ _ _)).trans (kJ _ _ _))).from _,⟨rfl,_,_,_,a9,s1,s2,s3⟩,s4⟩
   ·have b9:=U b3;have d6:=hid b9
    by_cases j7:F<=V
    ·obtain⟨D,hD⟩:=ex1 (V-F);have m3:eZ.wrap ((V:Int)-(F:Int))=(D:Int):=by rw[fC];omega
     have m4:(V:Int)-(F:Int)=(D:Int):=by omega
     have m5:eZ.wrap (D:Int)=(D:Int):=by rw[fC];omega
     have t1:decide ((D:Int)<(C:Int))=false:=aE (by omega);have t2:decide (D<C)=false:=aE (by omega);clear a2 a1 U b9 b3 hD
     gi_wp2_with fail
     refine⟨trivial,fun _=>by omega,((callsIn_wide.2 (a7 _)).inRound l0).mono ?_⟩;rintro e M ⟨rfl,rfl⟩
     gi_wp2_with fail
     exact⟨KeepsFrom.refl _ _,bW.refl _ _,⟨by rw[dY];exact d6,Y,Z,I,d,G⟩,a4⟩
    ·obtain⟨D,hD⟩:=ex1 (V+18446744073709551616-F);have m3:eZ.wrap ((V:Int)-(F:Int))=(D:Int):=by rw[fC];omega
     have j8:((V:Int)-(F:Int))%18446744073709551616=(D:Int):=by omega
     have t1:decide ((D:Int)<(C:Int))=false:=aE (by omega);have t2:decide (D<C)=false:=aE (by omega);clear a2 a1 U b9 b3 hD
     gi_wp2_with fail
     refine⟨trivial,fun _=>by omega,((callsIn_wide.2 (a7 _)).inRound l0).mono ?_⟩;rintro e M ⟨rfl,rfl⟩
     gi_wp2_with fail
     exact⟨KeepsFrom.refl _ _,bW.refl _ _,⟨by rw[dY];exact d6,Y,Z,I,d,G⟩,a4⟩
  ·obtain⟨i3,d7⟩:=a2 d3;subst i3;have a9:=hid d7;clear a2 a1 U d7
   gi_wp2_with fail
   refine⟨trivial,fun _=>by omega,((callsIn_wide.2 (a7 _)).inRound l0).mono ?_⟩;rintro e M ⟨rfl,rfl⟩
   gi_wp2_with fail
   exact⟨(((kJ M _ _).trans (kJ _ _ _)).trans (kJ _ _ _)).from _,⟨rfl,0,0,2,a9,(b2.out _ _ _).1,(b2.out _ _ _).2.1,(b2.out _ _ _).2.2.1⟩,(b2.out _ _ _).2.2.2⟩
 case done=>
  rintro D xs W hD i4 ⟨⟨b0,Y,Z,I,d,G⟩,a4⟩ R;have d8:=b0.out;rw[i4] at d8;have a9:=hid (bB7 HE.out d8);have e6:=I.cell (i:=0) rfl;have e7:=d.cell (i:=0) rfl;have e8:=G.cell (i:=0) rfl;have f6:=I.free 0;have f7:=d.free 0;have f8:=G.free 0
  gi_wp2_with fail
  obtain⟨q6,q7,q8,q9⟩:=UV I d G a4 (.int .i64 0) (.int .i64 0) (.int .i64 3);have d9:=((((kJ W ⟨z+1+1,0,none⟩ (.int .i64 0)).trans (kJ _ ⟨z+1+1+1,0,none⟩ (.int .i64 0))).trans (kJ _ ⟨z+1+1+1+1,0,none⟩ (.int .i64 3))).same D _ R rfl);refine⟨by simp,.inl ⟨_,_,rfl,sE d9,?_⟩⟩;have q6:=(q6.grown (kV _ D (.deferred none)) (by simp;omega)).cell (i:=0) rfl;have q7:=(q7.grown (kV _ D (.deferred none)) (by simp;omega)).cell (i:=0) rfl
  have q8:=(q8.grown (kV _ D (.deferred none)) (by simp;omega)).cell (i:=0) rfl;refine⟨.tuple #[.int .i64 0,.int .i64 0,.int .i64 3],?_,by rw[a9.out],?_⟩
  ·simp[results,f199,go_sem,q6,q7,q8]
  ·rw[<-HZ.out];exact q9.trans (belowK_b (w:=w3) (by omega) _ D _ _ hD d9 rfl rfl)
 case stop=>
  rintro D c a6 W hD ⟨⟨rfl,r1,r2,r3,HR,I,d,G⟩,a4⟩ R
  gi_wp2_with fail
  refine⟨by simp,.inl ⟨_,_,rfl,sE R,?_⟩⟩;have q6:=(I.grown (kV _ D (.deferred none)) (by simp;omega)).cell (i:=0) rfl;have q7:=(d.grown (kV _ D (.deferred none)) (by simp;omega)).cell (i:=0) rfl;have q8:=(G.grown (kV _ D (.deferred none)) (by simp;omega)).cell (i:=0) rfl;refine⟨.tuple #[.int .i64 r1,.int .i64 r2,.int .i64 r3],?_,by rw[HR.out],?_⟩
  ·simp[results,f199,go_sem,q6,q7,q8]
  ·rw[<-HZ.out];exact a4.trans (belowK_b (w:=w3) (by omega) _ D _ _ hD R rfl rfl)
theorem bCd (v:Value) (l:List Int) (s:ByteArray) (a:Nat) (w:World) (d:RdI w v l) (A:bM l=0) (D:s.size<=1000000) (F:a<=100000000):
  Calls pG 199 #[v,.string s,.int .i64 (a:Int)] w fun e w'=>e=.returned (.tuple #[.int .i64 (dE l s.data.toList (a:Int)).1,.int .i64 (dE l s.data.toList (a:Int)).2.1,.int .i64 (dE l s.data.toList (a:Int)).2.2])/\Below w.heap.size w w':=
 callsIn_wide.1 (bCc 3 (aD _) v l s a w d A D F)
end
section
open Go.RowKit Go Go.Shelf
theorem bEf {s:List UInt8} {k:Nat} {b:UInt8} (h:s[k]? =some b):bP (s.take (k+1))=bP (s.take k)*256+b.toNat:=by grind [List.take_add_one,bP]
theorem bEg (V b:Nat) (d:b<256):V*256|||b=V*256+b:=by
 have:=Nat.two_pow_add_eq_or_of_lt (i:=8) (b:=b) d V
 grind
theorem bEh (p:Nat) (s:ByteArray) (I:Bool) (m:Nat) (w:World) (d:Arr w p 215 [.string s,.bool I]) (hm:m<=8) (hs:m<=s.size) (hz:s.size<=1000000000):
  Calls pG 124 #[.pointer (some ⟨p,0,none⟩),.int .i64 (m:Int)] w fun e w'=>e=.returned (.int .i64 (aJ.wrap (bP (s.data.toList.take m):Int)))/\Arr w' p 215 [.string (mkS (s.data.toList.drop m)),.bool (I||decide (9223372036854775808<=bP (s.data.toList.take m)))]/\w.grownBy w' (some p):=by
 have A:s.data.toList.length=s.size:=rfl;obtain⟨l,J⟩:=ex1 (s.data.toList);have R:∀k,(h:k<s.size)->l[k]? =some s[k]:=fun k h=>by
  rw[J,aN (by rw[A];exact h)];rfl
 have Y:=iW s m s.size;rw[<-J] at A Y ⊢;rw[List.take_of_length_le (by rw[List.length_drop,A];omega)] at Y;have HL:=hid A;have HS:=hid R;clear J A R;have c0:=d.cell (i:=0) rfl;have c1:=d.cell (i:=1) rfl;have f0:=d.free 0;have f1:=d.free 1;go_enter func124,ntmps124;go_wp2_with fail
 go_loopg [5,6,8] m (fun g s5 _s6 s8 wr=>∃(k:Nat) (V:Nat),k<=m/\g=m-k/\s8=.int .i64 (k:Int)/\s5=.int .u64 (V:Int)/\V=bP (l.take k)/\wr=w)
 case atStart=>exact⟨0,0,Nat.zero_le _,rfl,rfl,rfl,rfl,rfl⟩
 case round=>
  obtain⟨k,V,hk,L,rfl,rfl,D,rfl⟩:=hrel;have HG:=hid L;clear L
  by_cases a2:k<m
  ·have t1:decide ((k:Int)<(m:Int))=true:=aG (by omega);have a1:k<s.size:=by omega
   have Z:V<72057594037927936:=by
    have:=DD (s:=l.take k) (k:=7) (n:=72057594037927936) (by rw[aQ];omega) (by decide);omega
   have M:=bEf (HS.out k a1);rw[<-D] at M;have hb:=s[k].toNat_lt;obtain⟨U,F⟩:=ex1 (V*256);obtain⟨Q,O⟩:=ex1 (U+s[k].toNat);have e1:(V:Int)*256%18446744073709551616=(U:Int):=by omega
   have a3:eZ.wrap ((V:Int)*256)=(U:Int):=by rw[fC];omega
   have e2:bits .or .u64 (U:Int) (s[k].toNat:Int)=(Q:Int):=by rw[u64_or_nat _ _ (by omega) (by omega),F,bEg _ _ (by omega),O,F]
   have e3:(s[k].toNat:Int)%18446744073709551616=(s[k].toNat:Int):=by omega
   have a4:eZ.wrap (s[k].toNat:Int)=(s[k].toNat:Int):=by rw[fC];omega
   have HT:=hid (show Q=bP (l.take (k+1)) by rw[M,O,F]);clear M F O Z D;go_wp2_with fail;have L:=HG.out
   go_roundg (m-(k+1))
   ·exact⟨k+1,Q,by omega,rfl,by go_num,rfl,HT.out,rfl⟩
   ·omega
  ·have t1:decide ((k:Int)<(m:Int))=false:=aE (by omega);obtain rfl:k=m:=by omega
   have Z:V<18446744073709551616:=by
    have:=DD (s:=l.take k) (k:=8) (n:=18446744073709551616) (by rw[aQ];omega) (by decide);omega
   have HV:=hid D;clear D;have HW:=hid (show wrap64 (V:Int)=aJ.wrap (bP (l.take k):Int) by rw[<-HV.out];unfold wrap64;exact(aM _).symm);obtain⟨G,hG⟩:=ex1 (V/9223372036854775808);have e1:(V:Int)/9223372036854775808=(G:Int):=by omega
   have a0:G=0\/G=1:=by omega
   have HD:=hid (show decide (9223372036854775808<=V)=((G:Int)==1) by
    rcases a0 with rfl|rfl
    ·exact aE (by omega)
    ·exact aG (by omega))
   have t2:decide ((k:Int)<=(s.size:Int))=true:=aG (by omega);clear hG a0
   cases I with
   |true=>
    go_wp2_with fail;go_ret;exact⟨eI HW.out,(d.set 0 _).set 1 _,gbT (gbS _ _ _ _) (gbS _ _ _ _)⟩
   |false=>
    go_wp2_with fail;go_ret;refine⟨eI HW.out,?_,gbT (gbS _ _ _ _) (gbS _ _ _ _)⟩;rw[<-HV.out,Bool.false_or,HD.out];exact(d.set 0 _).set 1 _
end
section
open Go.RowKit Go Go.Shelf
attribute [local go_sem] mO
theorem Bld.same {w w':World} {B b:Nat} {l:List UInt8} (h:Bld w B b l) (A:∀k o,w.heap[k]? =some o->o.isCells=true->(k=b\/∃c d,o=.cells c 5 d)->w'.heap[k]? =some o):Bld w' B b l:=by
 have D:∀p,Lib.BuilderAtF 86 5 B b p (pU l) w->Lib.BuilderAtF 86 5 B b p (pU l) w':=by
  rintro p ⟨G,v,I,F,J⟩;refine⟨G,v,A b _ I rfl (.inl rfl),⟨F.1,?_⟩,J⟩;rcases F.2 with L|⟨g,cap,M,d,e,O,R,rest⟩
  ·exact .inl L
  ·exact .inr ⟨g,cap,M,d,e,O,A g _ R rfl (.inr ⟨_,_,rfl⟩),rest⟩
 exact h.elim (fun x=>.inl (D _ x)) (fun x=>.inr (D _ x))
theorem Bld.kept {w w':World} {B b:Nat} {l:List UInt8} {row:Option Nat} (h:Bld w B b l) (F:w.grownBy w' row) (G:∀r,row=some r->∃o:Obj,w.heap[r]? =some o/\o.isCells=false):Bld w' B b l:=
 h.same fun k o A D _=>(F.block k (Array.getElem?_eq_some_iff.1 A).1 (fun e=>by
  obtain⟨J,d,I⟩:=G k e.symm;rw[A] at d
  injection d with d
  rw[d,I] at D;exact absurd D (by decide))).trans A
end
end Go.Proofs.YtfckbfofgeilgaaGreatDoor
