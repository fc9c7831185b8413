/-
  Texts put together (part 20): the walks and the plain laws on which the statement stands.
-/
import Derived.Test.YtfplbbphficcjaaGreatDoorZ17
set_option maxRecDepth 100000
set_option maxHeartbeats 12800000
set_option linter.unusedVariables false
set_option linter.unusedSimpArgs false
open Go.Proofs.Tryz
open Go.Proofs.Tryz renaming prog->pG
open Go renaming grownBy_putObj'->kV,run_takeDeferred->sE
open Go.Act renaming put->bJ
open Go.IntKind renaming u64->eZ,wrap_u64->fC
open Go.KeepsOthers renaming setCell->kJ
open Go.RowKit.Below renaming refl->aH
open List renaming length_cons->aU,length_nil->aV,map_append->dY,setIfInBounds_toArray->bK,set_cons_succ->bB,set_cons_zero->bH,size_toArray->dB,take_length->jS
open Nat renaming le_refl->aD,le_trans->aR,reduceAdd->cV,reduceSub->dC
namespace Go.Proofs.YtfplbbphficcjaaGreatDoor
open Go.RowKit Go Go.Shelf
attribute [local go_sem] Oper.semAt_some
theorem aIt:∀(l:List Int) (a:Int),a<=l.foldl max a/\(∀x∈l,x<=l.foldl max a)/\(l.foldl max a=a\/l.foldl max a∈l)
 |[],a=>⟨by simp,fun x d=>by simp at d,.inl rfl⟩
 |y::l,a=>by
  obtain⟨e,h,A⟩:=aIt l (max a y)
  grind
theorem aIu {l:List Int} (h:gM l):mQ l∈l/\∀x∈l,x<=mQ l:=by
 obtain⟨D,d,e⟩:=aIt l 0;refine⟨?_,d⟩;rcases e with q|q
 ·exfalso;have A:0<l.length:=by have:=h.1;omega
  have F:=h.2.2 _ (List.getElem_mem A)
  grind [gM,mQ]
 ·exact q
theorem bB5 {l:List Int} {n:Nat} (h:0<cL l n):((n:Nat):Int)∈l:=by grind [cL,List.countP_pos_iff]
theorem UT {l:List Int} {n:Nat} (h:((n:Nat):Int)∈l):0<cL l n:=by grind [cL]
def CT (l:List Int) (s:List UInt8) (a:Nat) (S:List Nat):Prop:=∀n∈S,aP s.length (a:Int) n=0/\∀i,i<l.length->bL l i=n->¬lA l s a i
theorem UU {l:List Int} {n k:Nat}:n∈lU l k↔n<k/\0<cL l n:=by simp[lU,cL]
theorem bB6 {l:List Int} {s:List UInt8} {a n:Nat} (d:bM l=0) (A:0<cL l n) (h:CT l s a (lU l n)) (D:aP s.length (a:Int) n≠0):aP s.length (a:Int) n=2/\dE l s (a:Int)=(0,0,2):=by
 have e:=gE d;have F:8*(s.length:Int)-(n:Int)<(a:Int):=by
  unfold aP at D;omega
 refine⟨by unfold aP;rw[aA (by omega),aB F],?_⟩;rw[zI d,aB]
 ·have:=(aIu e.1).2 _ (bB5 A);omega
 ·intro i G H;have I:=lX e.1 G
  by_cases J:bL l i<n
  ·grind [bL,UU,UT,bM,cL,CT,lU,aP,dE]
  ·have:=H.1;omega
theorem bB7 {l:List Int} {s:List UInt8} {a:Nat} (e:bM l=0) (h:CT l s a (lU l 21)):dE l s (a:Int)=(0,0,3):=by
 have A:=gE e;obtain⟨d,G⟩:=aIu A.1;have D:=A.1.2.2 _ d;rw[zI e,aA]
 ·obtain⟨M,F⟩:∃M:Nat,mQ l=(M:Int):=⟨(mQ l).toNat,by omega⟩;rw[F] at d D ⊢;have:=iG (h M (UU.2 ⟨by omega,UT d⟩)).1;omega
 grind [lX,bL,UU,UT,bM,CT,lU,dE]
theorem bB8 {l:List Int} {s:List UInt8} {a n k y:Nat} (d:bM l=0) (A:aP s.length (a:Int) n=0) (e:(qG l n l.length)[k]? =some y) (D:aK s (a:Int) n=gY l n+k):dE l s (a:Int)=((y:Int),(a:Int)+(n:Int),0):=by
 have F:=gE d;obtain⟨G,h,H⟩:=aB1 l n l.length (aD _) k y e;have I:bL l y=n:=by unfold bL;rw[h];rfl
 grind [zH,TI,gZ,bM,aP,qG,aK,gY,dE]
theorem bB9 (l:List Int) (s:List UInt8) (a:Nat):CT l s a []:=fun n d=>by simp at d
theorem bCa {l:List Int} {s:List UInt8} {a n:Nat} {S:List Nat} (d:gM l) (h:CT l s a S) (e:aP s.length (a:Int) n=0) (A:¬(gY l n<=aK s (a:Int) n/\aK s (a:Int) n<gY l n+cL l n)):CT l s a (S++[n]):=by grind [TI,KL,gM,CT,aP,gY,aK,cL]
theorem bCb (w:World) (d A F H J:TypeId) (h D G I L:Value):∀W,W=((((w.alloc (.cells #[h] d)).alloc (.cells #[D] A)).alloc (.cells #[G] F)).alloc (.cells #[I] H)).alloc (.cells #[L] J)->
  (Arr W w.heap.size d [h]/\Arr W (w.heap.size+1) A [D]/\Arr W (w.heap.size+2) F [G]/\Arr W (w.heap.size+3) H [I]/\Arr W (w.heap.size+4) J [L])/\Below w.heap.size w W/\W.heap.size=w.heap.size+5:=by
 rintro W rfl;have V:=Arr.new w d [h];have M:=Arr.new (w.alloc (.cells #[h] d)) A [D];have O:=Arr.new ((w.alloc (.cells #[h] d)).alloc (.cells #[D] A)) F [G];have T:=Arr.new (((w.alloc (.cells #[h] d)).alloc (.cells #[D] A)).alloc (.cells #[G] F)) H [I];have U:=Arr.new ((((w.alloc (.cells #[h] d)).alloc (.cells #[D] A)).alloc (.cells #[G] F)).alloc (.cells #[I] H)) J [L];have e:∀(W:World) (o:Obj),(W.alloc o).heap.size=W.heap.size+1:=fun W o=>by simp
 rw[e] at M;rw[e,e] at O;rw[e,e,e] at T;rw[e,e,e,e] at U;refine⟨⟨(((V.alloc _).alloc _).alloc _).alloc _,((M.alloc _).alloc _).alloc _,(O.alloc _).alloc _,T.alloc _,U⟩,?_,by simp⟩;exact(((((aH _ w).alloc (aD _) _).alloc (by simp) _).alloc (by simp;omega) _).alloc (by simp;omega) _).alloc (by simp;omega) _
theorem UV {W w:World} {z:Nat} {A D F:TypeId} {G H I:Value} (J:Arr W (z+1+1) A [G]) (L:Arr W (z+1+1+1) D [H]) (M:Arr W (z+1+1+1+1) F [I]) (O:Below z w W) (d e h:Value):
  Arr (((W.setCell ⟨z+1+1,0,none⟩ d).setCell ⟨z+1+1+1,0,none⟩ e).setCell ⟨z+1+1+1+1,0,none⟩ h) (z+1+1) A [d]/\
  Arr (((W.setCell ⟨z+1+1,0,none⟩ d).setCell ⟨z+1+1+1,0,none⟩ e).setCell ⟨z+1+1+1+1,0,none⟩ h) (z+1+1+1) D [e]/\
  Arr (((W.setCell ⟨z+1+1,0,none⟩ d).setCell ⟨z+1+1+1,0,none⟩ e).setCell ⟨z+1+1+1+1,0,none⟩ h) (z+1+1+1+1) F [h]/\
  Below z w (((W.setCell ⟨z+1+1,0,none⟩ d).setCell ⟨z+1+1+1,0,none⟩ e).setCell ⟨z+1+1+1+1,0,none⟩ h):=
 ⟨((J.set 0 d).other _ (by simp) e).other _ (by grind) h,((L.other _ (by simp) d).set 0 e).other _ (by simp) h,((M.other _ (by simp) d).other _ (by simp) e).set 0 h,
  ((O.setCell (p:=⟨z+1+1,0,none⟩) (by grind) _).setCell (p:=⟨z+1+1+1,0,none⟩) (by grind) _).setCell (p:=⟨z+1+1+1+1,0,none⟩) (by grind) _⟩
theorem bCc (n:Nat) (hn:3<=n) (v:Value) (l:List Int) (s:ByteArray) (a:Nat) (w:World) (hr:RdI w v l) (hE:bM l=0) (hs:s.size<=1000000) (ha:a<=100000000):
  CallsIn Fence.wide n pG 151 #[v,.string s,.int .i64 (a:Int)] w fun e w'=>e=.returned (.tuple #[.int .i64 (dE l s.data.toList (a:Int)).1,.int .i64 (dE l s.data.toList (a:Int)).2.1,.int .i64 (dE l s.data.toList (a:Int)).2.2])/\Below w.heap.size w w':=by
 have h1:1<=n:=by omega
 obtain⟨ad,M,rfl,i4,d9,hA⟩:=hr.open;unfold maxLen at d9;have a4:=gE hE;have HO:=hid a4.1;have e0:=hid (fun k (hk:k<=20)=>LY (i:=0) a4.1 a4.2 hk);have e1:=a4.1.2.1;have i5:=a4.1.1;have HE:=hid hE;have HL:=hid (show s.data.toList.length=s.size by simp);obtain⟨I,J,rfl,b9,c0⟩:=hA (by omega);have e2:=hid c0;refine callsIn_of_wp_marks func151 rfl trivial ?_ rfl;simp only[ntmps151,dB,aU,aV,cV,dC,Array.replicate_succ,Array.replicate_zero,List.push_toArray,List.append_toArray,List.nil_append,List.cons_append]
 clear c0 hA a4
 gi_wp2_with fail
 obtain⟨⟨U,Y,H,d,G⟩,b3,e3⟩:=bCb w 9 3 3 3 29 (.string s) (.int .i64 (a:Int)) (.int .i64 0) (.int .i64 0) (.int .i64 0) _ rfl;generalize ((((w.alloc (.cells #[.string s] 9)).alloc (.cells #[.int .i64 (a:Int)] 3)).alloc (.cells #[.int .i64 0] 3)).alloc (.cells #[.int .i64 0] 3)).alloc (.cells #[.int .i64 0] 29)=w0 at*
 refine⟨trivial,(callsIn_wide.2 (FK _ l _ (hr.below b3))).mono ?_⟩;rintro e w1 ⟨rfl,a2⟩;rw[hE];obtain⟨z,hz⟩:∃z,z=w.heap.size:=⟨_,rfl⟩;have e9:=a2.size;have U:=U.below a2 (by omega);have Y:=Y.below a2 (by omega);have H:=H.below a2 (by omega);have d:=d.below a2 (by omega);have G:=G.below a2 (by omega);have c1:Below w.heap.size w w1:=b3.trans (a2.mono (by omega));clear b3 a2 hr hE
 gi_wp2_with fail
 refine⟨trivial,(aIb (n-1) I J l.length M _).mono ?_⟩;rintro e w' ⟨rfl,rfl⟩;have g9:=Arr.new w1 55 [.slice (some ⟨I,J,none⟩) l.length M];have U:=U.alloc (.cells #[.slice (some ⟨I,J,none⟩) l.length M] 55);have Y:=Y.alloc (.cells #[.slice (some ⟨I,J,none⟩) l.length M] 55);have H:=H.alloc (.cells #[.slice (some ⟨I,J,none⟩) l.length M] 55);have d:=d.alloc (.cells #[.slice (some ⟨I,J,none⟩) l.length M] 55);have G:=G.alloc (.cells #[.slice (some ⟨I,J,none⟩) l.length M] 55);have b4:=c1.alloc (o:=.cells #[.slice (some ⟨I,J,none⟩) l.length M] 55) (by omega)
 have f0:(w1.alloc (.cells #[.slice (some ⟨I,J,none⟩) l.length M] 55)).heap.size=w1.heap.size+1:=by simp
 have f1:∀i x,l[i]? =some x->(w1.alloc (.cells #[.slice (some ⟨I,J,none⟩) l.length M] 55)).cell? ⟨I,J+i,none⟩=some (.int .i64 x):=fun i x hi=>(b4.cell (p:=⟨I,J+i,none⟩) b9).trans (e2.out i x hi)
 obtain⟨Bs,c2⟩:∃Bs,Bs=w1.heap.size:=⟨_,rfl⟩
 gi_wp2_with fail
 change Arr (w1.alloc (.cells #[.slice (some ⟨I,J,none⟩) l.length M] 55)) _ _ _ at g9;generalize w1.alloc (.cells #[.slice (some ⟨I,J,none⟩) l.length M] 55)=w3 at*
 rw[<-c2] at g9 f0 e9 ⊢;rw[<-hz] at U Y H d G e3 b4 b9 ⊢;have HZ:=hid hz;clear c2 hz c1;refine aG7 (w0:=w3) (Kp:=bW (some (z+1+1))) (Pre:=CS l) (encs:=yB l) h1 (gf:=189) (lb:=#[.pointer (some ⟨Bs,0,none⟩)]) rfl (enters_of func189 (by kernel_rfl) rfl)
  (aIc (n-1) (by omega) Bs (z+1+1) I J M l HE.out w3 g9 f1 (by omega) (by omega) (by omega) (by omega)) (aH _ _) (fun _=>rfl)
  (fun h k=>h.trans k) (fun _ _ h=>h.some _) aId
  (fun a5 W=>(Hid (CT l s.data.toList a (a5.map (·.1)))/\Arr W z 9 [.string s]/\Arr W (z+1) 3 [.int .i64 (a:Int)]/\Arr W (z+1+1) 3 [.int .i64 0]/\Arr W (z+1+1+1) 3 [.int .i64 0]/\Arr W (z+1+1+1+1) 29 [.int .i64 0])/\Below z w W)
  (fun c _ W=>(c=.ret/\∃r1 r2 r3,Hid (dE l s.data.toList (a:Int)=(r1,r2,r3))/\Arr W (z+1+1) 3 [.int .i64 r1]/\Arr W (z+1+1+1) 3 [.int .i64 r2]/\Arr W (z+1+1+1+1) 29 [.int .i64 r3])/\Below z w W)
  (fun a5 A B ⟨⟨h,k1,k2,k3,k4,k5⟩,k6⟩ Z=>⟨⟨h,k1.below Z (by omega),k2.below Z (by omega),k3.below Z (by omega),k4.below Z (by omega),k5.below Z (by omega)⟩,k6.trans (Z.mono (by omega))⟩)
  (fun c a5 A B ⟨⟨h,r1,r2,r3,h',k1,k2,k3⟩,k6⟩ Z=>⟨⟨h,r1,r2,r3,h',k1.below Z (by omega),k2.below Z (by omega),k3.below Z (by omega)⟩,k6.trans (Z.mono (by omega))⟩)
  ⟨⟨hid (bB9 _ _ _),U,Y,H,d,G⟩,b4⟩
  (fun x a' W=>∃sb,w3.heap.size<=sb/\Arr W sb 261 [.int .i64 (x.1:Int),.int .u64 (gY l x.1:Int),x.2]/\a'={tmps:=#[.slice (some ⟨I,J,none⟩) l.length M,.string s,.int .i64 (a:Int),undef,.pointer (some ⟨z,0,none⟩),.pointer (some ⟨z+1,0,none⟩),.pointer (some ⟨z+1+1,0,none⟩),.pointer (some ⟨z+1+1+1,0,none⟩),.pointer (some ⟨z+1+1+1+1,0,none⟩),.int .i64 0,.pointer (some ⟨sb,0,none⟩),undef,undef,.slice (some ⟨I,J,none⟩) l.length M,.int .i64 0,.int .i64 0,.bool false,undef,.slice (some ⟨I,J,none⟩) l.length M,.func (.func 189) #[] #[.pointer (some ⟨Bs,0,none⟩)],.agg #[.int .i64 (x.1:Int),.int .u64 (gY l x.1:Int),x.2],undef,undef,undef,undef,undef,undef,undef,undef,undef,undef,undef,undef,undef,undef,undef,undef,undef,undef,undef,undef,undef,undef,undef,undef,undef,undef,undef,undef,undef,undef],defers:=[]})
  (fun x a' A A' ⟨sb,k1,k2,k3⟩ hk=>⟨sb,k1,hk.arr k2 (by simp),k3⟩) ?assign ?body ?done ?stop
 case assign=>
  rintro l0 B a5 ⟨m,u⟩ W K hI hB f2 f3 O;obtain⟨a',b5,a7,_,_,_⟩:=(OwI.rd f3.2.2.2.2).open;dsimp only at a7;subst a7;unfold yB
  gi_wp2
  exact O _ _ (bD (aH _ _) _) ⟨W.heap.size,by omega,Arr.new W _ [_,_,_],rfl⟩
 case body=>
  rintro l0 B a5 ⟨m,u⟩ a' W ⟨⟨a9,U,Y,H,d,G⟩,a3⟩ hB f2 ⟨_,⟨f4,b6⟩,c3,b7,ho⟩ ⟨sb,i6,hS,rfl⟩;dsimp only at f4 b6 c3 b7 ho hS ⊢;obtain⟨C,hC⟩:∃C,C=cL l m:=⟨_,rfl⟩;have c4:(pA l m l.length).length=C:=by rw[MU l m _ (aD _),jS,hC]
  have c5:(qG l m l.length).length=C:=by rw[KN l m _ (aD _),jS,hC]
  have i7:C<=258:=by rw[hC];unfold cL;exact aR List.countP_le_length e1
  have f5:gY l m<=1048576:=by
   have:=e0.out m b6;unfold lS at this;omega
  obtain⟨a',b5,a7,h4,h5,h6⟩:=(OwI.rd ho).open;rw[c4] at a7 h4 h6;obtain⟨bu,ou,rfl,i8,c6⟩:=h6 (by omega);subst a7;have a1:=bB6 (s:=s.data.toList) (a:=a) HE.out (by omega:0<cL l m);rw[<-b7] at a1;have a1:=a1 a9.out;have a0:=fun k y=>bB8 (s:=s.data.toList) (a:=a) (n:=m) (k:=k) (y:=y) HE.out
  have T:=bCa (s:=s.data.toList) (a:=a) (n:=m) HO.out a9.out;rw[HL.out] at a1 a0 T;have a6:=fun W=>uQ s (a:Int) m W hs (by omega) (by omega) (by omega)
  have c7:=jV s.data.toList (a:Int) m;have f9:aK s.data.toList (a:Int) m<1048576:=Nat.lt_of_lt_of_le c7 (aR (Nat.pow_le_pow_right (by decide) b6) (by decide));obtain⟨E,c8⟩:∃E,E=aP s.size (a:Int) m:=⟨_,rfl⟩;obtain⟨V,hV⟩:∃V,V=aK s.data.toList (a:Int) m:=⟨_,rfl⟩;obtain⟨F,hF⟩:∃F,F=gY l m:=⟨_,rfl⟩;rw[<-hF] at hS f5 T;rw[<-hF] at a0;rw[<-hC] at T;rw[<-c8] at a1 a0 T a6;rw[<-hV] at a0 T a6 f9;have d0:=hS.cell (i:=0) rfl;have d1:=hS.cell (i:=1) rfl;have d2:=hS.cell (i:=2) rfl;have e4:=U.cell (i:=0) rfl;have e5:=Y.cell (i:=0) rfl;have e6:=H.cell (i:=0) rfl
  have e7:=d.cell (i:=0) rfl;have e8:=G.cell (i:=0) rfl;have f6:=H.free 0;have f7:=d.free 0;have f8:=G.free 0;have b0:=hid (UV H d G a3);have g0:=hid c5;have g1:=hid c6;have g2:=hid ho;clear c7 hV c8 hF hC c4 c5 c6 c3 b7 ho
  by_cases c9:E=0
  ·subst c9;have a0:=fun k y=>a0 k y rfl
   have T:=T rfl;have m1:eZ.wrap (C:Int)=(C:Int):=by rw[fC];omega
   have m2:(C:Int)%18446744073709551616=(C:Int):=by omega
   by_cases b2:F<=V/\V<F+C
   ·obtain⟨D,hD⟩:∃D,D=V-F:=⟨_,rfl⟩;have g3:D<C:=by omega
    obtain⟨y,hy⟩:∃y,(qG l m l.length)[D]? =some y:=⟨_,List.getElem?_eq_getElem (by rw[g0.out];exact g3)⟩;have a8:=hid (a0 D y hy (by omega));have cu:W.cell? ⟨bu,ou+D,none⟩=some (.int .i64 (y:Int)):=g1.out D _ (by unfold pA;rw[List.getElem?_map,hy];rfl);have m3:eZ.wrap ((V:Int)-(F:Int))=(D:Int):=by rw[fC];omega
    have m4:(V:Int)-(F:Int)=(D:Int):=by omega
    have m5:eZ.wrap (D:Int)=(D:Int):=by rw[fC];omega
    have m6:IntKind.i64.wrap ((a:Int)+(m:Int))=(a:Int)+(m:Int):=by rw[IntKind.wrap_i64];omega
    have t1:decide ((D:Int)<(C:Int))=true:=aG (by omega);have q1:(D:Int)<(C:Int):=by omega
    clear a1 a0 T b2 hD hy
    gi_wp2_with fail
    refine⟨trivial,fun _=>by omega,((callsIn_wide.2 (a6 _)).inRound l0).mono ?_⟩;rintro e L ⟨rfl,rfl⟩
    gi_wp2_with fail
    refine aG9 (by omega) (fun w'=>w'.cell? ⟨sb,0,none⟩=some (.int .i64 (m:Int))/\w'.cell? ⟨sb,2,none⟩=some (.slice (some ⟨bu,ou,none⟩) C b5)/\w'.cell? ⟨bu,ou+D,none⟩=some (.int .i64 (y:Int))/\w'.cell? ⟨z+1,0,none⟩=some (.int .i64 (a:Int))) (by kernel_rfl) (fun⟨_,_,h⟩=>(h:False).elim) (by kernel_rfl) ?_;have d3:L.drew.cell? ⟨sb,0,none⟩=some (.int .i64 (m:Int))/\L.drew.cell? ⟨sb,2,none⟩=some (.slice (some ⟨bu,ou,none⟩) C b5)/\L.drew.cell? ⟨bu,ou+D,none⟩=some (.int .i64 (y:Int))/\L.drew.cell? ⟨z+1,0,none⟩=some (.int .i64 (a:Int)):=⟨d0,d2,cu,e5⟩
    iterate 9
     refine fV 0 0 (by simp only[dB,aU,aV,cV,dC]<;>rfl) (by simp only[List.getElem?_toArray,List.getElem?_cons_succ,List.getElem?_cons_zero];rfl) (by kernel_rfl) (by exact fun _ _ _ h=>h) (by first|exact Or.inr ⟨by rfl,rfl⟩|(refine Or.inl ⟨by rfl,?_⟩;intro w' i0;(try dsimp only at i0);(try go_simp);try with_reducible rfl)) (by assumption) ?_
     try simp only[bJ,bK,bH,bB]
    have i9:w3.heap.size<=bu:=by have:=(Ow.lt g2.out bu rfl).1;omega
    have j0:L.drew.cell? ⟨z+1+1,0,none⟩=some (.int .i64 0):=e6;have j1:L.drew.frozen? ⟨z+1+1,0,none⟩=false:=f6;have G7:Arr (L.drew.setCell ⟨z+1+1,0,none⟩ (.int .i64 (y:Int))) (z+1+1+1) 3 [.int .i64 0]:=Arr.other (w:=L.drew) d _ (by show _≠_;simp only[ne_eq];omega) _;have j2:=G7.cell (i:=0) rfl;have j3:=G7.free 0;have G8:Arr ((L.drew.setCell ⟨z+1+1,0,none⟩ (.int .i64 (y:Int))).setCell ⟨z+1+1+1,0,none⟩ (.int .i64 ((a:Int)+(m:Int)))) (z+1+1+1+1) 29 [.int .i64 0]:=(Arr.other (w:=L.drew) G _ (by show _≠_;simp only[ne_eq];omega) _).other _ (by show _≠_;simp only[ne_eq];omega) _
    have j4:=G8.cell (i:=0) rfl;have j5:=G8.free 0;have d4:=FQ d3 (q:=⟨z+1+1,0,none⟩) (nA (by omega)) (nA (by omega)) (nA (by omega)) (nA (by omega)) (.int .i64 (y:Int));have i1:=FQ d4 (q:=⟨z+1+1+1,0,none⟩) (nA (by omega)) (nA (by omega)) (nA (by omega)) (nA (by omega)) (.int .i64 ((a:Int)+(m:Int)));refine dJ (i:=9) (by kernel_rfl) rfl (fun K O=>?_);go_simp;refine O.out _ _ ?_ (fun _=>?_)
    ·exact FQ d3 (nA (by omega)) (nA (by omega)) (nA (by omega)) (nA (by omega)) _
    try simp only[bJ,bK,bH,bB]
    refine dJ (i:=10) (by kernel_rfl) rfl (fun K O=>?_);go_simp;refine O.out _ _ ?_ (fun _=>?_)
    ·exact FQ d4 (nA (by omega)) (nA (by omega)) (nA (by omega)) (nA (by omega)) _
    try simp only[bJ,bK,bH,bB]
    refine dJ (i:=11) (by kernel_rfl) rfl (fun K O=>?_);go_simp;refine O.out _ _ ?_ (fun _=>?_)
    ·exact FQ i1 (nA (by omega)) (nA (by omega)) (nA (by omega)) (nA (by omega)) _
    try simp only[bJ,bK,bH,bB]
    refine wpAnyH_done (by kernel_rfl) ?_ _;obtain⟨s1,s2,s3,s4⟩:=UV (W:=L.drew) (w:=w) H d G a3.drew (.int .i64 (y:Int)) (.int .i64 ((a:Int)+(m:Int))) (.int .i64 0)
    gi_wp2_with fail
    exact⟨((KeepsOthers.drew L).trans (((kJ L.drew _ _).trans (kJ _ _ _)).trans (kJ _ _ _))).from _,⟨rfl,_,_,_,a8,s1,s2,s3⟩,s4⟩
   ·have b8:=T b2;have d5:=hid b8
    by_cases j6:F<=V
    ·obtain⟨D,hD⟩:∃D,D=V-F:=⟨_,rfl⟩;have m3:eZ.wrap ((V:Int)-(F:Int))=(D:Int):=by rw[fC];omega
     have m4:(V:Int)-(F:Int)=(D:Int):=by omega
     have m5:eZ.wrap (D:Int)=(D:Int):=by rw[fC];omega
     have t1:decide ((D:Int)<(C:Int))=false:=aE (by omega);have t2:decide (D<C)=false:=aE (by omega);clear a1 a0 T b8 b2 hD
     gi_wp2_with fail
     refine⟨trivial,fun _=>by omega,((callsIn_wide.2 (a6 _)).inRound l0).mono ?_⟩;rintro e L ⟨rfl,rfl⟩
     gi_wp2_with fail
     exact⟨KeepsFrom.refl _ _,bW.refl _ _,⟨by rw[dY];exact d5,U,Y,H,d,G⟩,a3⟩
    ·obtain⟨D,hD⟩:∃D,D=V+18446744073709551616-F:=⟨_,rfl⟩;have m3:eZ.wrap ((V:Int)-(F:Int))=(D:Int):=by rw[fC];omega
     have j7:((V:Int)-(F:Int))%18446744073709551616=(D:Int):=by omega
     have t1:decide ((D:Int)<(C:Int))=false:=aE (by omega);have t2:decide (D<C)=false:=aE (by omega);clear a1 a0 T b8 b2 hD
     gi_wp2_with fail
     refine⟨trivial,fun _=>by omega,((callsIn_wide.2 (a6 _)).inRound l0).mono ?_⟩;rintro e L ⟨rfl,rfl⟩
     gi_wp2_with fail
     exact⟨KeepsFrom.refl _ _,bW.refl _ _,⟨by rw[dY];exact d5,U,Y,H,d,G⟩,a3⟩
  ·obtain⟨i2,d6⟩:=a1 c9;subst i2;have a8:=hid d6;clear a1 a0 T d6
   gi_wp2_with fail
   refine⟨trivial,fun _=>by omega,((callsIn_wide.2 (a6 _)).inRound l0).mono ?_⟩;rintro e L ⟨rfl,rfl⟩
   gi_wp2_with fail
   exact⟨(((kJ L _ _).trans (kJ _ _ _)).trans (kJ _ _ _)).from _,⟨rfl,0,0,2,a8,(b0.out _ _ _).1,(b0.out _ _ _).2.1,(b0.out _ _ _).2.2.1⟩,(b0.out _ _ _).2.2.2⟩
 case done=>
  rintro D xs W hD i3 ⟨⟨a9,U,Y,H,d,G⟩,a3⟩ O;have d7:=a9.out;rw[i3] at d7;have a8:=hid (bB7 HE.out d7);have e6:=H.cell (i:=0) rfl;have e7:=d.cell (i:=0) rfl;have e8:=G.cell (i:=0) rfl;have f6:=H.free 0;have f7:=d.free 0;have f8:=G.free 0
  gi_wp2_with fail
  obtain⟨q6,q7,q8,q9⟩:=UV H d G a3 (.int .i64 0) (.int .i64 0) (.int .i64 3);have d8:=((((kJ W ⟨z+1+1,0,none⟩ (.int .i64 0)).trans (kJ _ ⟨z+1+1+1,0,none⟩ (.int .i64 0))).trans (kJ _ ⟨z+1+1+1+1,0,none⟩ (.int .i64 3))).same D _ O rfl);refine⟨by simp,.inl ⟨_,_,rfl,sE d8,?_⟩⟩;have q6:=(q6.grown (kV _ D (.deferred none)) (by simp;omega)).cell (i:=0) rfl;have q7:=(q7.grown (kV _ D (.deferred none)) (by simp;omega)).cell (i:=0) rfl
  have q8:=(q8.grown (kV _ D (.deferred none)) (by simp;omega)).cell (i:=0) rfl;refine⟨.tuple #[.int .i64 0,.int .i64 0,.int .i64 3],?_,by rw[a8.out],?_⟩
  ·simp[results,f151,go_sem,q6,q7,q8]
  ·rw[<-HZ.out];exact q9.trans (belowK_b (w:=w3) (by omega) _ D _ _ hD d8 rfl rfl)
 case stop=>
  rintro D c a5 W hD ⟨⟨rfl,r1,r2,r3,HR,H,d,G⟩,a3⟩ O
  gi_wp2_with fail
  refine⟨by simp,.inl ⟨_,_,rfl,sE O,?_⟩⟩;have q6:=(H.grown (kV _ D (.deferred none)) (by simp;omega)).cell (i:=0) rfl;have q7:=(d.grown (kV _ D (.deferred none)) (by simp;omega)).cell (i:=0) rfl;have q8:=(G.grown (kV _ D (.deferred none)) (by simp;omega)).cell (i:=0) rfl;refine⟨.tuple #[.int .i64 r1,.int .i64 r2,.int .i64 r3],?_,by rw[HR.out],?_⟩
  ·simp[results,f151,go_sem,q6,q7,q8]
  ·rw[<-HZ.out];exact a3.trans (belowK_b (w:=w3) (by omega) _ D _ _ hD O rfl rfl)
theorem bCd (v:Value) (l:List Int) (s:ByteArray) (a:Nat) (w:World) (d:RdI w v l) (h:bM l=0) (A:s.size<=1000000) (D:a<=100000000):
  Calls pG 151 #[v,.string s,.int .i64 (a:Int)] w fun e w'=>e=.returned (.tuple #[.int .i64 (dE l s.data.toList (a:Int)).1,.int .i64 (dE l s.data.toList (a:Int)).2.1,.int .i64 (dE l s.data.toList (a:Int)).2.2])/\Below w.heap.size w w':=
 callsIn_wide.1 (bCc 3 (aD _) v l s a w d h A D)
end Go.Proofs.YtfplbbphficcjaaGreatDoor
