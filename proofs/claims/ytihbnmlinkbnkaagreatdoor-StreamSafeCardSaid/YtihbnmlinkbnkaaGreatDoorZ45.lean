/-
  Texts put together (part 45): the walks and the plain laws on which the statement stands.
-/
import Derived.Test.YtihbnmlinkbnkaaGreatDoorZ34
import Derived.Test.YtihbnmlinkbnkaaGreatDoorZ44
set_option maxRecDepth 100000
set_option maxHeartbeats 12800000
set_option linter.unusedVariables false
set_option linter.unusedSimpArgs false
open Go.Proofs.Tryz
open Go.Proofs.Tryz renaming prog->pG
open ByteArray renaming data_append->BC,size_append->rG
open Go.Lib renaming toList_data->pY
open Go.RowKit.Below renaming refl->aH
open List renaming append_assoc->bU,mem_singleton->cP,replicate->aX
namespace Go.Proofs.YtihbnmlinkbnkaaGreatDoor
open Go.RowKit Go Go.Shelf
theorem bG2 {s:List UInt8} {a n:Nat} {l:List ByteArray} (h:cR s a (iD (cM n l))):
  cR s (a+32) (fN l++(aT 0x177245385090 48++(aT (EV l).toNat 32++aX (jP (cM n l).length) false))):=by
 unfold iD at h;have d:cM n l++aX (jP (cM n l).length) false=eR (iN n)++(fN l++(aT 0x177245385090 48++(aT (EV l).toNat 32++aX (jP (cM n l).length) false))):=by
  unfold cM;simp
 rw[d] at h;have:=(gN h).2;rwa[qU,show(iN n).length=4 from rfl] at this
theorem bBu {s:List UInt8} {r:Int} (G:r<=360) {v:Nat} (H:v<2^32) {m:List Bool}:∀(l:List ByteArray) (f a:Nat) (acc:List Prt),(∀t∈l,okT r t)->l.length<f->
  cR s a (fN l++(aT 0x177245385090 48++(aT v 32++m)))->v≠(sU (acc++lB r a l)).toNat->(eE s r f (a:Int) acc).2.2=7
 |[],0,_,_,_,d,_,_=>absurd d (by simp)
 |[],f+1,a,acc,_,_,h,I=>by
  have M:fN []=[]:=rfl;rw[M,List.nil_append] at h;obtain⟨A,F⟩:=gN h;rw[dV] at F;obtain⟨O,_⟩:=gN F;have U:=qY A (by decide);have g2:=qY O H
  grind [lB,eE,kS,okT,cR,fN,aT,sU]
 |t::l,0,_,_,_,d,_,_=>absurd d (by simp)
 |t::l,f+1,a,acc,J,d,h,I=>by
  rw[MV,bU] at h;obtain⟨A,F⟩:=gN h;obtain⟨R,V⟩:=SN t;have L:=A;rw[V] at L;have U:=qY (gN L).1 (by decide);obtain⟨Z,o2,o3⟩:=J t (List.mem_cons_self ..);have a0:=aDj Z o2 o3 G A;have ih:=bBu G H l f (a+(eJ t).length) (acc++[⟨t,((cH t.data.toList).toNat:Int),(a:Int),((a+(eJ t).length:Nat):Int),r⟩]) (fun x hx=>J x (List.mem_cons_of_mem _ hx)) (by grind) F (by rw[bU];exact I);unfold eE
  grind
theorem GE {s:ByteArray} {E:Int} (h:(cI s.data.toList).2=E) (d:E≠0) (A:s.size<=120000) (w:World) (F:dU w):
  Calls pG 18 #[.string s] w fun e w'=>e=.returned (.tuple #[.string ⟨#[]⟩,.int .i64 E])/\Below w.heap.size w w':=by
 have k:=aJk s w F A;rw[bDn (by rw[h];exact d),h] at k;exact k
theorem bDo {l:List (Nat×List ByteArray)} (d:l≠[]) (A:okA l) (F:(aZ l).size<=120000) (w:World) (G:dU w):
  Calls pG 20 #[.string (aZ l)] w fun e w'=>∃v,e=.returned (.tuple #[v,.int .i64 0])/\RdI w' v (l.map (fun p=>p.2.map (fun _=>40*(p.1:Int)))).flatten/\Below w.heap.size w w':=by
 have h:=aJj (aZ l) w G F;obtain⟨H,I⟩:=GD d A;rw[H,I,aDy] at h;exact h
theorem aJm (n:Int) (v:Value) (l:List ByteArray) (w:World) (A:RdT w v l) (L:l.length<=5) (F:∀t∈l,t.size<=1000) (E:Int) (d:wrE n l=E) (G:E≠0) (M:0<=n) (O:n<=9):
  Calls pG 12 #[.int .i64 n,v] w fun e w'=>e=.returned (.tuple #[.string ⟨#[]⟩,.int .i64 E])/\Below w.heap.size w w':=by
 refine(UN n v l w A (by omega) (fun t H=>by have:=F t H;omega) (by omega) (by omega) (fun k U I=>?_)).mono ?_
 ·have:=yC (r:=40*n) (by omega) (l.take k) I;rw[List.length_take] at this;omega
 ·rintro e w' (⟨h,-,-,-⟩|⟨-,rfl,J⟩)
  ·rw[d] at h;exact absurd h G
  ·exact⟨by rw[d],J⟩
theorem bDp:vC [nR,xS]:=fun t d=>by
 rcases List.mem_cons.1 d with rfl|d
 ·exact⟨by decide,by decide,by decide⟩
 ·obtain rfl:=cP.1 d;exact⟨by decide,by decide,by decide⟩
theorem aKv {s:ByteArray} {l:List UInt8} (h:s.data.toList=l):(s.toList==l)=true:=by rw[pY,h];simp
theorem GO (s:ByteArray) (k:Nat):(s.extract 0 k).data.toList=s.data.toList.take k:=by simp
theorem bHd (w:World) (hE:dU w):Calls pG 9 #[] w fun e w'=>e=.returned (.bool true)/\Below w.heap.size w w':=by
 go_enter func9,ntmps9;go_wp2_with fail;refine(VG 1 (.slice none 0 0) [] _ (RdT.nil _) (by decide) (fun t J=>by simp at J) (by decide) (by decide)).mono ?_;rintro e w1 ⟨rfl,O,a3⟩;have a4:=hE.below a3;have a5:=aJl 1;have a6:=(NG 1 []).1;have U:∀W,dU W->Calls pG 18 #[.string (aZ [(1,[])])] W fun e w'=>e=.returned (.tuple #[.string ⟨#[]⟩,.int .i64 0])/\Below W.heap.size W w':=fun W h=>CY (l:=[(1,[])]) (by simp) O (by omega) W h
 obtain⟨A,hA⟩:∃A,A=aZ [(1,[])]:=⟨_,rfl⟩;rw[<-hA] at a5 a6 U ⊢;have f2:((A.extract 0 4).toList==[80,77,107,49])=true:=aKv (by rw[GO,a6];rfl);obtain⟨I,V⟩:∃I:ByteArray,I=⟨#[]⟩:=⟨_,rfl⟩;have f3:I.toList.isEmpty=true:=by rw[pY,V];rfl
 rw[<-V] at U;have HA:=hid hA;have Z:=hid V;clear hA V a6;go_wp2_with fail;refine(U _ a4).mono ?_;rintro e w2 ⟨rfl,a7⟩;have c1:=a4.below a7;have c2:=aW a3 a7;clear U a4 a3 a7;go_wp2_with fail;refine(VG 2 (.slice (some ⟨w2.heap.size,0,none⟩) 2 2) [nR,xS] _ (uF w2 9 [.string nR,.string xS] 2 rfl (by decide)) (by decide) bDp (by decide) (by decide)).mono ?_;rintro e w3 ⟨rfl,a0,c3⟩;have a8:=aW (bD (aH _ _) (.cells #[.string nR,.string xS] 9)) c3;have a9:=c1.below a8;have c4:=aW c2 a8;have b0:=wQ a0;have e4:=(NG 2 [nR,xS]).2
 obtain⟨d,L⟩:∃d,d=aZ [(2,[nR,xS])]:=⟨_,rfl⟩;rw[<-L] at b0 e4 ⊢;have f4:d.size<=7100:=Nat.le_trans b0 (by decide);have f5:d.toList.isEmpty=false:=xK (by omega);have b1:=NE a0 O;have M:d++A=aZ ([(2,[nR,xS])]++[(1,[])]):=by rw[L,HA.out,AG]
 obtain⟨C,H⟩:∃C,C=d++A:=⟨_,rfl⟩;have f6:=H.symm;have f7:C.size<=7200:=by rw[H,rG];omega
 have q1:¬9223372036854775807<d.size+A.size:=by omega
 have f8:¬9223372036854775807<C.size:=by omega
 obtain⟨T,hT⟩:∃T:ByteArray,T=⟨#[98,97,110,97,110,97,120]⟩:=⟨_,rfl⟩;have f9:(T.toList==[98,97,110,97,110,97,120])=true:=aKv (by rw[hT]);have c5:∀W,dU W->Calls pG 18 #[.string C] W fun e w'=>e=.returned (.tuple #[.string T,.int .i64 0])/\Below W.heap.size W w':=fun W h=>by
  rw[hT];have k:=CY (l:=[(2,[nR,xS])]++[(1,[])]) (by simp) b1 (by rw[<-M,<-H];omega) W h;rw[<-M,<-H] at k;exact k
 have c6:∀W,dU W->Calls pG 20 #[.string C] W fun e w'=>∃v,e=.returned (.tuple #[v,.int .i64 0])/\RdI w' v [80,80]/\Below W.heap.size W w':=fun W h=>by
  have k:=bDo (l:=[(2,[nR,xS])]++[(1,[])]) (by simp) b1 (by rw[<-M,<-H];omega) W h;rw[<-M,<-H] at k;exact k
 have c7:∀W,dU W->Calls pG 18 #[.string ⟨#[]⟩] W fun e w'=>e=.returned (.tuple #[.string I,.int .i64 3])/\Below W.heap.size W w':=fun W h=>by
  rw[Z.out];exact GE (s:=⟨#[]⟩) (E:=3) rfl (by decide) (by decide) W h
 obtain⟨G,e5⟩:∃G,G=d.size-1:=⟨_,rfl⟩;have m1:IntKind.i64.wrap ((d.size:Int)-1)=(G:Int):=by rw[show(d.size:Int)-1=(G:Int) by omega];exact lE G (by omega)
 have e6:(d.size:Int)-1=(G:Int):=by omega
 have q2:(G:Int)<=(d.size:Int):=by omega
 have g0:G<=8000:=by omega
 obtain⟨D,hD⟩:∃D,D=d.extract 0 G:=⟨_,rfl⟩;have e7:=hD.symm;have g1:D.size<=8000:=by rw[hD];simp;omega
 have c8:∀W,dU W->Calls pG 18 #[.string D] W fun e w'=>e=.returned (.tuple #[.string I,.int .i64 2])/\Below W.heap.size W w':=fun W h=>by
  rw[Z.out];refine GE (s:=D) (E:=2) ?_ (by decide) (by omega) W h;obtain⟨o1,o2,o3⟩:=a0 _ (cP.2 rfl);have hl:(aI (cM 2 [nR,xS])).length=d.size:=by rw[L];unfold aZ;rw[cS,tU]
  have k:=SR (l:=[]) (n:=2) (x:=[nR,xS]) (c:=G) (fun p hp=>by simp at hp) o1 o2 o3 (by omega) (by rw[hl];omega);have e:D.data.toList=(aI (cM 2 [nR,xS])).take G:=by rw[hD,GO,L];unfold aZ;rw[dP,tU]
  rw[e];exact k
 obtain⟨F,hF⟩:∃F,F=A++xS:=⟨_,rfl⟩;have g2:A++⟨#[120]⟩=F:=hF.symm;have g3:F.size<=20:=by rw[hF,rG,a5];decide
 have q3:¬9223372036854775807<A.size+1:=by omega
 have g4:¬9223372036854775807<F.size:=by omega
 have c9:∀W,dU W->Calls pG 18 #[.string F] W fun e w'=>e=.returned (.tuple #[.string I,.int .i64 2])/\Below W.heap.size W w':=fun W h=>by
  rw[Z.out];refine GE (s:=F) (E:=2) ?_ (by decide) (by omega) W h;have k:=aVr (l:=[(1,[])]) (m:=[120]) O (by simp) (by decide);have e:F.data.toList=aI (dH [(1,[])])++[120]:=by rw[hF,BC,Array.toList_append,HA.out];rfl
  rw[e];exact k
 have b2:=fun W=>aJm 0 (.slice none 0 0) [] W (RdT.nil _) (by decide) (fun t J=>by simp at J) 1 rfl (by decide) (by decide) (by decide)
 have d0:=fun W v (h:RdT W v [⟨#[]⟩])=>aJm 1 v [⟨#[]⟩] W h (by decide) (fun t J=>by obtain rfl:=cP.1 J;decide) 1 (by
  unfold wrE oH jZ;rfl) (by decide) (by decide) (by decide)
 rw[<-Z.out] at b2;have g5:((A.size:Int)==14)=true:=by rw[a5];rfl
 have g6:(4:Int)<=(A.size:Int):=by omega
 clear L H hT e5 hD hF b0 M b1 O a0 c1 a8 c3 c2;go_wp2_with fail;refine(c5 _ a9).mono ?_;rintro e w4 ⟨rfl,b3⟩;have b4:=a9.below b3;have d1:=aW c4 b3;clear a9 c4 b3 c5;go_wp2_with fail;refine(c6 _ b4).mono ?_;rintro e w5 ⟨v5,rfl,d2,b5⟩;have b6:=b4.below b5;have d3:=aW d1 b5;clear b4 d1 b5 c6;go_wp2_with fail;refine(c7 _ b6).mono ?_;rintro e w6 ⟨rfl,a1⟩;have b7:=b6.below a1;have d4:=aW d3 a1;have d5:=d2.below a1;clear b6 d3 a1 c7 d2;go_wp2_with fail;refine(c8 _ b7).mono ?_;rintro e w7 ⟨rfl,a2⟩;have d6:=b7.below a2;have d7:=aW d4 a2;have d8:=d5.below a2;clear b7 d4 a2 c8 d5 m1 e6 q2 e7
 go_wp2_with fail;refine(c9 _ d6).mono ?_;rintro e w8 ⟨rfl,b8⟩;have d9:=aW d7 b8;have e0:=d8.below b8;clear d6 d7 b8 c9 d8;go_wp2_with fail;refine(b2 _).mono ?_;rintro e w9 ⟨rfl,b9⟩;have e1:=aW d9 b9;have e2:=e0.below b9;clear d9 b9 b2 e0;go_wp2_with fail;refine(d0 _ (.slice (some ⟨w9.heap.size,0,none⟩) 1 1) (uF w9 9 [.string ⟨#[]⟩] 1 rfl (by decide))).mono ?_;rintro e e8 ⟨rfl,e3⟩;have c0:=aW (bD (aH _ _) (.cells #[.string ⟨#[]⟩] 9)) e3;have e9:=aW e1 c0;have f0:=e2.below c0;clear e1 e3 d0 e2 c0;go_wp2_with fail
 refine(bDm _ _ [80,80] _ (f0.below (bD (aH _ _) _)) (uF e8 _ [.int .i64 80,.int .i64 80] 2 rfl (by decide))).mono ?_;rintro e g7 ⟨rfl,f1⟩;go_wp2_with fail;go_ret;exact⟨rfl,aW e9 (aW (bD (aH _ _) _) f1)⟩
end Go.Proofs.YtihbnmlinkbnkaaGreatDoor
