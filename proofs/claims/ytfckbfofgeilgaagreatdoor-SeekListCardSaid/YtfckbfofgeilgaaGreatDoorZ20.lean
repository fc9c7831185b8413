/-
  Texts put together (part 20): the walks and the plain laws on which the statement stands.
-/
import Derived.Deep.RegionLawGrows
import Derived.Test.YtfckbfofgeilgaaGreatDoorZ17
import Derived.Test.YtfckbfofgeilgaaGreatDoorZ18
import Derived.Test.YtfckbfofgeilgaaGreatDoorZ19
set_option maxRecDepth 100000
set_option maxHeartbeats 12800000
set_option linter.unusedVariables false
set_option linter.unusedSimpArgs false
open Go.Proofs.Tryz
open Go.Proofs.Tryz renaming prog->pG
open Array renaming getElem?_eq_some_iff->fE
open Decidable renaming not_not->eB
open Go.IntKind renaming i64->aJ,wrap_i64->aM
open Go.Oper renaming wp->nC
open Go.Region renaming wanted->qL
open Go.RowKit.Below renaming refl->aH
open Int renaming toNat_natCast->fL
open List renaming getD_eq_getElem?_getD->bV,getElem?_eq_getElem->aN,length_map->aS,map_append->dY,mem_of_getElem?->cN
open Nat renaming le_refl->aD,le_trans->aR,lt_succ_self->vK,zero_le->aO
open Option.some renaming inj->cC
namespace Go.Proofs.YtfckbfofgeilgaaGreatDoor
open Go.RowKit Go Go.Shelf
def BX (A:List UInt8):List Int:=A.map (fun b=>(b.toNat:Int))
theorem aFp (A:List UInt8) (i:Nat):MC (BX A) i=BX (gC A i):=by simp[MC,gC,BX]
theorem aXu (A:List UInt8) (i:Nat):(BX A).getD i 0=((A.getD i 0).toNat:Int):=by
 unfold BX;rw[bV,List.getElem?_map,bV]
 cases A[i]? <;>rfl
theorem aFq:BX (cT 6)=aFe:=rfl
theorem xX (A:List UInt8):(BX A).length=A.length:=aS ..
theorem MH:∀(l:List Int) (A:List UInt8),(∀x∈l,0<=x/\x<(A.length:Int))->(unA A l).length=A.length
 |[],_,_=>rfl
 |x::l,A,h=>by
  have d:=h x (List.mem_cons_self ..);show(unA (gC A x.toNat) l).length=_;rw[MH l _ (fun y e=>by grind [BF,unA]),BF]
theorem aXv (s:ByteArray) (a n t:Nat) (w:World) (hs:s.size<=1000000) (ha:a<=80000000) (hn:n<=40000) (a3:2<=t) (V:t<=6):
  Calls pG 196 #[.string s,.int .i64 (a:Int),.int .i64 (n:Int),.int .i64 (t:Int)] w fun e w'=>FJ w w' s.data.toList a n t e:=by
 have HL:=hid (mV s);have t4:decide ((a:Int)<0)=false:=aE (by omega);have t5:decide ((n:Int)<0)=false:=aE (by omega);have t6:decide ((n:Int)>1048576)=false:=aE (by omega);have t7:decide (1048576<(n:Int))=false:=aE (by omega);have b3:=hid (fun k Y=>aE9 (s:=s.data.toList) (a:=a) (n:=n) (k:=k) a3 V (by omega) Y);have b5:=hid (MB s.data.toList a n t a3 V (by omega));have a4:=hid (fun k=>BV s.data.toList (t:Int) (a:Int) (by omega) (by omega) k);go_enter func196,ntmps196;go_wp2_with fail;refine(aFd t _ a3 V).mono ?_;rintro e w0 ⟨rfl,rfl⟩;go_wp2_with fail
 refine(aFf (t:Int) _).mono ?_;rintro e w1 ⟨rfl,Z,a5,a6⟩;obtain⟨z,hz⟩:=ex1 (w0.heap.size);rw[<-hz] at Z a5 a6 ⊢;have HZ:=hid hz;clear hz;rw[<-aFq] at Z;go_wp2_with fail
 go_loopg [1,8,12,13,14,33] n (fun g s1 s8 _s12 _s13 _s14 b6 wr=>∃(k p:Nat) (v:Value) (L:List Int),k<=n/\g=n-k/\v=s8/\b6=.int .i64 (k:Int)/\s1=.int .i64 (p:Int)/\p<=80000000/\Hid (dR s.data.toList (t:Int) (a:Int) k=(L,(p:Int),0))/\OwI wr (z+1) v (BX (unL (cT 6) L))/\Arr wr z 339 (lT (BX (unA (cT 6) L)) (t:Int))/\Below z w0 wr/\z<wr.heap.size)
 case atStart=>exact⟨0,a,_,[],aO _,rfl,rfl,rfl,rfl,ha,hid rfl,OwI.nil _ _,Z,a5,a6⟩
 case round=>
  clear Z a5 a6;obtain⟨k,p,v,L,Y,F,rfl,rfl,rfl,hp,A,ho,hA,a0,c4⟩:=hrel;have HG:=hid F;clear F
  by_cases c5:k<n
  ·have v1:decide ((k:Int)<(n:Int))=true:=aG (by omega);have d:=aE7 (s:=s.data.toList) (t:=(t:Int)) (a:=(a:Int)) (k:=k) (by rw[A.out]);rw[A.out] at d;simp only at d;have G:=a4.out k (by rw[A.out]);rw[A.out] at G;obtain⟨o1,o2,o3,o4⟩:=G;simp only at o1 o2 o3 o4;have a7:=hid o2;obtain⟨R,hR⟩:=ex1 (kN s.data.toList (t:Int) (p:Int) 0);have a8:=KY s.data.toList (t:Int) (8*s.data.toList.length+2) (p:Int) 0 (by omega) (by omega) (by omega);rw[show lY s.data.toList (t:Int) (8*s.data.toList.length+2) (p:Int) 0=R from hR.symm,HL.out] at a8;rw[<-hR] at d;have O:=hid d;have c6:=hid a8
   have HR:=hid hR.symm;clear d a8 hR o1 o2 o3 o4;go_wp2_with fail
   go_loopg [1,8,12,13,14] (8*s.size+2-p) (fun g s1 s8 b7 _s13 _s14 wx=>∃q m:Nat,q<=80000000+m/\m<t/\g=8*s.size+2-q/\v=s8/\s1=.int .i64 (q:Int)/\b7=.int .i64 (m:Int)/\Hid (kN s.data.toList (t:Int) (q:Int) (m:Int)=R)/\wx=wr)
   case atStart=>exact⟨p,0,by omega,by omega,rfl,rfl,rfl,rfl,HR,rfl⟩
   case round=>
    obtain⟨q,m,hq,hm,F,rfl,rfl,rfl,HP,rfl⟩:=hrel;have b8:=hid F;clear F;have d:=KX s.data.toList (t:Int) (q:Int) (m:Int) (by omega);rw[HP.out,HL.out] at d;have I:=fun W=>uQ s (q:Int) 1 W hs (by omega) (by omega) (by omega)
    have a9:=iG (n:=s.size) (at':=(q:Int)) (k:=1);have b9:=jV s.data.toList (q:Int) 1;obtain⟨E1,b0⟩:=ex1 (aP s.size (q:Int) 1);obtain⟨V1,b1⟩:=ex1 (aK s.data.toList (q:Int) 1);rw[<-b0,<-b1] at d;rw[<-b0] at I a9;rw[<-b1] at I b9;clear b0 b1;have m1:aJ.wrap ((q:Int)+1)=((q:Int)+1):=by rw[aM];omega
    have m2:aJ.wrap ((m:Int)+1)=((m:Int)+1):=by rw[aM];omega
    have d6:wr.cell? ⟨z,6,none⟩=some (.int .i64 (t:Int)):=hA.cell (by
     unfold lT;rw[List.getElem?_append_right (by rw[aS,xX,MH _ _ (fun x D=>by rw[sT];have:=a7.out x D;omega),sT];exact aD _),aS,xX,MH _ _ (fun x D=>by rw[sT];have:=a7.out x D;omega),sT];rfl)
    by_cases J:E1=0
    rotate_left
    ·rw[aB J] at d;have u1:(E1 != 0)=true:=by simpa using J
     have hF:=b3.out (k+1) (by omega) (by rw[O.out,d];exact(by rw[aB J];exact J));rw[O.out,d,aB J] at hF;have M:=hid hF;clear d hF d6;go_wp2_with fail;refine(I _).mono ?_;rintro e w2 ⟨rfl,rfl⟩;go_wp2_with fail
     go_ret3
     exact TE M.out (HZ.out▸a0)
    subst J;rw[aA (fun k=>k rfl)] at d;have a9:=a9 rfl
    by_cases h2:V1=0
    ·subst h2;rw[aB rfl] at d;have hS:dR s.data.toList (t:Int) (a:Int) (k+1)=(L++[(m:Int)],(q:Int)+1,0):=by rw[O.out,d];rfl
     have HS:=hid hS;have b4:(unA (cT 6) L).length=6:=by
      rw[MH _ _ (fun x D=>by rw[sT];have:=a7.out x D;omega),sT]
     have a1:=aFc z (BX (unA (cT 6) L)) (t:Int) m (by rw[xX];exact b4) (by omega) wr hA;rw[aFp,aXu] at a1;have HU:=hid (show unL (cT 6) (L++[(m:Int)])=unL (cT 6) L++[(unA (cT 6) L).getD m 0] by rw[PH,fL]);have HV:=hid (show unA (cT 6) (L++[(m:Int)])=gC (unA (cT 6) L) m by rw[PI,fL]);obtain⟨C,hC⟩:=ex1 ((unA (cT 6) L).getD m 0);rw[<-hC] at a1 HU;have c7:(BX (unL (cT 6) L)).length<=40000:=by
      rw[xX,sL];have:=(a4.out k (by rw[A.out])).1;rw[A.out] at this;have:L.length=k:=this;omega
     clear d d6 hS hC b4;go_wp2_with fail;refine(I _).mono ?_;rintro e w2 ⟨rfl,rfl⟩;go_wp2_with fail;refine a1.mono ?_;rintro e w3 ⟨rfl,c0,a2⟩;have c1:OwI w3 (z+1) v (BX (unL (cT 6) L)):=Ow.kept ho a2 (lD ho (vK z));have c2:=a0.grown a2 (by omega) (fun k Y=>by obtain rfl:=cC Y;exact aD _);have c8:=a2.size;clear a1 ho a2;go_wp2_with (at_builtin;refine gK rfl _ _ rfl (z+1) _ _ rfl (OwI.alloc c1 _) _ (C.toNat:Int) rfl (bX _ _ _) ?_ ?_ ?_;(omega);(simp;omega);intro v4 w4 r1 r2 r3);have F:=HG.out
     go_roundg (n-(k+1))
     ·
      refine⟨k+1,q+1,_,L++[(m:Int)],by omega,rfl,rfl,by go_num,by go_num,by omega,hid (by rw[HS.out];push_cast;rfl),?_,?_,(c2.alloc (by omega) _).trans (r2.mono (by omega)),?_⟩
      ·rw[HU.out];unfold BX at r1 ⊢;rw[dY];exact r1
      ·rw[HV.out];exact((Arr.alloc c0 _).below r2 (vK z))
      ·have:=r2.size;simp only[World.size_alloc] at this;omega
     ·omega
    ·rw[aA h2] at d;have v2:((V1:Int)==0)=false:=by rw[cB];omega
     have v3:(V1==0)=false:=by rw[cB];omega
     by_cases U:(m:Int)+1=(t:Int)
     ·rw[aB U] at d;have v4:((m:Int)+1==(t:Int))=true:=by rw[beq_iff_eq];exact U
      have hF:=b3.out (k+1) (by omega) (by rw[O.out,d];exact(by decide:(3:Int)≠0));rw[O.out,d] at hF;have M:=hid hF;clear d hF U;go_wp2_with fail;refine(I _).mono ?_;rintro e w2 ⟨rfl,rfl⟩;go_wp2_with fail
      go_ret3
      exact TE M.out (HZ.out▸a0)
     ·rw[aA U] at d;have v4:((m:Int)+1==(t:Int))=false:=by rw[cB];exact U
      have HS:=hid d.symm;clear d;go_wp2_with fail;refine(I _).mono ?_;rintro e w2 ⟨rfl,rfl⟩;go_wp2_with fail;have c9:=b8.out
      go_roundg (8*s.size+2-(q+1))
      ·exact⟨q+1,m+1,by omega,by omega,rfl,rfl,by go_num,by go_num,by push_cast;exact HS,rfl⟩
      ·omega
  ·have v1:decide ((k:Int)<(n:Int))=false:=aE (by omega);have c3:k=n:=by omega
   subst c3;have b2:=b5.out;rw[A.out] at b2;have G:=a4.out k (by rw[A.out]);rw[A.out] at G;have hU:unL (cT t) L=unL (cT 6) L:=by
    rw[RH V,(aB5 L (cT t) _ (fun x D=>by rw[sT];exact G.2.1 x D)).1]
   have M:=hid (show eD s.data.toList (a:Int) (k:Int) (t:Int)=(BX (unL (cT 6) L),(p:Int),0) by
    rw[b2,aA (fun q=>q rfl),<-hU];rfl)
   clear b2 G hU;go_wp2_with fail
   go_ret3
   exact⟨_,by rw[M.out];rfl,by rw[M.out];exact Ow.base ho (by rw[<-HZ.out];omega),HZ.out▸a0⟩
theorem aGo (n:Int) (W:World):Calls pG 155 #[.int .i64 n] W fun e w'=>e=.returned (.bool (decide (1<=n)&&decide (n<=360)))/\w'=W:=by
 by_cases h:1<=n
 ·have u1:decide (1<=n)=true:=aG h;have d:decide (n>=1)=true:=aG h;rw[u1];go_enter func155,ntmps155;go_wp2_with fail;go_ret;exact⟨rfl,rfl⟩
 ·have u1:decide (1<=n)=false:=aE h;have d:decide (n>=1)=false:=aE h;rw[u1];go_enter func155,ntmps155;go_wp2_with fail;go_ret;exact⟨rfl,rfl⟩
def rS (E:Int):List PanicEntry:=[{v:=.iface 257 (.agg #[.int .i64 E]),recovered:=false}]
theorem zU (E:Int) (W:World):Calls pG 179 #[.int .i64 E] W fun e w'=>
  (E=0/\e=.returned (.tuple #[])/\w'=W)\/(E≠0/\e=.panicked (rS E)/\w'=W):=by
 by_cases h:E=0
 ·subst h;go_enter func179,ntmps179;go_wp2_with fail
  go_end0
  exact .inl ⟨trivial,rfl,rfl⟩
 ·have u1:(E != 0)=true:=by simpa using h
  go_enter func179,ntmps179;go_wp2_with fail;exact⟨rfl,.inr ⟨h,rfl,rfl⟩⟩
theorem tW (b:Bool) (E:Int) (W:World) (d:E≠0):Calls pG 158 #[.bool b,.int .i64 E] W fun e w'=>
  (b=true/\e=.returned (.tuple #[])/\w'=W)\/(b=false/\e=.panicked (rS E)/\w'=W):=by
 have hor:=(zU E W).mono (fun e w' h=>show e=.panicked (rS E)/\w'=W from by
  rcases h with h|h
  ·exact absurd h.1 d
  ·exact h.2)
 cases b with
 |true=>
  go_enter func158,ntmps158;go_wp2_with fail
  go_end0
  exact .inl ⟨trivial,rfl,rfl⟩
 |false=>
  go_enter func158,ntmps158;go_wp2_with fail;refine hor.mono ?_;rintro e w' ⟨rfl,rfl⟩;go_wp2_with fail;exact⟨rfl,.inr ⟨trivial,rfl,rfl⟩⟩
def BRd (w:World) (b:Nat) (s:ByteArray) (a:Nat) (d ch e:Value):Prop:=Arr w b 261 [.string s,.int .i64 (a:Int),d,ch,e]
theorem FN (b:Nat) (s:ByteArray) (a k:Nat) (D ch F:Value) (W:World) (G:BRd W b s a D ch F) (R:s.size<=1000000) (U:k<=48) (ha:a<=100000000):
  Calls pG 172 #[.pointer (some ⟨b,0,none⟩),.int .i64 (k:Int)] W fun e w'=>
   (aP s.size (a:Int) k=0/\e=.returned (.int .i64 (aK s.data.toList (a:Int) k:Int))/\BRd w' b s (a+k) D ch F/\W.grownBy w' (some b))\/(aP s.size (a:Int) k≠0/\e=.panicked (rS (aP s.size (a:Int) k))/\W.grownBy w' (some b)):=by
 have L:=fun W=>uQ s (a:Int) k W R (by omega) (by omega) (by omega)
 have M:=jV s.data.toList (a:Int) k;have Y:aK s.data.toList (a:Int) k<281474976710656:=Nat.lt_of_lt_of_le M (aR (Nat.pow_le_pow_right (by decide) U) (by decide));obtain⟨E,d⟩:=ex1 (aP s.size (a:Int) k);obtain⟨V,A⟩:=ex1 (aK s.data.toList (a:Int) k);rw[<-d,<-A];rw[<-d,<-A] at L;rw[<-A] at Y;have HE:=hid d;clear d A M;have c0:=Arr.cell G (i:=0) rfl;have c1:=Arr.cell G (i:=1) rfl;have m1:aJ.wrap (V:Int)=(V:Int):=by rw[aM];omega
 have m2:aJ.wrap ((a:Int)+(k:Int))=(a:Int)+(k:Int):=by rw[aM];omega
 have hor:=fun W=>zU E W
 go_enter func172,ntmps172;go_wp2_with fail
 go_quiet (first|(go_at_call 149;exact Calls.quiet_of_same (L _)))
 generalize I:W.drewN nq=W1 at*
 have J:BRd W1 b s a D ch F:=by rw[<-I];exact G
 have O:W.grownBy W1 (some b):=by rw[<-I];exact⟨rfl,rfl,rfl,aD _,fun _ _ _=>rfl⟩
 have d1:=Arr.cell J (i:=1) rfl;have g1:=Arr.free J 1;clear I;go_wp2_with fail;refine(hor _).mono ?_;rintro e w2 (⟨rfl,rfl,rfl⟩|⟨Z,rfl,rfl⟩)
 ·go_wp2_with fail;go_ret;exact⟨rfl,by have:=Arr.set J 1 (.int .i64 ((a:Int)+(k:Int)));unfold BRd;push_cast;exact this,gbT O (gbS _ _ _ _)⟩
 ·go_wp2_with fail;exact⟨rfl,.inr ⟨Z,rfl,O⟩⟩
theorem MK (b:Nat) (s:ByteArray) (a:Nat) (q E:Int) (A ch D:Value) (W:World) (d:BRd W b s a A ch D):
  Calls pG 174 #[.pointer (some ⟨b,0,none⟩),.int .i64 q,.int .i64 E] W fun e w'=>
   (E=0/\e=.returned (.tuple #[])/\Arr w' b 261 [.string s,.int .i64 q,A,ch,D]/\W.grownBy w' (some b))\/(E≠0/\e=.panicked (rS E)/\w'=W):=by
 have G:=Arr.cell d (i:=1) rfl;have I:=Arr.free d 1;have hor:=zU E W;go_enter func174,ntmps174;go_wp2_with fail;refine hor.mono ?_;rintro e J (⟨rfl,rfl,rfl⟩|⟨F,rfl,rfl⟩)
 ·go_wp2_with fail
  go_end0
  exact⟨rfl,Arr.set d 1 _,gbS _ _ _ _⟩
 ·go_wp2_with fail;exact⟨rfl,.inr ⟨F,rfl,rfl⟩⟩
theorem MM {m:List Int} {j:Nat} {g:List Int} (h:(dA m)[j]? =some g):(∀x∈g,x∈m)/\g.length<=10:=by grind [kR,BY,dA]
theorem yA {m:List Int} {n wh:Nat} (d:m.length<=20000) (h:∀x∈m,0<=x/\x<(n:Int)):(mW m n wh).length=n/\(mW m n wh).sum<=20000/\∀x∈mW m n wh,0<=x/\x<=20000:=by
 obtain⟨e,A,D⟩:=BZ m n wh h m.length (aD _)
 grind [mW,xO]
theorem LOK.two {w:World} {x y:Value} {a b:List Int} (d:RdI w x a) (e:RdI w y b):LOK w [x,y] [a,b]:=(LOK.nil w |>.snoc d).snoc e
def aHd (w w':World) (m:List Int) (n:Nat) (e:Ending):Prop:=
 ∃v u,e=.returned (.tuple #[v,u,.int .i64 0])/\RdL w' v [eN m n 0,eN m n 1]/\OwI w' w.heap.size u (dS m n)/\Below w.heap.size w w'
theorem bAc (v:Value) (m:List Int) (n:Nat) (w:World) (O:RdI w v m) (i0:0<m.length) (F:m.length<=20000) (R:2<=n) (U:n<=258) (d:∀x∈m,0<=x/\x<(n:Int)):
  Calls pG 68 #[v,.int .i64 (n:Int)] w fun e w'=>aHd w w' m n e:=by
 have c0:=hid (xR (which:=0) R U d F);have c2:=hid (xR (which:=1) R U d F);have c3:=hid (wF (which:=0) R U d F).2;have c4:=hid (wF (which:=1) R U d F).2;have HX:=hid d;obtain⟨a,ca,rfl,i1,i2,hA⟩:=O.open;have t1:decide ((n:Int)<2)=false:=aE (by omega);have t2:decide ((n:Int)>258)=false:=aE (by omega);have t3:decide (258<(n:Int))=false:=aE (by omega);have t4:((m.length:Int)==0)=false:=by rw[cB];omega
 have t5:decide ((m.length:Int)>1048576)=false:=aE (by omega);have t6:decide (1048576<(m.length:Int))=false:=aE (by omega);have t7:(m.length==0)=false:=by rw[cB];omega
 have c6:=aFy _ m n w O d;have a7:=fun(wh:Nat) (hw:wh<=1) W h=>aYg (.slice a m.length ca) m n wh W h (by omega) (by omega) hw d
 have a8:=fun(wh:Nat) u W (h:RdI W u (mW m n wh))=>aYa u (mW m n wh) W h (by rw[(yA F d).1];exact R) (by rw[(yA F d).1];exact U) (yA F d).2.2 (yA F d).2.1
 have c7:=a7 0 (by decide);have c8:=a7 1 (by decide);have c9:=fun W h=>aYf (.slice a m.length ca) m W h (by omega)
 clear a7 hA d;go_enter func68,ntmps68;go_wp2_with fail;refine c6.mono ?_;rintro e w0 ⟨rfl,rfl⟩;go_wp2_with fail;refine(c7 _ O).mono ?_;rintro e w1 ⟨v1,rfl,d0,a9⟩;have d1:=O.below a9;go_wp2_with fail;refine(a8 0 v1 _ (OwI.rd d0)).mono ?_;rintro e w2 ⟨v2,rfl,d2,b0⟩;have b1:=d1.below b0;have b2:=aW a9 b0;have d3:=OwI.rd d2;have i3:w0.heap.size<=w2.heap.size:=b2.size;clear d1 d0 a9 b0 d2;go_wp2_with fail;refine(c8 _ b1).mono ?_;rintro e w3 ⟨v3,rfl,d4,Z⟩;have d5:=b1.below Z;have d6:=d3.below Z;have d7:=aW b2 Z;clear b1 d3 b2;go_wp2_with fail;refine(a8 1 v3 _ (OwI.rd d4)).mono ?_
 rintro e w4 ⟨v4,rfl,d8,a0⟩;have d9:=d5.below a0;have e0:=d6.below a0;have e1:=aW d7 a0;have e2:=OwI.rd d8;clear d5 d6 d7 d4 Z d8 a0;go_wp2_with fail;refine(c9 _ d9).mono ?_;rintro e V ⟨v5,rfl,e3,J⟩;have a1:=e0.below J;have a2:=e2.below J;have e4:=aW e1 J;rw[show qX (mW m n 0)=eN m n 0 from rfl] at a1;rw[show qX (mW m n 1)=eN m n 1 from rfl] at a2;obtain⟨A,a3⟩:=ex1 (eN m n 0);obtain⟨C,a4⟩:=ex1 (eN m n 1);rw[<-a3] at a1 c0 c3;rw[<-a4] at a2 c2 c4;obtain⟨a5,c5,rfl,e5,f9,a6⟩:=e3.open;unfold maxLen at f9;rw[kR] at e5 a6;rw[kR]
 obtain⟨G,hG⟩:=ex1 ((m.length+9)/10);rw[<-hG] at e5 a6 ⊢;have HA:=hid a3;have HC:=hid a4;have e6:=hid hG;have i4:G<=2001:=by omega
 have g0:=hid (fun j g (h:(dA m)[j]? =some g)=>MM h);have e7:=fun(g:List Int) u W (h:RdI W u g) (hv:RdI W v2 A) (h1:∀x∈g,x∈m) (h3:g.length<=10)=>aF1 v2 u A g W hv h c0.out (by rw[c3.out];exact fun x d=>HX.out x (h1 x d)) (by omega)
 have e8:=fun(g:List Int) u W (h:RdI W u g) (hv:RdI W v4 C) (h1:∀x∈g,x∈m) (h3:g.length<=10)=>aF1 v4 u C g W hv h c2.out (by rw[c4.out];exact fun x d=>HX.out x (h1 x d)) (by omega)
 have g1:=hid e7;have g2:=hid e8;have g3:=hid (show dS m n=(dA m).map (rO A C) by unfold dS;rw[a3,a4]);clear c6 c7 c8 a8 c9 O d9 e0 e2 e1 J e3 e7 e8 a3 a4 hG;go_wp2_with fail
 go_loopg [12,13,14,15,16,17] G (fun g g4 g5 _s14 _s15 _s16 _s17 wr=>∃(k:Nat) (u:Value),k<=G/\g=G-k/\u=g4/\g5=.int .i64 (k:Int)/\OwI wr V.heap.size u (((dA m).take k).map (rO A C))/\Below V.heap.size V wr)
 case atStart=>exact⟨0,_,aO _,rfl,rfl,rfl,OwI.nil _ _,aH _ _⟩
 case round=>
  obtain⟨k,u,hk,D,rfl,rfl,ho,I⟩:=hrel;have HG:=hid D;clear D;have i5:=I.size;have i6:(((dA m).take k).map (rO A C)).length<=3000:=by rw[aS,List.length_take];omega
  by_cases g6:k<G
  ·have u1:decide ((k:Int)<(G:Int))=true:=aG (by omega);obtain⟨b5,o5,rfl,J,e9⟩:=a6 (by omega);obtain⟨g,D⟩:∃g,(dA m)[k]? =some g:=⟨_,aN (by rw[kR,<-e6.out];exact g6)⟩;obtain⟨x,f0,f1⟩:=e9 k g D;have c1:=(I.cell (p:=⟨b5,o5+k,none⟩) J).trans f0;have b3:=f1.below I;have f2:=a1.below I;obtain⟨q1,q2⟩:=g0.out k g D;have b4:=g1.out g x wr b3 f2 q1 q2;have HT:=hid (show((dA m).take (k+1)).map (rO A C)=((dA m).take k).map (rO A C)++[if qW C g<qW A g then 1 else 0] by rw[List.take_add_one,D,dY];rfl);have HQ:=hid q1
   obtain⟨p0,f3⟩:=ex1 (qW A g);obtain⟨p1,b6⟩:=ex1 (qW C g);rw[<-f3] at b4 HT;rw[<-b6] at HT;have g7:=hid b6;obtain⟨ax,cx,rfl,_,_,_⟩:=f1.open;clear e9 D f0 a6 f3 b6;go_wp2_with fail;refine b4.mono ?_;rintro e w6 ⟨rfl,Y⟩;have b7:=aW I Y;have c1:=(Y.cell (p:=⟨b5,o5+k,none⟩) (by show b5<wr.heap.size;omega)).trans c1;have b8:=g2.out g _ w6 (b3.below Y) (a2.below b7) HQ.out q2;rw[<-g7.out] at b8;have f4:=OwI.below ho Y (aD _);have i7:=b7.size;clear b4 b3 f2 Y ho;go_wp2_with fail;refine b8.mono ?_;rintro e w7 ⟨rfl,L⟩;have b9:=aW b7 L;have f5:=OwI.below f4 L (aD _)
   have f6:=b9.size;clear b8 L f4 c1
   by_cases M:p1<p0
   ·have u2:decide (p1<p0)=true:=aG M;rw[aB M] at HT;clear M;go_wp2_with (at_builtin;refine gK rfl _ _ rfl V.heap.size _ _ rfl (OwI.alloc f5 _) _ 1 rfl (bX _ _ _) ?_ ?_ ?_;(omega);(simp;omega);intro v8 w8 r1 r2 r3);have D:=HG.out
    go_roundg (G-(k+1))
    ·exact⟨k+1,_,by omega,rfl,rfl,by go_num,by rw[HT.out];exact r1,(b9.alloc f6 _).trans r2⟩
    ·omega
   ·have u2:decide (p1<p0)=false:=aE M;rw[aA M] at HT;clear M;go_wp2_with (at_builtin;refine gK rfl _ _ rfl V.heap.size _ _ rfl (OwI.alloc f5 _) _ 0 rfl (bX _ _ _) ?_ ?_ ?_;(omega);(simp;omega);intro v8 w8 r1 r2 r3);have D:=HG.out
    go_roundg (G-(k+1))
    ·exact⟨k+1,_,by omega,rfl,rfl,by go_num,by rw[HT.out];exact r1,(b9.alloc f6 _).trans r2⟩
    ·omega
  ·have u1:decide ((k:Int)<(G:Int))=false:=aE (by omega);rw[List.take_of_length_le (by rw[kR,<-e6.out];omega),<-g3.out] at ho;have f7:=a1.below I;have f8:=a2.below I;have g8:=aW e4 I;have i8:=e4.size;obtain⟨av,cv,rfl,_,_,_⟩:=f7.open;obtain⟨aw,cw,rfl,_,_,_⟩:=f8.open;go_wp2_with fail
   go_ret3
   have g9:=uF wr 53 [.slice av A.length cv,.slice aw C.length cw] 2 rfl (by decide);have L:=bD (aH wr.heap.size wr) (.cells #[.slice av A.length cv,.slice aw C.length cw] 53);refine⟨_,_,rfl,⟨[.slice av A.length cv,.slice aw C.length cw],g9,?_⟩,Ow.base (OwI.alloc ho _) (by omega),bD g8 _⟩;rw[<-HA.out,<-HC.out];exact LOK.two (f7.below L) (f8.below L)
theorem UA {s:List UInt8} {a c:Int} {k:Nat} (h:(bO s a c k).2.2=0):bO s a c (k+1)=
  if(gS s (bO s a c k).2.1 c).2.2≠0 then((bO s a c k).1,(bO s a c k).2.1,(gS s (bO s a c k).2.1 c).2.2)
  else if bM (gS s (bO s a c k).2.1 c).1≠0 then((bO s a c k).1,(bO s a c k).2.1,bM (gS s (bO s a c k).2.1 c).1)
  else((bO s a c k).1++[(gS s (bO s a c k).2.1 c).1],(gS s (bO s a c k).2.1 c).2.1,0):=by grind [bO,gS,bM]
theorem MN {s:List UInt8} {a c:Int} {k:Nat} (h:(bO s a c k).2.2≠0):∀j,(bO s a c (k+j)).2.2=(bO s a c k).2.2
 |0=>rfl
 |j+1=>by
  have d:=MN h j
  grind [bO]
theorem MO {s:List UInt8} {a c:Int} (d:0<=a):∀k,(bO s a c k).2.2=0->a<=(bO s a c k).2.1/\((bO s a c k).2.1=a\/(bO s a c k).2.1<=8*(s.length:Int))
 |0,_=>⟨Int.le_refl _,.inl rfl⟩
 |k+1,h=>by
  have e:(bO s a c k).2.2=0:=by grind [bO,MN]
  obtain⟨A,D⟩:=MO (s:=s) (c:=c) d k e
  grind [UA,gS,EP,bO,bC]
def iE (w:World) (B:Nat) (d:List Value) (e:List (List Int)):Prop:=d.length=e.length/\∀(j:Nat) (x:Value) (g:List Int),d[j]? =some x->e[j]? =some g->OwI w B x g
theorem iE.nil (w:World) (B:Nat):iE w B [] []:=by simp[iE]
theorem iE.map {w w':World} {B d:Nat} {e:List Value} {A:List (List Int)} (h:iE w B e A) (k:∀(x:Value) (g:List Int),OwI w B x g->OwI w' d x g):iE w' d e A:=by grind [iE,OwI]
theorem iE.below {w w':World} {B:Nat} {d:List Value} {e:List (List Int)} (h:iE w B d e) (A:Below w.heap.size w w'):iE w' B d e:=by grind [OwI.below,iE]
theorem iE.alloc {w:World} {B:Nat} {d:List Value} {e:List (List Int)} (h:iE w B d e) (o:Obj):iE (w.alloc o) B d e:=by grind [OwI.alloc,iE]
theorem iE.ok {w:World} {B:Nat} {d:List Value} {e:List (List Int)} (h:iE w B d e):LOK w d e:=by grind [OwI.rd,iE,LOK]
theorem iE.app {w w':World} {B A:Nat} {d D:List Value} {e:List (List Int)} {v:Value} (h:iE w B d e) (F:Ow w A 53 v D) (G:w.grownBy w' v.ownBlock):iE w' B d e:=h.map (fun _ _ k=>Ow.kept k G (uV k F (by decide)))
theorem iE.snoc {w:World} {B:Nat} {d:List Value} {e:List (List Int)} (h:iE w B d e) {x:Value} {g:List Int} (A:OwI w B x g):iE w B (d++[x]) (e++[g]):=by grind [iE,OwI]
theorem aHp {s:List UInt8} {a:Int} {t:List (List Int)} {ch:List Int} {fin:Int} {k:Nat} (h:(bZ s a t ch fin k).2.2.1=0) (d:(bZ s a t ch fin k).2.2.2=false):bZ s a t ch fin (k+1)=
  if(dE (t.getD (ch.getD (k/10) 0).toNat []) s (bZ s a t ch fin k).2.1).2.2≠0 then((bZ s a t ch fin k).1,(bZ s a t ch fin k).2.1,(dE (t.getD (ch.getD (k/10) 0).toNat []) s (bZ s a t ch fin k).2.1).2.2,false)
  else if(dE (t.getD (ch.getD (k/10) 0).toNat []) s (bZ s a t ch fin k).2.1).1=fin then
   if k/10+1<ch.length then((bZ s a t ch fin k).1++[(dE (t.getD (ch.getD (k/10) 0).toNat []) s (bZ s a t ch fin k).2.1).1],(dE (t.getD (ch.getD (k/10) 0).toNat []) s (bZ s a t ch fin k).2.1).2.1,3,false)
   else((bZ s a t ch fin k).1++[(dE (t.getD (ch.getD (k/10) 0).toNat []) s (bZ s a t ch fin k).2.1).1],(dE (t.getD (ch.getD (k/10) 0).toNat []) s (bZ s a t ch fin k).2.1).2.1,0,true)
  else((bZ s a t ch fin k).1++[(dE (t.getD (ch.getD (k/10) 0).toNat []) s (bZ s a t ch fin k).2.1).1],(dE (t.getD (ch.getD (k/10) 0).toNat []) s (bZ s a t ch fin k).2.1).2.1,0,false):=by grind [bZ,dE]
theorem aHq {s:List UInt8} {a:Int} {t:List (List Int)} {ch:List Int} {fin:Int} {k:Nat} (h:(bZ s a t ch fin k).2.2.1≠0\/(bZ s a t ch fin k).2.2.2=true):∀j,bZ s a t ch fin (k+j)=bZ s a t ch fin k
 |0=>rfl
 |j+1=>by
  have d:=aHq h j
  grind [bZ]
theorem UE (s:List UInt8) (a:Int) (t:List (List Int)) (ch:List Int) (fin:Int):∀k,(bZ s a t ch fin k).1.length<=k
 |0=>aD _
 |k+1=>by
  have d:=UE s a t ch fin k
  grind [bZ]
theorem aHr {s:List UInt8} {a:Int} {t:List (List Int)} {ch:List Int} {fin:Int} {k:Nat} {r:List Int} {p E:Int} {b:Bool} (e:k<=10*ch.length) (h:bZ s a t ch fin k=(r,p,E,b)) (d:E≠0\/b=true):
  jW s a t ch fin=if E≠0 then([],0,E) else(r,p,0):=by
 have:=aHq (s:=s) (a:=a) (t:=t) (ch:=ch) (fin:=fin) (k:=k) (by rw[h];exact d) (10*ch.length-k)
 grind [jW,bZ]
theorem aHs {l:List Int} {s:List UInt8} {a:Nat} (h:(dE l s (a:Int)).2.2=0):(a:Int)<=(dE l s (a:Int)).2.1/\(dE l s (a:Int)).2.1<=8*(s.length:Int)/\0<=(dE l s (a:Int)).1/\(dE l s (a:Int)).1<(l.length:Int):=by grind [bM,dE,lA,zH,zI]
theorem sX {P:Program} {d:Array Oper} {o:Oper} {a:Act} {w:World} {K:Act->World->Prop} {Q:Exit->Act->World->Prop} {E:Prop} (e:o.guard=none) (s x:Operand) (t:TypeId)
  (A:o.op=.call {callee:=.builtin .append,args:=#[s,x],argTypes:=#[t,t]}) (v u v':Value) (w':World) (hs:a.eval s=v) (hx:a.eval x=u)
  (hr:(Builtin.append_ #[t,t] o.type #[v,u]).run P w=.ok v' w') (h:K (a.put o.dst v') w'):if qL o (yielded d a.tmps)=true then nC P o a w K Q else E:=by
 have D:qL o (yielded d a.tmps)=true:=by simp[qL,e]
 rw[aB D];unfold nC execOp;simp only[A,resolve,invoke,builtin,Sem.run_bind,Sem.run_pure,Result.andThen_ok,List.map_toArray,List.map_cons,List.map_nil,hs,hx,hr];exact h
def WrL (w:World) (p B:Nat) (d:List (List Bool)):Prop:=∃v,Arr w p 999983 [v]/\eO w B v d
def KT (e p:Nat) (w w':World):Prop:=w.heap.size<=w'.heap.size/\∀k o,w.heap[k]? =some o->k≠p->(∀c d,o≠.cells c e d)->w'.heap[k]? =some o
theorem KT.trans {e p:Nat} {a b c:World} (h:KT e p a b) (k:KT e p b c):KT e p a c:=by grind [KT]
theorem KT.below {e p:Nat} {w w':World} (h:Below w.heap.size w w'):KT e p w w':=⟨h.size,fun k _ d _ _=>(h.block k (fE.1 d).1).trans d⟩
theorem KT.app {e p B z n:Nat} {w w':World} {v:Value} {A:List Value} (D:w.ownsRow B e z v n A) (h:w.grownBy w' v.ownBlock):KT e p w w':=⟨h.size,fun k o d _ F=>by
 refine(h.block k (fE.1 d).1 (fun e=>?_)).trans d;rcases D.2 with⟨rfl,_⟩|⟨g,cap,G,rfl,_,I,_⟩
 ·cases e
 ·obtain rfl:=cC e
  grind⟩
theorem KT.box {e p i:Nat} {w:World} (v:Value):KT e p w (w.setCell ⟨p,i,none⟩ v):=⟨by simp,fun k o d A _=>by rw[heap_setCell_other w ⟨p,i,none⟩ k v A];exact d⟩
def NA (w w':World) (b:Nat) (s:ByteArray) (a:Nat) (d A D:Value) (T:List (List Int)) (ch:List Int) (fin:Int) (e:Ending):Prop:=
 ((jW s.data.toList (a:Int) T ch fin).2.2=0/\(∃v,e=.returned v/\OwI w' w.heap.size v (jW s.data.toList (a:Int) T ch fin).1)/\(∃p:Nat,(jW s.data.toList (a:Int) T ch fin).2.1=(p:Int)/\BRd w' b s p d A D)/\w.grownBy w' (some b))\/
 ((jW s.data.toList (a:Int) T ch fin).2.2≠0/\e=.panicked (rS (jW s.data.toList (a:Int) T ch fin).2.2)/\w.grownBy w' (some b))
theorem UW {w w':World} {b:Nat} {s:ByteArray} {a:Nat} {d e A:Value} {T:List (List Int)} {ch:List Int} {fin E:Int} (h:jW s.data.toList (a:Int) T ch fin=([],0,E)) (D:E≠0) (F:w.grownBy w' (some b)):NA w w' b s a d e A T ch fin (.panicked (rS E)):=by grind [jW,NA,rS]
theorem bCe {w w':World} {b p:Nat} {s:ByteArray} {a:Nat} {d e A v:Value} {T:List (List Int)} {ch r:List Int} {fin:Int} (h:jW s.data.toList (a:Int) T ch fin=(r,(p:Int),0)) (D:OwI w' w.heap.size v r) (F:BRd w' b s p d e A) (G:w.grownBy w' (some b)):NA w w' b s a d e A T ch fin (.returned v):=by grind [jW,OwI,BRd,NA]
theorem gbK {A B C:World} {g:Option Nat} (h:A.grownBy B g) (k:Below A.heap.size B C):A.grownBy C g:=
 ⟨k.os.trans h.os,k.tape.trans h.tape,k.output.trans h.output,aR h.size k.size,fun i d e=>(k.block i d).trans (h.block i d e)⟩
theorem aIv {d e:World} {D F G I:Addr} {v1 v2 v3 v4:Value} {B:Nat} {w0:World}
  (h:d.cell? D=some v1/\d.cell? F=some v2/\d.cell? G=some v3/\d.cell? I=some v4/\Below B w0 d/\B<=d.heap.size) (A:Below d.heap.size d e):
  e.cell? D=some v1/\e.cell? F=some v2/\e.cell? G=some v3/\e.cell? I=some v4/\Below B w0 e/\B<=e.heap.size:=by
 obtain⟨M,O,R,U,V,J⟩:=h;have k:∀{p:Addr} {v:Value},d.cell? p=some v->e.cell? p=some v:=fun{p} {v} L=>(A.cell (World.block_lt_of_cell? d p L)).trans L
 exact⟨k M,k O,k R,k U,V.trans (A.mono J),aR J A.size⟩
theorem RdI.openG {w:World} {b:Nat} {v:Value} {l:List Int} (h:∀W,w.grownBy W (some b)->RdI W v l) (A:0<l.length):
  ∃d off cap,v=.slice (some ⟨d,off,none⟩) l.length cap/\l.length<=cap/\cap<=maxLen/\∀W,w.grownBy W (some b)->∀j x,l[j]? =some x->W.cell? ⟨d,off+j,none⟩=some (.int .i64 x):=by
 obtain⟨a,cap,rfl,D,F,e⟩:=(h w (gbB (aH _ _))).open;obtain⟨d,off,rfl,-,-⟩:=e A;refine⟨d,off,cap,rfl,D,F,fun W G j x I=>?_⟩;obtain⟨J,L,M,-,-,e⟩:=(h W G).open
 grind
theorem RdL.openG {w:World} {b:Nat} {v:Value} {d:List (List Int)} (h:∀W,w.grownBy W (some b)->RdL W v d) (D:0<d.length):
  ∃e off cap,v=.slice (some ⟨e,off,none⟩) d.length cap/\d.length<=cap/\cap<=maxLen/\∀W,w.grownBy W (some b)->∀(j:Nat) (g:List Int),d[j]? =some g->∃x,W.cell? ⟨e,off+j,none⟩=some x/\RdI W x g:=by
 obtain⟨a,cap,rfl,F,G,A⟩:=(h w (gbB (aH _ _))).open;obtain⟨e,off,rfl,-,-⟩:=A D;refine⟨e,off,cap,rfl,F,G,fun W I j x J=>?_⟩;obtain⟨L,M,O,-,-,A⟩:=(h W I).open
 grind
theorem bCf (b:Nat) (s:ByteArray) (a C:Nat) (vt vc:Value) (T:List (List Int)) (ch:List Int) (w:World) (A:BRd w b s a vt vc (.int .i64 (C:Int))) (hs:s.size<=1000000) (ha:a<=80000000)
  (ht:∀W,w.grownBy W (some b)->RdL W vt T) (hc:∀W,w.grownBy W (some b)->RdI W vc ch) (hT:∀l∈T,bM l=0) (a9:∀x∈ch,0<=x/\x<(T.length:Int)) (b0:0<ch.length) (hn:ch.length<=40000) (b1:0<T.length) (f0:2<=C) (f1:C<=258):
  Calls pG 177 #[.pointer (some ⟨b,0,none⟩)] w fun e w'=>NA w w' b s a vt vc (.int .i64 (C:Int)) T ch ((C:Int)-1) e:=by
 have HL:=hid (mV s);have b2:w.grownBy w (some b):=gbB (aH _ _);obtain⟨O,R,ct,rfl,b7,b8,b3⟩:=RdL.openG ht b1;unfold maxLen at b8;obtain⟨bc,oc,cc,rfl,b9,c0,b4⟩:=RdI.openG hc b0;unfold maxLen at c0;have Z:b<w.heap.size:=Arr.lt A;obtain⟨N,hN⟩:=ex1 (ch.length);obtain⟨M,hM⟩:=ex1 (T.length);have m2:aJ.wrap ((C:Int)-1)=(C:Int)-1:=by rw[aM];omega
 have a4:=hid (fun k (r:List Int) (p E:Int) (b:Bool) (hk:k<=10*N) (h:bZ s.data.toList (a:Int) T ch ((C:Int)-1) k=(r,p,E,b)) (hE:E≠0\/b=true)=>aHr (by omega) h hE);have c3:=hid (fun k (r:List Int) (p:Int) (hk:k=10*N) (h:bZ s.data.toList (a:Int) T ch ((C:Int)-1) k=(r,p,0,false))=>show jW s.data.toList (a:Int) T ch ((C:Int)-1)=([],0,3) by
  unfold jW;rw[<-hN,<-hk,h];rfl)
 have c4:=hid (UE s.data.toList (a:Int) T ch ((C:Int)-1));have c8:=hid (fun(i:Nat) (hi:i<N)=>show ∃(X:Nat) (l:List Int),ch[i]? =some (X:Int)/\T[X]? =some l/\X<M/\bM l=0/\∀W,w.grownBy W (some b)->W.cell? ⟨bc,oc+i,none⟩=some (.int .i64 (X:Int))/\∃x,W.cell? ⟨O,R+X,none⟩=some x/\RdI W x l by
  obtain⟨x,hx⟩:=eG (show i<ch.length by omega);have f2:=a9 x (cN hx);obtain⟨X,rfl⟩:∃X:Nat,x=(X:Int):=⟨x.toNat,by omega⟩;have c9:X<T.length:=by omega
  have hl:T[X]? =some T[X]:=aN c9;exact⟨X,_,hx,hl,by omega,hT _ (cN hl),fun W hW=>⟨b4 W hW i _ hx,b3 W hW X _ hl⟩⟩)
 have d5:=hid (fun(i j k p X:Nat) (l r:List Int) (hk:k=10*i+j) (hj:j<10) (hx:ch[i]? =some (X:Int)) (hl:T[X]? =some l) (h:bZ s.data.toList (a:Int) T ch ((C:Int)-1) k=(r,(p:Int),0,false))=>
  show bZ s.data.toList (a:Int) T ch ((C:Int)-1) (k+1)=
   if(dE l s.data.toList (p:Int)).2.2≠0 then(r,(p:Int),(dE l s.data.toList (p:Int)).2.2,false)
   else if(dE l s.data.toList (p:Int)).1=(C:Int)-1 then
    if i+1<N then(r++[(dE l s.data.toList (p:Int)).1],(dE l s.data.toList (p:Int)).2.1,3,false)
    else(r++[(dE l s.data.toList (p:Int)).1],(dE l s.data.toList (p:Int)).2.1,0,true)
   else(r++[(dE l s.data.toList (p:Int)).1],(dE l s.data.toList (p:Int)).2.1,0,false) by
  rw[aHp (by rw[h]) (by rw[h]),h];have e1:ch.getD (k/10) 0=(X:Int):=by rw[show k/10=i by omega,bV,hx];rfl
  have e2:T.getD X []=l:=by rw[bV,hl];rfl
  rw[e1,fL,e2,hN,show k/10=i by omega])
 rw[<-hN] at hn b9 b0;rw[<-hM] at b7 b1;rw[<-hN,<-hM] at A ⊢;have m3:aJ.wrap ((N:Int)-1)=(N:Int)-1:=by rw[aM];omega
 clear ht hc hT a9 b4 b3 hM hN;have d3:=Arr.cell A (i:=3) rfl;go_enter func177,ntmps177;go_wp2_with fail;clear d3
 go_loopg [2,3,4,5,6,7,13,18] N (fun g s2 _s3 _s4 _s5 _s6 _s7 d6 _s18 wr=>∃(i p k:Nat) (v:Value) (r:List Int),i<=N/\g=N-i/\v=s2/\d6=.int .i64 (i:Int)/\p<=80000000/\Hid (k=10*i)/\Hid (bZ s.data.toList (a:Int) T ch ((C:Int)-1) k=(r,(p:Int),0,false))/\OwI wr w.heap.size v r/\BRd wr b s p (.slice (some ⟨O,R,none⟩) M ct) (.slice (some ⟨bc,oc,none⟩) N cc) (.int .i64 (C:Int))/\w.grownBy wr (some b))
 case atStart=>exact⟨0,a,0,_,[],aO _,rfl,rfl,rfl,ha,hid rfl,hid rfl,OwI.nil _ _,A,b2⟩
 case round=>
  clear A b2;obtain⟨i,p,k,v,r,hi,hg,rfl,rfl,hp,L,HS,I,A,D⟩:=hrel;have HG:=hid hg;clear hg
  by_cases d7:i<N
  ·have v1:decide ((i:Int)<(N:Int))=true:=aG (by omega);obtain⟨X,l,hx,hl,f3,d8,a5⟩:=c8.out i d7;have c1:=(a5 wr D).1;have HX:=hid hx;have d9:=hid hl;have e0:=hid a5;clear hx hl a5;go_wp2_with fail;clear c1
   go_loopg [2,5,6,7,18] 10 (fun g s2 _s5 _s6 _s7 e3 wr=>∃(j p k:Nat) (v:Value) (r:List Int),j<=10/\g=10-j/\v=s2/\e3=.int .i64 (j:Int)/\p<=80000000/\Hid (k=10*i+j)/\Hid (bZ s.data.toList (a:Int) T ch ((C:Int)-1) k=(r,(p:Int),0,false))/\OwI wr w.heap.size v r/\BRd wr b s p (.slice (some ⟨O,R,none⟩) M ct) (.slice (some ⟨bc,oc,none⟩) N cc) (.int .i64 (C:Int))/\w.grownBy wr (some b))
   case atStart=>exact⟨0,p,k,_,r,by omega,rfl,rfl,rfl,hp,hid L.out,HS,I,A,D⟩
   case round=>
    clear A D I L HS hp;obtain⟨j,p,k,v,r,hj,hg,rfl,rfl,hp,L,HS,I,A,D⟩:=hrel;have e4:=hid hg;clear hg
    by_cases e5:j<10
    ·have v2:decide ((j:Int)<10)=true:=aG (by omega);have f4:r.length<=400000:=by
      have h1:=c4.out k;rw[HS.out] at h1;have h1:r.length<=k:=h1;have:=L.out;omega
     obtain⟨x,c2,a6⟩:=(e0.out wr D).2;have d:=d5.out i j k p X l r L.out e5 HX.out d9.out HS.out;have a0:=fun W (h:Below wr.heap.size wr W)=>bCd x l s p W (a6.below h) d8 hs (by omega)
     have a1:=aHs (l:=l) (s:=s.data.toList) (a:=p);rw[HL.out] at a1;obtain⟨F,q2,q3,b5⟩:∃F q2 q3,dE l s.data.toList (p:Int)=(F,q2,q3):=⟨_,_,_,rfl⟩;rw[b5] at d a0 a1;simp only at d a0 a1;obtain⟨ax,cx,rfl,_,_,_⟩:=a6.open;have d0:=Arr.cell A (i:=0) rfl;have d1:=Arr.cell A (i:=1) rfl;have d2:=Arr.cell A (i:=2) rfl;have b6:=hid d;have e6:=hid a1;clear b5 a6 d a1;go_upto_region 6 with fail
     go_cut [5,6,7] (fun c5 c6 c7 wx=>c5=.int .i64 F/\c6=.int .i64 q2/\c7=.int .i64 q3/\Below wr.heap.size wr wx)
     case first=>
      obtain⟨B3,a7⟩:=ex1 (wr.heap.size);rw[<-a7] at a0;have e7:=hid a7;have a0:=fun W (h:W.cell? ⟨b,0,none⟩=some (.string s)/\W.cell? ⟨b,1,none⟩=some (.int .i64 (p:Int))/\W.cell? ⟨b,2,none⟩=some (.slice (some ⟨O,R,none⟩) M ct)/\W.cell? ⟨O,R+X,none⟩=some (.slice ax l.length cx)/\Below B3 wr W/\B3<=W.heap.size)=>a0 W h.2.2.2.2.1
      have f5:=aIv (B:=B3) (w0:=wr) ⟨d0,d1,d2,c2,aH _ _,by omega⟩ (aH wr.heap.size wr).drew;clear a7 d0 d1 d2 c2
      go_region_held3 (fun w'=>w'.cell? ⟨b,0,none⟩=some (.string s)/\w'.cell? ⟨b,1,none⟩=some (.int .i64 (p:Int))/\w'.cell? ⟨b,2,none⟩=some (.slice (some ⟨O,R,none⟩) M ct)/\w'.cell? ⟨O,R+X,none⟩=some (.slice ax l.length cx)/\Below B3 wr w'/\B3<=w'.heap.size)
       (first
        |with_reducible assumption
        |with_reducible exact aIv (by assumption) (by assumption))
       (first
        |(go_at_call 199;refine(a0 _ (by assumption)).mono ?_;rintro e w3 ⟨rfl,f6⟩))
      have e8:=(show w3.cell? ⟨b,0,none⟩=some (.string s)/\w3.cell? ⟨b,1,none⟩=some (.int .i64 (p:Int))/\w3.cell? ⟨b,2,none⟩=some (.slice (some ⟨O,R,none⟩) M ct)/\w3.cell? ⟨O,R+X,none⟩=some (.slice ax l.length cx)/\Below B3 wr w3/\B3<=w3.heap.size by assumption);go_wp2_with fail;go_meet;exact⟨rfl,rfl,rfl,by rw[<-e7.out];exact e8.2.2.2.2.1⟩
     case rest=>
      obtain⟨rfl,rfl,rfl,a2⟩:=hcut;have A:=Arr.below A a2 (Arr.lt A);have I:=OwI.below I a2 (aD _);have D:=gbT D (gbB a2);clear a0 d0 d1 d2 c2;go_wp2_with fail;refine(MK b s p q2 q3 _ _ _ wc A).mono ?_;rintro e w4 (⟨rfl,rfl,V,a8⟩|⟨U,rfl,rfl⟩)
      rotate_left
      ·have d:=b6.out;rw[aB U] at d;have G:=a4.out (k+1) _ _ _ _ (by have:=L.out;omega) d (.inl U);rw[aB U] at G;have HR:=hid G;clear d G;go_wp2_with fail;exact⟨rfl,UW HR.out U D⟩
      have d:=b6.out;rw[aA (fun k=>k rfl)] at d;obtain⟨p1,p2,p3,p4⟩:=e6.out rfl;obtain⟨pp,rfl⟩:∃pp:Nat,q2=(pp:Int):=⟨q2.toNat,by omega⟩;have D:=gbT D a8;have I:=Ow.kept I a8 (lD I Z);have f7:=D.size;have V:BRd w4 b s pp (.slice (some ⟨O,R,none⟩) M ct) (.slice (some ⟨bc,oc,none⟩) N cc) (.int .i64 (C:Int)):=V;clear A a8 a2
      by_cases Y:F=(C:Int)-1
      ·rw[aB Y] at d;have v3:(F==(C:Int)-1)=true:=by rw[beq_iff_eq];exact Y
       by_cases a3:i+1<N
       ·rw[aB a3] at d;have v4:((i:Int)==(N:Int)-1)=false:=by rw[cB];omega
        have G:=a4.out (k+1) _ _ _ _ (by have:=L.out;omega) d (.inl (by decide));rw[aB (by decide)] at G;have HR:=hid G;have HF:=hid Y;clear d G Y a3;go_wp2_with (at_builtin;refine gK rfl _ _ rfl w.heap.size _ _ rfl (OwI.alloc I _) _ F rfl (bX _ _ _) ?_ ?_ ?_;(omega);(simp;omega);intro v5 w5 r1 J r3;have d4:=((Arr.alloc V (.cells #[.int .i64 F] 3)).below J Z).cell (i:=4) rfl;have d3:=((Arr.alloc V (.cells #[.int .i64 F] 3)).below J Z).cell (i:=3) rfl);refine(tW false 3 _ (by decide)).mono ?_;rintro e w6 (⟨U,rfl,rfl⟩|⟨U,rfl,rfl⟩)
        ·exact absurd U (by decide)
        go_wp2_with fail;exact⟨rfl,UW HR.out (by decide) (gbK (gbT D (gbB (bD (aH _ _) _))) J)⟩
       ·rw[aA a3] at d;have v4:((i:Int)==(N:Int)-1)=true:=by rw[beq_iff_eq];omega
        have G:=a4.out (k+1) _ _ _ _ (by have:=L.out;omega) d (.inr rfl);rw[aA (fun k=>k rfl)] at G;have HR:=hid G;have HF:=hid Y;clear d G Y a3;go_wp2_with (at_builtin;refine gK rfl _ _ rfl w.heap.size _ _ rfl (OwI.alloc I _) _ F rfl (bX _ _ _) ?_ ?_ ?_;(omega);(simp;omega);intro v5 w5 r1 J r3;have d4:=((Arr.alloc V (.cells #[.int .i64 F] 3)).below J Z).cell (i:=4) rfl;have d3:=((Arr.alloc V (.cells #[.int .i64 F] 3)).below J Z).cell (i:=3) rfl);refine(tW true 3 _ (by decide)).mono ?_;rintro e w6 (⟨U,rfl,rfl⟩|⟨U,rfl,rfl⟩)
        rotate_left
        ·exact absurd U (by decide)
        go_wp2_with fail;go_ret;exact bCe HR.out r1 ((Arr.alloc V _).below J Z) (gbK (gbT D (gbB (bD (aH _ _) _))) J)
      ·rw[aA Y] at d;have v3:(F==(C:Int)-1)=false:=by rw[cB];exact Y
       have e9:=hid d;clear d Y;go_wp2_with (at_builtin;refine gK rfl _ _ rfl w.heap.size _ _ rfl (OwI.alloc I _) _ F rfl (bX _ _ _) ?_ ?_ ?_;(omega);(simp;omega);intro v5 w5 r1 J r3;have d4:=((Arr.alloc V (.cells #[.int .i64 F] 3)).below J Z).cell (i:=4) rfl);have hg:=e4.out
       go_roundg (10-(j+1))
       ·exact⟨j+1,pp,k+1,_,_,by omega,rfl,rfl,by go_num,by omega,hid (by have:=L.out;omega),e9,r1,(Arr.alloc V _).below J Z,gbK (gbT D (gbB (bD (aH _ _) _))) J⟩
       ·omega
    ·have v2:decide ((j:Int)<10)=false:=aE (by omega);go_wp2_with fail;have hg:=HG.out
     go_roundg (N-(i+1))
     ·exact⟨i+1,p,k,_,r,by omega,rfl,rfl,by go_num,hp,hid (by have:=L.out;omega),HS,I,A,D⟩
     ·omega
  ·have v1:decide ((i:Int)<(N:Int))=false:=aE (by omega);have G:=c3.out k _ _ (by have:=L.out;omega) HS.out;have HR:=hid G;clear G;go_wp2_with fail;exact⟨rfl,UW HR.out (by decide) D⟩
theorem aHt (s:List UInt8) (a c:Int):dW s a c=
  if aP s.length a 3≠0 then([],0,aP s.length a 3)
  else if aK s a 3<2\/6<aK s a 3 then([],0,3)
  else if aP s.length (a+3) 15≠0 then([],0,aP s.length (a+3) 15)
  else if aK s (a+3) 15=0 then([],0,3)
  else if(eD s (a+18) (aK s (a+3) 15) (aK s a 3)).2.2≠0 then([],0,(eD s (a+18) (aK s (a+3) 15) (aK s a 3)).2.2)
  else if(bO s (eD s (a+18) (aK s (a+3) 15) (aK s a 3)).2.1 c (aK s a 3)).2.2≠0 then([],0,(bO s (eD s (a+18) (aK s (a+3) 15) (aK s a 3)).2.1 c (aK s a 3)).2.2)
  else jW s (bO s (eD s (a+18) (aK s (a+3) 15) (aK s a 3)).2.1 c (aK s a 3)).2.1 (bO s (eD s (a+18) (aK s (a+3) 15) (aK s a 3)).2.1 c (aK s a 3)).1 (eD s (a+18) (aK s (a+3) 15) (aK s a 3)).1 (c-1):=rfl
theorem aHu {s:List UInt8} {a n t:Nat} (e:2<=t) (d:t<=6) (A:n<=1048576) (h:(eD s (a:Int) (n:Int) (t:Int)).2.2=0):
  (eD s (a:Int) (n:Int) (t:Int)).1.length=n/\(∀x∈(eD s (a:Int) (n:Int) (t:Int)).1,0<=x/\x<(t:Int))/\(a:Int)<=(eD s (a:Int) (n:Int) (t:Int)).2.1/\((eD s (a:Int) (n:Int) (t:Int)).2.1=(a:Int)\/(eD s (a:Int) (n:Int) (t:Int)).2.1<=8*(s.length:Int)):=by
 rw[MB s a n t e d A] at h ⊢;split at h
 ·grind
 ·next q=>
  rw[aA q];obtain⟨J,L,D,F⟩:=BV s (t:Int) (a:Int) (by omega) (by omega) n (eB.1 q);refine⟨by grind [sL,eD],fun x G=>?_,D,F⟩;obtain⟨b,I,rfl⟩:=List.mem_map.1 G;have:=(RI d b).1 (PJ _ _ (fun y M=>by grind [sT,eD]) b I);omega
end Go.Proofs.YtfckbfofgeilgaaGreatDoor
