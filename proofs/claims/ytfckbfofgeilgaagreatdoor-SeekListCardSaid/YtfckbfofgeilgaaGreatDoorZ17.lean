/-
  Texts put together (part 17): the walks and the plain laws on which the statement stands.
-/
import Derived.BigRegion
import Derived.Test.YtfckbfofgeilgaaGreatDoorZ12
import Derived.Test.YtfckbfofgeilgaaGreatDoorZ13
set_option maxRecDepth 100000
set_option maxHeartbeats 12800000
set_option linter.unusedVariables false
set_option linter.unusedSimpArgs false
open Go.Proofs.Tryz
open Go.Proofs.Tryz renaming prog->pG
open Go renaming callsD_of_wpS->OT
open Go.Act renaming put->bJ
open Go.Calls renaming quiet_of_same->AY
open Go.Instr renaming typeAssert->tZ
open Go.IntKind renaming i64->aJ,wrap_i64->aM
open Go.RowKit.Below renaming refl->aH
open Go.Value renaming int->bQ,slice->mM
open Go.World renaming cell?_setCell_other->lI,size_alloc->fP,size_setCell->aL5
open List renaming append_assoc->bU,getElem?_eq_getElem->aN,length_append->aL,length_map->aS,length_replicate->AT,length_take->aQ,mem_of_getElem?->cN,replicate->aX,setIfInBounds_toArray->bK,set_cons_succ->bB,set_cons_zero->bH,take_add_one->cG
open Nat renaming le_refl->aD,le_succ->tJ,min_eq_left->jF,zero_le->aO
open Option.some renaming inj->cC,injEq->lJ
namespace Go.Proofs.YtfckbfofgeilgaaGreatDoor
open Go.RowKit Go Go.Shelf
def fA (c:Int):UInt8:=UInt8.ofNat c.toNat
theorem TD (l:List Int):fJ l=dL (cT 2) (l.map fA):=rfl
theorem MA {l:List Int} (h:∀x∈l,x=0\/x=1):∀b∈l.map fA,b∈cT 2:=by grind [fA,cT]
theorem zT (l:List Int):(fJ l).length=l.length:=by simp[TD,vQ,fJ]
theorem FI {l:List Int} (h:∀x∈l,x=0\/x=1):∀x∈fJ l,0<=x/\x<2:=fun x d=>BH _ _ (MA h) x (by grind [TD,fJ])
theorem aXh {l:List Int} {k:Nat} {x:Int} (h:l[k]? =some x):eW (l.take (k+1))=eW (l.take k)++(aX x.toNat true++[false]):=by
 rw[cG,h];exact RJ _ _
theorem CH:∀(l:List Int) (B:Nat),(∀x∈l,0<=x/\x<(B:Int))->(eW l).length<=B*l.length
 |[],B,_=>by simp[eW]
 |x::l,B,h=>by
  have A:=CH l B (fun y d=>h y (List.mem_cons_of_mem _ d));have D:=h x (List.mem_cons_self ..);have e:eW (x::l)=(aX x.toNat true++[false])++eW l:=rfl;rw[e,aL,aL,AT];simp only[List.length_cons,List.length_nil,Nat.mul_add,Nat.mul_one];omega
theorem aXi (v:Value) (l:List Int) (w:World) (hr:RdI w v l) (hl:l.length<=20000) (d:∀x∈l,x=0\/x=1):
  Calls pG 71 #[v,.int .i64 2] w fun e w'=>e=.returned (.tuple #[fT (eW (fJ l)),.int .i64 0])/\Below w.heap.size w w':=by
 have HX:=hid d;have a1:=hid (FI d);have b2:=hid (MA d);have b3:=hid (zT l);clear d;have a2:=Arr.new w 69 [.string ⟨#[]⟩,.int .i64 0];have f3:(w.alloc (.cells #[.string ⟨#[]⟩,.int .i64 0] 69)).heap.size=w.heap.size+1:=by simp
 have a3:Below w.heap.size w (w.alloc (.cells #[.string ⟨#[]⟩,.int .i64 0] 69)):=bD (aH _ _) _;change Arr (w.alloc (.cells #[.string ⟨#[]⟩,.int .i64 0] 69)) _ _ _ at a2;have b4:=hr.below a3;obtain⟨a,ca,rfl,f4,c9,hA⟩:=b4.open;unfold maxLen at c9;clear hr b4;go_enter func71,ntmps71;go_wp2_with fail;generalize w.alloc (.cells #[.string ⟨#[]⟩,.int .i64 0] 69)=w0 at*
 go_loopg [6,7] l.length (fun g s6 s7 wr=>∃(k:Nat) (v6:Value),k<=l.length/\g=l.length-k/\v6=s6/\s7=.int .i64 (k:Int)/\OwB wr (w.heap.size+1) v6 ((l.take k).map fA)/\Below (w.heap.size+1) w0 wr)
 case atStart=>exact⟨0,_,aO _,rfl,rfl,rfl,Ow.nil _ _ _,aH _ _⟩
 case round=>
  obtain⟨k,v6,hk,F,rfl,rfl,A,M⟩:=hrel;have HG:=hid F;clear F;have f5:=M.size;have b5:((l.take k).map fA).length=k:=by rw[aS,aQ];omega
  by_cases d2:k<l.length
  ·have u1:decide ((k:Int)<(l.length:Int))=true:=aG (by omega);obtain⟨b1,o1,rfl,f6,b6⟩:=hA (by omega);obtain⟨x,d⟩:=eG d2;have c1:=(M.cell (p:=⟨b1,o1+k,none⟩) (by show b1<w.heap.size+1;omega)).trans (b6 k x d);have b7:=HX.out x (cN d);have HT:=hid (show(l.take (k+1)).map fA=(l.take k).map fA++[fA x] by rw[cG,d,List.map_append];rfl);have e1:((fA x).toNat:Int)=x:=by rcases b7 with rfl|rfl<;>rfl
   have v1:decide (x<0)=false:=aE (by omega);have v2:decide (x>=2)=false:=aE (by omega);have v3:decide (2<=x)=false:=aE (by omega);have m1:IntKind.u8.wrap x=x:=by rw[IntKind.wrap_u8];omega
   have m2:x%256=x:=by omega
   have e2:=hid e1;clear b6 hA d b7 e1;go_wp2_with (at_builtin;refine FB rfl _ _ rfl (w.heap.size+1) _ _ rfl (Ow.alloc A _) wr.heap.size (fA x) rfl ?_ ?_ ?_ ?_;(rw[e2.out];exact bX _ _ _);(omega);(simp;omega);intro v' w3 R L r3);have F:=HG.out
   go_roundg (l.length-(k+1))
   ·exact⟨k+1,_,by omega,rfl,rfl,by go_num,by rw[HT.out];exact R,(M.alloc (by omega) _).trans L⟩
   ·omega
  ·have u1:decide ((k:Int)<(l.length:Int))=false:=aE (by omega);have d3:k=l.length:=by omega
   subst d3;rw[List.take_of_length_le (aD _)] at A b5;obtain⟨D,hD⟩:=ex1 (l.map fA);rw[<-hD] at A b5 b2;have HD:=hid hD;clear hD hA;have d4:(convert 84 9 v6).run pG wr=.ok (.string (mkS D)) wr:=mP A.rd;have d5:(convert 84 9 v6).run pG wr.drew=.ok (.string (mkS D)) wr.drew:=mP (w:=wr.drew) (OwB.rd (w:=wr.drew) A);have b9:∀W,Calls pG 114 #[.int .i64 2] W fun e w'=>e=.returned (.string (mkS (cT 2)))/\w'=W:=fun W=>aEu 2 W (by decide) (by decide)
   have a4:=fun W=>aAw (mkS (cT 2)) (mkS D) W (by simp[cT]) (by rw[cS];omega) (by decide) b2.out
   have d6:=hid (show dL (mkS (cT 2)).data.toList (mkS D).data.toList=fJ l by rw[dP,dP,HD.out];rfl);rw[d6.out] at a4;go_upto_region 10 with fail
   go_cut [8,9] (fun c8 _c9 O=>∃U,U=c8/\OwI O wr.heap.size U (fJ l)/\Below wr.heap.size wr O)
   case first=>
    go_region_with (first|(go_at_call 114;refine(b9 _).mono ?_;rintro e w3 ⟨rfl,rfl⟩)|(go_at_call 107;refine(a4 _).mono ?_;rintro e w3 ⟨U,rfl,V,G⟩))
    all_goals
     go_wp2_with fail;go_meet;exact⟨U,rfl,V,(aH wr.heap.size wr).drew.trans G⟩
   case rest=>
    obtain⟨U,rfl,V,G⟩:=hcut;have c0:=(a2.below M (by omega)).below G (by omega);have c2:Below w.heap.size w wc:=(a3.trans (M.mono (by omega))).trans (G.mono (by omega));have d7:=G.size;obtain⟨P,hP⟩:=ex1 (fJ l);rw[<-hP] at a1 b3 V;have HP:=hid hP;have f7:P.length<=20000:=by have:=b3.out;omega
    obtain⟨a8,c8,rfl,f8,d8,a0⟩:=(OwI.rd V).open;unfold maxLen at d8;obtain⟨I,d9⟩:=ex1 (wc.heap.size);rw[<-d9] at d7 a0;clear hP M G A a2 a3 d4 d5 b9 a4 V;go_wp2_with fail
    go_loopg [10,11,12] P.length (fun g a5 e0 _s12 O=>∃i:Nat,i<=P.length/\g=P.length-i/\e0=.int .i64 (i:Int)/\OwI O I a5 (bI (eW (P.take i)))/\Below I wc O/\I<=O.heap.size)
    case atStart=>exact⟨0,aO _,rfl,rfl,by simp only[List.take_zero];exact OwI.nil _ _,aH _ _,by omega⟩
    case round=>
     obtain⟨i,hi,F,rfl,A,Y,c3⟩:=hrel;have e3:=hid F;clear F HG;have c4:=CH (P.take i) 2 (fun x d=>a1.out x (List.mem_of_mem_take d));rw[aQ,jF hi] at c4;obtain⟨J,a6⟩:=ex1 (eW (P.take i));rw[<-a6] at A c4;have c5:=hid a6;clear a6
     by_cases e4:i<P.length
     ·have u2:decide ((i:Int)<(P.length:Int))=true:=aG (by omega);obtain⟨b8,o8,rfl,G,a7⟩:=a0 (by omega);obtain⟨x,d⟩:=eG e4;have c1:=(Y.cell (p:=⟨b8,o8+i,none⟩) G).trans (a7 i x d);have e5:=a1.out x (cN d);have HT:=hid (show eW (P.take (i+1))=J++(aX x.toNat true++[false]) by rw[c5.out];exact aXh d);obtain⟨X,rfl⟩:∃X:Nat,x=(X:Int):=⟨x.toNat,by omega⟩;rw[Int.toNat_natCast] at HT;have f9:X<2:=by omega
      have e6:=hid (fun wz (h:Below I wc wz)=>(h.cell (p:=⟨b8,o8+i,none⟩) G).trans (a7 i _ d));clear a7 a0 d e5;go_wp2_with fail
      go_loopg [10,12] X (fun g a5 e7 wy=>∃c:Nat,c<=X/\g=X-c/\e7=.int .i64 (c:Int)/\OwI wy I a5 (bI (J++aX c true))/\Below I wc wy/\I<=wy.heap.size)
      case atStart=>exact⟨0,aO _,rfl,rfl,by simpa using A,Y,c3⟩
      case round=>
       clear A c1 Y c3;obtain⟨c,g0,F,rfl,A,a9,g1⟩:=hrel;have e8:=hid F;clear F;have c1:=e6.out _ a9;have g2:(bI (J++aX c true)).length<=50000:=by rw[cX,aL,AT];omega
       by_cases g3:c<X
       ·have u3:decide ((c:Int)<(X:Int))=true:=aG (by omega);go_wp2_with (at_builtin;refine gK rfl _ _ rfl I _ _ rfl (OwI.alloc A _) _ 1 rfl (bX _ _ _) ?_ ?_ ?_;(omega);(simp;omega);intro v3 w3 R L r3);have g4:=e8.out
        go_roundg (X-(c+1))
        ·
         refine⟨c+1,by omega,rfl,by go_num,?_,(a9.alloc (by omega) _).trans L,?_⟩
         ·rw[List.replicate_succ',<-bU,iT];exact R
         ·have:=L.size;simp only[fP] at this;omega
        ·omega
       ·have u3:decide ((c:Int)<(X:Int))=false:=aE (by omega);obtain rfl:c=X:=by omega
        go_wp2_with (at_builtin;refine gK rfl _ _ rfl I _ _ rfl (OwI.alloc A _) _ 0 rfl (bX _ _ _) ?_ ?_ ?_;(omega);(simp;omega);intro v3 w3 R L r3);have g5:=e3.out
        go_roundg (P.length-(i+1))
        ·
         refine⟨i+1,by omega,rfl,by go_num,?_,(a9.alloc (by omega) _).trans L,?_⟩
         ·rw[HT.out,<-bU,iT];exact R
         ·have:=L.size;simp only[fP] at this;omega
        ·omega
     ·have u2:decide ((i:Int)<(P.length:Int))=false:=aE (by omega);have e9:i=P.length:=by omega
      subst e9;have HF:=hid (show J=eW (fJ l) by rw[c5.out,List.take_length,HP.out]);have c6:=c0.below Y (by omega);have c7:Below w.heap.size w wr:=c2.trans (Y.mono (by omega));clear c0 c2 a0;go_wp2_with fail;refine(CF _ J _ (OwI.rd A) (by omega)).mono ?_;rintro e w6 ⟨rfl,b0⟩;have Z:=c6.below b0 (by omega);have f2:Below w.heap.size w w6:=c7.trans (b0.mono (by omega));have d0:=Z.cell (i:=0) rfl;have d1:=Z.cell (i:=1) rfl;have f0:=Z.free 0;have f1:=Z.free 1;clear b0 A c6 c7;go_wp2_with fail
      have z0:Arr ((w6.setCell ⟨w.heap.size,0,none⟩ (.string (mkS (aI J)))).setCell ⟨w.heap.size,1,none⟩ (.int .i64 (J.length:Int))) w.heap.size 69 [.string (mkS (aI J)),.int .i64 (J.length:Int)]:=(Z.set 0 _).set 1 _;refine bodyPost_ret (uS rfl _ _ w.heap.size _ _ (0,0) _ rfl z0 underlying69 rfl rQ) rfl ?_;exact⟨by rw[<-HF.out];rfl,(f2.setCell (p:=⟨w.heap.size,0,none⟩) (aD _) _).setCell (p:=⟨w.heap.size,1,none⟩) (aD _) _⟩
theorem aE7 {s:List UInt8} {t a:Int} {k:Nat} (h:(dR s t a k).2.2=0):dR s t a (k+1)=
  if(kN s t (dR s t a k).2.1 0).2.2≠0 then((dR s t a k).1,(dR s t a k).2.1,(kN s t (dR s t a k).2.1 0).2.2)
  else((dR s t a k).1++[(kN s t (dR s t a k).2.1 0).1],(kN s t (dR s t a k).2.1 0).2.1,0):=by grind [dR,kN]
theorem aE8 {s:List UInt8} {t a:Int} {k:Nat} (h:(dR s t a k).2.2≠0):∀j,(dR s t a (k+j)).2.2=(dR s t a k).2.2
 |0=>rfl
 |j+1=>by
  have d:=aE8 h j
  grind [dR]
theorem MB (s:List UInt8) (a n t:Nat) (d:2<=t) (e:t<=6) (A:n<=1048576):eD s (a:Int) (n:Int) (t:Int)=
  if(dR s (t:Int) (a:Int) n).2.2≠0 then([],0,(dR s (t:Int) (a:Int) n).2.2) else((unL (cT t) (dR s (t:Int) (a:Int) n).1).map (fun b=>(b.toNat:Int)),(dR s (t:Int) (a:Int) n).2.1,0):=by grind [eD,dR,unL,cT]
theorem aE9 {s:List UInt8} {a n t k:Nat} (d:2<=t) (e:t<=6) (A:n<=1048576) (D:k<=n) (h:(dR s (t:Int) (a:Int) k).2.2≠0):eD s (a:Int) (n:Int) (t:Int)=([],0,(dR s (t:Int) (a:Int) k).2.2):=by
 have:=aE8 h (n-k)
 grind [MB,dR,eD]
def FJ (w w':World) (s:List UInt8) (a n t:Nat) (e:Ending):Prop:=
 ∃v,e=.returned (.tuple #[v,.int .i64 (eD s (a:Int) (n:Int) (t:Int)).2.1,.int .i64 (eD s (a:Int) (n:Int) (t:Int)).2.2])/\OwI w' w.heap.size v (eD s (a:Int) (n:Int) (t:Int)).1/\Below w.heap.size w w'
theorem TE {w w':World} {s:List UInt8} {a n t:Nat} {E:Int} (h:eD s (a:Int) (n:Int) (t:Int)=([],0,E)) (d:Below w.heap.size w w'):FJ w w' s a n t (.returned (.tuple #[.slice none 0 0,.int .i64 0,.int .i64 E])):=by grind [OwI.nil,eD,FJ]
def lT (X:List Int) (n:Int):List Value:=X.map (bQ .i64)++[.int .i64 n]
def MC (X:List Int) (i:Nat):List Int:=(X.drop i).take 1++X.take i++X.drop (i+1)
def CI:List Value->Nat->List Value->List Value
 |l,_,[]=>l
 |l,o,v::r=>CI (l.set o v) (o+1) r
theorem Arr.setCells {b:Nat} {e:TypeId}:∀(d:List Value) (o:Nat) (w:World) (l:List Value),Arr w b e l->Arr (w.setCells b o d) b e (CI l o d)
 |[],_,_,_,h=>h
 |v::d,o,w,l,h=>Arr.setCells d (o+1) (w.setCell ⟨b,o,none⟩ v) (l.set o v) (h.set o v)
theorem aFa:∀(d:List Value) (o:Nat) (l:List Value),(CI l o d).length=l.length
 |[],_,_=>rfl
 |v::d,o,l=>by simp[CI,aFa]
theorem aFb (b:Nat):∀(d:List Value) (o:Nat) (w:World),w.grownBy (w.setCells b o d) (some b)
 |[],_,_=>⟨rfl,rfl,rfl,aD _,fun _ _ _=>rfl⟩
 |v::d,o,w=>eU (gD w b o v) (aFb b d (o+1) (w.setCell ⟨b,o,none⟩ v))
theorem aXm (X:List Int) (d:X.length=6) (n:Int) (i:Nat) (e:i<6):(CI (lT X n) 1 ((X.take i).map (bQ .i64))).set 0 (.int .i64 (X.getD i 0))=lT (MC X i) n:=by
 match X,d with
 |[A,D,F,G,I,J],_=>
  obtain rfl|rfl|rfl|rfl|rfl|rfl:i=0\/i=1\/i=2\/i=3\/i=4\/i=5:=by omega
  all_goals rfl
theorem MD {X:List Int} {n:Int} {j:Nat} (h:j<X.length):(lT X n)[j]? =some (.int .i64 (X.getD j 0)):=by grind [lT]
theorem aXn:(pG.info? 3).map (·.size)=some 1:=by kernel_rfl
theorem aXo (b o j:Nat):(⟨b,o,none⟩:Addr).add j=⟨b,o+j,none⟩:=by unfold Addr.add;split<;>simp_all
theorem aFc (b:Nat) (X:List Int) (n:Int) (i:Nat) (I:X.length=6) (hi:i<6) (W:World) (J:Arr W b 339 (lT X n)):
  Calls pG 219 #[.pointer (some ⟨b,0,none⟩),.int .i64 (i:Int)] W fun e w'=>
   e=.returned (.int .i64 (X.getD i 0))/\Arr w' b 339 (lT (MC X i) n)/\W.grownBy w' (some b):=by
 have O:=J.cell (MD (n:=n) (show i<X.length by omega));have L:=hid (aXm X I n i hi);have d:Arr W.drew b 339 (lT X n):=J;have A:((X.take i).map (bQ .i64)).length=i:=by rw[aS,aQ];omega
 have M:=run_copy_cells (P:=pG) W.drew 53 53 3 3 b 1 5 5 ⟨b,0,none⟩ i 6 ((X.take i).map (bQ .i64)) underlying53 aXn (by rw[A];exact(jF (by omega)).symm)
  (fun j v D=>by
   rw[aXo,Nat.zero_add];have F:=(List.getElem?_eq_some_iff.1 D).1;rw[A] at F;rw[List.getElem?_map,List.getElem?_take_of_lt F,aN (show j<X.length by omega)] at D;rw[d.cell (MD (n:=n) (show j<X.length by omega)),List.getD_eq_getElem?_getD,aN (show j<X.length by omega)];exact D)
  (fun j F=>by
   rw[A] at F;have hl:(lT X n).length=7:=by unfold lT;rw[aL,aS,I];rfl
   rw[d.cell (aN (show 1+j<(lT X n).length by omega))];rfl)
  (fun j _=>d.free (1+j)) (fun v D=>by obtain⟨y,_,rfl⟩:=List.mem_map.1 D;rfl)
 rw[A] at M;have t1:(0:Int)<=(i:Int):=by omega
 have t2:(i:Int)<=6:=by omega
 have t3:(i:Int)<6:=by omega
 have G:=d.setCells ((X.take i).map (bQ .i64)) 1;have R:W.grownBy (W.drew.setCells b 1 ((X.take i).map (bQ .i64))) (some b):=eU (show W.grownBy W.drew (some b) from⟨rfl,rfl,rfl,aD _,fun _ _ _=>rfl⟩) (aFb b _ 1 W.drew);obtain⟨U,V⟩:=ex1 ((X.take i).map (bQ .i64));rw[<-V] at M G R L;obtain⟨x,Y⟩:=ex1 (X.getD i 0);rw[<-Y] at O L ⊢;clear A V Y d J;go_enter func219,ntmps219;go_wp2_with fail
 go_region
 generalize W.drew.setCells b 1 U=W2 at*
 obtain⟨v0,Z⟩:∃v0,(CI (lT X n) 1 U)[0]? =some v0:=⟨_,aN (by rw[aFa];unfold lT;rw[aL,aS,I];simp)⟩;have d0:=G.cell Z;have f0:=G.free 0;clear Z M O;go_wp2_with fail;go_ret;refine⟨rfl,?_,eU R (gD _ _ _ _)⟩;have:=G.set 0 (.int .i64 x);rw[L.out] at this;exact this
theorem aFd (t:Nat) (w:World) (d:2<=t) (A:t<=6):Calls pG 217 #[.int .i64 (t:Int)] w fun e w'=>e=.returned (.bool true)/\w'=w:=by
 have u1:decide ((t:Int)>=2)=true:=aG (by omega);have D:decide (2<=(t:Int))=true:=aG (by omega);have F:decide ((t:Int)<=6)=true:=aG (by omega);go_enter func217,ntmps217;go_wp2_with fail;go_ret;exact⟨rfl,rfl⟩
def aFe:List Int:=[0,1,2,3,4,5]
def ofI (k:Nat):List Int:=(List.range 6).map (fun j=>if j<k then(j:Int) else 0)
theorem aXp (k:Nat) (n:Int) (h:k<6):(lT (ofI k) n).set k (.int .i64 (k:Int))=lT (ofI (k+1)) n:=by
 obtain rfl|rfl|rfl|rfl|rfl|rfl:k=0\/k=1\/k=2\/k=3\/k=4\/k=5:=by omega
 all_goals rfl
theorem aXq (k:Nat):(ofI k).length=6:=by simp[ofI]
theorem aFf (n:Int) (w:World):Calls pG 218 #[.int .i64 n] w fun e w'=>e=.returned (.pointer (some ⟨w.heap.size,0,none⟩))/\Arr w' w.heap.size 339 (lT aFe n)/\Below w.heap.size w w'/\w.heap.size<w'.heap.size:=by
 go_enter func218,ntmps218;go_wp2_with fail;have A:=Arr.new w 339 (lT (ofI 0) n);have D:=bD (aH w.heap.size w) (.cells (lT (ofI 0) n).toArray 339);have F:w.heap.size<(w.alloc (.cells (lT (ofI 0) n).toArray 339)).heap.size:=by simp
 change Arr (w.alloc (.cells #[.int .i64 0,.int .i64 0,.int .i64 0,.int .i64 0,.int .i64 0,.int .i64 0,.int .i64 n] 339)) _ _ _ at A;change Below w.heap.size w (w.alloc (.cells #[.int .i64 0,.int .i64 0,.int .i64 0,.int .i64 0,.int .i64 0,.int .i64 0,.int .i64 n] 339)) at D;change w.heap.size<(w.alloc (.cells #[.int .i64 0,.int .i64 0,.int .i64 0,.int .i64 0,.int .i64 0,.int .i64 0,.int .i64 n] 339)).heap.size at F;generalize w.alloc (.cells #[.int .i64 0,.int .i64 0,.int .i64 0,.int .i64 0,.int .i64 0,.int .i64 0,.int .i64 n] 339)=O at*
 go_loopg [4,8] 6 (fun g _s4 L wr=>∃k:Nat,k<=6/\g=6-k/\L=.int .i64 (k:Int)/\Arr wr w.heap.size 339 (lT (ofI k) n)/\Below w.heap.size w wr/\w.heap.size<wr.heap.size)
 case atStart=>exact⟨0,aO _,rfl,rfl,A,D,F⟩
 case round=>
  clear A D F;obtain⟨k,R,G,rfl,A,D,F⟩:=hrel;have M:=hid G;clear G
  by_cases I:k<6
  ·have u1:decide ((k:Int)<6)=true:=aG (by omega);have U:(k:Int)<6:=by omega
   have d:=A.cell (MD (n:=n) (show k<(ofI k).length by rw[aXq];exact I));have f:=A.free k;have J:=A.set k (.int .i64 (k:Int));rw[aXp k n I] at J;go_wp2_with fail;have G:=M.out
   go_roundg (6-(k+1))
   ·exact⟨k+1,by omega,rfl,by go_num,J,D.setCell (p:=⟨w.heap.size,k,none⟩) (aD _) _,by rw[aL5];exact F⟩
   ·omega
  ·have u1:decide ((k:Int)<6)=false:=aE (by omega);obtain rfl:k=6:=by omega
   go_wp2_with fail;go_ret;exact⟨rfl,A,D,F⟩
def MJ (E:Int):List PanicEntry:=[{v:=.iface 341 (.agg #[.int .i64 E]),recovered:=false}]
def DRd (w:World) (b:Nat) (s:ByteArray) (a:Nat):Prop:=Arr w b 344 [.string s,.int .i64 (a:Int)]
theorem TO (b:Nat) (s:ByteArray) (a k:Nat) (W:World) (A:DRd W b s a) (O:s.size<=1000000) (R:k<=40) (Y:a<=100000000):
  Calls pG 223 #[.pointer (some ⟨b,0,none⟩),.int .i64 (k:Int)] W fun e w'=>
   (aP s.size (a:Int) k=0/\e=.returned (.int .i64 (aK s.data.toList (a:Int) k:Int))/\DRd w' b s (a+k)/\W.grownBy w' (some b))\/(aP s.size (a:Int) k≠0/\e=.panicked (MJ (aP s.size (a:Int) k))/\W.grownBy w' (some b)):=by
 have G:=fun W=>uQ s (a:Int) k W O (by omega) (by omega) (by omega)
 have M:=jV s.data.toList (a:Int) k;have U:aK s.data.toList (a:Int) k<1099511627776:=Nat.lt_of_lt_of_le M (Nat.le_trans (Nat.pow_le_pow_right (by decide) R) (by decide));obtain⟨E,D⟩:=ex1 (aP s.size (a:Int) k);obtain⟨V,F⟩:=ex1 (aK s.data.toList (a:Int) k);rw[<-D,<-F];rw[<-D,<-F] at G;rw[<-F] at U;have Z:=hid D;clear D F M;have c0:=Arr.cell A (i:=0) rfl;have c1:=Arr.cell A (i:=1) rfl;have f1:=Arr.free A 1;have m1:aJ.wrap (V:Int)=(V:Int):=by rw[aM];omega
 have m2:aJ.wrap ((a:Int)+(k:Int))=(a:Int)+(k:Int):=by rw[aM];omega
 go_enter func223,ntmps223
 by_cases I:E=0
 ·subst I;go_wp2_with fail
  go_quiet (first|(go_at_call 149;exact AY (G _)))
  generalize d:W.drewN nq=W1 at*
  have J:DRd W1 b s a:=by rw[<-d];exact A
  have L:W.grownBy W1 (some b):=by rw[<-d];exact⟨rfl,rfl,rfl,aD _,fun _ _ _=>rfl⟩
  have d1:=Arr.cell J (i:=1) rfl;have g1:=Arr.free J 1;clear d;go_wp2_with fail;go_ret;exact⟨rfl,by have:=Arr.set J 1 (.int .i64 ((a:Int)+(k:Int)));unfold DRd;push_cast;exact this,gbT L (gbS _ _ _ _)⟩
 ·have u1:(E != 0)=true:=by simpa using I
  go_wp2_with fail
  go_quiet (first|(go_at_call 149;exact AY (G _)))
  generalize d:W.drewN nq=W1 at*
  have L:W.grownBy W1 (some b):=by rw[<-d];exact⟨rfl,rfl,rfl,aD _,fun _ _ _=>rfl⟩
  clear d;go_wp2_with fail;exact⟨rfl,.inr ⟨I,rfl,L⟩⟩
theorem TP (b:Nat) (n:Int) (W:World):Calls pG 222 #[.pointer (some ⟨b,0,none⟩),.int .i64 n] W fun e w'=>
  ((1<=n/\n<=20)/\e=.returned (.int .i64 n)/\w'=W)\/(¬(1<=n/\n<=20)/\e=.panicked (MJ 3)/\w'=W):=by
 have A:=aF8 n
 by_cases h:1<=n/\n<=20
 ·have d:(decide (1<=n)&&decide (n<=20))=true:=by simp[h.1,h.2]
  rw[d] at A;have D:=hid h;clear h d;go_enter func222,ntmps222;go_wp2_with fail;refine(A _).mono ?_;rintro e w' ⟨rfl,rfl⟩;go_wp2_with fail;go_ret;exact .inl ⟨D.out,rfl,rfl⟩
 ·have d:(decide (1<=n)&&decide (n<=20))=false:=by
   rw[Bool.and_eq_false_iff];rcases Classical.em (1<=n) with q|q
   ·exact .inr (aE (fun k=>h ⟨q,k⟩))
   ·exact .inl (aE q)
  rw[d] at A;have D:=hid h;clear h d;go_enter func222,ntmps222;go_wp2_with fail;refine(A _).mono ?_;rintro e w' ⟨rfl,rfl⟩;go_wp2_with fail;exact⟨rfl,.inr ⟨D.out,rfl,rfl⟩⟩
theorem aY0 (b:Nat) (s:ByteArray) (a:Nat) (n:Int) (W:World) (hA:DRd W b s a) (hs:s.size<=1000000) (ha:a<=90000010) (a9:1<=n) (b0:n<=20):
  Calls pG 224 #[.pointer (some ⟨b,0,none⟩),.int .i64 n] W fun e w'=>
   ((fS s.data.toList (a:Int) n).2.2=0/\e=.returned (.int .i64 (fS s.data.toList (a:Int) n).1)/\(∃p:Nat,(fS s.data.toList (a:Int) n).2.1=(p:Int)/\DRd w' b s p)/\W.grownBy w' (some b))\/((fS s.data.toList (a:Int) n).2.2≠0/\e=.panicked (MJ (fS s.data.toList (a:Int) n).2.2)/\W.grownBy w' (some b)):=by
 have HL:=hid (mV s);obtain⟨R,hR⟩:=ex1 (fS s.data.toList (a:Int) n);rw[<-hR];have HR:=hid hR.symm;clear hR;have b3:∀(args:Array Value) (w:World),(callFunc 223 args).run pG w=.ok (.enter 223 args) w:=enters_of func223 (by kernel_rfl) rfl;go_enter func224,ntmps224;go_wp2_with fail
 go_loopg [1] (8*s.size+2-a) (fun g s1 wr=>∃(p:Nat) (m:Int),p<=90000012/\1<=m/\m<=20/\g=8*s.size+2-p/\s1=.int .i64 m/\Hid (fS s.data.toList (p:Int) m=R)/\DRd wr b s p/\W.grownBy wr (some b))
 case atStart=>exact⟨a,n,by omega,a9,b0,rfl,rfl,HR,hA,⟨rfl,rfl,rfl,aD _,fun _ _ _=>rfl⟩⟩
 case round=>
  obtain⟨p,m,hp,b4,b5,G,rfl,HP,b1,I⟩:=hrel;have HG:=hid G;clear G;have A:=BU s.data.toList (p:Int) m (by omega);rw[HP.out,HL.out] at A;have J:=TO b s p 1 wr b1 hs (by decide) (by omega);have a1:=iG (n:=s.size) (at':=(p:Int)) (k:=1);have a2:=iG (n:=s.size) (at':=((p:Int)+1)) (k:=1);have a3:=jV s.data.toList (p:Int) 1;have a4:=jV s.data.toList ((p:Int)+1) 1;have L:=fun W1 (h:DRd W1 b s (p+1))=>TO b s (p+1) 1 W1 h hs (by decide) (by omega)
  push_cast at L;obtain⟨E1,M⟩:=ex1 (aP s.size (p:Int) 1);obtain⟨V1,O⟩:=ex1 (aK s.data.toList (p:Int) 1);obtain⟨E2,U⟩:=ex1 (aP s.size ((p:Int)+1) 1);obtain⟨V2,V⟩:=ex1 (aK s.data.toList ((p:Int)+1) 1);rw[<-M,<-O,<-U,<-V] at A;rw[<-M,<-O] at J;rw[<-M] at a1;rw[<-U] at a2;rw[<-O] at a3;rw[<-V] at a4;simp only[<-U,<-V] at L;have a3:V1<2:=a3;have a4:V2<2:=a4;have b2:=hid L;clear M O U V L;go_wp2_with fail;refine J.mono ?_;rintro e w1 (⟨Y,rfl,a7,D⟩|⟨Y,rfl,D⟩)
  ·subst Y;rw[aA (fun k=>k rfl)] at A;have a1:=a1 rfl
   by_cases h2:V1=0
   ·subst h2;rw[aB rfl] at A;have d:=hid A;clear A;go_wp2_with fail;go_ret;exact .inl ⟨by rw[d.out],by rw[d.out];rfl,⟨p+1,by rw[d.out];push_cast;rfl,a7⟩,gbT I D⟩
   ·obtain rfl:V1=1:=by omega
    rw[aA h2] at A;clear h2;have b6:aJ.wrap (m+1)=m+1:=by rw[aM];omega
    go_wp2_with fail;refine(b2.out w1 a7).mono ?_;rintro e w2 (⟨Z,rfl,a8,a5⟩|⟨Z,rfl,a5⟩)
    ·subst Z;rw[aA (fun k=>k rfl)] at A;have a2:=a2 rfl;have a0:=gbT (gbT I D) a5
     by_cases h4:V2=0
     ·subst h4;rw[aB rfl] at A;have F:=hid A;have a6:=TP b (m+1);clear A J;go_wp2_with fail;refine(a6 _).mono ?_;rintro e w3 (⟨h5,rfl,rfl⟩|⟨h5,rfl,rfl⟩)
      ·have d:=hid (show fS s.data.toList ((p:Int)+2) (m+1)=R by rw[F.out,aA (by omega)]);go_wp2_with fail;have G:=HG.out
       go_roundg (8*s.size+2-(p+2))
       ·exact⟨p+2,m+1,by omega,by omega,by omega,rfl,rfl,by have:=d;push_cast;exact this,a8,a0⟩
       ·omega
      ·have d:=hid (show R=(0,0,3) by rw[F.out,aB (by omega)]);exact⟨rfl,.inr ⟨by rw[d.out];exact(by decide:(3:Int)≠0),by rw[d.out],a0⟩⟩
     ·obtain rfl:V2=1:=by omega
      rw[aA h4] at A;have F:=hid A;have a6:=TP b (m-1);have b7:aJ.wrap (m+1-2)=m-1:=by rw[aM];omega
      have b8:m+1-2=m-1:=by omega
      have b9:aJ.wrap (m-1)=m-1:=by rw[aM];omega
      clear A J h4;go_wp2_with fail;refine(a6 _).mono ?_;rintro e w3 (⟨h5,rfl,rfl⟩|⟨h5,rfl,rfl⟩)
      ·have d:=hid (show fS s.data.toList ((p:Int)+2) (m-1)=R by rw[F.out,aA (by omega)]);go_wp2_with fail;have G:=HG.out
       go_roundg (8*s.size+2-(p+2))
       ·exact⟨p+2,m-1,by omega,by omega,by omega,rfl,rfl,by have:=d;push_cast;exact this,a8,a0⟩
       ·omega
      ·have d:=hid (show R=(0,0,3) by rw[F.out,aB (by omega)]);exact⟨rfl,.inr ⟨by rw[d.out];exact(by decide:(3:Int)≠0),by rw[d.out],a0⟩⟩
    ·rw[aB Z] at A;have d:=hid A;exact⟨rfl,.inr ⟨by rw[d.out];exact Z,by rw[d.out],gbT (gbT I D) a5⟩⟩
  ·rw[aB Y] at A;have d:=hid A;exact⟨rfl,.inr ⟨by rw[d.out];exact Y,by rw[d.out],gbT I D⟩⟩
theorem aY1 (p q r:Addr) (w:World):
  CallsD pG 221 #[.pointer (some p),.pointer (some q),.pointer (some r)] .returning w fun e d w'=>e=.returned (.tuple #[])/\d=.returning/\w'=w:=by
 refine OT func221 rfl fun A F D=>?_
 apply wpS_seq;apply wpS_region;simp[wpOpsS,go_sem,recoverD,D,ntmps221,Exit.thenS];refine wpS_of_wp ?_;go_wp2
 cases A
 simp_all [bodyPostS,results,f221]
theorem xY {b c o p:Nat} (h:b≠c):(⟨b,o,none⟩:Addr)≠⟨c,p,none⟩:=by simp
theorem aY2 (v:Value) (d:TypeId) (w:World):(tZ (.iface 341 v) d 341 true).run pG w=.ok (.tuple #[v,.bool true]) w:=by
 simp[tZ,run_underlying underlying341]
theorem aY3 (z:Nat) (E:Int) (O:List PanicEntry) (w:World) (x6 x7 x8:Value) (I:Arr w z 53 [x6]) (J:Arr w (z+1) 3 [x7]) (A:Arr w (z+1+1) 27 [x8]):
  CallsD pG 221 #[.pointer (some ⟨z,0,none⟩),.pointer (some ⟨z+1,0,none⟩),.pointer (some ⟨z+1+1,0,none⟩)] (.panicking ({v:=.iface 341 (.agg #[.int .i64 E]),recovered:=false}::O)) w fun e u' w'=>
   e=.returned (.tuple #[])/\u'=.panicking ({v:=.iface 341 (.agg #[.int .i64 E]),recovered:=true}::O)/\Arr w' z 53 [.slice none 0 0]/\Arr w' (z+1) 3 [.int .i64 0]/\Arr w' (z+1+1) 27 [.int .i64 E]/\Below z w w':=by
 have e6:=I.cell (i:=0) rfl;have e7:=J.cell (i:=0) rfl;have e8:=A.cell (i:=0) rfl;have f6:=I.free 0;have f7:=J.free 0;have f8:=A.free 0;refine OT func221 rfl fun c₀ cs hu=>?_
 apply wpS_seq;apply wpS_region;simp[wpOpsS,go_sem,recoverD,hu,ntmps221,Exit.thenS];refine wpS_of_wp ?_;simp only[Array.replicate_succ,Array.replicate_zero,List.push_toArray,List.append_toArray,List.nil_append,List.cons_append,bK,bH,bB];have b0:=aY2 (.agg #[.int .i64 E]);go_wp2_with fail;have a1:=I.alloc (.cells #[.int .i64 E] 341);have a2:=J.alloc (.cells #[.int .i64 E] 341);have a3:=A.alloc (.cells #[.int .i64 E] 341);have R:=bX w (.int .i64 E) 341;have a4:=A.lt
 have a5:Below z w (w.alloc (.cells #[.int .i64 E] 341)):=(aH z w).alloc (by omega) _;generalize w.alloc (.cells #[.int .i64 E] 341)=D at*
 obtain⟨F,a0⟩:=ex1 (w.heap.size);rw[<-a0] at R a4 ⊢;clear e6 e7 e8 f6 f7 f8 a0 I J A;have a6:=a5.drew;have U:Arr D.drew z 53 [x6]:=a1;have h7:Arr D.drew (z+1) 3 [x7]:=a2;have h8:Arr D.drew (z+1+1) 27 [x8]:=a3;have a7:D.drew.cell? ⟨F,0,none⟩=some (.int .i64 E):=R;refine wp_region_held_drew (S:=fun w'=>w'.cell? ⟨F,0,none⟩=some (.int .i64 E)) (by kernel_rfl) R (fun b1=>?_);generalize D.drew=d at*
 have V:=h7.other ⟨z,0,none⟩ (by show _≠_;simp only[ne_eq];omega) (.slice none 0 0);have Y:=(h8.other ⟨z,0,none⟩ (by show _≠_;simp only[ne_eq];omega) (.slice none 0 0)).other ⟨z+1,0,none⟩ (by show _≠_;simp only[ne_eq];omega) (.int .i64 0);have e6:=U.cell (i:=0) rfl;have e7:=V.cell (i:=0) rfl;have e8:=Y.cell (i:=0) rfl;have f6:=U.free 0;have f7:=V.free 0;have f8:=Y.free 0;have L:(d.setCell ⟨z,0,none⟩ (.slice none 0 0)).cell? ⟨F,0,none⟩=some (.int .i64 E):=by rw[lI _ _ _ _ (xY (by omega))];exact a7
 have M:((d.setCell ⟨z,0,none⟩ (.slice none 0 0)).setCell ⟨z+1,0,none⟩ (.int .i64 0)).cell? ⟨F,0,none⟩=some (.int .i64 E):=by rw[lI _ _ _ _ (xY (by omega))];exact L
 have Z:(((d.setCell ⟨z,0,none⟩ (.slice none 0 0)).setCell ⟨z+1,0,none⟩ (.int .i64 0)).setCell ⟨z+1+1,0,none⟩ (.int .i64 E)).cell? ⟨F,0,none⟩=some (.int .i64 E):=by rw[lI _ _ _ _ (xY (by omega))];exact M
 have q6:Arr (((d.setCell ⟨z,0,none⟩ (.slice none 0 0)).setCell ⟨z+1,0,none⟩ (.int .i64 0)).setCell ⟨z+1+1,0,none⟩ (.int .i64 E)) z 53 [.slice none 0 0]:=((U.set 0 _).other _ (by show _≠_;simp only[ne_eq];omega) _).other _ (by show _≠_;simp only[ne_eq];omega) _;have q7:Arr (((d.setCell ⟨z,0,none⟩ (.slice none 0 0)).setCell ⟨z+1,0,none⟩ (.int .i64 0)).setCell ⟨z+1+1,0,none⟩ (.int .i64 E)) (z+1) 3 [.int .i64 0]:=(V.set 0 _).other _ (by show _≠_;simp only[ne_eq];omega) _
 have q8:Arr (((d.setCell ⟨z,0,none⟩ (.slice none 0 0)).setCell ⟨z+1,0,none⟩ (.int .i64 0)).setCell ⟨z+1+1,0,none⟩ (.int .i64 E)) (z+1+1) 27 [.int .i64 E]:=Y.set 0 _;have a8:Below z w (((d.setCell ⟨z,0,none⟩ (.slice none 0 0)).setCell ⟨z+1,0,none⟩ (.int .i64 0)).setCell ⟨z+1+1,0,none⟩ (.int .i64 E)):=((a6.setCell (p:=⟨z,0,none⟩) (aD _) _).setCell (p:=⟨z+1,0,none⟩) (tJ _) _).setCell (p:=⟨z+1+1,0,none⟩) (by show z<=z+1+1;omega) _;refine bKf [0,1] ?_
 iterate 2
  refine bKg (by simp only[List.getElem?_toArray,List.getElem?_cons_succ,List.getElem?_cons_zero];rfl) (by kernel_rfl) (by exact fun _ _ _ h=>h) (by first|exact Or.inr ⟨by rfl,rfl⟩|(refine Or.inl ⟨by rfl,?_⟩;intro w' a9;(try dsimp only at a9);(try go_simp);try with_reducible rfl)) (by assumption) ?_
  try simp only[bJ,bK,bH,bB]
 refine dJ (i:=2) (by kernel_rfl) rfl (fun K G=>?_);go_simp;refine G.out _ _ ?_ (fun _=>?_)
 ·first|exact L|exact M|exact Z
 try simp only[bJ,bK,bH,bB]
 refine dJ (i:=3) (by kernel_rfl) rfl (fun K G=>?_);go_simp;refine G.out _ _ ?_ (fun _=>?_)
 ·first|exact L|exact M|exact Z
 try simp only[bJ,bK,bH,bB]
 refine dJ (i:=4) (by kernel_rfl) rfl (fun K G=>?_);go_simp;refine G.out _ _ ?_ (fun _=>?_)
 ·first|exact L|exact M|exact Z
 try simp only[bJ,bK,bH,bB]
 refine wpAnyH_done (by kernel_rfl) ?_ _;go_wp2_with fail;refine⟨rfl,.panicking ({v:=.iface 341 (.agg #[.int .i64 E]),recovered:=true}::O),?_,.tuple #[],?_,rfl,rfl,q6,q7,q8,a8⟩
 ·first|rfl|(cases c₀;simp_all)
 ·simp[results,f221]
theorem aGn {P:Program} {D:Func} {p q r:Tmp} {F G I:TypeId} (h:D.results=#[.cell p F,.cell q G,.cell r I]) (tmps:Array Value) (w:World) (d e A:Addr) (J L M:Value)
  (O:tmps.getD p undef=.pointer (some d)) (R:tmps.getD q undef=.pointer (some e)) (U:tmps.getD r undef=.pointer (some A))
  (V:(loadVar F d).run P w=.ok J w) (Y:(loadVar G e).run P w=.ok L w) (Z:(loadVar I A).run P w=.ok M w):
  (results D tmps).run P w=.ok (.tuple #[J,L,M]) w:=by
 have a0:tmps[p]?.getD undef=.pointer (some d):=by simpa using O
 have a1:tmps[q]?.getD undef=.pointer (some e):=by simpa using R
 have a2:tmps[r]?.getD undef=.pointer (some A):=by simpa using U
 simp[results,h,a0,a1,a2,asAddr,V,Y,Z,Result.andThen]
theorem TQ {w W:World} {s:List UInt8} {a n z:Nat} {E:Int} {tmps:Array Value} {d A D:Value} (h:gS s (a:Int) (n:Int)=([],0,E)) (F:w.heap.size=z)
  (G:Arr W z 53 [d]) (I:Arr W (z+1) 3 [A]) (J:Arr W (z+1+1) 27 [D]) (L:Below z w W)
  (M:tmps.getD 6 undef=.pointer (some ⟨z,0,none⟩)) (O:tmps.getD 7 undef=.pointer (some ⟨z+1,0,none⟩)) (R:tmps.getD 8 undef=.pointer (some ⟨z+1+1,0,none⟩)):
  Leaves pG f197 tmps (fun e w'=>CL w w' s a n e) [{target:=.fn (.func 221) #[.pointer (some ⟨z,0,none⟩),.pointer (some ⟨z+1,0,none⟩),.pointer (some ⟨z+1+1,0,none⟩)],args:=#[]}] (.panicking (MJ E)) W:=by
 refine leaves_cons (f:=221) (args:=#[.pointer (some ⟨z,0,none⟩),.pointer (some ⟨z+1,0,none⟩),.pointer (some ⟨z+1+1,0,none⟩)]) (by simp) (by simp[go_sem]) ?_;refine(aY3 z E [] W d A D G I J).mono ?_;rintro e u' w' ⟨rfl,rfl,U,V,Y,Z⟩;have c6:=U.cell (i:=0) rfl;have c7:=V.cell (i:=0) rfl;have c8:=Y.cell (i:=0) rfl;refine⟨_,aGn rfl tmps w' _ _ _ (.slice none 0 0) (.int .i64 0) (.int .i64 E) M O R (by simp[go_sem,c6]) (by simp[go_sem,c7]) (by simp[go_sem,c8]),?_⟩;exact FL h (F▸L.trans Z)
theorem aY4 (w:World) (d A D:TypeId) (v1 v2 v3:Value):∀W,W=((w.alloc (.cells #[v1] d)).alloc (.cells #[v2] A)).alloc (.cells #[v3] D)->
  (Arr W w.heap.size d [v1]/\Arr W (w.heap.size+1) A [v2]/\Arr W (w.heap.size+1+1) D [v3])/\Below w.heap.size w W/\W.heap.size=w.heap.size+1+1+1:=by
 rintro W rfl;have I:=Arr.new w d [v1];have F:=Arr.new (w.alloc (.cells #[v1] d)) A [v2];have G:=Arr.new ((w.alloc (.cells #[v1] d)).alloc (.cells #[v2] A)) D [v3];have e:∀(W:World) (o:Obj),(W.alloc o).heap.size=W.heap.size+1:=fun W o=>by simp
 rw[e] at F;rw[e,e] at G;refine⟨⟨(I.alloc _).alloc _,F.alloc _,G⟩,?_,by simp⟩;exact(((aH _ w).alloc (aD _) _).alloc (by simp) _).alloc (by simp;omega) _
theorem aY5 (s:ByteArray) (a n:Nat) (w:World) (hs:s.size<=1000000) (ha:a<=90000000) (b3:2<=n) (b4:n<=258):
  Calls pG 197 #[.string s,.int .i64 (a:Int),.int .i64 (n:Int)] w fun e w'=>CL w w' s.data.toList a n e:=by
 have HL:=hid (mV s);have t1:decide ((a:Int)<0)=false:=aE (by omega);have e4:∀(fn:Fn) (first cap:Array Value) (w:World),(Instr.makeFunc fn first cap).run pG w=.ok (.func fn first cap) w:=fun _ _ _ _=>rfl
 have b5:=hid (fun k O=>aGb (s:=s.data.toList) (a:=a) (k:=k) b3 b4 O);have d2:=hid (TL s.data.toList a n b3 b4);have h0:=aGc s.data.toList (a:Int);rw[HL.out] at h0;have U:=hid h0;clear h0;have b6:=jV s.data.toList (a:Int) 5;have a8:=iG (n:=s.size) (at':=(a:Int)) (k:=5);have b6:aK s.data.toList (a:Int) 5<32:=b6
 go_enter_defers func197,ntmps197
 go_wp2_with fail;refine(aF7 n _ b3 b4).mono ?_;rintro e w' ⟨rfl,rfl⟩;obtain⟨⟨d,A,D⟩,b7,a9⟩:=aY4 w 53 3 27 (.slice none 0 0) (.int .i64 0) (.int .i64 0) _ rfl;generalize ((w.alloc (.cells #[.slice none 0 0] 53)).alloc (.cells #[.int .i64 0] 3)).alloc (.cells #[.int .i64 0] 27)=w0 at*
 obtain⟨z,hz⟩:∃z,w.heap.size=z:=⟨_,rfl⟩;rw[hz] at d A D b7 a9 ⊢;have HZ:=hid hz;clear hz;go_wp2_with fail;have b8:DRd (w0.alloc (.cells #[.string s,.int .i64 (a:Int)] 344)) w0.heap.size s a:=Arr.new w0 344 [.string s,.int .i64 (a:Int)];have d:=d.alloc (.cells #[.string s,.int .i64 (a:Int)] 344);have A:=A.alloc (.cells #[.string s,.int .i64 (a:Int)] 344);have D:=D.alloc (.cells #[.string s,.int .i64 (a:Int)] 344);have b9:=b7.alloc (o:=.cells #[.string s,.int .i64 (a:Int)] 344) (by omega);have d3:(w0.alloc (.cells #[.string s,.int .i64 (a:Int)] 344)).heap.size=z+1+1+1+1:=by simp[a9]
 rw[a9] at b8;generalize w0.alloc (.cells #[.string s,.int .i64 (a:Int)] 344)=w1 at*
 clear b7 a9;refine(TO (z+1+1+1) s a 5 w1 b8 hs (by decide) (by omega)).mono ?_;rintro e w2 (⟨h1,rfl,c3,J⟩|⟨h1,rfl,J⟩)
 rotate_left
 ·have d:=d.grown J (by simp only[ne_eq,lJ];omega);have A:=A.grown J (by simp only[ne_eq,lJ];omega);have D:=D.grown J (by simp only[ne_eq,lJ];omega);have a7:=b9.grown J (by omega) (fun k O=>by obtain rfl:=cC O;omega);have H:=U.out;rw[aB h1] at H;have L:=b5.out 0 (by omega) (by rw[H];exact h1);rw[H] at L;go_wp2_with fail;exact TQ L HZ.out d A D a7 rfl rfl rfl
 have a8:=a8 h1;have H:=U.out;rw[aA (fun k=>k h1)] at H;obtain⟨V,hV⟩:=ex1 (aK s.data.toList (a:Int) 5);rw[<-hV] at H b6 ⊢;clear hV h1;have d:=d.grown J (by simp only[ne_eq,lJ];omega);have A:=A.grown J (by simp only[ne_eq,lJ];omega);have D:=D.grown J (by simp only[ne_eq,lJ];omega);have a7:=b9.grown J (by omega) (fun k O=>by obtain rfl:=cC O;omega);have c4:z+1+1+1+1<=w2.heap.size:=by have:=J.size;omega
 clear b9 d3 J b8;go_wp2_with fail;refine(TP (z+1+1+1) (V:Int) w2).mono ?_;rintro e w3 (⟨h2,rfl,rfl⟩|⟨h2,rfl,rfl⟩)
 rotate_left
 ·rw[aB (by omega)] at H;have L:=b5.out 0 (by omega) (by rw[H];exact(by decide:(3:Int)≠0));rw[H] at L;go_wp2_with fail;exact TQ L HZ.out d A D a7 rfl rfl rfl
 rw[aA (by omega)] at H;have U:=hid H;clear H;go_wp2_with fail
 go_loopg [10,28] n (fun g d4 d5 wr=>∃(k p:Nat) (m:Int) (v:Value),k<=n/\g=n-k/\d5=.int .i64 (k:Int)/\d4=.int .i64 m/\1<=m/\m<=20/\p<=90000005/\Hid ((bC s.data.toList (a:Int) k).2.2.2=0/\(bC s.data.toList (a:Int) k).2.1=m/\(bC s.data.toList (a:Int) k).2.2.1=(p:Int)/\(bC s.data.toList (a:Int) k).1.length=k)/\
  Arr wr z 53 [v]/\Arr wr (z+1) 3 [.int .i64 0]/\Arr wr (z+1+1) 27 [.int .i64 0]/\DRd wr (z+1+1+1) s p/\OwI wr (z+1+1+1+1) v (bC s.data.toList (a:Int) k).1/\Below z w wr/\z+1+1+1+1<=wr.heap.size)
 case atStart=>exact⟨0,a+5,(V:Int),_,aO _,rfl,rfl,rfl,by omega,by omega,by omega,hid ⟨by rw[U.out],by rw[U.out],by rw[U.out];push_cast;rfl,by rw[U.out];rfl⟩,d,A,D,c3,by rw[U.out];exact OwI.nil _ _,a7,c4⟩
 case round=>
  clear d A D c3 a7 c4;obtain⟨k,p,m,v,O,hg,rfl,rfl,c5,c9,e5,Z,d,A,D,hA,ho,b0,e7⟩:=hrel;have HG:=hid hg;clear hg
  by_cases e8:k<n
  ·have v1:decide ((k:Int)<(n:Int))=true:=aG (by omega);have R:=aGd Z.out.1;rw[Z.out.2.1,Z.out.2.2.1] at R;have b1:=aY0 (z+1+1+1) s p m wr hA hs (by omega) c5 c9;have a0:=KW s.data.toList (8*s.data.toList.length+2) (p:Int) m (by omega) c5 c9;rw[HL.out] at a0;rw[show lQ s.data.toList (8*s.size+2) (p:Int) m=fS s.data.toList (p:Int) m by unfold fS;rw[HL.out]] at a0;obtain⟨F,q2,q3,hq⟩:∃F q2 q3,fS s.data.toList (p:Int) m=(F,q2,q3):=⟨_,_,_,rfl⟩;rw[hq] at R b1 a0;simp only at R b1 a0;clear hq;go_wp2_with fail;refine b1.mono ?_;rintro e w3 (⟨b2,rfl,⟨p',d6,d7⟩,M⟩|⟨b2,rfl,M⟩)
   rotate_left
   ·rw[aB b2] at R;have L:=b5.out (k+1) (by omega) (by rw[R];exact b2);rw[R] at L;have d:=d.grown M (by simp only[ne_eq,lJ];omega);have A:=A.grown M (by simp only[ne_eq,lJ];omega);have D:=D.grown M (by simp only[ne_eq,lJ];omega);have c0:=b0.grown M (by omega) (fun k O=>by obtain rfl:=cC O;omega);go_wp2_with fail;exact TQ L HZ.out d A D c0 rfl rfl rfl
   subst b2;subst d6;rw[aA (fun k=>k rfl)] at R;obtain⟨a1,a2,a3,a4⟩:=a0 rfl;have HS:=hid R;clear R;have e9:(bC s.data.toList (a:Int) k).1.length<=258:=by rw[Z.out.2.2.2];omega
   have d:=d.grown M (by simp only[ne_eq,lJ];omega);have A:=A.grown M (by simp only[ne_eq,lJ];omega);have D:=D.grown M (by simp only[ne_eq,lJ];omega);have f0:z+1+1+1+1<=w3.heap.size:=by have:=M.size;omega
   have d8:OwI w3 (z+1+1+1+1) v (bC s.data.toList (a:Int) k).1:=Ow.kept ho M (by
    rcases hob:v.ownBlock with _|kb
    ·exact .inl rfl
    ·have:=(Ow.lt ho kb hob).1;refine .inr (fun e=>?_);have:=cC e;omega)
   have c0:=b0.grown M (by omega) (fun k O=>by obtain rfl:=cC O;omega);have c6:=d.cell (i:=0) rfl;clear ho b0;have c1:z<z+1+1+1+1:=by omega
   have d9:z+1<z+1+1+1+1:=by omega
   have e0:z+1+1<z+1+1+1+1:=by omega
   have e1:z+1+1+1<z+1+1+1+1:=by omega
   clear b1 a0 a8;go_wp2_with (at_builtin;refine gK rfl _ _ rfl (z+1+1+1+1) _ _ rfl (OwI.alloc d8 _) _ F rfl (bX _ _ _) ?_ ?_ ?_;(omega);(simp;omega);intro v4 w4 r1 Y r3;obtain⟨a5,a6,rfl,_,_,_⟩:=(OwI.rd r1).open;have f6:=((d.alloc (.cells #[.int .i64 F] 3)).below Y c1).free 0;have e6:=((d.alloc (.cells #[.int .i64 F] 3)).below Y c1).cell (i:=0) rfl);have k6:=((d.alloc (.cells #[.int .i64 F] 3)).below Y c1).set 0 (.slice a5 ((bC s.data.toList (a:Int) k).1.length+1) a6)
   have k7:=((A.alloc (.cells #[.int .i64 F] 3)).below Y d9).other ⟨z,0,none⟩ (by show _≠_;simp only[ne_eq];omega) (.slice a5 ((bC s.data.toList (a:Int) k).1.length+1) a6);have k8:=((D.alloc (.cells #[.int .i64 F] 3)).below Y e0).other ⟨z,0,none⟩ (by show _≠_;simp only[ne_eq];omega) (.slice a5 ((bC s.data.toList (a:Int) k).1.length+1) a6);have kA:=((Arr.alloc d7 (.cells #[.int .i64 F] 3)).below Y e1).other ⟨z,0,none⟩ (by show _≠_;simp only[ne_eq];omega) (.slice a5 ((bC s.data.toList (a:Int) k).1.length+1) a6)
   have kB:=((c0.alloc (o:=.cells #[.int .i64 F] 3) (by omega)).trans (Y.mono (by omega))).setCell (p:=⟨z,0,none⟩) (aD _) (.slice a5 ((bC s.data.toList (a:Int) k).1.length+1) a6);have hg:=HG.out
   go_roundg (n-(k+1))
   ·
    refine⟨k+1,p',F,_,by omega,rfl,by go_num,rfl,a1,a2,by omega,hid ⟨by rw[HS.out],by rw[HS.out],by rw[HS.out],by rw[HS.out,aL,Z.out.2.2.2];rfl⟩,k6,k7,k8,kA,?_,kB,?_⟩
    ·rw[HS.out];rw[aL] at r1;refine Ow.kept r1 (gbS w4 z 0 _) ?_;rcases hob:(mM a5 ((bC s.data.toList (a:Int) k).1.length+[F].length) a6).ownBlock with _|kb
     ·exact .inl rfl
     ·have:=(Ow.lt r1 kb hob).1;refine .inr (fun e=>?_);have:=cC e;omega
    ·have:=Y.size;simp only[fP] at this;simp only[aL5];omega
   ·omega
  ·have v1:decide ((k:Int)<(n:Int))=false:=aE (by omega);have e2:k=n:=by omega
   subst e2;have c2:=d2.out;rw[aA (fun q=>q Z.out.1),Z.out.2.2.1] at c2;have L:=hid c2;obtain⟨G,I,rfl,_,_,_⟩:=(OwI.rd ho).open;have c6:=d.cell (i:=0) rfl;have c7:=A.cell (i:=0) rfl;have c8:=D.cell (i:=0) rfl;have f6:=d.free 0;have f7:=A.free 0;have f8:=D.free 0;have d0:=Arr.cell hA (i:=0) rfl;have d1:=Arr.cell hA (i:=1) rfl;clear c2 a8;go_wp2_with fail
   go_region
   go_wp2_with fail;refine leaves_cons (f:=221) (args:=#[.pointer (some ⟨z,0,none⟩),.pointer (some ⟨z+1,0,none⟩),.pointer (some ⟨z+1+1,0,none⟩)]) (by simp) (by simp[go_sem]) ?_;refine(aY1 ⟨z,0,none⟩ ⟨z+1,0,none⟩ ⟨z+1+1,0,none⟩ _).mono ?_;rintro e u' f1 ⟨rfl,rfl,rfl⟩;have e3:=HZ.out;have k6:=((d.set 0 (.slice G (bC s.data.toList (a:Int) k).1.length I)).other ⟨z+1,0,none⟩ (by show _≠_;simp only[ne_eq];omega) (.int .i64 (p:Int))).other ⟨z+1+1,0,none⟩ (by show _≠_;simp only[ne_eq];omega) (.int .i64 0)
   have k7:=((A.other ⟨z,0,none⟩ (by show _≠_;simp only[ne_eq];omega) (.slice G (bC s.data.toList (a:Int) k).1.length I)).set 0 (.int .i64 (p:Int))).other ⟨z+1+1,0,none⟩ (by show _≠_;simp only[ne_eq];omega) (.int .i64 0);have k8:=((D.other ⟨z,0,none⟩ (by show _≠_;simp only[ne_eq];omega) (.slice G (bC s.data.toList (a:Int) k).1.length I)).other ⟨z+1,0,none⟩ (by show _≠_;simp only[ne_eq];omega) (.int .i64 (p:Int))).set 0 (.int .i64 0)
   have kB:=((b0.setCell (p:=⟨z,0,none⟩) (aD _) (.slice G (bC s.data.toList (a:Int) k).1.length I)).setCell (p:=⟨z+1,0,none⟩) (tJ _) (.int .i64 (p:Int))).setCell (p:=⟨z+1+1,0,none⟩) (by show z<=z+1+1;omega) (.int .i64 0);have kv:∀(q:Nat) (V:Value) (W:World),q<z+1+1+1+1->OwI W (z+1+1+1+1) (mM G (bC s.data.toList (a:Int) k).1.length I) (bC s.data.toList (a:Int) k).1->OwI (W.setCell ⟨q,0,none⟩ V) (z+1+1+1+1) (mM G (bC s.data.toList (a:Int) k).1.length I) (bC s.data.toList (a:Int) k).1:=fun q V W hq h=>by
    refine Ow.kept h (gbS W q 0 V) ?_;rcases hob:(mM G (bC s.data.toList (a:Int) k).1.length I).ownBlock with _|kb
    ·exact .inl rfl
    ·have:=(Ow.lt h kb hob).1;refine .inr (fun e=>?_);have:=cC e;omega
   have kO:=kv (z+1+1) (.int .i64 0) _ (by omega) (kv (z+1) (.int .i64 (p:Int)) _ (by omega) (kv z (.slice G (bC s.data.toList (a:Int) k).1.length I) _ (by omega) ho));generalize ((wr.setCell ⟨z,0,none⟩ (.slice G (bC s.data.toList (a:Int) k).1.length I)).setCell ⟨z+1,0,none⟩ (.int .i64 (p:Int))).setCell ⟨z+1+1,0,none⟩ (.int .i64 0)=w5 at*
   have k6:Arr w5.drew z 53 [.slice G (bC s.data.toList (a:Int) k).1.length I]:=k6;have k7:Arr w5.drew (z+1) 3 [.int .i64 (p:Int)]:=k7;have k8:Arr w5.drew (z+1+1) 27 [.int .i64 0]:=k8;have kO:OwI w5.drew (z+1+1+1+1) (.slice G (bC s.data.toList (a:Int) k).1.length I) (bC s.data.toList (a:Int) k).1:=kO;have kB:=kB.drew;generalize w5.drew=w6 at*
   have c6:=k6.cell (i:=0) rfl;have c7:=k7.cell (i:=0) rfl;have c8:=k8.cell (i:=0) rfl;refine⟨_,aGn rfl _ w6 ⟨z,0,none⟩ ⟨z+1,0,none⟩ ⟨z+1+1,0,none⟩ (.slice G (bC s.data.toList (a:Int) k).1.length I) (.int .i64 (p:Int)) (.int .i64 0) rfl rfl rfl (by simp[go_sem,c6]) (by simp[go_sem,c7]) (by simp[go_sem,c8]),?_⟩;exact⟨_,by rw[L.out],by rw[L.out];exact Ow.base kO (by omega),by rw[e3];exact kB⟩
end Go.Proofs.YtfckbfofgeilgaaGreatDoor
