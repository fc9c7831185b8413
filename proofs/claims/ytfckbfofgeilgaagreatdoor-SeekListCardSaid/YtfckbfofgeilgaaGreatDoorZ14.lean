/-
  Texts put together (part 14): the walks and the plain laws on which the statement stands.
-/
import Derived.WalkMore
import Derived.ArgAppend
import Derived.Lib.SlBytesConst
import Derived.LaidEql
import Derived.Stop.Asserts
import Derived.Lib.IfaceEq
import Derived.RowKitTokens
import Derived.Test.YtfckbfofgeilgaaGreatDoorZ5
import Derived.Test.YtfckbfofgeilgaaGreatDoorZ9
set_option maxRecDepth 100000
set_option maxHeartbeats 12800000
set_option linter.unusedVariables false
set_option linter.unusedSimpArgs false
open Go.Proofs.Tryz
open Go.Proofs.Tryz renaming prog->pG
open And renaming intro->tK
open Go renaming below_drewN->uD,bodyPost_ret->fM,rounds_succ->uA,run_callFunc_extern->rZ,run_typeAssert_lacksB->XA
open Go.Extern.ReflectliteType renaming method->WZ,typeOf->OL
open Go.Instr renaming index->rE,typeAssert->tZ
open Go.IntKind renaming i64->aJ,u64->eZ,wrap_i64->aM,wrap_u64->fC
open Go.RowKit.Below renaming refl->aH
open Go.World renaming block_lt_of_cell?->gV,size_alloc->fP
open List renaming getElem?_eq_getElem->aN,getElem?_eq_some_iff->eF,length_map->aS,mem_cons->jQ,mem_map->eK,not_mem_nil->YB,pairwise_iff_getElem->DH
open Nat renaming le_refl->aD,zero_le->aO
open Option.some renaming inj->cC
namespace Go.Proofs.YtfckbfofgeilgaaGreatDoor
section
open Go.RowKit Go Go.Shelf
theorem tE (d:Nat) (h:d<=9223372036854775807):aJ.wrap (d:Int)=(d:Int):=by rw[aM];omega
def bG (x:Ent):List Value:=[.int .i64 x.a,.int .i64 x.r,.int .i64 x.f,.int .i64 x.n,.int .u32 x.y]
theorem yG (l:List Ent):oW 5 (l.map bG):=fun q e=>by
 obtain⟨p,_,rfl⟩:=eK.1 e;exact⟨rfl,fun u d=>by unfold bG at d;simp only[jQ,YB,or_false] at d;rcases d with rfl|rfl|rfl|rfl|rfl<;>rfl⟩
theorem nS {w:World} {v:Value} {l:List Ent} (h:RdR w v (l.map bG)):∃a cap,v=.slice a l.length cap/\l.length<=cap/\cap<=maxLen/\
  (0<l.length->∃b off,a=some ⟨b,off,none⟩/\b<w.heap.size/\∀j p,l[j]? =some p->w.cell? ⟨b,off+j*5,none⟩=some (.int .i64 p.a)/\w.cell? ⟨b,off+j*5+1,none⟩=some (.int .i64 p.r)/\w.cell? ⟨b,off+j*5+2,none⟩=some (.int .i64 p.f)/\w.cell? ⟨b,off+j*5+3,none⟩=some (.int .i64 p.n)/\w.cell? ⟨b,off+j*5+4,none⟩=some (.int .u32 p.y)):=by
 obtain⟨a,cap,d,A,F,D⟩:=h.open (yG l) (by decide);rw[aS] at d A D;refine⟨a,cap,d,A,F,fun G=>?_⟩;obtain⟨b,off,I,J,L⟩:=D G;refine⟨b,off,I,J,fun j p O=>?_⟩;have e:(l.map bG)[j]? =some (bG p):=by grind
 have c:=fun i u M=>L j (bG p) i u e M
 refine⟨c 0 _ rfl,?_,?_,?_,?_⟩
 ·grind [RdR,bG]
 ·grind [RdR,bG]
 ·grind [RdR,bG]
 grind [RdR,bG]
theorem DB (v:Value) (l:List Ent) (w:World) (hr:RdR w v (l.map bG)) (hl:l.length<=1000000):
  Calls pG 40 #[v] w fun e w'=>e=.returned (.bool (decide (jA l)))/\Below w.heap.size w w':=by
 obtain⟨a,ca,rfl,a8,a4,hA⟩:=nS hr;unfold maxLen at a4;obtain⟨R,hR⟩:∃R:Bool,R=decide (jA l):=⟨_,rfl⟩;rw[<-hR];have I:=hid hR;clear hR hr;go_enter func40,ntmps40;go_wp2_with fail
 go_step3
 go_wp2_with fail
 go_step3
 go_wp2_with fail
 go_loopg [3,4,5,7,10,14] l.length (fun g s3 s4 s5 _s7 a5 _s14 wr=>∃(k:Nat) (J G:Int),k<=l.length/\g=l.length-k/\a5=.int .i64 (k:Int)/\s3=.int .i64 J/\s4=.int .i64 G/\s5=.bool true/\(0<=J/\J<=18720*(k:Int))/\Hid (jA l↔oL J G (l.drop k))/\Below w.heap.size w wr)
 case atStart=>exact⟨0,0,31,aO _,rfl,rfl,rfl,rfl,rfl,⟨by decide,by decide⟩,hid (Iff.refl _),aH _ _⟩
 case round=>
  obtain⟨k,J,G,hk,hg,rfl,rfl,rfl,rfl,a9,HI,L⟩:=hrel;have HG:=hid hg;have a6:=L.size;clear hg
  by_cases a0:k<l.length
  ·have t1:decide ((k:Int)<(l.length:Int))=true:=aG (by omega);obtain⟨b,off,rfl,U,hc⟩:=hA (by omega);obtain⟨x,Y⟩:∃x,l[k]? =some x:=⟨_,aN a0⟩;have D:=hid (show jA l↔x.ok J G/\oL (x.f+x.n) x.a (l.drop (k+1)) by
    have e:l[k]=x:=by rw[aN a0] at Y;exact cC Y
    rw[HI.out,List.drop_eq_getElem_cons a0,e];exact Iff.rfl)
   obtain⟨x0,x1,x2,x3,x4⟩:=hc k x Y;clear hc Y hA HI;obtain⟨O,d,V,A,xy⟩:=x;have c0:=(L.cell (p:=⟨b,off+k*5,none⟩) U).trans x0;have c1:=(L.cell (p:=⟨b,off+k*5+1,none⟩) U).trans x1;have c2:=(L.cell (p:=⟨b,off+k*5+2,none⟩) U).trans x2;have c3:=(L.cell (p:=⟨b,off+k*5+3,none⟩) U).trans x3;have c4:=(L.cell (p:=⟨b,off+k*5+4,none⟩) U).trans x4;dsimp only at c0 c1 c2 c3 c4;have M:=fun o=>L.alloc a6 o
   clear x0 x1 x2 x3 x4
   by_cases q1:V=J
   rotate_left
   ·obtain rfl:R=false:=by rw[I.out];exact aE (fun h=>q1 (D.out.1 h).1.1)
    have u1:(V != J)=true:=bne_iff_ne.2 q1;go_wp2_with fail;go_ret;exact⟨rfl,M _⟩
   obtain rfl:=q1
   by_cases q2:A<1
   ·obtain rfl:R=false:=by rw[I.out];exact aE (fun h=>absurd (D.out.1 h).1.2.1 (by show ¬1<=A;omega))
    have u1:decide (A<1)=true:=aG q2;go_wp2_with fail;go_ret;exact⟨rfl,M _⟩
   have u2:decide (A<1)=false:=aE q2
   by_cases q3:18720<A
   ·obtain rfl:R=false:=by rw[I.out];exact aE (fun h=>absurd (D.out.1 h).1.2.2.1 (by show ¬A<=18720;omega))
    have u1:decide (A>18720)=true:=aG q3;have a7:decide (18720<A)=true:=aG q3;go_wp2_with fail;go_ret;exact⟨rfl,M _⟩
   have u3:decide (A>18720)=false:=aE q3;have b0:decide (18720<A)=false:=aE q3
   by_cases q4:d<40
   ·obtain rfl:R=false:=by rw[I.out];exact aE (fun h=>absurd (D.out.1 h).1.2.2.2.1 (by show ¬40<=d;omega))
    have u1:decide (d<40)=true:=aG q4;go_wp2_with fail;go_ret;exact⟨rfl,M _⟩
   have u4:decide (d<40)=false:=aE q4
   by_cases q5:360<d
   ·obtain rfl:R=false:=by rw[I.out];exact aE (fun h=>absurd (D.out.1 h).1.2.2.2.2.1 (by show ¬d<=360;omega))
    have u1:decide (d>360)=true:=aG q5;have a7:decide (360<d)=true:=aG q5;go_wp2_with fail;go_ret;exact⟨rfl,M _⟩
   have u5:decide (d>360)=false:=aE q5;have b1:decide (360<d)=false:=aE q5;obtain⟨Z,hZ⟩:=ex1 (d.tmod 40);have a1:Z=d%40:=by rw[hZ];exact Int.tmod_eq_emod_of_nonneg (by omega)
   have mZ:aJ.wrap Z=Z:=by rw[aM];omega
   have b2:=hZ.symm;have HZ:=hid a1;clear hZ a1
   by_cases q6:Z=0
   rotate_left
   ·obtain rfl:R=false:=by rw[I.out];exact aE (fun h=>q6 (by rw[HZ.out];exact(D.out.1 h).1.2.2.2.2.2.1))
    have u1:(Z != 0)=true:=bne_iff_ne.2 q6;go_wp2_with fail;go_ret;exact⟨rfl,M _⟩
   subst q6
   by_cases q7:O<=G
   ·obtain rfl:R=false:=by rw[I.out];exact aE (fun h=>absurd (D.out.1 h).1.2.2.2.2.2.2 (by show ¬G<O;omega))
    have u1:decide (O<=G)=true:=aG q7;go_wp2_with fail;go_ret;exact⟨rfl,M _⟩
   have u7:decide (O<=G)=false:=aE q7;have a2:=hid (show jA l↔oL (V+A) O (l.drop (k+1)) from⟨fun h=>(D.out.1 h).2,fun h=>D.out.2 ⟨⟨rfl,by show 1<=A;omega,by show A<=18720;omega,by show 40<=d;omega,by show d<=360;omega,by show d%40=0;exact HZ.out.symm,by show G<O;omega⟩,h⟩⟩);obtain⟨F,hF⟩:=ex1 (V+A);have mF:aJ.wrap (V+A)=F:=by rw[<-hF,aM];omega
   have a3:0<=F/\F<=18720*((k:Int)+1):=by omega
   have b3:=hF.symm;rw[<-hF] at a2;clear hF HZ D;go_wp2_with fail
   go_quiet (fail)
   go_wp2_with fail;have hg:=HG.out
   go_roundg (l.length-(k+1))
   ·exact⟨k+1,F,O,by omega,rfl,by go_num,rfl,rfl,rfl,⟨a3.1,by push_cast;exact a3.2⟩,a2,uD (M _) _⟩
   ·omega
  ·have t1:decide ((k:Int)<(l.length:Int))=false:=aE (by omega);obtain rfl:R=true:=by
    rw[I.out];refine aG (HI.out.2 ?_);rw[List.drop_of_length_le (by omega)]
    trivial
   go_wp2_with fail;rw[Exit.noGoto_ret];go_ret;exact⟨rfl,L⟩
theorem bD5 {l:List Ent} (h:jA l) {K:Nat} (e:K+1=l.length) {x:Ent} (d:l[K]? =some x):x.f+x.n=lF l:=by
 have A:=AH h K x d;have D:=VM d
 grind
theorem bD6 {l:List Ent}:∀{d e:Int},oL d e l->lF l<=18720*(l.length:Int):=by
 induction l with
 |nil=>intro _ _ _;exact Int.le_refl _
 |cons x l A=>
  intro d e h;have D:=A h.2;have F:=h.1.2.2.1;rw[GH,List.length_cons];push_cast;omega
theorem VN {l:List Ent} (d:l.length<=1000000):0<=lG l/\lG l<=18720000000:=by
 unfold lG;split
 ·next h=>
  have:=bD6 h;have:=aJx h;omega
 ·omega
theorem VO (v:Value) (l:List Ent) (w:World) (J:RdR w v (l.map bG)) (hl:l.length<=1000000):
  Calls pG 57 #[v] w fun e w'=>e=.returned (.int .i64 (lG l))/\Below w.heap.size w w':=by
 have G:=DB v l w J hl;obtain⟨a,ca,rfl,a2,a0,O⟩:=nS J;unfold maxLen at a0
 by_cases h0:l.length=0
 ·have e0:l=[]:=List.length_eq_zero_iff.1 h0;subst e0;go_enter func57,ntmps57;go_wp2_with fail;go_ret;exact⟨rfl,aH _ _⟩
 obtain⟨K,R⟩:∃K,K+1=l.length:=⟨l.length-1,by omega⟩;obtain⟨b,off,rfl,D,U⟩:=O (by omega);obtain⟨x,L⟩:∃x,l[K]? =some x:=⟨_,aN (by omega)⟩;obtain⟨V,Y,Z,x3,x4⟩:=U K x L;have n1:((l.length:Int)==0)=false:=beq_eq_false_iff_ne.2 (by omega);have m1:aJ.wrap ((l.length:Int)-1)=(K:Int):=by rw[show(l.length:Int)-1=(K:Int) by omega];exact tE K (by omega)
 have a3:(l.length:Int)-1=(K:Int):=by omega
 have a4:K<l.length:=by omega
 by_cases A:jA l
 ·rw[aG A] at G;have M:=bD5 A R L;have a1:=VN (l:=l) (by omega);have F:lG l=lF l:=aB A;obtain⟨S,I⟩:=ex1 (lG l);rw[<-I] at a1 ⊢;have mS:aJ.wrap (x.f+x.n)=S:=by rw[M,<-F,<-I,aM];omega
  have a5:x.f+x.n=S:=by rw[M,<-F,<-I]
  clear F I M A O U L R J;go_enter func57,ntmps57;go_wp2_with fail;refine G.mono ?_;rintro e w1 ⟨rfl,d⟩;have c0:=(d.cell (p:=⟨b,off+K*5,none⟩) D).trans V;have c1:=(d.cell (p:=⟨b,off+K*5+1,none⟩) D).trans Y;have c2:=(d.cell (p:=⟨b,off+K*5+2,none⟩) D).trans Z;have c3:=(d.cell (p:=⟨b,off+K*5+3,none⟩) D).trans x3;have c4:=(d.cell (p:=⟨b,off+K*5+4,none⟩) D).trans x4;clear V Y Z x3 x4;go_wp2_with fail;go_ret;exact⟨rfl,bD d _⟩
 ·rw[aE A] at G;have F:lG l=0:=aA A;rw[F];go_enter func57,ntmps57;go_wp2_with fail;refine G.mono ?_;rintro e w1 ⟨rfl,d⟩;go_wp2_with fail;go_ret;exact⟨rfl,d⟩
theorem bLd (l:List Hld):oW 3 (l.map mX):=fun q e=>by
 obtain⟨p,_,rfl⟩:=eK.1 e;exact⟨rfl,fun u d=>by unfold mX at d;simp only[jQ,YB,or_false] at d;rcases d with rfl|rfl|rfl<;>rfl⟩
theorem bOp:ElR pG 35 113 3 32 (.agg #[.int .i64 0,.int .i64 0,.string ⟨#[]⟩]):=ElR.mk' (by kernel_rfl) underlying35 rfl (by decide) (by decide)
theorem bLm {w:World} {v:Value} {l:List Hld} (h:RdR w v (l.map mX)):∃a cap,v=.slice a l.length cap/\l.length<=cap/\cap<=maxLen/\
  (0<l.length->∃b off,a=some ⟨b,off,none⟩/\b<w.heap.size/\∀j p,l[j]? =some p->w.cell? ⟨b,off+j*3,none⟩=some (.int .i64 p.b)/\w.cell? ⟨b,off+j*3+1,none⟩=some (.int .i64 p.s)/\w.cell? ⟨b,off+j*3+2,none⟩=some (.string p.t)):=by
 obtain⟨a,cap,d,A,F,D⟩:=h.open (bLd l) (by decide);rw[aS] at d A D;refine⟨a,cap,d,A,F,fun G=>?_⟩;obtain⟨b,off,I,J,L⟩:=D G;refine⟨b,off,I,J,fun j p M=>?_⟩;have e:(l.map mX)[j]? =some (mX p):=by rw[List.getElem?_map,M];rfl
 have c:=fun i u O=>L j (mX p) i u e O
 exact⟨c 0 _ rfl,c 1 _ rfl,c 2 _ rfl⟩
theorem bLv:Maps.Keyed pG 3:=Maps.int_keyed underlying3
theorem bQb {n:Int} (d: -9223372036854775808<=n) (e:n<=9223372036854775807):(Lit.int .i64 n).wf=true:=by
 simp[Lit.wf,IntKind.min,IntKind.max,IntKind.signed,IntKind.bits];omega
theorem bMn {n:Int} (d: -9223372036854775808<=n) (e:n<=9223372036854775807):keyOf pG 3 (.int .i64 n)=some (.int .i64 n):=Maps.keyOf_int_mk underlying3 (bQb d e)
theorem bQc (w:World):(zeroValue 4).run pG w=.ok (.bool false) w:=by kernel_rfl
theorem bQd {w:World} {b n:Nat} {D:DataW Unit} (h:w.ownsMap pG 3 (plainElem pG 4) b n D) {s:Int} (A: -9223372036854775808<=s) (F:s<=9223372036854775807) (G:D.atKey (.int .i64 s) (.lit (.bool false))=.lit (.bool false)):
  (Instr.lookup 169 (.map (some b)) (.int .i64 s) false).run pG w=.ok (.bool false) w:=by
 obtain⟨v,J,I,d⟩:=h.lookup bLv underlying169 (bQc w) (plainElem_bool underlying4 false) (bMn A F);rw[G] at d;have e:v=.bool false:=by
  unfold plainElem at d;rw[underlying4] at d
  cases v<;>simp at d
  rw[d.1]
 rw[<-e];exact I
theorem bM3 {w w':World} {b e:Nat} {l:List Value} {row:Option Nat} (h:Arr w b e l) (d:w.grownBy w' row) (A:some b≠row):Arr w' b e l:=(d.block b h.lt A).trans h
theorem bOq (v:Value) (room clock:Int) (w:World) (h:room<1\/64<room):
  Calls pG 48 #[.agg #[.int .i64 room,.int .i64 clock,v]] w fun e w'=>e=.returned (.bool false)/\Below w.heap.size w w':=by
 have d:=bD (aH w.heap.size w) (.cells #[.int .i64 room,.int .i64 clock,v] 37)
 by_cases A:room<1
 ·have D:decide (room<1)=true:=aG A;go_enter func48,ntmps48;go_wp2_with fail;go_ret;exact⟨rfl,d⟩
 ·have D:decide (room<1)=false:=aE A;have F:decide (room>64)=true:=aG (by omega);have G:decide (64<room)=true:=aG (by omega);go_enter func48,ntmps48;go_wp2_with fail;go_ret;exact⟨rfl,d⟩
theorem bMf (v:Value) (room clock:Int) (H:List Hld) (w:World) (hr:RdR w v (H.map mX)) (hk:okH room clock H):
  Calls pG 48 #[.agg #[.int .i64 room,.int .i64 clock,v]] w fun e w'=>e=.returned (.bool true)/\Below w.heap.size w w':=by
 obtain⟨a,A,rfl,c6,a8,hA⟩:=bLm hr;unfold maxLen at a8;obtain⟨⟨k1,k2⟩,⟨k3,k4⟩,k5,k6,k7,k8⟩:=hk;have t1:decide (room<1)=false:=aE (by omega);have t2:decide (room>64)=false:=aE (by omega);have c7:decide (64<room)=false:=aE (by omega);have t3:decide (clock<0)=false:=aE (by omega);have t4:decide (clock>1099511627776)=false:=aE (by omega);have c8:decide (1099511627776<clock)=false:=aE (by omega);have t5:decide ((H.length:Int)>room)=false:=aE (by omega);have c9:decide (room<(H.length:Int))=false:=aE (by omega);have HP:=hid (tK k6 (tK k7 k8))
 have d0:=@run_makeMap pG;clear hr k6 k7 k8;have V:=Arr.new w 37 [.int .i64 room,.int .i64 clock,.slice a H.length A];change Arr (w.alloc (.cells #[.int .i64 room,.int .i64 clock,.slice a H.length A] 37)) _ _ _ at V;have a3:Below w.heap.size w (w.alloc (.cells #[.int .i64 room,.int .i64 clock,.slice a H.length A] 37)):=bD (aH _ _) _;go_enter func48,ntmps48;go_wp2_with fail;have O:=World.ownsMap_made (w.alloc (.cells #[.int .i64 room,.int .i64 clock,.slice a H.length A] 37)) pG 3 (plainElem (H:=Unit) pG 4);have R:=V.alloc (.map #[] 0)
 have U:=bD a3 (.map #[] 0);rw[fP] at O;have a9:((w.alloc (.cells #[.int .i64 room,.int .i64 clock,.slice a H.length A] 37)).alloc (.map #[] 0)).heap.size=w.heap.size+2:=by simp
 generalize (w.alloc (.cells #[.int .i64 room,.int .i64 clock,.slice a H.length A] 37)).alloc (.map #[] 0)=W2 at*
 obtain⟨z,Y⟩:=ex1 (w.heap.size);rw[<-Y] at R O a9 ⊢;have HZ:=hid Y;clear V a3 Y;have f0:=R.cell (i:=0) rfl
 go_loopg [4,6,37] H.length (fun g s4 _s6 b0 wr=>∃(k:Nat) (F:Int) (D:DataW Unit),k<=H.length/\g=H.length-k/\b0=.int .i64 (k:Int)/\s4=.int .i64 F/\(F= -1\/∃(j:Nat) (y:Hld),k=j+1/\H[j]? =some y/\F=y.b)/\wr.ownsMap pG 3 (plainElem (H:=Unit) pG 4) (z+1) k D/\Hid (∀s:Int,(∀(j:Nat) (y:Hld),j<k->H[j]? =some y->y.s≠s)->D.atKey (.int .i64 s) (.lit (.bool false))=.lit (.bool false))/\Arr wr z 37 [.int .i64 room,.int .i64 clock,.slice a H.length A]/\Below w.heap.size w wr)
 case atStart=>exact⟨0,-1,_,aO _,rfl,rfl,rfl,.inl rfl,O,hid (fun s _=>rfl),R,U⟩
 case round=>
  obtain⟨k,F,D,d1,Z,rfl,rfl,a4,b1,HD,a0,G⟩:=hrel;have HG:=hid Z;clear Z O R U f0
  by_cases b2:k<H.length
  ·have u1:decide ((k:Int)<(H.length:Int))=true:=aG (by omega);obtain⟨b,off,rfl,hb,hc⟩:=hA (by omega);obtain⟨x,I⟩:∃x,H[k]? =some x:=⟨_,aN b2⟩;obtain⟨x0,x1,x2⟩:=hc k x I;obtain⟨p1,p2,p3⟩:=HP.out;obtain⟨q1,q2,q3⟩:=p2 x (List.mem_of_getElem? I);have b3:F<x.b:=by
    rcases a4 with rfl|⟨j,y,rfl,L,rfl⟩
    ·omega
    ·obtain⟨J,ej⟩:=eF.1 L;obtain⟨b4,a1⟩:=eF.1 I;have:=DH.1 p1 j (j+1) J b4 (by omega);rw[ej,a1] at this;exact this
   have a2:=HD.out x.s (fun j y J L=>by
    obtain⟨b5,ej⟩:=eF.1 L;obtain⟨b6,a1⟩:=eF.1 I;have:=DH.1 p3 j k b5 b6 J;rw[ej,a1] at this;exact this)
   have HX:=hid I;obtain⟨M,d,xt⟩:=x;have b7:=G.size;have c0:=(G.cell (p:=⟨b,off+k*3,none⟩) hb).trans x0;have c1:=(G.cell (p:=⟨b,off+k*3+1,none⟩) hb).trans x1;have c2:=(G.cell (p:=⟨b,off+k*3+2,none⟩) hb).trans x2;dsimp only at c0 c1 c2 q1 q2 q3 b3 a2;have g1:=a0.cell (i:=1) rfl;have a5:=b1.alloc (.cells #[.int .i64 M,.int .i64 d,.string xt] 113);have d2:=bQd a5 (s:=d) (by omega) (by omega) a2;have b8:=a0.alloc (.cells #[.int .i64 M,.int .i64 d,.string xt] 113);have d3:=a0.lt;have d4:¬z=wr.heap.size:=by omega
   have v1:decide (M<=F)=false:=aE (by omega);have v2:decide (d<1)=false:=aE (by omega);have v3:decide (d>clock)=false:=aE (by omega);have d5:decide (clock<d)=false:=aE (by omega);have a6:=G.alloc b7 (.cells #[.int .i64 M,.int .i64 d,.string xt] 113);have b9:=bMn (n:=d) (by omega) (by omega);clear hc hA x0 x1 x2 I p1 p2 p3 a4 a2;go_wp2_with (at_mapUpdate;refine wpList_mapUpdate_own _ rfl _ _ _ 169 rfl 3 4 bLv underlying169 _ (z+1) k _ rfl a5 (by unfold maxLen;omega) _ _ _ rfl rfl b9 _ [] (plainElem_bool underlying4 true) ?_;intro w1 c3 a7)
   have U:=a6.grown a7 a6.size (fun j J=>by cases J;rw[<-HZ.out];omega);have c4:=bM3 b8 a7 (by simp);have c5:=hid (show ∀s:Int,(∀(j:Nat) (y:Hld),j<k+1->H[j]? =some y->y.s≠s)->(D.put (.int .i64 d) (.lit (.bool true))).atKey (.int .i64 s) (.lit (.bool false))=.lit (.bool false) from fun s hs=>by
    rw[Maps.atKey_put_other (bM2 (Ne.symm (hs k _ (Nat.lt_succ_self k) HX.out)))];exact HD.out s (fun j y J L=>hs j y (by omega) L))
   go_wp2_with fail;have Z:=HG.out
   go_roundg (H.length-(k+1))
   ·exact⟨k+1,M,_,by omega,rfl,by go_num,rfl,.inr ⟨k,_,rfl,HX.out,rfl⟩,c3,c5,c4,U⟩
   ·omega
  ·have u1:decide ((k:Int)<(H.length:Int))=false:=aE (by omega);go_wp2_with fail;go_ret;exact⟨rfl,G⟩
theorem bN0:(pG.info? 37).map (·.size)=some 3:=by kernel_rfl
theorem bOr {d:Func} {Q:Ending->World->Prop} {W:World} {a:Act} {z p q:Nat} {e A y2 u:Value} (D:d.results=#[.cell p 37,.tmp q]) (F:Arr W z 37 [e,A,y2]) (G:a.tmps.getD p undef=.pointer (some ⟨z,0,none⟩)) (I:a.tmps.getD q undef=u) (J:a.defers=[])
  (h:Q (.returned (.tuple #[.agg #[e,A,y2],u])) W):bodyPost pG d Q .ret a W:=by
 refine fM (uS D _ _ z _ _ (0,0) _ G F underlying37 rfl bN0) J ?_;rw[I];exact h
theorem bM4 {A:Func} {Q:Ending->World->Prop} {W:World} {a:Act} {z p q r:Nat} {d e y2 u v:Value} (D:A.results=#[.tmp r,.cell p 37,.tmp q]) (F:Arr W z 37 [d,e,y2]) (G:a.tmps.getD p undef=.pointer (some ⟨z,0,none⟩)) (I:a.tmps.getD q undef=u) (J:a.tmps.getD r undef=v) (L:a.defers=[])
  (h:Q (.returned (.tuple #[v,.agg #[d,e,y2],u])) W):bodyPost pG A Q .ret a W:=by
 refine fM (v:=.tuple #[v,.agg #[d,e,y2],u]) ?_ L h;have M:a.tmps[p]?.getD undef=.pointer (some ⟨z,0,none⟩):=by simpa using G
 have O:a.tmps[q]?.getD undef=u:=by simpa using I
 have R:a.tmps[r]?.getD undef=v:=by simpa using J
 simp[results,D,M,O,R,asAddr,run_loadVar_row W z _ _ _ (0,0) _ F underlying37 rfl bN0,Result.andThen]
theorem bQe {d:Func} {Q:Ending->World->Prop} {W:World} {a:Act} {z p:Nat} {e A y2:Value} (D:d.results=#[.cell p 37]) (F:Arr W z 37 [e,A,y2]) (G:a.tmps.getD p undef=.pointer (some ⟨z,0,none⟩)) (I:a.defers=[])
  (h:Q (.returned (.agg #[e,A,y2])) W):bodyPost pG d Q .ret a W:=
 fM (results_cell_row D _ _ z _ _ (0,0) _ G F underlying37 rfl bN0) I h
theorem bQf (room:Int) (w:World) (O:1<=room) (R:room<=64):
  Calls pG 82 #[.int .i64 room] w fun e w'=>e=.returned (.tuple #[.agg #[.int .i64 room,.int .i64 0,.slice none 0 0],.int .i64 0])/\Below w.heap.size w w':=by
 have J:=fun W=>bMf (.slice none 0 0) room 0 [] W ⟨none,0,rfl,aD _,by simp[maxLen],.inl rfl⟩ (bQa O R)
 have D:=(Arr.new w 37 [.int .i64 0,.int .i64 0,.slice none 0 0]).alloc (.cells #[.int .i64 room,.int .i64 0,.slice none 0 0] 37);have A:=Arr.new (w.alloc (.cells #[.int .i64 0,.int .i64 0,.slice none 0 0] 37)) 37 [.int .i64 room,.int .i64 0,.slice none 0 0];rw[fP] at A;change Arr ((w.alloc (.cells #[.int .i64 0,.int .i64 0,.slice none 0 0] 37)).alloc (.cells #[.int .i64 room,.int .i64 0,.slice none 0 0] 37)) _ _ _ at D A;have L:=bD (bD (aH w.heap.size w) (.cells #[.int .i64 0,.int .i64 0,.slice none 0 0] 37)) (.cells #[.int .i64 room,.int .i64 0,.slice none 0 0] 37)
 go_enter func82,ntmps82;go_wp2_with fail;generalize (w.alloc (.cells #[.int .i64 0,.int .i64 0,.slice none 0 0] 37)).alloc (.cells #[.int .i64 room,.int .i64 0,.slice none 0 0] 37)=V at*
 refine(J _).mono ?_;rintro e Y ⟨rfl,F⟩;have d:=D.below F D.lt;have G:=A.below F A.lt;have M:=aW L F;obtain⟨z,I⟩:=ex1 (w.heap.size);rw[<-I] at d G ⊢;have U:=hid I;have Z:=G.cell (i:=0) rfl;have c1:=G.cell (i:=1) rfl;have c2:=G.cell (i:=2) rfl;have e0:=d.cell (i:=0) rfl;have e1:=d.cell (i:=1) rfl;have e2:=d.cell (i:=2) rfl;have f0:=d.free 0;have f1:=d.free 1;have f2:=d.free 2;clear I J D A L F;go_wp2_with fail
 exact bOr rfl (((d.set 0 _).set 1 _).set 2 _) rfl rfl rfl ⟨rfl,by rw[<-U.out] at M ⊢;exact((M.setCell (p:=⟨z,0,none⟩) (aD _) _).setCell (p:=⟨z,1,none⟩) (aD _) _).setCell (p:=⟨z,2,none⟩) (aD _) _⟩
theorem aKl {d e:World} {D F:Addr} {v1 v2:Value} {B:Nat} {w0:World} (h:d.cell? D=some v1/\d.cell? F=some v2/\Below B w0 d/\B<=d.heap.size) (A:Below d.heap.size d e):
  e.cell? D=some v1/\e.cell? F=some v2/\Below B w0 e/\B<=e.heap.size:=by
 obtain⟨J,L,M,G⟩:=h;have k:∀{p:Addr} {v:Value},d.cell? p=some v->e.cell? p=some v:=fun{p} {v} I=>(A.cell (gV d p I)).trans I
 exact⟨k J,k L,M.trans (A.mono G),Nat.le_trans G A.size⟩
theorem bEi (a:Option Addr) (D:Nat) (l:List Ent) (off:Int) (z i:Nat) (x:Ent) (w:World) (F:RdR w (.slice a l.length D) (l.map bG)) (Z:w.cell? ⟨z,0,none⟩=some (.slice a l.length D)) (c1:w.cell? ⟨z+1,0,none⟩=some (.int .i64 off)) (A:l[i]? =some x) (hl:l.length<=1000000):
  Calls pG 96 #[.int .i64 (i:Int),.pointer (some ⟨z,0,none⟩),.pointer (some ⟨z+1,0,none⟩)] w fun e w'=>e=.returned (.bool (decide (off<x.f)))/\Below w.heap.size w w':=by
 have hi:=(eF.1 A).1;obtain⟨a',a0,J,a1,L,G⟩:=nS F;obtain⟨b,o,M,hb,I⟩:=G (by omega)
 injection J with v1 v2 v3
 subst v1;subst v3;subst M;obtain⟨O,U,x2,V,Y⟩:=I i x A;obtain⟨R,d⟩:∃R:Bool,R=decide (off<x.f):=⟨_,rfl⟩;have t1:decide (x.f>off)=R:=d.symm;have t2:decide (off<x.f)=R:=d.symm;rw[<-d];unfold maxLen at L;clear d I G F A O U V Y;go_enter func96,ntmps96;go_wp2_with fail
 go_quiet (fail)
 go_wp2_with fail;go_ret;exact⟨rfl,uD (aH _ _) _⟩
theorem bEj (n:Nat) (z:Nat) (f:Nat->Bool) (w:World) (hn:n<=1000000) (U:∀i,i<n->∀W,Below w.heap.size w W->Calls pG 96 #[.int .i64 (i:Int),.pointer (some ⟨z,0,none⟩),.pointer (some ⟨z+1,0,none⟩)] W fun e w'=>e=.returned (.bool (f i))/\Below W.heap.size W w'):
  Calls pG 95 #[.int .i64 (n:Int),.func (.func 96) #[] #[.pointer (some ⟨z,0,none⟩),.pointer (some ⟨z+1,0,none⟩)]] w fun e w'=>∃m:Nat,e=.returned (.int .i64 (m:Int))/\m<=n/\(m<n->f m=true)/\(∀j,j+1=m->f j=false)/\Below w.heap.size w w':=by
 go_enter func95,ntmps95;go_wp2_with fail
 go_loopg [5,6,7] n (fun g V Y _s7 wr=>∃i j:Nat,i<=j/\j<=n/\g=j-i/\V=.int .i64 (i:Int)/\Y=.int .i64 (j:Int)/\Hid ((j<n->f j=true)/\(∀q,q+1=i->f q=false))/\Below w.heap.size w wr)
 case atStart=>exact⟨0,n,aO _,aD _,rfl,rfl,rfl,hid ⟨fun h=>absurd h (Nat.lt_irrefl _),fun q h=>absurd h (Nat.succ_ne_zero _)⟩,aH _ _⟩
 case round=>
  obtain⟨i,j,a5,J,d,rfl,rfl,A,D⟩:=hrel;have L:=hid d;clear d
  by_cases a6:i<j
  ·have Z:decide ((i:Int)<(j:Int))=true:=aG (by omega);obtain⟨S,M⟩:=ex1 (i+j);obtain⟨m,G⟩:=ex1 (S/2);have m1:aJ.wrap ((i:Int)+(j:Int))=(S:Int):=by rw[show(i:Int)+(j:Int)=(S:Int) by omega];exact tE S (by omega)
   have a0:(i:Int)+(j:Int)=(S:Int):=by omega
   have m2:eZ.wrap (S:Int)=(S:Int):=by rw[fC];omega
   have a1:(S:Int)%18446744073709551616=(S:Int):=by omega
   have m3:((S:Int)>>>1)=(m:Int):=by rw[G,Int.shiftRight_eq_div_pow];rfl
   have a2:(S:Int)/2=(m:Int):=by omega
   have m4:eZ.wrap (m:Int)=(m:Int):=by rw[fC];omega
   have a3:(m:Int)%18446744073709551616=(m:Int):=by omega
   have m5:aJ.wrap (m:Int)=(m:Int):=tE m (by omega);have a4:i<=m/\m<j:=by omega
   have I:=U m (by omega) wr D;have HS:=hid M;have HM:=hid G;clear M G;obtain⟨F,hF⟩:∃F:Bool,F=f m:=⟨_,rfl⟩;rw[<-hF] at I;have O:=hid hF;clear hF;go_wp2_with fail;refine I.mono ?_;rintro e w1 ⟨rfl,h1⟩;have R:=aW D h1;clear I m1 a0 m2 a1 m3 a2 m4 a3
   cases F with
   |true=>
    go_wp2_with fail;have d:=L.out
    go_roundg (m-i)
    ·exact⟨i,m,a4.1,by omega,rfl,rfl,rfl,hid ⟨fun _=>O.out.symm,A.out.2⟩,R⟩
    ·omega
   |false=>
    have m6:aJ.wrap ((m:Int)+1)=((m+1:Nat):Int):=by rw[show(m:Int)+1=((m+1:Nat):Int) by push_cast;rfl];exact tE (m+1) (by omega)
    go_wp2_with fail;have d:=L.out
    go_roundg (j-(m+1))
    ·exact⟨m+1,j,by omega,J,rfl,by go_num,rfl,hid ⟨A.out.1,fun q h=>by rw[show q=m by omega];exact O.out.symm⟩,R⟩
    ·omega
  ·have Z:decide ((i:Int)<(j:Int))=false:=aE (by omega);obtain rfl:i=j:=by omega
   go_wp2_with fail;go_ret;exact⟨i,rfl,J,A.out.1,A.out.2,D⟩
theorem bEk {l:List Ent} {e A:Int} (h:oL e A l) {i j:Nat} {x y:Ent} (d:l[i]? =some x) (D:l[j]? =some y) (F:i<=j):x.f<=y.f:=by
 rcases Nat.lt_or_ge i j with q|q
 ·have:=NI h d D q;have:=(AH h i x d).2.1;omega
 grind
theorem bEl {l:List Ent} (h:jA l) {off:Int} (D:0<=off) (F:off<lF l) {m:Nat} (L:m<=l.length) (G:∀x,l[m]? =some x->off<x.f) (I:∀j x,j+1=m->l[j]? =some x->x.f<=off):nB l off=(m:Int)-1:=by
 obtain⟨k,x,A,M,O,e⟩:=bD4 h D F;have R:=(eF.1 A).1;have J:m=k+1:=by
  rcases Nat.lt_trichotomy m (k+1) with q|q|q
  ·obtain⟨y,d⟩:∃y,l[m]? =some y:=⟨_,aN (by omega)⟩;have:=G y d;have:=bEk h d A (by omega);omega
  ·exact q
  ·obtain⟨y,d⟩:∃y,l[m-1]? =some y:=⟨_,aN (by omega)⟩;have:=I (m-1) y (by omega) d;have:=NI h A d (by omega);omega
 rw[e,J];omega
theorem aKm (v:Value) (l:List Ent) (off:Int) (w:World) (O:RdR w v (l.map bG)) (I:l.length<=1000000):
  Calls pG 58 #[v,.int .i64 off] w fun e w'=>e=.returned (.int .i64 (nB l off))/\Below w.heap.size w w':=by
 obtain⟨a,A,rfl,b7,b1,-⟩:=nS O;have b2:=VN I;unfold maxLen at b1
 by_cases R:off<0
 ·rw[aJ0 (.inl R)];have t1:decide (off<0)=true:=aG R;go_enter func58,ntmps58;go_wp2_with fail
  go_quiet (fail)
  go_wp2_with fail;go_ret;exact⟨rfl,uD (bD (bD (aH _ _) _) _) _⟩
 have t1:decide (off<0)=false:=aE R;obtain⟨FV,U⟩:=ex1 (nB l off);rw[<-U];have a0:=hid U;clear U;obtain⟨T,V⟩:=ex1 (lG l);obtain⟨Q,J⟩:∃Q:Bool,Q=decide (T<=off):=⟨_,rfl⟩;have Y:=fun W h=>VO (.slice a l.length A) l W h I
 rw[<-V] at Y b2;have t2:decide (off>=T)=Q:=J.symm;have t3:decide (T<=off)=Q:=J.symm;have HQ:=hid J;have HT:=hid V;clear J V;obtain⟨z,L⟩:=ex1 (w.heap.size);have Z:Below w.heap.size w ((w.alloc (.cells #[.slice a l.length A] 30)).alloc (.cells #[.int .i64 off] 3)):=bD (bD (aH _ _) _) _;have c0:((w.alloc (.cells #[.slice a l.length A] 30)).alloc (.cells #[.int .i64 off] 3)).cell? ⟨z,0,none⟩=some (.slice a l.length A):=by
  rw[L];have h:=Arr.new w 30 [.slice a l.length A];exact(h.below (bD (aH _ _) (.cells #[.int .i64 off] 3)) h.lt).cell (i:=0) rfl
 have c1:((w.alloc (.cells #[.slice a l.length A] 30)).alloc (.cells #[.int .i64 off] 3)).cell? ⟨z+1,0,none⟩=some (.int .i64 off):=by
  rw[L];have h:=Arr.new (w.alloc (.cells #[.slice a l.length A] 30)) 3 [.int .i64 off];rw[fP] at h;exact h.cell (i:=0) rfl
 have a1:=(O.below Z);go_enter func58,ntmps58;go_wp2_with fail;generalize (w.alloc (.cells #[.slice a l.length A] 30)).alloc (.cells #[.int .i64 off] 3)=d at*
 rw[<-L] at ⊢;clear L O;have b3:=aKl (B:=d.heap.size) (w0:=d) ⟨c0,c1,aH _ _,aD _⟩ (aH d.heap.size d).drew
 go_cut [12] (fun b4 F=>b4=.bool Q/\F.cell? ⟨z,0,none⟩=some (.slice a l.length A)/\F.cell? ⟨z+1,0,none⟩=some (.int .i64 off)/\Below d.heap.size d F/\d.heap.size<=F.heap.size)
 case first=>
  go_region_held3 (fun F=>F.cell? ⟨z,0,none⟩=some (.slice a l.length A)/\F.cell? ⟨z+1,0,none⟩=some (.int .i64 off)/\Below d.heap.size d F/\d.heap.size<=F.heap.size)
   (first
    |with_reducible assumption
    |with_reducible exact aKl (by assumption) (by assumption))
   (first
    |(go_at_call 57;refine(Y _ (a1.below (by first|exact(by assumption:_/\_/\Below d.heap.size d _/\_).2.2.1|assumption))).mono ?_;rintro e w4 ⟨rfl,h4⟩))
  all_goals
   go_wp2_with fail;go_meet;exact⟨rfl,by assumption⟩
 case rest=>
 obtain⟨rfl,d0,d1,a2,b8⟩:=hcut;have a3:=a1.below a2;have h1:=Z.trans (a2.mono Z.size);clear Y b3 c0 c1
 cases Q with
 |true=>
  have a4:T<=off:=of_decide_eq_true HQ.out.symm;obtain rfl:FV= -1:=by rw[a0.out];exact aJ0 (.inr (by rw[<-HT.out];exact a4))
  clear a4;go_wp2_with fail;go_ret;exact⟨rfl,h1⟩
 |false=>
  have a5:off<T:=by have:=of_decide_eq_false HQ.out.symm;omega
  have hR:jA l:=by
   apply Decidable.byContradiction;intro q;have:lG l=0:=aA q;rw[<-HT.out] at this;omega
  have a6:off<lF l:=by
   have:lG l=lF l:=aB hR;rw[<-this,<-HT.out];exact a5
  have a7:=bEj l.length z (fun i=>match l[i]? with|some x=>decide (off<x.f)|none=>true) wc I (fun i hi W hW=>by
   obtain⟨x,G⟩:∃x,l[i]? =some x:=⟨_,aN hi⟩;simp only[G];exact bEi a A l off z i x W (a3.below hW) ((hW.cell (gV wc _ d0)).trans d0) ((hW.cell (gV wc _ d1)).trans d1) G I)
  clear t2 t3 a5 a3;have HS:=hid a6;have b5:=hid hR;clear a6 hR;go_wp2_with fail;refine a7.mono ?_;rintro e w2 ⟨m,rfl,hm,a8,a9,h2⟩;have b0:nB l off=(m:Int)-1:=bEl b5.out (by omega) HS.out hm (fun x G=>by
    have b6:=(eF.1 G).1;have q:=a8 b6;simp only[G] at q;exact of_decide_eq_true q) (fun j x hj G=>by
    have q:=a9 j hj;simp only[G] at q;have:=of_decide_eq_false q;omega)
  obtain⟨D,M⟩:=ex1 ((m:Int)-1);have mD:aJ.wrap ((m:Int)-1)=D:=by rw[<-M,aM];omega
  have b9:=M.symm;obtain rfl:FV=D:=by rw[a0.out,b0,M]
  clear M b0 a8 a9 a7;go_wp2_with fail;go_ret;exact⟨rfl,h1.trans (h2.mono h1.size)⟩
theorem aKn (v:Value) (l:List Ent) (off n:Int) (w:World) (U:RdR w v (l.map bG)) (hl:l.length<=1000000) (b2: -9223372036854775808<=off) (b3:off<=9223372036854775807) (b4: -9223372036854775808<=n) (b5:n<=9223372036854775807):
  Calls pG 18 #[v,.int .i64 off,.int .i64 n] w fun e w'=>e=.returned (.tuple #[.int .i64 (yF l off n).1,.int .i64 (yF l off n).2])/\Below w.heap.size w w':=by
 have a0:=VO v l w U hl;have a7:=VN hl;have a1:=fun o W h=>aKm v l o W h hl
 obtain⟨a,ca,rfl,b6,a8,-⟩:=nS U;unfold maxLen at a8;have A:=hid (show yF l off n=if n<1\/lG l<=off\/off<= -n then(-1,-1) else(nB l (max off 0),nB l (max off 0+min (n-(max off 0-off)) (lG l-max off 0)-1)) from rfl);obtain⟨T,hT⟩:=ex1 (lG l);obtain⟨D,d⟩:=ex1 (yF l off n);rw[<-hT] at a0 a7;rw[<-d] at ⊢;rw[<-hT,<-d] at A;clear hT d;go_enter func18,ntmps18;go_wp2_with fail;refine a0.mono ?_;rintro e w1 ⟨rfl,L⟩;have a4:=U.below L;clear a0 U
 by_cases q1:n<1
 ·obtain rfl:D=(-1,-1):=by rw[A.out,aB (.inl q1)]
  have t1:decide (n<1)=true:=aG q1;go_wp2_with fail
  go_ret2
  exact⟨rfl,L⟩
 have t1:decide (n<1)=false:=aE q1
 by_cases M:T<=off
 ·obtain rfl:D=(-1,-1):=by rw[A.out,aB (.inr (.inl M))]
  have t2:decide (off>=T)=true:=aG M;have a9:decide (T<=off)=true:=aG M;go_wp2_with fail
  go_ret2
  exact⟨rfl,L⟩
 have t2:decide (off>=T)=false:=aE M;have a9:decide (T<=off)=false:=aE M;obtain⟨N,O⟩:=ex1 (-n);have mN:aJ.wrap (-n)=N:=by rw[<-O,aM];omega
 have b7:=O.symm
 by_cases q3:off<=N
 ·obtain rfl:D=(-1,-1):=by rw[A.out,aB (.inr (.inr (by rw[<-O];exact q3)))]
  have t3:decide (off<=N)=true:=aG q3;clear O;go_wp2_with fail
  go_ret2
  exact⟨rfl,L⟩
 have t3:decide (off<=N)=false:=aE q3;have d:D=(nB l (max off 0),nB l (max off 0+min (n-(max off 0-off)) (T-max off 0)-1)):=by rw[A.out,aA (by omega)]
 obtain⟨F,hF⟩:=ex1 (max off 0);rw[<-hF] at d;obtain⟨D1,V⟩:=ex1 (F-off);rw[<-V] at d;obtain⟨R,Y⟩:=ex1 (n-D1);rw[<-Y] at d;obtain⟨G,Z⟩:=ex1 (T-F);rw[<-Z] at d;obtain⟨H,hH⟩:=ex1 (min R G);rw[<-hH] at d;obtain⟨I,hI⟩:=ex1 (F+H);rw[<-hI] at d;obtain⟨J,hJ⟩:=ex1 (I-1);rw[<-hJ] at d;have x1:(if off<=0 then 0 else off)=F:=by rw[hF,Int.max_def]
 have x2:max off 0=F:=hF.symm;have b8:max 0 off=F:=by rw[hF];omega
 have m1:aJ.wrap (F-off)=D1:=by rw[<-V,aM];omega
 have m2:aJ.wrap (n-D1)=R:=by rw[<-Y,aM];omega
 have m3:aJ.wrap (T-F)=G:=by rw[<-Z,aM];omega
 have y1:(if R<=G then R else G)=H:=by rw[hH,Int.min_def]
 have y2:min R G=H:=hH.symm;have m4:aJ.wrap (F+H)=I:=by rw[<-hI,aM];omega
 have m5:aJ.wrap (I-1)=J:=by rw[<-hJ,aM];omega
 have b9:=V.symm;have c0:=Y.symm;have c1:=Z.symm;have c2:=hI.symm;have c3:=hJ.symm;have b0:=hid d;obtain⟨f1,a2⟩:=ex1 (nB l F);obtain⟨f2,a3⟩:=ex1 (nB l J);have a5:=fun W h=>a1 F W h
 have a6:=fun W h=>a1 J W h
 rw[<-a2] at a5;rw[<-a3] at a6;obtain rfl:D=(f1,f2):=by rw[d,a2,a3]
 clear hF V Y Z hH hI hJ d a2 a3 a1 O b0 A;go_wp2_with fail;refine(a5 _ a4).mono ?_;rintro e w2 ⟨rfl,h2⟩;have b1:=a4.below h2;go_wp2_with fail;refine(a6 _ b1).mono ?_;rintro e w3 ⟨rfl,h3⟩;go_wp2_with fail
 go_ret2
 exact⟨rfl,aW (aW L h2) h3⟩
def oN (w w':World):Prop:=∀(g:Nat) (d:List Value),Arr w g 103 d->Arr w' g 103 d
theorem oN.refl (w:World):oN w w:=fun _ _ h=>h
theorem oN.trans {a b c:World} (h:oN a b) (k:oN b c):oN a c:=fun g d q=>k g d (h g d q)
theorem oN.alloc (w:World) (o:Obj):oN w (w.alloc o):=fun _ _ q=>q.alloc o
def aJ7 (w:World) (v:Value) (s:List UInt8):Prop:=∃g,v=.slice (some ⟨g,0,none⟩) s.length s.length/\∀(j:Nat) (u:Value),(fG s)[j]? =some u->w.cell? ⟨g,j,none⟩=some u
def vD (w:World) (B:Nat) (v:Value) (s:List UInt8):Prop:=OwB w B v s\/aJ7 w v s
theorem vD.alloc {w:World} {B:Nat} {v:Value} {s:List UInt8} (h:vD w B v s) (o:Obj):vD (w.alloc o) B v s:=by
 rcases h with h|⟨g,rfl,d⟩
 ·exact .inl (Ow.alloc h o)
 ·refine .inr ⟨g,rfl,fun j u e=>?_⟩;have h:=d j u e;rw[World.cell?_alloc_lt _ _ _ (gV w _ h)];exact h
end
section
open Go.RowKit Go.Extern.Stop Go.Stop Go.Extern
theorem bEq (v:Value) (w:World):(OL #[.iface 165 v]).run pG w=.ok (.iface 279 (.agg #[.pointer (some ⟨1,165,none⟩)])) w:=by kernel_rfl
def aKr:TypeId->Sem Value:=fun t=>do Rtype.noPackHeld "Comparable" t;pure (.bool (<-typeInfo t).comparable)
theorem bEr (w:World):(WZ aKr #[.agg #[.pointer (some ⟨1,165,none⟩)]]).run pG w=.ok (.bool true) w:=by kernel_rfl
theorem bEs (v:Value) (w:World):(Go.method 521 279 v "Comparable").run pG w=.ok (282,v) w:=by kernel_rfl
theorem bEt (v:Value) (w:World):(Go.method 521 165 v "Is").run pG w=.ok (277,v) w:=by kernel_rfl
theorem bEu (v:Value) (w:World):(Go.method 521 167 v "Unwrap").run pG w=.ok (279,v) w:=by kernel_rfl
theorem bEv:(pG.info? 165).map (·.comparable)=some true:=by kernel_rfl
theorem bEw (v:Value) (d:TypeId) (w:World):(tZ (.iface 165 v) d 281 true).run pG w=.ok (.tuple #[.iface 165 v,.bool true]) w:=run_typeAssert_hasB underlying281 (by kernel_rfl) v d w
theorem bEx (v:Value) (d:TypeId) (w:World):(tZ (.iface 165 v) d 284 true).run pG w=.ok (.tuple #[.nilIface,.bool false]) w:=XA underlying284 (by kernel_rfl) (by kernel_rfl) v d w
theorem bEy (v:Value) (d:TypeId) (w:World):(tZ (.iface 165 v) d 286 true).run pG w=.ok (.tuple #[.nilIface,.bool false]) w:=XA underlying286 (by kernel_rfl) (by kernel_rfl) v d w
theorem bEz (v:Value) (d:TypeId) (w:World):(tZ (.iface 167 v) d 281 true).run pG w=.ok (.tuple #[.nilIface,.bool false]) w:=XA underlying281 (by kernel_rfl) (by kernel_rfl) v d w
theorem bE0 (v:Value) (d:TypeId) (w:World):(tZ (.iface 167 v) d 284 true).run pG w=.ok (.tuple #[.iface 167 v,.bool true]) w:=run_typeAssert_hasB underlying284 (by kernel_rfl) v d w
theorem bE1 (c:Int) (w:World):(tZ (.iface 165 (.int .i64 c)) 93 165 true).run pG w=.ok (.tuple #[.int .i64 c,.bool true]) w:=by kernel_rfl
theorem bE2 (p:ByteArray) (x:Int) (w:World):
  Calls pG 279 #[.agg #[.string p,.iface 165 (.int .i64 x)]] w fun e w'=>e=.returned (.iface 165 (.int .i64 x))/\Below w.heap.size w w':=by
 have d:Below w.heap.size w (w.alloc (.cells #[.string p,.iface 165 (.int .i64 x)] 167)):=bD (aH _ _) _;go_enter func279,ntmps279;go_wp2;go_ret;exact⟨rfl,d⟩
theorem bE3 (x c:Int) (w:World):
  Calls pG 277 #[.int .i64 x,.iface 165 (.int .i64 c)] w fun e w'=>e=.returned (.bool (x==c))/\w'=w:=by
 have d:=bE1;go_enter func277,ntmps277;go_wp2;go_ret;exact⟨rfl,rfl⟩
theorem bE4 (p:ByteArray) (x c:Int) (w:World):
  Calls pG 152 #[.iface 167 (.agg #[.string p,.iface 165 (.int .i64 x)]),.iface 165 (.int .i64 c),.bool true] w fun e w'=>e=.returned (.bool (x==c))/\Below w.heap.size w w':=by
 have I:=bEw;have J:=bEx;have L:=bEy;have M:=bEz;have O:=bE0;have R:=bEt;have U:=bEu;have V:∀w,(binOp .eql 93 (.iface 167 (.agg #[.string p,.iface 165 (.int .i64 x)])) (.iface 165 (.int .i64 c))).run pG w=.ok (.bool false) w:=run_eql_iface_types (P:=pG) _ _ _ _ underlying93 (by decide);have F:∀w,(binOp .eql 93 (.iface 165 (.int .i64 x)) (.iface 165 (.int .i64 c))).run pG w=.ok (.bool (x==c)) w:=fun w=>Lib.run_eql_iface_int (P:=pG) w x c underlying93 bEv underlying165
 have Y:∀w,(binOp .eql 93 (.iface 165 (.int .i64 x)) .nilIface).run pG w=.ok (.bool false) w:=fun w=>by kernel_rfl
 obtain⟨r,d⟩:∃r:Bool,r=(x==c):=⟨_,rfl⟩;have A:=fun W=>bE3 x c W
 have G:=fun W=>bE2 p x W
 rw[<-d] at F ⊢;rw[<-d] at A;clear d;go_enter func152,ntmps152;go_wp2_with fail;refine wp_loop_rounds 2 ?_;rw[uA];go_wp2_with fail;refine(G _).mono ?_;rintro e Z ⟨rfl,D⟩;go_wp2_with fail;rw[uA]
 cases r with
 |true=>
  go_wp2_with fail;go_ret;exact⟨rfl,D⟩
 |false=>
  go_wp2_with fail;refine(A _).mono ?_;rintro e w2 ⟨rfl,rfl⟩;go_wp2_with fail;go_ret;exact⟨rfl,D⟩
theorem bE5 (p:ByteArray) (x c:Int) (w:World):
  Calls pG 125 #[.iface 167 (.agg #[.string p,.iface 165 (.int .i64 x)]),.iface 165 (.int .i64 c)] w fun e w'=>e=.returned (.bool (x==c))/\Below w.heap.size w w':=by
 have D:=@rZ pG 151 _ OL func151 (by kernel_rfl) (by kernel_rfl) (by kernel_rfl) (by kernel_rfl);have F:=@rZ pG 282 _ (WZ aKr) func282 (by kernel_rfl) (by kernel_rfl) (by kernel_rfl) (by kernel_rfl);have G:=bEq;have I:=bEr;have J:=bEs;have L:∀w,(binOp .eql 93 (.iface 167 (.agg #[.string p,.iface 165 (.int .i64 x)])) .nilIface).run pG w=.ok (.bool false) w:=fun w=>by kernel_rfl
 have M:∀w,(binOp .eql 93 (.iface 165 (.int .i64 c)) .nilIface).run pG w=.ok (.bool false) w:=fun w=>by kernel_rfl
 have d:=fun W=>bE4 p x c W
 go_enter func125,ntmps125;go_wp2_with fail;refine(d _).mono ?_;rintro e O ⟨rfl,A⟩;go_wp2_with fail;go_ret;exact⟨rfl,A⟩
theorem GN (p:ByteArray) (x:Int) (w:World) (A:x=2\/x=3\/x=7):
  Calls pG 84 #[.iface 167 (.agg #[.string p,.iface 165 (.int .i64 x)])] w fun e w'=>e=.returned (.int .i64 x)/\Below w.heap.size w w':=by
 have d:=fun c W=>bE5 p x c W
 have O:∀w,(rE 217 (.agg #[.int .i64 2,.int .i64 3,.int .i64 7]) (.int .i64 0)).run pG w=.ok (.int .i64 2) w:=fun w=>by kernel_rfl
 have R:∀w,(rE 217 (.agg #[.int .i64 2,.int .i64 3,.int .i64 7]) (.int .i64 1)).run pG w=.ok (.int .i64 3) w:=fun w=>by kernel_rfl
 have U:∀w,(rE 217 (.agg #[.int .i64 2,.int .i64 3,.int .i64 7]) (.int .i64 2)).run pG w=.ok (.int .i64 7) w:=fun w=>by kernel_rfl
 have G:=d 2;have I:=d 3;have J:=d 7;clear d;go_enter func84,ntmps84;go_wp2_with fail;refine wp_loop_rounds 4 ?_;rw[uA];go_wp2_with fail;refine(G _).mono ?_;rintro e V ⟨rfl,D⟩;rcases A with rfl|A
 ·go_wp2_with fail;go_ret;exact⟨rfl,D⟩
 have L:(x==2)=false:=beq_eq_false_iff_ne.2 (by omega);rw[L];go_wp2_with fail;rw[uA];go_wp2_with fail;refine(I _).mono ?_;rintro e Y ⟨rfl,F⟩;rcases A with rfl|rfl
 ·go_wp2_with fail;go_ret;exact⟨rfl,aW D F⟩
 go_wp2_with fail;rw[uA];go_wp2_with fail;refine(J _).mono ?_;rintro e Z ⟨rfl,M⟩;go_wp2_with fail;go_ret;exact⟨rfl,aW (aW D F) M⟩
end
end Go.Proofs.YtfckbfofgeilgaaGreatDoor
