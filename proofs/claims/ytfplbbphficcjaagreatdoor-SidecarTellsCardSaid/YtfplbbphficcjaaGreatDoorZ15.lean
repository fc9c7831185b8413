/-
  Texts put together (part 15): the walks and the plain laws on which the statement stands.
-/
import Derived.Test.YtfplbbphficcjaaGreatDoorZ10
import Derived.Test.YtfplbbphficcjaaGreatDoorZ14
set_option maxRecDepth 100000
set_option maxHeartbeats 12800000
set_option linter.unusedVariables false
set_option linter.unusedSimpArgs false
open Go.Proofs.Tryz
open Go.Proofs.Tryz renaming prog->pG
open Go renaming wpAnyH_done->nY,wp_region_held_drew->rF
open Go.Act renaming put->bJ
open Go.Instr renaming sliceAt->vN
open Go.IntKind renaming i64->aJ,wrap_i64->aM
open Go.RowKit.Below renaming refl->aH
open Go.World renaming block_lt_of_cell?->gV
open List renaming drop_of_length_le->sB,getElem?_cons_succ->gH,getElem?_cons_zero->gB,getElem?_eq_getElem->aN,getElem?_toArray->gA,length_append->aL,length_cons->aU,length_nil->aV,length_take->aQ,setIfInBounds_toArray->bK,set_cons_succ->bB,set_cons_zero->bH,size_toArray->dB
open Nat renaming le_refl->aD,reduceAdd->cV,reduceSub->dC
open Option.some renaming inj->cC
open Or renaming inl->gJ,inr->gI
namespace Go.Proofs.YtfplbbphficcjaaGreatDoor
open Go.RowKit Go Go.Shelf
theorem CJ:El2 pG 190 192 32 (.agg #[.int .i64 0,.slice none 0 0]):=El2.mk' (by kernel_rfl) underlying190 rfl (by decide)
theorem aFi {B:Nat} {w0 d:World} (h:Below B w0 d) (e:B<=d.heap.size):Below B w0 d.drew/\B<=d.drew.heap.size:=⟨h.drew,e⟩
theorem aFj (v:Value) (l:List VV) (f:Nat->Int) (w:World) (H:nN w v l) (F:0<l.length) (_hl2:l.length<=1000) (I:∀(j:Nat) (q:VV),l[j]? =some q->q.1=Value.int .i64 (f j)):
  Calls pG 108 #[v] w fun e w'=>e=.returned (.int .i64 (oD f l.length:Int))/\Below w.heap.size w w':=by
 obtain⟨a,ca,rfl,a2,a0,J⟩:=H.open;unfold maxLen at a0;obtain⟨b,off,rfl,L,M⟩:=J F;have O:=hid (show ∀j,j<l.length->w.cell? ⟨b,off+j*2,none⟩=some (.int .i64 (f j)) from fun j hj=>by
  have e:=aN hj;rw[(M j _ e).1,I j _ e])
 clear J M I H;go_enter func108,ntmps108;go_wp2_with fail
 go_loopg [3,4] (l.length-1) (fun g s3 s4 wr=>∃k m:Nat,1<=k/\k<=l.length/\g=l.length-k/\s4=.int .i64 (k:Int)/\s3=.int .i64 (m:Int)/\Hid (m=oD f k)/\m<l.length/\Below w.heap.size w wr)
 case atStart=>exact⟨1,0,aD _,F,by omega,rfl,rfl,hid (by unfold oD;split<;>rfl),F,aH _ _⟩
 case round=>
  obtain⟨k,m,a3,hk,D,rfl,rfl,T,U,A⟩:=hrel;have V:=hid D;clear D
  by_cases Y:k<l.length
  ·have u1:decide ((k:Int)<(l.length:Int))=true:=aG (by omega);have c1:=(A.cell (p:=⟨b,off+k*2,none⟩) L).trans (O.out k Y);have c2:=(A.cell (p:=⟨b,off+m*2,none⟩) L).trans (O.out m U);have d:oD f (k+1)=if f k<f m then k else m:=by rw[T.out];rfl
   obtain⟨x,Z⟩:∃x,x=f k:=⟨_,rfl⟩;obtain⟨y,hy⟩:∃y,y=f m:=⟨_,rfl⟩;rw[<-Z] at c1 d;rw[<-hy] at c2 d;clear Z hy
   by_cases h:x<y
   ·have u2:decide (x<y)=true:=aG h;rw[aB h] at d;have G:=hid d.symm;clear d h;go_wp2_with fail
    go_quiet (fail)
    go_wp2_with fail;have D:=V.out
    go_roundg (l.length-(k+1))
    case measure=>omega
    case rel=>exact⟨k+1,k,by omega,by omega,rfl,by go_num,rfl,G,Y,kY A _⟩
   ·have u2:decide (x<y)=false:=aE h;rw[aA h] at d;have G:=hid d.symm;clear d h;go_wp2_with fail
    go_quiet (fail)
    go_wp2_with fail;have D:=V.out
    go_roundg (l.length-(k+1))
    case measure=>omega
    case rel=>exact⟨k+1,m,by omega,by omega,rfl,by go_num,rfl,G,U,kY A _⟩
  ·have u1:decide ((k:Int)<(l.length:Int))=false:=aE (by omega);have a1:k=l.length:=by omega
   subst a1;go_wp2_with fail;go_ret;exact⟨by rw[<-T.out];rfl,A⟩
theorem aFk {wr w:World} {b off cap:Nat} {l:List VV} (e:b<wr.heap.size) (A:∀j q,l[j]? =some q->wr.cell? ⟨b,off+j*2,none⟩=some q.1/\wr.cell? ⟨b,off+j*2+1,none⟩=some q.2) (h:Below wr.heap.size wr w/\wr.heap.size<=w.heap.size)
  (k:Nat) (G:k<=l.length) (H:k<=cap) (D:cap<=maxLen):nN w (.slice (some ⟨b,off,none⟩) k cap) (l.take k):=by
 have F:(l.take k).length=k:=by grind
 refine .inr ⟨b,off,cap,by rw[F],by omega,D,by omega,fun j q d=>?_⟩;have I:=(List.getElem?_eq_some_iff.1 d).1;rw[List.getElem?_take_of_lt (by omega)] at d;rw[h.1.cell (p:=⟨b,off+j*2,none⟩) e,h.1.cell (p:=⟨b,off+j*2+1,none⟩) e];exact A j q d
theorem aXs {wr w:World} {b off cap:Nat} {l:List VV} (d:b<wr.heap.size) (A:∀j q,l[j]? =some q->wr.cell? ⟨b,off+j*2,none⟩=some q.1/\wr.cell? ⟨b,off+j*2+1,none⟩=some q.2) (h:Below wr.heap.size wr w/\wr.heap.size<=w.heap.size)
  (k:Nat) (D:l.length<=cap) (F:cap<=maxLen):nN w (.slice (some ⟨b,off+k*2,none⟩) (l.length-k) (cap-k)) (l.drop k):=by
 refine .inr ⟨b,off+k*2,cap-k,by simp,by grind,by omega,by omega,fun j q e=>?_⟩;rw[List.getElem?_drop] at e;rw[h.1.cell (p:=⟨b,off+k*2+j*2,none⟩) d,h.1.cell (p:=⟨b,off+k*2+j*2+1,none⟩) d,show off+k*2+j*2=off+(k+j)*2 by omega];exact A _ q e
theorem aXt {wr w:World} {b off:Nat} (d:b<wr.heap.size) (h:Below wr.heap.size wr w/\wr.heap.size<=w.heap.size):nN w (.slice (some ⟨b,off,none⟩) 0 0) []:=by grind [nN]
theorem aFl (v:Value) (l:List VV) (i:Nat) (w:World) (T:nN w v l) (hi:i<l.length) (b5:l.length<=1000) (G:rA l):
  Calls pG 109 #[v,.int .i64 (i:Int)] w fun e w'=>∃U,e=.returned U/\OwP w' w.heap.size 192 U (l.eraseIdx i)/\Below w.heap.size w w':=by
 obtain⟨a,h,rfl,a5,V,Y⟩:=T.open;have H:=hid V;unfold maxLen at V;obtain⟨b,off,rfl,hb,Z⟩:=Y (by omega);have I:=hid Z;have F:=hid hb;have a0:=hid (G.sub (m:=l.take i) (fun q A=>List.mem_of_mem_take A));have a1:=hid (G.sub (m:=l.drop (i+1)) (fun q A=>List.mem_of_mem_drop A));have a2:i<=h:=by omega
 obtain⟨d,J⟩:∃d,d=i+1:=⟨_,rfl⟩;rw[<-J] at a1;have m1:aJ.wrap ((i:Int)+1)=(d:Int):=by rw[aM];omega
 have m2:(i:Int)+1=(d:Int):=by omega
 have m3:aJ.wrap (d:Int)=(d:Int):=by rw[aM];omega
 have b6:d<=l.length:=by omega
 have a6:(d:Int)<=(l.length:Int):=by omega
 have b7:(0:Int)<=(d:Int):=by omega
 have a7:¬d*2=0:=by omega
 have HE:=hid (show l.take i++l.drop d=l.eraseIdx i by rw[J,List.eraseIdx_eq_take_drop_succ]);clear J;have b8:(i:Int)<=(h:Int):=by omega
 have b9:(0:Int)<=(i:Int):=by omega
 have a3:i<=l.length:=by omega
 clear Y Z T G hi
 by_cases L:h=d
 ·have a4:l.length=d:=by omega
  have a8:=hid (show l.drop d=[] from sB (by omega));have a9:∀w,(vN 190 (.slice (some ⟨b,off,none⟩) l.length h) (some (.int .i64 (d:Int))) none none).run pG w=.ok (.slice (some ⟨b,off,none⟩) 0 0) w:=fun W=>by
   simp[go_sem,L,a4]
  clear L a4;go_enter func109,ntmps109;go_wp2_with fail
  go_region_held3 (fun w'=>Below w.heap.size w w'/\w.heap.size<=w'.heap.size)
   (first
    |with_reducible assumption
    |with_reducible exact zE (by assumption) _
    |with_reducible exact BR (by assumption) (by assumption)
    |with_reducible exact aFi (aH _ _) (aD _))
   (first
    |(refine MF CJ rfl _ _ rfl w.heap.size (.slice none 0 0) [] rfl (OwP.nil _ _ _) (.slice (some ⟨b,off,none⟩) i h) (l.take i) rfl ?_ ?_ ?_ ?_ ?_;(exact aFk F.out I.out (by assumption) i a3 a2 H.out);(exact a0.out);(simp only[aV,aQ];omega);(exact(show Below w.heap.size w _/\w.heap.size<=_ by assumption).2);intro v1 w1 b0 b1 b2)
    |(refine MF CJ rfl _ _ rfl w.heap.size _ ([]++l.take i) rfl (by assumption) (.slice (some ⟨b,off,none⟩) 0 0) [] rfl ?_ ?_ ?_ ?_ ?_;(exact aXt F.out (by assumption));(exact fun q A=>by simp at A);(simp only[aL,aV,aQ];omega);(exact(show Below w.heap.size w _/\w.heap.size<=_ by assumption).2);intro v2 D M b3 b4))
  all_goals
   go_wp2_with fail;go_ret;have O:Below w.heap.size w D/\w.heap.size<=D.heap.size:=by assumption
   refine⟨_,rfl,?_,O.1⟩;rw[<-HE.out,a8.out];exact M
 ·have a9:∀w,(vN 190 (.slice (some ⟨b,off,none⟩) l.length h) (some (.int .i64 (d:Int))) none none).run pG w=.ok (.slice (some ⟨b,off+d*2,none⟩) (l.length-d) (h-d)) w:=fun W=>by
   simp[go_sem,a6,L,Addr.add,a7]
  go_enter func109,ntmps109;go_wp2_with fail
  go_region_held3 (fun w'=>Below w.heap.size w w'/\w.heap.size<=w'.heap.size)
   (first
    |with_reducible assumption
    |with_reducible exact zE (by assumption) _
    |with_reducible exact BR (by assumption) (by assumption)
    |with_reducible exact aFi (aH _ _) (aD _))
   (first
    |(refine MF CJ rfl _ _ rfl w.heap.size (.slice none 0 0) [] rfl (OwP.nil _ _ _) (.slice (some ⟨b,off,none⟩) i h) (l.take i) rfl ?_ ?_ ?_ ?_ ?_;(exact aFk F.out I.out (by assumption) i a3 a2 H.out);(exact a0.out);(simp only[aV,aQ];omega);(exact(show Below w.heap.size w _/\w.heap.size<=_ by assumption).2);intro v1 w1 b0 b1 b2)
    |(refine MF CJ rfl _ _ rfl w.heap.size _ ([]++l.take i) rfl (by assumption) (.slice (some ⟨b,off+d*2,none⟩) (l.length-d) (h-d)) (l.drop d) rfl ?_ ?_ ?_ ?_ ?_;(exact aXs F.out I.out (by assumption) d a5 H.out);(exact a1.out);(simp only[aL,aV,aQ,List.length_drop];omega);(exact(show Below w.heap.size w _/\w.heap.size<=_ by assumption).2);intro v2 D M b3 b4))
  all_goals
   go_wp2_with fail;go_ret;have O:Below w.heap.size w D/\w.heap.size<=D.heap.size:=by assumption
   refine⟨_,rfl,?_,O.1⟩;rw[<-HE.out];exact M
theorem bIy (v:Value) (l:List Ent) (w:World) (hr:RdR w v (l.map bG)) (hl:l.length<=1000000):
  Calls pG 28 #[v] w fun e w'=>e=.returned (.bool (decide (jA l)))/\Below w.heap.size w w':=by
 obtain⟨a,ca,rfl,c6,b7,hA⟩:=nS hr;unfold maxLen at b7;obtain⟨R,hR⟩:∃R:Bool,R=decide (jA l):=⟨_,rfl⟩;rw[<-hR];have HR:=hid hR;clear hR hr;go_enter func28,ntmps28;go_wp2_with fail
 go_loopg [3,4] l.length (fun g s3 _s4 wr=>∃(k:Nat) (fr lo:Int),k<=l.length/\g=l.length-k/\s3=.int .i64 (k:Int)/\(0<=fr/\fr<=18720*(k:Int))/\31<=lo/\Hid ((k=0/\fr=0/\lo=31)\/∃y:Ent,∃j:Nat,k=j+1/\l[j]? =some y/\fr=y.f+y.n/\lo=y.a)/\Hid (jA l↔oL fr lo (l.drop k))/\Below w.heap.size w wr)
 case atStart=>exact⟨0,0,31,Nat.zero_le _,rfl,rfl,⟨by decide,by decide⟩,by decide,hid (.inl ⟨rfl,rfl,rfl⟩),hid (Iff.refl _),aH _ _⟩
 case round=>
  obtain⟨k,fr,lo,hk,hg,rfl,c7,c8,HY,HI,Y⟩:=hrel;have HG:=hid hg;have b8:=Y.size;clear hg
  by_cases a8:k<l.length
  ·have t1:decide ((k:Int)<(l.length:Int))=true:=aG (by omega);obtain⟨b,off,rfl,hb,hc⟩:=hA (by omega);obtain⟨x,hx⟩:∃x,l[k]? =some x:=⟨_,aN a8⟩;have M:=hid (show jA l↔x.ok fr lo/\oL (x.f+x.n) x.a (l.drop (k+1)) by
    have e:l[k]=x:=by rw[aN a8] at hx;exact cC hx
    rw[HI.out,List.drop_eq_getElem_cons a8,e];exact Iff.rfl)
   obtain⟨x0,x1,x2,x3,x4⟩:=hc k x hx;have HC:=hid hc;have HX:=hid hx;clear hc hA HI hx;obtain⟨A,G,d,D,H⟩:=x;have c0:=(Y.cell (p:=⟨b,off+k*5,none⟩) hb).trans x0;have c1:=(Y.cell (p:=⟨b,off+k*5+1,none⟩) hb).trans x1;have c2:=(Y.cell (p:=⟨b,off+k*5+2,none⟩) hb).trans x2;have c3:=(Y.cell (p:=⟨b,off+k*5+3,none⟩) hb).trans x3;have c4:=(Y.cell (p:=⟨b,off+k*5+4,none⟩) hb).trans x4;dsimp only at c0 c1 c2 c3 c4;have a0:=fun o=>Y.alloc b8 o
   clear x0 x1 x2 x3 x4
   by_cases q1:D<1
   ·obtain rfl:R=false:=by rw[HR.out];exact aE (fun h=>absurd (M.out.1 h).1.2.1 (by show ¬1<=D;omega))
    have v0:decide (D<1)=true:=aG q1;go_wp2_with fail;go_ret;exact⟨rfl,a0 _⟩
   have c9:decide (D<1)=false:=aE q1
   by_cases q2:18720<D
   ·obtain rfl:R=false:=by rw[HR.out];exact aE (fun h=>absurd (M.out.1 h).1.2.2.1 (by show ¬D<=18720;omega))
    have v0:decide (D>18720)=true:=aG q2;have v1:decide (18720<D)=true:=aG q2;go_wp2_with fail;go_ret;exact⟨rfl,a0 _⟩
   have d1:decide (D>18720)=false:=aE q2;have d4:decide (18720<D)=false:=aE q2
   by_cases q3:G<40
   ·obtain rfl:R=false:=by rw[HR.out];exact aE (fun h=>absurd (M.out.1 h).1.2.2.2.1 (by show ¬40<=G;omega))
    have v0:decide (G<40)=true:=aG q3;go_wp2_with fail;go_ret;exact⟨rfl,a0 _⟩
   have d5:decide (G<40)=false:=aE q3
   by_cases q4:360<G
   ·obtain rfl:R=false:=by rw[HR.out];exact aE (fun h=>absurd (M.out.1 h).1.2.2.2.2.1 (by show ¬G<=360;omega))
    have v0:decide (G>360)=true:=aG q4;have v1:decide (360<G)=true:=aG q4;go_wp2_with fail;go_ret;exact⟨rfl,a0 _⟩
   have d6:decide (G>360)=false:=aE q4;have d7:decide (360<G)=false:=aE q4;obtain⟨Z,hZ⟩:∃Z,Z=G.tmod 40:=⟨_,rfl⟩;have b3:Z=G%40:=by rw[hZ];exact Int.tmod_eq_emod_of_nonneg (by omega)
   have mZ:aJ.wrap Z=Z:=by rw[aM];omega
   have d8:=hZ.symm;have HZ:=hid b3;clear hZ b3
   by_cases q5:Z=0
   rotate_left
   ·obtain rfl:R=false:=by rw[HR.out];exact aE (fun h=>q5 (by rw[HZ.out];exact(M.out.1 h).1.2.2.2.2.2.1))
    have v0:(Z != 0)=true:=bne_iff_ne.2 q5;go_wp2_with fail;go_ret;exact⟨rfl,a0 _⟩
   subst q5
   by_cases q6:A<32
   ·obtain rfl:R=false:=by rw[HR.out];exact aE (fun h=>absurd (M.out.1 h).1.2.2.2.2.2.2 (by show ¬lo<A;omega))
    have v0:decide (A<32)=true:=aG q6;go_wp2_with fail;go_ret;exact⟨rfl,a0 _⟩
   have d9:decide (A<32)=false:=aE q6;have b4:=hid (show(k+1=0/\d+D=0/\A=31)\/∃y:Ent,∃j:Nat,k+1=j+1/\l[j]? =some y/\d+D=y.f+y.n/\A=y.a from .inr ⟨⟨A,G,d,D,H⟩,k,rfl,HX.out,rfl,rfl⟩);have a4:=fun(h1:d=fr) (h2:lo<A)=>show jA l↔oL (d+D) A (l.drop (k+1)) from⟨fun h=>(M.out.1 h).2,fun h=>M.out.2 ⟨⟨h1,by show 1<=D;omega,by show D<=18720;omega,by show 40<=G;omega,by show G<=360;omega,by show G%40=0;rw[<-HZ.out],h2⟩,h⟩⟩
   rcases HY.out with⟨b5,a9,b6⟩|⟨y,j,b0,hy,b1,a6⟩
   ·have w0:((k:Int)==0)=true:=by rw[beq_iff_eq];omega
    have w1:decide ((k:Int)>0)=false:=aE (by omega);have b9:decide ((0:Int)<(k:Int))=false:=aE (by omega);have c5:decide (0<k)=false:=aE (by omega)
    by_cases q7:d=0
    rotate_left
    ·obtain rfl:R=false:=by rw[HR.out];exact aE (fun h=>q7 (by rw[<-a9];exact(M.out.1 h).1.1))
     have v0:(d != 0)=true:=bne_iff_ne.2 q7;clear a9 b6 M a4 b5;go_wp2_with fail;have I:=Arr.new wr 47 [.int .i64 A,.int .i64 G,.int .i64 d,.int .i64 D,.int .u32 H];change Arr (wr.alloc (.cells #[.int .i64 A,.int .i64 G,.int .i64 d,.int .i64 D,.int .u32 H] 47)) _ _ _ at I;have a1:=a0 (.cells #[.int .i64 A,.int .i64 G,.int .i64 d,.int .i64 D,.int .u32 H] 47);generalize wr.alloc (.cells #[.int .i64 A,.int .i64 G,.int .i64 d,.int .i64 D,.int .u32 H] 47)=J at*
     have O:J.drew.cell? ⟨wr.heap.size,0,none⟩=some (.int .i64 A)/\J.drew.cell? ⟨wr.heap.size,2,none⟩=some (.int .i64 d):=⟨I.cell (i:=0) rfl,I.cell (i:=2) rfl⟩;clear I;refine rF (S:=fun L=>L.cell? ⟨wr.heap.size,0,none⟩=some (.int .i64 A)/\L.cell? ⟨wr.heap.size,2,none⟩=some (.int .i64 d)) (by kernel_rfl) O (fun a2=>?_)
     iterate 40
      refine fV 0 0 (by simp only[dB,aU,aV,cV,dC]<;>rfl) (by simp only[gA,gH,gB];rfl) (by kernel_rfl) (by exact fun _ _ _ h=>h) (by first|exact gI ⟨by rfl,rfl⟩|(refine gJ ⟨by rfl,?_⟩;intro w' a3;(try dsimp only at a3);(try go_simp);try with_reducible rfl)) (by assumption) ?_
      try simp only[bJ,bK,bH,bB]
     refine nY (by kernel_rfl) ?_ _;clear a2 O;go_wp2_with fail;go_ret;exact⟨rfl,a1.drew⟩
    have b2:=hid (a4 (by omega) (by omega));have v0:(d != 0)=false:=by rw[bne_eq_false_iff_eq];exact q7
    have a5:0<=d+D/\d+D<=18720*((k:Int)+1):=by omega
    clear a9 b6 M a4 q7 b5;go_wp2_with fail;have I:=Arr.new wr 47 [.int .i64 A,.int .i64 G,.int .i64 d,.int .i64 D,.int .u32 H];change Arr (wr.alloc (.cells #[.int .i64 A,.int .i64 G,.int .i64 d,.int .i64 D,.int .u32 H] 47)) _ _ _ at I;have a1:=a0 (.cells #[.int .i64 A,.int .i64 G,.int .i64 d,.int .i64 D,.int .u32 H] 47);generalize wr.alloc (.cells #[.int .i64 A,.int .i64 G,.int .i64 d,.int .i64 D,.int .u32 H] 47)=J at*
    have O:J.drew.cell? ⟨wr.heap.size,0,none⟩=some (.int .i64 A)/\J.drew.cell? ⟨wr.heap.size,2,none⟩=some (.int .i64 d):=⟨I.cell (i:=0) rfl,I.cell (i:=2) rfl⟩;clear I;refine rF (S:=fun L=>L.cell? ⟨wr.heap.size,0,none⟩=some (.int .i64 A)/\L.cell? ⟨wr.heap.size,2,none⟩=some (.int .i64 d)) (by kernel_rfl) O (fun a2=>?_)
    iterate 40
     refine fV 0 0 (by simp only[dB,aU,aV,cV,dC]<;>rfl) (by simp only[gA,gH,gB];rfl) (by kernel_rfl) (by exact fun _ _ _ h=>h) (by first|exact gI ⟨by rfl,rfl⟩|(refine gJ ⟨by rfl,?_⟩;intro w' a3;(try dsimp only at a3);(try go_simp);try with_reducible rfl)) (by assumption) ?_
     try simp only[bJ,bK,bH,bB]
    refine nY (by kernel_rfl) ?_ _;clear a2 O;go_wp2_with fail;have hg:=HG.out
    go_roundg (l.length-(k+1))
    case measure=>omega
    case rel=>exact⟨k+1,d+D,A,by omega,rfl,by go_num,⟨a5.1,by push_cast;exact a5.2⟩,by omega,b4,b2,a1.drew⟩
   ·obtain⟨y0,y1,y2,y3,y4⟩:=HC.out j y hy;obtain⟨T,yr,U,V,yy⟩:=y;dsimp only at b1 a6 y0 y2 y3;have m1:(k:Int)-1=(j:Int):=by omega
    have e1:aJ.wrap ((k:Int)-1)=(j:Int):=by rw[m1];exact tE j (by omega)
    have mj:aJ.wrap (j:Int)=(j:Int):=tE j (by omega);obtain⟨F,hF⟩:∃F,F=U+V:=⟨_,rfl⟩;have mF:aJ.wrap (U+V)=F:=by rw[<-hF,aM];omega
    have e4:U+V=F:=hF.symm;have e5:aJ.wrap F=F:=by rw[aM];omega
    have a7:fr=F:=by rw[hF];exact b1
    have w0:((k:Int)==0)=false:=by rw[cB];omega
    have w1:decide ((k:Int)>0)=true:=aG (by omega);have b9:decide ((0:Int)<(k:Int))=true:=aG (by omega);have c5:decide (0<k)=true:=aG (by omega);have w2:decide ((j:Int)<(l.length:Int))=true:=aG (by omega);have e6:j<l.length:=by omega
    have d0:=(Y.cell (p:=⟨b,off+j*5,none⟩) hb).trans y0;have d2:=(Y.cell (p:=⟨b,off+j*5+2,none⟩) hb).trans y2;have d3:=(Y.cell (p:=⟨b,off+j*5+3,none⟩) hb).trans y3;clear y0 y1 y2 y3 y4 hy b1 hF
    by_cases q7:d=F
    rotate_left
    ·obtain rfl:R=false:=by rw[HR.out];exact aE (fun h=>q7 (by rw[<-a7];exact(M.out.1 h).1.1))
     have v0:(d != F)=true:=bne_iff_ne.2 q7;clear M a4 b0 a6 a7;go_wp2_with fail;have I:=Arr.new wr 47 [.int .i64 A,.int .i64 G,.int .i64 d,.int .i64 D,.int .u32 H];change Arr (wr.alloc (.cells #[.int .i64 A,.int .i64 G,.int .i64 d,.int .i64 D,.int .u32 H] 47)) _ _ _ at I;have a1:=a0 (.cells #[.int .i64 A,.int .i64 G,.int .i64 d,.int .i64 D,.int .u32 H] 47);have e0:(wr.alloc (.cells #[.int .i64 A,.int .i64 G,.int .i64 d,.int .i64 D,.int .u32 H] 47)).cell? ⟨b,off+j*5,none⟩=some (.int .i64 T):=((bD (aH _ wr) _).cell (gV wr _ d0)).trans d0
     have e2:(wr.alloc (.cells #[.int .i64 A,.int .i64 G,.int .i64 d,.int .i64 D,.int .u32 H] 47)).cell? ⟨b,off+j*5+2,none⟩=some (.int .i64 U):=((bD (aH _ wr) _).cell (gV wr _ d2)).trans d2;have e3:(wr.alloc (.cells #[.int .i64 A,.int .i64 G,.int .i64 d,.int .i64 D,.int .u32 H] 47)).cell? ⟨b,off+j*5+3,none⟩=some (.int .i64 V):=((bD (aH _ wr) _).cell (gV wr _ d3)).trans d3;generalize wr.alloc (.cells #[.int .i64 A,.int .i64 G,.int .i64 d,.int .i64 D,.int .u32 H] 47)=J at*
     have O:J.drew.cell? ⟨wr.heap.size,0,none⟩=some (.int .i64 A)/\J.drew.cell? ⟨wr.heap.size,2,none⟩=some (.int .i64 d)/\J.drew.cell? ⟨b,off+j*5,none⟩=some (.int .i64 T)/\J.drew.cell? ⟨b,off+j*5+2,none⟩=some (.int .i64 U)/\J.drew.cell? ⟨b,off+j*5+3,none⟩=some (.int .i64 V):=⟨I.cell (i:=0) rfl,I.cell (i:=2) rfl,e0,e2,e3⟩;clear I
     refine rF (S:=fun L=>L.cell? ⟨wr.heap.size,0,none⟩=some (.int .i64 A)/\L.cell? ⟨wr.heap.size,2,none⟩=some (.int .i64 d)/\L.cell? ⟨b,off+j*5,none⟩=some (.int .i64 T)/\L.cell? ⟨b,off+j*5+2,none⟩=some (.int .i64 U)/\L.cell? ⟨b,off+j*5+3,none⟩=some (.int .i64 V)) (by kernel_rfl) O (fun a2=>?_)
     iterate 40
      refine fV 0 0 (by simp only[dB,aU,aV,cV,dC]<;>rfl) (by simp only[gA,gH,gB];rfl) (by kernel_rfl) (by exact fun _ _ _ h=>h) (by first|exact gI ⟨by rfl,rfl⟩|(refine gJ ⟨by rfl,?_⟩;intro w' a3;(try dsimp only at a3);(try go_simp);try with_reducible rfl)) (by assumption) ?_
      try simp only[bJ,bK,bH,bB]
     refine nY (by kernel_rfl) ?_ _;clear a2 O;go_wp2_with fail;go_ret;exact⟨rfl,a1.drew⟩
    have v0:(d != F)=false:=by rw[bne_eq_false_iff_eq];exact q7
    by_cases q8:A<=T
    ·obtain rfl:R=false:=by rw[HR.out];exact aE (fun h=>absurd (M.out.1 h).1.2.2.2.2.2.2 (by show ¬lo<A;omega))
     have v1:decide (A<=T)=true:=aG q8;clear M a4 b0 a6 a7 q7;go_wp2_with fail;have I:=Arr.new wr 47 [.int .i64 A,.int .i64 G,.int .i64 d,.int .i64 D,.int .u32 H];change Arr (wr.alloc (.cells #[.int .i64 A,.int .i64 G,.int .i64 d,.int .i64 D,.int .u32 H] 47)) _ _ _ at I;have a1:=a0 (.cells #[.int .i64 A,.int .i64 G,.int .i64 d,.int .i64 D,.int .u32 H] 47);have e0:(wr.alloc (.cells #[.int .i64 A,.int .i64 G,.int .i64 d,.int .i64 D,.int .u32 H] 47)).cell? ⟨b,off+j*5,none⟩=some (.int .i64 T):=((bD (aH _ wr) _).cell (gV wr _ d0)).trans d0
     have e2:(wr.alloc (.cells #[.int .i64 A,.int .i64 G,.int .i64 d,.int .i64 D,.int .u32 H] 47)).cell? ⟨b,off+j*5+2,none⟩=some (.int .i64 U):=((bD (aH _ wr) _).cell (gV wr _ d2)).trans d2;have e3:(wr.alloc (.cells #[.int .i64 A,.int .i64 G,.int .i64 d,.int .i64 D,.int .u32 H] 47)).cell? ⟨b,off+j*5+3,none⟩=some (.int .i64 V):=((bD (aH _ wr) _).cell (gV wr _ d3)).trans d3;generalize wr.alloc (.cells #[.int .i64 A,.int .i64 G,.int .i64 d,.int .i64 D,.int .u32 H] 47)=J at*
     have O:J.drew.cell? ⟨wr.heap.size,0,none⟩=some (.int .i64 A)/\J.drew.cell? ⟨wr.heap.size,2,none⟩=some (.int .i64 d)/\J.drew.cell? ⟨b,off+j*5,none⟩=some (.int .i64 T)/\J.drew.cell? ⟨b,off+j*5+2,none⟩=some (.int .i64 U)/\J.drew.cell? ⟨b,off+j*5+3,none⟩=some (.int .i64 V):=⟨I.cell (i:=0) rfl,I.cell (i:=2) rfl,e0,e2,e3⟩;clear I
     refine rF (S:=fun L=>L.cell? ⟨wr.heap.size,0,none⟩=some (.int .i64 A)/\L.cell? ⟨wr.heap.size,2,none⟩=some (.int .i64 d)/\L.cell? ⟨b,off+j*5,none⟩=some (.int .i64 T)/\L.cell? ⟨b,off+j*5+2,none⟩=some (.int .i64 U)/\L.cell? ⟨b,off+j*5+3,none⟩=some (.int .i64 V)) (by kernel_rfl) O (fun a2=>?_)
     iterate 40
      refine fV 0 0 (by simp only[dB,aU,aV,cV,dC]<;>rfl) (by simp only[gA,gH,gB];rfl) (by kernel_rfl) (by exact fun _ _ _ h=>h) (by first|exact gI ⟨by rfl,rfl⟩|(refine gJ ⟨by rfl,?_⟩;intro w' a3;(try dsimp only at a3);(try go_simp);try with_reducible rfl)) (by assumption) ?_
      try simp only[bJ,bK,bH,bB]
     refine nY (by kernel_rfl) ?_ _;clear a2 O;go_wp2_with fail;go_ret;exact⟨rfl,a1.drew⟩
    have v1:decide (A<=T)=false:=aE q8;have b2:=hid (a4 (by omega) (by omega));have a5:0<=d+D/\d+D<=18720*((k:Int)+1):=by omega
    have e7:31<=A:=by omega
    clear M a4 b0 a6 a7 q7;go_wp2_with fail;have I:=Arr.new wr 47 [.int .i64 A,.int .i64 G,.int .i64 d,.int .i64 D,.int .u32 H];change Arr (wr.alloc (.cells #[.int .i64 A,.int .i64 G,.int .i64 d,.int .i64 D,.int .u32 H] 47)) _ _ _ at I;have a1:=a0 (.cells #[.int .i64 A,.int .i64 G,.int .i64 d,.int .i64 D,.int .u32 H] 47);have e0:(wr.alloc (.cells #[.int .i64 A,.int .i64 G,.int .i64 d,.int .i64 D,.int .u32 H] 47)).cell? ⟨b,off+j*5,none⟩=some (.int .i64 T):=((bD (aH _ wr) _).cell (gV wr _ d0)).trans d0
    have e2:(wr.alloc (.cells #[.int .i64 A,.int .i64 G,.int .i64 d,.int .i64 D,.int .u32 H] 47)).cell? ⟨b,off+j*5+2,none⟩=some (.int .i64 U):=((bD (aH _ wr) _).cell (gV wr _ d2)).trans d2;have e3:(wr.alloc (.cells #[.int .i64 A,.int .i64 G,.int .i64 d,.int .i64 D,.int .u32 H] 47)).cell? ⟨b,off+j*5+3,none⟩=some (.int .i64 V):=((bD (aH _ wr) _).cell (gV wr _ d3)).trans d3;generalize wr.alloc (.cells #[.int .i64 A,.int .i64 G,.int .i64 d,.int .i64 D,.int .u32 H] 47)=J at*
    have O:J.drew.cell? ⟨wr.heap.size,0,none⟩=some (.int .i64 A)/\J.drew.cell? ⟨wr.heap.size,2,none⟩=some (.int .i64 d)/\J.drew.cell? ⟨b,off+j*5,none⟩=some (.int .i64 T)/\J.drew.cell? ⟨b,off+j*5+2,none⟩=some (.int .i64 U)/\J.drew.cell? ⟨b,off+j*5+3,none⟩=some (.int .i64 V):=⟨I.cell (i:=0) rfl,I.cell (i:=2) rfl,e0,e2,e3⟩;clear I
    refine rF (S:=fun L=>L.cell? ⟨wr.heap.size,0,none⟩=some (.int .i64 A)/\L.cell? ⟨wr.heap.size,2,none⟩=some (.int .i64 d)/\L.cell? ⟨b,off+j*5,none⟩=some (.int .i64 T)/\L.cell? ⟨b,off+j*5+2,none⟩=some (.int .i64 U)/\L.cell? ⟨b,off+j*5+3,none⟩=some (.int .i64 V)) (by kernel_rfl) O (fun a2=>?_)
    iterate 40
     refine fV 0 0 (by simp only[dB,aU,aV,cV,dC]<;>rfl) (by simp only[gA,gH,gB];rfl) (by kernel_rfl) (by exact fun _ _ _ h=>h) (by first|exact gI ⟨by rfl,rfl⟩|(refine gJ ⟨by rfl,?_⟩;intro w' a3;(try dsimp only at a3);(try go_simp);try with_reducible rfl)) (by assumption) ?_
     try simp only[bJ,bK,bH,bB]
    refine nY (by kernel_rfl) ?_ _;clear a2 O;go_wp2_with fail;have hg:=HG.out
    go_roundg (l.length-(k+1))
    case measure=>omega
    case rel=>exact⟨k+1,d+D,A,by omega,rfl,by go_num,⟨a5.1,by push_cast;exact a5.2⟩,by omega,b4,b2,a1.drew⟩
  ·have t1:decide ((k:Int)<(l.length:Int))=false:=aE (by omega);obtain rfl:R=true:=by
    rw[HR.out];refine aG (HI.out.2 ?_);rw[sB (by omega)]
    trivial
   go_wp2_with fail;go_ret;exact⟨rfl,Y⟩
end Go.Proofs.YtfplbbphficcjaaGreatDoor
