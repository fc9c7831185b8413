/-
  Texts put together (part 38): the walks and the plain laws on which the statement stands.
-/
import Derived.Test.YtfplbbphficcjaaGreatDoorZ34
import Derived.Test.YtfplbbphficcjaaGreatDoorZ35
set_option maxRecDepth 100000
set_option maxHeartbeats 12800000
set_option linter.unusedVariables false
set_option linter.unusedSimpArgs false
open Go.Proofs.Tryz
open Go.Proofs.Tryz renaming prog->pG
open Decidable renaming not_not->eB
open Go renaming below_drewN->uD
open Go.RowKit.Below renaming refl->aH
open Int renaming toNat_of_nonneg->rI
open List renaming getElem?_eq_getElem->aN,length_singleton->fQ,take_add_one->cG,take_of_length_le->cD
open Nat renaming zero_le->aO
open Option.some renaming inj->cC
namespace Go.Proofs.YtfplbbphficcjaaGreatDoor
open Go.RowKit Go Go.Shelf
theorem aKu (x y:Ent) (w:World):(Op.equalIn 10000 47 (.agg #[.int .i64 x.a,.int .i64 x.r,.int .i64 x.f,.int .i64 x.n,.int .u32 x.y]) (.agg #[.int .i64 y.a,.int .i64 y.r,.int .i64 y.f,.int .i64 y.n,.int .u32 y.y])).run pG w=.ok (decide (x=y)) w:=by
 obtain⟨a,r,f,n,c⟩:=x;obtain⟨d,e,h,A,D⟩:=y;have O:=underlying3;have T:=Tryz.isAgg3;have U:=Tryz.sizeOf3;have V:=underlying38;have Y:=Tryz.isAgg38;have Z:=Tryz.sizeOf38;have F:pG.underlying 47=some (.struct (pG.fieldsOf 47)):=by kernel_rfl
 have G:pG.stoodInHeld 47=false:=by kernel_rfl
 rw[show(10000:Nat)=9999+1 from rfl,run_equalIn_agg w 9999 _ _ _ F G];simp only[Program.fieldsOf,underlying47];go_simp
 by_cases H:a=d<;>by_cases I:r=e<;>by_cases J:f=h<;>by_cases L:n=A<;>by_cases M:c=D<;>simp[H,I,J,L,M]
theorem bFe (u v:Value) (l m:List Ent) (w:World) (Z:RdR w u (l.map bG)) (hv:RdR w v (m.map bG)) (hl:l.length<=1000000) (hm:m.length<=1000000):
  Calls pG 38 #[u,v] w fun e w'=>e=.returned (.bool (decide (l=m)))/\Below w.heap.size w w':=by
 obtain⟨a,ca,rfl,a4,a5,L⟩:=nS Z;obtain⟨b,cb,rfl,b0,a6,hB⟩:=nS hv;unfold maxLen at a5 a6;obtain⟨R,M⟩:∃R:Bool,R=decide (l=m):=⟨_,rfl⟩;rw[<-M];have O:=hid M;clear M Z hv
 by_cases J:l.length=m.length
 rotate_left
 ·obtain rfl:R=false:=by rw[O.out];exact aE (fun h=>J (by rw[h]))
  have t1:((l.length:Int) != (m.length:Int))=true:=bne_iff_ne.2 (by omega);go_enter func38,ntmps38;go_wp2_with fail;go_ret;exact⟨rfl,aH _ _⟩
 have t0:((m.length:Int) != (m.length:Int))=false:=by simp
 rw[J] at L a4 hl ⊢;have HL:=hid J;clear J;go_enter func38,ntmps38;go_wp2_with fail;clear t0
 go_loopg [5,13] m.length (fun g _s5 a7 wr=>∃k:Nat,k<=m.length/\g=m.length-k/\a7=.int .i64 (k:Int)/\Hid (l.take k=m.take k)/\Below w.heap.size w wr)
 case atStart=>exact⟨0,aO _,rfl,rfl,hid rfl,aH _ _⟩
 case round=>
  obtain⟨k,hk,T,rfl,HT,d⟩:=hrel;have HG:=hid T;clear T
  by_cases a0:k<m.length
  ·have t1:decide ((k:Int)<(m.length:Int))=true:=aG (by omega);obtain⟨A,D,rfl,F,a1⟩:=L (by omega);obtain⟨G,H,rfl,I,a2⟩:=hB (by omega);have a8:k<l.length:=by rw[HL.out];exact a0
   obtain⟨x,U⟩:∃x,l[k]? =some x:=⟨_,aN a8⟩;obtain⟨y,V⟩:∃y,m[k]? =some y:=⟨_,aN a0⟩;obtain⟨x0,x1,x2,x3,x4⟩:=a1 k x U;obtain⟨y0,y1,y2,y3,y4⟩:=a2 k y V;have c0:=(d.cell (p:=⟨A,D+k*5,none⟩) F).trans x0;have c1:=(d.cell (p:=⟨A,D+k*5+1,none⟩) F).trans x1;have c2:=(d.cell (p:=⟨A,D+k*5+2,none⟩) F).trans x2;have c3:=(d.cell (p:=⟨A,D+k*5+3,none⟩) F).trans x3;have c4:=(d.cell (p:=⟨A,D+k*5+4,none⟩) F).trans x4;have d0:=(d.cell (p:=⟨G,H+k*5,none⟩) I).trans y0;have d1:=(d.cell (p:=⟨G,H+k*5+1,none⟩) I).trans y1;have d2:=(d.cell (p:=⟨G,H+k*5+2,none⟩) I).trans y2
   have d3:=(d.cell (p:=⟨G,H+k*5+3,none⟩) I).trans y3;have d4:=(d.cell (p:=⟨G,H+k*5+4,none⟩) I).trans y4;have hq:=fun W=>aKu x y W
   obtain⟨B,Y⟩:∃B:Bool,B=decide (x=y):=⟨_,rfl⟩;rw[<-Y] at hq;have a3:=hid Y;have HX:=hid U;have HY:=hid V;obtain⟨xa,xr,xf,xn,xy⟩:=x;obtain⟨ya,yr,yf,yn,yy⟩:=y;dsimp only at c0 c1 c2 c3 c4 d0 d1 d2 d3 d4 hq;clear x0 x1 x2 x3 x4 y0 y1 y2 y3 y4 a1 a2 U V L hB Y
   cases B with
   |true=>
    have a9:=hid (show l.take (k+1)=m.take (k+1) by
     have e:=of_decide_eq_true a3.out.symm;rw[cG,cG,HT.out,HX.out,HY.out,e])
    go_wp2_with fail
    go_quiet (fail)
    go_wp2_with fail;have T:=HG.out
    go_roundg (m.length-(k+1))
    case measure=>omega
    case rel=>exact⟨k+1,by omega,rfl,by go_num,a9,uD d _⟩
   |false=>
    obtain rfl:R=false:=by
     rw[O.out];refine aE (fun h=>of_decide_eq_false a3.out.symm ?_);have h1:=HX.out;rw[h,HY.out] at h1;exact(cC h1).symm
    go_wp2_with fail
    go_quiet (fail)
    go_wp2_with fail;go_ret;exact⟨rfl,uD d _⟩
  ·have t1:decide ((k:Int)<(m.length:Int))=false:=aE (by omega);obtain rfl:R=true:=by
    rw[O.out];refine aG ?_;have h:=HT.out;rwa[cD (by rw[HL.out];omega),cD (by omega)] at h
   go_wp2_with fail;go_ret;exact⟨rfl,d⟩
theorem bHc (a s:ByteArray) (w:World) (hE:dU w) (hs:s.size<=1000000) (ha:a.size<=120000):
  Calls pG 17 #[.string a,.string s] w fun e w'=>∃v,e=.returned (.tuple #[v,.int .i64 (vF a.data.toList s.data.toList)])/\RdR w' v ((if vF a.data.toList s.data.toList=0 then gU 0 (eY a.data.toList) else[]).map bG)/\Below w.heap.size w w':=by
 obtain⟨X,I⟩:∃X,X=vF a.data.toList s.data.toList:=⟨_,rfl⟩;rw[<-I]
 by_cases d:(dX s.data.toList).2.2.2≠0
 ·have e:X=(dX s.data.toList).2.2.2:=by rw[I];unfold vF;rw[aB d]
  refine(WC a s w hs d).mono ?_;rintro e' w' ⟨rfl,hb⟩;exact⟨_,by rw[e],by rw[aA (by rw[e];exact d)];exact RdR.nil _,hb⟩
 have d:=eB.1 d;have J:=GM s w hs;have T:=fun W=>zQ a W (by omega)
 have U:=fun W h=>GK a W h ha
 have a3:(gU 0 (eY a.data.toList)).length<=1000000:=by
  have:=GC a;rw[NK];omega
 have a4:a.data.toList.length=a.size:=rfl;obtain⟨C,V⟩:∃C,C=(cH a.data.toList).toNat:=⟨_,rfl⟩;obtain⟨⟨l,n,c,x⟩,H⟩:∃D,D=dX s.data.toList:=⟨_,rfl⟩;obtain⟨L,M⟩:∃L,L=gU 0 (eY a.data.toList):=⟨_,rfl⟩;obtain⟨E,Y⟩:∃E,E=(cI a.data.toList).2:=⟨_,rfl⟩;have a5:X=if n≠a.size\/c≠C then 7 else if E≠0 then E else if L≠l then 3 else 0:=by
  rw[I];unfold vF;rw[<-H,<-M,<-V,<-Y,a4];rw[<-H] at d;rw[aA (by show ¬x≠0;exact not_not_intro d)]
 rw[<-H] at J d;rw[<-V] at T;rw[<-M,<-Y] at U;rw[<-M] at a3 ⊢;dsimp only at J d;subst d;have O:=hid a5;have a6:=hid H;clear I a5 a4 V H M Y;go_enter func17,ntmps17;go_wp2_with fail;refine J.mono ?_;rintro e w1 ⟨v,er,rfl,hr,b3,d⟩;rcases b3 with⟨rfl,-⟩|⟨p,-,b6⟩
 rotate_left
 ·omega
 have a7:=hE.below d;have n3:∀w,(binOp .eql 68 .nilIface .nilIface).run pG w=.ok (.bool true) w:=fun w=>by kernel_rfl
 have n4:∀w,(binOp .neq 68 .nilIface .nilIface).run pG w=.ok (.bool false) w:=fun w=>by kernel_rfl
 have n5:∀w,(binOp .neq 68 (.iface 77 (.agg #[.string ⟨#[97,114,99,104,105,118,101]⟩,.iface 75 (.int .i64 7)])) .nilIface).run pG w=.ok (.bool true) w:=fun w=>by kernel_rfl
 clear J hE
 by_cases A:n=a.size
 rotate_left
 ·obtain rfl:X=7:=by rw[O.out,aB (.inl A)]
  have t1:((n:Int)==(a.size:Int))=false:=beq_eq_false_iff_ne.2 (by omega);have a8:(n==a.size)=false:=beq_eq_false_iff_ne.2 A;go_wp2_with fail;refine(GN _ 7 _ (.inr (.inr rfl))).mono ?_;rintro e w2 ⟨rfl,A⟩;go_wp2_with fail
  go_ret2
  exact⟨_,rfl,RdR.nil _,aW d A⟩
 subst A;go_wp2_with fail;refine(T _).mono ?_;rintro e w2 ⟨rfl,A⟩;have a9:=a7.below A;have b0:=hr.below A;have Z:=aW d A;clear T a7 hr d A
 by_cases F:c=C
 rotate_left
 ·obtain rfl:X=7:=by rw[O.out,aB (.inr F)]
  have t1:((c:Int)==(C:Int))=false:=beq_eq_false_iff_ne.2 (by omega);have a8:(c==C)=false:=beq_eq_false_iff_ne.2 F;go_wp2_with fail;refine(GN _ 7 _ (.inr (.inr rfl))).mono ?_;rintro e w3 ⟨rfl,F⟩;go_wp2_with fail
  go_ret2
  exact⟨_,rfl,RdR.nil _,aW Z F⟩
 subst F;have a0:=hid (show X=if E≠0 then E else if L≠l then 3 else 0 by rw[O.out,aA (by rintro(h|h)<;>exact h rfl)]);clear O;go_wp2_with fail;refine(U _ a9).mono ?_;rintro e w3 ⟨u,rfl,hu,F⟩;have b1:=b0.below F;have a1:=aW Z F;clear U a9 b0 Z F
 by_cases G:E=0
 rotate_left
 ·obtain rfl:X=E:=by rw[a0.out,aB G]
  have t1:(X==0)=false:=beq_eq_false_iff_ne.2 G;have a8:(X != 0)=true:=bne_iff_ne.2 G;go_wp2_with fail
  go_ret2
  exact⟨_,rfl,RdR.nil _,a1⟩
 subst G;have b4:l.length<=1000000:=by
  have e:=a6.out;have h5:=congrArg (fun D:List Ent×Nat×Nat×Int=>D.1.length) e;dsimp only at h5;rw[h5];exact bEe _ (by show s.size<=_;omega)
 have a2:=fun W d A=>bFe u v L l W d A a3 b4
 obtain⟨B,hB⟩:∃B:Bool,B=decide (L=l):=⟨_,rfl⟩;rw[<-hB] at a2;have HB:=hid hB;clear hB a6;go_wp2_with fail;refine(a2 _ hu b1).mono ?_;rintro e w4 ⟨rfl,G⟩;have b5:=hu.below G;have b2:=aW a1 G;clear a2 hu b1 a1 G
 cases B with
 |false=>
  obtain rfl:X=3:=by rw[a0.out,aA (by decide),aB (of_decide_eq_false HB.out.symm)]
  go_wp2_with fail
  go_ret2
  exact⟨_,rfl,RdR.nil _,b2⟩
 |true=>
  obtain rfl:X=0:=by rw[a0.out,aA (by decide),aA (fun k=>k (of_decide_eq_true HB.out.symm))]
  go_wp2_with fail
  go_ret2
  exact⟨_,rfl,b5,b2⟩
def GQ (a:ByteArray):Prop:=∃L,a=aZ L/\L≠[]/\okA L/\(nQ L).length<=5/\L.length<=2
theorem bFi (n m:Nat) (x:List ByteArray) (k:Nat):nQ [(n,x.take k),(m,x.drop k)]=x:=by simp[nQ]
theorem bFj {n m:Nat} {x:List ByteArray} {k:Nat} (d:x.length<=5) (e:okA [(n,x.take k)]) (h:okA [(m,x.drop k)]):GQ (aZ [(n,x.take k)]++aZ [(m,x.drop k)]):=
 ⟨[(n,x.take k)]++[(m,x.drop k)],AG _ _,by simp,NE e h,by rw[show[(n,x.take k)]++[(m,x.drop k)]=[(n,x.take k),(m,x.drop k)] from rfl,bFi];exact d,by simp⟩
theorem bFk {n:Nat} {x:List ByteArray} {k:Nat} (e:x.length<=5) (d:okA [(n,x.take k)]):GQ (aZ [(n,x.take k)]):=
 ⟨[(n,x.take k)],rfl,by simp,d,by unfold nQ;simp;omega,by simp⟩
theorem GQ.facts {a:ByteArray} (h:GQ a):a.size<=18000/\(cI a.data.toList).2=0/\(cI a.data.toList).1.length<=5:=by
 obtain⟨L,rfl,F,e,G,H⟩:=h;have I:=wQ e;obtain⟨d,A⟩:=GD F e;unfold eY at d;rw[aB A] at d;have D:=congrArg List.length (SP L 0);rw[List.length_map] at D;refine⟨by omega,A,?_⟩;rw[d,D];exact G
theorem bHi (u v:Value) (l m:List Ent) (w:World) (Z:RdR w u (l.map bG)) (hv:RdR w v (m.map bG)) (hl:l.length<=1000000) (hm:m.length<=1000000):
  Calls pG 16 #[u,v] w fun e w'=>e=.returned (.bool (decide (l=m)))/\Below w.heap.size w w':=by
 obtain⟨a,ca,rfl,a4,a5,L⟩:=nS Z;obtain⟨b,cb,rfl,a9,a6,hB⟩:=nS hv;unfold maxLen at a5 a6;obtain⟨R,M⟩:∃R:Bool,R=decide (l=m):=⟨_,rfl⟩;rw[<-M];have O:=hid M;clear M Z hv
 by_cases J:l.length=m.length
 rotate_left
 ·obtain rfl:R=false:=by rw[O.out];exact aE (fun h=>J (by rw[h]))
  have t1:((l.length:Int) != (m.length:Int))=true:=bne_iff_ne.2 (by omega);go_enter func16,ntmps16;go_wp2_with fail;go_ret;exact⟨rfl,aH _ _⟩
 have t0:((m.length:Int) != (m.length:Int))=false:=by simp
 rw[J] at L a4 hl ⊢;have HL:=hid J;clear J;go_enter func16,ntmps16;go_wp2_with fail;clear t0
 go_loopg [5] m.length (fun g s5 wr=>∃k:Nat,k<=m.length/\g=m.length-k/\s5=.int .i64 (k:Int)/\Hid (l.take k=m.take k)/\Below w.heap.size w wr)
 case atStart=>exact⟨0,aO _,rfl,rfl,hid rfl,aH _ _⟩
 case round=>
  obtain⟨k,hk,T,rfl,HT,d⟩:=hrel;have HG:=hid T;clear T
  by_cases a0:k<m.length
  ·have t1:decide ((k:Int)<(m.length:Int))=true:=aG (by omega);obtain⟨A,D,rfl,F,a1⟩:=L (by omega);obtain⟨G,H,rfl,I,a2⟩:=hB (by omega);have a7:k<l.length:=by rw[HL.out];exact a0
   obtain⟨x,U⟩:∃x,l[k]? =some x:=⟨_,aN a7⟩;obtain⟨y,V⟩:∃y,m[k]? =some y:=⟨_,aN a0⟩;obtain⟨x0,x1,x2,x3,x4⟩:=a1 k x U;obtain⟨y0,y1,y2,y3,y4⟩:=a2 k y V;have c0:=(d.cell (p:=⟨A,D+k*5,none⟩) F).trans x0;have c1:=(d.cell (p:=⟨A,D+k*5+1,none⟩) F).trans x1;have c2:=(d.cell (p:=⟨A,D+k*5+2,none⟩) F).trans x2;have c3:=(d.cell (p:=⟨A,D+k*5+3,none⟩) F).trans x3;have c4:=(d.cell (p:=⟨A,D+k*5+4,none⟩) F).trans x4;have d0:=(d.cell (p:=⟨G,H+k*5,none⟩) I).trans y0;have d1:=(d.cell (p:=⟨G,H+k*5+1,none⟩) I).trans y1;have d2:=(d.cell (p:=⟨G,H+k*5+2,none⟩) I).trans y2
   have d3:=(d.cell (p:=⟨G,H+k*5+3,none⟩) I).trans y3;have d4:=(d.cell (p:=⟨G,H+k*5+4,none⟩) I).trans y4;have hq:=fun W=>aKu x y W
   obtain⟨B,Y⟩:∃B:Bool,B=decide (x=y):=⟨_,rfl⟩;rw[<-Y] at hq;have a3:=hid Y;have HX:=hid U;have HY:=hid V;obtain⟨xa,xr,xf,xn,xy⟩:=x;obtain⟨ya,yr,yf,yn,yy⟩:=y;dsimp only at c0 c1 c2 c3 c4 d0 d1 d2 d3 d4 hq;clear x0 x1 x2 x3 x4 y0 y1 y2 y3 y4 a1 a2 U V L hB Y
   cases B with
   |true=>
    have a8:=hid (show l.take (k+1)=m.take (k+1) by
     have e:=of_decide_eq_true a3.out.symm;rw[cG,cG,HT.out,HX.out,HY.out,e])
    go_wp2_with fail
    go_quiet (fail)
    go_wp2_with fail;have T:=HG.out
    go_roundg (m.length-(k+1))
    case measure=>omega
    case rel=>exact⟨k+1,by omega,rfl,by go_num,a8,uD d _⟩
   |false=>
    obtain rfl:R=false:=by
     rw[O.out];refine aE (fun h=>of_decide_eq_false a3.out.symm ?_);have h1:=HX.out;rw[h,HY.out] at h1;exact(cC h1).symm
    go_wp2_with fail
    go_quiet (fail)
    go_wp2_with fail;go_ret;exact⟨rfl,uD d _⟩
  ·have t1:decide ((k:Int)<(m.length:Int))=false:=aE (by omega);obtain rfl:R=true:=by
    rw[O.out];refine aG ?_;have h:=HT.out;rwa[cD (by rw[HL.out];omega),cD (by omega)] at h
   go_wp2_with fail;go_ret;exact⟨rfl,d⟩
theorem bHj (s:ByteArray) (v:Value) (a5:List (Int×Int)) (M J:Int) (w:World) (hr:RdP w v a5) (b6:WfP a5) (b7: -9223372036854775808<=M) (b8:M<=9223372036854775807) (b9: -9223372036854775808<=J) (c0:J<=9223372036854775807):
  Calls pG 5 #[.string s,v,.int .i64 M,.int .i64 J] w fun e w'=>∃a,e=.returned (.string a)/\GQ a/\Below w.heap.size w w':=by
 obtain⟨qa,G,d6,d7,ma,c1,a1⟩:=aKw M b7 b8;obtain⟨D,hD⟩:∃D,D=M.tdiv 9:=⟨_,rfl⟩;have T:=WD M 9 (by decide) b7 b8;rw[show((9:Nat):Int)=9 from rfl,<-hD] at T;have c2: -9223372036854775808<=D/\D<=9223372036854775807:=⟨T.1,T.2.1⟩;have mD:=T.2.2;clear T;obtain⟨qb,H,d8,d9,mb,e4,c3⟩:=aKw D c2.1 c2.2;have e5:=hD.symm;clear hD;obtain⟨C,hC⟩:∃C,C=J.tdiv 3:=⟨_,rfl⟩;have U:=WD J 3 (by decide) b9 c0;rw[show((3:Nat):Int)=3 from rfl,<-hC] at U;have c4: -9223372036854775808<=C/\C<=9223372036854775807:=⟨U.1,U.2.1⟩;have mC:=U.2.2;clear U;have e6:=hC.symm;clear hC
 obtain⟨g1,g2⟩:=lN J 3 (by decide);have a2:=fun W=>VE J 3 W b9 c0 (by decide) (by decide)
 obtain⟨r,c5⟩:∃r:Nat,cK J 3=(r:Int):=⟨_,(rI g1).symm⟩;rw[c5] at a2 g2;clear c5 g1;go_enter func5,ntmps5;go_wp2_with fail;refine(bDh s v a5 _ hr b6).mono ?_;rintro e d ⟨u,x,rfl,hx,c6,a6,a7⟩;clear hr b6;obtain⟨p1,p2⟩:=lN C ((x.length:Int)+1) (by omega);have a8:=fun W=>VE C ((x.length:Int)+1) W c4.1 c4.2 (by omega) (by omega)
 obtain⟨k0,hk⟩:∃k:Nat,cK C ((x.length:Int)+1)=(k:Int):=⟨_,(rI p1).symm⟩;rw[hk] at p1 p2 a8;obtain⟨k,V⟩:∃k,k=if r=0 then k0 else x.length:=⟨_,rfl⟩;have c7:k<=x.length:=by rw[V];split<;>omega
 have e7:k0<=x.length:=by omega
 clear hk p1 p2;obtain⟨v1,e8,c8⟩:=bFf hx k c7;obtain⟨v2,e9,c9⟩:=bFg hx k c7;obtain⟨xa,xc,rfl,f0,e0,-⟩:=hx.open;unfold maxLen at e0;have z1:(x.take k).length<=5:=by rw[List.length_take];omega
 have z2:(x.drop k).length<=5:=by rw[List.length_drop];omega
 have f1:vC (x.take k):=fun t ht=>a6 t (List.mem_of_mem_take ht)
 have f2:vC (x.drop k):=fun t ht=>a6 t (List.mem_of_mem_drop ht)
 have Y:∀W,(Below d.heap.size d W/\d.heap.size<=W.heap.size)->Calls pG 21 #[.int .i64 (G:Int),v1] W fun e w'=>e=.returned (.tuple #[.string (aZ [(G,x.take k)]),.int .i64 0])/\Hid (okA [(G,x.take k)])/\Below W.heap.size W w':=fun W h=>
  (aJs G v1 _ W (c8.below h.1) z1 f1 d6 d7).mono fun e w' k=>⟨k.1,hid k.2.1,k.2.2⟩
 have a9:∀W,(Below d.heap.size d W/\d.heap.size<=W.heap.size)->Calls pG 21 #[.int .i64 (H:Int),v2] W fun e w'=>e=.returned (.tuple #[.string (aZ [(H,x.drop k)]),.int .i64 0])/\Hid (okA [(H,x.drop k)])/\Below W.heap.size W w':=fun W h=>
  (aJs H v2 _ W (c9.below h.1) z2 f2 d8 d9).mono fun e w' k=>⟨k.1,hid k.2.1,k.2.2⟩
 have b0:=hid (fun(I:okA [(G,x.take k)]) (ob:okA [(H,x.drop k)])=>bFj c6 I ob);have d0:=hid (fun(I:okA [(G,x.take k)])=>bFk c6 I);have b1:=hid (show okA [(G,x.take k)]->(aZ [(G,x.take k)]).size<=18000 from fun o=>by
  have h:=wQ o;have ea:(nQ [(G,x.take k)]).length=(x.take k).length:=by unfold nQ;simp
  rw[ea,fQ] at h;omega)
 have b2:=hid (show okA [(H,x.drop k)]->(aZ [(H,x.drop k)]).size<=18000 from fun o=>by
  have h:=wQ o;have ea:(nQ [(H,x.drop k)]).length=(x.drop k).length:=by unfold nQ;simp
  rw[ea,fQ] at h;omega)
 obtain⟨OA,Z⟩:∃OA:Prop,OA=okA [(G,x.take k)]:=⟨_,rfl⟩;obtain⟨OB,a3⟩:∃OB:Prop,OB=okA [(H,x.drop k)]:=⟨_,rfl⟩;obtain⟨A,hA⟩:∃A,A=aZ [(G,x.take k)]:=⟨_,rfl⟩;obtain⟨L,hB⟩:∃L,L=aZ [(H,x.drop k)]:=⟨_,rfl⟩;rw[<-Z,<-hA] at Y;rw[<-a3,<-hB] at a9;rw[<-Z,<-a3,<-hA,<-hB] at b0;rw[<-Z,<-hA] at d0;rw[<-Z,<-hA] at b1;rw[<-a3,<-hB] at b2;clear Z a3 hA hB z1 z2 f1 f2 hx c8 c9 a6;have d1:Below d.heap.size d d.drew/\d.heap.size<=d.drew.heap.size:=⟨(aH d.heap.size d).drew,Nat.le_refl _⟩;go_wp2_with fail;refine(a8 _).mono ?_;rintro e w' ⟨rfl,rfl⟩;clear a8;go_wp2_with fail;refine(a2 _).mono ?_
 rintro e w' ⟨rfl,rfl⟩;have d2:=lE G (by omega);have f3:=lE H (by omega)
 by_cases h0:r=0
 ·obtain rfl:k=k0:=by rw[V,aB h0]
  have tr:decide ((r:Int)>0)=false:=aE (by omega);have e1:decide (0<(r:Int))=false:=aE (by omega);have e2:decide (0<r)=false:=aE (by omega);have d3:decide ((r:Int)>1)=false:=aE (by omega);have d4:decide (1<(r:Int))=false:=aE (by omega);have d5:decide (1<r)=false:=aE (by omega);clear V h0;go_wp2_with fail
  go_cut [11] (fun b3 F=>b3=.string A/\Hid OA/\Below d.heap.size d F/\d.heap.size<=F.heap.size)
  case first=>
   go_region_held3 (fun F=>Below d.heap.size d F/\d.heap.size<=F.heap.size)
    (first
     |with_reducible assumption
     |with_reducible exact kpT (by assumption) (by assumption))
    (first
     |(go_at_call 20;with_reducible refine(a1 _).mono ?_;rintro e w' ⟨rfl,rfl⟩)
     |(go_at_call 21;with_reducible refine(Y _ (by assumption)).mono ?_;rintro e w4 ⟨rfl,I,h4⟩))
   all_goals
    go_wp2_with fail;go_meet;exact⟨rfl,I,by assumption⟩
  case rest=>
  obtain⟨rfl,O,a4⟩:=hcut;have e3:=kpT a4 (aH wc.heap.size wc).drew;clear d1 Y a1 ma c1 d2;go_wp2_with fail;refine(a2 _).mono ?_;rintro e w' ⟨rfl,rfl⟩;go_wp2_with fail
  go_cut [13] (fun b4 F=>b4=.string L/\Hid OB/\Below d.heap.size d F/\d.heap.size<=F.heap.size)
  case first=>
   go_region_held3 (fun F=>Below d.heap.size d F/\d.heap.size<=F.heap.size)
    (first
     |with_reducible assumption
     |with_reducible exact kpT (by assumption) (by assumption))
    (first
     |(go_at_call 20;with_reducible refine(c3 _).mono ?_;rintro e w' ⟨rfl,rfl⟩)
     |(go_at_call 21;with_reducible refine(a9 _ (by assumption)).mono ?_;rintro e w4 ⟨rfl,I,h4⟩))
   all_goals
    go_wp2_with fail;go_meet;exact⟨rfl,I,by assumption⟩
  case rest=>
  obtain⟨rfl,a0,b5⟩:=hcut;have q1:=b1.out O.out;have q2:=b2.out a0.out;have q3:¬9223372036854775807<A.size+L.size:=by omega
  go_wp2_with fail;go_ret;exact⟨A++L,rfl,b0.out O.out a0.out,aW a7 b5.1⟩
 ·obtain rfl:k=x.length:=by rw[V,aA h0]
  have tr:decide ((r:Int)>0)=true:=aG (by omega);have e1:decide (0<(r:Int))=true:=aG (by omega);have e2:decide (0<r)=true:=aG (by omega);clear V;go_wp2_with fail
  go_cut [11] (fun b3 F=>b3=.string A/\Hid OA/\Below d.heap.size d F/\d.heap.size<=F.heap.size)
  case first=>
   go_region_held3 (fun F=>Below d.heap.size d F/\d.heap.size<=F.heap.size)
    (first
     |with_reducible assumption
     |with_reducible exact kpT (by assumption) (by assumption))
    (first
     |(go_at_call 20;with_reducible refine(a1 _).mono ?_;rintro e w' ⟨rfl,rfl⟩)
     |(go_at_call 21;with_reducible refine(Y _ (by assumption)).mono ?_;rintro e w4 ⟨rfl,I,h4⟩))
   all_goals
    go_wp2_with fail;go_meet;exact⟨rfl,I,by assumption⟩
  case rest=>
  obtain⟨rfl,O,a4⟩:=hcut;have e3:=kpT a4 (aH wc.heap.size wc).drew;clear d1 Y a1 ma c1 d2;go_wp2_with fail;refine(a2 _).mono ?_;rintro e w' ⟨rfl,rfl⟩
  by_cases h2:r=2
  ·have d3:decide ((r:Int)>1)=true:=aG (by omega);have d4:decide (1<(r:Int))=true:=aG (by omega);have d5:decide (1<r)=true:=aG (by omega);go_wp2_with fail;go_ret;exact⟨A,rfl,d0.out O.out,aW a7 a4.1⟩
  ·have d3:decide ((r:Int)>1)=false:=aE (by omega);have d4:decide (1<(r:Int))=false:=aE (by omega);have d5:decide (1<r)=false:=aE (by omega);go_wp2_with fail
   go_cut [13] (fun b4 F=>b4=.string L/\Hid OB/\Below d.heap.size d F/\d.heap.size<=F.heap.size)
   case first=>
    go_region_held3 (fun F=>Below d.heap.size d F/\d.heap.size<=F.heap.size)
     (first
      |with_reducible assumption
      |with_reducible exact kpT (by assumption) (by assumption))
     (first
      |(go_at_call 20;with_reducible refine(c3 _).mono ?_;rintro e w' ⟨rfl,rfl⟩)
      |(go_at_call 21;with_reducible refine(a9 _ (by assumption)).mono ?_;rintro e w4 ⟨rfl,I,h4⟩))
    all_goals
     go_wp2_with fail;go_meet;exact⟨rfl,I,by assumption⟩
   case rest=>
   obtain⟨rfl,a0,b5⟩:=hcut;have q1:=b1.out O.out;have q2:=b2.out a0.out;have q3:¬9223372036854775807<A.size+L.size:=by omega
   go_wp2_with fail;go_ret;exact⟨A++L,rfl,b0.out O.out a0.out,aW a7 b5.1⟩
end Go.Proofs.YtfplbbphficcjaaGreatDoor
