/-
  Texts put together (part 27): the walks and the plain laws on which the statement stands.
-/
import Derived.Test.YtfplbbphficcjaaGreatDoorZ23
import Derived.Test.YtfplbbphficcjaaGreatDoorZ24
import Derived.Test.YtfplbbphficcjaaGreatDoorZ25
set_option maxRecDepth 100000
set_option maxHeartbeats 12800000
set_option linter.unusedVariables false
set_option linter.unusedSimpArgs false
open Go.Proofs.Tryz
open Go.Proofs.Tryz renaming prog->pG
open Go.Calls renaming quiet_of_same->AY
open Go.IntKind renaming i64->aJ,u32->sH,wrap_i64->aM,wrap_u32->uB
open Int renaming ofNat_inj->XM
open List renaming flatMap_cons->yR,length_append->aL,length_drop->bA,take_add_one->cG,take_of_length_le->cD
open Nat renaming le_refl->aD
namespace Go.Proofs.YtfplbbphficcjaaGreatDoor
open Go.RowKit Go Go.Shelf
theorem aGp (d:Nat) (h:d<=9223372036854775807):wrap64 (d:Int)=(d:Int):=by grind [LR]
theorem aY6 (a:BitVec 32):(a.toNat:Int)/2147483648=((a>>>31).toNat:Int):=by
 rw[BitVec.toNat_ushiftRight,Nat.shiftRight_eq_div_pow];omega
theorem aY7 (a b:BitVec 32):bits .or .u32 (a.toNat:Int) (b.toNat:Int)=((a|||b).toNat:Int):=by
 rw[u32_or_nat _ _ a.isLt b.isLt,BitVec.toNat_or]
theorem aY8 (x b:BitVec 32) (w:World):
  Calls pG 137 #[.int .u32 (x.toNat:Int),.int .u32 (b.toNat:Int)] w fun e w'=>e=.returned (.int .u32 ((zM x b).toNat:Int))/\w'=w:=by
 have h:=SZ x;have A:=aY6 x;obtain⟨y,D⟩:∃y,y=x<<<1:=⟨_,rfl⟩;obtain⟨z,F⟩:∃z,z=x>>>31:=⟨_,rfl⟩;have T:=aY7 y z;obtain⟨q,G⟩:∃q,q=y|||z:=⟨_,rfl⟩;have U:=CG q b;obtain⟨r,H⟩:∃r,r=q^^^b:=⟨_,rfl⟩;have V:=hid (show((r.toNat:Nat):Int)=((zM x b).toNat:Int) by rw[H,G,D,F];rfl);rw[<-D] at h;rw[<-F] at A;rw[<-G] at T;rw[<-H] at U;clear D F G H;obtain⟨X,d⟩:∃X,X=x.toNat:=⟨_,rfl⟩;obtain⟨Y,I⟩:∃Y,Y=y.toNat:=⟨_,rfl⟩;obtain⟨Z,J⟩:∃Z,Z=z.toNat:=⟨_,rfl⟩;obtain⟨Q,L⟩:∃Q,Q=q.toNat:=⟨_,rfl⟩;obtain⟨B,M⟩:∃B,B=b.toNat:=⟨_,rfl⟩;obtain⟨R,O⟩:∃R,R=r.toNat:=⟨_,rfl⟩;rw[<-d,<-I] at h;rw[<-d,<-J] at A
 rw[<-I,<-J,<-L] at T;rw[<-L,<-M,<-O] at U;rw[<-O] at V;rw[<-d,<-M];have a0:(X:Int)*2%4294967296=(Y:Int):=by rw[<-h,uB]
 have a1:(X:Int)/2147483648=(Z:Int):=by omega
 clear A;clear d I J L M O;go_enter func137,ntmps137;go_wp2_with fail;go_ret;exact⟨eI V.out,rfl⟩
def uX (l:List (BitVec 32)):List Value:=l.map (fun b=>Value.int .u32 (b.toNat:Int))
def RdS (w:World) (v:Value) (l:List (BitVec 32)):Prop:=Rd w v l.length (uX l)
def OwS (w:World) (B:Nat) (v:Value) (l:List (BitVec 32)):Prop:=Ow w B 38 v (uX l)
theorem FO (l:List (BitVec 32)):(uX l).length=l.length:=List.length_map ..
theorem OwS.rd {w:World} {B:Nat} {v:Value} {l:List (BitVec 32)} (h:OwS w B v l):RdS w v l:=by grind [RdS,Ow.rd,FO,OwS]
theorem RdS.below {w w':World} {v:Value} {l:List (BitVec 32)} (h:RdS w v l) (d:Below w.heap.size w w'):RdS w' v l:=Rd.below h d
theorem RdS.open {w:World} {v:Value} {l:List (BitVec 32)} (h:RdS w v l):
  ∃a cap,v=.slice a l.length cap/\l.length<=cap/\cap<=maxLen/\
   (0<l.length->∃b off,a=some ⟨b,off,none⟩/\b<w.heap.size/\∀j x,l[j]? =some x->w.cell? ⟨b,off+j,none⟩=some (.int .u32 (x.toNat:Int))):=by
 obtain⟨a,cap,rfl,d,e,A⟩:=h
 grind [FO,uX,RdS]
theorem aGq {l:List (BitVec 32)} {k:Nat} {x:BitVec 32} (h:l[k]? =some x):iM (l.take (k+1))=zM (iM (l.take k)) x:=by grind [iM,cG,List.foldl,zM]
theorem aGr (v:Value) (l:List (BitVec 32)) (w:World) (H:RdS w v l):
  Calls pG 129 #[v] w fun e w'=>e=.returned (.int .u32 ((iM l).toNat:Int))/\w'=w:=by
 obtain⟨a,ca,rfl,a1,O,I⟩:=H.open;unfold maxLen at O;clear H;obtain⟨Z,d⟩:∃Z,Z=(iM (l.take 0)).toNat:=⟨_,rfl⟩;have J:(Z:Int)=0:=by rw[d];rfl
 go_enter func129,ntmps129;go_wp2_with fail
 go_loopg [2,4,7] l.length (fun g T _s4 U wr=>∃k X:Nat,k<=l.length/\g=l.length-k/\U=.int .i64 (k:Int)/\T=.int .u32 (X:Int)/\Hid (X=(iM (l.take k)).toNat)/\wr=w)
 case atStart=>exact⟨0,Z,Nat.zero_le _,rfl,rfl,by rw[J],hid d,rfl⟩
 case round=>
  obtain⟨k,X,hk,h,rfl,rfl,L,rfl⟩:=hrel;have V:=hid h;clear h J d
  by_cases a0:k<l.length
  ·have t1:decide ((k:Int)<(l.length:Int))=true:=aG (by omega);obtain⟨b,off,rfl,hb,M⟩:=I (by omega);obtain⟨x,A⟩:∃x,l[k]? =some x:=⟨_,List.getElem?_eq_getElem a0⟩;have c1:=M k x A;have D:=aY8 (iM (l.take k)) x wr;rw[<-aGq A,<-L.out] at D;obtain⟨Y,F⟩:∃Y,Y=(iM (l.take (k+1))).toNat:=⟨_,rfl⟩;obtain⟨x',G⟩:∃x',x'=x.toNat:=⟨_,rfl⟩;rw[<-F,<-G] at D;rw[<-G] at c1;have HY:=hid F;clear F G A M I;go_wp2_with fail;refine D.mono ?_;rintro e w2 ⟨rfl,rfl⟩;go_wp2_with fail;have h:=V.out
   go_roundg (l.length-(k+1))
   case measure=>omega
   case rel=>exact⟨k+1,Y,by omega,rfl,by go_num,rfl,HY,rfl⟩
  ·have t1:decide ((k:Int)<(l.length:Int))=false:=aE (by omega);have HF:=hid (show((X:Nat):Int)=((iM l).toNat:Int) by rw[L.out,cD (by omega)]);go_wp2_with fail;go_ret;exact⟨eI HF.out,rfl⟩
theorem aY9 (x:Nat) (e:49<=x) (h:x<=57):∃d q:Nat,IntKind.u8.wrap ((x:Int)-48)=(d:Int)/\(x:Int)-48=(d:Int)/\aJ.wrap (d:Int)=(d:Int)/\wrap64 (d:Int)=(d:Int)/\aJ.wrap (40*(d:Int))=(q:Int)/\40*(d:Int)=(q:Int)/\(q:Int)=40*((x:Int)-48):=
 ⟨x-48,40*(x-48),by rw[IntKind.wrap_u8];omega,by omega,by rw[aM];omega,aGp _ (by omega),by rw[aM];omega,by omega,by omega⟩
theorem aZa (s:ByteArray) (w:World) (d:4<=s.size):
  Calls pG 127 #[.string s,.string ⟨#[80,77,107]⟩] w fun e w'=>e=.returned (.bool ((s.extract 0 3).toList==[80,77,107]))/\w'=w:=by
 have h:decide ((s.size:Int)>=3)=true:=aG (by omega);have A:decide ((3:Int)<=(s.size:Int))=true:=aG (by omega);have D:(3:Int)<=(s.size:Int):=by omega
 go_enter func127,ntmps127;go_wp2_with fail;go_enter func136,ntmps136;go_wp2_with fail;go_ret;exact⟨rfl,rfl⟩
theorem aZb (s:ByteArray) (k:Nat) (w:World) (hk:k<=s.size) (hs:s.size<=1000000):
  Calls pG 118 #[.string s,.int .i64 (k:Int)] w fun e w'=>e=.returned (.tuple #[.int .i64 (fX s.data.toList k).1,.int .i64 (fX s.data.toList k).2])/\w'=w:=by
 have G:=hid (show s.data.toList.length=s.size by simp);obtain⟨T,I⟩:∃T,T=s.extract k s.size:=⟨_,rfl⟩;have F:T.data.toList=s.data.toList.drop k:=by
  rw[I,iW,dP,cD (by rw[bA,G.out];omega)]
 have a0:T.size=s.size-k:=by
  have:T.data.toList.length=T.size:=by simp
  rw[<-this,F,bA,G.out]
 have q1:(k:Int)<=(s.size:Int):=by omega
 have a1:s.extract k s.size=T:=I.symm;clear I
 by_cases h4:T.size<4
 ·have h:fX s.data.toList k=(0,2):=by unfold fX;rw[aB (by rw[G.out];omega)]
  have t1:decide ((T.size:Int)<4)=true:=aG (by omega);rw[h];clear h F;go_enter func118,ntmps118;go_wp2_with fail
  go_ret2
  exact⟨rfl,rfl⟩
 have t1:decide ((T.size:Int)<4)=false:=aE (by omega);have h3:3<T.size:=by omega
 have D:=fun W=>aZa T W (by omega)
 have J:=fW T 3 h3;have L:(s.data.toList.getD (k+3) 0).toNat=T[3].toNat:=by
  rw[F,List.getElem?_drop] at J;rw[List.getD_eq_getElem?_getD,J];rfl
 have M:(s.data.toList.drop k).take 3=(T.extract 0 3).toList:=by
  rw[Lib.toList_data,iW,dP,F,List.drop_zero]
 have h:fX s.data.toList k=if(T.extract 0 3).toList≠[80,77,107]\/T[3].toNat<49\/57<T[3].toNat then((0:Int),(3:Int)) else((40:Int)*((T[3].toNat:Int)-48),(0:Int)):=by
  unfold fX;rw[aA (by rw[G.out];omega),L,M]
 have a2:=T[3].toNat_lt;clear F J L M
 by_cases A:(T.extract 0 3).toList=[80,77,107]
 rotate_left
 ·have O:((T.extract 0 3).toList==[80,77,107])=false:=by rw[cB];exact A
  rw[aB (.inl A)] at h;rw[h];rw[O] at D;clear h A O;go_enter func118,ntmps118;go_wp2_with fail;refine(D _).mono ?_;rintro e w' ⟨rfl,rfl⟩;go_wp2_with fail
  go_ret2
  exact⟨rfl,rfl⟩
 have H:((T.extract 0 3).toList==[80,77,107])=true:=by rw[beq_iff_eq];exact A
 rw[H] at D
 by_cases U:T[3].toNat<49
 ·have u1:decide ((T[3].toNat:Int)<49)=true:=aG (by omega);rw[aB (.inr (.inl U))] at h;rw[h];clear h A H;go_enter func118,ntmps118;go_wp2_with fail;refine(D _).mono ?_;rintro e w' ⟨rfl,rfl⟩;go_wp2_with fail
  go_ret2
  exact⟨rfl,rfl⟩
 have u1:decide ((T[3].toNat:Int)<49)=false:=aE (by omega)
 by_cases V:57<T[3].toNat
 ·have u2:decide ((T[3].toNat:Int)>57)=true:=aG (by omega);have u3:decide (57<(T[3].toNat:Int))=true:=aG (by omega);rw[aB (.inr (.inr V))] at h;rw[h];clear h A H;go_enter func118,ntmps118;go_wp2_with fail;refine(D _).mono ?_;rintro e w' ⟨rfl,rfl⟩;go_wp2_with fail
  go_ret2
  exact⟨rfl,rfl⟩
 have u2:decide ((T[3].toNat:Int)>57)=false:=aE (by omega);have u3:decide (57<(T[3].toNat:Int))=false:=aE (by omega);rw[aA (by rintro(q|q|q)<;>first|exact q A|omega)] at h;obtain⟨d,q,m1,m2,m3,a3,m4,m5,Y⟩:=aY9 T[3].toNat (by omega) (by omega);have Z:=hid (show((q:Nat):Int)=(fX s.data.toList k).1/\(0:Int)=(fX s.data.toList k).2 by rw[h];exact⟨Y,rfl⟩);rw[<-Z.out.1,<-Z.out.2];clear h A H U V Y;go_enter func118,ntmps118;go_wp2_with fail;refine(D _).mono ?_;rintro e w' ⟨rfl,rfl⟩;go_wp2_with fail
 go_ret2
 exact⟨rfl,rfl⟩
def SRd (w:World) (b:Nat) (s:ByteArray) (a:Int) (v:Value):Prop:=Arr w b 186 [.string s,.int .i64 a,v]
theorem Ow.box {w w':World} {B b e:Nat} {v:Value} {d:List Value} (h:Ow w B e v d) (A:w.grownBy w' (some b)) (F:b<B):Ow w' B e v d:=
 h.kept A (by
  cases D:v.ownBlock with
  |none=>exact .inl rfl
  |some k=>exact .inr (fun q=>by injection q with q;have:=(h.lt k D).1;omega))
theorem lE (d:Nat) (h:d<=9223372036854775807):aJ.wrap (d:Int)=(d:Int):=by rw[aM];omega
theorem aGs (V:Nat) (h:V<4294967296):sH.wrap (V:Int)=(V:Int):=by rw[uB];omega
theorem aZc (V:Nat) (h:V<4294967296):(V:Int)%4294967296=(V:Int):=by omega
theorem aZd (a:Nat) (L:a<=90000000):∃A e q d F:Nat,A=a+80/\jP ((a:Int)+80).toNat=d/\d<=7/\F=A+d/\(A:Int)+(jP (A:Int).toNat:Int)=(F:Int)/\aJ.wrap ((a:Int)+48)=(a:Int)+48/\aJ.wrap ((a:Int)+80)=(A:Int)/\(a:Int)+80=(A:Int)/\
  (A:Int).tmod 8=(e:Int)/\aJ.wrap (8-(e:Int))=(q:Int)/\8-(e:Int)=(q:Int)/\(q:Int).tmod 8=(d:Int)/\aJ.wrap ((A:Int)+(d:Int))=(F:Int)/\(A:Int)+(d:Int)=(F:Int)/\aJ.wrap (F:Int)=(F:Int)/\wrap64 (F:Int)=(F:Int):=by
 obtain⟨A,D⟩:∃A,A=a+80:=⟨_,rfl⟩;obtain⟨e,M⟩:∃e,e=A%8:=⟨_,rfl⟩;obtain⟨q,O⟩:∃q,q=8-e:=⟨_,rfl⟩;obtain⟨d,T⟩:∃d,d=q%8:=⟨_,rfl⟩;obtain⟨F,hF⟩:∃F,F=A+d:=⟨_,rfl⟩;have U:e<8:=by grind
 have V:d<8:=by grind
 have G:(a:Int)+80=(A:Int):=by omega
 have H:8-(e:Int)=(q:Int):=by omega
 have I:(A:Int)+(d:Int)=(F:Int):=by omega
 have h:F<=9223372036854775807:=by omega
 have Y:A<=9223372036854775807:=by omega
 have J:(a:Int)+48=((a+48:Nat):Int):=by push_cast;rfl
 have Z:jP A=d:=by grind [jP]
 have e6:((a:Int)+80).toNat=A:=by omega
 refine⟨A,e,q,d,F,D,by grind,by omega,hF,by grind,?_,?_,G,?_,?_,H,?_,?_,I,lE F h,aGp F h⟩
 ·rw[J];exact lE _ (by omega)
 ·grind [lE,jP]
 ·grind
 ·grind [lE,jP]
 ·grind
 ·grind [lE,jP]
theorem aZe (b B:Nat) (s:ByteArray) (a:Nat) (v:Value) (l:List (BitVec 32)) (w:World) (hA:SRd w b s (a:Int) v) (hr:OwS w B v l) (b0:b<B) (hs:s.size<=1000000) (ha:a<=90000000):
  Calls pG 120 #[.pointer (some ⟨b,0,none⟩)] w fun e w'=>
   e=.returned (.int .i64 (kS s.data.toList (a:Int) (iM l)).2)/\w.grownBy w' (some b)/\∃a':Int,SRd w' b s a' v/\((kS s.data.toList (a:Int) (iM l)).2=0->a'=(kS s.data.toList (a:Int) (iM l)).1):=by
 have HL:=hid (show s.data.toList.length=s.size by simp);obtain⟨A,r8,q,L,F,c6,b1,d0,hF,c7,b2⟩:=aZd a ha;have HR:=hid b2;clear b2;have a4:(a:Int)+80=(A:Int):=by omega
 have b3:(A:Int)+(L:Int)=(F:Int):=by omega
 have a5:=fun W=>uQ s ((a:Int)+48) 32 W hs (by decide) (by omega) (by omega)
 have a6:=fun W=>uQ s (A:Int) L W hs (by omega) (by omega) (by omega)
 have b4:jP (A:Int).toNat=L:=by rw[<-a4];exact b1
 have b5:(A:Int)+(L:Int)=(F:Int):=b3;have a7:=jV s.data.toList ((a:Int)+48) 32;have d:kS s.data.toList (a:Int) (iM l)=if aP s.size ((a:Int)+48) 32≠0 then(0,aP s.size ((a:Int)+48) 32) else if aK s.data.toList ((a:Int)+48) 32≠(iM l).toNat then(0,7) else if aK s.data.toList (A:Int) L≠0 then(0,3) else((F:Int),0):=by
  unfold kS;rw[HL.out,a4,b4,b5]
 have a8:=fun W (h:RdS W v l)=>aGr v l W h
 obtain⟨S,hS⟩:∃S,S=(iM l).toNat:=⟨_,rfl⟩;obtain⟨E,hE⟩:∃E,E=aP s.size ((a:Int)+48) 32:=⟨_,rfl⟩;obtain⟨V,hV⟩:∃V,V=aK s.data.toList ((a:Int)+48) 32:=⟨_,rfl⟩;obtain⟨E2,b6⟩:∃E2,E2=aP s.size (A:Int) L:=⟨_,rfl⟩;obtain⟨M,a9⟩:∃M,M=aK s.data.toList (A:Int) L:=⟨_,rfl⟩;rw[<-hE,<-hV] at a5;rw[<-b6,<-a9] at a6;rw[<-hS] at a8;rw[<-hE,<-hV,<-a9,<-hS] at d;rw[<-hV] at a7;have b7:V<4294967296:=a7;obtain⟨m1,m2,d2,m3,m4,d4,m5,m6,d5,-,-⟩:=HR.out;have m7:=aGs V b7;have d6:=aZc V b7;have G:=hid d;have c0:=Arr.cell hA (i:=0) rfl;have c1:=Arr.cell hA (i:=1) rfl;clear b4 b5 HR a4 b3
 clear d hS hE hV b6 a9 a7 b1 c6 hF c7 HL;go_enter func120,ntmps120;go_wp2_with fail
 go_quiet (first|(go_at_call 119;exact AY (a5 _)))
 generalize H:w.drewN nq=O at*
 have a0:SRd O b s (a:Int) v:=by rw[<-H];exact hA
 have b8:OwS O B v l:=by rw[<-H];exact hr
 have b9:w.grownBy O (some b):=by rw[<-H];exact⟨rfl,rfl,rfl,aD _,fun _ _ _=>rfl⟩
 have d1:=Arr.cell a0 (i:=1) rfl;have f1:=Arr.free a0 1;have a1:SRd (O.setCell ⟨b,1,none⟩ (.int .i64 (A:Int))) b s (A:Int) v:=Arr.set a0 1 _;have c2:OwS (O.setCell ⟨b,1,none⟩ (.int .i64 (A:Int))) B v l:=Ow.box b8 (gbS _ _ _ _) b0;have T:=gbT b9 (gbS O b 1 (.int .i64 (A:Int)));have e0:=Arr.cell a1 (i:=0) rfl;have e1:=Arr.cell a1 (i:=1) rfl;clear H hA hr c0 c1 a0 b8 b9;go_wp2_with fail;generalize O.setCell ⟨b,1,none⟩ (.int .i64 (A:Int))=W2 at*
 go_quiet (first|(go_at_call 119;exact AY (a6 _)))
 generalize H:W2.drewN nq=U at*
 have a2:SRd U b s (A:Int) v:=by rw[<-H];exact a1
 have c3:OwS U B v l:=by rw[<-H];exact c2
 have c4:w.grownBy U (some b):=by rw[<-H];exact⟨T.os,T.tape,T.output,T.size,T.block⟩
 have d3:=Arr.cell a2 (i:=1) rfl;have f3:=Arr.free a2 1;have Y:SRd (U.setCell ⟨b,1,none⟩ (.int .i64 (F:Int))) b s (F:Int) v:=Arr.set a2 1 _;have c8:OwS (U.setCell ⟨b,1,none⟩ (.int .i64 (F:Int))) B v l:=Ow.box c3 (gbS _ _ _ _) b0;have a3:=gbT c4 (gbS U b 1 (.int .i64 (F:Int)));have e2:=Arr.cell Y (i:=2) rfl;have c9:=c8.rd;have c5:=a8 _ c9;clear H a1 c2 T e0 e1 d1 f1 a2 c3 c4 a5 a6 a8
 by_cases Z:E=0
 rotate_left
 ·have t1:(E==0)=false:=by rw[cB];exact Z
  have t2:(E != 0)=true:=by rw[bne_iff_ne];exact Z
  have d:=G.out;rw[aB Z] at d;have D:=hid d;clear d G c5 Z;go_wp2_with fail;go_ret;exact⟨eI (by rw[D.out]),a3,_,Y,fun k=>absurd (by rw[D.out] at k;exact k) (by simpa using t2)⟩
 subst Z;have d:=G.out;rw[aA (fun k=>k rfl)] at d;have G:=hid d;clear d;go_wp2_with fail;refine c5.mono ?_;rintro e w' ⟨rfl,rfl⟩
 by_cases I:V=S
 rotate_left
 ·have t1:((V:Int) != (S:Int))=true:=by rw[bne_iff_ne];exact fun q=>I (XM.1 q)
  have t2:(V != S)=true:=by rw[bne_iff_ne];exact I
  have d:=G.out;rw[aB I] at d;have D:=hid d;clear d G I;go_wp2_with fail;go_ret;exact⟨eI (by rw[D.out]),a3,_,Y,fun k=>absurd (by rw[D.out] at k;exact k) (by decide)⟩
 have t1:((V:Int) != (S:Int))=false:=by rw[bne_eq_false_iff_eq,I]
 have t2:(V != S)=false:=by rw[bne_eq_false_iff_eq];exact I
 have d:=G.out;rw[aA (fun k=>k I)] at d
 by_cases J:M=0
 rotate_left
 ·have t3:((M:Int) != 0)=true:=by rw[bne_iff_ne];exact fun q=>J (XM.1 q)
  have t4:(M != 0)=true:=by rw[bne_iff_ne];exact J
  rw[aB J] at d;have D:=hid d;clear d G I J;go_wp2_with fail;go_ret;exact⟨eI (by rw[D.out]),a3,_,Y,fun k=>absurd (by rw[D.out] at k;exact k) (by decide)⟩
 have t3:((M:Int) != 0)=false:=by rw[bne_eq_false_iff_eq,J];rfl
 have t4:(M != 0)=false:=by rw[bne_eq_false_iff_eq];exact J
 rw[aA (fun k=>k J)] at d;have D:=hid d;clear d G I J;go_wp2_with fail;go_ret;exact⟨eI (by rw[D.out]),a3,_,Y,fun _=>by rw[D.out]⟩
def CP (a:Int) (D:ByteArray×Int×Int×Int):Value:=.agg #[.string D.1,.int .u32 D.2.1,.int .i64 (if D.2.2.2=0 then a else 0),.int .i64 D.2.2.1]
theorem bA5 (a:Int) (x:ByteArray) (y z E:Int) (h:E≠0):CP a (x,y,z,E)=.agg #[.string x,.int .u32 y,.int .i64 0,.int .i64 z]:=by unfold CP;rw[aA h]
theorem aH1 (a:Int) (x:ByteArray) (y z:Int):CP a (x,y,z,0)=.agg #[.string x,.int .u32 y,.int .i64 a,.int .i64 z]:=by simp[CP]
theorem aH2:(pG.info? 59).map (·.size)=some 4:=by kernel_rfl
theorem tA {w W:World} {z:Nat} {D F G H:Value} (I:Arr W z 59 [D,F,G,H]) (J:Below z w W) (d e h A:Value):
  Arr ((((W.setCell ⟨z,0,none⟩ d).setCell ⟨z,1,none⟩ e).setCell ⟨z,2,none⟩ h).setCell ⟨z,3,none⟩ A) z 59 [d,e,h,A]/\
  Below z w ((((W.setCell ⟨z,0,none⟩ d).setCell ⟨z,1,none⟩ e).setCell ⟨z,2,none⟩ h).setCell ⟨z,3,none⟩ A):=
 ⟨(((I.set 0 _).set 1 _).set 2 _).set 3 _,(((J.setCell (p:=⟨z,0,none⟩) (aD _) _).setCell (p:=⟨z,1,none⟩) (aD _) _).setCell (p:=⟨z,2,none⟩) (aD _) _).setCell (p:=⟨z,3,none⟩) (aD _) _⟩
theorem UJ (s:List UInt8) (a room:Int):cO s a room=
  if a<0\/room<1\/360<room then(dN,0,0,1)
  else if aP s.length a 48≠0 then(dN,0,0,aP s.length a 48)
  else if aK s a 48≠0x314159265359 then(dN,0,0,3)
  else if aP s.length (a+48) 32≠0 then(dN,0,0,aP s.length (a+48) 32)
  else if aP s.length (a+80) 16≠0 then(dN,0,0,aP s.length (a+80) 16)
  else if(dF s (a+96)).2.2≠0 then(dN,0,0,(dF s (a+96)).2.2)
  else if(dW s (dF s (a+96)).2.1 (((dF s (a+96)).1.length:Int)+2)).2.2≠0 then(dN,0,0,(dW s (dF s (a+96)).2.1 (((dF s (a+96)).1.length:Int)+2)).2.2)
  else if(rest (mkS (dF s (a+96)).1) (aK s (a+80) 16) (dW s (dF s (a+96)).2.1 (((dF s (a+96)).1.length:Int)+2)).1 room).2≠0 then(dN,0,0,(rest (mkS (dF s (a+96)).1) (aK s (a+80) 16) (dW s (dF s (a+96)).2.1 (((dF s (a+96)).1.length:Int)+2)).1 room).2)
  else if(jX (rest (mkS (dF s (a+96)).1) (aK s (a+80) 16) (dW s (dF s (a+96)).2.1 (((dF s (a+96)).1.length:Int)+2)).1 room).1.data.toList (52*room)).2≠0 then(dN,0,0,(jX (rest (mkS (dF s (a+96)).1) (aK s (a+80) 16) (dW s (dF s (a+96)).2.1 (((dF s (a+96)).1.length:Int)+2)).1 room).1.data.toList (52*room)).2)
  else if(cH (jX (rest (mkS (dF s (a+96)).1) (aK s (a+80) 16) (dW s (dF s (a+96)).2.1 (((dF s (a+96)).1.length:Int)+2)).1 room).1.data.toList (52*room)).1).toNat≠aK s (a+48) 32 then(dN,0,0,7)
  else(mkS (jX (rest (mkS (dF s (a+96)).1) (aK s (a+80) 16) (dW s (dF s (a+96)).2.1 (((dF s (a+96)).1.length:Int)+2)).1 room).1.data.toList (52*room)).1,(aK s (a+48) 32:Int),(dW s (dF s (a+96)).2.1 (((dF s (a+96)).1.length:Int)+2)).2.1,0):=rfl
theorem aH3 (a:ByteArray) (o:Int) (l:List Int) (most:Int) (h:(rest a o l most).2=0):((rest a o l most).1.size:Int)<=most:=by grind [rest,cS,JS,sL]
theorem aH4 {s:List UInt8} {a:Int} (h:(dF s a).2.2=0):(dF s a).1.length<=256/\a+16<=(dF s a).2.1/\(dF s a).2.1<=a+272:=by grind [EO,dF,dQ]
def FZ (w w':World) (s:List UInt8) (a room:Int) (e:Ending):Prop:=
 e=.returned (.tuple #[CP a (cO s a room),.int .i64 (cO s a room).2.2.2])/\Below w.heap.size w w'
theorem qI {w w':World} {s:List UInt8} {a room E:Int} (h:cO s a room=(dN,0,0,E)) (d:E≠0) (e:Below w.heap.size w w'):FZ w w' s a room (.returned (.tuple #[.agg #[.string dN,.int .u32 0,.int .i64 0,.int .i64 0],.int .i64 E])):=
 ⟨by rw[h,bA5 a _ _ _ _ d],e⟩
theorem aIx {p:List UInt8} {most:Int} (h:(jX p most).2=0):((jX p most).1.length:Int)<=most:=by grind [jX,eX]
theorem bpD {d:Func} {Q:Ending->World->Prop} {W:World} {a:Act} {z:Nat} {e A D F u:Value} (G:d.results=#[.cell 6 59,.tmp 7]) (H:Arr W z 59 [e,A,D,F]) (I:a.tmps.getD 6 undef=.pointer (some ⟨z,0,none⟩)) (J:a.tmps.getD 7 undef=u) (L:a.defers=[])
  (h:Q (.returned (.tuple #[.agg #[e,A,D,F],u])) W):bodyPost pG d Q .ret a W:=by
 refine bodyPost_ret (uS G _ _ z _ _ (0,0) _ I H underlying59 rfl aH2) L ?_;rw[J];exact h
theorem bG4 (s:ByteArray) (a room:Int) (w:World) (hs:s.size<=20000) (e0: -9223372036854775808<=a) (e1:a<=9223372036854775807) (e2: -9223372036854775808<=room) (e3:room<=9223372036854775807):
  Calls pG 87 #[.string s,.int .i64 a,.int .i64 room] w fun e w'=>FZ w w' s.data.toList a room e:=by
 have HL:=hid (show s.data.toList.length=s.size by simp);have h:=UJ s.data.toList a room;rw[HL.out] at h;have D:=Arr.new w 59 [.string ⟨#[]⟩,.int .u32 0,.int .i64 0,.int .i64 0];have e4:(w.alloc (.cells #[.string ⟨#[]⟩,.int .u32 0,.int .i64 0,.int .i64 0] 59)).heap.size=w.heap.size+1:=by simp
 have a2:Below w.heap.size w (w.alloc (.cells #[.string ⟨#[]⟩,.int .u32 0,.int .i64 0,.int .i64 0] 59)):=bD (Below.refl _ _) _;change Arr (w.alloc (.cells #[.string ⟨#[]⟩,.int .u32 0,.int .i64 0,.int .i64 0] 59)) _ _ _ at D
 by_cases c6:a<0\/room<1\/360<room
 ·rw[aB c6] at h;have F:=hid h;clear h
  by_cases h1:a<0
  ·have u1:decide (a<0)=true:=aG h1;have J:=D.cell (i:=0) rfl;have M:=D.cell (i:=1) rfl;have T:=D.cell (i:=2) rfl;have U:=D.cell (i:=3) rfl;have V:=D.free 0;have Y:=D.free 1;have f2:=D.free 2;have f3:=D.free 3;go_enter func87,ntmps87;go_wp2_with fail;exact bpD rfl D rfl rfl rfl (qI F.out (by decide) a2)
  have u1:decide (a<0)=false:=aE h1
  by_cases h2:room<1
  ·have u2:decide (room<1)=true:=aG h2;have J:=D.cell (i:=0) rfl;have M:=D.cell (i:=1) rfl;have T:=D.cell (i:=2) rfl;have U:=D.cell (i:=3) rfl;have V:=D.free 0;have Y:=D.free 1;have f2:=D.free 2;have f3:=D.free 3;go_enter func87,ntmps87;go_wp2_with fail;exact bpD rfl D rfl rfl rfl (qI F.out (by decide) a2)
  have u2:decide (room<1)=false:=aE h2;have u3:decide (room>360)=true:=aG (by omega);have u4:decide (360<room)=true:=aG (by omega);have J:=D.cell (i:=0) rfl;have M:=D.cell (i:=1) rfl;have T:=D.cell (i:=2) rfl;have U:=D.cell (i:=3) rfl;have V:=D.free 0;have Y:=D.free 1;have f2:=D.free 2;have f3:=D.free 3;go_enter func87,ntmps87;go_wp2_with fail;exact bpD rfl D rfl rfl rfl (qI F.out (by decide) a2)
 rw[aA c6] at h;have b7:=fun W=>sV s a 48 W (by omega) (by decide) (by omega) (by omega)
 have b8:=jV s.data.toList a 48;have b9:=iG (n:=s.size) (at':=a) (k:=48);have u1:decide (a<0)=false:=aE (by omega);have u2:decide (room<1)=false:=aE (by omega);have u3:decide (room>360)=false:=aE (by omega);have u4:decide (360<room)=false:=aE (by omega);obtain⟨E1,c0⟩:∃E1,E1=aP s.size a 48:=⟨_,rfl⟩;obtain⟨V1,c1⟩:∃V1,V1=aK s.data.toList a 48:=⟨_,rfl⟩;rw[<-c0,<-c1] at b7 h;rw[<-c0] at b9;rw[<-c1] at b8;have b8:V1<281474976710656:=b8;clear c0 c1;go_enter func87,ntmps87;go_wp2_with fail
 generalize w.alloc (.cells #[.string ⟨#[]⟩,.int .u32 0,.int .i64 0,.int .i64 0] 59)=w0 at*
 have d:=D;have I:=a2;have d5:w.heap.size<w0.heap.size:=by omega
 refine(b7 _).mono ?_;rintro e w1 ⟨rfl,rfl⟩
 by_cases h1:E1=0
 rotate_left
 ·have v1:(E1 != 0)=true:=by simpa using h1
  rw[aB h1] at h;have F:=hid h;clear h;have J:=d.cell (i:=0) rfl;have M:=d.cell (i:=1) rfl;have T:=d.cell (i:=2) rfl;have U:=d.cell (i:=3) rfl;have V:=d.free 0;have Y:=d.free 1;have f2:=d.free 2;have f3:=d.free 3;go_wp2_with fail;obtain⟨G,H⟩:=tA d I (.string ⟨#[]⟩) (.int .u32 0) (.int .i64 0) (.int .i64 0);exact bpD rfl G rfl rfl rfl (qI F.out h1 H)
 subst h1;rw[aA (fun k=>k rfl)] at h;have b9:=b9 rfl;obtain⟨A,rfl⟩:∃A:Nat,a=(A:Int):=⟨a.toNat,by omega⟩;have e5:A<=160000:=by omega
 by_cases h2:V1=54156738319193
 rotate_left
 ·have v1:((V1:Int) != 54156738319193)=true:=by rw[bne_iff_ne];omega
  rw[aB h2] at h;have F:=hid h;clear h;have J:=d.cell (i:=0) rfl;have M:=d.cell (i:=1) rfl;have T:=d.cell (i:=2) rfl;have U:=d.cell (i:=3) rfl;have V:=d.free 0;have Y:=d.free 1;have f2:=d.free 2;have f3:=d.free 3;go_wp2_with fail;obtain⟨G,H⟩:=tA d I (.string ⟨#[]⟩) (.int .u32 0) (.int .i64 0) (.int .i64 0);exact bpD rfl G rfl rfl rfl (qI F.out (by decide) H)
 rw[aA (fun k=>k h2)] at h;have v1:((V1:Int) != 54156738319193)=false:=by rw[bne_eq_false_iff_eq];omega
 have a3:=fun W=>sV s ((A:Int)+48) 32 W (by omega) (by decide) (by omega) (by omega)
 have c2:=jV s.data.toList ((A:Int)+48) 32;obtain⟨E2,c7⟩:∃E2,E2=aP s.size ((A:Int)+48) 32:=⟨_,rfl⟩;obtain⟨V2,c8⟩:∃V2,V2=aK s.data.toList ((A:Int)+48) 32:=⟨_,rfl⟩;rw[<-c7] at a3 h;rw[<-c8] at a3 h c2;have c2:V2<4294967296:=c2;have m1:aJ.wrap ((A:Int)+48)=(A:Int)+48:=by rw[aM];omega
 clear c7 c8 b7;go_wp2_with fail;refine(a3 _).mono ?_;rintro e w2 ⟨rfl,rfl⟩
 by_cases h3:E2=0
 rotate_left
 ·have v2:(E2 != 0)=true:=by simpa using h3
  rw[aB h3] at h;have F:=hid h;clear h;have J:=d.cell (i:=0) rfl;have M:=d.cell (i:=1) rfl;have T:=d.cell (i:=2) rfl;have U:=d.cell (i:=3) rfl;have V:=d.free 0;have Y:=d.free 1;have f2:=d.free 2;have f3:=d.free 3;go_wp2_with fail;obtain⟨G,H⟩:=tA d I (.string ⟨#[]⟩) (.int .u32 0) (.int .i64 0) (.int .i64 0);exact bpD rfl G rfl rfl rfl (qI F.out h3 H)
 subst h3;rw[aA (fun k=>k rfl)] at h;have a4:=fun W=>sV s ((A:Int)+80) 16 W (by omega) (by decide) (by omega) (by omega)
 have c3:=jV s.data.toList ((A:Int)+80) 16;obtain⟨E3,c9⟩:∃E3,E3=aP s.size ((A:Int)+80) 16:=⟨_,rfl⟩;obtain⟨V3,d4⟩:∃V3,V3=aK s.data.toList ((A:Int)+80) 16:=⟨_,rfl⟩;rw[<-c9] at a4 h;rw[<-d4] at a4 h c3;have c3:V3<65536:=c3;have m2:aJ.wrap ((A:Int)+80)=(A:Int)+80:=by rw[aM];omega
 clear c9 d4 a3;go_wp2_with fail;refine(a4 _).mono ?_;rintro e w3 ⟨rfl,rfl⟩
 by_cases h4:E3=0
 rotate_left
 ·have v2:(E3 != 0)=true:=by simpa using h4
  rw[aB h4] at h;have F:=hid h;clear h;have J:=d.cell (i:=0) rfl;have M:=d.cell (i:=1) rfl;have T:=d.cell (i:=2) rfl;have U:=d.cell (i:=3) rfl;have V:=d.free 0;have Y:=d.free 1;have f2:=d.free 2;have f3:=d.free 3;go_wp2_with fail;obtain⟨G,H⟩:=tA d I (.string ⟨#[]⟩) (.int .u32 0) (.int .i64 0) (.int .i64 0);exact bpD rfl G rfl rfl rfl (qI F.out h4 H)
 subst h4;rw[aA (fun k=>k rfl)] at h;have a6:=bA4 s ((A:Int)+96) w3 (by omega) (by omega) (by omega);have a7:=aH4 (s:=s.data.toList) (a:=(A:Int)+96);obtain⟨U1,U2,U3,hU⟩:∃U1 U2 U3,dF s.data.toList ((A:Int)+96)=(U1,U2,U3):=⟨_,_,_,rfl⟩;rw[hU] at a6 a7 h;simp only at a6 a7 h;have m3:aJ.wrap ((A:Int)+96)=(A:Int)+96:=by rw[aM];omega
 clear hU a4;go_wp2_with fail;refine a6.mono ?_;rintro e w4 ⟨rfl,a8⟩;have d:=d.below a8 d5;have I:=I.trans (a8.mono (by omega));have e6:=a8.size
 by_cases h5:U3=0
 rotate_left
 ·have v2:(U3 != 0)=true:=by simpa using h5
  rw[aB h5] at h;have F:=hid h;clear h;have J:=d.cell (i:=0) rfl;have M:=d.cell (i:=1) rfl;have T:=d.cell (i:=2) rfl;have U:=d.cell (i:=3) rfl;have V:=d.free 0;have Y:=d.free 1;have f2:=d.free 2;have f3:=d.free 3;go_wp2_with fail;obtain⟨G,H⟩:=tA d I (.string ⟨#[]⟩) (.int .u32 0) (.int .i64 0) (.int .i64 0);exact bpD rfl G rfl rfl rfl (qI F.out h5 H)
 subst h5;rw[aA (fun k=>k rfl)] at h;obtain⟨k1,k2,k3⟩:=a7 rfl;obtain⟨p,rfl⟩:∃p:Nat,U2=(p:Int):=⟨U2.toNat,by omega⟩;obtain⟨C,hC⟩:∃C,C=U1.length+2:=⟨_,rfl⟩;have m4:aJ.wrap ((U1.length:Int)+2)=(C:Int):=by rw[aM];omega
 have m5:(U1.length:Int)+2=(C:Int):=by omega
 have m6:aJ.wrap (C:Int)=(C:Int):=by rw[aM];omega
 rw[m5] at h;have a0:=bA3 s p C w4 (by omega) (by omega) (by omega) (by omega);have a1:=RZ (s:=s.data.toList) (at':=(p:Int)) (codes:=(C:Int));unfold UH at a0;obtain⟨L,P,K,hL⟩:∃L P K,dW s.data.toList (p:Int) (C:Int)=(L,P,K):=⟨_,_,_,rfl⟩;rw[hL] at a0 a1 h;simp only at a0 a1 h;rw[HL.out] at a1;have d6:w.heap.size<w4.heap.size:=by omega
 have e7:(mkS U1).size<=256:=by rw[cS];exact k1
 clear hL a7 a6 hC a8;go_wp2_with fail;refine a0.mono ?_;rintro e w5 ⟨v5,rfl,c4,a9⟩;have d:=d.below a9 d6;have I:=I.trans (a9.mono (by omega));have e8:=a9.size
 by_cases h6:K=0
 rotate_left
 ·have v2:(K != 0)=true:=by simpa using h6
  rw[aB h6] at h;have F:=hid h;clear h;have J:=d.cell (i:=0) rfl;have M:=d.cell (i:=1) rfl;have T:=d.cell (i:=2) rfl;have U:=d.cell (i:=3) rfl;have V:=d.free 0;have Y:=d.free 1;have f2:=d.free 2;have f3:=d.free 3;go_wp2_with fail;obtain⟨G,H⟩:=tA d I (.string ⟨#[]⟩) (.int .u32 0) (.int .i64 0) (.int .i64 0);exact bpD rfl G rfl rfl rfl (qI F.out h6 H)
 subst h6;rw[aA (fun k=>k rfl)] at h;obtain⟨_,_,_,_,k4,_,_⟩:=a1 rfl;have b0:=aQw (mkS U1) (V3:Int) v5 L room w5 (by omega) (OwI.rd c4) (by omega) (by omega) (by omega) (by omega) (by omega);have b1:=aH3 (mkS U1) (V3:Int) L room;obtain⟨R,RE,hR⟩:∃R RE,rest (mkS U1) (V3:Int) L room=(R,RE):=⟨_,_,rfl⟩;rw[hR] at b0 b1 h;simp only at b0 b1 h;have m7:aJ.wrap (V3:Int)=(V3:Int):=by rw[aM];omega
 have d7:w.heap.size<w5.heap.size:=by omega
 obtain⟨a5,c5,rfl,_,_,_⟩:=(OwI.rd c4).open;clear hR a1 a0 a9 c4;go_wp2_with fail;refine b0.mono ?_;rintro e w6 ⟨rfl,b2⟩;have d:=d.below b2 d7;have I:=I.trans (b2.mono (by omega));have e9:=b2.size
 by_cases h7:RE=0
 rotate_left
 ·have v2:(RE != 0)=true:=by simpa using h7
  rw[aB h7] at h;have F:=hid h;clear h;have J:=d.cell (i:=0) rfl;have M:=d.cell (i:=1) rfl;have T:=d.cell (i:=2) rfl;have U:=d.cell (i:=3) rfl;have V:=d.free 0;have Y:=d.free 1;have f2:=d.free 2;have f3:=d.free 3;go_wp2_with fail;obtain⟨G,H⟩:=tA d I (.string ⟨#[]⟩) (.int .u32 0) (.int .i64 0) (.int .i64 0);exact bpD rfl G rfl rfl rfl (qI F.out h7 H)
 subst h7;rw[aA (fun k=>k rfl)] at h;have b1:=b1 rfl;have b3:=bAh R (52*room) w6 (by omega) (by omega) (by omega);have b4:=aIx (p:=R.data.toList) (most:=52*room);obtain⟨O,OE,hO⟩:∃O OE,jX R.data.toList (52*room)=(O,OE):=⟨_,_,rfl⟩;rw[hO] at b3 b4 h;simp only at b3 b4 h;have m8:aJ.wrap (52*room)=52*room:=by rw[aM];omega
 have d8:w.heap.size<w6.heap.size:=by omega
 clear hO b0 b2;go_wp2_with fail;refine b3.mono ?_;rintro e w7 ⟨rfl,b5⟩;have d:=d.below b5 d8;have I:=I.trans (b5.mono (by omega));have f4:=b5.size
 by_cases h8:OE=0
 rotate_left
 ·have v2:(OE != 0)=true:=by simpa using h8
  rw[aB h8] at h;have F:=hid h;clear h;have J:=d.cell (i:=0) rfl;have M:=d.cell (i:=1) rfl;have T:=d.cell (i:=2) rfl;have U:=d.cell (i:=3) rfl;have V:=d.free 0;have Y:=d.free 1;have f2:=d.free 2;have f3:=d.free 3;go_wp2_with fail;obtain⟨G,H⟩:=tA d I (.string ⟨#[]⟩) (.int .u32 0) (.int .i64 0) (.int .i64 0);exact bpD rfl G rfl rfl rfl (qI F.out h8 H)
 subst h8;rw[aA (fun k=>k rfl)] at h;have b4:=b4 rfl;have b6:=TA (mkS O) w7 (by rw[cS];omega);rw[dP] at b6;have d9:=(cH O).isLt;obtain⟨Z,hZ⟩:∃Z,Z=(cH O).toNat:=⟨_,rfl⟩;rw[<-hZ] at b6 h d9;have m9:sH.wrap (V2:Int)=(V2:Int):=by rw[uB];omega
 have f5:(V2:Int)%4294967296=(V2:Int):=by omega
 clear hZ b3 b5;go_wp2_with fail;refine b6.mono ?_;rintro e w8 ⟨rfl,rfl⟩;clear b6
 by_cases h9:Z=V2
 rotate_left
 ·have v2:((Z:Int) != (V2:Int))=true:=by rw[bne_iff_ne];omega
  rw[aB h9] at h;have F:=hid h;clear h;have J:=d.cell (i:=0) rfl;have M:=d.cell (i:=1) rfl;have T:=d.cell (i:=2) rfl;have U:=d.cell (i:=3) rfl;have V:=d.free 0;have Y:=d.free 1;have f2:=d.free 2;have f3:=d.free 3;go_wp2_with fail;obtain⟨G,H⟩:=tA d I (.string ⟨#[]⟩) (.int .u32 0) (.int .i64 0) (.int .i64 0);exact bpD rfl G rfl rfl rfl (qI F.out (by decide) H)
 rw[aA (fun k=>k h9)] at h;have v2:((Z:Int) != (V2:Int))=false:=by rw[bne_eq_false_iff_eq];omega
 have F:=hid h;have J:=d.cell (i:=0) rfl;have M:=d.cell (i:=1) rfl;have T:=d.cell (i:=2) rfl;have U:=d.cell (i:=3) rfl;have V:=d.free 0;have Y:=d.free 1;have f2:=d.free 2;have f3:=d.free 3;clear h h9;go_wp2_with fail;obtain⟨G,H⟩:=tA d I (.string (mkS O)) (.int .u32 (V2:Int)) (.int .i64 (A:Int)) (.int .i64 P);exact bpD rfl G rfl rfl rfl ⟨by rw[F.out,aH1];rfl,H⟩
structure BIn (t:ByteArray) (P a:List UInt8) (m:List Int) (o n:Nat):Prop where
 hP:P=bT t.data.toList
 ha:a=bY P
 hm:m=sqS (mkS P)
 ho:(o:Int)=sqO (mkS P)
 hn:n=a.length+2
 hA:sqA (mkS P)=mkS a
 hE:sqE (mkS P)=0
 o16:o<65536
 an:a≠[]
 a256:a.length<=256
 n2:3<=n
 n258:n<=258
 m0:0<m.length
 m361:m.length<=9000
 rng:∀x∈m,0<=x/\x<(n:Int)
 c0:bM (eN m n 0)=0
 c1:bM (eN m n 1)=0
 l0:(eN m n 0).length=n
 l1:(eN m n 1).length=n
theorem BIn.of {t:ByteArray} (O:0<t.size) (T:(bT t.data.toList).length<=8000) (h:iZ (mkS (bT t.data.toList))):∃P a m o n,BIn t P a m o n:=by
 have U:t.data.toList.length=t.size:=by simp
 have G:t.data.toList≠[]:=fun e=>by grind
 have H:=uM t.data.toList.length t.data.toList (aD _);have I:=H.2.1 G;have d:0<(mkS (bT t.data.toList)).size:=by grind [cS,bT,iZ,mkS]
 have V:(mkS (bT t.data.toList)).size=(bT t.data.toList).length:=cS _;obtain⟨A,J,Y,Z⟩:=aDi d h;have a0:=(QY (mkS (bT t.data.toList))).1;have hor:=SI d h;have L:=vX (bT t.data.toList);have D:=JF I;have M:=LM d;have F:=ET d;rw[dP] at A F;have a1:=List.length_pos_iff.2 D;refine⟨_,_,_,gX (oOf (mkS (bT t.data.toList))) (mkS (bT t.data.toList)).size,_,rfl,rfl,rfl,M.symm,rfl,F,aDa d,by omega,D,L,by omega,by omega,J,by omega,A,?_,?_,?_,?_⟩
 ·grind [xR,bT,iZ,mkS]
 ·grind [xR,bT,iZ,mkS]
 ·grind [wF,bT,iZ,mkS]
 ·grind [wF,bT,iZ,mkS]
theorem BIn.blk {t:ByteArray} {P a:List UInt8} {m:List Int} {o n:Nat} (h:BIn t P a m o n):eJ t=aT 0x314159265359 48++aT (cH t.data.toList).toNat 32++aT o 16++iL a++(aT 2 3++aT (dS m n).length 15++eW (fJ (dS m n))++fI (eN m n 0)++fI (eN m n 1)++iB (eN m n 0) (eN m n 1) (dS m n) (dA m)):=by
 have e:(sqO (mkS (bT t.data.toList))).toNat=o:=by have:=h.ho;rw[h.hP] at this;omega
 unfold eJ uN ER wJ;rw[e,<-h.hP,<-h.ha,<-h.hm,<-h.hn]
theorem aH5 {l g:List Int} (h:gM l) (d:∀x∈g,0<=x/\x<(l.length:Int)) (e:0<g.length):0<(gF l g).length:=by
 cases g with
 |nil=>simp at e
 |cons x g=>
  have A:=d x (List.mem_cons_self ..);have:=(lX h (s:=x.toNat) (by omega)).1;unfold gF;rw[yR,aL,dV];omega
theorem bA6 (s:List UInt8):0<(iL s).length:=by grind [iL,pO]
theorem aH6 (l:List Int):0<(fI l).length:=by grind [fI,dV]
theorem CQ {l:List Int} (h:gM l):(fI l).length<=5+39*258:=by grind [KV,fI,dV,gM]
theorem aH7 {l:List Int} (h:0<l.length):0<(eW l).length:=by
 cases l with
 |nil=>simp at h
 |cons x l=>
  unfold eW oC;rw[yR,aL,aL];simp;omega
def jZ (t:ByteArray) (room:Int):Int:=if t.size=0\/room<1\/360<room then 1 else if room<((bT t.data.toList).length:Int) then 4 else 0
noncomputable def tB (t:ByteArray) (room:Int):List Bool:=if jZ t room=0 then eJ t else[]
def FV (w w':World) (t:ByteArray) (room:Int) (e:Ending):Prop:=e=.returned (.tuple #[fT (tB t room),.int .i64 (jZ t room)])/\Below w.heap.size w w'/\(jZ t room=0->iZ (mkS (bT t.data.toList)))
theorem bA7:fT []=.agg #[.string ⟨#[]⟩,.int .i64 0]:=rfl
theorem zZ {w w':World} {t:ByteArray} {room E:Int} (h:jZ t room=E) (d:E≠0) (e:Below w.heap.size w w'):FV w w' t room (.returned (.tuple #[.agg #[.string ⟨#[]⟩,.int .i64 0],.int .i64 E])):=by grind [tB,bA7,jZ,FV]
theorem rdQ {d A D:Prop} {B:Nat} {w0 w':World} {v:Value} {m:List Int} (e:RdI w0 v m) (F:w0.heap.size=B) (h:d/\A/\D/\Below B w0 w'/\B<=w'.heap.size):RdI w' v m:=e.below (F▸h.2.2.2.1)
theorem bA8 {m:List Int} {n j:Nat} {g:List Int} (h:(dA m)[j]? =some g):(dS m n)[j]? =some (rO (eN m n 0) (eN m n 1) g):=by grind [dS,dA,rO,eN]
theorem UK {d e h:List Int} {A:List (List Int)} {k:Nat} {c:Int} {g:List Int} (D:h[k]? =some c) (F:A[k]? =some g):iB d e (h.take (k+1)) (A.take (k+1))=iB d e (h.take k) (A.take k)++gF (if c=0 then d else e) g:=by grind [List.getElem?_eq_some_iff,cG,RV,List.length_take,iB,gF]
end Go.Proofs.YtfplbbphficcjaaGreatDoor
