/-
  Texts put together (part 23): the walks and the plain laws on which the statement stands.
-/
import Derived.Test.YtfckbfofgeilgaaGreatDoorZ20
import Derived.Test.YtfckbfofgeilgaaGreatDoorZ21
set_option maxRecDepth 100000
set_option maxHeartbeats 12800000
set_option linter.unusedVariables false
set_option linter.unusedSimpArgs false
open Go.Proofs.Tryz
open Go.Proofs.Tryz renaming prog->pG
open Go.Calls renaming quiet_of_same->AY
open Go.IntKind renaming i64->aJ,wrap_i64->aM,wrap_u32->uB
open List renaming flatMap_cons->yR,length_append->aL,length_drop->bA,take_add_one->cG,take_of_length_le->cD
open Nat renaming le_refl->aD
namespace Go.Proofs.YtfckbfofgeilgaaGreatDoor
open Go.RowKit Go Go.Shelf
theorem aGp (d:Nat) (h:d<=9223372036854775807):wrap64 (d:Int)=(d:Int):=by grind [LR]
theorem aY6 (a:BitVec 32):(a.toNat:Int)/2147483648=((a>>>31).toNat:Int):=by
 rw[BitVec.toNat_ushiftRight,Nat.shiftRight_eq_div_pow];omega
theorem aY7 (a b:BitVec 32):bits .or .u32 (a.toNat:Int) (b.toNat:Int)=((a|||b).toNat:Int):=by
 rw[u32_or_nat _ _ a.isLt b.isLt,BitVec.toNat_or]
theorem aY8 (x b:BitVec 32) (w:World):
  Calls pG 192 #[.int .u32 (x.toNat:Int),.int .u32 (b.toNat:Int)] w fun e w'=>e=.returned (.int .u32 ((zM x b).toNat:Int))/\w'=w:=by
 have A:=SZ x;have D:=aY6 x;obtain⟨y,F⟩:=ex1 (x<<<1);obtain⟨z,G⟩:=ex1 (x>>>31);have e3:=aY7 y z;obtain⟨q,I⟩:=ex1 (y|||z);have e4:=CG q b;obtain⟨r,J⟩:=ex1 (q^^^b);have HF:=hid (show((r.toNat:Nat):Int)=((zM x b).toNat:Int) by rw[J,I,F,G];rfl);rw[<-F] at A;rw[<-G] at D;rw[<-I] at e3;rw[<-J] at e4;clear F G I J;obtain⟨X,d⟩:=ex1 (x.toNat);obtain⟨Y,L⟩:=ex1 (y.toNat);obtain⟨Z,M⟩:=ex1 (z.toNat);obtain⟨Q,O⟩:=ex1 (q.toNat);obtain⟨B,U⟩:=ex1 (b.toNat);obtain⟨R,V⟩:=ex1 (r.toNat);rw[<-d,<-L] at A;rw[<-d,<-M] at D;rw[<-L,<-M,<-O] at e3;rw[<-O,<-U,<-V] at e4;rw[<-V] at HF;rw[<-d,<-U]
 have a0:(X:Int)*2%4294967296=(Y:Int):=by rw[<-A,uB]
 have a1:(X:Int)/2147483648=(Z:Int):=by omega
 clear D;clear d L M O U V;go_enter func192,ntmps192;go_wp2_with fail;go_ret;exact⟨eI HF.out,rfl⟩
def uX (l:List (BitVec 32)):List Value:=l.map (fun b=>Value.int .u32 (b.toNat:Int))
def RdS (w:World) (v:Value) (l:List (BitVec 32)):Prop:=Rd w v l.length (uX l)
def OwS (w:World) (B:Nat) (v:Value) (l:List (BitVec 32)):Prop:=Ow w B 87 v (uX l)
theorem FO (l:List (BitVec 32)):(uX l).length=l.length:=List.length_map ..
theorem OwS.rd {w:World} {B:Nat} {v:Value} {l:List (BitVec 32)} (h:OwS w B v l):RdS w v l:=by grind [RdS,Ow.rd,FO,OwS]
theorem RdS.below {w w':World} {v:Value} {l:List (BitVec 32)} (h:RdS w v l) (d:Below w.heap.size w w'):RdS w' v l:=Rd.below h d
theorem RdS.open {w:World} {v:Value} {l:List (BitVec 32)} (h:RdS w v l):
  ∃a cap,v=.slice a l.length cap/\l.length<=cap/\cap<=maxLen/\
   (0<l.length->∃b off,a=some ⟨b,off,none⟩/\b<w.heap.size/\∀j x,l[j]? =some x->w.cell? ⟨b,off+j,none⟩=some (.int .u32 (x.toNat:Int))):=by
 obtain⟨a,cap,rfl,d,e,A⟩:=h
 grind [FO,uX,RdS]
theorem aGq {l:List (BitVec 32)} {k:Nat} {x:BitVec 32} (h:l[k]? =some x):iM (l.take (k+1))=zM (iM (l.take k)) x:=by grind [iM,cG,List.foldl,zM]
theorem aGr (v:Value) (l:List (BitVec 32)) (w:World) (J:RdS w v l):
  Calls pG 169 #[v] w fun e w'=>e=.returned (.int .u32 ((iM l).toNat:Int))/\w'=w:=by
 obtain⟨a,ca,rfl,a1,U,L⟩:=J.open;unfold maxLen at U;clear J;obtain⟨Z,d⟩:=ex1 ((iM (l.take 0)).toNat);have M:(Z:Int)=0:=by rw[d];rfl
 go_enter func169,ntmps169;go_wp2_with fail
 go_loopg [2,4,7] l.length (fun g V _s4 s7 wr=>∃k X:Nat,k<=l.length/\g=l.length-k/\s7=.int .i64 (k:Int)/\V=.int .u32 (X:Int)/\Hid (X=(iM (l.take k)).toNat)/\wr=w)
 case atStart=>exact⟨0,Z,Nat.zero_le _,rfl,rfl,by rw[M],hid d,rfl⟩
 case round=>
  obtain⟨k,X,hk,A,rfl,rfl,O,rfl⟩:=hrel;have HG:=hid A;clear A M d
  by_cases a0:k<l.length
  ·have t1:decide ((k:Int)<(l.length:Int))=true:=aG (by omega);obtain⟨b,off,rfl,hb,R⟩:=L (by omega);obtain⟨x,D⟩:∃x,l[k]? =some x:=⟨_,List.getElem?_eq_getElem a0⟩;have c1:=R k x D;have F:=aY8 (iM (l.take k)) x wr;rw[<-aGq D,<-O.out] at F;obtain⟨Y,G⟩:=ex1 ((iM (l.take (k+1))).toNat);obtain⟨x',I⟩:∃x',x'=x.toNat:=⟨_,rfl⟩;rw[<-G,<-I] at F;rw[<-I] at c1;have HY:=hid G;clear G I D R L;go_wp2_with fail;refine F.mono ?_;rintro e w2 ⟨rfl,rfl⟩;go_wp2_with fail;have A:=HG.out
   go_roundg (l.length-(k+1))
   ·exact⟨k+1,Y,by omega,rfl,by go_num,rfl,HY,rfl⟩
   ·omega
  ·have t1:decide ((k:Int)<(l.length:Int))=false:=aE (by omega);have HF:=hid (show((X:Nat):Int)=((iM l).toNat:Int) by rw[O.out,cD (by omega)]);go_wp2_with fail;go_ret;exact⟨eI HF.out,rfl⟩
theorem aY9 (x:Nat) (e:49<=x) (A:x<=57):∃d q:Nat,IntKind.u8.wrap ((x:Int)-48)=(d:Int)/\(x:Int)-48=(d:Int)/\aJ.wrap (d:Int)=(d:Int)/\wrap64 (d:Int)=(d:Int)/\aJ.wrap (40*(d:Int))=(q:Int)/\40*(d:Int)=(q:Int)/\(q:Int)=40*((x:Int)-48):=
 ⟨x-48,40*(x-48),by rw[IntKind.wrap_u8];omega,by omega,by rw[aM];omega,aGp _ (by omega),by rw[aM];omega,by omega,by omega⟩
theorem aZa (s:ByteArray) (w:World) (d:4<=s.size):
  Calls pG 167 #[.string s,.string ⟨#[80,77,107]⟩] w fun e w'=>e=.returned (.bool ((s.extract 0 3).toList==[80,77,107]))/\w'=w:=by
 have A:decide ((s.size:Int)>=3)=true:=aG (by omega);have D:decide ((3:Int)<=(s.size:Int))=true:=aG (by omega);have F:(3:Int)<=(s.size:Int):=by omega
 go_enter func167,ntmps167;go_wp2_with fail;go_enter func191,ntmps191;go_wp2_with fail;go_ret;exact⟨rfl,rfl⟩
theorem aZb (s:ByteArray) (k:Nat) (w:World) (hk:k<=s.size) (hs:s.size<=1000000):
  Calls pG 148 #[.string s,.int .i64 (k:Int)] w fun e w'=>e=.returned (.tuple #[.int .i64 (fX s.data.toList k).1,.int .i64 (fX s.data.toList k).2])/\w'=w:=by
 have I:=hid (mV s);obtain⟨T,L⟩:=ex1 (s.extract k s.size);have G:T.data.toList=s.data.toList.drop k:=by
  rw[L,iW,dP,cD (by rw[bA,I.out];omega)]
 have a0:T.size=s.size-k:=by
  have:T.data.toList.length=T.size:=by simp
  rw[<-this,G,bA,I.out]
 have q1:(k:Int)<=(s.size:Int):=by omega
 have a1:s.extract k s.size=T:=L.symm;clear L
 by_cases h4:T.size<4
 ·have A:fX s.data.toList k=(0,2):=by unfold fX;rw[aB (by rw[I.out];omega)]
  have t1:decide ((T.size:Int)<4)=true:=aG (by omega);rw[A];clear A G;go_enter func148,ntmps148;go_wp2_with fail
  go_ret2
  exact⟨rfl,rfl⟩
 have t1:decide ((T.size:Int)<4)=false:=aE (by omega);have h3:3<T.size:=by omega
 have F:=fun W=>aZa T W (by omega)
 have M:=fW T 3 h3;have O:(s.data.toList.getD (k+3) 0).toNat=T[3].toNat:=by
  rw[G,List.getElem?_drop] at M;rw[List.getD_eq_getElem?_getD,M];rfl
 have R:(s.data.toList.drop k).take 3=(T.extract 0 3).toList:=by
  rw[Lib.toList_data,iW,dP,G,List.drop_zero]
 have A:fX s.data.toList k=if(T.extract 0 3).toList≠[80,77,107]\/T[3].toNat<49\/57<T[3].toNat then((0:Int),(3:Int)) else((40:Int)*((T[3].toNat:Int)-48),(0:Int)):=by
  unfold fX;rw[aA (by rw[I.out];omega),O,R]
 have a2:=T[3].toNat_lt;clear G M O R
 by_cases D:(T.extract 0 3).toList=[80,77,107]
 rotate_left
 ·have U:((T.extract 0 3).toList==[80,77,107])=false:=by rw[cB];exact D
  rw[aB (.inl D)] at A;rw[A];rw[U] at F;clear A D U;go_enter func148,ntmps148;go_wp2_with fail;refine(F _).mono ?_;rintro e w' ⟨rfl,rfl⟩;go_wp2_with fail
  go_ret2
  exact⟨rfl,rfl⟩
 have J:((T.extract 0 3).toList==[80,77,107])=true:=by rw[beq_iff_eq];exact D
 rw[J] at F
 by_cases V:T[3].toNat<49
 ·have u1:decide ((T[3].toNat:Int)<49)=true:=aG (by omega);rw[aB (.inr (.inl V))] at A;rw[A];clear A D J;go_enter func148,ntmps148;go_wp2_with fail;refine(F _).mono ?_;rintro e w' ⟨rfl,rfl⟩;go_wp2_with fail
  go_ret2
  exact⟨rfl,rfl⟩
 have u1:decide ((T[3].toNat:Int)<49)=false:=aE (by omega)
 by_cases Y:57<T[3].toNat
 ·have u2:decide ((T[3].toNat:Int)>57)=true:=aG (by omega);have u3:decide (57<(T[3].toNat:Int))=true:=aG (by omega);rw[aB (.inr (.inr Y))] at A;rw[A];clear A D J;go_enter func148,ntmps148;go_wp2_with fail;refine(F _).mono ?_;rintro e w' ⟨rfl,rfl⟩;go_wp2_with fail
  go_ret2
  exact⟨rfl,rfl⟩
 have u2:decide ((T[3].toNat:Int)>57)=false:=aE (by omega);have u3:decide (57<(T[3].toNat:Int))=false:=aE (by omega);rw[aA (by rintro(q|q|q)<;>first|exact q D|omega)] at A;obtain⟨d,q,m1,m2,m3,a3,m4,m5,Z⟩:=aY9 T[3].toNat (by omega) (by omega);have HR:=hid (show((q:Nat):Int)=(fX s.data.toList k).1/\(0:Int)=(fX s.data.toList k).2 by rw[A];exact⟨Z,rfl⟩);rw[<-HR.out.1,<-HR.out.2];clear A D J V Y Z;go_enter func148,ntmps148;go_wp2_with fail;refine(F _).mono ?_;rintro e w' ⟨rfl,rfl⟩;go_wp2_with fail
 go_ret2
 exact⟨rfl,rfl⟩
def SRd (w:World) (b:Nat) (s:ByteArray) (a:Int) (v:Value):Prop:=Arr w b 206 [.string s,.int .i64 a,v]
theorem Ow.box {w w':World} {B b e:Nat} {v:Value} {d:List Value} (h:Ow w B e v d) (A:w.grownBy w' (some b)) (F:b<B):Ow w' B e v d:=
 h.kept A (by
  cases D:v.ownBlock with
  |none=>exact .inl rfl
  |some k=>exact .inr (fun q=>by injection q with q;have:=(h.lt k D).1;omega))
theorem lE (d:Nat) (h:d<=9223372036854775807):aJ.wrap (d:Int)=(d:Int):=by rw[aM];omega
theorem aGs (V:Nat) (h:V<4294967296):IntKind.u32.wrap (V:Int)=(V:Int):=by rw[uB];omega
theorem aZc (V:Nat) (h:V<4294967296):(V:Int)%4294967296=(V:Int):=by omega
theorem aZd (a:Nat) (O:a<=90000000):∃A e q d F:Nat,A=a+80/\jP ((a:Int)+80).toNat=d/\d<=7/\F=A+d/\(A:Int)+(jP (A:Int).toNat:Int)=(F:Int)/\aJ.wrap ((a:Int)+48)=(a:Int)+48/\aJ.wrap ((a:Int)+80)=(A:Int)/\(a:Int)+80=(A:Int)/\
  (A:Int).tmod 8=(e:Int)/\aJ.wrap (8-(e:Int))=(q:Int)/\8-(e:Int)=(q:Int)/\(q:Int).tmod 8=(d:Int)/\aJ.wrap ((A:Int)+(d:Int))=(F:Int)/\(A:Int)+(d:Int)=(F:Int)/\aJ.wrap (F:Int)=(F:Int)/\wrap64 (F:Int)=(F:Int):=by
 obtain⟨A,G⟩:=ex1 (a+80);obtain⟨e,R⟩:=ex1 (A%8);obtain⟨q,U⟩:=ex1 (8-e);obtain⟨d,V⟩:=ex1 (q%8);obtain⟨F,hF⟩:=ex1 (A+d);have Y:e<8:=by grind
 have Z:d<8:=by grind
 have I:(a:Int)+80=(A:Int):=by omega
 have J:8-(e:Int)=(q:Int):=by omega
 have L:(A:Int)+(d:Int)=(F:Int):=by omega
 have D:F<=9223372036854775807:=by omega
 have a0:A<=9223372036854775807:=by omega
 have M:(a:Int)+48=((a+48:Nat):Int):=by push_cast;rfl
 have e5:jP A=d:=by grind [jP]
 have e6:((a:Int)+80).toNat=A:=by omega
 refine⟨A,e,q,d,F,G,by grind,by omega,hF,by grind,?_,?_,I,?_,?_,J,?_,?_,L,lE F D,aGp F D⟩
 ·rw[M];exact lE _ (by omega)
 ·grind [lE,jP]
 ·grind
 ·grind [lE,jP]
 ·grind
 ·grind [lE,jP]
theorem aZe (b B:Nat) (s:ByteArray) (a:Nat) (v:Value) (l:List (BitVec 32)) (w:World) (hA:SRd w b s (a:Int) v) (hr:OwS w B v l) (b0:b<B) (hs:s.size<=1000000) (ha:a<=90000000):
  Calls pG 150 #[.pointer (some ⟨b,0,none⟩)] w fun e w'=>
   e=.returned (.int .i64 (kS s.data.toList (a:Int) (iM l)).2)/\w.grownBy w' (some b)/\∃a':Int,SRd w' b s a' v/\((kS s.data.toList (a:Int) (iM l)).2=0->a'=(kS s.data.toList (a:Int) (iM l)).1):=by
 have HL:=hid (mV s);obtain⟨A,r8,q,M,F,c6,b1,d0,hF,c7,b2⟩:=aZd a ha;have HR:=hid b2;clear b2;have a4:(a:Int)+80=(A:Int):=by omega
 have b3:(A:Int)+(M:Int)=(F:Int):=by omega
 have a5:=fun W=>uQ s ((a:Int)+48) 32 W hs (by decide) (by omega) (by omega)
 have a6:=fun W=>uQ s (A:Int) M W hs (by omega) (by omega) (by omega)
 have b4:jP (A:Int).toNat=M:=by rw[<-a4];exact b1
 have b5:(A:Int)+(M:Int)=(F:Int):=b3;have a7:=jV s.data.toList ((a:Int)+48) 32;have d:kS s.data.toList (a:Int) (iM l)=if aP s.size ((a:Int)+48) 32≠0 then(0,aP s.size ((a:Int)+48) 32) else if aK s.data.toList ((a:Int)+48) 32≠(iM l).toNat then(0,7) else if aK s.data.toList (A:Int) M≠0 then(0,3) else((F:Int),0):=by
  unfold kS;rw[HL.out,a4,b4,b5]
 have a8:=fun W (h:RdS W v l)=>aGr v l W h
 obtain⟨S,hS⟩:=ex1 ((iM l).toNat);obtain⟨E,hE⟩:=ex1 (aP s.size ((a:Int)+48) 32);obtain⟨V,hV⟩:=ex1 (aK s.data.toList ((a:Int)+48) 32);obtain⟨E2,b6⟩:=ex1 (aP s.size (A:Int) M);obtain⟨U,a9⟩:=ex1 (aK s.data.toList (A:Int) M);rw[<-hE,<-hV] at a5;rw[<-b6,<-a9] at a6;rw[<-hS] at a8;rw[<-hE,<-hV,<-a9,<-hS] at d;rw[<-hV] at a7;have b7:V<4294967296:=a7;obtain⟨m1,m2,d2,m3,m4,d4,m5,m6,d5,-,-⟩:=HR.out;have m7:=aGs V b7;have d6:=aZc V b7;have G:=hid d;have c0:=Arr.cell hA (i:=0) rfl;have c1:=Arr.cell hA (i:=1) rfl;clear b4 b5 HR a4 b3;clear d hS hE hV b6 a9 a7 b1 c6 hF c7 HL
 go_enter func150,ntmps150;go_wp2_with fail
 go_quiet (first|(go_at_call 149;exact AY (a5 _)))
 generalize I:w.drewN nq=W1 at*
 have a0:SRd W1 b s (a:Int) v:=by rw[<-I];exact hA
 have b8:OwS W1 B v l:=by rw[<-I];exact hr
 have b9:w.grownBy W1 (some b):=by rw[<-I];exact⟨rfl,rfl,rfl,aD _,fun _ _ _=>rfl⟩
 have d1:=Arr.cell a0 (i:=1) rfl;have f1:=Arr.free a0 1;have a1:SRd (W1.setCell ⟨b,1,none⟩ (.int .i64 (A:Int))) b s (A:Int) v:=Arr.set a0 1 _;have c2:OwS (W1.setCell ⟨b,1,none⟩ (.int .i64 (A:Int))) B v l:=Ow.box b8 (gbS _ _ _ _) b0;have O:=gbT b9 (gbS W1 b 1 (.int .i64 (A:Int)));have e0:=Arr.cell a1 (i:=0) rfl;have e1:=Arr.cell a1 (i:=1) rfl;clear I hA hr c0 c1 a0 b8 b9;go_wp2_with fail;generalize W1.setCell ⟨b,1,none⟩ (.int .i64 (A:Int))=W2 at*
 go_quiet (first|(go_at_call 149;exact AY (a6 _)))
 generalize I:W2.drewN nq=R at*
 have a2:SRd R b s (A:Int) v:=by rw[<-I];exact a1
 have c3:OwS R B v l:=by rw[<-I];exact c2
 have c4:w.grownBy R (some b):=by rw[<-I];exact⟨O.os,O.tape,O.output,O.size,O.block⟩
 have d3:=Arr.cell a2 (i:=1) rfl;have f3:=Arr.free a2 1;have Y:SRd (R.setCell ⟨b,1,none⟩ (.int .i64 (F:Int))) b s (F:Int) v:=Arr.set a2 1 _;have c8:OwS (R.setCell ⟨b,1,none⟩ (.int .i64 (F:Int))) B v l:=Ow.box c3 (gbS _ _ _ _) b0;have a3:=gbT c4 (gbS R b 1 (.int .i64 (F:Int)));have e2:=Arr.cell Y (i:=2) rfl;have c9:=c8.rd;have c5:=a8 _ c9;clear I a1 c2 O e0 e1 d1 f1 a2 c3 c4 a5 a6 a8
 by_cases Z:E=0
 rotate_left
 ·have t1:(E==0)=false:=by rw[cB];exact Z
  have t2:(E != 0)=true:=by rw[bne_iff_ne];exact Z
  have d:=G.out;rw[aB Z] at d;have D:=hid d;clear d G c5 Z;go_wp2_with fail;go_ret;exact⟨eI (by rw[D.out]),a3,_,Y,fun k=>absurd (by rw[D.out] at k;exact k) (by simpa using t2)⟩
 subst Z;have d:=G.out;rw[aA (fun k=>k rfl)] at d;have G:=hid d;clear d;go_wp2_with fail;refine c5.mono ?_;rintro e w' ⟨rfl,rfl⟩
 by_cases J:V=S
 rotate_left
 ·have t1:((V:Int) != (S:Int))=true:=by rw[bne_iff_ne];exact fun q=>J (Int.ofNat_inj.1 q)
  have t2:(V != S)=true:=by rw[bne_iff_ne];exact J
  have d:=G.out;rw[aB J] at d;have D:=hid d;clear d G J;go_wp2_with fail;go_ret;exact⟨eI (by rw[D.out]),a3,_,Y,fun k=>absurd (by rw[D.out] at k;exact k) (by decide)⟩
 have t1:((V:Int) != (S:Int))=false:=by rw[bne_eq_false_iff_eq,J]
 have t2:(V != S)=false:=by rw[bne_eq_false_iff_eq];exact J
 have d:=G.out;rw[aA (fun k=>k J)] at d
 by_cases L:U=0
 rotate_left
 ·have t3:((U:Int) != 0)=true:=by rw[bne_iff_ne];exact fun q=>L (Int.ofNat_inj.1 q)
  have t4:(U != 0)=true:=by rw[bne_iff_ne];exact L
  rw[aB L] at d;have D:=hid d;clear d G J L;go_wp2_with fail;go_ret;exact⟨eI (by rw[D.out]),a3,_,Y,fun k=>absurd (by rw[D.out] at k;exact k) (by decide)⟩
 have t3:((U:Int) != 0)=false:=by rw[bne_eq_false_iff_eq,L];rfl
 have t4:(U != 0)=false:=by rw[bne_eq_false_iff_eq];exact L
 rw[aA (fun k=>k L)] at d;have D:=hid d;clear d G J L;go_wp2_with fail;go_ret;exact⟨eI (by rw[D.out]),a3,_,Y,fun _=>by rw[D.out]⟩
def CP (a:Int) (D:ByteArray×Int×Int×Int):Value:=.agg #[.string D.1,.int .u32 D.2.1,.int .i64 (if D.2.2.2=0 then a else 0),.int .i64 D.2.2.1]
theorem bA5 (a:Int) (x:ByteArray) (y z E:Int) (h:E≠0):CP a (x,y,z,E)=.agg #[.string x,.int .u32 y,.int .i64 0,.int .i64 z]:=by unfold CP;rw[aA h]
theorem aH1 (a:Int) (x:ByteArray) (y z:Int):CP a (x,y,z,0)=.agg #[.string x,.int .u32 y,.int .i64 a,.int .i64 z]:=by simp[CP]
theorem aH2:(pG.info? 89).map (·.size)=some 4:=by kernel_rfl
theorem tA {w W:World} {z:Nat} {D F G I:Value} (J:Arr W z 89 [D,F,G,I]) (L:Below z w W) (d e y2 A:Value):
  Arr ((((W.setCell ⟨z,0,none⟩ d).setCell ⟨z,1,none⟩ e).setCell ⟨z,2,none⟩ y2).setCell ⟨z,3,none⟩ A) z 89 [d,e,y2,A]/\
  Below z w ((((W.setCell ⟨z,0,none⟩ d).setCell ⟨z,1,none⟩ e).setCell ⟨z,2,none⟩ y2).setCell ⟨z,3,none⟩ A):=
 ⟨(((J.set 0 _).set 1 _).set 2 _).set 3 _,(((L.setCell (p:=⟨z,0,none⟩) (aD _) _).setCell (p:=⟨z,1,none⟩) (aD _) _).setCell (p:=⟨z,2,none⟩) (aD _) _).setCell (p:=⟨z,3,none⟩) (aD _) _⟩
theorem UJ (s:List UInt8) (a room:Int):cO s a room=
  if a<0\/room<1\/360<room then(dN,0,0,1)
  else if aP s.length a 48≠0 then(dN,0,0,aP s.length a 48)
  else if aK s a 48≠0x314159265359 then(dN,0,0,3)
  else if aP s.length (a+48) 32≠0 then(dN,0,0,aP s.length (a+48) 32)
  else if aP s.length (a+80) 16≠0 then(dN,0,0,aP s.length (a+80) 16)
  else if(dF s (a+96)).2.2≠0 then(dN,0,0,(dF s (a+96)).2.2)
  else if(dW s (dF s (a+96)).2.1 (((dF s (a+96)).1.length:Int)+2)).2.2≠0 then(dN,0,0,(dW s (dF s (a+96)).2.1 (((dF s (a+96)).1.length:Int)+2)).2.2)
  else if(rest (mkS (dF s (a+96)).1) (aK s (a+80) 16) (dW s (dF s (a+96)).2.1 (((dF s (a+96)).1.length:Int)+2)).1 room).2≠0 then(dN,0,0,(rest (mkS (dF s (a+96)).1) (aK s (a+80) 16) (dW s (dF s (a+96)).2.1 (((dF s (a+96)).1.length:Int)+2)).1 room).2)
  else if(jX (rest (mkS (dF s (a+96)).1) (aK s (a+80) 16) (dW s (dF s (a+96)).2.1 (((dF s (a+96)).1.length:Int)+2)).1 room).1.data.toList (52*room)).2≠0 then(dN,0,0,(jX (rest (mkS (dF s (a+96)).1) (aK s (a+80) 16) (dW s (dF s (a+96)).2.1 (((dF s (a+96)).1.length:Int)+2)).1 room).1.data.toList (52*room)).2)
  else if(cH (jX (rest (mkS (dF s (a+96)).1) (aK s (a+80) 16) (dW s (dF s (a+96)).2.1 (((dF s (a+96)).1.length:Int)+2)).1 room).1.data.toList (52*room)).1).toNat≠aK s (a+48) 32 then(dN,0,0,7)
  else(mkS (jX (rest (mkS (dF s (a+96)).1) (aK s (a+80) 16) (dW s (dF s (a+96)).2.1 (((dF s (a+96)).1.length:Int)+2)).1 room).1.data.toList (52*room)).1,(aK s (a+48) 32:Int),(dW s (dF s (a+96)).2.1 (((dF s (a+96)).1.length:Int)+2)).2.1,0):=rfl
theorem aH3 (a:ByteArray) (o:Int) (l:List Int) (most:Int) (h:(rest a o l most).2=0):((rest a o l most).1.size:Int)<=most:=by grind [rest,cS,JS,sL]
theorem aH4 {s:List UInt8} {a:Int} (h:(dF s a).2.2=0):(dF s a).1.length<=256/\a+16<=(dF s a).2.1/\(dF s a).2.1<=a+272:=by grind [EO,dF,dQ]
def FZ (w w':World) (s:List UInt8) (a room:Int) (e:Ending):Prop:=
 e=.returned (.tuple #[CP a (cO s a room),.int .i64 (cO s a room).2.2.2])/\Below w.heap.size w w'
theorem qI {w w':World} {s:List UInt8} {a room E:Int} (h:cO s a room=(dN,0,0,E)) (d:E≠0) (e:Below w.heap.size w w'):FZ w w' s a room (.returned (.tuple #[.agg #[.string dN,.int .u32 0,.int .i64 0,.int .i64 0],.int .i64 E])):=
 ⟨by rw[h,bA5 a _ _ _ _ d],e⟩
theorem aIx {p:List UInt8} {most:Int} (h:(jX p most).2=0):((jX p most).1.length:Int)<=most:=by grind [jX,eX]
theorem bNj:∀(l:List Prt) (d:Int),lF (gU d l)=(vE l:Int)
 |[],_=>rfl
 |p::l,d=>by
  show lF (_::gU _ l)=_;rw[GH,bNj l,bEn];push_cast;rfl
theorem bO3 {s:List UInt8} {A:Int}:∀{l:List Prt} {e:Int} (d at':Int),qZ s e l A->at'<e->oL d at' (gU d l)
 |[],_,_,_,_,_=>trivial
 |p::l,e,d,at',h,I=>by
  obtain⟨J,L,M,O,R,U⟩:=h.2.1.facts;obtain⟨-,D,F,G⟩:=h.2.1;refine⟨⟨rfl,?_,?_,D,F,G,?_⟩,?_⟩
  ·show 1<=(p.t.size:Int);omega
  ·show(p.t.size:Int)<=18720;omega
  ·show at'<p.a;have:=h.1;omega
  ·exact bO3 (d+(p.t.size:Int)) p.a h.2.2 (by omega)
theorem bRe {s:List UInt8} (h:(cI s).2=0):jA (gU 0 (cI s).1):=bO3 0 31 (ST h) (by decide)
theorem bO4:∀(l:List Prt) (d:Int) (i:Nat) (p:Prt),l[i]? =some p->(gU d l)[i]? =some ⟨p.a,p.r,d+(vE (l.take i):Int),(p.t.size:Int),p.y⟩
 |[],_,i,p,h=>by simp at h
 |x::l,d,0,p,h=>by
  obtain rfl:x=p:=by simpa using h
  show some _=some (⟨x.a,x.r,d+((0:Nat):Int),_,x.y⟩:Ent);rw[Int.natCast_zero,Int.add_zero]
 |x::l,d,i+1,p,h=>by
  have e:l[i]? =some p:=by simpa using h
  have A:=bO4 l (d+(x.t.size:Int)) i p e;show(gU (d+(x.t.size:Int)) l)[i]? =_;rw[A,List.take_succ_cons,bEn]
  congr 2
  push_cast;omega
structure BIn (t:ByteArray) (P a:List UInt8) (m:List Int) (o n:Nat):Prop where
 hP:P=bT t.data.toList
 ha:a=bY P
 hm:m=sqS (mkS P)
 ho:(o:Int)=sqO (mkS P)
 hn:n=a.length+2
 hA:sqA (mkS P)=mkS a
 hE:sqE (mkS P)=0
 o16:o<65536
 an:a≠[]
 a256:a.length<=256
 n2:3<=n
 n258:n<=258
 m0:0<m.length
 m361:m.length<=9000
 rng:∀x∈m,0<=x/\x<(n:Int)
 c0:bM (eN m n 0)=0
 c1:bM (eN m n 1)=0
 l0:(eN m n 0).length=n
 l1:(eN m n 1).length=n
theorem BIn.of {t:ByteArray} (U:0<t.size) (V:(bT t.data.toList).length<=8000) (A:iZ (mkS (bT t.data.toList))):∃P a m o n,BIn t P a m o n:=by
 have Y:=mV t;have I:t.data.toList≠[]:=fun e=>by grind
 have J:=uM t.data.toList.length t.data.toList (aD _);have L:=J.2.1 I;have d:0<(mkS (bT t.data.toList)).size:=by grind [cS,bT,iZ,mkS]
 have Z:(mkS (bT t.data.toList)).size=(bT t.data.toList).length:=cS _;obtain⟨D,M,f3,f4⟩:=aDi d A;have a0:=(QY (mkS (bT t.data.toList))).1;have hor:=SI d A;have O:=vX (bT t.data.toList);have F:=JF L;have R:=LM d;have G:=ET d;rw[dP] at D G;have a1:=List.length_pos_iff.2 F;refine⟨_,_,_,gX (oOf (mkS (bT t.data.toList))) (mkS (bT t.data.toList)).size,_,rfl,rfl,rfl,R.symm,rfl,G,aDa d,by omega,F,O,by omega,by omega,M,by omega,D,?_,?_,?_,?_⟩
 ·grind [xR,bT,iZ,mkS]
 ·grind [xR,bT,iZ,mkS]
 ·grind [wF,bT,iZ,mkS]
 ·grind [wF,bT,iZ,mkS]
theorem BIn.blk {t:ByteArray} {P a:List UInt8} {m:List Int} {o n:Nat} (h:BIn t P a m o n):eJ t=aT 0x314159265359 48++aT (cH t.data.toList).toNat 32++aT o 16++iL a++(aT 2 3++aT (dS m n).length 15++eW (fJ (dS m n))++fI (eN m n 0)++fI (eN m n 1)++iB (eN m n 0) (eN m n 1) (dS m n) (dA m)):=by
 have e:(sqO (mkS (bT t.data.toList))).toNat=o:=by have:=h.ho;rw[h.hP] at this;omega
 unfold eJ uN ER wJ;rw[e,<-h.hP,<-h.ha,<-h.hm,<-h.hn]
theorem aH5 {l g:List Int} (h:gM l) (d:∀x∈g,0<=x/\x<(l.length:Int)) (e:0<g.length):0<(gF l g).length:=by
 cases g with
 |nil=>simp at e
 |cons x g=>
  have A:=d x (List.mem_cons_self ..);have:=(lX h (s:=x.toNat) (by omega)).1;unfold gF;rw[yR,aL,dV];omega
theorem bA6 (s:List UInt8):0<(iL s).length:=by grind [iL,pO]
theorem aH6 (l:List Int):0<(fI l).length:=by grind [fI,dV]
theorem CQ {l:List Int} (h:gM l):(fI l).length<=5+39*258:=by grind [KV,fI,dV,gM]
theorem aH7 {l:List Int} (h:0<l.length):0<(eW l).length:=by
 cases l with
 |nil=>simp at h
 |cons x l=>
  unfold eW oC;rw[yR,aL,aL];simp;omega
def jZ (t:ByteArray) (room:Int):Int:=if t.size=0\/room<1\/360<room then 1 else if room<((bT t.data.toList).length:Int) then 4 else 0
noncomputable def tB (t:ByteArray) (room:Int):List Bool:=if jZ t room=0 then eJ t else[]
def FV (w w':World) (t:ByteArray) (room:Int) (e:Ending):Prop:=e=.returned (.tuple #[fT (tB t room),.int .i64 (jZ t room)])/\Below w.heap.size w w'/\(jZ t room=0->iZ (mkS (bT t.data.toList)))
theorem bA7:fT []=.agg #[.string ⟨#[]⟩,.int .i64 0]:=rfl
theorem zZ {w w':World} {t:ByteArray} {room E:Int} (h:jZ t room=E) (d:E≠0) (e:Below w.heap.size w w'):FV w w' t room (.returned (.tuple #[.agg #[.string ⟨#[]⟩,.int .i64 0],.int .i64 E])):=by grind [tB,bA7,jZ,FV]
theorem rdQ {d A D:Prop} {B:Nat} {w0 w':World} {v:Value} {m:List Int} (e:RdI w0 v m) (F:w0.heap.size=B) (h:d/\A/\D/\Below B w0 w'/\B<=w'.heap.size):RdI w' v m:=e.below (F▸h.2.2.2.1)
theorem bA8 {m:List Int} {n j:Nat} {g:List Int} (h:(dA m)[j]? =some g):(dS m n)[j]? =some (rO (eN m n 0) (eN m n 1) g):=by grind [dS,dA,rO,eN]
theorem UK {d e A:List Int} {D:List (List Int)} {k:Nat} {c:Int} {g:List Int} (F:A[k]? =some c) (G:D[k]? =some g):iB d e (A.take (k+1)) (D.take (k+1))=iB d e (A.take k) (D.take k)++gF (if c=0 then d else e) g:=by grind [List.getElem?_eq_some_iff,cG,RV,List.length_take,iB,gF]
end Go.Proofs.YtfckbfofgeilgaaGreatDoor
