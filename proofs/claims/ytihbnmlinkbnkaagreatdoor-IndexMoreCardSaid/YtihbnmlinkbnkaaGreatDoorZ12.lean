/-
  Texts put together (part 12): the walks and the plain laws on which the statement stands.
-/
import Derived.Test.YtihbnmlinkbnkaaGreatDoorZ7
import Derived.Test.YtihbnmlinkbnkaaGreatDoorZ8
import Derived.Test.YtihbnmlinkbnkaaGreatDoorZ9
set_option maxRecDepth 100000
set_option maxHeartbeats 12800000
set_option linter.unusedVariables false
set_option linter.unusedSimpArgs false
open Go.Proofs.Tryz
open Go.Proofs.Tryz renaming prog->pG
open BitVec renaming toNat_shiftLeft->IR
open Go.IntKind renaming i64->aJ,u32->sH,wrap_i64->aM,wrap_u32'->aL4
open Go.RowKit.Below renaming refl->aH
open List renaming append_nil->dI,drop_eq_nil_of_le->IU,getD_eq_getElem?_getD->bV,getElem?_drop->jR,getElem?_eq_getElem->aN,getElem?_take->pD,length->nU,length_drop->bA,length_pos_iff->gG,length_take->aQ,replicate->aX,take_of_length_le->cD
open Nat renaming le_refl->aD,shiftLeft_eq->IS,zero_le->aO
namespace Go.Proofs.YtihbnmlinkbnkaaGreatDoor
section
theorem aUc (l:List Bool) (i:Nat) (h:i<l.length):(eR (aI l))[i]? =l[i]? :=by
 rw[wA,aB (by rw[iJ];omega),tR,bV,aN h];rfl
theorem aUd (x l y:List Bool):seg (aI (x++l++y)) x.length l.length=l:=by
 apply List.ext_getElem?;intro i;unfold seg;rw[pD,jR]
 by_cases hi:i<l.length
 ·rw[aB hi,aUc _ _ (by simp;omega),List.getElem?_append_left (by simp;omega),List.getElem?_append_right (by omega),show x.length+i-x.length=i by omega]
 ·rw[aA hi,List.getElem?_eq_none (by omega)]
theorem aUe (x l y:List Bool):cR (aI (x++l++y)) x.length l:=
 ⟨by rw[iJ];simp;omega,aUd x l y⟩
theorem ES (l:List Bool):cR (aI l) 0 l:=by
 have:=aUe [] l []
 simpa using this
theorem LK {s:List UInt8} {a:Nat} {l:List Bool} (h:cR s a l) {i:Nat} (hi:i<l.length):dO s (a+i)=l.getD i false:=by
 obtain⟨A,d⟩:=h;have e:(seg s a l.length)[i]? =l[i]? :=by rw[d]
 unfold seg at e;rw[pD,aB hi,jR,wA,aB (by omega),aN hi] at e;rw[bV,aN hi]
 injection e
end
section
open Go.RowKit Go Go.Shelf
theorem aGa (s:List UInt8) (a:Int) (k:Nat) (h:(bC s a k).2.2.2≠0):∀m,(bC s a (k+m))=bC s a k
 |0=>rfl
 |m+1=>by
  have d:=aGa s a k h m
  grind [bC]
theorem TL (s:List UInt8) (a n:Nat) (d:2<=n) (A:n<=258):gS s (a:Int) (n:Int)=if(bC s a n).2.2.2≠0 then([],0,(bC s a n).2.2.2) else((bC s a n).1,(bC s a n).2.2.1,0):=by grind [gS,bC]
theorem aGb {s:List UInt8} {a n k:Nat} (d:2<=n) (A:n<=258) (F:k<=n) (h:(bC s a k).2.2.2≠0):gS s (a:Int) (n:Int)=([],0,(bC s a k).2.2.2):=by
 have:=aGa s a k h (n-k)
 grind [TL,bC,gS]
theorem aGc (s:List UInt8) (a:Int):bC s a 0=([],(aK s a 5:Int),a+5,if aP s.length a 5≠0 then aP s.length a 5 else if(aK s a 5:Int)<1\/20<(aK s a 5:Int) then 3 else 0):=rfl
theorem aGd {s:List UInt8} {a:Int} {k:Nat} (h:(bC s a k).2.2.2=0):bC s a (k+1)=
  if(fS s (bC s a k).2.2.1 (bC s a k).2.1).2.2≠0 then((bC s a k).1,(bC s a k).2.1,(bC s a k).2.2.1,(fS s (bC s a k).2.2.1 (bC s a k).2.1).2.2)
  else((bC s a k).1++[(fS s (bC s a k).2.2.1 (bC s a k).2.1).1],(fS s (bC s a k).2.2.1 (bC s a k).2.1).1,(fS s (bC s a k).2.2.1 (bC s a k).2.1).2.1,0):=by grind [bC,fS]
def CL (w w':World) (s:List UInt8) (a n:Nat) (e:Ending):Prop:=
 ∃v,e=.returned (.tuple #[v,.int .i64 (gS s (a:Int) (n:Int)).2.1,.int .i64 (gS s (a:Int) (n:Int)).2.2])/\OwI w' w.heap.size v (gS s (a:Int) (n:Int)).1/\Below w.heap.size w w'
theorem FL {w w':World} {s:List UInt8} {a n:Nat} {E:Int} (h:gS s (a:Int) (n:Int)=([],0,E)) (d:Below w.heap.size w w'):CL w w' s a n (.returned (.tuple #[.slice none 0 0,.int .i64 0,.int .i64 E])):=by grind [OwI.nil,gS,CL]
end
section
open Go.RowKit Go
theorem bAf (b:UInt8) (W:World):(convert 48 9 (.slice (some ⟨W.heap.size,0,none⟩) 1 1)).run pG (W.alloc (.cells #[.int .u8 (b.toNat:Int)] 5)).drew=.ok (.string (mkS [b])) (W.alloc (.cells #[.int .u8 (b.toNat:Int)] 5)).drew:=
 mP (l:=[b]) (Arr.rdB (w:=(W.alloc (.cells #[.int .u8 (b.toNat:Int)] 5)).drew) (l:=[b]) (Arr.new W 5 [.int .u8 (b.toNat:Int)]) rfl (by decide))
theorem aHf (s:ByteArray) (w:World) (hs:s.size<=1000000):
  Calls pG 99 #[.string s] w fun e w'=>e=.returned (.string (mkS (bT s.data.toList)))/\Below w.heap.size w w':=by
 have H:=hid (show s.data.toList.length=s.size by simp);go_enter func99,ntmps99;go_wp2_with fail
 go_loopg [3,4,5] s.size (fun g s3 s4 _s5 wr=>∃(a:Nat) (o:List UInt8),a<=s.size/\g=s.size-a/\s4=.int .i64 (a:Int)/\s3=.string (mkS o)/\Hid (o++bT (s.data.toList.drop a)=bT s.data.toList)/\Below w.heap.size w wr)
 case atStart=>exact⟨0,[],aO _,rfl,rfl,rfl,hid (by simp),aH _ _⟩
 case round=>
  obtain⟨a,o,ha,L,rfl,rfl,V,I⟩:=hrel;have HG:=hid L;clear L
  by_cases b3:a<s.size
  ·have t1:decide ((a:Int)<(s.size:Int))=true:=aG (by omega);have Z:s.data.toList.drop a≠[]:=fun e=>by have:=congrArg nU e;rw[bA,H.out] at this;simp at this;omega
   have a4:=mH _ Z;have M:=aTn Z V.out;have b4:o.length<=2000000:=by
    have h1:=(uM s.data.toList.length s.data.toList (aD _)).1;have h2:=congrArg nU V.out;rw[List.length_append] at h2;rw[H.out] at h1;omega
   have hx:s.extract a s.size=mkS (s.data.toList.drop a):=by
    rw[iW,cD (by rw[bA,H.out];omega)]
   have b0:(s.data.toList.drop a).length=s.size-a:=by rw[bA,H.out]
   obtain⟨r,O⟩:∃r,r=s.data.toList.drop a:=⟨_,rfl⟩;rw[<-O] at hx a4 M b0;have a0:=fun W=>bAe (mkS r) W (by rw[cS];omega)
   obtain⟨n,hn⟩:∃n,n=bF r:=⟨_,rfl⟩;rw[dP,<-hn] at a0;rw[<-hn] at a4 M;have a5:r.drop n=s.data.toList.drop (a+n):=by rw[O,List.drop_drop]
   have a6:=hid M;have HD:=hid a5;have HR:=hid O;clear Z hn O M a5;have q1:a<=s.size:=ha;have q2:(a:Int)<=(s.size:Int):=by omega
   by_cases h4:n<4
   ·have t2:decide ((n:Int)<4)=true:=aG (by omega);have m1:aJ.wrap ((a:Int)+(n:Int))=((a+n:Nat):Int):=by rw[aM];omega
    have q3:a+n<=s.size:=by omega
    have q4:((a+n:Nat):Int)<=(s.size:Int):=by omega
    have q5:(a:Int)<=((a+n:Nat):Int):=by omega
    have q6:a<=a+n:=by omega
    have J:s.extract a (a+n)=mkS (pP r n):=by
     rw[iW,<-HR.out,show a+n-a=n by omega]
     congr 1
     unfold pP;rw[aA (by omega),dI,Nat.min_eq_left (by omega)]
    have a7:(pP r n).length<=5:=by
     rw[RR r n (by omega)];split<;>omega
    obtain⟨p,F⟩:∃p,p=pP r n:=⟨_,rfl⟩;rw[<-F] at J a7;have HP:=hid F;clear F;obtain⟨c,A⟩:∃c:Nat,c=a+n:=⟨_,rfl⟩;rw[<-A] at m1 q3 q4 q5 q6 J;have b1:mkS o++mkS p=mkS (o++p):=sI o p;have HC:=hid A;clear A;go_wp2_with fail;refine(a0 _).mono ?_;rintro e w1 ⟨rfl,U⟩;go_wp2_with fail;have L:=HG.out;have A:=HC.out;have a1:=I.size
    go_roundg (s.size-c)
    case measure=>omega
    case rel=>exact⟨c,o++p,q3,rfl,by go_num,rfl,hid (by rw[HP.out,A,<-HD.out];exact a6.out),I.trans (U.mono a1)⟩
   ·have t2:decide ((n:Int)<4)=false:=aE (by omega);have m1:aJ.wrap ((a:Int)+4)=((a+4:Nat):Int):=by rw[aM];omega
    have m2:aJ.wrap ((a:Int)+(n:Int))=((a+n:Nat):Int):=by rw[aM];omega
    have m3:aJ.wrap ((n:Int)-4)=((n-4:Nat):Int):=by rw[aM];omega
    have J:s.extract a (a+4)=mkS (r.take 4):=by
     rw[iW,<-HR.out,show a+4-a=4 by omega]
    obtain⟨d,hd⟩:∃d:Nat,d=n-4:=⟨_,rfl⟩;obtain⟨b,hb⟩:∃b:UInt8,b=UInt8.ofNat d:=⟨_,rfl⟩;have a8:b.toNat=d:=by rw[hb,UInt8.toNat_ofNat'];omega
    have m4:IntKind.u8.wrap (d:Int)=(b.toNat:Int):=by rw[a8,IntKind.wrap_u8];omega
    have a2:r.take 4++[b]=pP r n:=by
     unfold pP;rw[aB (by omega),Nat.min_eq_right (by omega),hb,hd]
    rw[<-hd] at m3;obtain⟨G,a9⟩:∃G:Nat,G=a+4:=⟨_,rfl⟩;obtain⟨c,A⟩:∃c:Nat,c=a+n:=⟨_,rfl⟩;rw[<-a9] at m1 J;rw[<-A] at m2;have q3:G<=s.size:=by omega
    have q4:(G:Int)<=(s.size:Int):=by omega
    have q5:(a:Int)<=(G:Int):=by omega
    have q6:a<=G:=by omega
    obtain⟨p,F⟩:∃p,p=r.take 4:=⟨_,rfl⟩;have a7:p.length<=4:=by rw[F,aQ];omega
    rw[<-F] at J a2;have b1:mkS o++mkS p=mkS (o++p):=sI o p;have b5:mkS (o++p)++mkS [b]=mkS (o++p++[b]):=sI _ _;have b2:=hid a2;have HC:=hid A;have q7:c<=s.size:=by omega
    have b6:=bAf b;have q8:¬9223372036854775807<o.length+p.length:=by omega
    have q9:¬9223372036854775807<o.length+p.length+1:=by omega
    clear hb a8 hd F a2 a9 A;go_wp2_with fail;refine(a0 _).mono ?_;rintro e w1 ⟨rfl,U⟩;go_wp2_with fail
    go_region
    all_goals
     go_wp2_with fail;have L:=HG.out;have A:=HC.out;have a1:=I.size;have b7:=U.size
     go_roundg (s.size-c)
     case measure=>omega
     case rel=>exact⟨c,o++(p++[b]),q7,rfl,by go_num,rfl,hid (by rw[b2.out,A,<-HD.out];exact a6.out),(I.trans (U.mono a1)).trans (((aH _ w1).alloc (aD _) _).mono (by omega)).drew⟩
  ·have t1:decide ((a:Int)<(s.size:Int))=false:=aE (by omega);have a3:=V.out;rw[IU (by rw[H.out];omega),LD,dI] at a3;have HF:=hid a3;clear a3;go_wp2_with fail;go_ret;exact⟨yV (by rw[HF.out]),I⟩
theorem CG (a b:BitVec 32):bits .xor .u32 (a.toNat:Int) (b.toNat:Int)=((a^^^b).toNat:Int):=by
 rw[u32_xor_nat _ _ a.isLt b.isLt,BitVec.toNat_xor]
theorem SZ (a:BitVec 32):sH.wrap ((a.toNat:Int)*2)=((a<<<1).toNat:Int):=by
 rw[aL4,IR,IS];omega
theorem aWk (a:BitVec 32):sH.wrap ((a.toNat:Int)*256)=((a<<<8).toNat:Int):=by
 rw[aL4,IR,IS];omega
theorem aWl (a:Nat) (_h:a<256):sH.wrap ((a:Int)*16777216)=((BitVec.ofNat 32 a<<<24).toNat:Int):=by
 rw[aL4,IR,IS,BitVec.toNat_ofNat];omega
theorem aWm (a:BitVec 32):(a.toNat:Int)/16777216=((a>>>24).toNat:Int):=by
 rw[BitVec.toNat_ushiftRight,Nat.shiftRight_eq_div_pow];omega
theorem aEl (a:BitVec 32):(a.toNat:Int)/2147483648=(a.msb.toNat:Int):=by
 rw[BitVec.msb_eq_decide];have:=a.isLt
 by_cases h:2^(32-1)<=a.toNat
 ·grind
 grind
theorem aWn (a:BitVec 32):bits .and .u32 (a.toNat:Int) 2147483648=if a.msb then 2147483648 else 0:=by
 rw[show(2147483648:Int)=((2147483648:Nat):Int) from rfl,u32_and_nat _ _ a.isLt (by decide),show(2147483648:Nat)=2^31 from rfl,Go.nat_bit 31 a.toNat]
 grind [aEl]
theorem aEm (a:BitVec 32):bits .xor .u32 (a.toNat:Int) 4294967295=((~~~ a).toNat:Int):=by
 have h:=CG a (0xffffffff#32);have e:(((0xffffffff#32:BitVec 32).toNat:Nat):Int)=4294967295:=by decide
 rw[e] at h;rw[h];have:a^^^(0xffffffff#32)= ~~~ a:=by
  have:=BitVec.xor_allOnes (x:=a);exact this
 rw[this]
theorem aWo (a:BitVec 32):sH.wrap (2*(a.toNat:Int))=((a<<<1).toNat:Int):=by grind [SZ]
theorem aEn (a:BitVec 32):bits .xor .u32 (a.toNat:Int) 79764919=((a^^^79764919#32).toNat:Int):=by
 have h:=CG a (79764919#32)
 grind
theorem aWp (X:Nat) (x:BitVec 32) (A:X=x.toNat) (b:Bool) (w:World):
  Calls pG 168 #[.int .u32 (X:Int),.int .u32 (b.toNat:Int)] w fun e w'=>e=.returned (.int .u32 ((wI x b).toNat:Int))/\w'=w:=by
 have O:=aEl x;have L:=aWo x;obtain⟨y,F⟩:∃y,y=x<<<1:=⟨_,rfl⟩;have M:=aEn y;rw[<-F] at L;have G:=hid (show wI x b=if x.msb != b then y^^^79764919#32 else y by rw[F];rfl);obtain⟨Y,d⟩:∃Y,Y=y.toNat:=⟨_,rfl⟩;obtain⟨Z,I⟩:∃Z,Z=(y^^^79764919#32).toNat:=⟨_,rfl⟩;obtain⟨m,J⟩:∃m,m=x.msb:=⟨_,rfl⟩;rw[<-A,<-J] at O;rw[<-A,<-d] at L;rw[<-d,<-I] at M;rw[<-J] at G;have U:=hid d;have V:=hid I;clear A F d I J
 by_cases h:m=b
 ·subst h;have t1:((m.toNat:Int) != (m.toNat:Int))=false:=by simp
  have t2:((m.toNat:Int)==(m.toNat:Int))=true:=by simp
  clear M;go_enter func168,ntmps168;go_wp2_with fail;go_ret;exact⟨eI (by rw[G.out,U.out];cases m<;>rfl),rfl⟩
 ·have t1:((m.toNat:Int) != (b.toNat:Int))=true:=by cases m<;>cases b<;>simp_all
  have t2:((m.toNat:Int)==(b.toNat:Int))=false:=by cases m<;>cases b<;>simp_all
  have H:=hid h;clear h;go_enter func168,ntmps168;go_wp2_with fail;go_ret;refine⟨eI ?_,rfl⟩;have h:=H.out;rw[G.out,V.out,aB (by cases m<;>cases b<;>simp_all)]
theorem aEo (c:BitVec 32) (s:List UInt8) (k:Nat) (b:UInt8) (h:s[k]? =some b):nM c (s.take (k+1))=rP (nM c (s.take k)) b.toNat 8:=by
 rw[List.take_add_one,h,Option.toList_some,aTm]
theorem aWq (c:BitVec 32) (s:ByteArray) (w:World) (hs:s.size<=140737488355328):
  Calls pG 108 #[.int .u32 (c.toNat:Int),.string s] w fun e w'=>e=.returned (.int .u32 ((~~~ nM (~~~ c) s.data.toList).toNat:Int))/\w'=w:=by
 have HL:=hid (show s.data.toList.length=s.size by simp);have I:=aEm c;obtain⟨C,hC⟩:∃C,C=c.toNat:=⟨_,rfl⟩;obtain⟨D,J⟩:∃D,D=(~~~ c).toNat:=⟨_,rfl⟩;rw[<-hC] at I ⊢;rw[<-J] at I;have HD:=hid J;obtain⟨d,a1⟩:∃d,d= ~~~ c:=⟨_,rfl⟩;rw[<-a1] at HD ⊢;clear hC J a1;go_enter func108,ntmps108;go_wp2_with fail
 go_loopg [5,6,7] s.size (fun g L s6 _s7 wr=>∃k X:Nat,k<=s.size/\g=s.size-k/\s6=.int .i64 (k:Int)/\L=.int .u32 (X:Int)/\Hid (X=(nM d (s.data.toList.take k)).toNat)/\wr=w)
 case atStart=>exact⟨0,D,aO _,rfl,rfl,rfl,HD,rfl⟩
 case round=>
  obtain⟨k,X,hk,A,rfl,rfl,M,rfl⟩:=hrel;have O:=hid A;clear A I
  by_cases a3:k<s.size
  ·have t1:decide ((k:Int)<(s.size:Int))=true:=aG (by omega);have hb:=s[k].toNat_lt;have HS:=hid (aEo d s.data.toList k s[k] (fW s k a3));have a4:=O;obtain⟨x,F⟩:∃x,x=nM d (s.data.toList.take k):=⟨_,rfl⟩;rw[<-F] at M HS;clear F;go_wp2_with fail
   go_loopg [5,7] 8 (fun g L s7 wx=>∃j Y:Nat,j<=8/\g=8-j/\s7=.int .i64 (7-(j:Int))/\L=.int .u32 (Y:Int)/\Hid (Y=(rP x s[k].toNat j).toNat)/\wx=wr)
   case atStart=>exact⟨0,X,by omega,rfl,by go_num,rfl,M,rfl⟩
   case round=>
    obtain⟨j,Y,hj,A,rfl,rfl,HY,rfl⟩:=hrel;have O:=hid A;clear A
    by_cases a5:j<8
    ·obtain⟨q,G⟩:∃q:Nat,q=7-j:=⟨_,rfl⟩;have H:(7:Int)-(j:Int)=(q:Int):=by omega
     have t2:decide ((q:Int)>=0)=true:=aG (by omega);have t3:decide (0<=(q:Int))=true:=aG (by omega);have e4:=FA s[k].toNat q;have e7:min q 8=q:=by omega
     rw[H];have HQ:=hid G;obtain⟨z,U⟩:∃z,z=s[k].toNat.testBit q:=⟨_,rfl⟩;rw[<-U] at e4;have e5:(z.toNat:Int)%4294967296=(z.toNat:Int):=by cases z<;>decide
     have a2:=fun W=>aWp Y (rP x s[k].toNat j) HY.out z W
     have HC:=hid (show rP x s[k].toNat (j+1)=wI (rP x s[k].toNat j) z by rw[U,G];rfl);obtain⟨V,hV⟩:∃V,V=(wI (rP x s[k].toNat j) z).toNat:=⟨_,rfl⟩;rw[<-hV] at a2;have HV:=hid hV;clear G H U hV;go_wp2_with fail;refine(a2 _).mono ?_;rintro e w1 ⟨rfl,rfl⟩;go_wp2_with fail;have A:=O.out;have G:=HQ.out
     go_roundg (8-(j+1))
     case measure=>omega
     case rel=>exact⟨j+1,V,by omega,rfl,by go_num,rfl,hid (by rw[HV.out,HC.out]),rfl⟩
    ·have t2:decide ((7:Int)-(j:Int)>=0)=false:=aE (by omega);have t3:decide (0<=(7:Int)-(j:Int))=false:=aE (by omega);have H:j=8:=by omega
     subst H;go_wp2_with fail;have A:=a4.out
     go_roundg (s.size-(k+1))
     case measure=>omega
     case rel=>exact⟨k+1,Y,by omega,rfl,by go_num,rfl,hid (by rw[HS.out];exact HY.out),rfl⟩
  ·have t1:decide ((k:Int)<(s.size:Int))=false:=aE (by omega);obtain⟨x,F⟩:∃x,x=nM d (s.data.toList.take k):=⟨_,rfl⟩;have a0:=M.out;rw[<-F] at a0;have x2:=aEm x;rw[<-a0] at x2;obtain⟨Z,hZ⟩:∃Z,Z=(~~~ x).toNat:=⟨_,rfl⟩;rw[<-hZ] at x2;have HF:=hid (show((Z:Nat):Int)=((~~~ nM d s.data.toList).toNat:Int) by rw[hZ,F,cD (by rw[HL.out];omega)]);clear F a0 hZ;go_wp2_with fail;go_ret;exact⟨eI HF.out,rfl⟩
theorem TA (s:ByteArray) (w:World) (A:s.size<=140737488355328):
  Calls pG 59 #[.string s] w fun e w'=>e=.returned (.int .u32 ((cH s.data.toList).toNat:Int))/\w'=w:=by
 have d:=aWq (0#32) s w A;have F:(((0#32:BitVec 32).toNat:Nat):Int)=0:=rfl;have G:(~~~ nM (~~~ (0#32)) s.data.toList)=cH s.data.toList:=rfl;rw[F,G] at d;go_enter func59,ntmps59;go_wp2_with fail;refine d.mono ?_;rintro e w1 ⟨rfl,rfl⟩;go_wp2_with fail;go_ret;exact⟨rfl,rfl⟩
end
section
open Go.RowKit
theorem zY (l:List Bool) (w:World) (hl:l.length<=1000000):
  Calls pG 58 #[.agg #[.string (mkS (aI l)),.int .i64 (l.length:Int)]] w fun e w'=>∃v,e=.returned v/\RdI w' v (bI l)/\Below w.heap.size w w':=by
 go_enter func58,ntmps58;go_wp2_with fail;have A:=Arr.new w 79 [.string (mkS (aI l)),.int .i64 (l.length:Int)];have L:Below w.heap.size w (w.alloc (.cells #[.string (mkS (aI l)),.int .i64 (l.length:Int)] 79)):=bD (aH _ _) _;change Arr (w.alloc (.cells #[.string (mkS (aI l)),.int .i64 (l.length:Int)] 79)) _ _ _ at A;generalize w.alloc (.cells #[.string (mkS (aI l)),.int .i64 (l.length:Int)] 79)=w0 at*
 have a2:(aI l).length<=125001:=by rw[iJ];omega
 refine(aEd (mkS (aI l)) _ (by rw[cS];omega)).mono ?_;rintro e w1 ⟨v,rfl,d,H⟩;rw[dP] at d;obtain⟨a,c,rfl,a3,a4,_⟩:=d.rd.open;have M:=A.below H A.lt;have c1:=M.cell (i:=1) rfl;have a5:(bI (eR (aI l))).length=8*((l.length+7)/8):=by rw[cX,qU,iJ]
 have F:(bI (eR (aI l))).take l.length=bI l:=by rw[aV5,aSu]
 have O:RdI w1 (.slice a l.length c) (bI l):=by
  have a6:l.length=(bI l).length:=(cX l).symm;rw[<-F];have U:=d.rd;obtain⟨a',c',e,k1,I,V⟩:=U.open
  injection e with e1 e2 e3
  subst e1;subst e3;rcases Nat.eq_zero_or_pos l.length with q|q
  ·rw[q];exact⟨_,_,rfl,aO _,I,.inl (by simp)⟩
  ·obtain⟨b,off,rfl,Z,a0⟩:=V (by omega);have G:((bI (eR (aI l))).take l.length).length=l.length:=by rw[F,cX]
   refine⟨_,_,by rw[G],by rw[G];omega,I,.inr ⟨b,off,rfl,Z,fun j J=>?_⟩⟩;rw[List.length_map,G] at J;rw[a0 j _ (aN (by omega))];simp[List.getD,show j<(bI (eR (aI l))).length by omega,J]
 have a1:=aW L H;have z1:l.length<=c:=by omega
 have z2:(l.length:Int)<=(c:Int):=by omega
 clear F d;go_wp2_with fail;go_ret;exact⟨_,rfl,O,a1⟩
end
section
open Go.RowKit Go Go.Shelf
theorem Bld.drew {w:World} {B b:Nat} {l:List UInt8} (h:Bld w B b l):Bld w.drew B b l:=h
theorem Bld.drewN {w:World} {B b:Nat} {l:List UInt8} (h:Bld w B b l) (n:Nat):Bld (w.drewN n) B b l:=h
theorem aHj (b A:Nat) (c:UInt8) (n M:Nat) (X:List UInt8) (w:World) (h:Bld w b b X) (I:w.cell? ⟨A,0,none⟩=some (.int .i64 (M:Int))) (J:A<b) (a3:b<w.heap.size) (hM:M<=1000000) (L:X.length<=M+1) (hn:n<=255):
  Calls pG 189 #[.int .u8 (c.toNat:Int),.int .i64 (n:Int),.pointer (some ⟨b,0,none⟩),.pointer (some ⟨A,0,none⟩)] w fun e w'=>e=.returned (.tuple #[])/\Bld w' b b ((X++aX n c).take (M+1))/\Below b w w':=by
 go_enter func189,ntmps189;go_wp2_with fail
 go_loopg [7] n (fun g O wr=>∃(k:Nat) (Y:List UInt8),k<=n/\g=n-k/\O=.int .i64 (k:Int)/\Hid (Y=(X++aX k c).take (M+1))/\Bld wr b b Y/\Below b w wr)
 case atStart=>exact⟨0,X,aO _,rfl,rfl,hid (by rw[List.replicate_zero,dI,cD L]),h,aH _ _⟩
 case round=>
  obtain⟨k,Y,U,F,rfl,G,H,d⟩:=hrel;have V:=hid F;clear F
  by_cases a4:k<n
  ·have t1:decide ((k:Int)<(n:Int))=true:=aG (by omega);have c1:=(d.cell (p:=⟨A,0,none⟩) J).trans I;have a5:max (M:Int) 0=(M:Int):=by omega
   have Z:=H.drew;have a6:=d.size;go_wp2_with fail
   by_cases a0:M<Y.length
   ·have t2:decide ((M:Int)<(Y.length:Int))=true:=aG (by omega);have t3:decide ((Y.length:Int)>(M:Int))=true:=aG (by omega)
    go_region_with (go_at_call 190;refine(MQ b b Y _ (by assumption)).mono ?_;rintro e w1 ⟨rfl,rfl⟩)
    all_goals
     go_wp2_with fail
     first|go_end0|refine bodyPost_ret (results_none rfl _ _ _) rfl ?_
     exact⟨rfl,by rw[aU3 U G.out a0];exact H,d.drew⟩
   ·have t2:decide ((M:Int)<(Y.length:Int))=false:=aE (by omega);have t3:decide ((Y.length:Int)>(M:Int))=false:=aE (by omega);have a1:=aHi b b Y c wr.drew Z (by omega) (by show b<=wr.heap.size;omega)
    go_region_with (go_at_call 190;refine(MQ b b Y _ (by assumption)).mono ?_;rintro e w1 ⟨rfl,rfl⟩)
    all_goals
     go_wp2_with fail;refine a1.mono ?_;rintro e w2 ⟨rfl,h2,b2,_⟩;go_wp2_with fail;have F:=V.out
     go_roundg (n-(k+1))
     case measure=>omega
     case rel=>exact⟨k+1,Y++[c],by omega,rfl,by go_num,hid (aU4 G.out (by omega)),h2,d.drew.trans b2⟩
  ·have t1:decide ((k:Int)<(n:Int))=false:=aE (by omega);have a2:k=n:=by omega
   subst a2;go_wp2_with fail
   go_end0
   exact⟨rfl,by rw[<-G.out];exact H,d⟩
theorem MR (w:World):Bld (w.alloc (.cells #[.pointer none,.slice none 0 0] 105)) w.heap.size w.heap.size []:=Lib.IsBuilderF.of (Lib.fresh_isBuilder 105 5 w)
theorem bAm (s:ByteArray) (M:Nat) (w:World) (hs:s.size<=1000000) (hM:M<=1000000):
  Calls pG 125 #[.string s,.int .i64 (M:Int)] w fun e w'=>e=.returned (.tuple #[.string (mkS (jX s.data.toList M).1),.int .i64 (jX s.data.toList M).2])/\Below w.heap.size w w':=by
 have HL:=hid (show s.data.toList.length=s.size by simp);have b8:∀(fn:Fn) (first cap:Array Value) (w:World),(Instr.makeFunc fn first cap).run pG w=.ok (.func fn first cap) w:=fun _ _ _ _=>rfl
 have hE:∀args W,(callFunc 189 args).run pG W=.ok (.enter 189 args) W:=enters_of func189 (by kernel_rfl) rfl;go_enter func125,ntmps125;go_wp2_with fail;have a4:=MR (w.alloc (.cells #[.int .i64 (M:Int)] 3));rw[World.size_alloc] at a4;have a9:((w.alloc (.cells #[.int .i64 (M:Int)] 3)).alloc (.cells #[.pointer none,.slice none 0 0] 105)).cell? ⟨w.heap.size,0,none⟩=some (.int .i64 (M:Int)):=((Arr.new w 3 [.int .i64 (M:Int)]).alloc _).cell (i:=0) rfl
 have b9:((w.alloc (.cells #[.int .i64 (M:Int)] 3)).alloc (.cells #[.pointer none,.slice none 0 0] 105)).heap.size=w.heap.size+1+1:=by simp
 have a2:Below w.heap.size w ((w.alloc (.cells #[.int .i64 (M:Int)] 3)).alloc (.cells #[.pointer none,.slice none 0 0] 105)):=((aH _ w).alloc (aD _) _).alloc (by simp) _;generalize (w.alloc (.cells #[.int .i64 (M:Int)] 3)).alloc (.cells #[.pointer none,.slice none 0 0] 105)=w0 at*
 go_loopg [8,9,10,14] s.size (fun g s8 s9 _s10 b0 wr=>∃(k r:Nat) (c:UInt8) (o:List UInt8),k<=s.size/\g=s.size-k/\b0=.int .i64 (k:Int)/\s8=.int .i64 (r:Int)/\s9=.int .u8 (c.toNat:Int)/\r<=4/\Hid (eX s.data.toList=(unS r c (s.data.toList.drop k)).map (o++·))/\Bld wr (w.heap.size+1) (w.heap.size+1) (o.take (M+1))/\Below (w.heap.size+1) w0 wr)
 case atStart=>exact⟨0,0,0,[],aO _,rfl,rfl,rfl,rfl,by omega,hid (aUx _),a4,aH _ _⟩
 case round=>
  obtain⟨k,r,c,o,hk,Z,rfl,rfl,rfl,c0,HO,hB,H⟩:=hrel;have HG:=hid Z;clear Z;have a5:=(H.cell (p:=⟨w.heap.size,0,none⟩) (by show w.heap.size<w.heap.size+1;omega)).trans a9;have c1:=H.size;have a6:(o.take (M+1)).length<=M+1:=by rw[aQ];omega
  by_cases b1:k<s.size
  ·have t1:decide ((k:Int)<(s.size:Int))=true:=aG (by omega);have hb:=s[k].toNat_lt;have a1:s.data.toList.drop k=s[k]::s.data.toList.drop (k+1):=by
    obtain⟨h1,I⟩:=List.getElem?_eq_some_iff.1 (fW s k b1);rw[List.drop_eq_getElem_cons h1,I]
   have G:=HO.out;rw[a1] at G
   by_cases O:r=4
   ·subst O;have t2:decide (((4:Nat):Int)=4)=true:=by decide
    have U:=hid (aUy G);have A:=fun(n:Nat) hn=>aHj (w.heap.size+1) w.heap.size c n M (o.take (M+1)) wr hB a5 (by omega) (by omega) hM a6 hn
    have F:=A s[k].toNat (by omega);rw[LN] at F;clear A a1 G;go_wp2_with fail;refine F.mono ?_;rintro e w2 ⟨rfl,I,J⟩;go_wp2_with fail;have Z:=HG.out
    go_roundg (s.size-(k+1))
    case measure=>omega
    case rel=>exact⟨k+1,0,c,_,by omega,rfl,by go_num,rfl,rfl,by omega,U,I,H.trans J⟩
   ·have t2:decide ((r:Int)=4)=false:=aE (by omega);have b3:((r:Int)==4)=false:=by rw[cB];omega
    have A:=fun(d:UInt8)=>aHj (w.heap.size+1) w.heap.size d 1 M (o.take (M+1)) wr hB a5 (by omega) (by omega) hM a6 (by omega)
    by_cases h0:0<r
    ·have t3:decide ((0:Int)<(r:Int))=true:=aG (by omega);have b4:decide ((r:Int)>0)=true:=aG (by omega)
     by_cases V:s[k]=c
     ·have t4:((s[k].toNat:Int)==(c.toNat:Int))=true:=by rw[V];simp
      have b5:decide ((s[k].toNat:Int)=(c.toNat:Int))=true:=aG (by rw[V]);rw[V] at G;have U:=hid (aUz G h0 O);have F:=A c;rw[LN] at F;have m1:aJ.wrap ((r:Int)+1)=((r+1:Nat):Int):=by rw[aM];omega
      clear A a1 G V;go_wp2_with fail;refine F.mono ?_;rintro e w2 ⟨rfl,I,J⟩;go_wp2_with fail;have Z:=HG.out
      go_roundg (s.size-(k+1))
      case measure=>omega
      case rel=>exact⟨k+1,r+1,c,_,by omega,rfl,by go_num,by go_num,rfl,by omega,U,I,H.trans J⟩
     ·have a3:(s[k].toNat:Int)≠(c.toNat:Int):=fun e=>V (UInt8.toNat_inj.1 (by omega))
      have t4:((s[k].toNat:Int)==(c.toNat:Int))=false:=by rw[cB];exact a3
      have b5:decide ((s[k].toNat:Int)=(c.toNat:Int))=false:=aE a3;have U:=hid (aDg G O (by rintro⟨_,h⟩;exact V h));have F:=A s[k];rw[LN] at F;clear A a1 G V a3;go_wp2_with fail;refine F.mono ?_;rintro e w2 ⟨rfl,I,J⟩;go_wp2_with fail;have Z:=HG.out
      go_roundg (s.size-(k+1))
      case measure=>omega
      case rel=>exact⟨k+1,1,s[k],_,by omega,rfl,by go_num,rfl,rfl,by omega,U,I,H.trans J⟩
    ·have t3:decide ((0:Int)<(r:Int))=false:=aE (by omega);have b4:decide ((r:Int)>0)=false:=aE (by omega);have U:=hid (aDg G O (by rintro⟨h,_⟩;exact h0 h));have F:=A s[k];rw[LN] at F;clear A a1 G;go_wp2_with fail;refine F.mono ?_;rintro e w2 ⟨rfl,I,J⟩;go_wp2_with fail;have Z:=HG.out
     go_roundg (s.size-(k+1))
     case measure=>omega
     case rel=>exact⟨k+1,1,s[k],_,by omega,rfl,by go_num,rfl,rfl,by omega,U,I,H.trans J⟩
  ·have t1:decide ((k:Int)<(s.size:Int))=false:=aE (by omega);have L:=HO.out;rw[IU (by rw[HL.out];omega)] at L;have L:=aU0 L
   by_cases O:r=4
   ·subst O;have t2:decide (((4:Nat):Int)=4)=true:=by decide
    rw[aB rfl] at L;have HE:=hid (aDh (most:=(M:Int)) L);clear L;go_wp2_with fail
    go_ret2
    exact⟨by rw[HE.out];rfl,a2.trans (H.mono (by omega))⟩
   ·have t2:decide ((r:Int)=4)=false:=aE (by omega);have b3:((r:Int)==4)=false:=by rw[cB];omega
    rw[aA O] at L;have a0:=SJ (most:=(M:Int)) L;clear L;have b6:∀n,Bld (wr.drewN n) (w.heap.size+1) (w.heap.size+1) (o.take (M+1)):=fun n=>hB.drewN n
    by_cases c2:M<o.length
    ·rw[aB (by omega)] at a0;have HE:=hid a0;clear a0;have a7:(o.take (M+1)).length=M+1:=by rw[aQ];omega
     have t5:decide ((M:Int)<((M+1:Nat):Int))=true:=aG (by omega);have t6:decide (((M+1:Nat):Int)>(M:Int))=true:=aG (by omega);have a8:=hB.drew;have b7:=hid a7;clear a7;go_wp2_with fail
     go_region_with (go_at_call 190;refine(MQ (w.heap.size+1) (w.heap.size+1) (o.take (M+1)) _ (by assumption)).mono ?_;rintro e w1 ⟨rfl,rfl⟩;rw[b7.out])
     all_goals
      go_wp2_with fail
      go_ret2
      exact⟨by rw[HE.out];rfl,a2.trans ((H.mono (by omega)).drew)⟩
    ·rw[aA (by omega)] at a0;have HE:=hid a0;clear a0;rw[cD (by omega)] at hB b6;have t5:decide ((M:Int)<(o.length:Int))=false:=aE (by omega);have t6:decide ((o.length:Int)>(M:Int))=false:=aE (by omega);have a8:=hB.drew;have A:=MP (w.heap.size+1) (w.heap.size+1) o wr.drew a8 (by show w.heap.size+1<=wr.heap.size;omega);go_wp2_with fail
     go_region_with (go_at_call 190;refine(MQ (w.heap.size+1) (w.heap.size+1) o _ (by assumption)).mono ?_;rintro e w1 ⟨rfl,rfl⟩)
     all_goals
      go_wp2_with fail;refine A.mono ?_;rintro e w2 ⟨rfl,_,J,_⟩;go_wp2_with fail
      go_ret2
      exact⟨by rw[HE.out];rfl,a2.trans (((H.drew).trans J).mono (by omega))⟩
end
section
def lnP (n:Nat):Nat:=if n<4 then n else 5
def lnL (s:List UInt8):Nat:=(bT s).length
theorem UQ:lnL []=0:=rfl
theorem UR {a b:Nat} (h:a<=b):lnP a<=lnP b:=by grind [lnP]
theorem MZ {s:List UInt8} (h:s≠[]):lnL s=lnP (bF s)+lnL (s.drop (bF s)):=by grind [mH,lnL,CB,RR,lnP,bF]
theorem bB2 {s:List UInt8} (h:s≠[]) {k:Nat} (A:1<=k) (F:k<=s.length):bF (s.take k)=min k (bF s):=by
 obtain⟨c,r,rfl⟩:=List.exists_cons_of_ne_nil h;have G:=mH (c::r) h;obtain⟨H,I⟩:=RU (s:=c::r) (c:=c) rfl;generalize J:bF (c::r)=n at*
 have L:∀j,j<n->(c::r)[j]? =some c:=fun j d=>by
  have:((c::r).take n)[j]? =some c:=by grind
  grind
 have M:((c::r).take k).length=k:=by grind
 have O:((c::r).take k)[0]? =some c:=by grind
 refine zL (by omega) (by omega) (fun j d=>?_) ?_
 ·grind
 grind [List.head?_drop,bF]
theorem AB {s:List UInt8} (h:s≠[]) {k:Nat} (d:k<=s.length):lnL (s.take k)=if k<=bF s then lnP k else lnP (bF s)+lnL ((s.drop (bF s)).take (k-bF s)):=by
 have H:=mH s h
 by_cases A:k=0
 ·subst A;rw[aB (aO _)];rfl
 ·have F:s.take k≠[]:=fun e=>by
   have:=congrArg nU e;have:=gG.2 h;rw[aQ,List.length_nil] at*
   omega
  have G:=bB2 h (by omega) d;rw[MZ F,G];split
  ·grind [bF,UQ,lnL,lnP]
  grind [bF,List.drop_take,lnL,lnP]
theorem aIr:∀(n:Nat) (s:List UInt8),s.length<=n->∀k,k+1<=s.length->lnL (s.take k)<=lnL (s.take (k+1))
 |0,s,G,k,A=>by omega
 |n+1,s,G,k,A=>by
  have d:s≠[]:=fun e=>by grind
  have I:=mH s d;rw[AB d (by omega),AB d A]
  by_cases F:k+1<=bF s
  ·rw[aB (by omega),aB F];exact UR (by omega)
  ·rw[aA F]
   by_cases H:k<=bF s
   ·grind
   ·rw[aA H,show k+1-bF s=(k-bF s)+1 by omega];have:=aIr n (s.drop (bF s)) (by grind) (k-bF s) (by grind);omega
theorem AC (s:List UInt8) (k:Nat):∀d,k+d<=s.length->lnL (s.take k)<=lnL (s.take (k+d))
 |0,_=>aD _
 |d+1,h=>Nat.le_trans (AC s k d (by omega)) (aIr s.length s (aD _) (k+d) (by omega))
def AD:Nat->List UInt8->Nat->Nat
 |0,_,_=>0
 |f+1,s,room=>
  if s=[] then 0
  else if lnP (bF s)<=room then bF s+AD f (s.drop (bF s)) (room-lnP (bF s))
  else min (min room 3) (bF s)
def cJ (s:List UInt8) (room:Nat):Nat:=AD s.length s room
def FY (s:List UInt8) (room k:Nat):Prop:=k<=s.length/\lnL (s.take k)<=room/\(k<s.length->room<lnL (s.take (k+1)))
theorem US:∀(f:Nat) (s:List UInt8) (room:Nat),s.length<=f->FY s room (AD f s room)
 |0,s,room,d=>by
  have:s=[]:=List.length_eq_zero_iff.1 (by omega);subst this;exact⟨aD _,aO _,fun h=>absurd h (by simp)⟩
 |f+1,s,room,d=>by
  unfold AD
  by_cases h:s=[]
  ·subst h;exact⟨aD _,aO _,fun h=>absurd h (by simp)⟩
  rw[aA h];have G:=mH s h
  by_cases q:lnP (bF s)<=room
  ·rw[aB q];obtain⟨A,H,F⟩:=US f (s.drop (bF s)) (room-lnP (bF s)) (by grind);rw[bA] at A F;generalize AD f (s.drop (bF s)) (room-lnP (bF s))=k at*
   grind [AB,bF,FY,AD]
  ·rw[aA q];have I:lnP (bF s)=if bF s<4 then bF s else 5:=rfl
   grind [bF,AB,lnP,FY,AD]
theorem pT (s:List UInt8) (room:Nat):FY s room (cJ s room):=US _ s room (aD _)
theorem AE {s:List UInt8} {room:Nat} (h:s≠[]) (d:1<=room):1<=cJ s room:=by
 have hi:=pT s room;have A:=gG.2 h;refine Nat.pos_of_ne_zero fun e=>?_
 have:=hi.2.2 (by omega)
 grind [AB,mH,lnP,cJ]
end
end Go.Proofs.YtihbnmlinkbnkaaGreatDoor
