/-
  Texts put together (part 13): the walks and the plain laws on which the statement stands.
-/
import Derived.Test.YtfplbbphficcjaaGreatDoorZ5
import Derived.Test.YtfplbbphficcjaaGreatDoorZ7
import Derived.Test.YtfplbbphficcjaaGreatDoorZ8
set_option maxRecDepth 100000
set_option maxHeartbeats 12800000
set_option linter.unusedVariables false
set_option linter.unusedSimpArgs false
open Go.Proofs.Tryz
open Go.Proofs.Tryz renaming prog->pG
open Bool renaming or_false->OZ
open Go.IntKind renaming i64->aJ,u8->oQ,wrap_i64->aM,wrap_u8->sG
open Go.RowKit.Below renaming refl->aH
open List renaming append_assoc->bU,append_nil->dI,length_append->aL,range->eT,range_succ->wU
open Nat renaming le_refl->aD
open UInt8 renaming ofNat->eA,toNat_ofNat'->nD
namespace Go.Proofs.YtfplbbphficcjaaGreatDoor
open Go.RowKit Go Go.Shelf
def sW (s:List UInt8) (k j:Nat):List Bool:=(eT j).map (fun i=>dZ s (16*k+i))
theorem aGe (s:List UInt8) (k j:Nat):sW s k (j+1)=sW s k j++[dZ s (16*k+j)]:=by grind [sW,wU,dZ]
theorem aGf (s:List UInt8) (k j:Nat):(sW s k j).length=j:=by simp[sW]
theorem TM (s:List UInt8) (k:Nat):sW s k 16=iK s k:=rfl
theorem aGg (l:List Bool) (b:Bool):(l++[b]).any id=(l.any id||b):=by simp
theorem aYv (s:ByteArray) (k:Nat) (w:World) (hs:s.size<=140737488355328) (hk:k<16):
  Calls pG 82 #[.string s,.int .i64 (k:Int)] w fun e w'=>∃v,e=.returned (.tuple #[v,.bool (lP s.data.toList k)])/\OwI w' w.heap.size v (bI (iK s.data.toList k))/\Below w.heap.size w w':=by
 obtain⟨q,Y⟩:∃q,q=16*k:=⟨_,rfl⟩;have m1:aJ.wrap (16*(k:Int))=(q:Int):=by rw[aM];omega
 have a7:16*(k:Int)=(q:Int):=by omega
 obtain⟨d,J⟩:∃d,d=q+16:=⟨_,rfl⟩;have m2:aJ.wrap ((q:Int)+16)=(d:Int):=by rw[aM];omega
 have a8:(q:Int)+16=(d:Int):=by omega
 have HQ:=hid Y;have a9:=hid J;have b0:d<=256:=by omega
 have A:d=q+16:=J;have a3:=hid A;clear Y J A;go_enter func82,ntmps82;go_wp2_with fail
 go_loopg [6,7,8,9] 16 (fun g s6 s7 s8 _s9 wr=>∃(j c:Nat) (T:Bool),j<=16/\g=16-j/\s8=.int .i64 (c:Int)/\s7=.bool T/\Hid (c=q+j)/\Hid (T=(sW s.data.toList k j).any id)/\OwI wr w.heap.size s6 (bI (sW s.data.toList k j))/\Below w.heap.size w wr)
 case atStart=>exact⟨0,q,false,by omega,rfl,rfl,rfl,hid rfl,hid rfl,OwI.nil _ _,aH _ _⟩
 case round=>
  obtain⟨j,c,T,hj,D,rfl,rfl,L,HT,F,G⟩:=hrel;have Z:=hid D;clear D;have M:=L.out;have A:=a3.out
  by_cases b1:j<16
  ·have t1:decide ((c:Int)<(d:Int))=true:=aG (by omega);have t2:decide (c<d)=true:=aG (by omega);have a4:c<256:=by omega
   have a0:(bI (sW s.data.toList k j)).length=j:=by rw[cX,aGf]
   have a1:=fun W=>ZX s c W hs a4
   have a2:=G.size;have H:=hid (aGe s.data.toList k j);obtain⟨h,O⟩:∃h,h=dZ s.data.toList c:=⟨_,rfl⟩;rw[<-O] at a1;have I:=hid (show dZ s.data.toList (16*k+j)=h by rw[O,M,HQ.out]);have b2:aJ.wrap ((c:Int)+1)=((c+1:Nat):Int):=by rw[aM];omega
   clear O M A;go_wp2_with fail;refine(a1 _).mono ?_;rintro e w1 ⟨rfl,rfl⟩
   cases h with
   |true=>
    go_wp2_with (at_builtin;refine gK rfl _ _ rfl w.heap.size _ _ rfl (F.alloc _) w1.heap.size (1:Int) rfl ?_ ?_ ?_ ?_;(exact bX _ _ _);(rw[a0];omega);(simp;omega);intro v' w2 U V a5);have D:=Z.out
    go_roundg (16-(j+1))
    case measure=>omega
    case rel=>exact⟨j+1,c+1,true,by omega,rfl,by go_num,rfl,hid (by have:=L.out;omega),hid (by rw[H.out,I.out,aGg,Bool.or_true]),by rw[H.out,I.out,iT];exact U,(G.alloc a2 _).trans V⟩
   |false=>
    go_wp2_with (at_builtin;refine gK rfl _ _ rfl w.heap.size _ _ rfl (F.alloc _) w1.heap.size (0:Int) rfl ?_ ?_ ?_ ?_;(exact bX _ _ _);(rw[a0];omega);(simp;omega);intro v' w2 U V a5);have D:=Z.out
    go_roundg (16-(j+1))
    case measure=>omega
    case rel=>exact⟨j+1,c+1,T,by omega,rfl,by go_num,rfl,hid (by have:=L.out;omega),hid (by rw[H.out,I.out,aGg,OZ];exact HT.out),by rw[H.out,I.out,iT];exact U,(G.alloc a2 _).trans V⟩
  ·have t1:decide ((c:Int)<(d:Int))=false:=aE (by omega);have t2:decide (c<d)=false:=aE (by omega);have a6:j=16:=by omega
   subst a6;rw[TM] at F;have HF:=hid (show T=lP s.data.toList k by rw[HT.out,TM];rfl);clear M A;go_wp2_with fail
   go_ret2
   exact⟨_,by rw[HF.out];rfl,F,G⟩
def tV (a b:Value):Prop:=a.ownBlock=none\/b.ownBlock=none\/a.ownBlock≠b.ownBlock
theorem tV.symm {a b:Value} (h:tV a b):tV b a:=by grind [tV]
theorem tV.keeps {a b:Value} (h:tV a b):b.ownBlock=none\/b.ownBlock≠a.ownBlock:=by grind [tV]
theorem tV.left {w:World} {B:Nat} {a d b:Value} {l:List Int} (h:tV a b) (D:OwI w B b l) (F:d.ownBlock=a.ownBlock\/d.ownBlock=some w.heap.size):tV d b:=by
 rcases F with e|e
 ·grind [tV,OwI]
 ·right
  cases G:b.ownBlock with
  |none=>exact .inl rfl
  |some k=>
   right
   rw[e];have:=(Ow.lt D k G).2;intro A
   injection A with A
   omega
def pQ (s:List UInt8) (k:Nat):List Bool:=(eT k).map (lP s)
theorem aGh (s:List UInt8) (k:Nat):pQ s (k+1)=pQ s k++[lP s k]:=by grind [pQ,wU,lP]
theorem FM (s:List UInt8) (k:Nat):(pQ s k).length=k:=by simp[pQ]
theorem TN (s:List UInt8) (k:Nat):iA s (k+1)=iA s k++if lP s k then iK s k else[]:=rfl
theorem aYw {s:List UInt8} (h:s≠[]):0<(iA s 16).length:=by
 have d:=aCr h;rw[Ne,EN,Bool.not_eq_false,List.any_eq_true] at d;obtain⟨b,e,D⟩:=d;unfold pO at e;obtain⟨k,A,rfl⟩:=List.mem_map.1 e;rw[List.mem_range] at A;obtain⟨m,F⟩:=aCq s (k+1) (by omega)
 grind [lP,TN,zJ,iA]
theorem aYx {w w':World} {B:Nat} {a v:Value} {l m:List Int} (h:OwI w B a l) (D:OwI w' w.heap.size v m):tV a v:=by
 cases d:a.ownBlock with
 |none=>exact .inl d
 |some k=>
  cases A:v.ownBlock with
  |none=>exact .inr (.inl A)
  |some j=>
   right;right
   rw[d,A];have F:=(Ow.lt h k d).2;have G:=(Ow.lt D j A).1;intro e
   injection e with e
   omega
theorem aGi (w:World) (x:Int):RdI (w.alloc (.cells #[.int .i64 x] 3)) (.slice (some ⟨w.heap.size,0,none⟩) 1 1) [x]:=uF w 3 [.int .i64 x] 1 rfl (by decide)
theorem aYy (s:ByteArray) (w:World) (hs:s.size<=1000000) (h0:s.data.toList≠[]):
  Calls pG 62 #[.string s] w fun e w'=>e=.returned (fT (iL s.data.toList))/\Below w.heap.size w w':=by
 have H0:=hid (aYw h0);have a1:=hid (fun k=>KP s.data.toList k);clear h0;go_enter func62,ntmps62;go_wp2_with fail;have V:=Arr.new w 83 [.string ⟨#[]⟩,.int .i64 0];change Arr (w.alloc (.cells #[.string ⟨#[]⟩,.int .i64 0] 83)) _ _ _ at V;have c0:(w.alloc (.cells #[.string ⟨#[]⟩,.int .i64 0] 83)).heap.size=w.heap.size+1:=by simp
 have a2:Below w.heap.size w (w.alloc (.cells #[.string ⟨#[]⟩,.int .i64 0] 83)):=bD (aH _ _) _;generalize w.alloc (.cells #[.string ⟨#[]⟩,.int .i64 0] 83)=w0 at*
 go_loopg [3,4,5,6,7] 16 (fun g s3 s4 s5 _s6 _s7 wr=>∃k:Nat,k<=16/\g=16-k/\s5=.int .i64 (k:Int)/\OwI wr (w.heap.size+1) s3 (bI (pQ s.data.toList k))/\OwI wr (w.heap.size+1) s4 (bI (iA s.data.toList k))/\tV s3 s4/\Below (w.heap.size+1) w0 wr)
 case atStart=>exact⟨0,by omega,rfl,rfl,OwI.nil _ _,OwI.nil _ _,.inl rfl,aH _ _⟩
 case round=>
  obtain⟨k,hk,I,rfl,D,J,L,F⟩:=hrel;have HG:=hid I;clear I;have c1:=F.size
  by_cases b1:k<16
  ·have t1:decide ((k:Int)<16)=true:=aG (by omega);have a3:=fun W=>aYv s k W (by omega) b1
   have M:(bI (pQ s.data.toList k)).length=k:=by rw[cX,FM]
   have b2:(bI (iA s.data.toList k)).length<=16*k:=by rw[cX];exact a1.out k
   have a4:(bI (iK s.data.toList k)).length=16:=by rw[cX,zJ]
   have Y:=hid (aGh s.data.toList k);have Z:=hid (TN s.data.toList k);obtain⟨T,hT⟩:∃T,T=lP s.data.toList k:=⟨_,rfl⟩;rw[<-hT] at a3 Y Z;clear hT;go_wp2_with fail;refine(a3 _).mono ?_;rintro e w1 ⟨v,rfl,a5,O⟩;have a6:=OwI.below D O (aD _);have U:=OwI.below J O (aD _);have c2:=O.size;have a7:=F.trans (O.mono (by omega));have b3:=aYx D a5;clear D J
   cases T with
   |true=>
    go_wp2_with (first
     |(at_builtin;refine lR rfl _ _ rfl (w.heap.size+1) _ _ [1] rfl (OwI.alloc a6 _) _ rfl (aGi w1 1) (by decide) ?_ ?_ ?_;(rw[M];show(k+1)*8<=_;omega);(simp;omega);intro v3 w3 h d A G;(have b4:=Ow.kept (OwI.alloc U (.cells #[.int .i64 1] 3)) A L.keeps);(have b5:=(Ow.kept (OwI.alloc a5 (.cells #[.int .i64 1] 3)) A b3.keeps));(have a8:=L.left (OwI.alloc U (.cells #[.int .i64 1] 3)) G);(have b6:=d.size))
     |(at_builtin;refine lR rfl _ _ rfl (w.heap.size+1) _ _ (bI (iK s.data.toList k)) rfl b4 v rfl (OwI.rd b5) ?_ ?_ ?_ ?_;(rw[a4];decide);(rw[a4];omega);(simp at b6;omega);intro v4 w4 r1 r2 r3 r4))
    have I:=HG.out
    go_roundg (16-(k+1))
    case measure=>omega
    case rel=>exact⟨k+1,by omega,rfl,by go_num,by rw[Y.out,iT];exact Ow.kept h r3 a8.symm.keeps,by rw[Z.out,aB trivial,iT];exact r1,(a8.symm.left h r4).symm,((a7.alloc (by omega) _).trans d).trans r2⟩
   |false=>
    go_wp2_with (at_builtin;refine lR rfl _ _ rfl (w.heap.size+1) _ _ [0] rfl (OwI.alloc a6 _) _ rfl (aGi w1 0) (by decide) ?_ ?_ ?_;(rw[M];show(k+1)*8<=_;omega);(simp;omega);intro v3 w3 h d A G);have I:=HG.out
    go_roundg (16-(k+1))
    case measure=>omega
    case rel=>exact⟨k+1,by omega,rfl,by go_num,by rw[Y.out,iT];exact h,by rw[Z.out,aA (by decide),dI];exact Ow.kept (OwI.alloc U (.cells #[.int .i64 0] 3)) A L.keeps,L.left (OwI.alloc U (.cells #[.int .i64 0] 3)) G,(a7.alloc (by omega) _).trans d⟩
  ·have t1:decide ((k:Int)<16)=false:=aE (by omega);have b7:k=16:=by omega
   subst b7;have M:(bI (pQ s.data.toList 16)).length=16:=by rw[cX,FM]
   have b2:(bI (iA s.data.toList 16)).length<=16*16:=by rw[cX];exact a1.out 16
   have b8:0<(bI (iA s.data.toList 16)).length:=by rw[cX];exact H0.out
   have a9:=OwI.rd J;go_wp2_with (at_builtin;refine lR rfl _ _ rfl (w.heap.size+1) _ _ (bI (iA s.data.toList 16)) rfl D _ rfl a9 b8 ?_ ?_ ?_;(rw[M];omega);(omega);intro v5 w5 h d A G);have hm:bI (pQ s.data.toList 16)++bI (iA s.data.toList 16)=bI (iL s.data.toList):=by rw[<-iT];rfl
   rw[hm] at h;have c3:=KR s.data.toList;refine(CF v5 (iL s.data.toList) w5 (OwI.rd h) (by omega)).mono ?_;rintro e w6 ⟨rfl,a0⟩;have H:=((V.below F (by omega)).below d (by omega)).below a0 (by have:=d.size;omega);have b9:Below w.heap.size w w6:=((a2.trans (F.mono (by omega))).trans (d.mono (by omega))).trans (a0.mono (by have:=d.size;omega));have d0:=H.cell (i:=0) rfl;have d1:=H.cell (i:=1) rfl;have f0:=H.free 0;have f1:=H.free 1;clear V hm a0 h d A G D J a9 F a2;generalize b0:iL s.data.toList=m at*
   have HM:=hid b0;clear b0;go_wp2_with fail;have z0:Arr ((w6.setCell ⟨w.heap.size,0,none⟩ (.string (mkS (aI m)))).setCell ⟨w.heap.size,1,none⟩ (.int .i64 (m.length:Int))) w.heap.size 83 [.string (mkS (aI m)),.int .i64 (m.length:Int)]:=(H.set 0 _).set 1 _;refine bodyPost_ret (results_cell_row rfl _ _ w.heap.size _ _ (0,0) _ rfl z0 underlying83 rfl rQ) rfl ?_;exact⟨by rw[HM.out];rfl,(b9.setCell (p:=⟨w.heap.size,0,none⟩) (aD _) _).setCell (p:=⟨w.heap.size,1,none⟩) (aD _) _⟩
theorem gbB {W d:World} {g:Option Nat} (h:Below W.heap.size W d):W.grownBy d g:=⟨h.os,h.tape,h.output,h.size,fun k e _=>h.block k e⟩
theorem gbT {A B C:World} {g:Option Nat} (h:A.grownBy B g) (k:B.grownBy C g):A.grownBy C g:=
 ⟨k.os.trans h.os,k.tape.trans h.tape,k.output.trans h.output,Nat.le_trans h.size k.size,fun i d e=>(k.block i (Nat.lt_of_lt_of_le d h.size) e).trans (h.block i d e)⟩
theorem gbS (W:World) (g i:Nat) (v:Value):W.grownBy (W.setCell ⟨g,i,none⟩ v) (some g):=
 ⟨rfl,rfl,rfl,by simp,fun k _ d=>heap_setCell_other W ⟨g,i,none⟩ k v (fun e=>d (by rw[e]))⟩
theorem aWy (s:ByteArray) (a t:Nat) (w:World) (V:s.size<=1000000) (ha:a<=90000000) (a2:2<=t) (a3:t<=6):
  Calls pG 122 #[.string s,.int .i64 (a:Int),.int .i64 (t:Int)] w fun e w'=>e=.returned (.tuple #[.int .i64 (kN s.data.toList (t:Int) (a:Int) 0).1,.int .i64 (kN s.data.toList (t:Int) (a:Int) 0).2.1,.int .i64 (kN s.data.toList (t:Int) (a:Int) 0).2.2])/\w'=w:=by
 have Y:=hid (show s.data.toList.length=s.size by simp);obtain⟨R,H⟩:∃R,R=kN s.data.toList (t:Int) (a:Int) 0:=⟨_,rfl⟩;rw[<-H];have Z:=hid H.symm;clear H;go_enter func122,ntmps122;go_wp2_with fail
 go_loopg [9,10,11,12] (8*s.size+2-a) (fun g s9 a0 _s11 _s12 wr=>∃p m:Nat,p<=90000000+m/\m<t/\g=8*s.size+2-p/\a0=.int .i64 (p:Int)/\s9=.int .i64 (m:Int)/\Hid (kN s.data.toList (t:Int) (p:Int) (m:Int)=R)/\wr=w)
 case atStart=>exact⟨a,0,by omega,by omega,rfl,rfl,rfl,Z,rfl⟩
 case round=>
  obtain⟨p,m,hp,hm,I,rfl,rfl,HP,rfl⟩:=hrel;have HG:=hid I;clear I;have d:=KX s.data.toList (t:Int) (p:Int) (m:Int) (by omega);rw[HP.out,Y.out] at d;have A:=fun W=>sV s (p:Int) 1 W V (by decide) (by omega) (by omega)
  have J:=iG (n:=s.size) (at':=(p:Int)) (k:=1);have a1:=jV s.data.toList (p:Int) 1;obtain⟨G,L⟩:∃G,G=aP s.size (p:Int) 1:=⟨_,rfl⟩;obtain⟨D,M⟩:∃D,D=aK s.data.toList (p:Int) 1:=⟨_,rfl⟩;rw[<-L,<-M] at d;rw[<-L] at A J;rw[<-M] at A a1;clear L M;have m1:aJ.wrap ((p:Int)+1)=((p:Int)+1):=by rw[aM];omega
  have m2:aJ.wrap ((m:Int)+1)=((m:Int)+1):=by rw[aM];omega
  by_cases O:G=0
  ·subst O;rw[aA (fun k=>k rfl)] at d;have J:=J rfl
   by_cases U:D=0
   ·subst U;rw[aB rfl] at d;have h:=hid d;clear d;go_wp2_with fail;refine(A _).mono ?_;rintro e T ⟨rfl,rfl⟩;go_wp2_with fail
    go_ret3
    exact⟨by rw[h.out];rfl,rfl⟩
   ·rw[aA U] at d;have v2:((D:Int)==0)=false:=by rw[cB];omega
    have v3:(D==0)=false:=by rw[cB];omega
    by_cases F:(m:Int)+1=(t:Int)
    ·rw[aB F] at d;have v4:((m:Int)+1==(t:Int))=true:=by rw[beq_iff_eq];exact F
     have h:=hid d;clear d F;go_wp2_with fail;refine(A _).mono ?_;rintro e T ⟨rfl,rfl⟩;go_wp2_with fail
     go_ret3
     exact⟨by rw[h.out];rfl,rfl⟩
    ·rw[aA F] at d;have v4:((m:Int)+1==(t:Int))=false:=by rw[cB];exact F
     have h:=hid d.symm;clear d;go_wp2_with fail;refine(A _).mono ?_;rintro e T ⟨rfl,rfl⟩;go_wp2_with fail;have I:=HG.out
     go_roundg (8*s.size+2-(p+1))
     case measure=>omega
     case rel=>exact⟨p+1,m+1,by omega,by omega,rfl,by go_num,by go_num,by push_cast;exact h,rfl⟩
  ·rw[aB O] at d;have u1:(G != 0)=true:=by simpa using O
   have h:=hid d;clear d;go_wp2_with fail;refine(A _).mono ?_;rintro e T ⟨rfl,rfl⟩;go_wp2_with fail
   go_ret3
   exact⟨by rw[h.out];rfl,rfl⟩
theorem aEu (t:Nat) (w:World) (d:2<=t) (h:t<=6):
  Calls pG 83 #[.int .i64 (t:Int)] w fun e w'=>e=.returned (.string (mkS (cT t)))/\w'=w:=by
 obtain rfl|rfl|rfl|rfl|rfl:t=2\/t=3\/t=4\/t=5\/t=6:=by omega
 all_goals
  go_enter func83,ntmps83;go_wp2_with fail;go_ret;exact⟨by kernel_rfl,rfl⟩
theorem aYt (s:ByteArray) (a:Nat) (n:Int) (w:World) (hs:s.size<=1000000) (ha:a<=100000000) (a1:1<=n) (a2:n<=20):
  Calls pG 134 #[.string s,.int .i64 (a:Int),.int .i64 n] w fun e w'=>e=.returned (.tuple #[.int .i64 (fS s.data.toList (a:Int) n).1,.int .i64 (fS s.data.toList (a:Int) n).2.1,.int .i64 (fS s.data.toList (a:Int) n).2.2])/\w'=w:=by
 have HL:=hid (show s.data.toList.length=s.size by simp);obtain⟨R,O⟩:∃R,R=fS s.data.toList (a:Int) n:=⟨_,rfl⟩;rw[<-O];have HR:=hid O.symm;clear O;go_enter func134,ntmps134;go_wp2_with fail
 go_loopg [9,10,11,12,13,14] (8*s.size+2-a) (fun g s9 a3 _s11 _s12 _s13 _s14 wr=>∃(p:Nat) (m:Int),p<=100000002/\1<=m/\m<=20/\g=8*s.size+2-p/\a3=.int .i64 (p:Int)/\s9=.int .i64 m/\Hid (fS s.data.toList (p:Int) m=R)/\wr=w)
 case atStart=>exact⟨a,n,by omega,a1,a2,rfl,rfl,rfl,HR,rfl⟩
 case round=>
  obtain⟨p,m,hp,a4,a5,J,rfl,rfl,HP,rfl⟩:=hrel;have HG:=hid J;clear J;have d:=BU s.data.toList (p:Int) m (by omega);rw[HP.out,HL.out] at d;have D:=fun W=>sV s (p:Int) 1 W hs (by decide) (by omega) (by omega)
  have T:=iG (n:=s.size) (at':=(p:Int)) (k:=1);have U:=iG (n:=s.size) (at':=((p:Int)+1)) (k:=1);have F:=fun W=>sV s ((p:Int)+1) 1 W hs (by decide) (by omega) (by omega)
  obtain⟨L,V⟩:∃L,L=aP s.size (p:Int) 1:=⟨_,rfl⟩;obtain⟨H,Y⟩:∃H,H=aK s.data.toList (p:Int) 1:=⟨_,rfl⟩;obtain⟨M,Z⟩:∃M,M=aP s.size ((p:Int)+1) 1:=⟨_,rfl⟩;obtain⟨I,a0⟩:∃I,I=aK s.data.toList ((p:Int)+1) 1:=⟨_,rfl⟩;rw[<-V,<-Y,<-Z,<-a0] at d;rw[<-V] at D T;rw[<-Z] at F U;rw[<-Y] at D;rw[<-a0] at F;clear V Y Z a0;have m1:aJ.wrap ((p:Int)+1)=((p:Int)+1):=by rw[aM];omega
  by_cases h1:L=0
  ·subst h1;rw[aA (fun k=>k rfl)] at d;have T:=T rfl
   by_cases h2:H=0
   ·subst h2;rw[aB rfl] at d;have A:=hid d;clear d F;go_wp2_with fail;refine(D _).mono ?_;rintro e h ⟨rfl,rfl⟩;go_wp2_with fail
    go_ret3
    exact⟨by rw[A.out];rfl,rfl⟩
   ·rw[aA h2] at d;have v1:decide ((H:Int)=0)=false:=aE (by omega);have v2:((H:Int)==0)=false:=by rw[cB];omega
    have v3:(H==0)=false:=by rw[cB];omega
    by_cases h3:M=0
    ·subst h3;rw[aA (fun k=>k rfl)] at d;have U:=U rfl;have m2:aJ.wrap ((p:Int)+2)=(p:Int)+2:=by rw[aM];omega
     have m3:aJ.wrap (m+1)=m+1:=by rw[aM];omega
     have m4:aJ.wrap (m-1)=m-1:=by rw[aM];omega
     by_cases h4:I=0
     ·subst h4;rw[aB rfl] at d
      by_cases G:20<m+1
      ·rw[aB (.inr G)] at d;have w0:decide (m+1<1)=false:=aE (by omega);have w1:decide (m+1>20)=true:=aG G;have h:decide (20<m+1)=true:=aG G;have A:=hid d;clear d;go_wp2_with fail;refine(D _).mono ?_;rintro e h ⟨rfl,rfl⟩;go_wp2_with fail;refine(F _).mono ?_;rintro e h ⟨rfl,rfl⟩;go_wp2_with fail
       go_ret3
       exact⟨by rw[A.out];rfl,rfl⟩
      ·rw[aA (by omega)] at d;have w0:decide (m+1<1)=false:=aE (by omega);have w1:decide (m+1>20)=false:=aE G;have h:decide (20<m+1)=false:=aE G;have A:=hid d.symm;clear d;go_wp2_with fail;refine(D _).mono ?_;rintro e h ⟨rfl,rfl⟩;go_wp2_with fail;refine(F _).mono ?_;rintro e h ⟨rfl,rfl⟩;go_wp2_with fail;have J:=HG.out
       go_roundg (8*s.size+2-(p+2))
       case measure=>omega
       case rel=>exact⟨p+2,m+1,by omega,by omega,by omega,rfl,by go_num,rfl,A,rfl⟩
     ·rw[aA h4] at d;have x1:decide ((I:Int)=0)=false:=aE (by omega);have x2:((I:Int)==0)=false:=by rw[cB];omega
      have x3:(I==0)=false:=by rw[cB];omega
      by_cases G:m-1<1
      ·rw[aB (.inl G)] at d;have w1:decide (m-1<1)=true:=aG G;have A:=hid d;clear d;go_wp2_with fail;refine(D _).mono ?_;rintro e h ⟨rfl,rfl⟩;go_wp2_with fail;refine(F _).mono ?_;rintro e h ⟨rfl,rfl⟩;go_wp2_with fail
       go_ret3
       exact⟨by rw[A.out];rfl,rfl⟩
      ·rw[aA (by omega)] at d;have w1:decide (m-1<1)=false:=aE G;have h:decide (m-1>20)=false:=aE (by omega);have w3:decide (20<m-1)=false:=aE (by omega);have A:=hid d.symm;clear d;go_wp2_with fail;refine(D _).mono ?_;rintro e h ⟨rfl,rfl⟩;go_wp2_with fail;refine(F _).mono ?_;rintro e h ⟨rfl,rfl⟩;go_wp2_with fail;have J:=HG.out
       go_roundg (8*s.size+2-(p+2))
       case measure=>omega
       case rel=>exact⟨p+2,m-1,by omega,by omega,by omega,rfl,by go_num,rfl,A,rfl⟩
    ·rw[aB h3] at d;have u1:(M != 0)=true:=by simpa using h3
     have A:=hid d;clear d;go_wp2_with fail;refine(D _).mono ?_;rintro e h ⟨rfl,rfl⟩;go_wp2_with fail;refine(F _).mono ?_;rintro e h ⟨rfl,rfl⟩;go_wp2_with fail
     go_ret3
     exact⟨by rw[A.out];rfl,rfl⟩
  ·rw[aB h1] at d;have u1:(L != 0)=true:=by simpa using h1
   have A:=hid d;clear d F;go_wp2_with fail;refine(D _).mono ?_;rintro e h ⟨rfl,rfl⟩;go_wp2_with fail
   go_ret3
   exact⟨by rw[A.out];rfl,rfl⟩
theorem aGa (s:List UInt8) (a:Int) (k:Nat) (h:(bC s a k).2.2.2≠0):∀m,(bC s a (k+m))=bC s a k
 |0=>rfl
 |m+1=>by
  have d:=aGa s a k h m
  grind [bC]
theorem TL (s:List UInt8) (a n:Nat) (d:2<=n) (e:n<=258):gS s (a:Int) (n:Int)=if(bC s a n).2.2.2≠0 then([],0,(bC s a n).2.2.2) else((bC s a n).1,(bC s a n).2.2.1,0):=by grind [gS,bC]
theorem aGb {s:List UInt8} {a n k:Nat} (d:2<=n) (e:n<=258) (A:k<=n) (h:(bC s a k).2.2.2≠0):gS s (a:Int) (n:Int)=([],0,(bC s a k).2.2.2):=by
 have:=aGa s a k h (n-k)
 grind [TL,bC,gS]
theorem aGc (s:List UInt8) (a:Int):bC s a 0=([],(aK s a 5:Int),a+5,if aP s.length a 5≠0 then aP s.length a 5 else if(aK s a 5:Int)<1\/20<(aK s a 5:Int) then 3 else 0):=rfl
theorem aGd {s:List UInt8} {a:Int} {k:Nat} (h:(bC s a k).2.2.2=0):bC s a (k+1)=
  if(fS s (bC s a k).2.2.1 (bC s a k).2.1).2.2≠0 then((bC s a k).1,(bC s a k).2.1,(bC s a k).2.2.1,(fS s (bC s a k).2.2.1 (bC s a k).2.1).2.2)
  else((bC s a k).1++[(fS s (bC s a k).2.2.1 (bC s a k).2.1).1],(fS s (bC s a k).2.2.1 (bC s a k).2.1).1,(fS s (bC s a k).2.2.1 (bC s a k).2.1).2.1,0):=by grind [bC,fS]
def CL (w w':World) (s:List UInt8) (a n:Nat) (e:Ending):Prop:=
 ∃v,e=.returned (.tuple #[v,.int .i64 (gS s (a:Int) (n:Int)).2.1,.int .i64 (gS s (a:Int) (n:Int)).2.2])/\OwI w' w.heap.size v (gS s (a:Int) (n:Int)).1/\Below w.heap.size w w'
theorem FL {w w':World} {s:List UInt8} {a n:Nat} {E:Int} (h:gS s (a:Int) (n:Int)=([],0,E)) (d:Below w.heap.size w w'):CL w w' s a n (.returned (.tuple #[.slice none 0 0,.int .i64 0,.int .i64 E])):=by grind [OwI.nil,gS,CL]
theorem aYu (s:ByteArray) (a n:Nat) (w:World) (hs:s.size<=1000000) (ha:a<=90000000) (a8:2<=n) (a9:n<=258):
  Calls pG 123 #[.string s,.int .i64 (a:Int),.int .i64 (n:Int)] w fun e w'=>CL w w' s.data.toList a n e:=by
 have HL:=hid (show s.data.toList.length=s.size by simp);have t1:decide ((a:Int)<0)=false:=aE (by omega);have t2:decide ((n:Int)<2)=false:=aE (by omega);have t3:decide ((n:Int)>258)=false:=aE (by omega);have t4:decide ((258:Int)<(n:Int))=false:=aE (by omega);have a5:=hid (fun k hk=>aGb (s:=s.data.toList) (a:=a) (k:=k) a8 a9 hk);have b4:=hid (TL s.data.toList a n a8 a9);have d:=aGc s.data.toList (a:Int);rw[HL.out] at d;have H:=sV s (a:Int) 5 w hs (by decide) (by omega) (by omega);have a6:=jV s.data.toList (a:Int) 5
 have L:=iG (n:=s.size) (at':=(a:Int)) (k:=5);obtain⟨E,hE⟩:∃E,E=aP s.size (a:Int) 5:=⟨_,rfl⟩;obtain⟨V,hV⟩:∃V,V=aK s.data.toList (a:Int) 5:=⟨_,rfl⟩;rw[<-hE,<-hV] at d H;rw[<-hV] at a6;rw[<-hE] at L;have c1:V<32:=a6;clear hE hV a6
 by_cases M:E=0
 rotate_left
 ·have u1:(E != 0)=true:=by simpa using M
  rw[aB M] at d;have h:=hid (a5.out 0 (by omega) (by rw[d];exact M));rw[d] at h;clear d L;go_enter func123,ntmps123;go_wp2_with fail;refine H.mono ?_;rintro e D ⟨rfl,rfl⟩;go_wp2_with fail
  go_ret3
  exact FL h.out (aH _ _)
 ·subst M;rw[aA (fun k=>k rfl)] at d;have L:=L rfl;have m1:aJ.wrap (V:Int)=(V:Int):=by rw[aM];omega
  have m2:aJ.wrap ((a:Int)+5)=(a:Int)+5:=by rw[aM];omega
  by_cases b0:(V:Int)<1\/20<(V:Int)
  ·rw[aB b0] at d;have h:=hid (a5.out 0 (by omega) (by rw[d];exact(by decide:(3:Int)≠0)));rw[d] at h;clear d
   by_cases b1:(V:Int)<1
   ·have u1:decide ((V:Int)<1)=true:=aG b1;have u2:V<1:=by omega
    have u3:V=0:=by omega
    go_enter func123,ntmps123;go_wp2_with fail;refine H.mono ?_;rintro e D ⟨rfl,rfl⟩;go_wp2_with fail
    go_ret3
    exact FL h.out (aH _ _)
   ·have u1:decide ((V:Int)<1)=false:=aE b1;have u2:decide ((V:Int)>20)=true:=aG (by omega);have u3:decide ((20:Int)<(V:Int))=true:=aG (by omega);go_enter func123,ntmps123;go_wp2_with fail;refine H.mono ?_;rintro e D ⟨rfl,rfl⟩;go_wp2_with fail
    go_ret3
    exact FL h.out (aH _ _)
  ·rw[aA b0] at d;have u1:decide ((V:Int)<1)=false:=aE (by omega);have u2:decide ((V:Int)>20)=false:=aE (by omega);have u3:decide ((20:Int)<(V:Int))=false:=aE (by omega);have I:=hid d;clear d;go_enter func123,ntmps123;go_wp2_with fail;refine H.mono ?_;rintro e D ⟨rfl,rfl⟩;go_wp2_with fail
   go_loopg [11,12,13,14,15,16,17] n (fun g b5 b6 b7 b8 _s15 _s16 _s17 wr=>∃(k p:Nat) (m:Int),k<=n/\g=n-k/\b8=.int .i64 (k:Int)/\b5=.int .i64 m/\b6=.int .i64 (p:Int)/\1<=m/\m<=20/\p<=90000005/\Hid ((bC s.data.toList (a:Int) k).2.2.2=0/\(bC s.data.toList (a:Int) k).2.1=m/\(bC s.data.toList (a:Int) k).2.2.1=(p:Int)/\(bC s.data.toList (a:Int) k).1.length=k)/\OwI wr D.heap.size b7 (bC s.data.toList (a:Int) k).1/\Below D.heap.size D wr)
   case atStart=>exact⟨0,a+5,(V:Int),Nat.zero_le _,rfl,rfl,rfl,by go_num,by omega,by omega,by omega,hid ⟨by rw[I.out],by rw[I.out],by rw[I.out];push_cast;rfl,by rw[I.out];rfl⟩,by rw[I.out];exact OwI.nil _ _,aH _ _⟩
   case round=>
    obtain⟨k,p,m,hk,hg,rfl,rfl,rfl,b2,b3,c2,F,ho,O⟩:=hrel;have HG:=hid hg;clear hg;have b9:=O.size
    by_cases c3:k<n
    ·have v1:decide ((k:Int)<(n:Int))=true:=aG (by omega);have A:=aGd F.out.1;rw[F.out.2.1,F.out.2.2.1] at A;have T:=fun W=>aYt s p m W hs (by omega) b2 b3
     have G:=KW s.data.toList (8*s.data.toList.length+2) (p:Int) m (by omega) b2 b3;rw[HL.out] at G;rw[show lQ s.data.toList (8*s.size+2) (p:Int) m=fS s.data.toList (p:Int) m by unfold fS;rw[HL.out]] at G;obtain⟨U,Y,Z,hq⟩:∃U Y Z,fS s.data.toList (p:Int) m=(U,Y,Z):=⟨_,_,_,rfl⟩;rw[hq] at A T G;simp only at A T G;clear hq
     by_cases a0:Z=0
     ·subst a0;rw[aA (fun k=>k rfl)] at A;obtain⟨a1,a2,a3,a4⟩:=G rfl;obtain⟨pp,rfl⟩:∃pp:Nat,Y=(pp:Int):=⟨Y.toNat,by omega⟩;have J:=hid A;clear A;have c4:(bC s.data.toList (a:Int) k).1.length<=258:=by rw[F.out.2.2.2];omega
      go_wp2_with fail;refine(T _).mono ?_;rintro e w3 ⟨rfl,rfl⟩;go_wp2_with (at_builtin;refine gK rfl _ _ rfl D.heap.size _ _ rfl (OwI.alloc ho _) _ U rfl (bX _ _ _) ?_ ?_ ?_;(omega);(simp;omega);intro v4 w4 r1 r2 r3);have hg:=HG.out
      go_roundg (n-(k+1))
      case measure=>omega
      case rel=>exact⟨k+1,pp,U,by omega,rfl,by go_num,rfl,rfl,a1,a2,by omega,hid ⟨by rw[J.out],by rw[J.out],by rw[J.out],by rw[J.out,aL,F.out.2.2.2];rfl⟩,by rw[J.out];exact r1,(O.alloc b9 _).trans r2⟩
     ·rw[aB a0] at A;have v2:(Z != 0)=true:=by simpa using a0
      have h:=hid (a5.out (k+1) (by omega) (by rw[A];exact a0));rw[A] at h;clear A G;go_wp2_with fail;refine(T _).mono ?_;rintro e w3 ⟨rfl,rfl⟩;go_wp2_with fail
      go_ret3
      exact FL h.out O
    ·have v1:decide ((k:Int)<(n:Int))=false:=aE (by omega);have c0:k=n:=by omega
     subst c0;have a7:=b4.out;rw[aA (fun q=>q F.out.1),F.out.2.2.1] at a7;have h:=hid a7;clear a7;go_wp2_with fail
     go_ret3
     exact⟨_,by rw[h.out];rfl,by rw[h.out];exact ho,O⟩
theorem UI {s:List UInt8} {at':Int} {k:Nat} {e:Int} (d:e≠0) (D:k<=16) (h:(dQ s at' k).2.2.2=e):dF s at'=([],0,e):=by
 have A:=CC (s:=s) (at':=at') (k:=k) (by rw[h];exact d) (16-k);rw[show k+(16-k)=16 by omega] at A;unfold dF
 grind
theorem aHv (s:List UInt8) (at':Int):dQ s at' 0=([],at'+16,aK s at' 16==0,aP s.length at' 16):=rfl
theorem aHw {s:List UInt8} {at':Int} {k:Nat} {o:List UInt8} {d:Int} {e:Bool} (h:dQ s at' k=(o,d,e,0)) (A:(aK s at' 16).testBit (15-k)=false):dQ s at' (k+1)=(o,d,e,0):=by grind [dQ,aK]
theorem aHx {s:List UInt8} {at':Int} {k:Nat} {o:List UInt8} {d:Int} {e:Bool} (h:dQ s at' k=(o,d,e,0)) (A:(aK s at' 16).testBit (15-k)=true) (D:aP s.length d 16≠0):(dQ s at' (k+1)).2.2.2=aP s.length d 16:=by grind [dQ,aK,aP]
theorem aHy {s:List UInt8} {at':Int} {k:Nat} {o:List UInt8} {d:Int} {e:Bool} (h:dQ s at' k=(o,d,e,0)) (A:(aK s at' 16).testBit (15-k)=true) (D:aP s.length d 16=0):
  dQ s at' (k+1)=(o++nJ (aK s d 16) k 16,d+16,e||aK s d 16==0,0):=by grind [dQ,aK,aP,nJ]
theorem aHz {s:List UInt8} {at':Int} {o:List UInt8} {d:Int} {e:Bool} (h:dQ s at' 16=(o,d,e,0)):dF s at'=if e then([],0,3) else(o,d,0):=by grind [dF,dQ]
theorem aH0 (v k i:Nat):nJ v k (i+1)=nJ v k i++if v.testBit (15-i) then[eA (16*k+i)] else[]:=rfl
theorem bA4 (s:ByteArray) (p:Int) (w:World) (hs:s.size<=1000000) (c2: -9223372036854775808<=p) (c3:p<=9223372036854775807):
  Calls pG 99 #[.string s,.int .i64 p] w fun e w'=>e=.returned (.tuple #[.string (mkS (dF s.data.toList p).1),.int .i64 (dF s.data.toList p).2.1,.int .i64 (dF s.data.toList p).2.2])/\Below w.heap.size w w':=by
 have hL:s.data.toList.length=s.size:=by simp
 have J:=aHv s.data.toList p;have a1:=fun W=>sV s p 16 W hs (by decide) c2 c3
 have b4:=jV s.data.toList p 16;rw[hL] at J
 by_cases L:aP s.size p 16=0
 rotate_left
 ·have hU:=UI (k:=0) L (by omega) (by rw[J]);rw[hU];have t1:(aP s.size p 16 != 0)=true:=by rw[bne_iff_ne];exact L
  have t2:(aP s.size p 16==0)=false:=by rw[cB];exact L
  generalize aP s.size p 16=E at*
  generalize aK s.data.toList p 16=F at*
  clear hU J L hL b4;go_enter func99,ntmps99;go_wp2_with fail;refine(a1 _).mono ?_;rintro e G ⟨rfl,rfl⟩;go_wp2_with fail
  go_ret3
  exact⟨rfl,aH _ _⟩
 ·have c4:=iG L;rw[L] at J a1;obtain⟨F,hF⟩:∃F,F=aK s.data.toList p 16:=⟨_,rfl⟩;rw[<-hF] at J a1 b4;have e0:F<18446744073709551616:=by omega
  have HF:=hid hF;have HZ:=hid J;have HL:=hid hL;obtain⟨b5,b6⟩:∃q:Int,q=p+16:=⟨_,rfl⟩;have m0:aJ.wrap (p+16)=b5:=by rw[aM];omega
  have HP:=hid b6;have e1:0<=p/\p<=8000000:=by omega
  obtain⟨T0,a6⟩:∃T0:Bool,T0=(F==0):=⟨_,rfl⟩;have t0:((F:Int)==0)=T0:=by
   rw[a6]
   by_cases h:F=0
   ·rw[h];rfl
   ·rw[beq_eq_false_iff_ne.2 h,cB];omega
  have c5:=hid a6;clear hF J hL c4 b6 a6 L;go_enter func99,ntmps99;go_wp2_with fail;refine(a1 _).mono ?_;rintro e G ⟨rfl,rfl⟩;go_wp2_with fail
  go_loopg [9,10,11,12,13,14,15] 16 (fun g s9 a7 c6 c7 _s13 _s14 _s15 wr=>∃(k:Nat) (o:List UInt8) (d:Int) (H:Bool),k<=16/\g=16-k/\c7=.int .i64 (k:Int)/\s9=.int .i64 d/\c6=.bool H/\Hid (dQ s.data.toList p k=(o,d,H,0))/\OwB wr G.heap.size a7 o/\Below G.heap.size G wr)
  case atStart=>exact⟨0,[],b5,T0,by omega,rfl,rfl,rfl,rfl,hid (by rw[HZ.out,HP.out,c5.out]),Ow.nil _ _ _,aH _ _⟩
  case round=>
   obtain⟨k,o,d,H,hk,A,rfl,rfl,rfl,HU,a2,O⟩:=hrel;have HG:=hid A;clear A;have e2:=O.size;have a3:=EO s.data.toList p k;rw[HU.out] at a3;have e3:o.length<=256:=by have:=a3.1;simp only at this;omega
   have c8:=a3.2 rfl;simp only at c8
   by_cases e7:k<16
   ·have t1:decide ((k:Int)<16)=true:=aG (by omega);obtain⟨q,hq⟩:∃q,q=15-k:=⟨_,rfl⟩;have m1:aJ.wrap (15-(k:Int))=(q:Int):=by rw[aM];omega
    have e8:(15:Int)-(k:Int)=(q:Int):=by omega
    have m2:min q 64=q:=by omega
    have e4:=FA F q;obtain⟨b,M⟩:∃b,b=F.testBit q:=⟨_,rfl⟩;rw[<-M] at e4;have HB:=hid (show(aK s.data.toList p 16).testBit (15-k)=b by rw[<-HF.out,<-hq,M]);clear hq M a3
    cases b with
    |false=>
     have T:=hid (aHw HU.out HB.out);have e5:((false.toNat:Nat):Int)=0:=rfl;rw[e5] at e4;go_wp2_with fail;have A:=HG.out
     go_roundg (16-(k+1))
     case measure=>omega
     case rel=>exact⟨k+1,o,d,H,by omega,rfl,by go_num,rfl,rfl,T,a2,O⟩
    |true=>
     have e5:((true.toNat:Nat):Int)=1:=rfl;rw[e5] at e4;have a4:=fun W=>sV s d 16 W hs (by decide) (by omega) (by omega)
     by_cases D:aP s.size d 16=0
     ·have T:=hid (aHy HU.out HB.out (by rw[HL.out];exact D));have c9:=iG D;have hV:=jV s.data.toList d 16;have a8:=KS (aK s.data.toList d 16) k;rw[D] at a4;obtain⟨V,b7⟩:∃V,V=aK s.data.toList d 16:=⟨_,rfl⟩;rw[<-b7] at a4 T hV a8;have e9:V<18446744073709551616:=by omega
      obtain⟨b8,b9⟩:∃q:Int,q=d+16:=⟨_,rfl⟩;have m3:aJ.wrap (d+16)=b8:=by rw[aM];omega
      rw[<-b9] at T;obtain⟨T1,a9⟩:∃T1:Bool,T1=(V==0):=⟨_,rfl⟩;have u1:((V:Int)==0)=T1:=by
       rw[a9]
       by_cases h:V=0
       ·rw[h];rfl
       ·rw[beq_eq_false_iff_ne.2 h,cB];omega
      rw[<-a9] at T;obtain⟨I,c0⟩:∃I,I=16*k:=⟨_,rfl⟩;have m4:aJ.wrap (16*(k:Int))=(I:Int):=by rw[aM];omega
      have m5:16*(k:Int)=(I:Int):=by omega
      have d0:=hid c0;have f0:I<=240:=by omega
      have d1:=hid a8;clear c0 a9 b9 b7 c9 D a8;go_wp2_with fail;refine(a4 _).mono ?_;rintro e w2 ⟨rfl,rfl⟩;go_upto_region 15 with fail
      go_cut [11] (fun d2 wx=>d2=.bool (H||T1)/\wx=w2)
      case first=>
       cases H with
       |true=>go_wp2_with fail;go_meet;exact⟨rfl,rfl⟩
       |false=>go_wp2_with fail;go_meet;exact⟨rfl,rfl⟩
      case rest=>
       obtain⟨rfl,rfl⟩:=hcut;go_wp2_with fail
       go_loopg [10,15] 16 (fun g a7 d3 wx=>∃i:Nat,i<=16/\g=16-i/\d3=.int .i64 (i:Int)/\OwB wx G.heap.size a7 (o++nJ V k i)/\Below G.heap.size G wx)
       case atStart=>exact⟨0,by omega,rfl,rfl,by rw[show nJ V k 0=[] from rfl,dI];exact a2,O⟩
       case round=>
        obtain⟨i,hi,A,rfl,b0,a5⟩:=hrel;have c1:=hid A;clear A e4
        by_cases f1:i<16
        ·have u2:decide ((i:Int)<16)=true:=aG (by omega);obtain⟨U,b1⟩:∃q,q=15-i:=⟨_,rfl⟩;have m6:aJ.wrap (15-(i:Int))=(U:Int):=by rw[aM];omega
         have f2:(15:Int)-(i:Int)=(U:Int):=by omega
         have m7:min U 64=U:=by omega
         have e6:=FA V U;have a0:=hid (aH0 V k i);rw[<-b1] at a0;have f3:=d1.out i
         cases Y:V.testBit U with
         |false=>
          rw[Y,show((false.toNat:Nat):Int)=0 from rfl] at e6;rw[Y] at a0;clear Y b1;go_wp2_with fail;have A:=c1.out
          go_roundg (16-(i+1))
          case measure=>omega
          case rel=>exact⟨i+1,by omega,rfl,by go_num,by rw[a0.out,aA (by decide),dI];exact b0,a5⟩
         |true=>
          rw[Y,show((true.toNat:Nat):Int)=1 from rfl] at e6;rw[Y] at a0;obtain⟨c,hc⟩:∃c:Nat,c=I+i:=⟨_,rfl⟩;have m8:aJ.wrap ((I:Int)+(i:Int))=(c:Int):=by rw[aM];omega
          have f4:(I:Int)+(i:Int)=(c:Int):=by omega
          obtain⟨b,M⟩:∃b:UInt8,b=eA c:=⟨_,rfl⟩;have b2:b.toNat=c:=by rw[M,nD];omega
          have m9:oQ.wrap (c:Int)=(b.toNat:Int):=by rw[b2,sG];omega
          have f5:(c:Int)%256=(b.toNat:Int):=by rw[b2];omega
          have d4:=hid (show eA (16*k+i)=b by rw[M,hc,d0.out]);have d5:=a5.size;clear Y b1 hc M b2;go_wp2_with (at_builtin;refine DX rfl _ _ rfl G.heap.size _ _ rfl (Ow.alloc b0 _) wr.heap.size b rfl ?_ ?_ ?_ ?_;(exact bX _ _ _);(rw[aL];omega);(simp;omega);intro v' w3 d6 hB f6);have A:=c1.out
          go_roundg (16-(i+1))
          case measure=>omega
          case rel=>exact⟨i+1,by omega,rfl,by go_num,by rw[a0.out,aB trivial,d4.out,<-bU];exact d6,(a5.alloc d5 _).trans hB⟩
        ·have u2:decide ((i:Int)<16)=false:=aE (by omega);have d7:i=16:=by omega
         subst d7;go_wp2_with fail;have A:=HG.out
         go_roundg (16-(k+1))
         case measure=>omega
         case rel=>exact⟨k+1,_,b8,H||T1,by omega,rfl,by go_num,rfl,rfl,T,b0,a5⟩
     ·have hU:=UI (k:=k+1) D (by omega) (by rw[aHx HU.out HB.out (by rw[HL.out];exact D),HL.out]);have d8:=hid hU;have t3:(aP s.size d 16 != 0)=true:=by rw[bne_iff_ne];exact D
      have t4:(aP s.size d 16==0)=false:=by rw[cB];exact D
      generalize aP s.size d 16=E at*
      generalize aK s.data.toList d 16=V at*
      clear hU D;go_wp2_with fail;refine(a4 _).mono ?_;rintro e w2 ⟨rfl,rfl⟩;go_wp2_with fail
      go_ret3
      exact⟨by rw[d8.out];rfl,O⟩
   ·have t1:decide ((k:Int)<16)=false:=aE (by omega);have d9:k=16:=by omega
    subst d9;have Z:=aHz HU.out
    cases H with
    |true=>
     rw[aB rfl] at Z;have b3:=hid Z;clear Z;go_wp2_with fail
     go_ret3
     exact⟨by rw[b3.out];rfl,O⟩
    |false=>
     rw[aA (by decide)] at Z;have b3:=hid Z;clear Z;obtain⟨a,n,c,rfl,HN,f7,f8⟩:=a2.openN;have f9:(convert 61 9 (.slice a n c)).run pG wr=.ok (.string (mkS o)) wr:=mP a2.rd;go_wp2_with fail
     go_ret3
     exact⟨by rw[b3.out];rfl,O⟩
theorem bCi (s:ByteArray) (p:Int) (w:World) (hs:s.size<=1000000) (c9: -9223372036854775808<=p) (d0:p<=9223372036854775807):
  Calls pG 139 #[.string s,.int .i64 p] w fun e w'=>e=.returned (.tuple #[.string (mkS (dF s.data.toList p).1),.int .i64 (dF s.data.toList p).2.1,.int .i64 (dF s.data.toList p).2.2])/\Below w.heap.size w w':=by
 have hL:s.data.toList.length=s.size:=by simp
 have hz:=aHv s.data.toList p;have b8:=fun W=>uQ s p 16 W hs (by decide) c9 d0
 have d1:=jV s.data.toList p 16;rw[hL] at hz;obtain⟨G,a5⟩:∃E,E=aP s.size p 16:=⟨_,rfl⟩;obtain⟨F,hF⟩:∃F,F=aK s.data.toList p 16:=⟨_,rfl⟩;rw[<-hF,<-a5] at hz b8;rw[<-hF] at d1;have d2:F<18446744073709551616:=by omega
 have a6:G=0->0<=p/\p<=8000000:=fun h=>by
  have:=iG (n:=s.size) (at':=p) (k:=16) (by rw[<-a5];exact h);omega
 obtain⟨J,a7⟩:∃J:Bool,J=(F==0):=⟨_,rfl⟩;have t0:((F:Int)==0)=J:=by
  rw[a7]
  by_cases h:F=0
  ·rw[h];rfl
  ·rw[beq_eq_false_iff_ne.2 h,cB];omega
 obtain⟨a8,a9⟩:∃q:Int,q=aJ.wrap (p+16):=⟨_,rfl⟩;have b9:G=0->a8=p+16:=fun h=>by
  have:=a6 h;rw[a9,aM];omega
 have HF:=hid hF;have HL:=hid hL;have c0:=hid (show(G=0/\dQ s.data.toList p 0=([],a8,J||false,0))\/(G≠0/\(dQ s.data.toList p 0).2.2.2=G) by
  by_cases h:G=0
  ·left;exact⟨h,by rw[hz,b9 h,<-a7,h,OZ]⟩
  ·right;exact⟨h,by rw[hz]⟩)
 have d3:=hid a6;have m0:=a9.symm;clear hF hz hL a7 b9 a6 a9 a5;go_enter func139,ntmps139;go_wp2_with fail;refine(b8 _).mono ?_;rintro e O ⟨rfl,rfl⟩;go_wp2_with fail
 go_loopg [1,6,7,8,10] 16 (fun g s1 s6 s7 s8 d4 wr=>∃(k:Nat) (o:List UInt8) (d:Int) (D:Bool) (E:Int),k<=16/\g=16-k/\d4=.int .i64 (k:Int)/\s1=.int .i64 d/\s8=.bool D/\s6=.int .i64 E/\Hid ((E=0/\dQ s.data.toList p k=(o,d,J||D,0))\/(E≠0/\(dQ s.data.toList p k).2.2.2=E))/\o.length<=16*k/\OwB wr O.heap.size s7 o/\Below O.heap.size O wr)
 case atStart=>exact⟨0,[],a8,false,G,by omega,rfl,rfl,rfl,rfl,rfl,c0,by simp,Ow.nil _ _ _,aH _ _⟩
 case round=>
  obtain⟨k,o,d,D,E,hk,H,rfl,rfl,rfl,rfl,HU,e9,a2,L⟩:=hrel;have HG:=hid H;clear H m0;have f0:=L.size
  by_cases U:E=0
  rotate_left
  ·have t2:(E==0)=false:=by rw[cB];exact U
   have t3:(E != 0)=true:=by rw[bne_iff_ne];exact U
   have A:dF s.data.toList p=([],0,E):=by
    rcases HU.out with⟨h,_⟩|⟨_,h⟩
    ·exact absurd h U
    ·exact UI U hk h
   have c1:=hid A;clear A U
   by_cases d5:k<16
   ·have t1:decide ((k:Int)<16)=true:=aG (by omega);go_wp2_with fail
    go_ret3
    exact⟨by rw[c1.out];rfl,L⟩
   ·have t1:decide ((k:Int)<16)=false:=aE (by omega);go_wp2_with fail
    go_ret3
    exact⟨by rw[c1.out];rfl,L⟩
  ·subst U;have A:dQ s.data.toList p k=(o,d,J||D,0):=by
    rcases HU.out with⟨_,h⟩|⟨h,_⟩
    ·exact h
    ·exact absurd rfl h
   have f1:0<=p/\p<=8000000:=by
    apply d3.out
    by_cases h:G=0
    ·exact h
    ·have h0:(dQ s.data.toList p 0).2.2.2=G:=by
      rcases c0.out with⟨h1,_⟩|⟨_,h1⟩
      ·exact absurd h1 h
      ·exact h1
     have h2:=CC (s:=s.data.toList) (at':=p) (k:=0) (by rw[h0];exact h) k;rw[Nat.zero_add] at h2;rw[h2] at A;rw[A] at h0;exact h0.symm
   have b0:=EO s.data.toList p k;rw[A] at b0;have d6:=b0.2 rfl;simp only at d6;clear b0
   by_cases d5:k<16
   ·have t1:decide ((k:Int)<16)=true:=aG (by omega);obtain⟨q,hq⟩:∃q,q=15-k:=⟨_,rfl⟩;have m1:aJ.wrap (15-(k:Int))=(q:Int):=by rw[aM];omega
    have f2:(15:Int)-(k:Int)=(q:Int):=by omega
    have m2:min q 64=q:=by omega
    have e4:=SW F q d2;obtain⟨b,T⟩:∃b,b=F.testBit q:=⟨_,rfl⟩;rw[<-T] at e4;have HB:=hid (show(aK s.data.toList p 16).testBit (15-k)=b by rw[<-HF.out,<-hq,T]);clear hq T
    cases b with
    |false=>
     have HS:=hid (aHw A HB.out);have e5:((false.toNat:Nat):Int)=0:=rfl;rw[e5] at e4;clear A;go_wp2_with fail;have H:=HG.out
     go_roundg (16-(k+1))
     case measure=>omega
     case rel=>exact⟨k+1,o,d,D,0,by omega,rfl,by go_num,rfl,rfl,rfl,hid (.inl ⟨rfl,HS.out⟩),by omega,a2,L⟩
    |true=>
     have e5:((true.toNat:Nat):Int)=1:=rfl;rw[e5] at e4;have c2:=fun W=>uQ s d 16 W hs (by decide) (by omega) (by omega)
     have hV:=jV s.data.toList d 16;have b1:=KS (aK s.data.toList d 16) k;obtain⟨b2,c3⟩:∃q:Int,q=d+16:=⟨_,rfl⟩;have m3:aJ.wrap (d+16)=b2:=by rw[aM];omega
     have a3:(aP s.size d 16=0/\dQ s.data.toList p (k+1)=(o++nJ (aK s.data.toList d 16) k 16,b2,J||(D||aK s.data.toList d 16==0),0))\/(aP s.size d 16≠0/\(dQ s.data.toList p (k+1)).2.2.2=aP s.size d 16):=by
      by_cases h:aP s.size d 16=0
      ·left
       have:=aHy A HB.out (by rw[HL.out];exact h);rw[Bool.or_assoc] at this;exact⟨h,by rw[this,c3]⟩
      ·right
       have:=aHx A HB.out (by rw[HL.out];exact h);rw[HL.out] at this;exact⟨h,this⟩
     obtain⟨V,b3⟩:∃V,V=aK s.data.toList d 16:=⟨_,rfl⟩;obtain⟨E2,c4⟩:∃E,E=aP s.size d 16:=⟨_,rfl⟩;rw[<-b3,<-c4] at c2 a3;rw[<-b3] at hV b1;have d7:V<18446744073709551616:=by omega
     obtain⟨T1,b4⟩:∃T1:Bool,T1=(V==0):=⟨_,rfl⟩;have u1:((V:Int)==0)=T1:=by
      rw[b4]
      by_cases h:V=0
      ·rw[h];rfl
      ·rw[beq_eq_false_iff_ne.2 h,cB];omega
     rw[<-b4] at a3;have d8:=hid a3;obtain⟨M,c5⟩:∃M,M=16*k:=⟨_,rfl⟩;have m4:aJ.wrap ((k:Int)*16)=(M:Int):=by rw[aM];omega
     have m5:(k:Int)*16=(M:Int):=by omega
     have d9:=hid c5;have f3:M<=240:=by omega
     have c6:=hid b1;clear c5 b4 c3 b3 b1 a3 A c4;go_wp2_with fail;refine(c2 _).mono ?_;rintro e w2 ⟨rfl,rfl⟩;go_upto_region 12 with fail
     go_cut [8] (fun c8 wx=>c8=.bool (D||T1)/\wx=w2)
     case first=>
      cases D with
      |true=>go_wp2_with fail;go_meet;exact⟨rfl,rfl⟩
      |false=>go_wp2_with fail;go_meet;exact⟨rfl,rfl⟩
     case rest=>
      obtain⟨rfl,rfl⟩:=hcut;go_wp2_with fail
      go_loopg [7,48] 16 (fun g s7 e0 wx=>∃i:Nat,i<=16/\g=16-i/\e0=.int .i64 (i:Int)/\OwB wx O.heap.size s7 (o++nJ V k i)/\Below O.heap.size O wx)
      case atStart=>exact⟨0,by omega,rfl,rfl,by rw[show nJ V k 0=[] from rfl,dI];exact a2,L⟩
      case round=>
       obtain⟨i,hi,H,rfl,b5,a4⟩:=hrel;have c7:=hid H;clear H e4
       by_cases f4:i<16
       ·have u2:decide ((i:Int)<16)=true:=aG (by omega);obtain⟨Y,b6⟩:∃q,q=15-i:=⟨_,rfl⟩;have m6:aJ.wrap (15-(i:Int))=(Y:Int):=by rw[aM];omega
        have f5:(15:Int)-(i:Int)=(Y:Int):=by omega
        have m7:min Y 64=Y:=by omega
        have e6:=SW V Y d7;have a0:=hid (aH0 V k i);rw[<-b6] at a0;have f6:=c6.out i
        cases Z:V.testBit Y with
        |false=>
         rw[Z,show((false.toNat:Nat):Int)=0 from rfl] at e6;rw[Z] at a0;clear Z b6;go_wp2_with fail;have H:=c7.out
         go_roundg (16-(i+1))
         case measure=>omega
         case rel=>exact⟨i+1,by omega,rfl,by go_num,by rw[a0.out,aA (by decide),dI];exact b5,a4⟩
        |true=>
         rw[Z,show((true.toNat:Nat):Int)=1 from rfl] at e6;rw[Z] at a0;obtain⟨c,hc⟩:∃c:Nat,c=M+i:=⟨_,rfl⟩;have m8:aJ.wrap ((M:Int)+(i:Int))=(c:Int):=by rw[aM];omega
         have f7:(M:Int)+(i:Int)=(c:Int):=by omega
         obtain⟨b,T⟩:∃b:UInt8,b=eA c:=⟨_,rfl⟩;have b7:b.toNat=c:=by rw[T,nD];omega
         have m9:oQ.wrap (c:Int)=(b.toNat:Int):=by rw[b7,sG];omega
         have f8:(c:Int)%256=(b.toNat:Int):=by rw[b7];omega
         have e1:=hid (show eA (16*k+i)=b by rw[T,hc,d9.out]);have e2:=a4.size;clear Z b6 hc T b7;go_wp2_with (at_builtin;refine DX rfl _ _ rfl O.heap.size _ _ rfl (Ow.alloc b5 _) wr.heap.size b rfl ?_ ?_ ?_ ?_;(exact bX _ _ _);(rw[aL];omega);(simp;omega);intro v' w3 e3 hB f9);have H:=c7.out
         go_roundg (16-(i+1))
         case measure=>omega
         case rel=>exact⟨i+1,by omega,rfl,by go_num,by rw[a0.out,aB trivial,e1.out,<-bU];exact e3,(a4.alloc e2 _).trans hB⟩
       ·have u2:decide ((i:Int)<16)=false:=aE (by omega);have e7:i=16:=by omega
        subst e7;have g0:=c6.out 16;go_wp2_with fail;have H:=HG.out
        go_roundg (16-(k+1))
        case measure=>omega
        case rel=>exact⟨k+1,_,b2,D||T1,E2,by omega,rfl,by go_num,rfl,rfl,rfl,d8,by rw[aL];omega,b5,a4⟩
   ·have t1:decide ((k:Int)<16)=false:=aE (by omega);have e8:k=16:=by omega
    subst e8;have I:=aHz A
    cases D with
    |true=>
     rw[Bool.or_true,aB rfl] at I;have a1:=hid I;clear I A;go_wp2_with fail
     go_ret3
     exact⟨by rw[a1.out];rfl,L⟩
    |false=>
     cases J with
     |true=>
      rw[OZ,aB rfl] at I;have a1:=hid I;clear I A;go_wp2_with fail
      go_ret3
      exact⟨by rw[a1.out];rfl,L⟩
     |false=>
      rw[OZ,aA (by decide)] at I;have a1:=hid I;clear I A;obtain⟨a,n,c,rfl,HN,g1,g2⟩:=a2.openN;have g3:(convert 61 9 (.slice a n c)).run pG wr=.ok (.string (mkS o)) wr:=mP a2.rd;go_wp2_with fail
      go_ret3
      exact⟨by rw[a1.out];rfl,L⟩
end Go.Proofs.YtfplbbphficcjaaGreatDoor
