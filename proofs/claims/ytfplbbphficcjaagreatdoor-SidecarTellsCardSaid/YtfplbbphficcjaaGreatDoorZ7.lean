/-
  Texts put together (part 7): the walks and the plain laws on which the statement stands.
-/
import Derived.Deep.CutBlock
import Derived.Defers
import Derived.Recover
import Derived.Laws.ResultCell
import Derived.Maps.AppendAt
import Derived.Test.YtfplbbphficcjaaGreatDoorZ2
import Derived.Test.YtfplbbphficcjaaGreatDoorZ3
import Derived.Test.YtfplbbphficcjaaGreatDoorZ4
set_option maxRecDepth 100000
set_option maxHeartbeats 12800000
set_option linter.unusedVariables false
set_option linter.unusedSimpArgs false
open Go.Proofs.Tryz
open Go.Proofs.Tryz renaming prog->pG
open Array renaming getElem?_eq_some_iff->fE
open Go renaming Operand->iF,Program->fO,cell_of_row->yI
open Go.Addr renaming add->gP
open Go.IntKind renaming i64->aJ,u64->eZ,wrap_i64->aM,wrap_u64->fC,wrap_u8->sG
open Go.Oper renaming wp->nC
open Go.Region renaming wanted->qL
open Go.Result renaming andThen_ok->AR
open Go.RowKit.Below renaming refl->aH
open Go.Sem renaming run_bind->vI,run_pure->AQ
open Go.Value renaming int->bQ
open Go.World renaming ownsRow_nil->WJ
open Go.World.ownsRow renaming alloc->WK,kept->yJ,lt->aK9
open Int renaming tdiv_eq_ediv_of_nonneg->IK,tmod_eq_emod_of_nonneg->mL,toNat_natCast->fL
open List renaming append_assoc->bU,append_nil->dI,drop_eq_getElem_cons->pF,drop_of_length_le->sB,getD_eq_getElem?_getD->bV,getElem?_drop->jR,getElem?_eq_getElem->aN,getElem?_eq_some_iff->eF,length_append->aL,length_drop->bA,length_map->aS,length_take->aQ,map_append->dY,map_cons->kI,map_nil->vJ,map_toArray->AS,mem_of_getElem?->cN,replicate->aX,take_add_one->cG,take_of_length_le->cD
open Nat renaming le_refl->aD,le_trans->aR,lt_of_lt_of_le->fB,lt_or_ge->cF,pow_le_pow_right->nF,zero_add->iP,zero_le->aO
open UInt8 renaming ofNat->eA
namespace Go.Proofs.YtfplbbphficcjaaGreatDoor
section
open Go.RowKit
def bI (l:List Bool):List Int:=l.map (fun b=>(b.toNat:Int))
theorem cX (l:List Bool):(bI l).length=l.length:=aS ..
theorem iT (l m:List Bool):bI (l++m)=bI l++bI m:=dY ..
theorem aV4 {l:List Bool} {k:Nat} {b:Bool} (h:l[k]? =some b):(bI l)[k]? =some (b.toNat:Int):=by simp[bI,h]
theorem aV5 (l:List Bool) (k:Nat):(bI l).take k=bI (l.take k):=List.map_take.symm
theorem aV6 (s:List UInt8) (k:Nat) (h:k<8*s.length):(eR s).take (k+1)=(eR s).take k++[dO s k]:=by
 rw[cG,wA,aB h];rfl
theorem aEb (v n k:Nat) (h:k<n):(aT v n).take (k+1)=(aT v n).take k++[v.testBit (n-1-k)]:=by
 rw[cG,KI _ _ _ h];rfl
theorem aEc (s:ByteArray) (i:Nat) (w:World) (D:i<8*s.size) (F:s.size<=140737488355328):
  Calls pG 57 #[.string s,.int .i64 (i:Int)] w fun e w'=>e=.returned (.int .i64 ((dO s.data.toList i).toNat:Int))/\w'=w:=by
 have d:i/8<s.size:=by omega
 have G:(i:Int).tdiv 8=((i/8:Nat):Int):=by rw[IK (by omega)];omega
 have H:(i:Int).tmod 8=((i%8:Nat):Int):=by rw[mL (by omega)];omega
 have I:aJ.wrap (7-((i%8:Nat):Int))=((7-i%8:Nat):Int):=by rw[aM];omega
 have h:=fW s (i/8) d;have J:=FA s[i/8].toNat (7-i%8);have A:dO s.data.toList i=s[i/8].toNat.testBit (7-i%8):=by unfold dO;rw[bV,h];rfl
 rw[A];have L:=s[i/8].toNat_lt;go_enter func57,ntmps57;go_wp2_with fail;go_ret;exact⟨rfl,rfl⟩
theorem aEd (s:ByteArray) (w:World) (V:s.size<=1000000):
  Calls pG 41 #[.string s] w fun e w'=>∃v,e=.returned v/\OwI w' w.heap.size v (bI (eR s.data.toList))/\Below w.heap.size w w':=by
 have h:=hid (show s.data.toList.length=s.size by simp);go_enter func41,ntmps41;go_wp2_with fail
 go_loopg [3,4] (8*s.size) (fun g H I wr=>∃k:Nat,k<=8*s.size/\g=8*s.size-k/\I=.int .i64 k/\OwI wr w.heap.size H (bI ((eR s.data.toList).take k))/\Below w.heap.size w wr)
 case atStart=>exact⟨0,aO _,rfl,rfl,OwI.nil _ _,aH _ _⟩
 case round=>
  obtain⟨k,Y,A,rfl,D,d⟩:=hrel;have J:=hid A;clear A;have Z:aJ.wrap (8*(s.size:Int))=8*(s.size:Int):=by rw[aM];omega
  by_cases F:k<8*s.size
  ·have L:decide ((k:Int)<8*(s.size:Int))=true:=aG (by omega);have M:(bI ((eR s.data.toList).take k)).length=k:=by rw[cX,aQ,qU,h.out];omega
   have a0:=d.size;have O:=hid (aV6 s.data.toList k (by rw[h.out];exact F));go_wp2_with fail;refine(aEc s k _ F (by omega)).mono ?_;rintro e G ⟨rfl,rfl⟩;go_wp2_with (at_builtin;refine gK rfl _ _ rfl w.heap.size _ _ rfl (D.alloc _) G.heap.size ((dO s.data.toList k).toNat:Int) rfl ?_ ?_ ?_ ?_;(exact bX _ _ _);(rw[M];omega);(simp;omega);intro v' G T U a1);have A:=J.out
   go_roundg (8*s.size-(k+1))
   case measure=>omega
   case rel=>
    refine⟨k+1,by omega,rfl,by go_num,?_,(d.alloc d.size _).trans U⟩;rw[O.out,iT];exact T
  ·have L:decide ((k:Int)<8*(s.size:Int))=false:=aE (by omega);go_wp2_with fail;go_ret;refine⟨_,rfl,?_,d⟩;rw[cD (by rw[qU,h.out];omega)] at D;exact D
theorem wK (v n:Nat) (w:World) (_hv:v<18446744073709551616) (Z:n<=64):
  Calls pG 44 #[.int .u64 (v:Int),.int .i64 (n:Int)] w fun e w'=>∃u,e=.returned u/\OwI w' w.heap.size u (bI (aT v n))/\Below w.heap.size w w':=by
 go_enter func44,ntmps44;go_wp2_with fail;have m1:aJ.wrap ((n:Int)-1)=(n:Int)-1:=by rw[aM];omega
 go_loopg [5,6] n (fun g G H wr=>∃k:Nat,k<=n/\g=n-k/\H=.int .i64 ((n:Int)-1-(k:Int))/\OwI wr w.heap.size G (bI ((aT v n).take k))/\Below w.heap.size w wr)
 case atStart=>exact⟨0,aO _,rfl,by go_num,OwI.nil _ _,aH _ _⟩
 case round=>
  obtain⟨k,hk,A,rfl,D,d⟩:=hrel;have I:=hid A;clear A
  by_cases J:k<n
  ·have L:decide ((n:Int)-1-(k:Int)>=0)=true:=aG (by omega);have M:decide (0<=(n:Int)-1-(k:Int))=true:=aG (by omega);obtain⟨j,h⟩:∃j:Nat,j=n-1-k:=⟨_,rfl⟩;have F:(n:Int)-1-(k:Int)=(j:Int):=by omega
   have O:(bI ((aT v n).take k)).length=k:=by rw[cX,aQ,dV];omega
   have a0:=d.size;have T:=hid (aEb v n k J);have e4:=FA v j;have eb:((v.testBit j).toNat:Int)<2:=by cases v.testBit j<;>decide
   have e6:wrap64 ((v.testBit j).toNat:Int)=((v.testBit j).toNat:Int):=by unfold wrap64;omega
   rw[F];have e7:min j 64=j:=by omega
   have U:=hid h;clear h F;go_wp2_with (at_builtin;refine gK rfl _ _ rfl w.heap.size _ _ rfl (D.alloc _) wr.heap.size ((v.testBit j).toNat:Int) rfl ?_ ?_ ?_ ?_;(exact bX _ _ _);(rw[O];omega);(simp;omega);intro v' w1 V Y a1);have A:=I.out
   go_roundg (n-(k+1))
   case measure=>omega
   case rel=>
    have h:=U.out;refine⟨k+1,by omega,rfl,by go_num,?_,(d.alloc d.size _).trans Y⟩;rw[T.out,iT,<-h];exact V
  ·have L:decide ((n:Int)-1-(k:Int)>=0)=false:=aE (by omega);have M:decide (0<=(n:Int)-1-(k:Int))=false:=aE (by omega);go_wp2_with fail;go_ret;refine⟨_,rfl,?_,d⟩;rw[cD (by rw[dV];omega)] at D;exact D
def uR (l:List Bool):Nat->Nat
 |0=>0
 |k+1=>2*uR l k+(l.getD k false).toNat
theorem aEg (l:List Bool):∀k,uR l k<2^k
 |0=>by simp[uR]
 |k+1=>by
  have:=aEg l k;have d:(l.getD k false).toNat<2:=by cases l.getD k false<;>decide
  grind [uR]
theorem aV7 (l:List Bool):uR l 8=xN l:=rfl
theorem aV8 (l:List Bool) (j:Nat) (h:j<(l.length+7)/8):(aI l).take (j+1)=(aI l).take j++[zG (l.drop (8*j))]:=by grind [cG,aI,List.getElem?_range,zG]
theorem FB {e:Array Oper} {rest:List Oper} {o:Oper} {a:Act} {Q:Exit->Act->World->Prop} {w:World} (A:o.guard=none) (s x:iF)
  (D:o.op=.call {callee:=.builtin .append,args:=#[s,x],argTypes:=#[61,61]}) (base:Nat) (v:Value) (l:List UInt8) (hs:a.eval s=v) (hown:OwB w base v l)
  (g:Nat) (b:UInt8) (hx:a.eval x=.slice (some ⟨g,0,none⟩) 1 1) (hc:w.cell? ⟨g,0,none⟩=some (.int .u8 (b.toNat:Int))) (hroom:(l.length+1)*1<=140737488355328) (hbase:base<=w.heap.size)
  (h:∀d w',OwB w' base d (l++[b])->Below base w w'->w.grownBy w' v.ownBlock->wpList pG e Q rest (a.put o.dst d) w'):wpList pG e Q (o::rest) a w:=
 tM yU A s x D base v _ hs hown g _ hx hc rfl (by simpa using hroom) hbase (fun d w' F G H=>h d w' (by unfold OwB;rw[IY];exact F) G H)
theorem rQ:(pG.info? 83).map (·.size)=some 2:=by kernel_rfl
theorem CF (v:Value) (l:List Bool) (w:World) (hr:RdI w v (bI l)) (hl:l.length<=1000000):
  Calls pG 46 #[v] w fun e w'=>e=.returned (.agg #[.string (mkS (aI l)),.int .i64 (l.length:Int)])/\Below w.heap.size w w':=by
 obtain⟨a,ca,rfl,a6,a7,O⟩:=hr.open;rw[cX] at a6 O;simp only[cX];unfold maxLen at a7;clear hr;have HA:=hid O;clear O;go_enter func46,ntmps46;go_wp2_with fail;have hR:=Arr.new w 83 [.string {data:=#[]},.int .i64 0];have a8:Below w.heap.size w (w.alloc (.cells #[.string {data:=#[]},.int .i64 0] 83)):=bD (aH _ _) _;change Arr (w.alloc (.cells #[.string {data:=#[]},.int .i64 0] 83)) _ _ _ at hR;generalize w.alloc (.cells #[.string {data:=#[]},.int .i64 0] 83)=w0 at*
 go_loopg [3,4,5,6] ((l.length+7)/8) (fun g s3 s4 _s5 _s6 wr=>∃j i:Nat,i=8*j/\j<=(l.length+7)/8/\g=(l.length+7)/8-j/\s4=.int .i64 (i:Int)/\OwB wr (w.heap.size+1) s3 ((aI l).take j)/\Arr wr w.heap.size 83 [.string {data:=#[]},.int .i64 0]/\Below w.heap.size w wr)
 case atStart=>exact⟨0,0,rfl,aO _,rfl,rfl,Ow.nil _ _ _,hR,a8⟩
 case round=>
  obtain⟨j,i,F,hj,T,rfl,U,h,G⟩:=hrel;have HG:=hid T;clear T;have b4:=G.size;have b5:=h.lt;have V:((aI l).take j).length=j:=by rw[aQ,iJ];omega
  have HS:=hid (aV8 l j);obtain⟨L,Y⟩:∃L,L=l.drop i:=⟨_,rfl⟩;have Z:=hid Y;have HI:=hid F;have a9:=hid V
  by_cases b6:i<l.length
  ·have t1:decide ((i:Int)<(l.length:Int))=true:=aG (by omega);clear Y F V;go_wp2_with fail
   go_loopg [5,6] 8 (fun g s5 s6 wx=>∃k n:Nat,n=uR L k/\k<=8/\g=8-k/\s6=.int .i64 (k:Int)/\s5=.int .i64 (n:Int)/\wx=wr)
   case atStart=>exact⟨0,0,rfl,by omega,rfl,rfl,rfl,rfl⟩
   case round=>
    obtain⟨k,n,hn,hk,H,rfl,rfl,rfl⟩:=hrel;have a0:=hid H;clear H;have a1:=aEg L k;rw[<-hn] at a1;have hp:2^k<=256:=aR (nF (by decide) hk) (by decide);have b7:n<256:=by omega
    have HN:=hid hn;clear hn a1 hp
    by_cases b8:k<8
    ·have t2:decide ((k:Int)<8)=true:=aG (by omega);obtain⟨d,I⟩:∃d:Nat,d=2*n:=⟨_,rfl⟩;obtain⟨q,J⟩:∃q:Nat,q=i+k:=⟨_,rfl⟩;have b9:q<2000000:=by omega
     have hs:=hid (show uR L (k+1)=2*uR L k+(L.getD k false).toNat from rfl)
     by_cases b0:q<l.length
     ·have t3:decide ((q:Int)<(l.length:Int))=true:=aG (by omega);obtain⟨b1,o1,rfl,b2,a2⟩:=HA.out (by omega);have a3:(bI l)[q]? =some ((L.getD k false).toNat:Int):=by
       refine aV4 ?_;rw[Z.out,bV,jR,<-J,aN b0];rfl
      have c1:wr.cell? ⟨b1,o1+q,none⟩=some (.int .i64 ((L.getD k false).toNat:Int)):=by rw[G.cell (p:=⟨b1,o1+q,none⟩) b2];exact a2 _ _ a3
      obtain⟨A,M⟩:∃A:Nat,A=(L.getD k false).toNat:=⟨_,rfl⟩;have c0:A<2:=by rw[M];cases L.getD k false<;>decide
      rw[<-M] at c1;obtain⟨D,a4⟩:∃D:Nat,D=d+A:=⟨_,rfl⟩;have m1:aJ.wrap (2*(n:Int))=(d:Int):=by rw[aM];omega
      have m2:aJ.wrap ((i:Int)+(k:Int))=(q:Int):=by rw[aM];omega
      have m3:aJ.wrap ((d:Int)+(A:Int))=(D:Int):=by rw[aM];omega
      have HE:=hid (show D=uR L (k+1) by rw[hs.out,<-HN.out,<-M,a4,I]);clear a2 a3 M a4 I J;go_wp2_with fail;have H:=a0.out
      go_roundg (8-(k+1))
      case measure=>omega
      case rel=>exact⟨k+1,D,HE.out,by omega,rfl,by go_num,rfl,rfl⟩
     ·have t3:decide ((q:Int)<(l.length:Int))=false:=aE (by omega);have HE:=hid (show d=uR L (k+1) by
       rw[hs.out,<-HN.out,Z.out,bV,jR,<-J,List.getElem?_eq_none (by omega),I];rfl)
      have m1:aJ.wrap (2*(n:Int))=(d:Int):=by rw[aM];omega
      have m2:aJ.wrap ((i:Int)+(k:Int))=(q:Int):=by rw[aM];omega
      clear I J;go_wp2_with fail;have H:=a0.out
      go_roundg (8-(k+1))
      case measure=>omega
      case rel=>exact⟨k+1,d,HE.out,by omega,rfl,by go_num,rfl,rfl⟩
    ·have t2:decide ((k:Int)<8)=false:=aE (by omega);have m4:IntKind.u8.wrap (n:Int)=(n:Int):=by rw[sG];omega
     have hv:zG (l.drop (8*j))=eA n:=by
      unfold zG;rw[<-HI.out,<-Z.out,<-aV7,<-show k=8 by omega,<-HN.out]
     have e1:((eA n).toNat:Int)=(n:Int):=by rw[UInt8.toNat_ofNat',Nat.mod_eq_of_lt (by omega)]
     have HV:=hid hv;clear hv;go_wp2_with (at_builtin;refine FB rfl _ _ rfl (w.heap.size+1) _ _ rfl (Ow.alloc U _) wr.heap.size (eA n) rfl ?_ ?_ ?_ ?_;(rw[e1];exact bX _ _ _);(rw[a9.out];omega);(simp;omega);intro v' w3 b3 hB c2);have T:=HG.out;have F:=HI.out
     go_roundg ((l.length+7)/8-(j+1))
     case measure=>omega
     case rel=>
      refine⟨j+1,i+8,by omega,by omega,rfl,by go_num,?_,(h.alloc _).below hB (Nat.lt_succ_self _),(bD G _).trans (hB.mono (by omega))⟩;rw[HS.out (by omega),HV.out];exact b3
  ·have t1:decide ((i:Int)<(l.length:Int))=false:=aE (by omega);have a5:(aI l).take j=aI l:=cD (by rw[iJ];omega);rw[a5] at U;clear a5 V Y F;have c3:=mP U.rd;have r0:=h.free 0;have r1:=h.free 1;have r2:=h.cell (i:=0) rfl;have r3:=h.cell (i:=1) rfl;go_wp2_with fail;refine bodyPost_ret (results_cell_row rfl _ _ w.heap.size _ _ (0,0) _ rfl ((h.set 0 _).set 1 _) underlying83 rfl rQ) rfl ?_;exact⟨rfl,(G.setCell (p:=⟨w.heap.size,0,none⟩) (aD _) _).setCell (p:=⟨w.heap.size,1,none⟩) (aD _) _⟩
theorem aEe {s:List UInt8} {a k:Nat} (h:a+k<8*s.length):seg s a (k+1)=seg s a k++[dO s (a+k)]:=by grind [seg,cG,wA,dO]
theorem aEf (s:List UInt8) (a:Nat):seg s a 0=[]:=by simp[seg]
theorem sV (s:ByteArray) (p:Int) (n:Nat) (w:World) (hs:s.size<=1000000) (hn:n<=64) (a5: -9223372036854775808<=p) (a6:p<=9223372036854775807):
  Calls pG 85 #[.string s,.int .i64 p,.int .i64 (n:Int)] w fun e w'=>e=.returned (.tuple #[.int .u64 (aK s.data.toList p n:Nat),.int .i64 (aP s.size p n)])/\w'=w:=by
 have D:s.data.toList.length=s.size:=by simp
 have n1:decide ((n:Int)<0)=false:=aE (by omega);have n2:decide ((n:Int)>64)=false:=aE (by omega);have n3:decide (64<(n:Int))=false:=aE (by omega);have m1:aJ.wrap (8*(s.size:Int))=8*(s.size:Int):=by rw[aM];omega
 have m2:aJ.wrap (8*(s.size:Int)-(n:Int))=8*(s.size:Int)-(n:Int):=by rw[aM];omega
 by_cases G:p<0
 ·have h:aP s.size p n=1:=by unfold aP;rw[aB G]
  have A:aK s.data.toList p n=0:=by unfold aK;rw[D,h,aA (by decide)]
  rw[h,A];have t1:decide (p<0)=true:=aG G;clear D h A;go_enter func85,ntmps85;go_wp2_with fail
  go_ret2
  exact⟨rfl,rfl⟩
 ·have t1:decide (p<0)=false:=aE G
  by_cases F:8*(s.size:Int)-(n:Int)<p
  ·have h:aP s.size p n=2:=by unfold aP;rw[aA G,aB F]
   have A:aK s.data.toList p n=0:=by unfold aK;rw[D,h,aA (by decide)]
   rw[h,A];have t2:decide (8*(s.size:Int)-(n:Int)<p)=true:=aG F;have t3:decide (p>8*(s.size:Int)-(n:Int))=true:=aG F;clear D h A;go_enter func85,ntmps85;go_wp2_with fail
   go_ret2
   exact⟨rfl,rfl⟩
  ·have h:aP s.size p n=0:=by unfold aP;rw[aA G,aA F]
   obtain⟨a,rfl⟩:∃a:Nat,p=(a:Int):=⟨p.toNat,by omega⟩;have a7:a+n<=8*s.size:=by omega
   have A:aK s.data.toList (a:Int) n=dG (seg s.data.toList a n):=by unfold aK;rw[D,h,aB rfl,fL]
   rw[h,A];have t2:decide (8*(s.size:Int)-(n:Int)<(a:Int))=false:=aE F;have t3:decide ((a:Int)>8*(s.size:Int)-(n:Int))=false:=aE F;have O:=hid D;clear D h A F;go_enter func85,ntmps85;go_wp2_with fail
   go_loopg [8,9] n (fun g s8 s9 wr=>∃k v:Nat,k<=n/\g=n-k/\s9=.int .i64 (k:Int)/\s8=.int .u64 (v:Int)/\v=dG (seg s.data.toList a k)/\wr=w)
   case atStart=>exact⟨0,0,by omega,rfl,rfl,rfl,by rw[aEf];rfl,rfl⟩
   case round=>
    obtain⟨k,v,hk,L,rfl,rfl,H,rfl⟩:=hrel;have HG:=hid L;clear L
    by_cases a8:k<n
    ·have t4:decide ((k:Int)<(n:Int))=true:=aG (by omega);have T:=wC (seg s.data.toList a k);rw[BT (by rw[O.out];omega),<-H] at T;have U:2^k<=2^63:=nF (by decide) (by omega);have V:(2:Nat)^63=9223372036854775808:=by decide
     rw[V] at U;have a2:v<9223372036854775808:=by omega
     clear V U T;have Y:=aEe (s:=s.data.toList) (a:=a) (k:=k) (by rw[O.out];omega);obtain⟨q,Z⟩:∃q:Nat,q=a+k:=⟨_,rfl⟩;obtain⟨b,J⟩:∃b:Nat,b=(dO s.data.toList q).toNat:=⟨_,rfl⟩;have a9:b<2:=by rw[J];cases dO s.data.toList q<;>decide
     have M:=hid (show 2*v+b=dG (seg s.data.toList a (k+1)) by rw[Y,wB,<-H,<-Z,<-J]);have a3:q<8*s.size:=by omega
     have m3:aJ.wrap ((a:Int)+(k:Int))=(q:Int):=by rw[aM];omega
     obtain⟨d,hd⟩:∃d:Nat,d=2*v:=⟨_,rfl⟩;have m4:eZ.wrap (2*(v:Int))=(d:Int):=by rw[fC];omega
     have m5:eZ.wrap (b:Int)=(b:Int):=by rw[fC];omega
     obtain⟨I,a0⟩:∃I:Nat,I=d+b:=⟨_,rfl⟩;have m6:eZ.wrap ((d:Int)+(b:Int))=(I:Int):=by rw[fC];omega
     have a4:=hid (show I=dG (seg s.data.toList a (k+1)) by rw[<-M.out,a0,hd]);have HB:=hid J;clear Y H Z J hd a0 a2;go_wp2_with fail;refine(aEc s q _ a3 (by omega)).mono ?_;rintro e w1 ⟨rfl,rfl⟩;rw[<-HB.out];go_wp2_with fail;have L:=HG.out
     go_roundg (n-(k+1))
     case measure=>omega
     case rel=>exact⟨k+1,I,by omega,rfl,by go_num,rfl,a4.out,rfl⟩
    ·have t4:decide ((k:Int)<(n:Int))=false:=aE (by omega);have a1:k=n:=by omega
     have M:=hid (show(v:Int)=((dG (seg s.data.toList a n):Nat):Int) by rw[H,a1]);clear H a1;go_wp2_with fail
     go_ret2
     exact⟨by rw[M.out];rfl,rfl⟩
def xU (b:Bool):Nat:=if b then 128 else 0
theorem SV (s:ByteArray) (i:Nat) (w:World) (L:i<8*s.size) (M:s.size<=140737488355328):
  Calls pG 128 #[.string s,.int .i64 (i:Int)] w fun e w'=>e=.returned (.int .u8 (xU (dO s.data.toList i):Nat))/\w'=w:=by
 have H:i/8<s.size:=by omega
 have O:(i:Int).tdiv 8=((i/8:Nat):Int):=by rw[IK (by omega)];omega
 have I:(i:Int).tmod 8=((i%8:Nat):Int):=by rw[mL (by omega)];omega
 have d:=fW s (i/8) H;have J:=s[i/8].toNat_lt;have h:i%8<8:=Nat.mod_lt _ (by decide);have A:=aV3 s[i/8].toNat (i%8) J h;have D:dO s.data.toList i=s[i/8].toNat.testBit (7-i%8):=by unfold dO;rw[bV,d];rfl
 have F:((xU (dO s.data.toList i):Nat):Int)=if s[i/8].toNat.testBit (7-i%8)=true then 128 else 0:=by rw[D];unfold xU;split<;>rfl
 rw[sG,<-F] at A;clear D F d;generalize xU (dO s.data.toList i)=t at*
 obtain⟨k,G⟩:∃k,k=i%8:=⟨_,rfl⟩;rw[<-G] at I A h;clear G;have T:min k 8=k:=by omega
 go_enter func128,ntmps128;go_wp2_with fail;go_ret;exact⟨rfl,rfl⟩
theorem uQ (s:ByteArray) (p:Int) (n:Nat) (w:World) (hs:s.size<=1000000) (hn:n<=64) (a6: -9223372036854775808<=p) (a7:p<=9223372036854775807):
  Calls pG 119 #[.string s,.int .i64 p,.int .i64 (n:Int)] w fun e w'=>e=.returned (.tuple #[.int .u64 (aK s.data.toList p n:Nat),.int .i64 (aP s.size p n)])/\w'=w:=by
 have D:s.data.toList.length=s.size:=by simp
 have n1:decide ((n:Int)<0)=false:=aE (by omega);have n2:decide ((n:Int)>64)=false:=aE (by omega);have n3:decide (64<(n:Int))=false:=aE (by omega);have m1:aJ.wrap (8*(s.size:Int))=8*(s.size:Int):=by rw[aM];omega
 have m2:aJ.wrap (8*(s.size:Int)-(n:Int))=8*(s.size:Int)-(n:Int):=by rw[aM];omega
 by_cases G:p<0
 ·have h:aP s.size p n=1:=by unfold aP;rw[aB G]
  have A:aK s.data.toList p n=0:=by unfold aK;rw[D,h,aA (by decide)]
  rw[h,A];have t1:decide (p<0)=true:=aG G;clear D h A;go_enter func119,ntmps119;go_wp2_with fail
  go_ret2
  exact⟨rfl,rfl⟩
 ·have t1:decide (p<0)=false:=aE G
  by_cases F:8*(s.size:Int)-(n:Int)<p
  ·have h:aP s.size p n=2:=by unfold aP;rw[aA G,aB F]
   have A:aK s.data.toList p n=0:=by unfold aK;rw[D,h,aA (by decide)]
   rw[h,A];have t2:decide (8*(s.size:Int)-(n:Int)<p)=true:=aG F;have t3:decide (p>8*(s.size:Int)-(n:Int))=true:=aG F;clear D h A;go_enter func119,ntmps119;go_wp2_with fail
   go_ret2
   exact⟨rfl,rfl⟩
  ·have h:aP s.size p n=0:=by unfold aP;rw[aA G,aA F]
   obtain⟨a,rfl⟩:∃a:Nat,p=(a:Int):=⟨p.toNat,by omega⟩;have a8:a+n<=8*s.size:=by omega
   have A:aK s.data.toList (a:Int) n=dG (seg s.data.toList a n):=by unfold aK;rw[D,h,aB rfl,fL]
   rw[h,A];have t2:decide (8*(s.size:Int)-(n:Int)<(a:Int))=false:=aE F;have t3:decide ((a:Int)>8*(s.size:Int)-(n:Int))=false:=aE F;have V:=hid D;clear D h A F;go_enter func119,ntmps119;go_wp2_with fail
   go_loopg [6,8,29] n (fun g s8 _s x9 wr=>∃k v:Nat,k<=n/\g=n-k/\x9=.int .i64 (k:Int)/\s8=.int .u64 (v:Int)/\v=dG (seg s.data.toList a k)/\wr=w)
   case atStart=>exact⟨0,0,by omega,rfl,rfl,rfl,by rw[aEf];rfl,rfl⟩
   case round=>
    obtain⟨k,v,hk,L,rfl,rfl,H,rfl⟩:=hrel;have HG:=hid L;clear L
    by_cases a9:k<n
    ·have t4:decide ((k:Int)<(n:Int))=true:=aG (by omega);have Y:=wC (seg s.data.toList a k);rw[BT (by rw[V.out];omega),<-H] at Y;have Z:2^k<=2^63:=nF (by decide) (by omega);have a0:(2:Nat)^63=9223372036854775808:=by decide
     rw[a0] at Z;have a3:v<9223372036854775808:=by omega
     clear a0 Z Y;have a1:=aEe (s:=s.data.toList) (a:=a) (k:=k) (by rw[V.out];omega);obtain⟨q,hq⟩:∃q:Nat,q=a+k:=⟨_,rfl⟩;obtain⟨b,I⟩:∃b:Nat,b=(dO s.data.toList q).toNat:=⟨_,rfl⟩;have b0:b<2:=by rw[I];cases dO s.data.toList q<;>decide
     have M:=hid (show 2*v+b=dG (seg s.data.toList a (k+1)) by rw[a1,wB,<-H,<-hq,<-I]);have a4:q<8*s.size:=by omega
     have m3:aJ.wrap ((a:Int)+(k:Int))=(q:Int):=by rw[aM];omega
     obtain⟨d,O⟩:∃d:Nat,d=2*v:=⟨_,rfl⟩;have m4:eZ.wrap ((v:Int)*2)=(d:Int):=by rw[fC];omega
     have m5:eZ.wrap (b:Int)=(b:Int):=by rw[fC];omega
     obtain⟨t,T⟩:∃t:Nat,t=xU (dO s.data.toList q):=⟨_,rfl⟩;have m7:(t:Int)/128=(b:Int):=by rw[T,I];cases dO s.data.toList q<;>rfl
     have HT:=hid T;obtain⟨J,U⟩:∃J:Nat,J=d+b:=⟨_,rfl⟩;have m6:bits .or .u64 (d:Int) (b:Int)=(J:Int):=by
      have:=SU v (dO s.data.toList q) (by omega);rw[m4,<-I] at this;rw[this,U,O]
     have a5:=hid (show J=dG (seg s.data.toList a (k+1)) by rw[<-M.out,U,O]);clear a1 H hq I O U a3 T;go_wp2_with fail;refine(SV s q _ a4 (by omega)).mono ?_;rintro e w1 ⟨rfl,rfl⟩;rw[<-HT.out];go_wp2_with fail;have L:=HG.out
     go_roundg (n-(k+1))
     case measure=>omega
     case rel=>exact⟨k+1,J,by omega,rfl,by go_num,rfl,a5.out,rfl⟩
    ·have t4:decide ((k:Int)<(n:Int))=false:=aE (by omega);have a2:k=n:=by omega
     have M:=hid (show(v:Int)=((dG (seg s.data.toList a n):Nat):Int) by rw[H,a2]);clear H a2;go_wp2_with fail
     go_ret2
     exact⟨by rw[M.out];rfl,rfl⟩
def WrS (w:World) (p B:Nat) (l:List Bool):Prop:=∃v,Arr w p 999983 [v,.int .i64 (l.length:Int)]/\OwB w B v (aI l)
theorem OwB.open {w:World} {B:Nat} {v:Value} {l:List UInt8} (h:OwB w B v l):∃a c,v=.slice a l.length c/\l.length<=c/\c<=maxLen:=by
 have d:=h.rd;obtain⟨a,c,e,A,D,_⟩:=d
 grind
theorem OwB.openN {w:World} {B:Nat} {v:Value} {l:List UInt8} (h:OwB w B v l):∃a n c,v=.slice a n c/\Hid (n=l.length)/\n<=c/\c<=maxLen:=by
 obtain⟨a,c,e,d,A⟩:=h.open
 grind [hid,OwB]
end
section
open Go.RowKit Go
theorem SW (v j:Nat) (d:v<18446744073709551616):bits .and .u64 ((v:Int)/2^j) 1=((v.testBit j).toNat:Int):=by
 rw[CE,show(1:Int)=((1:Nat):Int) from rfl,u64_and_nat _ _ (Nat.lt_of_le_of_lt (Nat.div_le_self _ _) d) (by decide),nat_mask1,aEa]
theorem LR {x:Int} (d: -9223372036854775808<=x) (e:x<=9223372036854775807):wrap64 x=x:=by unfold wrap64;omega
theorem SX {x:Int} (d: -9223372036854775808<=x) (e:x<=9223372036854775807):aJ.wrap x=x:=by rw[aM];omega
theorem WrS.below {w w':World} {p B:Nat} {l:List Bool} (h:WrS w p B l) (d:Below w.heap.size w w'):WrS w' p B l:=by
 obtain⟨v,e,A⟩:=h;exact⟨v,e.below d e.lt,Ow.below A d (aD _)⟩
theorem WrS.alloc {w:World} {p B:Nat} {l:List Bool} (h:WrS w p B l) (o:Obj):WrS (w.alloc o) p B l:=by
 obtain⟨v,d,e⟩:=h;exact⟨v,d.alloc o,Ow.alloc e o⟩
theorem WrS.lt {w:World} {p B:Nat} {l:List Bool} (h:WrS w p B l):p<w.heap.size:=by
 obtain⟨v,d,_⟩:=h;exact d.lt
end
section
open Go.RowKit Go Go.Shelf
def fT (l:List Bool):Value:=.agg #[.string (mkS (aI l)),.int .i64 (l.length:Int)]
theorem uS {P:fO} {D:Func} {p u:Tmp} {e:TypeId} (h:D.results=#[.cell p e,.tmp u]) (tmps:Array Value) (w:World) (g:Nat) (t:TypeId) (A:Array Value) (F:Nat×Nat) (d:TypeDesc)
  (G:tmps.getD p undef=.pointer (some ⟨g,0,none⟩)) (H:w.heap[g]? =some (.cells A t F))
  (I:P.underlying e=some d) (J:(match d with|.struct _|.array _ _=>true|_=>false)=true) (L:(P.info? e).map (·.size)=some A.size):
  (results D tmps).run P w=.ok (.tuple #[.agg A,tmps.getD u undef]) w:=by
 rw[results_cell_tmp h,G];simp[asAddr,Result.andThen,run_loadVar_row w g t e A F d H I J L]
def xV (w:World) (v:Value) (d:List (List Bool)):Prop:=
 ∃a cap,v=.slice a d.length cap/\d.length<=cap/\cap<=maxLen/\
  (0<d.length->∃b off,a=some ⟨b,off,none⟩/\b<w.heap.size/\∀j l,d[j]? =some l->w.cell? ⟨b,off+j*2,none⟩=some (.string (mkS (aI l)))/\w.cell? ⟨b,off+j*2+1,none⟩=some (.int .i64 (l.length:Int)))
theorem xV.below {w w':World} {v:Value} {l:List (List Bool)} (h:xV w v l) (d:Below w.heap.size w w'):xV w' v l:=by
 obtain⟨a,cap,rfl,e,A,D⟩:=h;refine⟨a,cap,rfl,e,A,fun h=>?_⟩;obtain⟨b,off,rfl,F,G⟩:=D h;exact⟨b,off,rfl,fB F d.size,fun j p H=>by grind [pJ,xV]⟩
theorem lR {D:Array Oper} {rest:List Oper} {o:Oper} {a:Act} {Q:Exit->Act->World->Prop} {w:World} (G:o.guard=none) (s x:iF)
  (H:o.op=.call {callee:=.builtin .append,args:=#[s,x],argTypes:=#[55,55]}) (base:Nat) (v:Value) (l m:List Int) (hs:a.eval s=v) (hown:OwI w base v l)
  (u:Value) (hx:a.eval x=u) (hr:RdI w u m) (hm:0<m.length) (hroom:(l.length+m.length)*8<=140737488355328) (hbase:base<=w.heap.size)
  (h:∀d w',OwI w' base d (l++m)->Below base w w'->w.grownBy w' v.ownBlock->(d.ownBlock=v.ownBlock\/d.ownBlock=some w.heap.size)->wpList pG D Q rest (a.put o.dst d) w'):wpList pG D Q (o::rest) a w:=by
 obtain⟨i,I,J,L,M⟩:=jL.info;obtain⟨ad,c,rfl,a0,a1,O⟩:=hr.open;obtain⟨b,off,rfl,hb,T⟩:=O hm;refine wpList_append_own_at w G s x 55 H base 3 i (.int .i64 0) 1 8 underlying55 I J L M rfl (by decide) v (l.map (bQ .i64)).length (l.map (bQ .i64)) hs hown ⟨b,off,none⟩ m.length c (m.map (bQ .i64)) hx (by simp)
  (fun j U A=>?_) (fun U V=>?_) (by simp only[maxLen,aS];omega) (by simpa using hroom) hbase (fun d w' Y F _ Z=>h d w' ?_ (rJ hown F hbase) F Z)
 ·rw[List.getElem?_map] at A
  cases e:m[j]? with
  |none=>rw[e] at A;simp at A
  |some y=>
   rw[e] at A;simp at A;rw[show(⟨b,off,none⟩:Addr).add j=⟨b,off+j,none⟩ by unfold gP;split<;>simp_all,T j y e,<-A]
 ·obtain⟨y,_,rfl⟩:=List.mem_map.1 V;rfl
 ·unfold OwI Ow;rw[dY,aL]
  simpa using Y
def fD (l:List Bool):List Value:=[.string (mkS (aI l)),.int .i64 (l.length:Int)]
def eO (w:World) (B:Nat) (v:Value) (d:List (List Bool)):Prop:=w.ownsRow B 83 2 v d.length (d.flatMap fD)
theorem eO.nil (w:World) (B:Nat):eO w B (.slice none 0 0) []:=WJ _ _ _ _
theorem eO.alloc {w:World} {B:Nat} {v:Value} {l:List (List Bool)} (h:eO w B v l) (o:Obj):eO (w.alloc o) B v l:=WK h o
theorem eO.below {w w':World} {B C:Nat} {v:Value} {l:List (List Bool)} (h:eO w B v l) (d:Below C w w') (e:w.heap.size<=C):eO w' B v l:=IX h d e
theorem eO.base {w:World} {B d:Nat} {v:Value} {l:List (List Bool)} (h:eO w B v l) (e:d<=B):eO w d v l:=DR h e
theorem aEk:∀(d:List (List Bool)) (j:Nat) (l:List Bool),d[j]? =some l->(d.flatMap fD)[j*2]? =some (.string (mkS (aI l)))/\(d.flatMap fD)[j*2+1]? =some (.int .i64 (l.length:Int))
 |[],j,l,h=>by simp at h
 |x::d,0,l,h=>by grind [fD,mkS,aI]
 |x::d,j+1,l,h=>by
  have e:=aEk d j l (by simpa using h)
  grind [fD,mkS,aI]
theorem eO.rd {w:World} {B:Nat} {v:Value} {d:List (List Bool)} (h:eO w B v d):xV w v d:=by
 obtain⟨H,h⟩:=h;rcases h with⟨rfl,I⟩|⟨g,cap,A,rfl,J,e,F,G,L,M⟩
 ·grind [eO,xV]
 ·refine⟨_,cap,rfl,F,G,fun _=>⟨g,0,rfl,(fE.1 e).1,fun j l D=>?_⟩⟩;obtain⟨O,T⟩:=aEk d j l D;have U:=(eF.1 D).1;rw[iP,yI w g (j*2) A _ (0,0) e,yI w g (j*2+1) A _ (0,0) e]
  grind
end
section
open Go.RowKit
theorem aAm (l:List Int):dT l=aX (num (l.take (gR 1 l))) 0++dT (l.drop (gR 1 l)):=by
 have d:=PK (l.take (gR 1 l)) 0 1 (l.drop (gR 1 l)) (fun x e=>by have:=DW 1 l x e;omega);rw[List.take_append_drop] at d
 grind [dT,zx,cF,gR,aN,BL,pF,JM,sB,PL,num]
theorem aAn {x:Int} {l:List Int} (h:1<x):dT (x::l)=(x-1)::dT l:=by grind [dT,JM]
def sQ (m:List Int) (most:Int):List Int:=if((dT m).length:Int)<=most then dT m else[]
def rM (m:List Int) (most:Int):Int:=if((dT m).length:Int)<=most then 0 else 4
theorem vW {m:List Int} {most:Int} (h:¬((dT m).length:Int)<=most):sQ m most=[]/\rM m most=4:=by grind [sQ,rM,dT]
theorem BN {m:List Int} {most:Int} (h:((dT m).length:Int)<=most):sQ m most=dT m/\rM m most=0:=by grind [sQ,rM,dT]
theorem aAo {w:World} {b off cap:Nat} {l:List Int} (e:b<w.heap.size) (h:∀j x,l[j]? =some x->w.cell? ⟨b,off+j,none⟩=some (.int .i64 x)) (i n:Nat) (A:i+n<=l.length) (D:l.length<=cap) (F:cap<=maxLen):
  RdI w (.slice (some ⟨b,off+i,none⟩) n (cap-i)) ((l.drop i).take n):=by
 have d:((l.drop i).take n).length=n:=by grind
 refine⟨some ⟨b,off+i,none⟩,cap-i,by rw[d],by rw[d];omega,by omega,.inr ⟨b,off+i,rfl,e,fun j G=>?_⟩⟩
 grind
theorem aO3 (v:Value) (m:List Int) (most:Int) (w:World) (hr:RdI w v m) (d4:m.length<=200000) (hv:∀x∈m,0<=x/\x<=1000000) (d5: -9223372036854775808<=most) (d6:most<=1000000):
  Calls pG 114 #[v,.int .i64 most] w fun e w'=>∃v',e=.returned (.tuple #[v',.int .i64 (rM m most)])/\OwI w' w.heap.size v' (sQ m most)/\Below w.heap.size w w':=by
 have HB:=hid (aAh v m w hr (fun x d=>(hv x d).1));obtain⟨a,ca,rfl,c2,a8,hA⟩:=hr.open;have a9:=a8;unfold maxLen at a8;have HV:=hid hv;have c3:=hid a9;clear hr hv a9;go_enter func114,ntmps114;go_wp2_with fail;refine HB.out.mono ?_;rintro e H ⟨rfl,rfl⟩;clear HB;go_wp2_with fail
 go_loopg [6,7,8,9,10,11] m.length (fun T s6 s7 _s8 _s9 _s10 _s11 I=>∃(i:Nat) (A:List Int),i<=m.length/\T=m.length-i/\s7=.int .i64 i/\OwI I H.heap.size s6 A/\Hid (A++dT (m.drop i)=dT m)/\A.length<=1000000+i/\Below H.heap.size H I)
 case atStart=>exact⟨0,[],aO _,rfl,rfl,OwI.nil _ _,hid rfl,by simp,aH _ _⟩
 case round=>
 obtain⟨i,A,hi,F,rfl,G,HP,d7,D⟩:=hrel;have HG:=hid F;clear F
 by_cases b1:i<m.length
 ·obtain⟨b0,o0,rfl,b2,a1⟩:=hA (by omega);obtain⟨n,U⟩:∃n,n=gR 1 (m.drop i):=⟨_,rfl⟩;have c4:n<=m.length-i:=by rw[U];have:=BK 1 (m.drop i);rwa[bA] at this
  have hz:=hid (show ∀j,j<n->∀x,m[i+j]? =some x->x=0\/x=1 from fun j hj x d=>by
   have c5:(m.drop i)[j]? =some x:=by rw[jR];exact d
   have h1:=DW 1 (m.drop i) x (by rw[<-U];exact cN (i:=j) (by rw[List.getElem?_take_of_lt hj];exact c5));have h2:=(HV.out x (cN d)).1;omega)
  have b3:=hid (show ∀x,m[i+n]? =some x->1<x from fun x d=>BL 1 (m.drop i) (by rw[<-U,jR];exact d));have b4:=hid (show dT (m.drop i)=aX (num ((m.drop i).take n)) 0++dT (m.drop (i+n)) by rw[aAm,<-U,List.drop_drop]);clear U;obtain⟨J,rfl⟩:∃J:World,J=wr:=⟨_,rfl⟩;have V:=hid (show ∀j x,m[j]? =some x->J.cell? ⟨b0,o0+j,none⟩=some (.int .i64 x) from fun j x d=>by rw[D.cell (p:=⟨b0,o0+j,none⟩) b2];exact a1 j x d);have d8:=hid a1;clear a1 hA;have Y:=D.size;go_wp2_with fail
  go_loopg [8] n (fun T s8 I=>∃q:Nat,q<=n/\T=n-q/\s8=.int .i64 q/\J=I)
  case atStart=>exact⟨0,aO _,rfl,rfl,rfl⟩
  case round=>
  obtain⟨q,hq,F,rfl,rfl⟩:=hrel;have b5:=hid F;clear F
  by_cases b6:q<n
  ·obtain⟨x,d⟩:=eG (l:=m) (k:=i+q) (by omega);have c1:=V.out (i+q) x d;have a2:=hz.out q b6 x d;have t1:decide (x<2)=true:=aG (by omega);have t3:x<2:=by omega
   have t2:decide (i+q<m.length)=true:=aG (by omega);clear d a2;go_wp2_with fail;have F:=b5.out
   go_roundg (n-(q+1))
   case measure=>omega
   case rel=>exact⟨q+1,by omega,rfl,by go_num,rfl⟩
  ·obtain rfl:n=q:=by omega
   clear hq b6 b5;rcases Nat.eq_zero_or_pos n with h0|h0
   ·subst h0;obtain⟨x,d⟩:=eG (l:=m) (k:=i) b1;have c1:=V.out i x d;have a2:=b3.out x d;have d9:=HV.out x (cN d);have t1:decide (x<2)=false:=aE (by omega);have t3:2<=x:=by omega
    have t2:decide (i<m.length)=true:=aG (by omega);have e2:=hid (show dT (m.drop i)=(x-1)::dT (m.drop (i+1)) by
     rw[pF b1,show m[i]=x from(eF.1 d).2,aAn a2])
    clear d;go_wp2_with (at_builtin;refine gK rfl _ _ rfl H.heap.size _ _ rfl (G.alloc _) J.heap.size (x-1) rfl ?_ ?_ ?_ ?_;(exact bX _ _ _);omega;(simp;omega);intro v4 w4 a3 a4 c6);have F:=HG.out
    go_roundg (m.length-(i+1))
    case measure=>omega
    case rel=>
     refine⟨i+1,A++[x-1],by omega,rfl,by go_num,a3,hid ?_,by simp only[aL,List.length_singleton];omega,(D.alloc Y _).trans a4⟩;rw[bU,List.singleton_append,<-e2.out];exact HP.out
   ·have c7:=hid (show ∀x∈(m.drop i).take n,x=0\/x=1 from fun x d=>by
     obtain⟨j,hj,rfl⟩:=List.mem_iff_getElem.1 d;rw[aQ,bA] at hj;refine hz.out j (by omega) _ ?_;rw[List.getElem_take,List.getElem_drop];exact aN _)
    have b7:=hid (aAo (w:=J) (cap:=ca) (fB b2 Y) V.out i n (by omega) c2 c3.out);obtain⟨N,hN⟩:∃N,N=num ((m.drop i).take n):=⟨_,rfl⟩;have b8:=hid (show(dT m).length=A.length+N+(dT (m.drop (i+n))).length by
     rw[<-HP.out,aL,b4.out,aL,List.length_replicate,<-hN];omega)
    have HN:=hid hN;have e0:¬ca=i:=by omega
    have t4:((n:Int)==0)=false:=by rw[cB];omega
    have t5:n<=m.length-i:=c4;clear hN;have c8:(m.length<=i+n)\/(i+n<m.length/\∃x,J.cell? ⟨b0,o0+(i+n),none⟩=some (.int .i64 x)/\2<=x):=by
     rcases cF (i+n) m.length with h|h
     ·obtain⟨x,d⟩:=eG h;exact .inr ⟨h,x,V.out _ _ d,by have:=b3.out x d;omega⟩
     ·exact .inl h
    rcases c8 with h1|⟨h1,x,c1,t3⟩
    all_goals
     obtain⟨ao,co,rfl,c9,a5,_⟩:=G.rd.open;unfold maxLen at a5;go_wp2_with fail;refine(aOt _ ((m.drop i).take n) _ b7.out c7.out).mono ?_;rintro e w2 ⟨rfl,rfl⟩
     by_cases a6:N<=1099511627776
     ·have nv:qT ((m.drop i).take n)=(N:Int):=by unfold qT;rw[<-HN.out,aB a6]
      have Z:oB ((m.drop i).take n)=0:=by unfold oB;rw[<-HN.out,aB a6]
      rw[nv,Z];clear nv Z
      by_cases a0:most<(A.length:Int)+(N:Int)
      ·have t6:decide (most<(A.length:Int)+(N:Int))=true:=aG a0;go_wp2_with fail
       go_ret2
       have L:¬((dT m).length:Int)<=most:=by have:=b8.out;omega
       obtain⟨M,O⟩:=vW L;rw[M,O];exact⟨_,rfl,OwI.nil _ _,D⟩
      ·have t6:decide (most<(A.length:Int)+(N:Int))=false:=aE a0;go_wp2_with fail
       go_loopg [6,11] N (fun T s6 d0 I=>∃j:Nat,j<=N/\T=N-j/\d0=.int .i64 j/\OwI I H.heap.size s6 (A++aX j 0)/\Below H.heap.size H I)
       case atStart=>exact⟨0,aO _,rfl,rfl,by rw[List.replicate_zero,dI];exact G,D⟩
       case round=>
       clear G D V b7 Y;obtain⟨j,hj,F,rfl,G,D⟩:=hrel;have d3:=hid F;have Y:=D.size;have b9:(A++aX j (0:Int)).length=A.length+j:=by simp
       have c0:=hid b9;clear F b9
       by_cases e3:j<N
       ·go_wp2_with (at_builtin;refine gK rfl _ _ rfl H.heap.size _ _ rfl (G.alloc _) wr.heap.size 0 rfl ?_ ?_ ?_ ?_;(exact bX _ _ _);(rw[c0.out];omega);(simp;omega);intro v4 w4 a3 a4 c6);have F:=d3.out
        go_roundg (N-(j+1))
        case measure=>omega
        case rel=>exact⟨j+1,by omega,rfl,by go_num,by rw[List.replicate_succ',<-bU];exact a3,(D.alloc Y _).trans a4⟩
       ·obtain rfl:j=N:=by omega
        go_wp2_with fail;have F:=HG.out
        go_roundg (m.length-(i+n))
        case measure=>omega
        case rel=>
         refine⟨i+n,A++aX j 0,by omega,rfl,by go_num,G,hid ?_,by rw[c0.out];omega,D⟩;have:=b4.out;rw[<-HN.out] at this;rw[bU,<-this];exact HP.out
     ·have Z:oB ((m.drop i).take n)=4:=by unfold oB;rw[<-HN.out,aA a6]
      rw[Z];clear Z;go_wp2_with fail
      go_ret2
      have L:¬((dT m).length:Int)<=most:=by have:=b8.out;omega
      obtain⟨M,O⟩:=vW L;rw[M,O];exact⟨_,rfl,OwI.nil _ _,D⟩
 ·have a7:=hid (show A=dT m by have:=HP.out;rw[sB (by omega),show dT []=[] from rfl,dI] at this;exact this);obtain⟨ao,co,rfl,c9,a5,_⟩:=G.rd.open;unfold maxLen at a5
  by_cases a0:most<(A.length:Int)
  ·have t6:decide (most<(A.length:Int))=true:=aG a0;go_wp2_with fail
   go_ret2
   have L:¬((dT m).length:Int)<=most:=by rw[<-a7.out];omega
   obtain⟨M,O⟩:=vW L;rw[M,O];exact⟨_,rfl,OwI.nil _ _,D⟩
  ·have t6:decide (most<(A.length:Int))=false:=aE a0;go_wp2_with fail
   go_ret2
   have L:((dT m).length:Int)<=most:=by rw[<-a7.out];omega
   obtain⟨M,O⟩:=BN L;rw[M,O,<-a7.out];exact⟨_,rfl,G,D⟩
end
section
open Go.RowKit Go Go.Shelf
abbrev VV:=Value×Value
def prC (l:List VV):List Value:=l.flatMap (fun q=>[q.1,q.2])
theorem aFg (l m:List VV):prC (l++m)=prC l++prC m:=List.flatMap_append
theorem TF (l:List VV):(prC l).length=l.length*2:=by
 induction l with
 |nil=>rfl
 |cons x l d=>show([x.1,x.2]++prC l).length=_;rw[aL,d];simp;omega
theorem ME:∀(l:List VV) (j:Nat) (q:VV),l[j]? =some q->(prC l)[j*2]? =some q.1/\(prC l)[j*2+1]? =some q.2
 |[],j,q,h=>by simp at h
 |x::l,0,q,h=>by
  simp at h;subst h;exact⟨rfl,rfl⟩
 |x::l,j+1,q,h=>by
  have d:=ME l j q (by simpa using h);have e:prC (x::l)=x.1::x.2::prC l:=rfl
  grind
theorem aXr (l:List VV) (j:Nat) (u:Value) (h:(prC l)[j]? =some u):∃q,l[j/2]? =some q/\u=if j%2=0 then q.1 else q.2:=by
 have d:=(eF.1 h).1;rw[TF] at d;have A:l[j/2]? =some l[j/2]:=aN (by omega);obtain⟨D,F⟩:=ME l _ _ A
 grind
def rA (l:List VV):Prop:=∀q∈l,q.1.oneCell'=true/\q.2.oneCell'=true
theorem rA.cells {l:List VV} (h:rA l):∀u∈prC l,u.oneCell'=true:=fun u d=>by
 obtain⟨q,A,d⟩:=List.mem_flatMap.1 d;rcases List.mem_cons.1 d with rfl|d
 ·exact(h q A).1
 ·obtain rfl:=List.mem_singleton.1 d;exact(h q A).2
theorem rA.app {l m:List VV} (h:rA l) (k:rA m):rA (l++m):=fun q d=>(List.mem_append.1 d).elim (h q) (k q)
theorem rA.sub {l m:List VV} (h:rA l) (k:∀q∈m,q∈l):rA m:=fun q d=>h q (k q d)
structure El2 (P:fO) (t e bytes:Nat) (z:Value):Prop where
 under:P.underlying t=some (.slice e)
 info:∃i,P.info? e=some i/\i.zero=some z/\i.size=2/\i.bytes=bytes
 cells:z.cells.size=2
 pos:1<=bytes
theorem El2.mk' {P:fO} {t e bytes:Nat} {z:Value} (h:(P.info? e).map (fun i=>(i.zero,i.size,i.bytes))=some (some z,2,bytes)) (d:P.underlying t=some (.slice e)) (A:z.cells.size=2) (D:1<=bytes):El2 P t e bytes z:=by
 obtain⟨F,G,H,I,J⟩:=info_parts h;exact⟨d,⟨F,G,H,I,J⟩,A,D⟩
def OwP (w:World) (B e:Nat) (v:Value) (l:List VV):Prop:=w.ownsRow B e 2 v l.length (prC l)
theorem OwP.nil (w:World) (B e:Nat):OwP w B e (.slice none 0 0) []:=WJ _ _ _ _
theorem OwP.alloc {w:World} {B e:Nat} {v:Value} {l:List VV} (h:OwP w B e v l) (o:Obj):OwP (w.alloc o) B e v l:=WK h o
theorem OwP.below {w w':World} {B C e:Nat} {v:Value} {l:List VV} (h:OwP w B e v l) (d:Below C w w') (A:w.heap.size<=C):OwP w' B e v l:=IX h d A
theorem OwP.base {w:World} {B d e:Nat} {v:Value} {l:List VV} (h:OwP w B e v l) (A:d<=B):OwP w d e v l:=DR h A
theorem OwP.kept {w w':World} {B e:Nat} {v:Value} {l:List VV} {row:Option Nat} (h:OwP w B e v l) (d:w.grownBy w' row) (A:v.ownBlock=none\/v.ownBlock≠row):OwP w' B e v l:=yJ h d A
theorem OwP.lt {w:World} {B e:Nat} {v:Value} {l:List VV} (h:OwP w B e v l):∀k,v.ownBlock=some k->B<=k/\k<w.heap.size:=aK9 h
def nN (w:World) (v:Value) (l:List VV):Prop:=
 (v=.slice none 0 0/\l=[])\/∃b off cap,v=.slice (some ⟨b,off,none⟩) l.length cap/\l.length<=cap/\cap<=maxLen/\b<w.heap.size/\∀j q,l[j]? =some q->w.cell? ⟨b,off+j*2,none⟩=some q.1/\w.cell? ⟨b,off+j*2+1,none⟩=some q.2
theorem nN.below {w w':World} {v:Value} {l:List VV} (h:nN w v l) (d:Below w.heap.size w w'):nN w' v l:=by
 rcases h with h|⟨b,off,cap,rfl,D,F,A,G⟩
 ·exact .inl h
 ·exact .inr ⟨b,off,cap,rfl,D,F,fB A d.size,fun j q H=>by rw[d.cell (p:=⟨b,off+j*2,none⟩) A,d.cell (p:=⟨b,off+j*2+1,none⟩) A];exact G j q H⟩
theorem OwP.src {w:World} {B e:Nat} {v:Value} {l:List VV} (h:OwP w B e v l):nN w v l:=by
 obtain⟨I,h⟩:=h;rcases h with⟨rfl,F⟩|⟨g,cap,A,rfl,J,d,G,H,L,M⟩
 ·exact .inl ⟨rfl,List.length_eq_zero_iff.1 F⟩
 ·refine .inr ⟨g,0,cap,rfl,G,H,(fE.1 d).1,fun j q D=>?_⟩;obtain⟨O,T⟩:=ME l j q D;have U:=(eF.1 D).1;rw[iP,yI w g (j*2) A _ (0,0) d,yI w g (j*2+1) A _ (0,0) d]
  grind
theorem nN.new (w:World) (e:TypeId) (q:VV):nN (w.alloc (.cells #[q.1,q.2] e)) (.slice (some ⟨w.heap.size,0,none⟩) 1 1) [q]:=by
 have h:=Arr.new w e [q.1,q.2];refine .inr ⟨w.heap.size,0,1,rfl,by simp,by simp[maxLen],by simp,fun j p d=>?_⟩
 cases j with
 |zero=>simp at d;subst d;exact⟨h.cell (i:=0) rfl,h.cell (i:=1) rfl⟩
 |succ j=>simp at d
theorem nN.open {w:World} {v:Value} {l:List VV} (h:nN w v l):∃a cap,v=.slice a l.length cap/\l.length<=cap/\cap<=maxLen/\
  (0<l.length->∃b off,a=some ⟨b,off,none⟩/\b<w.heap.size/\∀j q,l[j]? =some q->w.cell? ⟨b,off+j*2,none⟩=some q.1/\w.cell? ⟨b,off+j*2+1,none⟩=some q.2):=by
 rcases h with⟨rfl,rfl⟩|⟨b,off,cap,rfl,d,A,D,F⟩
 ·exact⟨none,0,rfl,aD _,by simp[maxLen],fun h=>absurd h (by simp)⟩
 grind
section
variable {P:fO} {t e bytes:Nat} {z:Value}
theorem TG (E:El2 P t e bytes z) {w:World} (h:TypeId) (base:Nat) (v:Value) (l:List VV) (A:OwP w base e v l) (D:Value) (m:List VV) (J:nN w D m) (L:rA m) (F:(l.length+m.length)*bytes<=140737488355328) (G:base<=w.heap.size):
  ∃d w',(Builtin.append_ #[t,t] h #[v,D]).run P w=.ok d w'/\OwP w' base e d (l++m)/\Below base w w'/\w.grownBy w' v.ownBlock:=by
 obtain⟨i,H,M,O,T⟩:=E.info;rcases J with⟨rfl,rfl⟩|⟨b,off,cap,rfl,_,_,_,U⟩
 ·refine⟨v,w,run_append_owned_none (P:=P) (w:=w) base t h e i 2 E.under H v l.length _ A,by grind,aH _ _,⟨rfl,rfl,rfl,aD _,fun _ _ _=>rfl⟩⟩
 ·have V:=E.pos;have hn:l.length+m.length<=140737488355328:=aR (Nat.le_mul_of_pos_right _ V) F;obtain⟨d,w',Y,Z,I,_⟩:=run_append_own (P:=P) w base t h e i z 2 bytes E.under H M O T E.cells (by decide) v l.length _ A ⟨b,off,none⟩ m.length cap (prC m) (TF m) (fun j u hu=>by
    obtain⟨q,hq,rfl⟩:=aXr m j u hu;obtain⟨c1,c2⟩:=U _ _ hq;have e:(⟨b,off,none⟩:Addr).add j=⟨b,off+j,none⟩:=by unfold gP;split<;>simp_all
    grind) L.cells (by simp only[maxLen];omega) F G
  refine⟨d,w',Y,?_,rJ A I G,I⟩;unfold OwP;rw[aFg,aL];exact Z
theorem aFh (E:El2 P t e bytes z) {A:Array Oper} {rest:List Oper} {o:Oper} {a:Act} {Q:Exit->Act->World->Prop} {w:World} (D:o.guard=none) (s x:iF)
  (F:o.op=.call {callee:=.builtin .append,args:=#[s,x],argTypes:=#[t,t]}) (base:Nat) (v:Value) (l:List VV) (hs:a.eval s=v) (hown:OwP w base e v l)
  (sv:Value) (m:List VV) (hx:a.eval x=sv) (hsrc:nN w sv m) (h1:rA m) (hroom:(l.length+m.length)*bytes<=140737488355328) (hbase:base<=w.heap.size)
  (h:∀d w',OwP w' base e d (l++m)->Below base w w'->w.grownBy w' v.ownBlock->wpList P A Q rest (a.put o.dst d) w'):wpList P A Q (o::rest) a w:=by
 refine wpList_plain D fun K G=>?_
 obtain⟨d,w',H,I,J,L⟩:=TG E o.type base v l hown sv m hsrc h1 hroom hbase;unfold nC execOp;simp only[F,resolve,invoke,builtin,vI,AQ,AR,AS,kI,vJ,hs,hx,H];exact G _ _ (h d w' I J L)
theorem MF (E:El2 P t e bytes z) {A:Array Oper} {o:Oper} {a:Act} {K:Act->World->Prop} {Q:Exit->Act->World->Prop} {D:Prop} {w:World} (F:o.guard=none) (s x:iF)
  (G:o.op=.call {callee:=.builtin .append,args:=#[s,x],argTypes:=#[t,t]}) (base:Nat) (v:Value) (l:List VV) (hs:a.eval s=v) (hown:OwP w base e v l)
  (sv:Value) (m:List VV) (hx:a.eval x=sv) (hsrc:nN w sv m) (h1:rA m) (hroom:(l.length+m.length)*bytes<=140737488355328) (hbase:base<=w.heap.size)
  (h:∀d w',OwP w' base e d (l++m)->Below base w w'->w.grownBy w' v.ownBlock->K (a.put o.dst d) w'):if qL o (yielded A a.tmps)=true then nC P o a w K Q else D:=by
 have H:qL o (yielded A a.tmps)=true:=by simp[qL,F]
 rw[aB H];obtain⟨d,w',I,J,L,M⟩:=TG E o.type base v l hown sv m hsrc h1 hroom hbase;unfold nC execOp;simp only[G,resolve,invoke,builtin,vI,AQ,AR,AS,kI,vJ,hs,hx,I];exact h d w' J L M
end
end
end Go.Proofs.YtfplbbphficcjaaGreatDoor
