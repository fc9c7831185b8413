/-
  Texts put together (part 41): the walks and the plain laws on which the statement stands.
-/
import Derived.ArgAppend
import Derived.Lib.SlBytesConst
import Derived.WalkMore
import Derived.Lib.IfaceEq
import Derived.Test.YtihbnmlinkbnkaaGreatDoorZ40
set_option maxRecDepth 100000
set_option maxHeartbeats 12800000
set_option linter.unusedVariables false
set_option linter.unusedSimpArgs false
open Go.Proofs.Tryz
open Go.Proofs.Tryz renaming prog->pG
open ByteArray renaming size_append->rG
open Go.Addr renaming add->gP
open Go.Instr renaming sliceAt->vN
open Go.IntKind renaming i64->aJ
open Go.RowKit.Below renaming refl->aH
open Go.Value renaming int->bQ
open Go.World renaming size_alloc->fP
open Int renaming toNat_natCast->fL,toNat_of_nonneg->rI
open List renaming getD_eq_getElem?_getD->bV,getElem?_eq_getElem->aN,length_append->aL,length_drop->bA,length_map->aS,length_singleton->fQ,length_take->aQ,map_append->dY,take_add_one->cG,take_of_length_le->cD
open Nat renaming le_refl->aD,zero_le->aO
namespace Go.Proofs.YtihbnmlinkbnkaaGreatDoor
section
open Go.RowKit Go Go.Shelf
theorem VE (c n:Int) (w:World) (F: -9223372036854775808<=c) (G:c<=9223372036854775807) (H:1<=n) (I:n<=1000000000):
  Calls pG 10 #[.int .i64 c,.int .i64 n] w fun e w'=>e=.returned (.int .i64 (cK c n))/\w=w':=by
 by_cases A:c<0
 ·have d:=hid (show cK c n=(-(c+1))%n from by simp[cK,A]);go_enter func10,ntmps10;go_wp2;go_ret;exact⟨eI (by rw[d.out];rw[<-Int.neg_tmod,Int.tmod_eq_emod_of_nonneg (by omega)]),rfl⟩
 ·have d:=hid (show cK c n=c%n from by simp[cK,A]);have J:0<=c:=by omega
  go_enter func10,ntmps10;go_wp2;go_ret;exact⟨eI (by rw[d.out]),rfl⟩
def vC (l:List ByteArray):Prop:=∀t∈l,0<t.size/\lnL t.data.toList<=40/\t.size<=360
theorem bDh (s:ByteArray) (v:Value) (M:List (Int×Int)) (w:World) (hr:RdP w v M) (a4:WfP M):
  Calls pG 11 #[.string s,v] w fun e w'=>∃u l,e=.returned u/\RdT w' u l/\l.length<=5/\vC l/\Below w.heap.size w w':=by
 obtain⟨m,a5,b3,b4⟩:=BE s.size 60 (by decide);have b5:min (s.size:Int) 60=(m:Int):=by rw[<-a5,Int.min_def];split<;>split<;>omega
 obtain⟨X,O⟩:∃X,X=s.extract 0 m:=⟨_,rfl⟩;have b6:X.size<=60:=by rw[O];simp;omega
 have b7:=O.symm;have q1:(m:Int)<=(s.size:Int):=by omega
 have a6:=fun W (h:Below w.heap.size w W/\w.heap.size<=W.heap.size)=>aBo v M 300 W (hr.below h.1) a4 (by decide) (by decide)
 have b8:Below w.heap.size w w.drew/\w.heap.size<=w.drew.heap.size:=⟨(aH w.heap.size w).drew,aD _⟩;clear O;go_enter func11,ntmps11;go_wp2_with fail
 go_cut [6] (fun c6 H=>∃Y:ByteArray,c6=.string Y/\Y.size<=360/\Below w.heap.size w H)
 case first=>
  go_region_held3 (fun H=>Below w.heap.size w H/\w.heap.size<=H.heap.size)
   (first
    |with_reducible assumption
    |with_reducible exact kpT (by assumption) (by assumption))
   (first
    |(go_at_call 50;with_reducible refine(a6 _ (by assumption)).mono ?_;rintro e w2 ⟨t2,rfl,c9,h2⟩;have q3:¬9223372036854775807<X.size+t2.size:=by omega))
  all_goals
   obtain⟨d,a7⟩:=(show Below w.heap.size w w2/\w.heap.size<=w2.heap.size by assumption);have b9:(X++t2).size<=360:=by rw[rG];omega
   go_wp2_with fail;go_meet;exact⟨_,rfl,b9,d⟩
 case rest=>
  obtain⟨Y,rfl,hY,a8⟩:=hcut;clear a5 b5 b3 b4 b7 q1 a6 b8 b6 hr a4;go_wp2_with fail
  go_loopg [5,6,7,8] 5 (fun g s5 s6 s7 _s8 wr=>∃(i:Nat) (rest:ByteArray) (l:List ByteArray),i<=5/\g=5-i/\s7=.int .i64 (i:Int)/\s6=.string rest/\rest.size<=360/\l.length=i/\vC l/\OwT wr w.heap.size s5 l/\Below w.heap.size w wr)
  case atStart=>exact⟨0,Y,[],by decide,rfl,rfl,rfl,hY,rfl,fun t ht=>by simp at ht,Ow.nil _ _ _,a8⟩
  case round=>
   clear hY a8;obtain⟨i,rest,l,hi,U,rfl,rfl,d0,A,V,I,d⟩:=hrel;have HG:=hid U;have J:=hid A;clear U A;have a7:=d.size
   by_cases d1:i<5
   rotate_left
   ·have t1:decide ((i:Int)<5)=false:=aE (by omega);go_wp2_with fail;go_ret;exact⟨_,l,rfl,I.rd,by rw[J.out];omega,V,d⟩
   have t1:decide ((i:Int)<5)=true:=aG (by omega)
   by_cases F:rest.data.toList=[]
   ·have te:rest.toList.isEmpty=true:=by rw[Lib.toList_data,F];rfl
    clear F;go_wp2_with fail;go_ret;exact⟨_,l,rfl,I.rd,by rw[J.out];omega,V,d⟩
   have te:rest.toList.isEmpty=false:=xM F;obtain⟨R,c0,d2,a9⟩:∃R:Nat,1<=R/\R<=40/\([bQ .i64 40,.int .i64 7,.int .i64 23,.int .i64 40,.int .i64 13]:List Value)[i]? =some (.int .i64 (R:Int)):=by
    rcases(show i=0\/i=1\/i=2\/i=3\/i=4 by omega) with rfl|rfl|rfl|rfl|rfl
    ·exact⟨40,by decide,by decide,rfl⟩
    ·exact⟨7,by decide,by decide,rfl⟩
    ·exact⟨23,by decide,by decide,rfl⟩
    ·exact⟨40,by decide,by decide,rfl⟩
    ·exact⟨13,by decide,by decide,rfl⟩
   have hA:=Arr.new wr 3 [bQ .i64 40,.int .i64 7,.int .i64 23,.int .i64 40,.int .i64 13];have c1:=hA.cell a9;change (wr.alloc (.cells #[bQ .i64 40,.int .i64 7,.int .i64 23,.int .i64 40,.int .i64 13] 3)).cell? _=_ at c1;have hcut:=fun W=>aJd rest R W (by omega) (by omega)
   have b0:=AE (s:=rest.data.toList) (room:=R) F c0;have L:=pT rest.data.toList R;obtain⟨K,hK⟩:∃K,K=cJ rest.data.toList R:=⟨_,rfl⟩;rw[<-hK] at hcut b0 L;have A:rest.data.toList.length=rest.size:=by simp
   have d3:K<=rest.size:=by rw[<-A];exact L.1
   have q1:(i:Int)<5:=by omega
   have q2:(K:Int)<=(rest.size:Int):=by omega
   obtain⟨x,Z⟩:∃x,x=rest.extract 0 K:=⟨_,rfl⟩;have a0:x.data.toList=rest.data.toList.take K:=by rw[Z,iW,dP,List.drop_zero,Nat.sub_zero]
   have c2:x.size=K:=by
    have:x.data.toList.length=x.size:=by simp
    rw[<-this,a0,aQ,A];omega
   obtain⟨y,hy⟩:∃y,y=rest.extract K rest.size:=⟨_,rfl⟩;have c3:y.size<=360:=by rw[hy];simp;omega
   have d4:=Z.symm;have d5:=hy.symm;have b1:vC (l++[x]):=fun u G=>by
    rcases List.mem_append.1 G with G|G
    ·exact V u G
    ·obtain rfl:=List.mem_singleton.1 G;exact⟨by omega,by rw[a0];have:=L.2.1;omega,by omega⟩
   have HF:=hid b1;have c4:=hid (show(l++[x]).length=i+1 by rw[aL,J.out];rfl);have d6:l.length<=5:=by rw[J.out];exact hi
   clear F a9 hA b0 L hK A Z a0 c2 hy b1;go_wp2_with fail;refine(hcut _).mono ?_;rintro e w2 ⟨rfl,a1⟩;have a2:Below w.heap.size w (wr.alloc (.cells #[bQ .i64 40,.int .i64 7,.int .i64 23,.int .i64 40,.int .i64 13] 3)):=d.alloc a7 _;have a3:=a2.trans (a1.mono a2.size);have b2:OwT w2 w.heap.size u5 l:=Ow.below (Ow.alloc I (.cells #[bQ .i64 40,.int .i64 7,.int .i64 23,.int .i64 40,.int .i64 13] 3)) a1 (aD _);have c5:=a3.size;have hN:=bX w2 (.string x) 9;have c7:OwT (w2.alloc (.cells #[.string x] 9)) w.heap.size u5 l:=Ow.alloc b2 _
   have c8:Below w.heap.size w (w2.alloc (.cells #[.string x] 9)):=a3.alloc c5 _;clear a2 a1 I b2 d a3 hcut c1;go_wp2_with (at_builtin;refine aJf rfl _ _ rfl w.heap.size _ _ rfl c7 _ x rfl hN ?_ ?_ ?_;(omega);(simp;omega);intro v3 w3 p1 p2 p3);have U:=HG.out
   go_roundg (5-(i+1))
   case measure=>omega
   case rel=>exact⟨i+1,y,l++[x],by omega,rfl,by go_num,rfl,c3,c4.out,HF.out,p1,c8.trans p2⟩
end
section
open Go.RowKit Go Go.Shelf
attribute [local go_sem] Oper.semAt_some
def oK (p:Prt):List Value:=[.string p.t,.int .u32 p.y,.int .i64 p.a,.int .i64 p.z]
theorem aI5 (l:List Prt):oW 4 (l.map oK):=fun q A=>by
 obtain⟨p,_,rfl⟩:=List.mem_map.1 A;exact⟨rfl,fun u d=>by unfold oK at d;simp only[List.mem_cons,List.not_mem_nil,or_false] at d;rcases d with rfl|rfl|rfl|rfl<;>rfl⟩
theorem bC2:ElR pG 35 46 4 40 (.agg #[.string ⟨#[]⟩,.int .u32 0,.int .i64 0,.int .i64 0]):=ElR.mk' (by kernel_rfl) underlying35 rfl (by decide) (by decide)
end
section
open Go.RowKit Go Go.Shelf
theorem bDi {P:Program} {t e k A:Nat} {z:Value} (E:ElR P t e k A z) {F:Array Oper} {rest:List Oper} {o:Oper} {a:Act} {Q:Exit->Act->World->Prop} {w:World} (H:o.guard=none) (s x:Operand)
  (I:o.op=.call {callee:=.builtin .append,args:=#[s,x],argTypes:=#[t,t]}) (base:Nat) (v:Value) (l:lC) (hs:a.eval s=v) (hown:OwR w base e k v l)
  (g:Nat) (q:List Value) (hx:a.eval x=.slice (some ⟨g,0,none⟩) 1 1) (hc:Arr w g e q) (hq:q.length=k) (h1:∀u∈q,u.oneCell'=true) (hroom:(l.length+1)*A<=140737488355328) (hbase:base<=w.heap.size)
  (h:∀d w',OwR w' base e k d (l++[q])->Below base w w'->w.grownBy w' v.ownBlock->wpList P F Q rest (a.put o.dst d) w'):wpList P F Q (o::rest) a w:=by
 obtain⟨i,hi,J,L,M⟩:=E.info;have O:=E.pos;have Z:l.length+1<=140737488355328:=Nat.le_trans (Nat.le_mul_of_pos_right _ O) hroom;refine wpList_append_own w H s x t I base e i z k A E.under hi J L M E.cells E.some' v l.length l.flatten hs hown ⟨g,0,none⟩ 1 1 q hx (by rw[hq,Nat.one_mul]) (fun j u U=>?_) h1 (by simp only[maxLen];omega) hroom hbase (fun d w' V G _=>h d w' ?_ (rJ hown G hbase) G)
 ·rw[show(⟨g,0,none⟩:Addr).add j=⟨g,j,none⟩ by unfold gP;split<;>simp_all];exact hc.cell U
 ·unfold OwR;rw[List.flatten_append,aL,List.flatten_cons,List.flatten_nil,List.append_nil];exact V
theorem aJi (s:ByteArray) (w:World) (hE:dU w) (hs:s.size<=120000):
  Calls pG 16 #[.string s] w fun e w'=>∃v,e=.returned (.tuple #[v,.int .i64 (cI s.data.toList).2])/\RdR w' v ((eY s.data.toList).map oK)/\Below w.heap.size w w':=by
 have a1:=GC s;have J:=VB s w hE hs;obtain⟨l,F⟩:∃l,l=eY s.data.toList:=⟨_,rfl⟩;obtain⟨E,L⟩:∃E,E=(cI s.data.toList).2:=⟨_,rfl⟩;rw[<-F,<-L] at J ⊢;rw[<-F] at a1;clear F L;go_enter func16,ntmps16;go_wp2_with fail;refine J.mono ?_;rintro e w1 ⟨v,rfl,M,O⟩;obtain⟨a,ca,rfl,a6,a2,U⟩:=VF M;unfold maxLen at a2;have a3:=O.size;clear M;go_wp2_with fail
 go_loopg [2,6,14] l.length (fun g s2 _s6 a4 wr=>∃k:Nat,k<=l.length/\g=l.length-k/\a4=.int .i64 (k:Int)/\OwR wr w1.heap.size 46 4 s2 ((l.take k).map oK)/\Below w1.heap.size w1 wr)
 case atStart=>exact⟨0,aO _,rfl,rfl,OwR.nil _ _ _ _,aH _ _⟩
 case round=>
  obtain⟨k,hk,G,rfl,hor,d⟩:=hrel;have HG:=hid G;clear G
  by_cases a5:k<l.length
  ·have t1:decide ((k:Int)<(l.length:Int))=true:=aG (by omega);obtain⟨b,off,rfl,A,V⟩:=U (by omega);obtain⟨p,H⟩:∃p,l[k]? =some p:=⟨_,aN a5⟩;obtain⟨Z,x1,x2,x3,x4⟩:=V k p H;have c0:=(d.cell (p:=⟨b,off+k*5,none⟩) A).trans Z;have c1:=(d.cell (p:=⟨b,off+k*5+1,none⟩) A).trans x1;have c2:=(d.cell (p:=⟨b,off+k*5+2,none⟩) A).trans x2;have c3:=(d.cell (p:=⟨b,off+k*5+3,none⟩) A).trans x3;have c4:=(d.cell (p:=⟨b,off+k*5+4,none⟩) A).trans x4;have HT:=hid (show(l.take (k+1)).map oK=(l.take k).map oK++[oK p] by rw[cG,H,dY];rfl);have a7:=d.size
   have a8:((l.take k).map oK).length<=960010:=by rw[aS,aQ];omega
   clear Z x1 x2 x3 x4 V H U;have I:=Arr.new (wr.alloc (.cells #[.string p.t,.int .u32 p.y,.int .i64 p.a,.int .i64 p.z,.int .i64 p.r] 97)) 46 (oK p);rw[fP] at I;have a0:=OwR.alloc (OwR.alloc hor (.cells #[.string p.t,.int .u32 p.y,.int .i64 p.a,.int .i64 p.z,.int .i64 p.r] 97)) (.cells (oK p).toArray 46);change Arr ((wr.alloc (.cells #[.string p.t,.int .u32 p.y,.int .i64 p.a,.int .i64 p.z,.int .i64 p.r] 97)).alloc (.cells #[.string p.t,.int .u32 p.y,.int .i64 p.a,.int .i64 p.z] 46)) _ _ _ at I
   change OwR ((wr.alloc (.cells #[.string p.t,.int .u32 p.y,.int .i64 p.a,.int .i64 p.z,.int .i64 p.r] 97)).alloc (.cells #[.string p.t,.int .u32 p.y,.int .i64 p.a,.int .i64 p.z] 46)) _ _ _ _ _ at a0;go_wp2_with (at_builtin;refine bDi bC2 rfl _ _ rfl w1.heap.size _ _ rfl a0 _ (oK p) rfl I rfl (fun u hu=>(aI5 [p] _ (by simp)).2 u hu) ?_ ?_ ?_;(omega);(simp;omega);intro v3 w3 p1 p2 p3);have G:=HG.out
   go_roundg (l.length-(k+1))
   case measure=>omega
   case rel=>exact⟨k+1,by omega,rfl,by go_num,by rw[HT.out];exact p1,(((d.alloc (by omega) _).alloc (by simp;omega) _).trans p2)⟩
  ·have t1:decide ((k:Int)<(l.length:Int))=false:=aE (by omega);have HT:=hid (show(l.take k).map oK=l.map oK by rw[cD (by omega)]);go_wp2_with fail
   go_ret2
   exact⟨_,rfl,by rw[<-HT.out];exact hor.rd,O.trans (d.mono a3)⟩
theorem aJj (s:ByteArray) (w:World) (hE:dU w) (hs:s.size<=120000):
  Calls pG 20 #[.string s] w fun e w'=>∃v,e=.returned (.tuple #[v,.int .i64 (cI s.data.toList).2])/\RdI w' v ((eY s.data.toList).map Prt.r)/\Below w.heap.size w w':=by
 have a0:=GC s;have I:=VB s w hE hs;obtain⟨l,F⟩:∃l,l=eY s.data.toList:=⟨_,rfl⟩;obtain⟨E,J⟩:∃E,E=(cI s.data.toList).2:=⟨_,rfl⟩;rw[<-F,<-J] at I ⊢;rw[<-F] at a0;clear F J;go_enter func20,ntmps20;go_wp2_with fail;refine I.mono ?_;rintro e w1 ⟨v,rfl,L,M⟩;obtain⟨a,ca,rfl,a6,a1,O⟩:=VF L;unfold maxLen at a1;have a2:=M.size;clear L;go_wp2_with fail
 go_loopg [2,6,14] l.length (fun g s2 _s6 a3 wr=>∃k:Nat,k<=l.length/\g=l.length-k/\a3=.int .i64 (k:Int)/\OwI wr w1.heap.size s2 ((l.take k).map Prt.r)/\Below w1.heap.size w1 wr)
 case atStart=>exact⟨0,aO _,rfl,rfl,OwI.nil _ _,aH _ _⟩
 case round=>
  obtain⟨k,hk,G,rfl,hor,d⟩:=hrel;have HG:=hid G;clear G
  by_cases a4:k<l.length
  ·have t1:decide ((k:Int)<(l.length:Int))=true:=aG (by omega);obtain⟨b,off,rfl,A,U⟩:=O (by omega);obtain⟨p,H⟩:∃p,l[k]? =some p:=⟨_,aN a4⟩;obtain⟨V,Z,x2,x3,x4⟩:=U k p H;have c0:=(d.cell (p:=⟨b,off+k*5,none⟩) A).trans V;have c1:=(d.cell (p:=⟨b,off+k*5+1,none⟩) A).trans Z;have c2:=(d.cell (p:=⟨b,off+k*5+2,none⟩) A).trans x2;have c3:=(d.cell (p:=⟨b,off+k*5+3,none⟩) A).trans x3;have c4:=(d.cell (p:=⟨b,off+k*5+4,none⟩) A).trans x4;have HT:=hid (show(l.take (k+1)).map Prt.r=(l.take k).map Prt.r++[p.r] by rw[cG,H,dY];rfl);have a7:=d.size
   have a8:((l.take k).map Prt.r).length<=960010:=by rw[aS,aQ];omega
   clear V Z x2 x3 x4 U H O;have hN:=bX (wr.alloc (.cells #[.string p.t,.int .u32 p.y,.int .i64 p.a,.int .i64 p.z,.int .i64 p.r] 97)) (.int .i64 p.r) 3;rw[fP] at hN;have a5:=OwI.alloc (OwI.alloc hor (.cells #[.string p.t,.int .u32 p.y,.int .i64 p.a,.int .i64 p.z,.int .i64 p.r] 97)) (.cells #[.int .i64 p.r] 3);go_wp2_with (at_builtin;refine gK rfl _ _ rfl w1.heap.size _ _ rfl a5 _ p.r rfl hN ?_ ?_ ?_;(omega);(simp;omega);intro v3 w3 p1 p2 p3);have G:=HG.out
   go_roundg (l.length-(k+1))
   case measure=>omega
   case rel=>exact⟨k+1,by omega,rfl,by go_num,by rw[HT.out];exact p1,(((d.alloc (by omega) _).alloc (by simp;omega) _).trans p2)⟩
  ·have t1:decide ((k:Int)<(l.length:Int))=false:=aE (by omega);have HT:=hid (show(l.take k).map Prt.r=l.map Prt.r by rw[cD (by omega)]);go_wp2_with fail
   go_ret2
   exact⟨_,rfl,by rw[<-HT.out];exact hor.rd,M.trans (d.mono a2)⟩
theorem VG (n:Nat) (v:Value) (l:List ByteArray) (w:World) (G:RdT w v l) (Z:l.length<=5) (F:vC l) (H:1<=n) (I:n<=9):
  Calls pG 12 #[.int .i64 (n:Int),v] w fun e w'=>e=.returned (.tuple #[.string (aZ [(n,l)]),.int .i64 0])/\okA [(n,l)]/\Below w.heap.size w w':=by
 have J:∀t∈l,jZ t (40*(n:Int))=0:=fun t d=>by
  obtain⟨L,M,f3⟩:=F t d;unfold lnL at M;exact MW L (by omega) (by omega) (by omega)
 have O:wrE (n:Int) l=0:=by unfold wrE;rw[aA (by omega)];exact AA J
 refine(UN (n:Int) v l w G (by omega) (fun t d=>by have:=(F t d).2.2;omega) (by omega) (by omega) (fun k hk A=>?_)).mono ?_
 ·have:=yC (r:=40*(n:Int)) (by omega) (l.take k) A;rw[aQ] at this;omega
 ·rintro e w' (⟨-,rfl,A,U⟩|⟨V,-,-⟩)
  ·refine⟨?_,NF H I A,U⟩;rw[fL];unfold aZ;rw[tU]
  ·exact absurd O V
theorem aJs (N:Nat) (v:Value) (l:List ByteArray) (w:World) (F:RdT w v l) (O:l.length<=5) (A:vC l) (G:1<=N) (H:N<=9):
  Calls pG 13 #[.int .i64 (N:Int),v] w fun e w'=>e=.returned (.tuple #[.string (aZ [(N,l)]),.int .i64 0])/\okA [(N,l)]/\Below w.heap.size w w':=by
 have U:wrE (N:Int) l=0:=by
  unfold wrE;rw[aA (by omega)];refine AA (fun t d=>?_);obtain⟨I,J,V⟩:=A t d;unfold lnL at J;exact MW I (by omega) (by omega) (by omega)
 refine(aJr (N:Int) v l w F (by omega) (fun t d=>by have:=(A t d).2.2;omega) (by omega) (by omega)).mono ?_;rintro e w' (⟨-,rfl,L,M⟩|⟨Z,-,-⟩)
 ·refine⟨?_,NF G H L,M⟩;rw[fL];unfold aZ;rw[tU]
 grind
def oN (w w':World):Prop:=∀(g:Nat) (d:List Value),Arr w g 73 d->Arr w' g 73 d
theorem oN.refl (w:World):oN w w:=fun _ _ h=>h
theorem oN.trans {a b c:World} (h:oN a b) (k:oN b c):oN a c:=fun g d q=>k g d (h g d q)
theorem bEm {w:World} {v:Value} {l:List Prt} (h:RdR w v (l.map oK)):∃a cap,v=.slice a l.length cap/\l.length<=cap/\cap<=maxLen/\
  (0<l.length->∃b off,a=some ⟨b,off,none⟩/\b<w.heap.size/\∀j p,l[j]? =some p->w.cell? ⟨b,off+j*4,none⟩=some (.string p.t)/\w.cell? ⟨b,off+j*4+1,none⟩=some (.int .u32 p.y)/\w.cell? ⟨b,off+j*4+2,none⟩=some (.int .i64 p.a)/\w.cell? ⟨b,off+j*4+3,none⟩=some (.int .i64 p.z)):=by
 obtain⟨a,cap,d,A,G,F⟩:=h.open (aI5 l) (by decide);rw[aS] at d A F;refine⟨a,cap,d,A,G,fun H=>?_⟩;obtain⟨b,off,I,J,L⟩:=F H;refine⟨b,off,I,J,fun j p M=>?_⟩;have e:(l.map oK)[j]? =some (oK p):=by grind
 have c:=fun i u hi=>L j (oK p) i u e hi
 refine⟨c 0 _ rfl,?_,?_,?_⟩
 ·grind [RdR,oK]
 ·grind [RdR,oK]
 grind [RdR,oK]
theorem RdR.nil (w:World):RdR w (.slice none 0 0) []:=⟨none,0,rfl,aD _,by simp[maxLen],.inl rfl⟩
theorem RdP.nil (w:World):RdP w (.slice none 0 0) []:=by grind [RdP]
theorem WfP.nil:WfP []:=by intro p d;simp at d
theorem aKw (c:Int) (A: -9223372036854775808<=c) (F:c<=9223372036854775807):∃q R:Nat,1<=R/\R<=9/\aJ.wrap (1+(q:Int))=(R:Int)/\1+(q:Int)=(R:Int)/\∀W,Calls pG 10 #[.int .i64 c,.int .i64 9] W fun e w'=>e=.returned (.int .i64 (q:Int))/\W=w':=by
 obtain⟨d,G⟩:=lN c 9 (by decide);obtain⟨q,H⟩:∃q:Nat,cK c 9=(q:Int):=⟨_,(rI d).symm⟩;refine⟨q,1+q,by omega,by omega,by rw[show 1+(q:Int)=((1+q:Nat):Int) by push_cast;rfl];exact lE _ (by omega),by push_cast;rfl,fun W=>?_⟩
 grind [VE]
theorem WD (o:Int) (k:Nat) (A:2<=k) (G: -9223372036854775808<=o) (H:o<=9223372036854775807): -9223372036854775808<=o.tdiv (k:Int)/\o.tdiv (k:Int)<=9223372036854775807/\aJ.wrap (o.tdiv (k:Int))=o.tdiv (k:Int):=by
 have h:=Int.natAbs_tdiv o (k:Int);rw[Int.natAbs_natCast] at h;have F:o.natAbs.div k<=o.natAbs/2:=Nat.div_le_div_left A (by decide);rw[<-h] at F;have d: -9223372036854775808<=o.tdiv (k:Int)/\o.tdiv (k:Int)<=9223372036854775807:=by omega
 refine⟨d.1,d.2,?_⟩;rw[IntKind.wrap_i64];omega
theorem bFf {w:World} {v:Value} {x:List ByteArray} (h:RdT w v x) (k:Nat) (U:k<=x.length):
  ∃A,(∀W,(vN 22 v none (some (.int .i64 (k:Int))) none).run pG W=.ok A W)/\RdT w A (x.take k):=by
 obtain⟨a,cap,rfl,V,I,d⟩:=h;have J:(x.take k).length=k:=by rw[aQ];omega
 have e:oI (x.take k)=(oI x).take k:=by unfold oI;rw[List.map_take]
 refine⟨.slice a k cap,fun W=>?_,a,cap,by rw[J],by omega,I,?_⟩
 ·have F:k<=cap:=by omega
  cases a with
  |none=>simp[go_sem,F]
  |some p=>
   by_cases Z:cap=0
   ·obtain rfl:k=0:=by omega
    simp[go_sem]
   ·simp[go_sem,F]
 ·rcases d with d|⟨b,off,L,M,O⟩
  ·exact .inl (by rw[e,d,List.take_nil])
  ·refine .inr ⟨b,off,L,M,fun j G=>?_⟩;rw[e] at G ⊢;have H:j<k/\j<(oI x).length:=by rw[aQ] at G;omega
   rw[O j H.2,bV,bV,List.getElem?_take,aB H.1]
theorem bFg {w:World} {v:Value} {x:List ByteArray} (h:RdT w v x) (k:Nat) (H:k<=x.length):
  ∃I,(∀W,(vN 22 v (some (.int .i64 (k:Int))) none none).run pG W=.ok I W)/\RdT w I (x.drop k):=by
 obtain⟨a,cap,rfl,h1,M,d⟩:=h;have J:(x.drop k).length=x.length-k:=bA ..;have e:oI (x.drop k)=(oI x).drop k:=by unfold oI;rw[List.map_drop]
 by_cases A:cap=k
 ·have O:x.length=k:=by omega
  have F:x.drop k=[]:=List.drop_of_length_le (by omega);refine⟨.slice a 0 0,fun W=>?_,a,0,by rw[F];rfl,by rw[F];exact aD _,by simp[maxLen],.inl (by rw[F];rfl)⟩
  cases a<;>simp[go_sem,A,O]
 ·cases a with
  |none=>
   have U:x=[]:=by
    rcases d with d|⟨b,off,G,-,-⟩
    ·exact List.map_eq_nil_iff.1 d
    ·cases G
   subst U;obtain rfl:k=0:=by simpa using H
   exact⟨.slice none 0 cap,fun W=>by simp[go_sem],none,cap,rfl,aO _,M,.inl rfl⟩
  |some p=>
   refine⟨.slice (some (p.add k)) (x.length-k) (cap-k),fun W=>?_,some (p.add k),cap-k,by rw[J],by rw[J];omega,by omega,?_⟩
   ·have k1:(k:Int)<=(x.length:Int):=by omega
    by_cases V:k=0
    ·subst V;simp[go_sem,A]
    ·simp[go_sem,H,A]
   ·rcases d with d|⟨b,off,G,Z,hc⟩
    ·exact .inl (by rw[e,d,List.drop_nil])
    ·cases G
     refine .inr ⟨b,off+k,by simp[gP],Z,fun j L=>?_⟩;rw[e] at L ⊢;rw[bA] at L;rw[Nat.add_assoc,hc (k+j) (by omega),bV,bV,List.getElem?_drop]
def GQ (a:ByteArray):Prop:=∃L,a=aZ L/\L≠[]/\okA L/\(nQ L).length<=5/\L.length<=2
theorem bFi (n m:Nat) (x:List ByteArray) (k:Nat):nQ [(n,x.take k),(m,x.drop k)]=x:=by simp[nQ]
theorem bFj {n m:Nat} {x:List ByteArray} {k:Nat} (d:x.length<=5) (A:okA [(n,x.take k)]) (F:okA [(m,x.drop k)]):GQ (aZ [(n,x.take k)]++aZ [(m,x.drop k)]):=
 ⟨[(n,x.take k)]++[(m,x.drop k)],AG _ _,by simp,NE A F,by rw[show[(n,x.take k)]++[(m,x.drop k)]=[(n,x.take k),(m,x.drop k)] from rfl,bFi];exact d,by simp⟩
theorem bFk {n:Nat} {x:List ByteArray} {k:Nat} (A:x.length<=5) (d:okA [(n,x.take k)]):GQ (aZ [(n,x.take k)]):=
 ⟨[(n,x.take k)],rfl,by simp,d,by unfold nQ;simp;omega,by simp⟩
theorem GQ.facts {a:ByteArray} (h:GQ a):a.size<=18000/\(cI a.data.toList).2=0/\(cI a.data.toList).1.length<=5:=by
 obtain⟨L,rfl,H,A,I,J⟩:=h;have M:=wQ A;obtain⟨d,F⟩:=GD H A;unfold eY at d;rw[aB F] at d;have G:=congrArg List.length (SP L 0);rw[aS] at G;refine⟨by omega,F,?_⟩;rw[d,G];exact I
theorem bHj (s:ByteArray) (v:Value) (a6:List (Int×Int)) (L I:Int) (w:World) (hr:RdP w v a6) (b7:WfP a6) (b8: -9223372036854775808<=L) (b9:L<=9223372036854775807) (c0: -9223372036854775808<=I) (c1:I<=9223372036854775807):
  Calls pG 14 #[.string s,v,.int .i64 L,.int .i64 I] w fun e w'=>∃a,e=.returned (.string a)/\GQ a/\Below w.heap.size w w':=by
 obtain⟨qa,F,d7,d8,ma,c2,a2⟩:=aKw L b8 b9;obtain⟨D,hD⟩:∃D,D=L.tdiv 9:=⟨_,rfl⟩;have O:=WD L 9 (by decide) b8 b9;rw[show((9:Nat):Int)=9 from rfl,<-hD] at O;have c3: -9223372036854775808<=D/\D<=9223372036854775807:=⟨O.1,O.2.1⟩;have mD:=O.2.2;clear O;obtain⟨qb,G,d9,e0,mb,e5,c4⟩:=aKw D c3.1 c3.2;have e6:=hD.symm;clear hD;obtain⟨C,hC⟩:∃C,C=I.tdiv 3:=⟨_,rfl⟩;have U:=WD I 3 (by decide) c0 c1;rw[show((3:Nat):Int)=3 from rfl,<-hC] at U;have c5: -9223372036854775808<=C/\C<=9223372036854775807:=⟨U.1,U.2.1⟩;have mC:=U.2.2;clear U;have e7:=hC.symm;clear hC
 obtain⟨g1,g2⟩:=lN I 3 (by decide);have a3:=fun W=>VE I 3 W c0 c1 (by decide) (by decide)
 obtain⟨r,c6⟩:∃r:Nat,cK I 3=(r:Int):=⟨_,(rI g1).symm⟩;rw[c6] at a3 g2;clear c6 g1;go_enter func14,ntmps14;go_wp2_with fail;refine(bDh s v a6 _ hr b7).mono ?_;rintro e w2 ⟨u,x,rfl,hx,c7,a7,a8⟩;clear hr b7;obtain⟨p1,p2⟩:=lN C ((x.length:Int)+1) (by omega);have a9:=fun W=>VE C ((x.length:Int)+1) W c5.1 c5.2 (by omega) (by omega)
 obtain⟨k0,hk⟩:∃k:Nat,cK C ((x.length:Int)+1)=(k:Int):=⟨_,(rI p1).symm⟩;rw[hk] at p1 p2 a9;obtain⟨k,V⟩:∃k,k=if r=0 then k0 else x.length:=⟨_,rfl⟩;have c8:k<=x.length:=by rw[V];split<;>omega
 have e8:k0<=x.length:=by omega
 clear hk p1 p2;obtain⟨v1,e9,c9⟩:=bFf hx k c8;obtain⟨v2,f0,d0⟩:=bFg hx k c8;obtain⟨xa,xc,rfl,f3,e1,-⟩:=hx.open;unfold maxLen at e1;have z1:(x.take k).length<=5:=by rw[aQ];omega
 have z2:(x.drop k).length<=5:=by rw[bA];omega
 have f1:vC (x.take k):=fun t ht=>a7 t (List.mem_of_mem_take ht)
 have f2:vC (x.drop k):=fun t ht=>a7 t (List.mem_of_mem_drop ht)
 have Z:∀W,(Below w2.heap.size w2 W/\w2.heap.size<=W.heap.size)->Calls pG 13 #[.int .i64 (F:Int),v1] W fun e w'=>e=.returned (.tuple #[.string (aZ [(F,x.take k)]),.int .i64 0])/\Hid (okA [(F,x.take k)])/\Below W.heap.size W w':=fun W h=>
  (aJs F v1 _ W (c9.below h.1) z1 f1 d7 d8).mono fun e w' k=>⟨k.1,hid k.2.1,k.2.2⟩
 have b0:∀W,(Below w2.heap.size w2 W/\w2.heap.size<=W.heap.size)->Calls pG 13 #[.int .i64 (G:Int),v2] W fun e w'=>e=.returned (.tuple #[.string (aZ [(G,x.drop k)]),.int .i64 0])/\Hid (okA [(G,x.drop k)])/\Below W.heap.size W w':=fun W h=>
  (aJs G v2 _ W (d0.below h.1) z2 f2 d9 e0).mono fun e w' k=>⟨k.1,hid k.2.1,k.2.2⟩
 have b1:=hid (fun(H:okA [(F,x.take k)]) (ob:okA [(G,x.drop k)])=>bFj c7 H ob);have d1:=hid (fun(H:okA [(F,x.take k)])=>bFk c7 H);have b2:=hid (show okA [(F,x.take k)]->(aZ [(F,x.take k)]).size<=18000 from fun o=>by
  have h:=wQ o;have ea:(nQ [(F,x.take k)]).length=(x.take k).length:=by unfold nQ;simp
  rw[ea,fQ] at h;omega)
 have b3:=hid (show okA [(G,x.drop k)]->(aZ [(G,x.drop k)]).size<=18000 from fun o=>by
  have h:=wQ o;have ea:(nQ [(G,x.drop k)]).length=(x.drop k).length:=by unfold nQ;simp
  rw[ea,fQ] at h;omega)
 obtain⟨OA,a0⟩:∃OA:Prop,OA=okA [(F,x.take k)]:=⟨_,rfl⟩;obtain⟨OB,a4⟩:∃OB:Prop,OB=okA [(G,x.drop k)]:=⟨_,rfl⟩;obtain⟨A,hA⟩:∃A,A=aZ [(F,x.take k)]:=⟨_,rfl⟩;obtain⟨J,hB⟩:∃J,J=aZ [(G,x.drop k)]:=⟨_,rfl⟩;rw[<-a0,<-hA] at Z;rw[<-a4,<-hB] at b0;rw[<-a0,<-a4,<-hA,<-hB] at b1;rw[<-a0,<-hA] at d1;rw[<-a0,<-hA] at b2;rw[<-a4,<-hB] at b3;clear a0 a4 hA hB z1 z2 f1 f2 hx c9 d0 a7;have d2:Below w2.heap.size w2 w2.drew/\w2.heap.size<=w2.drew.heap.size:=⟨(aH w2.heap.size w2).drew,aD _⟩;go_wp2_with fail;refine(a9 _).mono ?_;rintro e w' ⟨rfl,rfl⟩;clear a9;go_wp2_with fail
 refine(a3 _).mono ?_;rintro e w' ⟨rfl,rfl⟩;have d3:=lE F (by omega);have f4:=lE G (by omega)
 by_cases h0:r=0
 ·obtain rfl:k=k0:=by rw[V,aB h0]
  have tr:decide ((r:Int)>0)=false:=aE (by omega);have e2:decide (0<(r:Int))=false:=aE (by omega);have e3:decide (0<r)=false:=aE (by omega);have d4:decide ((r:Int)>1)=false:=aE (by omega);have d5:decide (1<(r:Int))=false:=aE (by omega);have d6:decide (1<r)=false:=aE (by omega);clear V h0;go_wp2_with fail
  go_cut [11] (fun b4 d=>b4=.string A/\Hid OA/\Below w2.heap.size w2 d/\w2.heap.size<=d.heap.size)
  case first=>
   go_region_held3 (fun d=>Below w2.heap.size w2 d/\w2.heap.size<=d.heap.size)
    (first
     |with_reducible assumption
     |with_reducible exact kpT (by assumption) (by assumption))
    (first
     |(go_at_call 10;with_reducible refine(a2 _).mono ?_;rintro e w' ⟨rfl,rfl⟩)
     |(go_at_call 13;with_reducible refine(Z _ (by assumption)).mono ?_;rintro e w4 ⟨rfl,H,h4⟩))
   all_goals
    go_wp2_with fail;go_meet;exact⟨rfl,H,by assumption⟩
  case rest=>
  obtain⟨rfl,M,a5⟩:=hcut;have e4:=kpT a5 (aH wc.heap.size wc).drew;clear d2 Z a2 ma c2 d3;go_wp2_with fail;refine(a3 _).mono ?_;rintro e w' ⟨rfl,rfl⟩;go_wp2_with fail
  go_cut [13] (fun b5 d=>b5=.string J/\Hid OB/\Below w2.heap.size w2 d/\w2.heap.size<=d.heap.size)
  case first=>
   go_region_held3 (fun d=>Below w2.heap.size w2 d/\w2.heap.size<=d.heap.size)
    (first
     |with_reducible assumption
     |with_reducible exact kpT (by assumption) (by assumption))
    (first
     |(go_at_call 10;with_reducible refine(c4 _).mono ?_;rintro e w' ⟨rfl,rfl⟩)
     |(go_at_call 13;with_reducible refine(b0 _ (by assumption)).mono ?_;rintro e w4 ⟨rfl,H,h4⟩))
   all_goals
    go_wp2_with fail;go_meet;exact⟨rfl,H,by assumption⟩
  case rest=>
  obtain⟨rfl,a1,b6⟩:=hcut;have q1:=b2.out M.out;have q2:=b3.out a1.out;have q3:¬9223372036854775807<A.size+J.size:=by omega
  go_wp2_with fail;go_ret;exact⟨A++J,rfl,b1.out M.out a1.out,aW a8 b6.1⟩
 ·obtain rfl:k=x.length:=by rw[V,aA h0]
  have tr:decide ((r:Int)>0)=true:=aG (by omega);have e2:decide (0<(r:Int))=true:=aG (by omega);have e3:decide (0<r)=true:=aG (by omega);clear V;go_wp2_with fail
  go_cut [11] (fun b4 d=>b4=.string A/\Hid OA/\Below w2.heap.size w2 d/\w2.heap.size<=d.heap.size)
  case first=>
   go_region_held3 (fun d=>Below w2.heap.size w2 d/\w2.heap.size<=d.heap.size)
    (first
     |with_reducible assumption
     |with_reducible exact kpT (by assumption) (by assumption))
    (first
     |(go_at_call 10;with_reducible refine(a2 _).mono ?_;rintro e w' ⟨rfl,rfl⟩)
     |(go_at_call 13;with_reducible refine(Z _ (by assumption)).mono ?_;rintro e w4 ⟨rfl,H,h4⟩))
   all_goals
    go_wp2_with fail;go_meet;exact⟨rfl,H,by assumption⟩
  case rest=>
  obtain⟨rfl,M,a5⟩:=hcut;have e4:=kpT a5 (aH wc.heap.size wc).drew;clear d2 Z a2 ma c2 d3;go_wp2_with fail;refine(a3 _).mono ?_;rintro e w' ⟨rfl,rfl⟩
  by_cases h2:r=2
  ·have d4:decide ((r:Int)>1)=true:=aG (by omega);have d5:decide (1<(r:Int))=true:=aG (by omega);have d6:decide (1<r)=true:=aG (by omega);go_wp2_with fail;go_ret;exact⟨A,rfl,d1.out M.out,aW a8 a5.1⟩
  ·have d4:decide ((r:Int)>1)=false:=aE (by omega);have d5:decide (1<(r:Int))=false:=aE (by omega);have d6:decide (1<r)=false:=aE (by omega);go_wp2_with fail
   go_cut [13] (fun b5 d=>b5=.string J/\Hid OB/\Below w2.heap.size w2 d/\w2.heap.size<=d.heap.size)
   case first=>
    go_region_held3 (fun d=>Below w2.heap.size w2 d/\w2.heap.size<=d.heap.size)
     (first
      |with_reducible assumption
      |with_reducible exact kpT (by assumption) (by assumption))
     (first
      |(go_at_call 10;with_reducible refine(c4 _).mono ?_;rintro e w' ⟨rfl,rfl⟩)
      |(go_at_call 13;with_reducible refine(b0 _ (by assumption)).mono ?_;rintro e w4 ⟨rfl,H,h4⟩))
    all_goals
     go_wp2_with fail;go_meet;exact⟨rfl,H,by assumption⟩
   case rest=>
   obtain⟨rfl,a1,b6⟩:=hcut;have q1:=b2.out M.out;have q2:=b3.out a1.out;have q3:¬9223372036854775807<A.size+J.size:=by omega
   go_wp2_with fail;go_ret;exact⟨A++J,rfl,b1.out M.out a1.out,aW a8 b6.1⟩
end
end Go.Proofs.YtihbnmlinkbnkaaGreatDoor
