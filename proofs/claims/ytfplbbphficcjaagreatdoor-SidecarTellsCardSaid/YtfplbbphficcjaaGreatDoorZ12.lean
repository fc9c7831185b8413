/-
  Texts put together (part 12): the walks and the plain laws on which the statement stands.
-/
import Derived.Test.YtfplbbphficcjaaGreatDoorZ5
import Derived.Test.YtfplbbphficcjaaGreatDoorZ6
import Derived.Test.YtfplbbphficcjaaGreatDoorZ7
import Derived.Test.YtfplbbphficcjaaGreatDoorZ8
set_option maxRecDepth 100000
set_option maxHeartbeats 12800000
set_option linter.unusedVariables false
set_option linter.unusedSimpArgs false
open Go.Proofs.Tryz
open Go.Proofs.Tryz renaming prog->pG
open Go.IntKind renaming i64->aJ,u64->eZ,wrap_i64->aM,wrap_u64->fC
open Go.Oper renaming wp->nC
open Go.Region renaming wanted->qL
open Go.RowKit.Below renaming refl->aH
open Int renaming toNat_natCast->fL
open List renaming append_assoc->bU,drop_of_length_le->sB,getElem?_eq_some_iff->eF,length_append->aL,length_drop->bA,length_replicate->AT,length_singleton->fQ,length_take->aQ,map_cons->kI,mem_of_getElem?->cN,replicate->aX,take_add_one->cG,take_length->jS,take_of_length_le->cD
open Nat renaming le_refl->aD,le_trans->aR,lt_of_lt_of_le->fB,lt_or_ge->cF,mul_assoc->DK,mul_comm->pE,mul_le_mul_left->XO,pow_le_pow_right->nF,pow_pos->DN,pow_succ->oP,zero_le->aO
namespace Go.Proofs.YtfplbbphficcjaaGreatDoor
section
open Go.RowKit
theorem aO4 (w:World) (n:Nat):tQ (w.alloc (.cells (gW (.int .i64 0) n) 3)) (.slice (some ⟨w.heap.size,0,none⟩) n n) (aX n 0):=by
 refine .inr ⟨w.heap.size,0,n,by rw[AT],by simp,fun j x h=>?_⟩;obtain⟨d,e⟩:=eF.1 h;rw[AT] at d;rw[List.getElem_replicate] at e;subst e;rw[Nat.zero_add];exact(Arr.made w 3 (.int .i64 0) n).cell (by simp[d])
theorem aO5 {l:List Int} (e:∀x∈l,0<=x):∀x∈l.take (gR 1 l),x=0\/x=1:=fun x d=>by
 have h:=DW 1 l x d
 grind
theorem aO6 (v:Value) (m:List Int) (most:Int) (w:World) (hr:RdI w v m) (e5:m.length<=1000000) (hv:∀x∈m,0<=x/\x<=1000000) (e6: -9223372036854775808<=most) (e7:most<=1000000) (d0:0<m.length):
  Calls pG 180 #[v,.int .i64 most] w fun e w'=>∃v',e=.returned (.tuple #[v',.int .i64 (rM m most)])/\OwI w' w.heap.size v' (sQ m most)/\Below w.heap.size w w':=by
 have hb:Calls pG 192 #[v] w fun e w'=>e=.returned (.bool false)/\w'=w:=(PT v m w hr).mono fun e w' ⟨h1,O⟩=>by
  rw[sK (fun x h=>aE (by have:=hv x h;omega))] at h1;exact⟨h1,O⟩
 have HB:=hid hb;obtain⟨a,ca,rfl,d3,b5,hA⟩:=hr.open;obtain⟨A,o0,rfl,T,b6⟩:=hA d0;have HV:=hid hv;have HA:=hid b6;have d4:=hid b5;unfold maxLen at b5;obtain⟨M,e8,e9,f0,f1,f2⟩:∃M:Nat,(if most<0 then 0 else most)=(M:Int)/\max most 0=(M:Int)/\M<=1000000/\most<=(M:Int)/\(if 0<most then most else 0)=(M:Int):=⟨most.toNat,by split<;>omega,by omega,by omega,by omega,by split<;>omega⟩;clear hr hA hv b6 hb;go_enter func180,ntmps180;go_wp2_with fail;refine HB.out.mono ?_;rintro e F ⟨rfl,rfl⟩;clear HB;go_wp2_with fail
 go_loopg [0,8,9,10] m.length (fun gh s0 _s8 _s9 _s10 wq=>∃(rest d:List Int) (off cap:Nat),s0=.slice (some ⟨A,off,none⟩) rest.length cap/\rest.length<=cap/\cap<=maxLen/\rest.length<=m.length/\gh=rest.length/\uJ wq F.heap.size d/\Hid (d++dT rest=dT m)/\d.length<=1000001/\
  Below F.heap.size F wq/\Hid (∀j x,rest[j]? =some x->F.cell? ⟨A,off+j,none⟩=some (.int .i64 x))/\Hid (∀x∈rest,0<=x/\x<=1000000))
 case atStart=>exact⟨m,[],o0,ca,rfl,d3,d4.out,aD _,rfl,⟨.slice none 0 0,Arr.new F _ _,OwI.nil _ _⟩,hid rfl,by simp,(aH _ _).alloc (aD _) _,HA,HV⟩
 case round=>
 obtain⟨rest,d,off,cap,rfl,b7,a7,f3,Z,a8,HP,f4,I,a0,HR⟩:=hrel;have HG:=hid Z;clear Z
 by_cases f5:0<rest.length
 ·have b8:RdI wr (.slice (some ⟨A,off,none⟩) rest.length cap) rest:=
   ⟨_,_,rfl,b7,a7,.inr ⟨A,off,rfl,fB T I.size,fun j hj=>by
    rw[List.length_map] at hj;rw[I.cell (p:=⟨A,off+j,none⟩) T,a0.out j _ (List.getElem?_eq_getElem hj)];simp[List.getD,hj]⟩⟩
  have b9:=hid b8;have d5:=hid a7;have d6:=BK 1 rest;obtain⟨k,hk⟩:∃k,k=gR 1 rest:=⟨_,rfl⟩;have a1:=aAm rest;have a9:=aO5 (l:=rest) (fun x h=>(HR.out x h).1);rw[<-hk] at d6 a1 a9;have HK:=hid hk;obtain⟨N,hN⟩:∃N,N=num (rest.take k):=⟨_,rfl⟩;rw[<-hN] at a1;have HN:=hid hN;have HZ:=hid a1;have d7:=hid a9;unfold maxLen at a7;have c0:=hid (show(dT m).length=d.length+N+(dT (rest.drop k)).length by
   rw[<-HP.out,aL,HZ.out,aL,AT];omega)
  clear b8 hk a1 a9 hN;go_wp2_with fail;refine(ZR _ rest 1 _ b9.out).mono ?_;rintro e w2 ⟨rfl,O⟩;rw[<-HK.out];have c2:=a8.below O;have a2:=aW I O;have d8:=hid (show RdI w2 (.slice (some ⟨A,off,none⟩) k cap) (rest.take k) by
   have:=aAo (w:=w2) (b:=A) (off:=off) (cap:=cap) (fB T a2.size) (fun j x h=>by rw[a2.cell (p:=⟨A,off+j,none⟩) T];exact a0.out j x h) 0 k (by omega) b7 d5.out
   simpa using this)
  clear a8 I b9 O;go_wp2_with fail;refine(aO2 _ (rest.take k) _ d8.out (by rw[aQ];omega) d7.out).mono ?_;rintro e w3 ⟨rfl,h3⟩;have a3:=c2.below h3;have a4:=aW a2 h3;clear c2 a2 h3;obtain⟨lv,U,J⟩:=a3;obtain⟨la,lc,rfl,d9,b1,_⟩:=J.rd.open;have c1:=U.cell (i:=0) rfl;have a3:uJ w3 F.heap.size d:=⟨_,U,J⟩;unfold maxLen at b1
  by_cases b2:N<=1099511627776
  ·have nv:qT (rest.take k)=(N:Int):=by unfold qT;rw[<-HN.out,aB b2]
   have V:oB (rest.take k)=0:=by unfold oB;rw[<-HN.out,aB b2]
   rw[nv,V];clear nv V
   by_cases Y:(M:Int)-(d.length:Int)<(N:Int)
   ·have t6:decide ((M:Int)-(d.length:Int)<(N:Int))=true:=aG Y;go_wp2_with fail
    go_ret2
    have H:¬((dT m).length:Int)<=most:=by have:=c0.out;omega
    obtain⟨D,G⟩:=vW H;rw[D,G];exact⟨_,rfl,OwI.nil _ _,a4⟩
   ·have t6:decide ((M:Int)-(d.length:Int)<(N:Int))=false:=aE Y;go_wp2_with (at_make;refine mkA jL rfl _ _ rfl N rfl rfl ?_ ?_;omega);refine(JU F.heap.size _ d (aX N 0) _ (a3.below ((aH _ _).alloc (aD _) _)) (aO4 _ _) (by rw[AT];omega)).mono ?_;rintro e w4 ⟨rfl,c3,h4⟩;have b3:=(bD a4 _).trans h4;have c4:(d++aX N (0:Int)).length=d.length+N:=by simp
    have a5:=hid c4;clear a3 U J c1 h4 a4 c4 t6
    by_cases c5:k=rest.length
    ·have a6:=hid (show(d++aX N 0)++dT []=dT m by
      have:=HZ.out;rw[sB (by omega)] at this;rw[bU,<-this];exact HP.out)
     have D:decide (0<rest.length-k)=false:=aE (by omega);have e0:rest.length-k=0:=by omega
     by_cases e2:cap=k
     all_goals
      go_wp2_with fail;have Z:=HG.out
      go_roundg 0
      case measure=>omega
      case rel=>exact⟨[],_,_,_,rfl,aO _,by unfold maxLen;omega,aO _,rfl,c3,a6,by rw[a5.out];omega,b3,hid (fun j x h=>by simp at h),hid (fun x h=>by simp at h)⟩
    ·have c6:k<rest.length:=by omega
     obtain⟨x,h⟩:=eG c6;have f6:=HR.out x (cN h);have e3:1<x:=BL 1 rest (by rw[<-HK.out];exact h);have c1:w4.cell? ⟨A,off+k,none⟩=some (.int .i64 x):=by
      rw[b3.cell (p:=⟨A,off+k,none⟩) T];exact a0.out k x h
     have a6:=hid (show((d++aX N 0)++[x-1])++dT (rest.drop (k+1))=dT m by
      have:=HZ.out;rw[List.drop_eq_getElem_cons c6,(eF.1 h).2,aAn e3] at this;rw[bU,bU,List.singleton_append,<-this];exact HP.out)
     have D:decide (0<rest.length-k)=true:=aG (by omega);have G:0<rest.length-k:=by omega
     have e2:¬cap=k:=by omega
     have hl:=hid (show rest.length-k-1=(rest.drop (k+1)).length by rw[bA];omega);have c7:Hid (∀x∈rest.drop (k+1),0<=x/\x<=1000000):=hid (fun y L=>HR.out y (List.mem_of_mem_drop L));have HE:=hid c5;clear h c5
     by_cases f7:cap-k=1
     all_goals
      go_wp2_with fail;refine(JU F.heap.size _ (d++aX N 0) [x-1] _ (c3.below ((aH _ _).alloc (aD _) _)) (aAe _ _ _) (by rw[a5.out,fQ];omega)).mono ?_;rintro e w5 ⟨rfl,c8,h5⟩;have c9:=(bD b3 _).trans h5;go_wp2_with fail;rw[hl.out];have Z:=HG.out
      go_roundg (rest.drop (k+1)).length
      case measure=>rw[bA];omega
     ·refine⟨rest.drop (k+1),_,off+k,0,rfl,by rw[bA];omega,by simp[maxLen],by rw[bA];omega,rfl,c8,a6,by rw[aL,a5.out,fQ];omega,c9,hid (fun j y L=>?_),c7⟩;rw[sB (by omega)] at L;simp at L
     ·refine⟨rest.drop (k+1),_,off+k+1,cap-k-1,rfl,by rw[bA];omega,by unfold maxLen;omega,by rw[bA];omega,rfl,c8,a6,by rw[aL,a5.out,fQ];omega,c9,hid (fun j y L=>?_),c7⟩;have:=RdI.dropS a0.out (k+1) j y L;rw[Nat.add_assoc off k 1];exact this
  ·have V:oB (rest.take k)=4:=by unfold oB;rw[<-HN.out,aA b2]
   rw[V];clear V;go_wp2_with fail
   go_ret2
   have H:¬((dT m).length:Int)<=most:=by have:=c0.out;omega
   obtain⟨D,G⟩:=vW H;rw[D,G];exact⟨_,rfl,OwI.nil _ _,a4⟩
 ·have e4:rest=[]:=List.eq_nil_of_length_eq_zero (by omega);subst e4;obtain⟨lv,U,J⟩:=a8;obtain⟨la,lc,rfl,d9,b1,_⟩:=J.rd.open;have c1:=U.cell (i:=0) rfl;unfold maxLen at b1;have b4:=hid (show d=dT m by have:=HP.out;rw[show dT []=[] from rfl,List.append_nil] at this;exact this)
  by_cases Y:most<(d.length:Int)
  ·have t6:decide (most<(d.length:Int))=true:=aG Y;go_wp2_with fail
   go_ret2
   have H:¬((dT m).length:Int)<=most:=by rw[<-b4.out];omega
   obtain⟨D,G⟩:=vW H;rw[D,G];exact⟨_,rfl,OwI.nil _ _,I⟩
  ·have t6:decide (most<(d.length:Int))=false:=aE Y;go_wp2_with fail
   go_ret2
   have H:((dT m).length:Int)<=most:=by rw[<-b4.out];omega
   obtain⟨D,G⟩:=BN H;rw[D,G,<-b4.out];exact⟨_,rfl,Ow.base J (Nat.le_succ _),I⟩
theorem aP3 (v:Value) (most:Int) (w:World) (A:RdI w v []) (a0: -9223372036854775808<=most) (a1:most<=1000000):
  Calls pG 180 #[v,.int .i64 most] w fun e w'=>∃D,e=.returned (.tuple #[D,.int .i64 (rM [] most)])/\OwI w' w.heap.size D (sQ [] most)/\Below w.heap.size w w':=by
 have F:Calls pG 192 #[v] w fun e w'=>e=.returned (.bool false)/\w'=w:=(PT v [] w A).mono fun e w' ⟨G,J⟩=>by
  rw[sK (fun x L=>by simp at L)] at G;exact⟨G,J⟩
 obtain⟨a,M,rfl,O,a2,T⟩:=A.open;simp only[List.length_nil] at O T F ⊢;go_enter func180,ntmps180;go_wp2_with fail;refine F.mono ?_;rintro e H ⟨rfl,rfl⟩;go_wp2_with fail
 go_loopg [0,8,9,10] 0 (fun U V _s8 _s9 _s10 Y=>U=0/\V=.slice a 0 M/\Y=H.alloc (.cells #[.slice none 0 0] 285))
 case atStart=>exact⟨rfl,rfl,rfl⟩
 case round=>
 obtain⟨hg,rfl,rfl⟩:=hrel;have hc:=bX H (.slice none 0 0) 285
 by_cases I:most<0
 ·have Z:decide (most<0)=true:=aG I;have d:rM [] most=4:=(vW (by show ¬((([]:List Int).length:Nat):Int)<=most;simp;omega)).2;have h:sQ [] most=[]:=(vW (by show ¬((([]:List Int).length:Nat):Int)<=most;simp;omega)).1;go_wp2_with fail
  go_ret2
  exact⟨.slice none 0 0,by first|(rw[d];rfl)|rfl,by first|(rw[h];exact OwI.nil _ _)|exact OwI.nil _ _,(aH _ _).alloc (aD _) _⟩
 ·have Z:decide (most<0)=false:=aE I;have d:rM [] most=0:=(BN (by show((([]:List Int).length:Nat):Int)<=most;simp;omega)).2;have h:sQ [] most=[]:=(BN (by show((([]:List Int).length:Nat):Int)<=most;simp;omega)).1;go_wp2_with fail
  go_ret2
  exact⟨.slice none 0 0,by first|(rw[d];rfl)|rfl,by first|(rw[h];exact OwI.nil _ _)|exact OwI.nil _ _,(aH _ _).alloc (aD _) _⟩
theorem aP4 (v:Value) (m:List Int) (most:Int) (w:World) (h:RdI w v m) (A:m.length<=1000000) (D:∀x∈m,0<=x/\x<=1000000) (F: -9223372036854775808<=most) (G:most<=1000000):
  Calls pG 180 #[v,.int .i64 most] w fun e w'=>∃d,e=.returned (.tuple #[d,.int .i64 (rM m most)])/\OwI w' w.heap.size d (sQ m most)/\Below w.heap.size w w':=by grind [Nat.eq_zero_or_pos,List.length_eq_zero_iff,aP3,aO6,RdI,rM,OwI,sQ]
theorem BQ (a:ByteArray) (o:Int) (y:Value) (_hy:y.oneCell'=true) (w:World) (d:a.size<=140737488355328):
  Calls pG 147 #[.agg #[.string a,.int .i64 o,y]] w fun e w'=>e=.returned (.int .i64 ((a.size:Int)+1))/\Below w.heap.size w w':=by
 have h:aJ.wrap ((a.size:Int)+1)=(a.size:Int)+1:=by rw[aM];omega
 go_enter func147,ntmps147;go_wp2_with fail;go_ret;exact⟨rfl,(aH _ _).alloc (aD _) _⟩
def rN (s:ByteArray) (o:Nat->Int):List Int:=dM 0 (dL (bY s.data.toList) (eM s o s.size))++[((bY s.data.toList).length:Int)+1]
theorem JX:(pG.info? 107).map (·.size)=some 3:=by kernel_rfl
def dN:ByteArray:={data:=#[]}
theorem vX (s:List UInt8):(bY s).length<=256:=by grind [bY,kL,dZ]
theorem xK {s:ByteArray} (h:0<s.size):s.toList.isEmpty=false:=by
 rw[Lib.toList_data]
 cases e:s.data.toList with
 |nil=>
  have:s.data.toList.length=s.size:=by simp
  rw[e] at this;simp at this;omega
 |cons b l=>rfl
end
section
open Go.RowKit Go Go.Shelf
theorem aWz {l:List Int} {k:Nat} {x:Int} (h:l[k]? =some x):kZ (l.take (k+1))=kZ (l.take k)+2^(20-x.toNat):=by grind [kZ,cG]
theorem aEv (l:List Int):kZ l<=1048576*l.length:=by
 unfold kZ
 induction l with
 |nil=>simp
 |cons x l d=>
  rw[kI,List.sum_cons,List.length_cons];have:2^(20-x.toNat)<=2^20:=nF (by decide) (by omega);have e:(2:Nat)^20=1048576:=by decide
  omega
theorem aEw {l:List Int} (h:¬(2<=l.length/\l.length<=258)):bM l=1:=by
 unfold bM;rw[aB (fun q=>h ⟨q.1,q.2.1⟩)]
theorem LU {l:List Int} {k:Nat} {x:Int} (h:l[k]? =some x) (d:¬(1<=x/\x<=20)):bM l=1:=by
 unfold bM;rw[aB (fun q=>d (q.2.2 x (cN h)))]
theorem aEx {l:List Int} (h:gM l):bM l=if 1048576<kZ l then 6 else 0:=by grind [bM,gM,kZ]
theorem LV (v:Value) (l:List Int) (w:World) (hr:RdI w v l):
  Calls pG 98 #[v] w fun e w'=>e=.returned (.int .i64 (bM l))/\w'=w:=by
 obtain⟨a,ca,rfl,a9,a5,J⟩:=hr.open;unfold maxLen at a5;clear hr
 by_cases U:2<=l.length/\l.length<=258
 rotate_left
 ·have h:=hid (aEw U)
  by_cases h3:l.length<2
  ·have A:decide ((l.length:Int)<2)=true:=aG (by omega);go_enter func98,ntmps98;go_wp2_with fail;go_ret;exact⟨by rw[h.out];rfl,rfl⟩
  ·have A:decide ((l.length:Int)<2)=false:=aE (by omega);have t2:decide ((l.length:Int)>258)=true:=aG (by omega);have t3:decide ((258:Int)<(l.length:Int))=true:=aG (by omega);go_enter func98,ntmps98;go_wp2_with fail;go_ret;exact⟨by rw[h.out];rfl,rfl⟩
 ·have A:decide ((l.length:Int)<2)=false:=aE (by omega);have t2:decide ((l.length:Int)>258)=false:=aE (by omega);have t3:decide ((258:Int)<(l.length:Int))=false:=aE (by omega);go_enter func98,ntmps98;go_wp2_with fail;clear A t2 t3
  go_loopg [3] l.length (fun g s3 wr=>∃k:Nat,k<=l.length/\g=l.length-k/\s3=.int .i64 (k:Int)/\Hid (∀x∈l.take k,1<=x/\x<=20)/\wr=w)
  case atStart=>exact⟨0,aO _,rfl,rfl,hid (fun x d=>by simp at d),rfl⟩
  case round=>
   obtain⟨k,hk,D,rfl,V,rfl⟩:=hrel;have Y:=hid D;clear D
   by_cases Z:k<l.length
   ·have A:decide ((k:Int)<(l.length:Int))=true:=aG (by omega);obtain⟨b1,o1,rfl,a6,H⟩:=J (by omega);obtain⟨x,d⟩:=eG Z;have c1:=H k x d;clear H J
    by_cases a1:x<1
    ·have u1:decide (x<1)=true:=aG a1;have h:=hid (LU d (by omega));clear d;go_wp2_with fail;go_ret;exact⟨by rw[h.out];rfl,rfl⟩
    ·have u1:decide (x<1)=false:=aE a1
     by_cases L:20<x
     ·have u2:decide (20<x)=true:=aG L;have u3:decide (x>20)=true:=aG L;have h:=hid (LU d (by omega));clear d;go_wp2_with fail;go_ret;exact⟨by rw[h.out];rfl,rfl⟩
     ·have u2:decide (20<x)=false:=aE L;have u3:decide (x>20)=false:=aE L;have HS:=hid (show ∀y∈l.take (k+1),1<=y/\y<=20 from fun y G=>by
       rw[cG,d] at G;rcases List.mem_append.1 G with G|G
       ·exact V.out y G
       ·simp at G;omega)
      clear d;go_wp2_with fail;have D:=Y.out
      go_roundg (l.length-(k+1))
      case measure=>omega
      case rel=>exact⟨k+1,by omega,rfl,by go_num,HS,rfl⟩
   ·have A:decide ((k:Int)<(l.length:Int))=false:=aE (by omega);have M:=V.out;rw[cD (by omega)] at M;have a7:=hid M;have h:=hid (aEx ⟨U.1,U.2,M⟩);have b0:=aEv l;clear M V;go_wp2_with fail
    go_loopg [4,5] l.length (fun g s4 s5 wx=>∃k K:Nat,k<=l.length/\g=l.length-k/\s5=.int .i64 (k:Int)/\s4=.int .i64 (K:Int)/\Hid (K=kZ (l.take k))/\wx=wr)
    case atStart=>exact⟨0,0,aO _,rfl,rfl,rfl,hid rfl,rfl⟩
    case round=>
     obtain⟨k,K,hk,D,rfl,rfl,HK,rfl⟩:=hrel;have Y:=hid D;clear D;have a2:=aEv (l.take k);rw[<-HK.out,aQ] at a2;have b2:K<=300000000:=by omega
     clear a2
     by_cases Z:k<l.length
     ·have A:decide ((k:Int)<(l.length:Int))=true:=aG (by omega);obtain⟨b1,o1,rfl,a6,H⟩:=J (by omega);obtain⟨x,d⟩:=eG Z;have c1:=H k x d;have b3:=a7.out x (cN d);obtain⟨q,hq⟩:∃q:Nat,q=20-x.toNat:=⟨_,rfl⟩;have m1:aJ.wrap (20-x)=(q:Int):=by rw[aM];omega
      have b4:20-x=(q:Int):=by omega
      have m2:min q 64=q:=by omega
      obtain⟨P,O⟩:∃P:Nat,P=2^q:=⟨_,rfl⟩;have b5:P<=1048576:=by rw[O];exact nF (n:=2) (i:=q) (j:=20) (by decide) (by omega)
      have e1:(2:Int)^q=(P:Int):=by rw[O];push_cast;rfl
      have m3:aJ.wrap (P:Int)=(P:Int):=by rw[aM];omega
      have HS:=hid (show kZ (l.take (k+1))=K+P by rw[aWz d,<-HK.out,O,hq]);obtain⟨I,a3⟩:∃I:Nat,I=K+P:=⟨_,rfl⟩;have m4:aJ.wrap ((K:Int)+(P:Int))=(I:Int):=by rw[aM];omega
      have b6:(K:Int)+(P:Int)=(I:Int):=by omega
      have a8:=hid a3;clear hq O d H J a3;go_wp2_with fail;have D:=Y.out
      go_roundg (l.length-(k+1))
      case measure=>omega
      case rel=>exact⟨k+1,I,by omega,rfl,by go_num,rfl,hid (by rw[HS.out,a8.out]),rfl⟩
     ·have A:decide ((k:Int)<(l.length:Int))=false:=aE (by omega);have T:=HK.out;rw[cD (by omega)] at T;have F:=h.out;rw[<-T] at F
      by_cases a4:1048576<K
      ·rw[aB a4] at F;have a0:=hid F;have u1:decide ((1048576:Int)<(K:Int))=true:=aG (by omega);have u2:decide ((K:Int)>1048576)=true:=aG (by omega);clear F T;go_wp2_with fail;go_ret;exact⟨by rw[a0.out];rfl,rfl⟩
      ·rw[aA a4] at F;have a0:=hid F;have u1:decide ((1048576:Int)<(K:Int))=false:=aE (by omega);have u2:decide ((K:Int)>1048576)=false:=aE (by omega);clear F T;go_wp2_with fail;go_ret;exact⟨by rw[a0.out];rfl,rfl⟩
def cY (n:Nat) (f:Nat->Value×Value):List Value:=(List.range (n*2)).map (fun j=>if j%2=0 then(f (j/2)).1 else(f (j/2)).2)
theorem LX (n:Nat) (f:Nat->Value×Value):(cY n f).length=n*2:=by simp[cY]
theorem zR (n:Nat) (f:Nat->Value×Value) (i:Nat) (h:i<n):(cY n f)[i*2]? =some (f i).1:=by grind [cY]
theorem zS (n:Nat) (f:Nat->Value×Value) (i:Nat) (h:i<n):(cY n f)[i*2+1]? =some (f i).2:=by grind [cY]
theorem TB (n:Nat) (f e:Nat->Value×Value) (i:Nat) (a b:Value) (h:∀d,d<n->e d=if d=i then(a,b) else f d):((cY n f).set (i*2) a).set (i*2+1) b=cY n e:=by
 apply List.ext_getElem?
 grind [cY,LX]
theorem wM {n:Nat} {f g:Nat->Value×Value} (h:∀d,d<n->f d=g d):cY n f=cY n g:=by grind [cY,List.map_congr_left]
theorem aEy (a b:Value) (n:Nat):(madeCells #[a,b] (n*2))=(cY n (fun _=>(a,b))).toArray:=by
 unfold madeCells cY
 grind
theorem mk2 {P:Program} {d:Array Oper} {rest:List Oper} {o:Oper} {a:Act} {Q:Exit->Act->World->Prop} {w:World} {t e A:Nat} {z x y:Value} (F:P.underlying t=some (.slice e)) (G:(P.info? e).map (fun i=>(i.zero,i.size,i.bytes))=some (some z,2,A)) (H:z.cells=#[x,y]) (I:o.guard=none) (l c:Operand)
  (J:o.op=.makeSlice t l c) (n:Nat) (L:a.eval l=.int .i64 (n:Int)) (M:a.eval c=.int .i64 (n:Int)) (Z:n*A<=140737488355328) (hn:n<=140737488355328)
  (h:wpList P d Q rest (a.put o.dst (.slice (some ⟨w.heap.size,0,none⟩) n n)) (w.alloc (.cells (cY n (fun _=>(x,y))).toArray e))):wpList P d Q (o::rest) a w:=by
 refine wpList_plain I fun K O=>?_
 obtain⟨i,T,U,V,h3⟩:=info_parts G;have Y:(i.bytes:Int)*(n:Int)<=281474976710656:=by grind
 have D:=run_make (P:=P) w t e i z F T U .i64 .i64 (n:Int) (n:Int) (by omega) (Int.le_refl _) Y (by omega);rw[V,fL,H,aEy] at D;unfold nC;simp[execOp,J,L,M,D,Result.andThen];exact O _ _ h
theorem aXb {l:List Int} {k:Nat} {x:Int} (h:l[k]? =some x):mQ (l.take (k+1))=max (mQ (l.take k)) x:=by grind [mQ,cG]
theorem aXc {l:List Int} (h:∀x∈l,1<=x/\x<=20):0<=mQ l/\mQ l<=20:=by
 unfold mQ
 suffices H:∀(m:List Int) (a:Int),(∀x∈m,1<=x/\x<=20)->0<=a->a<=20->0<=m.foldl max a/\m.foldl max a<=20 from H l 0 h (by omega) (by omega)
 intro m
 induction m with
 |nil=>intro a _ d e;exact⟨d,e⟩
 |cons x m D=>
  intro a A d e;have G:=A x (List.mem_cons_self ..);exact D (max a x) (fun y F=>A y (List.mem_cons_of_mem _ F)) (by omega) (by omega)
theorem aE2 (v:Value) (l:List Int) (w:World) (D:RdI w v l) (F:∀x∈l,1<=x/\x<=20):
  Calls pG 135 #[v] w fun e w'=>e=.returned (.int .i64 (mQ l))/\w'=w:=by
 obtain⟨a,ca,rfl,a0,O,G⟩:=D.open;unfold maxLen at O;clear D;have HL:=hid F;clear F;go_enter func135,ntmps135;go_wp2_with fail
 go_loopg [3,4] l.length (fun g T U wr=>∃(k:Nat) (M:Int),k<=l.length/\g=l.length-k/\U=.int .i64 (k:Int)/\T=.int .i64 M/\Hid (M=mQ (l.take k))/\wr=w)
 case atStart=>exact⟨0,0,aO _,rfl,rfl,rfl,hid rfl,rfl⟩
 case round=>
  obtain⟨k,M,hk,d,rfl,rfl,h,rfl⟩:=hrel;have H:=hid d;clear d
  by_cases V:k<l.length
  ·have Y:decide ((k:Int)<(l.length:Int))=true:=aG (by omega);obtain⟨b1,o1,rfl,a1,I⟩:=G (by omega);obtain⟨x,A⟩:=eG V;have c1:=I k x A;have J:=hid (aXb A);clear I G A
   by_cases a2:x<=M
   ·have Z:max M x=M:=by omega
    go_wp2_with fail;have d:=H.out
    go_roundg (l.length-(k+1))
    case measure=>omega
    case rel=>exact⟨k+1,M,by omega,rfl,by go_num,rfl,hid (by rw[J.out,<-h.out];omega),rfl⟩
   ·have Z:max M x=x:=by omega
    go_wp2_with fail;have d:=H.out
    go_roundg (l.length-(k+1))
    case measure=>omega
    case rel=>exact⟨k+1,x,by omega,rfl,by go_num,rfl,hid (by rw[J.out,<-h.out];omega),rfl⟩
  ·have Y:decide ((k:Int)<(l.length:Int))=false:=aE (by omega);have L:=hid (show M=mQ l by rw[h.out,cD (by omega)]);go_wp2_with fail;go_ret;exact⟨eI (by first|exact L.out|(rw[L.out])),rfl⟩
def uU (l:List Int) (d:Nat):Value×Value:=(.int .i64 (bL l d:Int),.int .u64 (gZ l d:Int))
def oX (l:List Int) (n i d:Nat):Value×Value:=if bL l d<n\/(bL l d=n/\d<i) then uU l d else(.int .i64 0,.int .u64 0)
theorem aW0 {l:List Int} (h:gM l):cY l.length (oX l 1 0)=cY l.length (fun _=>(.int .i64 0,.int .u64 0)):=by grind [wM,lX,oX,gM,cY]
theorem aW1 (l:List Int) (n:Nat):cY l.length (oX l n l.length)=cY l.length (oX l (n+1) 0):=by grind [wM,oX,bL,cY]
theorem aW2 {l:List Int} (h:gM l):cY l.length (oX l 21 0)=cY l.length (uU l):=by grind [wM,lX,oX,gM,cY,uU]
theorem aW3 {l:List Int} {n i:Nat} (h:bL l i≠n):cY l.length (oX l n i)=cY l.length (oX l n (i+1)):=by grind [wM,oX,bL,cY]
theorem aW4 {l:List Int} {n i:Nat} (h:bL l i=n):((cY l.length (oX l n i)).set (i*2) (.int .i64 (n:Int))).set (i*2+1) (.int .u64 (gZ l i:Int))=cY l.length (oX l n (i+1)):=by grind [TB,oX,uU,bL,cY,gZ]
def lS (l:List Int) (n i:Nat):Nat:=gY l n+cL (l.take i) n
theorem aW5 (l:List Int) (n:Nat):lS l (n+1) 0=2*lS l n l.length:=by
 unfold lS;rw[List.take_zero,jS];rfl
theorem LY {l:List Int} (h:gM l) (e:kZ l<=1048576) {n i:Nat} (d:n<=20):lS l n i<=1048576:=by
 have A:=aB0 h.2.2 e d;have D:cL (l.take i) n<=cL l n:=by
  unfold cL;exact List.Sublist.countP_le (List.take_sublist ..)
 have F:2^n<=2^20:=nF (by decide) d
 grind [lS,gM,kZ]
theorem aW6 {l:List Int} {n i:Nat} (d:i<l.length) (h:l.getD i 0≠(n:Int)):lS l n (i+1)=lS l n i:=by grind [lS,KM]
theorem aW7 {l:List Int} {n i:Nat} (h:bL l i=n):lS l n i=gZ l i:=by
 unfold lS gZ;rw[h]
theorem aW8 {l:List Int} {n i:Nat} (d:i<l.length) (h:l.getD i 0=(n:Int)):lS l n (i+1)=lS l n i+1:=by grind [lS,KM]
def xW (N V L n:Nat):Prop:=(L=0/\V=0/\N=0)\/(1<=L/\L<=n/\(V+1)*2^(n-L)=N)
theorem aW9 {N V L n:Nat} (h:xW N V L n):xW (2*N) V L (n+1):=by
 rcases h with⟨d,A,e⟩|⟨d,A,e⟩
 ·grind [xW]
 ·refine .inr ⟨d,by omega,?_⟩;rw[show n+1-L=n-L+1 by omega,oP,<-DK,e,pE]
theorem aEz {N n:Nat} (h:1<=n):xW (N+1) N n n:=by grind [xW]
theorem aXa {N V L n:Nat} (h:xW N V L n):V<=N/\L<=n:=by
 rcases h with⟨d,e,A⟩|⟨d,e,A⟩
 ·omega
 ·have:1<=2^(n-L):=DN (by decide);have D:=XO (V+1) this;omega
theorem aE0:(pG.info? 148).map (fun i=>(i.zero,i.size,i.bytes))=some (some (.agg #[.int .i64 0,.int .u64 0]),2,16):=by kernel_rfl
def Wds (w:World) (B:Nat) (v:Value) (l:List Int):Prop:=∃b,B<=b/\v=.slice (some ⟨b,0,none⟩) l.length l.length/\Arr w b 148 (cY l.length (uU l))
theorem Wds.below {w w':World} {B C:Nat} {v:Value} {l:List Int} (h:Wds w B v l) (e:Below C w w') (F:w.heap.size<=C):Wds w' B v l:=by
 obtain⟨b,A,D,d⟩:=h;exact⟨b,A,D,d.below e (by have:=d.lt;omega)⟩
theorem aE1 (v:Value) (l:List Int) (w:World) (hr:RdI w v l):
  Calls pG 84 #[v] w fun e w'=>∃u,e=.returned (.tuple #[u,.int .i64 (bM l)])/\(bM l=0->Wds w' w.heap.size u l)/\(bM l≠0->u=.slice none 0 0)/\Below w.heap.size w w':=by
 obtain⟨a,ca,rfl,e8,c6,hA⟩:=hr.open;unfold maxLen at c6
 by_cases H:bM l=0
 rotate_left
 ·have HE:=hid H;obtain⟨E,a2⟩:∃E,E=bM l:=⟨_,rfl⟩;rw[<-a2] at H;have t0:decide (E=0)=false:=aE H;have e9:(E != 0)=true:=by simpa using H
  go_enter func84,ntmps84;go_wp2_with fail;refine(LV _ l _ hr).mono ?_;rintro e d ⟨rfl,rfl⟩;rw[<-a2];have c7:=hid a2;clear a2;go_wp2_with fail
  go_ret2
  exact⟨_,by rw[c7.out];rfl,fun q=>absurd q HE.out,fun _=>rfl,aH _ _⟩
 ·have T:=gE H;have HO:=hid T.1;have a5:=hid (fun n i hn=>LY (l:=l) (n:=n) (i:=i) T.1 T.2 hn);have f2:=T.1.2.1;have f3:=T.1.1;go_enter func84,ntmps84;go_wp2_with fail;refine(LV _ l _ hr).mono ?_;rintro e d ⟨rfl,rfl⟩;rw[H];have HE:=hid H;clear H T hr;go_wp2_with (at_make;refine mk2 underlying144 aE0 rfl rfl _ _ rfl l.length rfl rfl ?_ ?_ ?_;(omega);(omega));have b2:=Arr.new d 148 (cY l.length (fun _=>(.int .i64 0,.int .u64 0)));rw[<-aW0 HO.out] at b2 ⊢
  have c8:Below d.heap.size d (d.alloc (.cells (cY l.length (oX l 1 0)).toArray 148)):=bD (aH _ _) _;generalize d.alloc (.cells (cY l.length (oX l 1 0)).toArray 148)=w0 at*
  have c9:=hid (fun i (h:i<l.length)=>(lX HO.out h));go_wp2_with fail
  go_loopg [6,7,8,9,10] 20 (fun g s6 s7 s8 _s9 _s10 wr=>∃n V L N:Nat,1<=n/\n<=21/\g=21-n/\s8=.int .i64 (n:Int)/\s7=.int .i64 (L:Int)/\s6=.int .u64 (V:Int)/\xW N V L n/\Hid (N=lS l n 0)/\Arr wr d.heap.size 148 (cY l.length (oX l n 0))/\Below d.heap.size d wr)
  case atStart=>exact⟨1,0,0,0,by omega,by omega,rfl,rfl,rfl,rfl,.inl ⟨rfl,rfl,rfl⟩,hid (by unfold lS;rw[aBw (fun x hx=>(HO.out.2.2 x hx).1)];rfl),b2,c8⟩
  case round=>
   obtain⟨n,V,L,N,b3,f4,F,rfl,rfl,rfl,J,D,A,I⟩:=hrel;have HG:=hid F;clear F
   by_cases hn:n<=20
   ·have t1:decide ((n:Int)<=20)=true:=aG (by omega);go_wp2_with fail
    go_loopg [6,7,9,10] l.length (fun g s6 s7 s9 _s10 wx=>∃i V L N:Nat,i<=l.length/\g=l.length-i/\s9=.int .i64 (i:Int)/\s7=.int .i64 (L:Int)/\s6=.int .u64 (V:Int)/\xW N V L n/\Hid (N=lS l n i)/\Arr wx d.heap.size 148 (cY l.length (oX l n i))/\Below d.heap.size d wx)
    case atStart=>exact⟨0,V,L,N,by omega,rfl,rfl,rfl,rfl,J,D,A,I⟩
    case round=>
     clear A I J D;obtain⟨i,V,L,N,hi,F,rfl,rfl,rfl,J,D,A,I⟩:=hrel;have a6:=hid F;clear F;have d2:=a5.out n i hn;rw[<-D.out] at d2;have d3:=aXa J
     by_cases a1:i<l.length
     ·have t2:decide ((i:Int)<(l.length:Int))=true:=aG (by omega);obtain⟨b1,o1,rfl,d4,d5⟩:=hA (by omega);obtain⟨d6,d7,hx⟩:=c9.out i a1;have c1:=((pJ I).1 b1 (o1+i) d4).trans (d5 i _ hx);have Y:l.getD i 0=(bL l i:Int):=by rw[List.getD_eq_getElem?_getD,hx];rfl
      have d8:=hid (rfl:bL l i=bL l i);obtain⟨x,a7⟩:∃x,x=bL l i:=⟨_,rfl⟩;rw[<-a7] at c1 Y d6 d7;have HX:=hid a7;clear a7 hx d8
      by_cases b4:x=n
      ·subst b4;have t3:decide ((x:Int)=(x:Int))=true:=aG rfl;have d9:(!decide ((x:Int)=(x:Int)))=false:=by rw[t3];rfl
       have HW:=hid (aW7 (l:=l) HX.out.symm);have Z:=hid (aW8 a1 Y);have a3:=hid (aW4 (l:=l) (n:=x) (i:=i) HX.out.symm);have d0:=A.cell (zR _ _ i a1);have d1:=A.cell (zS _ _ i a1);have f0:=A.free (i*2);have f1:=A.free (i*2+1);have b5:∀u u',Below d.heap.size d ((wr.setCell ⟨d.heap.size,i*2,none⟩ u).setCell ⟨d.heap.size,i*2+1,none⟩ u'):=fun u u'=>(I.setCell (p:=⟨d.heap.size,i*2,none⟩) (aD _) u).setCell (p:=⟨d.heap.size,i*2+1,none⟩) (aD _) u'
       rcases J with⟨hL,hV,e0⟩|⟨f5,e1,b6⟩
       ·have t4:decide ((L:Int)>0)=false:=aE (by omega);have t5:decide (0<L)=false:=aE (by omega);have e2:¬0<L:=by omega
        have b7:gZ l i=V:=by rw[<-HW.out,<-D.out];omega
        have M:=a3.out;rw[b7] at M;have a8:=hid M;have a9:=hid (show xW (N+1) V x x by rw[show V=N by omega];exact aEz b3);have a0:=hid (show N+1=lS l x (i+1) by rw[Z.out,D.out]);clear M a3 b7 hL hV e0 D Z HW HX Y a5;go_wp2_with fail;have b8:=a6.out
        go_roundg (l.length-(i+1))
        case measure=>omega
        case rel=>exact⟨i+1,V,x,N+1,by omega,rfl,by go_num,rfl,rfl,a9.out,a0,by rw[<-a8.out];exact(A.set _ _).set _ _,b5 _ _⟩
       ·have t4:decide ((L:Int)>0)=true:=aG (by omega);have t5:decide (0<L)=true:=aG (by omega);have e2:0<L:=by omega
        obtain⟨O,b9⟩:∃O,O=V+1:=⟨_,rfl⟩;have m1:eZ.wrap (O:Int)=(O:Int):=by rw[fC];omega
        have f6:(V:Int)+1=(O:Int):=by omega
        have e3:=hid (show O*2^(x-L)=N by rw[b9];exact b6);have c0:=hid (show gZ l i=N by rw[<-HW.out,<-D.out]);have a0:=hid (show N+1=lS l x (i+1) by rw[Z.out,D.out]);clear b6 b9 D Z HW HX Y a5 d3;go_wp2_with fail
        go_loopg [6,10] (x-L) (fun g s6 e4 wy=>∃k U:Nat,L<=k/\k<=x/\g=x-k/\e4=.int .i64 (k:Int)/\s6=.int .u64 (U:Int)/\Hid (U*2^(x-k)=N)/\wy=wr)
        case atStart=>exact⟨L,O,aD _,e1,rfl,rfl,rfl,e3,rfl⟩
        case round=>
         obtain⟨k,U,f7,f8,F,rfl,rfl,HU,rfl⟩:=hrel;have e5:=hid F;clear F
         by_cases f9:k<x
         ·have t6:decide ((k:Int)<(x:Int))=true:=aG (by omega);obtain⟨G,c2⟩:∃G,G=2*U:=⟨_,rfl⟩;have c3:=hid (show G*2^(x-(k+1))=N by
           have e:=HU.out;rw[show x-k=x-(k+1)+1 by omega,oP] at e;rw[c2,<-e,pE 2 U,DK,pE 2])
          have g0:G<=N:=by
           have e:=c3.out;have:1<=2^(x-(k+1)):=DN (by decide);have:=XO G this;omega
          have m2:eZ.wrap (2*(U:Int))=(G:Int):=by rw[fC];omega
          have g1:2*(U:Int)=(G:Int):=by omega
          have g2:2*(U:Int)%18446744073709551616=(G:Int):=by omega
          clear c2;go_wp2_with fail;have g3:=e5.out
          go_roundg (x-(k+1))
          case measure=>omega
          case rel=>exact⟨k+1,G,by omega,by omega,rfl,by go_num,rfl,c3,rfl⟩
         ·have t6:decide ((k:Int)<(x:Int))=false:=aE (by omega);have e6:k=x:=by omega
          have b0:U=N:=by
           have e:=HU.out;rw[show x-k=0 by omega] at e;omega
          have M:=a3.out;rw[c0.out,<-b0] at M;have a8:=hid M;have a9:=hid (show xW (N+1) U x x by rw[b0];exact aEz b3);clear M a3 b0 HU c0 e6;go_wp2_with fail;have b8:=a6.out
          go_roundg (l.length-(i+1))
          case measure=>omega
          case rel=>exact⟨i+1,U,x,N+1,by omega,rfl,by go_num,rfl,rfl,a9.out,a0,by rw[<-a8.out];exact(A.set _ _).set _ _,b5 _ _⟩
      ·have t3:decide ((x:Int)=(n:Int))=false:=aE (by omega);have d9:(!decide ((x:Int)=(n:Int)))=true:=by rw[t3];rfl
       have a4:bL l i≠n:=by rw[<-HX.out];exact b4
       have hP:=aW6 (n:=n) a1 (by rw[Y];omega);rw[aW3 a4] at A;have Z:=hid hP;clear hP Y a4;go_wp2_with fail;have b8:=a6.out
       go_roundg (l.length-(i+1))
       case measure=>omega
       case rel=>exact⟨i+1,V,L,N,by omega,rfl,by go_num,rfl,rfl,J,hid (by rw[Z.out];exact D.out),A,I⟩
     ·have t2:decide ((i:Int)<(l.length:Int))=false:=aE (by omega);have e7:i=l.length:=by omega
      subst e7;rw[aW1] at A;have c4:=aW9 J;have a0:=hid (show 2*N=lS l (n+1) 0 by rw[aW5,<-D.out]);obtain⟨N2,c5⟩:∃N2,N2=2*N:=⟨_,rfl⟩;rw[<-c5] at c4 a0;clear c5;go_wp2_with fail;have F:=HG.out
      go_roundg (21-(n+1))
      case measure=>omega
      case rel=>exact⟨n+1,V,L,N2,by omega,by omega,rfl,by go_num,rfl,rfl,c4,a0,A,I⟩
   ·have t1:decide ((n:Int)<=20)=false:=aE (by omega);have a4:n=21:=by omega
    subst a4;rw[aW2 HO.out] at A;go_wp2_with fail
    go_ret2
    exact⟨_,by rw[HE.out];rfl,fun _=>⟨d.heap.size,aD _,rfl,A⟩,fun q=>absurd HE.out q,I⟩
theorem TC {e:Array Oper} {o:Oper} {a:Act} {K:Act->World->Prop} {Q:Exit->Act->World->Prop} {E:Prop} {w:World} (A:o.guard=none) (s x:Operand)
  (D:o.op=.call {callee:=.builtin .append,args:=#[s,x],argTypes:=#[55,55]}) (base:Nat) (v:Value) (l:List Int) (hs:a.eval s=v) (hown:OwI w base v l)
  (sv:Value) (m:List Int) (hx:a.eval x=sv) (hsrc:tQ w sv m) (hroom:(l.length+m.length)*8<=140737488355328) (hbase:base<=w.heap.size)
  (h:∀d w',OwI w' base d (l++m)->Below base w w'->w.grownBy w' v.ownBlock->K (a.put o.dst d) w'):if qL o (yielded e a.tmps)=true then nC pG o a w K Q else E:=by
 have F:qL o (yielded e a.tmps)=true:=by simp[qL,A]
 rw[aB F];obtain⟨d,w',G,H,I,J⟩:=aAf o.type base v l hown sv m hsrc hroom hbase;unfold nC execOp;simp only[D,resolve,invoke,builtin,Sem.run_bind,Sem.run_pure,Result.andThen_ok,List.map_toArray,kI,List.map_nil,hs,hx,G];exact h d w' H I J
theorem oF {d e:World} {D F G:Addr} {H I J:Value} {B:Nat} {w0:World}
  (h:d.cell? D=some H/\d.cell? F=some I/\d.cell? G=some J/\Below B w0 d/\B<=d.heap.size) (A:Below d.heap.size d e):
  e.cell? D=some H/\e.cell? F=some I/\e.cell? G=some J/\Below B w0 e/\B<=e.heap.size:=by
 obtain⟨O,T,U,V,L⟩:=h;have k:∀{p:Addr} {v:Value},d.cell? p=some v->e.cell? p=some v:=fun{p} {v} M=>(A.cell (World.block_lt_of_cell? d p M)).trans M
 exact⟨k O,k T,k U,V.trans (A.mono L),aR L A.size⟩
theorem LZ {d e:World} {D H F I G J:Nat} {L M O:Value} {B:Nat} {w0:World}
  (h:d.cell? ⟨D,H,none⟩=some L/\d.cell? ⟨F,I,none⟩=some M/\d.cell? ⟨G,J,none⟩=some O/\Below B w0 d/\B<=d.heap.size) (A:Below B d e) (T:D<B) (U:F<B) (V:G<B):
  e.cell? ⟨D,H,none⟩=some L/\e.cell? ⟨F,I,none⟩=some M/\e.cell? ⟨G,J,none⟩=some O/\Below B w0 e/\B<=e.heap.size:=by
 obtain⟨Y,Z,h3,h6,h7⟩:=h;exact⟨(A.cell (p:=⟨D,H,none⟩) T).trans Y,(A.cell (p:=⟨F,I,none⟩) U).trans Z,(A.cell (p:=⟨G,J,none⟩) V).trans h3,h6.trans A,aR h7 A.size⟩
theorem aXd {v n:Nat} (h:1<=n):0<(bI (aT v n)).length:=by rw[cX,dV];omega
theorem aXe {l d:List Int} {k:Nat} {x:Int} (h:d[k]? =some x):gF l (d.take (k+1))=gF l (d.take k)++aT (gZ l x.toNat) (bL l x.toNat):=by
 rw[cG,h];exact aCc ..
theorem aE3 (v u:Value) (l d:List Int) (w:World) (hr:RdI w v l) (hu:RdI w u d) (hE:bM l=0) (hs:∀x∈d,0<=x/\x<(l.length:Int)) (T:d.length<=10000):
  Calls pG 66 #[v,u] w fun e w'=>e=.returned (.tuple #[fT (gF l d),.int .i64 0])/\Below w.heap.size w w':=by
 have G:=gE hE;have b5:=hid (fun i (h:i<l.length)=>(lX G.1 h));have b6:=hid (fun i (h:i<l.length)=>(RD G.1 G.2 h));have c8:=G.1.2.1;have HS:=hid hs;have a5:=hid (fun k=>wG G.1 (d.take k) (fun x H=>hs x (List.mem_of_mem_take H)));clear hs G;have a0:=Arr.new w 83 [.string ⟨#[]⟩,.int .i64 0];have c9:(w.alloc (.cells #[.string ⟨#[]⟩,.int .i64 0] 83)).heap.size=w.heap.size+1:=by simp
 have U:Below w.heap.size w (w.alloc (.cells #[.string ⟨#[]⟩,.int .i64 0] 83)):=bD (aH _ _) _;change Arr (w.alloc (.cells #[.string ⟨#[]⟩,.int .i64 0] 83)) _ _ _ at a0;go_enter func66,ntmps66;go_wp2_with fail;generalize w.alloc (.cells #[.string ⟨#[]⟩,.int .i64 0] 83)=w0 at*
 refine(aE1 _ l _ (hr.below U)).mono ?_;rintro e A ⟨uw,rfl,I,-,D⟩;obtain⟨bw,d2,rfl,V⟩:=I hE;rw[hE];have a6:=(hu.below U).below D;have a7:=a0.below D (by omega);have a8:=U.trans (D.mono (by omega));have d3:=D.size;obtain⟨a,ca,rfl,d4,b7,hA⟩:=a6.open;unfold maxLen at b7;clear hu a6 hr a0 U D I;go_wp2_with fail
 go_loopg [8,9] d.length (fun g s8 s9 wr=>∃k:Nat,k<=d.length/\g=d.length-k/\s9=.int .i64 (k:Int)/\OwI wr A.heap.size s8 (bI (gF l (d.take k)))/\Below A.heap.size A wr)
 case atStart=>exact⟨0,aO _,rfl,rfl,OwI.nil _ _,aH _ _⟩
 case round=>
  obtain⟨k,hk,hg,rfl,J,F⟩:=hrel;have HG:=hid hg;clear hg;have b8:=F.size
  by_cases b9:k<d.length
  ·have t1:decide ((k:Int)<(d.length:Int))=true:=aG (by omega);obtain⟨b1,o1,rfl,D,a9⟩:=hA (by omega);obtain⟨x,H⟩:=eG b9;have c1:=((pJ F).1 b1 (o1+k) D).trans (a9 k _ H);have c0:=HS.out x (cN H);have HT:=hid (aXe (l:=l) H);have Y:=a5.out k;rw[aQ,Nat.min_eq_left hk] at Y;obtain⟨y,rfl⟩:∃y:Nat,x=(y:Int):=⟨x.toNat,by omega⟩;rw[fL] at HT;have Z:y<l.length:=by omega
   have a1:=V.below F V.lt;have L:=a1.cell (zR _ _ y Z);have M:=a1.cell (zS _ _ y Z);obtain⟨b0,a2,_⟩:=b5.out y Z;have a3:=b6.out y Z;unfold uU at L M;obtain⟨n,T⟩:∃n,n=bL l y:=⟨_,rfl⟩;obtain⟨W,I⟩:∃W,W=gZ l y:=⟨_,rfl⟩;rw[<-T,<-I] at L M HT a3;rw[<-T] at b0 a2;have c2:W<18446744073709551616:=fB a3 (aR (nF (by decide) a2) (by decide));have u1:decide ((y:Int)<0)=false:=aE (by omega);have u2:decide ((y:Int)>=(l.length:Int))=false:=aE (by omega);have u3:decide ((l.length:Int)<=(y:Int))=false:=aE (by omega)
   have u4:decide (l.length<=y)=false:=aE (by omega);clear T I H a9 hA c0 a3;go_wp2_with fail;have d5:=aXd (v:=W) b0;have d6:(bI (aT W n)).length<=20:=by rw[cX,dV];exact a2
   have d7:(bI (gF l (d.take k))).length<=20*k:=by rw[cX];exact Y
   have c3:=oF ⟨c1,L,M,F,b8⟩ (aH wr.heap.size wr).drew;have b2:bw<A.heap.size:=V.lt;have c4:OwI wr.drew A.heap.size u8 (bI (gF l (d.take k))):=J;have d8:wr.drew.heap.size=wr.heap.size:=rfl;clear c1 L M a1 J
   go_region_held3 (fun w'=>w'.cell? ⟨b1,o1+k,none⟩=some (.int .i64 (y:Int))/\w'.cell? ⟨bw,y*2,none⟩=some (.int .i64 (n:Int))/\w'.cell? ⟨bw,y*2+1,none⟩=some (.int .u64 (W:Int))/\Below A.heap.size A w'/\A.heap.size<=w'.heap.size)
    (first
     |with_reducible assumption
     |with_reducible exact oF (by assumption) (by assumption)
     |with_reducible exact LZ (by assumption) (by assumption) D b2 b2)
    (first
     |(go_at_call 44;refine(wK W n _ c2 (by omega)).mono ?_;rintro e w2 ⟨x2,rfl,c5,b3⟩)
     |(refine TC rfl _ _ rfl A.heap.size u8 (bI (gF l (d.take k))) rfl (OwI.below c4 (by assumption) (aD _)) x2 (bI (aT W n)) rfl (OwI.src c5) ?_ ?_ ?_;(omega);(have:=b3.size;omega);intro v3 w3 p1 p2 p3))
   all_goals go_wp2_with fail
   all_goals
    have hg:=HG.out
    go_roundg (d.length-(k+1))
    case measure=>omega
    case rel=>exact⟨k+1,by omega,rfl,by go_num,by rw[HT.out,iT];exact p1,c3.2.2.2.1.trans ((b3.mono (by omega)).trans p2)⟩
  ·have t1:decide ((k:Int)<(d.length:Int))=false:=aE (by omega);have c6:k=d.length:=by omega
   subst c6;rw[jS] at J;have Y:=a5.out d.length;rw[jS] at Y;go_wp2_with fail;refine(CF _ (gF l d) _ (OwI.rd J) (by omega)).mono ?_;rintro e w6 ⟨rfl,a4⟩;have O:=(a7.below F (by omega)).below a4 (by omega);have c7:Below w.heap.size w w6:=(a8.trans (F.mono (by omega))).trans (a4.mono (by omega));have L:=O.cell (i:=0) rfl;have M:=O.cell (i:=1) rfl;have f0:=O.free 0;have f1:=O.free 1;clear a7 a4 J F a8 V;generalize b4:gF l d=m at*
   have HM:=hid b4;clear b4;go_wp2_with fail;have z0:Arr ((w6.setCell ⟨w.heap.size,0,none⟩ (.string (mkS (aI m)))).setCell ⟨w.heap.size,1,none⟩ (.int .i64 (m.length:Int))) w.heap.size 83 [.string (mkS (aI m)),.int .i64 (m.length:Int)]:=(O.set 0 _).set 1 _;refine bodyPost_ret (uS rfl _ _ w.heap.size _ _ (0,0) _ rfl z0 underlying83 rfl rQ) rfl ?_;exact⟨by rw[HM.out];rfl,(c7.setCell (p:=⟨w.heap.size,0,none⟩) (aD _) _).setCell (p:=⟨w.heap.size,1,none⟩) (aD _) _⟩
theorem TI {l:List Int} {s:List UInt8} {a i:Nat} (h:aP s.length (a:Int) (bL l i)=0):lA l s a i↔aK s (a:Int) (bL l i)=gZ l i:=by grind [iG,lA,aK,aP,bL,gZ]
theorem aYh {l:List Int} {s:List UInt8} {a i:Nat} (h:aP s.length (a:Int) (bL l i)≠0):¬lA l s a i:=by grind [aP,bL,lA]
theorem aYi (v:Value) (l:List Int) (s:ByteArray) (a:Nat) (w:World) (hr:RdI w v l) (H:bM l=0) (hs:s.size<=1000000) (ha:a<=100000000):
  Calls pG 124 #[v,.string s,.int .i64 (a:Int)] w fun e w'=>e=.returned (.tuple #[.int .i64 (dE l s.data.toList (a:Int)).1,.int .i64 (dE l s.data.toList (a:Int)).2.1,.int .i64 (dE l s.data.toList (a:Int)).2.2])/\Below w.heap.size w w':=by
 have I:=gE H;have a8:=hid (fun i (h:i<l.length)=>(lX I.1 h));have a9:=hid (fun i (h:i<l.length)=>zH (s:=s.data.toList) (a:=a) (i:=i) H h);have b0:=hid (zI (s:=s.data.toList) (a:=a) H);have a3:=hid I.1.2.2;have b6:=aXc I.1.2.2;have b7:=I.1.2.1;have hL:s.data.toList.length=s.size:=by simp
 have a4:=hid hL;clear I hL;have t0:decide ((a:Int)<0)=false:=aE (by omega);go_enter func124,ntmps124;go_wp2_with fail;refine(aE1 _ l _ hr).mono ?_;rintro e w1 ⟨uw,rfl,J,-,T⟩;obtain⟨bw,b8,rfl,a5⟩:=J H;rw[H];have a6:=hr.below T;clear hr J;go_wp2_with fail
 go_loopg [11,12,13] l.length (fun g b1 _s12 _s13 wr=>∃k:Nat,k<=l.length/\g=l.length-k/\b1=.int .i64 (k:Int)/\Hid (∀i,i<k->¬lA l s.data.toList a i)/\wr=w1)
 case atStart=>exact⟨0,aO _,rfl,rfl,hid (fun i hi=>by omega),rfl⟩
 case round=>
  obtain⟨k,hk,U,rfl,a0,rfl⟩:=hrel;have HG:=hid U;clear U
  by_cases Y:k<l.length
  ·have t1:decide ((k:Int)<(l.length:Int))=true:=aG (by omega);have d0:=a5.cell (zR _ _ k Y);have d1:=a5.cell (zS _ _ k Y);obtain⟨b2,b3,_⟩:=a8.out k Y;unfold uU at d0 d1;have d:=TI (l:=l) (s:=s.data.toList) (a:=a) (i:=k);have F:=aYh (l:=l) (s:=s.data.toList) (a:=a) (i:=k);have L:=a9.out k Y;rw[a4.out] at d F;obtain⟨n,hn⟩:∃n,n=bL l k:=⟨_,rfl⟩;obtain⟨W,J⟩:∃W,W=gZ l k:=⟨_,rfl⟩;rw[<-hn] at d F L d0 b2 b3;rw[<-J] at d1 d;clear hn J;have O:=fun W=>sV s (a:Int) n W hs (by omega) (by omega) (by omega)
   obtain⟨E,a7⟩:∃E,E=aP s.size (a:Int) n:=⟨_,rfl⟩;obtain⟨V,hV⟩:∃V,V=aK s.data.toList (a:Int) n:=⟨_,rfl⟩;rw[<-a7] at d F O;rw[<-hV] at d O;clear a7 hV
   by_cases Z:E=0
   ·subst Z;have d:=d rfl;clear F
    by_cases a1:V=W
    ·subst a1;have b4:=hid (L (d.2 rfl));have m1:aJ.wrap ((a:Int)+(n:Int))=(a:Int)+(n:Int):=by rw[aM];omega
     clear L d;go_wp2_with fail;refine(O _).mono ?_;rintro e w2 ⟨rfl,rfl⟩;go_wp2_with fail
     go_quiet (fail)
     all_goals go_wp2_with fail
     go_ret3
     exact⟨by rw[b4.out];rfl,kY T _⟩
    ·have u1:decide ((V:Int)=(W:Int))=false:=aE (by omega);have u2:((V:Int)==(W:Int))=false:=by rw[cB];omega
     have u3:(V==W)=false:=by simpa using a1
     have a2:=hid (fun q=>a1 (d.1 q));clear L d;go_wp2_with fail;refine(O _).mono ?_;rintro e w2 ⟨rfl,rfl⟩;go_wp2_with fail;have U:=HG.out
     go_roundg (l.length-(k+1))
     case measure=>omega
     case rel=>exact⟨k+1,by omega,rfl,by go_num,hid (fun i hi=>by
      rcases cF i k with h|h
      ·exact a0.out i h
      ·rw[show i=k by omega];exact a2.out),rfl⟩
   ·have u1:decide (E=0)=false:=aE Z;have u2:(E==0)=false:=by simpa using Z
    have a2:=hid (F Z);clear L d F;go_wp2_with fail;refine(O _).mono ?_;rintro e w2 ⟨rfl,rfl⟩;go_wp2_with fail;have U:=HG.out
    go_roundg (l.length-(k+1))
    case measure=>omega
    case rel=>exact⟨k+1,by omega,rfl,by go_num,hid (fun i hi=>by
      rcases cF i k with h|h
      ·exact a0.out i h
      ·rw[show i=k by omega];exact a2.out),rfl⟩
  ·have t1:decide ((k:Int)<(l.length:Int))=false:=aE (by omega);have b5:k=l.length:=by omega
   subst b5;have A:=b0.out a0.out;rw[a4.out] at A;obtain⟨M,hM⟩:∃M,M=mQ l:=⟨_,rfl⟩;obtain⟨D,hD⟩:∃D,D=8*(s.size:Int)-M:=⟨_,rfl⟩;have m1:aJ.wrap (8*(s.size:Int))=8*(s.size:Int):=by rw[aM];omega
   have m2:aJ.wrap D=D:=by rw[aM];omega
   have m3:8*(s.size:Int)-M=D:=by omega
   rw[<-hM,m3] at A;have HM:=hid hM
   by_cases G:(a:Int)>D
   ·rw[aB G] at A;have HF:=hid A;have u1:decide ((a:Int)>D)=true:=aG G;have u2:decide (D<(a:Int))=true:=aG G;clear A hM hD;go_wp2_with fail;refine(aE2 _ l _ a6 a3.out).mono ?_;rintro e w2 ⟨rfl,rfl⟩;rw[<-HM.out];go_wp2_with fail
    go_ret3
    exact⟨by rw[HF.out];rfl,T⟩
   ·rw[aA G] at A;have HF:=hid A;have u1:decide ((a:Int)>D)=false:=aE G;have u2:decide (D<(a:Int))=false:=aE G;clear A hM hD;go_wp2_with fail;refine(aE2 _ l _ a6 a3.out).mono ?_;rintro e w2 ⟨rfl,rfl⟩;rw[<-HM.out];go_wp2_with fail
    go_ret3
    exact⟨by rw[HF.out];rfl,T⟩
end
end Go.Proofs.YtfplbbphficcjaaGreatDoor
