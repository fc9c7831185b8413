/-
  Texts put together (part 14): the walks and the plain laws on which the statement stands.
-/
import Derived.OrdersIn
import Derived.Test.YtihbnmlinkbnkaaGreatDoorZ11
set_option maxRecDepth 100000
set_option maxHeartbeats 12800000
set_option linter.unusedVariables false
set_option linter.unusedSimpArgs false
open Go.Proofs.Tryz
open Go.Proofs.Tryz renaming prog->pG
open Array renaming getElem?_eq_some_iff->fE
open Go renaming Program->fO,heap_setCell_other->kF,roundIn_of_wpIn->XW,run_beginRound->XX,run_endLoop->DQ,run_endRound->XY,run_enterLoop_outer->XV,wpIn_rangeFunc->XU
open Go.Code renaming rangeFunc->XT
open Go.Fence renaming wide->cZ
open Go.RowKit.Below renaming heap_alloc->oO,refl->aH
open Go.World renaming alloc_heap_new->AZ,cell?_setCell_other->lI,putObj_heap_other->qA,putObj_heap_same->BA,size_alloc->fP
open List renaming append_assoc->bU,append_nil->dI,drop_eq_getElem_cons->pF,drop_of_length_le->sB,getD->jD,getElem?_drop->jR,getElem?_eq_getElem->aN,getElem?_eq_some_iff->eF,length_append->aL,length_drop->bA,length_map->aS,length_replicate->AT,length_singleton->fQ,length_take->aQ,mem_of_getElem?->cN,mem_of_mem_drop->yO,replicate->aX,take_append_drop->kH
open Nat renaming add_assoc->fU,le_refl->aD,lt_of_lt_of_le->fB,lt_or_ge->cF,zero_add->iP,zero_le->aO
open Option renaming some->aY
namespace Go.Proofs.YtihbnmlinkbnkaaGreatDoor
section
open Go.RowKit
theorem aOn:∀(r:List Int) (k:Nat) (l:List Int),(∀x∈r,x=0)->dM k (r++l)=dM (k+r.length) l:=by
 intro r
 induction r with
 |nil=>intro k l _;rfl
 |cons x r d=>
  intro k l h;rw[List.cons_append,dM,aB (h x (by simp)),d (k+1) l (fun y A=>h y (by simp[A])),List.length_cons]
  congr 1;omega
theorem aAi {l:List Int} (F:∀x∈l,0<=x):(gR 0 l=l.length->dM 0 l=dig (gR 0 l))/\(∀x,l[gR 0 l]? =some x->dM 0 l=dig (gR 0 l)++[x+1]++dM 0 (l.drop (gR 0 l+1))):=by
 have d:∀x∈l.take (gR 0 l),x=0:=fun x A=>by
  have:=DW 0 l x A
  grind
 have e:=aOn (l.take (gR 0 l)) 0 (l.drop (gR 0 l)) d;rw[kH,aQ,Nat.min_eq_left (BK 0 l),iP] at e
 grind [sB,eF,BL,pF,dM,gR,dig]
def aOo (l:List Int) (d:Nat) (w:World) (g:Nat) (a:Act) (wr:World):Prop:=
 ∃(rest pre:List Int) (off cap lb:Nat) (n:Int) (A F G H I J L M O U V Z a0 a1 a2 a3 a4 a5 a6 a7 a8 a9 b1 b2 b3 b4 b5 b6 b7 b8 b9 c0 c1:Value),
  a={tmps:=#[.slice (some ⟨d,off,none⟩) rest.length cap,A,F,G,.pointer (some ⟨lb,0,none⟩),.func (.func 197) #[.pointer (some ⟨lb,0,none⟩)] #[],.int .i64 n,H,I,J,L,M,O,U,V,Z,a0,a1,a2,a3,a4,a5,a6,a7,a8,a9,b1,b2,b3,b4,b5,b6,b7,b8,b9,c0,c1],defers:=[]}/\
  rest.length<=cap/\cap<=maxLen/\g=rest.length/\uJ wr lb pre/\Hid (pre++dM 0 rest=dM 0 l)/\pre.length+rest.length<=l.length/\
  w.heap.size<=lb/\Below w.heap.size w wr/\Hid (∀j x,rest[j]? =some x->w.cell? ⟨d,off+j,none⟩=some (.int .i64 x))/\Hid (∀x∈rest,0<=x/\x<=1000000)
theorem aOp (v:Value) (l:List Int) (w:World) (I:RdI w v l) (c2:0<l.length) (d3:l.length<=100000) (J:∀x∈l,0<=x/\x<=1000000):
  Calls pG 131 #[v] w fun e w'=>∃v',e=.returned (.tuple #[v',.int .i64 0])/\OwI w' w.heap.size v' (dM 0 l)/\Below w.heap.size w w':=by
 have hb:∀W,Below w.heap.size w W->Calls pG 195 #[v] W fun e w'=>e=.returned (.bool false)/\w'=W:=fun W O=>(PT v l W (I.below O)).mono fun e w' ⟨A,F⟩=>by
  rw[sK (fun x d=>aE (by have:=J x d;omega))] at A;exact⟨A,F⟩
 have hc:∀W,Below w.heap.size w W->Calls pG 141 #[v,.func (.func 196) #[] #[]] W fun e w'=>e=.returned (.bool false)/\w'=W:=fun W O=>
  (zC 196 #[] (fun x=>decide (1099511627776<x)) v l W (I.below O) (enters_of func196 (by kernel_rfl) rfl) (fun W _ x _=>aN7 x W)).mono fun e w' ⟨A,F⟩=>by
  rw[sK (fun x d=>aE (by have:=J x d;omega))] at A;exact⟨A,F⟩
 have HB:=hid hb;have HC:=hid hc;clear hb hc;obtain⟨a,ca,rfl,c3,c4,hA⟩:=I.open;obtain⟨G,o0,rfl,U,a2⟩:=hA c2;have HV:=hid J;have HA:=hid a2;clear I hA J a2;go_enter func131,ntmps131;go_wp2;refine aMb 0 (aOo l G w) rfl ?_ ?_
 ·rintro g a wr ⟨rest,pre,off,cap,lb,n,u1,u2,u3,u7,u8,u9,d4,d5,d6,d7,d8,d9,e2,e3,e4,e5,e6,e7,e8,e9,f0,f1,f2,f3,f4,f5,f6,f7,f8,f9,g0,g1,g2,rfl,c5,a3,hg,a4,HP,g3,L,M,V,Z⟩;have HG:=hid hg;have a5:RdI wr (.slice (some ⟨G,off,none⟩) rest.length cap) rest:=
   ⟨_,_,rfl,c5,a3,.inr ⟨G,off,rfl,fB U M.size,fun j hj=>by
    rw[aS] at hj;rw[M.cell (p:=⟨G,off+j,none⟩) U,V.out j _ (aN hj)];simp[jD,hj]⟩⟩
  have a6:=hid a5;have c6:=BK 0 rest;obtain⟨m,hm⟩:∃m,m=gR 0 rest:=⟨_,rfl⟩;obtain⟨z1,z2⟩:=aAi (l:=rest) (fun x d=>(Z.out x d).1);rw[<-hm] at c6 z1 z2;have HM:=hid hm;have Z1:=hid z1;have Z2:=hid z2;have g4:=(JL m).1;unfold maxLen at a3;clear hg a5 hm z1 z2;go_wp2_with fail;refine(ZR _ rest 0 _ a6.out).mono ?_;rintro e w1 ⟨rfl,A⟩;rw[<-HM.out];have a7:=a4.below A;have a8:=aW M A;clear a4 M a6 A;go_wp2_with fail;refine(aOm m _ (by omega)).mono ?_;rintro e w2 ⟨dv,rfl,a9,F⟩;have b1:=a7.below F;have b2:=aW a8 F;have b3:=a9.src;clear a7 a8 a9 F;go_wp2_with fail
  refine(JU lb dv pre (dig m) _ b1 b3 (by omega)).mono ?_;rintro e w3 ⟨rfl,b4,h3⟩;have a0:=b2.trans (h3.mono L);clear b1 b2 b3 h3
  by_cases a1:m=rest.length
  ·have e1:=hid (show pre++dig m=dM 0 l by rw[<-HP.out,Z1.out a1]);obtain⟨fv,c7,b5⟩:=b4;rw[e1.out] at b5;have c1:=c7.cell (i:=0) rfl;have d1:decide (0<rest.length-m)=false:=aE (by omega);have e0:rest.length-m=0:=by omega
   by_cases c8:cap=m
   all_goals
    go_wp2_with fail;simp only[Exit.jump]
    go_ret2
    exact⟨_,rfl,Ow.base b5 (by omega),a0⟩
  ·have c9:m<rest.length:=by omega
   obtain⟨x,d⟩:=eG c9;have e1:=hid (Z2.out x d);have g5:=Z.out x (cN d);have c1:w3.cell? ⟨G,off+m,none⟩=some (.int .i64 x):=by
    rw[a0.cell (p:=⟨G,off+m,none⟩) U];exact V.out m x d
   have d1:decide (0<rest.length-m)=true:=aG (by omega);have d2:0<rest.length-m:=by omega
   have c8:¬cap=m:=by omega
   have HE:=hid a1;clear d a1;have hl:=hid (show rest.length-m-1=(rest.drop (m+1)).length by rw[bA];omega);have b6:=hid (show(pre++dig m++[x+1])++dM 0 (rest.drop (m+1))=dM 0 l by rw[<-HP.out,e1.out];simp only[bU]);have b7:=hid (show(pre++dig m++[x+1]).length+(rest.drop (m+1)).length<=l.length by simp only[aL,bA,fQ];omega);have b8:Hid (∀x∈rest.drop (m+1),0<=x/\x<=1000000):=hid (fun y H=>Z.out y (yO H))
   by_cases g6:cap-m=1
   all_goals
    go_wp2_with fail;refine(JU lb _ (pre++dig m) [x+1] _ (b4.below ((aH _ _).alloc (aD _) _)) (aAe _ _ _) (by simp only[aL,fQ];omega)).mono ?_;rintro e w4 ⟨rfl,b9,h4⟩;have c0:=(bD a0 _).trans (h4.mono L);go_wp2_with fail
    go_step3
    rw[hl.out]
   ·refine⟨rfl,(rest.drop (m+1)).length,by rw[HG.out,bA];omega,rest.drop (m+1),_,off+m,0,lb,_,_,_,_,_,_,_,_,_,_,_,_,_,_,_,_,_,_,_,_,_,_,_,_,_,_,_,_,_,_,_,_,_,_,rfl,by rw[bA];omega,by simp[maxLen],rfl,b9,b6,b7.out,L,c0,hid (fun j y H=>?_),b8⟩;rw[sB (by omega)] at H;simp at H
   ·refine⟨rfl,(rest.drop (m+1)).length,by rw[HG.out,bA];omega,rest.drop (m+1),_,off+m+1,cap-m-1,lb,_,_,_,_,_,_,_,_,_,_,_,_,_,_,_,_,_,_,_,_,_,_,_,_,_,_,_,_,_,_,_,_,_,_,rfl,by rw[bA];omega,by unfold maxLen;omega,rfl,b9,b6,b7.out,L,c0,hid (fun j y H=>?_),b8⟩;have:=RdI.dropS V.out (m+1) j y H;rw[fU off m 1];exact this
 ·intro d0;go_wp2_with fail;refine(HB.out _ (aH _ _)).mono ?_;rintro e w1 ⟨rfl,rfl⟩;go_wp2_with fail;refine(HC.out _ (aH _ _)).mono ?_;rintro e w1 ⟨rfl,rfl⟩;go_wp2_with fail
  go_step3
  go_step
  go_step
  exact d0.out l.length _ _ ⟨l,[],o0,ca,w1.heap.size,0,_,_,_,_,_,_,_,_,_,_,_,_,_,_,_,_,_,_,_,_,_,_,_,_,_,_,_,_,_,_,_,_,_,rfl,c3,c4,rfl,⟨.slice none 0 0,Arr.new w1 _ _,OwI.nil _ _⟩,hid rfl,by simp,aD _,(aH _ _).alloc (aD _) _,HA,HV⟩
theorem aAm (l:List Int):dT l=aX (num (l.take (gR 1 l))) 0++dT (l.drop (gR 1 l)):=by
 have d:=PK (l.take (gR 1 l)) 0 1 (l.drop (gR 1 l)) (fun x A=>by have:=DW 1 l x A;omega);rw[kH] at d
 grind [dT,zx,cF,gR,aN,BL,pF,JM,sB,PL,num]
theorem aAn {x:Int} {l:List Int} (h:1<x):dT (x::l)=(x-1)::dT l:=by grind [dT,JM]
def sQ (m:List Int) (most:Int):List Int:=if((dT m).length:Int)<=most then dT m else[]
def rM (m:List Int) (most:Int):Int:=if((dT m).length:Int)<=most then 0 else 4
theorem vW {m:List Int} {most:Int} (h:¬((dT m).length:Int)<=most):sQ m most=[]/\rM m most=4:=by grind [sQ,rM,dT]
theorem BN {m:List Int} {most:Int} (h:((dT m).length:Int)<=most):sQ m most=dT m/\rM m most=0:=by grind [sQ,rM,dT]
theorem aAo {w:World} {b off cap:Nat} {l:List Int} (A:b<w.heap.size) (F:∀j x,l[j]? =some x->w.cell? ⟨b,off+j,none⟩=some (.int .i64 x)) (i n:Nat) (hi:i+n<=l.length) (G:l.length<=cap) (H:cap<=maxLen):
  RdI w (.slice (some ⟨b,off+i,none⟩) n (cap-i)) ((l.drop i).take n):=by
 have d:((l.drop i).take n).length=n:=by grind
 refine⟨some ⟨b,off+i,none⟩,cap-i,by rw[d],by rw[d];omega,by omega,.inr ⟨b,off+i,rfl,A,fun j I=>?_⟩⟩
 grind
theorem aO4 (w:World) (n:Nat):tQ (w.alloc (.cells (gW (.int .i64 0) n) 3)) (.slice (some ⟨w.heap.size,0,none⟩) n n) (aX n 0):=by
 refine .inr ⟨w.heap.size,0,n,by rw[AT],by simp,fun j x F=>?_⟩;obtain⟨d,A⟩:=eF.1 F;rw[AT] at d;rw[List.getElem_replicate] at A;subst A;rw[iP];exact(Arr.made w 3 (.int .i64 0) n).cell (by simp[d])
theorem aO5 {l:List Int} (A:∀x∈l,0<=x):∀x∈l.take (gR 1 l),x=0\/x=1:=fun x d=>by
 have F:=DW 1 l x d
 grind
theorem aO6 (v:Value) (m:List Int) (most:Int) (w:World) (hr:RdI w v m) (e6:m.length<=1000000) (hv:∀x∈m,0<=x/\x<=1000000) (e7: -9223372036854775808<=most) (e8:most<=1000000) (d3:0<m.length):
  Calls pG 230 #[v,.int .i64 most] w fun e w'=>∃v',e=.returned (.tuple #[v',.int .i64 (rM m most)])/\OwI w' w.heap.size v' (sQ m most)/\Below w.heap.size w w':=by
 have hb:Calls pG 195 #[v] w fun e w'=>e=.returned (.bool false)/\w'=w:=(PT v m w hr).mono fun e w' ⟨h1,O⟩=>by
  rw[sK (fun x d=>aE (by have:=hv x d;omega))] at h1;exact⟨h1,O⟩
 have HB:=hid hb;obtain⟨a,ca,rfl,d4,b6,hA⟩:=hr.open;obtain⟨A,o0,rfl,U,b7⟩:=hA d3;have HV:=hid hv;have HA:=hid b7;have d5:=hid b6;unfold maxLen at b6;obtain⟨M,e9,f0,f1,f2,f3⟩:∃M:Nat,(if most<0 then 0 else most)=(M:Int)/\max most 0=(M:Int)/\M<=1000000/\most<=(M:Int)/\(if 0<most then most else 0)=(M:Int):=⟨most.toNat,by split<;>omega,by omega,by omega,by omega,by split<;>omega⟩;clear hr hA hv b7 hb;go_enter func230,ntmps230;go_wp2_with fail;refine HB.out.mono ?_;rintro e w1 ⟨rfl,rfl⟩;clear HB;go_wp2_with fail
 go_loopg [0,8,9,10] m.length (fun gh s0 _s8 _s9 _s10 wq=>∃(rest pre:List Int) (off cap:Nat),s0=.slice (some ⟨A,off,none⟩) rest.length cap/\rest.length<=cap/\cap<=maxLen/\rest.length<=m.length/\gh=rest.length/\uJ wq w1.heap.size pre/\Hid (pre++dT rest=dT m)/\pre.length<=1000001/\
  Below w1.heap.size w1 wq/\Hid (∀j x,rest[j]? =some x->w1.cell? ⟨A,off+j,none⟩=some (.int .i64 x))/\Hid (∀x∈rest,0<=x/\x<=1000000))
 case atStart=>exact⟨m,[],o0,ca,rfl,d4,d5.out,aD _,rfl,⟨.slice none 0 0,Arr.new w1 _ _,OwI.nil _ _⟩,hid rfl,by simp,(aH _ _).alloc (aD _) _,HA,HV⟩
 case round=>
 obtain⟨rest,pre,off,cap,rfl,b8,a8,f4,hg,a9,HP,f5,I,a1,HR⟩:=hrel;have HG:=hid hg;clear hg
 by_cases f6:0<rest.length
 ·have b9:RdI wr (.slice (some ⟨A,off,none⟩) rest.length cap) rest:=
   ⟨_,_,rfl,b8,a8,.inr ⟨A,off,rfl,fB U I.size,fun j hj=>by
    rw[aS] at hj;rw[I.cell (p:=⟨A,off+j,none⟩) U,a1.out j _ (aN hj)];simp[jD,hj]⟩⟩
  have c0:=hid b9;have d6:=hid a8;have d7:=BK 1 rest;obtain⟨k,hk⟩:∃k,k=gR 1 rest:=⟨_,rfl⟩;have a2:=aAm rest;have b1:=aO5 (l:=rest) (fun x d=>(HR.out x d).1);rw[<-hk] at d7 a2 b1;have HK:=hid hk;obtain⟨N,hN⟩:∃N,N=num (rest.take k):=⟨_,rfl⟩;rw[<-hN] at a2;have HN:=hid hN;have HZ:=hid a2;have d8:=hid b1;unfold maxLen at a8;have c2:=hid (show(dT m).length=pre.length+N+(dT (rest.drop k)).length by
   rw[<-HP.out,aL,HZ.out,aL,AT];omega)
  clear b9 hk a2 b1 hN;go_wp2_with fail;refine(ZR _ rest 1 _ c0.out).mono ?_;rintro e w2 ⟨rfl,O⟩;rw[<-HK.out];have c3:=a9.below O;have a3:=aW I O;have d9:=hid (show RdI w2 (.slice (some ⟨A,off,none⟩) k cap) (rest.take k) by
   have:=aAo (w:=w2) (b:=A) (off:=off) (cap:=cap) (fB U a3.size) (fun j x d=>by rw[a3.cell (p:=⟨A,off+j,none⟩) U];exact a1.out j x d) 0 k (by omega) b8 d6.out
   simpa using this)
  clear a9 I c0 O;go_wp2_with fail;refine(aO2 _ (rest.take k) _ d9.out (by rw[aQ];omega) d8.out).mono ?_;rintro e w3 ⟨rfl,h3⟩;have a4:=c3.below h3;have a5:=aW a3 h3;clear c3 a3 h3;obtain⟨lv,V,J⟩:=a4;obtain⟨la,lc,rfl,e2,b2,_⟩:=J.rd.open;have c1:=V.cell (i:=0) rfl;have a4:uJ w3 w1.heap.size pre:=⟨_,V,J⟩;unfold maxLen at b2
  by_cases b3:N<=1099511627776
  ·have nv:qT (rest.take k)=(N:Int):=by unfold qT;rw[<-HN.out,aB b3]
   have Z:oB (rest.take k)=0:=by unfold oB;rw[<-HN.out,aB b3]
   rw[nv,Z];clear nv Z
   by_cases a0:(M:Int)-(pre.length:Int)<(N:Int)
   ·have t6:decide ((M:Int)-(pre.length:Int)<(N:Int))=true:=aG a0;go_wp2_with fail
    go_ret2
    have H:¬((dT m).length:Int)<=most:=by have:=c2.out;omega
    obtain⟨F,G⟩:=vW H;rw[F,G];exact⟨_,rfl,OwI.nil _ _,a5⟩
   ·have t6:decide ((M:Int)-(pre.length:Int)<(N:Int))=false:=aE a0;go_wp2_with (at_make;refine mkA jL rfl _ _ rfl N rfl rfl ?_ ?_;omega);refine(JU w1.heap.size _ pre (aX N 0) _ (a4.below ((aH _ _).alloc (aD _) _)) (aO4 _ _) (by rw[AT];omega)).mono ?_;rintro e w4 ⟨rfl,c4,h4⟩;have b4:=(bD a5 _).trans h4;have c5:(pre++aX N (0:Int)).length=pre.length+N:=by simp
    have a6:=hid c5;clear a4 V J c1 h4 a5 c5 t6
    by_cases c6:k=rest.length
    ·have a7:=hid (show(pre++aX N 0)++dT []=dT m by
      have:=HZ.out;rw[sB (by omega)] at this;rw[bU,<-this];exact HP.out)
     have F:decide (0<rest.length-k)=false:=aE (by omega);have e0:rest.length-k=0:=by omega
     by_cases e3:cap=k
     all_goals
      go_wp2_with fail;have hg:=HG.out
      go_roundg 0
      case measure=>omega
      case rel=>exact⟨[],_,_,_,rfl,aO _,by unfold maxLen;omega,aO _,rfl,c4,a7,by rw[a6.out];omega,b4,hid (fun j x d=>by simp at d),hid (fun x d=>by simp at d)⟩
    ·have c7:k<rest.length:=by omega
     obtain⟨x,d⟩:=eG c7;have f7:=HR.out x (cN d);have e4:1<x:=BL 1 rest (by rw[<-HK.out];exact d);have c1:w4.cell? ⟨A,off+k,none⟩=some (.int .i64 x):=by
      rw[b4.cell (p:=⟨A,off+k,none⟩) U];exact a1.out k x d
     have a7:=hid (show((pre++aX N 0)++[x-1])++dT (rest.drop (k+1))=dT m by
      have:=HZ.out;rw[pF c7,(eF.1 d).2,aAn e4] at this;rw[bU,bU,List.singleton_append,<-this];exact HP.out)
     have F:decide (0<rest.length-k)=true:=aG (by omega);have G:0<rest.length-k:=by omega
     have e3:¬cap=k:=by omega
     have hl:=hid (show rest.length-k-1=(rest.drop (k+1)).length by rw[bA];omega);have c8:Hid (∀x∈rest.drop (k+1),0<=x/\x<=1000000):=hid (fun y L=>HR.out y (yO L));have HE:=hid c6;clear d c6
     by_cases f8:cap-k=1
     all_goals
      go_wp2_with fail;refine(JU w1.heap.size _ (pre++aX N 0) [x-1] _ (c4.below ((aH _ _).alloc (aD _) _)) (aAe _ _ _) (by rw[a6.out,fQ];omega)).mono ?_;rintro e w5 ⟨rfl,c9,h5⟩;have d0:=(bD b4 _).trans h5;go_wp2_with fail;rw[hl.out];have hg:=HG.out
      go_roundg (rest.drop (k+1)).length
      case measure=>rw[bA];omega
     ·refine⟨rest.drop (k+1),_,off+k,0,rfl,by rw[bA];omega,by simp[maxLen],by rw[bA];omega,rfl,c9,a7,by rw[aL,a6.out,fQ];omega,d0,hid (fun j y L=>?_),c8⟩;rw[sB (by omega)] at L;simp at L
     ·refine⟨rest.drop (k+1),_,off+k+1,cap-k-1,rfl,by rw[bA];omega,by unfold maxLen;omega,by rw[bA];omega,rfl,c9,a7,by rw[aL,a6.out,fQ];omega,d0,hid (fun j y L=>?_),c8⟩;have:=RdI.dropS a1.out (k+1) j y L;rw[fU off k 1];exact this
  ·have Z:oB (rest.take k)=4:=by unfold oB;rw[<-HN.out,aA b3]
   rw[Z];clear Z;go_wp2_with fail
   go_ret2
   have H:¬((dT m).length:Int)<=most:=by have:=c2.out;omega
   obtain⟨F,G⟩:=vW H;rw[F,G];exact⟨_,rfl,OwI.nil _ _,a5⟩
 ·have e5:rest=[]:=List.eq_nil_of_length_eq_zero (by omega);subst e5;obtain⟨lv,V,J⟩:=a9;obtain⟨la,lc,rfl,e2,b2,_⟩:=J.rd.open;have c1:=V.cell (i:=0) rfl;unfold maxLen at b2;have b5:=hid (show pre=dT m by have:=HP.out;rw[show dT []=[] from rfl,dI] at this;exact this)
  by_cases a0:most<(pre.length:Int)
  ·have t6:decide (most<(pre.length:Int))=true:=aG a0;go_wp2_with fail
   go_ret2
   have H:¬((dT m).length:Int)<=most:=by rw[<-b5.out];omega
   obtain⟨F,G⟩:=vW H;rw[F,G];exact⟨_,rfl,OwI.nil _ _,I⟩
  ·have t6:decide (most<(pre.length:Int))=false:=aE a0;go_wp2_with fail
   go_ret2
   have H:((dT m).length:Int)<=most:=by rw[<-b5.out];omega
   obtain⟨F,G⟩:=BN H;rw[F,G,<-b5.out];exact⟨_,rfl,Ow.base J (Nat.le_succ _),I⟩
theorem aP7 {l:List Int} (d:∀x∈l,0<=x):dM 0 l=dig (gR 0 l)++dM 0 (l.drop (gR 0 l)):=by
 obtain⟨A,F⟩:=aAi d;rcases cF (gR 0 l) l.length with h|h
 ·have G:=aN h
  grind [pF,dM,BL,uG,dig,gR]
 grind [BK,dM,uG,dig,gR]
theorem aP8 (v:Value) (l:List Int) (w:World) (hr:RdI w v l) (b5:0<l.length) (c6:l.length<=100000) (hv:∀x∈l,0<=x/\x<=1000000):
  Calls pG 160 #[v] w fun e w'=>∃M,e=.returned (.tuple #[M,.int .i64 0])/\OwI w' w.heap.size M (dM 0 l)/\Below w.heap.size w w':=by
 have HB:=hid (aAh v l w hr (fun x d=>(hv x d).1));obtain⟨a,ca,rfl,c7,b6,hA⟩:=hr.open;obtain⟨O,U,rfl,a5,a7⟩:=hA b5;unfold maxLen at b6;have HV:=hid hv;have HA:=hid a7;clear hr hA hv a7;go_enter func160,ntmps160;go_wp2_with fail;refine HB.out.mono ?_;rintro e w1 ⟨rfl,rfl⟩;clear HB;go_wp2_with fail
 go_loopg [4] l.length (fun V s4 wr=>∃k:Nat,k<=l.length/\V=l.length-k/\s4=.int .i64 k/\w1=wr)
 case atStart=>exact⟨0,aO _,rfl,rfl,rfl⟩
 case round=>
 obtain⟨k,hk,A,rfl,rfl⟩:=hrel;have I:=hid A;clear A
 by_cases b7:k<l.length
 ·obtain⟨x,d⟩:=eG b7;have c1:=HA.out k x d;have b8:=HV.out x (cN d);have t1:decide (1099511627776<x)=false:=aE (by omega);clear d;go_wp2_with fail;have A:=I.out
  go_roundg (l.length-(k+1))
  case measure=>omega
  case rel=>exact⟨k+1,by omega,rfl,by go_num,rfl⟩
 ·clear I;go_wp2_with fail
  go_loopg [5,6,7] l.length (fun V s5 s6 _s7 wq=>∃(i:Nat) (pre:List Int),i<=l.length/\V=l.length-i/\s6=.int .i64 i/\OwI wq w1.heap.size s5 pre/\Hid (pre++dM 0 (l.drop i)=dM 0 l)/\pre.length<=i/\Below w1.heap.size w1 wq)
  case atStart=>exact⟨0,[],aO _,rfl,rfl,OwI.nil _ _,hid rfl,aO _,aH _ _⟩
  case round=>
  obtain⟨i,pre,hi,A,rfl,a3,HP,c8,G⟩:=hrel;have I:=hid A;clear A
  by_cases c9:i<l.length
  ·obtain⟨m,Z⟩:∃m,m=gR 0 (l.drop i):=⟨_,rfl⟩;have d0:m<=l.length-i:=by rw[Z];have:=BK 0 (l.drop i);rwa[bA] at this
   have hz:=hid (show ∀j,j<m->∀x,l[i+j]? =some x->x=0 from fun j hj x d=>by
    have b9:(l.drop i)[j]? =some x:=by rw[jR];exact d
    have J:=DW 0 (l.drop i) x (by rw[<-Z];exact cN (i:=j) (by rw[List.getElem?_take_of_lt hj];exact b9));have h2:=(HV.out x (cN d)).1;omega)
   have a8:=hid (show ∀x,l[i+m]? =some x->0<x from fun x d=>BL 0 (l.drop i) (by rw[<-Z,jR];exact d));have a9:=hid (show dM 0 (l.drop i)=dig m++dM 0 (l.drop (i+m)) by rw[aP7 (fun x d=>(HV.out x (yO d)).1),<-Z,List.drop_drop]);have d1:=(JL m).1;clear Z;obtain⟨wo,rfl⟩:∃wo:World,wo=wr:=⟨_,rfl⟩;have a6:=hid (show ∀j x,l[j]? =some x->wo.cell? ⟨O,U+j,none⟩=some (.int .i64 x) from fun j x d=>by rw[G.cell (p:=⟨O,U+j,none⟩) a5];exact HA.out j x d);go_wp2_with fail
   go_loopg [7] m (fun V s7 wq=>∃n:Nat,n<=m/\V=m-n/\s7=.int .i64 n/\wo=wq)
   case atStart=>exact⟨0,aO _,rfl,rfl,rfl⟩
   case round=>
   obtain⟨n,hn,A,rfl,rfl⟩:=hrel;have b1:=hid A;clear A
   by_cases b2:n<m
   ·obtain⟨x,d⟩:=eG (l:=l) (k:=i+n) (by omega);have c1:=a6.out (i+n) x d;have a4:=hz.out n b2 x d;have t1:(x==0)=true:=by rw[beq_iff_eq];exact a4
    have t2:decide (i+n<l.length)=true:=aG (by omega);clear d a4;go_wp2_with fail;have A:=b1.out
    go_roundg (m-(n+1))
    case measure=>omega
    case rel=>exact⟨n+1,by omega,rfl,by go_num,rfl⟩
   ·obtain rfl:m=n:=by omega
    clear hn b2 b1;have d2:=G.size;have c0:(i+m=l.length/\0<m)\/(i+m<l.length/\m=0)\/(i+m<l.length/\0<m):=by omega
    rcases c0 with⟨J,h2⟩|⟨J,h2⟩|⟨J,h2⟩
    ·have t2:decide (i+m<l.length)=false:=aE (by omega);have t3:((m:Int)==0)=false:=by rw[cB];omega
     have t4:l.length<=i+m:=by omega
     have H1:=hid J;clear J;go_wp2_with fail;refine(QC m _ (by omega)).mono ?_;rintro e w2 ⟨dv,rfl,a0,F⟩;have a1:=a0.src;have b3:=F.size;have a2:=a3.below F (aD _);go_wp2_with (at_builtin;refine JT rfl _ _ rfl w1.heap.size _ _ rfl a2 _ (dig m) rfl a1 (by omega) (by omega) ?_;intro M w3 L H b4);have A:=I.out
     go_roundg (l.length-(i+m))
     case measure=>omega
     case rel=>
      refine⟨i+m,pre++dig m,by omega,rfl,by go_num,L,hid ?_,by simp only[aL];omega,(aW G F).trans H⟩;rw[bU,<-a9.out];exact HP.out
    ·subst h2;obtain⟨x,d⟩:=eG (l:=l) (k:=i) (by omega);have c1:=a6.out i x d;have a4:=a8.out x d;have b8:=HV.out x (cN d);have t1:(x==0)=false:=by rw[cB];omega
     have t2:decide (i<l.length)=true:=aG (by omega);have HX:=hid d;have e2:=hid (show dM 0 (l.drop i)=[x+1]++dM 0 (l.drop (i+1)) by
      rw[pF (show i<l.length by omega),show l[i]=x from(eF.1 d).2,dM,aA (by omega),uG];simp)
     clear d;go_wp2_with fail;refine(QC 0 _ (by omega)).mono ?_;rintro e w2 ⟨dv,rfl,a0,F⟩;have a1:=a0.src;have b3:=F.size;have a2:=a3.below F (aD _);have c2:w2.cell? ⟨O,U+i,none⟩=some (.int .i64 x):=by
      rw[(aW G F).cell (p:=⟨O,U+i,none⟩) a5];exact HA.out i x HX.out
     go_wp2_with (first
      |(at_builtin;refine JT rfl _ _ rfl w1.heap.size _ _ rfl a2 _ (dig 0) rfl a1 (by simp only[uG,List.length_nil];omega) (by omega) ?_;intro M w3 L H b4;(rw[uG,dI] at L);(have c3:=(H.cell (p:=⟨O,U+i,none⟩) a5).trans c2);(have d3:=H.size))
      |(at_builtin;refine gK rfl _ _ rfl w1.heap.size _ _ rfl (OwI.alloc L _) w3.heap.size (x+1) rfl ?_ ?_ ?_ ?_;(exact bX _ _ _);omega;(simp;omega);intro v4 w4 c4 c5 d4))
     have A:=I.out
     go_roundg (l.length-(i+1))
     case measure=>omega
     case rel=>
      refine⟨i+1,pre++[x+1],by omega,rfl,by go_num,c4,hid ?_,by simp only[aL,fQ];omega,(((aW G F).trans H).alloc (by omega) _).trans c5⟩;rw[bU,<-e2.out];exact HP.out
    ·have t2:decide (i+m<l.length)=true:=aG (by omega);obtain⟨x,d⟩:=eG J;have c1:=a6.out (i+m) x d;have a4:=a8.out x d;have t1:(x==0)=false:=by rw[cB];omega
     have t3:((m:Int)==0)=false:=by rw[cB];omega
     clear d;go_wp2_with fail;refine(QC m _ (by omega)).mono ?_;rintro e w2 ⟨dv,rfl,a0,F⟩;have a1:=a0.src;have b3:=F.size;have a2:=a3.below F (aD _);go_wp2_with (at_builtin;refine JT rfl _ _ rfl w1.heap.size _ _ rfl a2 _ (dig m) rfl a1 (by omega) (by omega) ?_;intro M w3 L H b4);have A:=I.out
     go_roundg (l.length-(i+m))
     case measure=>omega
     case rel=>
      refine⟨i+m,pre++dig m,by omega,rfl,by go_num,L,hid ?_,by simp only[aL];omega,(aW G F).trans H⟩;rw[bU,<-a9.out];exact HP.out
  ·go_wp2_with fail
   go_ret2
   refine⟨_,rfl,?_,G⟩;have:=HP.out;rw[sB (by omega)] at this;simp only[dM,uG,dI] at this;rw[<-this];exact a3
end
section
open Go.RowKit Go Go.Shelf
theorem TI {l:List Int} {s:List UInt8} {a i:Nat} (h:aP s.length (a:Int) (bL l i)=0):lA l s a i↔aK s (a:Int) (bL l i)=gZ l i:=by grind [iG,lA,aK,aP,bL,gZ]
def TU {α:Type} (n:Nat) (P:fO) (g:Nat) (lb:Array Value) (encs:α->Array Value) (Bs:Nat) (Kp:World->World->Prop) (G:List α) (w:World):Prop:=
 ∀(l:Nat) (J:List α->World->Prop) (W:World),Below w.heap.size w W->AbidesFrom W.heap.size J->(∀s A v,J s A->J s (A.setCell ⟨Bs,0,none⟩ v))->
  (∀pre x F,J pre F->(∃r,pre++x::r=G)->YieldAt cZ (n-1) P l (encs x) F fun e d=>e=.returned (.bool true)/\J (pre++[x]) d/\Kp F d)->
  J [] W->
  CallsIn cZ n P g (#[.func (.yield l) #[] #[]]++lb) W fun e d=>(∃v,e=.returned v)/\J G d
theorem TV {α:Type} {n:Nat} {P:fO} {g:Operand} {O:Array Tmp} {assign body:Code} {Q:Exit->Act->World->Prop} {a:Act} {w:World}
  (h1:1<=n) {gf:Nat} {lb:Array Value} (hg:a.eval g=.func (.func gf) #[] lb) (eg:∀args w,(callFunc gf args).run P w=.ok (.enter gf args) w)
  {encs:α->Array Value} {Kp:World->World->Prop} {Z:List α} {Bs:Nat} {w0:World} (a7:TU (n-1) P gf lb encs Bs Kp Z w0)
  (a1:∀{A B C:World},Kp A B->Kp B C->Kp A C) (a2:∀(W:World) (l:Nat) (o o':Obj),w.heap.size<=l->W.heap[l]? =some o->o.isCells=false->o.isWalk=false->Kp W (W.putObj l o')) (a4:Below w0.heap.size w0 w) (a8:∀x,(encs x).size=O.size)
  (c3:Bs<w.heap.size)
  (I:List α->World->Prop) (H:OwnFrom w.heap.size I) (a9:∀s A v,I s A->I s (A.setCell ⟨Bs,0,none⟩ v)) (h0:I [] w) (a₁:α->Act)
  (b0:∀(l:Nat) (x:α) (W:World) (K:Act->World->Prop),K (a₁ x) W->
   assign.wpIn (cZ.inRound l) (n-1-1) P (Exit.then K (fun _ _ _=>False)) {tmps:=(O.zip (encs x)).foldl (fun t (p,v)=>t.setIfInBounds p v) a.tmps,defers:=[]} W)
  (hbody:∀(l:Nat) (pre:List α) (x:α) (W:World),I pre W->(∃r,pre++x::r=Z)->body.wpIn (cZ.inRound l) (n-1-1) P (ownPostG w.heap.size Kp I (fun _ _ _=>False) (pre++[x]) W) (a₁ x) W)
  (hdone:∀(D:Nat) (W:World),w.heap.size<=D->I Z W->W.heap[D]? =some (.deferred (some []))->Q .normal {a with defers:={target:=.collected D,args:=#[]}::a.defers} W):
  (XT g O assign body).wpIn cZ n P Q a w:=by
 refine XU ?_;intro fn b1;rw[show cZ.round=none from rfl]
 let mk:LoopState->Loop:=fun st=>{state:=st,pending:=none,fn,tmps:=a.tmps,params:=O,assign,body,defers:=w.heap.size}
 let d:=(w.alloc (.deferred (some []))).alloc (.loop (mk .ready))
 have b2:d.heap[w.heap.size+1]? =some (.loop (mk .ready)):=by
  have:=AZ (w.alloc (.deferred (some []))) (.loop (mk .ready));rwa[fP] at this
 have b3:d.heap[w.heap.size]? =some (.deferred (some [])):=(oO _ _ _ (by simp)).trans (AZ w _);have b4:I [] d:=H.alloc _ (H.alloc _ h0);have c4:d.heap.size=w.heap.size+2:=by simp[d]
 have b5:Below w0.heap.size w0 d:=a4.trans ((((aH _ w).alloc (aD _) _).alloc (by simp) _).mono a4.size);have a5:∀(A:World) (v:Value) (k:Nat),w.heap.size<=k->(A.setCell ⟨Bs,0,none⟩ v).heap[k]? =A.heap[k]? :=fun A v k U=>
  kF A ⟨Bs,0,none⟩ k v (fun e=>by have:k=Bs:=e;omega)
 refine⟨w.heap.size+1,[{target:=.collected w.heap.size,args:=#[]}],d,{target:=.fn (.func gf) lb,args:=#[.func (.yield (w.heap.size+1)) #[] #[]]},d,gf,
  #[.func (.yield (w.heap.size+1)) #[] #[]]++lb,d,XV _ _ _ _ _,?_,?_,?_,fun _=>h1,?_⟩
 ·simp only[resolve,hg];simp[go_sem]
 ·exact fun _ _=>trivial
 ·simp[invoke,go_sem,eg]
 ·let J:List α->World->Prop:=fun pre W=>I pre W/\W.heap[w.heap.size+1]? =some (.loop (mk .ready))/\W.heap[w.heap.size]? =some (.deferred (some []))
  have hJ:AbidesFrom d.heap.size J:=fun s A B row F a0 M=>
   ⟨H s A B row F.1 a0 (fun r e=>by obtain⟨hB,o,ho,hw⟩:=M r e;exact⟨by omega,o,ho,Obj.not_cells_of_walk hw⟩),
    (grownBy_keeps a0 (fun r e=>(M r e).2) F.2.1 rfl).trans F.2.1,(grownBy_keeps a0 (fun r e=>(M r e).2) F.2.2 rfl).trans F.2.2⟩
  have b6:∀s A v,J s A->J s (A.setCell ⟨Bs,0,none⟩ v):=fun s A v F=>
   ⟨a9 s A v F.1,by rw[a5 A v _ (by omega)];exact F.2.1,by rw[a5 A v _ (aD _)];exact F.2.2⟩
  refine(a7 (w.heap.size+1) J d b5 hJ b6 ?_ ⟨b4,b2,b3⟩).mono ?_
  ·rintro pre x W ⟨hi,G,U⟩ hx;have b7:w.heap.size+1<W.heap.size:=(fE.1 G).1;have hy:=run_yield (P:=P) (args:=encs x) G (a8 x);refine⟨fn,_,assign,body,hy,XW b1 (b0 _ x W _ ⟨_,XX G rfl,?_⟩)⟩;have b8:(W.putObj (w.heap.size+1) (.loop {mk .ready with state:=.busy})).heap[w.heap.size+1]? =some (.loop {mk .ready with state:=.busy}):=BA b7;have b9:(W.putObj (w.heap.size+1) (.loop {mk .ready with state:=.busy})).heap[w.heap.size]? =some (.deferred (some [])):=(qA (by omega)).trans U
   have c0:Kp W (W.putObj (w.heap.size+1) (.loop {mk .ready with state:=.busy})):=a2 _ _ _ _ (by omega) G rfl rfl;refine wpIn_mono (hbody _ pre x _ (H.putObj _ hi (by omega) G rfl) hx) ?_;rintro e a3 W3 L
   cases e with
   |normal=>
    obtain⟨a6,c1,c2⟩:=L;have V:=a6.same _ _ (by omega) b8 rfl;have M:=XY (P:=P) none V;refine⟨_,_,M,⟨rfl,⟨H.putObj _ c2 (by omega) V rfl,BA (fE.1 V).1,(qA (by omega)).trans (a6.same _ _ (aD _) b9 rfl)⟩,?_⟩⟩;exact a1 (a1 c0 c1) (a2 _ _ _ _ (by omega) V rfl rfl)
   |ret=>exact L.2.elim
   |exit id=>exact L.2.elim
   |goto t=>exact L.2.elim
   |panic ch=>exact L.elim
   |outgrown=>exact L.elim
  ·rintro e W2 ⟨⟨v,rfl⟩,hi,G,U⟩;exact⟨none,_,DQ (P:=P) G (by simp[mk]),hdone _ _ (aD _) (H.putObj _ hi (by omega) G rfl) ((qA (by omega)).trans U)⟩
def bW (A:Option Nat) (W d:World):Prop:=W.heap.size<=d.heap.size/\∀k o,W.heap[k]? =some o->o.isCells=true->some k≠A->d.heap[k]? =some o
theorem bW.refl (d:Option Nat) (W:World):bW d W W:=by grind [bW]
theorem bW.trans {d:Option Nat} {A B C:World} (h:bW d A B) (k:bW d B C):bW d A C:=by grind [bW]
theorem bW.of_below {F:Option Nat} {A B:World} (h:Below A.heap.size A B):bW F A B:=⟨h.size,fun k _ d _ _=>(h.block k (fE.1 d).1).trans d⟩
theorem bW.some {A B:World} (h:bW none A B) (d:Option Nat):bW d A B:=by grind [bW]
theorem bW.putObj {d:Option Nat} (W:World) {l:Nat} {o:Obj} (A:Obj) (h:W.heap[l]? =aY o) (G:o.isCells=false):bW d W (W.putObj l A):=
 ⟨by simp,fun k q F H _=>by
  have:k≠l:=fun e=>by grind
  rw[qA this];exact F⟩
theorem bW.grownBy {A B:World} {d:Option Nat} (h:A.grownBy B d):bW d A B:=⟨h.size,fun k _ F _ G=>(h.block k (fE.1 F).1 G).trans F⟩
theorem bW.arr {d:Option Nat} {A B:World} (h:bW d A B) {b:Nat} {e:TypeId} {l:List Value} (F:Arr A b e l) (G:aY b≠d):Arr B b e l:=h.2 b _ F rfl G
theorem bW.cell {G:Option Nat} {A B:World} (h:bW G A B) {p:Addr} {v:Value} (d:A.cell? p=aY v) (H:aY p.block≠G):B.cell? p=aY v:=by
 unfold World.cell? at d ⊢
 cases F:A.heap[p.block]? with
 |none=>rw[F] at d;simp at d
 |some o=>
  have I:o.isCells=true:=by
   rw[F] at d
   cases o<;>simp_all [Obj.isCells]
  rw[h.2 _ _ F I H];rw[F] at d;exact d
theorem bW.ow {A B:World} {d:Option Nat} (h:bW d A B) {F e:Nat} {v:Value} {G:List Value} (H:Ow A F e v G) (J:∀k,v.ownBlock=aY k->aY k≠d):Ow B F e v G:=by
 refine⟨H.1,?_⟩;rcases H.2 with L|⟨g,cap,M,I,O,U,rest⟩
 ·exact .inl L
 ·exact .inr ⟨g,cap,M,I,O,h.2 g _ U rfl (J g (by rw[I];rfl)),rest⟩
theorem TW (W:World) (g i:Nat) (v:Value):W.grownBy (W.setCell ⟨g,i,none⟩ v) (some g):=
 ⟨rfl,rfl,rfl,by simp,fun k _ d=>kF W ⟨g,i,none⟩ k v (fun e=>d (by rw[e]))⟩
def aG6 {α:Type} (n:Nat) (P:fO) (g:Nat) (lb:Array Value) (encs:α->Array Value) (Kp:World->World->Prop) (Pre:Nat->List α->α->World->Prop) (I:List α->Prop) (w:World):Prop:=
 ∀(l:Nat) (J G:List α->World->Prop) (W:World),Below w.heap.size w W->(∀s A B,J s A->Below W.heap.size A B->J s B)->(∀s A B,G s A->Below W.heap.size A B->G s B)->
  (∀pre x F,J pre F->W.heap.size<=F.heap.size->Pre W.heap.size pre x F->
   YieldAt cZ (n-1) P l (encs x) F fun e d=>(e=.returned (.bool true)/\J (pre++[x]) d/\Kp F d)\/(e=.returned (.bool false)/\G (pre++[x]) d))->
  J [] W->
  CallsIn cZ n P g (#[.func (.yield l) #[] #[]]++lb) W fun e d=>(∃v,e=.returned v)/\((∃H,I H/\J H d)\/∃pre,G pre d)
theorem aG7 {α:Type} {n:Nat} {P:fO} {g:Operand} {ps:Array Tmp} {assign body:Code} {Q:Exit->Act->World->Prop} {a:Act} {w:World}
  (h1:1<=n) {gf:Nat} {lb:Array Value} (hg:a.eval g=.func (.func gf) #[] lb) (eg:∀args w,(callFunc gf args).run P w=.ok (.enter gf args) w)
  {encs:α->Array Value} {Kp:World->World->Prop} {Pre:Nat->List α->α->World->Prop} {b4:List α->Prop} {w0:World} (b9:aG6 (n-1) P gf lb encs Kp Pre b4 w0) (b5:Below w0.heap.size w0 w) (c0:∀x,(encs x).size=ps.size)
  (b1:∀{A B C:World},Kp A B->Kp B C->Kp A C) (b2:∀A B,bW none A B->Kp A B)
  (b6:∀B pre x A A',Pre B pre x A->bW none A A'->Pre B pre x A')
  (I:List α->World->Prop) (Ix:Code->List α->World->Prop) (hI:∀s A B,I s A->Below w.heap.size A B->I s B) (a7:∀c s A B,Ix c s A->Below w.heap.size A B->Ix c s B) (h0:I [] w)
  (Ax:α->Act->World->Prop) (c1:∀x M A A',Ax x M A->bW none A A'->Ax x M A')
  (c2:∀(l B:Nat) (pre:List α) (x:α) (W:World) (K:Act->World->Prop),I pre W->w.heap.size<=B->B<=W.heap.size->Pre B pre x W->(∀M W',Below W.heap.size W W'->Ax x M W'->K M W')->
   assign.wpIn (cZ.inRound l) (n-1-1) P (Exit.then K (fun _ _ _=>False)) {tmps:=(ps.zip (encs x)).foldl (fun t (p,v)=>t.setIfInBounds p v) a.tmps,defers:=[]} W)
  (hbody:∀(l B:Nat) (pre:List α) (x:α) (M:Act) (W:World),I pre W->w.heap.size<=B->B<=W.heap.size->Pre B pre x W->Ax x M W->body.wpIn (cZ.inRound l) (n-1-1) P (ownPostG w.heap.size Kp I Ix (pre++[x]) W) M W)
  (hdone:∀(D:Nat) (xs:List α) (W:World),w.heap.size<=D->b4 xs->I xs W->W.heap[D]? =some (.deferred (some []))->Q .normal {a with defers:={target:=.collected D,args:=#[]}::a.defers} W)
  (hstop:∀(D:Nat) (c:Code) (pre:List α) (W:World),w.heap.size<=D->Ix c pre W->W.heap[D]? =some (.deferred (some []))->c.wpIn cZ n P Q {a with defers:={target:=.collected D,args:=#[]}::a.defers} W):
  (XT g ps assign body).wpIn cZ n P Q a w:=by
 refine XU ?_;intro fn c3;rw[show cZ.round=none from rfl];obtain⟨d,O⟩:∃d:LoopState->Option Code->Loop,d=fun st pe=>{state:=st,pending:=pe,fn,tmps:=a.tmps,params:=ps,assign,body,defers:=w.heap.size}:=⟨_,rfl⟩
 obtain⟨F,a8⟩:∃F,(w.alloc (.deferred (some []))).alloc (.loop (d .ready none))=F:=⟨_,rfl⟩;have c4:F.heap[w.heap.size+1]? =some (.loop (d .ready none)):=by
  rw[<-a8];have:=AZ (w.alloc (.deferred (some []))) (.loop (d .ready none));rwa[fP] at this
 have c5:F.heap[w.heap.size]? =some (.deferred (some [])):=by
  rw[<-a8];exact(oO _ _ _ (by simp)).trans (AZ w _)
 have b7:Below w.heap.size w F:=by rw[<-a8];exact((aH _ w).alloc (aD _) _).alloc (by simp) _
 have c6:I [] F:=hI _ _ _ h0 b7;have d8:F.heap.size=w.heap.size+2:=by rw[<-a8];simp
 have c7:Below w0.heap.size w0 F:=b5.trans (b7.mono b5.size);have a0:∀(A:World) (l:Nat) (o o':Obj),w.heap.size<=l->A.heap[l]? =some o->o.isCells=false->o.isWalk=false->Below w.heap.size A (A.putObj l o'):=fun A l o o' G h k1 k2=>belowK_b (w:=w) (aD _) A l o o' G h k1 k2
 refine⟨w.heap.size+1,[{target:=.collected w.heap.size,args:=#[]}],F,{target:=.fn (.func gf) lb,args:=#[.func (.yield (w.heap.size+1)) #[] #[]]},F,gf,
  #[.func (.yield (w.heap.size+1)) #[] #[]]++lb,F,?_,?_,?_,?_,fun _=>h1,?_⟩
 ·rw[<-a8,O];exact XV _ _ _ _ _
 ·simp only[resolve,hg];simp[go_sem]
 ·exact fun _ _=>trivial
 ·simp[invoke,go_sem,eg]
 ·have a9:∀{A B:World} {k:Nat} {o:Obj},Below F.heap.size A B->k<F.heap.size->A.heap[k]? =some o->B.heap[k]? =some o:=fun h V ho=>(h.block _ V).trans ho
  refine(b9 (w.heap.size+1)
   (fun pre W=>I pre W/\W.heap[w.heap.size+1]? =some (.loop (d .ready none))/\W.heap[w.heap.size]? =some (.deferred (some [])))
   (fun pre W=>∃c,Ix c pre W/\W.heap[w.heap.size+1]? =some (.loop (d .done (some c)))/\W.heap[w.heap.size]? =some (.deferred (some [])))
   F c7
   (fun s A B hs a1=>⟨hI s A B hs.1 (a1.mono (by omega)),a9 a1 (by omega) hs.2.1,a9 a1 (by omega) hs.2.2⟩)
   (fun s A B hs a1=>by
    obtain⟨c,hc,G,V⟩:=hs;exact⟨c,a7 c s A B hc (a1.mono (by omega)),a9 a1 (by omega) G,a9 a1 (by omega) V⟩)
   ?_ ⟨c6,c4,c5⟩).mono ?_
  ·rintro pre x W ⟨hi,G,V⟩ c8 b8;have c9:w.heap.size+1<W.heap.size:=(fE.1 G).1;have hy:=run_yield (P:=P) (args:=encs x) G (by rw[O];exact c0 x);rw[O] at hy;refine⟨fn,_,assign,body,hy,XW c3 (c2 _ _ pre x W _ hi (by omega) c8 b8 ?_)⟩;clear hy;intro M Z a6 d0;have b0:Z.heap[w.heap.size+1]? =some (.loop (d .ready none)):=(a6.block _ c9).trans G;have d1:Z.heap[w.heap.size]? =some (.deferred (some [])):=(a6.block _ (by omega)).trans V;have d2:w.heap.size+1<Z.heap.size:=(fE.1 b0).1;have d3:I pre Z:=hI _ _ _ hi (a6.mono (by omega))
   have d4:=b6 _ _ _ _ _ b8 (bW.of_below a6);refine⟨_,XX b0 (by rw[O]),?_⟩;have d5:(Z.putObj (w.heap.size+1) (.loop {d .ready none with state:=.busy})).heap[w.heap.size+1]? =some (.loop {d .ready none with state:=.busy}):=BA d2;have d6:(Z.putObj (w.heap.size+1) (.loop {d .ready none with state:=.busy})).heap[w.heap.size]? =some (.deferred (some [])):=(qA (by omega)).trans d1;have b3:∀bo,bW bo Z (Z.putObj (w.heap.size+1) (.loop {d .ready none with state:=.busy})):=fun bo=>bW.putObj _ _ b0 rfl
   refine wpIn_mono (hbody _ _ pre x M _ (hI _ _ _ d3 (a0 _ _ _ _ (by omega) b0 rfl rfl)) (by omega) (by have:=a6.size;simp;omega) (b6 _ _ _ _ _ d4 (b3 none)) (c1 _ _ _ _ d0 (b3 none))) ?_;have fin:∀(J:Option Code) (L:World),KeepsFrom w.heap.size (Z.putObj (w.heap.size+1) (.loop {d .ready none with state:=.busy})) L->
     (Instr.endRound (w.heap.size+1) J).run P L=.ok (.bool J.isNone) (L.putObj (w.heap.size+1) (.loop (d (if J.isNone then .ready else .done) J)))/\
     L.heap[w.heap.size+1]? =some (.loop {d .ready none with state:=.busy})/\
     (L.putObj (w.heap.size+1) (.loop (d (if J.isNone then .ready else .done) J))).heap[w.heap.size+1]? =some (.loop (d (if J.isNone then .ready else .done) J))/\
     (L.putObj (w.heap.size+1) (.loop (d (if J.isNone then .ready else .done) J))).heap[w.heap.size]? =some (.deferred (some [])):=fun J L U=>by
    have H:=U.same _ _ (by omega) d5 rfl;have:=XY (P:=P) J H;rw[O] at this ⊢;exact⟨this,by rw[O] at H;exact H,BA (fE.1 H).1,(qA (by omega)).trans (U.same _ _ (aD _) d6 rfl)⟩
   rintro e a3 L hp
   cases e with
   |normal=>
    obtain⟨U,d7,a2⟩:=hp;obtain⟨hr,H,a4,a5⟩:=fin none L U;exact⟨_,_,hr,.inl ⟨rfl,⟨hI _ _ _ a2 (a0 _ _ _ _ (by omega) H rfl rfl),a4,a5⟩,b1 (b2 _ _ (bW.of_below a6)) (b1 (b2 _ _ (b3 none)) (b1 d7 (b2 _ _ (bW.putObj _ _ H rfl))))⟩⟩
   |ret=>
    obtain⟨U,a2⟩:=hp;obtain⟨hr,H,a4,a5⟩:=fin (some .ret) L U;exact⟨_,_,hr,.inr ⟨rfl,.ret,a7 _ _ _ _ a2 (a0 _ _ _ _ (by omega) H rfl rfl),a4,a5⟩⟩
   |exit id=>
    obtain⟨U,a2⟩:=hp;obtain⟨hr,H,a4,a5⟩:=fin (some (.exit id)) L U;exact⟨_,_,hr,.inr ⟨rfl,.exit id,a7 _ _ _ _ a2 (a0 _ _ _ _ (by omega) H rfl rfl),a4,a5⟩⟩
   |goto t=>
    obtain⟨U,a2⟩:=hp;obtain⟨hr,H,a4,a5⟩:=fin (some (.goto t)) L U;exact⟨_,_,hr,.inr ⟨rfl,.goto t,a7 _ _ _ _ a2 (a0 _ _ _ _ (by omega) H rfl rfl),a4,a5⟩⟩
   |panic ch=>exact hp.elim
   |outgrown=>exact hp.elim
  ·rintro e W2 ⟨⟨v,rfl⟩,(⟨xs,hS,hi,G,V⟩|⟨pre,c,hi,G,V⟩)⟩
   ·exact⟨none,_,by have:=DQ (P:=P) G (by rw[O];simp);rw[O] at this;exact this,hdone _ xs _ (aD _) hS (hI _ _ _ hi (a0 _ _ _ _ (by omega) G rfl rfl)) ((qA (by omega)).trans V)⟩
   ·exact⟨some c,_,by have:=DQ (P:=P) G (by rw[O];simp);rw[O] at this;exact this,hstop _ c pre _ (aD _) (a7 _ _ _ _ hi (a0 _ _ _ _ (by omega) G rfl rfl)) ((qA (by omega)).trans V)⟩
theorem aZ4 {l0 n:Nat} {P:fO} {row:String} {args:Array Value} {w:World} {R:Value->World->Prop} (h:Rows P row args w R):RowsIn (cZ.inRound l0) n P row args w R:=fun c d _=>
 let⟨v,w',r,s⟩:=h c d;⟨v,w',r,stepsIn_wide.2 s⟩
theorem aZ5 {l0 n:Nat} (d:1<=n) {P:fO} {o:Oper} (A:∀c,o.op≠.defer c) {a:Act} {w:World} {K:Act->World->Prop} {Q:Exit->Act->World->Prop} (h:o.wp P a w K Q):o.wpIn (cZ.inRound l0) n P a w K Q:=by
 refine⟨fun _ _=>trivial,?_⟩;rw[Oper.semAt_plain (cZ.inRound l0) _ _ A];unfold Oper.wp at h
 revert h
 generalize (execOp a.eval o).run P w=r;intro h
 cases r with
 |ok x w'=>
  cases x<;>first|exact h|exact⟨fun _=>d,callsIn_wide.2 h⟩|exact⟨fun _=>d,aZ4 h⟩|exact h.elim
 |halt F w'=>
  cases F<;>first|exact h|exact h.elim
theorem aG8 {l0 n:Nat} (J:1<=n) {P:fO} {md:Region.Mode} {A:Array Oper} {Q:Exit->Act->World->Prop} (L:¬LetsOut Q) (M:∀(i:Nat) (o:Oper),A[i]? =some o->∀c,o.op≠.defer c):
  ∀(F:Nat) (G:Array Bool) (a:Act) (w:World),wpAny P md A Q F G a w->wpAnyIn (cZ.inRound l0) n P md A Q F G a w
 |0,_,_,_,h=>h
 |F+1,G,a,w,h=>⟨h.1,fun i hi=>by
  have d:=h.2 i hi;have H:=aG8 (l0:=l0) (P:=P) (md:=md) (Q:=Q) J L M F (G.setIfInBounds i true);unfold wpOp at d;unfold wpOpIn
  cases e:A[i]? with
  |none=>rw[e] at d;exact H _ _ d
  |some o=>
   rw[e] at d;dsimp only at d ⊢;split
   ·next I=>
    rw[aB I] at d;refine aZ5 J (M i o e) ?_;exact Oper.wp_mono (fun O w'=>H O w') (d.resolve_right (fun x=>L x.2))
   ·next I=>
    rw[aA I] at d;exact⟨fun _ _=>trivial,H _ _ d⟩⟩
def TX (o:Oper):Bool:=match o.op with|.defer _=>false|_=>true
theorem aZ6 {d:Array Oper} (h:d.toList.all TX=true):∀(i:Nat) (o:Oper),d[i]? =some o->∀c,o.op≠.defer c:=by grind [TX]
theorem aG9 {l0 n:Nat} (A:1<=n) {P:fO} {F:Nat} {d:Array Oper} {Q:Exit->Act->World->Prop} {a:Act} {w:World} (S:World->Prop) (G:P.follows .mixedOrders=true) (H:¬LetsOut Q) (I:d.toList.all TX=true)
  (h:wpAnyH P .any d Q S d.size (Array.replicate d.size false) a w.drew):(Code.region F d true).wpIn (cZ.inRound l0) n P Q a w:=
 wpIn_region_any G (aG8 A H (aZ6 I) _ _ _ _ (wpAny_of_held _ _ _ _ h))
theorem nA {b c o p:Nat} (h:b≠c):(⟨b,o,none⟩:Addr)≠⟨c,p,none⟩:=by simp
theorem FQ {w:World} {d A F G q:Addr} {H I J L:Value} (h:w.cell? d=some H/\w.cell? A=some I/\w.cell? F=some J/\w.cell? G=some L) (M:q≠d) (O:q≠A) (U:q≠F) (V:q≠G) (v:Value):
  (w.setCell q v).cell? d=some H/\(w.setCell q v).cell? A=some I/\(w.setCell q v).cell? F=some J/\(w.setCell q v).cell? G=some L:=by
 rw[lI _ _ _ _ M,lI _ _ _ _ O,lI _ _ _ _ U,lI _ _ _ _ V];exact h
end
end Go.Proofs.YtihbnmlinkbnkaaGreatDoor
