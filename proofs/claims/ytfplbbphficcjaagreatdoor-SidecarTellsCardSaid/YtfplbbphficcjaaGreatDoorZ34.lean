/-
  Texts put together (part 34): the walks and the plain laws on which the statement stands.
-/
import Derived.Deep.Upon
import Derived.Laws.OwnMore
import Derived.Test.YtfplbbphficcjaaGreatDoorZ33
set_option maxRecDepth 100000
set_option maxHeartbeats 12800000
set_option linter.unusedVariables false
set_option linter.unusedSimpArgs false
open Go.Proofs.Tryz
open Go.Proofs.Tryz renaming prog->pG
open Array renaming toList_append->BD
open ByteArray renaming data_append->BC,size_append->rG
open Go.Addr renaming add->gP
open Go.Builtin renaming append_->sA
open Go.IntKind renaming i64->aJ,u64->eZ,u8->oQ,wrap_i64->aM,wrap_u64->fC,wrap_u8->sG
open Go.RowKit.Below renaming refl->aH
open Int renaming emod_eq_of_lt->PG,tmod_eq_emod_of_nonneg->mL,toNat_natCast->fL
open List renaming append_assoc->bU,append_nil->dI,getElem?_eq_getElem->aN,length_append->aL,length_map->aS,length_singleton->fQ,length_take->aQ,map_append->dY,map_cons->kI,map_nil->vJ,mem_cons->jQ,mem_cons_of_mem->iQ,mem_cons_self->jK,mem_singleton->cP,take_add_one->cG,take_of_length_le->cD,take_zero->wX
open Nat renaming le_refl->aD,zero_add->iP,zero_le->aO
open Option.some renaming inj->cC
open UInt8 renaming ofNat->eA,toNat_ofNat'->nD
namespace Go.Proofs.YtfplbbphficcjaaGreatDoor
section
open Go.RowKit Go Go.Shelf
theorem bDt (x b:BitVec 32) (w:World):
  Calls pG 67 #[.int .u32 (x.toNat:Int),.int .u32 (b.toNat:Int)] w fun e w'=>e=.returned (.int .u32 ((zM x b).toNat:Int))/\w'=w:=by
 obtain⟨X,d⟩:∃X,X=x.toNat:=⟨_,rfl⟩;have a0:X<4294967296:=by rw[d];exact x.isLt
 obtain⟨Y,A⟩:∃Y,Y=(x<<<1).toNat:=⟨_,rfl⟩;have M:Y=X*2%4294967296:=by
  rw[A,BitVec.toNat_shiftLeft,Nat.shiftLeft_eq,<-d]
 obtain⟨q,D⟩:∃q,q=x<<<1|||x>>>31:=⟨_,rfl⟩;have O:(x>>>31).toNat=X/2147483648:=by rw[BitVec.toNat_ushiftRight,Nat.shiftRight_eq_div_pow,<-d]
 have F:q.toNat=Y+X/2147483648:=by
  rw[D,BitVec.toNat_or,<-A,O];have T:X/2147483648<2^1:=by omega
  have:=Nat.two_pow_add_eq_or_of_lt T (Y/2);rw[show 2^1*(Y/2)=Y by omega] at this;exact this.symm
 have U:=CG q b;obtain⟨r,G⟩:∃r,r=q^^^b:=⟨_,rfl⟩;have H:=hid (show((r.toNat:Nat):Int)=((zM x b).toNat:Int) by rw[G,D];rfl);obtain⟨Q,I⟩:∃Q,Q=q.toNat:=⟨_,rfl⟩;obtain⟨B,J⟩:∃B,B=b.toNat:=⟨_,rfl⟩;obtain⟨R,L⟩:∃R,R=r.toNat:=⟨_,rfl⟩;rw[<-G,<-I,<-J,<-L] at U;rw[<-L] at H;rw[<-d,<-J];rw[<-I] at F;have e1:2*(X:Int)%4294967296=(Y:Int):=by omega
 clear d A D O G I J L
 by_cases h:2147483648<=X
 ·have V:decide ((X:Int)>=2147483648)=true:=aG (by omega);have Z:decide (2147483648<=(X:Int))=true:=aG (by omega);have e2:((Y:Int)+1)%4294967296=(Q:Int):=by omega
  have a1:(Y:Int)+1=(Q:Int):=by omega
  have a2:Q<4294967296:=by omega
  clear M F;go_enter func67,ntmps67;go_wp2_with fail;go_ret;exact⟨eI H.out,rfl⟩
 ·have V:decide ((X:Int)>=2147483648)=false:=aE (by omega);have Z:decide (2147483648<=(X:Int))=false:=aE (by omega);obtain rfl:Y=Q:=by omega
  have a3:2*(X:Int)=(Y:Int):=by omega
  clear M F;go_enter func67,ntmps67;go_wp2_with fail;go_ret;exact⟨eI H.out,rfl⟩
theorem bDu (v:Value) (l:List (BitVec 32)) (w:World) (H:RdS w v l):
  Calls pG 45 #[v] w fun e w'=>e=.returned (.int .u32 ((iM l).toNat:Int))/\w'=w:=by
 obtain⟨a,ca,rfl,a1,O,I⟩:=H.open;unfold maxLen at O;clear H;obtain⟨Z,d⟩:∃Z,Z=(iM (l.take 0)).toNat:=⟨_,rfl⟩;have J:(Z:Int)=0:=by rw[d];rfl
 go_enter func45,ntmps45;go_wp2_with fail
 go_loopg [3,4] l.length (fun g T U wr=>∃k X:Nat,k<=l.length/\g=l.length-k/\U=.int .i64 (k:Int)/\T=.int .u32 (X:Int)/\Hid (X=(iM (l.take k)).toNat)/\wr=w)
 case atStart=>exact⟨0,Z,aO _,rfl,rfl,by rw[J],hid d,rfl⟩
 case round=>
  obtain⟨k,X,hk,h,rfl,rfl,L,rfl⟩:=hrel;have V:=hid h;clear h J d
  by_cases a0:k<l.length
  ·have t1:decide ((k:Int)<(l.length:Int))=true:=aG (by omega);obtain⟨b,off,rfl,hb,M⟩:=I (by omega);obtain⟨x,A⟩:∃x,l[k]? =some x:=⟨_,aN a0⟩;have c1:=M k x A;have D:=bDt (iM (l.take k)) x wr;rw[<-aGq A,<-L.out] at D;obtain⟨Y,F⟩:∃Y,Y=(iM (l.take (k+1))).toNat:=⟨_,rfl⟩;obtain⟨x',G⟩:∃x',x'=x.toNat:=⟨_,rfl⟩;rw[<-F,<-G] at D;rw[<-G] at c1;have HY:=hid F;clear F G A M I;go_wp2_with fail;refine D.mono ?_;rintro e w2 ⟨rfl,rfl⟩;go_wp2_with fail;have h:=V.out
   go_roundg (l.length-(k+1))
   case measure=>omega
   case rel=>exact⟨k+1,Y,by omega,rfl,by go_num,rfl,HY,rfl⟩
  ·have t1:decide ((k:Int)<(l.length:Int))=false:=aE (by omega);have HF:=hid (show((X:Nat):Int)=((iM l).toNat:Int) by rw[L.out,cD (by omega)]);go_wp2_with fail;go_ret;exact⟨eI HF.out,rfl⟩
theorem aJq {W d:World} {B:Nat} {v u:Value} {l:List (BitVec 32)} {m:List Int} (h:OwS W B v l) (e:OwI W B u m) (A:W.grownBy d u.ownBlock):OwS d B v l:=MY h e A (by decide)
theorem bDv {W d:World} {B:Nat} {v u:Value} {l:List (BitVec 32)} {m:List Int} (h:OwI W B u m) (e:OwS W B v l) (A:W.grownBy d v.ownBlock):OwI d B u m:=MY h e A (by decide)
theorem VL (x y:List Bool):bI (x++y)=bI x++bI y:=dY ..
theorem aJr (n:Int) (v:Value) (l:List ByteArray) (w:World) (hr:RdT w v l) (hl:l.length<=10) (d6:∀t∈l,t.size<=1000) (b5: -9223372036854775808<=n) (b6:n<=9223372036854775807):
  Calls pG 21 #[.int .i64 n,v] w fun e w'=>aIo w w' n l e:=by
 obtain⟨a,ca,rfl,i2,f4,hA⟩:=hr.open;unfold maxLen at f4
 by_cases hn:n<1\/9<n
 ·have hd:wrE n l=1:=by unfold wrE;rw[aB hn]
  have HD:=hid hd;clear hd
  by_cases h1:n<1
  ·have t1:decide (n<1)=true:=aG h1;go_enter func21,ntmps21;go_wp2_with fail
   go_ret2
   exact .inr ⟨by rw[HD.out];decide,by rw[HD.out];rfl,aH _ _⟩
  ·have t1:decide (n<1)=false:=aE h1;have t2:decide (n>9)=true:=aG (by omega);have t3:decide (9<n)=true:=aG (by omega);go_enter func21,ntmps21;go_wp2_with fail
   go_ret2
   exact .inr ⟨by rw[HD.out];decide,by rw[HD.out];rfl,aH _ _⟩
 obtain⟨N,rfl⟩:∃N:Nat,n=(N:Int):=⟨n.toNat,by omega⟩;have h1:1<=N:=by omega
 have h9:N<=9:=by omega
 obtain⟨M,hM⟩:∃M,M=40*N:=⟨_,rfl⟩;have m1:40*(N:Int)=(M:Int):=by omega
 have i3:M<=360:=by omega
 have d7:wrE (N:Int) l=oH (M:Int) l:=by unfold wrE;rw[aA hn,m1]
 have c7:=hid d7;clear d7;have f5:=hid d6;have t1:decide ((N:Int)<1)=false:=aE (by omega);have t2:decide ((N:Int)>9)=false:=aE (by omega);have t3:decide (9<(N:Int))=false:=aE (by omega);obtain⟨N1,d8⟩:∃N1,N1=N+1:=⟨_,rfl⟩;have m2:(N:Int)+1=(N1:Int):=by omega
 have i4:N1<=10:=by omega
 obtain⟨D,hD⟩:∃D,D=(⟨#[48,49,50,51,52,53,54,55,56,57]⟩:ByteArray).extract N N1:=⟨_,rfl⟩;obtain⟨X,hX⟩:∃X:ByteArray,X=⟨#[80,77,107]⟩++D:=⟨_,rfl⟩;have c8:X.data.toList=iN N:=by
  rw[hX,hD,d8];have:N=1\/N=2\/N=3\/N=4\/N=5\/N=6\/N=7\/N=8\/N=9:=by omega
  rcases this with rfl|rfl|rfl|rfl|rfl|rfl|rfl|rfl|rfl<;>rfl
 have f6:D.size=1:=by
  have:=congrArg List.length c8;rw[hX,BC,BD,aL] at this;have e:D.data.toList.length=D.size:=rfl;rw[e] at this;have e2:(iN N).length=4:=rfl;rw[e2] at this;have e3:(⟨#[80,77,107]⟩:ByteArray).data.toList.length=3:=rfl;omega
 have b7:=fun W=>aEd X W (by rw[hX,rG,f6];decide)
 rw[c8] at b7;have f7:=hD.symm;have f8:=hX.symm;obtain⟨L,b8⟩:∃L,L=eR (iN N):=⟨_,rfl⟩;have d9:L.length=32:=by rw[b8,qU];rfl
 rw[<-b8] at b7;have f9:=hid b8;have HM:=hid hM;clear hn d6 hM d8 hD hX c8 b8 hr;go_enter func21,ntmps21;go_wp2_with fail;refine(b7 _).mono ?_;rintro e w1 ⟨u1,rfl,e0,a7⟩;clear b7 f7 f8 t1 t2 t3 m2;go_wp2_with fail
 go_loopg [6,7,8,9,10] l.length (fun g s6 s7 s8 _s9 _s10 wr=>∃k:Nat,k<=l.length/\g=l.length-k/\s8=.int .i64 (k:Int)/\OwI wr w.heap.size s6 (bI (L++fN (l.take k)))/\OwS wr w.heap.size s7 ((l.take k).map (fun t=>cH t.data.toList))/\Below w.heap.size w wr/\Hid (∀t∈l.take k,okT (M:Int) t/\jZ t (M:Int)=0))
 case atStart=>exact⟨0,aO _,rfl,rfl,by rw[wX];show OwI w1 w.heap.size u1 (bI (L++[]));rw[dI];exact e0,Ow.nil _ _ _,a7,hid (fun t d=>by simp at d)⟩
 case round=>
  obtain⟨k,hk,hg,rfl,O,T,a0,a1⟩:=hrel;have HG:=hid hg;have a8:=a0.size;clear hg e0 a7
  by_cases c9:k<l.length
  ·have t4:decide ((k:Int)<(l.length:Int))=true:=aG (by omega);obtain⟨b,off,rfl,e1,hc⟩:=hA (by omega);obtain⟨t,d⟩:∃t,l[k]? =some t:=⟨_,aN c9⟩;have g0:=hid (hc k t d);have c1:=(a0.cell (p:=⟨b,off+k,none⟩) e1).trans (hc k t d);have i5:=f5.out t (List.mem_of_getElem? d);have a3:=fun W=>bA9 t (M:Int) W (by omega) (by omega) (by omega)
   unfold FV at a3;have e4:oH (M:Int) l=oH (M:Int) (t::l.drop (k+1)):=by
    rw[UL (k:=k) (fun u hu=>(a1.out u hu).2),List.drop_eq_getElem_cons c9];rw[aN c9] at d;rw[cC d]
   obtain⟨E0,d2⟩:∃E0,E0=jZ t (M:Int):=⟨_,rfl⟩;obtain⟨Y,hY⟩:∃Y,Y=tB t (M:Int):=⟨_,rfl⟩;rw[<-d2,<-hY] at a3;unfold fT at a3;have b9:=hid d2;have g1:=hid hY;have e5:=hid e4;have HT:=hid d;have a9:=fun W (h:Y.length<=1000000)=>zY Y W h
   have c0:=fun W=>TA t W (by omega)
   obtain⟨S,U⟩:∃S,S=cH t.data.toList:=⟨_,rfl⟩;rw[<-U] at c0;obtain⟨E,H⟩:∃E,E=L++fN (l.take k):=⟨_,rfl⟩;have g2:E.length<=280100:=by
    have:=yC (r:=(M:Int)) (by omega) (l.take k) (fun t d=>(a1.out t d).1);rw[aQ] at this;rw[H,aL,d9];omega
   have g3:=hid H;have e6:=hid (show(l.take (k+1)).map (fun t=>cH t.data.toList)=(l.take k).map (fun t=>cH t.data.toList)++[S] by rw[cG,d,dY,U];rfl);have g4:=hid (show l.take (k+1)=l.take k++[t] by rw[cG,d];rfl);obtain⟨Q,hQ⟩:∃Q,Q=(l.take k).map (fun t=>cH t.data.toList):=⟨_,rfl⟩;have i6:Q.length<=10:=by rw[hQ,aS,aQ];omega
   rw[<-H] at O;rw[<-hQ] at T e6;clear d2 hY e4 H U hQ d hc hA;go_wp2_with fail;refine(a3 _).mono ?_;rintro e w2 ⟨rfl,A,d3⟩;have a2:OwI w2 w.heap.size u6 (bI E):=Ow.below O A (aD _);have a4:OwS w2 w.heap.size u7 Q:=Ow.below T A (aD _);have V:=a0.trans (A.mono a8);have b0:=V.size
   by_cases h0:E0=0
   rotate_left
   ·have t5:(E0 != 0)=true:=by rw[bne_iff_ne];exact h0
    have HF:=hid (show wrE (N:Int) l=E0 by
     rw[c7.out,e5.out];unfold oH;rw[<-b9.out,aB h0])
    clear c7 e5 d3 a3 A O T a0 a8 a2 a4 a9 c0;go_wp2_with fail
    go_ret2
    exact .inr ⟨by rw[HF.out];exact h0,by rw[HF.out];rfl,V.alloc (by omega) _⟩
   subst h0;have d4:=aIl b9.out.symm (d3 rfl);have c2:Y=eJ t:=by rw[g1.out,aIk b9.out.symm]
   have HY:=hid c2;have g5:0<Y.length:=by
    have:=aDn t;rw[c2];omega
   have g6:=hid (show L++fN (l.take (k+1))=E++Y by rw[bBt HT.out,g3.out,c2,bU]);clear c2;have i7:Y.length<=28000:=by
    have:=yC (r:=(M:Int)) (by omega) [t] (fun x hx=>by rw[cP.1 hx];exact d4);rw[MV] at this;rw[HY.out];simp only[fN,vJ,List.flatten_nil,dI,fQ] at this;omega
   have g7:=hid (show ∀x∈l.take (k+1),okT (M:Int) x/\jZ x (M:Int)=0 by
    rw[g4.out];intro x hx;rcases List.mem_append.1 hx with hx|hx
    ·exact a1.out x hx
    ·rw[cP.1 hx];exact⟨d4,b9.out.symm⟩)
   have e7:OwI _ w.heap.size u6 (bI E):=Ow.alloc a2 (.cells #[.string (mkS (aI Y)),.int .i64 (Y.length:Int)] 83);have b1:OwS _ w.heap.size u7 Q:=Ow.alloc a4 (.cells #[.string (mkS (aI Y)),.int .i64 (Y.length:Int)] 83);have h3:=V.alloc b0 (.cells #[.string (mkS (aI Y)),.int .i64 (Y.length:Int)] 83);have b2:=h3.size;have c3:=Arr.new w2 83 [.string (mkS (aI Y)),.int .i64 (Y.length:Int)];change Arr (w2.alloc (.cells #[.string (mkS (aI Y)),.int .i64 (Y.length:Int)] 83)) _ _ _ at c3;have a9:=fun W=>a9 W (by omega)
   clear a3 A d3 O T a0 a8 a2 a4 V d4 b0;have d0:=c3.cell (i:=0) rfl;have d1:=c3.cell (i:=1) rfl;go_wp2_with fail;refine(a9 _).mono ?_;rintro e w4 ⟨v4,rfl,b3,Z⟩;have a5:OwI w4 w.heap.size u6 (bI E):=Ow.below e7 Z (aD _);have e8:OwS w4 w.heap.size u7 Q:=Ow.below b1 Z (aD _);have h4:=h3.trans (Z.mono b2);have b4:=h4.size;have g8:((bI E).length+(bI Y).length)*8<=140737488355328:=by rw[cX,cX];omega
   have a6:0<(bI Y).length:=by rw[cX];exact g5
   clear a9 Z e7 b1 h3 b2 c3 d0 d1;go_wp2_with (at_builtin;refine lR rfl _ _ rfl w.heap.size _ _ _ rfl a5 _ rfl b3 a6 g8 b4 ?_;intro v5 w5 I p2 p3 _;(have e9:OwS w5 w.heap.size u7 Q:=aJq e8 a5 p3);(have h5:=h4.trans p2);(have c4:=h5.size);(have c5:=(h5.cell (p:=⟨b,off+k,none⟩) e1).trans g0.out);(rw[<-VL,<-g6.out] at I));refine(c0 _).mono ?_;rintro e w' ⟨rfl,rfl⟩;clear c0 a5 e8 h4 b4 b3 p2 p3
   go_wp2_with (at_builtin;refine aIn rfl _ _ rfl w.heap.size _ _ rfl (Ow.alloc e9 _) _ S rfl (bX _ _ _) ?_ ?_ ?_;(omega);(simp;omega);intro v6 w6 r1 r2 r3;(have g9:=bDv (Ow.alloc I _:OwI _ _ _ _) (Ow.alloc e9 _) r3));have hg:=HG.out
   go_roundg (l.length-(k+1))
   case measure=>omega
   case rel=>exact⟨k+1,by omega,rfl,by go_num,g9,by rw[e6.out];exact r1,(h5.alloc c4 _).trans r2,g7⟩
  ·have t4:decide ((k:Int)<(l.length:Int))=false:=aE (by omega);obtain rfl:k=l.length:=by omega
   rw[List.take_length] at O T a1;have b5:=fun W=>wK 25779555029136 48 W (by decide) (by decide)
   obtain⟨S,U⟩:∃S,S=(iM (l.map (fun t=>cH t.data.toList))).toNat:=⟨_,rfl⟩;have i8:S<4294967296:=by rw[U];exact(iM (l.map (fun t=>cH t.data.toList))).isLt
   have c6:=fun W h=>bDu u7 (l.map (fun t=>cH t.data.toList)) W h
   rw[<-U] at c6;have b6:=fun W=>wK S 32 W (by omega) (by decide)
   obtain⟨E,H⟩:∃E,E=L++fN l:=⟨_,rfl⟩;have g2:E.length<=280100:=by
    have:=yC (r:=(M:Int)) (by omega) l (fun t d=>(a1.out t d).1);rw[H,aL,d9];omega
   obtain⟨G,hG⟩:∃G,G=aT 25779555029136 48:=⟨_,rfl⟩;have i9:G.length=48:=by rw[hG,dV]
   obtain⟨J,hJ⟩:∃J,J=aT S 32:=⟨_,rfl⟩;have j0:J.length=32:=by rw[hJ,dV]
   obtain⟨F,hF⟩:∃F,F=E++G++J:=⟨_,rfl⟩;have j1:F.length<=300000:=by rw[hF,aL,aL];omega
   have HF:=hid (show mkS (aI F)=mkS (aI (cM N l)) by
    rw[hF,hG,hJ,H,f9.out,U,bU,bU];rfl)
   rw[<-H] at O;rw[<-hG] at b5;rw[<-hJ] at b6;have f0:=fun W u (h:RdI W u (bI F))=>CF u F W h (by omega)
   have m5:eZ.wrap (S:Int)=(S:Int):=by rw[fC];omega
   have j2:(S:Int)%18446744073709551616=(S:Int):=by omega
   have i0:=hid hF;have f1:=hid (show(wrE (N:Int) l=0)/\∀t∈l,okT (40*(N:Int)) t from⟨by rw[c7.out];exact AA (fun t d=>(a1.out t d).2),fun t d=>by
    have:=(a1.out t d).1;rw[<-m1] at this;exact this⟩)
   obtain⟨Q,hQ⟩:∃Q,Q=l.map (fun t=>cH t.data.toList):=⟨_,rfl⟩;rw[<-hQ] at T c6;clear U H hG hJ hF hQ hA;go_wp2_with fail;refine(b5 _).mono ?_;rintro e w2 ⟨u2,rfl,f2,A⟩;have a2:OwI w2 w.heap.size u6 (bI E):=Ow.below O A (aD _);have a4:OwS w2 w.heap.size u7 Q:=Ow.below T A (aD _);have V:=a0.trans (A.mono a8);have b0:=V.size;have a7:((bI E).length+(bI G).length)*8<=140737488355328:=by rw[cX,cX];omega
   have a6:0<(bI G).length:=by rw[cX];omega
   clear b5 A O T a0 a8;go_wp2_with (at_builtin;refine lR rfl _ _ rfl w.heap.size _ _ _ rfl a2 _ rfl (OwI.rd f2) a6 a7 b0 ?_;intro v3 w3 I p2 p3 _;(have b1:OwS w3 w.heap.size u7 Q:=aJq a4 a2 p3);(have h3:=V.trans p2);(have b2:=h3.size));refine(c6 _ (OwS.rd b1)).mono ?_;rintro e w' ⟨rfl,rfl⟩;clear c6 a2 a4 V b0 f2 p2 p3 a7 a6;go_wp2_with fail;refine(b6 _).mono ?_;rintro e w4 ⟨u4,rfl,b3,Z⟩;have a5:OwI w4 w.heap.size v3 (bI E++bI G):=Ow.below I Z (aD _);have h4:=h3.trans (Z.mono b2);have b4:=h4.size
   have i1:((bI E++bI G).length+(bI J).length)*8<=140737488355328:=by rw[aL,cX,cX,cX];omega
   have a6:0<(bI J).length:=by rw[cX];omega
   clear b6 Z I b1 h3 b2;go_wp2_with (at_builtin;refine lR rfl _ _ rfl w.heap.size _ _ _ rfl a5 _ rfl (OwI.rd b3) a6 i1 b4 ?_;intro v5 w5 I p2 p3 _;(have h5:=h4.trans p2);(have c4:=h5.size);(rw[<-VL,<-VL,<-i0.out] at I));refine(f0 _ _ (OwI.rd I)).mono ?_;rintro e w6 ⟨rfl,f3⟩;have h6:=h5.trans (f3.mono c4);have h7:=h6.alloc h6.size (.cells #[.string (mkS (aI F)),.int .i64 (F.length:Int)] 83);have d5:=Arr.new w6 83 [.string (mkS (aI F)),.int .i64 (F.length:Int)];change Arr (w6.alloc (.cells #[.string (mkS (aI F)),.int .i64 (F.length:Int)] 83)) _ _ _ at d5
   have d0:=d5.cell (i:=0) rfl;clear f0 f3 h5 c4 p2 p3 I a5 b3 h4 b4 h6 d5;go_wp2_with fail
   go_ret2
   exact .inl ⟨f1.out.1,by rw[fL,<-HF.out];rfl,f1.out.2,h7⟩
theorem aJs (N:Nat) (v:Value) (l:List ByteArray) (w:World) (A:RdT w v l) (L:l.length<=5) (h:vC l) (D:1<=N) (F:N<=9):
  Calls pG 21 #[.int .i64 (N:Int),v] w fun e w'=>e=.returned (.tuple #[.string (aZ [(N,l)]),.int .i64 0])/\okA [(N,l)]/\Below w.heap.size w w':=by
 have M:wrE (N:Int) l=0:=by
  unfold wrE;rw[aA (by omega)];refine AA (fun t d=>?_);obtain⟨G,H,O⟩:=h t d;unfold lnL at H;exact MW G (by omega) (by omega) (by omega)
 refine(aJr (N:Int) v l w A (by omega) (fun t d=>by have:=(h t d).2.2;omega) (by omega) (by omega)).mono ?_;rintro e w' (⟨-,rfl,I,J⟩|⟨T,-,-⟩)
 ·refine⟨?_,NF D F I,J⟩;rw[fL];unfold aZ;rw[tU]
 grind
end
section
open Go
theorem aKs {s:List UInt8} {D:Int}:∀(l:List Prt) (d at' e:Int),qZ s d l D->at'<d->oL e at' (gU e l)
 |[],_,_,_,_,_=>trivial
 |p::l,d,at',e,h,J=>by
  obtain⟨L,A,F⟩:=h;obtain⟨M,O,T,U,V,Y⟩:=A.facts;obtain⟨_,G,H,I⟩:=A;refine⟨⟨rfl,?_,?_,G,H,I,?_⟩,aKs l p.z p.a _ F (by omega)⟩
  ·show(1:Int)<=(p.t.size:Int);omega
  ·show(p.t.size:Int)<=18720;omega
  ·show at'<p.a;omega
theorem aKt {s:List UInt8} {G:Int} (H:s.length<=1000000):∀(l:List Prt) (A d:Int),qZ s A l G->0<=d->d+18720*(l.length:Int)<=9223372036854775807->∀x∈gU d l,x.fit
 |[],_,_,_,_,_,_,h=>nomatch h
 |p::l,A,d,h,L,D,x,e=>by
  obtain⟨M,F,I⟩:=h;obtain⟨J,O,T,U,V,Y⟩:=F.facts;obtain⟨_,Z,g3,g4⟩:=F;have hc:=(cH p.t.data.toList).isLt;rw[List.length_cons] at D;push_cast at D;rcases jQ.1 e with rfl|e
  ·unfold Ent.fit;dsimp only
   rw[J];omega
  ·exact aKt H l p.z _ I (by omega) (by omega) x e
theorem bFc {s:List UInt8} (h:(cI s).2=0):jA (gU 0 (cI s).1):=aKs _ 32 31 0 (ST h) (by decide)
theorem bFd {s:List UInt8} (h:(cI s).2=0) (d:s.length<=1000000) (e:(cI s).1.length<=100000000):∀x∈gU 0 (cI s).1,x.fit:=
 aKt d _ 32 0 (ST h) (Int.le_refl _) (by omega)
def vF (a s:List UInt8):Int:=
 if(dX s).2.2.2≠0 then(dX s).2.2.2
 else if(dX s).2.1≠a.length\/(dX s).2.2.1≠(cH a).toNat then 7
 else if(cI a).2≠0 then(cI a).2
 else if gU 0 (eY a)≠(dX s).1 then 3 else 0
end
section
open Go.RowKit Go Go.Shelf
theorem aKx:∀{l:List Ent} {k:Nat} {x x':Ent} {j:Nat} {u:Value},l[k]? =some x->j<5->(bG x).set j u=bG x'->((l.map bG).flatten).set (k*5+j) u=((l.set k x').map bG).flatten
 |[],k,_,_,_,_,h,_,_=>by simp at h
 |y::l,0,x,x',j,u,h,d,e=>by grind [bG]
 |y::l,k+1,x,x',j,u,h,d,e=>by
  have A:=aKx (l:=l) (by simpa using h) d e
  grind [bG]
theorem GR {w:World} {B g cap:Nat} {l:List Ent} {k j:Nat} {x x':Ent} {u:Value} (h:OwR w B 47 5 (.slice (some ⟨g,0,none⟩) l.length cap) (l.map bG)) (d:l[k]? =some x) (A:j<5) (e:(bG x).set j u=bG x'):
  OwR (w.setCell ⟨g,k*5+j,none⟩ u) B 47 5 (.slice (some ⟨g,0,none⟩) l.length cap) ((l.set k x').map bG):=by
 unfold OwR at h ⊢;rw[aS] at h;have:=(World.ownsRow.stored h (k*5+j) u).1
 grind [aKx,OwR,bG]
def WfE (l:List Ent):Prop:=∀x∈l,(-9223372036854775808<=x.a/\x.a<=9223372036854775807)/\(-9223372036854775808<=x.r/\x.r<=9223372036854775807)/\(-9223372036854775808<=x.f/\x.f<=9223372036854775807)/\(-9223372036854775808<=x.n/\x.n<=9223372036854775807)/\(0<=x.y/\x.y<4294967296)
theorem mS:∀{l:List Ent} {d at':Int},oL d at' l->0<=d-> -1<=at'->WfE l->∀x∈l,x.fit
 |[],_,_,_,_,_,_,_,h=>nomatch h
 |y::l,d,at',h,G,H,A,x,e=>by
  obtain⟨⟨I,J,L,M,O,T,U⟩,D⟩:=h;obtain⟨V,Y,Z,w4,w5⟩:=A y (jK ..);rcases jQ.1 e with rfl|e
  ·unfold Ent.fit;omega
  ·exact mS D (by omega) (by omega) (fun z F=>A z (iQ _ F)) x e
theorem GS {l:List Ent} {k:Nat} {x:Ent} (h:WfE l) (d:WfE [x]):WfE (l.set k x):=by grind [WfE]
theorem xS {l:List Ent} (h:∀x∈l,x.fit):WfE l:=by grind [Ent.fit,WfE]
theorem bFn (a:Option Addr) (c:Nat) (w:World):Src pG 5 22 (.slice a 0 c) 0 [] w:=by
 cases a with
 |none=>exact Src.ofNil w underlying22 c
 |some a=>exact Src.ofSlice w underlying22 a 0 c [] rfl (fun j u h=>by simp at h) (fun u h=>by simp at h)
theorem aKy (b:Option Addr) (n m:Nat) (h:n<=m) (a:Option Addr) (c:Nat) (d:TypeId) (w:World):(sA #[22,22] d #[.slice b n m,.slice a 0 c]).run pG w=.ok (.slice b n m) w:=by
 obtain⟨i,A,F,D,G⟩:=AK.info;have e:=bFn a c w;rw[<-D] at e;exact run_append_nothing w _ _ d _ i underlying22 A b n m h _ e
theorem bFo (g n:Nat) (x:List Value) (U:x.length=n*5) (w:World) (V:∀j u,x[j]? =some u->w.cell? ⟨g,j,none⟩=some u) (F:Value) (m:lC) (Y:RdR w F m) (d:oW 5 m) (Z:0<m.length) (hl:n+m.length<=1000000) (G:TypeId):
  ∃H w',(sA #[22,22] G #[.slice (some ⟨g,0,none⟩) n n,F]).run pG w=.ok H w'/\w'.ownsRow w.heap.size 47 5 H (n+m.length) (x++m.flatten)/\w.grownBy w' none:=by
 obtain⟨i,hi,hz,h2,h3⟩:=AK.info;obtain⟨a,cap,rfl,a2,a3,h⟩:=Y.open d (by decide);obtain⟨b,off,rfl,a4,a0⟩:=h Z;have I:=FE d;refine run_append_arg_grows w _ G _ i _ 5 40 underlying22 hi hz h2 h3 AK.cells (by decide) ⟨g,0,none⟩ n n x U (fun j u A=>?_) ⟨b,off,none⟩ m.length cap m.flatten I (fun j u D=>?_) (by omega) (by simp only[maxLen];omega) (by omega)
 ·have e:(⟨g,0,none⟩:Addr).add j=⟨g,j,none⟩:=by unfold gP;split<;>simp_all
  rw[e];exact V j u A
 ·have A:=(List.getElem?_eq_some_iff.1 D).1;rw[I] at A;have J:j/5<m.length:=by omega
  have L:m[j/5]? =some m[j/5]:=aN J;have a1:=(d _ (List.getElem_mem J)).1;have M:m[j/5][j%5]? =some (m[j/5][j%5]'(by rw[a1];omega)):=aN _;have O:=FF d _ _ _ _ L M;have hd:j/5*5+j%5=j:=Nat.div_add_mod' j 5;have T:=a0 _ _ _ _ L M;rw[hd] at O T;rw[O] at D;rw[<-cC D];have e:(⟨b,off,none⟩:Addr).add j=⟨b,off+j,none⟩:=by unfold gP;split<;>simp_all
  rw[e];exact T
theorem bFp {e:Array Oper} {rest:List Oper} {o:Oper} {a:Act} {Q:Exit->Act->World->Prop} {w:World} (A:o.guard=none) (s x:Operand)
  (D:o.op=.call {callee:=.builtin .append,args:=#[s,x],argTypes:=#[22,22]}) (hs:a.eval s=.slice none 0 0)
  (sv:Value) (hx:a.eval x=sv) (l:List Ent) (hsrc:RdR w sv (l.map bG)) (hl0:0<l.length) (hl:l.length<=1000)
  (h:∀g cap w',OwR w' w.heap.size 47 5 (.slice (some ⟨g,0,none⟩) l.length cap) (l.map bG)->Below w.heap.size w w'->wpList pG e Q rest (a.put o.dst (.slice (some ⟨g,0,none⟩) l.length cap)) w'):wpList pG e Q (o::rest) a w:=by
 refine wpList_plain A fun K F=>?_
 obtain⟨G,w',H,d,I,J⟩:=LS AK o.type w.heap.size (.slice none 0 0) [] (OwR.nil _ _ _ _) _ _ hsrc (yG l) (by grind) (by grind) (aD _);rw[List.nil_append] at d;obtain⟨g,cap,rfl⟩:∃g cap,G=.slice (some ⟨g,0,none⟩) l.length cap:=by
  have q:=d;unfold OwR at q;rw[aS] at q;rcases q.2 with⟨_,L⟩|⟨g,cap,_,rfl,_⟩
  ·omega
  simp
 unfold Oper.wp execOp;simp only[D,resolve,invoke,builtin,Sem.run_bind,Sem.run_pure,Result.andThen_ok,List.map_toArray,kI,vJ,hs,hx,H];exact F _ _ (h g cap w' d I)
theorem NM (V n:Nat) (w:World) (hV:V<18446744073709551616) (hn:n<=8):
  Calls pG 31 #[.int .u64 (V:Int),.int .i64 (n:Int)] w fun e w'=>∃s:ByteArray,e=.returned (.string s)/\s.size=n/\Below w.heap.size w w':=by
 have m0:aJ.wrap ((n:Int)-1)=(n:Int)-1:=by rw[aM];omega
 go_enter func31,ntmps31;go_wp2_with fail
 go_loopg [5,6] n (fun g J L wr=>∃(k:Nat) (r:List UInt8),k<=n/\g=k/\L=.int .i64 ((k:Int)-1)/\Hid (r.length+k=n)/\OwB wr w.heap.size J r/\Below w.heap.size w wr)
 case atStart=>exact⟨n,[],aD _,rfl,rfl,hid (iP _),Ow.nil _ _ _,aH _ _⟩
 case round=>
  obtain⟨k,r,hk,F,rfl,d,hor,h⟩:=hrel;obtain rfl:=F.symm;have M:=h.size
  by_cases O:k=0
  ·subst O;have T:decide (((0:Nat):Int)-1>=0)=false:=aE (by omega);have U:decide (0<=((0:Nat):Int)-1)=false:=aE (by omega);have a2:(convert 61 9 u5).run pG wr=.ok (.string (mkS r)) wr:=mP hor.rd;have a3:(convert 61 9 u5).run pG wr.drew=.ok (.string (mkS r)) wr.drew:=mP (w:=wr.drew) (OwB.rd (w:=wr.drew) hor);clear F;go_wp2_with fail;go_ret;exact⟨_,rfl,by rw[cS];have:=d.out;omega,h⟩
  ·obtain⟨j,rfl⟩:∃j,k=j+1:=⟨k-1,by omega⟩;obtain⟨D,Y⟩:∃D,D=8*j:=⟨_,rfl⟩;have a4:D<=56:=by omega
   have G:((j+1:Nat):Int)-1=(j:Int):=by omega
   rw[G];have T:decide ((j:Int)>=0)=true:=aG (by omega);have U:decide (0<=(j:Int))=true:=aG (by omega);have e7:min D 64=D:=by omega
   have mD:aJ.wrap (8*(j:Int))=(D:Int):=by rw[aM];omega
   have a5:8*(j:Int)=(D:Int):=by omega
   obtain⟨Q,H⟩:∃Q:Nat,Q=V/2^D:=⟨_,rfl⟩;have e3:(V:Int)/2^D=(Q:Int):=by rw[H];exact CE V D
   obtain⟨b,I⟩:∃b:UInt8,b=eA (Q%256):=⟨_,rfl⟩;have A:b.toNat=Q%256:=by rw[I,nD];omega
   have e4:(Q:Int).tmod 256=(b.toNat:Int):=by rw[mL (by omega),A];omega
   have e5:(Q:Int)%256=(b.toNat:Int):=by rw[A];omega
   have a6:=b.toNat_lt;have e6:oQ.wrap (b.toNat:Int)=(b.toNat:Int):=by rw[sG];omega
   have e8:(b.toNat:Int)%256=(b.toNat:Int):=by omega
   have mj:aJ.wrap ((j:Int)-1)=(j:Int)-1:=by rw[aM];omega
   have a7:r.length<=1000008:=by have:=d.out;omega
   have Z:=hid (show(r++[b]).length+j=n by have:=d.out;rw[aL,fQ];omega);clear I Y G H A;go_wp2_with (at_builtin;refine FB rfl _ _ rfl w.heap.size _ _ rfl (Ow.alloc hor _) wr.heap.size b rfl ?_ ?_ ?_ ?_;(exact bX _ _ _);(omega);(simp;omega);intro v' w3 a0 a1 a8)
   go_roundg j
   case measure=>omega
   case rel=>exact⟨j,r++[b],by omega,rfl,rfl,Z,a0,(h.alloc M _).trans a1⟩
theorem aKz {d e w0:World} {B z:Nat} {D F G H I:Value} (h:d.cell? ⟨z,0,none⟩=some D/\d.cell? ⟨z,1,none⟩=some F/\d.cell? ⟨z,2,none⟩=some G/\d.cell? ⟨z,3,none⟩=some H/\d.cell? ⟨z,4,none⟩=some I/\Below B w0 d/\B<=d.heap.size) (A:Below d.heap.size d e):
  e.cell? ⟨z,0,none⟩=some D/\e.cell? ⟨z,1,none⟩=some F/\e.cell? ⟨z,2,none⟩=some G/\e.cell? ⟨z,3,none⟩=some H/\e.cell? ⟨z,4,none⟩=some I/\Below B w0 e/\B<=e.heap.size:=by
 obtain⟨L,M,O,T,U,V,J⟩:=h;have k:∀{p:Addr} {v:Value},d.cell? p=some v->e.cell? p=some v:=fun h=>(A.cell (World.block_lt_of_cell? d _ h)).trans h
 exact⟨k L,k M,k O,k T,k U,V.trans (A.mono J),Nat.le_trans J A.size⟩
theorem GT (x:Int):∃A:Nat,A<18446744073709551616/\eZ.wrap x=(A:Int)/\x%18446744073709551616=(A:Int):=
 ⟨(x%18446744073709551616).toNat,by omega,by rw[fC];omega,by omega⟩
theorem GU (V n:Nat) (m:Int) (d:m=(n:Int)) (w:World) (h:V<18446744073709551616) (A:n<=8):
  Calls pG 31 #[.int .u64 (V:Int),.int .i64 m] w fun e w'=>∃s:ByteArray,e=.returned (.string s)/\s.size=n/\Below w.heap.size w w':=by grind [NM]
theorem bHl (size C:Nat) (v:Value) (l:List Ent) (w:World) (hr:RdR w v (l.map bG)) (hl:l.length<=1000) (hs:size<9223372036854775808) (hC:C<4294967296):
  Calls pG 12 #[.int .i64 (size:Int),.int .u32 (C:Int),v] w fun e w'=>∃s:ByteArray,e=.returned (.string s)/\s.size<=30000/\Below w.heap.size w w':=by
 obtain⟨a,ca,rfl,e3,c7,hA⟩:=nS hr;unfold maxLen at c7;have I:eZ.wrap (size:Int)=(size:Int):=by rw[fC];omega
 have J:(size:Int)%18446744073709551616=(size:Int):=by omega
 have L:eZ.wrap (C:Int)=(C:Int):=by rw[fC];omega
 have M:(C:Int)%18446744073709551616=(C:Int):=by omega
 have O:eZ.wrap (l.length:Int)=(l.length:Int):=by rw[fC];omega
 have U:(l.length:Int)%18446744073709551616=(l.length:Int):=by omega
 have b1:=fun W=>NM size 8 W (by omega) (by decide)
 have b2:=fun W=>NM C 4 W (by omega) (by decide)
 have b3:=fun W=>NM l.length 4 W (by omega) (by decide)
 obtain⟨H,hH⟩:∃H:ByteArray,H=⟨#[80,77,105,49]⟩:=⟨_,rfl⟩;have c8:H.size=4:=by rw[hH];rfl
 have HH:=hid hH.symm;clear hr hH;go_enter func12,ntmps12;go_wp2_with fail;refine(b1 _).mono ?_;rintro e w1 ⟨s1,rfl,c9,D⟩;have q1:¬9223372036854775807<4+s1.size:=by omega
 clear b1;go_wp2_with fail;refine(b2 _).mono ?_;rintro e w2 ⟨s2,rfl,d5,h2⟩;have b4:=aW D h2;have q2:¬9223372036854775807<4+s1.size+s2.size:=by omega
 clear b2 D h2;go_wp2_with fail;refine(b3 _).mono ?_;rintro e w3 ⟨s3,rfl,d6,h3⟩;have b5:=aW b4 h3;have q3:¬9223372036854775807<4+s1.size+s2.size+s3.size:=by omega
 obtain⟨T0,a8⟩:∃T0,T0=H++s1++s2++s3:=⟨_,rfl⟩;have d7:=hid (show T0.size=20 by rw[a8];simp only[rG];omega);clear b3 b4 h3;go_wp2_with fail;rw[HH.out,<-a8];clear a8 q1 q2 q3 c9 d5 d6 HH c8
 go_loopg [7,8,9] l.length (fun g s7 s8 _s9 wr=>∃(k:Nat) (T:ByteArray),k<=l.length/\g=l.length-k/\s8=.int .i64 (k:Int)/\s7=.string T/\Hid (T.size=20+26*k)/\Below w.heap.size w wr)
 case atStart=>exact⟨0,T0,aO _,rfl,rfl,rfl,d7,b5⟩
 case round=>
  obtain⟨k,T,hk,hg,rfl,rfl,HT,d⟩:=hrel;have HG:=hid hg;clear hg b5
  by_cases d8:k<l.length
  ·have t1:decide ((k:Int)<(l.length:Int))=true:=aG (by omega);obtain⟨b,off,rfl,V,hc⟩:=hA (by omega);obtain⟨x,hx⟩:∃x,l[k]? =some x:=⟨_,aN d8⟩;obtain⟨x0,x1,x2,x3,x4⟩:=hc k x hx;clear hc hx hA;obtain⟨Y,xr,xf,xn,xy⟩:=x;have c0:=(d.cell (p:=⟨b,off+k*5,none⟩) V).trans x0;have c1:=(d.cell (p:=⟨b,off+k*5+1,none⟩) V).trans x1;have c2:=(d.cell (p:=⟨b,off+k*5+2,none⟩) V).trans x2;have c3:=(d.cell (p:=⟨b,off+k*5+3,none⟩) V).trans x3;have c4:=(d.cell (p:=⟨b,off+k*5+4,none⟩) V).trans x4;dsimp only at c0 c1 c2 c3 c4;clear x0 x1 x2 x3 x4;obtain⟨na,la,ea,a0⟩:=GT Y
   obtain⟨nr,lr,er,a1⟩:=GT xr;obtain⟨nf,lf,ef,a2⟩:=GT xf;obtain⟨nn,ln,en,a3⟩:=GT xn;obtain⟨ny,ly,ey,a4⟩:=GT xy;have b6:=fun W=>GU na 8 8 rfl W la (by decide)
   have b7:=fun W=>GU nr 2 2 rfl W lr (by decide)
   have b8:=fun W=>GU nf 8 8 rfl W lf (by decide)
   have b9:=fun W=>GU nn 4 4 rfl W ln (by decide)
   have c5:=fun W=>GU ny 4 4 rfl W ly (by decide)
   have h:=Arr.new wr 47 [.int .i64 Y,.int .i64 xr,.int .i64 xf,.int .i64 xn,.int .u32 xy];change Arr (wr.alloc (.cells #[.int .i64 Y,.int .i64 xr,.int .i64 xf,.int .i64 xn,.int .u32 xy] 47)) _ _ _ at h;have D:=d.alloc d.size (.cells #[.int .i64 Y,.int .i64 xr,.int .i64 xf,.int .i64 xn,.int .u32 xy] 47);have a9:=D.size;obtain⟨Z,hZ⟩:∃Z,Z=wr.heap.size:=⟨_,rfl⟩;obtain⟨B,hB⟩:∃B,B=w.heap.size:=⟨_,rfl⟩;rw[<-hB] at D a9;clear la lr lf ln ly;go_wp2_with fail;rw[<-hZ] at h ⊢;generalize wr.alloc (.cells #[.int .i64 Y,.int .i64 xr,.int .i64 xf,.int .i64 xn,.int .u32 xy] 47)=wa at*
   have d0:=h.cell (i:=0) rfl;have d1:=h.cell (i:=1) rfl;have d2:=h.cell (i:=2) rfl;have d3:=h.cell (i:=3) rfl;have d4:=h.cell (i:=4) rfl;have e4:T.size<=30000:=by have:=HT.out;omega
   have d9:=aKz (w0:=w) (z:=Z) ⟨d0,d1,d2,d3,d4,D,a9⟩ (aH wa.heap.size wa).drew;clear c0 c1 c2 c3 c4 h D a9 hZ d V t1 d0 d1 d2 d3 d4
   go_region_held3 (fun F=>F.cell? ⟨Z,0,none⟩=some (.int .i64 Y)/\F.cell? ⟨Z,1,none⟩=some (.int .i64 xr)/\F.cell? ⟨Z,2,none⟩=some (.int .i64 xf)/\F.cell? ⟨Z,3,none⟩=some (.int .i64 xn)/\F.cell? ⟨Z,4,none⟩=some (.int .u32 xy)/\Below B w F/\B<=F.heap.size)
    (first
     |with_reducible assumption
     |with_reducible exact aKz (by assumption) (by assumption))
    (first
     |(go_at_call 31;with_reducible refine(b6 _).mono ?_;rintro e w4 ⟨sa,rfl,A,h4⟩;replace A:=hid A;have qa:¬9223372036854775807<T.size+sa.size:=by have:=A.out;clear I J L M O U ea a0 er a1 ef a2 en a3 ey a4;omega)
     |(go_at_call 31;with_reducible refine(b7 _).mono ?_;rintro e w4 ⟨sr,rfl,G,h4⟩;replace G:=hid G;have qr:¬9223372036854775807<T.size+sa.size+sr.size:=by have:=A.out;have:=G.out;clear I J L M O U ea a0 er a1 ef a2 en a3 ey a4;omega)
     |(go_at_call 31;with_reducible refine(b8 _).mono ?_;rintro e w4 ⟨sf,rfl,a5,h4⟩;replace a5:=hid a5;have qf:¬9223372036854775807<T.size+sa.size+sr.size+sf.size:=by have:=A.out;have:=G.out;have:=a5.out;clear I J L M O U ea a0 er a1 ef a2 en a3 ey a4;omega)
     |(go_at_call 31;with_reducible refine(b9 _).mono ?_;rintro e w4 ⟨sn,rfl,a6,h4⟩;replace a6:=hid a6;have qn:¬9223372036854775807<T.size+sa.size+sr.size+sf.size+sn.size:=by have:=A.out;have:=G.out;have:=a5.out;have:=a6.out;clear I J L M O U ea a0 er a1 ef a2 en a3 ey a4;omega)
     |(go_at_call 31;with_reducible refine(c5 _).mono ?_;rintro e w4 ⟨sy,rfl,a7,h4⟩;replace a7:=hid a7;have qy:¬9223372036854775807<T.size+sa.size+sr.size+sf.size+sn.size+sy.size:=by have:=A.out;have:=G.out;have:=a5.out;have:=a6.out;have:=a7.out;clear I J L M O U ea a0 er a1 ef a2 en a3 ey a4;omega))
   all_goals
    rename_i e0
    obtain⟨-,-,-,-,-,c6,e5⟩:=e0;obtain⟨T',b0⟩:∃T',T'=T++sa++sr++sf++sn++sy:=⟨_,rfl⟩;have e1:=hid (show T'.size=20+26*(k+1) by
     rw[b0];simp only[rG];have:=HT.out;have:=A.out;have:=G.out;have:=a5.out;have:=a6.out;have:=a7.out;omega)
    rw[hB] at c6;rw[<-b0];clear b0 qa qr qf qn qy d9 b6 b7 b8 b9 c5 ea a0 er a1 ef a2 en a3 ey a4 I J L M O U;go_wp2_with fail;have hg:=HG.out
    go_roundg (l.length-(k+1))
    case measure=>omega
    case rel=>exact⟨k+1,T',by omega,rfl,by go_num,rfl,e1,c6⟩
  ·have t1:decide ((k:Int)<(l.length:Int))=false:=aE (by omega);have e6:k=l.length:=by omega
   have e2:T.size<=30000:=by have:=HT.out;omega
   clear HG hA;go_wp2_with fail;go_ret;exact⟨_,rfl,e2,d⟩
def bIu (x:Ent):List UInt8:=beL 8 (x.a%18446744073709551616).toNat++(beL 2 (x.r%18446744073709551616).toNat++(beL 8 (x.f%18446744073709551616).toNat++(beL 4 (x.n%18446744073709551616).toNat++beL 4 (x.y%18446744073709551616).toNat)))
def bIs (size C n:Nat) (l:List Ent):List UInt8:=[80,77,105,49]++(beL 8 size++(beL 4 C++(beL 4 n++(l.map bIu).flatten)))
theorem bJc {size C n k:Nat} {l:List Ent} {x:Ent} (h:l[k]? =some x):bIs size C n (l.take (k+1))=bIs size C n (l.take k)++bIu x:=by
 unfold bIs;rw[cG,h];simp
theorem bJd {x:Ent} (h:x.fit):bIu x=rV x:=by
 obtain⟨d,G,e,H,A,I,D,J,F,L⟩:=h;unfold bIu rV;rw[PG d (by omega),PG e (by omega),PG A (by omega),PG D (by omega),PG F (by omega)]
theorem bJe {size C:Nat} {l:List Ent} (h:∀x∈l,x.fit):bIs size C l.length l=oM size C l:=by
 unfold bIs oM
 congr 4
 induction l with
 |nil=>rfl
 |cons x l d=>
  rw[kI,List.flatten_cons,bJd (h x (jK ..)),d (fun y e=>h y (iQ _ e))];rfl
theorem bIw (V n:Nat) (w:World) (hV:V<18446744073709551616) (hn:n<=8):
  Calls pG 31 #[.int .u64 (V:Int),.int .i64 (n:Int)] w fun e w'=>∃s:ByteArray,e=.returned (.string s)/\(s.size=n/\s.data.toList=beL n V)/\Below w.heap.size w w':=by
 have m0:aJ.wrap ((n:Int)-1)=(n:Int)-1:=by rw[aM];omega
 go_enter func31,ntmps31;go_wp2_with fail
 go_loopg [5,6] n (fun g M O wr=>∃(k:Nat) (r:List UInt8),k<=n/\g=k/\O=.int .i64 ((k:Int)-1)/\Hid (r.length+k=n/\r++beL k V=beL n V)/\OwB wr w.heap.size M r/\Below w.heap.size w wr)
 case atStart=>exact⟨n,[],aD _,rfl,rfl,hid ⟨iP _,rfl⟩,Ow.nil _ _ _,aH _ _⟩
 case round=>
  obtain⟨k,r,hk,H,rfl,d,hor,h⟩:=hrel;obtain rfl:=H.symm;have T:=h.size
  by_cases U:k=0
  ·subst U;have Y:decide (((0:Nat):Int)-1>=0)=false:=aE (by omega);have Z:decide (0<=((0:Nat):Int)-1)=false:=aE (by omega);have a3:(convert 61 9 u5).run pG wr=.ok (.string (mkS r)) wr:=mP hor.rd;have a4:(convert 61 9 u5).run pG wr.drew=.ok (.string (mkS r)) wr.drew:=mP (w:=wr.drew) (OwB.rd (w:=wr.drew) hor);clear H;go_wp2_with fail;go_ret;exact⟨_,rfl,⟨by rw[cS];have:=d.out.1;omega,by rw[dP,<-d.out.2];exact(dI _).symm⟩,h⟩
  ·obtain⟨j,rfl⟩:∃j,k=j+1:=⟨k-1,by omega⟩;obtain⟨D,I⟩:∃D,D=8*j:=⟨_,rfl⟩;have a5:D<=56:=by omega
   have J:((j+1:Nat):Int)-1=(j:Int):=by omega
   rw[J];have Y:decide ((j:Int)>=0)=true:=aG (by omega);have Z:decide (0<=(j:Int))=true:=aG (by omega);have e7:min D 64=D:=by omega
   have mD:aJ.wrap (8*(j:Int))=(D:Int):=by rw[aM];omega
   have a6:8*(j:Int)=(D:Int):=by omega
   obtain⟨Q,A⟩:∃Q:Nat,Q=V/2^D:=⟨_,rfl⟩;have e3:(V:Int)/2^D=(Q:Int):=by rw[A];exact CE V D
   obtain⟨b,F⟩:∃b:UInt8,b=eA (Q%256):=⟨_,rfl⟩;have G:b.toNat=Q%256:=by rw[F,nD];omega
   have e4:(Q:Int).tmod 256=(b.toNat:Int):=by rw[mL (by omega),G];omega
   have e5:(Q:Int)%256=(b.toNat:Int):=by rw[G];omega
   have a7:=b.toNat_lt;have e6:oQ.wrap (b.toNat:Int)=(b.toNat:Int):=by rw[sG];omega
   have e8:(b.toNat:Int)%256=(b.toNat:Int):=by omega
   have mj:aJ.wrap ((j:Int)-1)=(j:Int)-1:=by rw[aM];omega
   have a8:r.length<=1000008:=by have:=d.out.1;omega
   have L:b=eA (V/256^j):=by
    rw[F,A,I,show(2:Nat)^(8*j)=256^j by rw[Nat.pow_mul]];exact UInt8.toNat_inj.1 (by rw[nD,nD];omega)
   have a0:=hid (show(r++[b]).length+j=n/\(r++[b])++beL j V=beL n V by
    refine⟨by have:=d.out.1;rw[aL,fQ];omega,?_⟩;rw[bU,L,<-d.out.2];rfl)
   clear L;clear F I J A G;go_wp2_with (at_builtin;refine FB rfl _ _ rfl w.heap.size _ _ rfl (Ow.alloc hor _) wr.heap.size b rfl ?_ ?_ ?_ ?_;(exact bX _ _ _);(omega);(simp;omega);intro v' w3 a1 a2 a9)
   go_roundg j
   case measure=>omega
   case rel=>exact⟨j,r++[b],by omega,rfl,rfl,a0,a1,(h.alloc T _).trans a2⟩
theorem bIv (V n:Nat) (m:Int) (d:m=(n:Int)) (w:World) (h:V<18446744073709551616) (A:n<=8):
  Calls pG 31 #[.int .u64 (V:Int),.int .i64 m] w fun e w'=>∃s:ByteArray,e=.returned (.string s)/\(s.size=n/\s.data.toList=beL n V)/\Below w.heap.size w w':=by subst d;exact bIw V n w h A
theorem bJf (size C:Nat) (v:Value) (l:List Ent) (w:World) (hr:RdR w v (l.map bG)) (hl:l.length<=1000) (hs:size<9223372036854775808) (hC:C<4294967296):
  Calls pG 12 #[.int .i64 (size:Int),.int .u32 (C:Int),v] w fun e w'=>∃s:ByteArray,e=.returned (.string s)/\s.data.toList=bIs size C l.length l/\Below w.heap.size w w':=by
 obtain⟨a,ca,rfl,e7,d6,hA⟩:=nS hr;unfold maxLen at d6;have V:eZ.wrap (size:Int)=(size:Int):=by rw[fC];omega
 have Y:(size:Int)%18446744073709551616=(size:Int):=by omega
 have m2:eZ.wrap (C:Int)=(C:Int):=by rw[fC];omega
 have a0:(C:Int)%18446744073709551616=(C:Int):=by omega
 have m3:eZ.wrap (l.length:Int)=(l.length:Int):=by rw[fC];omega
 have a1:(l.length:Int)%18446744073709551616=(l.length:Int):=by omega
 have b2:=fun W=>bIw size 8 W (by omega) (by decide)
 have b3:=fun W=>bIw C 4 W (by omega) (by decide)
 have b4:=fun W=>bIw l.length 4 W (by omega) (by decide)
 obtain⟨H,hH⟩:∃H:ByteArray,H=⟨#[80,77,105,49]⟩:=⟨_,rfl⟩;have d7:H.size=4:=by rw[hH];rfl
 have HH:=hid hH.symm;clear hr hH;go_enter func12,ntmps12;go_wp2_with fail;refine(b2 _).mono ?_;rintro e w1 ⟨s1,rfl,⟨d8,b5⟩,F⟩;have q1:¬9223372036854775807<4+s1.size:=by omega
 clear b2;go_wp2_with fail;refine(b3 _).mono ?_;rintro e w2 ⟨s2,rfl,⟨d9,b6⟩,h2⟩;have b7:=aW F h2;have q2:¬9223372036854775807<4+s1.size+s2.size:=by omega
 clear b3 F h2;go_wp2_with fail;refine(b4 _).mono ?_;rintro e w3 ⟨s3,rfl,⟨e0,b8⟩,h3⟩;have b9:=aW b7 h3;have q3:¬9223372036854775807<4+s1.size+s2.size+s3.size:=by omega
 obtain⟨T0,a9⟩:∃T0,T0=H++s1++s2++s3:=⟨_,rfl⟩;have e1:=hid (show T0.size=20/\T0.data.toList=bIs size C l.length (l.take 0) by
  refine⟨by rw[a9];simp only[rG];omega,?_⟩;rw[a9,BC,BC,BC,BD,BD,BD,b5,b6,b8,<-HH.out,wX];unfold bIs;simp)
 clear b5 b6 b8;clear b4 b7 h3;go_wp2_with fail;rw[HH.out,<-a9];clear a9 q1 q2 q3 d8 d9 e0 HH d7
 go_loopg [7,8,9] l.length (fun g s7 s8 _s9 wr=>∃(k:Nat) (T:ByteArray),k<=l.length/\g=l.length-k/\s8=.int .i64 (k:Int)/\s7=.string T/\Hid (T.size=20+26*k/\T.data.toList=bIs size C l.length (l.take k))/\Below w.heap.size w wr)
 case atStart=>exact⟨0,T0,aO _,rfl,rfl,rfl,e1,b9⟩
 case round=>
  obtain⟨k,T,hk,hg,rfl,rfl,HT,d⟩:=hrel;have HG:=hid hg;clear hg b9
  by_cases e2:k<l.length
  ·have t1:decide ((k:Int)<(l.length:Int))=true:=aG (by omega);obtain⟨b,off,rfl,hb,hc⟩:=hA (by omega);obtain⟨x,hx⟩:∃x,l[k]? =some x:=⟨_,aN e2⟩;obtain⟨x0,x1,x2,x3,x4⟩:=hc k x hx;have HX:=hid hx;clear hc hx hA;obtain⟨G,I,J,L,M⟩:=x;have c0:=(d.cell (p:=⟨b,off+k*5,none⟩) hb).trans x0;have c1:=(d.cell (p:=⟨b,off+k*5+1,none⟩) hb).trans x1;have c2:=(d.cell (p:=⟨b,off+k*5+2,none⟩) hb).trans x2;have c3:=(d.cell (p:=⟨b,off+k*5+3,none⟩) hb).trans x3;have c4:=(d.cell (p:=⟨b,off+k*5+4,none⟩) hb).trans x4;dsimp only at c0 c1 c2 c3 c4;clear x0 x1 x2 x3 x4;obtain⟨na,la,ea,a2⟩:=GT G
   obtain⟨nr,lr,er,a3⟩:=GT I;obtain⟨nf,lf,ef,a4⟩:=GT J;obtain⟨nn,ln,en,a5⟩:=GT L;obtain⟨ny,ly,ey,a6⟩:=GT M;have HU:=hid (show na=(G%18446744073709551616).toNat/\nr=(I%18446744073709551616).toNat/\nf=(J%18446744073709551616).toNat/\nn=(L%18446744073709551616).toNat/\ny=(M%18446744073709551616).toNat by omega);have c5:=fun W=>bIv na 8 8 rfl W la (by decide)
   have c6:=fun W=>bIv nr 2 2 rfl W lr (by decide)
   have c7:=fun W=>bIv nf 8 8 rfl W lf (by decide)
   have c8:=fun W=>bIv nn 4 4 rfl W ln (by decide)
   have c9:=fun W=>bIv ny 4 4 rfl W ly (by decide)
   have A:=Arr.new wr 47 [.int .i64 G,.int .i64 I,.int .i64 J,.int .i64 L,.int .u32 M];change Arr (wr.alloc (.cells #[.int .i64 G,.int .i64 I,.int .i64 J,.int .i64 L,.int .u32 M] 47)) _ _ _ at A;have F:=d.alloc d.size (.cells #[.int .i64 G,.int .i64 I,.int .i64 J,.int .i64 L,.int .u32 M] 47);have b1:=F.size;obtain⟨Z,hZ⟩:∃Z,Z=wr.heap.size:=⟨_,rfl⟩;obtain⟨B,hB⟩:∃B,B=w.heap.size:=⟨_,rfl⟩;rw[<-hB] at F b1;clear la lr lf ln ly;go_wp2_with fail;rw[<-hZ] at A ⊢;generalize wr.alloc (.cells #[.int .i64 G,.int .i64 I,.int .i64 J,.int .i64 L,.int .u32 M] 47)=wa at*
   have d0:=A.cell (i:=0) rfl;have d1:=A.cell (i:=1) rfl;have d2:=A.cell (i:=2) rfl;have d3:=A.cell (i:=3) rfl;have d4:=A.cell (i:=4) rfl;have e8:T.size<=30000:=by have:=HT.out.1;omega
   have e3:=aKz (w0:=w) (z:=Z) ⟨d0,d1,d2,d3,d4,F,b1⟩ (aH wa.heap.size wa).drew;clear c0 c1 c2 c3 c4 A F b1 hZ d hb t1 d0 d1 d2 d3 d4
   go_region_held3 (fun O=>O.cell? ⟨Z,0,none⟩=some (.int .i64 G)/\O.cell? ⟨Z,1,none⟩=some (.int .i64 I)/\O.cell? ⟨Z,2,none⟩=some (.int .i64 J)/\O.cell? ⟨Z,3,none⟩=some (.int .i64 L)/\O.cell? ⟨Z,4,none⟩=some (.int .u32 M)/\Below B w O/\B<=O.heap.size)
    (first
     |with_reducible assumption
     |with_reducible exact aKz (by assumption) (by assumption))
    (first
     |(go_at_call 31;with_reducible refine(c5 _).mono ?_;rintro e w4 ⟨sa,rfl,h,h4⟩;replace h:=hid h;have qa:¬9223372036854775807<T.size+sa.size:=by have:=h.out.1;clear V Y m2 a0 m3 a1 ea a2 er a3 ef a4 en a5 ey a6;omega)
     |(go_at_call 31;with_reducible refine(c6 _).mono ?_;rintro e w4 ⟨sr,rfl,D,h4⟩;replace D:=hid D;have qr:¬9223372036854775807<T.size+sa.size+sr.size:=by have:=h.out.1;have:=D.out.1;clear V Y m2 a0 m3 a1 ea a2 er a3 ef a4 en a5 ey a6;omega)
     |(go_at_call 31;with_reducible refine(c7 _).mono ?_;rintro e w4 ⟨sf,rfl,U,h4⟩;replace U:=hid U;have qf:¬9223372036854775807<T.size+sa.size+sr.size+sf.size:=by have:=h.out.1;have:=D.out.1;have:=U.out.1;clear V Y m2 a0 m3 a1 ea a2 er a3 ef a4 en a5 ey a6;omega)
     |(go_at_call 31;with_reducible refine(c8 _).mono ?_;rintro e w4 ⟨sn,rfl,a7,h4⟩;replace a7:=hid a7;have qn:¬9223372036854775807<T.size+sa.size+sr.size+sf.size+sn.size:=by have:=h.out.1;have:=D.out.1;have:=U.out.1;have:=a7.out.1;clear V Y m2 a0 m3 a1 ea a2 er a3 ef a4 en a5 ey a6;omega)
     |(go_at_call 31;with_reducible refine(c9 _).mono ?_;rintro e w4 ⟨sy,rfl,a8,h4⟩;replace a8:=hid a8;have qy:¬9223372036854775807<T.size+sa.size+sr.size+sf.size+sn.size+sy.size:=by have:=h.out.1;have:=D.out.1;have:=U.out.1;have:=a7.out.1;have:=a8.out.1;clear V Y m2 a0 m3 a1 ea a2 er a3 ef a4 en a5 ey a6;omega))
   all_goals
    rename_i e4
    obtain⟨-,-,-,-,-,d5,e9⟩:=e4;obtain⟨T',b0⟩:∃T',T'=T++sa++sr++sf++sn++sy:=⟨_,rfl⟩;have e5:=hid (show T'.size=20+26*(k+1)/\T'.data.toList=bIs size C l.length (l.take (k+1)) by
     refine⟨?_,by rw[b0,bJc HX.out,<-HT.out.2];simp only[BC,BD,h.out.2,D.out.2,U.out.2,a7.out.2,a8.out.2,bU,bIu,<-HU.out.1,<-HU.out.2.1,<-HU.out.2.2.1,<-HU.out.2.2.2.1,<-HU.out.2.2.2.2]⟩;rw[b0];simp only[rG];have:=HT.out.1;have:=h.out.1;have:=D.out.1;have:=U.out.1;have:=a7.out.1;have:=a8.out.1;omega)
    rw[hB] at d5;rw[<-b0];clear b0 qa qr qf qn qy e3 c5 c6 c7 c8 c9 ea a2 er a3 ef a4 en a5 ey a6 V Y m2 a0 m3 a1;go_wp2_with fail;have hg:=HG.out
    go_roundg (l.length-(k+1))
    case measure=>omega
    case rel=>exact⟨k+1,T',by omega,rfl,by go_num,rfl,e5,d5⟩
  ·have t1:decide ((k:Int)<(l.length:Int))=false:=aE (by omega);have f0:k=l.length:=by omega
   have e6:=hid (show T.data.toList=bIs size C l.length l by rw[HT.out.2,cD (by omega)]);clear HG hA;go_wp2_with fail;go_ret;exact⟨_,rfl,e6.out,d⟩
end
end Go.Proofs.YtfplbbphficcjaaGreatDoor
