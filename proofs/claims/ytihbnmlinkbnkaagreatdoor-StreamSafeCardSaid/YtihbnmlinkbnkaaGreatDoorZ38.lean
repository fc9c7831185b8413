/-
  Texts put together (part 38): the walks and the plain laws on which the statement stands.
-/
import Derived.Test.YtihbnmlinkbnkaaGreatDoorZ35
import Derived.Test.YtihbnmlinkbnkaaGreatDoorZ36
set_option maxRecDepth 100000
set_option maxHeartbeats 12800000
set_option linter.unusedVariables false
set_option linter.unusedSimpArgs false
open Go.Proofs.Tryz
open Go.Proofs.Tryz renaming prog->pG
open Go.Act renaming put->bJ
open Go.AllReadyH renaming cons->DG,nil->WI
open Go.IntKind renaming u8->oQ,wrap_u8->sG
open Go.RowKit.Below renaming refl->aH
open Go.World renaming size_alloc->fP
open Go.World.ownsRow renaming kept->yJ
open Int renaming toNat_natCast->fL
open List renaming append_nil->dI,flatten_cons->kW,getElem?_cons_succ->gH,getElem?_cons_zero->gB,getElem?_eq_getElem->aN,getElem?_toArray->gA,length_cons->aU,length_map->aS,length_nil->aV,length_take->aQ,map_append->dY,mem_cons_of_mem->iQ,mem_cons_self->jK,setIfInBounds_toArray->bK,set_cons_succ->bB,set_cons_zero->bH,size_toArray->dB,take_add_one->cG,take_length->jS
open Nat renaming le_refl->aD,le_trans->aR,reduceAdd->cV,reduceSub->dC,zero_le->aO
open Option.some renaming inj->cC
open Or renaming inl->gJ,inr->gI
namespace Go.Proofs.YtihbnmlinkbnkaaGreatDoor
open Go.RowKit Go Go.Shelf
theorem aIm (s:List UInt8):aI (eR s)=s:=by grind [BS,iJ,qU,tR,wA,aI,eR]
def oH (r:Int):List ByteArray->Int
 |[]=>0
 |t::l=>if jZ t r≠0 then jZ t r else oH r l
def wrE (n:Int) (l:List ByteArray):Int:=if n<1\/9<n then 1 else oH (40*n) l
theorem AA {r:Int}:∀{l:List ByteArray},(∀t∈l,jZ t r=0)->oH r l=0
 |[],_=>rfl
 |x::l,h=>by
  unfold oH;rw[aA (fun k=>k (h x (jK ..)))];exact AA (fun t d=>h t (iQ _ d))
theorem UL {r:Int}:∀{l:List ByteArray} {k:Nat},(∀t∈l.take k,jZ t r=0)->oH r l=oH r (l.drop k)
 |_,0,_=>rfl
 |[],_+1,_=>rfl
 |x::l,k+1,h=>by
  show oH r (x::l)=oH r (l.drop k)
  conv=>lhs;unfold oH
  rw[aA (fun q=>q (h x (by simp)))];exact UL (fun t d=>h t (by grind))
theorem aIl {t:ByteArray} {r:Int} (h:jZ t r=0) (d:iZ (mkS (bT t.data.toList))):okT r t:=by grind [bBx,jZ,iZ,mkS,bT,okT]
theorem yC {r:Int} (d:r<=360):∀(l:List ByteArray),(∀t∈l,okT r t)->(fN l).length<=28000*l.length
 |[],_=>aD _
 |t::l,h=>by
  obtain⟨F,G,H⟩:=h t (jK ..);have I:=yC d l (fun x A=>h x (iQ _ A))
  grind [bBw,MV,okT,fN]
def iH (l:List ByteArray):ByteArray:=mkS (l.map (fun t=>t.data.toList)).flatten
theorem MX (x y:List ByteArray):(iH (x++y)).data.toList=(iH x).data.toList++(iH y).data.toList:=by simp[iH,dP]
def oI (l:List ByteArray):List Value:=l.map Value.string
def RdT (w:World) (v:Value) (l:List ByteArray):Prop:=Rd w v l.length (oI l)
theorem FX (l:List ByteArray):(oI l).length=l.length:=aS ..
theorem RdT.below {w w':World} {v:Value} {l:List ByteArray} (h:RdT w v l) (d:Below w.heap.size w w'):RdT w' v l:=Rd.below h d
theorem RdT.open {w:World} {v:Value} {l:List ByteArray} (h:RdT w v l):
  ∃a cap,v=.slice a l.length cap/\l.length<=cap/\cap<=maxLen/\
   (0<l.length->∃b off,a=some ⟨b,off,none⟩/\b<w.heap.size/\∀j x,l[j]? =some x->w.cell? ⟨b,off+j,none⟩=some (.string x)):=by
 obtain⟨a,cap,rfl,F,G,d⟩:=h;refine⟨a,cap,rfl,F,G,fun L=>?_⟩;rcases d with d|⟨b,off,rfl,H,I⟩
 ·have:=congrArg List.length d;rw[FX,aV] at this;omega
 ·refine⟨b,off,rfl,H,fun j x A=>?_⟩;have J:=(List.getElem?_eq_some_iff.1 A).1;have e:(oI l)[j]? =some (.string x):=by unfold oI;rw[List.getElem?_map,A];rfl
  rw[I j (by rw[FX];exact J),List.getD_eq_getElem?_getD,e];rfl
theorem eO.lit {w:World} {g B:Nat} {l:List Bool} (h:Arr w g 79 (fD l)) (d:B<=g):eO w B (.slice (some ⟨g,0,none⟩) 1 1) [l]:=by
 unfold eO;rw[List.flatMap_cons,List.flatMap_nil,dI];exact⟨rfl,.inr ⟨g,1,(fD l).toArray,rfl,d,h,aD _,by simp[maxLen],rfl,rfl⟩⟩
theorem MY {w w':World} {B e A n B' F I J:Nat} {v G:Value} {H L:List Value} (h:w.ownsRow B e A v n H) (M:w.ownsRow B' F I G J L) (O:w.grownBy w' G.ownBlock) (U:e≠F):w'.ownsRow B e A v n H:=by
 refine yJ h O ?_;rcases h.2 with⟨rfl,_⟩|⟨g,cap,Z,rfl,_,V,_⟩
 ·exact .inl rfl
 ·refine .inr fun q=>?_
  rcases M.2 with⟨rfl,_⟩|⟨g',a0,a1,rfl,_,d,_⟩
  ·cases q
  ·obtain rfl:=cC q;rw[V] at d
   injection d with d
   injection d with _ q2 _
   exact U q2
theorem bBy:ElT pG 81 44 4 (.int .u32 0):=ElT.mk' (by kernel_rfl) underlying81 rfl (by decide)
theorem aIn {A:Array Oper} {rest:List Oper} {o:Oper} {a:Act} {Q:Exit->Act->World->Prop} {w:World} (F:o.guard=none) (s x:Operand)
  (G:o.op=.call {callee:=.builtin .append,args:=#[s,x],argTypes:=#[81,81]}) (base:Nat) (v:Value) (l:List (BitVec 32)) (hs:a.eval s=v) (hown:OwS w base v l)
  (g:Nat) (n:BitVec 32) (hx:a.eval x=.slice (some ⟨g,0,none⟩) 1 1) (hc:w.cell? ⟨g,0,none⟩=some (.int .u32 (n.toNat:Int))) (hroom:(l.length+1)*4<=140737488355328) (hbase:base<=w.heap.size)
  (h:∀d w',OwS w' base d (l++[n])->Below base w w'->w.grownBy w' v.ownBlock->wpList pG A Q rest (a.put o.dst d) w'):wpList pG A Q (o::rest) a w:=
 tM bBy F s x G base v _ hs hown g _ hx hc rfl (by simpa [uX] using hroom) hbase (fun d w' H I J=>h d w' (by unfold OwS uX;rw[dY];exact H) I J)
theorem UM {w0 w1 w2:World} {z:Nat} (h:Below z w0 w1/\z+1<=w1.heap.size/\∃d A,Arr w1 z 79 [d,A]) (F:Below w1.heap.size w1 w2):Below z w0 w2/\z+1<=w2.heap.size/\∃d A,Arr w2 z 79 [d,A]:=by
 obtain⟨H,I,d,A,G⟩:=h;exact⟨H.trans (F.mono (by omega)),aR I F.size,d,A,G.below F G.lt⟩
theorem aIp {w0 w1:World} {z:Nat} (h:Below z w0 w1/\z+1<=w1.heap.size/\∃d A,Arr w1 z 79 [d,A]) (F G:Value) (w2:World) (H:w2=(w1.setCell ⟨z,0,none⟩ F).setCell ⟨z,1,none⟩ G):Below z w0 w2/\z+1<=w2.heap.size/\∃d A,Arr w2 z 79 [d,A]:=by
 obtain⟨I,J,d,A,L⟩:=h;subst H;exact⟨(I.setCell (p:=⟨z,0,none⟩) (aD _) F).setCell (p:=⟨z,1,none⟩) (aD _) G,by simpa using J,F,G,(L.set 0 F).set 1 G⟩
def aIo (w w':World) (n:Int) (l:List ByteArray) (e:Ending):Prop:=
 (wrE n l=0/\e=.returned (.tuple #[.string (mkS (aI (cM n.toNat l))),.int .i64 0])/\(∀t∈l,okT (40*n) t)/\Below w.heap.size w w')\/(wrE n l≠0/\e=.returned (.tuple #[.string ⟨#[]⟩,.int .i64 (wrE n l)])/\Below w.heap.size w w')
theorem UN (n:Int) (v:Value) (l:List ByteArray) (w:World) (hr:RdT w v l) (hl:l.length<=100000) (k0:∀t∈l,t.size<=100000) (m9: -9223372036854775808<=n) (o0:n<=9223372036854775807) (hb:∀k≤l.length,(∀t∈l.take k,okT (40*n) t)->(fN (l.take k)).length<=800000):
  Calls pG 12 #[.int .i64 n,v] w fun e w'=>aIo w w' n l e:=by
 obtain⟨a,ca,rfl,o1,k1,hA⟩:=hr.open;unfold maxLen at k1
 by_cases hn:n<1\/9<n
 ·have hd:wrE n l=1:=by unfold wrE;rw[aB hn]
  by_cases h1:n<1
  ·have t1:decide (n<1)=true:=aG h1;go_enter func12,ntmps12;go_wp2_with fail
   go_ret2
   exact .inr ⟨by rw[hd];decide,by rw[hd];rfl,aH _ _⟩
  ·have t1:decide (n<1)=false:=aE h1;have t2:decide (n>9)=true:=aG (by omega);have t3:decide (9<n)=true:=aG (by omega);go_enter func12,ntmps12;go_wp2_with fail
   go_ret2
   exact .inr ⟨by rw[hd];decide,by rw[hd];rfl,aH _ _⟩
 obtain⟨N,rfl⟩:∃N:Nat,n=(N:Int):=⟨n.toNat,by omega⟩;have t1:decide ((N:Int)<1)=false:=aE (by omega);have t2:decide ((N:Int)>9)=false:=aE (by omega);have t3:decide (9<(N:Int))=false:=aE (by omega);obtain⟨M,hM⟩:∃M,M=40*N:=⟨_,rfl⟩;have o2:1<=M/\M<=360:=by omega
 have d5:40*(N:Int)=(M:Int):=by omega
 have m1:IntKind.i64.wrap ((N:Int)*40)=(M:Int):=by rw[show(N:Int)*40=(M:Int) by omega];exact lE M (by omega)
 have o3:(N:Int)*40=(M:Int):=by omega
 rw[d5] at hb;have b1:wrE (N:Int) l=oH (M:Int) l:=by unfold wrE;rw[aA (by omega),d5]
 obtain⟨c,hc⟩:∃c:UInt8,c=UInt8.ofNat (48+N):=⟨_,rfl⟩;have b2:c.toNat=48+N:=by rw[hc,UInt8.toNat_ofNat'];omega
 have m2:oQ.wrap (N:Int)=(N:Int):=by rw[sG];omega
 have k2:(N:Int)%256=(N:Int):=by omega
 have m3:oQ.wrap (48+(N:Int))=(c.toNat:Int):=by rw[sG,b2];omega
 have k3:48+(N:Int)=(c.toNat:Int):=by rw[b2];omega
 have k4:oQ.wrap (c.toNat:Int)=(c.toNat:Int):=by rw[sG,b2];omega
 have k5:(c.toNat:Int)%256=(c.toNat:Int):=by rw[b2];omega
 have i1:RdB (w.alloc (.cells #[.int .u8 (c.toNat:Int)] 5)) (.slice (some ⟨w.heap.size,0,none⟩) 1 1) [c]:=Arr.rdB (Arr.new w 5 [.int .u8 (c.toNat:Int)]) rfl (by decide);have k6:=mP i1;obtain⟨X,hX⟩:∃X:ByteArray,X=⟨#[80,77,107]⟩++mkS [c]:=⟨_,rfl⟩;have d6:X=mkS (aI (eR (iN N))):=by
  rw[hX,aIm,hc];rfl
 have k7:X.size=4:=by rw[d6,aIm,cS];rfl
 have k8:=hX.symm;have q0:¬9223372036854775807<X.size:=by omega
 have o4:=hid d6;have hO:eO ((w.alloc (.cells #[.int .u8 (c.toNat:Int)] 5)).alloc (.cells #[.string X,.int .i64 32] 79)) w.heap.size (.slice (some ⟨w.heap.size+1,0,none⟩) 1 1) [eR (iN N)]:=by
  have h:=Arr.new (w.alloc (.cells #[.int .u8 (c.toNat:Int)] 5)) 79 [.string X,.int .i64 32];rw[fP] at h;have e:fD (eR (iN N))=[.string X,.int .i64 32]:=by unfold fD;rw[<-d6,qU];rfl
  exact eO.lit (by rw[e];exact h) (Nat.le_succ _)
 have e8:Below w.heap.size w ((w.alloc (.cells #[.int .u8 (c.toNat:Int)] 5)).alloc (.cells #[.string X,.int .i64 32] 79)):=((aH _ w).alloc (aD _) _).alloc (by simp) _;clear hc hX d6 i1 hM b2 hr;go_enter func12,ntmps12;go_wp2_with fail;generalize (w.alloc (.cells #[.int .u8 (c.toNat:Int)] 5)).alloc (.cells #[.string X,.int .i64 32] 79)=W0 at*
 have k9:w.heap.size<=W0.heap.size:=e8.size;clear k6 k8 q0 k7 m2 k2 m3 k3 k4 k5 t2 t3
 go_loopg [4,5,6,7,9,10,11,32] l.length (fun g c4 c5 s6 s7 _c9 _c10 _c11 l1 wr=>∃k:Nat,k<=l.length/\g=l.length-k/\l1=.int .i64 (k:Int)/\c4=.string ⟨#[]⟩/\c5=.int .i64 0/\eO wr w.heap.size s6 (eR (iN N)::(l.take k).map eJ)/\OwS wr w.heap.size s7 ((l.take k).map (fun t=>cH t.data.toList))/\Below w.heap.size w wr/\Hid (∀t∈l.take k,okT (M:Int) t/\jZ t (M:Int)=0))
 case atStart=>exact⟨0,aO _,rfl,rfl,rfl,rfl,hO,Ow.nil _ _ _,e8,hid (by simp)⟩
 case round=>
  clear hO e8 k9;obtain⟨k,hk,hg,rfl,rfl,rfl,b3,b4,a8,a9⟩:=hrel;have HG:=hid hg;have d7:=a8.size;clear hg
  by_cases e9:k<l.length
  ·have t4:decide ((k:Int)<(l.length:Int))=true:=aG (by omega);obtain⟨b,off,rfl,l2,hc⟩:=hA (by omega);obtain⟨t,J⟩:∃t,l[k]? =some t:=⟨_,aN e9⟩;have c1:=(a8.cell (p:=⟨b,off+k,none⟩) l2).trans (hc k t J);have l3:=k0 t (List.mem_of_getElem? J);have b5:=fun W=>bBr t (M:Int) W l3
   unfold FV at b5;have i2:oH (M:Int) l=oH (M:Int) (t::l.drop (k+1)):=by
    rw[UL (k:=k) (fun u I=>(a9.out u I).2),List.drop_eq_getElem_cons e9];rw[aN e9] at J;rw[cC J]
   obtain⟨E,hE⟩:∃E,E=jZ t (M:Int):=⟨_,rfl⟩;obtain⟨Y,hY⟩:∃Y,Y=tB t (M:Int):=⟨_,rfl⟩;rw[<-hE,<-hY] at b5;unfold fT at b5;have HE:=hid hE;have HY:=hid hY;have f2:=hid i2;have HT:=hid J;clear hE hY i2 J hc hA;go_wp2_with fail;refine(b5 _).mono ?_;rintro e w1 ⟨rfl,d8,i3⟩;have i4:=eO.below b3 d8 (aD _);have i5:OwS w1 w.heap.size u7 ((l.take k).map (fun t=>cH t.data.toList)):=Ow.below b4 d8 (aD _);have d9:=a8.trans (d8.mono d7);have l4:=hid i3;have o5:=d9.size;clear b5 i3 d8 b3 b4 a8 d7
   by_cases h0:E=0
   rotate_left
   ·have t5:(E != 0)=true:=by rw[bne_iff_ne];exact h0
    have HF:=hid (show wrE (N:Int) l=E by
     rw[b1,f2.out];unfold oH;rw[<-HE.out,aB h0])
    clear b1 f2;go_wp2_with fail
    go_ret2
    exact .inr ⟨by rw[HF.out];exact h0,by rw[HF.out];rfl,d9.alloc (by omega) _⟩
   subst h0;have f3:=fun W=>zQ t W (by omega)
   have i6:Y=eJ t:=by rw[HY.out,aIk HE.out.symm]
   have l5:=hid (show ∀u∈l.take (k+1),okT (M:Int) u/\jZ u (M:Int)=0 by
    intro u I;rw[cG,HT.out] at I;rcases List.mem_append.1 I with I|I
    ·exact a9.out u I
    ·obtain rfl:u=t:=by simpa using I
     exact⟨aIl HE.out.symm (l4.out rfl),HE.out.symm⟩)
   have HB:=hid (show eR (iN N)::(l.take (k+1)).map eJ=(eR (iN N)::(l.take k).map eJ)++[Y] by
    rw[cG,HT.out,dY,i6];rfl)
   have HS:=hid (show(l.take (k+1)).map (fun t=>cH t.data.toList)=(l.take k).map (fun t=>cH t.data.toList)++[cH t.data.toList] by
    rw[cG,HT.out,dY];rfl)
   obtain⟨S,i7⟩:∃S,S=cH t.data.toList:=⟨_,rfl⟩;rw[<-i7] at f3 HS;have o6:(eR (iN N)::(l.take k).map eJ).length<=100001:=by rw[aU,aS,aQ];omega
   have o7:((l.take k).map (fun t=>cH t.data.toList)).length<=100000:=by rw[aS,aQ];omega
   obtain⟨z,hz⟩:∃z,z=w1.heap.size:=⟨_,rfl⟩;have L:=Arr.new (w1.alloc (.cells #[.string (mkS (aI Y)),.int .i64 (Y.length:Int)] 79)) 79 (fD Y);rw[fP] at L;have e0:=(i4.alloc (.cells #[.string (mkS (aI Y)),.int .i64 (Y.length:Int)] 79)).alloc (.cells (fD Y).toArray 79);have f4:OwS ((w1.alloc (.cells #[.string (mkS (aI Y)),.int .i64 (Y.length:Int)] 79)).alloc (.cells (fD Y).toArray 79)) w.heap.size u7 ((l.take k).map (fun t=>cH t.data.toList)):=(Ow.alloc (Ow.alloc i5 _) _)
   have e1:Below w.heap.size w ((w1.alloc (.cells #[.string (mkS (aI Y)),.int .i64 (Y.length:Int)] 79)).alloc (.cells (fD Y).toArray 79)):=(d9.alloc (by omega) _).alloc (by simp;omega) _;have i8:w.heap.size<=((w1.alloc (.cells #[.string (mkS (aI Y)),.int .i64 (Y.length:Int)] 79)).alloc (.cells (fD Y).toArray 79)).heap.size:=e1.size;change Arr ((w1.alloc (.cells #[.string (mkS (aI Y)),.int .i64 (Y.length:Int)] 79)).alloc (.cells #[.string (mkS (aI Y)),.int .i64 (Y.length:Int)] 79)) _ _ _ at L
   change eO ((w1.alloc (.cells #[.string (mkS (aI Y)),.int .i64 (Y.length:Int)] 79)).alloc (.cells #[.string (mkS (aI Y)),.int .i64 (Y.length:Int)] 79)) _ _ _ at e0;change OwS ((w1.alloc (.cells #[.string (mkS (aI Y)),.int .i64 (Y.length:Int)] 79)).alloc (.cells #[.string (mkS (aI Y)),.int .i64 (Y.length:Int)] 79)) _ _ _ at f4;change Below _ _ ((w1.alloc (.cells #[.string (mkS (aI Y)),.int .i64 (Y.length:Int)] 79)).alloc (.cells #[.string (mkS (aI Y)),.int .i64 (Y.length:Int)] 79)) at e1
   change _<=((w1.alloc (.cells #[.string (mkS (aI Y)),.int .i64 (Y.length:Int)] 79)).alloc (.cells #[.string (mkS (aI Y)),.int .i64 (Y.length:Int)] 79)).heap.size at i8;clear hz i6 i7 b1 f2;go_wp2_with (at_builtin;refine FD rfl _ _ rfl w.heap.size _ _ Y rfl e0 _ rfl L ?_ ?_ ?_;(omega);(exact i8);intro v3 w3 p1 p2 p3;(have i9:OwS w3 w.heap.size u7 ((l.take k).map (fun t=>cH t.data.toList)):=MY f4 e0 p3 (by decide));(have f5:=e1.trans p2);(have l6:=f5.size));refine(f3 _).mono ?_;rintro e w4 ⟨rfl,e2⟩;have j0:=eO.below p1 e2 (aD _)
   have j1:OwS w4 w.heap.size u7 ((l.take k).map (fun t=>cH t.data.toList)):=Ow.below i9 e2 (aD _);have f6:=f5.trans (e2.mono l6);have e3:=f6.size;have l7:=bX w4 (.int .u32 (S.toNat:Int)) 44;have j2:OwS (w4.alloc (.cells #[.int .u32 (S.toNat:Int)] 44)) w.heap.size u7 ((l.take k).map (fun t=>cH t.data.toList)):=Ow.alloc j1 _;have l8:=eO.alloc j0 (.cells #[.int .u32 (S.toNat:Int)] 44);have l9:Below w.heap.size w (w4.alloc (.cells #[.int .u32 (S.toNat:Int)] 44)):=f6.alloc e3 _;clear j0 j1 f6 e2 p1 p2 p3 i9 f5 e0 f4 e1 L f3 i4 i5 d9
   go_wp2_with (at_builtin;refine aIn rfl _ _ rfl w.heap.size _ _ rfl j2 _ S rfl l7 ?_ ?_ ?_;(omega);(simp;omega);intro v5 w5 r1 r2 r3);have hg:=HG.out
   go_roundg (l.length-(k+1))
   case measure=>omega
   case rel=>exact⟨k+1,by omega,rfl,by go_num,rfl,rfl,by rw[HB.out];exact MY l8 j2 r3 (by decide),by rw[HS.out];exact r1,l9.trans r2,l5⟩
  ·have t4:decide ((k:Int)<(l.length:Int))=false:=aE (by omega);obtain rfl:k=l.length:=by omega
   rw[jS] at b3 b4 a9;have f7:∀t∈l,okT (M:Int) t:=fun t J=>(a9.out t J).1
   have j3:=hb l.length (aD _) (by rw[jS];exact f7);rw[jS] at j3;have HF:=hid (show wrE (N:Int) l=0 by
    rw[b1];exact AA (fun t J=>(a9.out t J).2))
   have b0:=fun W=>wL [] 25779555029136 48 W (by decide) (by decide) (by decide)
   rw[List.nil_append] at b0;obtain⟨G,hG⟩:∃G,G=aT 25779555029136 48:=⟨_,rfl⟩;have j4:G.length=48:=by rw[hG,dV]
   obtain⟨S,hS⟩:∃S,S=(iM (l.map (fun t=>cH t.data.toList))).toNat:=⟨_,rfl⟩;have m0:S<4294967296:=by rw[hS];exact(iM (l.map (fun t=>cH t.data.toList))).isLt
   have b6:=fun W h=>aGr u7 (l.map (fun t=>cH t.data.toList)) W h
   have a2:=fun W=>wL G S 32 W (by omega) (by decide) (by omega)
   obtain⟨D,hD⟩:∃D,D=G++aT S 32:=⟨_,rfl⟩;have m4:D.length=80:=by rw[hD,List.length_append,j4,dV]
   have b7:=hid (show((eR (iN N)::l.map eJ)++[D]).flatten=cM N l by
    rw[hD,hG,hS,List.flatten_append,kW,kW,List.flatten_nil,dI,List.append_assoc];rfl)
   have e4:((eR (iN N)::l.map eJ)++[D]).flatten.length<=900000:=by
    rw[b7.out,xT];omega
   rw[<-hG] at b0;rw[<-hS] at b6;rw[<-hD] at a2;unfold fT at b0 a2;obtain⟨PG,j5⟩:∃PG,PG=mkS (aI G):=⟨_,rfl⟩;obtain⟨LG,j6⟩:∃LG,LG=(G.length:Int):=⟨_,rfl⟩;obtain⟨A,f8⟩:∃A,A=mkS (aI D):=⟨_,rfl⟩;obtain⟨F,f9⟩:∃F,F=(D.length:Int):=⟨_,rfl⟩;rw[<-j5,<-j6] at b0 a2;rw[<-f8,<-f9] at a2;have j7:=hid f8;have j8:=hid f9;have j9:=hid f7;have m5:=aGs S m0;have o8:IntKind.u64.wrap (S:Int)=(S:Int):=by rw[IntKind.wrap_u64];omega
   have o9:(S:Int)%18446744073709551616=(S:Int):=by omega
   clear hb b1 hG hS hD j3 f7 a9 j5 j6 f8 f9 j4 m4;go_wp2_with fail;refine(b0 _).mono ?_;rintro e O ⟨rfl,e5⟩;obtain⟨z,hz⟩:∃z,z=O.heap.size:=⟨_,rfl⟩;have e6:eO O w.heap.size u6 (eR (iN N)::l.map eJ):=eO.below b3 e5 (aD _);have g2:OwS O w.heap.size u7 (l.map (fun t=>cH t.data.toList)):=Ow.below b4 e5 (aD _);have b8:=a8.trans (e5.mono d7);have e3:w.heap.size<=z:=by rw[hz];exact b8.size
   have a3:=Arr.new O 79 [.string PG,.int .i64 LG];have b9:Below z O (O.alloc (.cells #[.string PG,.int .i64 LG] 79)):=by rw[hz];exact bD (aH _ _) _
   change Arr (O.alloc (.cells #[.string PG,.int .i64 LG] 79)) _ _ _ at a3;rw[<-hz] at a3;clear b0 b3 b4 a8 d7 e5;go_wp2_with fail;generalize O.alloc (.cells #[.string PG,.int .i64 LG] 79)=W7 at*
   rw[<-hz] at ⊢;have HZ:=hid hz;have e7:=fun wx (h:Below z W7 wx/\z+1<=wx.heap.size/\∃y0 y1,Arr wx z 79 [y0,y1])=>OwS.rd (Ow.below g2 (b9.trans h.1) (by rw[<-HZ.out];exact aD _):OwS wx w.heap.size u7 (l.map (fun t=>cH t.data.toList)))
   have c0:=a3.cell (i:=0) rfl;have c1:=a3.cell (i:=1) rfl;have p0:=a3.lt;have g3:=UM (w0:=W7) (z:=z) ⟨aH _ _,by omega,_,_,a3⟩ (aH W7.heap.size W7).drew;clear hz hA;refine wp_region_held_drew (S:=(fun wx=>Below z W7 wx/\z+1<=wx.heap.size/\∃y0 y1,Arr wx z 79 [y0,y1])) (by kernel_rfl) g3 (fun U=>?_)
   refine fV 1 0 (by simp only[dB,aU,aV,cV,dC]<;>rfl) (by simp only[gA,gH,gB];rfl) (by kernel_rfl) (by exact fun _ _ _ h=>h) (by first|exact gI ⟨by rfl,rfl⟩|(refine gJ ⟨by rfl,?_⟩;intro w' V;(try dsimp only at V);(try go_simp);try with_reducible rfl)) (by assumption) ?_
   try simp only[bJ,bK,bH,bB]
   refine wpAnyH_ready (rs:=[0,2]) (by kernel_rfl) (by simp) ?_;refine DG rfl (fun K d=>?_) (DG rfl (fun K d=>?_) WI)
   ·go_simp;refine d.out _ _ U (fun _=>?_);clear d K
    try simp only[bJ,bK,bH,bB]
    refine dJ (i:=2) (by kernel_rfl) rfl (fun K d=>?_);go_simp;refine(b6 _ (e7 _ U)).mono ?_;rintro e Z ⟨rfl,rfl⟩
    (try go_wp2_with fail)
    refine d.out _ _ U (fun _=>?_);clear d K
    try simp only[bJ,bK,bH,bB]
    refine fV 0 0 (by simp only[dB,aU,aV,cV,dC]<;>rfl) (by simp only[gA,gH,gB];rfl) (by kernel_rfl) (by exact fun _ _ _ h=>h) (by first|exact gI ⟨by rfl,rfl⟩|(refine gJ ⟨by rfl,?_⟩;intro w' V;(try dsimp only at V);(try go_simp);try with_reducible rfl)) (by assumption) ?_
    try simp only[bJ,bK,bH,bB]
    refine dJ (i:=4) (by kernel_rfl) rfl (fun K d=>?_);go_simp;refine(a2 _).mono ?_;rintro e Z ⟨rfl,c2⟩
    (try go_wp2_with fail)
    have a0:=UM U c2;refine d.out _ _ a0 (fun _=>?_);clear d K
    try simp only[bJ,bK,bH,bB]
    iterate 3
     refine fV 0 0 (by simp only[dB,aU,aV,cV,dC]<;>rfl) (by simp only[gA,gH,gB];rfl) (by kernel_rfl) (by exact fun _ _ _ h=>h) (by first|exact gI ⟨by rfl,rfl⟩|(refine gJ ⟨by rfl,?_⟩;intro w' V;(try dsimp only at V);(try go_simp);try with_reducible rfl)) (by assumption) ?_
     try simp only[bJ,bK,bH,bB]
    obtain⟨c3,g4,y0,y1,H⟩:=id a0;have g0:=H.cell (i:=0) rfl;have g1:=H.cell (i:=1) rfl;have f0:=H.free 0;have f1:=H.free 1;refine dJ (i:=8) (by kernel_rfl) rfl (fun K d=>?_);go_simp;refine d.out _ _ (aIp a0 _ _ _ rfl) (fun _=>?_);clear d K
    try simp only[bJ,bK,bH,bB]
    refine wpAnyH_done (by kernel_rfl) ?_ _;have a4:=(H.set 0 (.string A)).set 1 (.int .i64 F);have a5:Below z O ((Z.setCell ⟨z,0,none⟩ (.string A)).setCell ⟨z,1,none⟩ (.int .i64 F)):=((b9.trans c3).setCell (p:=⟨z,0,none⟩) (aD _) _).setCell (p:=⟨z,1,none⟩) (aD _) _;change Arr ((Z.setCell ⟨z,0,none⟩ (.string A)).setCell ⟨z,1,none⟩ (.int .i64 F)) z 79 [.string A,.int .i64 F] at a4;generalize (Z.setCell ⟨z,0,none⟩ (.string A)).setCell ⟨z,1,none⟩ (.int .i64 F)=W9 at*
    have g5:=eO.below e6 a5 (by rw[<-HZ.out];exact aD _);have c6:=b8.trans (a5.mono e3);have g6:=c6.size;have L:=Arr.new W9 79 (fD D);have c7:=g5.alloc (.cells (fD D).toArray 79);have a6:=c6.alloc g6 (.cells (fD D).toArray 79);have c8:fD D=[.string A,.int .i64 F]:=by unfold fD;rw[<-j7.out,<-j8.out]
    have c9:(fD D).toArray=#[.string A,.int .i64 F]:=by rw[c8]
    rw[c9] at L c7 a6;have g7:w.heap.size<=(W9.alloc (.cells #[.string A,.int .i64 F] 79)).heap.size:=a6.size;have d0:=a4.cell (i:=0) rfl;have d1:=a4.cell (i:=1) rfl;have a1:=fun W v h=>FC v ((eR (iN N)::l.map eJ)++[D]) W h e4
    rw[b7.out] at a1;unfold fT at a1;obtain⟨PW,a7⟩:∃PW,PW=mkS (aI (cM N l)):=⟨_,rfl⟩;obtain⟨LW,d2⟩:∃LW,LW=((cM N l).length:Int):=⟨_,rfl⟩;rw[<-a7,<-d2] at a1;have g8:=hid a7;have m6:(eR (iN N)::l.map eJ).length<=100001:=by rw[aU,aS];omega
    clear g0 g1 f0 f1 H c3 g4 a0 c2 U g3 c0 c1 e7 a3 a2 b6 b9 e6 g2 b8 a5 a7 d2 c8 c9 b7 e4 y0 y1;go_wp2_with (at_builtin;refine FD rfl _ _ rfl w.heap.size _ _ D rfl c7 _ rfl L ?_ ?_ ?_;(omega);(exact g7);intro v3 m7 p1 p2 p3);refine(a1 _ _ (eO.rd p1)).mono ?_;rintro e m8 ⟨rfl,g9⟩;have d3:=a6.trans p2;have d4:=d3.trans (g9.mono d3.size);have i0:=d4.size;go_wp2_with fail
    go_ret2
    exact .inl ⟨HF.out,by rw[fL,<-g8.out];rfl,fun u I=>by rw[d5];exact j9.out u I,d4.alloc i0 _⟩
   ·go_simp;refine(b6 _ (e7 _ U)).mono ?_;rintro e Z ⟨rfl,rfl⟩
    (try go_wp2_with fail)
    refine d.out _ _ U (fun _=>?_);clear d K
    try simp only[bJ,bK,bH,bB]
    refine fV 1 0 (by simp only[dB,aU,aV,cV,dC]<;>rfl) (by simp only[gA,gH,gB];rfl) (by kernel_rfl) (by exact fun _ _ _ h=>h) (by first|exact gI ⟨by rfl,rfl⟩|(refine gJ ⟨by rfl,?_⟩;intro w' V;(try dsimp only at V);(try go_simp);try with_reducible rfl)) (by assumption) ?_
    try simp only[bJ,bK,bH,bB]
    refine dJ (i:=0) (by kernel_rfl) rfl (fun K d=>?_);go_simp;refine d.out _ _ U (fun _=>?_);clear d K
    try simp only[bJ,bK,bH,bB]
    refine dJ (i:=4) (by kernel_rfl) rfl (fun K d=>?_);go_simp;refine(a2 _).mono ?_;rintro e Z ⟨rfl,c2⟩
    (try go_wp2_with fail)
    have a0:=UM U c2;refine d.out _ _ a0 (fun _=>?_);clear d K
    try simp only[bJ,bK,bH,bB]
    iterate 3
     refine fV 0 0 (by simp only[dB,aU,aV,cV,dC]<;>rfl) (by simp only[gA,gH,gB];rfl) (by kernel_rfl) (by exact fun _ _ _ h=>h) (by first|exact gI ⟨by rfl,rfl⟩|(refine gJ ⟨by rfl,?_⟩;intro w' V;(try dsimp only at V);(try go_simp);try with_reducible rfl)) (by assumption) ?_
     try simp only[bJ,bK,bH,bB]
    obtain⟨c3,g4,y0,y1,H⟩:=id a0;have g0:=H.cell (i:=0) rfl;have g1:=H.cell (i:=1) rfl;have f0:=H.free 0;have f1:=H.free 1;refine dJ (i:=8) (by kernel_rfl) rfl (fun K d=>?_);go_simp;refine d.out _ _ (aIp a0 _ _ _ rfl) (fun _=>?_);clear d K
    try simp only[bJ,bK,bH,bB]
    refine wpAnyH_done (by kernel_rfl) ?_ _;have a4:=(H.set 0 (.string A)).set 1 (.int .i64 F);have a5:Below z O ((Z.setCell ⟨z,0,none⟩ (.string A)).setCell ⟨z,1,none⟩ (.int .i64 F)):=((b9.trans c3).setCell (p:=⟨z,0,none⟩) (aD _) _).setCell (p:=⟨z,1,none⟩) (aD _) _;change Arr ((Z.setCell ⟨z,0,none⟩ (.string A)).setCell ⟨z,1,none⟩ (.int .i64 F)) z 79 [.string A,.int .i64 F] at a4;generalize (Z.setCell ⟨z,0,none⟩ (.string A)).setCell ⟨z,1,none⟩ (.int .i64 F)=W9 at*
    have g5:=eO.below e6 a5 (by rw[<-HZ.out];exact aD _);have c6:=b8.trans (a5.mono e3);have g6:=c6.size;have L:=Arr.new W9 79 (fD D);have c7:=g5.alloc (.cells (fD D).toArray 79);have a6:=c6.alloc g6 (.cells (fD D).toArray 79);have c8:fD D=[.string A,.int .i64 F]:=by unfold fD;rw[<-j7.out,<-j8.out]
    have c9:(fD D).toArray=#[.string A,.int .i64 F]:=by rw[c8]
    rw[c9] at L c7 a6;have g7:w.heap.size<=(W9.alloc (.cells #[.string A,.int .i64 F] 79)).heap.size:=a6.size;have d0:=a4.cell (i:=0) rfl;have d1:=a4.cell (i:=1) rfl;have a1:=fun W v h=>FC v ((eR (iN N)::l.map eJ)++[D]) W h e4
    rw[b7.out] at a1;unfold fT at a1;obtain⟨PW,a7⟩:∃PW,PW=mkS (aI (cM N l)):=⟨_,rfl⟩;obtain⟨LW,d2⟩:∃LW,LW=((cM N l).length:Int):=⟨_,rfl⟩;rw[<-a7,<-d2] at a1;have g8:=hid a7;have m6:(eR (iN N)::l.map eJ).length<=100001:=by rw[aU,aS];omega
    clear g0 g1 f0 f1 H c3 g4 a0 c2 U g3 c0 c1 e7 a3 a2 b6 b9 e6 g2 b8 a5 a7 d2 c8 c9 b7 e4 y0 y1;go_wp2_with (at_builtin;refine FD rfl _ _ rfl w.heap.size _ _ D rfl c7 _ rfl L ?_ ?_ ?_;(omega);(exact g7);intro v3 m7 p1 p2 p3);refine(a1 _ _ (eO.rd p1)).mono ?_;rintro e m8 ⟨rfl,g9⟩;have d3:=a6.trans p2;have d4:=d3.trans (g9.mono d3.size);have i0:=d4.size;go_wp2_with fail
    go_ret2
    exact .inl ⟨HF.out,by rw[fL,<-g8.out];rfl,fun u I=>by rw[d5];exact j9.out u I,d4.alloc i0 _⟩
theorem bDg (s:ByteArray) (w:World) (F:s.size<=1000000):
  Calls pG 79 #[.string s] w fun e w'=>e=.returned (.int .i64 (lnL s.data.toList:Int))/\Below w.heap.size w w':=by
 have A:=aHf s w F;obtain⟨P,d⟩:∃P,P=mkS (bT s.data.toList):=⟨_,rfl⟩;have G:=hid (show(P.size:Int)=(lnL s.data.toList:Int) by rw[d,cS];rfl);rw[<-d] at A;clear d;go_enter func79,ntmps79;go_wp2_with fail;refine A.mono ?_;rintro e w1 ⟨rfl,H⟩;go_wp2_with fail;go_ret;exact⟨eI G.out,H⟩
theorem aJd (s:ByteArray) (room:Nat) (w:World) (hs:s.size<=100000) (hr:room<=1000000):
  Calls pG 51 #[.string s,.int .i64 (room:Int)] w fun e w'=>e=.returned (.int .i64 (cJ s.data.toList room:Int))/\Below w.heap.size w w':=by
 have H:=hid (show s.data.toList.length=s.size by simp);have hcut:=pT s.data.toList room;obtain⟨C,U⟩:∃C,C=cJ s.data.toList room:=⟨_,rfl⟩;rw[<-U] at hcut ⊢;obtain⟨a1,a2,I⟩:=hcut;rw[H.out] at a1 I;have HU:=hid (fun i (h1:i<=s.size)=>show lnL (s.data.toList.take i)<=room↔i<=C from by
  constructor
  ·intro h;refine Nat.le_of_not_lt fun q=>?_
   have a:=I (by omega);have b:=AC s.data.toList (C+1) (i-(C+1)) (by rw[H.out];omega);rw[show C+1+(i-(C+1))=i by omega] at b;omega
  ·intro h;have b:=AC s.data.toList i (C-i) (by rw[H.out];omega);rw[show i+(C-i)=C by omega] at b;omega)
 clear U a2 I;go_enter func51,ntmps51;go_wp2_with fail
 go_loopg [5,6] (s.size+1) (fun g s5 s6 wr=>∃i K:Nat,i<=s.size+1/\g=s.size+1-i/\s6=.int .i64 (i:Int)/\s5=.int .i64 (K:Int)/\Hid (K=min (i-1) C)/\Below w.heap.size w wr)
 case atStart=>exact⟨0,0,aO _,rfl,rfl,rfl,hid (by omega),aH _ _⟩
 case round=>
  obtain⟨i,K,hi,G,rfl,rfl,J,V⟩:=hrel;have Z:=hid G;clear G
  by_cases a3:i<=s.size
  ·have t1:decide ((i:Int)<=(s.size:Int))=true:=aG (by omega);have q1:(i:Int)<=(s.size:Int):=by omega
   obtain⟨T,L⟩:∃T,T=s.extract 0 i:=⟨_,rfl⟩;have M:T.data.toList=s.data.toList.take i:=by rw[L,iW,dP,List.drop_zero,Nat.sub_zero]
   have a6:T.size<=s.size:=by
    have:T.data.toList.length=T.size:=by simp
    rw[<-this,M,aQ];omega
   have A:=bDg T wr (by omega);rw[M] at A;have F:=HU.out i a3;obtain⟨X,hX⟩:∃X,X=lnL (s.data.toList.take i):=⟨_,rfl⟩;rw[<-hX] at A F;have a7:=L.symm;clear L M hX;go_wp2_with fail;refine A.mono ?_;rintro e w2 ⟨rfl,a4⟩;have a0:=aW V a4
   by_cases d:X<=room
   ·have t2:decide ((X:Int)<=(room:Int))=true:=aG (by omega);have a5:decide (X<=room)=true:=aG d;have hK:=J.out;have O:=hid (show i=min (i+1-1) C by have:=F.1 d;omega);clear hK F d A;go_wp2_with fail;have G:=Z.out
    go_roundg (s.size+1-(i+1))
    case measure=>omega
    case rel=>exact⟨i+1,i,by omega,rfl,by go_num,rfl,O,a0⟩
   ·have t2:decide ((X:Int)<=(room:Int))=false:=aE (by omega);have a5:decide (X<=room)=false:=aE d;have O:=hid (show K=min (i+1-1) C by have:=J.out;have:=fun q=>d (F.2 q);omega);clear F d A;go_wp2_with fail;have G:=Z.out
    go_roundg (s.size+1-(i+1))
    case measure=>omega
    case rel=>exact⟨i+1,K,by omega,rfl,by go_num,rfl,O,a0⟩
  ·have t1:decide ((i:Int)<=(s.size:Int))=false:=aE (by omega);have HF:=hid (show(K:Int)=(C:Int) by have:=J.out;omega);go_wp2_with fail;go_ret;exact⟨eI HF.out,V⟩
theorem aJe:ElT pG 22 9 16 (.string ⟨#[]⟩):=ElT.mk' (by kernel_rfl) underlying22 rfl (by decide)
def OwT (w:World) (B:Nat) (v:Value) (l:List ByteArray):Prop:=Ow w B 9 v (oI l)
theorem OwT.rd {w:World} {B:Nat} {v:Value} {l:List ByteArray} (h:OwT w B v l):RdT w v l:=by grind [RdT,Ow.rd,FX,OwT]
theorem aJf {A:Array Oper} {rest:List Oper} {o:Oper} {a:Act} {Q:Exit->Act->World->Prop} {w:World} (F:o.guard=none) (s x:Operand)
  (G:o.op=.call {callee:=.builtin .append,args:=#[s,x],argTypes:=#[22,22]}) (base:Nat) (v:Value) (l:List ByteArray) (hs:a.eval s=v) (hown:OwT w base v l)
  (g:Nat) (n:ByteArray) (hx:a.eval x=.slice (some ⟨g,0,none⟩) 1 1) (hc:w.cell? ⟨g,0,none⟩=some (.string n)) (hroom:(l.length+1)*16<=140737488355328) (hbase:base<=w.heap.size)
  (h:∀d w',OwT w' base d (l++[n])->Below base w w'->w.grownBy w' v.ownBlock->wpList pG A Q rest (a.put o.dst d) w'):wpList pG A Q (o::rest) a w:=
 tM aJe F s x G base v _ hs hown g _ hx hc rfl (by simpa [oI] using hroom) hbase (fun d w' J H I=>h d w' (by grind [OwT,oI,rest]) H I)
theorem kpT {w1 w2 w0:World} {B:Nat} (h:Below B w0 w1/\B<=w1.heap.size) (d:Below w1.heap.size w1 w2):Below B w0 w2/\B<=w2.heap.size:=⟨h.1.trans (d.mono h.2),aR h.2 d.size⟩
end Go.Proofs.YtihbnmlinkbnkaaGreatDoor
