/-
  Texts put together (part 40): the walks and the plain laws on which the statement stands.
-/
import Derived.Test.YtihbnmlinkbnkaaGreatDoorZ37
import Derived.Test.YtihbnmlinkbnkaaGreatDoorZ38
set_option maxRecDepth 100000
set_option maxHeartbeats 12800000
set_option linter.unusedVariables false
set_option linter.unusedSimpArgs false
open Go.Proofs.Tryz
open Go.Proofs.Tryz renaming prog->pG
open ByteArray renaming data_append->BC,size_append->rG
open Go.RowKit.Below renaming refl->aH
open List renaming append_assoc->bU,append_nil->dI,getElem?_eq_getElem->aN,length->nU,length_append->aL,length_cons->aU,length_map->aS,length_take->aQ,map_append->dY,map_cons->kI,mem_append->dK,mem_cons_of_mem->iQ,mem_cons_self->jK,mem_singleton->cP,take_add_one->cG,take_of_length_le->cD
open Nat renaming add_assoc->fU,le_refl->aD,zero_le->aO
open Option.some renaming inj->cC
namespace Go.Proofs.YtihbnmlinkbnkaaGreatDoor
open Go.RowKit Go Go.Shelf
theorem aJg {s:List UInt8} {hi:Int}:∀{l:List Prt} {lo:Int},qZ s lo l hi->∀p∈l,zP s p
 |[],_,_,p,d=>by simp at d
 |x::l,lo,h,p,d=>by
  rcases List.mem_cons.1 d with rfl|d
  ·exact h.2.1
  ·exact aJg h.2.2 p d
theorem aJh {s:List UInt8}:∀p∈eY s,zP s p:=fun p d=>by
 unfold eY at d
 by_cases q:(cI s).2=0
 ·rw[aB q] at d;exact aJg (ST q) p d
 ·rw[aA q] at d;simp at d
theorem GC (s:ByteArray):(eY s.data.toList).length<=8*s.size+2:=by
 have:=aI4 s rfl;unfold jY okP at this;rw[aL,aS] at this;unfold eY;split
 ·omega
 ·simp
theorem VF {w:World} {v:Value} {l:List Prt} (h:RdR w v (l.map kD)):∃a cap,v=.slice a l.length cap/\l.length<=cap/\cap<=maxLen/\
  (0<l.length->∃b off,a=some ⟨b,off,none⟩/\b<w.heap.size/\∀j p,l[j]? =some p->w.cell? ⟨b,off+j*5,none⟩=some (.string p.t)/\w.cell? ⟨b,off+j*5+1,none⟩=some (.int .u32 p.y)/\w.cell? ⟨b,off+j*5+2,none⟩=some (.int .i64 p.a)/\w.cell? ⟨b,off+j*5+3,none⟩=some (.int .i64 p.z)/\w.cell? ⟨b,off+j*5+4,none⟩=some (.int .i64 p.r)):=by
 obtain⟨a,cap,d,A,G,F⟩:=h.open (CU l) (by decide);rw[aS] at d A F;refine⟨a,cap,d,A,G,fun H=>?_⟩;obtain⟨b,off,I,J,L⟩:=F H;refine⟨b,off,I,J,fun j p M=>?_⟩;have e:(l.map kD)[j]? =some (kD p):=by rw[List.getElem?_map,M];rfl
 have c:=fun i u hi=>L j (kD p) i u e hi
 refine⟨c 0 _ rfl,?_,?_,?_,?_⟩
 ·rw[fU];exact c 1 _ rfl
 ·rw[fU];exact c 2 _ rfl
 ·rw[fU];exact c 3 _ rfl
 ·rw[fU];exact c 4 _ rfl
theorem bDj (s:List UInt8) (k:Nat):(iH (((eY s).take k).map Prt.t)).data.toList.length<=18720*((eY s).take k).length:=by
 have h:∀l:List Prt,(∀p∈l,zP s p)->(iH (l.map Prt.t)).data.toList.length<=18720*l.length:=fun l=>by
  induction l with
  |nil=>intro _;exact aD _
  |cons p l A=>
   intro d;have e:=congrArg nU (MX [p.t] (l.map Prt.t));have I:=A (fun q F=>d q (iQ _ F));obtain⟨-,J,L,-⟩:=(d p (jK ..)).facts;obtain⟨-,-,M,-⟩:=d p (jK ..);have G:(iH [p.t]).data.toList.length=p.t.size:=by unfold iH;simp
   rw[aL,G] at e;rw[kI,aU];change (iH ([p.t]++l.map Prt.t)).data.toList.length<=_;omega
 exact h _ (fun p H=>aJh p (List.mem_of_mem_take H))
theorem aJk (s:ByteArray) (w:World) (hE:dU w) (hs:s.size<=120000):
  Calls pG 18 #[.string s] w fun e w'=>e=.returned (.tuple #[.string (iH ((eY s.data.toList).map Prt.t)),.int .i64 (cI s.data.toList).2])/\Below w.heap.size w w':=by
 have a4:=GC s;have F:=bDj s.data.toList;have O:=VB s w hE hs;obtain⟨l,G⟩:∃l,l=eY s.data.toList:=⟨_,rfl⟩;obtain⟨E,U⟩:∃E,E=(cI s.data.toList).2:=⟨_,rfl⟩;rw[<-G,<-U] at O ⊢;rw[<-G] at a4 F;clear G U;go_enter func18,ntmps18;go_wp2_with fail;refine O.mono ?_;rintro e w1 ⟨v,rfl,V,Z⟩;obtain⟨a,ca,rfl,b3,a5,hA⟩:=VF V;unfold maxLen at a5;have a6:=Z.size;have a0:=MR w1;have a1:Below w1.heap.size w1 (w1.alloc (.cells #[.pointer none,.slice none 0 0] 105)):=bD (aH _ _) _;clear V;go_wp2_with fail
 generalize w1.alloc (.cells #[.pointer none,.slice none 0 0] 105)=w2 at*
 go_loopg [8,16] l.length (fun g _s8 a7 wr=>∃k:Nat,k<=l.length/\g=l.length-k/\a7=.int .i64 (k:Int)/\Bld wr w1.heap.size w1.heap.size (iH ((l.take k).map Prt.t)).data.toList/\Below w1.heap.size w1 wr)
 case atStart=>exact⟨0,aO _,rfl,rfl,a0,a1⟩
 case round=>
  obtain⟨k,H,I,rfl,hor,d⟩:=hrel;have HG:=hid I;clear I a0 a1
  by_cases a8:k<l.length
  ·have t1:decide ((k:Int)<(l.length:Int))=true:=aG (by omega);obtain⟨b,off,rfl,A,hc⟩:=hA (by omega);obtain⟨p,J⟩:∃p,l[k]? =some p:=⟨_,aN a8⟩;obtain⟨x0,x1,x2,x3,x4⟩:=hc k p J;have c0:=(d.cell (p:=⟨b,off+k*5,none⟩) A).trans x0;have c1:=(d.cell (p:=⟨b,off+k*5+1,none⟩) A).trans x1;have c2:=(d.cell (p:=⟨b,off+k*5+2,none⟩) A).trans x2;have c3:=(d.cell (p:=⟨b,off+k*5+3,none⟩) A).trans x3;have c4:=(d.cell (p:=⟨b,off+k*5+4,none⟩) A).trans x4;have HT:=hid (show(iH ((l.take (k+1)).map Prt.t)).data.toList=(iH ((l.take k).map Prt.t)).data.toList++p.t.data.toList by
    rw[cG,J,dY,MX]
    congr 1
    unfold iH;simp)
   have a2:=F k;have L:=F (k+1);rw[HT.out,aL] at L;rw[aQ] at a2 L;have a9:p.t.data.toList.length=p.t.size:=by simp
   have a3:=d.size;have b0:=fun W hW=>UC w1.heap.size w1.heap.size (iH ((l.take k).map Prt.t)).data.toList p.t W hW (by omega)
   have b1:=hor.same (w':=wr.alloc (.cells #[.string p.t,.int .u32 p.y,.int .i64 p.a,.int .i64 p.z,.int .i64 p.r] 97)) (fun k o H _ _=>by rw[Below.heap_alloc _ _ _ (Array.getElem?_eq_some_iff.1 H).1];exact H);clear x0 x1 x2 x3 x4 hc J hA a2 L F a9;go_wp2_with fail;refine(b0 _ b1 (by simp;omega)).mono ?_;rintro e w3 ⟨rfl,b2,M,-⟩;go_wp2_with fail;have I:=HG.out
   go_roundg (l.length-(k+1))
   case measure=>omega
   case rel=>exact⟨k+1,by omega,rfl,by go_num,by rw[HT.out];exact b2,(d.alloc (by omega) _).trans M⟩
  ·have t1:decide ((k:Int)<(l.length:Int))=false:=aE (by omega);have HT:=hid (show mkS (iH ((l.take k).map Prt.t)).data.toList=iH (l.map Prt.t) by rw[cD (by omega),qB]);have a3:=d.size;go_wp2_with fail;refine(MP w1.heap.size w1.heap.size _ _ hor a3).mono ?_;rintro e w3 ⟨rfl,-,M,-⟩;go_wp2_with fail
   go_ret2
   exact⟨by show Ending.returned (.tuple #[.string (mkS (iH (List.take k (l.map Prt.t))).data.toList),.int .i64 E])=_;rw[<-List.map_take,HT.out],Z.trans ((d.trans M).mono a6)⟩
abbrev okA (l:List (Nat×List ByteArray)):Prop:=∀p∈l,1<=p.1/\p.1<=9/\∀t∈p.2,okT (40*(p.1:Int)) t
noncomputable def aZ (l:List (Nat×List ByteArray)):ByteArray:=mkS (aI (dH l))
def nQ (l:List (Nat×List ByteArray)):List ByteArray:=(l.map (fun p=>p.2)).flatten
theorem AG (x y:List (Nat×List ByteArray)):aZ x++aZ y=aZ (x++y):=by unfold aZ;rw[sI,aDu]
theorem NE {x y:List (Nat×List ByteArray)} (h:okA x) (k:okA y):okA (x++y):=fun p d=>(dK.1 d).elim (h p) (k p)
theorem NF {n:Nat} {l:List ByteArray} (d:1<=n) (A:n<=9) (h:∀t∈l,okT (40*(n:Int)) t):okA [(n,l)]:=fun p F=>by obtain rfl:=cP.1 F;exact⟨d,A,h⟩
theorem wQ:∀{l:List (Nat×List ByteArray)},okA l->(aZ l).size<=3500*(nQ l).length+15*l.length
 |[],_=>by unfold aZ;rw[cS];exact aD _
 |p::l,h=>by
  have d:=wQ (l:=l) (fun q F=>h q (iQ _ F));obtain⟨J,L,G⟩:=h p (jK ..);have M:=yC (r:=40*(p.1:Int)) (by omega) p.2 G;have A:dH (p::l)=iD (cM p.1 p.2)++dH l:=rfl;have O:=zO (cM p.1 p.2);have U:=zN (cM p.1 p.2).length;have V:=aDk (cM p.1 p.2).length;have Z:=xT p.1 p.2;have H:=LP (p::l);have e2:=LP l;have I:(nQ (p::l)).length=p.2.length+(nQ l).length:=by unfold nQ;rw[kI,List.flatten_cons,aL]
  unfold aZ at d ⊢;rw[cS] at d ⊢;rw[A,aL] at H;rw[A];rw[I,aU];omega
theorem GD {l:List (Nat×List ByteArray)} (d:l≠[]) (A:okA l):eY (aZ l).data.toList=kT 0 l/\(cI (aZ l).data.toList).2=0:=by
 have h:=aVk d A;unfold aZ;rw[dP];unfold eY;rw[h];exact⟨rfl,rfl⟩
theorem CY {l:List (Nat×List ByteArray)} (d:l≠[]) (A:okA l) (F:(aZ l).size<=120000) (w:World) (G:dU w):
  Calls pG 18 #[.string (aZ l)] w fun e w'=>e=.returned (.tuple #[.string (iH (nQ l)),.int .i64 0])/\Below w.heap.size w w':=by
 have h:=aJk (aZ l) w G F;obtain⟨H,I⟩:=GD d A;rw[H,I,SP] at h;exact h
theorem RdT.nil (w:World):RdT w (.slice none 0 0) []:=⟨none,0,rfl,aD _,by simp[maxLen],.inl rfl⟩
theorem NG (n:Nat) (l:List ByteArray):(aZ [(n,l)]).data.toList.take 4=iN n/\14<=(aZ [(n,l)]).size:=by
 unfold aZ;rw[dP,cS,<-tU,iJ,xT];refine⟨?_,by omega⟩;have h:=aDm (s:=aI (cM n l)) (h:=iN n) (k:=0) (by
  have:=ES (cM n l);unfold cM at this ⊢;exact(gN this).1)
 rw[List.drop_zero] at h;exact h
theorem aJl (n:Nat):(aZ [(n,[])]).size=14:=by
 unfold aZ;rw[cS,<-tU,iJ,xT];rfl
def nR:ByteArray:=⟨#[98,97,110,97,110,97]⟩
def xS:ByteArray:=⟨#[120]⟩
theorem bDt (x b:BitVec 32) (w:World):
  Calls pG 109 #[.int .u32 (x.toNat:Int),.int .u32 (b.toNat:Int)] w fun e w'=>e=.returned (.int .u32 ((zM x b).toNat:Int))/\w'=w:=by
 obtain⟨X,d⟩:∃X,X=x.toNat:=⟨_,rfl⟩;have a0:X<4294967296:=by rw[d];exact x.isLt
 obtain⟨Y,A⟩:∃Y,Y=(x<<<1).toNat:=⟨_,rfl⟩;have O:Y=X*2%4294967296:=by
  rw[A,BitVec.toNat_shiftLeft,Nat.shiftLeft_eq,<-d]
 obtain⟨q,F⟩:∃q,q=x<<<1|||x>>>31:=⟨_,rfl⟩;have U:(x>>>31).toNat=X/2147483648:=by rw[BitVec.toNat_ushiftRight,Nat.shiftRight_eq_div_pow,<-d]
 have G:q.toNat=Y+X/2147483648:=by
  rw[F,BitVec.toNat_or,<-A,U];have V:X/2147483648<2^1:=by omega
  have:=Nat.two_pow_add_eq_or_of_lt V (Y/2);rw[show 2^1*(Y/2)=Y by omega] at this;exact this.symm
 have Z:=CG q b;obtain⟨r,H⟩:∃r,r=q^^^b:=⟨_,rfl⟩;have I:=hid (show((r.toNat:Nat):Int)=((zM x b).toNat:Int) by rw[H,F];rfl);obtain⟨Q,J⟩:∃Q,Q=q.toNat:=⟨_,rfl⟩;obtain⟨B,L⟩:∃B,B=b.toNat:=⟨_,rfl⟩;obtain⟨R,M⟩:∃R,R=r.toNat:=⟨_,rfl⟩;rw[<-H,<-J,<-L,<-M] at Z;rw[<-M] at I;rw[<-d,<-L];rw[<-J] at G;have e1:2*(X:Int)%4294967296=(Y:Int):=by omega
 clear d A F U H J L M
 by_cases h:2147483648<=X
 ·have t1:decide ((X:Int)>=2147483648)=true:=aG (by omega);have t2:decide (2147483648<=(X:Int))=true:=aG (by omega);have e2:((Y:Int)+1)%4294967296=(Q:Int):=by omega
  have a1:(Y:Int)+1=(Q:Int):=by omega
  have a2:Q<4294967296:=by omega
  clear O G;go_enter func109,ntmps109;go_wp2_with fail;go_ret;exact⟨eI I.out,rfl⟩
 ·have t1:decide ((X:Int)>=2147483648)=false:=aE (by omega);have t2:decide (2147483648<=(X:Int))=false:=aE (by omega);obtain rfl:Y=Q:=by omega
  have a3:2*(X:Int)=(Y:Int):=by omega
  clear O G;go_enter func109,ntmps109;go_wp2_with fail;go_ret;exact⟨eI I.out,rfl⟩
theorem bDu (v:Value) (l:List (BitVec 32)) (w:World) (J:RdS w v l):
  Calls pG 61 #[v] w fun e w'=>e=.returned (.int .u32 ((iM l).toNat:Int))/\w'=w:=by
 obtain⟨a,ca,rfl,a2,a0,L⟩:=J.open;unfold maxLen at a0;clear J;obtain⟨Z,d⟩:∃Z,Z=(iM (l.take 0)).toNat:=⟨_,rfl⟩;have M:(Z:Int)=0:=by rw[d];rfl
 go_enter func61,ntmps61;go_wp2_with fail
 go_loopg [3,4] l.length (fun g s3 s4 wr=>∃k X:Nat,k<=l.length/\g=l.length-k/\s4=.int .i64 (k:Int)/\s3=.int .u32 (X:Int)/\Hid (X=(iM (l.take k)).toNat)/\wr=w)
 case atStart=>exact⟨0,Z,aO _,rfl,rfl,by rw[M],hid d,rfl⟩
 case round=>
  obtain⟨k,X,hk,A,rfl,rfl,O,rfl⟩:=hrel;have HG:=hid A;clear A M d
  by_cases a1:k<l.length
  ·have t1:decide ((k:Int)<(l.length:Int))=true:=aG (by omega);obtain⟨b,off,rfl,hb,U⟩:=L (by omega);obtain⟨x,F⟩:∃x,l[k]? =some x:=⟨_,aN a1⟩;have c1:=U k x F;have G:=bDt (iM (l.take k)) x wr;rw[<-aGq F,<-O.out] at G;obtain⟨Y,H⟩:∃Y,Y=(iM (l.take (k+1))).toNat:=⟨_,rfl⟩;obtain⟨V,I⟩:∃V,V=x.toNat:=⟨_,rfl⟩;rw[<-H,<-I] at G;rw[<-I] at c1;have HY:=hid H;clear H I F U L;go_wp2_with fail;refine G.mono ?_;rintro e w2 ⟨rfl,rfl⟩;go_wp2_with fail;have A:=HG.out
   go_roundg (l.length-(k+1))
   case measure=>omega
   case rel=>exact⟨k+1,Y,by omega,rfl,by go_num,rfl,HY,rfl⟩
  ·have t1:decide ((k:Int)<(l.length:Int))=false:=aE (by omega);have HF:=hid (show((X:Nat):Int)=((iM l).toNat:Int) by rw[O.out,cD (by omega)]);go_wp2_with fail;go_ret;exact⟨eI HF.out,rfl⟩
theorem aJq {W d:World} {B:Nat} {v u:Value} {l:List (BitVec 32)} {m:List Int} (h:OwS W B v l) (A:OwI W B u m) (F:W.grownBy d u.ownBlock):OwS d B v l:=MY h A F (by decide)
theorem bDv {W d:World} {B:Nat} {v u:Value} {l:List (BitVec 32)} {m:List Int} (h:OwI W B u m) (A:OwS W B v l) (F:W.grownBy d v.ownBlock):OwI d B u m:=MY h A F (by decide)
theorem VL (x y:List Bool):bI (x++y)=bI x++bI y:=dY ..
theorem aJr (n:Int) (v:Value) (l:List ByteArray) (w:World) (hr:RdT w v l) (hl:l.length<=10) (d7:∀t∈l,t.size<=1000) (b6: -9223372036854775808<=n) (b7:n<=9223372036854775807):
  Calls pG 13 #[.int .i64 n,v] w fun e w'=>aIo w w' n l e:=by
 obtain⟨a,ca,rfl,i3,f5,hA⟩:=hr.open;unfold maxLen at f5
 by_cases hn:n<1\/9<n
 ·have hd:wrE n l=1:=by unfold wrE;rw[aB hn]
  have HD:=hid hd;clear hd
  by_cases h1:n<1
  ·have t1:decide (n<1)=true:=aG h1;go_enter func13,ntmps13;go_wp2_with fail
   go_ret2
   exact .inr ⟨by rw[HD.out];decide,by rw[HD.out];rfl,aH _ _⟩
  ·have t1:decide (n<1)=false:=aE h1;have t2:decide (n>9)=true:=aG (by omega);have t3:decide (9<n)=true:=aG (by omega);go_enter func13,ntmps13;go_wp2_with fail
   go_ret2
   exact .inr ⟨by rw[HD.out];decide,by rw[HD.out];rfl,aH _ _⟩
 obtain⟨N,rfl⟩:∃N:Nat,n=(N:Int):=⟨n.toNat,by omega⟩;have h1:1<=N:=by omega
 have h9:N<=9:=by omega
 obtain⟨M,hM⟩:∃M,M=40*N:=⟨_,rfl⟩;have m1:40*(N:Int)=(M:Int):=by omega
 have i4:M<=360:=by omega
 have d8:wrE (N:Int) l=oH (M:Int) l:=by unfold wrE;rw[aA hn,m1]
 have c8:=hid d8;clear d8;have f6:=hid d7;have t1:decide ((N:Int)<1)=false:=aE (by omega);have t2:decide ((N:Int)>9)=false:=aE (by omega);have t3:decide (9<(N:Int))=false:=aE (by omega);obtain⟨N1,d9⟩:∃N1,N1=N+1:=⟨_,rfl⟩;have m2:(N:Int)+1=(N1:Int):=by omega
 have i5:N1<=10:=by omega
 obtain⟨D,hD⟩:∃D,D=(⟨#[48,49,50,51,52,53,54,55,56,57]⟩:ByteArray).extract N N1:=⟨_,rfl⟩;obtain⟨X,hX⟩:∃X:ByteArray,X=⟨#[80,77,107]⟩++D:=⟨_,rfl⟩;have c9:X.data.toList=iN N:=by
  rw[hX,hD,d9];have:N=1\/N=2\/N=3\/N=4\/N=5\/N=6\/N=7\/N=8\/N=9:=by omega
  rcases this with rfl|rfl|rfl|rfl|rfl|rfl|rfl|rfl|rfl<;>rfl
 have f7:D.size=1:=by
  have:=congrArg nU c9;rw[hX,BC,Array.toList_append,aL] at this;have e:D.data.toList.length=D.size:=rfl;rw[e] at this;have e2:(iN N).length=4:=rfl;rw[e2] at this;have e3:(⟨#[80,77,107]⟩:ByteArray).data.toList.length=3:=rfl;omega
 have b8:=fun W=>aEd X W (by rw[hX,rG,f7];decide)
 rw[c9] at b8;have f8:=hD.symm;have f9:=hX.symm;obtain⟨L,b9⟩:∃L,L=eR (iN N):=⟨_,rfl⟩;have e0:L.length=32:=by rw[b9,qU];rfl
 rw[<-b9] at b8;have g0:=hid b9;have HM:=hid hM;clear hn d7 hM d9 hD hX c9 b9 hr;go_enter func13,ntmps13;go_wp2_with fail;refine(b8 _).mono ?_;rintro e w1 ⟨u1,rfl,e1,a8⟩;clear b8 f8 f9 t1 t2 t3 m2;go_wp2_with fail
 go_loopg [6,7,8,9,10] l.length (fun g s6 s7 s8 _s9 _s10 wr=>∃k:Nat,k<=l.length/\g=l.length-k/\s8=.int .i64 (k:Int)/\OwI wr w.heap.size s6 (bI (L++fN (l.take k)))/\OwS wr w.heap.size s7 ((l.take k).map (fun t=>cH t.data.toList))/\Below w.heap.size w wr/\Hid (∀t∈l.take k,okT (M:Int) t/\jZ t (M:Int)=0))
 case atStart=>exact⟨0,aO _,rfl,rfl,by rw[List.take_zero];show OwI w1 w.heap.size u1 (bI (L++[]));rw[dI];exact e1,Ow.nil _ _ _,a8,hid (fun t d=>by simp at d)⟩
 case round=>
  obtain⟨k,hk,hg,rfl,O,U,a1,a2⟩:=hrel;have HG:=hid hg;have a9:=a1.size;clear hg e1 a8
  by_cases d2:k<l.length
  ·have t4:decide ((k:Int)<(l.length:Int))=true:=aG (by omega);obtain⟨b,off,rfl,e4,hc⟩:=hA (by omega);obtain⟨t,d⟩:∃t,l[k]? =some t:=⟨_,aN d2⟩;have g1:=hid (hc k t d);have c1:=(a1.cell (p:=⟨b,off+k,none⟩) e4).trans (hc k t d);have i6:=f6.out t (List.mem_of_getElem? d);have a4:=fun W=>bA9 t (M:Int) W (by omega) (by omega) (by omega)
   unfold FV at a4;have e5:oH (M:Int) l=oH (M:Int) (t::l.drop (k+1)):=by
    rw[UL (k:=k) (fun u hu=>(a2.out u hu).2),List.drop_eq_getElem_cons d2];rw[aN d2] at d;rw[cC d]
   obtain⟨E0,d3⟩:∃E0,E0=jZ t (M:Int):=⟨_,rfl⟩;obtain⟨Y,hY⟩:∃Y,Y=tB t (M:Int):=⟨_,rfl⟩;rw[<-d3,<-hY] at a4;unfold fT at a4;have c0:=hid d3;have g2:=hid hY;have e6:=hid e5;have HT:=hid d;have b0:=fun W (h:Y.length<=1000000)=>zY Y W h
   have c2:=fun W=>TA t W (by omega)
   obtain⟨S,V⟩:∃S,S=cH t.data.toList:=⟨_,rfl⟩;rw[<-V] at c2;obtain⟨E,H⟩:∃E,E=L++fN (l.take k):=⟨_,rfl⟩;have g3:E.length<=280100:=by
    have:=yC (r:=(M:Int)) (by omega) (l.take k) (fun t d=>(a2.out t d).1);rw[aQ] at this;rw[H,aL,e0];omega
   have g4:=hid H;have e7:=hid (show(l.take (k+1)).map (fun t=>cH t.data.toList)=(l.take k).map (fun t=>cH t.data.toList)++[S] by rw[cG,d,dY,V];rfl);have g5:=hid (show l.take (k+1)=l.take k++[t] by rw[cG,d];rfl);obtain⟨Q,hQ⟩:∃Q,Q=(l.take k).map (fun t=>cH t.data.toList):=⟨_,rfl⟩;have i7:Q.length<=10:=by rw[hQ,aS,aQ];omega
   rw[<-H] at O;rw[<-hQ] at U e7;clear d3 hY e5 H V hQ d hc hA;go_wp2_with fail;refine(a4 _).mono ?_;rintro e w2 ⟨rfl,A,d4⟩;have a3:OwI w2 w.heap.size u6 (bI E):=Ow.below O A (aD _);have a5:OwS w2 w.heap.size u7 Q:=Ow.below U A (aD _);have Z:=a1.trans (A.mono a9);have b1:=Z.size
   by_cases h0:E0=0
   rotate_left
   ·have t5:(E0 != 0)=true:=by rw[bne_iff_ne];exact h0
    have HF:=hid (show wrE (N:Int) l=E0 by
     rw[c8.out,e6.out];unfold oH;rw[<-c0.out,aB h0])
    clear c8 e6 d4 a4 A O U a1 a9 a3 a5 b0 c2;go_wp2_with fail
    go_ret2
    exact .inr ⟨by rw[HF.out];exact h0,by rw[HF.out];rfl,Z.alloc (by omega) _⟩
   subst h0;have d5:=aIl c0.out.symm (d4 rfl);have c3:Y=eJ t:=by rw[g2.out,aIk c0.out.symm]
   have HY:=hid c3;have g6:0<Y.length:=by
    have:=aDn t;rw[c3];omega
   have g7:=hid (show L++fN (l.take (k+1))=E++Y by rw[bBt HT.out,g4.out,c3,bU]);clear c3;have i8:Y.length<=28000:=by
    have:=yC (r:=(M:Int)) (by omega) [t] (fun x hx=>by rw[cP.1 hx];exact d5);rw[MV] at this;rw[HY.out];simp only[fN,List.map_nil,List.flatten_nil,dI,List.length_singleton] at this;omega
   have g8:=hid (show ∀x∈l.take (k+1),okT (M:Int) x/\jZ x (M:Int)=0 by
    rw[g5.out];intro x hx;rcases dK.1 hx with hx|hx
    ·exact a2.out x hx
    ·rw[cP.1 hx];exact⟨d5,c0.out.symm⟩)
   have e8:OwI _ w.heap.size u6 (bI E):=Ow.alloc a3 (.cells #[.string (mkS (aI Y)),.int .i64 (Y.length:Int)] 79);have b2:OwS _ w.heap.size u7 Q:=Ow.alloc a5 (.cells #[.string (mkS (aI Y)),.int .i64 (Y.length:Int)] 79);have h3:=Z.alloc b1 (.cells #[.string (mkS (aI Y)),.int .i64 (Y.length:Int)] 79);have b3:=h3.size;have c4:=Arr.new w2 79 [.string (mkS (aI Y)),.int .i64 (Y.length:Int)];change Arr (w2.alloc (.cells #[.string (mkS (aI Y)),.int .i64 (Y.length:Int)] 79)) _ _ _ at c4;have b0:=fun W=>b0 W (by omega)
   clear a4 A d4 O U a1 a9 a3 a5 Z d5 b1;have d0:=c4.cell (i:=0) rfl;have d1:=c4.cell (i:=1) rfl;go_wp2_with fail;refine(b0 _).mono ?_;rintro e w4 ⟨v4,rfl,b4,a0⟩;have a6:OwI w4 w.heap.size u6 (bI E):=Ow.below e8 a0 (aD _);have e9:OwS w4 w.heap.size u7 Q:=Ow.below b2 a0 (aD _);have h4:=h3.trans (a0.mono b3);have b5:=h4.size;have g9:((bI E).length+(bI Y).length)*8<=140737488355328:=by rw[cX,cX];omega
   have a7:0<(bI Y).length:=by rw[cX];exact g6
   clear b0 a0 e8 b2 h3 b3 c4 d0 d1;go_wp2_with (at_builtin;refine lR rfl _ _ rfl w.heap.size _ _ _ rfl a6 _ rfl b4 a7 g9 b5 ?_;intro v5 w5 I p2 p3 _;(have f0:OwS w5 w.heap.size u7 Q:=aJq e9 a6 p3);(have h5:=h4.trans p2);(have c6:=h5.size);(have c5:=(h5.cell (p:=⟨b,off+k,none⟩) e4).trans g1.out);(rw[<-VL,<-g7.out] at I));refine(c2 _).mono ?_;rintro e w' ⟨rfl,rfl⟩;clear c2 a6 e9 h4 b5 b4 p2 p3
   go_wp2_with (at_builtin;refine aIn rfl _ _ rfl w.heap.size _ _ rfl (Ow.alloc f0 _) _ S rfl (bX _ _ _) ?_ ?_ ?_;(omega);(simp;omega);intro v6 w6 r1 r2 r3;(have i0:=bDv (Ow.alloc I _:OwI _ _ _ _) (Ow.alloc f0 _) r3));have hg:=HG.out
   go_roundg (l.length-(k+1))
   case measure=>omega
   case rel=>exact⟨k+1,by omega,rfl,by go_num,i0,by rw[e7.out];exact r1,(h5.alloc c6 _).trans r2,g8⟩
  ·have t4:decide ((k:Int)<(l.length:Int))=false:=aE (by omega);obtain rfl:k=l.length:=by omega
   rw[List.take_length] at O U a2;have b6:=fun W=>wK 25779555029136 48 W (by decide) (by decide)
   obtain⟨S,V⟩:∃S,S=(iM (l.map (fun t=>cH t.data.toList))).toNat:=⟨_,rfl⟩;have i9:S<4294967296:=by rw[V];exact(iM (l.map (fun t=>cH t.data.toList))).isLt
   have c7:=fun W h=>bDu u7 (l.map (fun t=>cH t.data.toList)) W h
   rw[<-V] at c7;have b7:=fun W=>wK S 32 W (by omega) (by decide)
   obtain⟨E,H⟩:∃E,E=L++fN l:=⟨_,rfl⟩;have g3:E.length<=280100:=by
    have:=yC (r:=(M:Int)) (by omega) l (fun t d=>(a2.out t d).1);rw[H,aL,e0];omega
   obtain⟨G,hG⟩:∃G,G=aT 25779555029136 48:=⟨_,rfl⟩;have j0:G.length=48:=by rw[hG,dV]
   obtain⟨J,hJ⟩:∃J,J=aT S 32:=⟨_,rfl⟩;have j1:J.length=32:=by rw[hJ,dV]
   obtain⟨F,hF⟩:∃F,F=E++G++J:=⟨_,rfl⟩;have j2:F.length<=300000:=by rw[hF,aL,aL];omega
   have HF:=hid (show mkS (aI F)=mkS (aI (cM N l)) by
    rw[hF,hG,hJ,H,g0.out,V,bU,bU];rfl)
   rw[<-H] at O;rw[<-hG] at b6;rw[<-hJ] at b7;have f1:=fun W u (h:RdI W u (bI F))=>CF u F W h (by omega)
   have m5:IntKind.u64.wrap (S:Int)=(S:Int):=by rw[IntKind.wrap_u64];omega
   have j3:(S:Int)%18446744073709551616=(S:Int):=by omega
   have i1:=hid hF;have f2:=hid (show(wrE (N:Int) l=0)/\∀t∈l,okT (40*(N:Int)) t from⟨by rw[c8.out];exact AA (fun t d=>(a2.out t d).2),fun t d=>by
    have:=(a2.out t d).1;rw[<-m1] at this;exact this⟩)
   obtain⟨Q,hQ⟩:∃Q,Q=l.map (fun t=>cH t.data.toList):=⟨_,rfl⟩;rw[<-hQ] at U c7;clear V H hG hJ hF hQ hA;go_wp2_with fail;refine(b6 _).mono ?_;rintro e w2 ⟨u2,rfl,f3,A⟩;have a3:OwI w2 w.heap.size u6 (bI E):=Ow.below O A (aD _);have a5:OwS w2 w.heap.size u7 Q:=Ow.below U A (aD _);have Z:=a1.trans (A.mono a9);have b1:=Z.size;have a8:((bI E).length+(bI G).length)*8<=140737488355328:=by rw[cX,cX];omega
   have a7:0<(bI G).length:=by rw[cX];omega
   clear b6 A O U a1 a9;go_wp2_with (at_builtin;refine lR rfl _ _ rfl w.heap.size _ _ _ rfl a3 _ rfl (OwI.rd f3) a7 a8 b1 ?_;intro v3 w3 I p2 p3 _;(have b2:OwS w3 w.heap.size u7 Q:=aJq a5 a3 p3);(have h3:=Z.trans p2);(have b3:=h3.size));refine(c7 _ (OwS.rd b2)).mono ?_;rintro e w' ⟨rfl,rfl⟩;clear c7 a3 a5 Z b1 f3 p2 p3 a8 a7;go_wp2_with fail;refine(b7 _).mono ?_;rintro e w4 ⟨u4,rfl,b4,a0⟩;have a6:OwI w4 w.heap.size v3 (bI E++bI G):=Ow.below I a0 (aD _);have h4:=h3.trans (a0.mono b3);have b5:=h4.size
   have i2:((bI E++bI G).length+(bI J).length)*8<=140737488355328:=by rw[aL,cX,cX,cX];omega
   have a7:0<(bI J).length:=by rw[cX];omega
   clear b7 a0 I b2 h3 b3;go_wp2_with (at_builtin;refine lR rfl _ _ rfl w.heap.size _ _ _ rfl a6 _ rfl (OwI.rd b4) a7 i2 b5 ?_;intro v5 w5 I p2 p3 _;(have h5:=h4.trans p2);(have c6:=h5.size);(rw[<-VL,<-VL,<-i1.out] at I));refine(f1 _ _ (OwI.rd I)).mono ?_;rintro e w6 ⟨rfl,f4⟩;have h6:=h5.trans (f4.mono c6);have h7:=h6.alloc h6.size (.cells #[.string (mkS (aI F)),.int .i64 (F.length:Int)] 79);have d6:=Arr.new w6 79 [.string (mkS (aI F)),.int .i64 (F.length:Int)];change Arr (w6.alloc (.cells #[.string (mkS (aI F)),.int .i64 (F.length:Int)] 79)) _ _ _ at d6
   have d0:=d6.cell (i:=0) rfl;clear f1 f4 h5 c6 p2 p3 I a6 b4 h4 b5 h6 d6;go_wp2_with fail
   go_ret2
   exact .inl ⟨f2.out.1,by rw[Int.toNat_natCast,<-HF.out];rfl,f2.out.2,h7⟩
end Go.Proofs.YtihbnmlinkbnkaaGreatDoor
