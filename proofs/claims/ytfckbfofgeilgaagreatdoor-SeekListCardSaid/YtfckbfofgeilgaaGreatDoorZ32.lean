/-
  Texts put together (part 32): the walks and the plain laws on which the statement stands.
-/
import Derived.Test.YtfckbfofgeilgaaGreatDoorZ27
import Derived.Test.YtfckbfofgeilgaaGreatDoorZ30
set_option maxRecDepth 100000
set_option maxHeartbeats 12800000
set_option linter.unusedVariables false
set_option linter.unusedSimpArgs false
open Go.Proofs.Tryz
open Go.Proofs.Tryz renaming prog->pG
open ByteArray renaming data_append->BC,size_append->rG
open Decidable renaming not_not->eB
open Go.Instr renaming sliceAt->vN
open Go.IntKind renaming i64->aJ
open Go.RowKit.Below renaming refl->aH
open Int renaming toNat_natCast->fL,toNat_of_nonneg->rI
open List renaming append_assoc->bU,append_nil->dI,getD_eq_getElem?_getD->bV,getElem?_eq_getElem->aN,length->nU,length_append->aL,length_drop->bA,length_map->aS,length_singleton->fQ,length_take->aQ,map_append->dY,mem_append->dK,mem_singleton->cP,take_add_one->cG,take_of_length_le->cD
open Nat renaming le_refl->aD,zero_le->aO
open Option.some renaming inj->cC
namespace Go.Proofs.YtfckbfofgeilgaaGreatDoor
open Go.RowKit Go Go.Shelf
theorem aKu (x y:Ent) (w:World):(Op.equalIn 10000 103 (.agg #[.int .i64 x.a,.int .i64 x.r,.int .i64 x.f,.int .i64 x.n,.int .u32 x.y]) (.agg #[.int .i64 y.a,.int .i64 y.r,.int .i64 y.f,.int .i64 y.n,.int .u32 y.y])).run pG w=.ok (decide (x=y)) w:=by
 obtain⟨a,r,f,n,c⟩:=x;obtain⟨d,e,A,D,F⟩:=y;have U:=underlying3;have V:=Tryz.isAgg3;have Y:=Tryz.sizeOf3;have Z:=underlying87;have a4:=Tryz.isAgg87;have z4:=Tryz.sizeOf87;have G:pG.underlying 103=some (.struct (pG.fieldsOf 103)):=by kernel_rfl
 have I:pG.stoodInHeld 103=false:=by kernel_rfl
 rw[show(10000:Nat)=9999+1 from rfl,run_equalIn_agg w 9999 _ _ _ G I];simp only[Program.fieldsOf,underlying103];go_simp
 by_cases J:a=d<;>by_cases L:r=e<;>by_cases M:f=A<;>by_cases O:n=D<;>by_cases R:c=F<;>simp[J,L,M,O,R]
theorem bFe (u v:Value) (l m:List Ent) (w:World) (hu:RdR w u (l.map bG)) (hv:RdR w v (m.map bG)) (hl:l.length<=1000000) (hm:m.length<=1000000):
  Calls pG 85 #[u,v] w fun e w'=>e=.returned (.bool (decide (l=m)))/\Below w.heap.size w w':=by
 obtain⟨a,ca,rfl,a5,a6,M⟩:=nS hu;obtain⟨b,cb,rfl,b3,a7,hB⟩:=nS hv;unfold maxLen at a6 a7;obtain⟨R,O⟩:∃R:Bool,R=decide (l=m):=⟨_,rfl⟩;rw[<-O];have U:=hid O;clear O hu hv
 by_cases L:l.length=m.length
 rotate_left
 ·obtain rfl:R=false:=by rw[U.out];exact aE (fun h=>L (by rw[h]))
  have t1:((l.length:Int) != (m.length:Int))=true:=bne_iff_ne.2 (by omega);go_enter func85,ntmps85;go_wp2_with fail;go_ret;exact⟨rfl,aH _ _⟩
 have t0:((m.length:Int) != (m.length:Int))=false:=by simp
 rw[L] at M a5 hl ⊢;have HL:=hid L;clear L;go_enter func85,ntmps85;go_wp2_with fail;clear t0
 go_loopg [5,13] m.length (fun g _s5 a8 wr=>∃k:Nat,k<=m.length/\g=m.length-k/\a8=.int .i64 (k:Int)/\Hid (l.take k=m.take k)/\Below w.heap.size w wr)
 case atStart=>exact⟨0,aO _,rfl,rfl,hid rfl,aH _ _⟩
 case round=>
  obtain⟨k,hk,V,rfl,HT,d⟩:=hrel;have HG:=hid V;clear V
  by_cases a1:k<m.length
  ·have t1:decide ((k:Int)<(m.length:Int))=true:=aG (by omega);obtain⟨A,D,rfl,F,a2⟩:=M (by omega);obtain⟨G,I,rfl,J,a3⟩:=hB (by omega);have a9:k<l.length:=by rw[HL.out];exact a1
   obtain⟨x,Y⟩:∃x,l[k]? =some x:=⟨_,aN a9⟩;obtain⟨y,Z⟩:∃y,m[k]? =some y:=⟨_,aN a1⟩;obtain⟨x0,x1,x2,x3,x4⟩:=a2 k x Y;obtain⟨y0,y1,y2,y3,y4⟩:=a3 k y Z;have c0:=(d.cell (p:=⟨A,D+k*5,none⟩) F).trans x0;have c1:=(d.cell (p:=⟨A,D+k*5+1,none⟩) F).trans x1;have c2:=(d.cell (p:=⟨A,D+k*5+2,none⟩) F).trans x2;have c3:=(d.cell (p:=⟨A,D+k*5+3,none⟩) F).trans x3;have c4:=(d.cell (p:=⟨A,D+k*5+4,none⟩) F).trans x4;have d0:=(d.cell (p:=⟨G,I+k*5,none⟩) J).trans y0;have d1:=(d.cell (p:=⟨G,I+k*5+1,none⟩) J).trans y1;have d2:=(d.cell (p:=⟨G,I+k*5+2,none⟩) J).trans y2
   have d3:=(d.cell (p:=⟨G,I+k*5+3,none⟩) J).trans y3;have d4:=(d.cell (p:=⟨G,I+k*5+4,none⟩) J).trans y4;have hq:=fun W=>aKu x y W
   obtain⟨B,a0⟩:∃B:Bool,B=decide (x=y):=⟨_,rfl⟩;rw[<-a0] at hq;have a4:=hid a0;have HX:=hid Y;have HY:=hid Z;obtain⟨xa,xr,xf,xn,xy⟩:=x;obtain⟨ya,yr,yf,yn,yy⟩:=y;dsimp only at c0 c1 c2 c3 c4 d0 d1 d2 d3 d4 hq;clear x0 x1 x2 x3 x4 y0 y1 y2 y3 y4 a2 a3 Y Z M hB a0
   cases B with
   |true=>
    have b0:=hid (show l.take (k+1)=m.take (k+1) by
     have e:=of_decide_eq_true a4.out.symm;rw[cG,cG,HT.out,HX.out,HY.out,e])
    go_wp2_with fail
    go_quiet (fail)
    go_wp2_with fail;have V:=HG.out
    go_roundg (m.length-(k+1))
    ·exact⟨k+1,by omega,rfl,by go_num,b0,below_drewN d _⟩
    ·omega
   |false=>
    obtain rfl:R=false:=by
     rw[U.out];refine aE (fun h=>of_decide_eq_false a4.out.symm ?_);have h1:=HX.out;rw[h,HY.out] at h1;exact(cC h1).symm
    go_wp2_with fail
    go_quiet (fail)
    go_wp2_with fail;go_ret;exact⟨rfl,below_drewN d _⟩
  ·have t1:decide ((k:Int)<(m.length:Int))=false:=aE (by omega);obtain rfl:R=true:=by
    rw[U.out];refine aG ?_;have h:=HT.out;rwa[cD (by rw[HL.out];omega),cD (by omega)] at h
   go_wp2_with fail;go_ret;exact⟨rfl,d⟩
theorem bHc (a s:ByteArray) (w:World) (hE:dU w) (hs:s.size<=1000000) (ha:a.size<=120000):
  Calls pG 47 #[.string a,.string s] w fun e w'=>∃v,e=.returned (.tuple #[v,.int .i64 (vF a.data.toList s.data.toList)])/\RdR w' v ((if vF a.data.toList s.data.toList=0 then gU 0 (eY a.data.toList) else[]).map bG)/\Below w.heap.size w w':=by
 obtain⟨X,J⟩:=ex1 (vF a.data.toList s.data.toList);rw[<-J]
 by_cases d:(dX s.data.toList).2.2.2≠0
 ·have e:X=(dX s.data.toList).2.2.2:=by rw[J];unfold vF;rw[aB d]
  refine(WC a s w hs d).mono ?_;rintro e' w' ⟨rfl,hb⟩;exact⟨_,by rw[e],by rw[aA (by rw[e];exact d)];exact RdR.nil _,hb⟩
 have d:=eB.1 d;have M:=GM s w hs;have U:=fun W=>zQ a W (by omega)
 have V:=fun W h=>GK a W h ha
 have a4:(gU 0 (eY a.data.toList)).length<=1000000:=by
  have:=GC a;rw[NK];omega
 have a5:a.data.toList.length=a.size:=rfl;obtain⟨C,Y⟩:=ex1 ((cH a.data.toList).toNat);obtain⟨⟨l,n,c,x⟩,I⟩:∃D,D=dX s.data.toList:=⟨_,rfl⟩;obtain⟨L,O⟩:=ex1 (gU 0 (eY a.data.toList));obtain⟨E,Z⟩:=ex1 ((cI a.data.toList).2);have a6:X=if n≠a.size\/c≠C then 7 else if E≠0 then E else if L≠l then 3 else 0:=by
  rw[J];unfold vF;rw[<-I,<-O,<-Y,<-Z,a5];rw[<-I] at d;rw[aA (by show ¬x≠0;exact not_not_intro d)]
 rw[<-I] at M d;rw[<-Y] at U;rw[<-O,<-Z] at V;rw[<-O] at a4 ⊢;dsimp only at M d;subst d;have R:=hid a6;have a7:=hid I;clear J a6 a5 Y I O Z;go_enter func47,ntmps47;go_wp2_with fail;refine M.mono ?_;rintro e w1 ⟨v,er,rfl,hr,b4,d⟩;rcases b4 with⟨rfl,-⟩|⟨p,-,b7⟩
 rotate_left
 ·omega
 have a8:=hE.below d;have n3:∀w,(binOp .eql 93 .nilIface .nilIface).run pG w=.ok (.bool true) w:=fun w=>by kernel_rfl
 have n4:∀w,(binOp .neq 93 .nilIface .nilIface).run pG w=.ok (.bool false) w:=fun w=>by kernel_rfl
 have n5:∀w,(binOp .neq 93 (.iface 167 (.agg #[.string ⟨#[97,114,99,104,105,118,101]⟩,.iface 165 (.int .i64 7)])) .nilIface).run pG w=.ok (.bool true) w:=fun w=>by kernel_rfl
 clear M hE
 by_cases A:n=a.size
 rotate_left
 ·obtain rfl:X=7:=by rw[R.out,aB (.inl A)]
  have t1:((n:Int)==(a.size:Int))=false:=beq_eq_false_iff_ne.2 (by omega);have a9:(n==a.size)=false:=beq_eq_false_iff_ne.2 A;go_wp2_with fail;refine(GN _ 7 _ (.inr (.inr rfl))).mono ?_;rintro e w2 ⟨rfl,A⟩;go_wp2_with fail
  go_ret2
  exact⟨_,rfl,RdR.nil _,aW d A⟩
 subst A;go_wp2_with fail;refine(U _).mono ?_;rintro e w2 ⟨rfl,A⟩;have b0:=a8.below A;have b1:=hr.below A;have a0:=aW d A;clear U a8 hr d A
 by_cases F:c=C
 rotate_left
 ·obtain rfl:X=7:=by rw[R.out,aB (.inr F)]
  have t1:((c:Int)==(C:Int))=false:=beq_eq_false_iff_ne.2 (by omega);have a9:(c==C)=false:=beq_eq_false_iff_ne.2 F;go_wp2_with fail;refine(GN _ 7 _ (.inr (.inr rfl))).mono ?_;rintro e w3 ⟨rfl,F⟩;go_wp2_with fail
  go_ret2
  exact⟨_,rfl,RdR.nil _,aW a0 F⟩
 subst F;have a1:=hid (show X=if E≠0 then E else if L≠l then 3 else 0 by rw[R.out,aA (by rintro(h|h)<;>exact h rfl)]);clear R;go_wp2_with fail;refine(V _ b0).mono ?_;rintro e w3 ⟨u,rfl,hu,F⟩;have b2:=b1.below F;have a2:=aW a0 F;clear V b0 b1 a0 F
 by_cases G:E=0
 rotate_left
 ·obtain rfl:X=E:=by rw[a1.out,aB G]
  have t1:(X==0)=false:=beq_eq_false_iff_ne.2 G;have a9:(X != 0)=true:=bne_iff_ne.2 G;go_wp2_with fail
  go_ret2
  exact⟨_,rfl,RdR.nil _,a2⟩
 subst G;have b5:l.length<=1000000:=by
  have e:=a7.out;have h5:=congrArg (fun D:List Ent×Nat×Nat×Int=>D.1.length) e;dsimp only at h5;rw[h5];exact bEe _ (by show s.size<=_;omega)
 have a3:=fun W d A=>bFe u v L l W d A a4 b5
 obtain⟨B,hB⟩:∃B:Bool,B=decide (L=l):=⟨_,rfl⟩;rw[<-hB] at a3;have HB:=hid hB;clear hB a7;go_wp2_with fail;refine(a3 _ hu b2).mono ?_;rintro e w4 ⟨rfl,G⟩;have b6:=hu.below G;have b3:=aW a2 G;clear a3 hu b2 a2 G
 cases B with
 |false=>
  obtain rfl:X=3:=by rw[a1.out,aA (by decide),aB (of_decide_eq_false HB.out.symm)]
  go_wp2_with fail
  go_ret2
  exact⟨_,rfl,RdR.nil _,b3⟩
 |true=>
  obtain rfl:X=0:=by rw[a1.out,aA (by decide),aA (fun k=>k (of_decide_eq_true HB.out.symm))]
  go_wp2_with fail
  go_ret2
  exact⟨_,rfl,b6,b3⟩
abbrev okA (l:List (Nat×List ByteArray)):Prop:=∀p∈l,1<=p.1/\p.1<=9/\∀t∈p.2,okT (40*(p.1:Int)) t
noncomputable def aZ (l:List (Nat×List ByteArray)):ByteArray:=mkS (aI (dH l))
def nQ (l:List (Nat×List ByteArray)):List ByteArray:=(l.map (fun p=>p.2)).flatten
theorem AG (x y:List (Nat×List ByteArray)):aZ x++aZ y=aZ (x++y):=by unfold aZ;rw[sI,aDu]
theorem NE {x y:List (Nat×List ByteArray)} (h:okA x) (k:okA y):okA (x++y):=fun p d=>(dK.1 d).elim (h p) (k p)
theorem NF {n:Nat} {l:List ByteArray} (d:1<=n) (e:n<=9) (h:∀t∈l,okT (40*(n:Int)) t):okA [(n,l)]:=fun p A=>by obtain rfl:=cP.1 A;exact⟨d,e,h⟩
theorem wQ:∀{l:List (Nat×List ByteArray)},okA l->(aZ l).size<=3500*(nQ l).length+15*l.length
 |[],_=>by unfold aZ;rw[cS];exact aD _
 |p::l,h=>by
  have d:=wQ (l:=l) (fun q A=>h q (List.mem_cons_of_mem _ A));obtain⟨I,J,D⟩:=h p (List.mem_cons_self ..);have L:=yC (r:=40*(p.1:Int)) (by omega) p.2 D;have e:dH (p::l)=iD (cM p.1 p.2)++dH l:=rfl;have M:=zO (cM p.1 p.2);have O:=zN (cM p.1 p.2).length;have R:=aDk (cM p.1 p.2).length;have U:=xT p.1 p.2;have F:=LP (p::l);have V:=LP l;have G:(nQ (p::l)).length=p.2.length+(nQ l).length:=by unfold nQ;rw[List.map_cons,List.flatten_cons,aL]
  unfold aZ at d ⊢;rw[cS] at d ⊢;rw[e,aL] at F;rw[e];rw[G,List.length_cons];omega
theorem GD {l:List (Nat×List ByteArray)} (d:l≠[]) (e:okA l):eY (aZ l).data.toList=kT 0 l/\(cI (aZ l).data.toList).2=0:=by
 have h:=aVk d e;unfold aZ;rw[dP];unfold eY;rw[h];exact⟨rfl,rfl⟩
theorem RdT.nil (w:World):RdT w (.slice none 0 0) []:=⟨none,0,rfl,aD _,by simp[maxLen],.inl rfl⟩
theorem bDt (x b:BitVec 32) (w:World):
  Calls pG 118 #[.int .u32 (x.toNat:Int),.int .u32 (b.toNat:Int)] w fun e w'=>e=.returned (.int .u32 ((zM x b).toNat:Int))/\w'=w:=by
 obtain⟨X,d⟩:=ex1 (x.toNat);have a0:X<4294967296:=by rw[d];exact x.isLt
 obtain⟨Y,A⟩:=ex1 ((x<<<1).toNat);have O:Y=X*2%4294967296:=by
  rw[A,BitVec.toNat_shiftLeft,Nat.shiftLeft_eq,<-d]
 obtain⟨q,D⟩:=ex1 (x<<<1|||x>>>31);have U:(x>>>31).toNat=X/2147483648:=by rw[BitVec.toNat_ushiftRight,Nat.shiftRight_eq_div_pow,<-d]
 have F:q.toNat=Y+X/2147483648:=by
  rw[D,BitVec.toNat_or,<-A,U];have V:X/2147483648<2^1:=by omega
  have:=Nat.two_pow_add_eq_or_of_lt V (Y/2);rw[show 2^1*(Y/2)=Y by omega] at this;exact this.symm
 have Z:=CG q b;obtain⟨r,G⟩:=ex1 (q^^^b);have I:=hid (show((r.toNat:Nat):Int)=((zM x b).toNat:Int) by rw[G,D];rfl);obtain⟨Q,J⟩:=ex1 (q.toNat);obtain⟨B,L⟩:=ex1 (b.toNat);obtain⟨R,M⟩:=ex1 (r.toNat);rw[<-G,<-J,<-L,<-M] at Z;rw[<-M] at I;rw[<-d,<-L];rw[<-J] at F;have e1:2*(X:Int)%4294967296=(Y:Int):=by omega
 clear d A D U G J L M
 by_cases h:2147483648<=X
 ·have t1:decide ((X:Int)>=2147483648)=true:=aG (by omega);have t2:decide (2147483648<=(X:Int))=true:=aG (by omega);have e2:((Y:Int)+1)%4294967296=(Q:Int):=by omega
  have a1:(Y:Int)+1=(Q:Int):=by omega
  have a2:Q<4294967296:=by omega
  clear O F;go_enter func118,ntmps118;go_wp2_with fail;go_ret;exact⟨eI I.out,rfl⟩
 ·have t1:decide ((X:Int)>=2147483648)=false:=aE (by omega);have t2:decide (2147483648<=(X:Int))=false:=aE (by omega);obtain rfl:Y=Q:=by omega
  have a3:2*(X:Int)=(Y:Int):=by omega
  clear O F;go_enter func118,ntmps118;go_wp2_with fail;go_ret;exact⟨eI I.out,rfl⟩
theorem bDu (v:Value) (l:List (BitVec 32)) (w:World) (J:RdS w v l):
  Calls pG 78 #[v] w fun e w'=>e=.returned (.int .u32 ((iM l).toNat:Int))/\w'=w:=by
 obtain⟨a,ca,rfl,a1,U,L⟩:=J.open;unfold maxLen at U;clear J;obtain⟨Z,d⟩:=ex1 ((iM (l.take 0)).toNat);have M:(Z:Int)=0:=by rw[d];rfl
 go_enter func78,ntmps78;go_wp2_with fail
 go_loopg [3,4] l.length (fun g V s4 wr=>∃k X:Nat,k<=l.length/\g=l.length-k/\s4=.int .i64 (k:Int)/\V=.int .u32 (X:Int)/\Hid (X=(iM (l.take k)).toNat)/\wr=w)
 case atStart=>exact⟨0,Z,aO _,rfl,rfl,by rw[M],hid d,rfl⟩
 case round=>
  obtain⟨k,X,hk,A,rfl,rfl,O,rfl⟩:=hrel;have HG:=hid A;clear A M d
  by_cases a0:k<l.length
  ·have t1:decide ((k:Int)<(l.length:Int))=true:=aG (by omega);obtain⟨b,off,rfl,hb,R⟩:=L (by omega);obtain⟨x,D⟩:∃x,l[k]? =some x:=⟨_,aN a0⟩;have c1:=R k x D;have F:=bDt (iM (l.take k)) x wr;rw[<-aGq D,<-O.out] at F;obtain⟨Y,G⟩:=ex1 ((iM (l.take (k+1))).toNat);obtain⟨x',I⟩:∃x',x'=x.toNat:=⟨_,rfl⟩;rw[<-G,<-I] at F;rw[<-I] at c1;have HY:=hid G;clear G I D R L;go_wp2_with fail;refine F.mono ?_;rintro e w2 ⟨rfl,rfl⟩;go_wp2_with fail;have A:=HG.out
   go_roundg (l.length-(k+1))
   ·exact⟨k+1,Y,by omega,rfl,by go_num,rfl,HY,rfl⟩
   ·omega
  ·have t1:decide ((k:Int)<(l.length:Int))=false:=aE (by omega);have HF:=hid (show((X:Nat):Int)=((iM l).toNat:Int) by rw[O.out,cD (by omega)]);go_wp2_with fail;go_ret;exact⟨eI HF.out,rfl⟩
theorem aJq {W d:World} {B:Nat} {v u:Value} {l:List (BitVec 32)} {m:List Int} (h:OwS W B v l) (e:OwI W B u m) (A:W.grownBy d u.ownBlock):OwS d B v l:=MY h e A (by decide)
theorem bDv {W d:World} {B:Nat} {v u:Value} {l:List (BitVec 32)} {m:List Int} (h:OwI W B u m) (e:OwS W B v l) (A:W.grownBy d v.ownBlock):OwI d B u m:=MY h e A (by decide)
theorem VL (x y:List Bool):bI (x++y)=bI x++bI y:=dY ..
theorem aJr (n:Int) (v:Value) (l:List ByteArray) (w:World) (hr:RdT w v l) (hl:l.length<=10) (d6:∀t∈l,t.size<=1000) (b5: -9223372036854775808<=n) (b6:n<=9223372036854775807):
  Calls pG 34 #[.int .i64 n,v] w fun e w'=>aIo w w' n l e:=by
 obtain⟨a,ca,rfl,i2,f4,hA⟩:=hr.open;unfold maxLen at f4
 by_cases hn:n<1\/9<n
 ·have hd:wrE n l=1:=by unfold wrE;rw[aB hn]
  have HD:=hid hd;clear hd
  by_cases h1:n<1
  ·have t1:decide (n<1)=true:=aG h1;go_enter func34,ntmps34;go_wp2_with fail
   go_ret2
   exact .inr ⟨by rw[HD.out];decide,by rw[HD.out];rfl,aH _ _⟩
  ·have t1:decide (n<1)=false:=aE h1;have t2:decide (n>9)=true:=aG (by omega);have t3:decide (9<n)=true:=aG (by omega);go_enter func34,ntmps34;go_wp2_with fail
   go_ret2
   exact .inr ⟨by rw[HD.out];decide,by rw[HD.out];rfl,aH _ _⟩
 obtain⟨N,rfl⟩:∃N:Nat,n=(N:Int):=⟨n.toNat,by omega⟩;have h1:1<=N:=by omega
 have h9:N<=9:=by omega
 obtain⟨M,hM⟩:=ex1 (40*N);have m1:40*(N:Int)=(M:Int):=by omega
 have i3:M<=360:=by omega
 have d7:wrE (N:Int) l=oH (M:Int) l:=by unfold wrE;rw[aA hn,m1]
 have c7:=hid d7;clear d7;have f5:=hid d6;have t1:decide ((N:Int)<1)=false:=aE (by omega);have t2:decide ((N:Int)>9)=false:=aE (by omega);have t3:decide (9<(N:Int))=false:=aE (by omega);obtain⟨N1,d8⟩:=ex1 (N+1);have m2:(N:Int)+1=(N1:Int):=by omega
 have i4:N1<=10:=by omega
 obtain⟨D,hD⟩:=ex1 ((⟨#[48,49,50,51,52,53,54,55,56,57]⟩:ByteArray).extract N N1);obtain⟨X,hX⟩:∃X:ByteArray,X=⟨#[80,77,107]⟩++D:=⟨_,rfl⟩;have c8:X.data.toList=iN N:=by
  rw[hX,hD,d8];have:N=1\/N=2\/N=3\/N=4\/N=5\/N=6\/N=7\/N=8\/N=9:=by omega
  rcases this with rfl|rfl|rfl|rfl|rfl|rfl|rfl|rfl|rfl<;>rfl
 have f6:D.size=1:=by
  have:=congrArg nU c8;rw[hX,BC,Array.toList_append,aL] at this;have e:D.data.toList.length=D.size:=rfl;rw[e] at this;have e2:(iN N).length=4:=rfl;rw[e2] at this;have e3:(⟨#[80,77,107]⟩:ByteArray).data.toList.length=3:=rfl;omega
 have b7:=fun W=>aEd X W (by rw[hX,rG,f6];decide)
 rw[c8] at b7;have f7:=hD.symm;have f8:=hX.symm;obtain⟨HB,b8⟩:=ex1 (eR (iN N));have d9:HB.length=32:=by rw[b8,qU];rfl
 rw[<-b8] at b7;have f9:=hid b8;have HM:=hid hM;clear hn d6 hM d8 hD hX c8 b8 hr;go_enter func34,ntmps34;go_wp2_with fail;refine(b7 _).mono ?_;rintro e w1 ⟨u1,rfl,e0,a7⟩;clear b7 f7 f8 t1 t2 t3 m2;go_wp2_with fail
 go_loopg [6,7,8,9,10] l.length (fun g s6 s7 s8 _s9 _s10 wr=>∃k:Nat,k<=l.length/\g=l.length-k/\s8=.int .i64 (k:Int)/\OwI wr w.heap.size s6 (bI (HB++fN (l.take k)))/\OwS wr w.heap.size s7 ((l.take k).map (fun t=>cH t.data.toList))/\Below w.heap.size w wr/\Hid (∀t∈l.take k,okT (M:Int) t/\jZ t (M:Int)=0))
 case atStart=>exact⟨0,aO _,rfl,rfl,by rw[List.take_zero];show OwI w1 w.heap.size u1 (bI (HB++[]));rw[dI];exact e0,Ow.nil _ _ _,a7,hid (fun t d=>by simp at d)⟩
 case round=>
  obtain⟨k,hk,hg,rfl,O,R,a0,a1⟩:=hrel;have HG:=hid hg;have a8:=a0.size;clear hg e0 a7
  by_cases c9:k<l.length
  ·have t4:decide ((k:Int)<(l.length:Int))=true:=aG (by omega);obtain⟨b,off,rfl,e1,hc⟩:=hA (by omega);obtain⟨t,d⟩:∃t,l[k]? =some t:=⟨_,aN c9⟩;have g0:=hid (hc k t d);have c1:=(a0.cell (p:=⟨b,off+k,none⟩) e1).trans (hc k t d);have i5:=f5.out t (List.mem_of_getElem? d);have a3:=fun W=>bA9 t (M:Int) W (by omega) (by omega) (by omega)
   unfold FV at a3;have e4:oH (M:Int) l=oH (M:Int) (t::l.drop (k+1)):=by
    rw[UL (k:=k) (fun u hu=>(a1.out u hu).2),List.drop_eq_getElem_cons c9];rw[aN c9] at d;rw[cC d]
   obtain⟨E0,d2⟩:=ex1 (jZ t (M:Int));obtain⟨Y,hY⟩:=ex1 (tB t (M:Int));rw[<-d2,<-hY] at a3;unfold fT at a3;have b9:=hid d2;have g1:=hid hY;have e5:=hid e4;have HT:=hid d;have a9:=fun W (h:Y.length<=1000000)=>zY Y W h
   have c0:=fun W=>TA t W (by omega)
   obtain⟨S,U⟩:=ex1 (cH t.data.toList);rw[<-U] at c0;obtain⟨E,I⟩:=ex1 (HB++fN (l.take k));have g2:E.length<=280100:=by
    have:=yC (r:=(M:Int)) (by omega) (l.take k) (fun t d=>(a1.out t d).1);rw[aQ] at this;rw[I,aL,d9];omega
   have g3:=hid I;have e6:=hid (show(l.take (k+1)).map (fun t=>cH t.data.toList)=(l.take k).map (fun t=>cH t.data.toList)++[S] by rw[cG,d,dY,U];rfl);have g4:=hid (show l.take (k+1)=l.take k++[t] by rw[cG,d];rfl);obtain⟨Q,hQ⟩:=ex1 ((l.take k).map (fun t=>cH t.data.toList));have i6:Q.length<=10:=by rw[hQ,aS,aQ];omega
   rw[<-I] at O;rw[<-hQ] at R e6;clear d2 hY e4 I U hQ d hc hA;go_wp2_with fail;refine(a3 _).mono ?_;rintro e w2 ⟨rfl,A,d3⟩;have a2:OwI w2 w.heap.size u6 (bI E):=Ow.below O A (aD _);have a4:OwS w2 w.heap.size u7 Q:=Ow.below R A (aD _);have V:=a0.trans (A.mono a8);have b0:=V.size
   by_cases h0:E0=0
   rotate_left
   ·have t5:(E0 != 0)=true:=by rw[bne_iff_ne];exact h0
    have HF:=hid (show wrE (N:Int) l=E0 by
     rw[c7.out,e5.out];unfold oH;rw[<-b9.out,aB h0])
    clear c7 e5 d3 a3 A O R a0 a8 a2 a4 a9 c0;go_wp2_with fail
    go_ret2
    exact .inr ⟨by rw[HF.out];exact h0,by rw[HF.out];rfl,V.alloc (by omega) _⟩
   subst h0;have d4:=aIl b9.out.symm (d3 rfl);have c2:Y=eJ t:=by rw[g1.out,aIk b9.out.symm]
   have HY:=hid c2;have g5:0<Y.length:=by
    have:=aDn t;rw[c2];omega
   have g6:=hid (show HB++fN (l.take (k+1))=E++Y by rw[bBt HT.out,g3.out,c2,bU]);clear c2;have i7:Y.length<=28000:=by
    have:=yC (r:=(M:Int)) (by omega) [t] (fun x hx=>by rw[cP.1 hx];exact d4);rw[MV] at this;rw[HY.out];simp only[fN,List.map_nil,List.flatten_nil,dI,fQ] at this;omega
   have g7:=hid (show ∀x∈l.take (k+1),okT (M:Int) x/\jZ x (M:Int)=0 by
    rw[g4.out];intro x hx;rcases dK.1 hx with hx|hx
    ·exact a1.out x hx
    ·rw[cP.1 hx];exact⟨d4,b9.out.symm⟩)
   have e7:OwI _ w.heap.size u6 (bI E):=Ow.alloc a2 (.cells #[.string (mkS (aI Y)),.int .i64 (Y.length:Int)] 69);have b1:OwS _ w.heap.size u7 Q:=Ow.alloc a4 (.cells #[.string (mkS (aI Y)),.int .i64 (Y.length:Int)] 69);have h3:=V.alloc b0 (.cells #[.string (mkS (aI Y)),.int .i64 (Y.length:Int)] 69);have b2:=h3.size;have c3:=Arr.new w2 69 [.string (mkS (aI Y)),.int .i64 (Y.length:Int)];change Arr (w2.alloc (.cells #[.string (mkS (aI Y)),.int .i64 (Y.length:Int)] 69)) _ _ _ at c3;have a9:=fun W=>a9 W (by omega)
   clear a3 A d3 O R a0 a8 a2 a4 V d4 b0;have d0:=c3.cell (i:=0) rfl;have d1:=c3.cell (i:=1) rfl;go_wp2_with fail;refine(a9 _).mono ?_;rintro e w4 ⟨v4,rfl,b3,Z⟩;have a5:OwI w4 w.heap.size u6 (bI E):=Ow.below e7 Z (aD _);have e8:OwS w4 w.heap.size u7 Q:=Ow.below b1 Z (aD _);have h4:=h3.trans (Z.mono b2);have b4:=h4.size;have g8:((bI E).length+(bI Y).length)*8<=140737488355328:=by rw[cX,cX];omega
   have a6:0<(bI Y).length:=by rw[cX];exact g5
   clear a9 Z e7 b1 h3 b2 c3 d0 d1;go_wp2_with (at_builtin;refine lR rfl _ _ rfl w.heap.size _ _ _ rfl a5 _ rfl b3 a6 g8 b4 ?_;intro v5 w5 L p2 p3 _;(have e9:OwS w5 w.heap.size u7 Q:=aJq e8 a5 p3);(have h5:=h4.trans p2);(have c4:=h5.size);(have c5:=(h5.cell (p:=⟨b,off+k,none⟩) e1).trans g0.out);(rw[<-VL,<-g6.out] at L));refine(c0 _).mono ?_;rintro e w' ⟨rfl,rfl⟩;clear c0 a5 e8 h4 b4 b3 p2 p3
   go_wp2_with (at_builtin;refine aIn rfl _ _ rfl w.heap.size _ _ rfl (Ow.alloc e9 _) _ S rfl (bX _ _ _) ?_ ?_ ?_;(omega);(simp;omega);intro v6 w6 r1 r2 r3;(have g9:=bDv (Ow.alloc L _:OwI _ _ _ _) (Ow.alloc e9 _) r3));have hg:=HG.out
   go_roundg (l.length-(k+1))
   ·exact⟨k+1,by omega,rfl,by go_num,g9,by rw[e6.out];exact r1,(h5.alloc c4 _).trans r2,g7⟩
   ·omega
  ·have t4:decide ((k:Int)<(l.length:Int))=false:=aE (by omega);obtain rfl:k=l.length:=by omega
   rw[List.take_length] at O R a1;have b5:=fun W=>wK 25779555029136 48 W (by decide) (by decide)
   obtain⟨S,U⟩:=ex1 ((iM (l.map (fun t=>cH t.data.toList))).toNat);have i8:S<4294967296:=by rw[U];exact(iM (l.map (fun t=>cH t.data.toList))).isLt
   have c6:=fun W h=>bDu u7 (l.map (fun t=>cH t.data.toList)) W h
   rw[<-U] at c6;have b6:=fun W=>wK S 32 W (by omega) (by decide)
   obtain⟨E,I⟩:=ex1 (HB++fN l);have g2:E.length<=280100:=by
    have:=yC (r:=(M:Int)) (by omega) l (fun t d=>(a1.out t d).1);rw[I,aL,d9];omega
   obtain⟨G,hG⟩:=ex1 (aT 25779555029136 48);have i9:G.length=48:=by rw[hG,dV]
   obtain⟨J,hJ⟩:=ex1 (aT S 32);have j0:J.length=32:=by rw[hJ,dV]
   obtain⟨F,hF⟩:=ex1 (E++G++J);have j1:F.length<=300000:=by rw[hF,aL,aL];omega
   have HF:=hid (show mkS (aI F)=mkS (aI (cM N l)) by
    rw[hF,hG,hJ,I,f9.out,U,bU,bU];rfl)
   rw[<-I] at O;rw[<-hG] at b5;rw[<-hJ] at b6;have f0:=fun W u (h:RdI W u (bI F))=>CF u F W h (by omega)
   have m5:IntKind.u64.wrap (S:Int)=(S:Int):=by rw[IntKind.wrap_u64];omega
   have j2:(S:Int)%18446744073709551616=(S:Int):=by omega
   have i0:=hid hF;have f1:=hid (show(wrE (N:Int) l=0)/\∀t∈l,okT (40*(N:Int)) t from⟨by rw[c7.out];exact AA (fun t d=>(a1.out t d).2),fun t d=>by
    have:=(a1.out t d).1;rw[<-m1] at this;exact this⟩)
   obtain⟨Q,hQ⟩:=ex1 (l.map (fun t=>cH t.data.toList));rw[<-hQ] at R c6;clear U I hG hJ hF hQ hA;go_wp2_with fail;refine(b5 _).mono ?_;rintro e w2 ⟨u2,rfl,f2,A⟩;have a2:OwI w2 w.heap.size u6 (bI E):=Ow.below O A (aD _);have a4:OwS w2 w.heap.size u7 Q:=Ow.below R A (aD _);have V:=a0.trans (A.mono a8);have b0:=V.size;have a7:((bI E).length+(bI G).length)*8<=140737488355328:=by rw[cX,cX];omega
   have a6:0<(bI G).length:=by rw[cX];omega
   clear b5 A O R a0 a8;go_wp2_with (at_builtin;refine lR rfl _ _ rfl w.heap.size _ _ _ rfl a2 _ rfl (OwI.rd f2) a6 a7 b0 ?_;intro v3 w3 L p2 p3 _;(have b1:OwS w3 w.heap.size u7 Q:=aJq a4 a2 p3);(have h3:=V.trans p2);(have b2:=h3.size));refine(c6 _ (OwS.rd b1)).mono ?_;rintro e w' ⟨rfl,rfl⟩;clear c6 a2 a4 V b0 f2 p2 p3 a7 a6;go_wp2_with fail;refine(b6 _).mono ?_;rintro e w4 ⟨u4,rfl,b3,Z⟩;have a5:OwI w4 w.heap.size v3 (bI E++bI G):=Ow.below L Z (aD _);have h4:=h3.trans (Z.mono b2);have b4:=h4.size
   have i1:((bI E++bI G).length+(bI J).length)*8<=140737488355328:=by rw[aL,cX,cX,cX];omega
   have a6:0<(bI J).length:=by rw[cX];omega
   clear b6 Z L b1 h3 b2;go_wp2_with (at_builtin;refine lR rfl _ _ rfl w.heap.size _ _ _ rfl a5 _ rfl (OwI.rd b3) a6 i1 b4 ?_;intro v5 w5 L p2 p3 _;(have h5:=h4.trans p2);(have c4:=h5.size);(rw[<-VL,<-VL,<-i0.out] at L));refine(f0 _ _ (OwI.rd L)).mono ?_;rintro e w6 ⟨rfl,f3⟩;have h6:=h5.trans (f3.mono c4);have h7:=h6.alloc h6.size (.cells #[.string (mkS (aI F)),.int .i64 (F.length:Int)] 69);have d5:=Arr.new w6 69 [.string (mkS (aI F)),.int .i64 (F.length:Int)];change Arr (w6.alloc (.cells #[.string (mkS (aI F)),.int .i64 (F.length:Int)] 69)) _ _ _ at d5
   have d0:=d5.cell (i:=0) rfl;clear f0 f3 h5 c4 p2 p3 L a5 b3 h4 b4 h6 d5;go_wp2_with fail
   go_ret2
   exact .inl ⟨f1.out.1,by rw[fL,<-HF.out];rfl,f1.out.2,h7⟩
theorem aJs (N:Nat) (v:Value) (l:List ByteArray) (w:World) (D:RdT w v l) (O:l.length<=5) (A:vC l) (F:1<=N) (G:N<=9):
  Calls pG 34 #[.int .i64 (N:Int),v] w fun e w'=>e=.returned (.tuple #[.string (aZ [(N,l)]),.int .i64 0])/\okA [(N,l)]/\Below w.heap.size w w':=by
 have R:wrE (N:Int) l=0:=by
  unfold wrE;rw[aA (by omega)];refine AA (fun t d=>?_);obtain⟨I,J,U⟩:=A t d;unfold lnL at J;exact MW I (by omega) (by omega) (by omega)
 refine(aJr (N:Int) v l w D (by omega) (fun t d=>by have:=(A t d).2.2;omega) (by omega) (by omega)).mono ?_;rintro e w' (⟨-,rfl,L,M⟩|⟨V,-,-⟩)
 ·refine⟨?_,NF F G L,M⟩;rw[fL];unfold aZ;rw[tU]
 grind
theorem RdP.nil (w:World):RdP w (.slice none 0 0) []:=by grind [RdP]
theorem WfP.nil:WfP []:=by intro p d;simp at d
theorem aKw (c:Int) (A: -9223372036854775808<=c) (D:c<=9223372036854775807):∃q R:Nat,1<=R/\R<=9/\aJ.wrap (1+(q:Int))=(R:Int)/\1+(q:Int)=(R:Int)/\∀W,Calls pG 33 #[.int .i64 c,.int .i64 9] W fun e w'=>e=.returned (.int .i64 (q:Int))/\W=w':=by
 obtain⟨d,F⟩:=lN c 9 (by decide);obtain⟨q,G⟩:∃q:Nat,cK c 9=(q:Int):=⟨_,(rI d).symm⟩;refine⟨q,1+q,by omega,by omega,by rw[show 1+(q:Int)=((1+q:Nat):Int) by push_cast;rfl];exact lE _ (by omega),by push_cast;rfl,fun W=>?_⟩
 grind [VE]
theorem WD (o:Int) (k:Nat) (e:2<=k) (D: -9223372036854775808<=o) (F:o<=9223372036854775807): -9223372036854775808<=o.tdiv (k:Int)/\o.tdiv (k:Int)<=9223372036854775807/\aJ.wrap (o.tdiv (k:Int))=o.tdiv (k:Int):=by
 have h:=Int.natAbs_tdiv o (k:Int);rw[Int.natAbs_natCast] at h;have A:o.natAbs.div k<=o.natAbs/2:=Nat.div_le_div_left e (by decide);rw[<-h] at A;have d: -9223372036854775808<=o.tdiv (k:Int)/\o.tdiv (k:Int)<=9223372036854775807:=by omega
 refine⟨d.1,d.2,?_⟩;rw[IntKind.wrap_i64];omega
theorem bFf {w:World} {v:Value} {x:List ByteArray} (h:RdT w v x) (k:Nat) (R:k<=x.length):
  ∃A,(∀W,(vN 77 v none (some (.int .i64 (k:Int))) none).run pG W=.ok A W)/\RdT w A (x.take k):=by
 obtain⟨a,cap,rfl,U,I,d⟩:=h;have J:(x.take k).length=k:=by rw[aQ];omega
 have e:oI (x.take k)=(oI x).take k:=by unfold oI;rw[List.map_take]
 refine⟨.slice a k cap,fun W=>?_,a,cap,by rw[J],by omega,I,?_⟩
 ·have D:k<=cap:=by omega
  cases a with
  |none=>simp[go_sem,D]
  |some p=>
   by_cases V:cap=0
   ·obtain rfl:k=0:=by omega
    simp[go_sem]
   ·simp[go_sem,D]
 ·rcases d with d|⟨b,off,L,M,O⟩
  ·exact .inl (by rw[e,d,List.take_nil])
  ·refine .inr ⟨b,off,L,M,fun j F=>?_⟩;rw[e] at F ⊢;have G:j<k/\j<(oI x).length:=by rw[aQ] at F;omega
   rw[O j G.2,bV,bV,List.getElem?_take,aB G.1]
theorem bFg {w:World} {v:Value} {x:List ByteArray} (h:RdT w v x) (k:Nat) (G:k<=x.length):
  ∃I,(∀W,(vN 77 v (some (.int .i64 (k:Int))) none none).run pG W=.ok I W)/\RdT w I (x.drop k):=by
 obtain⟨a,cap,rfl,Z,M,d⟩:=h;have J:(x.drop k).length=x.length-k:=bA ..;have e:oI (x.drop k)=(oI x).drop k:=by unfold oI;rw[List.map_drop]
 by_cases A:cap=k
 ·have O:x.length=k:=by omega
  have D:x.drop k=[]:=List.drop_of_length_le (by omega);refine⟨.slice a 0 0,fun W=>?_,a,0,by rw[D];rfl,by rw[D];exact aD _,by simp[maxLen],.inl (by rw[D];rfl)⟩
  cases a<;>simp[go_sem,A,O]
 ·cases a with
  |none=>
   have R:x=[]:=by
    rcases d with d|⟨b,off,F,-,-⟩
    ·exact List.map_eq_nil_iff.1 d
    ·cases F
   subst R;obtain rfl:k=0:=by simpa using G
   exact⟨.slice none 0 cap,fun W=>by simp[go_sem],none,cap,rfl,aO _,M,.inl rfl⟩
  |some p=>
   refine⟨.slice (some (p.add k)) (x.length-k) (cap-k),fun W=>?_,some (p.add k),cap-k,by rw[J],by rw[J];omega,by omega,?_⟩
   ·have k1:(k:Int)<=(x.length:Int):=by omega
    by_cases U:k=0
    ·subst U;simp[go_sem,A]
    ·simp[go_sem,G,A]
   ·rcases d with d|⟨b,off,F,V,Y⟩
    ·exact .inl (by rw[e,d,List.drop_nil])
    ·cases F
     refine .inr ⟨b,off+k,by simp[Addr.add],V,fun j L=>?_⟩;rw[e] at L ⊢;rw[bA] at L;rw[Nat.add_assoc,Y (k+j) (by omega),bV,bV,List.getElem?_drop]
def GQ (a:ByteArray):Prop:=∃L,a=aZ L/\L≠[]/\okA L/\(nQ L).length<=5/\L.length<=2
theorem bFi (n m:Nat) (x:List ByteArray) (k:Nat):nQ [(n,x.take k),(m,x.drop k)]=x:=by simp[nQ]
theorem bFj {n m:Nat} {x:List ByteArray} {k:Nat} (d:x.length<=5) (e:okA [(n,x.take k)]) (A:okA [(m,x.drop k)]):GQ (aZ [(n,x.take k)]++aZ [(m,x.drop k)]):=
 ⟨[(n,x.take k)]++[(m,x.drop k)],AG _ _,by simp,NE e A,by rw[show[(n,x.take k)]++[(m,x.drop k)]=[(n,x.take k),(m,x.drop k)] from rfl,bFi];exact d,by simp⟩
theorem bFk {n:Nat} {x:List ByteArray} {k:Nat} (e:x.length<=5) (d:okA [(n,x.take k)]):GQ (aZ [(n,x.take k)]):=
 ⟨[(n,x.take k)],rfl,by simp,d,by unfold nQ;simp;omega,by simp⟩
theorem GQ.facts {a:ByteArray} (h:GQ a):a.size<=18000/\(cI a.data.toList).2=0/\(cI a.data.toList).1.length<=5:=by
 obtain⟨L,rfl,F,e,G,I⟩:=h;have J:=wQ e;obtain⟨d,A⟩:=GD F e;unfold eY at d;rw[aB A] at d;have D:=congrArg nU (SP L 0);rw[aS] at D;refine⟨by omega,A,?_⟩;rw[d,D];exact G
theorem bHj (s:ByteArray) (v:Value) (a6:List (Int×Int)) (M L:Int) (w:World) (hr:RdP w v a6) (b7:WfP a6) (b8: -9223372036854775808<=M) (b9:M<=9223372036854775807) (c0: -9223372036854775808<=L) (c1:L<=9223372036854775807):
  Calls pG 8 #[.string s,v,.int .i64 M,.int .i64 L] w fun e w'=>∃a,e=.returned (.string a)/\GQ a/\Below w.heap.size w w':=by
 obtain⟨qa,G,d7,d8,ma,c2,a2⟩:=aKw M b8 b9;obtain⟨D,hD⟩:=ex1 (M.tdiv 9);have U:=WD M 9 (by decide) b8 b9;rw[show((9:Nat):Int)=9 from rfl,<-hD] at U;have c3: -9223372036854775808<=D/\D<=9223372036854775807:=⟨U.1,U.2.1⟩;have mD:=U.2.2;clear U;obtain⟨qb,I,d9,e0,mb,e5,c4⟩:=aKw D c3.1 c3.2;have e6:=hD.symm;clear hD;obtain⟨C,hC⟩:=ex1 (L.tdiv 3);have V:=WD L 3 (by decide) c0 c1;rw[show((3:Nat):Int)=3 from rfl,<-hC] at V;have c5: -9223372036854775808<=C/\C<=9223372036854775807:=⟨V.1,V.2.1⟩;have mC:=V.2.2;clear V;have e7:=hC.symm;clear hC;obtain⟨g1,g2⟩:=lN L 3 (by decide)
 have a3:=fun W=>VE L 3 W c0 c1 (by decide) (by decide)
 obtain⟨r,c6⟩:∃r:Nat,cK L 3=(r:Int):=⟨_,(rI g1).symm⟩;rw[c6] at a3 g2;clear c6 g1;go_enter func8,ntmps8;go_wp2_with fail;refine(bDh s v a6 _ hr b7).mono ?_;rintro e d ⟨u,x,rfl,hx,c7,a7,a8⟩;clear hr b7;obtain⟨p1,p2⟩:=lN C ((x.length:Int)+1) (by omega);have a9:=fun W=>VE C ((x.length:Int)+1) W c5.1 c5.2 (by omega) (by omega)
 obtain⟨k0,hk⟩:∃k:Nat,cK C ((x.length:Int)+1)=(k:Int):=⟨_,(rI p1).symm⟩;rw[hk] at p1 p2 a9;obtain⟨k,Y⟩:=ex1 (if r=0 then k0 else x.length);have c8:k<=x.length:=by rw[Y];split<;>omega
 have e8:k0<=x.length:=by omega
 clear hk p1 p2;obtain⟨v1,e9,c9⟩:=bFf hx k c8;obtain⟨v2,f0,d0⟩:=bFg hx k c8;obtain⟨xa,xc,rfl,f3,e1,-⟩:=hx.open;unfold maxLen at e1;have z1:(x.take k).length<=5:=by rw[aQ];omega
 have z2:(x.drop k).length<=5:=by rw[bA];omega
 have f1:vC (x.take k):=fun t ht=>a7 t (List.mem_of_mem_take ht)
 have f2:vC (x.drop k):=fun t ht=>a7 t (List.mem_of_mem_drop ht)
 have Z:∀W,(Below d.heap.size d W/\d.heap.size<=W.heap.size)->Calls pG 34 #[.int .i64 (G:Int),v1] W fun e w'=>e=.returned (.tuple #[.string (aZ [(G,x.take k)]),.int .i64 0])/\Hid (okA [(G,x.take k)])/\Below W.heap.size W w':=fun W h=>
  (aJs G v1 _ W (c9.below h.1) z1 f1 d7 d8).mono fun e w' k=>⟨k.1,hid k.2.1,k.2.2⟩
 have b0:∀W,(Below d.heap.size d W/\d.heap.size<=W.heap.size)->Calls pG 34 #[.int .i64 (I:Int),v2] W fun e w'=>e=.returned (.tuple #[.string (aZ [(I,x.drop k)]),.int .i64 0])/\Hid (okA [(I,x.drop k)])/\Below W.heap.size W w':=fun W h=>
  (aJs I v2 _ W (d0.below h.1) z2 f2 d9 e0).mono fun e w' k=>⟨k.1,hid k.2.1,k.2.2⟩
 have b1:=hid (fun(J:okA [(G,x.take k)]) (ob:okA [(I,x.drop k)])=>bFj c7 J ob);have d1:=hid (fun(J:okA [(G,x.take k)])=>bFk c7 J);have b2:=hid (show okA [(G,x.take k)]->(aZ [(G,x.take k)]).size<=18000 from fun o=>by
  have h:=wQ o;have ea:(nQ [(G,x.take k)]).length=(x.take k).length:=by unfold nQ;simp
  rw[ea,fQ] at h;omega)
 have b3:=hid (show okA [(I,x.drop k)]->(aZ [(I,x.drop k)]).size<=18000 from fun o=>by
  have h:=wQ o;have ea:(nQ [(I,x.drop k)]).length=(x.drop k).length:=by unfold nQ;simp
  rw[ea,fQ] at h;omega)
 obtain⟨OA,a0⟩:∃OA:Prop,OA=okA [(G,x.take k)]:=⟨_,rfl⟩;obtain⟨OB,a4⟩:∃OB:Prop,OB=okA [(I,x.drop k)]:=⟨_,rfl⟩;obtain⟨A,hA⟩:=ex1 (aZ [(G,x.take k)]);obtain⟨O,hB⟩:=ex1 (aZ [(I,x.drop k)]);rw[<-a0,<-hA] at Z;rw[<-a4,<-hB] at b0;rw[<-a0,<-a4,<-hA,<-hB] at b1;rw[<-a0,<-hA] at d1;rw[<-a0,<-hA] at b2;rw[<-a4,<-hB] at b3;clear a0 a4 hA hB z1 z2 f1 f2 hx c9 d0 a7;have d2:Below d.heap.size d d.drew/\d.heap.size<=d.drew.heap.size:=⟨(aH d.heap.size d).drew,aD _⟩;go_wp2_with fail;refine(a9 _).mono ?_;rintro e w' ⟨rfl,rfl⟩;clear a9;go_wp2_with fail;refine(a3 _).mono ?_
 rintro e w' ⟨rfl,rfl⟩;have d3:=lE G (by omega);have f4:=lE I (by omega)
 by_cases h0:r=0
 ·obtain rfl:k=k0:=by rw[Y,aB h0]
  have tr:decide ((r:Int)>0)=false:=aE (by omega);have e2:decide (0<(r:Int))=false:=aE (by omega);have e3:decide (0<r)=false:=aE (by omega);have d4:decide ((r:Int)>1)=false:=aE (by omega);have d5:decide (1<(r:Int))=false:=aE (by omega);have d6:decide (1<r)=false:=aE (by omega);clear Y h0;go_wp2_with fail
  go_cut [11] (fun b4 F=>b4=.string A/\Hid OA/\Below d.heap.size d F/\d.heap.size<=F.heap.size)
  case first=>
   go_region_held3 (fun F=>Below d.heap.size d F/\d.heap.size<=F.heap.size)
    (first
     |with_reducible assumption
     |with_reducible exact kpT (by assumption) (by assumption))
    (first
     |(go_at_call 33;with_reducible refine(a2 _).mono ?_;rintro e w' ⟨rfl,rfl⟩)
     |(go_at_call 34;with_reducible refine(Z _ (by assumption)).mono ?_;rintro e w4 ⟨rfl,J,h4⟩))
   all_goals
    go_wp2_with fail;go_meet;exact⟨rfl,J,by assumption⟩
  case rest=>
  obtain⟨rfl,R,a5⟩:=hcut;have e4:=kpT a5 (aH wc.heap.size wc).drew;clear d2 Z a2 ma c2 d3;go_wp2_with fail;refine(a3 _).mono ?_;rintro e w' ⟨rfl,rfl⟩;go_wp2_with fail
  go_cut [13] (fun b5 F=>b5=.string O/\Hid OB/\Below d.heap.size d F/\d.heap.size<=F.heap.size)
  case first=>
   go_region_held3 (fun F=>Below d.heap.size d F/\d.heap.size<=F.heap.size)
    (first
     |with_reducible assumption
     |with_reducible exact kpT (by assumption) (by assumption))
    (first
     |(go_at_call 33;with_reducible refine(c4 _).mono ?_;rintro e w' ⟨rfl,rfl⟩)
     |(go_at_call 34;with_reducible refine(b0 _ (by assumption)).mono ?_;rintro e w4 ⟨rfl,J,h4⟩))
   all_goals
    go_wp2_with fail;go_meet;exact⟨rfl,J,by assumption⟩
  case rest=>
  obtain⟨rfl,a1,b6⟩:=hcut;have q1:=b2.out R.out;have q2:=b3.out a1.out;have q3:¬9223372036854775807<A.size+O.size:=by omega
  go_wp2_with fail;go_ret;exact⟨A++O,rfl,b1.out R.out a1.out,aW a8 b6.1⟩
 ·obtain rfl:k=x.length:=by rw[Y,aA h0]
  have tr:decide ((r:Int)>0)=true:=aG (by omega);have e2:decide (0<(r:Int))=true:=aG (by omega);have e3:decide (0<r)=true:=aG (by omega);clear Y;go_wp2_with fail
  go_cut [11] (fun b4 F=>b4=.string A/\Hid OA/\Below d.heap.size d F/\d.heap.size<=F.heap.size)
  case first=>
   go_region_held3 (fun F=>Below d.heap.size d F/\d.heap.size<=F.heap.size)
    (first
     |with_reducible assumption
     |with_reducible exact kpT (by assumption) (by assumption))
    (first
     |(go_at_call 33;with_reducible refine(a2 _).mono ?_;rintro e w' ⟨rfl,rfl⟩)
     |(go_at_call 34;with_reducible refine(Z _ (by assumption)).mono ?_;rintro e w4 ⟨rfl,J,h4⟩))
   all_goals
    go_wp2_with fail;go_meet;exact⟨rfl,J,by assumption⟩
  case rest=>
  obtain⟨rfl,R,a5⟩:=hcut;have e4:=kpT a5 (aH wc.heap.size wc).drew;clear d2 Z a2 ma c2 d3;go_wp2_with fail;refine(a3 _).mono ?_;rintro e w' ⟨rfl,rfl⟩
  by_cases h2:r=2
  ·have d4:decide ((r:Int)>1)=true:=aG (by omega);have d5:decide (1<(r:Int))=true:=aG (by omega);have d6:decide (1<r)=true:=aG (by omega);go_wp2_with fail;go_ret;exact⟨A,rfl,d1.out R.out,aW a8 a5.1⟩
  ·have d4:decide ((r:Int)>1)=false:=aE (by omega);have d5:decide (1<(r:Int))=false:=aE (by omega);have d6:decide (1<r)=false:=aE (by omega);go_wp2_with fail
   go_cut [13] (fun b5 F=>b5=.string O/\Hid OB/\Below d.heap.size d F/\d.heap.size<=F.heap.size)
   case first=>
    go_region_held3 (fun F=>Below d.heap.size d F/\d.heap.size<=F.heap.size)
     (first
      |with_reducible assumption
      |with_reducible exact kpT (by assumption) (by assumption))
     (first
      |(go_at_call 33;with_reducible refine(c4 _).mono ?_;rintro e w' ⟨rfl,rfl⟩)
      |(go_at_call 34;with_reducible refine(b0 _ (by assumption)).mono ?_;rintro e w4 ⟨rfl,J,h4⟩))
    all_goals
     go_wp2_with fail;go_meet;exact⟨rfl,J,by assumption⟩
   case rest=>
   obtain⟨rfl,a1,b6⟩:=hcut;have q1:=b2.out R.out;have q2:=b3.out a1.out;have q3:¬9223372036854775807<A.size+O.size:=by omega
   go_wp2_with fail;go_ret;exact⟨A++O,rfl,b1.out R.out a1.out,aW a8 b6.1⟩
end Go.Proofs.YtfckbfofgeilgaaGreatDoor
