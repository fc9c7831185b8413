/-
  Texts put together (part 8): the walks and the plain laws on which the statement stands.
-/
import Derived.Test.YtfckbfofgeilgaaGreatDoorZ2
import Derived.Test.YtfckbfofgeilgaaGreatDoorZ3
import Derived.Test.YtfckbfofgeilgaaGreatDoorZ4
set_option maxRecDepth 100000
set_option maxHeartbeats 12800000
set_option linter.unusedVariables false
set_option linter.unusedSimpArgs false
open Go.Proofs.Tryz
open Go.Proofs.Tryz renaming prog->pG
open Go.IntKind renaming i64->aJ,wrap_i64->aM
open Go.RowKit.Below renaming refl->aH
open List renaming append_assoc->bU,append_nil->dI,drop_drop->kG,drop_eq_getElem_cons->pF,drop_eq_nil_of_le->IU,drop_of_length_le->sB,getElem?_drop->jR,getElem?_eq_some_iff->eF,length->nU,length_append->aL,length_drop->bA,length_take->aQ,mem_of_getElem?->cN,replicate->aX,take_add_one->cG,take_of_length_le->cD
open Nat renaming le_refl->aD,lt_or_ge->cF,min_eq_left->jF,zero_le->aO
open Option renaming toList_some->rD
open Option.some renaming inj->cC
open UInt8 renaming toNat_inj->tH
namespace Go.Proofs.YtfckbfofgeilgaaGreatDoor
section
open Go.RowKit
theorem aOn:∀(r:List Int) (k:Nat) (l:List Int),(∀x∈r,x=0)->dM k (r++l)=dM (k+r.length) l:=by
 intro r
 induction r with
 |nil=>intro k l _;rfl
 |cons x r d=>
  intro k l h;rw[List.cons_append,dM,aB (h x (by simp)),d (k+1) l (fun y e=>h y (by simp[e])),List.length_cons]
  congr 1;omega
theorem aAi {l:List Int} (D:∀x∈l,0<=x):(gR 0 l=l.length->dM 0 l=dig (gR 0 l))/\(∀x,l[gR 0 l]? =some x->dM 0 l=dig (gR 0 l)++[x+1]++dM 0 (l.drop (gR 0 l+1))):=by
 have d:∀x∈l.take (gR 0 l),x=0:=fun x A=>by
  have:=DW 0 l x A
  grind
 have e:=aOn (l.take (gR 0 l)) 0 (l.drop (gR 0 l)) d;rw[List.take_append_drop,aQ,jF (BK 0 l),Nat.zero_add] at e
 grind [sB,eF,BL,pF,dM,gR,dig]
theorem aP7 {l:List Int} (d:∀x∈l,0<=x):dM 0 l=dig (gR 0 l)++dM 0 (l.drop (gR 0 l)):=by
 obtain⟨e,A⟩:=aAi d;rcases cF (gR 0 l) l.length with h|h
 ·have D:=List.getElem?_eq_getElem h
  grind [pF,dM,BL,uG,dig,gR]
 grind [BK,dM,uG,dig,gR]
theorem aP8 (v:Value) (l:List Int) (w:World) (hr:RdI w v l) (b5:0<l.length) (c6:l.length<=100000) (hv:∀x∈l,0<=x/\x<=1000000):
  Calls pG 108 #[v] w fun e w'=>∃R,e=.returned (.tuple #[R,.int .i64 0])/\OwI w' w.heap.size R (dM 0 l)/\Below w.heap.size w w':=by
 have HB:=hid (aAh v l w hr (fun x d=>(hv x d).1));obtain⟨a,ca,rfl,c7,b6,hA⟩:=hr.open;obtain⟨U,V,rfl,a5,a7⟩:=hA b5;unfold maxLen at b6;have HV:=hid hv;have HA:=hid a7;clear hr hA hv a7;go_enter func108,ntmps108;go_wp2_with fail;refine HB.out.mono ?_;rintro e F ⟨rfl,rfl⟩;clear HB;go_wp2_with fail
 go_loopg [4] l.length (fun Y s4 wr=>∃k:Nat,k<=l.length/\Y=l.length-k/\s4=.int .i64 k/\F=wr)
 case atStart=>exact⟨0,aO _,rfl,rfl,rfl⟩
 case round=>
 obtain⟨k,hk,A,rfl,rfl⟩:=hrel;have L:=hid A;clear A
 by_cases b7:k<l.length
 ·obtain⟨x,d⟩:=eG b7;have c1:=HA.out k x d;have b8:=HV.out x (cN d);have t1:decide (1099511627776<x)=false:=aE (by omega);clear d;go_wp2_with fail;have A:=L.out
  go_roundg (l.length-(k+1))
  ·exact⟨k+1,by omega,rfl,by go_num,rfl⟩
  ·omega
 ·clear L;go_wp2_with fail
  go_loopg [5,6,7] l.length (fun Y s5 s6 _s7 wq=>∃(i:Nat) (G:List Int),i<=l.length/\Y=l.length-i/\s6=.int .i64 i/\OwI wq F.heap.size s5 G/\Hid (G++dM 0 (l.drop i)=dM 0 l)/\G.length<=i/\Below F.heap.size F wq)
  case atStart=>exact⟨0,[],aO _,rfl,rfl,OwI.nil _ _,hid rfl,aO _,aH _ _⟩
  case round=>
  obtain⟨i,G,hi,A,rfl,a3,HP,c8,I⟩:=hrel;have L:=hid A;clear A
  by_cases c9:i<l.length
  ·obtain⟨m,Z⟩:=ex1 (gR 0 (l.drop i));have d0:m<=l.length-i:=by rw[Z];have:=BK 0 (l.drop i);rwa[bA] at this
   have hz:=hid (show ∀j,j<m->∀x,l[i+j]? =some x->x=0 from fun j hj x d=>by
    have b9:(l.drop i)[j]? =some x:=by rw[jR];exact d
    have M:=DW 0 (l.drop i) x (by rw[<-Z];exact cN (i:=j) (by rw[List.getElem?_take_of_lt hj];exact b9));have h2:=(HV.out x (cN d)).1;omega)
   have a8:=hid (show ∀x,l[i+m]? =some x->0<x from fun x d=>BL 0 (l.drop i) (by rw[<-Z,jR];exact d));have a9:=hid (show dM 0 (l.drop i)=dig m++dM 0 (l.drop (i+m)) by rw[aP7 (fun x d=>(HV.out x (List.mem_of_mem_drop d)).1),<-Z,kG]);have d1:=(JL m).1;clear Z;obtain⟨wo,rfl⟩:∃wo:World,wo=wr:=⟨_,rfl⟩;have a6:=hid (show ∀j x,l[j]? =some x->wo.cell? ⟨U,V+j,none⟩=some (.int .i64 x) from fun j x d=>by rw[I.cell (p:=⟨U,V+j,none⟩) a5];exact HA.out j x d);go_wp2_with fail
   go_loopg [7] m (fun Y s7 wq=>∃n:Nat,n<=m/\Y=m-n/\s7=.int .i64 n/\wo=wq)
   case atStart=>exact⟨0,aO _,rfl,rfl,rfl⟩
   case round=>
   obtain⟨n,hn,A,rfl,rfl⟩:=hrel;have b1:=hid A;clear A
   by_cases b2:n<m
   ·obtain⟨x,d⟩:=eG (l:=l) (k:=i+n) (by omega);have c1:=a6.out (i+n) x d;have a4:=hz.out n b2 x d;have t1:(x==0)=true:=by rw[beq_iff_eq];exact a4
    have t2:decide (i+n<l.length)=true:=aG (by omega);clear d a4;go_wp2_with fail;have A:=b1.out
    go_roundg (m-(n+1))
    ·exact⟨n+1,by omega,rfl,by go_num,rfl⟩
    ·omega
   ·obtain rfl:m=n:=by omega
    clear hn b2 b1;have d2:=I.size;have c0:(i+m=l.length/\0<m)\/(i+m<l.length/\m=0)\/(i+m<l.length/\0<m):=by omega
    rcases c0 with⟨M,h2⟩|⟨M,h2⟩|⟨M,h2⟩
    ·have t2:decide (i+m<l.length)=false:=aE (by omega);have t3:((m:Int)==0)=false:=by rw[cB];omega
     have t4:l.length<=i+m:=by omega
     have H1:=hid M;clear M;go_wp2_with fail;refine(QC m _ (by omega)).mono ?_;rintro e w2 ⟨dv,rfl,a0,D⟩;have a1:=a0.src;have b3:=D.size;have a2:=a3.below D (aD _);go_wp2_with (at_builtin;refine JT rfl _ _ rfl F.heap.size _ _ rfl a2 _ (dig m) rfl a1 (by omega) (by omega) ?_;intro R w3 O J b4);have A:=L.out
     go_roundg (l.length-(i+m))
     ·
      refine⟨i+m,G++dig m,by omega,rfl,by go_num,O,hid ?_,by simp only[aL];omega,(aW I D).trans J⟩;rw[bU,<-a9.out];exact HP.out
     ·omega
    ·subst h2;obtain⟨x,d⟩:=eG (l:=l) (k:=i) (by omega);have c1:=a6.out i x d;have a4:=a8.out x d;have b8:=HV.out x (cN d);have t1:(x==0)=false:=by rw[cB];omega
     have t2:decide (i<l.length)=true:=aG (by omega);have HX:=hid d;have e2:=hid (show dM 0 (l.drop i)=[x+1]++dM 0 (l.drop (i+1)) by
      rw[pF (show i<l.length by omega),show l[i]=x from(eF.1 d).2,dM,aA (by omega),uG];simp)
     clear d;go_wp2_with fail;refine(QC 0 _ (by omega)).mono ?_;rintro e w2 ⟨dv,rfl,a0,D⟩;have a1:=a0.src;have b3:=D.size;have a2:=a3.below D (aD _);have c2:w2.cell? ⟨U,V+i,none⟩=some (.int .i64 x):=by
      rw[(aW I D).cell (p:=⟨U,V+i,none⟩) a5];exact HA.out i x HX.out
     go_wp2_with (first
      |(at_builtin;refine JT rfl _ _ rfl F.heap.size _ _ rfl a2 _ (dig 0) rfl a1 (by simp only[uG,List.length_nil];omega) (by omega) ?_;intro R w3 O J b4;(rw[uG,dI] at O);(have c3:=(J.cell (p:=⟨U,V+i,none⟩) a5).trans c2);(have d3:=J.size))
      |(at_builtin;refine gK rfl _ _ rfl F.heap.size _ _ rfl (OwI.alloc O _) w3.heap.size (x+1) rfl ?_ ?_ ?_ ?_;(exact bX _ _ _);omega;(simp;omega);intro v4 w4 c4 c5 d4))
     have A:=L.out
     go_roundg (l.length-(i+1))
     ·
      refine⟨i+1,G++[x+1],by omega,rfl,by go_num,c4,hid ?_,by simp only[aL,List.length_singleton];omega,(((aW I D).trans J).alloc (by omega) _).trans c5⟩;rw[bU,<-e2.out];exact HP.out
     ·omega
    ·have t2:decide (i+m<l.length)=true:=aG (by omega);obtain⟨x,d⟩:=eG M;have c1:=a6.out (i+m) x d;have a4:=a8.out x d;have t1:(x==0)=false:=by rw[cB];omega
     have t3:((m:Int)==0)=false:=by rw[cB];omega
     clear d;go_wp2_with fail;refine(QC m _ (by omega)).mono ?_;rintro e w2 ⟨dv,rfl,a0,D⟩;have a1:=a0.src;have b3:=D.size;have a2:=a3.below D (aD _);go_wp2_with (at_builtin;refine JT rfl _ _ rfl F.heap.size _ _ rfl a2 _ (dig m) rfl a1 (by omega) (by omega) ?_;intro R w3 O J b4);have A:=L.out
     go_roundg (l.length-(i+m))
     ·
      refine⟨i+m,G++dig m,by omega,rfl,by go_num,O,hid ?_,by simp only[aL];omega,(aW I D).trans J⟩;rw[bU,<-a9.out];exact HP.out
     ·omega
  ·go_wp2_with fail
   go_ret2
   refine⟨_,rfl,?_,I⟩;have:=HP.out;rw[sB (by omega)] at this;simp only[dM,uG,dI] at this;rw[<-this];exact a3
theorem aP9 (a:ByteArray) (i:Nat):a.extract i (i+1)++a.extract 0 i++a.extract (i+1) a.size=mkS (gC a.data.toList i):=by
 rw[iW,iW,iW,sI,sI];unfold gC;rw[List.drop_zero,Nat.sub_zero,show i+1-i=1 by omega,cD (l:=a.data.toList.drop (i+1)) (by simp)]
theorem aAt (a:ByteArray) (b:UInt8) (w:World) (hs:a.size<=1000000000) (G:b∈a.data.toList):
  Calls pG 163 #[.string a,.int .u8 (b.toNat:Int)] w fun e w'=>e=.returned (.int .i64 ((plc a.data.toList b:Nat):Int))/\w'=w:=by
 have A:=mV a;have I:=vP G;rw[A] at I;obtain⟨p,D⟩:=ex1 (plc a.data.toList b);rw[<-D] at I ⊢;have J:=hid D;have O:=hid A;have hb:=b.toNat_lt;clear A D;go_enter func163,ntmps163;go_wp2_with fail
 go_loopg [5] p (fun R U wr=>∃k:Nat,k<=p/\R=p-k/\U=.int .i64 k/\w=wr)
 case atStart=>exact⟨0,aO _,rfl,rfl,rfl⟩
 case round=>
 obtain⟨k,hk,F,rfl,rfl⟩:=hrel;have V:=hid F;clear F;have L:k<a.size:=by omega
 have a0:=a[k].toNat_lt
 by_cases Y:k<p
 ·have a1:a[k].toNat≠b.toNat:=by
   have d:=YL (a:=a.data.toList) (c:=b) (i:=k) (by rw[<-J.out];exact Y) (by rw[O.out];exact L);intro e;exact d (tH.1 e)
  have Z:((a[k].toNat:Int)==(b.toNat:Int))=false:=by rw[cB];omega
  have t2:¬((a[k].toNat:Int)=(b.toNat:Int)):=by omega
  go_wp2_with fail;have F:=V.out
  go_roundg (p-(k+1))
  ·exact⟨k+1,by omega,rfl,by go_num,rfl⟩
  ·omega
 ·obtain rfl:p=k:=by omega
  have M:a[p]=b:=by
   have d:=JG G;rw[<-J.out] at d;rw[fW a p L] at d;exact cC d
  have Z:((a[p].toNat:Int)==(b.toNat:Int))=true:=by rw[beq_iff_eq,M]
  clear M;go_wp2_with fail;go_ret;exact⟨rfl,rfl⟩
theorem aAu (a:ByteArray) (w:World) (F:a.size<=1000000000) (A:a.data.toList.Nodup):
  Calls pG 162 #[.string a] w fun e w'=>e=.returned (.bool true)/\w'=w:=by
 have G:=hid A;clear A;go_enter func162,ntmps162;go_wp2_with fail
 go_loopg [3] a.size (fun I J wr=>∃k:Nat,k<=a.size/\I=a.size-k/\J=.int .i64 k/\w=wr)
 case atStart=>exact⟨0,aO _,rfl,rfl,rfl⟩
 case round=>
 obtain⟨k,R,d,rfl,rfl⟩:=hrel;have L:=hid d;clear d
 by_cases D:k<a.size
 ·have M:=hid (show plc a.data.toList a[k]=k from PE (a:=a.data.toList) G.out (i:=k) (by simpa using D));have O:a[k]∈a.data.toList:=cN (fW a k D);have U:decide ((k:Int)<(k:Int))=false:=aE (by omega);go_wp2_with fail;refine(aAt a a[k] _ F O).mono ?_;rintro e V ⟨rfl,rfl⟩;rw[M.out];go_wp2_with fail;have d:=L.out
  go_roundg (a.size-(k+1))
  ·exact⟨k+1,by omega,rfl,by go_num,rfl⟩
  ·omega
 ·go_wp2_with fail;go_ret;exact⟨rfl,rfl⟩
theorem aAv (a:ByteArray) (i:Nat) (w:World) (A:a.size<=1000000000) (D:i<a.size):
  Calls pG 164 #[.string a,.int .i64 (i:Int)] w fun e w'=>e=.returned (.string (mkS (gC a.data.toList i)))/\Below w.heap.size w w':=by
 have e:=aP9 a i;have d:=hid e;clear e;have F:i<=a.size:=by omega
 have G:i+1<=a.size:=by omega
 go_enter func164,ntmps164;go_wp2
 go_quiet (fail)
 go_wp2;go_ret;exact⟨yV d.out,kY (aH _ _) _⟩
theorem aAw (a s:ByteArray) (w:World) (ha:a.size<=1000) (hs:s.size<=1000000) (I:a.data.toList.Nodup) (J:∀b∈s.data.toList,b∈a.data.toList):
  Calls pG 107 #[.string a,.string s] w fun e w'=>∃v,e=.returned (.tuple #[v,.int .i64 0])/\OwI w' w.heap.size v (dL a.data.toList s.data.toList)/\Below w.heap.size w w':=by
 have Y:Calls pG 141 #[.string a,.string s] w fun e w'=>∃v u,e=.returned (.tuple #[v,u,.int .i64 0])/\OwI w' w.heap.size v (dL a.data.toList s.data.toList)/\Below w.heap.size w w':=by
  have HN:=hid I;have a2:=hid J;have Z:=mV s;have a0:=mV a;have HL:=hid Z;have a9:=hid a0;clear I J Z a0;go_enter func141,ntmps141;go_wp2_with fail;refine(aAu a _ (by omega) HN.out).mono ?_;rintro e d ⟨rfl,rfl⟩;go_wp2_with fail
  go_loopg [8,9,10,11] s.size (fun gh s8 s9 a3 _s11 wr=>∃k:Nat,k<=s.size/\gh=s.size-k/\a3=.int .i64 k/\s8=.string (mkS (fH a.data.toList (s.data.toList.take k)))/\OwI wr d.heap.size s9 (dL a.data.toList (s.data.toList.take k))/\Below d.heap.size d wr)
  case atStart=>exact⟨0,aO _,rfl,rfl,by simp[fH,qB],OwI.nil _ _,aH _ _⟩
  case round=>
  obtain⟨k,hk,L,rfl,rfl,D,M⟩:=hrel;have HG:=hid L;clear L
  by_cases O:k<s.size
  ·obtain⟨A,R⟩:=ex1 (mkS (fH a.data.toList (s.data.toList.take k)));have F:A.data.toList=fH a.data.toList (s.data.toList.take k):=by rw[R];rfl
   have G:=JH (s.data.toList.take k) a.data.toList;rw[<-F] at G;have a4:A.size=a.size:=by
    have:=G.length_eq
    simpa using this
   have a1:s[k]∈A.data.toList:=G.mem_iff.2 (a2.out _ (cN (fW s k O)));have e1:=hid (show dL a.data.toList (s.data.toList.take (k+1))=dL a.data.toList (s.data.toList.take k)++[((plc A.data.toList s[k]:Nat):Int)] by
    rw[cG,fW s k O,rD,JI,<-F])
   have e2:=hid (show fH a.data.toList (s.data.toList.take (k+1))=gC A.data.toList (plc A.data.toList s[k]) by
    rw[cG,fW s k O,rD,PF,<-F])
   have a5:=hid (show(dL a.data.toList (s.data.toList.take k)).length=k by rw[vQ,aQ,HL.out];omega);rw[<-R];have U:=vP a1;rw[show A.data.toList.length=A.size by simp] at U;obtain⟨p,V⟩:=ex1 (plc A.data.toList s[k]);rw[<-V] at U e1 e2;have a6:=hid V;have b0:A.size<=1000:=by omega
   have a7:=M.size;have hb:=s[k].toNat_lt;clear R F G a4 V;go_wp2_with fail;refine(aAt A s[k] _ (by omega) a1).mono ?_;rintro e w2 ⟨rfl,rfl⟩;rw[<-a6.out];go_wp2_with (at_builtin;refine gK rfl _ _ rfl d.heap.size _ _ rfl (D.alloc _) w2.heap.size (p:Int) rfl ?_ ?_ ?_ ?_;(exact bX _ _ _);(rw[a5.out];omega);(simp;omega);intro v' w3 a8 hB b1);refine(aAv A p _ (by omega) U).mono ?_;rintro e w4 ⟨rfl,h4⟩;rw[<-e2.out];go_wp2_with fail;have L:=HG.out
   go_roundg (s.size-(k+1))
   ·exact⟨k+1,by omega,rfl,by go_num,rfl,by rw[e1.out];exact a8.below h4 (aD _),((M.alloc a7 _).trans hB).trans (h4.mono (by have:=hB.size;simp at this;omega))⟩
   ·omega
  ·have b2:k=s.size:=by omega
   go_wp2_with fail
   go_ret3
   rw[cD (by rw[HL.out];omega)] at D;exact⟨_,_,rfl,D,M⟩
 have HT:=hid Y;clear Y I J;go_enter func107,ntmps107;go_wp2_with fail;refine HT.out.mono ?_;rintro e d ⟨v,u,rfl,D,hb⟩;go_wp2_with fail
 go_ret2
 exact⟨_,rfl,D,hb⟩
end
section
open Go.RowKit Go
theorem bAe (s:ByteArray) (w:World) (hs:s.size<=140737488355328):
  Calls pG 104 #[.string s] w fun e w'=>e=.returned (.int .i64 ((bF s.data.toList:Nat):Int))/\Below w.heap.size w w':=by
 have F:=hid (mV s);go_enter func104,ntmps104;go_wp2_with fail
 go_loopg [3] 256 (fun g V wr=>∃k:Nat,k<=s.size/\k<=255/\g=256-k/\V=.int .i64 (k:Int)/\Hid (∀j,j<k->s.data.toList[j]? =s.data.toList[0]?)/\Below w.heap.size w wr)
 case atStart=>exact⟨0,aO _,by omega,rfl,rfl,hid (fun j Y=>by omega),aH _ _⟩
 case round=>
  obtain⟨k,M,O,R,rfl,G,I⟩:=hrel;have Z:=hid R;clear R
  by_cases a0:k<s.size
  ·have t1:decide ((k:Int)<(s.size:Int))=true:=aG (by omega)
   by_cases a1:k<255
   ·have t2:decide ((k:Int)<255)=true:=aG (by omega);have h0:0<s.size:=by omega
    have J:=fW s k a0;have L:=fW s 0 h0;obtain⟨b,d⟩:=ex1 (s[k].toNat);obtain⟨c,A⟩:=ex1 (s[0].toNat)
    by_cases U:b=c
    ·have t3:((b:Int)==(c:Int))=true:=by rw[U];simp
     have t4:decide ((b:Int)=(c:Int))=true:=aG (by omega);have HS:=hid (show s.data.toList[k]? =s.data.toList[0]? by rw[J,L];congr 1;exact tH.1 (by rw[<-d,<-A];exact U));have e1:(s[k].toNat:Int)=(b:Int):=by rw[d]
     have e2:(s[0].toNat:Int)=(c:Int):=by rw[A]
     clear J L d A;go_wp2_with fail
     go_quiet (fail)
     go_wp2_with fail;have R:=Z.out
     go_roundg (256-(k+1))
     ·exact⟨k+1,by omega,by omega,rfl,by go_num,hid (fun j Y=>by rcases cF j k with q|q;exact G.out j q;rw[show j=k by omega];exact HS.out),kY I _⟩
     ·omega
    ·have t3:((b:Int)==(c:Int))=false:=by rw[cB];omega
     have t4:decide ((b:Int)=(c:Int))=false:=aE (by omega);have D:=hid (show bF s.data.toList=k from zL O (by rw[F.out];exact M) G.out (.inr (.inr (by rw[J,L];intro e;injection e with e;exact U (by rw[d,A,e])))));have e1:(s[k].toNat:Int)=(b:Int):=by rw[d]
     have e2:(s[0].toNat:Int)=(c:Int):=by rw[A]
     clear J L d A;go_wp2_with fail
     go_quiet (fail)
     go_wp2_with fail;go_ret;exact⟨eI (by rw[D.out]),kY I _⟩
   ·have t2:decide ((k:Int)<255)=false:=aE (by omega);have D:=hid (show bF s.data.toList=k from zL O (by rw[F.out];exact M) G.out (.inl (by omega)));go_wp2_with fail
    go_quiet (fail)
    go_wp2_with fail;go_ret;exact⟨eI (by rw[D.out]),kY I _⟩
  ·have t1:decide ((k:Int)<(s.size:Int))=false:=aE (by omega);have D:=hid (show bF s.data.toList=k from zL O (by rw[F.out];exact M) G.out (.inr (.inl (by rw[F.out];omega))));go_wp2_with fail
   go_quiet (fail)
   go_wp2_with fail;go_ret;exact⟨eI (by rw[D.out]),kY I _⟩
theorem bAf (b:UInt8) (W:World):(convert 84 9 (.slice (some ⟨W.heap.size,0,none⟩) 1 1)).run pG (W.alloc (.cells #[.int .u8 (b.toNat:Int)] 5)).drew=.ok (.string (mkS [b])) (W.alloc (.cells #[.int .u8 (b.toNat:Int)] 5)).drew:=
 mP (l:=[b]) (Arr.rdB (w:=(W.alloc (.cells #[.int .u8 (b.toNat:Int)] 5)).drew) (l:=[b]) (Arr.new W 5 [.int .u8 (b.toNat:Int)]) rfl (by decide))
theorem aHf (s:ByteArray) (w:World) (hs:s.size<=1000000):
  Calls pG 66 #[.string s] w fun e w'=>e=.returned (.string (mkS (bT s.data.toList)))/\Below w.heap.size w w':=by
 have G:=hid (mV s);go_enter func66,ntmps66;go_wp2_with fail
 go_loopg [3,4,5] s.size (fun g s3 s4 _s5 wr=>∃(a:Nat) (o:List UInt8),a<=s.size/\g=s.size-a/\s4=.int .i64 (a:Int)/\s3=.string (mkS o)/\Hid (o++bT (s.data.toList.drop a)=bT s.data.toList)/\Below w.heap.size w wr)
 case atStart=>exact⟨0,[],aO _,rfl,rfl,rfl,hid (by simp),aH _ _⟩
 case round=>
  obtain⟨a,o,ha,L,rfl,rfl,U,I⟩:=hrel;have HG:=hid L;clear L
  by_cases b2:a<s.size
  ·have t1:decide ((a:Int)<(s.size:Int))=true:=aG (by omega);have V:s.data.toList.drop a≠[]:=fun e=>by have:=congrArg nU e;rw[bA,G.out] at this;simp at this;omega
   have a3:=mH _ V;have M:=aTn V U.out;have b3:o.length<=2000000:=by
    have h1:=(uM s.data.toList.length s.data.toList (aD _)).1;have h2:=congrArg nU U.out;rw[aL] at h2;rw[G.out] at h1;omega
   have hx:s.extract a s.size=mkS (s.data.toList.drop a):=by
    rw[iW,cD (by rw[bA,G.out];omega)]
   have a9:(s.data.toList.drop a).length=s.size-a:=by rw[bA,G.out]
   obtain⟨r,O⟩:=ex1 (s.data.toList.drop a);rw[<-O] at hx a3 M a9;have Y:=fun W=>bAe (mkS r) W (by rw[cS];omega)
   obtain⟨n,Z⟩:=ex1 (bF r);rw[dP,<-Z] at Y;rw[<-Z] at a3 M;have a4:r.drop n=s.data.toList.drop (a+n):=by rw[O,kG]
   have a5:=hid M;have HD:=hid a4;have HR:=hid O;clear V Z O M a4;have q1:a<=s.size:=ha;have q2:(a:Int)<=(s.size:Int):=by omega
   by_cases h4:n<4
   ·have t2:decide ((n:Int)<4)=true:=aG (by omega);have m1:aJ.wrap ((a:Int)+(n:Int))=((a+n:Nat):Int):=by rw[aM];omega
    have q3:a+n<=s.size:=by omega
    have q4:((a+n:Nat):Int)<=(s.size:Int):=by omega
    have q5:(a:Int)<=((a+n:Nat):Int):=by omega
    have q6:a<=a+n:=by omega
    have J:s.extract a (a+n)=mkS (pP r n):=by
     rw[iW,<-HR.out,show a+n-a=n by omega]
     congr 1
     unfold pP;rw[aA (by omega),dI,jF (by omega)]
    have a6:(pP r n).length<=5:=by
     rw[RR r n (by omega)];split<;>omega
    obtain⟨p,D⟩:=ex1 (pP r n);rw[<-D] at J a6;have HP:=hid D;clear D;obtain⟨c,A⟩:∃c:Nat,c=a+n:=⟨_,rfl⟩;rw[<-A] at m1 q3 q4 q5 q6 J;have b0:mkS o++mkS p=mkS (o++p):=sI o p;have HC:=hid A;clear A;go_wp2_with fail;refine(Y _).mono ?_;rintro e w1 ⟨rfl,R⟩;go_wp2_with fail;have L:=HG.out;have A:=HC.out;have a0:=I.size
    go_roundg (s.size-c)
    ·exact⟨c,o++p,q3,rfl,by go_num,rfl,hid (by rw[HP.out,A,<-HD.out];exact a5.out),I.trans (R.mono a0)⟩
    ·omega
   ·have t2:decide ((n:Int)<4)=false:=aE (by omega);have m1:aJ.wrap ((a:Int)+4)=((a+4:Nat):Int):=by rw[aM];omega
    have m2:aJ.wrap ((a:Int)+(n:Int))=((a+n:Nat):Int):=by rw[aM];omega
    have m3:aJ.wrap ((n:Int)-4)=((n-4:Nat):Int):=by rw[aM];omega
    have J:s.extract a (a+4)=mkS (r.take 4):=by
     rw[iW,<-HR.out,show a+4-a=4 by omega]
    obtain⟨d,hd⟩:∃d:Nat,d=n-4:=⟨_,rfl⟩;obtain⟨b,hb⟩:∃b:UInt8,b=UInt8.ofNat d:=⟨_,rfl⟩;have a7:b.toNat=d:=by rw[hb,UInt8.toNat_ofNat'];omega
    have m4:IntKind.u8.wrap (d:Int)=(b.toNat:Int):=by rw[a7,IntKind.wrap_u8];omega
    have a1:r.take 4++[b]=pP r n:=by
     unfold pP;rw[aB (by omega),Nat.min_eq_right (by omega),hb,hd]
    rw[<-hd] at m3;obtain⟨F,a8⟩:∃F:Nat,F=a+4:=⟨_,rfl⟩;obtain⟨c,A⟩:∃c:Nat,c=a+n:=⟨_,rfl⟩;rw[<-a8] at m1 J;rw[<-A] at m2;have q3:F<=s.size:=by omega
    have q4:(F:Int)<=(s.size:Int):=by omega
    have q5:(a:Int)<=(F:Int):=by omega
    have q6:a<=F:=by omega
    obtain⟨p,D⟩:=ex1 (r.take 4);have a6:p.length<=4:=by rw[D,aQ];omega
    rw[<-D] at J a1;have b0:mkS o++mkS p=mkS (o++p):=sI o p;have b4:mkS (o++p)++mkS [b]=mkS (o++p++[b]):=sI _ _;have b1:=hid a1;have HC:=hid A;have q7:c<=s.size:=by omega
    have b5:=bAf b;have q8:¬9223372036854775807<o.length+p.length:=by omega
    have q9:¬9223372036854775807<o.length+p.length+1:=by omega
    clear hb a7 hd D a1 a8 A;go_wp2_with fail;refine(Y _).mono ?_;rintro e w1 ⟨rfl,R⟩;go_wp2_with fail
    go_region
    all_goals
     go_wp2_with fail;have L:=HG.out;have A:=HC.out;have a0:=I.size;have b6:=R.size
     go_roundg (s.size-c)
     ·exact⟨c,o++(p++[b]),q7,rfl,by go_num,rfl,hid (by rw[b1.out,A,<-HD.out];exact a5.out),(I.trans (R.mono a0)).trans (((aH _ w1).alloc (aD _) _).mono (by omega)).drew⟩
     ·omega
  ·have t1:decide ((a:Int)<(s.size:Int))=false:=aE (by omega);have a2:=U.out;rw[IU (by rw[G.out];omega),LD,dI] at a2;have HF:=hid a2;clear a2;go_wp2_with fail;go_ret;exact⟨yV (by rw[HF.out]),I⟩
end
section
open Go.RowKit Go Go.Shelf
theorem Bld.drew {w:World} {B b:Nat} {l:List UInt8} (h:Bld w B b l):Bld w.drew B b l:=h
theorem Bld.drewN {w:World} {B b:Nat} {l:List UInt8} (h:Bld w B b l) (n:Nat):Bld (w.drewN n) B b l:=h
theorem aHj (b A:Nat) (c:UInt8) (n M:Nat) (X:List UInt8) (w:World) (h:Bld w b b X) (I:w.cell? ⟨A,0,none⟩=some (.int .i64 (M:Int))) (J:A<b) (a3:b<w.heap.size) (hM:M<=1000000) (L:X.length<=M+1) (hn:n<=255):
  Calls pG 209 #[.int .u8 (c.toNat:Int),.int .i64 (n:Int),.pointer (some ⟨b,0,none⟩),.pointer (some ⟨A,0,none⟩)] w fun e w'=>e=.returned (.tuple #[])/\Bld w' b b ((X++aX n c).take (M+1))/\Below b w w':=by
 go_enter func209,ntmps209;go_wp2_with fail
 go_loopg [7] n (fun g O wr=>∃(k:Nat) (Y:List UInt8),k<=n/\g=n-k/\O=.int .i64 (k:Int)/\Hid (Y=(X++aX k c).take (M+1))/\Bld wr b b Y/\Below b w wr)
 case atStart=>exact⟨0,X,aO _,rfl,rfl,hid (by rw[List.replicate_zero,dI,cD L]),h,aH _ _⟩
 case round=>
  obtain⟨k,Y,R,D,rfl,F,G,d⟩:=hrel;have U:=hid D;clear D
  by_cases a4:k<n
  ·have V:decide ((k:Int)<(n:Int))=true:=aG (by omega);have c1:=(d.cell (p:=⟨A,0,none⟩) J).trans I;have a5:max (M:Int) 0=(M:Int):=by omega
   have Z:=G.drew;have a6:=d.size;go_wp2_with fail
   by_cases a0:M<Y.length
   ·have t2:decide ((M:Int)<(Y.length:Int))=true:=aG (by omega);have t3:decide ((Y.length:Int)>(M:Int))=true:=aG (by omega)
    go_region_with (go_at_call 210;refine(MQ b b Y _ (by assumption)).mono ?_;rintro e w1 ⟨rfl,rfl⟩)
    all_goals
     go_wp2_with fail
     first|go_end0|refine bodyPost_ret (results_none rfl _ _ _) rfl ?_
     exact⟨rfl,by rw[aU3 R F.out a0];exact G,d.drew⟩
   ·have t2:decide ((M:Int)<(Y.length:Int))=false:=aE (by omega);have t3:decide ((Y.length:Int)>(M:Int))=false:=aE (by omega);have a1:=aHi b b Y c wr.drew Z (by omega) (by show b<=wr.heap.size;omega)
    go_region_with (go_at_call 210;refine(MQ b b Y _ (by assumption)).mono ?_;rintro e w1 ⟨rfl,rfl⟩)
    all_goals
     go_wp2_with fail;refine a1.mono ?_;rintro e w2 ⟨rfl,h2,b2,_⟩;go_wp2_with fail;have D:=U.out
     go_roundg (n-(k+1))
     ·exact⟨k+1,Y++[c],by omega,rfl,by go_num,hid (aU4 F.out (by omega)),h2,d.drew.trans b2⟩
     ·omega
  ·have V:decide ((k:Int)<(n:Int))=false:=aE (by omega);have a2:k=n:=by omega
   subst a2;go_wp2_with fail
   go_end0
   exact⟨rfl,by rw[<-F.out];exact G,d⟩
theorem MR (w:World):Bld (w.alloc (.cells #[.pointer none,.slice none 0 0] 86)) w.heap.size w.heap.size []:=Lib.IsBuilderF.of (Lib.fresh_isBuilder 86 5 w)
theorem bAm (s:ByteArray) (M:Nat) (w:World) (hs:s.size<=1000000) (hM:M<=1000000):
  Calls pG 180 #[.string s,.int .i64 (M:Int)] w fun e w'=>e=.returned (.tuple #[.string (mkS (jX s.data.toList M).1),.int .i64 (jX s.data.toList M).2])/\Below w.heap.size w w':=by
 have HL:=hid (mV s);have b7:∀(fn:Fn) (first cap:Array Value) (w:World),(Instr.makeFunc fn first cap).run pG w=.ok (.func fn first cap) w:=fun _ _ _ _=>rfl
 have hE:∀args W,(callFunc 209 args).run pG W=.ok (.enter 209 args) W:=enters_of func209 (by kernel_rfl) rfl;go_enter func180,ntmps180;go_wp2_with fail;have a3:=MR (w.alloc (.cells #[.int .i64 (M:Int)] 3));rw[World.size_alloc] at a3;have a8:((w.alloc (.cells #[.int .i64 (M:Int)] 3)).alloc (.cells #[.pointer none,.slice none 0 0] 86)).cell? ⟨w.heap.size,0,none⟩=some (.int .i64 (M:Int)):=((Arr.new w 3 [.int .i64 (M:Int)]).alloc _).cell (i:=0) rfl
 have b8:((w.alloc (.cells #[.int .i64 (M:Int)] 3)).alloc (.cells #[.pointer none,.slice none 0 0] 86)).heap.size=w.heap.size+1+1:=by simp
 have a1:Below w.heap.size w ((w.alloc (.cells #[.int .i64 (M:Int)] 3)).alloc (.cells #[.pointer none,.slice none 0 0] 86)):=((aH _ w).alloc (aD _) _).alloc (by simp) _;generalize (w.alloc (.cells #[.int .i64 (M:Int)] 3)).alloc (.cells #[.pointer none,.slice none 0 0] 86)=w0 at*
 go_loopg [8,9,10,14] s.size (fun g s8 s9 _s10 a9 wr=>∃(k r:Nat) (c:UInt8) (o:List UInt8),k<=s.size/\g=s.size-k/\a9=.int .i64 (k:Int)/\s8=.int .i64 (r:Int)/\s9=.int .u8 (c.toNat:Int)/\r<=4/\Hid (eX s.data.toList=(unS r c (s.data.toList.drop k)).map (o++·))/\Bld wr (w.heap.size+1) (w.heap.size+1) (o.take (M+1))/\Below (w.heap.size+1) w0 wr)
 case atStart=>exact⟨0,0,0,[],aO _,rfl,rfl,rfl,rfl,by omega,hid (aUx _),a3,aH _ _⟩
 case round=>
  obtain⟨k,r,c,o,hk,V,rfl,rfl,rfl,b9,HO,Y,G⟩:=hrel;have HG:=hid V;clear V;have a4:=(G.cell (p:=⟨w.heap.size,0,none⟩) (by show w.heap.size<w.heap.size+1;omega)).trans a8;have c0:=G.size;have a5:(o.take (M+1)).length<=M+1:=by rw[aQ];omega
  by_cases b0:k<s.size
  ·have t1:decide ((k:Int)<(s.size:Int))=true:=aG (by omega);have hb:=s[k].toNat_lt;have a0:s.data.toList.drop k=s[k]::s.data.toList.drop (k+1):=by
    obtain⟨h1,I⟩:=eF.1 (fW s k b0);rw[pF h1,I]
   have F:=HO.out;rw[a0] at F
   by_cases O:r=4
   ·subst O;have t2:decide (((4:Nat):Int)=4)=true:=by decide
    have R:=hid (aUy F);have A:=fun(n:Nat) hn=>aHj (w.heap.size+1) w.heap.size c n M (o.take (M+1)) wr Y a4 (by omega) (by omega) hM a5 hn
    have D:=A s[k].toNat (by omega);rw[LN] at D;clear A a0 F;go_wp2_with fail;refine D.mono ?_;rintro e w2 ⟨rfl,I,J⟩;go_wp2_with fail;have V:=HG.out
    go_roundg (s.size-(k+1))
    ·exact⟨k+1,0,c,_,by omega,rfl,by go_num,rfl,rfl,by omega,R,I,G.trans J⟩
    ·omega
   ·have t2:decide ((r:Int)=4)=false:=aE (by omega);have b1:((r:Int)==4)=false:=by rw[cB];omega
    have A:=fun(d:UInt8)=>aHj (w.heap.size+1) w.heap.size d 1 M (o.take (M+1)) wr Y a4 (by omega) (by omega) hM a5 (by omega)
    by_cases h0:0<r
    ·have t3:decide ((0:Int)<(r:Int))=true:=aG (by omega);have b3:decide ((r:Int)>0)=true:=aG (by omega)
     by_cases U:s[k]=c
     ·have t4:((s[k].toNat:Int)==(c.toNat:Int))=true:=by rw[U];simp
      have b4:decide ((s[k].toNat:Int)=(c.toNat:Int))=true:=aG (by rw[U]);rw[U] at F;have R:=hid (aUz F h0 O);have D:=A c;rw[LN] at D;have m1:aJ.wrap ((r:Int)+1)=((r+1:Nat):Int):=by rw[aM];omega
      clear A a0 F U;go_wp2_with fail;refine D.mono ?_;rintro e w2 ⟨rfl,I,J⟩;go_wp2_with fail;have V:=HG.out
      go_roundg (s.size-(k+1))
      ·exact⟨k+1,r+1,c,_,by omega,rfl,by go_num,by go_num,rfl,by omega,R,I,G.trans J⟩
      ·omega
     ·have a2:(s[k].toNat:Int)≠(c.toNat:Int):=fun e=>U (tH.1 (by omega))
      have t4:((s[k].toNat:Int)==(c.toNat:Int))=false:=by rw[cB];exact a2
      have b4:decide ((s[k].toNat:Int)=(c.toNat:Int))=false:=aE a2;have R:=hid (aDg F O (by rintro⟨_,h⟩;exact U h));have D:=A s[k];rw[LN] at D;clear A a0 F U a2;go_wp2_with fail;refine D.mono ?_;rintro e w2 ⟨rfl,I,J⟩;go_wp2_with fail;have V:=HG.out
      go_roundg (s.size-(k+1))
      ·exact⟨k+1,1,s[k],_,by omega,rfl,by go_num,rfl,rfl,by omega,R,I,G.trans J⟩
      ·omega
    ·have t3:decide ((0:Int)<(r:Int))=false:=aE (by omega);have b3:decide ((r:Int)>0)=false:=aE (by omega);have R:=hid (aDg F O (by rintro⟨h,_⟩;exact h0 h));have D:=A s[k];rw[LN] at D;clear A a0 F;go_wp2_with fail;refine D.mono ?_;rintro e w2 ⟨rfl,I,J⟩;go_wp2_with fail;have V:=HG.out
     go_roundg (s.size-(k+1))
     ·exact⟨k+1,1,s[k],_,by omega,rfl,by go_num,rfl,rfl,by omega,R,I,G.trans J⟩
     ·omega
  ·have t1:decide ((k:Int)<(s.size:Int))=false:=aE (by omega);have L:=HO.out;rw[IU (by rw[HL.out];omega)] at L;have L:=aU0 L
   by_cases O:r=4
   ·subst O;have t2:decide (((4:Nat):Int)=4)=true:=by decide
    rw[aB rfl] at L;have HE:=hid (aDh (most:=(M:Int)) L);clear L;go_wp2_with fail
    go_ret2
    exact⟨by rw[HE.out];rfl,a1.trans (G.mono (by omega))⟩
   ·have t2:decide ((r:Int)=4)=false:=aE (by omega);have b1:((r:Int)==4)=false:=by rw[cB];omega
    rw[aA O] at L;have Z:=SJ (most:=(M:Int)) L;clear L;have b5:∀n,Bld (wr.drewN n) (w.heap.size+1) (w.heap.size+1) (o.take (M+1)):=fun n=>Y.drewN n
    by_cases c1:M<o.length
    ·rw[aB (by omega)] at Z;have HE:=hid Z;clear Z;have a6:(o.take (M+1)).length=M+1:=by rw[aQ];omega
     have t5:decide ((M:Int)<((M+1:Nat):Int))=true:=aG (by omega);have t6:decide (((M+1:Nat):Int)>(M:Int))=true:=aG (by omega);have a7:=Y.drew;have b6:=hid a6;clear a6;go_wp2_with fail
     go_region_with (go_at_call 210;refine(MQ (w.heap.size+1) (w.heap.size+1) (o.take (M+1)) _ (by assumption)).mono ?_;rintro e w1 ⟨rfl,rfl⟩;rw[b6.out])
     all_goals
      go_wp2_with fail
      go_ret2
      exact⟨by rw[HE.out];rfl,a1.trans ((G.mono (by omega)).drew)⟩
    ·rw[aA (by omega)] at Z;have HE:=hid Z;clear Z;rw[cD (by omega)] at Y b5;have t5:decide ((M:Int)<(o.length:Int))=false:=aE (by omega);have t6:decide ((o.length:Int)>(M:Int))=false:=aE (by omega);have a7:=Y.drew;have A:=MP (w.heap.size+1) (w.heap.size+1) o wr.drew a7 (by show w.heap.size+1<=wr.heap.size;omega);go_wp2_with fail
     go_region_with (go_at_call 210;refine(MQ (w.heap.size+1) (w.heap.size+1) o _ (by assumption)).mono ?_;rintro e w1 ⟨rfl,rfl⟩)
     all_goals
      go_wp2_with fail;refine A.mono ?_;rintro e w2 ⟨rfl,_,J,_⟩;go_wp2_with fail
      go_ret2
      exact⟨by rw[HE.out];rfl,a1.trans (((G.drew).trans J).mono (by omega))⟩
end
section
open Go.RowKit Go
theorem bRg {l:List Ent} (h:jA l) {f m:Int} (D:0<=f) (F:f<lF l) (G:1<=m):yF l f m=(nB l f,nB l (min (f+m) (lF l)-1)):=by
 have d:lG l=lF l:=aB h;unfold yF;rw[aA (by omega)];dsimp only
 have e:max f 0=f:=by omega
 rw[e,d];have A:f+min (m-(f-f)) (lF l-f)-1=min (f+m) (lF l)-1:=by omega
 rw[A]
end
end Go.Proofs.YtfckbfofgeilgaaGreatDoor
