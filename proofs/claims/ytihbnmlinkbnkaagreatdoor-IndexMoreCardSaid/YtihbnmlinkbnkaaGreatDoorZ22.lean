/-
  Texts put together (part 22): the walks and the plain laws on which the statement stands.
-/
import Derived.Test.YtihbnmlinkbnkaaGreatDoorZ15
import Derived.Test.YtihbnmlinkbnkaaGreatDoorZ17
set_option maxRecDepth 100000
set_option maxHeartbeats 12800000
set_option linter.unusedVariables false
set_option linter.unusedSimpArgs false
open Go.Proofs.Tryz
open Go.Proofs.Tryz renaming prog->pG
open Array renaming replicate_succ->jG,replicate_zero->jH
open Go renaming bodyPost_ret->fM
open Go.Fence renaming wide->cZ
open Go.IntKind renaming i64->aJ,u64->eZ,wrap_i64->aM,wrap_u64->fC
open Go.RowKit.Below renaming refl->aH
open Go.World renaming size_alloc->fP
open Go.World.ownsRow renaming kept->yJ
open Int renaming toNat_natCast->fL
open List renaming append_toArray->jJ,cons_append->fF,getD_eq_getElem?_getD->bV,getElem?_eq_getElem->aN,getElem?_map->eQ,length_cons->aU,length_map->aS,length_nil->aV,length_take->aQ,map_append->dY,mem_of_getElem?->cN,mem_of_mem_take->pG,nil_append->eL,push_toArray->jI,size_toArray->dB,take_add_one->cG,take_length->jS,take_of_length_le->cD
open Nat renaming le_refl->aD,le_succ->tJ,le_trans->aR,lt_of_lt_of_le->fB,lt_succ_self->vK,reduceAdd->cV,reduceSub->dC,zero_le->aO
open Option.some renaming inj->cC
namespace Go.Proofs.YtihbnmlinkbnkaaGreatDoor
section
open Go.RowKit Go Go.Shelf
def BX (A:List UInt8):List Int:=A.map (fun b=>(b.toNat:Int))
theorem aFp (A:List UInt8) (i:Nat):MC (BX A) i=BX (gC A i):=by simp[MC,gC,BX]
theorem aXu (A:List UInt8) (i:Nat):(BX A).getD i 0=((A.getD i 0).toNat:Int):=by
 unfold BX;rw[bV,eQ,bV]
 cases A[i]? <;>rfl
theorem aFq:BX (cT 6)=aFe:=rfl
theorem xX (A:List UInt8):(BX A).length=A.length:=aS ..
theorem MH:∀(l:List Int) (A:List UInt8),(∀x∈l,0<=x/\x<(A.length:Int))->(unA A l).length=A.length
 |[],_,_=>rfl
 |x::l,A,h=>by
  have d:=h x (List.mem_cons_self ..);show(unA (gC A x.toNat) l).length=_;rw[MH l _ (fun y F=>by grind [BF,unA]),BF]
theorem aXv (s:ByteArray) (a n t:Nat) (w:World) (hs:s.size<=1000000) (ha:a<=80000000) (hn:n<=40000) (a4:2<=t) (Z:t<=6):
  Calls pG 176 #[.string s,.int .i64 (a:Int),.int .i64 (n:Int),.int .i64 (t:Int)] w fun e w'=>FJ w w' s.data.toList a n t e:=by
 have HL:=hid (show s.data.toList.length=s.size by simp);have t4:decide ((a:Int)<0)=false:=aE (by omega);have t5:decide ((n:Int)<0)=false:=aE (by omega);have t6:decide ((n:Int)>1048576)=false:=aE (by omega);have t7:decide (1048576<(n:Int))=false:=aE (by omega);have b4:=hid (fun k hk=>aE9 (s:=s.data.toList) (a:=a) (n:=n) (k:=k) a4 Z (by omega) hk);have b6:=hid (MB s.data.toList a n t a4 Z (by omega));have a5:=hid (fun k=>BV s.data.toList (t:Int) (a:Int) (by omega) (by omega) k);go_enter func176,ntmps176;go_wp2_with fail;refine(aFd t _ a4 Z).mono ?_
 rintro e w0 ⟨rfl,rfl⟩;go_wp2_with fail;refine(aFf (t:Int) _).mono ?_;rintro e w1 ⟨rfl,a0,a6,a7⟩;obtain⟨z,hz⟩:∃z,z=w0.heap.size:=⟨_,rfl⟩;rw[<-hz] at a0 a6 a7 ⊢;have HZ:=hid hz;clear hz;rw[<-aFq] at a0;go_wp2_with fail
 go_loopg [1,8,12,13,14,33] n (fun g s1 s8 _s12 _s13 _s14 b7 wr=>∃(k p:Nat) (v:Value) (L:List Int),k<=n/\g=n-k/\v=s8/\b7=.int .i64 (k:Int)/\s1=.int .i64 (p:Int)/\p<=80000000/\Hid (dR s.data.toList (t:Int) (a:Int) k=(L,(p:Int),0))/\OwI wr (z+1) v (BX (unL (cT 6) L))/\Arr wr z 197 (lT (BX (unA (cT 6) L)) (t:Int))/\Below z w0 wr/\z<wr.heap.size)
 case atStart=>exact⟨0,a,_,[],aO _,rfl,rfl,rfl,rfl,ha,hid rfl,OwI.nil _ _,a0,a6,a7⟩
 case round=>
  clear a0 a6 a7;obtain⟨k,p,v,L,hk,G,rfl,rfl,rfl,hp,A,ho,hA,a1,c5⟩:=hrel;have HG:=hid G;clear G
  by_cases c6:k<n
  ·have v1:decide ((k:Int)<(n:Int))=true:=aG (by omega);have d:=aE7 (s:=s.data.toList) (t:=(t:Int)) (a:=(a:Int)) (k:=k) (by rw[A.out]);rw[A.out] at d;simp only at d;have H:=a5.out k (by rw[A.out]);rw[A.out] at H;obtain⟨o1,o2,o3,o4⟩:=H;simp only at o1 o2 o3 o4;have a8:=hid o2;obtain⟨R,hR⟩:∃R,R=kN s.data.toList (t:Int) (p:Int) 0:=⟨_,rfl⟩;have a9:=KY s.data.toList (t:Int) (8*s.data.toList.length+2) (p:Int) 0 (by omega) (by omega) (by omega);rw[show lY s.data.toList (t:Int) (8*s.data.toList.length+2) (p:Int) 0=R from hR.symm,HL.out] at a9;rw[<-hR] at d;have O:=hid d
   have c7:=hid a9;have HR:=hid hR.symm;clear d a9 hR o1 o2 o3 o4;go_wp2_with fail
   go_loopg [1,8,12,13,14] (8*s.size+2-p) (fun g s1 s8 b8 _s13 _s14 wx=>∃q m:Nat,q<=80000000+m/\m<t/\g=8*s.size+2-q/\v=s8/\s1=.int .i64 (q:Int)/\b8=.int .i64 (m:Int)/\Hid (kN s.data.toList (t:Int) (q:Int) (m:Int)=R)/\wx=wr)
   case atStart=>exact⟨p,0,by omega,by omega,rfl,rfl,rfl,rfl,HR,rfl⟩
   case round=>
    obtain⟨q,m,hq,hm,G,rfl,rfl,rfl,HP,rfl⟩:=hrel;have b9:=hid G;clear G;have d:=KX s.data.toList (t:Int) (q:Int) (m:Int) (by omega);rw[HP.out,HL.out] at d;have I:=fun W=>uQ s (q:Int) 1 W hs (by omega) (by omega) (by omega)
    have b0:=iG (n:=s.size) (at':=(q:Int)) (k:=1);have c0:=jV s.data.toList (q:Int) 1;obtain⟨E1,b1⟩:∃E1,E1=aP s.size (q:Int) 1:=⟨_,rfl⟩;obtain⟨U,b2⟩:∃U,U=aK s.data.toList (q:Int) 1:=⟨_,rfl⟩;rw[<-b1,<-b2] at d;rw[<-b1] at I b0;rw[<-b2] at I c0;clear b1 b2;have m1:aJ.wrap ((q:Int)+1)=((q:Int)+1):=by rw[aM];omega
    have m2:aJ.wrap ((m:Int)+1)=((m:Int)+1):=by rw[aM];omega
    have d6:wr.cell? ⟨z,6,none⟩=some (.int .i64 (t:Int)):=hA.cell (by
     unfold lT;rw[List.getElem?_append_right (by rw[aS,xX,MH _ _ (fun x F=>by rw[sT];have:=a8.out x F;omega),sT];exact aD _),aS,xX,MH _ _ (fun x F=>by rw[sT];have:=a8.out x F;omega),sT];rfl)
    by_cases J:E1=0
    rotate_left
    ·rw[aB J] at d;have u1:(E1 != 0)=true:=by simpa using J
     have hF:=b4.out (k+1) (by omega) (by rw[O.out,d];exact(by rw[aB J];exact J));rw[O.out,d,aB J] at hF;have M:=hid hF;clear d hF d6;go_wp2_with fail;refine(I _).mono ?_;rintro e w2 ⟨rfl,rfl⟩;go_wp2_with fail
     go_ret3
     exact TE M.out (HZ.out▸a1)
    subst J;rw[aA (fun k=>k rfl)] at d;have b0:=b0 rfl
    by_cases h2:U=0
    ·subst h2;rw[aB rfl] at d;have hS:dR s.data.toList (t:Int) (a:Int) (k+1)=(L++[(m:Int)],(q:Int)+1,0):=by rw[O.out,d];rfl
     have HS:=hid hS;have b5:(unA (cT 6) L).length=6:=by
      rw[MH _ _ (fun x F=>by rw[sT];have:=a8.out x F;omega),sT]
     have a2:=aFc z (BX (unA (cT 6) L)) (t:Int) m (by rw[xX];exact b5) (by omega) wr hA;rw[aFp,aXu] at a2;have HU:=hid (show unL (cT 6) (L++[(m:Int)])=unL (cT 6) L++[(unA (cT 6) L).getD m 0] by rw[PH,fL]);have HV:=hid (show unA (cT 6) (L++[(m:Int)])=gC (unA (cT 6) L) m by rw[PI,fL]);obtain⟨C,hC⟩:∃C,C=(unA (cT 6) L).getD m 0:=⟨_,rfl⟩;rw[<-hC] at a2 HU;have c8:(BX (unL (cT 6) L)).length<=40000:=by
      rw[xX,sL];have:=(a5.out k (by rw[A.out])).1;rw[A.out] at this;have:L.length=k:=this;omega
     clear d d6 hS hC b5;go_wp2_with fail;refine(I _).mono ?_;rintro e w2 ⟨rfl,rfl⟩;go_wp2_with fail;refine a2.mono ?_;rintro e w3 ⟨rfl,c1,a3⟩;have c2:OwI w3 (z+1) v (BX (unL (cT 6) L)):=Ow.kept ho a3 (lD ho (vK z));have c3:=a1.grown a3 (by omega) (fun k hk=>by obtain rfl:=cC hk;exact aD _);have c9:=a3.size;clear a2 ho a3;go_wp2_with (at_builtin;refine gK rfl _ _ rfl (z+1) _ _ rfl (OwI.alloc c2 _) _ (C.toNat:Int) rfl (bX _ _ _) ?_ ?_ ?_;(omega);(simp;omega);intro v4 w4 r1 r2 r3);have G:=HG.out
     go_roundg (n-(k+1))
     case measure=>omega
     case rel=>
      refine⟨k+1,q+1,_,L++[(m:Int)],by omega,rfl,rfl,by go_num,by go_num,by omega,hid (by rw[HS.out];push_cast;rfl),?_,?_,(c3.alloc (by omega) _).trans (r2.mono (by omega)),?_⟩
      ·rw[HU.out];unfold BX at r1 ⊢;rw[dY];exact r1
      ·rw[HV.out];exact((Arr.alloc c1 _).below r2 (vK z))
      ·have:=r2.size;simp only[fP] at this;omega
    ·rw[aA h2] at d;have v2:((U:Int)==0)=false:=by rw[cB];omega
     have v3:(U==0)=false:=by rw[cB];omega
     by_cases V:(m:Int)+1=(t:Int)
     ·rw[aB V] at d;have v4:((m:Int)+1==(t:Int))=true:=by rw[beq_iff_eq];exact V
      have hF:=b4.out (k+1) (by omega) (by rw[O.out,d];exact(by decide:(3:Int)≠0));rw[O.out,d] at hF;have M:=hid hF;clear d hF V;go_wp2_with fail;refine(I _).mono ?_;rintro e w2 ⟨rfl,rfl⟩;go_wp2_with fail
      go_ret3
      exact TE M.out (HZ.out▸a1)
     ·rw[aA V] at d;have v4:((m:Int)+1==(t:Int))=false:=by rw[cB];exact V
      have HS:=hid d.symm;clear d;go_wp2_with fail;refine(I _).mono ?_;rintro e w2 ⟨rfl,rfl⟩;go_wp2_with fail;have d0:=b9.out
      go_roundg (8*s.size+2-(q+1))
      case measure=>omega
      case rel=>exact⟨q+1,m+1,by omega,by omega,rfl,rfl,by go_num,by go_num,by push_cast;exact HS,rfl⟩
  ·have v1:decide ((k:Int)<(n:Int))=false:=aE (by omega);have c4:k=n:=by omega
   subst c4;have b3:=b6.out;rw[A.out] at b3;have H:=a5.out k (by rw[A.out]);rw[A.out] at H;have hU:unL (cT t) L=unL (cT 6) L:=by
    rw[RH Z,(aB5 L (cT t) _ (fun x F=>by rw[sT];exact H.2.1 x F)).1]
   have M:=hid (show eD s.data.toList (a:Int) (k:Int) (t:Int)=(BX (unL (cT 6) L),(p:Int),0) by
    rw[b3,aA (fun q=>q rfl),<-hU];rfl)
   clear b3 H hU;go_wp2_with fail
   go_ret3
   exact⟨_,by rw[M.out];rfl,by rw[M.out];exact Ow.base ho (by rw[<-HZ.out];omega),HZ.out▸a1⟩
theorem aXw (v:Value) (l:List Int) (x:Int) (w:World) (H:RdI w v l):
  Calls pG 144 #[v,.int .i64 x] w fun e w'=>e=.returned (.int .i64 (iR (fun y=>x==y) l))/\w'=w:=by
 obtain⟨a,ca,rfl,a0,U,I⟩:=H.open;unfold maxLen at U;clear H;go_enter func144,ntmps144;go_wp2_with fail
 go_loopg [5,8] l.length (fun g _s5 V wr=>∃k:Nat,k<=l.length/\g=l.length-k/\V=.int .i64 (k:Int)/\Hid (∀y∈l.take k,(x==y)=false)/\wr=w)
 case atStart=>exact⟨0,aO _,rfl,rfl,hid (fun y A=>by simp at A),rfl⟩
 case round=>
  obtain⟨k,hk,F,rfl,HT,rfl⟩:=hrel;have Z:=hid F;clear F
  by_cases J:k<l.length
  ·have u1:decide ((k:Int)<(l.length:Int))=true:=aG (by omega);obtain⟨b,off,rfl,hb,L⟩:=I (by omega);have G:=aN J;have c1:=L k _ G;have HX:=hid G;obtain⟨y,A⟩:∃y,y=l[k]:=⟨_,rfl⟩;rw[<-A] at c1;have M:=hid A;clear A G L I
   cases O:(x==y) with
   |true=>
    go_wp2_with fail;go_ret;exact⟨eI (JD HT.out J (by rw[<-M.out];exact O)).symm,rfl⟩
   |false=>
    have HP:=hid O;go_wp2_with fail;have F:=Z.out
    go_roundg (l.length-(k+1))
    case measure=>omega
    case rel=>
     refine⟨k+1,by omega,rfl,by go_num,hid (fun z d=>?_),rfl⟩;rw[cG,HX.out] at d;rcases List.mem_append.1 d with d|d
     ·exact HT.out z d
     ·obtain rfl:=List.mem_singleton.1 d;rw[<-M.out];exact HP.out
  ·have u1:decide ((k:Int)<(l.length:Int))=false:=aE (by omega);go_wp2_with fail;go_ret;exact⟨eI (by rw[sK];have:=HT.out;rwa[cD (by omega)] at this),rfl⟩
theorem aXx {A:List UInt8} {c:UInt8} (h:c∈A):iR (fun y=>(c.toNat:Int)==y) (BX A)=((plc A c:Nat):Int):=by grind [vP,JG,JD,xX,BX,List.map_take,List.mem_iff_getElem?,List.getElem?_eq_some_iff,aQ,List.getElem?_take_of_lt,aN,List.not_of_lt_findIdx,plc,cC,UInt8.toNat_inj,iR]
theorem aXy (b:Nat) (x:Int) (W:World) (d:W.cell? ⟨b,0,none⟩=some (.int .i64 2)) (A:x=0\/x=1):
  Calls pG 142 #[.int .i64 x,.pointer (some ⟨b,0,none⟩)] W fun e w'=>e=.returned (.bool false)/\w'=W:=by
 have F:decide (x<0)=false:=aE (by omega);have G:decide (x>=2)=false:=aE (by omega);have H:decide (2<=x)=false:=aE (by omega);go_enter func142,ntmps142;go_wp2_with fail;go_ret;exact⟨rfl,rfl⟩
theorem aXz {l:List Int} (F:∀x∈l,x=0\/x=1) {k:Nat} {x:Int} (h:l[k]? =some x):
  dL (cT 6) ((l.map fA).take (k+1))=dL (cT 6) ((l.map fA).take k)++[((plc (fH (cT 6) ((l.map fA).take k)) (fA x):Nat):Int)]/\
  fH (cT 6) ((l.map fA).take (k+1))=gC (fH (cT 6) ((l.map fA).take k)) (plc (fH (cT 6) ((l.map fA).take k)) (fA x))/\
  fA x∈fH (cT 6) ((l.map fA).take k)/\plc (fH (cT 6) ((l.map fA).take k)) (fA x)<2:=by
 have d:(l.map fA)[k]? =some (fA x):=by grind
 have e:(l.map fA).take (k+1)=(l.map fA).take k++[fA x]:=by rw[cG,d];rfl
 have A:=MA F;have G:=RH (show 2<=6 by decide);have H:fA x∈fH (cT 6) ((l.map fA).take k):=(JH _ _).mem_iff.2 (by grind);refine⟨by rw[e,JI],by rw[e,PF],H,?_⟩;have I:=(RL ((l.map fA).take (k+1)) (cT 2) ((cT 6).drop 2) (fun b d=>A b (pG d))).1;rw[<-G] at I;have J:=BH ((l.map fA).take (k+1)) (cT 2) (fun b d=>A b (pG d)) ((plc (fH (cT 6) ((l.map fA).take k)) (fA x):Nat):Int) (by grind [JI,dL,cT,fA,plc,fH,gC]);have L:(cT 2).length=2:=rfl;omega
theorem aX0 {l:List Int} (d:∀x∈l,x=0\/x=1):dL (cT 6) (l.map fA)=fJ l:=by grind [TD,RH,RL,MA,dL,cT,fA,fJ]
theorem aX1 (l:List Int):(l.map oC).flatten=eW l:=by grind [eW,oC]
theorem aX2 (v:Value) (l:List Int) (w:World) (hr:RdI w v l) (hl:l.length<=20000) (L:∀x∈l,x=0\/x=1):
  Calls pG 88 #[v,.int .i64 2] w fun e w'=>e=.returned (.tuple #[fT (eW (fJ l)),.int .i64 0])/\Below w.heap.size w w':=by
 have g2:∀(fn:Fn) (first cap:Array Value) (w:World),(Instr.makeFunc fn first cap).run pG w=.ok (.func fn first cap) w:=fun _ _ _ _=>rfl
 have HX:=hid L;have HN:=hid (fun k x (h:l[k]? =some x)=>aXz L h);have e2:=hid (aX0 L);have d2:=Arr.new w 3 [.int .i64 2];have a9:=Arr.new (w.alloc (.cells #[.int .i64 2] 3)) 79 [.string ⟨#[]⟩,.int .i64 0];have b0:=d2.alloc (.cells #[.string ⟨#[]⟩,.int .i64 0] 79);have e3:(w.alloc (.cells #[.int .i64 2] 3)).heap.size=w.heap.size+1:=by simp
 have b1:((w.alloc (.cells #[.int .i64 2] 3)).alloc (.cells #[.string ⟨#[]⟩,.int .i64 0] 79)).heap.size=w.heap.size+2:=by simp
 have b5:Below w.heap.size w ((w.alloc (.cells #[.int .i64 2] 3)).alloc (.cells #[.string ⟨#[]⟩,.int .i64 0] 79)):=bD (bD (aH _ _) _) _;rw[e3] at a9;change Arr ((w.alloc (.cells #[.int .i64 2] 3)).alloc (.cells #[.string ⟨#[]⟩,.int .i64 0] 79)) _ _ _ at b0;change Arr ((w.alloc (.cells #[.int .i64 2] 3)).alloc (.cells #[.string ⟨#[]⟩,.int .i64 0] 79)) _ _ _ at a9;have b6:=hr.below b5
 have d3:∀W,Below (w.heap.size+2) ((w.alloc (.cells #[.int .i64 2] 3)).alloc (.cells #[.string ⟨#[]⟩,.int .i64 0] 79)) W->Calls pG 141 #[v,.func (.func 142) #[] #[.pointer (some ⟨w.heap.size,0,none⟩)]] W fun e w'=>e=.returned (.bool false)/\w'=W:=fun W hW=>
  (zC 142 #[.pointer (some ⟨w.heap.size,0,none⟩)] (fun _=>false) v l W (b6.below (b1▸hW)) (enters_of func142 (by kernel_rfl) rfl)
   (fun W' e4 x e5=>aXy w.heap.size x W' (((b0.below hW (by omega)).below e4 (by have:=hW.size;omega)).cell (i:=0) rfl) (L x e5))).mono fun e w' ⟨h1,h2⟩=>by
    rw[sK (fun x _=>rfl)] at h1;exact⟨h1,h2⟩
 obtain⟨a,ca,rfl,g3,e6,J⟩:=b6.open;unfold maxLen at e6;clear hr b6 d2 L;go_enter func88,ntmps88;go_wp2_with fail;generalize ((w.alloc (.cells #[.int .i64 2] 3)).alloc (.cells #[.string ⟨#[]⟩,.int .i64 0] 79))=w2 at*
 have c0:=b0.cell (i:=0) rfl;refine(aFd 2 _ (by decide) (by decide)).mono ?_;rintro e w3 ⟨rfl,rfl⟩;go_wp2_with fail;refine(d3 _ (aH _ _)).mono ?_;rintro e w4 ⟨rfl,rfl⟩;go_wp2_with fail;refine(aFf 2 _).mono ?_;rintro e w5 ⟨rfl,b7,b2,d4⟩;obtain⟨z,hz⟩:∃z,z=w4.heap.size:=⟨_,rfl⟩;rw[<-hz] at b7 b2 d4 b1 ⊢;rw[<-aFq] at b7;have e7:=a9.below b2 (by omega);have e8:=hid (b5.trans (b2.mono (by omega)));have HA:=hid (fun(h:0<l.length)=>J h);have g4:w.heap.size+2<=z:=by omega
 have g5:=hid b1;have HZ:=hid hz;clear d3 b0 a9 c0 J b5 b1 hz;go_wp2_with fail
 go_loopg [7,9,10,11,12,25] l.length (fun g s7 _s9 _s10 _s11 _s12 e9 wr=>∃(k:Nat) (u:Value),k<=l.length/\g=l.length-k/\u=s7/\e9=.int .i64 (k:Int)/\eO wr (z+1) u ((dL (cT 6) ((l.map fA).take k)).map oC)/\Arr wr z 197 (lT (BX (fH (cT 6) ((l.map fA).take k))) 2)/\Below z w5 wr/\z<wr.heap.size)
 case atStart=>exact⟨0,_,aO _,rfl,rfl,rfl,eO.nil _ _,b7,aH _ _,d4⟩
 case round=>
  obtain⟨k,u,hk,hg,rfl,rfl,F,J,H,f2⟩:=hrel;have HG:=hid hg;clear hg
  by_cases f3:k<l.length
  ·have u1:decide ((k:Int)<(l.length:Int))=true:=aG (by omega);obtain⟨b,off,rfl,hb,hc⟩:=HA.out (by omega);obtain⟨x,b3⟩:=eG f3;have c1:=(H.cell (p:=⟨b,off+k,none⟩) (by show b<z;rw[HZ.out];exact hb)).trans ((b2.cell (p:=⟨b,off+k,none⟩) (by show b<z;rw[HZ.out];exact hb)).trans (hc k x b3));obtain⟨O,n2,n3,n4⟩:=HN.out k x b3;have f4:=HX.out x (cN b3);have d5:((fA x).toNat:Int)=x:=by rcases f4 with rfl|rfl<;>rfl
   have b8:(fH (cT 6) ((l.map fA).take k)).length=6:=(JH _ _).length_eq;obtain⟨Q,hQ⟩:∃Q,Q=fH (cT 6) ((l.map fA).take k):=⟨_,rfl⟩;obtain⟨M,hM⟩:∃M,M=dL (cT 6) ((l.map fA).take k):=⟨_,rfl⟩;have g6:M.length=k:=by rw[hM,vQ,aQ,aS];omega
   rw[<-hQ] at O n2 n3 n4 b8 J;rw[<-hM] at O F;obtain⟨i,hi⟩:∃i,i=plc Q (fA x):=⟨_,rfl⟩;have b9:=aXx n3;rw[d5,<-hi] at b9;rw[<-hi] at O n2 n4;have N1:=hid O;have N2:=hid n2;have d6:RdI wr (.slice (some ⟨z,0,none⟩) 6 6) (BX Q):=by
    have d7:(BX Q).length=6:=by rw[xX];exact b8
    refine⟨some ⟨z,0,none⟩,6,by rw[d7],by rw[d7];exact aD _,by simp[maxLen],.inr ⟨z,0,rfl,f2,fun j hj=>?_⟩⟩;rw[aS] at hj;rw[Nat.zero_add,J.cell (MD hj)];simp[bV,aN hj]
   have d8:=aXw (.slice (some ⟨z,0,none⟩) 6 6) (BX Q) x wr d6;rw[b9] at d8;have U:=aFc z (BX Q) 2 i (by rw[xX];exact b8) (by omega) wr J;rw[aFp] at U;clear O n2 n3 b3 hc b9 d5 hi hQ hM d6;go_wp2_with fail;refine d8.mono ?_;rintro e w6 ⟨rfl,rfl⟩;obtain⟨X,hX⟩:∃X,X=oC ((i:Nat):Int):=⟨_,rfl⟩;have d9:i=0\/i=1:=by omega
   have g7:X.length<=2:=by rcases d9 with rfl|rfl<;>(rw[hX];decide)
   have b4:=hid hX;rcases d9 with c2|c2
   ·skip
    subst c2;have c3:∀W,Calls pG 53 #[.agg #[.string ⟨#[]⟩,.int .i64 0],.int .u64 0,.int .i64 1] W fun e w'=>e=.returned (.tuple #[.agg #[.string (mkS (aI X)),.int .i64 (X.length:Int)],.int .i64 0])/\Below W.heap.size W w':=fun W=>by
     have:=wL [] 0 1 W (by decide) (by decide) (by decide);rw[show([]:List Bool)++aT 0 1=X by rw[b4.out];decide] at this;exact this
    clear hX;go_wp2_with fail;refine U.mono ?_;rintro e w7 ⟨rfl,V,G⟩;have Z:eO w7 (z+1) u (M.map oC):=yJ F G (lD F (vK z));have a0:=H.grown G (by omega) (fun k hk=>by obtain rfl:=cC hk;exact aD _);have f5:=G.size;clear U F G H;go_wp2_with fail;refine(c3 _).mono ?_;rintro e d ⟨rfl,A⟩;have a1:=V.below A (by omega);have a2:=Z.below A (aD _);have a3:=a0.trans (A.mono (by omega));have f6:=A.size;have a4:=a1.alloc (.cells #[.string (mkS (aI X)),.int .i64 (X.length:Int)] 79)
    have a5:=a2.alloc (.cells #[.string (mkS (aI X)),.int .i64 (X.length:Int)] 79);have a6:=a3.alloc (o:=.cells #[.string (mkS (aI X)),.int .i64 (X.length:Int)] 79) (by omega);have c4:(d.alloc (.cells #[.string (mkS (aI X)),.int .i64 (X.length:Int)] 79)).heap.size=d.heap.size+1:=by simp
    have hN:=Arr.new (d.alloc (.cells #[.string (mkS (aI X)),.int .i64 (X.length:Int)] 79)) 79 [.string (mkS (aI X)),.int .i64 (X.length:Int)];rw[c4] at hN;have c5:=a4.alloc (.cells #[.string (mkS (aI X)),.int .i64 (X.length:Int)] 79);have c6:=a5.alloc (.cells #[.string (mkS (aI X)),.int .i64 (X.length:Int)] 79);have c7:=a6.alloc (o:=.cells #[.string (mkS (aI X)),.int .i64 (X.length:Int)] 79) (by omega)
    have f7:((d.alloc (.cells #[.string (mkS (aI X)),.int .i64 (X.length:Int)] 79)).alloc (.cells #[.string (mkS (aI X)),.int .i64 (X.length:Int)] 79)).heap.size=d.heap.size+2:=by simp
    clear a1 a2 A a3 V Z a0 a4 a5 a6;go_wp2_with (at_builtin;refine FD rfl _ _ rfl (z+1) _ (M.map oC) X rfl c6 _ rfl hN ?_ ?_ ?_;(rw[aS];omega);(omega);intro f8 f9 r1 I r3);have hg:=HG.out
    go_roundg (l.length-(k+1))
    case measure=>omega
    case rel=>
     refine⟨k+1,_,by omega,rfl,rfl,by go_num,?_,?_,c7.trans (I.mono (by omega)),?_⟩
     ·rw[N1.out,dY];have e:[((0:Nat):Int)].map oC=[X]:=by rw[b4.out];rfl
      rw[e];exact r1
     ·rw[N2.out];exact c5.below I (vK z)
     ·have:=I.size;omega
   ·skip
    subst c2;have c3:∀W,Calls pG 53 #[.agg #[.string ⟨#[]⟩,.int .i64 0],.int .u64 2,.int .i64 2] W fun e w'=>e=.returned (.tuple #[.agg #[.string (mkS (aI X)),.int .i64 (X.length:Int)],.int .i64 0])/\Below W.heap.size W w':=fun W=>by
     have:=wL [] 2 2 W (by decide) (by decide) (by decide);rw[show([]:List Bool)++aT 2 2=X by rw[b4.out];decide] at this;exact this
    clear hX;go_wp2_with fail;refine U.mono ?_;rintro e w7 ⟨rfl,V,G⟩;have Z:eO w7 (z+1) u (M.map oC):=yJ F G (lD F (vK z));have a0:=H.grown G (by omega) (fun k hk=>by obtain rfl:=cC hk;exact aD _);have f5:=G.size;clear U F G H;go_wp2_with fail;refine(c3 _).mono ?_;rintro e d ⟨rfl,A⟩;have a1:=V.below A (by omega);have a2:=Z.below A (aD _);have a3:=a0.trans (A.mono (by omega));have f6:=A.size;have a4:=a1.alloc (.cells #[.string (mkS (aI X)),.int .i64 (X.length:Int)] 79)
    have a5:=a2.alloc (.cells #[.string (mkS (aI X)),.int .i64 (X.length:Int)] 79);have a6:=a3.alloc (o:=.cells #[.string (mkS (aI X)),.int .i64 (X.length:Int)] 79) (by omega);have c4:(d.alloc (.cells #[.string (mkS (aI X)),.int .i64 (X.length:Int)] 79)).heap.size=d.heap.size+1:=by simp
    have hN:=Arr.new (d.alloc (.cells #[.string (mkS (aI X)),.int .i64 (X.length:Int)] 79)) 79 [.string (mkS (aI X)),.int .i64 (X.length:Int)];rw[c4] at hN;have c5:=a4.alloc (.cells #[.string (mkS (aI X)),.int .i64 (X.length:Int)] 79);have c6:=a5.alloc (.cells #[.string (mkS (aI X)),.int .i64 (X.length:Int)] 79);have c7:=a6.alloc (o:=.cells #[.string (mkS (aI X)),.int .i64 (X.length:Int)] 79) (by omega)
    have f7:((d.alloc (.cells #[.string (mkS (aI X)),.int .i64 (X.length:Int)] 79)).alloc (.cells #[.string (mkS (aI X)),.int .i64 (X.length:Int)] 79)).heap.size=d.heap.size+2:=by simp
    clear a1 a2 A a3 V Z a0 a4 a5 a6;go_wp2_with (at_builtin;refine FD rfl _ _ rfl (z+1) _ (M.map oC) X rfl c6 _ rfl hN ?_ ?_ ?_;(rw[aS];omega);(omega);intro f8 f9 r1 I r3);have hg:=HG.out
    go_roundg (l.length-(k+1))
    case measure=>omega
    case rel=>
     refine⟨k+1,_,by omega,rfl,rfl,by go_num,?_,?_,c7.trans (I.mono (by omega)),?_⟩
     ·rw[N1.out,dY];have e:[((1:Nat):Int)].map oC=[X]:=by rw[b4.out];rfl
      rw[e];exact r1
     ·rw[N2.out];exact c5.below I (vK z)
     ·have:=I.size;omega
  ·have u1:decide ((k:Int)<(l.length:Int))=false:=aE (by omega);rw[cD (by rw[aS];omega),e2.out] at F;have c8:((fJ l).map oC).flatten=eW (fJ l):=aX1 _;have g0:=CH (fJ l) 2 (FI HX.out);rw[zT] at g0;have a7:=FC u ((fJ l).map oC) wr (eO.rd F) (by rw[c8];omega);rw[c8] at a7;obtain⟨D,hD⟩:∃D,D=eW (fJ l):=⟨_,rfl⟩;rw[<-hD] at a7;have HD:=hid hD;unfold fT at a7;have e0:=e7.below H (by omega);have e1:=e8.out.trans (H.mono (by omega));clear F c8 hD;go_wp2_with fail;refine a7.mono ?_;rintro e w6 ⟨rfl,c9⟩
   have a8:=e0.below c9 (by omega);have g1:=e1.trans (c9.mono (by omega));have d0:=a8.cell (i:=0) rfl;have d1:=a8.cell (i:=1) rfl;have f0:=a8.free 0;have f1:=a8.free 1;clear a7 c9 e0 e1 H;go_wp2_with fail;have z0:Arr ((w6.setCell ⟨w.heap.size+1,0,none⟩ (.string (mkS (aI D)))).setCell ⟨w.heap.size+1,1,none⟩ (.int .i64 (D.length:Int))) (w.heap.size+1) 79 [.string (mkS (aI D)),.int .i64 (D.length:Int)]:=(a8.set 0 _).set 1 _
   refine fM (uS rfl _ _ (w.heap.size+1) _ _ (0,0) _ rfl z0 underlying79 rfl rQ) rfl ⟨by rw[<-HD.out];rfl,(g1.setCell (p:=⟨w.heap.size+1,0,none⟩) (tJ _) _).setCell (p:=⟨w.heap.size+1,1,none⟩) (tJ _) _⟩
end
section
open Go.RowKit Go Go.Shelf
attribute [local go_sem] Oper.semAt_some
theorem bBd {F:Fence} {m:Nat} {P:Program} {d:Array Oper} {rest:List Oper} {o:Oper} {a:Act} {Q:Exit->Act->World->Prop} {w:World} {t e A:Nat} {z x y:Value} (I:P.underlying t=some (.slice e)) (J:(P.info? e).map (fun i=>(i.zero,i.size,i.bytes))=some (some z,2,A)) (L:z.cells=#[x,y]) (M:o.guard=none) (l c:Operand)
  (G:o.op=.makeSlice t l c) (n:Nat) (O:a.eval l=.int .i64 (n:Int)) (U:a.eval c=.int .i64 (n:Int)) (a0:n*A<=140737488355328) (hn:n<=140737488355328)
  (h:wpListIn F m P d Q rest (a.put o.dst (.slice (some ⟨w.heap.size,0,none⟩) n n)) (w.alloc (.cells (cY n (fun _=>(x,y))).toArray e))):wpListIn F m P d Q (o::rest) a w:=by
 refine wpListIn_plain M fun K V=>?_
 obtain⟨i,hi,Z,h2,h3⟩:=info_parts J;have hb:(i.bytes:Int)*(n:Int)<=281474976710656:=by grind
 have H:=run_make (P:=P) w t e i z I hi Z .i64 .i64 (n:Int) (n:Int) (by omega) (Int.le_refl _) hb (by omega);rw[h2,fL,L,aEy] at H;unfold Oper.wpIn;refine⟨?_,?_⟩
 ·simp[Oper.about,G]
 ·rw[Oper.semAt_plain F _ _ (by grind)];simp[execOp,G,O,U,H,Result.andThen];exact V _ _ h
theorem aIb (n:Nat) (b o d cap:Nat) (w:World):
  CallsIn cZ n pG 206 #[.slice (some ⟨b,o,none⟩) d cap] w fun e w'=>e=.returned (.func (.func 248) #[] #[.pointer (some ⟨w.heap.size,0,none⟩)])/\w'=w.alloc (.cells #[.slice (some ⟨b,o,none⟩) d cap] 26):=by
 refine callsIn_of_wp func206 rfl trivial ?_ rfl;simp only[ntmps206,dB,aU,aV,cV,dC,jG,jH,jI,jJ,eL,fF]
 gi_wp2
 go_ret;exact⟨rfl,rfl⟩
def nP (l:List Int) (S:List Nat) (n i d:Nat):Value×Value:=if bL l d∈S\/(bL l d=n/\cL (l.take d) n<i) then uU l d else(.int .i64 0,.int .u64 0)
theorem bBe (l:List Int) (n:Nat):cY l.length (nP l [] n 0)=cY l.length (fun _=>(.int .i64 0,.int .u64 0)):=by simp[wM,nP,cY]
theorem bBf (l:List Int) (S:List Nat) (n m:Nat):cY l.length (nP l S n 0)=cY l.length (nP l S m 0):=by simp[wM,nP,bL,cY]
theorem bBg {l:List Int} (h:gM l) (S:List Nat) (n m:Nat):cY l.length (nP l S n (cL l n))=cY l.length (nP l (S++[n]) m 0):=by grind [wM,nP,bL,KK,lX,gM,cY,cL]
theorem bBh {l:List Int} (h:gM l) (m:Nat):cY l.length (nP l (lU l 21) m 0)=cY l.length (uU l):=
 wM fun d A=>by
  have F:=lX h A;have G:=KK A F.2.2
  grind [bL,lU,nP,gM,cY,uU]
theorem bBi {l:List Int} (h:gM l) {S:List Nat} {n i s:Nat} (F:(qG l n l.length)[i]? =some s):
  s<l.length/\((cY l.length (nP l S n i)).set (s*2) (.int .i64 (n:Int))).set (s*2+1) (.int .u64 ((gY l n+i:Nat):Int))=cY l.length (nP l S n (i+1)):=by
 obtain⟨A,G,H⟩:=aB1 l n l.length (aD _) i s F;have I:=lX h A;have J:bL l s=n:=by grind
 refine⟨A,TB _ _ _ _ _ _ fun d L=>?_⟩
 grind [nP,uU,gZ,bL,lX,cL,KO,gM,qG,cY,gY]
theorem aIc (n:Nat) (M:1<=n) (Bs F A G I:Nat) (d:List Int) (O:bM d=0) (w:World) (L:Arr w Bs 26 [.slice (some ⟨A,G,none⟩) d.length I]) (U:∀i x,d[i]? =some x->w.cell? ⟨A,G+i,none⟩=some (.int .i64 x)) (V:A≠F) (Z:Bs≠F) (a1:F<w.heap.size) (a0:A<w.heap.size):
  aG6 n pG 248 #[.pointer (some ⟨Bs,0,none⟩)] (yB d) (bW (some F)) (CS d) (fun xs=>xs.map (·.1)=lU d 21) w:=fun l J Jx W H hJ _ hY h0=>by
 have hs:=H.size;exact bBc n M l Bs F A G I d O J Jx W (L.below H L.lt) (fun i x hi=>(H.cell (p:=⟨A,G+i,none⟩) a0).trans (U i x hi)) V Z (by omega) (by omega) hJ hY h0
theorem aId {d:List Int}:∀(B:Nat) (pre:List (Nat×Value)) (x:Nat×Value) (A F:World),CS d B pre x A->bW none A F->CS d B pre x F:=fun _ _ _ _ _ ⟨G,H,I,J,L⟩ M=>⟨G,H,I,J,bW.ow M L (fun _ _ e=>by cases e)⟩
theorem bBj {B g:Nat} {A C:World} (h:A.grownBy C (some g)) (F:B<=g) (d:B<=A.heap.size):Below B A C:=(aH B A).grown h d (fun k G=>by grind)
theorem aIe {A B C:World} {g:Option Nat} (h:A.grownBy B g) (k:B.grownBy C g):A.grownBy C g:=
 ⟨k.os.trans h.os,k.tape.trans h.tape,k.output.trans h.output,aR h.size k.size,fun i hi d=>(k.block i (fB hi h.size) d).trans (h.block i hi d)⟩
theorem bBk (A:World) (g:Option Nat):A.grownBy A g:=⟨rfl,rfl,rfl,aD _,fun _ _ _=>rfl⟩
theorem bBl (n:Nat) (hn:3<=n) (v:Value) (l:List Int) (w:World) (hr:RdI w v l):
  CallsIn cZ n pG 151 #[v] w fun e w'=>∃u,e=.returned (.tuple #[u,.int .i64 (bM l)])/\(bM l=0->Wds w' w.heap.size u l)/\(bM l≠0->u=.slice none 0 0)/\Below w.heap.size w w':=by
 have h1:1<=n:=by omega
 obtain⟨a,H,rfl,g2,d5,hA⟩:=hr.open;unfold maxLen at d5;refine callsIn_of_wp_marks func151 rfl trivial ?_ rfl;simp only[ntmps151,dB,aU,aV,cV,dC,jG,jH,jI,jJ,eL,fF]
 by_cases I:bM l=0
 rotate_left
 ·have V:=hid I;obtain⟨E,a2⟩:∃E,E=bM l:=⟨_,rfl⟩;rw[<-a2] at I;have g3:(E != 0)=true:=by simpa using I
  gi_wp2_with fail
  refine⟨trivial,(callsIn_wide.2 (FK _ l _ hr)).mono ?_⟩;rintro e w1 ⟨rfl,a4⟩;rw[<-a2];have d6:=hid a2;clear a2
  gi_wp2_with fail
  exact⟨_,results_tmp2 rfl _ _ _,.slice none 0 0,by rw[d6.out];rfl,fun q=>absurd q V.out,fun _=>rfl,a4⟩
 ·have M:=gE I;have HO:=hid M.1;have d7:=hid (fun k (hk:k<=20)=>LY (i:=0) M.1 M.2 hk);have d8:=M.1.2.1;have g4:=M.1.1;obtain⟨d,F,rfl,a4,b3⟩:=hA (by omega)
  gi_wp2_with fail
  refine⟨trivial,(callsIn_wide.2 (FK _ l _ hr)).mono ?_⟩;rintro e w1 ⟨rfl,a3⟩;rw[I];have V:=hid I;have b4:∀i x,l[i]? =some x->w1.cell? ⟨d,F+i,none⟩=some (.int .i64 x):=fun i x hi=>(a3.cell (p:=⟨d,F+i,none⟩) a4).trans (b3 i x hi)
  have d9:=hid b4;have b5:=a3.size;clear I M hr hA b3 b4
  gi_wp2_with (gi_at_make;refine bBd underlying202 aE0 rfl rfl _ _ rfl l.length rfl rfl ?_ ?_ ?_;(omega);(omega))
  refine⟨trivial,(aIb (n-1) d F l.length H _).mono ?_⟩;rintro e w' ⟨rfl,rfl⟩;have a5:=Arr.new w1 206 (cY l.length (fun _=>(.int .i64 0,.int .u64 0)));rw[<-bBe l 0] at a5 ⊢;have k0:Below w.heap.size w (w1.alloc (.cells (cY l.length (nP l [] 0 0)).toArray 206)):=a3.alloc b5 _;have z0:(w1.alloc (.cells (cY l.length (nP l [] 0 0)).toArray 206)).heap.size=w1.heap.size+1:=by simp
  have y0:Below w1.heap.size w1 (w1.alloc (.cells (cY l.length (nP l [] 0 0)).toArray 206)):=bD (aH _ _) _;generalize w1.alloc (.cells (cY l.length (nP l [] 0 0)).toArray 206)=w2 at*
  have a6:=Arr.new w2 202 [.slice (some ⟨w1.heap.size,0,none⟩) l.length l.length];rw[z0] at a6;have a7:=Arr.new (w2.alloc (.cells #[.slice (some ⟨w1.heap.size,0,none⟩) l.length l.length] 202)) 26 [.slice (some ⟨d,F,none⟩) l.length H];have b6:=(a5.alloc (.cells #[.slice (some ⟨w1.heap.size,0,none⟩) l.length l.length] 202)).alloc (.cells #[.slice (some ⟨d,F,none⟩) l.length H] 26);have b7:=a6.alloc (.cells #[.slice (some ⟨d,F,none⟩) l.length H] 26);rw[fP,z0] at a7
  have e2:Below w.heap.size w ((w2.alloc (.cells #[.slice (some ⟨w1.heap.size,0,none⟩) l.length l.length] 202)).alloc (.cells #[.slice (some ⟨d,F,none⟩) l.length H] 26)):=(k0.alloc (by omega) _).alloc (by simp;omega) _;have e3:((w2.alloc (.cells #[.slice (some ⟨w1.heap.size,0,none⟩) l.length l.length] 202)).alloc (.cells #[.slice (some ⟨d,F,none⟩) l.length H] 26)).heap.size=w1.heap.size+3:=by simp;omega
  have a8:Below w1.heap.size w1 ((w2.alloc (.cells #[.slice (some ⟨w1.heap.size,0,none⟩) l.length l.length] 202)).alloc (.cells #[.slice (some ⟨d,F,none⟩) l.length H] 26)):=(y0.alloc (by omega) _).alloc (by simp;omega) _
  gi_wp2_with fail
  generalize (w2.alloc (.cells #[.slice (some ⟨w1.heap.size,0,none⟩) l.length l.length] 202)).alloc (.cells #[.slice (some ⟨d,F,none⟩) l.length H] 26)=Z at*
  obtain⟨O,hO⟩:∃O,O=w1.heap.size:=⟨_,rfl⟩;rw[<-hO] at a7 b6 b7 e3 b5 a8 ⊢;have e4:d<O:=by omega
  have e6:∀i x,l[i]? =some x->Z.cell? ⟨d,F+i,none⟩=some (.int .i64 x):=fun i x hi=>(a8.cell (p:=⟨d,F+i,none⟩) e4).trans (d9.out i x hi)
  have e7:=hid hO;clear k0 z0 y0 a5 a6 hO a3 a8;refine aG7 (w0:=Z) (Kp:=bW (some O)) (Pre:=CS l) (encs:=yB l) h1 (gf:=248) (lb:=#[.pointer (some ⟨O+1+1,0,none⟩)]) rfl (enters_of func248 (by kernel_rfl) rfl)
   (aIc (n-1) (by omega) (O+1+1) O d F H l V.out Z a7 e6 (by omega) (by omega) (by omega) (by omega)) (aH _ _) (fun _=>rfl)
   (fun h k=>h.trans k) (fun _ _ h=>h.some _) aId
   (fun pre W=>(Arr W O 206 (cY l.length (nP l (pre.map (·.1)) 0 0))/\Arr W (O+1) 202 [.slice (some ⟨O,0,none⟩) l.length l.length])/\Below w.heap.size w W)
   (fun _ _ _=>False)
   (fun s A B J a9=>⟨⟨J.1.1.below a9 (by omega),J.1.2.below a9 (by omega)⟩,J.2.trans (a9.mono (by omega))⟩)
   (fun _ _ _ _ h _=>h.elim)
   ⟨⟨b6,b7⟩,e2⟩
   (fun x a' W=>∃U,Z.heap.size<=U/\Arr W U 268 [.int .i64 (x.1:Int),.int .u64 (gY l x.1:Int),x.2]/\a'={tmps:=#[.slice (some ⟨d,F,none⟩) l.length H,undef,.slice none 0 0,.int .i64 0,.int .i64 0,.pointer (some ⟨O+1,0,none⟩),.pointer (some ⟨U,0,none⟩),undef,undef,.slice (some ⟨d,F,none⟩) l.length H,.int .i64 0,.int .i64 0,.bool false,undef,.slice (some ⟨d,F,none⟩) l.length H,.int .i64 (l.length:Int),.slice (some ⟨O,0,none⟩) l.length l.length,.slice (some ⟨d,F,none⟩) l.length H,.func (.func 248) #[] #[.pointer (some ⟨O+1+1,0,none⟩)],.agg #[.int .i64 (x.1:Int),.int .u64 (gY l x.1:Int),x.2],undef,undef,undef,undef,undef,undef,undef,undef,undef,undef,undef,undef,undef,undef,undef,undef,undef,undef,undef,undef,undef],defers:=[]})
   (fun x a' A A' ⟨U,k1,k2,k3⟩ hk=>⟨U,k1,hk.arr k2 (by simp),k3⟩) ?assign ?body ?done ?stop
  case assign=>
   rintro l0 B pre ⟨m,u⟩ W K hI hB e8 e9 hK;obtain⟨a',f2,a0,_,_,_⟩:=(OwI.rd e9.2.2.2.2).open;dsimp only at a0;subst a0;unfold yB
   gi_wp2
   exact hK _ _ (bD (aH _ _) _) ⟨W.heap.size,by omega,Arr.new W _ [_,_,_],rfl⟩
  case body=>
   rintro l0 B pre ⟨m,u⟩ a' W ⟨⟨G,b0⟩,a1⟩ hB e8 ⟨_,⟨f3,b8⟩,f4,b9,ho⟩ ⟨U,g5,hS,rfl⟩;dsimp only at f3 b8 f4 b9 ho hS ⊢;obtain⟨C,hC⟩:∃C,C=cL l m:=⟨_,rfl⟩;have c0:(pA l m l.length).length=C:=by rw[MU l m _ (aD _),jS,hC]
   have c1:(qG l m l.length).length=C:=by rw[KN l m _ (aD _),jS,hC]
   have g6:C<=258:=by rw[hC];unfold cL;exact aR List.countP_le_length d8
   have f5:gY l m<=1048576:=by
    have:=d7.out m b8;unfold lS at this;omega
   obtain⟨X,hX⟩:∃X,X=gY l m:=⟨_,rfl⟩;have c2:=OwI.rd ho;have c3:=Ow.lt ho;obtain⟨a',f2,a0,h4,h5,h6⟩:=c2.open;rw[c0] at a0 h4 h6;obtain⟨bu,ou,rfl,g7,c4⟩:=h6 (by omega);subst a0;have g8:B<=bu:=(c3 bu (by rfl)).1;have b2:=fun i s hi=>bBi (S:=pre.map (·.1)) (i:=i) (s:=s) HO.out (n:=m) hi
   rw[<-hX] at hS b2 f5 ⊢;have f6:=hid b2;have c5:=hid (bBg HO.out (pre.map (·.1)) m 0);rw[<-hC] at c5;rw[bBf l (pre.map (·.1)) 0 m] at G;have f7:=hid c1;have f8:=hid c4;have g9:Below w.heap.size w W:=a1;have i0:=a1.size;clear b2 hX hC c0 c1 c4 ho c2 c3 b9;have d2:=hS.cell (i:=2) rfl
   gi_wp2_with fail
   gi_loopg [7,8,23] C (fun g _s7 _s8 f9 wx=>∃i:Nat,i<=C/\g=C-i/\f9=.int .i64 (i:Int)/\Arr wx O 206 (cY l.length (nP l (pre.map (·.1)) m i))/\W.grownBy wx (some O))
   case atStart=>exact⟨0,aO _,rfl,rfl,G,bBk _ _⟩
   case round=>
    clear G d2;obtain⟨i,hi,hg,rfl,G,L⟩:=hrel;have HG:=hid hg;clear hg;have c6:=b0.grown L (by simp);have c7:=hS.grown L (by simp;omega);have e0:=c7.cell (i:=0) rfl;have e1:=c7.cell (i:=1) rfl;have e5:=c6.cell (i:=0) rfl
    by_cases g0:i<C
    ·have t1:decide ((i:Int)<(C:Int))=true:=aG (by omega);obtain⟨s,J⟩:∃s,(qG l m l.length)[i]? =some s:=⟨_,aN (by rw[f7.out];exact g0)⟩;obtain⟨c8,c9⟩:=f6.out i s J;have d3:=hid c9;have d4:W.cell? ⟨bu,ou+i,none⟩=some (.int .i64 (s:Int)):=f8.out i _ (by unfold pA;rw[eQ,J];rfl);have cu:wr.cell? ⟨bu,ou+i,none⟩=some (.int .i64 (s:Int)):=L.cell d4 (by simp;omega);obtain⟨Y,hY⟩:∃Y,Y=X+i:=⟨_,rfl⟩;rw[<-hY] at d3;have m1:eZ.wrap (i:Int)=(i:Int):=by rw[fC];omega
     have m2:(i:Int)%18446744073709551616=(i:Int):=by omega
     have m3:(X:Int)+(i:Int)=(Y:Int):=by omega
     have m4:eZ.wrap (Y:Int)=(Y:Int):=by rw[fC];omega
     have d0:=G.cell (zR _ _ s c8);have d1:=G.cell (zS _ _ s c8);have f0:=G.free (s*2);have f1:=G.free (s*2+1);have q1:(s:Int)<(l.length:Int):=by omega
     clear c9 J d4 hY
     gi_wp2_with fail
     have hg:=HG.out
     gi_roundg (C-(i+1))
     case measure=>omega
     case rel=>exact⟨i+1,by omega,rfl,by go_num,by rw[<-d3.out];exact(G.set _ _).set _ _,aIe L (aIe (TW _ _ _ _) (TW _ _ _ _))⟩
    ·have t1:decide ((i:Int)<(C:Int))=false:=aE (by omega);obtain rfl:C=i:=by omega
     rw[c5.out] at G
     gi_wp2_with fail
     exact⟨KeepsFrom.of_grownBy L (fun j hj=>by injection hj with hj;omega),bW.grownBy L,⟨⟨by rw[dY];exact G,c6⟩,a1.trans (bBj L (by omega) (by omega))⟩⟩
  case done=>
   rintro D xs W hD g1 ⟨⟨G,b0⟩,a1⟩ hK;rw[g1,bBh HO.out] at G;have e5:=b0.cell (i:=0) rfl
   gi_wp2_with fail
   refine⟨by simp,.inl ⟨_,_,rfl,run_takeDeferred hK,?_⟩⟩;exact⟨_,results_tmp2 rfl _ _ _,_,by rw[V.out];rfl,fun _=>⟨O,by have:=e7.out;omega,rfl,G.grown (grownBy_putObj' _ D _) (by simp;omega)⟩,fun q=>absurd V.out q,a1.trans (belowK_b (w:=Z) (by omega) W D _ _ hD hK rfl rfl)⟩
  case stop=>
   rintro D c pre W hD h;exact h.elim
theorem bBm (v:Value) (l:List Int) (w:World) (d:RdI w v l):
  Calls pG 151 #[v] w fun e w'=>∃u,e=.returned (.tuple #[u,.int .i64 (bM l)])/\(bM l=0->Wds w' w.heap.size u l)/\(bM l≠0->u=.slice none 0 0)/\Below w.heap.size w w':=
 callsIn_wide.1 (bBl 3 (aD _) v l w d)
end
section
open Go.RowKit Go Go.Shelf
def tD (l A:List Int) (k d:Nat):Value×Value:=if d<k then(.string (mkS (aI (aT (gZ l (A.getD d 0).toNat) (bL l (A.getD d 0).toNat)))),.int .i64 ((aT (gZ l (A.getD d 0).toNat) (bL l (A.getD d 0).toNat)).length:Int)) else(.string ⟨#[]⟩,.int .i64 0)
theorem bBn {l A:List Int} {k n:Nat} {y W N:Nat} (F:A[k]? =some (y:Int)) (G:W=gZ l y) (H:N=bL l y):((cY n (tD l A k)).set (k*2) (.string (mkS (aI (aT W N))))).set (k*2+1) (.int .i64 ((aT W N).length:Int))=cY n (tD l A (k+1)):=
 TB _ _ _ _ _ _ fun d _=>by
  unfold tD
  grind
def FW (l d:List Int):List (List Bool):=d.map (fun s=>aT (gZ l s.toNat) (bL l s.toNat))
theorem bBo (l d:List Int):(FW l d).flatten=gF l d:=by grind [FW,gF]
theorem bBp {w:World} {b:Nat} {l d:List Int} (h:Arr w b 79 (cY d.length (tD l d d.length))) (F:d.length<=maxLen):xV w (.slice (some ⟨b,0,none⟩) d.length d.length) (FW l d):=by
 have G:(FW l d).length=d.length:=aS ..;refine⟨some ⟨b,0,none⟩,d.length,by rw[G],by omega,F,fun _=>⟨b,0,rfl,h.lt,fun j m H=>?_⟩⟩;have A:j<d.length:=by grind
 have L:m=aT (gZ l (d.getD j 0).toNat) (bL l (d.getD j 0).toNat):=by
  unfold FW at H
  grind
 have I:=h.cell (zR _ _ j A);have J:=h.cell (zS _ _ j A);unfold tD at I J
 grind
theorem bBq (l d:List Int) (n:Nat):cY n (tD l d 0)=cY n (fun _=>(.string ⟨#[]⟩,.int .i64 0)):=by simp[wM,tD,cY]
theorem aIf (v u:Value) (l d:List Int) (w:World) (hr:RdI w v l) (hu:RdI w u d) (hE:bM l=0) (hs:∀x∈d,0<=x/\x<(l.length:Int)) (J:d.length<=10000):
  Calls pG 91 #[v,u] w fun e w'=>e=.returned (.tuple #[fT (gF l d),.int .i64 0])/\Below w.heap.size w w':=by
 have F:=gE hE;have b9:=hid (fun i (h:i<l.length)=>(lX F.1 h));have c0:=hid (fun i (h:i<l.length)=>(RD F.1 F.2 h));have d2:=F.1.2.1;have HS:=hid hs;have c2:=hid (wG F.1 d (fun x G=>hs x G));clear hs F;have a0:=Arr.new w 79 [.string ⟨#[]⟩,.int .i64 0];have d3:(w.alloc (.cells #[.string ⟨#[]⟩,.int .i64 0] 79)).heap.size=w.heap.size+1:=by simp
 have U:Below w.heap.size w (w.alloc (.cells #[.string ⟨#[]⟩,.int .i64 0] 79)):=bD (aH _ _) _;change Arr (w.alloc (.cells #[.string ⟨#[]⟩,.int .i64 0] 79)) _ _ _ at a0;go_enter func91,ntmps91;go_wp2_with fail;generalize w.alloc (.cells #[.string ⟨#[]⟩,.int .i64 0] 79)=w0 at*
 refine(bBm _ l _ (hr.below U)).mono ?_;rintro e w1 ⟨uw,rfl,H,-,A⟩;obtain⟨bw,a8,rfl,a1⟩:=H hE;rw[hE];have a9:=(hu.below U).below A;have b0:=a0.below A (by omega);have b2:=U.trans (A.mono (by omega));have d4:=A.size;obtain⟨a,ca,rfl,d5,c3,hA⟩:=a9.open;unfold maxLen at c3;clear hu a9 hr a0 U A H;go_wp2_with (at_make;refine mk2 underlying80 SY rfl rfl _ _ rfl d.length rfl rfl ?_ ?_ ?_;(omega);(omega));have a2:=Arr.new w1 79 (cY d.length (fun _=>(.string ⟨#[]⟩,.int .i64 0)));rw[<-bBq l d] at a2 ⊢
 have b3:Below w1.heap.size w1 (w1.alloc (.cells (cY d.length (tD l d 0)).toArray 79)):=bD (aH _ _) _;have d6:(w1.alloc (.cells (cY d.length (tD l d 0)).toArray 79)).heap.size=w1.heap.size+1:=by simp
 generalize w1.alloc (.cells (cY d.length (tD l d 0)).toArray 79)=w2 at*
 go_wp2_with fail
 go_loopg [9,10,25,39] d.length (fun g _s9 _s10 c4 _s39 wr=>∃k:Nat,k<=d.length/\g=d.length-k/\c4=.int .i64 (k:Int)/\Arr wr w1.heap.size 79 (cY d.length (tD l d k))/\Below w1.heap.size w1 wr/\w1.heap.size+1<=wr.heap.size)
 case atStart=>exact⟨0,aO _,rfl,rfl,a2,b3,by omega⟩
 case round=>
  clear a2 b3;obtain⟨k,hk,hg,rfl,hL,I,d7⟩:=hrel;have HG:=hid hg;clear hg
  by_cases a3:k<d.length
  ·have t1:decide ((k:Int)<(d.length:Int))=true:=aG (by omega);obtain⟨b1,o1,rfl,A,b4⟩:=hA (by omega);obtain⟨x,G⟩:=eG a3;have c1:=((pJ I).1 b1 (o1+k) A).trans (b4 k _ G);have c5:=HS.out x (cN G);obtain⟨y,rfl⟩:∃y:Nat,x=(y:Int):=⟨x.toNat,by omega⟩;have V:y<l.length:=by omega
   have a4:=a1.below I a1.lt;have d0:=a4.cell (zR _ _ y V);have d1:=a4.cell (zS _ _ y V);obtain⟨c6,b5,_⟩:=b9.out y V;have a5:=c0.out y V;unfold uU at d0 d1;obtain⟨n,J⟩:∃n,n=bL l y:=⟨_,rfl⟩;obtain⟨W,H⟩:∃W,W=gZ l y:=⟨_,rfl⟩;have HT:=hid (bBn (n:=d.length) G H J);rw[<-J,<-H] at d0 d1 a5;rw[<-J] at c6 b5;have c7:W<18446744073709551616:=fB a5 (aR (Nat.pow_le_pow_right (by decide) b5) (by decide));have u1:decide ((y:Int)<0)=false:=aE (by omega);have u2:decide ((y:Int)>=(l.length:Int))=false:=aE (by omega)
   have u3:decide ((l.length:Int)<=(y:Int))=false:=aE (by omega);have u4:decide (l.length<=y)=false:=aE (by omega);have q1:(k:Int)<(d.length:Int):=by omega
   have q2:(y:Int)<(l.length:Int):=by omega
   have Z:=fun W'=>wL [] W n W' c7 (by omega) (by decide)
   unfold fT at Z;simp only[eL] at Z;obtain⟨M,hM⟩:∃M,M=aT W n:=⟨_,rfl⟩;simp only[<-hM] at Z;rw[<-hM] at HT;clear hM;clear J H G b4 hA c5 a5 a4;go_wp2_with fail
   go_region_with (go_at_call 53;(refine(Z _).mono ?_;rintro e w3 ⟨rfl,a6⟩;have L:Arr w3 w1.heap.size 79 (cY d.length (tD l d k)):=Arr.below (w:=wr.drew) hL a6 (by show w1.heap.size<wr.heap.size;omega);have e0:=L.cell (zR _ _ k a3);have e1:=L.cell (zS _ _ k a3);have f0:=L.free (k*2);have f1:=L.free (k*2+1)))
   all_goals go_wp2_with fail
   all_goals
    have hg:=HG.out
    go_roundg (d.length-(k+1))
    case measure=>omega
    case rel=>
     have d8:wr.heap.size<=w3.heap.size:=a6.size;have a8:Below w1.heap.size w1 w3:=I.drew.trans (a6.mono (by show w1.heap.size<=wr.heap.size;omega));exact⟨k+1,by omega,rfl,by go_num,by rw[<-HT.out];exact(L.set _ _).set _ _,(a8.setCell (p:=⟨w1.heap.size,k*2,none⟩) (aD _) _).setCell (p:=⟨w1.heap.size,k*2+1,none⟩) (aD _) _,by simp;omega⟩
  ·have t1:decide ((k:Int)<(d.length:Int))=false:=aE (by omega);have c8:k=d.length:=by omega
   subst c8;have b6:=bBp hL (by simp only[maxLen];omega);have b7:=hid (bBo l d);go_wp2_with fail;refine(FC _ _ _ b6 (by rw[b7.out];have:=c2.out;omega)).mono ?_;rintro e w6 ⟨rfl,a7⟩;rw[b7.out];unfold fT;have O:=(b0.below I (by omega)).below a7 (by omega);have c9:Below w.heap.size w w6:=(b2.trans (I.mono (by omega))).trans (a7.mono (by omega));have d0:=O.cell (i:=0) rfl;have d1:=O.cell (i:=1) rfl;have f0:=O.free 0;have f1:=O.free 1;clear b0 a7 I b2 a1 hL b6;generalize b8:gF l d=m at*
   have HM:=hid b8;clear b8;go_wp2_with fail;have z0:Arr ((w6.setCell ⟨w.heap.size,0,none⟩ (.string (mkS (aI m)))).setCell ⟨w.heap.size,1,none⟩ (.int .i64 (m.length:Int))) w.heap.size 79 [.string (mkS (aI m)),.int .i64 (m.length:Int)]:=(O.set 0 _).set 1 _;refine fM (uS rfl _ _ w.heap.size _ _ (0,0) _ rfl z0 underlying79 rfl rQ) rfl ?_;exact⟨by rw[HM.out];rfl,(c9.setCell (p:=⟨w.heap.size,0,none⟩) (aD _) _).setCell (p:=⟨w.heap.size,1,none⟩) (aD _) _⟩
end
end Go.Proofs.YtihbnmlinkbnkaaGreatDoor
