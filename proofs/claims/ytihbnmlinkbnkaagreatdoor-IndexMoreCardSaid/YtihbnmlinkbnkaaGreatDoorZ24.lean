/-
  Texts put together (part 24): the walks and the plain laws on which the statement stands.
-/
import Derived.Sort.BigQuietIn
import Derived.Sort.LoopGhostIn
import Derived.Sort.QuietIn
import Derived.Sort.CutIn
import Derived.Test.YtihbnmlinkbnkaaGreatDoorZ12
import Derived.Test.YtihbnmlinkbnkaaGreatDoorZ19
set_option maxRecDepth 100000
set_option maxHeartbeats 12800000
set_option linter.unusedVariables false
set_option linter.unusedSimpArgs false
open Go.Proofs.Tryz
open Go.Proofs.Tryz renaming prog->pG
open Array renaming getElem?_eq_some_iff->fE,replicate_succ->jG,replicate_zero->jH
open Bool renaming noConfusion->vM
open Go renaming CallsIn->iV,callsIn_of_wp->pX,callsIn_of_wp_marks->xA,heap_setCell_other->kF,ownFrom_below->OD,run_takeDeferred->sE
open Go.Fence renaming wide->cZ
open Go.IntKind renaming i64->aJ,wrap_i64->aM
open Go.KeepsOthers renaming setCell->kJ
open Go.Lib renaming OthersKept->IC,byteCells->pU
open Go.OwnFrom renaming and->OC
open Go.RowKit.Below renaming refl->aH
open Go.World renaming size_alloc->fP
open List renaming append_assoc->bU,append_nil->dI,append_toArray->jJ,cons_append->fF,drop_zero->pI,flatMap_append->AV,flatMap_singleton->IQ,length_append->aL,length_cons->aU,length_drop->bA,length_eq_zero_iff->nX,length_nil->aV,length_take->aQ,nil_append->eL,push_toArray->jI,size_toArray->dB
open Nat renaming le_refl->aD,reduceAdd->cV,reduceSub->dC,sub_zero->sD
open UInt8 renaming ofNat->eA
namespace Go.Proofs.YtihbnmlinkbnkaaGreatDoor
open Go.RowKit Go Go.Shelf
attribute [local go_sem] Oper.semAt_some
def zW:Nat->List UInt8->List (List UInt8)
 |0,_=>[]
 |_+1,[]=>[]
 |f+1,c::r=>(c::r).take (bF (c::r))::zW f ((c::r).drop (bF (c::r)))
theorem aHa:∀f g s,s.length<=f->s.length<=g->zW f s=zW g s
 |0,g,s,d,A=>by
  have:s=[]:=nX.1 (by omega);subst this
  cases g<;>rfl
 |f+1,0,s,d,A=>by grind [zW]
 |f+1,g+1,[],_,_=>rfl
 |f+1,g+1,c::r,d,A=>by
  unfold zW;have:=mH (c::r) (by simp);rw[aHa f g _ (by grind) (by grind)]
def fY (s:List UInt8):List (List UInt8):=zW s.length s
theorem FR:fY []=[]:=rfl
theorem CO (s:List UInt8) (h:s≠[]):fY s=s.take (bF s)::fY (s.drop (bF s)):=by
 cases s with
 |nil=>exact absurd rfl h
 |cons c r=>
  have:=mH (c::r) h;show zW (r.length+1) (c::r)=_;unfold zW fY;rw[aHa r.length ((c::r).drop (bF (c::r))).length _ (by grind) (aD _)]
def oZ (x:List UInt8):Array Value:=#[.string (mkS x)]
theorem TY {B:Nat} {J:List (List UInt8)->World->Prop} (h:AbidesFrom B J) {s:List (List UInt8)} {A:World} (d:J s A) (k:Nat):J s (A.drewN k):=
 h s A _ none d ⟨rfl,rfl,rfl,aD _,fun _ _ _=>rfl⟩ (fun r e=>by cases e)
theorem aZ7 (n:Nat) (hn:1<=n) (l Bs n₀:Nat) (G:ByteArray) (b4:G.size<=1000000) (J:List (List UInt8)->World->Prop) (b5:∀s A v,J s A->J s (A.setCell ⟨Bs,0,none⟩ v)) (B:Nat) (a5:AbidesFrom B J)
  (hY:∀pre x W1,J pre W1->(∃r,pre++x::r=fY G.data.toList)->YieldAt cZ (n-1) pG l (oZ x) W1 fun e W'=>e=.returned (.bool true)/\J (pre++[x]) W'/\KpB n₀ Bs W1 W')
  (W:World) (hA:Arr W Bs 9 [.string G]) (h0:J [] W):
  iV cZ n pG 191 #[.func (.yield l) #[] #[],.pointer (some ⟨Bs,0,none⟩)] W fun e W'=>(∃v,e=.returned v)/\J (fY G.data.toList) W':=by
 refine pX func191 rfl trivial ?_ rfl;simp only[ntmps191,dB,aU,aV,cV,dC,jG,jH,jI,jJ,eL,fF];have e4:=hid (show ∃L,L=fY G.data.toList from⟨_,rfl⟩)
 gi_wp2_with fail
 gi_loopg [3] G.size (fun g _s3 wr=>∃(pre:List (List UInt8)) (s:ByteArray),g=s.size/\s.size<=1000000/\pre++fY s.data.toList=fY G.data.toList/\J pre wr/\Arr wr Bs 9 [.string s])
 case atStart=>exact⟨[],G,rfl,b4,rfl,h0,hA⟩
 case round=>
  obtain⟨pre,s,H,e5,M,hJ,hA⟩:=hrel;have HG:=hid H;have HP:=hid M;have U:=hid (show s.data.toList.length=s.size by simp);clear H M;have c0:=hA.cell (i:=0) rfl
  by_cases d:s.data.toList=[]
  ·have te:s.toList.isEmpty=true:=by rw[Lib.toList_data,d];rfl
   have M:=HP.out;rw[d,FR,dI] at M;have b6:=hid M;clear M HP d
   gi_wp2_with fail
   go_end0
   exact⟨⟨_,rfl⟩,by rw[<-b6.out];exact hJ⟩
  ·have b7:0<s.size:=by rw[<-U.out];exact List.length_pos_iff.2 d
   have te:s.toList.isEmpty=false:=xM d;have b8:=hid d;clear d
   gi_wp2_with fail
   gi_loopg [3] 255 (fun g s3 V=>∃k:Nat,1<=k/\k<=255/\k<=s.size/\g=256-k/\s3=.int .i64 (k:Int)/\Hid (∀j,j<k->s.data.toList[j]? =s.data.toList[0]?)/\J pre V/\Arr V Bs 9 [.string s])
   case atStart=>exact⟨1,by omega,by omega,by omega,by omega,rfl,hid (fun j hj=>by rw[show j=0 by omega]),hJ,hA⟩
   case round=>
    obtain⟨k,e6,b9,c2,H,rfl,HJ,a1,Z⟩:=hrel;have c3:=hid H;clear H c0;have c1:=Z.cell (i:=0) rfl;obtain⟨T,hT⟩:∃T:Bool,T=decide (k<s.size/\k<255/\s.data.toList[k]? =s.data.toList[0]?):=⟨_,rfl⟩;have HT:=hid hT;clear hT;obtain⟨m,b0,c4,c5⟩:=BE s.size 255 (by decide);have c6:min (s.size:Int) 255=(m:Int):=by rw[<-b0];omega
    gi_upto_region 2 with fail
    gi_cut [18,21,22,23,24,25,26,27,28,29] from 6 (fun c7 c8 c9 d1 d2 d3 d4 d5 d6 d7 V=>(c7=.bool T/\c8=u21/\c9=u22/\d1=u23/\d2=u24/\d3=u25/\d4=u26/\d5=u27/\d6=u28/\d7=u29)/\J pre V/\Arr V Bs 9 [.string s])
    case first=>
     by_cases g1:k<m
     ·have u1:decide ((k:Int)<(m:Int))=true:=aG (by omega);have g2:k<s.size:=by omega
      have e2:=fW s k g2;have e0:=fW s 0 b7
      by_cases I:s[k]=s[0]
      ·have u3:((s[k].toNat:Int)==(s[0].toNat:Int))=true:=by rw[I];simp
       have u4:decide ((s[k].toNat:Int)=(s[0].toNat:Int))=true:=aG (by rw[I]);have a0:=hid (show T=true by rw[HT.out,aG];exact⟨g2,by omega,by rw[e2,e0,I]⟩);clear I e2 e0
       gi_quiet (fail)
       gi_wp2_with fail
       gi_meet
       exact⟨⟨by rw[a0.out],rfl,rfl,rfl,rfl,rfl,rfl,rfl,rfl,rfl⟩,TY a5 a1 _,Z.drewN _⟩
      ·have d:(s[k].toNat:Int)≠(s[0].toNat:Int):=fun e=>I (UInt8.toNat_inj.1 (by omega))
       have u3:((s[k].toNat:Int)==(s[0].toNat:Int))=false:=by rw[cB];exact d
       have u4:decide ((s[k].toNat:Int)=(s[0].toNat:Int))=false:=aE d;have a0:=hid (show T=false by rw[HT.out,aE];rintro⟨_,_,O⟩;rw[e2,e0] at O;injection O with O;exact I O);clear I e2 e0 d
       gi_quiet (fail)
       gi_wp2_with fail
       gi_meet
       exact⟨⟨by rw[a0.out],rfl,rfl,rfl,rfl,rfl,rfl,rfl,rfl,rfl⟩,TY a5 a1 _,Z.drewN _⟩
     ·have u1:decide ((k:Int)<(m:Int))=false:=aE (by omega);have a0:=hid (show T=false by rw[HT.out,aE];rintro⟨h1,h2,_⟩;omega)
      gi_quiet (fail)
      gi_wp2_with fail
      gi_meet
      exact⟨⟨by rw[a0.out],rfl,rfl,rfl,rfl,rfl,rfl,rfl,rfl,rfl⟩,TY a5 a1 _,Z.drewN _⟩
    case rest=>
     obtain⟨⟨rfl,rfl,rfl,rfl,rfl,rfl,rfl,rfl,rfl,rfl⟩,b1,a6⟩:=hcut;clear b0 c6 c4 c5 c1 a1 Z
     cases T with
     |true=>
      have a2:=of_decide_eq_true HT.out.symm;have HS:=hid a2.2.2;have g1:=a2.1;have g2:=a2.2.1;clear a2
      gi_wp2_with fail
      have H:=c3.out
      gi_roundg (256-(k+1))
      case measure=>omega
      case rel=>exact⟨k+1,by omega,by omega,by omega,rfl,by go_num,hid (fun j hj=>by rcases Nat.lt_or_ge j k with h|h;exact HJ.out j h;rw[show j=k by omega];exact HS.out),b1,a6⟩
     |false=>
      have b2:=of_decide_eq_false HT.out.symm;have b3:bF s.data.toList=k:=zL b9 (by rw[U.out];exact c2) HJ.out (by
       by_cases h1:k<s.size
       ·by_cases h2:k<255
        ·exact .inr (.inr (fun O=>b2 ⟨h1,h2,O⟩))
        ·exact .inl (by omega)
       ·exact .inr (.inl (by rw[U.out];omega)))
      have a3:=CO s.data.toList b8.out;rw[b3] at a3;have d8:s.extract 0 k=mkS (s.data.toList.take k):=by rw[iW,pI,sD]
      obtain⟨F,a7⟩:∃F,F=s.extract k s.size:=⟨_,rfl⟩;have a8:F.data.toList=s.data.toList.drop k:=by
       rw[a7,iW,dP,List.take_of_length_le (by rw[bA,U.out];omega)]
      have e7:F.size=s.size-k:=by
       have:F.data.toList.length=F.size:=by simp
       rw[<-this,a8,bA,U.out]
      obtain⟨x,hx⟩:∃x,x=s.data.toList.take k:=⟨_,rfl⟩;rw[<-hx] at d8 a3;have a4:=HP.out;rw[a3] at a4;obtain⟨fn,tmps,assign,body,hy,hR⟩:=hY pre x wc b1 ⟨_,a4⟩;unfold oZ at hy;have e8:s.extract k s.size=F:=a7.symm;have d9:=hid (show(pre++[x])++fY F.data.toList=fY G.data.toList by rw[a8,bU];exact a4);have c1:=a6.cell (i:=0) rfl;clear a7 a8 hx a3 a4 b2 b3 HT;have q1:(k:Int)<=(s.size:Int):=by omega
      gi_wp2_with fail
      refine hR.mono ?_;rintro e W3 ⟨rfl,e1,e3⟩;have a9:Arr W3 Bs 9 [.string s]:=by unfold Arr;rw[e3.2];exact a6
      have d0:=a9.cell (i:=0) rfl;have f3:=a9.free 0
      gi_wp2_with fail
      have H:=HG.out
      gi_roundg F.size
      case measure=>omega
      case rel=>exact⟨pre++[x],F,rfl,by omega,d9.out,b5 _ _ _ e1,a9.set 0 _⟩
theorem aHb (n:Nat) (G:1<=n) (Bs A:Nat) (d:ByteArray) (H:d.size<=1000000) (w:World) (F:Arr w Bs 9 [.string d]):
  TU n pG 191 #[.pointer (some ⟨Bs,0,none⟩)] oZ Bs (KpB A Bs) (fY d.data.toList) w:=fun l J W I L M O U=>
 aZ7 n G l Bs A d H J M _ L O W (F.below I F.lt) U
theorem TZ (n:Nat) (d:ByteArray) (w:World):
  iV cZ n pG 126 #[.string d] w fun e w'=>e=.returned (.func (.func 191) #[] #[.pointer (some ⟨w.heap.size,0,none⟩)])/\w'=w.alloc (.cells #[.string d] 9):=by
 refine pX func126 rfl trivial ?_ rfl;simp only[ntmps126,dB,aU,aV,cV,dC,jG,jH,jI,jJ,eL,fF]
 gi_wp2
 go_ret;exact⟨rfl,rfl⟩
def pkL (x:List UInt8):List UInt8:=x.take (min x.length 4)++if 4<=x.length then[eA (x.length-4)] else[]
theorem bAn {s:List UInt8} {n:Nat} (h:n<=s.length):pP s n=pkL (s.take n):=by
 unfold pP pkL;rw[aQ,Nat.min_eq_left h,List.take_take,show min (min n 4) n=min n 4 by omega]
theorem MS:∀(k:Nat) (s:List UInt8),s.length<=k->bT s=(fY s).flatMap pkL
 |0,s,h=>by
  have:s=[]:=nX.1 (by omega);subst this;rfl
 |k+1,s,h=>by
  by_cases d:s=[]
  ·subst d;rfl
  ·have A:=mH s d;rw[CB s d,CO s d,List.flatMap_cons,bAn A.2.2,MS k _ (by rw[bA];omega)]
theorem UD:∀(k:Nat) (s:List UInt8),s.length<=k->∀x∈fY s,1<=x.length/\x.length<=255
 |0,s,h,x,d=>by
  have:s=[]:=nX.1 (by omega);subst this;rw[FR] at d;simp at d
 |k+1,s,h,x,d=>by
  by_cases A:s=[]
  ·subst A;rw[FR] at d;simp at d
  ·have F:=mH s A;rw[CO s A] at d;rcases List.mem_cons.1 d with rfl|d
   ·rw[aQ];omega
   ·exact UD k _ (by rw[bA];omega) x d
theorem aHl {d:List UInt8} {pre r:List (List UInt8)} {x:List UInt8} (h:pre++x::r=fY d):(pre.flatMap pkL).length<=2*d.length:=by
 have A:=(uM d.length d (aD _)).1;rw[MS d.length d (aD _),<-h,AV,aL] at A;omega
theorem Bld.same {w w':World} {B b:Nat} {l:List UInt8} (h:Bld w B b l) (A:∀k o,w.heap[k]? =some o->o.isCells=true->(k=b\/∃c d,o=.cells c 5 d)->w'.heap[k]? =some o):Bld w' B b l:=by
 have F:∀p,Lib.BuilderAtF 105 5 B b p (pU l) w->Lib.BuilderAtF 105 5 B b p (pU l) w':=by
  rintro p ⟨H,v,I,G,J⟩;refine⟨H,v,A b _ I rfl (.inl rfl),⟨G.1,?_⟩,J⟩;rcases G.2 with L|⟨g,cap,M,d,e,O,U,rest⟩
  ·exact .inl L
  ·exact .inr ⟨g,cap,M,d,e,O,A g _ U rfl (.inr ⟨_,_,rfl⟩),rest⟩
 exact h.elim (fun x=>.inl (F _ x)) (fun x=>.inr (F _ x))
theorem Bld.kept {w w':World} {B b:Nat} {l:List UInt8} {row:Option Nat} (h:Bld w B b l) (G:w.grownBy w' row) (H:∀r,row=some r->∃o:Obj,w.heap[r]? =some o/\o.isCells=false):Bld w' B b l:=
 h.same fun k o A F _=>(G.block k (fE.1 A).1 (fun e=>by
  obtain⟨J,d,I⟩:=H k e.symm;rw[A] at d
  injection d with d
  rw[d,I] at F;exact absurd F (by decide))).trans A
theorem Bld.setBox {w:World} {B b Bs:Nat} {l:List UInt8} (h:Bld w B b l) {x v:Value} (d:Arr w Bs 9 [x]) (F:b≠Bs):Bld (w.setCell ⟨Bs,0,none⟩ v) B b l:=
 h.same fun k o A _ G=>by
  have H:k≠Bs:=by
   rintro rfl;rcases G with e|⟨c,I,rfl⟩
   ·exact F e.symm
   ·unfold Arr at d;rw[A] at d
    injection d with d
    injection d with _ h2 _
    exact absurd h2 (by decide)
  rw[kF w ⟨Bs,0,none⟩ k v (fun e=>H e)];exact A
theorem Arr.keptB {w w':World} {b:Nat} {e:TypeId} {l:List Value} {row:Option Nat} (h:Arr w b e l) (G:w.grownBy w' row) (H:∀r,row=some r->∃o:Obj,w.heap[r]? =some o/\o.isCells=false):Arr w' b e l:=by
 have A:w.heap[b]? =some (.cells l.toArray e (0,0)):=h;show w'.heap[b]? =_;rw[G.block b h.lt (fun q=>by
  obtain⟨I,d,F⟩:=H b q.symm;rw[A] at d
  injection d with d
  rw[<-d] at F;exact vM F)]
 exact A
theorem Arr.others {w w':World} {g b:Nat} {x:Value} (h:Arr w g 9 [x]) (d:IC 5 (some b) w w') (A:g≠b):Arr w' g 9 [x]:=
 d g _ h (fun e=>A (by injection e)) (fun c F e=>by injection e with _ h2 _;exact absurd h2 (by decide))
theorem aHk {B b:Nat} {w w':World} (F:w.heap.size<=w'.heap.size) (G:IC 5 (some b) w w') (H:∀o,w.heap[b]? =some o->o.isCells=true):KeepsFrom B w w':=
 ⟨F,fun k o _ A d=>G k o A (fun e=>by injection e with e;subst e;rw[H o A] at d;exact absurd d (by decide)) (fun c I e=>by rw[e] at d;exact vM d)⟩
theorem bAo (n:Nat) (hn:3<=n) (s:ByteArray) (w:World) (O:s.size<=1000000):
  iV cZ n pG 82 #[.string s] w fun e w'=>e=.returned (.string (mkS (bT s.data.toList)))/\Below w.heap.size w w':=by
 have h1:1<=n:=by omega
 refine xA func82 rfl trivial ?_ rfl;simp only[ntmps82,dB,aU,aV,cV,dC,jG,jH,jI,jJ,eL,fF]
 gi_wp2_with fail
 refine⟨trivial,(TZ (n-1) s _).mono ?_⟩;rintro e w' ⟨rfl,rfl⟩
 gi_wp2_with fail
 have a6:=MR w;have b2:Bld ((w.alloc (.cells #[.pointer none,.slice none 0 0] 105)).alloc (.cells #[.string s] 9)) w.heap.size w.heap.size []:=a6.same fun k o hk _ _=>by rw[Below.heap_alloc _ _ _ (fE.1 hk).1];exact hk
 have U:=Arr.new (w.alloc (.cells #[.pointer none,.slice none 0 0] 105)) 9 [.string s];rw[fP] at U;change Arr ((w.alloc (.cells #[.pointer none,.slice none 0 0] 105)).alloc (.cells #[.string s] 9)) _ _ _ at U;have c0:((w.alloc (.cells #[.pointer none,.slice none 0 0] 105)).alloc (.cells #[.string s] 9)).heap.size=w.heap.size+1+1:=by simp
 have b3:Below w.heap.size w ((w.alloc (.cells #[.pointer none,.slice none 0 0] 105)).alloc (.cells #[.string s] 9)):=((aH _ w).alloc (aD _) _).alloc (by simp) _;clear a6;generalize (w.alloc (.cells #[.pointer none,.slice none 0 0] 105)).alloc (.cells #[.string s] 9)=w1 at*
 refine TV (w0:=w1) (Bs:=w.heap.size+1) h1 (gf:=191) (lb:=#[.pointer (some ⟨w.heap.size+1,0,none⟩)]) rfl (enters_of func191 (by kernel_rfl) rfl)
  (aHb (n-1) (by omega) (w.heap.size+1) w.heap.size s O w1 U) JW (QE (by omega) (by omega)) (aH _ _) (fun _=>rfl) (by omega)
  (fun pre W=>(Bld W w.heap.size w.heap.size (pre.flatMap pkL)/\∃x,Arr W (w.heap.size+1) 9 [x])/\Below w.heap.size w W)
  (OC (Own.from (fun s A B row O hg I=>⟨O.1.kept hg I,by obtain⟨x,hx⟩:=O.2;exact⟨x,hx.keptB hg I⟩⟩) _) (OD (aD _) (by omega)))
  (fun pre A v ⟨⟨h1,x,h2⟩,h3⟩=>⟨⟨h1.setBox h2 (by omega),v,h2.set 0 v⟩,h3.setCell (p:=⟨w.heap.size+1,0,none⟩) (by show w.heap.size<=w.heap.size+1;omega) _⟩)
  ⟨⟨b2,_,U⟩,b3⟩
  (fun x=>{tmps:=#[.string s,undef,.string ⟨#[]⟩,.pointer (some ⟨w.heap.size,0,none⟩),.string (mkS x),.string s,.func (.func 191) #[] #[.pointer (some ⟨w.heap.size+1,0,none⟩)],.string (mkS x),undef,undef,undef,undef,undef,undef,undef,undef,undef,undef,undef,undef,undef,undef,undef],defers:=[]}) ?assign ?body ?done
 case assign=>
  intro l x W K hK;unfold oZ
  gi_wp2
  exact hK
 case body=>
  rintro l pre x W ⟨⟨J,y,V⟩,L⟩ ⟨r,I⟩;have hx:=UD s.data.toList.length s.data.toList (aD _) x (by rw[<-I];simp);have b4:=aHl I;rw[show s.data.toList.length=s.size by simp] at b4;obtain⟨m,b5,c1,c2⟩:=BE x.length 4 (by decide);have c3:min (x.length:Int) 4=(m:Int):=by rw[<-b5];omega
  have c4:(mkS x).extract 0 m=mkS (x.take m):=by rw[iW,pI,sD,dP]
  have a1:=L.size;have hq:(m:Int)<=(x.length:Int):=by omega
  have b6:∀o,W.heap[w.heap.size]? =some o->o.isCells=true:=fun o F=>by
   rcases J with⟨_,v,G,_⟩|⟨_,v,G,_⟩
   ·rw[G] at F;injection F with F;rw[<-F];rfl
   ·rw[G] at F;injection F with F;rw[<-F];rfl
  gi_wp2_with fail
  refine⟨trivial,fun _=>by omega,((callsIn_wide.2 (UC w.heap.size w.heap.size _ (mkS (x.take m)) W J (by rw[cS,aQ];omega) a1)).inRound l).mono ?_⟩;rintro e M ⟨rfl,Z,H,a0⟩;rw[dP] at Z;have a2:=V.others a0 (by omega);have a7:=aHk (B:=w1.heap.size) H.size a0 b6;have a8:=L.trans H
  by_cases h4:4<=x.length
  ·have t1:decide ((x.length:Int)>=4)=true:=aG (by omega);have t2:decide ((4:Int)<=(x.length:Int))=true:=aG (by omega);obtain⟨d,hd⟩:∃d:Nat,d=x.length-4:=⟨_,rfl⟩;obtain⟨b,G⟩:∃b:UInt8,b=eA d:=⟨_,rfl⟩;have a3:b.toNat=d:=by rw[G,UInt8.toNat_ofNat'];omega
   have m1:aJ.wrap ((x.length:Int)-4)=(d:Int):=by rw[aM];omega
   have m2:(x.length:Int)-4=(d:Int):=by omega
   have m3:IntKind.u8.wrap (d:Int)=(b.toNat:Int):=by rw[a3,IntKind.wrap_u8];omega
   have m4:(d:Int)%256=(b.toNat:Int):=by rw[a3];omega
   have a4:=hid (show pre.flatMap pkL++x.take m++[b]=(pre++[x]).flatMap pkL by
    rw[AV,IQ,bU]
    congr 1
    unfold pkL;rw[aB h4,G,hd,show min x.length 4=m by omega])
   have b7:∀o,M.heap[w.heap.size]? =some o->o.isCells=true:=fun o F=>by
    rcases Z with⟨_,v,G,_⟩|⟨_,v,G,_⟩
    ·rw[G] at F;injection F with F;rw[<-F];rfl
    ·rw[G] at F;injection F with F;rw[<-F];rfl
   clear G a3 hd
   gi_wp2_with fail
   refine⟨trivial,fun _=>by omega,((callsIn_wide.2 (aHi w.heap.size w.heap.size _ b M Z (by rw[aL,aQ];omega) (by have:=H.size;omega))).inRound l).mono ?_⟩;rintro e W3 ⟨rfl,b8,a5,a9⟩;have b0:=a2.others a9 (by omega);have b9:=aHk (B:=w1.heap.size) a5.size a9 b7
   gi_wp2_with fail
   exact⟨a7.trans b9,⟨H.trans a5,b0.trans V.symm⟩,⟨by rw[<-a4.out];exact b8,_,b0⟩,a8.trans a5⟩
  ·have t1:decide ((x.length:Int)>=4)=false:=aE (by omega);have t2:decide ((4:Int)<=(x.length:Int))=false:=aE (by omega);have a4:=hid (show pre.flatMap pkL++x.take m=(pre++[x]).flatMap pkL by
    rw[AV,IQ]
    congr 1
    unfold pkL;rw[aA h4,dI,show min x.length 4=m by omega])
   gi_wp2_with fail
   exact⟨a7,⟨H,a2.trans V.symm⟩,⟨by rw[<-a4.out];exact Z,_,a2⟩,a8⟩
 case done=>
  rintro D W hD ⟨⟨J,y,V⟩,L⟩ hK;rw[<-MS s.data.toList.length s.data.toList (aD _)] at J;have a1:=L.size
  gi_wp2_with fail
  refine⟨trivial,(callsIn_wide.2 (MP w.heap.size w.heap.size _ W J a1)).mono ?_⟩;rintro e M ⟨rfl,_,H,a0⟩;have b1:M.heap[D]? =some (.deferred (some [])):=a0 D _ hK (fun e=>by injection e with e;omega) (fun c fz e=>by injection e)
  gi_wp2_with fail
  refine⟨by simp,.inl ⟨_,_,rfl,sE b1,?_⟩⟩;exact⟨_,results_tmp rfl _ _ _,rfl,(L.trans H).trans (belowK_b (w:=w1) (by omega) M D _ _ hD b1 rfl rfl)⟩
theorem bAp (s:ByteArray) (w:World) (d:s.size<=1000000):
  Calls pG 82 #[.string s] w fun e w'=>e=.returned (.string (mkS (bT s.data.toList)))/\Below w.heap.size w w':=
 callsIn_wide.1 (bAo 3 (aD _) s w d)
def wN (n:Nat):Nat:=if n<4 then n else 5
theorem aHm (n:Nat) (w:World):Calls pG 127 #[.int .i64 (n:Int)] w fun e w'=>e=.returned (.int .i64 (wN n:Int))/\w'=w:=by
 unfold wN
 by_cases h:n<4
 ·have t1:decide ((n:Int)<4)=true:=aG (by omega);rw[aB h];go_enter func127,ntmps127;go_wp2_with fail;go_ret;exact⟨rfl,rfl⟩
 ·have t1:decide ((n:Int)<4)=false:=aE (by omega);rw[aA h];go_enter func127,ntmps127;go_wp2_with fail;go_ret;exact⟨rfl,rfl⟩
theorem bAq (x:List UInt8):(pkL x).length=wN x.length:=by grind [pkL,wN]
def sZ (l:List (List UInt8)):Nat:=(l.flatMap pkL).length
theorem bAr (l:List (List UInt8)) (x:List UInt8):sZ (l++[x])=sZ l+wN x.length:=by simp[sZ,bAq,wN]
theorem bAs (n:Nat) (hn:3<=n) (s:ByteArray) (w:World) (G:s.size<=1000000):
  iV cZ n pG 80 #[.string s] w fun e w'=>e=.returned (.int .i64 ((bT s.data.toList).length:Int))/\Below w.heap.size w w':=by
 have J:1<=n:=by omega
 refine xA func80 rfl trivial ?_ rfl;simp only[ntmps80,dB,aU,aV,cV,dC,jG,jH,jI,jJ,eL,fF]
 gi_wp2_with fail
 refine⟨trivial,(TZ (n-1) s _).mono ?_⟩;rintro e w' ⟨rfl,rfl⟩
 gi_wp2_with fail
 have Z:=(Arr.new w 3 [.int .i64 0]).alloc (.cells #[.string s] 9);have H:=Arr.new (w.alloc (.cells #[.int .i64 0] 3)) 9 [.string s];rw[fP] at H;change Arr ((w.alloc (.cells #[.int .i64 0] 3)).alloc (.cells #[.string s] 9)) _ _ _ at H;change Arr ((w.alloc (.cells #[.int .i64 0] 3)).alloc (.cells #[.string s] 9)) _ _ _ at Z;have a6:((w.alloc (.cells #[.int .i64 0] 3)).alloc (.cells #[.string s] 9)).heap.size=w.heap.size+1+1:=by simp
 have a2:Below w.heap.size w ((w.alloc (.cells #[.int .i64 0] 3)).alloc (.cells #[.string s] 9)):=((aH _ w).alloc (aD _) _).alloc (by simp) _;generalize (w.alloc (.cells #[.int .i64 0] 3)).alloc (.cells #[.string s] 9)=w1 at*
 refine TV (w0:=w1) (Bs:=w.heap.size+1) J (gf:=191) (lb:=#[.pointer (some ⟨w.heap.size+1,0,none⟩)]) rfl (enters_of func191 (by kernel_rfl) rfl)
  (aHb (n-1) (by omega) (w.heap.size+1) w.heap.size s G w1 H) JW (QE (by omega) (by omega)) (aH _ _) (fun _=>rfl) (by omega)
  (fun pre W=>(Arr W w.heap.size 3 [.int .i64 (sZ pre:Int)]/\∃x,Arr W (w.heap.size+1) 9 [x])/\Below w.heap.size w W)
  (OC (Own.from (fun s A B row G hg F=>⟨G.1.keptB hg F,by obtain⟨x,hx⟩:=G.2;exact⟨x,hx.keptB hg F⟩⟩) _) (OD (aD _) (by omega)))
  (fun pre A v ⟨⟨J,x,h2⟩,h3⟩=>⟨⟨J.other ⟨w.heap.size+1,0,none⟩ (by simp) v,v,h2.set 0 v⟩,h3.setCell (p:=⟨w.heap.size+1,0,none⟩) (by show w.heap.size<=w.heap.size+1;omega) _⟩)
  ⟨⟨Z,_,H⟩,a2⟩
  (fun x=>{tmps:=#[.string s,undef,.pointer (some ⟨w.heap.size,0,none⟩),.string (mkS x),.string s,.func (.func 191) #[] #[.pointer (some ⟨w.heap.size+1,0,none⟩)],.string (mkS x),undef,undef,undef,undef,undef,undef],defers:=[]}) ?assign ?body ?done
 case assign=>
  intro l x W K L;unfold oZ
  gi_wp2
  exact L
 case body=>
  rintro l pre x W ⟨⟨d,y,a0⟩,I⟩ ⟨r,F⟩;have hx:=UD s.data.toList.length s.data.toList (aD _) x (by rw[<-F];simp);have M:=aHl F;rw[show s.data.toList.length=s.size by simp] at M;change sZ pre<=2*s.size at M;have a7:=I.size;have O:=d.cell (i:=0) rfl;have f0:=d.free 0;have U:=hid (bAr pre x);have a3:wN x.length<=5:=by unfold wN;split<;>omega
  obtain⟨q,hq⟩:∃q,q=wN x.length:=⟨_,rfl⟩;have a1:=fun W=>(callsIn_wide (n:=n-1-1-1)).2 (aHm x.length W)
  rw[<-hq] at a1 U a3;clear hq;obtain⟨a,ha⟩:∃a,a=sZ pre:=⟨_,rfl⟩;rw[<-ha] at U M O;obtain⟨c,hc⟩:∃c:Nat,c=a+q:=⟨_,rfl⟩;have m1:aJ.wrap ((a:Int)+(q:Int))=(c:Int):=by rw[aM];omega
  have m2:(a:Int)+(q:Int)=(c:Int):=by omega
  have m3:aJ.wrap (c:Int)=(c:Int):=by rw[aM];omega
  have HC:=hid (show sZ (pre++[x])=c by rw[U.out,hc]);clear ha hc
  gi_wp2_with fail
  gi_region_with (refine⟨trivial,fun _=>by omega,((a1 _).inRound l).mono ?_⟩;rintro e w2 ⟨rfl,rfl⟩)
  all_goals
   gi_wp2_with fail
   refine⟨((kJ W _ _).trans (KeepsOthers.drew _)).from _,⟨((aH w.heap.size W).setCell (p:=⟨w.heap.size,0,none⟩) (aD _) _).drew,kF W ⟨w.heap.size,0,none⟩ (w.heap.size+1) _ (by simp)⟩,⟨?_,y,a0.other ⟨w.heap.size,0,none⟩ (by simp) _⟩,(I.setCell (p:=⟨w.heap.size,0,none⟩) (aD _) _).drew⟩;rw[HC.out];exact d.set 0 _
 case done=>
  rintro D W hD ⟨⟨d,y,a0⟩,I⟩ L;have O:=d.cell (i:=0) rfl;have f0:=d.free 0;have HF:=hid (show sZ (fY s.data.toList)=(bT s.data.toList).length by rw[MS _ _ (aD _)];rfl)
  gi_wp2_with fail
  have V:=(kJ W ⟨w.heap.size,0,none⟩ (.int .i64 (sZ (fY s.data.toList):Int))).same D _ L rfl;refine⟨by simp,.inl ⟨_,_,rfl,sE V,?_⟩⟩;have a4:(W.setCell ⟨w.heap.size,0,none⟩ (.int .i64 (sZ (fY s.data.toList):Int))).cell? ⟨w.heap.size,0,none⟩=some (.int .i64 (sZ (fY s.data.toList):Int)):=World.cell?_setCell_same _ _ _ O;have a5:=cell_kept a4 (grownBy_putObj' _ D (.deferred none)) (fun r e=>by cases e;exact⟨_,V,rfl⟩)
  refine⟨.int .i64 (sZ (fY s.data.toList):Int),?_,by rw[HF.out],(I.setCell (p:=⟨w.heap.size,0,none⟩) (aD _) _).trans (belowK_b (w:=w1) (by omega) _ D _ _ hD V rfl rfl)⟩;simp[results,f80,go_sem,a5]
theorem bAt (s:ByteArray) (w:World) (d:s.size<=1000000):
  Calls pG 80 #[.string s] w fun e w'=>e=.returned (.int .i64 ((bT s.data.toList).length:Int))/\Below w.heap.size w w':=
 callsIn_wide.1 (bAs 3 (aD _) s w d)
end Go.Proofs.YtihbnmlinkbnkaaGreatDoor
