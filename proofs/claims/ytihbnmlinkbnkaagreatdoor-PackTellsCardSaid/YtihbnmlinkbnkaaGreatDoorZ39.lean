/-
  Texts put together (part 39): the walks and the plain laws on which the statement stands.
-/
import Derived.Test.YtihbnmlinkbnkaaGreatDoorZ25
import Derived.Test.YtihbnmlinkbnkaaGreatDoorZ37
import Derived.Test.YtihbnmlinkbnkaaGreatDoorZ38
set_option maxRecDepth 100000
set_option maxHeartbeats 12800000
set_option linter.unusedVariables false
set_option linter.unusedSimpArgs false
open Go.Proofs.Tryz
open Go.Proofs.Tryz renaming prog->pG
open Array renaming replicate_succ->jG,replicate_zero->jH
open Go renaming CallsIn->iV,belowK_b->pH,callsIn_of_wp->pX,callsIn_of_wp_marks->xA,grownBy_putObj'->kV,run_takeDeferred->sE
open Go.Fence renaming wide->cZ
open Go.IntKind renaming i64->aJ
open Go.KeepsOthers renaming setCell->kJ
open Go.RowKit renaming ownsRow_setCell_below->vL
open Go.RowKit.Below renaming refl->aH
open Go.World.ownsRow renaming kept->yJ
open List renaming append_assoc->bU,append_toArray->jJ,cons_append->fF,length->nU,length_append->aL,length_cons->aU,length_drop->bA,length_nil->aV,nil_append->eL,push_toArray->jI,size_toArray->dB
open Nat renaming le_refl->aD,le_trans->aR,reduceAdd->cV,reduceSub->dC,zero_le->aO
namespace Go.Proofs.YtihbnmlinkbnkaaGreatDoor
open Go.RowKit Go Go.Shelf
attribute [local go_sem] Oper.semAt_some
theorem bC5 {f:Nat} {s:List UInt8} {room:Nat} (h:s.length<=f):AD f s room=cJ s room:=(US f s room h).uniq (pT s room)
theorem bC6 {s:List UInt8} (h:s≠[]) (room:Nat):cJ s room=if lnP (bF s)<=room then bF s+cJ (s.drop (bF s)) (room-lnP (bF s)) else min (min room 3) (bF s):=by
 have d:=mH s h;obtain⟨m,A⟩:∃m,s.length=m+1:=⟨s.length-1,by grind⟩
 grind [cJ,AD,bC5,lnP,bF]
def GB (s:List UInt8) (room:Nat) (pre:List (List UInt8)) (r k:Nat):Prop:=cJ s room=k+cJ (s.drop k) r/\fY s=pre++fY (s.drop k)/\k<=s.length/\r<=room
theorem bC7 {s:List UInt8} {room:Nat} {pre t:List (List UInt8)} {x:List UInt8} {r k:Nat} (h:GB s room pre r k) (d:fY s=pre++x::t):
  1<=x.length/\k+x.length<=s.length/\(lnP x.length<=r->GB s room (pre++[x]) (r-lnP x.length) (k+x.length))/\(¬lnP x.length<=r->cJ s room=k+min (min r 3) x.length):=by
 obtain⟨F,A,G,H⟩:=h;have e:fY (s.drop k)=x::t:=List.append_cancel_left (A.symm.trans d);have I:s.drop k≠[]:=fun q=>by rw[q,FR] at e;cases e
 grind [mH,CO,bF,List.length_take,bA,bC6,List.drop_drop,bU,GB,fY,lnP,cJ]
theorem bC8 {s:List UInt8} {room:Nat} {pre:List (List UInt8)} {r k:Nat} (h:GB s room pre r k) (F:pre=fY s):cJ s room=k:=by
 obtain⟨d,A,-,-⟩:=h;rw[F] at A;have e:fY (s.drop k)=[]:=by
  have:=congrArg nU A;rw[aL] at this
  grind
 have G:s.drop k=[]:=by grind [CO,GB,fY,cJ]
 rw[G] at d;exact d
theorem bC9 (n:Nat) (hn:4<=n) (s:ByteArray) (room:Nat) (w:World) (hs:s.size<=1000000) (b7:room<=1000000):
  iV cZ n pG 116 #[.string s,.int .i64 (room:Int)] w fun e w'=>e=.returned (.int .i64 (cJ s.data.toList room:Int))/\Below w.heap.size w w':=by
 have h1:1<=n:=by omega
 have b3:=hid (show GB s.data.toList room [] room 0 from⟨by rw[Nat.zero_add];rfl,rfl,aO _,aD _⟩);have HL:=hid (show s.data.toList.length=s.size by simp);obtain⟨C,hC⟩:∃C,C=cJ s.data.toList room:=⟨_,rfl⟩;have HC:=hid hC;rw[<-hC];clear hC;refine xA func116 rfl trivial ?_ rfl;simp only[ntmps116,dB,aU,aV,cV,dC,jG,jH,jI,jJ,eL,fF]
 gi_wp2_with fail
 refine⟨trivial,(TZ (n-1) s _).mono ?_⟩;rintro e w' ⟨rfl,rfl⟩
 gi_wp2_with fail
 have a4:=(((Arr.new w 3 [.int .i64 (room:Int)]).alloc (.cells #[.int .i64 0] 3)).alloc (.cells #[.string s] 9));have a0:=((Arr.new (w.alloc (.cells #[.int .i64 (room:Int)] 3)) 3 [.int .i64 0]).alloc (.cells #[.string s] 9));have a1:=Arr.new ((w.alloc (.cells #[.int .i64 (room:Int)] 3)).alloc (.cells #[.int .i64 0] 3)) 9 [.string s];have a5:Below w.heap.size w (((w.alloc (.cells #[.int .i64 (room:Int)] 3)).alloc (.cells #[.int .i64 0] 3)).alloc (.cells #[.string s] 9)):=(((aH _ w).alloc (aD _) _).alloc (by simp) _).alloc (by simp;omega) _
 have b4:(((w.alloc (.cells #[.int .i64 (room:Int)] 3)).alloc (.cells #[.int .i64 0] 3)).alloc (.cells #[.string s] 9)).heap.size=w.heap.size+1+1+1:=by simp
 simp only[World.size_alloc] at a0 a1;change Arr (((w.alloc (.cells #[.int .i64 (room:Int)] 3)).alloc (.cells #[.int .i64 0] 3)).alloc (.cells #[.string s] 9)) _ _ _ at a4;change Arr (((w.alloc (.cells #[.int .i64 (room:Int)] 3)).alloc (.cells #[.int .i64 0] 3)).alloc (.cells #[.string s] 9)) _ _ _ at a0;change Arr (((w.alloc (.cells #[.int .i64 (room:Int)] 3)).alloc (.cells #[.int .i64 0] 3)).alloc (.cells #[.string s] 9)) _ _ _ at a1;generalize ((w.alloc (.cells #[.int .i64 (room:Int)] 3)).alloc (.cells #[.int .i64 0] 3)).alloc (.cells #[.string s] 9)=w1 at*
 obtain⟨z,hz⟩:∃z,z=w.heap.size:=⟨_,rfl⟩;rw[<-hz] at a4 a0 a1 a5 b4 ⊢;have HZ:=hid hz;clear hz;have b5:z+1+1+1<=w1.heap.size:=by omega
 refine UP (w0:=w1) (Ri:=eS [3] none) (Kp:=eS [9] none) (Ok:=fun _=>True) (Pre:=fun pre x=>∃r,fY s.data.toList=pre++x::r) (encs:=oZ) h1 (gf:=191) (lb:=#[.pointer (some ⟨z+1+1,0,none⟩)]) rfl (enters_of func191 (by kernel_rfl) rfl)
  (z+1+1) (by omega) (bB1 (n-1) (by omega) (z+1+1) s hs w1 a1) (aH _ _) (fun _=>rfl) (fun h k=>h.trans k) (fun _ _ h=>.of_kept h) (fun _ _ h=>.of_kept h)
  (fun pre W=>∃r k:Nat,Hid (GB s.data.toList room pre r k)/\r<=room/\k<=s.size/\Arr W z 3 [.int .i64 (r:Int)]/\Arr W (z+1) 3 [.int .i64 (k:Int)]/\Below z w W/\z+1+1+1<=W.heap.size)
  (fun c _ W=>c=.ret/\Arr W (z+1) 3 [.int .i64 (C:Int)]/\Below z w W/\z+1+1+1<=W.heap.size)
  (fun pre A B ⟨r,k,k1,G,H,F,d,J,U⟩ L hk=>⟨r,k,k1,G,H,F.below L (by omega),d.below L (by omega),J.trans (L.mono (by omega)),aR U L.size⟩)
  (fun c pre A B ⟨k1,G,H,F⟩ L hk=>⟨k1,G.below L (by omega),H.trans (L.mono (by omega)),aR F L.size⟩)
  ⟨room,0,b3,aD _,aO _,a4,a0,a5,b5⟩ (fun _ _ _=>trivial)
  (fun pre A v ⟨r,k,k1,G,H,F,d,J,U⟩=>⟨r,k,k1,G,H,F.other ⟨z+1+1,0,none⟩ (by show z+1+1≠z;omega) v,d.other ⟨z+1+1,0,none⟩ (by show z+1+1≠z+1;omega) v,J.setCell (p:=⟨z+1+1,0,none⟩) (by show z<=z+1+1;omega) v,by simpa using U⟩)
  (fun x a' _=>a'={tmps:=#[.string s,.int .i64 (room:Int),undef,.pointer (some ⟨z,0,none⟩),.pointer (some ⟨z+1,0,none⟩),.string (mkS x),undef,.string s,.func (.func 191) #[] #[.pointer (some ⟨z+1+1,0,none⟩)],.string (mkS x),undef,undef,undef,undef,undef,undef,undef,undef,undef,undef,undef,undef,undef,undef,undef,undef,undef,undef,undef,undef,undef],defers:=[]})
  (fun _ _ _ _ k _=>k) ?assign ?body ?done ?stop
 case assign=>
  rintro l0 pre x W K hI hB b8 Z;unfold oZ
  gi_wp2
  exact Z _ _ (aH _ _) rfl
 case body=>
  rintro l0 pre x a' W ⟨r,k,HQ,G,H,F,d,J,U⟩ hB ⟨t,ht⟩ rfl;obtain⟨g1,g2,g3,g4⟩:=bC7 HQ.out ht;rw[HL.out] at g2;have a2:=fun W=>(callsIn_wide (n:=n-1-1-1)).2 (aHm x.length W)
  have a6:wN x.length=lnP x.length:=rfl;rw[a6] at a2;obtain⟨q,hq⟩:∃q,q=lnP x.length:=⟨_,rfl⟩;have b9:q<=5:=by rw[hq];unfold lnP;split<;>omega
  rw[<-hq] at a2 g3 g4;have G3:=hid g3;have G4:=hid g4;have c0:=F.cell (i:=0) rfl;have f0:=F.free 0;have c1:=d.cell (i:=0) rfl;have f1:=d.free 0;clear a6 hq g3 g4 ht
  by_cases a7:q<=r
  ·have t1:decide ((q:Int)<=(r:Int))=true:=aG (by omega);obtain⟨I,a8⟩:∃I,I=r-q:=⟨_,rfl⟩;obtain⟨O,a9⟩:∃O,O=k+x.length:=⟨_,rfl⟩;have m1:aJ.wrap ((r:Int)-(q:Int))=(I:Int):=by rw[show(r:Int)-(q:Int)=(I:Int) by omega];exact lE I (by omega)
   have c2:(r:Int)-(q:Int)=(I:Int):=by omega
   have m2:aJ.wrap ((k:Int)+(x.length:Int))=(O:Int):=by rw[show(k:Int)+(x.length:Int)=(O:Int) by omega];exact lE O (by omega)
   have b0:(k:Int)+(x.length:Int)=(O:Int):=by omega
   have V:=G3.out a7;rw[<-a8,<-a9] at V;have HG:=hid V;have b1:I<=room/\O<=s.size:=by omega
   have a3:=d.other ⟨z,0,none⟩ (by show z≠z+1;omega) (.int .i64 (I:Int));have c3:=a3.cell (i:=0) rfl;have c4:=a3.free 0;clear a8 a9 V
   gi_wp2_with fail
   refine⟨trivial,fun _=>by omega,((a2 _).inRound l0).mono ?_⟩;rintro e w2 ⟨rfl,rfl⟩
   gi_wp2_with fail
   refine⟨((kJ _ _ _).trans (kJ _ _ _)).from _,(eS.box F (by decide) _).trans (eS.box a3 (by decide) _),I,O,HG,b1.1,b1.2,(F.set 0 _).other ⟨z+1,0,none⟩ (by show z+1≠z;omega) _,a3.set 0 _,(J.setCell (p:=⟨z,0,none⟩) (aD _) _).setCell (p:=⟨z+1,0,none⟩) (by show z<=z+1;omega) _,by simpa using U⟩
  ·have t1:decide ((q:Int)<=(r:Int))=false:=aE (by omega);have V:=G4.out a7;rw[<-HC.out] at V;obtain⟨M,hM⟩:∃M,M=min (min r 3) x.length:=⟨_,rfl⟩;rw[<-hM] at V;have x1:max (r:Int) 0=(r:Int):=by omega
   have x2:(if(r:Int)<=0 then 0 else(r:Int))=(r:Int):=by split<;>omega
   obtain⟨A,hA⟩:∃A,A=min r 3:=⟨_,rfl⟩;have y0:min (r:Int) 3=(A:Int):=by omega
   have y1:min (A:Int) (x.length:Int)=(M:Int):=by omega
   have y2:(if(3:Int)<(r:Int) then(3:Int) else(r:Int))=(A:Int):=by split<;>omega
   have y3:(if(r:Int)<=3 then(r:Int) else 3)=(A:Int):=by split<;>omega
   have y4:(if(A:Int)<=(x.length:Int) then(A:Int) else(x.length:Int))=(M:Int):=by split<;>omega
   have y5:(if(x.length:Int)<(A:Int) then(x.length:Int) else(A:Int))=(M:Int):=by split<;>omega
   clear hA;have m2:aJ.wrap ((k:Int)+(M:Int))=(C:Int):=by rw[show(k:Int)+(M:Int)=(C:Int) by omega];exact lE C (by omega)
   have b0:(k:Int)+(M:Int)=(C:Int):=by omega
   clear V hM
   gi_wp2_with fail
   refine⟨trivial,fun _=>by omega,((a2 _).inRound l0).mono ?_⟩;rintro e w2 ⟨rfl,rfl⟩
   gi_wp2_with fail
   all_goals
    first
     |rw[b0]
     |rw[show(k:Int)+(x.length:Int)=(C:Int) by omega]
     |rw[show(k:Int)+(A:Int)=(C:Int) by omega]
     |rw[show(k:Int)+3=(C:Int) by omega]
     |rw[show(k:Int)+(r:Int)=(C:Int) by omega]
    exact⟨(kJ _ _ _).from _,rfl,d.set 0 _,J.setCell (p:=⟨z+1,0,none⟩) (by show z<=z+1;omega) _,by simpa using U⟩
 case done=>
  rintro D xs W hD b6 ⟨r,k,HQ,G,H,F,d,J,U⟩ Z;have hk:k=C:=by rw[HC.out,bC8 HQ.out b6]
  subst hk;have c1:=d.cell (i:=0) rfl;have f1:=d.free 0;have b2:(W.setCell ⟨z+1,0,none⟩ (.int .i64 (k:Int))).heap[D]? =some (.deferred (some [])):=wP d _ D _ Z rfl
  gi_wp2_with fail
  refine⟨by simp,.inl ⟨_,_,rfl,sE b2,?_⟩⟩;have q2:=((d.set 0 (.int .i64 (k:Int))).grown (kV _ D (.deferred none)) (by simp;omega)).cell (i:=0) rfl;refine⟨.int .i64 (k:Int),?_,rfl,?_⟩
  ·simp[results,f116,go_sem,q2]
  ·rw[<-HZ.out];exact(J.setCell (p:=⟨z+1,0,none⟩) (by show z<=z+1;omega) _).trans (pH (w:=w1) (by omega) _ D _ _ hD b2 rfl rfl)
 case stop=>
  rintro D c pre W hD ⟨rfl,G,H,F⟩ Z
  gi_wp2_with fail
  refine⟨by simp,.inl ⟨_,_,rfl,sE Z,?_⟩⟩;have q2:=(G.grown (kV _ D (.deferred none)) (by simp;omega)).cell (i:=0) rfl;refine⟨.int .i64 (C:Int),?_,rfl,?_⟩
  ·simp[results,f116,go_sem,q2]
  ·rw[<-HZ.out];exact H.trans (pH (w:=w1) (by omega) _ D _ _ hD Z rfl rfl)
def KpX (Bs:Nat) (A B:World):Prop:=A.heap.size<=B.heap.size/\∀k c e d,(k=Bs\/k=Bs+1)->A.heap[k]? =some (.cells c e d)->B.heap[k]? =some (.cells c e d)
theorem KpX.trans {Bs:Nat} {A B C:World} (h:KpX Bs A B) (k:KpX Bs B C):KpX Bs A C:=by grind [KpX]
theorem KpX.of_kept {Bs:Nat} {A B:World} (h:bW none A B):KpX Bs A B:=⟨h.1,fun k _ _ _ _ d=>h.2 k _ d rfl (fun q=>by cases q)⟩
theorem KpX.arr {Bs e:Nat} {A B:World} {l:List Value} (h:KpX Bs A B) (d:Arr A Bs e l):Arr B Bs e l:=h.2 _ _ _ _ (.inl rfl) d
theorem KpX.arr1 {Bs e:Nat} {A B:World} {l:List Value} (h:KpX Bs A B) (d:Arr A (Bs+1) e l):Arr B (Bs+1) e l:=h.2 _ _ _ _ (.inr rfl) d
theorem bDc (n:Nat) (hn:5<=n) (l Bs lv:Nat) (F:ByteArray) (b6:F.size<=1000000) (d2:1<=lv) (d3:lv<=9) (J Jx:List (List UInt8)->World->Prop) (H:World) (b7:∀s A B,J s A->Below H.heap.size A B->bW none A B->J s B) (b8:∀s A v,J s A->J s (A.setCell ⟨Bs,0,none⟩ v))
  (hY:∀pre x Z,J pre Z->H.heap.size<=Z.heap.size->(∃r,fK (40*lv) F.data.toList=pre++x::r)->YieldAt cZ (n-1) pG l (oZ x) Z fun e I=>(e=.returned (.bool true)/\J (pre++[x]) I/\KpX Bs Z I)\/(e=.returned (.bool false)/\Jx (pre++[x]) I))
  (W:World) (a3:W=H) (L:Arr W Bs 9 [.string F]) (M:Arr W (Bs+1) 3 [.int .i64 (lv:Int)]) (h0:J [] W):
  iV cZ n pG 115 #[.func (.yield l) #[] #[],.pointer (some ⟨Bs,0,none⟩),.pointer (some ⟨Bs+1,0,none⟩)] W fun e I=>(∃v,e=.returned v)/\(J (fK (40*lv) F.data.toList) I\/∃pre,Jx pre I):=by
 have d4:=hid a3;have b9:H.heap.size<=W.heap.size:=by rw[a3];exact aD _
 clear a3;obtain⟨room,b3⟩:∃room,room=40*lv:=⟨_,rfl⟩;rw[<-b3] at hY ⊢;have d5:40<=room/\room<=360:=by omega
 have m1:aJ.wrap ((lv:Int)*40)=(room:Int):=by rw[show(lv:Int)*40=(room:Int) by omega];exact lE room (by omega)
 have d6:(lv:Int)*40=(room:Int):=by omega
 clear b3;refine pX func115 rfl trivial ?_ rfl;simp only[ntmps115,dB,aU,aV,cV,dC,jG,jH,jI,jJ,eL,fF]
 gi_wp2_with fail
 gi_loopg [4] F.size (fun g _s4 wr=>∃(pre:List (List UInt8)) (s:ByteArray),g=s.size/\s.size<=1000000/\pre++fK room s.data.toList=fK room F.data.toList/\J pre wr/\Arr wr Bs 9 [.string s]/\Arr wr (Bs+1) 3 [.int .i64 (lv:Int)]/\H.heap.size<=wr.heap.size)
 case atStart=>exact⟨[],F,rfl,b6,rfl,h0,L,M,b9⟩
 case round=>
  obtain⟨pre,s,hg,c2,O,hJ,L,M,a4⟩:=hrel;have HG:=hid hg;have HP:=hid O;have HL:=hid (show s.data.toList.length=s.size by simp);clear hg O;have c0:=L.cell (i:=0) rfl;have c1:=M.cell (i:=0) rfl
  by_cases G:s.data.toList=[]
  ·have te:s.toList.isEmpty=true:=by rw[Lib.toList_data,G];rfl
   have O:=HP.out;rw[G,CW,List.append_nil] at O;have c3:=hid O;clear O HP G
   gi_wp2_with fail
   go_end0
   exact⟨⟨_,rfl⟩,.inl (by rw[<-c3.out];exact hJ)⟩
  ·have d7:0<s.size:=by rw[<-HL.out];exact List.length_pos_iff.2 G
   have te:s.toList.isEmpty=false:=xM G;obtain⟨k,U⟩:∃k,k=cJ s.data.toList room:=⟨_,rfl⟩;have d8:1<=k:=by rw[U];exact AE G (by omega)
   have d9:k<=s.size:=by rw[U,<-HL.out];exact(pT _ _).1
   have a5:=fun W=>bC9 (n-1) (by omega) s room W c2 (by omega)
   rw[<-U] at a5;have a0:=vA (room:=room) (by omega) G;rw[<-U] at a0;have c4:s.extract 0 k=mkS (s.data.toList.take k):=by rw[iW,List.drop_zero,Nat.sub_zero]
   obtain⟨d,a1⟩:∃d,d=s.extract k s.size:=⟨_,rfl⟩;have a6:d.data.toList=s.data.toList.drop k:=by
    rw[a1,iW,dP,List.take_of_length_le (by rw[bA,HL.out];omega)]
   have b4:d.size=s.size-k:=by
    have:d.data.toList.length=d.size:=by simp
    rw[<-this,a6,bA,HL.out]
   obtain⟨x,hx⟩:∃x,x=s.data.toList.take k:=⟨_,rfl⟩;rw[<-hx] at c4 a0;have a2:=HP.out;rw[a0] at a2;have e1:s.extract k s.size=d:=a1.symm;have c5:=hid (show(pre++[x])++fK room d.data.toList=fK room F.data.toList by rw[a6,bU];exact a2);have c6:=hid (show ∃r,fK room F.data.toList=pre++x::r from⟨_,a2.symm⟩);have q1:(k:Int)<=(s.size:Int):=by omega
   have c7:=hid b4;clear a1 a6 hx a0 a2 U G b4 HP
   gi_wp2_with fail
   refine⟨trivial,fun _=>by omega,(a5 _).mono ?_⟩;rintro e W2 ⟨rfl,V⟩;have b5:=b7 _ _ _ hJ (V.mono a4) (bW.of_below V);have a7:=L.below V L.lt;have a8:=M.below V M.lt;have a9:=aR a4 V.size;obtain⟨fn,tmps,assign,body,hy,hR⟩:=hY pre x W2 b5 a9 c6.out;unfold oZ at hy;have d0:=a7.cell (i:=0) rfl;have d1:=a8.cell (i:=0) rfl;clear a5 hJ L M c0 c1 a4
   gi_wp2_with fail
   refine⟨fun _=>by omega,hR.mono ?_⟩;rintro e W3 (⟨rfl,b0,b1⟩|⟨rfl,b0⟩)
   rotate_left
   ·gi_wp2_with fail
    refine bodyPost_ret (results_none rfl _ _ _) rfl ?_;exact⟨⟨_,rfl⟩,.inr ⟨_,b0⟩⟩
   have b2:=b1.arr a7;have c8:=b1.arr1 a8;have e0:=b2.cell (i:=0) rfl;have f3:=b2.free 0;have c9:H.heap.size<=W3.heap.size:=aR a9 b1.1;clear b5 a7 a8 d0 d1 a9 hy hR
   gi_wp2_with fail
   have hg:=HG.out;have a1:=c7.out
   gi_roundg d.size
   case measure=>omega
   case rel=>exact⟨pre++[x],d,rfl,by omega,c5.out,b8 _ _ _ b0,b2.set 0 _,c8.other ⟨Bs,0,none⟩ (by show Bs≠Bs+1;omega) _,by simpa using c9⟩
theorem aJa (n:Nat) (H:5<=n) (Bs lv:Nat) (d:ByteArray) (I:d.size<=1000000) (L:1<=lv) (M:lv<=9) (w:World) (A:Arr w Bs 9 [.string d]) (F:Arr w (Bs+1) 3 [.int .i64 (lv:Int)]):
  UO Bs n pG 115 #[.pointer (some ⟨Bs,0,none⟩),.pointer (some ⟨Bs+1,0,none⟩)] oZ (bW none) (KpX Bs) (fun _=>True) (fun pre x=>∃r,fK (40*lv) d.data.toList=pre++x::r) (fun O=>O=fK (40*lv) d.data.toList) w:=fun l J U W G V _ _ Z hY h0=>
 (bDc n H l Bs lv d I L M J U W V Z (fun pre x W1 a b c=>hY pre x W1 a b c) W rfl (A.below G A.lt) (F.below G F.lt) h0).mono fun _ _ h=>⟨h.1,h.2.elim (fun k=>.inl ⟨_,rfl,k⟩) .inr⟩
theorem aJb (n:Nat) (d:ByteArray) (lv:Nat) (w:World):
  iV cZ n pG 70 #[.string d,.int .i64 (lv:Int)] w fun e w'=>e=.returned (.func (.func 115) #[] #[.pointer (some ⟨w.heap.size,0,none⟩),.pointer (some ⟨w.heap.size+1,0,none⟩)])/\w'=(w.alloc (.cells #[.string d] 9)).alloc (.cells #[.int .i64 (lv:Int)] 3):=by
 refine pX func70 rfl trivial ?_ rfl;simp only[ntmps70,dB,aU,aV,cV,dC,jG,jH,jI,jJ,eL,fF]
 gi_wp2_with fail
 go_ret;exact⟨rfl,rfl⟩
def txC (x:List UInt8):List Value:=[.string (mkS x)]
theorem vB (l:List (List UInt8)):oW 1 (l.map txC):=fun q d=>by
 obtain⟨p,_,rfl⟩:=List.mem_map.1 d;exact⟨rfl,fun u A=>by obtain rfl:=List.mem_singleton.1 A;rfl⟩
theorem aJc:ElR pG 22 9 1 16 (.string ⟨#[]⟩):=ElR.mk' (by kernel_rfl) underlying22 rfl (by decide) (by decide)
theorem bDd (l:List (List UInt8)):(l.map txC).flatten=oI (l.map mkS):=by
 induction l with
 |nil=>rfl
 |cons x l d=>
  rw[List.map_cons,List.flatten_cons,d];rfl
theorem RdT.of_tx {w:World} {v:Value} {l:List (List UInt8)} (h:RdR w v (l.map txC)):RdT w v (l.map mkS):=by grind [RdR,bDd,RdT,txC,mkS]
theorem bDe (n:Nat) (hn:6<=n) (Bs lv:Nat) (s:ByteArray) (w:World) (hs:s.size<=1000000) (b1:1<=lv) (b2:lv<=9) (hA:Arr w Bs 9 [.string s]) (J:Arr w (Bs+1) 3 [.int .i64 (lv:Int)]):
  iV cZ n pG 117 #[.slice none 0 0,.func (.func 115) #[] #[.pointer (some ⟨Bs,0,none⟩),.pointer (some ⟨Bs+1,0,none⟩)]] w fun e w'=>∃v,e=.returned v/\RdT w' v ((fK (40*lv) s.data.toList).map mkS)/\Below Bs w w':=by
 have h1:1<=n:=by omega
 have a5:=VD (room:=40*lv) (by omega) s.data.toList;have a6:s.data.toList.length=s.size:=by simp
 rw[a6] at a5;have b3:=J.lt;obtain⟨T,hT⟩:∃T,T=fK (40*lv) s.data.toList:=⟨_,rfl⟩;have HT:=hid hT;rw[<-hT] at a5 ⊢;clear hT a6;refine xA func117 rfl trivial ?_ rfl;simp only[ntmps117,dB,aU,aV,cV,dC,jG,jH,jI,jJ,eL,fF]
 gi_wp2_with fail
 have a1:=Arr.new w 22 [.slice none 0 0];have b4:=hA.alloc (.cells #[.slice none 0 0] 22);have b5:=J.alloc (.cells #[.slice none 0 0] 22);have b6:Below Bs w (w.alloc (.cells #[.slice none 0 0] 22)):=(aH _ w).alloc (by omega) _;have b7:(w.alloc (.cells #[.slice none 0 0] 22)).heap.size=w.heap.size+1:=by simp
 change Arr (w.alloc (.cells #[.slice none 0 0] 22)) _ _ _ at a1;generalize w.alloc (.cells #[.slice none 0 0] 22)=w1 at*
 obtain⟨y,hy⟩:∃y,y=w.heap.size:=⟨_,rfl⟩;rw[<-hy] at a1 b7 b3 ⊢;clear hy hA J;have b8:y+1<=w1.heap.size:=by omega
 have a7:=aJa (n-1) (by omega) Bs lv s hs b1 b2 w1 b4 b5;rw[<-HT.out] at a7;refine UP (w0:=w1) (Ri:=bW none) (Kp:=KpX Bs) (Ok:=fun _=>True) (Pre:=fun pre x=>∃r,T=pre++x::r) (encs:=oZ) h1 (gf:=115) (lb:=#[.pointer (some ⟨Bs,0,none⟩),.pointer (some ⟨Bs+1,0,none⟩)]) rfl (enters_of func115 (by kernel_rfl) rfl)
  Bs (by omega) a7 (aH _ _) (fun _=>rfl) (fun h k=>h.trans k) (fun _ _ h=>.of_kept h) (fun _ _ h=>h)
  (fun pre W=>(∃v,Arr W y 22 [v]/\OwR W (y+1) 9 1 v (pre.map txC))/\Below Bs w W/\y+1<=W.heap.size)
  (fun _ _ _=>False)
  (fun pre A B ⟨⟨v,F,d⟩,H,L⟩ a2 hk=>⟨⟨v,F.below a2 (by omega),eS.own (T:=[9]) (.of_kept hk) d (by decide)⟩,H.trans (a2.mono (by omega)),aR L a2.size⟩)
  (fun c pre A B k _ _=>k.elim)
  ⟨⟨_,a1,OwR.nil _ _ _ _⟩,b6,b8⟩ (fun _ _ _=>trivial)
  (fun pre A u ⟨⟨v,F,d⟩,H,L⟩=>⟨⟨v,F.other ⟨Bs,0,none⟩ (by show Bs≠y;omega) u,vL d (a:=⟨Bs,0,none⟩) (by show Bs<y+1;omega) u⟩,H.setCell (p:=⟨Bs,0,none⟩) (aD _) u,by simpa using L⟩)
  (fun x a' _=>a'={tmps:=#[.slice none 0 0,.func (.func 115) #[] #[.pointer (some ⟨Bs,0,none⟩),.pointer (some ⟨Bs+1,0,none⟩)],.pointer (some ⟨y,0,none⟩),undef,.slice none 0 0,.string (mkS x),.func (.func 115) #[] #[.pointer (some ⟨Bs,0,none⟩),.pointer (some ⟨Bs+1,0,none⟩)],.string (mkS x),undef,undef,undef,undef,undef],defers:=[]})
  (fun _ _ _ _ k _=>k) ?assign ?body ?done ?stop
 case assign=>
  rintro l0 pre x W K hI J b9 I;unfold oZ
  gi_wp2
  exact I _ _ (aH _ _) rfl
 case body=>
  rintro l0 pre x a' W ⟨⟨v,F,d⟩,H,L⟩ J ⟨r,hr⟩ rfl;have c1:pre.length+1<=40000:=by
   have h:=congrArg nU hr;rw[aL,aU] at h;omega
  obtain⟨V,Z,M,-⟩:=(OwR.rd d).open (vB pre) (by decide:1<=1);obtain⟨G,O⟩:∃G,G=(pre.map txC).length:=⟨_,rfl⟩;rw[<-O] at M;subst M;have c0:=F.cell (i:=0) rfl;clear O hr
  gi_wp2_with (gi_at_builtin;refine UY aJc rfl _ _ rfl (y+1) _ _ rfl (OwR.alloc d _) _ (txC x) rfl (Arr.new W 9 (txC x)) rfl (fun u hu=>(vB [x] _ (by simp)).2 u hu) ?_ ?_ ?_;(simp only[List.length_map];omega);(simp;omega);intro v3 W3 p1 p2 p3;(obtain⟨a3,c3,a8,-⟩:=(OwR.rd p1).open (by intro q U;rcases List.mem_append.1 U with U|U;(exact vB pre _ U);(exact vB [x] _ (by simpa using U))) (by decide:1<=1));(obtain⟨n3,a4⟩:∃n3,n3=(pre.map txC++[txC x]).length:=⟨_,rfl⟩);rw[<-a4] at a8;subst a8;(have c2:=hid a4);clear a4;(have a0:=Arr.below (Arr.alloc F (.cells (txC x).toArray 9)) p2 (by omega));(have g0:=a0.cell (i:=0) rfl);(have e0:=a0.free 0))
  change (W.alloc (.cells (txC x).toArray 9)).grownBy W3 (Value.slice V G Z).ownBlock at p3;change Below (y+1) (W.alloc (.cells (txC x).toArray 9)) W3 at p2;have c4:(W.alloc (.cells (txC x).toArray 9)).heap.size=W.heap.size+1:=by simp
  have c5:=p2.size;have a9:Below (y+1) W W3:=((aH _ W).alloc (by omega) _).trans p2;refine⟨ND (by simp;omega) (fun k o ho hc=>wP a0 _ k o (UZ (OwR.alloc d (.cells (txC x).toArray 9)) p3 k o ((Below.heap_alloc W _ k (Array.getElem?_eq_some_iff.1 ho).1).trans ho) hc) hc),⟨by simp;omega,fun k c e fz hk hc=>?_⟩,⟨_,a0.set 0 _,?_⟩,(H.trans (a9.mono (by omega))).setCell (p:=⟨y,0,none⟩) (by show Bs<=y;omega) _,by simp;omega⟩
  ·rw[heap_setCell_other W3 ⟨y,0,none⟩ k _ (fun q=>by have q:k=y:=q;omega)];exact(a9.block k (by omega)).trans hc
  ·rw[List.map_append];exact vL p1 (a:=⟨y,0,none⟩) (by show y<y+1;omega) _
 case done=>
  rintro D xs W hD b0 ⟨⟨v,F,d⟩,H,L⟩ I;obtain⟨V,Z,M,-⟩:=(OwR.rd d).open (vB xs) (by decide:1<=1);obtain⟨G,O⟩:∃G,G=(xs.map txC).length:=⟨_,rfl⟩;rw[<-O] at M;subst M;have c0:=F.cell (i:=0) rfl;have HF:=hid b0;clear O b0
  gi_wp2_with fail
  refine⟨by simp,.inl ⟨_,_,rfl,sE I,?_⟩⟩;refine⟨.slice V G Z,?_,.slice V G Z,rfl,?_,?_⟩
  ·simp[results,f117,go_sem]
  ·rw[<-HF.out];exact RdT.of_tx (OwR.rd (yJ d (kV _ D (.deferred none)) (VA d I)))
  ·exact H.trans ((pH (w:=w1) (aD _) _ D _ _ hD I rfl rfl).mono (by omega))
 case stop=>
  rintro D c pre W hD k I;exact k.elim
theorem bDf (n:Nat) (L:7<=n) (Bs lv:Nat) (s:ByteArray) (w:World) (d:s.size<=1000000) (A:1<=lv) (F:lv<=9) (G:Arr w Bs 9 [.string s]) (H:Arr w (Bs+1) 3 [.int .i64 (lv:Int)]):
  iV cZ n pG 71 #[.func (.func 115) #[] #[.pointer (some ⟨Bs,0,none⟩),.pointer (some ⟨Bs+1,0,none⟩)]] w fun e w'=>∃v,e=.returned v/\RdT w' v ((fK (40*lv) s.data.toList).map mkS)/\Below Bs w w':=by
 refine pX func71 rfl trivial ?_ rfl;simp only[ntmps71,dB,aU,aV,cV,dC,jG,jH,jI,jJ,eL,fF]
 gi_wp2_with fail
 refine⟨trivial,fun _=>by omega,(bDe (n-1) (by omega) Bs lv s w d A F G H).mono ?_⟩;rintro e w1 ⟨v,rfl,I,J⟩
 gi_wp2_with fail
 go_ret;exact⟨_,rfl,I,J⟩
end Go.Proofs.YtihbnmlinkbnkaaGreatDoor
