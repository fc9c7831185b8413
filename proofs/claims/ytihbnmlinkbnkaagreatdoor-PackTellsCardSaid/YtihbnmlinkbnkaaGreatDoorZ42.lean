/-
  Texts put together (part 42): the walks and the plain laws on which the statement stands.
-/
import Derived.Test.YtihbnmlinkbnkaaGreatDoorZ39
import Derived.Test.YtihbnmlinkbnkaaGreatDoorZ40
set_option maxRecDepth 100000
set_option maxHeartbeats 12800000
set_option linter.unusedVariables false
set_option linter.unusedSimpArgs false
open Go.Proofs.Tryz
open Go.Proofs.Tryz renaming prog->pG
open Array renaming getElem?_eq_some_iff->fE,replicate_succ->jG,replicate_zero->jH,toList_append->BD
open ByteArray renaming data_append->BC,size_append->rG
open Go renaming CallsIn->iV,callsIn_of_wp->pX,grownBy_putObj'->kV
open Go.Fence renaming wide->cZ
open Go.IntKind renaming i64->aJ
open Go.Lib renaming toList_data->pY
open Go.RowKit renaming ownsRow_setCell_below->vL
open Go.RowKit.Below renaming refl->aH
open Go.World renaming size_alloc->fP
open Go.World.ownsRow renaming kept->yJ
open Int renaming tmod_eq_emod_of_nonneg->mL
open List renaming append_toArray->jJ,cons_append->fF,length_append->aL,length_cons->aU,length_nil->aV,length_singleton->fQ,length_take->aQ,mem_cons->jQ,nil_append->eL,push_toArray->jI,size_toArray->dB
open Nat renaming le_refl->aD,reduceAdd->cV,reduceSub->dC,zero_le->aO
namespace Go.Proofs.YtihbnmlinkbnkaaGreatDoor
section
open Go.RowKit Go Go.Shelf
attribute [local go_sem] Oper.semAt_some
theorem VH (n:Nat) (lv:Int) (w:World):iV cZ n pG 69 #[.int .i64 lv] w fun e w'=>e=.returned (.bool (decide (1<=lv/\lv<=9)))/\w'=w:=by
 by_cases d:1<=lv
 ·have t1:decide (lv>=1)=true:=aG d;have F:decide (1<=lv)=true:=aG d;obtain⟨R,A⟩:∃R:Bool,R=decide (lv<=9):=⟨_,rfl⟩;have e:decide (1<=lv/\lv<=9)=R:=by rw[A];exact decide_eq_decide.2 ⟨fun h=>h.2,fun h=>⟨d,h⟩⟩
  have G:=A.symm;rw[e];clear e A;refine pX func69 rfl trivial ?_ rfl;simp only[ntmps69,dB,aU,aV,cV,dC,jG,jH,jI,jJ,eL,fF]
  gi_wp2_with fail
  go_ret;exact⟨rfl,rfl⟩
 ·have t1:decide (lv>=1)=false:=aE d;have F:decide (1<=lv)=false:=aE d;rw[show decide (1<=lv/\lv<=9)=false from aE (fun h=>d h.1)];refine pX func69 rfl trivial ?_ rfl;simp only[ntmps69,dB,aU,aV,cV,dC,jG,jH,jI,jJ,eL,fF]
  gi_wp2_with fail
  go_ret;exact⟨rfl,rfl⟩
theorem GF {lv:Nat} (d:1<=lv) (A:lv<=9) (n:Nat) (w:World):iV cZ n pG 69 #[.int .i64 (lv:Int)] w fun e w'=>e=.returned (.bool true)/\w'=w:=by grind [VH]
theorem bDq (n:Nat) (hn:6<=n) (lv:Nat) (s:ByteArray) (w:World) (hs:s.size<=1000000) (a6:1<=lv) (a7:lv<=9):
  iV cZ n pG 28 #[.string s,.int .i64 (lv:Int)] w fun e w'=>∃v,e=.returned (.tuple #[v,.int .i64 0])/\RdT w' v ((fK (40*lv) s.data.toList).map mkS)/\Below w.heap.size w w':=by
 have h1:1<=n:=by omega
 have a8:=VD (room:=40*lv) (by omega) s.data.toList;have a9:s.data.toList.length=s.size:=by simp
 rw[a9] at a8;obtain⟨T,hT⟩:∃T,T=fK (40*lv) s.data.toList:=⟨_,rfl⟩;have HT:=hid hT;rw[<-hT] at a8 ⊢;clear hT a9;refine callsIn_of_wp_marks func28 rfl trivial ?_ rfl;simp only[ntmps28,dB,aU,aV,cV,dC,jG,jH,jI,jJ,eL,fF]
 gi_wp2_with fail
 refine⟨trivial,(GF a6 a7 (n-1) _).mono ?_⟩;rintro e w' ⟨rfl,rfl⟩
 gi_wp2_with fail
 refine⟨trivial,(aJb (n-1) s lv _).mono ?_⟩;rintro e w' ⟨rfl,rfl⟩
 gi_wp2_with fail
 have a1:=(((Arr.new w 22 [.slice none 0 0]).alloc (.cells #[.string s] 9)).alloc (.cells #[.int .i64 (lv:Int)] 3));have V:=((Arr.new (w.alloc (.cells #[.slice none 0 0] 22)) 9 [.string s]).alloc (.cells #[.int .i64 (lv:Int)] 3));have Z:=Arr.new ((w.alloc (.cells #[.slice none 0 0] 22)).alloc (.cells #[.string s] 9)) 3 [.int .i64 (lv:Int)];have b0:Below w.heap.size w (((w.alloc (.cells #[.slice none 0 0] 22)).alloc (.cells #[.string s] 9)).alloc (.cells #[.int .i64 (lv:Int)] 3)):=(((aH _ w).alloc (aD _) _).alloc (by simp) _).alloc (by simp;omega) _
 have b6:(((w.alloc (.cells #[.slice none 0 0] 22)).alloc (.cells #[.string s] 9)).alloc (.cells #[.int .i64 (lv:Int)] 3)).heap.size=w.heap.size+1+1+1:=by simp
 simp only[fP] at V Z ⊢;change Arr (((w.alloc (.cells #[.slice none 0 0] 22)).alloc (.cells #[.string s] 9)).alloc (.cells #[.int .i64 (lv:Int)] 3)) _ _ _ at a1;change Arr (((w.alloc (.cells #[.slice none 0 0] 22)).alloc (.cells #[.string s] 9)).alloc (.cells #[.int .i64 (lv:Int)] 3)) _ _ _ at V;change Arr (((w.alloc (.cells #[.slice none 0 0] 22)).alloc (.cells #[.string s] 9)).alloc (.cells #[.int .i64 (lv:Int)] 3)) _ _ _ at Z;generalize ((w.alloc (.cells #[.slice none 0 0] 22)).alloc (.cells #[.string s] 9)).alloc (.cells #[.int .i64 (lv:Int)] 3)=w1 at*
 obtain⟨y,hy⟩:∃y,y=w.heap.size:=⟨_,rfl⟩;rw[<-hy] at a1 V Z b6 b0 ⊢;have HY:=hid hy;clear hy;have b7:y+1+1+1<=w1.heap.size:=by omega
 have b1:=aJa (n-1) (by omega) (y+1) lv s hs a6 a7 w1 V Z;rw[<-HT.out] at b1;refine UP (w0:=w1) (Ri:=bW none) (Kp:=KpX (y+1)) (Ok:=fun _=>True) (Pre:=fun pre x=>∃r,T=pre++x::r) (encs:=oZ) h1 (gf:=115) (lb:=#[.pointer (some ⟨y+1,0,none⟩),.pointer (some ⟨y+1+1,0,none⟩)]) rfl (enters_of func115 (by kernel_rfl) rfl)
  (y+1) (by omega) b1 (aH _ _) (fun _=>rfl) (fun h k=>h.trans k) (fun _ _ h=>.of_kept h) (fun _ _ h=>h)
  (fun pre W=>(∃v,Arr W y 22 [v]/\OwR W (y+1+1+1) 9 1 v (pre.map txC))/\Below y w W/\y+1+1+1<=W.heap.size)
  (fun _ _ _=>False)
  (fun pre A B ⟨⟨v,d,G⟩,H,L⟩ a2 hk=>⟨⟨v,d.below a2 (by omega),eS.own (T:=[9]) (.of_kept hk) G (by decide)⟩,H.trans (a2.mono (by omega)),Nat.le_trans L a2.size⟩)
  (fun c pre A B k _ _=>k.elim)
  ⟨⟨_,a1,OwR.nil _ _ _ _⟩,b0,b7⟩ (fun _ _ _=>trivial)
  (fun pre A u ⟨⟨v,d,G⟩,H,L⟩=>⟨⟨v,d.other ⟨y+1,0,none⟩ (by show y+1≠y;omega) u,vL G (a:=⟨y+1,0,none⟩) (by show y+1<y+1+1+1;omega) u⟩,H.setCell (p:=⟨y+1,0,none⟩) (by show y<=y+1;omega) u,by simpa using L⟩)
  (fun x a' _=>a'={tmps:=#[.string s,.int .i64 (lv:Int),undef,undef,.pointer (some ⟨y,0,none⟩),.int .i64 0,.string (mkS x),.int .i64 (lv:Int),.bool true,.bool false,.string s,.int .i64 (lv:Int),.func (.func 115) #[] #[.pointer (some ⟨y+1,0,none⟩),.pointer (some ⟨y+1+1,0,none⟩)],.string (mkS x),undef,undef,undef,undef,undef],defers:=[]})
  (fun _ _ _ _ k _=>k) ?assign ?body ?done ?stop
 case assign=>
  rintro l0 pre x W K hI hB b8 hK;unfold oZ
  gi_wp2
  exact hK _ _ (aH _ _) rfl
 case body=>
  rintro l0 pre x a' W ⟨⟨v,d,G⟩,H,L⟩ hB ⟨r,hr⟩ rfl;have b9:pre.length+1<=40000:=by
   have h:=congrArg List.length hr;rw[aL,aU] at h;omega
  obtain⟨I,J,M,-⟩:=(OwR.rd G).open (vB pre) (by decide:1<=1);obtain⟨F,O⟩:∃F,F=(pre.map txC).length:=⟨_,rfl⟩;rw[<-O] at M;subst M;have c0:=d.cell (i:=0) rfl;clear O hr
  gi_wp2_with (gi_at_builtin;refine UY aJc rfl _ _ rfl (y+1+1+1) _ _ rfl (OwR.alloc G _) _ (txC x) rfl (Arr.new W 9 (txC x)) rfl (fun u hu=>(vB [x] _ (by simp)).2 u hu) ?_ ?_ ?_;(simp only[List.length_map];omega);(simp;omega);intro v3 W3 p1 p2 p3;(obtain⟨a3,c3,b2,-⟩:=(OwR.rd p1).open (by intro q U;rcases List.mem_append.1 U with U|U;(exact vB pre _ U);(exact vB [x] _ (by simpa using U))) (by decide:1<=1));(obtain⟨n3,a4⟩:∃n3,n3=(pre.map txC++[txC x]).length:=⟨_,rfl⟩);rw[<-a4] at b2;subst b2;(have c1:=hid a4);clear a4;(have a0:=Arr.below (Arr.alloc d (.cells (txC x).toArray 9)) p2 (by omega));(have g0:=a0.cell (i:=0) rfl);(have e0:=a0.free 0))
  change (W.alloc (.cells (txC x).toArray 9)).grownBy W3 (Value.slice I F J).ownBlock at p3;change Below (y+1+1+1) (W.alloc (.cells (txC x).toArray 9)) W3 at p2;have c2:(W.alloc (.cells (txC x).toArray 9)).heap.size=W.heap.size+1:=by simp
  have c4:=p2.size;have b3:Below (y+1+1+1) W W3:=((aH _ W).alloc (by omega) _).trans p2;refine⟨ND (by simp;omega) (fun k o ho hc=>wP a0 _ k o (UZ (OwR.alloc G (.cells (txC x).toArray 9)) p3 k o ((Below.heap_alloc W _ k (fE.1 ho).1).trans ho) hc) hc),⟨by simp;omega,fun k c e fz hk hc=>?_⟩,⟨_,a0.set 0 _,?_⟩,(H.trans (b3.mono (by omega))).setCell (p:=⟨y,0,none⟩) (aD _) _,by simp;omega⟩
  ·rw[heap_setCell_other W3 ⟨y,0,none⟩ k _ (fun q=>by have q:k=y:=q;omega)];exact(b3.block k (by omega)).trans hc
  ·rw[List.map_append];exact vL p1 (a:=⟨y,0,none⟩) (by show y<y+1+1+1;omega) _
 case done=>
  rintro D xs W hD b4 ⟨⟨v,d,G⟩,H,L⟩ hK;obtain⟨I,J,M,-⟩:=(OwR.rd G).open (vB xs) (by decide:1<=1);obtain⟨F,O⟩:∃F,F=(xs.map txC).length:=⟨_,rfl⟩;rw[<-O] at M;subst M;have c0:=d.cell (i:=0) rfl;have f0:=d.free 0;have HF:=hid b4;have a5:(W.setCell ⟨y,0,none⟩ (.slice I F J)).heap[D]? =some (.deferred (some [])):=wP d _ D _ hK rfl;clear O b4
  gi_wp2_with fail
  refine⟨by simp,.inl ⟨_,_,rfl,run_takeDeferred a5,?_⟩⟩;have q2:=((d.set 0 (.slice I F J)).grown (kV _ D (.deferred none)) (by simp;omega)).cell (i:=0) rfl;have b5:=vL G (a:=⟨y,0,none⟩) (by show y<y+1+1+1;omega) (.slice I F J);refine⟨.tuple #[.slice I F J,.int .i64 0],?_,.slice I F J,rfl,?_,?_⟩
  ·simp[results,f28,go_sem,q2]
  ·rw[<-HF.out];exact RdT.of_tx (OwR.rd (yJ b5 (kV _ D (.deferred none)) (VA b5 a5)))
  ·rw[<-HY.out];exact(H.setCell (p:=⟨y,0,none⟩) (aD _) _).trans ((belowK_b (w:=w1) (aD _) _ D _ _ hD a5 rfl rfl).mono (by omega))
 case stop=>
  rintro D c pre W hD k hK;exact k.elim
theorem aJn (lv:Nat) (s:ByteArray) (w:World) (d:s.size<=1000000) (A:1<=lv) (F:lv<=9):
  Calls pG 28 #[.string s,.int .i64 (lv:Int)] w fun e w'=>∃v,e=.returned (.tuple #[v,.int .i64 0])/\RdT w' v ((fK (40*lv) s.data.toList).map mkS)/\Below w.heap.size w w':=
 callsIn_wide.1 (bDq 6 (aD _) lv s w d A F)
end
section
open Go.RowKit Go Go.Shelf
def pcT (lv:Nat) (s:ByteArray):List ByteArray:=(fK (40*lv) s.data.toList).map mkS
theorem aJo {α:Type} {p:List α}:∀{l:List (List α)},p∈l->p.length<=l.flatten.length
 |[],h=>by simp at h
 |x::l,h=>by
  rw[List.flatten_cons,aL];rcases jQ.1 h with rfl|h
  ·omega
  ·have:=aJo h;omega
theorem VI {lv:Nat} (G:1<=lv) (s:ByteArray):∀t∈pcT lv s,0<t.size/\lnL t.data.toList<=40*lv/\t.size<=s.size:=fun t A=>by
 obtain⟨p,d,rfl⟩:=List.mem_map.1 A;obtain⟨H,I⟩:=bDa (room:=40*lv) (by omega) s.data.toList p d;have F:=aJo d;rw[aI9 (by omega)] at F;have J:s.data.toList.length=s.size:=by simp
 rw[cS,dP]
 grind
theorem CZ {lv:Nat} (d:1<=lv) (s:ByteArray):32*(pcT lv s).length<=s.size+32:=by
 have h:=VD (room:=40*lv) (by omega) s.data.toList;have A:s.data.toList.length=s.size:=by simp
 grind [pcT]
theorem GG (lv:Nat) (s:ByteArray) (w:World) (hs:s.size<=800) (A:1<=lv) (H:lv<=9):
  Calls pG 30 #[.string s,.int .i64 (lv:Int)] w fun e w'=>e=.returned (.tuple #[.string (aZ [(lv,pcT lv s)]),.int .i64 0])/\okA [(lv,pcT lv s)]/\Below w.heap.size w w':=by
 have I:=VI A s;have a1:=CZ A s;have M:wrE (lv:Int) (pcT lv s)=0:=by
  unfold wrE;rw[aA (by omega)];refine AA (fun t J=>?_);obtain⟨f1,f2,f3⟩:=I t J;unfold lnL at f2;exact MW f1 (by omega) (by omega) (by omega)
 have a2:=fun W=>callsIn_wide.1 (GF A H 7 W)
 have a3:=fun W=>callsIn_wide.1 (aJb 7 s lv W)
 have L:=fun W F d=>callsIn_wide.1 (bDf 7 (aD _) w.heap.size lv s W (by omega) A H F d)
 rw[show(fK (40*lv) s.data.toList).map mkS=pcT lv s from rfl] at L;have O:∀W v,RdT W v (pcT lv s)->Calls pG 12 #[.int .i64 (lv:Int),v] W fun e w'=>e=.returned (.tuple #[.string (aZ [(lv,pcT lv s)]),.int .i64 0])/\okA [(lv,pcT lv s)]/\Below W.heap.size W w':=fun W v hr=>by
  refine(UN (lv:Int) v (pcT lv s) W hr (by omega) (fun t J=>by have:=(I t J).2.2;omega) (by omega) (by omega) (fun k hk G=>?_)).mono ?_
  ·have:=yC (r:=40*(lv:Int)) (by omega) ((pcT lv s).take k) G;rw[aQ] at this;omega
  ·rintro e w' (⟨-,rfl,G,hb⟩|⟨h0,-,-⟩)
   ·refine⟨?_,NF A H G,hb⟩;rw[Int.toNat_natCast];unfold aZ;rw[tU]
   ·exact absurd M h0
 have F:=(Arr.new w 9 [.string s]).alloc (.cells #[.int .i64 (lv:Int)] 3);have d:=Arr.new (w.alloc (.cells #[.string s] 9)) 3 [.int .i64 (lv:Int)];rw[fP] at d;change Arr ((w.alloc (.cells #[.string s] 9)).alloc (.cells #[.int .i64 (lv:Int)] 3)) _ _ _ at F;change Arr ((w.alloc (.cells #[.string s] 9)).alloc (.cells #[.int .i64 (lv:Int)] 3)) _ _ _ at d;have a4:Below w.heap.size w ((w.alloc (.cells #[.string s] 9)).alloc (.cells #[.int .i64 (lv:Int)] 3)):=bD (bD (aH _ _) _) _;obtain⟨R,U⟩:∃R,R=aZ [(lv,pcT lv s)]:=⟨_,rfl⟩
 obtain⟨V,Z⟩:∃V:Prop,V=okA [(lv,pcT lv s)]:=⟨_,rfl⟩;rw[<-U,<-Z] at O ⊢;have a5:=L _ F d;clear I a1 M U Z L F d;go_enter func30,ntmps30;go_wp2_with fail;refine(a2 _).mono ?_;rintro e w' ⟨rfl,rfl⟩;go_wp2_with fail;refine(a3 _).mono ?_;rintro e w' ⟨rfl,rfl⟩;go_wp2_with fail;refine a5.mono ?_;rintro e w2 ⟨v,rfl,hv,h2⟩;go_wp2_with fail;refine(O _ v hv).mono ?_;rintro e w3 ⟨rfl,G,h3⟩;go_wp2_with fail
 go_ret2
 have a0:=a4.trans h2;exact⟨rfl,G,a0.trans (h3.mono a0.size)⟩
theorem bDr (s:ByteArray) (w:World):
  Calls pG 30 #[.string s,.int .i64 0] w fun e w'=>e=.returned (.tuple #[.string ⟨#[]⟩,.int .i64 1])/\w'=w:=by
 have d:=fun W=>callsIn_wide.1 (VH 7 0 W)
 rw[show decide ((1:Int)<=0/\(0:Int)<=9)=false from by decide] at d;go_enter func30,ntmps30;go_wp2_with fail;refine(d _).mono ?_;rintro e w' ⟨rfl,rfl⟩;go_wp2_with fail
 go_ret2
 exact⟨rfl,rfl⟩
theorem VJ:(aZ ([]:List (Nat×List ByteArray))).data.toList=[]:=by
 unfold aZ;rw[dP];exact List.length_eq_zero_iff.1 (by rw[iJ];rfl)
def lvN (lv i:Nat):Nat:=(lv-1+i)%9+1
def iU (lv:Nat):Nat->List ByteArray->List (Nat×List ByteArray)
 |_,[]=>[]
 |i,t::l=>(lvN lv i,pcT (lvN lv i) t)::iU lv (i+1) l
theorem VK (lv:Nat) (x:ByteArray):∀(l:List ByteArray) (i:Nat),iU lv i (l++[x])=iU lv i l++[(lvN lv (i+l.length),pcT (lvN lv (i+l.length)) x)]
 |[],_=>rfl
 |t::l,i=>by
  show _::iU lv (i+1) (l++[x])=_::(iU lv (i+1) l++_);rw[VK lv x l,aU,show i+1+l.length=i+(l.length+1) by omega]
theorem aJp (lv:Nat) (v:Value) (l:List ByteArray) (w:World) (Z:RdT w v l) (hl:1<=l.length) (d8:l.length<=3) (J:∀t∈l,t.size<=800) (b4:1<=lv) (b5:lv<=9):
  Calls pG 32 #[.int .i64 (lv:Int),v] w fun e w'=>e=.returned (.tuple #[.string (aZ (iU lv 0 l)),.int .i64 0])/\okA (iU lv 0 l)/\Below w.heap.size w w':=by
 obtain⟨a,ca,rfl,d9,b6,hA⟩:=Z.open;unfold maxLen at b6;have a0:=fun W=>callsIn_wide.1 (GF b4 b5 7 W)
 have a1:=MR w;have a2:Below w.heap.size w (w.alloc (.cells #[.pointer none,.slice none 0 0] 105)):=bD (aH _ _) _;have n0:((l.length:Int)==0)=false:=beq_eq_false_iff_ne.2 (by omega);have b7:(l.length==0)=false:=beq_eq_false_iff_ne.2 (by omega);obtain⟨A,a3⟩:∃A,A=lv-1:=⟨_,rfl⟩;have m1:aJ.wrap ((lv:Int)-1)=(A:Int):=by rw[show(lv:Int)-1=(A:Int) by omega];exact lE A (by omega)
 have b8:(lv:Int)-1=(A:Int):=by omega
 have b9:=hid a3;have e0:A<=8:=by omega
 clear Z a3;go_enter func32,ntmps32;go_wp2_with fail;refine(a0 _).mono ?_;rintro e w ⟨rfl,rfl⟩;clear a0;go_wp2_with fail;generalize w.alloc (.cells #[.pointer none,.slice none 0 0] 105)=w2 at*
 go_loopg [7,8,9,10,21] l.length (fun g _s7 _s8 _s9 _s10 c1 wr=>∃k:Nat,k<=l.length/\g=l.length-k/\c1=.int .i64 (k:Int)/\Bld wr w.heap.size w.heap.size (aZ (iU lv 0 (l.take k))).data.toList/\Hid (okA (iU lv 0 (l.take k))/\(aZ (iU lv 0 (l.take k))).data.toList.length<=92000*k)/\Below w.heap.size w wr)
 case atStart=>exact⟨0,aO _,rfl,rfl,by rw[show(aZ (iU lv 0 (l.take 0))).data.toList=[] from VJ];exact a1,hid ⟨fun p H=>by simp[iU] at H,by rw[show(aZ (iU lv 0 (l.take 0))).data.toList=[] from VJ];exact aO _⟩,a2⟩
 case round=>
  obtain⟨k,hk,L,rfl,hor,M,I⟩:=hrel;have HG:=hid L;clear L a1 a2
  by_cases c2:k<l.length
  ·have t1:decide ((k:Int)<(l.length:Int))=true:=aG (by omega);obtain⟨b,off,rfl,hb,hc⟩:=hA (by omega);obtain⟨p,H⟩:∃p,l[k]? =some p:=⟨_,List.getElem?_eq_getElem c2⟩;have c0:=(I.cell (p:=⟨b,off+k,none⟩) hb).trans (hc k p H);have c3:=J p (List.mem_of_getElem? H);obtain⟨F,a4⟩:∃F,F=A+k:=⟨_,rfl⟩;obtain⟨G,a5⟩:∃G,G=F%9:=⟨_,rfl⟩;obtain⟨d,a6⟩:∃d,d=G+1:=⟨_,rfl⟩;have m2:aJ.wrap ((A:Int)+(k:Int))=(F:Int):=by rw[show(A:Int)+(k:Int)=(F:Int) by omega];exact lE F (by omega)
   have c4:(A:Int)+(k:Int)=(F:Int):=by omega
   have m3:aJ.wrap ((F:Int).tmod 9)=(G:Int):=by rw[mL (by omega),show(F:Int)%9=(G:Int) by omega];exact lE G (by omega)
   have c5:(F:Int)%9=(G:Int):=by omega
   have m4:aJ.wrap ((G:Int)+1)=(d:Int):=by rw[show(G:Int)+1=(d:Int) by omega];exact lE d (by omega)
   have c6:(G:Int)+1=(d:Int):=by omega
   have a7:d=lvN lv (0+(l.take k).length):=by
    unfold lvN;rw[aQ,a6,a5,a4,b9.out,Nat.zero_add,Nat.min_eq_left (by omega)]
   have O:=fun W=>GG d p W c3 (by omega) (by omega)
   have c7:=CZ (lv:=d) (by omega) p;have U:iU lv 0 (l.take (k+1))=iU lv 0 (l.take k)++[(d,pcT d p)]:=by
    rw[List.take_add_one,H];show iU lv 0 (l.take k++[p])=_;rw[VK,<-a7]
   have a8:(aZ (iU lv 0 (l.take (k+1)))).data.toList=(aZ (iU lv 0 (l.take k))).data.toList++(aZ [(d,pcT d p)]).data.toList:=by
    rw[U,<-AG,BC,BD]
   have a9:okA [(d,pcT d p)]->(aZ [(d,pcT d p)]).size<=92000:=fun h=>by
    have h2:=wQ h;have ea:(nQ [(d,pcT d p)]).length=(pcT d p).length:=by unfold nQ;simp
    rw[ea,fQ] at h2;omega
   have HT:=hid U;have V:=hid a8;have b0:=hid a9;obtain⟨X,hX⟩:∃X,X=aZ [(d,pcT d p)]:=⟨_,rfl⟩;rw[<-hX] at O V b0;have c8:=fun W hW h=>UC w.heap.size w.heap.size (aZ (iU lv 0 (l.take k))).data.toList X W hW h
   have c9:=I.size;clear a7 a4 a5 a6 U a8 a9 hX hc hA H c7 J;go_wp2_with fail;refine(O _).mono ?_;rintro e w3 ⟨rfl,b1,h3⟩;clear m1 b8 m2 c4 m3 c5 m4 c6 c0 n0 b7 t1;have d0:=b0.out b1;have hO:=M.out;have d1:X.data.toList.length=X.size:=by simp
   have d2:=hid (show okA (iU lv 0 (l.take (k+1)))/\(aZ (iU lv 0 (l.take (k+1)))).data.toList.length<=92000*(k+1) from⟨by rw[HT.out];exact NE hO.1 b1,by rw[V.out,aL];omega⟩);have d3:=hor.same (w':=w3) (fun q o b2 _ _=>by rw[h3.block _ (fE.1 b2).1];exact b2);have d4:(aZ (iU lv 0 (l.take k))).data.toList.length+X.size<=140737488355328:=by omega
   have b3:=I.trans (h3.mono c9);have e1:=b3.size;clear hO d0 d1 O hor I;go_wp2_with fail;refine(c8 _ d3 d4 (by omega)).mono ?_;rintro e w4 ⟨rfl,d5,d6,-⟩;go_wp2_with fail;have L:=HG.out
   go_roundg (l.length-(k+1))
   case measure=>omega
   case rel=>exact⟨k+1,by omega,rfl,by go_num,by rw[V.out];exact d5,d2,b3.trans d6⟩
  ·have t1:decide ((k:Int)<(l.length:Int))=false:=aE (by omega);have ht:l.take k=l:=List.take_of_length_le (by omega);rw[ht] at hor M;have J:=I.size;clear ht;go_wp2_with fail;refine(MP w.heap.size w.heap.size _ _ hor J).mono ?_;rintro e w3 ⟨rfl,-,d7,-⟩;go_wp2_with fail
   go_ret2
   exact⟨by rw[qB];rfl,M.out.1,I.trans d7⟩
theorem bDs (w:World):
  Calls pG 32 #[.int .i64 1,.slice none 0 0] w fun e w'=>e=.returned (.tuple #[.string ⟨#[]⟩,.int .i64 1])/\w'=w:=by
 have d:=fun W=>callsIn_wide.1 (GF (lv:=1) (by decide) (by decide) 7 W)
 go_enter func32,ntmps32;go_wp2_with fail;refine(d _).mono ?_;rintro e w' ⟨rfl,rfl⟩;go_wp2_with fail
 go_ret2
 exact⟨rfl,rfl⟩
theorem bDw (c n:Int) (w:World) (F: -9223372036854775808<=c) (G:c<=9223372036854775807) (H:1<=n) (I:n<=1000000000):
  Calls pG 27 #[.int .i64 c,.int .i64 n] w fun e w'=>e=.returned (.int .i64 (cK c n))/\w=w':=by
 by_cases A:c<0
 ·have d:=hid (show cK c n=(-(c+1))%n from by simp[cK,A]);go_enter func27,ntmps27;go_wp2;go_ret;exact⟨eI (by rw[d.out];rw[<-Int.neg_tmod,mL (by omega)]),rfl⟩
 ·have d:=hid (show cK c n=c%n from by simp[cK,A]);have J:0<=c:=by omega
  go_enter func27,ntmps27;go_wp2;go_ret;exact⟨eI (by rw[d.out]),rfl⟩
theorem bDx (c:Int) (A: -9223372036854775808<=c) (F:c<=9223372036854775807):∃q R:Nat,1<=R/\R<=9/\aJ.wrap (1+(q:Int))=(R:Int)/\1+(q:Int)=(R:Int)/\∀W,Calls pG 27 #[.int .i64 c,.int .i64 9] W fun e w'=>e=.returned (.int .i64 (q:Int))/\W=w':=by
 obtain⟨d,G⟩:=lN c 9 (by decide);obtain⟨q,H⟩:∃q:Nat,cK c 9=(q:Int):=⟨_,(Int.toNat_of_nonneg d).symm⟩;refine⟨q,1+q,by omega,by omega,by rw[show 1+(q:Int)=((1+q:Nat):Int) by push_cast;rfl];exact lE _ (by omega),by push_cast;rfl,fun W=>?_⟩
 grind [bDw]
theorem bDy (s:ByteArray) (v:Value) (A:List (Int×Int)) (most:Nat) (w:World) (H:RdP w v A) (I:WfP A) (hs:s.size<=100000) (hm:most<=600):
  Calls pG 26 #[.string s,v,.int .i64 (most:Int)] w fun e w'=>∃Y,e=.returned (.string Y)/\Y.size<=most/\Below w.heap.size w w':=by
 obtain⟨m,J⟩:∃m,m=min s.size most:=⟨_,rfl⟩;have y1:min (s.size:Int) (most:Int)=(m:Int):=by omega
 have y2:(if(s.size:Int)<=(most:Int) then(s.size:Int) else(most:Int))=(m:Int):=by split<;>omega
 have a1:m<=s.size/\m<=most:=by omega
 obtain⟨R,L⟩:∃R:Nat,R=most-m:=⟨_,rfl⟩;have m1:aJ.wrap ((most:Int)-(m:Int))=(R:Int):=by rw[show(most:Int)-(m:Int)=(R:Int) by omega];exact lE R (by omega)
 have a2:(most:Int)-(m:Int)=(R:Int):=by omega
 have m2:aJ.wrap (R:Int)=(R:Int):=lE R (by omega);have a3:R+m=most:=by omega
 obtain⟨X,F⟩:∃X,X=s.extract 0 m:=⟨_,rfl⟩;have a4:X.size<=m:=by rw[F];simp;omega
 have a5:=F.symm;have q1:(m:Int)<=(s.size:Int):=by omega
 have M:=fun W (h:Below w.heap.size w W/\w.heap.size<=W.heap.size)=>aBo v A R W (H.below h.1) I (by omega) (by omega)
 have a6:Below w.heap.size w w.drew/\w.heap.size<=w.drew.heap.size:=⟨(aH w.heap.size w).drew,aD _⟩;clear F J L;go_enter func26,ntmps26;go_wp2_with fail
 go_cut [6] (fun O d=>∃Y:ByteArray,O=.string Y/\Y.size<=most/\Below w.heap.size w d)
 case first=>
  go_region_held3 (fun d=>Below w.heap.size w d/\w.heap.size<=d.heap.size)
   (first
    |with_reducible assumption
    |with_reducible exact kpT (by assumption) (by assumption))
   (first
    |(go_at_call 50;with_reducible refine(M _ (by assumption)).mono ?_;rintro e w2 ⟨G,rfl,a7,h2⟩;have q3:¬9223372036854775807<X.size+G.size:=by omega))
  all_goals
   obtain⟨U,a8⟩:=(show Below w.heap.size w w2/\w.heap.size<=w2.heap.size by assumption);have V:(X++G).size<=most:=by rw[rG];omega
   go_wp2_with fail;go_meet;exact⟨_,rfl,V,U⟩
 case rest=>
  obtain⟨Y,rfl,Z,a0⟩:=hcut;go_wp2_with fail;go_ret;exact⟨_,rfl,Z,a0⟩
theorem aJt {s:ByteArray} {l:List UInt8} (h:s.data.toList=l):(s.toList==l)=true:=by rw[pY,h];simp
theorem aJu (s:ByteArray) (k:Nat):(s.extract 0 k).data.toList=s.data.toList.take k:=by simp
theorem bDz {lv:Nat} (d:1<=lv) (s:ByteArray):iH (pcT lv s)=s:=by
 have e:(pcT lv s).map (fun t=>t.data.toList)=fK (40*lv) s.data.toList:=by
  unfold pcT;rw[List.map_map];exact List.map_id _
 grind [iH,aI9,qB,pcT]
theorem bD0 {lv:Nat} (d:1<=lv) {s:ByteArray} (A:0<s.size) (h:lnL s.data.toList<=40*lv):pcT lv s=[s]:=by
 have F:s.data.toList.length=s.size:=by simp
 grind [pcT,bDb,List.length_pos_iff,mkS,qB,lnL]
theorem aJv (n:Nat) (x:List ByteArray):nQ [(n,x)]=x:=by unfold nQ;simp
theorem bD1 {lv:Nat} (d:1<=lv) {s:ByteArray} (G:s.size<=800) (o:okA [(lv,pcT lv s)]) (W:World) (A:dU W):
  Calls pG 18 #[.string (aZ [(lv,pcT lv s)])] W fun e w'=>e=.returned (.tuple #[.string s,.int .i64 0])/\Below W.heap.size W w':=by
 have F:=wQ o;have H:=CZ d s;rw[aJv,fQ] at F;have k:=CY (l:=[(lv,pcT lv s)]) (by simp) o (by omega) W A;rw[aJv,bDz d] at k;exact k
def yE:ByteArray:=⟨#[97,97,97,97,98,98,98,98,99,99,99,99]⟩
def DA:ByteArray:=⟨#[121]⟩
theorem bD2 (w:World) (hE:dU w):Calls pG 25 #[] w fun e w'=>e=.returned (.bool true)/\Below w.heap.size w w':=by
 have a0:∀W,Calls pG 30 #[.string ⟨#[]⟩,.int .i64 1] W fun e w'=>e=.returned (.tuple #[.string (aZ [(1,[])]),.int .i64 0])/\okA [(1,[])]/\Below W.heap.size W w':=fun W=>GG 1 ⟨#[]⟩ W (by decide) (by decide) (by decide)
 have a1:∀W,Calls pG 30 #[.string nR,.int .i64 9] W fun e w'=>e=.returned (.tuple #[.string (aZ [(9,pcT 9 nR)]),.int .i64 0])/\okA [(9,pcT 9 nR)]/\Below W.heap.size W w':=fun W=>GG 9 nR W (by decide) (by decide) (by decide)
 have a2:∀W,Calls pG 28 #[.string yE,.int .i64 1] W fun e w'=>∃v,e=.returned (.tuple #[v,.int .i64 0])/\RdT w' v [yE]/\Below W.heap.size W w':=fun W=>by
  have k:=aJn 1 yE W (by decide) (by decide) (by decide);have e:(fK (40*1) yE.data.toList).map mkS=[yE]:=bD0 (lv:=1) (by decide) (by decide) (by
   have:=VC yE.data.toList.length yE.data.toList (aD _);have b9:yE.data.toList.length=12:=rfl;omega)
  rw[e] at k;exact k
 have a3:=fun W=>bDs W
 have a4:=aJl 1;go_enter func25,ntmps25;go_wp2_with fail;refine(a0 _).mono ?_;rintro e w1 ⟨rfl,a6,F⟩;have G:=hE.below F;have H:∀W,dU W->Calls pG 18 #[.string (aZ [(1,[])])] W fun e w'=>e=.returned (.tuple #[.string ⟨#[]⟩,.int .i64 0])/\Below W.heap.size W w':=fun W h=>CY (l:=[(1,[])]) (by simp) a6 (by omega) W h
 obtain⟨A,I⟩:∃A,A=aZ [(1,[])]:=⟨_,rfl⟩;obtain⟨J,L⟩:∃J:ByteArray,J=⟨#[]⟩:=⟨_,rfl⟩;have c0:J.toList.isEmpty=true:=by rw[pY,L];rfl
 rw[<-I,<-L] at H;rw[<-I] at a4 ⊢;have c1:((A.size:Int)==14)=true:=by rw[a4];rfl
 clear hE a0 a6 I;go_wp2_with fail;refine(H _ G).mono ?_;rintro e w2 ⟨rfl,M⟩;have a7:=G.below M;have a8:=aW F M;clear H G F M;go_wp2_with fail;refine(a1 _).mono ?_;rintro e w3 ⟨rfl,a9,O⟩;have b0:=a7.below O;have b1:=aW a8 O;have U:=fun W h=>bD1 (lv:=9) (s:=nR) (by decide) (by decide) a9 W h
 obtain⟨Bb,V⟩:∃Bb,Bb=aZ [(9,pcT 9 nR)]:=⟨_,rfl⟩;obtain⟨T,Z⟩:∃T,T=nR:=⟨_,rfl⟩;have c2:(T.toList==[98,97,110,97,110,97])=true:=aJt (by rw[Z];rfl);rw[<-V,<-Z] at U;rw[<-V] at ⊢;clear a1 a9 V Z a7 a8 O;go_wp2_with fail;refine(U _ b0).mono ?_;rintro e w4 ⟨rfl,h4⟩;have b2:=aW b1 h4;clear U b0 b1 h4;go_wp2_with fail;refine(a2 _).mono ?_;rintro e w5 ⟨v5,rfl,b3,h5⟩;have b4:=aW b2 h5;obtain⟨a5,c5,rfl,-⟩:=b3.open;rw[fQ];clear a2 b2 h5 b3;go_wp2_with fail;refine(bDr ⟨#[]⟩ _).mono ?_;rintro e w' ⟨rfl,rfl⟩;go_wp2_with fail;refine(a3 _).mono ?_
 rintro e w' ⟨rfl,rfl⟩;clear a3;go_wp2_with fail;refine(aJp 9 (.slice (some ⟨w'.heap.size,0,none⟩) 2 2) [xS,DA] _ (uF w' 9 [.string xS,.string DA] 2 rfl (by decide)) (by decide) (by decide) (fun t ht=>by rcases jQ.1 ht with rfl|ht;(exact(by decide));(obtain rfl:=List.mem_singleton.1 ht;decide)) (by decide) (by decide)).mono ?_;rintro e w7 ⟨rfl,-,h7⟩;have b7:=aW b4 (aW (bD (aH _ _) (.cells #[.string xS,.string DA] 9)) h7);have d:aZ (iU 9 0 [xS,DA])=aZ [(9,pcT 9 xS)]++aZ [(1,pcT 1 DA)]:=by rw[AG];rfl
 obtain⟨b5,b8⟩:=NG 9 (pcT 9 xS);obtain⟨C,b6⟩:∃C,C=aZ (iU 9 0 [xS,DA]):=⟨_,rfl⟩;rw[<-b6] at d ⊢;have c3:14<=C.size:=by rw[d,rG];omega
 have c4:((C.extract 0 4).toList==[80,77,107,57])=true:=aJt (by
  rw[aJu,d,BC,BD,List.take_append_of_le_length (by simp;omega),b5];rfl)
 have t8:decide ((C.size:Int)>8)=true:=aG (by omega);have c6:decide (8<(C.size:Int))=true:=aG (by omega);have q4:(4:Int)<=(C.size:Int):=by omega
 clear d b6 b5 b8 b4 h7 L;go_wp2_with fail;go_ret;exact⟨rfl,b7⟩
end
end Go.Proofs.YtihbnmlinkbnkaaGreatDoor
