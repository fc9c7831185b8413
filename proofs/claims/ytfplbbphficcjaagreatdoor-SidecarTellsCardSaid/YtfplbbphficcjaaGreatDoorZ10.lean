/-
  Texts put together (part 10): the walks and the plain laws on which the statement stands.
-/
import Derived.Test.YtfplbbphficcjaaGreatDoorZ6
set_option maxRecDepth 100000
set_option maxHeartbeats 12800000
set_option linter.unusedVariables false
set_option linter.unusedSimpArgs false
open Go.Proofs.Tryz
open Go.Proofs.Tryz renaming prog->pG
open Go.Addr renaming add->gP
open Go.ByteArray renaming toList_eq->WU
open Go.Calls renaming quiet_of->WV
open Go.Op renaming bytesLess->sF
open Go.Oper renaming wp->nC
open Go.Region renaming wanted->qL
open Go.RowKit.Below renaming refl->aH
open Go.Value renaming int->bQ
open List renaming append_assoc->bU,append_nil->dI,drop_eq_getElem_cons->pF,drop_of_length_le->sB,getD->jD,getElem?_drop->jR,getElem?_eq_getElem->aN,length_append->aL,length_cons->aU,length_drop->bA,length_map->aS,length_nil->aV,length_take->aQ,mem_of_getElem?->cN
open Nat renaming eq_zero_or_pos->jE,le_refl->aD,le_trans->aR,zero_le->aO
namespace Go.Proofs.YtfplbbphficcjaaGreatDoor
open Go.RowKit
theorem aP7 {l:List Int} (d:∀x∈l,0<=x):dM 0 l=dig (gR 0 l)++dM 0 (l.drop (gR 0 l)):=by
 obtain⟨e,A⟩:=aAi d;rcases Nat.lt_or_ge (gR 0 l) l.length with h|h
 ·have D:=aN h
  grind [pF,dM,BL,uG,dig,gR]
 grind [BK,dM,uG,dig,gR]
theorem aP8 (v:Value) (l:List Int) (w:World) (hr:RdI w v l) (b3:0<l.length) (c4:l.length<=100000) (hv:∀x∈l,0<=x/\x<=1000000):
  Calls pG 77 #[v] w fun e w'=>∃M,e=.returned (.tuple #[M,.int .i64 0])/\OwI w' w.heap.size M (dM 0 l)/\Below w.heap.size w w':=by
 have HB:=hid (aAh v l w hr (fun x d=>(hv x d).1));obtain⟨a,ca,rfl,c5,b4,hA⟩:=hr.open;obtain⟨O,T,rfl,a3,a5⟩:=hA b3;unfold maxLen at b4;have HV:=hid hv;have HA:=hid a5;clear hr hA hv a5;go_enter func77,ntmps77;go_wp2_with fail;refine HB.out.mono ?_;rintro e D ⟨rfl,rfl⟩;clear HB;go_wp2_with fail
 go_loopg [4] l.length (fun U s4 wr=>∃k:Nat,k<=l.length/\U=l.length-k/\s4=.int .i64 k/\D=wr)
 case atStart=>exact⟨0,aO _,rfl,rfl,rfl⟩
 case round=>
 obtain⟨k,hk,h,rfl,rfl⟩:=hrel;have I:=hid h;clear h
 by_cases b5:k<l.length
 ·obtain⟨x,d⟩:=eG b5;have c1:=HA.out k x d;have b6:=HV.out x (cN d);have t1:decide (1099511627776<x)=false:=aE (by omega);clear d;go_wp2_with fail;have h:=I.out
  go_roundg (l.length-(k+1))
  case measure=>omega
  case rel=>exact⟨k+1,by omega,rfl,by go_num,rfl⟩
 ·clear I;go_wp2_with fail
  go_loopg [5,6,7] l.length (fun U s5 s6 _s7 wq=>∃(i:Nat) (F:List Int),i<=l.length/\U=l.length-i/\s6=.int .i64 i/\OwI wq D.heap.size s5 F/\Hid (F++dM 0 (l.drop i)=dM 0 l)/\F.length<=i/\Below D.heap.size D wq)
  case atStart=>exact⟨0,[],aO _,rfl,rfl,OwI.nil _ _,hid rfl,aO _,aH _ _⟩
  case round=>
  obtain⟨i,F,hi,h,rfl,a1,HP,c6,G⟩:=hrel;have I:=hid h;clear h
  by_cases c7:i<l.length
  ·obtain⟨m,V⟩:∃m,m=gR 0 (l.drop i):=⟨_,rfl⟩;have c8:m<=l.length-i:=by rw[V];have:=BK 0 (l.drop i);rwa[bA] at this
   have hz:=hid (show ∀j,j<m->∀x,l[i+j]? =some x->x=0 from fun j hj x d=>by
    have b7:(l.drop i)[j]? =some x:=by rw[jR];exact d
    have J:=DW 0 (l.drop i) x (by rw[<-V];exact cN (i:=j) (by rw[List.getElem?_take_of_lt hj];exact b7));have h2:=(HV.out x (cN d)).1;omega)
   have a6:=hid (show ∀x,l[i+m]? =some x->0<x from fun x d=>BL 0 (l.drop i) (by rw[<-V,jR];exact d));have a7:=hid (show dM 0 (l.drop i)=dig m++dM 0 (l.drop (i+m)) by rw[aP7 (fun x d=>(HV.out x (List.mem_of_mem_drop d)).1),<-V,List.drop_drop]);have c9:=(JL m).1;clear V;obtain⟨wo,rfl⟩:∃wo:World,wo=wr:=⟨_,rfl⟩;have a4:=hid (show ∀j x,l[j]? =some x->wo.cell? ⟨O,T+j,none⟩=some (.int .i64 x) from fun j x d=>by rw[G.cell (p:=⟨O,T+j,none⟩) a3];exact HA.out j x d);go_wp2_with fail
   go_loopg [7] m (fun U s7 wq=>∃n:Nat,n<=m/\U=m-n/\s7=.int .i64 n/\wo=wq)
   case atStart=>exact⟨0,aO _,rfl,rfl,rfl⟩
   case round=>
   obtain⟨n,hn,h,rfl,rfl⟩:=hrel;have a8:=hid h;clear h
   by_cases a9:n<m
   ·obtain⟨x,d⟩:=eG (l:=l) (k:=i+n) (by omega);have c1:=a4.out (i+n) x d;have a2:=hz.out n a9 x d;have t1:(x==0)=true:=by rw[beq_iff_eq];exact a2
    have t2:decide (i+n<l.length)=true:=aG (by omega);clear d a2;go_wp2_with fail;have h:=a8.out
    go_roundg (m-(n+1))
    case measure=>omega
    case rel=>exact⟨n+1,by omega,rfl,by go_num,rfl⟩
   ·obtain rfl:m=n:=by omega
    clear hn a9 a8;have d0:=G.size;have b8:(i+m=l.length/\0<m)\/(i+m<l.length/\m=0)\/(i+m<l.length/\0<m):=by omega
    rcases b8 with⟨J,h2⟩|⟨J,h2⟩|⟨J,h2⟩
    ·have t2:decide (i+m<l.length)=false:=aE (by omega);have t3:((m:Int)==0)=false:=by rw[cB];omega
     have t4:l.length<=i+m:=by omega
     have H1:=hid J;clear J;go_wp2_with fail;refine(QC m _ (by omega)).mono ?_;rintro e w2 ⟨dv,rfl,Y,A⟩;have Z:=Y.src;have b1:=A.size;have a0:=a1.below A (aD _);go_wp2_with (at_builtin;refine JT rfl _ _ rfl D.heap.size _ _ rfl a0 _ (dig m) rfl Z (by omega) (by omega) ?_;intro M w3 L H b2);have h:=I.out
     go_roundg (l.length-(i+m))
     case measure=>omega
     case rel=>
      refine⟨i+m,F++dig m,by omega,rfl,by go_num,L,hid ?_,by simp only[aL];omega,(aW G A).trans H⟩;rw[bU,<-a7.out];exact HP.out
    ·subst h2;obtain⟨x,d⟩:=eG (l:=l) (k:=i) (by omega);have c1:=a4.out i x d;have a2:=a6.out x d;have b6:=HV.out x (cN d);have t1:(x==0)=false:=by rw[cB];omega
     have t2:decide (i<l.length)=true:=aG (by omega);have HX:=hid d;have e2:=hid (show dM 0 (l.drop i)=[x+1]++dM 0 (l.drop (i+1)) by
      rw[pF (show i<l.length by omega),show l[i]=x from(List.getElem?_eq_some_iff.1 d).2,dM,aA (by omega),uG];simp)
     clear d;go_wp2_with fail;refine(QC 0 _ (by omega)).mono ?_;rintro e w2 ⟨dv,rfl,Y,A⟩;have Z:=Y.src;have b1:=A.size;have a0:=a1.below A (aD _);have c2:w2.cell? ⟨O,T+i,none⟩=some (.int .i64 x):=by
      rw[(aW G A).cell (p:=⟨O,T+i,none⟩) a3];exact HA.out i x HX.out
     go_wp2_with (first
      |(at_builtin;refine JT rfl _ _ rfl D.heap.size _ _ rfl a0 _ (dig 0) rfl Z (by simp only[uG,aV];omega) (by omega) ?_;intro M w3 L H b2;(rw[uG,dI] at L);(have c3:=(H.cell (p:=⟨O,T+i,none⟩) a3).trans c2);(have d1:=H.size))
      |(at_builtin;refine gK rfl _ _ rfl D.heap.size _ _ rfl (OwI.alloc L _) w3.heap.size (x+1) rfl ?_ ?_ ?_ ?_;(exact bX _ _ _);omega;(simp;omega);intro v4 w4 b9 c0 d2))
     have h:=I.out
     go_roundg (l.length-(i+1))
     case measure=>omega
     case rel=>
      refine⟨i+1,F++[x+1],by omega,rfl,by go_num,b9,hid ?_,by simp only[aL,List.length_singleton];omega,(((aW G A).trans H).alloc (by omega) _).trans c0⟩;rw[bU,<-e2.out];exact HP.out
    ·have t2:decide (i+m<l.length)=true:=aG (by omega);obtain⟨x,d⟩:=eG J;have c1:=a4.out (i+m) x d;have a2:=a6.out x d;have t1:(x==0)=false:=by rw[cB];omega
     have t3:((m:Int)==0)=false:=by rw[cB];omega
     clear d;go_wp2_with fail;refine(QC m _ (by omega)).mono ?_;rintro e w2 ⟨dv,rfl,Y,A⟩;have Z:=Y.src;have b1:=A.size;have a0:=a1.below A (aD _);go_wp2_with (at_builtin;refine JT rfl _ _ rfl D.heap.size _ _ rfl a0 _ (dig m) rfl Z (by omega) (by omega) ?_;intro M w3 L H b2);have h:=I.out
     go_roundg (l.length-(i+m))
     case measure=>omega
     case rel=>
      refine⟨i+m,F++dig m,by omega,rfl,by go_num,L,hid ?_,by simp only[aL];omega,(aW G A).trans H⟩;rw[bU,<-a7.out];exact HP.out
  ·go_wp2_with fail
   go_ret2
   refine⟨_,rfl,?_,G⟩;have:=HP.out;rw[sB (by omega)] at this;simp only[dM,uG,dI] at this;rw[<-this];exact a1
theorem uK {D:Array Oper} {o:Oper} {a:Act} {K:Act->World->Prop} {Q:Exit->Act->World->Prop} {E:Prop} {w:World} (H:o.guard=none) (s x:Operand)
  (I:o.op=.call {callee:=.builtin .append,args:=#[s,x],argTypes:=#[55,55]}) (base:Nat) (v:Value) (l:List Int) (hs:a.eval s=v) (hown:OwI w base v l)
  (ad:Addr) (m c:Nat) (new:List Int) (hx:a.eval x=.slice (some ad) m c) (hl:new.length=m) (hnews:∀j y,new[j]? =some y->w.cell? (ad.add j)=some (.int .i64 y)) (hroom:(l.length+m)*8<=140737488355328) (hbase:base<=w.heap.size)
  (h:∀e w',OwI w' base e (l++new)->Below base w w'->w.grownBy w' v.ownBlock->K (a.put o.dst e) w'):if qL o (yielded D a.tmps)=true then nC pG o a w K Q else E:=by
 have J:qL o (yielded D a.tmps)=true:=by simp[qL,H]
 rw[aB J];obtain⟨i,L,M,O,T⟩:=jL.info;have U:(bQ .i64 0).cells.size=1:=by rw[jL.cells];rfl
 have F:w.ownsRow base 3 1 v l.length (l.map (bQ .i64)):=by have:=hown;unfold OwI Ow at this;rwa[aS] at this
 refine wp_append_own w s x _ I base 3 i _ 1 8 jL.under L M O T U (by decide) v l.length _ hs F ad m c (new.map (bQ .i64)) hx (by simp[hl]) ?_ ?_ (by simp only[maxLen];omega) hroom hbase (fun e w' V G _=>h e w' ?_ (rJ F G hbase) G)
 ·intro j u d;rw[List.getElem?_map] at d
  cases A:new[j]? with
  |none=>rw[A] at d;simp at d
  |some y=>rw[A] at d;simp at d;subst d;exact hnews j y A
 ·intro u d;obtain⟨y,_,rfl⟩:=List.mem_map.1 d;rfl
 ·unfold OwI Ow;rw[List.map_append];rw[aL,aS,aS,hl];exact V
theorem aA1 {d:Array Oper} {o:Oper} {a:Act} {K:Act->World->Prop} {Q:Exit->Act->World->Prop} {E:Prop} {w:World} (e:o.guard=none) (s x:Operand)
  (A:o.op=.call {callee:=.builtin .append,args:=#[s,x],argTypes:=#[55,55]}) (base:Nat) (v:Value) (l:List Int) (hs:a.eval s=v) (hown:OwI w base v l)
  (hx:a.eval x=.slice none 0 0)
  (h:K (a.put o.dst v) w):if qL o (yielded d a.tmps)=true then nC pG o a w K Q else E:=by
 have D:qL o (yielded d a.tmps)=true:=by simp[qL,e]
 rw[aB D];obtain⟨i,F,_,_,_⟩:=jL.info;have G:w.ownsRow base 3 1 v l.length (l.map (bQ .i64)):=by have:=hown;unfold OwI Ow at this;rwa[aS] at this
 have H:=run_append_owned_none (P:=pG) (w:=w) base _ o.type 3 i 1 jL.under F v l.length _ G;unfold nC;simp[execOp,A,resolve,invoke,builtin,hs,hx,H,Result.andThen];exact h
theorem aA2 (b off j:Nat):(⟨b,off,none⟩:Addr).add j=⟨b,off+j,none⟩:=by unfold gP;split<;>simp_all
theorem EG {wr w:World} {b off:Nat} {L:List Int} (d:b<wr.heap.size) (A:∀j x,L[j]? =some x->wr.cell? ⟨b,off+j,none⟩=some (.int .i64 x)) (h:Below wr.heap.size wr w/\wr.heap.size<=w.heap.size) (n:Nat):
  (∀j y,(L.take n)[j]? =some y->w.cell? ((⟨b,off,none⟩:Addr).add j)=some (.int .i64 y))/\(∀j y,(L.drop n)[j]? =some y->w.cell? ((⟨b,off+n,none⟩:Addr).add j)=some (.int .i64 y)):=by
 refine⟨fun j y e=>?_,fun j y e=>?_⟩
 ·rw[aA2,h.1.cell (p:=⟨b,off+j,none⟩) d]
  grind
 ·rw[aA2,h.1.cell (p:=⟨b,off+n+j,none⟩) d]
  grind
theorem BR {B:Nat} {w0 d e:World} (h:Below B w0 d/\B<=d.heap.size) (A:Below B d e):Below B w0 e/\B<=e.heap.size:=⟨h.1.trans A,aR h.2 A.size⟩
theorem zE {B:Nat} {w0 d:World} (h:Below B w0 d/\B<=d.heap.size) (o:Obj):Below B w0 (d.alloc o)/\B<=(d.alloc o).heap.size:=⟨h.1.alloc h.2 o,aR h.2 (by simp)⟩
theorem JY {B:Nat} {w0 d:World} (h:Below B w0 d) (e:B<=d.heap.size) (n:Nat):Below B w0 (d.drewN n).drew/\B<=(d.drewN n).drew.heap.size:=⟨(kY h n).drew,e⟩
theorem JZ {B:Nat} {w0 d:World} (h:Below B w0 d) (e:B<=d.heap.size) (n:Nat) (o:Obj):Below B w0 ((d.drewN n).alloc o)/\B<=((d.drewN n).alloc o).heap.size:=zE ⟨kY h n,e⟩ o
theorem KA {W w':World} {p:Addr} {v:Value} (e:W.grownBy w' none) (d:W.cell? p=some v):w'.cell? p=some v:=by
 rw[<-d];exact World.cell?_of_block (w:=W) (e.block p.block (World.block_lt_of_cell? W p d) (by simp))
theorem xL {w:World} {g:Nat} {x:Int} (h:w.cell? ⟨g,0,none⟩=some (.int .i64 x)):∀j y,[x][j]? =some y->w.cell? ((⟨g,0,none⟩:Addr).add j)=some (.int .i64 y):=by
 intro j y d
 cases j with
 |zero=>simp at d;subst d;simpa [gP] using h
 |succ j=>simp at d
theorem aQk (s:ByteArray) (w:World) (hn:s.size<=1000000):
  Calls pG 90 #[.string s] w fun e w'=>∃v o,e=.returned v/\Ord (cQ s) s.size s.size o/\OwI w' w.heap.size v (iY s.size o)/\Below w.heap.size w w':=by
 go_enter func90,ntmps90;go_wp2_with fail
 go_loopg [3,4,5] s.size (fun gh s3 s4 _s5 wr=>∃(k:Nat) (L:List Int),k<=s.size/\gh=s.size-k/\s4=.int .i64 k/\OwI wr w.heap.size s3 L/\Hid (L.length=k/\(∀x∈L,0<=x/\x<(k:Int))/\L.Pairwise (bef (cQ s) s.size))/\(k=0->s3=.slice none 0 0)/\Below w.heap.size w wr)
 case atStart=>exact⟨0,[],aO _,rfl,rfl,OwI.nil _ _,hid ⟨rfl,fun x D=>by simp at D,List.Pairwise.nil⟩,fun _=>rfl,aH _ _⟩
 case round=>
  obtain⟨k,L,hk,H,rfl,a2,G,a9,F⟩:=hrel;have HG:=hid H;have c3:=hid a9;clear H a9
  by_cases c4:k<s.size
  ·obtain⟨va,cap,rfl,c5,c6,M⟩:=a2.rd.open;rw[G.out.1] at c5 M ⊢;unfold maxLen at c6;have HA:=hid M;have d4:=hid a2;clear M a2;obtain⟨d,rfl⟩:∃d:World,d=wr:=⟨_,rfl⟩;go_wp2_with fail
   go_loopg [5] k (fun gh s5 wr=>∃j:Nat,j<=k/\gh=j/\s5=.int .i64 j/\Hid (∀x∈L.drop j,bef (cQ s) s.size (k:Int) x)/\Below d.heap.size d wr)
   case atStart=>exact⟨k,aD _,rfl,rfl,hid (fun x D=>by rw[sB (by rw[G.out.1];exact aD _)] at D;simp at D),aH _ _⟩
   case round=>
    obtain⟨j,hj,H,rfl,HD,h⟩:=hrel;have c7:=hid H;clear H;rcases jE j with U|U
    ·have t1:decide (0<j)=false:=aE (by omega);have HT:=hid (show ∀x∈L.take j,bef (cQ s) s.size x (k:Int) from fun x D=>by rw[U] at D;simp at D);have b0:=hid U;clear U;go_wp2_with fail
     go_quiet (fail)
     go_wp2_with fail;rcases jE k with a0|a0
     ·have b1:=c3.out a0;rw[Value.slice.injEq] at b1;obtain⟨rfl,_,rfl⟩:=b1;have d5:L=[]:=List.eq_nil_of_length_eq_zero (by rw[G.out.1];exact a0);subst a0;have c8:j=0:=b0.out;subst c8
      go_region_held3 (fun w'=>Below d.heap.size d w'/\d.heap.size<=w'.heap.size)
       (first
        |with_reducible assumption
        |with_reducible exact zE (by assumption) _
        |with_reducible exact BR (by assumption) (by assumption)
        |with_reducible exact JY h h.size _
        |with_reducible exact JZ h h.size _ _)
       (first
        |(refine aA1 rfl _ _ rfl d.heap.size (.slice none 0 0) [] rfl (OwI.nil _ _) rfl ?_)
        |(refine uK rfl _ _ rfl d.heap.size _ [] rfl (OwI.nil _ _) ⟨_,0,none⟩ 1 1 [((0:Nat):Int)] rfl rfl ?_ ?_ ?_ ?_;(first|exact xL (bX _ _ _)|exact xL (KA (by assumption) (by exact bX _ _ _)));(simp only[aV];omega);(exact(show Below d.heap.size d _/\d.heap.size<=_ by assumption).2);intro v2 w2 a3 a7 a4)
        |(refine aA1 rfl _ _ rfl d.heap.size _ ([]++[((0:Nat):Int)]) rfl (by assumption) rfl ?_))
      all_goals go_wp2_with fail
      all_goals
       have H:=HG.out
       go_roundg (s.size-(0+1))
       case measure=>omega
       case rel=>
        have O:Below d.heap.size d _/\d.heap.size<=_:=(show Below d.heap.size d w2/\d.heap.size<=w2.heap.size by assumption);refine⟨0+1,[((0:Nat):Int)],by omega,rfl,by go_num,?_,hid ⟨rfl,fun x D=>by simp at D;omega,List.pairwise_singleton _ _⟩,fun e=>by omega,F.trans (O.1.mono F.size)⟩;exact Ow.base a3 F.size
     ·obtain⟨b,off,rfl,T,V⟩:=HA.out a0;have Y:=hid V;have I:=hid G.out.1;clear V;have d6:(j:Int)<=(k:Int):=by omega
      have c9:j<=cap:=by omega
      have b2:¬cap=j:=by have:=b0.out;omega
      go_region_held3 (fun w'=>Below d.heap.size d w'/\d.heap.size<=w'.heap.size)
       (first
        |with_reducible assumption
        |with_reducible exact zE (by assumption) _
        |with_reducible exact BR (by assumption) (by assumption)
        |with_reducible exact JY h h.size _
        |with_reducible exact JZ h h.size _ _)
       (first
        |(refine uK rfl _ _ rfl d.heap.size (.slice none 0 0) [] rfl (OwI.nil _ _) ⟨b,off,none⟩ j cap (L.take j) rfl ?_ ?_ ?_ ?_ ?_;(rw[aQ,I.out];omega);(exact(EG T Y.out (by assumption) j).1);(simp only[aV];omega);(exact(show Below d.heap.size d _/\d.heap.size<=_ by assumption).2);intro v1 w1 b3 b4 b5)
        |(refine uK rfl _ _ rfl d.heap.size _ ([]++L.take j) rfl (by first|assumption|exact OwI.alloc (by assumption) _) ⟨_,0,none⟩ 1 1 [(k:Int)] rfl rfl ?_ ?_ ?_ ?_;(first|exact xL (bX _ _ _)|exact xL (KA (by assumption) (by exact bX _ _ _)));(simp only[aL,aV,aQ];omega);(exact(show Below d.heap.size d _/\d.heap.size<=_ by assumption).2);intro v2 w2 a3 a7 a4)
        |(refine uK rfl _ _ rfl d.heap.size _ (([]++L.take j)++[(k:Int)]) rfl (by assumption) ⟨b,off+j,none⟩ (k-j) (cap-j) (L.drop j) rfl ?_ ?_ ?_ ?_ ?_;(rw[bA,I.out]);(exact(EG T Y.out (by assumption) j).2);(simp only[aL,aV,aQ,aU];omega);(exact(show Below d.heap.size d _/\d.heap.size<=_ by assumption).2);intro v3 J a1 b6 b7))
      all_goals go_wp2_with fail
      all_goals
       have H:=HG.out
       go_roundg (s.size-(k+1))
       case measure=>omega
       case rel=>
        obtain⟨q1,q2,q3⟩:=G.out;have O:Below d.heap.size d _/\d.heap.size<=_:=(show Below d.heap.size d J/\d.heap.size<=J.heap.size by assumption);refine⟨k+1,qF L j k,by omega,rfl,by go_num,?_,hid ⟨by rw[QL,q1],QN q2,QM q3 HT.out HD.out⟩,fun e=>by omega,F.trans (O.1.mono F.size)⟩;have e:([]++L.take j++[(k:Int)])++L.drop j=qF L j k:=by simp[qF]
        rw[<-e];exact Ow.base a1 F.size
    ·have t1:decide (0<j)=true:=aG U;obtain⟨b,off,rfl,T,V⟩:=HA.out (by omega);obtain⟨h1,h2,h3⟩:=G.out;have a5:j-1<L.length:=by omega
     have a8:L[j-1]? =some (L.getD (j-1) 0):=by simp[jD,aN a5]
     have d0:=h2 _ (cN a8);obtain⟨y,Z⟩:∃y:Nat,L.getD (j-1) 0=(y:Int):=⟨(L.getD (j-1) 0).toNat,by omega⟩;have d1:y<k:=by omega
     have c1:=(h.cell (p:=⟨b,off+(j-1),none⟩) T).trans (V (j-1) _ a8);rw[Z] at c1;have HY:=hid Z;have s1:IntKind.i64.wrap ((j:Int)-1)=(j:Int)-1:=IntWalk.i64_in _ (by omega);have s2:((j:Int)-1).toNat=j-1:=by omega
     have s3:(0:Int)<=(j:Int)-1:=by omega
     have s4:(j:Int)-1<(k:Int):=by omega
     have s6:(1:Int)<=(j:Int):=by omega
     have s9:(j:Int)<=(k:Int):=by omega
     obtain⟨A,M⟩:∃A,A=mkS (rot s k):=⟨_,rfl⟩;obtain⟨B,hB⟩:∃B,B=mkS (rot s y):=⟨_,rfl⟩;have qa:∀W,Calls pG 91 #[.string s,.int .i64 (k:Int)] W fun e w'=>e=.returned (.string A)/\∃m,w'=W.drewN m:=fun W=>by rw[M];exact aAy s k W hn (by omega)
     have qb:∀W,Calls pG 91 #[.string s,.int .i64 (y:Int)] W fun e w'=>e=.returned (.string B)/\∃m,w'=W.drewN m:=fun W=>by rw[hB];exact aAy s y W hn (by omega)
     have QA:=hid qa;have QB:=hid qb;have b8:A.toList=rot s k:=by rw[WU,M];rfl
     have b9:B.toList=rot s y:=by rw[WU,hB];rfl
     have c0:sF A.toList B.toList=true↔ltm (cQ s) s.size k y:=by rw[b8,b9];exact aQh s c4 (by omega)
     have c2:=hid c0;have Y:=hid V;clear qa qb b8 b9 c0 M hB Z d0 a8 h1 h2 h3 V
     by_cases a6:sF A.toList B.toList=true
     ·go_wp2_with fail
      go_quiet (first|(go_at_call_of 91 (bQ .i64 (k:Int));refine WV (QA.out _))|(go_at_call_of 91 (bQ .i64 (y:Int));refine WV (QB.out _)))
      go_wp2_with fail;have a4:=c7.out
      go_roundg (j-1)
      case measure=>omega
      case rel=>
       refine⟨j-1,by omega,rfl,congrArg _ (by omega),hid (fun x D=>?_),kY h _⟩;rw[pF a5,List.mem_cons] at D;rcases D with rfl|D
       ·have e:L[j-1]=(y:Int):=by rw[<-HY.out];simp[jD,aN a5]
        rw[e];exact .inl (by simpa using c2.out.1 a6)
       ·rw[show j-1+1=j by omega] at D;exact HD.out x D
     ·have d2:sF A.toList B.toList=false:=by simpa using a6
      have I:=hid G.out.1;have c9:j<=cap:=by omega
      have HT:=hid (show ∀x∈L.take j,bef (cQ s) s.size x (k:Int) from aQi (y:=(y:Int)) G.out.2.2 U (by simp[<-HY.out,jD,aN a5]) (by
       rcases zA (cQ s) y k s.size with p|p|p
       ·exact .inl (by simpa using p)
       ·exact .inr ⟨by simpa using p,by omega⟩
       ·exact absurd (c2.out.2 p) a6))
      go_wp2_with fail
      go_quiet (first|(go_at_call_of 91 (bQ .i64 (k:Int));refine WV (QA.out _))|(go_at_call_of 91 (bQ .i64 (y:Int));refine WV (QB.out _)))
      clear a6 d2 c1 s1 s2 s3 s4 s6 d1;go_wp2_with fail;obtain⟨wq,d7⟩:∃wq:World,wq=wr:=⟨_,rfl⟩
      by_cases b2:cap=j
      ·obtain rfl:cap=j:=b2;obtain rfl:k=cap:=by omega
       go_region_held3 (fun w'=>Below d.heap.size d w'/\d.heap.size<=w'.heap.size)
        (first
         |with_reducible assumption
         |with_reducible exact zE (by assumption) _
         |with_reducible exact BR (by assumption) (by assumption)
         |with_reducible exact JY h h.size _
         |with_reducible exact JZ h h.size _ _)
        (first
         |(refine uK rfl _ _ rfl d.heap.size (.slice none 0 0) [] rfl (OwI.nil _ _) ⟨b,off,none⟩ k k (L.take k) rfl ?_ ?_ ?_ ?_ ?_;(rw[aQ,I.out];omega);(exact(EG T Y.out (by assumption) k).1);(simp only[aV];omega);(exact(show Below d.heap.size d _/\d.heap.size<=_ by assumption).2);intro v1 w1 b3 b4 b5)
         |(refine uK rfl _ _ rfl d.heap.size _ ([]++L.take k) rfl (by first|assumption|exact OwI.alloc (by assumption) _) ⟨_,0,none⟩ 1 1 [(k:Int)] rfl rfl ?_ ?_ ?_ ?_;(first|exact xL (bX _ _ _)|exact xL (KA (by assumption) (by exact bX _ _ _)));(simp only[aL,aV,aQ];omega);(exact(show Below d.heap.size d _/\d.heap.size<=_ by assumption).2);intro v2 w2 a3 a7 a4)
         |(refine uK rfl _ _ rfl d.heap.size _ (([]++L.take k)++[(k:Int)]) rfl (by assumption) ⟨b,off,none⟩ 0 0 (L.drop k) rfl ?_ ?_ ?_ ?_ ?_;(rw[bA,I.out];omega);(intro j y Z;rw[sB (by rw[I.out];exact aD _)] at Z;simp at Z);(simp only[aL,aV,aQ,aU];omega);(exact(show Below d.heap.size d _/\d.heap.size<=_ by assumption).2);intro v3 J a1 b6 b7))
       all_goals go_wp2_with fail
       all_goals
        have H:=HG.out
        go_roundg (s.size-(k+1))
        case measure=>omega
        case rel=>
         obtain⟨q1,q2,q3⟩:=G.out;have O:Below d.heap.size d _/\d.heap.size<=_:=(show Below d.heap.size d J/\d.heap.size<=J.heap.size by assumption);refine⟨k+1,qF L k k,by omega,rfl,by go_num,?_,hid ⟨by rw[QL,q1],QN q2,QM q3 HT.out HD.out⟩,fun e=>by omega,F.trans (O.1.mono F.size)⟩;have e:([]++L.take k++[(k:Int)])++L.drop k=qF L k k:=by simp[qF]
         rw[<-e];exact Ow.base a1 F.size
      ·go_region_held3 (fun w'=>Below d.heap.size d w'/\d.heap.size<=w'.heap.size)
        (first
         |with_reducible assumption
         |with_reducible exact zE (by assumption) _
         |with_reducible exact BR (by assumption) (by assumption)
         |with_reducible exact JY h h.size _
         |with_reducible exact JZ h h.size _ _)
        (first
         |(refine uK rfl _ _ rfl d.heap.size (.slice none 0 0) [] rfl (OwI.nil _ _) ⟨b,off,none⟩ j cap (L.take j) rfl ?_ ?_ ?_ ?_ ?_;(rw[aQ,I.out];omega);(exact(EG T Y.out (by assumption) j).1);(simp only[aV];omega);(exact(show Below d.heap.size d _/\d.heap.size<=_ by assumption).2);intro v1 w1 b3 b4 b5)
         |(refine uK rfl _ _ rfl d.heap.size _ ([]++L.take j) rfl (by first|assumption|exact OwI.alloc (by assumption) _) ⟨_,0,none⟩ 1 1 [(k:Int)] rfl rfl ?_ ?_ ?_ ?_;(first|exact xL (bX _ _ _)|exact xL (KA (by assumption) (by exact bX _ _ _)));(simp only[aL,aV,aQ];omega);(exact(show Below d.heap.size d _/\d.heap.size<=_ by assumption).2);intro v2 w2 a3 a7 a4)
         |(refine uK rfl _ _ rfl d.heap.size _ (([]++L.take j)++[(k:Int)]) rfl (by assumption) ⟨b,off+j,none⟩ (k-j) (cap-j) (L.drop j) rfl ?_ ?_ ?_ ?_ ?_;(rw[bA,I.out]);(exact(EG T Y.out (by assumption) j).2);(simp only[aL,aV,aQ,aU];omega);(exact(show Below d.heap.size d _/\d.heap.size<=_ by assumption).2);intro v3 J a1 b6 b7))
       all_goals go_wp2_with fail
       all_goals
        have H:=HG.out
        go_roundg (s.size-(k+1))
        case measure=>omega
        case rel=>
         obtain⟨q1,q2,q3⟩:=G.out;have O:Below d.heap.size d _/\d.heap.size<=_:=(show Below d.heap.size d J/\d.heap.size<=J.heap.size by assumption);refine⟨k+1,qF L j k,by omega,rfl,by go_num,?_,hid ⟨by rw[QL,q1],QN q2,QM q3 HT.out HD.out⟩,fun e=>by omega,F.trans (O.1.mono F.size)⟩;have e:([]++L.take j++[(k:Int)])++L.drop j=qF L j k:=by simp[qF]
         rw[<-e];exact Ow.base a1 F.size
  ·have d3:k=s.size:=by omega
   subst d3;go_wp2_with fail;go_ret;obtain⟨h1,h2,h3⟩:=G.out;refine⟨_,_,rfl,aQj h1 h2 h3,?_,F⟩;have e:=aAp L;rw[h1] at e;rw[e];exact a2
end Go.Proofs.YtfplbbphficcjaaGreatDoor
