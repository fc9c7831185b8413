/-
  Texts put together (part 27): the walks and the plain laws on which the statement stands.
-/
import Derived.Deep.RegionLawGrows
import Derived.Lib.SliceRun
import Derived.Test.YtihbnmlinkbnkaaGreatDoorZ18
import Derived.Test.YtihbnmlinkbnkaaGreatDoorZ20
import Derived.Test.YtihbnmlinkbnkaaGreatDoorZ22
set_option maxRecDepth 100000
set_option maxHeartbeats 12800000
set_option linter.unusedVariables false
set_option linter.unusedSimpArgs false
open Go.Proofs.Tryz
open Go.Proofs.Tryz renaming prog->pG
open Array renaming getElem?_eq_some_iff->fE
open Go renaming heap_setCell_other->kF,results_none->tI
open Go.Act renaming eval->lL
open Go.Builtin renaming append_->sA
open Go.IntKind renaming i64->aJ,wrap_i64->aM
open Go.Oper renaming wp->nC
open Go.Region renaming wanted->qL
open Go.RowKit renaming ownsRow_setCell_below->vL
open Go.RowKit.Below renaming refl->aH
open Go.World renaming size_alloc->fP
open List renaming getD_eq_getElem?_getD->bV,getElem?_append_left->nE,getElem?_eq_getElem->aN,length_append->aL,length_map->aS,length_set->nW,mem_of_getElem?->cN,mem_singleton->cP,set_append_left->XR,set_cons_succ->bB,take_append_drop->kH
open List.Perm renaming refl->GZ
open Nat renaming le_of_lt->nG,le_refl->aD,le_trans->aR
open Option.some renaming inj->cC
namespace Go.Proofs.YtihbnmlinkbnkaaGreatDoor
open Go.RowKit Go Go.Shelf
theorem aYp (b n:Nat) (x:Int) (W:World) (d:W.cell? ⟨b,0,none⟩=some (.int .i64 (n:Int))) (A:0<=x/\x<(n:Int)):
  Calls pG 200 #[.int .i64 x,.pointer (some ⟨b,0,none⟩)] W fun e w'=>e=.returned (.bool false)/\w'=W:=by
 have F:decide (x<0)=false:=aE (by omega);have G:decide (x>=(n:Int))=false:=aE (by omega);have H:decide ((n:Int)<=x)=false:=aE (by omega);go_enter func200,ntmps200;go_wp2_with fail;go_ret;exact⟨rfl,rfl⟩
theorem aF5 (v:Value) (l:List Int) (n:Nat) (w:World) (A:RdI w v l) (F:∀x∈l,0<=x/\x<(n:Int)):
  Calls pG 134 #[v,.int .i64 (n:Int)] w fun e w'=>e=.returned (.bool false)/\Below w.heap.size w w':=by
 have d:=Arr.new w 3 [.int .i64 (n:Int)];have G:Below w.heap.size w (w.alloc (.cells #[.int .i64 (n:Int)] 3)):=bD (aH _ _) _;have I:(w.alloc (.cells #[.int .i64 (n:Int)] 3)).heap.size=w.heap.size+1:=by simp
 change Arr (w.alloc (.cells #[.int .i64 (n:Int)] 3)) _ _ _ at d;have J:=(zC 200 #[.pointer (some ⟨w.heap.size,0,none⟩)] (fun _=>false) v l _ (A.below G) (enters_of func200 (by kernel_rfl) rfl)
   (fun L M x O=>aYp w.heap.size n x L ((d.below M (by omega)).cell (i:=0) rfl) (F x O))).mono (fun e w' h=>show e=.returned (.bool false)/\w'=_ from by
    have H:=h.1;rw[sK (fun x _=>rfl)] at H;exact⟨H,h.2⟩)
 clear A d I F;go_enter func134,ntmps134;go_wp2_with fail;refine J.mono ?_;rintro e w1 ⟨rfl,rfl⟩;go_wp2_with fail;go_ret;exact⟨rfl,G⟩
theorem aYq (x:Int) (W:World) (d:0<=x/\x<=1048576):
  Calls pG 244 #[.int .i64 x] W fun e w'=>e=.returned (.bool false)/\w'=W:=by
 have A:decide (x<0)=false:=aE (by omega);have F:decide (x>1048576)=false:=aE (by omega);have G:decide (1048576<x)=false:=aE (by omega);go_enter func244,ntmps244;go_wp2_with fail;go_ret;exact⟨rfl,rfl⟩
theorem aYr (v:Value) (l:List Int) (w:World) (d:RdI w v l) (A:∀x∈l,0<=x/\x<=1048576):
  Calls pG 201 #[v] w fun e w'=>e=.returned (.bool true)/\w'=w:=by
 have G:=(zC 244 #[] (fun _=>false) v l w d (enters_of func244 (by kernel_rfl) rfl)
   (fun H _ x I=>aYq x H (A x I))).mono (fun e w' h=>show e=.returned (.bool false)/\w'=_ from by
    have F:=h.1;rw[sK (fun x _=>rfl)] at F;exact⟨F,h.2⟩)
 clear d A;go_enter func201,ntmps201;go_wp2_with fail;refine G.mono ?_;rintro e w1 ⟨rfl,rfl⟩;go_wp2_with fail;go_ret;exact⟨rfl,rfl⟩
theorem aF6 (v u:Value) (l g:List Int) (w:World) (L:RdI w v l) (M:RdI w u g) (G:bM l=0) (d:∀x∈g,0<=x/\x<(l.length:Int)) (b6:g.length<=1000):
  Calls pG 136 #[v,u] w fun e w'=>e=.returned (.tuple #[.int .i64 (qW l g),.int .i64 0])/\Below w.heap.size w w':=by
 rw[aFz G d];have H:=(gE G).1;have O:=FK v l w L;rw[G] at O;have a8:=hid (fun k=>aCa H.2.2 (g.take k));have HX:=hid d;have HL:=hid (fun(x:Int) (h:0<=x/\x<(l.length:Int))=>show l[x.toNat]? =some (l.getD x.toNat 0) by
  rw[bV,aN (show x.toNat<l.length by omega)];rfl)
 have a1:=fun W (h:RdI W u g)=>aF5 u g l.length W h d
 have b7:=H.1;have a9:=hid (fun(x:Int) (h:0<=x/\x<(l.length:Int))=>H.2.2 (l.getD x.toNat 0) (cN (HL.out x h)));obtain⟨a,ca,rfl,b8,b0,hA⟩:=L.open;unfold maxLen at b0;obtain⟨b,off,rfl,hb,hc⟩:=hA (by omega);obtain⟨a2,c2,rfl,b9,b1,a3⟩:=M.open;unfold maxLen at b1;clear L hA H d G;go_enter func136,ntmps136;go_wp2_with fail;refine O.mono ?_;rintro e w1 ⟨rfl,U⟩;have a4:=M.below U;clear O;go_wp2_with fail;refine(a1 _ a4).mono ?_;rintro e w2 ⟨rfl,V⟩;have Z:=U.trans (V.mono U.size);have HC:=hid (fun j x (A:l[j]? =some x)=>((pJ Z).1 b (off+j) hb).trans (hc j x A))
 have b3:=hid (fun F I (h:F<w.heap.size) (h2:∀j x,g[j]? =some x->w.cell? ⟨F,I+j,none⟩=some (.int .i64 x)) j x (A:g[j]? =some x)=>((pJ Z).1 F (I+j) h).trans (h2 j x A));clear a1 M a4 hc;go_wp2_with fail
 go_loopg [4,8,20] g.length (fun gg s4 _s8 b4 wr=>∃k:Nat,k<=g.length/\gg=g.length-k/\b4=.int .i64 (k:Int)/\s4=.int .i64 (oV l (g.take k))/\wr=w2)
 case atStart=>exact⟨0,Nat.zero_le _,rfl,rfl,rfl,rfl⟩
 case round=>
  obtain⟨k,hk,d,rfl,rfl,rfl⟩:=hrel;have HG:=hid d;clear d;have a5:=a8.out k;rw[List.length_take,Nat.min_eq_left hk] at a5
  by_cases b5:k<g.length
  ·have u1:decide ((k:Int)<(g.length:Int))=true:=aG (by omega);obtain⟨F,I,rfl,V,a6⟩:=a3 (by omega);obtain⟨x,A⟩:=eG b5;have c1:=b3.out F I V a6 k x A;have J:=HX.out x (cN A);have a0:=HL.out x J;have a7:=a9.out x J;have HT:=hid (aF0 (l:=l) A);obtain⟨X,rfl⟩:∃X:Nat,x=(X:Int):=⟨x.toNat,by omega⟩;rw[Int.toNat_natCast] at a0 a7 HT;have c2:=HC.out X _ a0;obtain⟨S,hS⟩:∃S,S=oV l (g.take k):=⟨_,rfl⟩;obtain⟨D,hD⟩:∃D,D=l.getD X 0:=⟨_,rfl⟩;rw[<-hS,<-hD] at HT;rw[<-hS] at a5 ⊢;rw[<-hD] at a7 c2;have m1:aJ.wrap (S+D)=S+D:=by rw[aM];omega
   have v1:(X:Int)<(l.length:Int):=J.2;have v2:X<l.length:=by omega
   clear A a0 a6 a3 hS hD J;go_wp2_with fail;have d:=HG.out
   go_roundg (g.length-(k+1))
   case measure=>omega
   case rel=>exact⟨k+1,by omega,rfl,by go_num,by rw[HT.out],rfl⟩
  ·have u1:decide ((k:Int)<(g.length:Int))=false:=aE (by omega);rw[List.take_of_length_le (by omega)];go_wp2_with fail
   go_ret2
   exact⟨rfl,Z⟩
theorem aGo (n:Int) (W:World):Calls pG 74 #[.int .i64 n] W fun e w'=>e=.returned (.bool (decide (1<=n)&&decide (n<=360)))/\w'=W:=by
 by_cases h:1<=n
 ·have d:decide (1<=n)=true:=aG h;have A:decide (n>=1)=true:=aG h;rw[d];go_enter func74,ntmps74;go_wp2_with fail;go_ret;exact⟨rfl,rfl⟩
 ·have d:decide (1<=n)=false:=aE h;have A:decide (n>=1)=false:=aE h;rw[d];go_enter func74,ntmps74;go_wp2_with fail;go_ret;exact⟨rfl,rfl⟩
def rS (E:Int):List PanicEntry:=[{v:=.iface 120 (.agg #[.int .i64 E]),recovered:=false}]
theorem zU (E:Int) (W:World):Calls pG 124 #[.int .i64 E] W fun e w'=>
  (E=0/\e=.returned (.tuple #[])/\w'=W)\/(E≠0/\e=.panicked (rS E)/\w'=W):=by
 by_cases h:E=0
 ·subst h;go_enter func124,ntmps124;go_wp2_with fail
  go_end0
  exact .inl ⟨trivial,rfl,rfl⟩
 ·have d:(E != 0)=true:=by simpa using h
  go_enter func124,ntmps124;go_wp2_with fail;exact⟨rfl,.inr ⟨h,rfl,rfl⟩⟩
theorem tW (b:Bool) (E:Int) (W:World) (d:E≠0):Calls pG 77 #[.bool b,.int .i64 E] W fun e w'=>
  (b=true/\e=.returned (.tuple #[])/\w'=W)\/(b=false/\e=.panicked (rS E)/\w'=W):=by
 have hor:=(zU E W).mono (fun e w' h=>show e=.panicked (rS E)/\w'=W from by
  rcases h with h|h
  ·exact absurd h.1 d
  ·exact h.2)
 cases b with
 |true=>
  go_enter func77,ntmps77;go_wp2_with fail
  go_end0
  exact .inl ⟨trivial,rfl,rfl⟩
 |false=>
  go_enter func77,ntmps77;go_wp2_with fail;refine hor.mono ?_;rintro e w' ⟨rfl,rfl⟩;go_wp2_with fail;exact⟨rfl,.inr ⟨trivial,rfl,rfl⟩⟩
def BRd (w:World) (b:Nat) (s:ByteArray) (a:Nat) (d ch A:Value):Prop:=Arr w b 125 [.string s,.int .i64 (a:Int),d,ch,A]
theorem FN (b:Nat) (s:ByteArray) (a k:Nat) (F ch G:Value) (W:World) (H:BRd W b s a F ch G) (Z:s.size<=1000000) (hk:k<=48) (ha:a<=100000000):
  Calls pG 118 #[.pointer (some ⟨b,0,none⟩),.int .i64 (k:Int)] W fun e w'=>
   (aP s.size (a:Int) k=0/\e=.returned (.int .i64 (aK s.data.toList (a:Int) k:Int))/\BRd w' b s (a+k) F ch G/\W.grownBy w' (some b))\/(aP s.size (a:Int) k≠0/\e=.panicked (rS (aP s.size (a:Int) k))/\W.grownBy w' (some b)):=by
 have L:=fun W=>uQ s (a:Int) k W Z (by omega) (by omega) (by omega)
 have M:=jV s.data.toList (a:Int) k;have a0:aK s.data.toList (a:Int) k<281474976710656:=Nat.lt_of_lt_of_le M (aR (Nat.pow_le_pow_right (by decide) hk) (by decide));obtain⟨E,d⟩:∃E,E=aP s.size (a:Int) k:=⟨_,rfl⟩;obtain⟨V,A⟩:∃V,V=aK s.data.toList (a:Int) k:=⟨_,rfl⟩;rw[<-d,<-A];rw[<-d,<-A] at L;rw[<-A] at a0;have HE:=hid d;clear d A M;have c0:=Arr.cell H (i:=0) rfl;have c1:=Arr.cell H (i:=1) rfl;have m1:aJ.wrap (V:Int)=(V:Int):=by rw[aM];omega
 have m2:aJ.wrap ((a:Int)+(k:Int))=(a:Int)+(k:Int):=by rw[aM];omega
 have hor:=fun W=>zU E W
 go_enter func118,ntmps118;go_wp2_with fail
 go_quiet (first|(go_at_call 175;exact Calls.quiet_of_same (L _)))
 generalize I:W.drewN nq=O at*
 have J:BRd O b s a F ch G:=by rw[<-I];exact H
 have U:W.grownBy O (some b):=by rw[<-I];exact⟨rfl,rfl,rfl,aD _,fun _ _ _=>rfl⟩
 have d1:=Arr.cell J (i:=1) rfl;have g1:=Arr.free J 1;clear I;go_wp2_with fail;refine(hor _).mono ?_;rintro e w2 (⟨rfl,rfl,rfl⟩|⟨h0,rfl,rfl⟩)
 ·go_wp2_with fail;go_ret;exact⟨rfl,by have:=Arr.set J 1 (.int .i64 ((a:Int)+(k:Int)));unfold BRd;push_cast;exact this,gbT U (gbS _ _ _ _)⟩
 ·go_wp2_with fail;exact⟨rfl,.inr ⟨h0,rfl,U⟩⟩
theorem MK (b:Nat) (s:ByteArray) (a:Nat) (q E:Int) (A ch F:Value) (W:World) (d:BRd W b s a A ch F):
  Calls pG 120 #[.pointer (some ⟨b,0,none⟩),.int .i64 q,.int .i64 E] W fun e w'=>
   (E=0/\e=.returned (.tuple #[])/\Arr w' b 125 [.string s,.int .i64 q,A,ch,F]/\W.grownBy w' (some b))\/(E≠0/\e=.panicked (rS E)/\w'=W):=by
 have H:=Arr.cell d (i:=1) rfl;have I:=Arr.free d 1;have hor:=zU E W;go_enter func120,ntmps120;go_wp2_with fail;refine hor.mono ?_;rintro e w2 (⟨rfl,rfl,rfl⟩|⟨G,rfl,rfl⟩)
 ·go_wp2_with fail
  go_end0
  exact⟨rfl,Arr.set d 1 _,gbS _ _ _ _⟩
 ·go_wp2_with fail;exact⟨rfl,.inr ⟨G,rfl,rfl⟩⟩
theorem aGt {w:World} (H:TypeId) (d:Nat) (v:Value) (A:List (List Bool)) (l:List Bool) (I:eO w d v A) (g:Nat) (M:Arr w g 79 (fD l)) (O:(A.length+1)*24<=140737488355328) (J:d<=w.heap.size):
  ∃F w',(sA #[80,80] H #[v,.slice (some ⟨g,0,none⟩) 1 1]).run pG w=.ok F w'/\eO w' d F (A++[l])/\Below d w w'/\w.grownBy w' v.ownBlock:=by
 obtain⟨i,hi,U,V,Z⟩:=info_parts SY;obtain⟨F,w',q1,q2,L,_⟩:=run_append_own (P:=pG) w d 80 H 79 i _ 2 24 underlying80 hi U V Z rfl (by decide) v A.length (A.flatMap fD) I ⟨g,0,none⟩ 1 1 (fD l) rfl (fun j u' hj=>by
  rw[show(⟨g,0,none⟩:Addr).add j=⟨g,j,none⟩ by unfold Addr.add;split<;>simp_all];exact M.cell hj) (fun u' G=>by
  unfold fD at G;rcases List.mem_cons.1 G with rfl|G
  ·rfl
  ·obtain rfl:=cP.1 G;rfl) (by simp only[maxLen];omega) O J
 refine⟨F,w',q1,?_,rJ I L J,L⟩;unfold eO;rw[aL,List.flatMap_append,List.flatMap_singleton];exact q2
theorem sX {P:Program} {d:Array Oper} {o:Oper} {a:Act} {w:World} {K:Act->World->Prop} {Q:Exit->Act->World->Prop} {E:Prop} (A:o.guard=none) (s x:Operand) (t:TypeId)
  (F:o.op=.call {callee:=.builtin .append,args:=#[s,x],argTypes:=#[t,t]}) (v u v':Value) (w':World) (hs:a.eval s=v) (hx:a.eval x=u)
  (hr:(sA #[t,t] o.type #[v,u]).run P w=.ok v' w') (h:K (a.put o.dst v') w'):if qL o (yielded d a.tmps)=true then nC P o a w K Q else E:=by
 have G:qL o (yielded d a.tmps)=true:=by simp[qL,A]
 rw[aB G];unfold nC execOp;simp only[F,resolve,invoke,builtin,Sem.run_bind,Sem.run_pure,Result.andThen_ok,List.map_toArray,List.map_cons,List.map_nil,hs,hx,hr];exact h
def WrL (w:World) (p B:Nat) (d:List (List Bool)):Prop:=∃v,Arr w p 139 [v]/\eO w B v d
def KT (e p:Nat) (w w':World):Prop:=w.heap.size<=w'.heap.size/\∀k o,w.heap[k]? =some o->k≠p->(∀c d,o≠.cells c e d)->w'.heap[k]? =some o
theorem KT.trans {e p:Nat} {a b c:World} (h:KT e p a b) (k:KT e p b c):KT e p a c:=by grind [KT]
theorem KT.below {e p:Nat} {w w':World} (h:Below w.heap.size w w'):KT e p w w':=⟨h.size,fun k _ d _ _=>(h.block k (fE.1 d).1).trans d⟩
theorem KT.app {e p B z n:Nat} {w w':World} {v:Value} {A:List Value} (F:w.ownsRow B e z v n A) (h:w.grownBy w' v.ownBlock):KT e p w w':=⟨h.size,fun k o d _ G=>by
 refine(h.block k (fE.1 d).1 (fun e=>?_)).trans d;rcases F.2 with⟨rfl,_⟩|⟨g,cap,H,rfl,_,I,_⟩
 ·cases e
 ·obtain rfl:=cC e
  grind⟩
theorem KT.box {e p i:Nat} {w:World} (v:Value):KT e p w (w.setCell ⟨p,i,none⟩ v):=⟨by simp,fun k o d A _=>by rw[kF w ⟨p,i,none⟩ k v A];exact d⟩
theorem KT.ow {e p B d:Nat} {w w':World} {v:Value} {A:List Value} (h:KT e p w w') (F:Ow w B d v A) (M:p<B) (O:d≠e):Ow w' B d v A:=by
 refine⟨F.1,?_⟩;rcases F.2 with G|⟨g,cap,H,I,J,L,rest⟩
 ·exact .inl G
 ·exact .inr ⟨g,cap,H,I,J,h.2 g _ L (by omega) (fun c U q=>by grind),rest⟩
theorem CM (p B:Nat) (d:List (List Bool)) (l:List Bool) (E:Int) (w:World) (h:WrL w p B d) (hp:p<B) (hB:B<=w.heap.size) (hl:d.length<=1000000):
  Calls pG 86 #[.pointer (some ⟨p,0,none⟩),.agg #[.string (mkS (aI l)),.int .i64 (l.length:Int)],.int .i64 E] w fun e w'=>e=.returned (.tuple #[])/\WrL w' p B (d++[l])/\Below p w w'/\KT 79 p w w':=by
 obtain⟨v,J,M⟩:=h;obtain⟨S,O⟩:∃S,S=mkS (aI l):=⟨_,rfl⟩;obtain⟨L,U⟩:∃L,L=(l.length:Int):=⟨_,rfl⟩;rw[<-O,<-U];have a6:fD l=[.string S,.int .i64 L]:=by rw[O,U];rfl
 have V:=Arr.new w 79 [.string S,.int .i64 L];have Z:Arr (w.alloc (.cells #[.string S,.int .i64 L] 79)).drew p 139 [v]:=J.alloc _;have a0:eO (w.alloc (.cells #[.string S,.int .i64 L] 79)).drew B v d:=M.alloc _;have a1:(w.alloc (.cells #[.string S,.int .i64 L] 79)).drew.heap.size=w.heap.size+1:=by simp
 have a7:Below p w (w.alloc (.cells #[.string S,.int .i64 L] 79)).drew:=((aH p w).alloc (by omega) _).drew;have a8:Arr ((w.alloc (.cells #[.string S,.int .i64 L] 79)).drew.alloc (.cells #[.string S,.int .i64 L] 79)) (w.heap.size+1) 79 (fD l):=by
  rw[a6,<-a1];exact Arr.new _ _ _
 have a2:=Z.alloc (.cells #[.string S,.int .i64 L] 79);obtain⟨v3,H,hr,a4,a5,a9⟩:=aGt (w:=(w.alloc (.cells #[.string S,.int .i64 L] 79)).drew.alloc (.cells #[.string S,.int .i64 L] 79)) 80 B v d l (a0.alloc _) (w.heap.size+1) a8 (by omega) (by rw[fP,a1];omega);have I:=a2.below a5 hp;have b2:KT 79 p w H:=(KT.below (((bD (aH _ w) (.cells #[.string S,.int .i64 L] 79)).drew.alloc (by rw[a1];omega) (.cells #[.string S,.int .i64 L] 79)))).trans (KT.app (a0.alloc _) a9);have b3:Below p w H:=(a7.alloc (by omega) _).trans (a5.mono (by omega));obtain⟨A,F,e3,-⟩:=a4.rd
 obtain⟨G,b4⟩:∃n,n=(d++[l]).length:=⟨_,rfl⟩;rw[<-b4] at e3;subst e3;obtain⟨a,c,e1,-⟩:=M.rd;obtain⟨n,hn⟩:∃n,n=d.length:=⟨_,rfl⟩;rw[<-hn] at e1;subst e1;have b5:(sA #[80,80] 80 #[.slice a n c,.slice (some ⟨w.heap.size+1,0,none⟩) 1 1]).run pG ((w.alloc (.cells #[.string S,.int .i64 L] 79)).alloc (.cells #[.string S,.int .i64 L] 79)).drew=.ok (.slice A G F) H:=hr;have c0:=J.cell (i:=0) rfl;have c1:=Z.cell (i:=0) rfl;have c2:=a2.cell (i:=0) rfl;have ca:(w.alloc (.cells #[.string S,.int .i64 L] 79)).cell? ⟨p,0,none⟩=some (.slice a n c):=c1
 have cb:((w.alloc (.cells #[.string S,.int .i64 L] 79)).alloc (.cells #[.string S,.int .i64 L] 79)).cell? ⟨p,0,none⟩=some (.slice a n c):=c2;have b6:=I.cell (i:=0) rfl;have f3:=I.free 0;have b0:=V.cell (i:=0) rfl;have b1:=V.cell (i:=1) rfl;have HO:=hid (vL a4 (a:=⟨p,0,none⟩) hp (.slice A G F));have HA:=hid (I.set 0 (.slice A G F));have HB:=hid (b3.setCell (p:=⟨p,0,none⟩) (aD _) (.slice A G F));have HK:=hid (b2.trans (KT.box (i:=0) (.slice A G F)));clear b4 hn a6 b2 a9 a4 a0 a5 b3 a7 a8 I a2 Z J M V hl O U;go_enter func86,ntmps86;go_wp2_with fail
 go_region_law (refine sX rfl (.tmp 10) (.tmp 12) 80 rfl (.slice a n c) (.slice (some ⟨w.heap.size+1,0,none⟩) 1 1) (.slice A G F) H (by simp[lL]) (by simp[lL]) b5 ?_)
 all_goals
  go_wp2_with fail
  go_end0
  exact⟨rfl,⟨_,HA.out,HO.out⟩,HB.out,HK.out⟩
theorem aZf (p B:Nat) (A:List (List Bool)) (l:List Bool) (w:World) (h:WrL w p B A) (J:p<B) (hB:B<=w.heap.size) (hl:A.length<=1000000) (S:ByteArray) (hS:S=mkS (aI l)) (L:Int) (hL:L=(l.length:Int)):
  ∃(a:Option Addr) (n c:Nat) (F:Option Addr) (H G:Nat) (d:World),
   (sA #[80,80] 80 #[.slice a n c,.slice (some ⟨w.heap.size+1,0,none⟩) 1 1]).run pG ((w.alloc (.cells #[.string S,.int .i64 L] 79)).alloc (.cells #[.string S,.int .i64 L] 79)).drew=.ok (.slice F H G) d/\
   w.cell? ⟨p,0,none⟩=some (.slice a n c)/\(w.alloc (.cells #[.string S,.int .i64 L] 79)).cell? ⟨p,0,none⟩=some (.slice a n c)/\
   ((w.alloc (.cells #[.string S,.int .i64 L] 79)).alloc (.cells #[.string S,.int .i64 L] 79)).cell? ⟨p,0,none⟩=some (.slice a n c)/\
   d.cell? ⟨p,0,none⟩=some (.slice a n c)/\d.frozen? ⟨p,0,none⟩=false/\
   WrL (d.setCell ⟨p,0,none⟩ (.slice F H G)) p B (A++[l])/\Below p w (d.setCell ⟨p,0,none⟩ (.slice F H G)):=by
 obtain⟨v,M,O⟩:=h;have a2:fD l=[.string S,.int .i64 L]:=by rw[hS,hL];rfl
 have U:Arr (w.alloc (.cells #[.string S,.int .i64 L] 79)).drew p 139 [v]:=M.alloc _;have a4:eO (w.alloc (.cells #[.string S,.int .i64 L] 79)).drew B v A:=O.alloc _;have V:(w.alloc (.cells #[.string S,.int .i64 L] 79)).drew.heap.size=w.heap.size+1:=by simp
 have a5:Below p w (w.alloc (.cells #[.string S,.int .i64 L] 79)).drew:=((aH p w).alloc (by omega) _).drew;have a6:Arr ((w.alloc (.cells #[.string S,.int .i64 L] 79)).drew.alloc (.cells #[.string S,.int .i64 L] 79)) (w.heap.size+1) 79 (fD l):=by
  rw[a2,<-V];exact Arr.new _ _ _
 have Z:=U.alloc (.cells #[.string S,.int .i64 L] 79);obtain⟨v3,d,hr,a0,a1,-⟩:=aGt (w:=(w.alloc (.cells #[.string S,.int .i64 L] 79)).drew.alloc (.cells #[.string S,.int .i64 L] 79)) 80 B v A l (a4.alloc _) (w.heap.size+1) a6 (by omega) (by rw[fP,V];omega);have I:=Z.below a1 J;have a7:Below p w d:=(a5.alloc (by omega) _).trans (a1.mono (by omega));obtain⟨F,G,rfl,-⟩:=a0.rd;obtain⟨a,c,rfl,-⟩:=O.rd
 exact⟨a,_,c,F,_,G,d,hr,M.cell (i:=0) rfl,U.cell (i:=0) rfl,Z.cell (i:=0) rfl,I.cell (i:=0) rfl,I.free 0,⟨_,I.set 0 _,vL a0 (a:=⟨p,0,none⟩) J _⟩,a7.setCell (p:=⟨p,0,none⟩) (aD _) _⟩
theorem FP (p B:Nat) (A:List (List Bool)) (v n:Nat) (w:World) (h:WrL w p B A) (hp:p<B) (hB:B<=w.heap.size) (J:A.length<=1000000) (hv:v<18446744073709551616) (hn:n<=64):
  Calls pG 85 #[.pointer (some ⟨p,0,none⟩),.int .u64 (v:Int),.int .i64 (n:Int)] w fun e w'=>e=.returned (.tuple #[])/\WrL w' p B (A++[aT v n])/\Below p w w':=by
 obtain⟨l,F⟩:∃l,l=aT v n:=⟨_,rfl⟩;rw[<-F];obtain⟨S,G⟩:∃S,S=mkS (aI l):=⟨_,rfl⟩;obtain⟨L,H⟩:∃L,L=(l.length:Int):=⟨_,rfl⟩;have M:∀W,Calls pG 53 #[.agg #[.string ⟨#[]⟩,.int .i64 0],.int .u64 (v:Int),.int .i64 (n:Int)] W fun e w'=>e=.returned (.tuple #[.agg #[.string S,.int .i64 L],.int .i64 0])/\Below W.heap.size W w':=fun W=>by
  have:=wL [] v n W hv hn (by simp);rw[List.nil_append,<-F] at this;rw[G,H];exact this
 have I:∀W,Below w.heap.size w W->WrL W p B A/\B<=W.heap.size:=fun W d=>by
  obtain⟨u,h1,h2⟩:=h;exact⟨⟨u,h1.below d (by omega),h2.below d (aD _)⟩,by have:=d.size;omega⟩
 have O:=fun W (d:Below w.heap.size w W)=>aZf p B A l W (I W d).1 hp (I W d).2 J S G L H
 have a0:p<w.heap.size:=by omega
 clear I h G H F J hB;go_enter func85,ntmps85;go_wp2_with fail;refine(M _).mono ?_;rintro e w1 ⟨rfl,U⟩;obtain⟨a,n1,c,a3,n3,c3,w3,a1,c0,ca,cb,a5,f3,V,Z⟩:=O w1 U;have a2:=hid ((U.mono (nG a0)).trans Z);have a4:=hid V;have b0:=(Arr.new w1 79 [.string S,.int .i64 L]).cell (i:=0) rfl;have b1:=(Arr.new w1 79 [.string S,.int .i64 L]).cell (i:=1) rfl;clear O M Z V;go_wp2_with fail
 go_region_law (refine sX rfl (.tmp 19) (.tmp 21) 80 rfl (.slice a n1 c) (.slice (some ⟨w1.heap.size+1,0,none⟩) 1 1) (.slice a3 n3 c3) w3 (by simp[lL]) (by simp[lL]) a1 ?_)
 all_goals
  go_wp2_with fail
  go_end0
  exact⟨rfl,a4.out,a2.out⟩
theorem aGw (d F A G:Int) (W:World):
  Calls pG 245 #[.agg #[.int .i64 d,.int .i64 F],.agg #[.int .i64 A,.int .i64 G]] W fun e w'=>e=.returned (.bool (decide (ahd (d,F) (A,G))))/\Below W.heap.size W w':=by
 have H:=(Arr.new W 304 [.int .i64 d,.int .i64 F]).alloc (.cells #[.int .i64 A,.int .i64 G] 304);have L:Arr ((W.alloc (.cells #[.int .i64 d,.int .i64 F] 304)).alloc (.cells #[.int .i64 A,.int .i64 G] 304)) (W.heap.size+1) 304 [.int .i64 A,.int .i64 G]:=by
  rw[show W.heap.size+1=(W.alloc (.cells #[.int .i64 d,.int .i64 F] 304)).heap.size by simp];exact Arr.new _ _ _
 change Arr ((W.alloc (.cells #[.int .i64 d,.int .i64 F] 304)).alloc (.cells #[.int .i64 A,.int .i64 G] 304)) _ _ _ at H;have U:=H.cell (i:=0) rfl;have V:=H.cell (i:=1) rfl;have Z:=L.cell (i:=0) rfl;have y1:=L.cell (i:=1) rfl;have I:=hid (bD (bD (aH W.heap.size W) (.cells #[.int .i64 d,.int .i64 F] 304)) (.cells #[.int .i64 A,.int .i64 G] 304));clear H L;rcases Int.lt_trichotomy d A with h|h|h
 ·have M:decide (d<A)=true:=aG h;rw[aG (show ahd (d,F) (A,G) from .inl h)];go_enter func245,ntmps245;go_wp2_with fail;go_ret;exact⟨rfl,I.out⟩
 ·subst h;have M:decide (d<d)=false:=aE (by omega)
  by_cases J:F<G
  ·have O:decide (F<G)=true:=aG J;rw[aG (show ahd (d,F) (d,G) from .inr ⟨rfl,J⟩)];go_enter func245,ntmps245;go_wp2_with fail;go_ret;exact⟨rfl,I.out⟩
  ·have O:decide (F<G)=false:=aE J;rw[aE (show ¬ahd (d,F) (d,G) from fun k=>k.elim (fun q=>absurd q (by simp)) (fun q=>J q.2))];go_enter func245,ntmps245;go_wp2_with fail;go_ret;exact⟨rfl,I.out⟩
 ·have M:decide (d<A)=false:=aE (by omega);have O:(d==A)=false:=beq_false_of_ne (by omega);have u3:decide (d=A)=false:=aE (by omega);rw[aE (show ¬ahd (d,F) (A,G) from fun k=>k.elim (fun q=>absurd q (show ¬d<A by omega)) (fun q=>absurd q.1 (show ¬d=A by omega)))];go_enter func245,ntmps245;go_wp2_with fail;go_ret;exact⟨rfl,I.out⟩
theorem OwI.zero (w:World) (B:Nat) (d:B<=w.heap.size):OwI (w.alloc (.cells #[] 3)) B (.slice (some ⟨w.heap.size,0,none⟩) 0 0) []:=
 ⟨rfl,.inr ⟨w.heap.size,0,#[],rfl,d,(by show(w.heap.push _)[w.heap.size]? =_;simp),aD _,by simp[maxLen],by simp,by simp⟩⟩
theorem aGx (v:Value) (l:List Int) (w:World) (d:RdI w v l) (F:0<l.length) (U:l.length<=1000000):
  Calls pG 150 #[v] w fun e w'=>∃A,e=.returned A/\OwI w' w.heap.size A l/\Below w.heap.size w w':=by
 have H:=d;obtain⟨a,I,rfl,V,J,G⟩:=d.open;unfold maxLen at J;obtain⟨b,off,rfl,Z,L⟩:=G F;have a0:(binOp .eql 26 (.slice (some ⟨b,off,none⟩) l.length I) (.slice none 0 0)).run pG w=.ok (.bool false) w:=Go.Lib.run_eql_slice_nil w _ _ _ _ _ _ _ underlying26;clear G L d;go_enter func150,ntmps150;go_wp2_with (at_builtin;refine lR rfl _ _ rfl w.heap.size _ [] l rfl (OwI.zero w _ (aD _)) _ rfl (H.below (bD (aH _ _) _)) F ?_ ?_ ?_;(simp;omega);(simp);intro A w' M O r3 r4);go_ret;exact⟨_,rfl,by simpa using M,(bD (aH _ _) _).trans O⟩
theorem aZi (a:Option Addr) (n c:Nat) (w:World):
  Calls pG 149 #[.slice a n c,.int .i64 10] w fun e w'=>
   e=.returned (.func (.func 205) #[] #[.pointer (some ⟨w.heap.size,0,none⟩),.pointer (some ⟨w.heap.size+1,0,none⟩)])/\w'=(w.alloc (.cells #[.slice a n c] 26)).alloc (.cells #[.int .i64 10] 3):=by
 have d:Arr ((w.alloc (.cells #[.slice a n c] 26)).alloc (.cells #[.int .i64 10] 3)) (w.heap.size+1) 3 [.int .i64 10]:=by
  rw[show w.heap.size+1=(w.alloc (.cells #[.slice a n c] 26)).heap.size by simp];exact Arr.new _ _ _
 have A:=d.cell (i:=0) rfl;clear d;go_enter func149,ntmps149;go_wp2_with fail;go_ret;exact⟨rfl,rfl⟩
abbrev pr (q:Int×Int):VV:=(.int .i64 q.1,.int .i64 q.2)
theorem aGy:∀(L:List VV) (i:Nat) (a b:Value),i<L.length->((prC L).set (i*2) a).set (i*2+1) b=prC (L.set i (a,b))
 |[],i,a,b,h=>by simp at h
 |x::L,0,a,b,_=>rfl
 |x::L,i+1,a,b,h=>by
  have d:=aGy L i a b (by simpa using h);have e:prC (x::L)=x.1::x.2::prC L:=rfl;rw[e,show(i+1)*2=i*2+2 by omega,bB,bB,bB,bB,d];rfl
theorem aZn:El2 pG 306 304 16 (.agg #[.int .i64 0,.int .i64 0]):=El2.mk' (by kernel_rfl) underlying306 rfl (by decide)
def gO (w:World) (g:Nat) (l:List (Int×Int)) (R:List Value):Prop:=Arr w g 304 (prC (l.map pr)++R)
theorem xZ (l:List (Int×Int)):(prC (l.map pr)).length=l.length*2:=by rw[TF,aS]
theorem gO.cells {w:World} {g:Nat} {l:List (Int×Int)} {R:List Value} (h:gO w g l R) {i:Nat} (hi:i<l.length):
  w.cell? ⟨g,i*2,none⟩=some (.int .i64 (l.getD i (0,0)).1)/\w.cell? ⟨g,i*2+1,none⟩=some (.int .i64 (l.getD i (0,0)).2):=by
 have d:(l.map pr)[i]? =some (pr (l.getD i (0,0))):=by rw[List.getElem?_map,aN hi,bV,aN hi];rfl
 obtain⟨A,F⟩:=ME _ _ _ d;have G:=xZ l;exact⟨Arr.cell h (by rw[nE (by omega)];exact A),Arr.cell h (by rw[nE (by omega)];exact F)⟩
theorem gO.put {w:World} {g:Nat} {l:List (Int×Int)} {R:List Value} (h:gO w g l R) {i:Nat} (hi:i<l.length) (x:Int×Int):
  gO ((w.setCell ⟨g,i*2,none⟩ (.int .i64 x.1)).setCell ⟨g,i*2+1,none⟩ (.int .i64 x.2)) g (l.set i x) R:=by
 have:=(Arr.set h (i*2) (.int .i64 x.1)).set (i*2+1) (.int .i64 x.2);have d:=xZ l;rw[XR _ _ (by omega),XR _ _ (by rw[nW];omega),aGy _ _ _ _ (by rw[aS];exact hi)] at this;unfold gO;rw[List.map_set];exact this
theorem gO.swap {w:World} {g:Nat} {l:List (Int×Int)} {R:List Value} (h:gO w g l R) {i j:Nat} (hi:i<l.length) (d:j<l.length):
  gO ((((w.setCell ⟨g,i*2,none⟩ (.int .i64 (l.getD j (0,0)).1)).setCell ⟨g,i*2+1,none⟩ (.int .i64 (l.getD j (0,0)).2)).setCell ⟨g,j*2,none⟩ (.int .i64 (l.getD i (0,0)).1)).setCell ⟨g,j*2+1,none⟩ (.int .i64 (l.getD i (0,0)).2)) g (pR l i j) R:=
 (h.put hi (l.getD j (0,0))).put (by rw[nW];exact d) (l.getD i (0,0))
abbrev rU:Value:=.func (.func 245) #[] #[]
def QU (w:World) (p B:Nat) (l:List (Int×Int)):Prop:=∃v,Arr w p 308 [v,rU]/\OwP w B 304 v (l.map pr)
theorem aGz {w:World} {B:Nat} {v:Value} {l:List (Int×Int)} (h:OwP w B 304 v (l.map pr)) (L:0<l.length):∃g cap R,v=.slice (some ⟨g,0,none⟩) l.length cap/\B<=g/\gO w g l R/\l.length<=cap/\cap<=maxLen/\(prC (l.map pr)++R).length=cap*2:=by
 obtain⟨M,h⟩:=h;rw[aS] at h;rcases h with⟨rfl,O⟩|⟨g,cap,A,rfl,F,G,H,I,J,d⟩
 ·omega
 ·refine⟨g,cap,A.toList.drop (l.length*2),rfl,F,?_,H,I,?_⟩
  ·unfold gO Arr;rw[<-d,kH,Array.toArray_toList];exact G
  ·rw[<-d,kH,Array.length_toList];exact J
theorem TS {w:World} {B g cap:Nat} {l:List (Int×Int)} {R:List Value} (d:gO w g l R) (A:B<=g) (F:l.length<=cap) (G:cap<=maxLen) (H:(prC (l.map pr)++R).length=cap*2):OwP w B 304 (.slice (some ⟨g,0,none⟩) l.length cap) (l.map pr):=by
 have e:=xZ l;refine⟨by rw[e,aS],.inr ⟨g,cap,(prC (l.map pr)++R).toArray,by rw[aS],A,d,by rw[aS];exact F,G,by simpa using H,?_⟩⟩;rw[aS];show(prC (l.map pr)++R).take (l.length*2)=_;rw[<-e,List.take_left'];rfl
def KQ (p:Nat) (w w':World):Prop:=w.heap.size<=w'.heap.size/\∀k o,w.heap[k]? =some o->k≠p->(∀c d,o≠.cells c 304 d)->w'.heap[k]? =some o
theorem KQ.refl (p:Nat) (w:World):KQ p w w:=⟨aD _,fun _ _ h _ _=>h⟩
theorem KQ.trans {p:Nat} {a b c:World} (h:KQ p a b) (k:KQ p b c):KQ p a c:=⟨aR h.1 k.1,fun i o hi d A=>k.2 i o (h.2 i o hi d A) d A⟩
theorem KQ.below {p:Nat} {w w':World} (h:Below w.heap.size w w'):KQ p w w':=⟨h.size,fun k _ d _ _=>(h.block k (fE.1 d).1).trans d⟩
theorem KQ.row {p g:Nat} {w w':World} {l:List (Int×Int)} {R:List Value} (d:gO w g l R) (h:w.grownBy w' (some g)):KQ p w w':=⟨h.size,fun k o A _ F=>by
 refine(h.block k (fE.1 A).1 (fun e=>?_)).trans A;obtain rfl:=cC e;unfold gO Arr at d;rw[A] at d;exact F _ _ (cC d)⟩
theorem KQ.app {p B:Nat} {w w':World} {v:Value} {L:List VV} (F:OwP w B 304 v L) (h:w.grownBy w' v.ownBlock):KQ p w w':=⟨h.size,fun k o d _ G=>by
 refine(h.block k (fE.1 d).1 (fun e=>?_)).trans d;rcases F.2 with⟨rfl,_⟩|⟨g,cap,H,rfl,_,A,_⟩
 ·cases e
 ·obtain rfl:=cC e;rw[d] at A;exact G _ _ (cC A)⟩
theorem KQ.box {p i:Nat} {w:World} (v:Value):KQ p w (w.setCell ⟨p,i,none⟩ v):=⟨by simp,fun k o d A _=>by rw[kF w ⟨p,i,none⟩ k v A];exact d⟩
theorem KQ.arr {p b e:Nat} {w w':World} {l:List Value} (h:KQ p w w') (d:Arr w b e l) (A:b≠p) (F:e≠304):Arr w' b e l:=h.2 b _ d A (fun c G q=>by injection q with _ q2;exact F q2)
theorem aZo (p B:Nat) (l:List (Int×Int)) (x:Int×Int) (w:World) (h:QU w p B l) (hp:p<B) (hB:B<=w.heap.size) (hl:l.length<=1000000):
  ∃(a:Option Addr) (n c g cap:Nat) (R:List Value) (d:World),
   (sA #[306,306] 306 #[.slice a n c,.slice (some ⟨w.heap.size+1,0,none⟩) 1 1]).run pG ((w.alloc (.cells #[.int .i64 x.1,.int .i64 x.2] 304)).alloc (.cells #[.int .i64 x.1,.int .i64 x.2] 304)).drew=.ok (.slice (some ⟨g,0,none⟩) (l.length+1) cap) d/\
   w.cell? ⟨p,0,none⟩=some (.slice a n c)/\(w.alloc (.cells #[.int .i64 x.1,.int .i64 x.2] 304)).cell? ⟨p,0,none⟩=some (.slice a n c)/\
   ((w.alloc (.cells #[.int .i64 x.1,.int .i64 x.2] 304)).alloc (.cells #[.int .i64 x.1,.int .i64 x.2] 304)).cell? ⟨p,0,none⟩=some (.slice a n c)/\
   d.cell? ⟨p,0,none⟩=some (.slice a n c)/\d.frozen? ⟨p,0,none⟩=false/\
   Arr (d.setCell ⟨p,0,none⟩ (.slice (some ⟨g,0,none⟩) (l.length+1) cap)) p 308 [.slice (some ⟨g,0,none⟩) (l.length+1) cap,rU]/\
   gO (d.setCell ⟨p,0,none⟩ (.slice (some ⟨g,0,none⟩) (l.length+1) cap)) g (l++[x]) R/\B<=g/\l.length+1<=cap/\cap<=maxLen/\(prC ((l++[x]).map pr)++R).length=cap*2/\
   Below p w (d.setCell ⟨p,0,none⟩ (.slice (some ⟨g,0,none⟩) (l.length+1) cap))/\KQ p w (d.setCell ⟨p,0,none⟩ (.slice (some ⟨g,0,none⟩) (l.length+1) cap)):=by
 obtain⟨v,G,H⟩:=h;obtain⟨o,I⟩:∃o:Obj,o=.cells #[.int .i64 x.1,.int .i64 x.2] 304:=⟨_,rfl⟩;rw[<-I];have J:Arr (w.alloc o).drew p 308 [v,rU]:=G.alloc _;have L:OwP (w.alloc o).drew B 304 v (l.map pr):=H.alloc _;have M:(w.alloc o).drew.heap.size=w.heap.size+1:=by simp
 have a1:Below w.heap.size w (w.alloc o).drew:=((aH _ w).alloc (aD _) _).drew;have A:=nN.new (w.alloc o).drew 304 (pr x);rw[M] at A;have O:=J.alloc o;obtain⟨v3,d,U,V,Z,a2⟩:=TG aZn (w:=(w.alloc o).drew.alloc o) 306 B v (l.map pr) (L.alloc o) _ [pr x] (by rw[I] at A ⊢;exact A) (fun q hq=>by obtain rfl:=cP.1 hq;exact⟨rfl,rfl⟩) (by simp;omega) (by rw[fP,M];omega);have F:=O.below Z hp;have a0:Below w.heap.size w ((w.alloc o).drew.alloc o):=a1.alloc (by omega) _;have a3:Below p w d:=(a0.mono (by omega)).trans (Z.mono (by omega))
 have a4:KQ p w d:=(KQ.below a0).trans (KQ.app (L.alloc o) a2);rw[show l.map pr++[pr x]=(l++[x]).map pr by simp] at V;obtain⟨g,cap,R,rfl,a5,hR,hc,hm,a6⟩:=aGz V (by simp);have e1:(l++[x]).length=l.length+1:=by simp
 rw[e1] at U hc;obtain⟨a,c,rfl,_⟩:=H.src.open;have a7:g≠p:=by omega
 exact⟨a,_,c,g,cap,R,d,U,G.cell (i:=0) rfl,J.cell (i:=0) rfl,O.cell (i:=0) rfl,F.cell (i:=0) rfl,F.free 0,F.set 0 _,Arr.other hR ⟨p,0,none⟩ (fun e=>a7 e.symm) _,a5,hc,hm,a6,a3.setCell (p:=⟨p,0,none⟩) (aD _) _,a4.trans (KQ.box _)⟩
theorem aG0 {w1 w2 w0:World} {d A F G H I:Addr} {J L M O U V:Value}
  (h:w1.cell? d=some J/\w1.cell? A=some L/\w1.cell? F=some M/\w1.cell? G=some O/\w1.cell? H=some U/\w1.cell? I=some V/\Below w0.heap.size w0 w1) (Z:Below w1.heap.size w1 w2):
  w2.cell? d=some J/\w2.cell? A=some L/\w2.cell? F=some M/\w2.cell? G=some O/\w2.cell? H=some U/\w2.cell? I=some V/\Below w0.heap.size w0 w2:=by
 obtain⟨h1,h2,h3,h4,h5,h6,h7⟩:=h;have k:∀{p:Addr} {v:Value},w1.cell? p=some v->w2.cell? p=some v:=fun{p} {v} hp=>(Z.cell (World.block_lt_of_cell? w1 p hp)).trans hp
 exact⟨k h1,k h2,k h3,k h4,k h5,k h6,h7.trans (Z.mono h7.size)⟩
theorem aZp {l:List (Int×Int)} {i j:Nat} (d:j<i) (hi:i<l.length):(pR l i j).Perm l:=by grind [pR,aGv]
theorem aZq (p B:Nat) (l:List (Int×Int)) (x:Int×Int) (w:World) (h:QU w p B l) (hh:oG l) (hp:p<B) (hB:B<=w.heap.size) (hl:l.length<=1000000):
  Calls pG 246 #[.pointer (some ⟨p,0,none⟩),.agg #[.int .i64 x.1,.int .i64 x.2]] w fun e w'=>e=.returned (.tuple #[])/\(∃l',QU w' p B l'/\oG l'/\l'.Perm (l++[x]))/\Below p w w'/\KQ p w w':=by
 obtain⟨a,n,c,g,cap,R,w3,a2,c0,ca,cb,c3,f3,A,d,b9,a3,c1,a9,H,J⟩:=aZo p B l x w h hp hB hl;have hU:=hid (pS.start hh x);have HP:=hid (GZ (l++[x]));have a4:=hid (show(l++[x]).length=l.length+1 by simp);obtain⟨M,c2⟩:∃M,M=l++[x]:=⟨_,rfl⟩;rw[<-c2] at hU HP a4 d a9 ⊢;have c4:=hid (show ∀L:List (Int×Int),L.length=M.length->(prC (L.map pr)++R).length=cap*2 from fun L hL=>by
  rw[<-a9,aL,aL,xZ,xZ,hL])
 have c5:=hid c1;have x0:=(Arr.new w 304 [.int .i64 x.1,.int .i64 x.2]).cell (i:=0) rfl;have x1:=(Arr.new w 304 [.int .i64 x.1,.int .i64 x.2]).cell (i:=1) rfl;obtain⟨k,hk⟩:∃k,k=l.length:=⟨_,rfl⟩;rw[<-hk] at a2 A d a3 hl H J a4 hU;obtain⟨N,hN⟩:∃N,N=k+1:=⟨_,rfl⟩;rw[<-hN] at a2 A d a3 H J a4;have m0:aJ.wrap ((N:Int)-1)=(k:Int):=by rw[aM];omega
 have d8:(N:Int)-1=(k:Int):=by omega
 have e8:N<=1000001:=by omega
 have HN:=hid hN;clear hh h c2 hk a9 c1 hN;go_enter func246,ntmps246;go_wp2_with fail
 go_region_law (refine sX rfl (.tmp 10) (.tmp 12) 306 rfl (.slice a n c) (.slice (some ⟨w.heap.size+1,0,none⟩) 1 1) (.slice (some ⟨g,0,none⟩) N cap) w3 (by simp[lL]) (by simp[lL]) a2 ?_)
 all_goals
  have d0:=A.cell (i:=0) rfl;have c6:=H.size;clear a2 c0 ca cb c3 f3 x0 x1;generalize w3.setCell ⟨p,0,none⟩ (.slice (some ⟨g,0,none⟩) N cap)=W at*
  go_wp2_with fail
  go_loopg [4,5] k (fun gm s4 _s5 wr=>∃(i:Nat) (L:List (Int×Int)),gm=i/\s4=.int .i64 (i:Int)/\i<N/\L.length=M.length/\Arr wr p 308 [.slice (some ⟨g,0,none⟩) N cap,rU]/\gO wr g L R/\pS L i/\L.Perm M/\Below p w wr/\KQ p w wr)
  case atStart=>exact⟨k,M,rfl,rfl,by have:=HN.out;omega,rfl,A,d,hU.out,HP.out,H,J⟩
  case round=>
   clear d0 A d H J c6 m0 d8;obtain⟨i,L,hg,rfl,d9,b0,A,d,c7,c8,H,J⟩:=hrel;have HG:=hid hg;have HL:=hid b0;have O:=hid (b0.trans a4.out);have HU:=hid c7;have b1:=hid c8;have c6:=H.size;have e1:g<wr.heap.size:=Arr.lt d;clear hg b0 c7 c8
   by_cases e2:0<i
   ·obtain⟨u,hu⟩:∃u,u=(i-1)/2:=⟨_,rfl⟩;have b2:=hid hu;have e3:u<i:=by omega
    have u1:decide ((i:Int)>0)=true:=aG (by omega);have u2:decide (0<(i:Int))=true:=aG (by omega);have m1:aJ.wrap ((i:Int)-1)=(i:Int)-1:=by rw[aM];omega
    have m2:((i:Int)-1).tdiv 2=(u:Int):=by rw[Int.tdiv_eq_ediv_of_nonneg (by omega)];omega
    have m3:aJ.wrap (((i:Int)-1).tdiv 2)=(u:Int):=by rw[m2,aM];omega
    have m4:aJ.wrap (u:Int)=(u:Int):=by rw[aM];omega
    have b3:i<L.length:=by rw[O.out];exact d9
    have b4:u<L.length:=by omega
    obtain⟨U,V⟩:=d.cells b3;obtain⟨Z,a0⟩:=d.cells b4;obtain⟨F,b5⟩:∃y,y=L.getD i (0,0):=⟨_,rfl⟩;obtain⟨G,b6⟩:∃y,y=L.getD u (0,0):=⟨_,rfl⟩;rw[<-b5] at U V;rw[<-b6] at Z a0;have a5:=hid b5;have a6:=hid b6;have a7:=hid b3;have c9:=hid b4;have d0:=A.cell (i:=0) rfl;have d1:=A.cell (i:=1) rfl;have q1:(i:Int)<(N:Int):=by omega
    have q2:(u:Int)<(N:Int):=by omega
    have q3:(0:Int)<=(i:Int):=by omega
    have q4:(0:Int)<=(u:Int):=by omega
    have e4:u<N:=by omega
    have e5:wr.drew.cell? ⟨p,0,none⟩=some (.slice (some ⟨g,0,none⟩) N cap)/\wr.drew.cell? ⟨p,1,none⟩=some rU/\wr.drew.cell? ⟨g,i*2,none⟩=some (.int .i64 F.1)/\wr.drew.cell? ⟨g,i*2+1,none⟩=some (.int .i64 F.2)/\wr.drew.cell? ⟨g,u*2,none⟩=some (.int .i64 G.1)/\wr.drew.cell? ⟨g,u*2+1,none⟩=some (.int .i64 G.2)/\Below wr.heap.size wr wr.drew:=⟨d0,d1,U,V,Z,a0,(aH _ _).drew⟩;obtain⟨T,hT⟩:∃T,T=decide (ahd F G):=⟨_,rfl⟩;have d2:∀W,Calls pG 245 #[.agg #[.int .i64 F.1,.int .i64 F.2],.agg #[.int .i64 G.1,.int .i64 G.2]] W fun e w'=>e=.returned (.bool T)/\Below W.heap.size W w':=fun W=>by
     rw[hT];exact aGw F.1 F.2 G.1 G.2 W
    have HT:=hid hT;clear hu b3 b4 b5 b6 hT d0 d1 U V Z a0;go_wp2_with fail
    go_region_held3 (fun w'=>w'.cell? ⟨p,0,none⟩=some (.slice (some ⟨g,0,none⟩) N cap)/\w'.cell? ⟨p,1,none⟩=some rU/\w'.cell? ⟨g,i*2,none⟩=some (.int .i64 F.1)/\w'.cell? ⟨g,i*2+1,none⟩=some (.int .i64 F.2)/\w'.cell? ⟨g,u*2,none⟩=some (.int .i64 G.1)/\w'.cell? ⟨g,u*2+1,none⟩=some (.int .i64 G.2)/\Below wr.heap.size wr w')
     (first
      |with_reducible assumption
      |with_reducible exact aG0 (by assumption) (by assumption))
     (first
      |(go_at_call 245;refine(d2 _).mono ?_;rintro e w6 ⟨rfl,d3⟩))
    all_goals
     have a1:Below wr.heap.size wr w6:=(aH _ wr).drew.trans d3;have a8:=A.below a1 (by omega);have I:gO w6 g L R:=Arr.below d a1 e1;have d4:=H.trans (a1.mono (by omega));have d5:=J.trans (KQ.below a1);clear e5 d3 a1 A d H J d2
     cases T with
     |true=>
      have e0:=a8.cell (i:=0) rfl;obtain⟨U,V⟩:=I.cells a7.out;obtain⟨Z,a0⟩:=I.cells c9.out;rw[<-a5.out] at U V;rw[<-a6.out] at Z a0;have e9:=Arr.free I (i*2);have f0:=Arr.free I (i*2+1);have f1:=Arr.free I (u*2);have f2:=Arr.free I (u*2+1);have b7:=hid (of_decide_eq_true HT.out.symm);go_wp2_with fail
      go_region
      all_goals
       go_wp2_with fail;have hg:=HG.out
       go_roundg u
       case measure=>omega
       case rel=>
        have d6:=I.swap a7.out c9.out;rw[<-a5.out,<-a6.out] at d6;have d7:=HU.out.step e2 a7.out (by rw[<-b2.out,<-a5.out,<-a6.out];exact b7.out);rw[<-b2.out] at d7;have e6:w6.grownBy w6.drew (some g):=qP ⟨rfl,rfl,rfl,aD _,fun _ _ _=>rfl⟩;have b8:=eU (eU (eU (eU e6 (gD _ g (i*2) (.int .i64 G.1))) (gD _ g (i*2+1) (.int .i64 G.2))) (gD _ g (u*2) (.int .i64 F.1))) (gD _ g (u*2+1) (.int .i64 F.2))
        exact⟨u,_,rfl,rfl,e4,(CN _ _ _).trans HL.out,a8.grown b8 (by simp;omega),d6,d7,(aZp e3 a7.out).trans b1.out,d4.grown b8 (nG a8.lt) (fun k hk=>by obtain rfl:=cC hk;omega),d5.trans (KQ.row I b8)⟩
     |false=>
      have b7:=hid (of_decide_eq_false HT.out.symm);go_wp2_with fail;refine⟨rfl,_,tI rfl _ _ _,?_⟩;have ho:=TS I b9 (by rw[O.out];exact a3) c5.out (c4.out L HL.out);rw[O.out] at ho;exact⟨rfl,⟨L,⟨_,a8,ho⟩,HU.out.stop (by rw[<-b2.out,<-a5.out,<-a6.out];exact b7.out),b1.out⟩,d4,d5⟩
   ·have u1:decide ((i:Int)>0)=false:=aE (by omega);have u2:decide (0<(i:Int))=false:=aE (by omega);have e7:=hid (show i=0 by omega);go_wp2_with fail;refine⟨rfl,_,tI rfl _ _ _,?_⟩;have ho:=TS d b9 (by rw[O.out];exact a3) c5.out (c4.out L HL.out);rw[O.out] at ho;exact⟨rfl,⟨L,⟨_,A,ho⟩,(e7.out▸HU.out:pS L 0).top,b1.out⟩,H,J⟩
end Go.Proofs.YtihbnmlinkbnkaaGreatDoor
