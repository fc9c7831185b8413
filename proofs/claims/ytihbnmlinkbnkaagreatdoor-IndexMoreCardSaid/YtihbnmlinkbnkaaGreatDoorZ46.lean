/-
  Texts put together (part 46): the walks and the plain laws on which the statement stands.
-/
import Derived.Deep.Upon
import Derived.Laws.OwnMore
import Derived.Test.YtihbnmlinkbnkaaGreatDoorZ43
set_option maxRecDepth 100000
set_option maxHeartbeats 12800000
set_option linter.unusedVariables false
set_option linter.unusedSimpArgs false
open Go.Proofs.Tryz
open Go.Proofs.Tryz renaming prog->pG
open Go renaming Operand->iF,wpList_plain->yK
open Go.Builtin renaming append_->sA
open Go.Oper renaming wp->nC
open Go.Result renaming andThen_ok->AR
open Go.RowKit.Below renaming refl->aH
open Go.Sem renaming run_bind->vI,run_pure->AQ
open List renaming getElem?_eq_getElem->aN,map_cons->kI,map_nil->vJ,map_toArray->AS,take_add_one->cG,take_of_length_le->cD
open Option.some renaming inj->cC
namespace Go.Proofs.YtihbnmlinkbnkaaGreatDoor
open Go.RowKit Go Go.Shelf
instance entDec : DecidableEq Ent := fun x y =>
  if h : x.a = y.a ∧ x.r = y.r ∧ x.f = y.f ∧ x.n = y.n ∧ x.y = y.y then isTrue (by
    obtain ⟨a, r, f, n, c⟩ := x
    obtain ⟨a', r', f', n', c'⟩ := y
    obtain ⟨h1, h2, h3, h4, h5⟩ := h
    dsimp only at h1 h2 h3 h4 h5
    rw [h1, h2, h3, h4, h5]) else isFalse (fun e => h (by rw [e]; exact ⟨rfl, rfl, rfl, rfl, rfl⟩))
def Prt.up (d:Nat) (p:Prt):Prt:=⟨p.t,p.y,p.a+(d:Int),p.z+(d:Int),p.r⟩
theorem aDx (r:Int) (d:Nat):∀(l:List ByteArray) (a:Nat),lB r (a+d) l=(lB r a l).map (Prt.up d)
 |[],_=>rfl
 |t::l,a=>by
  have A:=aDx r d l (a+(eJ t).length)
  grind [eJ,lB,Prt.up]
theorem aVl (d:Nat):∀(l:List (Nat×List ByteArray)) (a:Nat),kT (a+d) l=(kT a l).map (Prt.up d)
 |[],_=>rfl
 |p::l,a=>by
  unfold kT;rw[List.map_append,<-aDx,<-aVl d l,show a+d+32=a+32+d by omega,show a+d+(iD (cM p.1 p.2)).length=a+(iD (cM p.1 p.2)).length+d by omega]
theorem aVm:∀(x y:List (Nat×List ByteArray)) (a:Nat),kT a (x++y)=kT a x++kT (a+(dH x).length) y
 |[],y,a=>rfl
 |p::x,y,a=>by
  have d:(dH (p::x)).length=(iD (cM p.1 p.2)).length+(dH x).length:=by grind [iD,cM,dH,kT]
  show lB (40*(p.1:Int)) (a+32) p.2++kT (a+(iD (cM p.1 p.2)).length) (x++y)=(lB (40*(p.1:Int)) (a+32) p.2++kT (a+(iD (cM p.1 p.2)).length) x)++kT (a+(dH (p::x)).length) y;rw[aVm x y,d,List.append_assoc,Nat.add_assoc]
theorem aKp {A:Array Oper} {rest:List Oper} {o:Oper} {a:Act} {Q:Exit->Act->World->Prop} {w:World} (F:o.guard=none) (s x:iF)
  (G:o.op=.call {callee:=.builtin .append,args:=#[s,x],argTypes:=#[56,56]}) (base:Nat) (v:Value) (l:lC) (hs:a.eval s=v) (hown:OwR w base 73 5 v l)
  (p:Ent) (g:Nat) (hx:a.eval x=.slice (some ⟨g,0,none⟩) 1 1) (hA:Arr w g 73 (bG p)) (hroom:(l.length+1)*40<=140737488355328) (hbase:base<=w.heap.size)
  (h:∀d w',OwR w' base 73 5 d (l++[bG p])->Below base w w'->wpList pG A Q rest (a.put o.dst d) w'):wpList pG A Q (o::rest) a w:=by
 refine yK F fun K H=>?_
 obtain⟨d,w',I,J,L,M⟩:=LS AK o.type base v l hown _ _ (RdR.one hA) (yG [p]) (Nat.succ_pos _) hroom hbase;unfold nC execOp;simp only[G,resolve,invoke,builtin,vI,AQ,AR,AS,kI,vJ,hs,hx,I];exact H _ _ (h d w' J L)
theorem aKu (x y:Ent) (w:World):(Op.equalIn 10000 73 (.agg #[.int .i64 x.a,.int .i64 x.r,.int .i64 x.f,.int .i64 x.n,.int .u32 x.y]) (.agg #[.int .i64 y.a,.int .i64 y.r,.int .i64 y.f,.int .i64 y.n,.int .u32 y.y])).run pG w=.ok (decide (x=y)) w:=by
 obtain⟨a,r,f,n,c⟩:=x;obtain⟨d,A,f',F,G⟩:=y;have V:=underlying3;have Z:=Tryz.isAgg3;have z3:=Tryz.sizeOf3;have u4:=underlying44;have a4:=Tryz.isAgg44;have z4:=Tryz.sizeOf44;have H:pG.underlying 73=some (.struct (pG.fieldsOf 73)):=by kernel_rfl
 have I:pG.stoodInHeld 73=false:=by kernel_rfl
 rw[show(10000:Nat)=9999+1 from rfl,run_equalIn_agg w 9999 _ _ _ H I];simp only[Program.fieldsOf,underlying73];go_simp
 by_cases J:a=d<;>by_cases L:r=A<;>by_cases M:f=f'<;>by_cases O:n=F<;>by_cases U:c=G<;>simp[J,L,M,O,U]
theorem bHi (u v:Value) (l m:List Ent) (w:World) (hu:RdR w u (l.map bG)) (hv:RdR w v (m.map bG)) (hl:l.length<=1000000) (hm:m.length<=1000000):
  Calls pG 37 #[u,v] w fun e w'=>e=.returned (.bool (decide (l=m)))/\Below w.heap.size w w':=by
 obtain⟨a,ca,rfl,a5,a6,M⟩:=nS hu;obtain⟨b,cb,rfl,b0,a7,hB⟩:=nS hv;unfold maxLen at a6 a7;obtain⟨R,O⟩:∃R:Bool,R=decide (l=m):=⟨_,rfl⟩;rw[<-O];have U:=hid O;clear O hu hv
 by_cases L:l.length=m.length
 rotate_left
 ·obtain rfl:R=false:=by rw[U.out];exact aE (fun h=>L (by rw[h]))
  have t1:((l.length:Int) != (m.length:Int))=true:=bne_iff_ne.2 (by omega);go_enter func37,ntmps37;go_wp2_with fail;go_ret;exact⟨rfl,aH _ _⟩
 have t0:((m.length:Int) != (m.length:Int))=false:=by simp
 rw[L] at M a5 hl ⊢;have HL:=hid L;clear L;go_enter func37,ntmps37;go_wp2_with fail;clear t0
 go_loopg [5] m.length (fun g s5 wr=>∃k:Nat,k<=m.length/\g=m.length-k/\s5=.int .i64 (k:Int)/\Hid (l.take k=m.take k)/\Below w.heap.size w wr)
 case atStart=>exact⟨0,Nat.zero_le _,rfl,rfl,hid rfl,aH _ _⟩
 case round=>
  obtain⟨k,hk,V,rfl,HT,d⟩:=hrel;have HG:=hid V;clear V
  by_cases a1:k<m.length
  ·have t1:decide ((k:Int)<(m.length:Int))=true:=aG (by omega);obtain⟨A,F,rfl,G,a2⟩:=M (by omega);obtain⟨H,I,rfl,J,a3⟩:=hB (by omega);have a8:k<l.length:=by rw[HL.out];exact a1
   obtain⟨x,Z⟩:∃x,l[k]? =some x:=⟨_,aN a8⟩;obtain⟨y,hy⟩:∃y,m[k]? =some y:=⟨_,aN a1⟩;obtain⟨x0,x1,x2,x3,x4⟩:=a2 k x Z;obtain⟨y0,y1,y2,y3,y4⟩:=a3 k y hy;have c0:=(d.cell (p:=⟨A,F+k*5,none⟩) G).trans x0;have c1:=(d.cell (p:=⟨A,F+k*5+1,none⟩) G).trans x1;have c2:=(d.cell (p:=⟨A,F+k*5+2,none⟩) G).trans x2;have c3:=(d.cell (p:=⟨A,F+k*5+3,none⟩) G).trans x3;have c4:=(d.cell (p:=⟨A,F+k*5+4,none⟩) G).trans x4;have d0:=(d.cell (p:=⟨H,I+k*5,none⟩) J).trans y0;have d1:=(d.cell (p:=⟨H,I+k*5+1,none⟩) J).trans y1;have d2:=(d.cell (p:=⟨H,I+k*5+2,none⟩) J).trans y2
   have d3:=(d.cell (p:=⟨H,I+k*5+3,none⟩) J).trans y3;have d4:=(d.cell (p:=⟨H,I+k*5+4,none⟩) J).trans y4;have hq:=fun W=>aKu x y W
   obtain⟨B,a0⟩:∃B:Bool,B=decide (x=y):=⟨_,rfl⟩;rw[<-a0] at hq;have a4:=hid a0;have HX:=hid Z;have HY:=hid hy;obtain⟨xa,xr,xf,xn,xy⟩:=x;obtain⟨ya,yr,yf,yn,yy⟩:=y;dsimp only at c0 c1 c2 c3 c4 d0 d1 d2 d3 d4 hq;clear x0 x1 x2 x3 x4 y0 y1 y2 y3 y4 a2 a3 Z hy M hB a0
   cases B with
   |true=>
    have a9:=hid (show l.take (k+1)=m.take (k+1) by
     have e:=of_decide_eq_true a4.out.symm;rw[cG,cG,HT.out,HX.out,HY.out,e])
    go_wp2_with fail
    go_quiet (fail)
    go_wp2_with fail;have V:=HG.out
    go_roundg (m.length-(k+1))
    case measure=>omega
    case rel=>exact⟨k+1,by omega,rfl,by go_num,a9,below_drewN d _⟩
   |false=>
    obtain rfl:R=false:=by
     rw[U.out];refine aE (fun h=>of_decide_eq_false a4.out.symm ?_);have h1:=HX.out;rw[h,HY.out] at h1;exact(cC h1).symm
    go_wp2_with fail
    go_quiet (fail)
    go_wp2_with fail;go_ret;exact⟨rfl,below_drewN d _⟩
  ·have t1:decide ((k:Int)<(m.length:Int))=false:=aE (by omega);obtain rfl:R=true:=by
    rw[U.out];refine aG ?_;have h:=HT.out;rwa[cD (by rw[HL.out];omega),cD (by omega)] at h
   go_wp2_with fail;go_ret;exact⟨rfl,d⟩
theorem bFn (a:Option Addr) (c:Nat) (w:World):Src pG 5 56 (.slice a 0 c) 0 [] w:=by
 cases a with
 |none=>exact Src.ofNil w underlying56 c
 |some a=>exact Src.ofSlice w underlying56 a 0 c [] rfl (fun j u h=>by simp at h) (fun u h=>by simp at h)
theorem aKy (b:Option Addr) (n m:Nat) (F:n<=m) (a:Option Addr) (c:Nat) (d:TypeId) (w:World):(sA #[56,56] d #[.slice b n m,.slice a 0 c]).run pG w=.ok (.slice b n m) w:=by
 obtain⟨i,hi,H,G,I⟩:=AK.info;have A:=bFn a c w;rw[<-G] at A;exact run_append_nothing w _ _ d _ i underlying56 hi b n m F _ A
theorem bFp {A:Array Oper} {rest:List Oper} {o:Oper} {a:Act} {Q:Exit->Act->World->Prop} {w:World} (F:o.guard=none) (s x:iF)
  (G:o.op=.call {callee:=.builtin .append,args:=#[s,x],argTypes:=#[56,56]}) (hs:a.eval s=.slice none 0 0)
  (sv:Value) (hx:a.eval x=sv) (l:List Ent) (hsrc:RdR w sv (l.map bG)) (hl0:0<l.length) (hl:l.length<=1000)
  (h:∀g cap w',OwR w' w.heap.size 73 5 (.slice (some ⟨g,0,none⟩) l.length cap) (l.map bG)->Below w.heap.size w w'->wpList pG A Q rest (a.put o.dst (.slice (some ⟨g,0,none⟩) l.length cap)) w'):wpList pG A Q (o::rest) a w:=by
 refine yK F fun K H=>?_
 obtain⟨I,w',J,d,L,M⟩:=LS AK o.type w.heap.size (.slice none 0 0) [] (OwR.nil _ _ _ _) _ _ hsrc (yG l) (by grind) (by grind) (Nat.le_refl _);rw[List.nil_append] at d;obtain⟨g,cap,rfl⟩:∃g cap,I=.slice (some ⟨g,0,none⟩) l.length cap:=by
  have q:=d;unfold OwR at q;rw[List.length_map] at q;rcases q.2 with⟨_,O⟩|⟨g,cap,_,rfl,_⟩
  ·omega
  simp
 unfold nC execOp;simp only[G,resolve,invoke,builtin,vI,AQ,AR,AS,kI,vJ,hs,hx,J];exact H _ _ (h g cap w' d L)
theorem bFu {d:Array Oper} {rest:List Oper} {o:Oper} {a:Act} {Q:Exit->Act->World->Prop} {w:World} (A:o.guard=none) (s x:iF)
  (F:o.op=.call {callee:=.builtin .append,args:=#[s,x],argTypes:=#[56,56]}) (v sv v':Value) (w':World) (hs:a.eval s=v) (hx:a.eval x=sv)
  (hr:(sA #[56,56] o.type #[v,sv]).run pG w=.ok v' w') (h:wpList pG d Q rest (a.put o.dst v') w'):wpList pG d Q (o::rest) a w:=by
 refine yK A fun K G=>?_
 unfold nC execOp;simp only[F,resolve,invoke,builtin,vI,AQ,AR,AS,kI,vJ,hs,hx,hr];exact G _ _ h
end Go.Proofs.YtihbnmlinkbnkaaGreatDoor
