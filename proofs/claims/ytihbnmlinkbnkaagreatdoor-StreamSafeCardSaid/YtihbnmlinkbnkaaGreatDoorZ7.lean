/-
  Texts put together (part 7): the walks and the plain laws on which the statement stands.
-/
import Derived.Defers
import Derived.Recover
import Derived.Shelf.Abstract
import Derived.Laws.ResultCell
import Derived.Maps.AppendAt
import Derived.Test.YtihbnmlinkbnkaaGreatDoorZ6
set_option maxRecDepth 100000
set_option maxHeartbeats 12800000
set_option linter.unusedVariables false
set_option linter.unusedSimpArgs false
open Go.Proofs.Tryz
open Go.Proofs.Tryz renaming prog->pG
open Go renaming Operand->iF,Program->fO,bodyPost_ret->fM,run_loadVar_row->WR
open Go.Addr renaming add->gP
open Go.Instr renaming makeFunc->AX
open Go.IntKind renaming i64->aJ,u64->eZ,wrap_i64->aM,wrap_u64->fC
open Go.Result renaming andThen->lW
open Go.RowKit.Below renaming refl->aH
open Go.Value renaming int->bQ
open Go.World renaming size_alloc->fP
open Go.World.ownsRow renaming alloc->WK
open List renaming append_assoc->bU,getD_eq_getElem?_getD->bV,getElem?_eq_getElem->aN,length_append->aL,length_take->aQ,mem_of_getElem?->cN,take_add_one->cG,take_of_length_le->cD,take_zero->wX
open Nat renaming le_refl->aD,lt_of_lt_of_le->fB,mul_assoc->DK,mul_comm->pE,pow_le_pow_right->nF,pow_pos->DN,pow_succ->oP,zero_le->aO
namespace Go.Proofs.YtihbnmlinkbnkaaGreatDoor
section
open Go.RowKit Go
theorem WrS.below {w w':World} {p B:Nat} {l:List Bool} (h:WrS w p B l) (d:Below w.heap.size w w'):WrS w' p B l:=by
 obtain⟨v,A,F⟩:=h;exact⟨v,A.below d A.lt,Ow.below F d (aD _)⟩
theorem WrS.alloc {w:World} {p B:Nat} {l:List Bool} (h:WrS w p B l) (o:Obj):WrS (w.alloc o) p B l:=by
 obtain⟨v,d,A⟩:=h;exact⟨v,d.alloc o,Ow.alloc A o⟩
theorem WrS.lt {w:World} {p B:Nat} {l:List Bool} (h:WrS w p B l):p<w.heap.size:=by
 obtain⟨v,d,_⟩:=h;exact d.lt
theorem aEi (p B:Nat) (l m:List Bool) (w:World) (h:WrS w p B l) (hp:p<B) (hB:B<=w.heap.size) (hl:l.length+m.length<=1000000):
  Calls pG 94 #[.pointer (some ⟨p,0,none⟩),.agg #[.string (mkS (aI m)),.int .i64 (m.length:Int)]] w fun e w'=>e=.returned (.tuple #[])/\WrS w' p B (l++m)/\Below p w w'/\rR w w':=by
 have a7:(mkS (aI m)).size=(m.length+7)/8:=by rw[cS,iJ]
 have b4:=h.lt;go_enter func94,ntmps94;go_wp2_with fail;have H:=Arr.new w 79 [.string (mkS (aI m)),.int .i64 (m.length:Int)];have a0:Below w.heap.size w (w.alloc (.cells #[.string (mkS (aI m)),.int .i64 (m.length:Int)] 79)):=bD (aH _ _) _;have hW:=h.alloc (.cells #[.string (mkS (aI m)),.int .i64 (m.length:Int)] 79);change Arr (w.alloc (.cells #[.string (mkS (aI m)),.int .i64 (m.length:Int)] 79)) _ _ _ at H;generalize w.alloc (.cells #[.string (mkS (aI m)),.int .i64 (m.length:Int)] 79)=w0 at*
 refine(aWd m w0 (by omega)).mono ?_;rintro e w1 ⟨rfl,I⟩;have J:=H.below I H.lt;have a8:=hW.below I;have a1:=aW a0 I;have a9:rR w w1:=fun d A F=>F.below a1 F.lt
 have O:=J.cell (i:=0) rfl;have c1:=J.cell (i:=1) rfl;clear H hW a0 I h;have b0:m.length<=8*(mkS (aI m)).size:=by omega
 have a2:(mkS (aI m)).size<=140737488355328:=by omega
 have HB:=hid (fun k (hk:k<m.length)=>show dO (mkS (aI m)).data.toList k=m[k] by rw[dP,tR,bV,aN hk];rfl);obtain⟨s,hs⟩:∃s,s=mkS (aI m):=⟨_,rfl⟩;rw[<-hs] at O HB b0 a2 J ⊢;clear hs a7;go_wp2_with fail
 go_loopg [4,12] m.length (fun g _s4 b1 wr=>∃k:Nat,k<=m.length/\g=m.length-k/\b1=.int .i64 (k:Int)/\WrS wr p B (l++m.take k)/\Below p w wr/\rR w wr/\Arr wr w.heap.size 79 [.string s,.int .i64 (m.length:Int)])
 case atStart=>exact⟨0,aO _,rfl,rfl,by rw[wX,List.append_nil];exact a8,a1.mono (by omega),a9,J⟩
 case round=>
  obtain⟨k,hk,L,rfl,U,M,V,Z⟩:=hrel;have HG:=hid L;clear L O c1;have O:=Z.cell (i:=0) rfl
  by_cases a3:k<m.length
  ·have t1:decide ((k:Int)<(m.length:Int))=true:=aG (by omega);have b5:=M.size;have b2:(l++m.take k).length<=1000000:=by rw[aL,aQ];omega
   have HT:=hid (show m.take (k+1)=m.take k++[m[k]] by rw[cG,aN a3];rfl);obtain⟨b,hb⟩:∃b,b=m[k]:=⟨_,rfl⟩;have a4:=HB.out k a3;rw[<-hb] at a4;have a5:=aEh p B _ b wr U hp (by omega) b2;have a6:=hid hb;have b3:k<8*s.size:=by omega
   clear hb;go_wp2_with fail;refine(SV s k _ b3 a2).mono ?_;rintro e w2 ⟨rfl,rfl⟩;rw[a4]
   cases b with
   |true=>
    have z:((xU true:Nat):Int)=128:=rfl;rw[z];go_wp2_with fail;refine a5.mono ?_;rintro e w3 ⟨rfl,k1,k2,G⟩;go_wp2_with fail;have L:=HG.out
    go_roundg (m.length-(k+1))
    case measure=>omega
    case rel=>exact⟨k+1,by omega,rfl,by go_num,by rw[HT.out,<-bU,<-a6.out];exact k1,M.trans k2,fun d A F=>G d A (V d A F),G _ _ Z⟩
   |false=>
    have z:((xU false:Nat):Int)=0:=rfl;rw[z];go_wp2_with fail;refine a5.mono ?_;rintro e w3 ⟨rfl,k1,k2,G⟩;go_wp2_with fail;have L:=HG.out
    go_roundg (m.length-(k+1))
    case measure=>omega
    case rel=>exact⟨k+1,by omega,rfl,by go_num,by rw[HT.out,<-bU,<-a6.out];exact k1,M.trans k2,fun d A F=>G d A (V d A F),G _ _ Z⟩
  ·have t1:decide ((k:Int)<(m.length:Int))=false:=aE (by omega);rw[cD (by omega)] at U;go_wp2_with fail
   go_end0
   exact⟨rfl,U,M,V⟩
end
section
open Go.RowKit Go Go.Shelf
def fT (l:List Bool):Value:=.agg #[.string (mkS (aI l)),.int .i64 (l.length:Int)]
theorem aWe {P:fO} {G:Func} {p q:Tmp} {A H:TypeId} (h:G.results=#[.cell p A,.cell q H]) (tmps:Array Value) (w:World) (g:Nat) (t:TypeId) (F:Array Value) (I:Nat×Nat) (d:TypeDesc)
  (J:tmps.getD p undef=.pointer (some ⟨g,0,none⟩)) (L:w.heap[g]? =some (.cells F t I))
  (M:P.underlying A=some d) (O:(match d with|.struct _|.array _ _=>true|_=>false)=true) (hi:(P.info? A).map (·.size)=some F.size)
  (b:Addr) (v:Value) (U:tmps.getD q undef=.pointer (some b)) (V:(loadVar H b).run P w=.ok v w):
  (results G tmps).run P w=.ok (.tuple #[.agg F,v]) w:=by
 have Z:tmps[p]?.getD undef=.pointer (some ⟨g,0,none⟩):=by simpa using J
 have a0:tmps[q]?.getD undef=.pointer (some b):=by simpa using U
 simp[results,h,Z,a0,asAddr,WR w g t A F I d L M O hi,V,lW]
theorem uS {P:fO} {G:Func} {p u:Tmp} {A:TypeId} (h:G.results=#[.cell p A,.tmp u]) (tmps:Array Value) (w:World) (g:Nat) (t:TypeId) (F:Array Value) (H:Nat×Nat) (d:TypeDesc)
  (I:tmps.getD p undef=.pointer (some ⟨g,0,none⟩)) (J:w.heap[g]? =some (.cells F t H))
  (L:P.underlying A=some d) (M:(match d with|.struct _|.array _ _=>true|_=>false)=true) (hi:(P.info? A).map (·.size)=some F.size):
  (results G tmps).run P w=.ok (.tuple #[.agg F,tmps.getD u undef]) w:=by
 rw[results_cell_tmp h,I];simp[asAddr,lW,WR w g t A F H d J L M hi]
theorem aWf (p q:Addr) (w:World):
  CallsD pG 152 #[.pointer (some p),.pointer (some q)] .returning w fun e d w'=>e=.returned (.tuple #[])/\d=.returning/\w'=w:=by
 refine callsD_of_wpS func152 rfl fun A G F=>?_
 apply wpS_seq;apply wpS_region;simp[wpOpsS,go_sem,recoverD,F,ntmps152,Exit.thenS];refine wpS_of_wp ?_;go_wp2
 cases A
 simp_all [bodyPostS,results,f152]
def aWg (w0:World) (g:Nat) (A:Array Value) (l:List Bool):Prop:=
 ∀W p B,Below w0.heap.size w0 W->w0.heap.size<=p->p<B->B<=W.heap.size->WrS W p B []->
  Calls pG g (#[.pointer (some ⟨p,0,none⟩)]++A) W fun e d=>e=.returned (.tuple #[])/\WrS d p B l/\Below p W d/\rR W d
theorem aEj (g:Nat) (M:Array Value) (l:List Bool) (w:World) (O:Enters pG g) (U:aWg w g M l) (_hl:l.length<=1000000):
  Calls pG 92 #[.func (.func g) #[] M] w fun e w'=>e=.returned (.tuple #[fT l,.int .i64 0])/\Below w.heap.size w w':=by
 have a3:∀(V:Fn) (first cap:Array Value) (w:World),(AX V first cap).run pG w=.ok (.func V first cap) w:=fun _ _ _ _=>rfl
 have hE:∀args W,(callFunc g args).run pG W=.ok (.enter g args) W:=O;have Z:=hid U;clear U O
 go_enter_defers func92,ntmps92
 go_wp2_with fail;have k0:Arr ((w.alloc (.cells #[.string ⟨#[]⟩,.int .i64 0] 79)).alloc (.cells #[.int .i64 0] 29)) w.heap.size 79 [.string ⟨#[]⟩,.int .i64 0]:=(Arr.new w 79 [.string ⟨#[]⟩,.int .i64 0]).alloc _;have k1:=Arr.new (w.alloc (.cells #[.string ⟨#[]⟩,.int .i64 0] 79)) 29 [.int .i64 0];have A:=Arr.new ((w.alloc (.cells #[.string ⟨#[]⟩,.int .i64 0] 79)).alloc (.cells #[.int .i64 0] 29)) 210 [.slice none 0 0,.int .i64 0];have H:Below w.heap.size w (((w.alloc (.cells #[.string ⟨#[]⟩,.int .i64 0] 79)).alloc (.cells #[.int .i64 0] 29)).alloc (.cells #[.slice none 0 0,.int .i64 0] 210)):=
  (((aH _ w).alloc (aD _) _).alloc (by simp) _).alloc (by simp;omega) _
 have a0:(((w.alloc (.cells #[.string ⟨#[]⟩,.int .i64 0] 79)).alloc (.cells #[.int .i64 0] 29)).alloc (.cells #[.slice none 0 0,.int .i64 0] 210)).heap.size=w.heap.size+1+1+1:=by simp
 have h0:=k0.alloc (.cells #[.slice none 0 0,.int .i64 0] 210);have F:=k1.alloc (.cells #[.slice none 0 0,.int .i64 0] 210);rw[fP] at F;rw[fP,fP] at A;clear k0 k1;change Arr (((w.alloc (.cells #[.string ⟨#[]⟩,.int .i64 0] 79)).alloc (.cells #[.int .i64 0] 29)).alloc (.cells #[.slice none 0 0,.int .i64 0] 210)) _ _ _ at A;change Arr (((w.alloc (.cells #[.string ⟨#[]⟩,.int .i64 0] 79)).alloc (.cells #[.int .i64 0] 29)).alloc (.cells #[.slice none 0 0,.int .i64 0] 210)) _ _ _ at F
 generalize (((w.alloc (.cells #[.string ⟨#[]⟩,.int .i64 0] 79)).alloc (.cells #[.int .i64 0] 29)).alloc (.cells #[.slice none 0 0,.int .i64 0] 210))=w0 at*
 refine(Z.out w0 (w.heap.size+1+1) (w.heap.size+1+1+1) H (by omega) (by omega) (by omega) ⟨_,A,Ow.nil _ _ _⟩).mono ?_;rintro e w1 ⟨rfl,⟨v,I,J⟩,G,_⟩;have d:=h0.below G (by omega);have L:=F.below G (by omega);have a1:=H.trans (G.mono (by omega));clear h0 F A G H a0 Z;obtain⟨a,n,c,rfl,HN,a4,a5⟩:=J.openN;have a6:(convert 48 9 (.slice a n c)).run pG w1=.ok (.string (mkS (aI l))) w1:=mP J.rd;have c0:=I.cell (i:=0) rfl;have c1:=I.cell (i:=1) rfl;have f0:=d.free 0;have f1:=d.free 1;have g0:=L.free 0;have d0:=d.cell (i:=0) rfl;have d1:=d.cell (i:=1) rfl;have d2:=L.cell (i:=0) rfl
 clear J I;go_wp2_with fail;refine leaves_cons (f:=152) (args:=#[.pointer (some ⟨w.heap.size,0,none⟩),.pointer (some ⟨w.heap.size+1,0,none⟩)]) (by simp) (by simp[go_sem]) ?_;refine(aWf ⟨w.heap.size,0,none⟩ ⟨w.heap.size+1,0,none⟩ _).mono ?_;rintro e u' a7 ⟨rfl,rfl,rfl⟩;have z0:Arr (((w1.setCell ⟨w.heap.size,0,none⟩ (.string (mkS (aI l)))).setCell ⟨w.heap.size,1,none⟩ (.int .i64 (l.length:Int))).setCell ⟨w.heap.size+1,0,none⟩ (.int .i64 0)) w.heap.size 79 [.string (mkS (aI l)),.int .i64 (l.length:Int)]:=
  ((d.set 0 _).set 1 _).other ⟨w.heap.size+1,0,none⟩ (by simp) _
 have z1:Arr (((w1.setCell ⟨w.heap.size,0,none⟩ (.string (mkS (aI l)))).setCell ⟨w.heap.size,1,none⟩ (.int .i64 (l.length:Int))).setCell ⟨w.heap.size+1,0,none⟩ (.int .i64 0)) (w.heap.size+1) 29 [.int .i64 0]:=
  ((L.other ⟨w.heap.size,0,none⟩ (by simp) _).other ⟨w.heap.size,1,none⟩ (by simp) _).set 0 _
 have a2:Below w.heap.size w (((w1.setCell ⟨w.heap.size,0,none⟩ (.string (mkS (aI l)))).setCell ⟨w.heap.size,1,none⟩ (.int .i64 (l.length:Int))).setCell ⟨w.heap.size+1,0,none⟩ (.int .i64 0)):=
  ((a1.setCell (p:=⟨w.heap.size,0,none⟩) (aD _) _).setCell (p:=⟨w.heap.size,1,none⟩) (aD _) _).setCell (p:=⟨w.heap.size+1,0,none⟩) (Nat.le_succ _) _
 have z2:=z1.cell (i:=0) rfl;generalize ((w1.setCell ⟨w.heap.size,0,none⟩ (.string (mkS (aI l)))).setCell ⟨w.heap.size,1,none⟩ (.int .i64 (l.length:Int))).setCell ⟨w.heap.size+1,0,none⟩ (.int .i64 0)=w2 at*
 refine⟨_,aWe rfl _ _ w.heap.size _ _ (0,0) _ rfl z0 underlying79 rfl rQ ⟨w.heap.size+1,0,none⟩ (.int .i64 0) rfl (by simp[go_sem,z2]),rfl,a2⟩
theorem aWh (G bv d:Nat) (l:List Bool) (v n:Nat) (W:World) (p B:Nat) (H:Arr W G 79 [.string (mkS (aI l)),.int .i64 (l.length:Int)]) (O:W.cell? ⟨bv,0,none⟩=some (.int .u64 (v:Int))) (U:W.cell? ⟨d,0,none⟩=some (.int .i64 (n:Int)))
  (V:bv<p) (Z:d<p) (hv:v<18446744073709551616) (hn:n<=64) (hl:l.length<=900000) (I:p<B) (hB:B<=W.heap.size) (J:WrS W p B []):
  Calls pG 93 #[.pointer (some ⟨p,0,none⟩),.pointer (some ⟨G,0,none⟩),.pointer (some ⟨bv,0,none⟩),.pointer (some ⟨d,0,none⟩)] W fun e F=>e=.returned (.tuple #[])/\WrS F p B (l++aT v n)/\Below p W F/\rR W F:=by
 have c0:=H.cell (i:=0) rfl;have c1:=H.cell (i:=1) rfl;have L:=aEi p B [] l W J I hB (by simp;omega);rw[List.nil_append] at L;clear J;go_enter func93,ntmps93;go_wp2_with fail;refine L.mono ?_;rintro e w1 ⟨rfl,k1,A,k3⟩;have c2:=(A.cell (p:=⟨bv,0,none⟩) V).trans O;have c3:=(A.cell (p:=⟨d,0,none⟩) Z).trans U;have a0:=aWc p B l v n w1 k1 I (by have:=A.size;omega) (by omega) hv hn;go_wp2_with fail;refine a0.mono ?_;rintro e w2 ⟨rfl,j1,j2,j3⟩;go_wp2_with fail
 go_end0
 exact⟨rfl,j1,A.trans j2,fun g M hg=>j3 g M (k3 g M hg)⟩
theorem wL (l:List Bool) (v n:Nat) (w:World) (U:v<18446744073709551616) (V:n<=64) (Z:l.length<=900000):
  Calls pG 53 #[fT l,.int .u64 (v:Int),.int .i64 (n:Int)] w fun e w'=>e=.returned (.tuple #[fT (l++aT v n),.int .i64 0])/\Below w.heap.size w w':=by
 have a5:∀(L:Fn) (first cap:Array Value) (w:World),(AX L first cap).run pG w=.ok (.func L first cap) w:=fun _ _ _ _=>rfl
 unfold fT;go_enter func53,ntmps53;go_wp2_with fail;have M:Below w.heap.size w ((((w.alloc (.cells #[.string (mkS (aI l)),.int .i64 (l.length:Int)] 79)).alloc (.cells #[.int .u64 (v:Int)] 85)).alloc (.cells #[.int .i64 (n:Int)] 3)).alloc (.cells #[.string ⟨#[]⟩,.int .i64 0] 79)):=
  ((((aH _ w).alloc (aD _) _).alloc (by simp) _).alloc (by simp;omega) _).alloc (by simp;omega) _
 have a0:((((w.alloc (.cells #[.string (mkS (aI l)),.int .i64 (l.length:Int)] 79)).alloc (.cells #[.int .u64 (v:Int)] 85)).alloc (.cells #[.int .i64 (n:Int)] 3)).alloc (.cells #[.string ⟨#[]⟩,.int .i64 0] 79)).heap.size=w.heap.size+1+1+1+1:=by simp
 have H:=(((Arr.new w 79 [.string (mkS (aI l)),.int .i64 (l.length:Int)]).alloc (.cells #[.int .u64 (v:Int)] 85)).alloc (.cells #[.int .i64 (n:Int)] 3)).alloc (.cells #[.string ⟨#[]⟩,.int .i64 0] 79);have d:=((Arr.new (w.alloc (.cells #[.string (mkS (aI l)),.int .i64 (l.length:Int)] 79)) 85 [.int .u64 (v:Int)]).alloc (.cells #[.int .i64 (n:Int)] 3)).alloc (.cells #[.string ⟨#[]⟩,.int .i64 0] 79)
 have A:=(Arr.new ((w.alloc (.cells #[.string (mkS (aI l)),.int .i64 (l.length:Int)] 79)).alloc (.cells #[.int .u64 (v:Int)] 85)) 3 [.int .i64 (n:Int)]).alloc (.cells #[.string ⟨#[]⟩,.int .i64 0] 79);have F:=Arr.new (((w.alloc (.cells #[.string (mkS (aI l)),.int .i64 (l.length:Int)] 79)).alloc (.cells #[.int .u64 (v:Int)] 85)).alloc (.cells #[.int .i64 (n:Int)] 3)) 79 [.string ⟨#[]⟩,.int .i64 0];simp only[fP] at d A F
 change Arr ((((w.alloc (.cells #[.string (mkS (aI l)),.int .i64 (l.length:Int)] 79)).alloc (.cells #[.int .u64 (v:Int)] 85)).alloc (.cells #[.int .i64 (n:Int)] 3)).alloc (.cells #[.string ⟨#[]⟩,.int .i64 0] 79)) _ _ _ at H;change Arr ((((w.alloc (.cells #[.string (mkS (aI l)),.int .i64 (l.length:Int)] 79)).alloc (.cells #[.int .u64 (v:Int)] 85)).alloc (.cells #[.int .i64 (n:Int)] 3)).alloc (.cells #[.string ⟨#[]⟩,.int .i64 0] 79)) _ _ _ at d
 change Arr ((((w.alloc (.cells #[.string (mkS (aI l)),.int .i64 (l.length:Int)] 79)).alloc (.cells #[.int .u64 (v:Int)] 85)).alloc (.cells #[.int .i64 (n:Int)] 3)).alloc (.cells #[.string ⟨#[]⟩,.int .i64 0] 79)) _ _ _ at A;change Arr ((((w.alloc (.cells #[.string (mkS (aI l)),.int .i64 (l.length:Int)] 79)).alloc (.cells #[.int .u64 (v:Int)] 85)).alloc (.cells #[.int .i64 (n:Int)] 3)).alloc (.cells #[.string ⟨#[]⟩,.int .i64 0] 79)) _ _ _ at F
 generalize ((((w.alloc (.cells #[.string (mkS (aI l)),.int .i64 (l.length:Int)] 79)).alloc (.cells #[.int .u64 (v:Int)] 85)).alloc (.cells #[.int .i64 (n:Int)] 3)).alloc (.cells #[.string ⟨#[]⟩,.int .i64 0] 79))=w0 at*
 refine(aEj 93 #[.pointer (some ⟨w.heap.size,0,none⟩),.pointer (some ⟨w.heap.size+1,0,none⟩),.pointer (some ⟨w.heap.size+1+1,0,none⟩)] (l++aT v n) w0 (enters_of func93 (by kernel_rfl) rfl) ?_ (by rw[aL,dV];omega)).mono ?_
 ·intro W p B I hp a1 a2 a3;exact aWh w.heap.size (w.heap.size+1) (w.heap.size+1+1) l v n W p B (H.below I H.lt) ((d.below I d.lt).cell (i:=0) rfl) ((A.below I A.lt).cell (i:=0) rfl) (by omega) (by omega) U V Z a1 a2 a3
 rintro e w1 ⟨rfl,J⟩;have G:=F.below J F.lt;have a4:=aW M J;have f0:=G.free 0;have f1:=G.free 1;have d0:=G.cell (i:=0) rfl;have d1:=G.cell (i:=1) rfl;clear H d A F J M a0;unfold fT;generalize O:l++aT v n=m at*
 have HM:=hid O;clear O;go_wp2_with fail;have z0:Arr ((w1.setCell ⟨w.heap.size+1+1+1,0,none⟩ (.string (mkS (aI m)))).setCell ⟨w.heap.size+1+1+1,1,none⟩ (.int .i64 (m.length:Int))) (w.heap.size+1+1+1) 79 [.string (mkS (aI m)),.int .i64 (m.length:Int)]:=(G.set 0 _).set 1 _;exact fM (uS rfl _ _ (w.heap.size+1+1+1) _ _ (0,0) _ rfl z0 underlying79 rfl rQ) rfl ⟨by rw[HM.out];rfl,(a4.setCell (p:=⟨w.heap.size+1+1+1,0,none⟩) (by show w.heap.size<=w.heap.size+1+1+1;omega) _).setCell (p:=⟨w.heap.size+1+1+1,1,none⟩) (by show w.heap.size<=w.heap.size+1+1+1;omega) _⟩
def xV (w:World) (v:Value) (d:List (List Bool)):Prop:=
 ∃a cap,v=.slice a d.length cap/\d.length<=cap/\cap<=maxLen/\
  (0<d.length->∃b off,a=some ⟨b,off,none⟩/\b<w.heap.size/\∀j l,d[j]? =some l->w.cell? ⟨b,off+j*2,none⟩=some (.string (mkS (aI l)))/\w.cell? ⟨b,off+j*2+1,none⟩=some (.int .i64 (l.length:Int)))
theorem xV.below {w w':World} {v:Value} {l:List (List Bool)} (h:xV w v l) (d:Below w.heap.size w w'):xV w' v l:=by
 obtain⟨a,cap,rfl,A,F,G⟩:=h;refine⟨a,cap,rfl,A,F,fun h=>?_⟩;obtain⟨b,off,rfl,H,I⟩:=G h;exact⟨b,off,rfl,fB H d.size,fun j p J=>by grind [pJ,xV]⟩
theorem aWi (G:Nat) (v:Value) (d:List (List Bool)) (w0 W:World) (p B:Nat) (hr:xV w0 v d) (h1:W.cell? ⟨G,0,none⟩=some v) (M:Below w0.heap.size w0 W)
  (_hbs:G<p) (O:w0.heap.size<=p) (hl:d.flatten.length<=900000) (hp:p<B) (hB:B<=W.heap.size) (hw:WrS W p B []):
  Calls pG 97 #[.pointer (some ⟨p,0,none⟩),.pointer (some ⟨G,0,none⟩)] W fun e H=>e=.returned (.tuple #[])/\WrS H p B d.flatten/\Below p W H/\rR W H:=by
 obtain⟨a,cap,rfl,a4,a0,U⟩:=hr;unfold maxLen at a0;go_enter func97,ntmps97;go_wp2_with fail
 go_loopg [7,4] d.length (fun g s7 _s4 wr=>∃k:Nat,k<=d.length/\g=d.length-k/\s7=.int .i64 (k:Int)/\WrS wr p B (d.take k).flatten/\Below p W wr/\rR W wr)
 case atStart=>exact⟨0,aO _,rfl,rfl,by simpa using hw,aH _ _,fun _ _ h=>h⟩
 case round=>
  obtain⟨k,hk,I,rfl,J,A,V⟩:=hrel;have HG:=hid I;clear I
  by_cases a1:k<d.length
  ·have t1:decide ((k:Int)<(d.length:Int))=true:=aG (by omega);obtain⟨b,off,rfl,F,Z⟩:=U (by omega);obtain⟨l,L⟩:∃l,d[k]? =some l:=⟨_,aN a1⟩;obtain⟨x0,x1⟩:=Z k l L;have a5:=A.size;have c0:=(A.cell (p:=⟨b,off+k*2,none⟩) (fB F O)).trans ((M.cell (p:=⟨b,off+k*2,none⟩) F).trans x0);have c1:=(A.cell (p:=⟨b,off+k*2+1,none⟩) (fB F O)).trans ((M.cell (p:=⟨b,off+k*2+1,none⟩) F).trans x1);have HT:=hid (show(d.take (k+1)).flatten=(d.take k).flatten++l by rw[cG,L];simp);have a6:(d.take k).flatten.length+l.length<=900000:=by
    have:d.flatten=(d.take (k+1)).flatten++(d.drop (k+1)).flatten:=by rw[<-List.flatten_append,List.take_append_drop]
    have h2:=congrArg List.length this;rw[HT.out,aL,aL] at h2;omega
   clear L Z U x0 x1 h1;have a2:=aEi p B (d.take k).flatten l (wr.alloc (.cells #[.string (mkS (aI l)),.int .i64 (l.length:Int)] 79)) (J.alloc _) hp (by simp;omega) (by omega);go_wp2_with fail;refine a2.mono ?_;rintro e w2 ⟨rfl,k1,k2,k3⟩;go_wp2_with fail;have I:=HG.out
   go_roundg (d.length-(k+1))
   case measure=>omega
   case rel=>exact⟨k+1,by omega,rfl,by go_num,by rw[HT.out];exact k1,(A.alloc (by omega) _).trans k2,fun g cs a3=>k3 g cs ((V g cs a3).alloc _)⟩
  ·have t1:decide ((k:Int)<(d.length:Int))=false:=aE (by omega);rw[cD (by omega)] at J;go_wp2_with fail
   go_end0
   exact⟨rfl,J,A,V⟩
theorem FC (v:Value) (d:List (List Bool)) (w:World) (H:xV w v d) (Z:d.flatten.length<=900000):
  Calls pG 55 #[v] w fun e w'=>e=.returned (.tuple #[fT d.flatten,.int .i64 0])/\Below w.heap.size w w':=by
 have a7:∀(L:Fn) (first cap:Array Value) (w:World),(AX L first cap).run pG w=.ok (.func L first cap) w:=fun _ _ _ _=>rfl
 obtain⟨a,cap,rfl,a0,a1,M⟩:=H;have H:xV w (.slice a d.length cap) d:=⟨a,cap,rfl,a0,a1,M⟩;clear M;go_enter func55,ntmps55;go_wp2_with fail;have I:Below w.heap.size w ((w.alloc (.cells #[.slice a d.length cap] 80)).alloc (.cells #[.string ⟨#[]⟩,.int .i64 0] 79)):=((aH _ w).alloc (aD _) _).alloc (by simp) _;have a2:((w.alloc (.cells #[.slice a d.length cap] 80)).alloc (.cells #[.string ⟨#[]⟩,.int .i64 0] 79)).heap.size=w.heap.size+1+1:=by simp
 have G:=(Arr.new w 80 [.slice a d.length cap]).alloc (.cells #[.string ⟨#[]⟩,.int .i64 0] 79);have A:=Arr.new (w.alloc (.cells #[.slice a d.length cap] 80)) 79 [.string ⟨#[]⟩,.int .i64 0];simp only[fP] at A;change Arr ((w.alloc (.cells #[.slice a d.length cap] 80)).alloc (.cells #[.string ⟨#[]⟩,.int .i64 0] 79)) _ _ _ at G;change Arr ((w.alloc (.cells #[.slice a d.length cap] 80)).alloc (.cells #[.string ⟨#[]⟩,.int .i64 0] 79)) _ _ _ at A;have O:=H.below I;generalize ((w.alloc (.cells #[.slice a d.length cap] 80)).alloc (.cells #[.string ⟨#[]⟩,.int .i64 0] 79))=w0 at*
 refine(aEj 97 #[.pointer (some ⟨w.heap.size,0,none⟩)] d.flatten w0 (enters_of func97 (by kernel_rfl) rfl) ?_ (by omega)).mono ?_
 ·intro W p B U hp a3 a4 a5;exact aWi w.heap.size _ d w0 W p B O ((G.below U G.lt).cell (i:=0) rfl) U (by omega) hp Z a3 a4 a5
 rintro e w1 ⟨rfl,J⟩;have F:=A.below J A.lt;have a6:=aW I J;have f0:=F.free 0;have f1:=F.free 1;have d0:=F.cell (i:=0) rfl;have d1:=F.cell (i:=1) rfl;clear G A J I a2 O;unfold fT;generalize V:d.flatten=m at*
 have HM:=hid V;clear V;go_wp2_with fail;have z0:Arr ((w1.setCell ⟨w.heap.size+1,0,none⟩ (.string (mkS (aI m)))).setCell ⟨w.heap.size+1,1,none⟩ (.int .i64 (m.length:Int))) (w.heap.size+1) 79 [.string (mkS (aI m)),.int .i64 (m.length:Int)]:=(F.set 0 _).set 1 _;exact fM (uS rfl _ _ (w.heap.size+1) _ _ (0,0) _ rfl z0 underlying79 rfl rQ) rfl ⟨by rw[HM.out];rfl,(a6.setCell (p:=⟨w.heap.size+1,0,none⟩) (by show w.heap.size<=w.heap.size+1;omega) _).setCell (p:=⟨w.heap.size+1,1,none⟩) (by show w.heap.size<=w.heap.size+1;omega) _⟩
theorem lR {F:Array Oper} {rest:List Oper} {o:Oper} {a:Act} {Q:Exit->Act->World->Prop} {w:World} (H:o.guard=none) (s x:iF)
  (I:o.op=.call {callee:=.builtin .append,args:=#[s,x],argTypes:=#[26,26]}) (base:Nat) (v:Value) (l m:List Int) (hs:a.eval s=v) (hown:OwI w base v l)
  (u:Value) (hx:a.eval x=u) (hr:RdI w u m) (hm:0<m.length) (hroom:(l.length+m.length)*8<=140737488355328) (hbase:base<=w.heap.size)
  (h:∀d w',OwI w' base d (l++m)->Below base w w'->w.grownBy w' v.ownBlock->(d.ownBlock=v.ownBlock\/d.ownBlock=some w.heap.size)->wpList pG F Q rest (a.put o.dst d) w'):wpList pG F Q (o::rest) a w:=by
 obtain⟨i,hi,J,L,M⟩:=jL.info;obtain⟨ad,c,rfl,a0,a1,O⟩:=hr.open;obtain⟨b,off,rfl,hb,U⟩:=O hm;refine wpList_append_own_at w H s x 26 I base 3 i (.int .i64 0) 1 8 underlying26 hi J L M rfl (by decide) v (l.map (bQ .i64)).length (l.map (bQ .i64)) hs hown ⟨b,off,none⟩ m.length c (m.map (bQ .i64)) hx (by simp)
  (fun j V A=>?_) (fun V Z=>?_) (by simp only[maxLen,List.length_map];omega) (by simpa using hroom) hbase (fun d w' q1 G _ q4=>h d w' ?_ (rJ hown G hbase) G q4)
 ·rw[List.getElem?_map] at A
  cases e:m[j]? with
  |none=>rw[e] at A;simp at A
  |some y=>
   rw[e] at A;simp at A;rw[show(⟨b,off,none⟩:Addr).add j=⟨b,off+j,none⟩ by unfold gP;split<;>simp_all,U j y e,<-A]
 ·obtain⟨y,_,rfl⟩:=List.mem_map.1 Z;rfl
 ·unfold OwI Ow;rw[List.map_append,aL]
  simpa using q1
def fD (l:List Bool):List Value:=[.string (mkS (aI l)),.int .i64 (l.length:Int)]
def eO (w:World) (B:Nat) (v:Value) (d:List (List Bool)):Prop:=w.ownsRow B 79 2 v d.length (d.flatMap fD)
theorem eO.nil (w:World) (B:Nat):eO w B (.slice none 0 0) []:=World.ownsRow_nil _ _ _ _
theorem eO.alloc {w:World} {B:Nat} {v:Value} {l:List (List Bool)} (h:eO w B v l) (o:Obj):eO (w.alloc o) B v l:=WK h o
theorem eO.below {w w':World} {B C:Nat} {v:Value} {l:List (List Bool)} (h:eO w B v l) (d:Below C w w') (A:w.heap.size<=C):eO w' B v l:=IX h d A
theorem eO.base {w:World} {B B':Nat} {v:Value} {l:List (List Bool)} (h:eO w B v l) (d:B'<=B):eO w B' v l:=DR h d
theorem aEk:∀(d:List (List Bool)) (j:Nat) (l:List Bool),d[j]? =some l->(d.flatMap fD)[j*2]? =some (.string (mkS (aI l)))/\(d.flatMap fD)[j*2+1]? =some (.int .i64 (l.length:Int))
 |[],j,l,h=>by simp at h
 |x::d,0,l,h=>by grind [fD,mkS,aI]
 |x::d,j+1,l,h=>by
  have A:=aEk d j l (by simpa using h)
  grind [fD,mkS,aI]
theorem eO.rd {w:World} {B:Nat} {v:Value} {d:List (List Bool)} (h:eO w B v d):xV w v d:=by
 obtain⟨J,h⟩:=h;rcases h with⟨rfl,L⟩|⟨g,cap,F,rfl,M,A,H,I,O,U⟩
 ·grind [eO,xV]
 ·refine⟨_,cap,rfl,H,I,fun _=>⟨g,0,rfl,(Array.getElem?_eq_some_iff.1 A).1,fun j l G=>?_⟩⟩;obtain⟨V,Z⟩:=aEk d j l G;have a0:=(List.getElem?_eq_some_iff.1 G).1;rw[Nat.zero_add,cell_of_row w g (j*2) F _ (0,0) A,cell_of_row w g (j*2+1) F _ (0,0) A]
  grind
theorem SY:(pG.info? 79).map (fun i=>(i.zero,i.size,i.bytes))=some (some (.agg #[.string ⟨#[]⟩,.int .i64 0]),2,24):=by kernel_rfl
theorem FD {F:Array Oper} {rest:List Oper} {o:Oper} {a:Act} {Q:Exit->Act->World->Prop} {w:World} (H:o.guard=none) (s x:iF)
  (I:o.op=.call {callee:=.builtin .append,args:=#[s,x],argTypes:=#[80,80]}) (base:Nat) (v:Value) (ls:List (List Bool)) (l:List Bool) (hs:a.eval s=v) (hown:eO w base v ls)
  (g:Nat) (hx:a.eval x=.slice (some ⟨g,0,none⟩) 1 1) (hc:Arr w g 79 (fD l)) (hroom:(ls.length+1)*24<=140737488355328) (hbase:base<=w.heap.size)
  (h:∀d w',eO w' base d (ls++[l])->Below base w w'->w.grownBy w' v.ownBlock->wpList pG F Q rest (a.put o.dst d) w'):wpList pG F Q (o::rest) a w:=by
 obtain⟨i,hi,J,L,M⟩:=info_parts SY;refine wpList_append_own_at w H s x 80 I base 79 i _ 2 24 underlying80 hi J L M rfl (by decide) v ls.length (ls.flatMap fD) hs hown ⟨g,0,none⟩ 1 1 (fD l) hx rfl
  (fun j O U=>?_) (fun O A=>?_) (by simp only[maxLen];omega) hroom hbase (fun d w' V G _ _=>h d w' ?_ (rJ hown G hbase) G)
 ·rw[show(⟨g,0,none⟩:Addr).add j=⟨g,j,none⟩ by unfold gP;split<;>simp_all];exact hc.cell U
 ·unfold fD at A;rcases List.mem_cons.1 A with rfl|A
  ·rfl
  ·obtain rfl:=List.mem_singleton.1 A;rfl
 ·unfold eO;rw[aL,List.flatMap_append,List.flatMap_singleton];exact V
theorem aWz {l:List Int} {k:Nat} {x:Int} (h:l[k]? =some x):kZ (l.take (k+1))=kZ (l.take k)+2^(20-x.toNat):=by grind [kZ,cG]
theorem aEv (l:List Int):kZ l<=1048576*l.length:=by
 unfold kZ
 induction l with
 |nil=>simp
 |cons x l d=>
  rw[List.map_cons,List.sum_cons,List.length_cons];have:2^(20-x.toNat)<=2^20:=nF (by decide) (by omega);have e:(2:Nat)^20=1048576:=by decide
  omega
theorem aEw {l:List Int} (h:¬(2<=l.length/\l.length<=258)):bM l=1:=by
 unfold bM;rw[aB (fun q=>h ⟨q.1,q.2.1⟩)]
theorem LU {l:List Int} {k:Nat} {x:Int} (h:l[k]? =some x) (d:¬(1<=x/\x<=20)):bM l=1:=by
 unfold bM;rw[aB (fun q=>d (q.2.2 x (cN h)))]
theorem aEx {l:List Int} (h:gM l):bM l=if 1048576<kZ l then 6 else 0:=by grind [bM,gM,kZ]
theorem LV (v:Value) (l:List Int) (w:World) (hr:RdI w v l):
  Calls pG 216 #[v] w fun e w'=>e=.returned (.int .i64 (bM l))/\w'=w:=by
 obtain⟨a,ca,rfl,b0,a6,L⟩:=hr.open;unfold maxLen at a6;clear hr
 by_cases Z:2<=l.length/\l.length<=258
 rotate_left
 ·have A:=hid (aEw Z)
  by_cases h3:l.length<2
  ·have t1:decide ((l.length:Int)<2)=true:=aG (by omega);go_enter func216,ntmps216;go_wp2_with fail;go_ret;exact⟨by rw[A.out];rfl,rfl⟩
  ·have t1:decide ((l.length:Int)<2)=false:=aE (by omega);have t2:decide ((l.length:Int)>258)=true:=aG (by omega);have t3:decide ((258:Int)<(l.length:Int))=true:=aG (by omega);go_enter func216,ntmps216;go_wp2_with fail;go_ret;exact⟨by rw[A.out];rfl,rfl⟩
 ·have t1:decide ((l.length:Int)<2)=false:=aE (by omega);have t2:decide ((l.length:Int)>258)=false:=aE (by omega);have t3:decide ((258:Int)<(l.length:Int))=false:=aE (by omega);go_enter func216,ntmps216;go_wp2_with fail;clear t1 t2 t3
  go_loopg [3] l.length (fun g s3 wr=>∃k:Nat,k<=l.length/\g=l.length-k/\s3=.int .i64 (k:Int)/\Hid (∀x∈l.take k,1<=x/\x<=20)/\wr=w)
  case atStart=>exact⟨0,aO _,rfl,rfl,hid (fun x d=>by simp at d),rfl⟩
  case round=>
   obtain⟨k,hk,F,rfl,HX,rfl⟩:=hrel;have HG:=hid F;clear F
   by_cases a0:k<l.length
   ·have t1:decide ((k:Int)<(l.length:Int))=true:=aG (by omega);obtain⟨b1,o1,rfl,a7,I⟩:=L (by omega);obtain⟨x,d⟩:=eG a0;have c1:=I k x d;clear I L
    by_cases a2:x<1
    ·have u1:decide (x<1)=true:=aG a2;have A:=hid (LU d (by omega));clear d;go_wp2_with fail;go_ret;exact⟨by rw[A.out];rfl,rfl⟩
    ·have u1:decide (x<1)=false:=aE a2
     by_cases M:20<x
     ·have u2:decide (20<x)=true:=aG M;have u3:decide (x>20)=true:=aG M;have A:=hid (LU d (by omega));clear d;go_wp2_with fail;go_ret;exact⟨by rw[A.out];rfl,rfl⟩
     ·have u2:decide (20<x)=false:=aE M;have u3:decide (x>20)=false:=aE M;have HS:=hid (show ∀y∈l.take (k+1),1<=y/\y<=20 from fun y H=>by
       rw[cG,d] at H;rcases List.mem_append.1 H with H|H
       ·exact HX.out y H
       ·simp at H;omega)
      clear d;go_wp2_with fail;have F:=HG.out
      go_roundg (l.length-(k+1))
      case measure=>omega
      case rel=>exact⟨k+1,by omega,rfl,by go_num,HS,rfl⟩
   ·have t1:decide ((k:Int)<(l.length:Int))=false:=aE (by omega);have O:=HX.out;rw[cD (by omega)] at O;have a8:=hid O;have A:=hid (aEx ⟨Z.1,Z.2,O⟩);have b2:=aEv l;clear O HX;go_wp2_with fail
    go_loopg [4,5] l.length (fun g s4 s5 wx=>∃k K:Nat,k<=l.length/\g=l.length-k/\s5=.int .i64 (k:Int)/\s4=.int .i64 (K:Int)/\Hid (K=kZ (l.take k))/\wx=wr)
    case atStart=>exact⟨0,0,aO _,rfl,rfl,rfl,hid rfl,rfl⟩
    case round=>
     obtain⟨k,K,hk,F,rfl,rfl,HK,rfl⟩:=hrel;have HG:=hid F;clear F;have a3:=aEv (l.take k);rw[<-HK.out,aQ] at a3;have b3:K<=300000000:=by omega
     clear a3
     by_cases a0:k<l.length
     ·have t1:decide ((k:Int)<(l.length:Int))=true:=aG (by omega);obtain⟨b1,o1,rfl,a7,I⟩:=L (by omega);obtain⟨x,d⟩:=eG a0;have c1:=I k x d;have b4:=a8.out x (cN d);obtain⟨q,hq⟩:∃q:Nat,q=20-x.toNat:=⟨_,rfl⟩;have m1:aJ.wrap (20-x)=(q:Int):=by rw[aM];omega
      have b5:20-x=(q:Int):=by omega
      have m2:min q 64=q:=by omega
      obtain⟨P,U⟩:∃P:Nat,P=2^q:=⟨_,rfl⟩;have b6:P<=1048576:=by rw[U];exact nF (n:=2) (i:=q) (j:=20) (by decide) (by omega)
      have e1:(2:Int)^q=(P:Int):=by rw[U];push_cast;rfl
      have m3:aJ.wrap (P:Int)=(P:Int):=by rw[aM];omega
      have HS:=hid (show kZ (l.take (k+1))=K+P by rw[aWz d,<-HK.out,U,hq]);obtain⟨J,a4⟩:∃J:Nat,J=K+P:=⟨_,rfl⟩;have m4:aJ.wrap ((K:Int)+(P:Int))=(J:Int):=by rw[aM];omega
      have b7:(K:Int)+(P:Int)=(J:Int):=by omega
      have a9:=hid a4;clear hq U d I L a4;go_wp2_with fail;have F:=HG.out
      go_roundg (l.length-(k+1))
      case measure=>omega
      case rel=>exact⟨k+1,J,by omega,rfl,by go_num,rfl,hid (by rw[HS.out,a9.out]),rfl⟩
     ·have t1:decide ((k:Int)<(l.length:Int))=false:=aE (by omega);have V:=HK.out;rw[cD (by omega)] at V;have G:=A.out;rw[<-V] at G
      by_cases a5:1048576<K
      ·rw[aB a5] at G;have a1:=hid G;have u1:decide ((1048576:Int)<(K:Int))=true:=aG (by omega);have u2:decide ((K:Int)>1048576)=true:=aG (by omega);clear G V;go_wp2_with fail;go_ret;exact⟨by rw[a1.out];rfl,rfl⟩
      ·rw[aA a5] at G;have a1:=hid G;have u1:decide ((1048576:Int)<(K:Int))=false:=aE (by omega);have u2:decide ((K:Int)>1048576)=false:=aE (by omega);clear G V;go_wp2_with fail;go_ret;exact⟨by rw[a1.out];rfl,rfl⟩
def cY (n:Nat) (f:Nat->Value×Value):List Value:=(List.range (n*2)).map (fun j=>if j%2=0 then(f (j/2)).1 else(f (j/2)).2)
theorem LX (n:Nat) (f:Nat->Value×Value):(cY n f).length=n*2:=by simp[cY]
theorem zR (n:Nat) (f:Nat->Value×Value) (i:Nat) (h:i<n):(cY n f)[i*2]? =some (f i).1:=by grind [cY]
theorem zS (n:Nat) (f:Nat->Value×Value) (i:Nat) (h:i<n):(cY n f)[i*2+1]? =some (f i).2:=by grind [cY]
theorem TB (n:Nat) (f f':Nat->Value×Value) (i:Nat) (a b:Value) (h:∀d,d<n->f' d=if d=i then(a,b) else f d):((cY n f).set (i*2) a).set (i*2+1) b=cY n f':=by
 apply List.ext_getElem?
 grind [cY,LX]
theorem wM {n:Nat} {f g:Nat->Value×Value} (h:∀d,d<n->f d=g d):cY n f=cY n g:=by grind [cY,List.map_congr_left]
theorem aEy (a b:Value) (n:Nat):(madeCells #[a,b] (n*2))=(cY n (fun _=>(a,b))).toArray:=by
 unfold madeCells cY
 grind
theorem mk2 {P:fO} {d:Array Oper} {rest:List Oper} {o:Oper} {a:Act} {Q:Exit->Act->World->Prop} {w:World} {t e A:Nat} {z x y:Value} (G:P.underlying t=some (.slice e)) (H:(P.info? e).map (fun i=>(i.zero,i.size,i.bytes))=some (some z,2,A)) (I:z.cells=#[x,y]) (J:o.guard=none) (l c:iF)
  (L:o.op=.makeSlice t l c) (n:Nat) (M:a.eval l=.int .i64 (n:Int)) (O:a.eval c=.int .i64 (n:Int)) (a0:n*A<=140737488355328) (hn:n<=140737488355328)
  (h:wpList P d Q rest (a.put o.dst (.slice (some ⟨w.heap.size,0,none⟩) n n)) (w.alloc (.cells (cY n (fun _=>(x,y))).toArray e))):wpList P d Q (o::rest) a w:=by
 refine wpList_plain J fun K U=>?_
 obtain⟨i,hi,V,Z,h3⟩:=info_parts H;have hb:(i.bytes:Int)*(n:Int)<=281474976710656:=by grind
 have F:=run_make (P:=P) w t e i z G hi V .i64 .i64 (n:Int) (n:Int) (by omega) (Int.le_refl _) hb (by omega);rw[Z,Int.toNat_natCast,I,aEy] at F;unfold Oper.wp;simp[execOp,L,M,O,F,lW];exact U _ _ h
def uU (l:List Int) (d:Nat):Value×Value:=(.int .i64 (bL l d:Int),.int .u64 (gZ l d:Int))
def oX (l:List Int) (n i d:Nat):Value×Value:=if bL l d<n\/(bL l d=n/\d<i) then uU l d else(.int .i64 0,.int .u64 0)
theorem aW0 {l:List Int} (h:gM l):cY l.length (oX l 1 0)=cY l.length (fun _=>(.int .i64 0,.int .u64 0)):=by grind [wM,lX,oX,gM,cY]
theorem aW1 (l:List Int) (n:Nat):cY l.length (oX l n l.length)=cY l.length (oX l (n+1) 0):=by grind [wM,oX,bL,cY]
theorem aW2 {l:List Int} (h:gM l):cY l.length (oX l 21 0)=cY l.length (uU l):=by grind [wM,lX,oX,gM,cY,uU]
theorem aW3 {l:List Int} {n i:Nat} (h:bL l i≠n):cY l.length (oX l n i)=cY l.length (oX l n (i+1)):=by grind [wM,oX,bL,cY]
theorem aW4 {l:List Int} {n i:Nat} (h:bL l i=n):((cY l.length (oX l n i)).set (i*2) (.int .i64 (n:Int))).set (i*2+1) (.int .u64 (gZ l i:Int))=cY l.length (oX l n (i+1)):=by grind [TB,oX,uU,bL,cY,gZ]
def lS (l:List Int) (n i:Nat):Nat:=gY l n+cL (l.take i) n
theorem aW5 (l:List Int) (n:Nat):lS l (n+1) 0=2*lS l n l.length:=by
 unfold lS;rw[wX,List.take_length];rfl
theorem LY {l:List Int} (h:gM l) (A:kZ l<=1048576) {n i:Nat} (d:n<=20):lS l n i<=1048576:=by
 have F:=aB0 h.2.2 A d;have G:cL (l.take i) n<=cL l n:=by
  unfold cL;exact List.Sublist.countP_le (List.take_sublist ..)
 have H:2^n<=2^20:=nF (by decide) d
 grind [lS,gM,kZ]
theorem aW6 {l:List Int} {n i:Nat} (hi:i<l.length) (h:l.getD i 0≠(n:Int)):lS l n (i+1)=lS l n i:=by grind [lS,KM]
theorem aW7 {l:List Int} {n i:Nat} (h:bL l i=n):lS l n i=gZ l i:=by
 unfold lS gZ;rw[h]
theorem aW8 {l:List Int} {n i:Nat} (hi:i<l.length) (h:l.getD i 0=(n:Int)):lS l n (i+1)=lS l n i+1:=by grind [lS,KM]
def xW (N V L n:Nat):Prop:=(L=0/\V=0/\N=0)\/(1<=L/\L<=n/\(V+1)*2^(n-L)=N)
theorem aW9 {N V L n:Nat} (h:xW N V L n):xW (2*N) V L (n+1):=by
 rcases h with⟨d,F,A⟩|⟨d,F,A⟩
 ·grind [xW]
 ·refine .inr ⟨d,by omega,?_⟩;rw[show n+1-L=n-L+1 by omega,oP,<-DK,A,pE]
theorem aEz {N n:Nat} (h:1<=n):xW (N+1) N n n:=by grind [xW]
theorem aXa {N V L n:Nat} (h:xW N V L n):V<=N/\L<=n:=by
 rcases h with⟨d,A,F⟩|⟨d,A,F⟩
 ·omega
 ·have:1<=2^(n-L):=DN (by decide);have G:=Nat.mul_le_mul_left (V+1) this;omega
theorem aE0:(pG.info? 206).map (fun i=>(i.zero,i.size,i.bytes))=some (some (.agg #[.int .i64 0,.int .u64 0]),2,16):=by kernel_rfl
def Wds (w:World) (B:Nat) (v:Value) (l:List Int):Prop:=∃b,B<=b/\v=.slice (some ⟨b,0,none⟩) l.length l.length/\Arr w b 206 (cY l.length (uU l))
theorem Wds.below {w w':World} {B C:Nat} {v:Value} {l:List Int} (h:Wds w B v l) (A:Below C w w') (H:w.heap.size<=C):Wds w' B v l:=by
 obtain⟨b,F,G,d⟩:=h;exact⟨b,F,G,d.below A (by have:=d.lt;omega)⟩
theorem aE1 (v:Value) (l:List Int) (w:World) (hr:RdI w v l):
  Calls pG 167 #[v] w fun e w'=>∃u,e=.returned (.tuple #[u,.int .i64 (bM l)])/\(bM l=0->Wds w' w.heap.size u l)/\(bM l≠0->u=.slice none 0 0)/\Below w.heap.size w w':=by
 obtain⟨a,ca,rfl,e9,c7,hA⟩:=hr.open;unfold maxLen at c7
 by_cases H:bM l=0
 rotate_left
 ·have HE:=hid H;obtain⟨E,a3⟩:∃E,E=bM l:=⟨_,rfl⟩;rw[<-a3] at H;have t0:decide (E=0)=false:=aE H;have f2:(E != 0)=true:=by simpa using H
  go_enter func167,ntmps167;go_wp2_with fail;refine(LV _ l _ hr).mono ?_;rintro e w1 ⟨rfl,rfl⟩;rw[<-a3];have c8:=hid a3;clear a3;go_wp2_with fail
  go_ret2
  exact⟨_,by rw[c8.out];rfl,fun q=>absurd q HE.out,fun _=>rfl,aH _ _⟩
 ·have Z:=gE H;have HO:=hid Z.1;have a6:=hid (fun n i hn=>LY (l:=l) (n:=n) (i:=i) Z.1 Z.2 hn);have f3:=Z.1.2.1;have f4:=Z.1.1;go_enter func167,ntmps167;go_wp2_with fail;refine(LV _ l _ hr).mono ?_;rintro e w1 ⟨rfl,rfl⟩;rw[H];have HE:=hid H;clear H Z hr;go_wp2_with (at_make;refine mk2 underlying202 aE0 rfl rfl _ _ rfl l.length rfl rfl ?_ ?_ ?_;(omega);(omega));have b3:=Arr.new w1 206 (cY l.length (fun _=>(.int .i64 0,.int .u64 0)));rw[<-aW0 HO.out] at b3 ⊢
  have c9:Below w1.heap.size w1 (w1.alloc (.cells (cY l.length (oX l 1 0)).toArray 206)):=bD (aH _ _) _;generalize w1.alloc (.cells (cY l.length (oX l 1 0)).toArray 206)=w0 at*
  have d2:=hid (fun i (h:i<l.length)=>(lX HO.out h));go_wp2_with fail
  go_loopg [6,7,8,9,10] 20 (fun g s6 s7 s8 _s9 _s10 wr=>∃n V L N:Nat,1<=n/\n<=21/\g=21-n/\s8=.int .i64 (n:Int)/\s7=.int .i64 (L:Int)/\s6=.int .u64 (V:Int)/\xW N V L n/\Hid (N=lS l n 0)/\Arr wr w1.heap.size 206 (cY l.length (oX l n 0))/\Below w1.heap.size w1 wr)
  case atStart=>exact⟨1,0,0,0,by omega,by omega,rfl,rfl,rfl,rfl,.inl ⟨rfl,rfl,rfl⟩,hid (by unfold lS;rw[aBw (fun x hx=>(HO.out.2.2 x hx).1)];rfl),b3,c9⟩
  case round=>
   obtain⟨n,V,L,N,b4,f5,F,rfl,rfl,rfl,J,A,d,I⟩:=hrel;have HG:=hid F;clear F
   by_cases hn:n<=20
   ·have t1:decide ((n:Int)<=20)=true:=aG (by omega);go_wp2_with fail
    go_loopg [6,7,9,10] l.length (fun g s6 s7 s9 _s10 wx=>∃i V L N:Nat,i<=l.length/\g=l.length-i/\s9=.int .i64 (i:Int)/\s7=.int .i64 (L:Int)/\s6=.int .u64 (V:Int)/\xW N V L n/\Hid (N=lS l n i)/\Arr wx w1.heap.size 206 (cY l.length (oX l n i))/\Below w1.heap.size w1 wx)
    case atStart=>exact⟨0,V,L,N,by omega,rfl,rfl,rfl,rfl,J,A,d,I⟩
    case round=>
     clear d I J A;obtain⟨i,V,L,N,hi,F,rfl,rfl,rfl,J,A,d,I⟩:=hrel;have a7:=hid F;clear F;have d3:=a6.out n i hn;rw[<-A.out] at d3;have d4:=aXa J
     by_cases a2:i<l.length
     ·have t2:decide ((i:Int)<(l.length:Int))=true:=aG (by omega);obtain⟨b1,o1,rfl,d5,d6⟩:=hA (by omega);obtain⟨d7,d8,hx⟩:=d2.out i a2;have c1:=((pJ I).1 b1 (o1+i) d5).trans (d6 i _ hx);have a0:l.getD i 0=(bL l i:Int):=by rw[bV,hx];rfl
      have d9:=hid (rfl:bL l i=bL l i);obtain⟨x,a8⟩:∃x,x=bL l i:=⟨_,rfl⟩;rw[<-a8] at c1 a0 d7 d8;have HX:=hid a8;clear a8 hx d9
      by_cases b5:x=n
      ·subst b5;have t3:decide ((x:Int)=(x:Int))=true:=aG rfl;have e0:(!decide ((x:Int)=(x:Int)))=false:=by rw[t3];rfl
       have HW:=hid (aW7 (l:=l) HX.out.symm);have HP:=hid (aW8 a2 a0);have a4:=hid (aW4 (l:=l) (n:=x) (i:=i) HX.out.symm);have d0:=d.cell (zR _ _ i a2);have d1:=d.cell (zS _ _ i a2);have f0:=d.free (i*2);have f1:=d.free (i*2+1);have b6:∀u u',Below w1.heap.size w1 ((wr.setCell ⟨w1.heap.size,i*2,none⟩ u).setCell ⟨w1.heap.size,i*2+1,none⟩ u'):=fun u u'=>(I.setCell (p:=⟨w1.heap.size,i*2,none⟩) (aD _) u).setCell (p:=⟨w1.heap.size,i*2+1,none⟩) (aD _) u'
       rcases J with⟨hL,hV,e1⟩|⟨f6,e2,b7⟩
       ·have t4:decide ((L:Int)>0)=false:=aE (by omega);have t5:decide (0<L)=false:=aE (by omega);have e3:¬0<L:=by omega
        have b8:gZ l i=V:=by rw[<-HW.out,<-A.out];omega
        have M:=a4.out;rw[b8] at M;have a9:=hid M;have b0:=hid (show xW (N+1) V x x by rw[show V=N by omega];exact aEz b4);have a1:=hid (show N+1=lS l x (i+1) by rw[HP.out,A.out]);clear M a4 b8 hL hV e1 A HP HW HX a0 a6;go_wp2_with fail;have b9:=a7.out
        go_roundg (l.length-(i+1))
        case measure=>omega
        case rel=>exact⟨i+1,V,x,N+1,by omega,rfl,by go_num,rfl,rfl,b0.out,a1,by rw[<-a9.out];exact(d.set _ _).set _ _,b6 _ _⟩
       ·have t4:decide ((L:Int)>0)=true:=aG (by omega);have t5:decide (0<L)=true:=aG (by omega);have e3:0<L:=by omega
        obtain⟨O,c0⟩:∃O,O=V+1:=⟨_,rfl⟩;have m1:eZ.wrap (O:Int)=(O:Int):=by rw[fC];omega
        have f7:(V:Int)+1=(O:Int):=by omega
        have e4:=hid (show O*2^(x-L)=N by rw[c0];exact b7);have c2:=hid (show gZ l i=N by rw[<-HW.out,<-A.out]);have a1:=hid (show N+1=lS l x (i+1) by rw[HP.out,A.out]);clear b7 c0 A HP HW HX a0 a6 d4;go_wp2_with fail
        go_loopg [6,10] (x-L) (fun g s6 e5 wy=>∃k U:Nat,L<=k/\k<=x/\g=x-k/\e5=.int .i64 (k:Int)/\s6=.int .u64 (U:Int)/\Hid (U*2^(x-k)=N)/\wy=wr)
        case atStart=>exact⟨L,O,aD _,e2,rfl,rfl,rfl,e4,rfl⟩
        case round=>
         obtain⟨k,U,f8,f9,F,rfl,rfl,HU,rfl⟩:=hrel;have e6:=hid F;clear F
         by_cases g0:k<x
         ·have t6:decide ((k:Int)<(x:Int))=true:=aG (by omega);obtain⟨G,c3⟩:∃G,G=2*U:=⟨_,rfl⟩;have c4:=hid (show G*2^(x-(k+1))=N by
           have e:=HU.out;rw[show x-k=x-(k+1)+1 by omega,oP] at e;rw[c3,<-e,pE 2 U,DK,pE 2])
          have g1:G<=N:=by
           have e:=c4.out;have:1<=2^(x-(k+1)):=DN (by decide);have:=Nat.mul_le_mul_left G this;omega
          have m2:eZ.wrap (2*(U:Int))=(G:Int):=by rw[fC];omega
          have g2:2*(U:Int)=(G:Int):=by omega
          have g3:2*(U:Int)%18446744073709551616=(G:Int):=by omega
          clear c3;go_wp2_with fail;have g4:=e6.out
          go_roundg (x-(k+1))
          case measure=>omega
          case rel=>exact⟨k+1,G,by omega,by omega,rfl,by go_num,rfl,c4,rfl⟩
         ·have t6:decide ((k:Int)<(x:Int))=false:=aE (by omega);have e7:k=x:=by omega
          have b2:U=N:=by
           have e:=HU.out;rw[show x-k=0 by omega] at e;omega
          have M:=a4.out;rw[c2.out,<-b2] at M;have a9:=hid M;have b0:=hid (show xW (N+1) U x x by rw[b2];exact aEz b4);clear M a4 b2 HU c2 e7;go_wp2_with fail;have b9:=a7.out
          go_roundg (l.length-(i+1))
          case measure=>omega
          case rel=>exact⟨i+1,U,x,N+1,by omega,rfl,by go_num,rfl,rfl,b0.out,a1,by rw[<-a9.out];exact(d.set _ _).set _ _,b6 _ _⟩
      ·have t3:decide ((x:Int)=(n:Int))=false:=aE (by omega);have e0:(!decide ((x:Int)=(n:Int)))=true:=by rw[t3];rfl
       have a5:bL l i≠n:=by rw[<-HX.out];exact b5
       have hP:=aW6 (n:=n) a2 (by rw[a0];omega);rw[aW3 a5] at d;have HP:=hid hP;clear hP a0 a5;go_wp2_with fail;have b9:=a7.out
       go_roundg (l.length-(i+1))
       case measure=>omega
       case rel=>exact⟨i+1,V,L,N,by omega,rfl,by go_num,rfl,rfl,J,hid (by rw[HP.out];exact A.out),d,I⟩
     ·have t2:decide ((i:Int)<(l.length:Int))=false:=aE (by omega);have e8:i=l.length:=by omega
      subst e8;rw[aW1] at d;have c5:=aW9 J;have a1:=hid (show 2*N=lS l (n+1) 0 by rw[aW5,<-A.out]);obtain⟨N2,c6⟩:∃N2,N2=2*N:=⟨_,rfl⟩;rw[<-c6] at c5 a1;clear c6;go_wp2_with fail;have F:=HG.out
      go_roundg (21-(n+1))
      case measure=>omega
      case rel=>exact⟨n+1,V,L,N2,by omega,by omega,rfl,by go_num,rfl,rfl,c5,a1,d,I⟩
   ·have t1:decide ((n:Int)<=20)=false:=aE (by omega);have a5:n=21:=by omega
    subst a5;rw[aW2 HO.out] at d;go_wp2_with fail
    go_ret2
    exact⟨_,by rw[HE.out];rfl,fun _=>⟨w1.heap.size,aD _,rfl,d⟩,fun q=>absurd HE.out q,I⟩
end
end Go.Proofs.YtihbnmlinkbnkaaGreatDoor
