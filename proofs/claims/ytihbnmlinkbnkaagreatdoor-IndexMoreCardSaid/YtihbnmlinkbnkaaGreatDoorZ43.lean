/-
  Texts put together (part 43): the walks and the plain laws on which the statement stands.
-/
import Derived.Test.YtihbnmlinkbnkaaGreatDoorZ21
import Derived.Test.YtihbnmlinkbnkaaGreatDoorZ41
set_option maxRecDepth 100000
set_option maxHeartbeats 12800000
set_option linter.unusedVariables false
set_option linter.unusedSimpArgs false
open Go.Proofs.Tryz
open Go.Proofs.Tryz renaming prog->pG
open And renaming intro->tK
open Go.Act renaming eval->lL,put->bJ
open Go.RowKit.Below renaming refl->aH
open Go.World renaming block_lt_of_cell?->gV
open List renaming getD_eq_getElem?_getD->bV,getElem?_eq_getElem->aN,length_map->aS,setIfInBounds_toArray->bK,set_cons_succ->bB,set_cons_zero->bH,take_add_one->cG
open Nat renaming le_refl->aD,zero_le->aO
namespace Go.Proofs.YtihbnmlinkbnkaaGreatDoor
open Go.RowKit Go Go.Shelf
def gU:Int->List Prt->List Ent
 |_,[]=>[]
 |d,p::l=>⟨p.a,p.r,d,(p.t.size:Int),p.y⟩::gU (d+(p.t.size:Int)) l
def vE (l:List Prt):Nat:=(l.map (fun p=>p.t.size)).sum
theorem bEn (p:Prt) (l:List Prt):vE (p::l)=p.t.size+vE l:=by unfold vE;simp
theorem NK:∀(l:List Prt) (d:Int),(gU d l).length=l.length
 |[],_=>rfl
 |p::l,d=>by simp[gU,NK]
theorem aKo:∀(l m:List Prt) (d:Int),gU d (l++m)=gU d l++gU (d+(vE l:Int)) m
 |[],m,d=>by
  show gU d m=gU (d+((0:Nat):Int)) m;rw[Int.natCast_zero,Int.add_zero]
 |p::l,m,d=>by
  show _::gU _ (l++m)=_::(gU _ l++_);rw[aKo l m,bEn]
  grind
theorem bEo {l:List Prt} {k:Nat} {p:Prt} (h:l[k]? =some p):gU 0 (l.take (k+1))=gU 0 (l.take k)++[⟨p.a,p.r,(vE (l.take k):Int),(p.t.size:Int),p.y⟩]:=by
 rw[cG,h]
 grind [gU,aKo,vE]
theorem bEp {l:List Prt} {k:Nat} {p:Prt} (h:l[k]? =some p):vE (l.take (k+1))=vE (l.take k)+p.t.size:=by grind [cG,vE]
theorem oN.alloc (w:World) (o:Obj):oN w (w.alloc o):=fun _ _ q=>q.alloc o
def aJ7 (w:World) (v:Value) (s:List UInt8):Prop:=∃g,v=.slice (some ⟨g,0,none⟩) s.length s.length/\∀(j:Nat) (u:Value),(fG s)[j]? =some u->w.cell? ⟨g,j,none⟩=some u
def vD (w:World) (B:Nat) (v:Value) (s:List UInt8):Prop:=OwB w B v s\/aJ7 w v s
theorem vD.alloc {w:World} {B:Nat} {v:Value} {s:List UInt8} (h:vD w B v s) (o:Obj):vD (w.alloc o) B v s:=by
 rcases h with h|⟨g,rfl,d⟩
 ·exact .inl (Ow.alloc h o)
 ·refine .inr ⟨g,rfl,fun j u A=>?_⟩;have h:=d j u A;rw[World.cell?_alloc_lt _ _ _ (gV w _ h)];exact h
theorem AK:ElR pG 56 73 5 40 (.agg #[.int .i64 0,.int .i64 0,.int .i64 0,.int .i64 0,.int .u32 0]):=ElR.mk' (by kernel_rfl) underlying56 rfl (by decide) (by decide)
theorem GK (s:ByteArray) (w:World) (hE:dU w) (hs:s.size<=120000):
  Calls pG 35 #[.string s] w fun e w'=>∃v,e=.returned (.tuple #[v,.int .i64 (cI s.data.toList).2])/\RdR w' v ((gU 0 (eY s.data.toList)).map bG)/\Below w.heap.size w w':=by
 have d6:=GC s;have b0:=fun p (h:p∈eY s.data.toList)=>aJh p h
 have a0:(cI s.data.toList).2≠0->eY s.data.toList=[]:=fun h=>aA h
 have a2:=fun W h=>aJi s W h hs
 have a3:=fun W h=>aJj s W h hs
 obtain⟨l,hl⟩:∃l,l=eY s.data.toList:=⟨_,rfl⟩;obtain⟨E,b1⟩:∃E,E=(cI s.data.toList).2:=⟨_,rfl⟩;have d7:∀p∈l,p.t.size<=18720:=fun p G=>by
  rw[hl] at G;have h:=b0 p G;obtain⟨-,-,g3,-⟩:=h.facts;obtain⟨-,-,g5,-⟩:=h;omega
 rw[<-hl,<-b1] at a2 a3 a0 ⊢;rw[<-hl] at d6;clear hl b1 b0;go_enter func35,ntmps35;go_wp2_with fail;refine(a2 _ hE).mono ?_;rintro e w1 ⟨v1,rfl,b3,h1⟩;have b4:=hE.below h1
 by_cases h0:E=0
 rotate_left
 ·have t1:(E != 0)=true:=bne_iff_ne.2 h0;have HN:=hid (a0 h0);clear a0;go_wp2_with fail
  go_ret2
  exact⟨_,rfl,by rw[HN.out];exact RdR.nil _,h1⟩
 subst h0;clear a0;go_wp2_with fail;refine(a3 _ b4).mono ?_;rintro e w2 ⟨v2,rfl,b5,h2⟩;have Z:=b3.below h2;have b6:=aW h1 h2;obtain⟨pa,pc,rfl,f0,d8,b7⟩:=bEm Z;obtain⟨ra,rc,rfl,d9,e1,a4⟩:=b5.open;rw[aS] at d9 a4 ⊢;unfold maxLen at d8 e1;have e2:=b6.size;clear b3 Z b5 a2 a3 h1 h2 b4 hE;go_wp2_with fail
 go_loopg [2,7,8,9,25] l.length (fun g s2 s7 _s8 _s9 e3 wr=>∃k F:Nat,k<=l.length/\g=l.length-k/\e3=.int .i64 (k:Int)/\s7=.int .i64 (F:Int)/\Hid (F=vE (l.take k))/\F<=18720*k/\OwR wr w2.heap.size 73 5 s2 ((gU 0 (l.take k)).map bG)/\Below w2.heap.size w2 wr)
 case atStart=>exact⟨0,0,aO _,rfl,rfl,rfl,hid rfl,aO _,OwR.nil _ _ _ _,aH _ _⟩
 case round=>
  obtain⟨k,F,hk,hg,rfl,rfl,HF,f1,hor,H⟩:=hrel;have HG:=hid hg;have e4:=H.size;clear hg
  by_cases e5:k<l.length
  ·have t1:decide ((k:Int)<(l.length:Int))=true:=aG (by omega);obtain⟨b,off,rfl,hb,hc⟩:=b7 (by omega);obtain⟨M,O,rfl,Z,b8⟩:=a4 (by omega);obtain⟨p,G⟩:∃p,l[k]? =some p:=⟨_,aN e5⟩;obtain⟨x0,x1,x2,x3⟩:=hc k p G;have y0:=b8 k p.r (by rw[List.getElem?_map,G];rfl);have c0:=(H.cell (p:=⟨b,off+k*4,none⟩) hb).trans x0;have c1:=(H.cell (p:=⟨b,off+k*4+1,none⟩) hb).trans x1;have c2:=(H.cell (p:=⟨b,off+k*4+2,none⟩) hb).trans x2;have c3:=(H.cell (p:=⟨b,off+k*4+3,none⟩) hb).trans x3;have d0:=(H.cell (p:=⟨M,O+k,none⟩) Z).trans y0;have f2:=d7 p (List.mem_of_getElem? G)
   have HT:=hid (show(gU 0 (l.take (k+1))).map bG=(gU 0 (l.take k)).map bG++[bG ⟨p.a,p.r,(F:Int),(p.t.size:Int),p.y⟩] by rw[bEo G,List.map_append,HF.out];rfl);have b9:=hid (show F+p.t.size=vE (l.take (k+1)) by rw[bEp G,HF.out]);have f3:((gU 0 (l.take k)).map bG).length<=960010:=by rw[aS,NK,List.length_take];omega
   clear x0 x1 x2 x3 hc b8 b7 a4 G;go_wp2_with fail;obtain⟨A,hz⟩:∃A,A=wr.heap.size:=⟨_,rfl⟩;have L:=Arr.new wr 46 [.string p.t,.int .u32 p.y,.int .i64 p.a,.int .i64 p.z];have c4:=OwR.alloc hor (.cells #[.string p.t,.int .u32 p.y,.int .i64 p.a,.int .i64 p.z] 46);have a5:=H.alloc e4 (.cells #[.string p.t,.int .u32 p.y,.int .i64 p.a,.int .i64 p.z] 46)
   have e0:(wr.alloc (.cells #[.string p.t,.int .u32 p.y,.int .i64 p.a,.int .i64 p.z] 46)).cell? ⟨M,O+k,none⟩=some (.int .i64 p.r):=((bD (aH _ wr) (.cells #[.string p.t,.int .u32 p.y,.int .i64 p.a,.int .i64 p.z] 46)).cell (p:=⟨M,O+k,none⟩) (gV wr _ d0)).trans d0;change Arr (wr.alloc (.cells #[.string p.t,.int .u32 p.y,.int .i64 p.a,.int .i64 p.z] 46)) _ _ _ at L;clear c0 c1 c2 c3 d0;rw[<-hz] at L ⊢;generalize wr.alloc (.cells #[.string p.t,.int .u32 p.y,.int .i64 p.a,.int .i64 p.z] 46)=d at*
   have c5:=a5.size;clear hz hor H;obtain⟨U,V⟩:∃U,U=(d.alloc (.cells #[.int .i64 p.a,.int .i64 p.r,.int .i64 (F:Int),.int .i64 (p.t.size:Int),.int .u32 p.y] 73)).drew:=⟨_,rfl⟩;have c6:Arr U A 46 [.string p.t,.int .u32 p.y,.int .i64 p.a,.int .i64 p.z]:=by rw[V];exact Arr.alloc L _
   have a6:OwR U w2.heap.size 73 5 u2 ((gU 0 (l.take k)).map bG):=by rw[V];exact OwR.alloc c4 _
   have c7:Arr U d.heap.size 73 (bG ⟨p.a,p.r,(F:Int),(p.t.size:Int),p.y⟩):=by rw[V];exact Arr.new d 73 (bG ⟨p.a,p.r,(F:Int),(p.t.size:Int),p.y⟩)
   have a7:Below w2.heap.size w2 U:=by rw[V];exact(a5.alloc c5 _).drew
   have c8:=a7.size;obtain⟨v',a8,hr,e6,c9,d1⟩:=LS AK 56 w2.heap.size u2 _ a6 _ [bG ⟨p.a,p.r,(F:Int),(p.t.size:Int),p.y⟩] (RdR.one c7) (yG [⟨p.a,p.r,(F:Int),(p.t.size:Int),p.y⟩]) (Nat.succ_pos _) (by simp only[List.length_singleton];omega) c8;have a1:Arr a8 A 46 [.string p.t,.int .u32 p.y,.int .i64 p.a,.int .i64 p.z]:=c6.otherRow a6 d1 (by decide);have d2:=a7.trans c9;have z0:=L.cell (i:=0) rfl;have z1:=L.cell (i:=1) rfl;have z2:=L.cell (i:=2) rfl;rw[V] at hr;clear c6 a6 c7 a7 c8 V d1 c9 c4 a5 c5 L
   have kk:∀{a:Addr} {v:Value},d.cell? a=some v->(d.alloc (.cells #[.int .i64 p.a,.int .i64 p.r,.int .i64 (F:Int),.int .i64 (p.t.size:Int),.int .u32 p.y] 73)).drew.cell? a=some v:=fun{a} {v} h=>((bD (aH _ d) (.cells #[.int .i64 p.a,.int .i64 p.r,.int .i64 (F:Int),.int .i64 (p.t.size:Int),.int .u32 p.y] 73)).drew.cell (gV d _ h)).trans h
   have d3:d.drew.cell? ⟨A,0,none⟩=some (.string p.t)/\d.drew.cell? ⟨A,1,none⟩=some (.int .u32 p.y)/\d.drew.cell? ⟨A,2,none⟩=some (.int .i64 p.a)/\d.drew.cell? ⟨M,O+k,none⟩=some (.int .i64 p.r):=⟨z0,z1,z2,e0⟩;have d4:=tK (kk z0) (tK (kk z1) (tK (kk z2) (kk e0)));have a9:=tK (a1.cell (i:=0) rfl) (tK (a1.cell (i:=1) rfl) (tK (a1.cell (i:=2) rfl) (((show Below w2.heap.size w2 a8 from d2).cell (p:=⟨M,O+k,none⟩) Z).trans y0)))
   refine wp_region_held_drew (S:=fun wx=>wx.cell? ⟨A,0,none⟩=some (.string p.t)/\wx.cell? ⟨A,1,none⟩=some (.int .u32 p.y)/\wx.cell? ⟨A,2,none⟩=some (.int .i64 p.a)/\wx.cell? ⟨M,O+k,none⟩=some (.int .i64 p.r)) (by kernel_rfl) d3 (fun e7=>?_)
   iterate 14
    refine fV 0 0 (by simp only[List.size_toArray,List.length_cons,List.length_nil,Nat.reduceAdd,Nat.reduceSub]<;>rfl) (by simp only[List.getElem?_toArray,List.getElem?_cons_succ,List.getElem?_cons_zero];rfl) (by kernel_rfl) (by exact fun _ _ _ h=>h) (by first|exact Or.inr ⟨by rfl,rfl⟩|(refine Or.inl ⟨by rfl,?_⟩;intro w' e8;(try dsimp only at e8);(try go_simp);try with_reducible rfl)) (by assumption) ?_
    try simp only[bJ,bK,bH,bB]
   refine dJ (i:=14) (by kernel_rfl) rfl (fun K I=>?_);go_simp;refine I.out _ _ d4 (fun _=>?_)
   try simp only[bJ,bK,bH,bB]
   clear I K;refine dJ (i:=15) (by kernel_rfl) rfl (fun K I=>?_);refine sX rfl (.tmp 30) (.tmp 44) 56 rfl u2 (.slice (some ⟨d.heap.size,0,none⟩) 1 1) v' a8 (by simp[lL]) (by simp[lL]) hr ?_;refine I.out _ _ a9 (fun _=>?_)
   try simp only[bJ,bK,bH,bB]
   clear I K;refine dJ (i:=16) (by kernel_rfl) rfl (fun K I=>?_);go_simp;refine I.out _ _ a9 (fun _=>?_)
   try simp only[bJ,bK,bH,bB]
   clear I K;refine wpAnyH_done (by kernel_rfl) ?_ _;have g0:=a1.cell (i:=0) rfl;obtain⟨J,d5⟩:∃J,J=F+p.t.size:=⟨_,rfl⟩;have m1:IntKind.i64.wrap ((F:Int)+(p.t.size:Int))=(J:Int):=by rw[show(F:Int)+(p.t.size:Int)=(J:Int) by omega];exact tE J (by omega)
   have f4:(F:Int)+(p.t.size:Int)=(J:Int):=by omega
   have e9:J<=18720*(k+1):=by omega
   rw[<-d5] at b9;clear d5 z0 z1 z2 hr e0 d3 d4 a9 e7;go_wp2_with fail;have hg:=HG.out
   go_roundg (l.length-(k+1))
   case measure=>omega
   case rel=>exact⟨k+1,J,by omega,rfl,by go_num,rfl,b9,e9,by rw[HT.out];exact e6,d2⟩
  ·have t1:decide ((k:Int)<(l.length:Int))=false:=aE (by omega);have HT:=hid (show l.take k=l by rw[List.take_of_length_le (by omega)]);go_wp2_with fail
   go_ret2
   exact⟨_,rfl,by rw[<-HT.out];exact hor.rd,b6.trans (H.mono e2)⟩
theorem RdR.lit {w:World} {g e:Nat} {l:lC} {n:Nat} (h:Arr w g e l.flatten) (A:l.length=n) (F:n<=maxLen):RdR w (.slice (some ⟨g,0,none⟩) n n) l:=by
 subst A;refine⟨_,l.length,rfl,aD _,F,.inr ⟨g,0,rfl,h.lt,fun j d=>?_⟩⟩;rw[Nat.zero_add,h.cell (i:=j) (aN d),bV,aN d];rfl
theorem RdR.litAt {w:World} {g e o:Nat} {pre:List Value} {l:lC} {n:Nat} (h:Arr w g e (pre++l.flatten)) (d:pre.length=o) (A:l.length=n) (F:n<=maxLen):RdR w (.slice (some ⟨g,o,none⟩) n n) l:=by
 subst A d;refine⟨_,l.length,rfl,aD _,F,.inr ⟨g,pre.length,rfl,h.lt,fun j G=>?_⟩⟩;have e:(pre++l.flatten)[pre.length+j]? =some l.flatten[j]:=by grind
 rw[h.cell e,bV,aN G];rfl
def aw1:Ent:=⟨32,40,0,40,0⟩
def aw2:Ent:=⟨90,40,40,1,0⟩
theorem aK2:jA [aw1,aw2]:=by
 refine⟨⟨rfl,?_,?_,?_,?_,?_,?_⟩,⟨rfl,?_,?_,?_,?_,?_,?_⟩,trivial⟩<;>decide
theorem bFv:¬jA [aw2]:=fun h=>absurd h.1.1 (by decide)
theorem NN:lG [aw1,aw2]=41:=by
 unfold lG;rw[aB aK2];rfl
theorem GV (o r:Int) (h:(if o<0\/(41:Int)<=o then(-1:Int) else(NH [aw1,aw2] o:Int)-1)=r):nB [aw1,aw2] o=r:=by
 unfold nB;rw[NN];exact h
theorem bFw:yF [aw1,aw2] 39 2=(0,1):=by
 unfold yF;rw[NN,aA (by decide)];show(nB [aw1,aw2] 39,nB [aw1,aw2] 40)=_;rw[GV 39 0 (by decide),GV 40 1 (by decide)]
theorem bFx:yF [aw1,aw2] 41 2=(-1,-1):=by grind [yF,NN,aw1,aw2]
def xyS:ByteArray:=⟨#[120,121]⟩
theorem bFy:vC [xyS]:=fun t d=>by
 obtain rfl:=List.mem_singleton.1 d;exact⟨by decide,by decide,by decide⟩
theorem aK3:cI (⟨#[80,77,107,49,23,114,69,56,80,144,0,0,0,0]⟩:ByteArray).data.toList=([],0):=by kernel_rfl
theorem bFz:∃y:Int,gU 0 (kT 0 [(1,[xyS])])=[⟨32,40,0,2,y⟩]:=⟨_,rfl⟩
theorem bHn (w:World) (hE:dU w):Calls pG 34 #[] w fun e w'=>e=.returned (.bool true)/\Below w.heap.size w w':=by
 have hN:=Arr.new w 73 [.int .i64 32,.int .i64 40,.int .i64 0,.int .i64 40,.int .u32 0,.int .i64 90,.int .i64 40,.int .i64 40,.int .i64 1,.int .u32 0];have J:Below w.heap.size w (w.alloc (.cells #[.int .i64 32,.int .i64 40,.int .i64 0,.int .i64 40,.int .u32 0,.int .i64 90,.int .i64 40,.int .i64 40,.int .i64 1,.int .u32 0] 73)):=bD (aH _ _) _
 have L:RdR (w.alloc (.cells #[.int .i64 32,.int .i64 40,.int .i64 0,.int .i64 40,.int .u32 0,.int .i64 90,.int .i64 40,.int .i64 40,.int .i64 1,.int .u32 0] 73)) (.slice (some ⟨w.heap.size,0,none⟩) 2 2) ([aw1,aw2].map bG):=RdR.lit hN rfl (by decide);have a1:RdR (w.alloc (.cells #[.int .i64 32,.int .i64 40,.int .i64 0,.int .i64 40,.int .u32 0,.int .i64 90,.int .i64 40,.int .i64 40,.int .i64 1,.int .u32 0] 73)) (.slice (some ⟨w.heap.size,5,none⟩) 1 1) ([aw2].map bG):=RdR.litAt (pre:=[.int .i64 32,.int .i64 40,.int .i64 0,.int .i64 40,.int .u32 0]) hN rfl rfl (by decide);have b4:=hE.below J
 clear hN hE;go_enter func34,ntmps34;go_wp2_with fail;obtain⟨g,hg⟩:∃g,g=w.heap.size:=⟨_,rfl⟩;generalize (w.alloc (.cells #[.int .i64 32,.int .i64 40,.int .i64 0,.int .i64 40,.int .u32 0,.int .i64 90,.int .i64 40,.int .i64 40,.int .i64 1,.int .u32 0] 73))=W0 at*
 rw[<-hg] at L a1 ⊢;clear hg;have b5:∀W,RdR W (.slice (some ⟨g,0,none⟩) 2 2) ([aw1,aw2].map bG)->Calls pG 47 #[.slice (some ⟨g,0,none⟩) 2 2,.int .i64 39,.int .i64 2] W fun e w'=>e=.returned (.tuple #[.int .i64 0,.int .i64 1])/\Below W.heap.size W w':=fun W h=>by
  have k:=aKn _ [aw1,aw2] 39 2 W h (by decide) (by decide) (by decide) (by decide) (by decide);rw[bFw] at k;exact k
 have b7:∀W,RdR W (.slice (some ⟨g,0,none⟩) 2 2) ([aw1,aw2].map bG)->Calls pG 47 #[.slice (some ⟨g,0,none⟩) 2 2,.int .i64 41,.int .i64 2] W fun e w'=>e=.returned (.tuple #[.int .i64 (-1),.int .i64 (-1)])/\Below W.heap.size W w':=fun W h=>by
  have k:=aKn _ [aw1,aw2] 41 2 W h (by decide) (by decide) (by decide) (by decide) (by decide);rw[bFx] at k;exact k
 have M:∀(o r:Int),nB [aw1,aw2] o=r->∀W,RdR W (.slice (some ⟨g,0,none⟩) 2 2) ([aw1,aw2].map bG)->Calls pG 45 #[.slice (some ⟨g,0,none⟩) 2 2,.int .i64 o] W fun e w'=>e=.returned (.int .i64 r)/\Below W.heap.size W w':=fun o r e W h=>by
  have k:=aKm _ [aw1,aw2] o W h (by decide);rw[e] at k;exact k
 have b8:=M 40 1 (GV _ _ (by decide));have b9:=M 39 0 (GV _ _ (by decide));have c0:=M 41 (-1) (GV _ _ (by decide));have c1:∀W,RdR W (.slice (some ⟨g,0,none⟩) 2 2) ([aw1,aw2].map bG)->Calls pG 40 #[.slice (some ⟨g,0,none⟩) 2 2] W fun e w'=>e=.returned (.bool true)/\Below W.heap.size W w':=fun W h=>by
  have k:=DB _ [aw1,aw2] W h (by decide);rw[aG aK2] at k;exact k
 have g1:∀W,RdR W (.slice (some ⟨g,5,none⟩) 1 1) ([aw2].map bG)->Calls pG 40 #[.slice (some ⟨g,5,none⟩) 1 1] W fun e w'=>e=.returned (.bool false)/\Below W.heap.size W w':=fun W h=>by
  have k:=DB _ [aw2] W h (by decide);rw[aE bFv] at k;exact k
 have c2:∀W,RdR W (.slice (some ⟨g,0,none⟩) 2 2) ([aw1,aw2].map bG)->Calls pG 42 #[.slice (some ⟨g,0,none⟩) 2 2] W fun e w'=>e=.returned (.int .i64 41)/\Below W.heap.size W w':=fun W h=>by
  have k:=VO _ [aw1,aw2] W h (by decide);rw[NN] at k;exact k
 have c4:∀W,dU W->Calls pG 35 #[.string (⟨#[80,77,107,49,23,114,69,56,80,144,0,0,0,0]⟩:ByteArray)] W fun e w'=>∃v,e=.returned (.tuple #[v,.int .i64 0])/\RdR w' v (([]:List Ent).map bG)/\Below W.heap.size W w':=fun W h=>by
  have k:=GK (⟨#[80,77,107,49,23,114,69,56,80,144,0,0,0,0]⟩:ByteArray) W h (by decide);have e1:(cI (⟨#[80,77,107,49,23,114,69,56,80,144,0,0,0,0]⟩:ByteArray).data.toList).2=0:=by rw[aK3]
  have e2:eY (⟨#[80,77,107,49,23,114,69,56,80,144,0,0,0,0]⟩:ByteArray).data.toList=[]:=by unfold eY;rw[aK3];rfl
  rw[e1,e2] at k;exact k
 have c5:∀W,dU W->Calls pG 35 #[.string ⟨#[]⟩] W fun e w'=>∃v,e=.returned (.tuple #[v,.int .i64 3])/\RdR w' v (([]:List Ent).map bG)/\Below W.heap.size W w':=fun W h=>GK ⟨#[]⟩ W h (by decide)
 refine(b5 _ L).mono ?_;rintro e w1 ⟨rfl,d⟩;have c7:=b4.below d;have a2:=L.below d;have c8:=a1.below d;have c9:=J.trans (d.mono J.size);clear b5 L a1 b4 J d;go_wp2_with fail;refine(b7 _ a2).mono ?_;rintro e w2 ⟨rfl,F⟩;have a4:=c7.below F;have d0:=a2.below F;have d1:=c8.below F;have d2:=aW c9 F;clear b7 a2 c8 c7 c9 F;go_wp2_with fail;refine(c4 _ a4).mono ?_;rintro e w3 ⟨v3,rfl,d3,G⟩;obtain⟨a3,c3,rfl,-⟩:=nS d3;have a5:=a4.below G;have d4:=d0.below G;have d5:=d1.below G;have d6:=aW d2 G;clear c4 d0 d1 a4 d2 G d3;go_wp2_with fail;refine(c5 _ a5).mono ?_;rintro e w4 ⟨v4,rfl,g2,H⟩
 have d7:=a5.below H;have d8:=d4.below H;have d9:=d5.below H;have e0:=aW d6 H;clear c5 d4 d5 a5 d6 H g2;go_wp2_with fail;refine(VG 1 (.slice (some ⟨w4.heap.size,0,none⟩) 1 1) [xyS] _ (uF w4 9 [.string xyS] 1 rfl (by decide)) (by decide) bFy (by decide) (by decide)).mono ?_;rintro e w5 ⟨rfl,ho,e3⟩;have I:=aW (bD (aH _ _) (.cells #[.string xyS] 9)) e3;have e4:=d7.below I;have e5:=d8.below I;have e6:=d9.below I;have e7:=aW e0 I;have e8:=wQ ho;obtain⟨y,hy⟩:=bFz
 have a7:∀W,dU W->Calls pG 35 #[.string (aZ [(1,[xyS])])] W fun e w'=>∃v,e=.returned (.tuple #[v,.int .i64 0])/\RdR w' v ([⟨32,40,0,2,y⟩].map bG)/\Below W.heap.size W w':=fun W h=>by
  have k:=GK (aZ [(1,[xyS])]) W h (Nat.le_trans e8 (by decide));obtain⟨k1,k2⟩:=GD (l:=[(1,[xyS])]) (by simp) ho;rw[k1,k2,hy] at k;exact k
 obtain⟨A,hA⟩:∃A,A=aZ [(1,[xyS])]:=⟨_,rfl⟩;rw[<-hA] at a7 ⊢;clear hA e8 ho hy I e3 d7 d8 d9 e0;go_wp2_with fail;refine(a7 _ e4).mono ?_;rintro e w6 ⟨v6,rfl,e9,O⟩;have a8:=e5.below O;have f0:=e6.below O;have g3:=aW e7 O;obtain⟨a6,c6,rfl,g6,g7,f1⟩:=nS e9;obtain⟨b6,o6,rfl,g8,f2⟩:=f1 (Nat.succ_pos _);obtain⟨U,x1,x2,V,x4⟩:=f2 0 _ rfl;simp only[Nat.zero_mul,Nat.add_zero] at U V;clear a7 e5 e6 e4 e7 O e9 f1 f2 x1 x2 x4;go_wp2_with fail;refine(c1 _ a8).mono ?_;rintro e w7 ⟨rfl,Z⟩;have a9:=a8.below Z;have f3:=f0.below Z;go_wp2_with fail;refine(c2 _ a9).mono ?_;rintro e w8 ⟨rfl,h8⟩
 have f4:=aW Z h8;have b0:=a9.below h8;have f5:=f3.below h8;go_wp2_with fail;refine(b8 _ b0).mono ?_;rintro e w9 ⟨rfl,h9⟩;have f6:=aW f4 h9;have b1:=b0.below h9;have f7:=f5.below h9;go_wp2_with fail;refine(b9 _ b1).mono ?_;rintro e g9 ⟨rfl,a0⟩;have f8:=aW f6 a0;have f9:=b1.below a0;have g0:=f7.below a0;go_wp2_with fail;refine(c0 _ f9).mono ?_;rintro e i0 ⟨rfl,b2⟩;have b3:=aW f8 b2;have g4:=g0.below b2;have y0:=(b3.cell (gV w6 _ U)).trans U;have y3:=(b3.cell (gV w6 _ V)).trans V
 clear Z h8 h9 a0 b2 f4 f6 f8 a8 a9 b0 b1 f9 f0 f3 f5 f7 g0 U V b8 b9 c0 c2 c1 M;go_wp2_with fail;refine(g1 _ g4).mono ?_;rintro e i1 ⟨rfl,g5⟩;go_wp2_with fail;go_ret;exact⟨rfl,aW (aW g3 b3) g5⟩
end Go.Proofs.YtihbnmlinkbnkaaGreatDoor
