/-
  Texts put together (part 22): the walks and the plain laws on which the statement stands.
-/
import Derived.Test.YtmcogmmncfihhaaGreatDoorZ19
import Derived.Test.YtmcogmmncfihhaaGreatDoorZ20
import Derived.Test.YtmcogmmncfihhaaGreatDoorZ21
set_option maxRecDepth 100000
set_option maxHeartbeats 12800000
set_option linter.unusedVariables false
set_option linter.unusedSimpArgs false
open And renaming intro->BG
open ByteArray renaming size_append->aTx
open Go renaming Operand->iM,wpAnyH_ready->fL,wpAnyH_take->aQ,wp_region_held_drew->vI
open Go.Act renaming put->aJ
open Go.AllReadyH renaming cons->fA,nil->fM
open Go.IntKind renaming i64->aI
open Go.RowKit.Below renaming refl->aB
open Go.Value renaming int->bO
open Go.World renaming block_lt_of_cell?->iO,size_alloc->fV
open Go.World.ownsRow renaming kept->NH
open Int renaming neg_tmod->aZe,tmod_eq_emod_of_nonneg->oJ,toNat_of_nonneg->aC5
open List renaming append_nil->eE,drop_zero->AP,getElem?_cons_succ->aS,getElem?_cons_zero->aP,getElem?_eq_getElem->aN,getElem?_map->dY,getElem?_toArray->aR,length_append->aL,length_map->bJ,length_singleton->fK,length_take->aX,map_append->fI,mem_cons->kD,mem_of_getElem?->cH,setIfInBounds_toArray->aK,set_cons_succ->aG,set_cons_zero->aH,take_add_one->cQ,take_of_length_le->cS
open Nat renaming add_assoc->dZ,le_refl->aA,le_trans->aW,sub_zero->AF,zero_le->aU
open Option.some renaming inj->bW
open Or renaming inl->aT
namespace Go.Proofs.YtmcogmmncfihhaaGreatDoor
open Go.RowKit Go Go.Shelf
theorem aY6 (t:ByteArray) (l:List ByteArray):aYg (t::l)=cB t++aYg l:=rfl
theorem bAr (x y:List ByteArray):aYg (x++y)=aYg x++aYg y:=by unfold aYg;simp
theorem bAs {l:List ByteArray} {i:Nat} {t:ByteArray} (h:l[i]? =some t):aYg (l.take (i+1))=aYg (l.take i)++cB t:=by
 rw[cQ,h];show aYg (l.take i++[t])=_;rw[bAr,aY6];show _++(cB t++[])=_;rw[eE]
theorem bAt {t:ByteArray} {r:Int} (h:eZ t r=0) (hO:fS (mkS (bC t.data.toList))):okT r t:=by
 obtain⟨h0,_,_,h3⟩:=aOu h;exact⟨h0,hO,by omega⟩
theorem aYu {r:Int} (hr:r<=360):∀(l:List ByteArray),(∀t∈l,okT r t)->(aYg l).length<=28000*l.length
 |[],_=>aA _
 |t::l,h=>by
  obtain⟨h0,h1,h2⟩:=h t (List.mem_cons_self ..);have ih:=aYu hr l (fun x hx=>h x (List.mem_cons_of_mem _ hx));have:=(zR h0 (by omega) h1).1;rw[aY6,aL,List.length_cons];omega
theorem aWb {s:List UInt8} {hi:Int}:∀{l:List Prt} {lo:Int},aUu s lo l hi->∀p∈l,aVa s p
 |[],_,_,p,hp=>by simp at hp
 |x::l,lo,h,p,hp=>by
  rcases kD.1 hp with rfl|hp
  ·exact h.2.1
  ·exact aWb h.2.2 p hp
theorem aXw {s:List UInt8}:∀p∈aUl s,aVa s p:=fun p hp=>by
 unfold aUl at hp
 by_cases q:(hH s).2=0
 ·rw[if_pos q] at hp;exact aWb (aWs q) p hp
 ·rw[if_neg q] at hp;simp at hp
theorem aVq (s:ByteArray):(aUl s.data.toList).length<=8*s.size+2:=by
 have:=aV7 s rfl;unfold XM okP at this;rw[aL,bJ] at this;unfold aUl;split
 ·omega
 ·simp
theorem aWc {w:World} {v:Value} {l:List Prt} (h:RdR w v (l.map XS)):∃a cap,v=.slice a l.length cap/\l.length<=cap/\cap<=maxLen/\
  (0<l.length->∃b off,a=some ⟨b,off,none⟩/\b<w.heap.size/\∀j p,l[j]? =some p->w.cell? ⟨b,off+j*5,none⟩=some (.string p.t)/\w.cell? ⟨b,off+j*5+1,none⟩=some (.int .u32 p.y)/\w.cell? ⟨b,off+j*5+2,none⟩=some (.int .i64 p.a)/\w.cell? ⟨b,off+j*5+3,none⟩=some (.int .i64 p.z)/\w.cell? ⟨b,off+j*5+4,none⟩=some (.int .i64 p.r)):=by
 obtain⟨a,cap,hv,h1,h2,h3⟩:=h.open (aU7 l) (by decide);rw[bJ] at hv h1 h3;refine⟨a,cap,hv,h1,h2,fun hl=>?_⟩;obtain⟨b,off,ha,hb,hc⟩:=h3 hl;refine⟨b,off,ha,hb,fun j p hj=>?_⟩;have e:(l.map XS)[j]? =some (XS p):=by rw[dY,hj];rfl
 have c:=fun i u hi=>hc j (XS p) i u e hi
 refine⟨c 0 _ rfl,?_,?_,?_,?_⟩
 ·rw[dZ];exact c 1 _ rfl
 ·rw[dZ];exact c 2 _ rfl
 ·rw[dZ];exact c 3 _ rfl
 ·rw[dZ];exact c 4 _ rfl
theorem aXx {P:Program} {t e k bytes:Nat} {z:Value} (E:ElR P t e k bytes z) {ops:Array Oper} {rest:List Oper} {o:Oper} {a:Act} {Q:Exit->Act->World->Prop} {w:World} (hgd:o.guard=none) (s x:iM)
  (ho:o.op=.call {callee:=.builtin .append,args:=#[s,x],argTypes:=#[t,t]}) (base:Nat) (v:Value) (l:aUh) (hs:a.eval s=v) (hown:OwR w base e k v l)
  (g:Nat) (q:List Value) (hx:a.eval x=.slice (some ⟨g,0,none⟩) 1 1) (hc:Arr w g e q) (hq:q.length=k) (h1:∀u∈q,u.oneCell'=true) (hroom:(l.length+1)*bytes<=140737488355328) (hbase:base<=w.heap.size)
  (h:∀v' w',OwR w' base e k v' (l++[q])->Below base w w'->w.grownBy w' v.ownBlock->wpList P ops Q rest (a.put o.dst v') w'):wpList P ops Q (o::rest) a w:=by
 obtain⟨i,hi,hz,h2,h3⟩:=E.info;have hpos:=E.pos;have hn:l.length+1<=140737488355328:=aW (Nat.le_mul_of_pos_right _ hpos) hroom;refine wpList_append_own w hgd s x t ho base e i z k bytes E.under hi hz h2 h3 E.cells E.some' v l.length l.flatten hs hown ⟨g,0,none⟩ 1 1 q hx (by rw[hq,Nat.one_mul]) (fun j u hj=>?_) h1 (by simp only[maxLen];omega) hroom hbase (fun v' w' q1 q2 _=>h v' w' ?_ (rC hown q2 hbase) q2)
 ·rw[show(⟨g,0,none⟩:Addr).add j=⟨g,j,none⟩ by unfold Addr.add;split<;>simp_all];exact hc.cell hj
 ·unfold OwR;rw[List.flatten_append,aL,List.flatten_cons,List.flatten_nil,eE];exact q1
theorem aXy (s:ByteArray) (w:World) (hE:iF w) (hs:s.size<=120000):
  Calls Tryz.prog 23 #[.string s] w fun e w'=>∃v,e=.returned (.tuple #[v,.int .i64 (hH s.data.toList).2])/\RdR w' v ((aUl s.data.toList).map aUo)/\Below w.heap.size w w':=by
 have hlen:=aVq s;have hcall:=aWa s w hE hs;obtain⟨l,hl⟩:∃l,l=aUl s.data.toList:=⟨_,rfl⟩;obtain⟨E,hEE⟩:∃E,E=(hH s.data.toList).2:=⟨_,rfl⟩;rw[<-hl,<-hEE] at hcall ⊢;rw[<-hl] at hlen;clear hl hEE;go_enter Tryz.func23,Tryz.ntmps23;go_wp2_with fail;refine hcall.mono ?_;rintro e w1 ⟨v,rfl,hrd,hb1⟩;obtain⟨a,ca,rfl,hca,hma,hA⟩:=aWc hrd;unfold maxLen at hma;have hs1:=hb1.size;clear hrd;go_wp2_with fail
 go_loopg [2,6,14] l.length (fun g s2 _s6 s14 wr=>∃k:Nat,k<=l.length/\g=l.length-k/\s14=.int .i64 (k:Int)/\OwR wr w1.heap.size 61 4 s2 ((l.take k).map aUo)/\Below w1.heap.size w1 wr)
 case atStart=>exact⟨0,aU _,rfl,rfl,OwR.nil _ _ _ _,aB _ _⟩
 case round=>
  obtain⟨k,hk,hg,rfl,hor,hbel⟩:=hrel;have HG:=hid hg;clear hg
  by_cases hlt:k<l.length
  ·have t1:decide ((k:Int)<(l.length:Int))=true:=decide_eq_true (by omega);obtain⟨b,off,rfl,hb,hc⟩:=hA (by omega);obtain⟨p,hp⟩:∃p,l[k]? =some p:=⟨_,aN hlt⟩;obtain⟨x0,x1,x2,x3,x4⟩:=hc k p hp;have c0:=(hbel.cell (p:=⟨b,off+k*5,none⟩) hb).trans x0;have c1:=(hbel.cell (p:=⟨b,off+k*5+1,none⟩) hb).trans x1;have c2:=(hbel.cell (p:=⟨b,off+k*5+2,none⟩) hb).trans x2;have c3:=(hbel.cell (p:=⟨b,off+k*5+3,none⟩) hb).trans x3;have c4:=(hbel.cell (p:=⟨b,off+k*5+4,none⟩) hb).trans x4
   have HT:=hid (show(l.take (k+1)).map aUo=(l.take k).map aUo++[aUo p] by rw[cQ,hp,fI];rfl);have hsz:=hbel.size;have hln:((l.take k).map aUo).length<=960010:=by rw[bJ,aX];omega
   clear x0 x1 x2 x3 x4 hc hp hA;have hN:=Arr.new (wr.alloc (.cells #[.string p.t,.int .u32 p.y,.int .i64 p.a,.int .i64 p.z,.int .i64 p.r] 93)) 61 (aUo p);rw[fV] at hN;have hor2:=OwR.alloc (OwR.alloc hor (.cells #[.string p.t,.int .u32 p.y,.int .i64 p.a,.int .i64 p.z,.int .i64 p.r] 93)) (.cells (aUo p).toArray 61);change Arr ((wr.alloc (.cells #[.string p.t,.int .u32 p.y,.int .i64 p.a,.int .i64 p.z,.int .i64 p.r] 93)).alloc (.cells #[.string p.t,.int .u32 p.y,.int .i64 p.a,.int .i64 p.z] 61)) _ _ _ at hN
   change OwR ((wr.alloc (.cells #[.string p.t,.int .u32 p.y,.int .i64 p.a,.int .i64 p.z,.int .i64 p.r] 93)).alloc (.cells #[.string p.t,.int .u32 p.y,.int .i64 p.a,.int .i64 p.z] 61)) _ _ _ _ _ at hor2;go_wp2_with (at_builtin;refine aXx aXq rfl _ _ rfl w1.heap.size _ _ rfl hor2 _ (aUo p) rfl hN rfl (fun u hu=>(aV8 [p] _ (by simp)).2 u hu) ?_ ?_ ?_;(omega);(simp;omega);intro v3 w3 p1 p2 p3);have hg:=HG.out
   go_roundg (l.length-(k+1))
   case measure=>omega
   case rel=>exact⟨k+1,by omega,rfl,by go_num,by rw[HT.out];exact p1,(((hbel.alloc (by omega) _).alloc (by simp;omega) _).trans p2)⟩
  ·have t1:decide ((k:Int)<(l.length:Int))=false:=decide_eq_false (by omega);have HT:=hid (show(l.take k).map aUo=l.map aUo by rw[cS (by omega)]);go_wp2_with fail
   go_ret2
   exact⟨_,rfl,by rw[<-HT.out];exact hor.rd,hb1.trans (hbel.mono hs1)⟩
theorem aXz (s:ByteArray) (w:World) (hE:iF w) (hs:s.size<=120000):
  Calls Tryz.prog 24 #[.string s] w fun e w'=>∃v,e=.returned (.tuple #[v,.int .i64 (hH s.data.toList).2])/\RdI w' v ((aUl s.data.toList).map Prt.r)/\Below w.heap.size w w':=by
 have hlen:=aVq s;have hcall:=aWa s w hE hs;obtain⟨l,hl⟩:∃l,l=aUl s.data.toList:=⟨_,rfl⟩;obtain⟨E,hEE⟩:∃E,E=(hH s.data.toList).2:=⟨_,rfl⟩;rw[<-hl,<-hEE] at hcall ⊢;rw[<-hl] at hlen;clear hl hEE;go_enter Tryz.func24,Tryz.ntmps24;go_wp2_with fail;refine hcall.mono ?_;rintro e w1 ⟨v,rfl,hrd,hb1⟩;obtain⟨a,ca,rfl,hca,hma,hA⟩:=aWc hrd;unfold maxLen at hma;have hs1:=hb1.size;clear hrd;go_wp2_with fail
 go_loopg [2,6,14] l.length (fun g s2 _s6 s14 wr=>∃k:Nat,k<=l.length/\g=l.length-k/\s14=.int .i64 (k:Int)/\OwI wr w1.heap.size s2 ((l.take k).map Prt.r)/\Below w1.heap.size w1 wr)
 case atStart=>exact⟨0,aU _,rfl,rfl,OwI.nil _ _,aB _ _⟩
 case round=>
  obtain⟨k,hk,hg,rfl,hor,hbel⟩:=hrel;have HG:=hid hg;clear hg
  by_cases hlt:k<l.length
  ·have t1:decide ((k:Int)<(l.length:Int))=true:=decide_eq_true (by omega);obtain⟨b,off,rfl,hb,hc⟩:=hA (by omega);obtain⟨p,hp⟩:∃p,l[k]? =some p:=⟨_,aN hlt⟩;obtain⟨x0,x1,x2,x3,x4⟩:=hc k p hp;have c0:=(hbel.cell (p:=⟨b,off+k*5,none⟩) hb).trans x0;have c1:=(hbel.cell (p:=⟨b,off+k*5+1,none⟩) hb).trans x1;have c2:=(hbel.cell (p:=⟨b,off+k*5+2,none⟩) hb).trans x2;have c3:=(hbel.cell (p:=⟨b,off+k*5+3,none⟩) hb).trans x3;have c4:=(hbel.cell (p:=⟨b,off+k*5+4,none⟩) hb).trans x4
   have HT:=hid (show(l.take (k+1)).map Prt.r=(l.take k).map Prt.r++[p.r] by rw[cQ,hp,fI];rfl);have hsz:=hbel.size;have hln:((l.take k).map Prt.r).length<=960010:=by rw[bJ,aX];omega
   clear x0 x1 x2 x3 x4 hc hp hA;have hN:=bS (wr.alloc (.cells #[.string p.t,.int .u32 p.y,.int .i64 p.a,.int .i64 p.z,.int .i64 p.r] 93)) (.int .i64 p.r) 3;rw[fV] at hN;have hor2:=OwI.alloc (OwI.alloc hor (.cells #[.string p.t,.int .u32 p.y,.int .i64 p.a,.int .i64 p.z,.int .i64 p.r] 93)) (.cells #[.int .i64 p.r] 3);go_wp2_with (at_builtin;refine eN rfl _ _ rfl w1.heap.size _ _ rfl hor2 _ p.r rfl hN ?_ ?_ ?_;(omega);(simp;omega);intro v3 w3 p1 p2 p3);have hg:=HG.out
   go_roundg (l.length-(k+1))
   case measure=>omega
   case rel=>exact⟨k+1,by omega,rfl,by go_num,by rw[HT.out];exact p1,(((hbel.alloc (by omega) _).alloc (by simp;omega) _).trans p2)⟩
  ·have t1:decide ((k:Int)<(l.length:Int))=false:=decide_eq_false (by omega);have HT:=hid (show(l.take k).map Prt.r=l.map Prt.r by rw[cS (by omega)]);go_wp2_with fail
   go_ret2
   exact⟨_,rfl,by rw[<-HT.out];exact hor.rd,hb1.trans (hbel.mono hs1)⟩
def aUj:Int->List Prt->List Ent
 |_,[]=>[]
 |fr,p::l=>⟨p.a,p.r,fr,(p.t.size:Int),p.y⟩::aUj (fr+(p.t.size:Int)) l
def aUz (l:List Prt):Nat:=(l.map (fun p=>p.t.size)).sum
theorem aX1 (p:Prt) (l:List Prt):aUz (p::l)=p.t.size+aUz l:=by unfold aUz;simp
theorem aWd:∀(l:List Prt) (fr:Int),(aUj fr l).length=l.length
 |[],_=>rfl
 |p::l,fr=>by
  show(aUj _ l).length+1=_;rw[aWd l];rfl
theorem aWe:∀(l m:List Prt) (fr:Int),aUj fr (l++m)=aUj fr l++aUj (fr+(aUz l:Int)) m
 |[],m,fr=>by
  show aUj fr m=aUj (fr+((0:Nat):Int)) m;rw[Int.natCast_zero,Int.add_zero]
 |p::l,m,fr=>by
  show _::aUj _ (l++m)=_::(aUj _ l++_);rw[aWe l m,aX1]
  congr 2
  congr 1
  push_cast;omega
theorem aX2 {l:List Prt} {k:Nat} {p:Prt} (h:l[k]? =some p):aUj 0 (l.take (k+1))=aUj 0 (l.take k)++[⟨p.a,p.r,(aUz (l.take k):Int),(p.t.size:Int),p.y⟩]:=by
 rw[cQ,h];show aUj 0 (l.take k++[p])=_;rw[aWe,Int.zero_add];rfl
theorem aX3 {l:List Prt} {k:Nat} {p:Prt} (h:l[k]? =some p):aUz (l.take (k+1))=aUz (l.take k)+p.t.size:=by
 rw[cQ,h];unfold aUz;simp
theorem aWf:ElR Tryz.prog 26 51 5 40 (.agg #[.int .i64 0,.int .i64 0,.int .i64 0,.int .i64 0,.int .u32 0]):=ElR.mk' (by kernel_rfl) Tryz.underlying26 rfl (by decide) (by decide)
theorem RdR.nil (w:World):RdR w (.slice none 0 0) []:=⟨none,0,rfl,aA _,by simp[maxLen],.inl rfl⟩
theorem aX9 (s:ByteArray) (w:World) (hE:iF w) (hs:s.size<=120000):
  Calls Tryz.prog 9 #[.string s] w fun e w'=>∃v,e=.returned (.tuple #[v,.int .i64 (hH s.data.toList).2])/\RdR w' v ((aUj 0 (aUl s.data.toList)).map LF)/\Below w.heap.size w w':=by
 have hlen:=aVq s;have hgood:=fun p (h:p∈aUl s.data.toList)=>aXw p h
 have hnil:(hH s.data.toList).2≠0->aUl s.data.toList=[]:=fun h=>if_neg h
 have hcb:=fun W h=>aXy s W h hs
 have hcr:=fun W h=>aXz s W h hs
 obtain⟨l,hl⟩:∃l,l=aUl s.data.toList:=⟨_,rfl⟩;obtain⟨E,hEE⟩:∃E,E=(hH s.data.toList).2:=⟨_,rfl⟩;have hsize:∀p∈l,p.t.size<=18720:=fun p hp=>by
  rw[hl] at hp;have h:=hgood p hp;obtain⟨-,-,g3,-⟩:=h.facts;obtain⟨-,-,g5,-⟩:=h;omega
 rw[<-hl,<-hEE] at hcb hcr hnil ⊢;rw[<-hl] at hlen;clear hl hEE hgood;go_enter Tryz.func9,Tryz.ntmps9;go_wp2_with fail;refine(hcb _ hE).mono ?_;rintro e w1 ⟨v1,rfl,hb1,h1⟩;have hE1:=hE.below h1
 by_cases h0:E=0
 rotate_left
 ·have t1:(E != 0)=true:=bne_iff_ne.2 h0;have HN:=hid (hnil h0);clear hnil;go_wp2_with fail
  go_ret2
  exact⟨_,rfl,by rw[HN.out];exact RdR.nil _,h1⟩
 subst h0;clear hnil;go_wp2_with fail;refine(hcr _ hE1).mono ?_;rintro e w2 ⟨v2,rfl,hr2,h2⟩;have hb2:=hb1.below h2;have h02:=bV h1 h2;obtain⟨pa,pc,rfl,hpc1,hpc2,hpA⟩:=aX0 hb2;obtain⟨ra,rc,rfl,hrc1,hrc2,hrA⟩:=hr2.open;rw[bJ] at hrc1 hrA ⊢;unfold maxLen at hpc2 hrc2;have hs2:=h02.size;clear hb1 hb2 hr2 hcb hcr h1 h2 hE1 hE;go_wp2_with fail
 go_loopg [2,7,8,9,25] l.length (fun g s2 s7 _s8 _s9 s25 wr=>∃k F:Nat,k<=l.length/\g=l.length-k/\s25=.int .i64 (k:Int)/\s7=.int .i64 (F:Int)/\Hid (F=aUz (l.take k))/\F<=18720*k/\OwR wr w2.heap.size 51 5 s2 ((aUj 0 (l.take k)).map LF)/\Below w2.heap.size w2 wr)
 case atStart=>exact⟨0,0,aU _,rfl,rfl,rfl,hid rfl,aU _,OwR.nil _ _ _ _,aB _ _⟩
 case round=>
  obtain⟨k,F,hk,hg,rfl,rfl,HF,hFb,hor,hbel⟩:=hrel;have HG:=hid hg;have hsz:=hbel.size;clear hg
  by_cases hlt:k<l.length
  ·have t1:decide ((k:Int)<(l.length:Int))=true:=decide_eq_true (by omega);obtain⟨b,off,rfl,hb,hc⟩:=hpA (by omega);obtain⟨b2,off2,rfl,hb2,hc2⟩:=hrA (by omega);obtain⟨p,hp⟩:∃p,l[k]? =some p:=⟨_,aN hlt⟩;obtain⟨x0,x1,x2,x3⟩:=hc k p hp;have y0:=hc2 k p.r (by rw[dY,hp];rfl);have c0:=(hbel.cell (p:=⟨b,off+k*4,none⟩) hb).trans x0;have c1:=(hbel.cell (p:=⟨b,off+k*4+1,none⟩) hb).trans x1;have c2:=(hbel.cell (p:=⟨b,off+k*4+2,none⟩) hb).trans x2;have c3:=(hbel.cell (p:=⟨b,off+k*4+3,none⟩) hb).trans x3;have d0:=(hbel.cell (p:=⟨b2,off2+k,none⟩) hb2).trans y0
   have hps:=hsize p (cH hp);have HT:=hid (show(aUj 0 (l.take (k+1))).map LF=(aUj 0 (l.take k)).map LF++[LF ⟨p.a,p.r,(F:Int),(p.t.size:Int),p.y⟩] by rw[aX2 hp,fI,HF.out];rfl);have HF2:=hid (show F+p.t.size=aUz (l.take (k+1)) by rw[aX3 hp,HF.out]);have hln:((aUj 0 (l.take k)).map LF).length<=960010:=by rw[bJ,aWd,aX];omega
   clear x0 x1 x2 x3 hc hc2 hpA hrA hp;go_wp2_with fail;obtain⟨zb,hz⟩:∃zb,zb=wr.heap.size:=⟨_,rfl⟩;have hz9:=Arr.new wr 61 [.string p.t,.int .u32 p.y,.int .i64 p.a,.int .i64 p.z];have hor9:=OwR.alloc hor (.cells #[.string p.t,.int .u32 p.y,.int .i64 p.a,.int .i64 p.z] 61);have hbel9:=hbel.alloc hsz (.cells #[.string p.t,.int .u32 p.y,.int .i64 p.a,.int .i64 p.z] 61)
   have e0:(wr.alloc (.cells #[.string p.t,.int .u32 p.y,.int .i64 p.a,.int .i64 p.z] 61)).cell? ⟨b2,off2+k,none⟩=some (.int .i64 p.r):=((bD (aB _ wr) (.cells #[.string p.t,.int .u32 p.y,.int .i64 p.a,.int .i64 p.z] 61)).cell (p:=⟨b2,off2+k,none⟩) (iO wr _ d0)).trans d0;change Arr (wr.alloc (.cells #[.string p.t,.int .u32 p.y,.int .i64 p.a,.int .i64 p.z] 61)) _ _ _ at hz9;clear c0 c1 c2 c3 d0;rw[<-hz] at hz9 ⊢;generalize wr.alloc (.cells #[.string p.t,.int .u32 p.y,.int .i64 p.a,.int .i64 p.z] 61)=W9 at*
   have hsz9:=hbel9.size;clear hz hor hbel;obtain⟨W9a,hW9a⟩:∃W9a,W9a=(W9.alloc (.cells #[.int .i64 p.a,.int .i64 p.r,.int .i64 (F:Int),.int .i64 (p.t.size:Int),.int .u32 p.y] 51)).drew:=⟨_,rfl⟩;have hz9a:Arr W9a zb 61 [.string p.t,.int .u32 p.y,.int .i64 p.a,.int .i64 p.z]:=by rw[hW9a];exact Arr.alloc hz9 _
   have ho9a:OwR W9a w2.heap.size 51 5 u2 ((aUj 0 (l.take k)).map LF):=by rw[hW9a];exact OwR.alloc hor9 _
   have hN9:Arr W9a W9.heap.size 51 (LF ⟨p.a,p.r,(F:Int),(p.t.size:Int),p.y⟩):=by rw[hW9a];exact Arr.new W9 51 (LF ⟨p.a,p.r,(F:Int),(p.t.size:Int),p.y⟩)
   have hb9a:Below w2.heap.size w2 W9a:=by rw[hW9a];exact(hbel9.alloc hsz9 _).drew
   have hs9a:=hb9a.size;obtain⟨v',W10,hr,ho10,hb10,hg10⟩:=aVt aWf 26 w2.heap.size u2 _ ho9a _ [LF ⟨p.a,p.r,(F:Int),(p.t.size:Int),p.y⟩] (RdR.one hN9) (aVn [⟨p.a,p.r,(F:Int),(p.t.size:Int),p.y⟩]) (Nat.succ_pos _) (by simp only[fK];omega) hs9a;have hz10:Arr W10 zb 61 [.string p.t,.int .u32 p.y,.int .i64 p.a,.int .i64 p.z]:=hz9a.otherRow ho9a hg10 (by decide);have hbel10:=hb9a.trans hb10;have z0:=hz9.cell (i:=0) rfl;have z1:=hz9.cell (i:=1) rfl;have z2:=hz9.cell (i:=2) rfl;rw[hW9a] at hr;clear hz9a ho9a hN9 hb9a hs9a hW9a hg10 hb10 hor9 hbel9 hsz9 hz9
   have kk:∀{a:Addr} {v:Value},W9.cell? a=some v->(W9.alloc (.cells #[.int .i64 p.a,.int .i64 p.r,.int .i64 (F:Int),.int .i64 (p.t.size:Int),.int .u32 p.y] 51)).drew.cell? a=some v:=fun{a} {v} h=>((bD (aB _ W9) (.cells #[.int .i64 p.a,.int .i64 p.r,.int .i64 (F:Int),.int .i64 (p.t.size:Int),.int .u32 p.y] 51)).drew.cell (iO W9 _ h)).trans h
   have hS0:W9.drew.cell? ⟨zb,0,none⟩=some (.string p.t)/\W9.drew.cell? ⟨zb,1,none⟩=some (.int .u32 p.y)/\W9.drew.cell? ⟨zb,2,none⟩=some (.int .i64 p.a)/\W9.drew.cell? ⟨b2,off2+k,none⟩=some (.int .i64 p.r):=⟨z0,z1,z2,e0⟩;have hS1:=BG (kk z0) (BG (kk z1) (BG (kk z2) (kk e0)));have hS2:=BG (hz10.cell (i:=0) rfl) (BG (hz10.cell (i:=1) rfl) (BG (hz10.cell (i:=2) rfl) (((show Below w2.heap.size w2 W10 from hbel10).cell (p:=⟨b2,off2+k,none⟩) hb2).trans y0)))
   refine vI (S:=fun wx=>wx.cell? ⟨zb,0,none⟩=some (.string p.t)/\wx.cell? ⟨zb,1,none⟩=some (.int .u32 p.y)/\wx.cell? ⟨zb,2,none⟩=some (.int .i64 p.a)/\wx.cell? ⟨b2,off2+k,none⟩=some (.int .i64 p.r)) (by kernel_rfl) hS0 (fun hHeld=>?_);refine aQ (i:=0) (oi:=?oia0) (v:=?va0) ?hia0 (by kernel_rfl) (by kernel_rfl) (by kernel_rfl) ?hqa0 ?hya0 (by assumption) ?_
   case hia0=>(simp only[aR,aP];rfl)
   case hqa0=>exact fun _ _ _ h=>h
   case hya0=>(refine aT ⟨by rfl,?_⟩;intro w' hSw;(try dsimp only at hSw);(try go_simp);try with_reducible rfl)
   try simp only[aJ,aK,aH,aG]
   refine aQ (i:=1) (oi:=?oia1) (v:=?va1) ?hia1 (by kernel_rfl) (by kernel_rfl) (by kernel_rfl) ?hqa1 ?hya1 (by assumption) ?_
   case hia1=>(simp only[aR,aS,aP];rfl)
   case hqa1=>exact fun _ _ _ h=>h
   case hya1=>(refine aT ⟨by rfl,?_⟩;intro w' hSw;(try dsimp only at hSw);(try go_simp);try with_reducible rfl)
   try simp only[aJ,aK,aH,aG]
   refine aQ (i:=2) (oi:=?oia2) (v:=?va2) ?hia2 (by kernel_rfl) (by kernel_rfl) (by kernel_rfl) ?hqa2 ?hya2 (by assumption) ?_
   case hia2=>(simp only[aR,aS,aP];rfl)
   case hqa2=>exact fun _ _ _ h=>h
   case hya2=>(refine aT ⟨by rfl,?_⟩;intro w' hSw;(try dsimp only at hSw);(try go_simp);try with_reducible rfl)
   try simp only[aJ,aK,aH,aG]
   refine aQ (i:=3) (oi:=?oia3) (v:=?va3) ?hia3 (by kernel_rfl) (by kernel_rfl) (by kernel_rfl) ?hqa3 ?hya3 (by assumption) ?_
   case hia3=>(simp only[aR,aS,aP];rfl)
   case hqa3=>exact fun _ _ _ h=>h
   case hya3=>(refine aT ⟨by rfl,?_⟩;intro w' hSw;(try dsimp only at hSw);(try go_simp);try with_reducible rfl)
   try simp only[aJ,aK,aH,aG]
   refine aQ (i:=4) (oi:=?oia4) (v:=?va4) ?hia4 (by kernel_rfl) (by kernel_rfl) (by kernel_rfl) ?hqa4 ?hya4 (by assumption) ?_
   case hia4=>(simp only[aR,aS,aP];rfl)
   case hqa4=>exact fun _ _ _ h=>h
   case hya4=>(refine aT ⟨by rfl,?_⟩;intro w' hSw;(try dsimp only at hSw);(try go_simp);try with_reducible rfl)
   try simp only[aJ,aK,aH,aG]
   refine aQ (i:=5) (oi:=?oia5) (v:=?va5) ?hia5 (by kernel_rfl) (by kernel_rfl) (by kernel_rfl) ?hqa5 ?hya5 (by assumption) ?_
   case hia5=>(simp only[aR,aS,aP];rfl)
   case hqa5=>exact fun _ _ _ h=>h
   case hya5=>(refine aT ⟨by rfl,?_⟩;intro w' hSw;(try dsimp only at hSw);(try go_simp);try with_reducible rfl)
   try simp only[aJ,aK,aH,aG]
   refine aQ (i:=6) (oi:=?oia6) (v:=?va6) ?hia6 (by kernel_rfl) (by kernel_rfl) (by kernel_rfl) ?hqa6 ?hya6 (by assumption) ?_
   case hia6=>(simp only[aR,aS,aP];rfl)
   case hqa6=>exact fun _ _ _ h=>h
   case hya6=>(refine aT ⟨by rfl,?_⟩;intro w' hSw;(try dsimp only at hSw);(try go_simp);try with_reducible rfl)
   try simp only[aJ,aK,aH,aG]
   refine aQ (i:=7) (oi:=?oia7) (v:=?va7) ?hia7 (by kernel_rfl) (by kernel_rfl) (by kernel_rfl) ?hqa7 ?hya7 (by assumption) ?_
   case hia7=>(simp only[aR,aS,aP];rfl)
   case hqa7=>exact fun _ _ _ h=>h
   case hya7=>(refine aT ⟨by rfl,?_⟩;intro w' hSw;(try dsimp only at hSw);(try go_simp);try with_reducible rfl)
   try simp only[aJ,aK,aH,aG]
   refine aQ (i:=8) (oi:=?oia8) (v:=?va8) ?hia8 (by kernel_rfl) (by kernel_rfl) (by kernel_rfl) ?hqa8 ?hya8 (by assumption) ?_
   case hia8=>(simp only[aR,aS,aP];rfl)
   case hqa8=>exact fun _ _ _ h=>h
   case hya8=>(refine aT ⟨by rfl,?_⟩;intro w' hSw;(try dsimp only at hSw);(try go_simp);try with_reducible rfl)
   try simp only[aJ,aK,aH,aG]
   refine aQ (i:=9) (oi:=?oia9) (v:=?va9) ?hia9 (by kernel_rfl) (by kernel_rfl) (by kernel_rfl) ?hqa9 ?hya9 (by assumption) ?_
   case hia9=>(simp only[aR,aS,aP];rfl)
   case hqa9=>exact fun _ _ _ h=>h
   case hya9=>(refine aT ⟨by rfl,?_⟩;intro w' hSw;(try dsimp only at hSw);(try go_simp);try with_reducible rfl)
   try simp only[aJ,aK,aH,aG]
   refine aQ (i:=10) (oi:=?oia10) (v:=?va10) ?hia10 (by kernel_rfl) (by kernel_rfl) (by kernel_rfl) ?hqa10 ?hya10 (by assumption) ?_
   case hia10=>(simp only[aR,aS,aP];rfl)
   case hqa10=>exact fun _ _ _ h=>h
   case hya10=>(refine aT ⟨by rfl,?_⟩;intro w' hSw;(try dsimp only at hSw);(try go_simp);try with_reducible rfl)
   try simp only[aJ,aK,aH,aG]
   refine aQ (i:=11) (oi:=?oia11) (v:=?va11) ?hia11 (by kernel_rfl) (by kernel_rfl) (by kernel_rfl) ?hqa11 ?hya11 (by assumption) ?_
   case hia11=>(simp only[aR,aS,aP];rfl)
   case hqa11=>exact fun _ _ _ h=>h
   case hya11=>(refine aT ⟨by rfl,?_⟩;intro w' hSw;(try dsimp only at hSw);(try go_simp);try with_reducible rfl)
   try simp only[aJ,aK,aH,aG]
   refine aQ (i:=12) (oi:=?oia12) (v:=?va12) ?hia12 (by kernel_rfl) (by kernel_rfl) (by kernel_rfl) ?hqa12 ?hya12 (by assumption) ?_
   case hia12=>(simp only[aR,aS,aP];rfl)
   case hqa12=>exact fun _ _ _ h=>h
   case hya12=>(refine aT ⟨by rfl,?_⟩;intro w' hSw;(try dsimp only at hSw);(try go_simp);try with_reducible rfl)
   try simp only[aJ,aK,aH,aG]
   refine aQ (i:=13) (oi:=?oia13) (v:=?va13) ?hia13 (by kernel_rfl) (by kernel_rfl) (by kernel_rfl) ?hqa13 ?hya13 (by assumption) ?_
   case hia13=>(simp only[aR,aS,aP];rfl)
   case hqa13=>exact fun _ _ _ h=>h
   case hya13=>(refine aT ⟨by rfl,?_⟩;intro w' hSw;(try dsimp only at hSw);(try go_simp);try with_reducible rfl)
   try simp only[aJ,aK,aH,aG]
   refine fL (rs:=[14]) (by kernel_rfl) (by simp) ?_;refine fA rfl (fun K hK=>?_) fM;go_simp;refine hK.out _ _ hS1 (fun _=>?_)
   try simp only[aJ,aK,aH,aG]
   clear hK K;refine fL (rs:=[15]) (by kernel_rfl) (by simp) ?_;refine fA rfl (fun K hK=>?_) fM;refine xC rfl (.tmp 30) (.tmp 44) 26 rfl u2 (.slice (some ⟨W9.heap.size,0,none⟩) 1 1) v' W10 (by simp[Act.eval]) (by simp[Act.eval]) hr ?_;refine hK.out _ _ hS2 (fun _=>?_)
   try simp only[aJ,aK,aH,aG]
   clear hK K;refine fL (rs:=[16]) (by kernel_rfl) (by simp) ?_;refine fA rfl (fun K hK=>?_) fM;go_simp;refine hK.out _ _ hS2 (fun _=>?_)
   try simp only[aJ,aK,aH,aG]
   clear hK K;refine wpAnyH_done (by kernel_rfl) ?_ _;have g0:=hz10.cell (i:=0) rfl;obtain⟨F2,hF2⟩:∃F2,F2=F+p.t.size:=⟨_,rfl⟩;have m1:aI.wrap ((F:Int)+(p.t.size:Int))=(F2:Int):=by rw[show(F:Int)+(p.t.size:Int)=(F2:Int) by omega];exact aU4 F2 (by omega)
   have m1':(F:Int)+(p.t.size:Int)=(F2:Int):=by omega
   have hF2b:F2<=18720*(k+1):=by omega
   rw[<-hF2] at HF2;clear hF2 z0 z1 z2 hr e0 hS0 hS1 hS2 hHeld;go_wp2_with fail;have hg:=HG.out
   go_roundg (l.length-(k+1))
   case measure=>omega
   case rel=>exact⟨k+1,F2,by omega,rfl,by go_num,rfl,HF2,hF2b,by rw[HT.out];exact ho10,hbel10⟩
  ·have t1:decide ((k:Int)<(l.length:Int))=false:=decide_eq_false (by omega);have HT:=hid (show l.take k=l by rw[cS (by omega)]);go_wp2_with fail
   go_ret2
   exact⟨_,rfl,by rw[<-HT.out];exact hor.rd,h02.trans (hbel.mono hs2)⟩
theorem aVl (c n:Int) (w:World) (h1: -9223372036854775808<=c) (h2:c<=9223372036854775807) (h3:1<=n) (h4:n<=4611686018427387904):
  Calls Tryz.prog 31 #[.int .i64 c,.int .i64 n] w fun e w'=>e=.returned (.int .i64 (gA c n))/\w=w':=by
 by_cases hc:c<0
 ·have hfin:=hid (show gA c n=(-(c+1))%n from by simp[gA,hc]);go_enter Tryz.func31,Tryz.ntmps31;go_wp2;go_ret;exact⟨fX (by rw[hfin.out];rw[<-aZe,oJ (by omega)]),rfl⟩
 ·have hfin:=hid (show gA c n=c%n from by simp[gA,hc]);have hc':0<=c:=by omega
  go_enter Tryz.func31,Tryz.ntmps31;go_wp2;go_ret;exact⟨fX (by rw[hfin.out]),rfl⟩
def aUw (x:QR):List Value:=[.int .i64 x.1,.int .i64 x.2.1,.int .i64 x.2.2]
def WfT (l:List QR):Prop:=∀x∈l,(-9223372036854775808<=x.1/\x.1<=9223372036854775807)/\(-9223372036854775808<=x.2.1/\x.2.1<=9223372036854775807)/\(-9223372036854775808<=x.2.2/\x.2.2<=9223372036854775807)
theorem aWm (l:List QR):aUq 3 (l.map aUw):=fun q hq=>by
 obtain⟨p,_,rfl⟩:=List.mem_map.1 hq;exact⟨rfl,fun u hu=>by unfold aUw at hu;simp only[kD,List.not_mem_nil,or_false] at hu;rcases hu with rfl|rfl|rfl<;>rfl⟩
theorem aX6 {w:World} {v:Value} {l:List QR} (h:RdR w v (l.map aUw)):∃a cap,v=.slice a l.length cap/\l.length<=cap/\cap<=maxLen/\
  (0<l.length->∃b off,a=some ⟨b,off,none⟩/\b<w.heap.size/\∀j p,l[j]? =some p->w.cell? ⟨b,off+j*3,none⟩=some (.int .i64 p.1)/\w.cell? ⟨b,off+j*3+1,none⟩=some (.int .i64 p.2.1)/\w.cell? ⟨b,off+j*3+2,none⟩=some (.int .i64 p.2.2)):=by
 obtain⟨a,cap,hv,h1,h2,h3⟩:=h.open (aWm l) (by decide);rw[bJ] at hv h1 h3;refine⟨a,cap,hv,h1,h2,fun hl=>?_⟩;obtain⟨b,off,ha,hb,hc⟩:=h3 hl;refine⟨b,off,ha,hb,fun j p hj=>?_⟩;have e:(l.map aUw)[j]? =some (aUw p):=by rw[dY,hj];rfl
 have c:=fun i u hi=>hc j (aUw p) i u e hi
 refine⟨c 0 _ rfl,?_,?_⟩
 ·rw[dZ];exact c 1 _ rfl
 ·rw[dZ];exact c 2 _ rfl
theorem aYc (v:Value) (raw:List QR) (w:World) (hr:RdR w v (raw.map aUw)) (hwf:WfT raw):
  Calls Tryz.prog 12 #[v] w fun e w'=>∃u,e=.returned u/\RdR w' u ((aUv raw).map LF)/\Below w.heap.size w w':=by
 obtain⟨a,ca,rfl,hca,hma,hA⟩:=aX6 hr;unfold maxLen at hma;clear hr;go_enter Tryz.func12,Tryz.ntmps12;go_wp2_with fail
 go_loopg [3,4,5,6,7] raw.length (fun g s3 s4 s5 s6 _s7 wr=>∃k P F:Nat,k<=raw.length/\k<=20/\g=raw.length-k/\s6=.int .i64 (k:Int)/\s4=.int .i64 (P:Int)/\s5=.int .i64 (F:Int)/\Hid ((P:Int)=aUt (raw.take k) 32/\(F:Int)=aUs (raw.take k) 0)/\(P<=6032/\F<=600)/\OwR wr w.heap.size 51 5 s3 ((aUp (raw.take k) 32 0).map LF)/\Below w.heap.size w wr)
 case atStart=>exact⟨0,32,0,aU _,aU _,rfl,rfl,rfl,rfl,hid ⟨rfl,rfl⟩,⟨by decide,by decide⟩,OwR.nil _ _ _ _,aB _ _⟩
 case round=>
  obtain⟨k,P,F,hk,hk20,hg,rfl,rfl,rfl,HPF,hPF,hor,hbel⟩:=hrel;have HG:=hid hg;have hsz:=hbel.size;clear hg
  by_cases hlt:k<raw.length
  rotate_left
  ·have t1:decide ((k:Int)<(raw.length:Int))=false:=decide_eq_false (by omega);have HT:=hid (show aUp (raw.take k) 32 0=aUv raw by unfold aUv;rw[cS (by omega),cS (by omega)]);go_wp2_with fail;go_ret;exact⟨_,rfl,by rw[<-HT.out];exact hor.rd,hbel⟩
  have t1:decide ((k:Int)<(raw.length:Int))=true:=decide_eq_true (by omega)
  by_cases h20:k<20
  rotate_left
  ·have t2:decide ((k:Int)<20)=false:=decide_eq_false (by omega);obtain rfl:k=20:=by omega
   go_wp2_with fail;go_ret;exact⟨_,rfl,hor.rd,hbel⟩
  have t2:decide ((k:Int)<20)=true:=decide_eq_true (by omega);obtain⟨b,off,rfl,hb,hc⟩:=hA (by omega);obtain⟨x,hx⟩:∃x,raw[k]? =some x:=⟨_,aN hlt⟩;obtain⟨y0,y1,y2⟩:=hc k x hx;obtain⟨⟨w1,w2⟩,⟨w3,w4⟩,⟨w5,w6⟩⟩:=hwf x (cH hx);have c0:=(hbel.cell (p:=⟨b,off+k*3,none⟩) hb).trans y0;have c1:=(hbel.cell (p:=⟨b,off+k*3+1,none⟩) hb).trans y1;have c2:=(hbel.cell (p:=⟨b,off+k*3+2,none⟩) hb).trans y2;have hp1:=fun W=>aVl x.1 300 W w1 w2 (by decide) (by decide)
  have hp2:=fun W=>aVl x.2.1 30 W w3 w4 (by decide) (by decide)
  have hp3:=fun W=>aVl x.2.2 9 W w5 w6 (by decide) (by decide)
  have hp4:=fun W=>aVl x.2.2 1000 W w5 w6 (by decide) (by decide)
  obtain⟨p1,p2⟩:=vU x.1 300 (by decide);obtain⟨p3,p4⟩:=vU x.2.1 30 (by decide);obtain⟨p5,p6⟩:=vU x.2.2 9 (by decide);obtain⟨p7,p8⟩:=vU x.2.2 1000 (by decide);have hsn:raw.take (k+1)=raw.take k++[x]:=by rw[cQ,hx];rfl
  have HT:=hid (show(aUp (raw.take (k+1)) 32 0).map LF=(aUp (raw.take k) 32 0).map LF++[LF (aVe x (P:Int) (F:Int))] by rw[hsn,aWg,fI,<-HPF.out.1,<-HPF.out.2];rfl);have HA2:=hid (show aUt (raw.take (k+1)) 32=(P:Int)+gA x.1 300+1 by rw[hsn,aWh,<-HPF.out.1]);have HF2:=hid (show aUs (raw.take (k+1)) 0=(F:Int)+(1+gA x.2.1 30) by rw[hsn,aWi,<-HPF.out.2]);have hA2:=aWj (raw.take (k+1)) 32;have hF2:=aVr (raw.take (k+1)) 0;rw[HA2.out] at hA2;rw[HF2.out] at hF2;have hl2:(raw.take (k+1)).length<=20:=by rw[aX];omega
  have hln:((aUp (raw.take k) 32 0).map LF).length<=20:=by rw[bJ,aVs,aX];omega
  unfold aVe at HT;obtain⟨a1,ha1⟩:∃a1:Nat,gA x.1 300=(a1:Int):=⟨_,(aC5 p1).symm⟩;obtain⟨a2,ha2⟩:∃a2:Nat,gA x.2.1 30=(a2:Int):=⟨_,(aC5 p3).symm⟩;obtain⟨a3,ha3⟩:∃a3:Nat,gA x.2.2 9=(a3:Int):=⟨_,(aC5 p5).symm⟩;obtain⟨a4,ha4⟩:∃a4:Nat,gA x.2.2 1000=(a4:Int):=⟨_,(aC5 p7).symm⟩;rw[ha1] at hp1 HT HA2 hA2 p2;rw[ha2] at hp2 HT HF2 hF2 p4;rw[ha3] at hp3 HT p6;rw[ha4] at hp4 HT p8;obtain⟨A,hAe⟩:∃A,A=P+a1:=⟨_,rfl⟩;obtain⟨n,hn⟩:∃n,n=1+a2:=⟨_,rfl⟩;obtain⟨r1,hr1⟩:∃r1,r1=1+a3:=⟨_,rfl⟩;obtain⟨r2,hr2⟩:∃r2,r2=40*r1:=⟨_,rfl⟩
  obtain⟨A2,hAe2⟩:∃A2,A2=A+1:=⟨_,rfl⟩;obtain⟨F2,hFe⟩:∃F2,F2=F+n:=⟨_,rfl⟩;have HPF2:=hid (show(A2:Int)=aUt (raw.take (k+1)) 32/\(F2:Int)=aUs (raw.take (k+1)) 0 from⟨by rw[HA2.out];omega,by rw[HF2.out];omega⟩);rw[show(P:Int)+(a1:Int)=(A:Int) by omega,show 40*(1+(a3:Int))=(r2:Int) by omega,show 1+(a2:Int)=(n:Int) by omega] at HT;have m1:aI.wrap ((P:Int)+(a1:Int))=(A:Int):=by rw[show(P:Int)+(a1:Int)=(A:Int) by omega];exact aU4 A (by omega)
  have m2:aI.wrap (1+(a2:Int))=(n:Int):=by rw[show 1+(a2:Int)=(n:Int) by omega];exact aU4 n (by omega)
  have m3:aI.wrap (1+(a3:Int))=(r1:Int):=by rw[show 1+(a3:Int)=(r1:Int) by omega];exact aU4 r1 (by omega)
  have m4:aI.wrap (40*(r1:Int))=(r2:Int):=by rw[show 40*(r1:Int)=(r2:Int) by omega];exact aU4 r2 (by omega)
  have m5:aI.wrap ((A:Int)+1)=(A2:Int):=by rw[show(A:Int)+1=(A2:Int) by omega];exact aU4 A2 (by omega)
  have m6:aI.wrap ((F:Int)+(n:Int))=(F2:Int):=by rw[show(F:Int)+(n:Int)=(F2:Int) by omega];exact aU4 F2 (by omega)
  have m7:IntKind.u32.wrap (a4:Int)=(a4:Int):=by rw[IntKind.wrap_u32];omega
  have m7':(a4:Int)%4294967296=(a4:Int):=by omega
  have hA2b:A2<=6032/\F2<=600:=by omega
  clear hc hA hx hsn HA2 HF2 hA2 hF2 hl2 ha1 ha2 ha3 ha4 hAe hn hr1 hr2 hAe2 hFe HPF w1 w2 w3 w4 w5 w6 p1 p3 p5 p7 hwf;obtain⟨x0,x1,x2⟩:=x;dsimp only at c0 c1 c2 y0 y1 y2 hp1 hp2 hp3 hp4 HT;go_wp2_with fail;refine(hp1 _).mono ?_;rintro e w' ⟨rfl,rfl⟩;go_wp2_with fail;refine(hp2 _).mono ?_;rintro e w' ⟨rfl,rfl⟩;clear hp1 hp2;go_wp2_with fail;obtain⟨W9a,hW9a⟩:∃W9a,W9a=(wr.alloc (.cells #[.int .i64 (A:Int),.int .i64 (r2:Int),.int .i64 (F:Int),.int .i64 (n:Int),.int .u32 (a4:Int)] 51)).drew:=⟨_,rfl⟩
  have ho9a:OwR W9a w.heap.size 51 5 u3 ((aUp (raw.take k) 32 0).map LF):=by rw[hW9a];exact OwR.alloc hor _
  have hN9:Arr W9a wr.heap.size 51 (LF ⟨(A:Int),(r2:Int),(F:Int),(n:Int),(a4:Int)⟩):=by rw[hW9a];exact Arr.new wr 51 (LF ⟨(A:Int),(r2:Int),(F:Int),(n:Int),(a4:Int)⟩)
  have hb9a:Below w.heap.size w W9a:=by rw[hW9a];exact(hbel.alloc hsz _).drew
  have hs9a:=hb9a.size;obtain⟨v',W10,hr,ho10,hb10,hg10⟩:=aVt aWf 26 w.heap.size u3 _ ho9a _ [LF ⟨(A:Int),(r2:Int),(F:Int),(n:Int),(a4:Int)⟩] (RdR.one hN9) (aVn [⟨(A:Int),(r2:Int),(F:Int),(n:Int),(a4:Int)⟩]) (Nat.succ_pos _) (by simp only[fK];omega) hs9a;have hbel10:=hb9a.trans hb10;rw[hW9a] at hr
  have kk:∀{a:Addr} {v:Value},wr.cell? a=some v->(wr.alloc (.cells #[.int .i64 (A:Int),.int .i64 (r2:Int),.int .i64 (F:Int),.int .i64 (n:Int),.int .u32 (a4:Int)] 51)).drew.cell? a=some v:=fun{a} {v} h=>((bD (aB _ wr) (.cells #[.int .i64 (A:Int),.int .i64 (r2:Int),.int .i64 (F:Int),.int .i64 (n:Int),.int .u32 (a4:Int)] 51)).drew.cell (iO wr _ h)).trans h
  have hS0:wr.drew.cell? ⟨b,off+k*3,none⟩=some (.int .i64 x0)/\wr.drew.cell? ⟨b,off+k*3+1,none⟩=some (.int .i64 x1)/\wr.drew.cell? ⟨b,off+k*3+2,none⟩=some (.int .i64 x2):=⟨c0,c1,c2⟩;have hS1:=BG (kk c0) (BG (kk c1) (kk c2));have hS2:=BG ((hbel10.cell (p:=⟨b,off+k*3,none⟩) hb).trans y0) (BG ((hbel10.cell (p:=⟨b,off+k*3+1,none⟩) hb).trans y1) ((hbel10.cell (p:=⟨b,off+k*3+2,none⟩) hb).trans y2));clear ho9a hN9 hb9a hs9a hW9a hg10 hb10 hor c0 c1 c2 y0 y1 y2 kk
  refine vI (S:=fun wx=>wx.cell? ⟨b,off+k*3,none⟩=some (.int .i64 x0)/\wx.cell? ⟨b,off+k*3+1,none⟩=some (.int .i64 x1)/\wx.cell? ⟨b,off+k*3+2,none⟩=some (.int .i64 x2)) (by kernel_rfl) hS0 (fun hHeld=>?_);refine aQ (i:=0) (oi:=?oia0) (v:=?va0) ?hia0 (by kernel_rfl) (by kernel_rfl) (by kernel_rfl) ?hqa0 ?hya0 (by assumption) ?_
  case hia0=>(simp only[aR,aP];rfl)
  case hqa0=>exact fun _ _ _ h=>h
  case hya0=>(refine aT ⟨by rfl,?_⟩;intro w' hSw;(try dsimp only at hSw);(try go_simp);try with_reducible rfl)
  try simp only[aJ,aK,aH,aG]
  refine aQ (i:=1) (oi:=?oia1) (v:=?va1) ?hia1 (by kernel_rfl) (by kernel_rfl) (by kernel_rfl) ?hqa1 ?hya1 (by assumption) ?_
  case hia1=>(simp only[aR,aS,aP];rfl)
  case hqa1=>exact fun _ _ _ h=>h
  case hya1=>(refine aT ⟨by rfl,?_⟩;intro w' hSw;(try dsimp only at hSw);(try go_simp);try with_reducible rfl)
  try simp only[aJ,aK,aH,aG]
  refine aQ (i:=2) (oi:=?oia2) (v:=?va2) ?hia2 (by kernel_rfl) (by kernel_rfl) (by kernel_rfl) ?hqa2 ?hya2 (by assumption) ?_
  case hia2=>(simp only[aR,aS,aP];rfl)
  case hqa2=>exact fun _ _ _ h=>h
  case hya2=>(refine aT ⟨by rfl,?_⟩;intro w' hSw;(try dsimp only at hSw);(try go_simp);try with_reducible rfl)
  try simp only[aJ,aK,aH,aG]
  refine aQ (i:=3) (oi:=?oia3) (v:=?va3) ?hia3 (by kernel_rfl) (by kernel_rfl) (by kernel_rfl) ?hqa3 ?hya3 (by assumption) ?_
  case hia3=>(simp only[aR,aS,aP];rfl)
  case hqa3=>exact fun _ _ _ h=>h
  case hya3=>(refine aT ⟨by rfl,?_⟩;intro w' hSw;(try dsimp only at hSw);(try go_simp);try with_reducible rfl)
  try simp only[aJ,aK,aH,aG]
  refine aQ (i:=4) (oi:=?oia4) (v:=?va4) ?hia4 (by kernel_rfl) (by kernel_rfl) (by kernel_rfl) ?hqa4 ?hya4 (by assumption) ?_
  case hia4=>(simp only[aR,aS,aP];rfl)
  case hqa4=>exact fun _ _ _ h=>h
  case hya4=>(refine aT ⟨by rfl,?_⟩;intro w' hSw;(try dsimp only at hSw);(try go_simp);try with_reducible rfl)
  try simp only[aJ,aK,aH,aG]
  refine aQ (i:=5) (oi:=?oia5) (v:=?va5) ?hia5 (by kernel_rfl) (by kernel_rfl) (by kernel_rfl) ?hqa5 ?hya5 (by assumption) ?_
  case hia5=>(simp only[aR,aS,aP];rfl)
  case hqa5=>exact fun _ _ _ h=>h
  case hya5=>(refine aT ⟨by rfl,?_⟩;intro w' hSw;(try dsimp only at hSw);(try go_simp);try with_reducible rfl)
  try simp only[aJ,aK,aH,aG]
  refine aQ (i:=6) (oi:=?oia6) (v:=?va6) ?hia6 (by kernel_rfl) (by kernel_rfl) (by kernel_rfl) ?hqa6 ?hya6 (by assumption) ?_
  case hia6=>(simp only[aR,aS,aP];rfl)
  case hqa6=>exact fun _ _ _ h=>h
  case hya6=>(refine aT ⟨by rfl,?_⟩;intro w' hSw;(try dsimp only at hSw);(try go_simp);try with_reducible rfl)
  try simp only[aJ,aK,aH,aG]
  refine aQ (i:=10) (oi:=?oia10) (v:=?va10) ?hia10 (by kernel_rfl) (by kernel_rfl) (by kernel_rfl) ?hqa10 ?hya10 (by assumption) ?_
  case hia10=>(simp only[aR,aS,aP];rfl)
  case hqa10=>exact fun _ _ _ h=>h
  case hya10=>(refine aT ⟨by rfl,?_⟩;intro w' hSw;(try dsimp only at hSw);(try go_simp);try with_reducible rfl)
  try simp only[aJ,aK,aH,aG]
  refine aQ (i:=11) (oi:=?oia11) (v:=?va11) ?hia11 (by kernel_rfl) (by kernel_rfl) (by kernel_rfl) ?hqa11 ?hya11 (by assumption) ?_
  case hia11=>(simp only[aR,aS,aP];rfl)
  case hqa11=>exact fun _ _ _ h=>h
  case hya11=>(refine aT ⟨by rfl,?_⟩;intro w' hSw;(try dsimp only at hSw);(try go_simp);try with_reducible rfl)
  try simp only[aJ,aK,aH,aG]
  refine aQ (i:=12) (oi:=?oia12) (v:=?va12) ?hia12 (by kernel_rfl) (by kernel_rfl) (by kernel_rfl) ?hqa12 ?hya12 (by assumption) ?_
  case hia12=>(simp only[aR,aS,aP];rfl)
  case hqa12=>exact fun _ _ _ h=>h
  case hya12=>(refine aT ⟨by rfl,?_⟩;intro w' hSw;(try dsimp only at hSw);(try go_simp);try with_reducible rfl)
  try simp only[aJ,aK,aH,aG]
  refine aQ (i:=13) (oi:=?oia13) (v:=?va13) ?hia13 (by kernel_rfl) (by kernel_rfl) (by kernel_rfl) ?hqa13 ?hya13 (by assumption) ?_
  case hia13=>(simp only[aR,aS,aP];rfl)
  case hqa13=>exact fun _ _ _ h=>h
  case hya13=>(refine aT ⟨by rfl,?_⟩;intro w' hSw;(try dsimp only at hSw);(try go_simp);try with_reducible rfl)
  try simp only[aJ,aK,aH,aG]
  refine aQ (i:=14) (oi:=?oia14) (v:=?va14) ?hia14 (by kernel_rfl) (by kernel_rfl) (by kernel_rfl) ?hqa14 ?hya14 (by assumption) ?_
  case hia14=>(simp only[aR,aS,aP];rfl)
  case hqa14=>exact fun _ _ _ h=>h
  case hya14=>(refine aT ⟨by rfl,?_⟩;intro w' hSw;(try dsimp only at hSw);(try go_simp);try with_reducible rfl)
  try simp only[aJ,aK,aH,aG]
  refine aQ (i:=15) (oi:=?oia15) (v:=?va15) ?hia15 (by kernel_rfl) (by kernel_rfl) (by kernel_rfl) ?hqa15 ?hya15 (by assumption) ?_
  case hia15=>(simp only[aR,aS,aP];rfl)
  case hqa15=>exact fun _ _ _ h=>h
  case hya15=>(refine aT ⟨by rfl,?_⟩;intro w' hSw;(try dsimp only at hSw);(try go_simp);try with_reducible rfl)
  try simp only[aJ,aK,aH,aG]
  refine aQ (i:=16) (oi:=?oia16) (v:=?va16) ?hia16 (by kernel_rfl) (by kernel_rfl) (by kernel_rfl) ?hqa16 ?hya16 (by assumption) ?_
  case hia16=>(simp only[aR,aS,aP];rfl)
  case hqa16=>exact fun _ _ _ h=>h
  case hya16=>(refine aT ⟨by rfl,?_⟩;intro w' hSw;(try dsimp only at hSw);(try go_simp);try with_reducible rfl)
  try simp only[aJ,aK,aH,aG]
  refine fL (rs:=[7]) (by kernel_rfl) (by simp) ?_;refine fA rfl (fun K hK=>?_) fM;go_simp;refine(hp3 _).mono ?_;rintro e w' ⟨rfl,rfl⟩
  (try go_wp2_with fail)
  refine hK.out _ _ hHeld (fun _=>?_)
  try simp only[aJ,aK,aH,aG]
  clear hK K;refine aQ (i:=8) (oi:=?oib8) (v:=?vb8) ?hib8 (by kernel_rfl) (by kernel_rfl) (by kernel_rfl) ?hqb8 ?hyb8 (by assumption) ?_
  case hib8=>(simp only[aR,aS,aP];rfl)
  case hqb8=>exact fun _ _ _ h=>h
  case hyb8=>(refine aT ⟨by rfl,?_⟩;intro w' hSw;(try dsimp only at hSw);(try go_simp);try with_reducible rfl)
  try simp only[aJ,aK,aH,aG]
  refine aQ (i:=9) (oi:=?oib9) (v:=?vb9) ?hib9 (by kernel_rfl) (by kernel_rfl) (by kernel_rfl) ?hqb9 ?hyb9 (by assumption) ?_
  case hib9=>(simp only[aR,aS,aP];rfl)
  case hqb9=>exact fun _ _ _ h=>h
  case hyb9=>(refine aT ⟨by rfl,?_⟩;intro w' hSw;(try dsimp only at hSw);(try go_simp);try with_reducible rfl)
  try simp only[aJ,aK,aH,aG]
  refine fL (rs:=[17]) (by kernel_rfl) (by simp) ?_;refine fA rfl (fun K hK=>?_) fM;go_simp;refine(hp4 _).mono ?_;rintro e w' ⟨rfl,rfl⟩
  (try go_wp2_with fail)
  refine hK.out _ _ hHeld (fun _=>?_)
  try simp only[aJ,aK,aH,aG]
  clear hK K;refine aQ (i:=18) (oi:=?oib18) (v:=?vb18) ?hib18 (by kernel_rfl) (by kernel_rfl) (by kernel_rfl) ?hqb18 ?hyb18 (by assumption) ?_
  case hib18=>(simp only[aR,aS,aP];rfl)
  case hqb18=>exact fun _ _ _ h=>h
  case hyb18=>(refine aT ⟨by rfl,?_⟩;intro w' hSw;(try dsimp only at hSw);(try go_simp);try with_reducible rfl)
  try simp only[aJ,aK,aH,aG]
  refine aQ (i:=19) (oi:=?oib19) (v:=?vb19) ?hib19 (by kernel_rfl) (by kernel_rfl) (by kernel_rfl) ?hqb19 ?hyb19 (by assumption) ?_
  case hib19=>(simp only[aR,aS,aP];rfl)
  case hqb19=>exact fun _ _ _ h=>h
  case hyb19=>(refine aT ⟨by rfl,?_⟩;intro w' hSw;(try dsimp only at hSw);(try go_simp);try with_reducible rfl)
  try simp only[aJ,aK,aH,aG]
  refine fL (rs:=[20]) (by kernel_rfl) (by simp) ?_;refine fA rfl (fun K hK=>?_) fM;go_simp;refine hK.out _ _ hS1 (fun _=>?_)
  try simp only[aJ,aK,aH,aG]
  clear hK K;refine fL (rs:=[21]) (by kernel_rfl) (by simp) ?_;refine fA rfl (fun K hK=>?_) fM;refine xC rfl (.tmp 33) (.tmp 53) 26 rfl u3 (.slice (some ⟨wr.heap.size,0,none⟩) 1 1) v' W10 (by simp[Act.eval]) (by simp[Act.eval]) hr ?_;refine hK.out _ _ hS2 (fun _=>?_)
  try simp only[aJ,aK,aH,aG]
  clear hK K;refine fL (rs:=[22]) (by kernel_rfl) (by simp) ?_;refine fA rfl (fun K hK=>?_) fM;go_simp;refine hK.out _ _ hS2 (fun _=>?_)
  try simp only[aJ,aK,aH,aG]
  clear hK K;refine wpAnyH_done (by kernel_rfl) ?_ _;clear hr hp3 hp4 hS0 hS1 hS2 hHeld;go_wp2_with fail;have hg:=HG.out
  go_roundg (raw.length-(k+1))
  case measure=>omega
  case rel=>exact⟨k+1,A2,F2,by omega,by omega,rfl,by go_num,rfl,rfl,HPF2,hA2b,by rw[HT.out];exact ho10,hbel10⟩
def aYk (l:List ByteArray):List Value:=l.map Value.string
def RdT (w:World) (v:Value) (l:List ByteArray):Prop:=Rd w v l.length (aYk l)
theorem aY7 (l:List ByteArray):(aYk l).length=l.length:=bJ ..
theorem RdT.below {w w':World} {v:Value} {l:List ByteArray} (h:RdT w v l) (hb:Below w.heap.size w w'):RdT w' v l:=Rd.below h hb
theorem RdT.open {w:World} {v:Value} {l:List ByteArray} (h:RdT w v l):
  ∃a cap,v=.slice a l.length cap/\l.length<=cap/\cap<=maxLen/\
   (0<l.length->∃b off,a=some ⟨b,off,none⟩/\b<w.heap.size/\∀j x,l[j]? =some x->w.cell? ⟨b,off+j,none⟩=some (.string x)):=by
 obtain⟨a,cap,rfl,h1,h2,h3⟩:=h;refine⟨a,cap,rfl,h1,h2,fun hne=>?_⟩;rcases h3 with h3|⟨b,off,rfl,hlt,hc⟩
 ·have:=congrArg List.length h3;rw[aY7,List.length_nil] at this;omega
 ·refine⟨b,off,rfl,hlt,fun j x hx=>?_⟩;have hj:=(List.getElem?_eq_some_iff.1 hx).1;have e:(aYk l)[j]? =some (.string x):=by unfold aYk;rw[dY,hx];rfl
  rw[hc j (by rw[aY7];exact hj),List.getD_eq_getElem?_getD,e];rfl
theorem aZ1 {w w':World} {B e size n B' e' size' n':Nat} {v v':Value} {xs xs':List Value} (h:w.ownsRow B e size v n xs) (ho:w.ownsRow B' e' size' v' n' xs') (hg:w.grownBy w' v'.ownBlock) (he:e≠e'):w'.ownsRow B e size v n xs:=by
 refine NH h hg ?_;rcases h.2 with⟨rfl,_⟩|⟨g,cap,cur,rfl,_,hgc,_⟩
 ·exact .inl rfl
 ·refine .inr fun q=>?_
  rcases ho.2 with⟨rfl,_⟩|⟨g',cap',cur',rfl,_,hgc',_⟩
  ·cases q
  ·obtain rfl:=bW q;rw[hgc] at hgc'
   injection hgc' with hgc'
   injection hgc' with _ q2 _
   exact he q2
theorem bAv:ElT Tryz.prog 80 34 4 (.int .u32 0):=ElT.mk' (by kernel_rfl) Tryz.underlying80 rfl (by decide)
theorem bAw {ops:Array Oper} {rest:List Oper} {o:Oper} {a:Act} {Q:Exit->Act->World->Prop} {w:World} (hgd:o.guard=none) (s x:iM)
  (ho:o.op=.call {callee:=.builtin .append,args:=#[s,x],argTypes:=#[80,80]}) (base:Nat) (v:Value) (l:List (BitVec 32)) (hs:a.eval s=v) (hown:OwS w base v l)
  (g:Nat) (n:BitVec 32) (hx:a.eval x=.slice (some ⟨g,0,none⟩) 1 1) (hc:w.cell? ⟨g,0,none⟩=some (.int .u32 (n.toNat:Int))) (hroom:(l.length+1)*4<=140737488355328) (hbase:base<=w.heap.size)
  (h:∀v' w',OwS w' base v' (l++[n])->Below base w w'->w.grownBy w' v.ownBlock->wpList Tryz.prog ops Q rest (a.put o.dst v') w'):wpList Tryz.prog ops Q (o::rest) a w:=
 rD bAv hgd s x ho base v _ hs hown g _ hx hc rfl (by simpa [aU2] using hroom) hbase (fun v' w' q1 q2 q3=>h v' w' (by unfold OwS aU2;rw[fI];exact q1) q2 q3)
theorem aY9 (c n:Int) (w:World) (h1: -9223372036854775808<=c) (h2:c<=9223372036854775807) (h3:1<=n) (h4:n<=1000000000):
  Calls Tryz.prog 21 #[.int .i64 c,.int .i64 n] w fun e w'=>e=.returned (.int .i64 (gA c n))/\w=w':=by
 by_cases hc:c<0
 ·have hfin:=hid (show gA c n=(-(c+1))%n from by simp[gA,hc]);go_enter Tryz.func21,Tryz.ntmps21;go_wp2;go_ret;exact⟨fX (by rw[hfin.out];rw[<-aZe,oJ (by omega)]),rfl⟩
 ·have hfin:=hid (show gA c n=c%n from by simp[gA,hc]);have hc':0<=c:=by omega
  go_enter Tryz.func21,Tryz.ntmps21;go_wp2;go_ret;exact⟨fX (by rw[hfin.out]),rfl⟩
theorem bA1 (s:ByteArray) (w:World) (hs:s.size<=1000000):
  Calls Tryz.prog 50 #[.string s] w fun e w'=>e=.returned (.int .i64 (lnL s.data.toList:Int))/\Below w.heap.size w w':=by
 have hcall:=aKk s w hs;obtain⟨P,hP⟩:∃P,P=mkS (bC s.data.toList):=⟨_,rfl⟩;have HP:=hid (show(P.size:Int)=(lnL s.data.toList:Int) by rw[hP,cP];rfl);rw[<-hP] at hcall;clear hP;go_enter Tryz.func50,Tryz.ntmps50;go_wp2_with fail;refine hcall.mono ?_;rintro e w1 ⟨rfl,hb⟩;go_wp2_with fail;go_ret;exact⟨fX HP.out,hb⟩
theorem bA2 (s:ByteArray) (room:Nat) (w:World) (hs:s.size<=100000) (hr:room<=1000000):
  Calls Tryz.prog 36 #[.string s,.int .i64 (room:Int)] w fun e w'=>e=.returned (.int .i64 (aYx s.data.toList room:Int))/\Below w.heap.size w w':=by
 have HL:=hid (show s.data.toList.length=s.size by simp);have hcut:=aY8 s.data.toList room;obtain⟨C,hC⟩:∃C,C=aYx s.data.toList room:=⟨_,rfl⟩;rw[<-hC] at hcut ⊢;obtain⟨hc1,hc2,hc3⟩:=hcut;rw[HL.out] at hc1 hc3;have HU:=hid (fun i (h1:i<=s.size)=>show lnL (s.data.toList.take i)<=room↔i<=C from by
  constructor
  ·intro h;refine Nat.le_of_not_lt fun q=>?_
   have a:=hc3 (by omega);have b:=aYv s.data.toList (C+1) (i-(C+1)) (by rw[HL.out];omega);rw[show C+1+(i-(C+1))=i by omega] at b;omega
  ·intro h;have b:=aYv s.data.toList i (C-i) (by rw[HL.out];omega);rw[show i+(C-i)=C by omega] at b;omega)
 clear hC hc2 hc3;go_enter Tryz.func36,Tryz.ntmps36;go_wp2_with fail
 go_loopg [5,6] (s.size+1) (fun g s5 s6 wr=>∃i K:Nat,i<=s.size+1/\g=s.size+1-i/\s6=.int .i64 (i:Int)/\s5=.int .i64 (K:Int)/\Hid (K=min (i-1) C)/\Below w.heap.size w wr)
 case atStart=>exact⟨0,0,aU _,rfl,rfl,rfl,hid (by omega),aB _ _⟩
 case round=>
  obtain⟨i,K,hi,hg,rfl,rfl,HK,hbel⟩:=hrel;have HG:=hid hg;clear hg
  by_cases hlt:i<=s.size
  ·have t1:decide ((i:Int)<=(s.size:Int))=true:=decide_eq_true (by omega);have q1:(i:Int)<=(s.size:Int):=by omega
   obtain⟨T,hT⟩:∃T,T=s.extract 0 i:=⟨_,rfl⟩;have hTd:T.data.toList=s.data.toList.take i:=by rw[hT,nT,fW,AP,AF]
   have hTs:T.size<=s.size:=by
    have:T.data.toList.length=T.size:=by simp
    rw[<-this,hTd,aX];omega
   have hcall:=bA1 T wr (by omega);rw[hTd] at hcall;have hu:=HU.out i hlt;obtain⟨X,hX⟩:∃X,X=lnL (s.data.toList.take i):=⟨_,rfl⟩;rw[<-hX] at hcall hu;have hT':=hT.symm;clear hT hTd hX;go_wp2_with fail;refine hcall.mono ?_;rintro e w2 ⟨rfl,hb2⟩;have hbel2:=bV hbel hb2
   by_cases hx:X<=room
   ·have t2:decide ((X:Int)<=(room:Int))=true:=decide_eq_true (by omega);have t2':decide (X<=room)=true:=decide_eq_true hx;have hK:=HK.out;have HK2:=hid (show i=min (i+1-1) C by have:=hu.1 hx;omega);clear hK hu hx hcall;go_wp2_with fail;have hg:=HG.out
    go_roundg (s.size+1-(i+1))
    case measure=>omega
    case rel=>exact⟨i+1,i,by omega,rfl,by go_num,rfl,HK2,hbel2⟩
   ·have t2:decide ((X:Int)<=(room:Int))=false:=decide_eq_false (by omega);have t2':decide (X<=room)=false:=decide_eq_false hx;have HK2:=hid (show K=min (i+1-1) C by have:=HK.out;have:=fun q=>hx (hu.2 q);omega);clear hu hx hcall;go_wp2_with fail;have hg:=HG.out
    go_roundg (s.size+1-(i+1))
    case measure=>omega
    case rel=>exact⟨i+1,K,by omega,rfl,by go_num,rfl,HK2,hbel2⟩
  ·have t1:decide ((i:Int)<=(s.size:Int))=false:=decide_eq_false (by omega);have HF:=hid (show(K:Int)=(C:Int) by have:=HK.out;omega);go_wp2_with fail;go_ret;exact⟨fX HF.out,hbel⟩
theorem bA3:ElT Tryz.prog 44 9 16 (.string ⟨#[]⟩):=ElT.mk' (by kernel_rfl) Tryz.underlying44 rfl (by decide)
def OwT (w:World) (B:Nat) (v:Value) (l:List ByteArray):Prop:=Ow w B 9 v (aYk l)
theorem OwT.rd {w:World} {B:Nat} {v:Value} {l:List ByteArray} (h:OwT w B v l):RdT w v l:=by
 unfold RdT;have:=Ow.rd h;rwa[aY7] at this
theorem bA4 {ops:Array Oper} {rest:List Oper} {o:Oper} {a:Act} {Q:Exit->Act->World->Prop} {w:World} (hgd:o.guard=none) (s x:iM)
  (ho:o.op=.call {callee:=.builtin .append,args:=#[s,x],argTypes:=#[44,44]}) (base:Nat) (v:Value) (l:List ByteArray) (hs:a.eval s=v) (hown:OwT w base v l)
  (g:Nat) (n:ByteArray) (hx:a.eval x=.slice (some ⟨g,0,none⟩) 1 1) (hc:w.cell? ⟨g,0,none⟩=some (.string n)) (hroom:(l.length+1)*16<=140737488355328) (hbase:base<=w.heap.size)
  (h:∀v' w',OwT w' base v' (l++[n])->Below base w w'->w.grownBy w' v.ownBlock->wpList Tryz.prog ops Q rest (a.put o.dst v') w'):wpList Tryz.prog ops Q (o::rest) a w:=
 rD bA3 hgd s x ho base v _ hs hown g _ hx hc rfl (by simpa [aYk] using hroom) hbase (fun v' w' q1 q2 q3=>h v' w' (by unfold OwT aYk;rw[fI];exact q1) q2 q3)
theorem kpT {w1 w2 w0:World} {B:Nat} (h:Below B w0 w1/\B<=w1.heap.size) (hb:Below w1.heap.size w1 w2):Below B w0 w2/\B<=w2.heap.size:=⟨h.1.trans (hb.mono h.2),aW h.2 hb.size⟩
def aYr (l:List ByteArray):Prop:=∀t∈l,0<t.size/\lnL t.data.toList<=40/\t.size<=360
theorem bA5 (s:ByteArray) (v:Value) (raw:List (Int×Int)) (w:World) (hr:RdP w v raw) (hwf:WfP raw):
  Calls Tryz.prog 20 #[.string s,v] w fun e w'=>∃u l,e=.returned u/\RdT w' u l/\l.length<=5/\aYr l/\Below w.heap.size w w':=by
 obtain⟨m,hmi,hm1,hm2⟩:=yI s.size 60 (by decide);have hmi2:min (s.size:Int) 60=(m:Int):=by rw[<-hmi,Int.min_def];split<;>split<;>omega
 obtain⟨X,hX⟩:∃X,X=s.extract 0 m:=⟨_,rfl⟩;have hXs:X.size<=60:=by rw[hX];simp;omega
 have hX':=hX.symm;have q1:(m:Int)<=(s.size:Int):=by omega
 have hruns:=fun W (h:Below w.heap.size w W/\w.heap.size<=W.heap.size)=>LX v raw 300 W (hr.below h.1) hwf (by decide) (by decide)
 have hb0:Below w.heap.size w w.drew/\w.heap.size<=w.drew.heap.size:=⟨(aB w.heap.size w).drew,aA _⟩;clear hX;go_enter Tryz.func20,Tryz.ntmps20;go_wp2_with fail
 go_cut [6] (fun c6 wx=>∃Y:ByteArray,c6=.string Y/\Y.size<=360/\Below w.heap.size w wx)
 case first=>
  go_region_held3 (fun wx=>Below w.heap.size w wx/\w.heap.size<=wx.heap.size)
   (first
    |with_reducible assumption
    |with_reducible exact kpT (by assumption) (by assumption))
   (first
    |(go_at_call 35;with_reducible refine(hruns _ (by assumption)).mono ?_;rintro e w2 ⟨t2,rfl,ht2,h2⟩;have q3:¬9223372036854775807<X.size+t2.size:=by omega))
  all_goals
   obtain⟨hbel,hsz⟩:=(show Below w.heap.size w w2/\w.heap.size<=w2.heap.size by assumption);have hXt:(X++t2).size<=360:=by rw[aTx];omega
   go_wp2_with fail;go_meet;exact⟨_,rfl,hXt,hbel⟩
 case rest=>
  obtain⟨Y,rfl,hY,hbc⟩:=hcut;clear hmi hmi2 hm1 hm2 hX' q1 hruns hb0 hXs hr hwf;go_wp2_with fail
  go_loopg [5,6,7,8] 5 (fun g s5 s6 s7 _s8 wr=>∃(i:Nat) (rest:ByteArray) (l:List ByteArray),i<=5/\g=5-i/\s7=.int .i64 (i:Int)/\s6=.string rest/\rest.size<=360/\l.length=i/\aYr l/\OwT wr w.heap.size s5 l/\Below w.heap.size w wr)
  case atStart=>exact⟨0,Y,[],by decide,rfl,rfl,rfl,hY,rfl,fun t ht=>by simp at ht,Ow.nil _ _ _,hbc⟩
  case round=>
   clear hY hbc;obtain⟨i,rest,l,hi,hg,rfl,rfl,hrs,hll,hfl,hot,hbel⟩:=hrel;have HG:=hid hg;have HLL:=hid hll;clear hg hll;have hsz:=hbel.size
   by_cases hlt:i<5
   rotate_left
   ·have t1:decide ((i:Int)<5)=false:=decide_eq_false (by omega);go_wp2_with fail;go_ret;exact⟨_,l,rfl,hot.rd,by rw[HLL.out];omega,hfl,hbel⟩
   have t1:decide ((i:Int)<5)=true:=decide_eq_true (by omega)
   by_cases hne:rest.data.toList=[]
   ·have te:rest.toList.isEmpty=true:=by rw[Lib.toList_data,hne];rfl
    clear hne;go_wp2_with fail;go_ret;exact⟨_,l,rfl,hot.rd,by rw[HLL.out];omega,hfl,hbel⟩
   have te:rest.toList.isEmpty=false:=LR hne;obtain⟨R,hR1,hR2,hRc⟩:∃R:Nat,1<=R/\R<=40/\([bO .i64 40,.int .i64 7,.int .i64 23,.int .i64 40,.int .i64 13]:List Value)[i]? =some (.int .i64 (R:Int)):=by
    rcases(show i=0\/i=1\/i=2\/i=3\/i=4 by omega) with rfl|rfl|rfl|rfl|rfl
    ·exact⟨40,by decide,by decide,rfl⟩
    ·exact⟨7,by decide,by decide,rfl⟩
    ·exact⟨23,by decide,by decide,rfl⟩
    ·exact⟨40,by decide,by decide,rfl⟩
    ·exact⟨13,by decide,by decide,rfl⟩
   have hA:=Arr.new wr 3 [bO .i64 40,.int .i64 7,.int .i64 23,.int .i64 40,.int .i64 13];have c1:=hA.cell hRc;change (wr.alloc (.cells #[bO .i64 40,.int .i64 7,.int .i64 23,.int .i64 40,.int .i64 13] 3)).cell? _=_ at c1;have hcut:=fun W=>bA2 rest R W (by omega) (by omega)
   have hpos:=bA0 (s:=rest.data.toList) (room:=R) hne hR1;have his:=aY8 rest.data.toList R;obtain⟨K,hK⟩:∃K,K=aYx rest.data.toList R:=⟨_,rfl⟩;rw[<-hK] at hcut hpos his;have hll:rest.data.toList.length=rest.size:=by simp
   have hK2:K<=rest.size:=by rw[<-hll];exact his.1
   have q1:(i:Int)<5:=by omega
   have q2:(K:Int)<=(rest.size:Int):=by omega
   obtain⟨x,hx⟩:∃x,x=rest.extract 0 K:=⟨_,rfl⟩;have hxd:x.data.toList=rest.data.toList.take K:=by rw[hx,nT,fW,AP,AF]
   have hxs:x.size=K:=by
    have:x.data.toList.length=x.size:=by simp
    rw[<-this,hxd,aX,hll];omega
   obtain⟨y,hy⟩:∃y,y=rest.extract K rest.size:=⟨_,rfl⟩;have hys:y.size<=360:=by rw[hy];simp;omega
   have hx':=hx.symm;have hy':=hy.symm;have hfl2:aYr (l++[x]):=fun u hu=>by
    rcases List.mem_append.1 hu with hu|hu
    ·exact hfl u hu
    ·obtain rfl:=List.mem_singleton.1 hu;exact⟨by omega,by rw[hxd];have:=his.2.1;omega,by omega⟩
   have HF:=hid hfl2;have HLL2:=hid (show(l++[x]).length=i+1 by rw[aL,HLL.out];rfl);have hl5:l.length<=5:=by rw[HLL.out];exact hi
   clear hne hRc hA hpos his hK hll hx hxd hxs hy hfl2;go_wp2_with fail;refine(hcut _).mono ?_;rintro e w2 ⟨rfl,hb2⟩;have hbA:Below w.heap.size w (wr.alloc (.cells #[bO .i64 40,.int .i64 7,.int .i64 23,.int .i64 40,.int .i64 13] 3)):=hbel.alloc hsz _;have hbel2:=hbA.trans (hb2.mono hbA.size);have hot2:OwT w2 w.heap.size u5 l:=Ow.below (Ow.alloc hot (.cells #[bO .i64 40,.int .i64 7,.int .i64 23,.int .i64 40,.int .i64 13] 3)) hb2 (aA _);have hsz2:=hbel2.size;have hN:=bS w2 (.string x) 9;have hot3:OwT (w2.alloc (.cells #[.string x] 9)) w.heap.size u5 l:=Ow.alloc hot2 _
   have hbel3:Below w.heap.size w (w2.alloc (.cells #[.string x] 9)):=hbel2.alloc hsz2 _;clear hbA hb2 hot hot2 hbel hbel2 hcut c1;go_wp2_with (at_builtin;refine bA4 rfl _ _ rfl w.heap.size _ _ rfl hot3 _ x rfl hN ?_ ?_ ?_;(omega);(simp;omega);intro v3 w3 p1 p2 p3);have hg:=HG.out
   go_roundg (5-(i+1))
   case measure=>omega
   case rel=>exact⟨i+1,y,l++[x],by omega,rfl,by go_num,rfl,hys,HLL2.out,HF.out,p1,hbel3.trans p2⟩
end Go.Proofs.YtmcogmmncfihhaaGreatDoor
