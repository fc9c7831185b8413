/-
  Texts put together (Y5): walks and plain laws on which the statement stands.
-/
import Derived.Test.YtpgmbhpbgkljdaaGreatDoorY1
import Derived.WalkMore
import Derived.Test.YtpgmbhpbgkljdaaGreatDoorZ6
set_option maxRecDepth 100000
set_option maxHeartbeats 12800000
set_option linter.unusedVariables false
set_option linter.unusedSimpArgs false
namespace Go.Proofs.YtpgmbhpbgkljdaaGreatDoor
section
open Go.RowKit Go Go.Shelf
theorem nat_w19 (d:Nat) (h:d<=9223372036854775807):IntKind.i64.wrap (d:Int)=(d:Int):=by rw[IntKind.wrap_i64];omega
def entC (x:Ent):List Value:=[.int .i64 x.a,.int .i64 x.r,.int .i64 x.f,.int .i64 x.n,.int .u32 x.y]
theorem entC_wide (l:List Ent):Wide 5 (l.map entC):=fun q hq=>by
 obtain⟨p,_,rfl⟩:=List.mem_map.1 hq;exact⟨rfl,fun u hu=>by unfold entC at hu;simp only[List.mem_cons,List.not_mem_nil,or_false] at hu;rcases hu with rfl|rfl|rfl|rfl|rfl<;>rfl⟩
theorem ent_cells {w:World} {v:Value} {l:List Ent} (h:RdR w v (l.map entC)):∃a cap,v=.slice a l.length cap/\l.length<=cap/\cap<=maxLen/\
  (0<l.length->∃b off,a=some ⟨b,off,none⟩/\b<w.heap.size/\∀j p,l[j]? =some p->w.cell? ⟨b,off+j*5,none⟩=some (.int .i64 p.a)/\w.cell? ⟨b,off+j*5+1,none⟩=some (.int .i64 p.r)/\w.cell? ⟨b,off+j*5+2,none⟩=some (.int .i64 p.f)/\w.cell? ⟨b,off+j*5+3,none⟩=some (.int .i64 p.n)/\w.cell? ⟨b,off+j*5+4,none⟩=some (.int .u32 p.y)):=by
 obtain⟨a,cap,hv,h1,h2,h3⟩:=h.open (entC_wide l) (by decide);rw[List.length_map] at hv h1 h3;refine⟨a,cap,hv,h1,h2,fun hl=>?_⟩;obtain⟨b,off,ha,hb,hc⟩:=h3 hl;refine⟨b,off,ha,hb,fun j p hj=>?_⟩;have e:(l.map entC)[j]? =some (entC p):=by rw[List.getElem?_map,hj];rfl
 have c:=fun i u hi=>hc j (entC p) i u e hi
 refine⟨c 0 _ rfl,?_,?_,?_,?_⟩
 ·rw[Nat.add_assoc];exact c 1 _ rfl
 ·rw[Nat.add_assoc];exact c 2 _ rfl
 ·rw[Nat.add_assoc];exact c 3 _ rfl
 ·rw[Nat.add_assoc];exact c 4 _ rfl
theorem right19_any (v:Value) (l:List Ent) (w:World) (hr:RdR w v (l.map entC)) (hl:l.length<=1000000):
  Calls Tryz.prog 60 #[v] w fun e w'=>e=.returned (.bool (decide (rightL l)))/\Below w.heap.size w w':=by
 obtain⟨a,ca,rfl,hca,hma,hA⟩:=ent_cells hr;unfold maxLen at hma;obtain⟨R,hR⟩:∃R:Bool,R=decide (rightL l):=⟨_,rfl⟩;rw[<-hR];have HR:=hid hR;clear hR hr;go_enter Tryz.func60,Tryz.ntmps60;go_wp2_with fail
 go_step3
 go_wp2_with fail
 go_step3
 go_wp2_with fail
 go_loopg [3,4,5,7,10,14] l.length (fun g s3 s4 s5 _s7 s10 _s14 wr=>∃(k:Nat) (fr lo:Int),k<=l.length/\g=l.length-k/\s10=.int .i64 (k:Int)/\s3=.int .i64 fr/\s4=.int .i64 lo/\s5=.bool true/\(0<=fr/\fr<=18720*(k:Int))/\Hid (rightL l↔rightG fr lo (l.drop k))/\Below w.heap.size w wr)
 case atStart=>exact⟨0,0,31,Nat.zero_le _,rfl,rfl,rfl,rfl,rfl,⟨by decide,by decide⟩,hid (Iff.refl _),Below.refl _ _⟩
 case round=>
  obtain⟨k,fr,lo,hk,hg,rfl,rfl,rfl,rfl,hfr,HI,hbel⟩:=hrel;have HG:=hid hg;have hsz:=hbel.size;clear hg
  by_cases hlt:k<l.length
  ·have t1:decide ((k:Int)<(l.length:Int))=true:=decide_eq_true (by omega);obtain⟨b,off,rfl,hb,hc⟩:=hA (by omega);obtain⟨x,hx⟩:∃x,l[k]? =some x:=⟨_,List.getElem?_eq_getElem hlt⟩;have HD:=hid (show rightL l↔x.ok fr lo/\rightG (x.f+x.n) x.a (l.drop (k+1)) by
    have e:l[k]=x:=by rw[List.getElem?_eq_getElem hlt] at hx;exact Option.some.inj hx
    rw[HI.out,List.drop_eq_getElem_cons hlt,e];exact Iff.rfl)
   obtain⟨x0,x1,x2,x3,x4⟩:=hc k x hx;clear hc hx hA HI;obtain⟨xa,xr,xf,xn,xy⟩:=x;have c0:=(hbel.cell (p:=⟨b,off+k*5,none⟩) hb).trans x0;have c1:=(hbel.cell (p:=⟨b,off+k*5+1,none⟩) hb).trans x1;have c2:=(hbel.cell (p:=⟨b,off+k*5+2,none⟩) hb).trans x2;have c3:=(hbel.cell (p:=⟨b,off+k*5+3,none⟩) hb).trans x3;have c4:=(hbel.cell (p:=⟨b,off+k*5+4,none⟩) hb).trans x4;dsimp only at c0 c1 c2 c3 c4;have hbA:=fun o=>hbel.alloc hsz o
   clear x0 x1 x2 x3 x4
   by_cases q1:xf=fr
   rotate_left
   ·obtain rfl:R=false:=by rw[HR.out];exact decide_eq_false (fun h=>q1 (HD.out.1 h).1.1)
    have u1:(xf != fr)=true:=bne_iff_ne.2 q1;go_wp2_with fail;go_ret;exact⟨rfl,hbA _⟩
   obtain rfl:=q1
   by_cases q2:xn<1
   ·obtain rfl:R=false:=by rw[HR.out];exact decide_eq_false (fun h=>absurd (HD.out.1 h).1.2.1 (by show ¬1<=xn;omega))
    have u1:decide (xn<1)=true:=decide_eq_true q2;go_wp2_with fail;go_ret;exact⟨rfl,hbA _⟩
   have u2:decide (xn<1)=false:=decide_eq_false q2
   by_cases q3:18720<xn
   ·obtain rfl:R=false:=by rw[HR.out];exact decide_eq_false (fun h=>absurd (HD.out.1 h).1.2.2.1 (by show ¬xn<=18720;omega))
    have u1:decide (xn>18720)=true:=decide_eq_true q3;have u1':decide (18720<xn)=true:=decide_eq_true q3;go_wp2_with fail;go_ret;exact⟨rfl,hbA _⟩
   have u3:decide (xn>18720)=false:=decide_eq_false q3;have u3':decide (18720<xn)=false:=decide_eq_false q3
   by_cases q4:xr<40
   ·obtain rfl:R=false:=by rw[HR.out];exact decide_eq_false (fun h=>absurd (HD.out.1 h).1.2.2.2.1 (by show ¬40<=xr;omega))
    have u1:decide (xr<40)=true:=decide_eq_true q4;go_wp2_with fail;go_ret;exact⟨rfl,hbA _⟩
   have u4:decide (xr<40)=false:=decide_eq_false q4
   by_cases q5:360<xr
   ·obtain rfl:R=false:=by rw[HR.out];exact decide_eq_false (fun h=>absurd (HD.out.1 h).1.2.2.2.2.1 (by show ¬xr<=360;omega))
    have u1:decide (xr>360)=true:=decide_eq_true q5;have u1':decide (360<xr)=true:=decide_eq_true q5;go_wp2_with fail;go_ret;exact⟨rfl,hbA _⟩
   have u5:decide (xr>360)=false:=decide_eq_false q5;have u5':decide (360<xr)=false:=decide_eq_false q5;obtain⟨Z,hZ⟩:∃Z,Z=xr.tmod 40:=⟨_,rfl⟩;have hZ2:Z=xr%40:=by rw[hZ];exact Int.tmod_eq_emod_of_nonneg (by omega)
   have mZ:IntKind.i64.wrap Z=Z:=by rw[IntKind.wrap_i64];omega
   have hZ':=hZ.symm;have HZ:=hid hZ2;clear hZ hZ2
   by_cases q6:Z=0
   rotate_left
   ·obtain rfl:R=false:=by rw[HR.out];exact decide_eq_false (fun h=>q6 (by rw[HZ.out];exact(HD.out.1 h).1.2.2.2.2.2.1))
    have u1:(Z != 0)=true:=bne_iff_ne.2 q6;go_wp2_with fail;go_ret;exact⟨rfl,hbA _⟩
   subst q6
   by_cases q7:xa<=lo
   ·obtain rfl:R=false:=by rw[HR.out];exact decide_eq_false (fun h=>absurd (HD.out.1 h).1.2.2.2.2.2.2 (by show ¬lo<xa;omega))
    have u1:decide (xa<=lo)=true:=decide_eq_true q7;go_wp2_with fail;go_ret;exact⟨rfl,hbA _⟩
   have u7:decide (xa<=lo)=false:=decide_eq_false q7;have HD2:=hid (show rightL l↔rightG (xf+xn) xa (l.drop (k+1)) from⟨fun h=>(HD.out.1 h).2,fun h=>HD.out.2 ⟨⟨rfl,by show 1<=xn;omega,by show xn<=18720;omega,by show 40<=xr;omega,by show xr<=360;omega,by show xr%40=0;exact HZ.out.symm,by show lo<xa;omega⟩,h⟩⟩);obtain⟨F,hF⟩:∃F,F=xf+xn:=⟨_,rfl⟩;have mF:IntKind.i64.wrap (xf+xn)=F:=by rw[<-hF,IntKind.wrap_i64];omega
   have hFb:0<=F/\F<=18720*((k:Int)+1):=by omega
   have hF':=hF.symm;rw[<-hF] at HD2;clear hF HZ HD;go_wp2_with fail
   go_quiet (fail)
   go_wp2_with fail;have hg:=HG.out
   go_roundg (l.length-(k+1))
   case measure=>omega
   case rel=>exact⟨k+1,F,xa,by omega,rfl,by go_num,rfl,rfl,rfl,⟨hFb.1,by push_cast;exact hFb.2⟩,HD2,below_drewN (hbA _) _⟩
  ·have t1:decide ((k:Int)<(l.length:Int))=false:=decide_eq_false (by omega);obtain rfl:R=true:=by
    rw[HR.out];refine decide_eq_true (HI.out.2 ?_);rw[List.drop_of_length_le (by omega)]
    trivial
   go_wp2_with fail;rw[Exit.noGoto_ret];go_ret;exact⟨rfl,hbel⟩
theorem sumN_last {l:List Ent} (h:rightL l) {K:Nat} (hK:K+1=l.length) {x:Ent} (hx:l[K]? =some x):x.f+x.n=sumN l:=by
 have h1:=right_get h K x hx;have h2:=sumN_take hx;rw[List.take_of_length_le (by omega)] at h2;omega
theorem sumN_le {l:List Ent}:∀{fr lo:Int},rightG fr lo l->sumN l<=18720*(l.length:Int):=by
 induction l with
 |nil=>intro _ _ _;exact Int.le_refl _
 |cons x l ih=>
  intro fr lo h;have h1:=ih h.2;have h2:=h.1.2.2.1;rw[sumN_cons,List.length_cons];push_cast;omega
theorem totL_bd {l:List Ent} (hl:l.length<=1000000):0<=totL l/\totL l<=18720000000:=by
 unfold totL;split
 ·next h=>
  have:=sumN_le h;have:=sumN_pos h;omega
 ·omega
theorem total_any (v:Value) (l:List Ent) (w:World) (hr:RdR w v (l.map entC)) (hl:l.length<=1000000):
  Calls Tryz.prog 36 #[v] w fun e w'=>e=.returned (.int .i64 (totL l))/\Below w.heap.size w w':=by
 have hcall:=right19_any v l w hr hl;obtain⟨a,ca,rfl,hca,hma,hA⟩:=ent_cells hr;unfold maxLen at hma
 by_cases h0:l.length=0
 ·have e0:l=[]:=List.length_eq_zero_iff.1 h0;subst e0;go_enter Tryz.func36,Tryz.ntmps36;go_wp2_with fail;go_ret;exact⟨rfl,Below.refl _ _⟩
 obtain⟨K,hK⟩:∃K,K+1=l.length:=⟨l.length-1,by omega⟩;obtain⟨b,off,rfl,hb,hc⟩:=hA (by omega);obtain⟨x,hx⟩:∃x,l[K]? =some x:=⟨_,List.getElem?_eq_getElem (by omega)⟩;obtain⟨x0,x1,x2,x3,x4⟩:=hc K x hx;have n1:((l.length:Int)==0)=false:=beq_eq_false_iff_ne.2 (by omega);have m1:IntKind.i64.wrap ((l.length:Int)-1)=(K:Int):=by rw[show(l.length:Int)-1=(K:Int) by omega];exact nat_w19 K (by omega)
 have m1':(l.length:Int)-1=(K:Int):=by omega
 have hKl:K<l.length:=by omega
 by_cases hR:rightL l
 ·rw[decide_eq_true hR] at hcall;have hs:=sumN_last hR hK hx;have hbd:=totL_bd (l:=l) (by omega);have hT:totL l=sumN l:=if_pos hR;obtain⟨S,hS⟩:∃S,S=totL l:=⟨_,rfl⟩;rw[<-hS] at hbd ⊢;have mS:IntKind.i64.wrap (x.f+x.n)=S:=by rw[hs,<-hT,<-hS,IntKind.wrap_i64];omega
  have mS':x.f+x.n=S:=by rw[hs,<-hT,<-hS]
  clear hT hS hs hR hA hc hx hK hr;go_enter Tryz.func36,Tryz.ntmps36;go_wp2_with fail;refine hcall.mono ?_;rintro e w1 ⟨rfl,h1⟩;have c0:=(h1.cell (p:=⟨b,off+K*5,none⟩) hb).trans x0;have c1:=(h1.cell (p:=⟨b,off+K*5+1,none⟩) hb).trans x1;have c2:=(h1.cell (p:=⟨b,off+K*5+2,none⟩) hb).trans x2;have c3:=(h1.cell (p:=⟨b,off+K*5+3,none⟩) hb).trans x3;have c4:=(h1.cell (p:=⟨b,off+K*5+4,none⟩) hb).trans x4;clear x0 x1 x2 x3 x4;go_wp2_with fail;go_ret;exact⟨rfl,bD h1 _⟩
 ·rw[decide_eq_false hR] at hcall;have hT:totL l=0:=if_neg hR;rw[hT];go_enter Tryz.func36,Tryz.ntmps36;go_wp2_with fail;refine hcall.mono ?_;rintro e w1 ⟨rfl,h1⟩;go_wp2_with fail;go_ret;exact⟨rfl,h1⟩
end
section
open Go.RowKit Go Go.Shelf
theorem two2 {w1 w2:World} {p1 p2:Addr} {v1 v2:Value} {B:Nat} {w0:World} (h:w1.cell? p1=some v1/\w1.cell? p2=some v2/\Below B w0 w1/\B<=w1.heap.size) (hb:Below w1.heap.size w1 w2):
  w2.cell? p1=some v1/\w2.cell? p2=some v2/\Below B w0 w2/\B<=w2.heap.size:=by
 obtain⟨h1,h2,h6,h7⟩:=h;have k:∀{p:Addr} {v:Value},w1.cell? p=some v->w2.cell? p=some v:=fun{p} {v} hp=>(hb.cell (World.block_lt_of_cell? w1 p hp)).trans hp
 exact⟨k h1,k h2,h6.trans (hb.mono h7),Nat.le_trans h7 hb.size⟩
theorem behind_any (a:Option Addr) (ca:Nat) (l:List Ent) (off:Int) (z i:Nat) (x:Ent) (w:World) (hr:RdR w (.slice a l.length ca) (l.map entC)) (c0:w.cell? ⟨z,0,none⟩=some (.slice a l.length ca)) (c1:w.cell? ⟨z+1,0,none⟩=some (.int .i64 off)) (hx:l[i]? =some x) (hl:l.length<=1000000):
  Calls Tryz.prog 62 #[.int .i64 (i:Int),.pointer (some ⟨z,0,none⟩),.pointer (some ⟨z+1,0,none⟩)] w fun e w'=>e=.returned (.bool (decide (off<x.f)))/\Below w.heap.size w w':=by
 have hi:=(List.getElem?_eq_some_iff.1 hx).1;obtain⟨a',ca',hv,hca,hma,hA⟩:=ent_cells hr;obtain⟨b,o,ha,hb,hc⟩:=hA (by omega)
 injection hv with v1 v2 v3
 subst v1;subst v3;subst ha;obtain⟨x0,x1,x2,x3,x4⟩:=hc i x hx;obtain⟨R,hR⟩:∃R:Bool,R=decide (off<x.f):=⟨_,rfl⟩;have t1:decide (x.f>off)=R:=hR.symm;have t2:decide (off<x.f)=R:=hR.symm;rw[<-hR];unfold maxLen at hma;clear hR hc hA hr hx x0 x1 x3 x4;go_enter Tryz.func62,Tryz.ntmps62;go_wp2_with fail
 go_quiet (fail)
 go_wp2_with fail;go_ret;exact⟨rfl,below_drewN (Below.refl _ _) _⟩
theorem search_any (n:Nat) (z:Nat) (f:Nat->Bool) (w:World) (hn:n<=1000000) (hcall:∀i,i<n->∀W,Below w.heap.size w W->Calls Tryz.prog 62 #[.int .i64 (i:Int),.pointer (some ⟨z,0,none⟩),.pointer (some ⟨z+1,0,none⟩)] W fun e w'=>e=.returned (.bool (f i))/\Below W.heap.size W w'):
  Calls Tryz.prog 61 #[.int .i64 (n:Int),.func (.func 62) #[] #[.pointer (some ⟨z,0,none⟩),.pointer (some ⟨z+1,0,none⟩)]] w fun e w'=>∃m:Nat,e=.returned (.int .i64 (m:Int))/\m<=n/\(m<n->f m=true)/\(∀j,j+1=m->f j=false)/\Below w.heap.size w w':=by
 go_enter Tryz.func61,Tryz.ntmps61;go_wp2_with fail
 go_loopg [5,6,7] n (fun g s5 s6 _s7 wr=>∃i j:Nat,i<=j/\j<=n/\g=j-i/\s5=.int .i64 (i:Int)/\s6=.int .i64 (j:Int)/\Hid ((j<n->f j=true)/\(∀q,q+1=i->f q=false))/\Below w.heap.size w wr)
 case atStart=>exact⟨0,n,Nat.zero_le _,Nat.le_refl _,rfl,rfl,rfl,hid ⟨fun h=>absurd h (Nat.lt_irrefl _),fun q h=>absurd h (Nat.succ_ne_zero _)⟩,Below.refl _ _⟩
 case round=>
  obtain⟨i,j,hij,hjn,hg,rfl,rfl,HF,hbel⟩:=hrel;have HG:=hid hg;clear hg
  by_cases hlt:i<j
  ·have t1:decide ((i:Int)<(j:Int))=true:=decide_eq_true (by omega);obtain⟨S,hS⟩:∃S,S=i+j:=⟨_,rfl⟩;obtain⟨m,hm⟩:∃m,m=S/2:=⟨_,rfl⟩;have m1:IntKind.i64.wrap ((i:Int)+(j:Int))=(S:Int):=by rw[show(i:Int)+(j:Int)=(S:Int) by omega];exact nat_w19 S (by omega)
   have m1':(i:Int)+(j:Int)=(S:Int):=by omega
   have m2:IntKind.u64.wrap (S:Int)=(S:Int):=by rw[IntKind.wrap_u64];omega
   have m2':(S:Int)%18446744073709551616=(S:Int):=by omega
   have m3:((S:Int)>>>1)=(m:Int):=by rw[hm,Int.shiftRight_eq_div_pow];rfl
   have m3':(S:Int)/2=(m:Int):=by omega
   have m4:IntKind.u64.wrap (m:Int)=(m:Int):=by rw[IntKind.wrap_u64];omega
   have m4':(m:Int)%18446744073709551616=(m:Int):=by omega
   have m5:IntKind.i64.wrap (m:Int)=(m:Int):=nat_w19 m (by omega);have hmi:i<=m/\m<j:=by omega
   have hcl:=hcall m (by omega) wr hbel;have HS:=hid hS;have HM:=hid hm;clear hS hm;obtain⟨F,hF⟩:∃F:Bool,F=f m:=⟨_,rfl⟩;rw[<-hF] at hcl;have HFm:=hid hF;clear hF;go_wp2_with fail;refine hcl.mono ?_;rintro e w1 ⟨rfl,h1⟩;have hb1:=bV hbel h1;clear hcl m1 m1' m2 m2' m3 m3' m4 m4'
   cases F with
   |true=>
    go_wp2_with fail;have hg:=HG.out
    go_roundg (m-i)
    case measure=>omega
    case rel=>exact⟨i,m,hmi.1,by omega,rfl,rfl,rfl,hid ⟨fun _=>HFm.out.symm,HF.out.2⟩,hb1⟩
   |false=>
    have m6:IntKind.i64.wrap ((m:Int)+1)=((m+1:Nat):Int):=by rw[show(m:Int)+1=((m+1:Nat):Int) by push_cast;rfl];exact nat_w19 (m+1) (by omega)
    go_wp2_with fail;have hg:=HG.out
    go_roundg (j-(m+1))
    case measure=>omega
    case rel=>exact⟨m+1,j,by omega,hjn,rfl,by go_num,rfl,hid ⟨HF.out.1,fun q h=>by rw[show q=m by omega];exact HFm.out.symm⟩,hb1⟩
  ·have t1:decide ((i:Int)<(j:Int))=false:=decide_eq_false (by omega);obtain rfl:i=j:=by omega
   go_wp2_with fail;go_ret;exact⟨i,rfl,hjn,HF.out.1,HF.out.2,hbel⟩
theorem right_mono {l:List Ent} {fr lo:Int} (h:rightG fr lo l) {i j:Nat} {x y:Ent} (hx:l[i]? =some x) (hy:l[j]? =some y) (hij:i<=j):x.f<=y.f:=by
 rcases Nat.lt_or_ge i j with q|q
 ·have:=right_lt h hx hy q;have:=(right_get h i x hx).2.1;omega
 ·obtain rfl:i=j:=by omega
  rw[hx] at hy;obtain rfl:=Option.some.inj hy;exact Int.le_refl _
theorem search_find {l:List Ent} (h:rightL l) {off:Int} (h0:0<=off) (h1:off<sumN l) {m:Nat} (hm:m<=l.length) (ha:∀x,l[m]? =some x->off<x.f) (hb:∀j x,j+1=m->l[j]? =some x->x.f<=off):findL l off=(m:Int)-1:=by
 obtain⟨k,x,hk,hx1,hx2,e⟩:=find_at h h0 h1;have hkl:=(List.getElem?_eq_some_iff.1 hk).1;have e2:m=k+1:=by
  rcases Nat.lt_trichotomy m (k+1) with q|q|q
  ·obtain⟨y,hy⟩:∃y,l[m]? =some y:=⟨_,List.getElem?_eq_getElem (by omega)⟩;have:=ha y hy;have:=right_mono h hy hk (by omega);omega
  ·exact q
  ·obtain⟨y,hy⟩:∃y,l[m-1]? =some y:=⟨_,List.getElem?_eq_getElem (by omega)⟩;have:=hb (m-1) y (by omega) hy;have:=right_lt h hk hy (by omega);omega
 rw[e,e2];omega
theorem find_any (v:Value) (l:List Ent) (off:Int) (w:World) (hr:RdR w v (l.map entC)) (hl:l.length<=1000000):
  Calls Tryz.prog 37 #[v,.int .i64 off] w fun e w'=>e=.returned (.int .i64 (findL l off))/\Below w.heap.size w w':=by
 obtain⟨a,ca,rfl,hca,hma,-⟩:=ent_cells hr;have hbd:=totL_bd hl;unfold maxLen at hma
 by_cases h0:off<0
 ·rw[find_none (.inl h0)];have t1:decide (off<0)=true:=decide_eq_true h0;go_enter Tryz.func37,Tryz.ntmps37;go_wp2_with fail
  go_quiet (fail)
  go_wp2_with fail;go_ret;exact⟨rfl,below_drewN (bD (bD (Below.refl _ _) _) _) _⟩
 have t1:decide (off<0)=false:=decide_eq_false h0;obtain⟨FV,hFV⟩:∃FV,FV=findL l off:=⟨_,rfl⟩;rw[<-hFV];have HFV:=hid hFV;clear hFV;obtain⟨T,hT⟩:∃T,T=totL l:=⟨_,rfl⟩;obtain⟨Q,hQ⟩:∃Q:Bool,Q=decide (T<=off):=⟨_,rfl⟩;have hcT:=fun W h=>total_any (.slice a l.length ca) l W h hl
 rw[<-hT] at hcT hbd;have t2:decide (off>=T)=Q:=hQ.symm;have t3:decide (T<=off)=Q:=hQ.symm;have HQ:=hid hQ;have HT:=hid hT;clear hQ hT;obtain⟨z,hz⟩:∃z,z=w.heap.size:=⟨_,rfl⟩;have hb0:Below w.heap.size w ((w.alloc (.cells #[.slice a l.length ca] 61)).alloc (.cells #[.int .i64 off] 3)):=bD (bD (Below.refl _ _) _) _;have c0:((w.alloc (.cells #[.slice a l.length ca] 61)).alloc (.cells #[.int .i64 off] 3)).cell? ⟨z,0,none⟩=some (.slice a l.length ca):=by
  rw[hz];have h:=Arr.new w 61 [.slice a l.length ca];exact(h.below (bD (Below.refl _ _) (.cells #[.int .i64 off] 3)) h.lt).cell (i:=0) rfl
 have c1:((w.alloc (.cells #[.slice a l.length ca] 61)).alloc (.cells #[.int .i64 off] 3)).cell? ⟨z+1,0,none⟩=some (.int .i64 off):=by
  rw[hz];have h:=Arr.new (w.alloc (.cells #[.slice a l.length ca] 61)) 3 [.int .i64 off];rw[World.size_alloc] at h;exact h.cell (i:=0) rfl
 have hr0:=(hr.below hb0);go_enter Tryz.func37,Tryz.ntmps37;go_wp2_with fail;generalize (w.alloc (.cells #[.slice a l.length ca] 61)).alloc (.cells #[.int .i64 off] 3)=W0 at*
 rw[<-hz] at ⊢;clear hz hr;have hS0:=two2 (B:=W0.heap.size) (w0:=W0) ⟨c0,c1,Below.refl _ _,Nat.le_refl _⟩ (Below.refl W0.heap.size W0).drew
 go_cut [12] (fun c12 wx=>c12=.bool Q/\wx.cell? ⟨z,0,none⟩=some (.slice a l.length ca)/\wx.cell? ⟨z+1,0,none⟩=some (.int .i64 off)/\Below W0.heap.size W0 wx/\W0.heap.size<=wx.heap.size)
 case first=>
  go_region_held3 (fun wx=>wx.cell? ⟨z,0,none⟩=some (.slice a l.length ca)/\wx.cell? ⟨z+1,0,none⟩=some (.int .i64 off)/\Below W0.heap.size W0 wx/\W0.heap.size<=wx.heap.size)
   (first
    |with_reducible assumption
    |with_reducible exact two2 (by assumption) (by assumption))
   (first
    |(go_at_call 36;refine(hcT _ (hr0.below (by first|exact(by assumption:_/\_/\Below W0.heap.size W0 _/\_).2.2.1|assumption))).mono ?_;rintro e w4 ⟨rfl,h4⟩))
  all_goals
   go_wp2_with fail;go_meet;exact⟨rfl,by assumption⟩
 case rest=>
 obtain⟨rfl,d0,d1,hb1,hs1⟩:=hcut;have hrc:=hr0.below hb1;have h1:=hb0.trans (hb1.mono hb0.size);clear hcT hS0 c0 c1
 cases Q with
 |true=>
  have hle:T<=off:=of_decide_eq_true HQ.out.symm;obtain rfl:FV= -1:=by rw[HFV.out];exact find_none (.inr (by rw[<-HT.out];exact hle))
  clear hle;go_wp2_with fail;go_ret;exact⟨rfl,h1⟩
 |false=>
  have hlt:off<T:=by have:=of_decide_eq_false HQ.out.symm;omega
  have hR:rightL l:=by
   apply Decidable.byContradiction;intro q;have:totL l=0:=if_neg q;rw[<-HT.out] at this;omega
  have hsN:off<sumN l:=by
   have:totL l=sumN l:=if_pos hR;rw[<-this,<-HT.out];exact hlt
  have hsr:=search_any l.length z (fun i=>match l[i]? with|some x=>decide (off<x.f)|none=>true) wc hl (fun i hi W hW=>by
   obtain⟨x,hx⟩:∃x,l[i]? =some x:=⟨_,List.getElem?_eq_getElem hi⟩;simp only[hx];exact behind_any a ca l off z i x W (hrc.below hW) ((hW.cell (World.block_lt_of_cell? wc _ d0)).trans d0) ((hW.cell (World.block_lt_of_cell? wc _ d1)).trans d1) hx hl)
  clear t2 t3 hlt hrc;have HS:=hid hsN;have HRR:=hid hR;clear hsN hR;go_wp2_with fail;refine hsr.mono ?_;rintro e w2 ⟨m,rfl,hm,hm1,hm2,h2⟩;have hfin:findL l off=(m:Int)-1:=search_find HRR.out (by omega) HS.out hm (fun x hx=>by
    have hml:=(List.getElem?_eq_some_iff.1 hx).1;have q:=hm1 hml;simp only[hx] at q;exact of_decide_eq_true q) (fun j x hj hx=>by
    have q:=hm2 j hj;simp only[hx] at q;have:=of_decide_eq_false q;omega)
  obtain⟨D,hD⟩:∃D,D=(m:Int)-1:=⟨_,rfl⟩;have mD:IntKind.i64.wrap ((m:Int)-1)=D:=by rw[<-hD,IntKind.wrap_i64];omega
  have mD':=hD.symm;obtain rfl:FV=D:=by rw[HFV.out,hfin,hD]
  clear hD hfin hm1 hm2 hsr;go_wp2_with fail;go_ret;exact⟨rfl,h1.trans (h2.mono h1.size)⟩
theorem cover_any (v:Value) (l:List Ent) (off n:Int) (w:World) (hr:RdR w v (l.map entC)) (hl:l.length<=1000000) (ho1: -9223372036854775808<=off) (ho2:off<=9223372036854775807) (hn1: -9223372036854775808<=n) (hn2:n<=9223372036854775807):
  Calls Tryz.prog 39 #[v,.int .i64 off,.int .i64 n] w fun e w'=>e=.returned (.tuple #[.int .i64 (coverL l off n).1,.int .i64 (coverL l off n).2])/\Below w.heap.size w w':=by
 have hT0:=total_any v l w hr hl;have hbd:=totL_bd hl;have hfind:=fun o W h=>find_any v l o W h hl
 obtain⟨a,ca,rfl,hca,hma,-⟩:=ent_cells hr;unfold maxLen at hma;have HC:=hid (show coverL l off n=if n<1\/totL l<=off\/off<= -n then(-1,-1) else(findL l (max off 0),findL l (max off 0+min (n-(max off 0-off)) (totL l-max off 0)-1)) from rfl);obtain⟨T,hT⟩:∃T,T=totL l:=⟨_,rfl⟩;obtain⟨CV,hCV⟩:∃CV,CV=coverL l off n:=⟨_,rfl⟩;rw[<-hT] at hT0 hbd;rw[<-hCV] at ⊢;rw[<-hT,<-hCV] at HC;clear hT hCV;go_enter Tryz.func39,Tryz.ntmps39;go_wp2_with fail;refine hT0.mono ?_;rintro e w1 ⟨rfl,h1⟩;have hr1:=hr.below h1;clear hT0 hr
 by_cases q1:n<1
 ·obtain rfl:CV=(-1,-1):=by rw[HC.out,if_pos (.inl q1)]
  have t1:decide (n<1)=true:=decide_eq_true q1;go_wp2_with fail
  go_ret2
  exact⟨rfl,h1⟩
 have t1:decide (n<1)=false:=decide_eq_false q1
 by_cases q2:T<=off
 ·obtain rfl:CV=(-1,-1):=by rw[HC.out,if_pos (.inr (.inl q2))]
  have t2:decide (off>=T)=true:=decide_eq_true q2;have t2':decide (T<=off)=true:=decide_eq_true q2;go_wp2_with fail
  go_ret2
  exact⟨rfl,h1⟩
 have t2:decide (off>=T)=false:=decide_eq_false q2;have t2':decide (T<=off)=false:=decide_eq_false q2;obtain⟨N,hN⟩:∃N,N= -n:=⟨_,rfl⟩;have mN:IntKind.i64.wrap (-n)=N:=by rw[<-hN,IntKind.wrap_i64];omega
 have mN':=hN.symm
 by_cases q3:off<=N
 ·obtain rfl:CV=(-1,-1):=by rw[HC.out,if_pos (.inr (.inr (by rw[<-hN];exact q3)))]
  have t3:decide (off<=N)=true:=decide_eq_true q3;clear hN;go_wp2_with fail
  go_ret2
  exact⟨rfl,h1⟩
 have t3:decide (off<=N)=false:=decide_eq_false q3;have hCV:CV=(findL l (max off 0),findL l (max off 0+min (n-(max off 0-off)) (T-max off 0)-1)):=by rw[HC.out,if_neg (by omega)]
 obtain⟨F,hF⟩:∃F,F=max off 0:=⟨_,rfl⟩;rw[<-hF] at hCV;obtain⟨D1,hD1⟩:∃D1,D1=F-off:=⟨_,rfl⟩;rw[<-hD1] at hCV;obtain⟨D2,hD2⟩:∃D2,D2=n-D1:=⟨_,rfl⟩;rw[<-hD2] at hCV;obtain⟨G,hG⟩:∃G,G=T-F:=⟨_,rfl⟩;rw[<-hG] at hCV;obtain⟨H,hH⟩:∃H,H=min D2 G:=⟨_,rfl⟩;rw[<-hH] at hCV;obtain⟨I,hI⟩:∃I,I=F+H:=⟨_,rfl⟩;rw[<-hI] at hCV;obtain⟨J,hJ⟩:∃J,J=I-1:=⟨_,rfl⟩;rw[<-hJ] at hCV;have x1:(if off<=0 then 0 else off)=F:=by rw[hF,Int.max_def]
 have x2:max off 0=F:=hF.symm;have x2':max 0 off=F:=by rw[hF];omega
 have m1:IntKind.i64.wrap (F-off)=D1:=by rw[<-hD1,IntKind.wrap_i64];omega
 have m2:IntKind.i64.wrap (n-D1)=D2:=by rw[<-hD2,IntKind.wrap_i64];omega
 have m3:IntKind.i64.wrap (T-F)=G:=by rw[<-hG,IntKind.wrap_i64];omega
 have y1:(if D2<=G then D2 else G)=H:=by rw[hH,Int.min_def]
 have y2:min D2 G=H:=hH.symm;have m4:IntKind.i64.wrap (F+H)=I:=by rw[<-hI,IntKind.wrap_i64];omega
 have m5:IntKind.i64.wrap (I-1)=J:=by rw[<-hJ,IntKind.wrap_i64];omega
 have m1':=hD1.symm;have m2':=hD2.symm;have m3':=hG.symm;have m4':=hI.symm;have m5':=hJ.symm;have HCV:=hid hCV;obtain⟨f1,hf1⟩:∃f1,f1=findL l F:=⟨_,rfl⟩;obtain⟨f2,hf2⟩:∃f2,f2=findL l J:=⟨_,rfl⟩;have hc1:=fun W h=>hfind F W h
 have hc2:=fun W h=>hfind J W h
 rw[<-hf1] at hc1;rw[<-hf2] at hc2;obtain rfl:CV=(f1,f2):=by rw[hCV,hf1,hf2]
 clear hF hD1 hD2 hG hH hI hJ hCV hf1 hf2 hfind hN HCV HC;go_wp2_with fail;refine(hc1 _ hr1).mono ?_;rintro e w2 ⟨rfl,h2⟩;have hr2:=hr1.below h2;go_wp2_with fail;refine(hc2 _ hr2).mono ?_;rintro e w3 ⟨rfl,h3⟩;go_wp2_with fail
 go_ret2
 exact⟨rfl,bV (bV h1 h2) h3⟩
end
end Go.Proofs.YtpgmbhpbgkljdaaGreatDoor
