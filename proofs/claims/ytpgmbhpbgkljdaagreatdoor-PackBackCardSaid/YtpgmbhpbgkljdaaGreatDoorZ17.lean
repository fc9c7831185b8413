/-
  Texts put together (part 17): the walks and the plain laws on which the statement stands.
-/
import Derived.Deep.RegionLawGrows
import Derived.Lib.SliceRun
import Derived.Test.YtpgmbhpbgkljdaaGreatDoorZ16
set_option maxRecDepth 100000
set_option maxHeartbeats 12800000
open Array renaming getElem?_eq_some_iff->gQ
open Bool renaming or_false->xK
open Go renaming heap_setCell_other->kT
open Go.Act renaming eval->qC
open Go.Builtin renaming append_->tT
open Go.IntKind renaming i64->aI,wrap_i64->aM
open Go.Oper renaming wp->lX
open Go.Proofs renaming enters_of->fN
open Go.Region renaming wanted->nR
open Go.RowKit renaming ownsRow_setCell_below->aCj
open Go.RowKit.Below renaming refl->aB
open Go.World renaming size_alloc->fV
open Go.World.ownsRow renaming kept->NH
open List renaming append_nil->eE,getD_eq_getElem?_getD->aV,getElem?_append_left->gS,getElem?_eq_getElem->aN,getElem?_map->dY,length_append->aL,length_map->bJ,length_set->mW,length_take->aX,map_append->fI,mem_of_getElem?->cH,mem_of_mem_take->nO,mem_singleton->dC,set_append_left->aC4,set_cons_succ->aG,take_add_one->cQ,take_append_drop->jE,take_of_length_le->cS
open Nat renaming le_refl->aA,le_succ->pI,le_trans->aW,lt_succ_self->sG,zero_add->iZ,zero_le->aU
open Option.some renaming inj->bW
open UInt8 renaming ofNat->eK
namespace Go.Proofs.YtpgmbhpbgkljdaaGreatDoor
open Go.RowKit Go Go.Shelf
theorem aO3 (v:Value) (l:List Int) (x:Int) (w:World) (hr:RdI w v l):
  Calls Tryz.prog 108 #[v,.int .i64 x] w fun e w'=>e=.returned (.int .i64 (fP (fun y=>x==y) l))/\w'=w:=by
 obtain⟨a,ca,rfl,hca,hma,hA⟩:=hr.open;unfold maxLen at hma;clear hr;go_enter Tryz.func108,Tryz.ntmps108;go_wp2_with fail
 go_loopg [5,8] l.length (fun g _s5 s8 wr=>∃k:Nat,k<=l.length/\g=l.length-k/\s8=.int .i64 (k:Int)/\Hid (∀y∈l.take k,(x==y)=false)/\wr=w)
 case atStart=>exact⟨0,aU _,rfl,rfl,hid (fun y hy=>by simp at hy),rfl⟩
 case round=>
  obtain⟨k,hk,hg,rfl,HT,rfl⟩:=hrel;have HG:=hid hg;clear hg
  by_cases hlt:k<l.length
  ·have u1:decide ((k:Int)<(l.length:Int))=true:=decide_eq_true (by omega);obtain⟨b,off,rfl,hb,hc⟩:=hA (by omega);have hx:=aN hlt;have c1:=hc k _ hx;have HX:=hid hx;obtain⟨y,hy⟩:∃y,y=l[k]:=⟨_,rfl⟩;rw[<-hy] at c1;have HY:=hid hy;clear hy hx hc hA
   cases hp:(x==y) with
   |true=>
    go_wp2_with fail;go_ret;exact⟨fX (BR HT.out hlt (by rw[<-HY.out];exact hp)).symm,rfl⟩
   |false=>
    have HP:=hid hp;go_wp2_with fail;have hg:=HG.out
    go_roundg (l.length-(k+1))
    case measure=>omega
    case rel=>
     refine⟨k+1,by omega,rfl,by go_num,hid (fun z hz=>?_),rfl⟩;rw[cQ,HX.out] at hz;rcases List.mem_append.1 hz with hz|hz
     ·exact HT.out z hz
     ·obtain rfl:=dC.1 hz;rw[<-HY.out];exact HP.out
  ·have u1:decide ((k:Int)<(l.length:Int))=false:=decide_eq_false (by omega);go_wp2_with fail;go_ret;exact⟨fX (by rw[oN];have:=HT.out;rwa[cS (by omega)] at this),rfl⟩
theorem aO4 {A:List UInt8} {c:UInt8} (h:c∈A):fP (fun y=>(c.toNat:Int)==y) (BX A)=((plc A c:Nat):Int):=by
 have hl:=rG h;have hg:=BU h;refine BR (fun y hy=>?_) (by rw[tG];exact hl) ?_
 ·unfold BX at hy;rw[<-List.map_take] at hy;obtain⟨b,hb,rfl⟩:=List.mem_map.1 hy;obtain⟨j,hj⟩:=List.mem_iff_getElem?.1 hb;have hjl:=(List.getElem?_eq_some_iff.1 hj).1;rw[aX] at hjl;rw[List.getElem?_take_of_lt (by omega),aN (by omega)] at hj;have hne:=List.not_of_lt_findIdx (p:=fun b=>b==c) (xs:=A) (i:=j) (show j<plc A c by omega);rw[bW hj] at hne;rw[beq_eq_false_iff_ne];intro e;have e2:c=b:=UInt8.toNat_inj.1 (by omega);rw[e2] at hne;simp at hne
 ·have e:(BX A)[plc A c]'(by rw[tG];exact hl)=(c.toNat:Int):=by
   unfold BX;rw[List.getElem_map];rw[aN hl] at hg;rw[bW hg]
  rw[e];simp
theorem aO5 (b:Nat) (x:Int) (W:World) (hc:W.cell? ⟨b,0,none⟩=some (.int .i64 2)) (hx:x=0\/x=1):
  Calls Tryz.prog 106 #[.int .i64 x,.pointer (some ⟨b,0,none⟩)] W fun e w'=>e=.returned (.bool false)/\w'=W:=by
 have v1:decide (x<0)=false:=decide_eq_false (by omega);have v2:decide (x>=2)=false:=decide_eq_false (by omega);have v3:decide (2<=x)=false:=decide_eq_false (by omega);go_enter Tryz.func106,Tryz.ntmps106;go_wp2_with fail;go_ret;exact⟨rfl,rfl⟩
theorem aO6 {l:List Int} (hx:∀x∈l,x=0\/x=1) {k:Nat} {x:Int} (h:l[k]? =some x):
  cM (cC 6) ((l.map dV).take (k+1))=cM (cC 6) ((l.map dV).take k)++[((plc (eB (cC 6) ((l.map dV).take k)) (dV x):Nat):Int)]/\
  eB (cC 6) ((l.map dV).take (k+1))=eF (eB (cC 6) ((l.map dV).take k)) (plc (eB (cC 6) ((l.map dV).take k)) (dV x))/\
  dV x∈eB (cC 6) ((l.map dV).take k)/\plc (eB (cC 6) ((l.map dV).take k)) (dV x)<2:=by
 have hb:(l.map dV)[k]? =some (dV x):=by rw[dY,h];rfl
 have e:(l.map dV).take (k+1)=(l.map dV).take k++[dV x]:=by rw[cQ,hb];rfl
 have hm:=DN hx;have h6:=JZ (show 2<=6 by decide);have hmem:dV x∈eB (cC 6) ((l.map dV).take k):=(BV _ _).mem_iff.2 (by rw[h6];exact List.mem_append_left _ (hm _ (cH hb)));refine⟨by rw[e,BW],by rw[e,IM],hmem,?_⟩;have h2:=(JY ((l.map dV).take (k+1)) (cC 2) ((cC 6).drop 2) (fun b hb=>hm b (nO hb))).1;rw[<-h6] at h2
 have hr:=vT ((l.map dV).take (k+1)) (cC 2) (fun b hb=>hm b (nO hb)) ((plc (eB (cC 6) ((l.map dV).take k)) (dV x):Nat):Int) (by rw[<-h2,e,BW];exact List.mem_append_right _ (dC.2 rfl));have hl:(cC 2).length=2:=rfl;rw[hl] at hr;omega
theorem aO7 {l:List Int} (hx:∀x∈l,x=0\/x=1):cM (cC 6) (l.map dV)=dO l:=by
 rw[KM,JZ (show 2<=6 by decide),(JY _ _ _ (DN hx)).1]
theorem aO8 (l:List Int):(l.map lF).flatten=dE l:=by unfold dE;rw[List.flatMap_def]
theorem aO9 (v:Value) (l:List Int) (w:World) (hr:RdI w v l) (hl:l.length<=20000) (hx:∀x∈l,x=0\/x=1):
  Calls Tryz.prog 73 #[v,.int .i64 2] w fun e w'=>e=.returned (.tuple #[eL (dE (dO l)),.int .i64 0])/\Below w.heap.size w w':=by
 have hmf:∀(fn:Fn) (first cap:Array Value) (w:World),(Instr.makeFunc fn first cap).run Tryz.prog w=.ok (.func fn first cap) w:=fun _ _ _ _=>rfl
 have HX:=hid hx;have HN:=hid (fun k x (h:l[k]? =some x)=>aO6 hx h);have HP6:=hid (aO7 hx);have hbox:=Arr.new w 3 [.int .i64 2];have hB0:=Arr.new (w.alloc (.cells #[.int .i64 2] 3)) 77 [.string ⟨#[]⟩,.int .i64 0];have hT0:=hbox.alloc (.cells #[.string ⟨#[]⟩,.int .i64 0] 77);have hs1:(w.alloc (.cells #[.int .i64 2] 3)).heap.size=w.heap.size+1:=by simp
 have hs2:((w.alloc (.cells #[.int .i64 2] 3)).alloc (.cells #[.string ⟨#[]⟩,.int .i64 0] 77)).heap.size=w.heap.size+2:=by simp
 have hb2:Below w.heap.size w ((w.alloc (.cells #[.int .i64 2] 3)).alloc (.cells #[.string ⟨#[]⟩,.int .i64 0] 77)):=bD (bD (aB _ _) _) _;rw[hs1] at hB0;change Arr ((w.alloc (.cells #[.int .i64 2] 3)).alloc (.cells #[.string ⟨#[]⟩,.int .i64 0] 77)) _ _ _ at hT0;change Arr ((w.alloc (.cells #[.int .i64 2] 3)).alloc (.cells #[.string ⟨#[]⟩,.int .i64 0] 77)) _ _ _ at hB0;have hr2:=hr.below hb2
 have hcf:∀W,Below (w.heap.size+2) ((w.alloc (.cells #[.int .i64 2] 3)).alloc (.cells #[.string ⟨#[]⟩,.int .i64 0] 77)) W->Calls Tryz.prog 105 #[v,.func (.func 106) #[] #[.pointer (some ⟨w.heap.size,0,none⟩)]] W fun e w'=>e=.returned (.bool false)/\w'=W:=fun W hW=>
  (uN 106 #[.pointer (some ⟨w.heap.size,0,none⟩)] (fun _=>false) v l W (hr2.below (hs2▸hW)) (fN Tryz.func106 (by kernel_rfl) rfl)
   (fun W' hW' x hxl=>aO5 w.heap.size x W' (((hT0.below hW (by omega)).below hW' (by have:=hW.size;omega)).cell (i:=0) rfl) (hx x hxl))).mono fun e w' ⟨h1,h2⟩=>by
    rw[oN (fun x _=>rfl)] at h1;exact⟨h1,h2⟩
 obtain⟨a,ca,rfl,hca,hma,hA⟩:=hr2.open;unfold maxLen at hma;clear hr hr2 hbox hx;go_enter Tryz.func73,Tryz.ntmps73;go_wp2_with fail;generalize ((w.alloc (.cells #[.int .i64 2] 3)).alloc (.cells #[.string ⟨#[]⟩,.int .i64 0] 77))=w2 at*
 have c0:=hT0.cell (i:=0) rfl;refine(ZC 2 _ (by decide) (by decide)).mono ?_;rintro e w3 ⟨rfl,rfl⟩;go_wp2_with fail;refine(hcf _ (aB _ _)).mono ?_;rintro e w4 ⟨rfl,rfl⟩;go_wp2_with fail;refine(ZE 2 _).mono ?_;rintro e w5 ⟨rfl,hA5,hb5,hz5⟩;obtain⟨z,hz⟩:∃z,z=w4.heap.size:=⟨_,rfl⟩;rw[<-hz] at hA5 hb5 hz5 hs2 ⊢;rw[<-ZG] at hA5;have hB5:=hB0.below hb5 (by omega);have HBL:=hid (hb2.trans (hb5.mono (by omega)));have HA:=hid (fun(h:0<l.length)=>hA h);have hzw:w.heap.size+2<=z:=by omega
 have HS2:=hid hs2;have HZ:=hid hz;clear hcf hT0 hB0 c0 hA hb2 hs2 hz;go_wp2_with fail
 go_loopg [7,9,10,11,12,25] l.length (fun g s7 _s9 _s10 _s11 _s12 s25 wr=>∃(k:Nat) (u:Value),k<=l.length/\g=l.length-k/\u=s7/\s25=.int .i64 (k:Int)/\gG wr (z+1) u ((cM (cC 6) ((l.map dV).take k)).map lF)/\Arr wr z 171 (iX (BX (eB (cC 6) ((l.map dV).take k))) 2)/\Below z w5 wr/\z<wr.heap.size)
 case atStart=>exact⟨0,_,aU _,rfl,rfl,rfl,gG.nil _ _,hA5,aB _ _,hz5⟩
 case round=>
  obtain⟨k,u,hk,hg,rfl,rfl,ho,hA,hbel,hzr⟩:=hrel;have HG:=hid hg;clear hg
  by_cases hlt:k<l.length
  ·have u1:decide ((k:Int)<(l.length:Int))=true:=decide_eq_true (by omega);obtain⟨b,off,rfl,hb,hc⟩:=HA.out (by omega);obtain⟨x,hxx⟩:=dH hlt;have c1:=(hbel.cell (p:=⟨b,off+k,none⟩) (by show b<z;rw[HZ.out];exact hb)).trans ((hb5.cell (p:=⟨b,off+k,none⟩) (by show b<z;rw[HZ.out];exact hb)).trans (hc k x hxx));obtain⟨n1,n2,n3,n4⟩:=HN.out k x hxx;have hx01:=HX.out x (cH hxx);have hxb:((dV x).toNat:Int)=x:=by rcases hx01 with rfl|rfl<;>rfl
   have hAl:(eB (cC 6) ((l.map dV).take k)).length=6:=(BV _ _).length_eq;obtain⟨Q,hQ⟩:∃Q,Q=eB (cC 6) ((l.map dV).take k):=⟨_,rfl⟩;obtain⟨M,hM⟩:∃M,M=cM (cC 6) ((l.map dV).take k):=⟨_,rfl⟩;have hMl:M.length=k:=by rw[hM,rH,aX,bJ];omega
   rw[<-hQ] at n1 n2 n3 n4 hAl hA;rw[<-hM] at n1 ho;obtain⟨i,hi⟩:∃i,i=plc Q (dV x):=⟨_,rfl⟩;have hix:=aO4 n3;rw[hxb,<-hi] at hix;rw[<-hi] at n1 n2 n4;have N1:=hid n1;have N2:=hid n2;have hslice:RdI wr (.slice (some ⟨z,0,none⟩) 6 6) (BX Q):=by
    have hbl:(BX Q).length=6:=by rw[tG];exact hAl
    refine⟨some ⟨z,0,none⟩,6,by rw[hbl],by rw[hbl];exact aA _,by simp[maxLen],.inr ⟨z,0,rfl,hzr,fun j hj=>?_⟩⟩;rw[bJ] at hj;rw[iZ,hA.cell (EO hj)];simp[aV,aN hj]
   have hin:=aO3 (.slice (some ⟨z,0,none⟩) 6 6) (BX Q) x wr hslice;rw[hix] at hin;have hfr:=ZB z (BX Q) 2 i (by rw[tG];exact hAl) (by omega) wr hA;rw[ZF] at hfr;clear n1 n2 n3 hxx hc hix hxb hi hQ hM hslice;go_wp2_with fail;refine hin.mono ?_;rintro e w6 ⟨rfl,rfl⟩;obtain⟨X,hX⟩:∃X,X=lF ((i:Nat):Int):=⟨_,rfl⟩;have hi2:i=0\/i=1:=by omega
   have hXl:X.length<=2:=by rcases hi2 with rfl|rfl<;>(rw[hX];decide)
   have HXX:=hid hX;rcases hi2 with hi0|hi0
   ·skip
    subst hi0;have hput:∀W,Calls Tryz.prog 44 #[.agg #[.string ⟨#[]⟩,.int .i64 0],.int .u64 0,.int .i64 1] W fun e w'=>e=.returned (.tuple #[.agg #[.string (mkS (aD X)),.int .i64 (X.length:Int)],.int .i64 0])/\Below W.heap.size W w':=fun W=>by
     have:=uH [] 0 1 W (by decide) (by decide) (by decide);rw[show([]:List Bool)++aY 0 1=X by rw[HXX.out];decide] at this;exact this
    clear hX;go_wp2_with fail;refine hfr.mono ?_;rintro e w7 ⟨rfl,hA7,hg7⟩;have ho7:gG w7 (z+1) u (M.map lF):=NH ho hg7 (iL ho (sG z));have hb7:=hbel.grown hg7 (by omega) (fun k hk=>by obtain rfl:=bW hk;exact aA _);have hs7:=hg7.size;clear hfr ho hg7 hbel;go_wp2_with fail;refine(hput _).mono ?_;rintro e w8 ⟨rfl,hb8⟩;have hA8:=hA7.below hb8 (by omega);have ho8:=ho7.below hb8 (aA _);have hb8':=hb7.trans (hb8.mono (by omega));have hs8:=hb8.size;have hA9:=hA8.alloc (.cells #[.string (mkS (aD X)),.int .i64 (X.length:Int)] 77)
    have ho9:=ho8.alloc (.cells #[.string (mkS (aD X)),.int .i64 (X.length:Int)] 77);have hb9:=hb8'.alloc (o:=.cells #[.string (mkS (aD X)),.int .i64 (X.length:Int)] 77) (by omega);have hz9:(w8.alloc (.cells #[.string (mkS (aD X)),.int .i64 (X.length:Int)] 77)).heap.size=w8.heap.size+1:=by simp
    have hN:=Arr.new (w8.alloc (.cells #[.string (mkS (aD X)),.int .i64 (X.length:Int)] 77)) 77 [.string (mkS (aD X)),.int .i64 (X.length:Int)];rw[hz9] at hN;have hA10:=hA9.alloc (.cells #[.string (mkS (aD X)),.int .i64 (X.length:Int)] 77);have ho10:=ho9.alloc (.cells #[.string (mkS (aD X)),.int .i64 (X.length:Int)] 77);have hb10:=hb9.alloc (o:=.cells #[.string (mkS (aD X)),.int .i64 (X.length:Int)] 77) (by omega)
    have hz10:((w8.alloc (.cells #[.string (mkS (aD X)),.int .i64 (X.length:Int)] 77)).alloc (.cells #[.string (mkS (aD X)),.int .i64 (X.length:Int)] 77)).heap.size=w8.heap.size+2:=by simp
    clear hA8 ho8 hb8 hb8' hA7 ho7 hb7 hA9 ho9 hb9;go_wp2_with (at_builtin;refine PY rfl _ _ rfl (z+1) _ (M.map lF) X rfl ho10 _ rfl hN ?_ ?_ ?_;(rw[bJ];omega);(omega);intro v11 w11 r1 r2 r3);have hg:=HG.out
    go_roundg (l.length-(k+1))
    case measure=>omega
    case rel=>
     refine⟨k+1,_,by omega,rfl,rfl,by go_num,?_,?_,hb10.trans (r2.mono (by omega)),?_⟩
     ·rw[N1.out,fI];have e:[((0:Nat):Int)].map lF=[X]:=by rw[HXX.out];rfl
      rw[e];exact r1
     ·rw[N2.out];exact hA10.below r2 (sG z)
     ·have:=r2.size;omega
   ·skip
    subst hi0;have hput:∀W,Calls Tryz.prog 44 #[.agg #[.string ⟨#[]⟩,.int .i64 0],.int .u64 2,.int .i64 2] W fun e w'=>e=.returned (.tuple #[.agg #[.string (mkS (aD X)),.int .i64 (X.length:Int)],.int .i64 0])/\Below W.heap.size W w':=fun W=>by
     have:=uH [] 2 2 W (by decide) (by decide) (by decide);rw[show([]:List Bool)++aY 2 2=X by rw[HXX.out];decide] at this;exact this
    clear hX;go_wp2_with fail;refine hfr.mono ?_;rintro e w7 ⟨rfl,hA7,hg7⟩;have ho7:gG w7 (z+1) u (M.map lF):=NH ho hg7 (iL ho (sG z));have hb7:=hbel.grown hg7 (by omega) (fun k hk=>by obtain rfl:=bW hk;exact aA _);have hs7:=hg7.size;clear hfr ho hg7 hbel;go_wp2_with fail;refine(hput _).mono ?_;rintro e w8 ⟨rfl,hb8⟩;have hA8:=hA7.below hb8 (by omega);have ho8:=ho7.below hb8 (aA _);have hb8':=hb7.trans (hb8.mono (by omega));have hs8:=hb8.size;have hA9:=hA8.alloc (.cells #[.string (mkS (aD X)),.int .i64 (X.length:Int)] 77)
    have ho9:=ho8.alloc (.cells #[.string (mkS (aD X)),.int .i64 (X.length:Int)] 77);have hb9:=hb8'.alloc (o:=.cells #[.string (mkS (aD X)),.int .i64 (X.length:Int)] 77) (by omega);have hz9:(w8.alloc (.cells #[.string (mkS (aD X)),.int .i64 (X.length:Int)] 77)).heap.size=w8.heap.size+1:=by simp
    have hN:=Arr.new (w8.alloc (.cells #[.string (mkS (aD X)),.int .i64 (X.length:Int)] 77)) 77 [.string (mkS (aD X)),.int .i64 (X.length:Int)];rw[hz9] at hN;have hA10:=hA9.alloc (.cells #[.string (mkS (aD X)),.int .i64 (X.length:Int)] 77);have ho10:=ho9.alloc (.cells #[.string (mkS (aD X)),.int .i64 (X.length:Int)] 77);have hb10:=hb9.alloc (o:=.cells #[.string (mkS (aD X)),.int .i64 (X.length:Int)] 77) (by omega)
    have hz10:((w8.alloc (.cells #[.string (mkS (aD X)),.int .i64 (X.length:Int)] 77)).alloc (.cells #[.string (mkS (aD X)),.int .i64 (X.length:Int)] 77)).heap.size=w8.heap.size+2:=by simp
    clear hA8 ho8 hb8 hb8' hA7 ho7 hb7 hA9 ho9 hb9;go_wp2_with (at_builtin;refine PY rfl _ _ rfl (z+1) _ (M.map lF) X rfl ho10 _ rfl hN ?_ ?_ ?_;(rw[bJ];omega);(omega);intro v11 w11 r1 r2 r3);have hg:=HG.out
    go_roundg (l.length-(k+1))
    case measure=>omega
    case rel=>
     refine⟨k+1,_,by omega,rfl,rfl,by go_num,?_,?_,hb10.trans (r2.mono (by omega)),?_⟩
     ·rw[N1.out,fI];have e:[((1:Nat):Int)].map lF=[X]:=by rw[HXX.out];rfl
      rw[e];exact r1
     ·rw[N2.out];exact hA10.below r2 (sG z)
     ·have:=r2.size;omega
  ·have u1:decide ((k:Int)<(l.length:Int))=false:=decide_eq_false (by omega);rw[cS (by rw[bJ];omega),HP6.out] at ho;have hsl:((dO l).map lF).flatten=dE (dO l):=aO8 _;have hsll:=wL (dO l) 2 (yW HX.out);rw[uU] at hsll;have hct:=CF u ((dO l).map lF) wr (gG.rd ho) (by rw[hsl];omega);rw[hsl] at hct;obtain⟨D,hD⟩:∃D,D=dE (dO l):=⟨_,rfl⟩;rw[<-hD] at hct;have HD:=hid hD;unfold eL at hct;have hB6:=hB5.below hbel (by omega);have hBL:=HBL.out.trans (hbel.mono (by omega));clear ho hsl hD;go_wp2_with fail
   refine hct.mono ?_;rintro e w6 ⟨rfl,hb6⟩;have hB7:=hB6.below hb6 (by omega);have hBL7:=hBL.trans (hb6.mono (by omega));have d0:=hB7.cell (i:=0) rfl;have d1:=hB7.cell (i:=1) rfl;have f0:=hB7.free 0;have f1:=hB7.free 1;clear hct hb6 hB6 hBL hbel;go_wp2_with fail;have z0:Arr ((w6.setCell ⟨w.heap.size+1,0,none⟩ (.string (mkS (aD D)))).setCell ⟨w.heap.size+1,1,none⟩ (.int .i64 (D.length:Int))) (w.heap.size+1) 77 [.string (mkS (aD D)),.int .i64 (D.length:Int)]:=(hB7.set 0 _).set 1 _
   refine bodyPost_ret (qH rfl _ _ (w.heap.size+1) _ _ (0,0) _ rfl z0 Tryz.underlying77 rfl mF) rfl ⟨by rw[<-HD.out];rfl,(hBL7.setCell (p:=⟨w.heap.size+1,0,none⟩) (pI _) _).setCell (p:=⟨w.heap.size+1,1,none⟩) (pI _) _⟩
theorem aPg (b n:Nat) (x:Int) (W:World) (hc:W.cell? ⟨b,0,none⟩=some (.int .i64 (n:Int))) (hx:0<=x/\x<(n:Int)):
  Calls Tryz.prog 131 #[.int .i64 x,.pointer (some ⟨b,0,none⟩)] W fun e w'=>e=.returned (.bool false)/\w'=W:=by
 have v1:decide (x<0)=false:=decide_eq_false (by omega);have v2:decide (x>=(n:Int))=false:=decide_eq_false (by omega);have v3:decide ((n:Int)<=x)=false:=decide_eq_false (by omega);go_enter Tryz.func131,Tryz.ntmps131;go_wp2_with fail;go_ret;exact⟨rfl,rfl⟩
theorem ZJ (v:Value) (l:List Int) (n:Nat) (w:World) (hr:RdI w v l) (hx:∀x∈l,0<=x/\x<(n:Int)):
  Calls Tryz.prog 98 #[v,.int .i64 (n:Int)] w fun e w'=>e=.returned (.bool false)/\Below w.heap.size w w':=by
 have hbox:=Arr.new w 3 [.int .i64 (n:Int)];have hb2:Below w.heap.size w (w.alloc (.cells #[.int .i64 (n:Int)] 3)):=bD (aB _ _) _;have hs1:(w.alloc (.cells #[.int .i64 (n:Int)] 3)).heap.size=w.heap.size+1:=by simp
 change Arr (w.alloc (.cells #[.int .i64 (n:Int)] 3)) _ _ _ at hbox;have hcf:=(uN 131 #[.pointer (some ⟨w.heap.size,0,none⟩)] (fun _=>false) v l _ (hr.below hb2) (fN Tryz.func131 (by kernel_rfl) rfl)
   (fun W' hW' x hxl=>aPg w.heap.size n x W' ((hbox.below hW' (by omega)).cell (i:=0) rfl) (hx x hxl))).mono (fun e w' h=>show e=.returned (.bool false)/\w'=_ from by
    have h1:=h.1;rw[oN (fun x _=>rfl)] at h1;exact⟨h1,h.2⟩)
 clear hr hbox hs1 hx;go_enter Tryz.func98,Tryz.ntmps98;go_wp2_with fail;refine hcf.mono ?_;rintro e w1 ⟨rfl,rfl⟩;go_wp2_with fail;go_ret;exact⟨rfl,hb2⟩
theorem aPh (x:Int) (W:World) (hx:0<=x/\x<=1048576):
  Calls Tryz.prog 149 #[.int .i64 x] W fun e w'=>e=.returned (.bool false)/\w'=W:=by
 have v1:decide (x<0)=false:=decide_eq_false (by omega);have v2:decide (x>1048576)=false:=decide_eq_false (by omega);have v3:decide (1048576<x)=false:=decide_eq_false (by omega);go_enter Tryz.func149,Tryz.ntmps149;go_wp2_with fail;go_ret;exact⟨rfl,rfl⟩
theorem aPi (v:Value) (l:List Int) (w:World) (hr:RdI w v l) (hx:∀x∈l,0<=x/\x<=1048576):
  Calls Tryz.prog 132 #[v] w fun e w'=>e=.returned (.bool true)/\w'=w:=by
 have hcf:=(uN 149 #[] (fun _=>false) v l w hr (fN Tryz.func149 (by kernel_rfl) rfl)
   (fun W' _ x hxl=>aPh x W' (hx x hxl))).mono (fun e w' h=>show e=.returned (.bool false)/\w'=_ from by
    have h1:=h.1;rw[oN (fun x _=>rfl)] at h1;exact⟨h1,h.2⟩)
 clear hr hx;go_enter Tryz.func132,Tryz.ntmps132;go_wp2_with fail;refine hcf.mono ?_;rintro e w1 ⟨rfl,rfl⟩;go_wp2_with fail;go_ret;exact⟨rfl,rfl⟩
theorem ZK (v u:Value) (l g:List Int) (w:World) (hr:RdI w v l) (hu:RdI w u g) (hE:bL l=0) (hg:∀x∈g,0<=x/\x<(l.length:Int)) (hgl:g.length<=1000):
  Calls Tryz.prog 100 #[v,u] w fun e w'=>e=.returned (.tuple #[.int .i64 (nI l g),.int .i64 0])/\Below w.heap.size w w':=by
 rw[TC hE hg];have hok:=(eH hE).1;have hck:=zS v l w hr;rw[hE] at hck;have HSB:=hid (fun k=>SG hok.2.2 (g.take k));have HX:=hid hg;have HL:=hid (fun(x:Int) (h:0<=x/\x<(l.length:Int))=>show l[x.toNat]? =some (l.getD x.toNat 0) by
  rw[aV,aN (show x.toNat<l.length by omega)];rfl)
 have hno:=fun W (h:RdI W u g)=>ZJ u g l.length W h hg
 have hl2:=hok.1;have HLB:=hid (fun(x:Int) (h:0<=x/\x<(l.length:Int))=>hok.2.2 (l.getD x.toNat 0) (cH (HL.out x h)));obtain⟨a,ca,rfl,hca,hma,hA⟩:=hr.open;unfold maxLen at hma;obtain⟨b,off,rfl,hb,hc⟩:=hA (by omega);obtain⟨a2,c2,rfl,hc2,hm2,hA2⟩:=hu.open;unfold maxLen at hm2;clear hr hA hok hg hE;go_enter Tryz.func100,Tryz.ntmps100;go_wp2_with fail;refine hck.mono ?_;rintro e w1 ⟨rfl,hb1⟩;have hu1:=hu.below hb1;clear hck;go_wp2_with fail;refine(hno _ hu1).mono ?_;rintro e w2 ⟨rfl,hb2⟩;have hbb:=hb1.trans (hb2.mono hb1.size)
 have HC:=hid (fun j x (hx:l[j]? =some x)=>((lP hbb).1 b (off+j) hb).trans (hc j x hx));have HC2:=hid (fun b2 o2 (h:b2<w.heap.size) (h2:∀j x,g[j]? =some x->w.cell? ⟨b2,o2+j,none⟩=some (.int .i64 x)) j x (hx:g[j]? =some x)=>((lP hbb).1 b2 (o2+j) h).trans (h2 j x hx));clear hno hu hu1 hc;go_wp2_with fail
 go_loopg [4,8,20] g.length (fun gg s4 _s8 s20 wr=>∃k:Nat,k<=g.length/\gg=g.length-k/\s20=.int .i64 (k:Int)/\s4=.int .i64 (lT l (g.take k))/\wr=w2)
 case atStart=>exact⟨0,aU _,rfl,rfl,rfl,rfl⟩
 case round=>
  obtain⟨k,hk,hg,rfl,rfl,rfl⟩:=hrel;have HG:=hid hg;clear hg;have hsb:=HSB.out k;rw[aX,Nat.min_eq_left hk] at hsb
  by_cases hlt:k<g.length
  ·have u1:decide ((k:Int)<(g.length:Int))=true:=decide_eq_true (by omega);obtain⟨b2,o2,rfl,hb2,hcc⟩:=hA2 (by omega);obtain⟨x,hx⟩:=dH hlt;have c1:=HC2.out b2 o2 hb2 hcc k x hx;have hxb:=HX.out x (cH hx);have hlx:=HL.out x hxb;have hlb:=HLB.out x hxb;have HT:=hid (TD (l:=l) hx);obtain⟨X,rfl⟩:∃X:Nat,x=(X:Int):=⟨x.toNat,by omega⟩;rw[Int.toNat_natCast] at hlx hlb HT;have c2:=HC.out X _ hlx;obtain⟨S,hS⟩:∃S,S=lT l (g.take k):=⟨_,rfl⟩;obtain⟨D,hD⟩:∃D,D=l.getD X 0:=⟨_,rfl⟩;rw[<-hS,<-hD] at HT;rw[<-hS] at hsb ⊢;rw[<-hD] at hlb c2
   have m1:aI.wrap (S+D)=S+D:=by rw[aM];omega
   have v1:(X:Int)<(l.length:Int):=hxb.2;have v2:X<l.length:=by omega
   clear hx hlx hcc hA2 hS hD hxb;go_wp2_with fail;have hg:=HG.out
   go_roundg (g.length-(k+1))
   case measure=>omega
   case rel=>exact⟨k+1,by omega,rfl,by go_num,by rw[HT.out],rfl⟩
  ·have u1:decide ((k:Int)<(g.length:Int))=false:=decide_eq_false (by omega);rw[cS (by omega)];go_wp2_with fail
   go_ret2
   exact⟨rfl,hbb⟩
theorem ZU (n:Int) (W:World):Calls Tryz.prog 65 #[.int .i64 n] W fun e w'=>e=.returned (.bool (decide (1<=n)&&decide (n<=360)))/\w'=W:=by
 by_cases h:1<=n
 ·have u1:decide (1<=n)=true:=decide_eq_true h;have u2:decide (n>=1)=true:=decide_eq_true h;rw[u1];go_enter Tryz.func65,Tryz.ntmps65;go_wp2_with fail;go_ret;exact⟨rfl,rfl⟩
 ·have u1:decide (1<=n)=false:=decide_eq_false h;have u2:decide (n>=1)=false:=decide_eq_false h;rw[u1];go_enter Tryz.func65,Tryz.ntmps65;go_wp2_with fail;go_ret;exact⟨rfl,rfl⟩
def oC (E:Int):List PanicEntry:=[{v:=.iface 241 (.agg #[.int .i64 E]),recovered:=false}]
theorem vC (E:Int) (W:World):Calls Tryz.prog 176 #[.int .i64 E] W fun e w'=>
  (E=0/\e=.returned (.tuple #[])/\w'=W)\/(E≠0/\e=.panicked (oC E)/\w'=W):=by
 by_cases h:E=0
 ·subst h;go_enter Tryz.func176,Tryz.ntmps176;go_wp2_with fail
  go_end0
  exact .inl ⟨trivial,rfl,rfl⟩
 ·have u1:(E != 0)=true:=by simpa using h
  go_enter Tryz.func176,Tryz.ntmps176;go_wp2_with fail;exact⟨rfl,.inr ⟨h,rfl,rfl⟩⟩
theorem pU (b:Bool) (E:Int) (W:World) (hE:E≠0):Calls Tryz.prog 159 #[.bool b,.int .i64 E] W fun e w'=>
  (b=true/\e=.returned (.tuple #[])/\w'=W)\/(b=false/\e=.panicked (oC E)/\w'=W):=by
 have hor:=(vC E W).mono (fun e w' h=>show e=.panicked (oC E)/\w'=W from by
  rcases h with h|h
  ·exact absurd h.1 hE
  ·exact h.2)
 cases b with
 |true=>
  go_enter Tryz.func159,Tryz.ntmps159;go_wp2_with fail
  go_end0
  exact .inl ⟨trivial,rfl,rfl⟩
 |false=>
  go_enter Tryz.func159,Tryz.ntmps159;go_wp2_with fail;refine hor.mono ?_;rintro e w' ⟨rfl,rfl⟩;go_wp2_with fail;exact⟨rfl,.inr ⟨trivial,rfl,rfl⟩⟩
def BRd (w:World) (b:Nat) (s:ByteArray) (a:Nat) (tb ch co:Value):Prop:=Arr w b 245 [.string s,.int .i64 (a:Int),tb,ch,co]
theorem zT (b:Nat) (s:ByteArray) (a k:Nat) (tb ch co:Value) (W:World) (hA:BRd W b s a tb ch co) (hs:s.size<=1000000) (hk:k<=48) (ha:a<=100000000):
  Calls Tryz.prog 170 #[.pointer (some ⟨b,0,none⟩),.int .i64 (k:Int)] W fun e w'=>
   (aO s.size (a:Int) k=0/\e=.returned (.int .i64 (aE s.data.toList (a:Int) k:Int))/\BRd w' b s (a+k) tb ch co/\W.grownBy w' (some b))\/(aO s.size (a:Int) k≠0/\e=.panicked (oC (aO s.size (a:Int) k))/\W.grownBy w' (some b)):=by
 have hget:=fun W=>sT s (a:Int) k W hs (by omega) (by omega) (by omega)
 have hVb:=iA s.data.toList (a:Int) k;have hVb2:aE s.data.toList (a:Int) k<281474976710656:=Nat.lt_of_lt_of_le hVb (aW (Nat.pow_le_pow_right (by decide) hk) (by decide));obtain⟨E,hE⟩:∃E,E=aO s.size (a:Int) k:=⟨_,rfl⟩;obtain⟨V,hV⟩:∃V,V=aE s.data.toList (a:Int) k:=⟨_,rfl⟩;rw[<-hE,<-hV];rw[<-hE,<-hV] at hget;rw[<-hV] at hVb2;have HE:=hid hE;clear hE hV hVb;have c0:=Arr.cell hA (i:=0) rfl;have c1:=Arr.cell hA (i:=1) rfl;have m1:aI.wrap (V:Int)=(V:Int):=by rw[aM];omega
 have m2:aI.wrap ((a:Int)+(k:Int))=(a:Int)+(k:Int):=by rw[aM];omega
 have hor:=fun W=>vC E W
 go_enter Tryz.func170,Tryz.ntmps170;go_wp2_with fail
 go_quiet (first|(go_at_call 25;exact Calls.quiet_of_same (hget _)))
 generalize hWn:W.drewN nq=W1 at*
 have hA1:BRd W1 b s a tb ch co:=by rw[<-hWn];exact hA
 have hg1:W.grownBy W1 (some b):=by rw[<-hWn];exact⟨rfl,rfl,rfl,aA _,fun _ _ _=>rfl⟩
 have d1:=Arr.cell hA1 (i:=1) rfl;have g1:=Arr.free hA1 1;clear hWn;go_wp2_with fail;refine(hor _).mono ?_;rintro e w2 (⟨rfl,rfl,rfl⟩|⟨h0,rfl,rfl⟩)
 ·go_wp2_with fail;go_ret;exact⟨rfl,by have:=Arr.set hA1 1 (.int .i64 ((a:Int)+(k:Int)));unfold BRd;push_cast;exact this,gbT hg1 (gbS _ _ _ _)⟩
 ·go_wp2_with fail;exact⟨rfl,.inr ⟨h0,rfl,hg1⟩⟩
theorem ES (b:Nat) (s:ByteArray) (a:Nat) (q E:Int) (tb ch co:Value) (W:World) (hA:BRd W b s a tb ch co):
  Calls Tryz.prog 172 #[.pointer (some ⟨b,0,none⟩),.int .i64 q,.int .i64 E] W fun e w'=>
   (E=0/\e=.returned (.tuple #[])/\Arr w' b 245 [.string s,.int .i64 q,tb,ch,co]/\W.grownBy w' (some b))\/(E≠0/\e=.panicked (oC E)/\w'=W):=by
 have d1:=Arr.cell hA (i:=1) rfl;have g1:=Arr.free hA 1;have hor:=vC E W;go_enter Tryz.func172,Tryz.ntmps172;go_wp2_with fail;refine hor.mono ?_;rintro e w2 (⟨rfl,rfl,rfl⟩|⟨h0,rfl,rfl⟩)
 ·go_wp2_with fail
  go_end0
  exact⟨rfl,Arr.set hA 1 _,gbS _ _ _ _⟩
 ·go_wp2_with fail;exact⟨rfl,.inr ⟨h0,rfl,rfl⟩⟩
theorem aAi {w:World} (ty:TypeId) (base:Nat) (v:Value) (ls:List (List Bool)) (l:List Bool) (hown:gG w base v ls) (g:Nat) (hc:Arr w g 77 (kH l)) (hroom:(ls.length+1)*24<=140737488355328) (hbase:base<=w.heap.size):
  ∃v' w',(tT #[78,78] ty #[v,.slice (some ⟨g,0,none⟩) 1 1]).run Tryz.prog w=.ok v' w'/\gG w' base v' (ls++[l])/\Below base w w'/\w.grownBy w' v.ownBlock:=by
 obtain⟨i,hi,hz,h2,h3⟩:=info_parts JB;obtain⟨v',w',q1,q2,q3,_⟩:=run_append_own (P:=Tryz.prog) w base 78 ty 77 i _ 2 24 Tryz.underlying78 hi hz h2 h3 rfl (by decide) v ls.length (ls.flatMap kH) hown ⟨g,0,none⟩ 1 1 (kH l) rfl (fun j u' hj=>by
  rw[show(⟨g,0,none⟩:Addr).add j=⟨g,j,none⟩ by unfold Addr.add;split<;>simp_all];exact hc.cell hj) (fun u' hu=>by
  unfold kH at hu;rcases List.mem_cons.1 hu with rfl|hu
  ·rfl
  ·obtain rfl:=dC.1 hu;rfl) (by simp only[maxLen];omega) hroom hbase
 refine⟨v',w',q1,?_,rC hown q3 hbase,q3⟩;unfold gG;rw[aL,List.flatMap_append,List.flatMap_singleton];exact q2
theorem xC {P:Program} {ops:Array Oper} {o:Oper} {a:Act} {w:World} {K:Act->World->Prop} {Q:Exit->Act->World->Prop} {E:Prop} (hg:o.guard=none) (s x:Operand) (t:TypeId)
  (ho:o.op=.call {callee:=.builtin .append,args:=#[s,x],argTypes:=#[t,t]}) (v u v':Value) (w':World) (hs:a.eval s=v) (hx:a.eval x=u)
  (hr:(tT #[t,t] o.type #[v,u]).run P w=.ok v' w') (h:K (a.put o.dst v') w'):if nR o (yielded ops a.tmps)=true then lX P o a w K Q else E:=by
 have hw:nR o (yielded ops a.tmps)=true:=by simp[nR,hg]
 rw[if_pos hw];unfold lX execOp;simp only[ho,resolve,invoke,builtin,Sem.run_bind,Sem.run_pure,Result.andThen_ok,List.map_toArray,List.map_cons,List.map_nil,hs,hx,hr];exact h
def WrL (w:World) (p B:Nat) (ls:List (List Bool)):Prop:=∃v,Arr w p 127 [v]/\gG w B v ls
def KT (e p:Nat) (w w':World):Prop:=w.heap.size<=w'.heap.size/\∀k o,w.heap[k]? =some o->k≠p->(∀c fz,o≠.cells c e fz)->w'.heap[k]? =some o
theorem KT.trans {e p:Nat} {a b c:World} (h:KT e p a b) (k:KT e p b c):KT e p a c:=⟨aW h.1 k.1,fun i o hi hne ht=>k.2 i o (h.2 i o hi hne ht) hne ht⟩
theorem KT.below {e p:Nat} {w w':World} (h:Below w.heap.size w w'):KT e p w w':=⟨h.size,fun k _ hk _ _=>(h.block k (gQ.1 hk).1).trans hk⟩
theorem KT.app {e p B z n:Nat} {w w':World} {v:Value} {xs:List Value} (ho:w.ownsRow B e z v n xs) (h:w.grownBy w' v.ownBlock):KT e p w w':=⟨h.size,fun k o hk _ ht=>by
 refine(h.block k (gQ.1 hk).1 (fun e=>?_)).trans hk;rcases ho.2 with⟨rfl,_⟩|⟨g,cap,cur,rfl,_,hg,_⟩
 ·cases e
 ·obtain rfl:=bW e;rw[hk] at hg;exact ht _ _ (bW hg)⟩
theorem KT.box {e p i:Nat} {w:World} (v:Value):KT e p w (w.setCell ⟨p,i,none⟩ v):=⟨by simp,fun k o hk hne _=>by rw[kT w ⟨p,i,none⟩ k v hne];exact hk⟩
theorem KT.ow {e p B e':Nat} {w w':World} {v:Value} {xs:List Value} (h:KT e p w w') (ho:Ow w B e' v xs) (hp:p<B) (he:e'≠e):Ow w' B e' v xs:=by
 refine⟨ho.1,?_⟩;rcases ho.2 with hn|⟨g,cap,cur,e1,hb,hg,rest⟩
 ·exact .inl hn
 ·exact .inr ⟨g,cap,cur,e1,hb,h.2 g _ hg (by omega) (fun c fz q=>by injection q with _ q2;exact he q2),rest⟩
theorem xF (p B:Nat) (ls:List (List Bool)) (l:List Bool) (E:Int) (w:World) (h:WrL w p B ls) (hp:p<B) (hB:B<=w.heap.size) (hl:ls.length<=1000000):
  Calls Tryz.prog 71 #[.pointer (some ⟨p,0,none⟩),.agg #[.string (mkS (aD l)),.int .i64 (l.length:Int)],.int .i64 E] w fun e w'=>e=.returned (.tuple #[])/\WrL w' p B (ls++[l])/\Below p w w'/\KT 77 p w w':=by
 obtain⟨v,hA,hown⟩:=h;obtain⟨S,hS⟩:∃S,S=mkS (aD l):=⟨_,rfl⟩;obtain⟨L,hL⟩:∃L,L=(l.length:Int):=⟨_,rfl⟩;rw[<-hS,<-hL];have hcs:kH l=[.string S,.int .i64 L]:=by rw[hS,hL];rfl
 have hBx:=Arr.new w 77 [.string S,.int .i64 L];have hA1:Arr (w.alloc (.cells #[.string S,.int .i64 L] 77)).drew p 127 [v]:=hA.alloc _;have ho1:gG (w.alloc (.cells #[.string S,.int .i64 L] 77)).drew B v ls:=hown.alloc _;have hs1:(w.alloc (.cells #[.string S,.int .i64 L] 77)).drew.heap.size=w.heap.size+1:=by simp
 have hB1:Below p w (w.alloc (.cells #[.string S,.int .i64 L] 77)).drew:=((aB p w).alloc (by omega) _).drew;have hnew:Arr ((w.alloc (.cells #[.string S,.int .i64 L] 77)).drew.alloc (.cells #[.string S,.int .i64 L] 77)) (w.heap.size+1) 77 (kH l):=by
  rw[hcs,<-hs1];exact Arr.new _ _ _
 have hA2:=hA1.alloc (.cells #[.string S,.int .i64 L] 77);obtain⟨v3,w3,hr,ho3,hb3,hg3⟩:=aAi (w:=(w.alloc (.cells #[.string S,.int .i64 L] 77)).drew.alloc (.cells #[.string S,.int .i64 L] 77)) 78 B v ls l (ho1.alloc _) (w.heap.size+1) hnew (by omega) (by rw[fV,hs1];omega);have hA3:=hA2.below hb3 hp;have hK3:KT 77 p w w3:=(KT.below (((bD (aB _ w) (.cells #[.string S,.int .i64 L] 77)).drew.alloc (by rw[hs1];omega) (.cells #[.string S,.int .i64 L] 77)))).trans (KT.app (ho1.alloc _) hg3);have hB3:Below p w w3:=(hB1.alloc (by omega) _).trans (hb3.mono (by omega))
 obtain⟨a3,c3,e3,-⟩:=ho3.rd;obtain⟨n3,hn3⟩:∃n,n=(ls++[l]).length:=⟨_,rfl⟩;rw[<-hn3] at e3;subst e3;obtain⟨a,c,e1,-⟩:=hown.rd;obtain⟨n,hn⟩:∃n,n=ls.length:=⟨_,rfl⟩;rw[<-hn] at e1;subst e1;have hr2:(tT #[78,78] 78 #[.slice a n c,.slice (some ⟨w.heap.size+1,0,none⟩) 1 1]).run Tryz.prog ((w.alloc (.cells #[.string S,.int .i64 L] 77)).alloc (.cells #[.string S,.int .i64 L] 77)).drew=.ok (.slice a3 n3 c3) w3:=hr;have c0:=hA.cell (i:=0) rfl;have c1:=hA1.cell (i:=0) rfl;have c2:=hA2.cell (i:=0) rfl
 have ca:(w.alloc (.cells #[.string S,.int .i64 L] 77)).cell? ⟨p,0,none⟩=some (.slice a n c):=c1;have cb:((w.alloc (.cells #[.string S,.int .i64 L] 77)).alloc (.cells #[.string S,.int .i64 L] 77)).cell? ⟨p,0,none⟩=some (.slice a n c):=c2;have c3':=hA3.cell (i:=0) rfl;have f3:=hA3.free 0;have b0:=hBx.cell (i:=0) rfl;have b1:=hBx.cell (i:=1) rfl;have HO:=hid (aCj ho3 (a:=⟨p,0,none⟩) hp (.slice a3 n3 c3));have HA:=hid (hA3.set 0 (.slice a3 n3 c3));have HB:=hid (hB3.setCell (p:=⟨p,0,none⟩) (aA _) (.slice a3 n3 c3))
 have HK:=hid (hK3.trans (KT.box (i:=0) (.slice a3 n3 c3)));clear hn3 hn hcs hK3 hg3 ho3 ho1 hb3 hB3 hB1 hnew hA3 hA2 hA1 hA hown hBx hl hS hL;go_enter Tryz.func71,Tryz.ntmps71;go_wp2_with fail
 go_region_law (refine xC rfl (.tmp 10) (.tmp 12) 78 rfl (.slice a n c) (.slice (some ⟨w.heap.size+1,0,none⟩) 1 1) (.slice a3 n3 c3) w3 (by simp[qC]) (by simp[qC]) hr2 ?_)
 all_goals
  go_wp2_with fail
  go_end0
  exact⟨rfl,⟨_,HA.out,HO.out⟩,HB.out,HK.out⟩
theorem aQp (s:ByteArray) (p:Int) (w:World) (hs:s.size<=1000000) (hp1: -9223372036854775808<=p) (hp2:p<=9223372036854775807):
  Calls Tryz.prog 171 #[.string s,.int .i64 p] w fun e w'=>e=.returned (.tuple #[.string (mkS (cG s.data.toList p).1),.int .i64 (cG s.data.toList p).2.1,.int .i64 (cG s.data.toList p).2.2])/\Below w.heap.size w w':=by
 have hL:s.data.toList.length=s.size:=by simp
 have hz:=VR s.data.toList p;have hget:=fun W=>sT s p 16 W hs (by decide) hp1 hp2
 have hlt16:=iA s.data.toList p 16;rw[hL] at hz;obtain⟨E0,hE0⟩:∃E,E=aO s.size p 16:=⟨_,rfl⟩;obtain⟨F,hF⟩:∃F,F=aE s.data.toList p 16:=⟨_,rfl⟩;rw[<-hF,<-hE0] at hz hget;rw[<-hF] at hlt16;have hF64:F<18446744073709551616:=by omega
 have hpb:E0=0->0<=p/\p<=8000000:=fun h=>by
  have:=fQ (n:=s.size) (at':=p) (k:=16) (by rw[<-hE0];exact h);omega
 obtain⟨T0,hT0⟩:∃T0:Bool,T0=(F==0):=⟨_,rfl⟩;have t0:((F:Int)==0)=T0:=by
  rw[hT0]
  by_cases h:F=0
  ·rw[h];rfl
  ·rw[beq_eq_false_iff_ne.2 h,beq_eq_false_iff_ne];omega
 obtain⟨P16,hP16⟩:∃q:Int,q=aI.wrap (p+16):=⟨_,rfl⟩;have hPw:E0=0->P16=p+16:=fun h=>by
  have:=hpb h;rw[hP16,aM];omega
 have HF:=hid hF;have HL:=hid hL;have HST:=hid (show(E0=0/\cJ s.data.toList p 0=([],P16,T0||false,0))\/(E0≠0/\(cJ s.data.toList p 0).2.2.2=E0) by
  by_cases h:E0=0
  ·left;exact⟨h,by rw[hz,hPw h,<-hT0,h,xK]⟩
  ·right;exact⟨h,by rw[hz]⟩)
 have HPB:=hid hpb;have m0:=hP16.symm;clear hF hz hL hT0 hPw hpb hP16 hE0;go_enter Tryz.func171,Tryz.ntmps171;go_wp2_with fail;refine(hget _).mono ?_;rintro e w1 ⟨rfl,rfl⟩;go_wp2_with fail
 go_loopg [1,6,7,8,10] 16 (fun g s1 s6 s7 s8 s10 wr=>∃(k:Nat) (o:List UInt8) (nx:Int) (emp:Bool) (E:Int),k<=16/\g=16-k/\s10=.int .i64 (k:Int)/\s1=.int .i64 nx/\s8=.bool emp/\s6=.int .i64 E/\Hid ((E=0/\cJ s.data.toList p k=(o,nx,T0||emp,0))\/(E≠0/\(cJ s.data.toList p k).2.2.2=E))/\o.length<=16*k/\OwB wr w1.heap.size s7 o/\Below w1.heap.size w1 wr)
 case atStart=>exact⟨0,[],P16,false,E0,by omega,rfl,rfl,rfl,rfl,rfl,HST,by simp,Ow.nil _ _ _,aB _ _⟩
 case round=>
  obtain⟨k,o,nx,emp,E,hk,hg,rfl,rfl,rfl,rfl,HU,hol,hown,hbel⟩:=hrel;have HG:=hid hg;clear hg m0;have hbs:=hbel.size
  by_cases hE:E=0
  rotate_left
  ·have t2:(E==0)=false:=by rw[beq_eq_false_iff_ne];exact hE
   have t3:(E != 0)=true:=by rw[bne_iff_ne];exact hE
   have hU:cG s.data.toList p=([],0,E):=by
    rcases HU.out with⟨h,_⟩|⟨_,h⟩
    ·exact absurd h hE
    ·exact LH hE hk h
   have HUU:=hid hU;clear hU hE
   by_cases hlt:k<16
   ·have t1:decide ((k:Int)<16)=true:=decide_eq_true (by omega);go_wp2_with fail
    go_ret3
    exact⟨by rw[HUU.out];rfl,hbel⟩
   ·have t1:decide ((k:Int)<16)=false:=decide_eq_false (by omega);go_wp2_with fail
    go_ret3
    exact⟨by rw[HUU.out];rfl,hbel⟩
  ·subst hE;have hU:cJ s.data.toList p k=(o,nx,T0||emp,0):=by
    rcases HU.out with⟨_,h⟩|⟨h,_⟩
    ·exact h
    ·exact absurd rfl h
   have hp0:0<=p/\p<=8000000:=by
    apply HPB.out
    by_cases h:E0=0
    ·exact h
    ·have h0:(cJ s.data.toList p 0).2.2.2=E0:=by
      rcases HST.out with⟨h1,_⟩|⟨_,h1⟩
      ·exact absurd h1 h
      ·exact h1
     have h2:=uY (s:=s.data.toList) (at':=p) (k:=0) (by rw[h0];exact h) k;rw[iZ] at h2;rw[h2] at hU;rw[hU] at h0;exact h0.symm
   have hbd:=yE s.data.toList p k;rw[hU] at hbd;have hnx:=hbd.2 rfl;simp only at hnx;clear hbd
   by_cases hlt:k<16
   ·have t1:decide ((k:Int)<16)=true:=decide_eq_true (by omega);obtain⟨q,hq⟩:∃q,q=15-k:=⟨_,rfl⟩;have m1:aI.wrap (15-(k:Int))=(q:Int):=by rw[aM];omega
    have m1':(15:Int)-(k:Int)=(q:Int):=by omega
    have m2:min q 64=q:=by omega
    have e4:=IY F q hF64;obtain⟨b,hb⟩:∃b,b=F.testBit q:=⟨_,rfl⟩;rw[<-hb] at e4;have HB:=hid (show(aE s.data.toList p 16).testBit (15-k)=b by rw[<-HF.out,<-hq,hb]);clear hq hb
    cases b with
    |false=>
     have HS:=hid (VS hU HB.out);have e5:((false.toNat:Nat):Int)=0:=rfl;rw[e5] at e4;clear hU;go_wp2_with fail;have hg:=HG.out
     go_roundg (16-(k+1))
     case measure=>omega
     case rel=>exact⟨k+1,o,nx,emp,0,by omega,rfl,by go_num,rfl,rfl,rfl,hid (.inl ⟨rfl,HS.out⟩),by omega,hown,hbel⟩
    |true=>
     have e5:((true.toNat:Nat):Int)=1:=rfl;rw[e5] at e4;have hget2:=fun W=>sT s nx 16 W hs (by decide) (by omega) (by omega)
     have hV:=iA s.data.toList nx 16;have hrl:=CE (aE s.data.toList nx 16) k;obtain⟨nx2,hnx2⟩:∃q:Int,q=nx+16:=⟨_,rfl⟩;have m3:aI.wrap (nx+16)=nx2:=by rw[aM];omega
     have hST:(aO s.size nx 16=0/\cJ s.data.toList p (k+1)=(o++jS (aE s.data.toList nx 16) k 16,nx2,T0||(emp||aE s.data.toList nx 16==0),0))\/(aO s.size nx 16≠0/\(cJ s.data.toList p (k+1)).2.2.2=aO s.size nx 16):=by
      by_cases h:aO s.size nx 16=0
      ·left
       have:=VU hU HB.out (by rw[HL.out];exact h);rw[Bool.or_assoc] at this;exact⟨h,by rw[this,hnx2]⟩
      ·right
       have:=VT hU HB.out (by rw[HL.out];exact h);rw[HL.out] at this;exact⟨h,this⟩
     obtain⟨V,hVV⟩:∃V,V=aE s.data.toList nx 16:=⟨_,rfl⟩;obtain⟨E2,hE2⟩:∃E,E=aO s.size nx 16:=⟨_,rfl⟩;rw[<-hVV,<-hE2] at hget2 hST;rw[<-hVV] at hV hrl;have hV64:V<18446744073709551616:=by omega
     obtain⟨T1,hT1⟩:∃T1:Bool,T1=(V==0):=⟨_,rfl⟩;have u1:((V:Int)==0)=T1:=by
      rw[hT1]
      by_cases h:V=0
      ·rw[h];rfl
      ·rw[beq_eq_false_iff_ne.2 h,beq_eq_false_iff_ne];omega
     rw[<-hT1] at hST;have HST2:=hid hST;obtain⟨kk,hkk⟩:∃kk,kk=16*k:=⟨_,rfl⟩;have m4:aI.wrap ((k:Int)*16)=(kk:Int):=by rw[aM];omega
     have m5:(k:Int)*16=(kk:Int):=by omega
     have HKK:=hid hkk;have hkk240:kk<=240:=by omega
     have HRL:=hid hrl;clear hkk hT1 hnx2 hVV hrl hST hU hE2;go_wp2_with fail;refine(hget2 _).mono ?_;rintro e w2 ⟨rfl,rfl⟩;go_upto_region 12 with fail
     go_cut [8] (fun c8 wx=>c8=.bool (emp||T1)/\wx=w2)
     case first=>
      cases emp with
      |true=>go_wp2_with fail;go_meet;exact⟨rfl,rfl⟩
      |false=>go_wp2_with fail;go_meet;exact⟨rfl,rfl⟩
     case rest=>
      obtain⟨rfl,rfl⟩:=hcut;go_wp2_with fail
      go_loopg [7,48] 16 (fun g s7 s48 wx=>∃i:Nat,i<=16/\g=16-i/\s48=.int .i64 (i:Int)/\OwB wx w1.heap.size s7 (o++jS V k i)/\Below w1.heap.size w1 wx)
      case atStart=>exact⟨0,by omega,rfl,rfl,by rw[show jS V k 0=[] from rfl,eE];exact hown,hbel⟩
      case round=>
       obtain⟨i,hi,hg,rfl,hown2,hbel2⟩:=hrel;have HG2:=hid hg;clear hg e4
       by_cases hil:i<16
       ·have u2:decide ((i:Int)<16)=true:=decide_eq_true (by omega);obtain⟨q2,hq2⟩:∃q,q=15-i:=⟨_,rfl⟩;have m6:aI.wrap (15-(i:Int))=(q2:Int):=by rw[aM];omega
        have m6':(15:Int)-(i:Int)=(q2:Int):=by omega
        have m7:min q2 64=q2:=by omega
        have e6:=IY V q2 hV64;have HRS:=hid (VX V k i);rw[<-hq2] at HRS;have hlen:=HRL.out i
        cases hb2:V.testBit q2 with
        |false=>
         rw[hb2,show((false.toNat:Nat):Int)=0 from rfl] at e6;rw[hb2] at HRS;clear hb2 hq2;go_wp2_with fail;have hg:=HG2.out
         go_roundg (16-(i+1))
         case measure=>omega
         case rel=>exact⟨i+1,by omega,rfl,by go_num,by rw[HRS.out,if_neg (by decide),eE];exact hown2,hbel2⟩
        |true=>
         rw[hb2,show((true.toNat:Nat):Int)=1 from rfl] at e6;rw[hb2] at HRS;obtain⟨c,hc⟩:∃c:Nat,c=kk+i:=⟨_,rfl⟩;have m8:aI.wrap ((kk:Int)+(i:Int))=(c:Int):=by rw[aM];omega
         have m8':(kk:Int)+(i:Int)=(c:Int):=by omega
         obtain⟨b,hb⟩:∃b:UInt8,b=eK c:=⟨_,rfl⟩;have hbt:b.toNat=c:=by rw[hb,UInt8.toNat_ofNat'];omega
         have m9:IntKind.u8.wrap (c:Int)=(b.toNat:Int):=by rw[hbt,IntKind.wrap_u8];omega
         have m9':(c:Int)%256=(b.toNat:Int):=by rw[hbt];omega
         have HBB:=hid (show eK (16*k+i)=b by rw[hb,hc,HKK.out]);have hsz2:=hbel2.size;clear hb2 hq2 hc hb hbt;go_wp2_with (at_builtin;refine yZ rfl _ _ rfl w1.heap.size _ _ rfl (Ow.alloc hown2 _) wr.heap.size b rfl ?_ ?_ ?_ ?_;(exact bS _ _ _);(rw[aL];omega);(simp;omega);intro v' w3 hown' hB hgrow);have hg:=HG2.out
         go_roundg (16-(i+1))
         case measure=>omega
         case rel=>exact⟨i+1,by omega,rfl,by go_num,by rw[HRS.out,if_pos trivial,HBB.out,<-List.append_assoc];exact hown',(hbel2.alloc hsz2 _).trans hB⟩
       ·have u2:decide ((i:Int)<16)=false:=decide_eq_false (by omega);have hie:i=16:=by omega
        subst hie;have hr16:=HRL.out 16;go_wp2_with fail;have hg:=HG.out
        go_roundg (16-(k+1))
        case measure=>omega
        case rel=>exact⟨k+1,_,nx2,emp||T1,E2,by omega,rfl,by go_num,rfl,rfl,rfl,HST2,by rw[aL];omega,hown2,hbel2⟩
   ·have t1:decide ((k:Int)<16)=false:=decide_eq_false (by omega);have hke:k=16:=by omega
    subst hke;have hfin:=VW hU
    cases emp with
    |true=>
     rw[Bool.or_true,if_pos rfl] at hfin;have HFN:=hid hfin;clear hfin hU;go_wp2_with fail
     go_ret3
     exact⟨by rw[HFN.out];rfl,hbel⟩
    |false=>
     cases T0 with
     |true=>
      rw[xK,if_pos rfl] at hfin;have HFN:=hid hfin;clear hfin hU;go_wp2_with fail
      go_ret3
      exact⟨by rw[HFN.out];rfl,hbel⟩
     |false=>
      rw[xK,if_neg (by decide)] at hfin;have HFN:=hid hfin;clear hfin hU;obtain⟨a,n,c,rfl,HN,hc1,hc2⟩:=hown.openN;have hcv:(convert 75 9 (.slice a n c)).run Tryz.prog wr=.ok (.string (mkS o)) wr:=lQ hown.rd;go_wp2_with fail
      go_ret3
      exact⟨by rw[HFN.out];rfl,hbel⟩
theorem aQ9 (p B:Nat) (ls:List (List Bool)) (l:List Bool) (w:World) (h:WrL w p B ls) (hp:p<B) (hB:B<=w.heap.size) (hl:ls.length<=1000000) (S:ByteArray) (hS:S=mkS (aD l)) (L:Int) (hL:L=(l.length:Int)):
  ∃(a:Option Addr) (n c:Nat) (a3:Option Addr) (n3 c3:Nat) (w3:World),
   (tT #[78,78] 78 #[.slice a n c,.slice (some ⟨w.heap.size+1,0,none⟩) 1 1]).run Tryz.prog ((w.alloc (.cells #[.string S,.int .i64 L] 77)).alloc (.cells #[.string S,.int .i64 L] 77)).drew=.ok (.slice a3 n3 c3) w3/\
   w.cell? ⟨p,0,none⟩=some (.slice a n c)/\(w.alloc (.cells #[.string S,.int .i64 L] 77)).cell? ⟨p,0,none⟩=some (.slice a n c)/\
   ((w.alloc (.cells #[.string S,.int .i64 L] 77)).alloc (.cells #[.string S,.int .i64 L] 77)).cell? ⟨p,0,none⟩=some (.slice a n c)/\
   w3.cell? ⟨p,0,none⟩=some (.slice a n c)/\w3.frozen? ⟨p,0,none⟩=false/\
   WrL (w3.setCell ⟨p,0,none⟩ (.slice a3 n3 c3)) p B (ls++[l])/\Below p w (w3.setCell ⟨p,0,none⟩ (.slice a3 n3 c3)):=by
 obtain⟨v,hA,hown⟩:=h;have hcs:kH l=[.string S,.int .i64 L]:=by rw[hS,hL];rfl
 have hA1:Arr (w.alloc (.cells #[.string S,.int .i64 L] 77)).drew p 127 [v]:=hA.alloc _;have ho1:gG (w.alloc (.cells #[.string S,.int .i64 L] 77)).drew B v ls:=hown.alloc _;have hs1:(w.alloc (.cells #[.string S,.int .i64 L] 77)).drew.heap.size=w.heap.size+1:=by simp
 have hB1:Below p w (w.alloc (.cells #[.string S,.int .i64 L] 77)).drew:=((aB p w).alloc (by omega) _).drew;have hnew:Arr ((w.alloc (.cells #[.string S,.int .i64 L] 77)).drew.alloc (.cells #[.string S,.int .i64 L] 77)) (w.heap.size+1) 77 (kH l):=by
  rw[hcs,<-hs1];exact Arr.new _ _ _
 have hA2:=hA1.alloc (.cells #[.string S,.int .i64 L] 77);obtain⟨v3,w3,hr,ho3,hb3,-⟩:=aAi (w:=(w.alloc (.cells #[.string S,.int .i64 L] 77)).drew.alloc (.cells #[.string S,.int .i64 L] 77)) 78 B v ls l (ho1.alloc _) (w.heap.size+1) hnew (by omega) (by rw[fV,hs1];omega);have hA3:=hA2.below hb3 hp;have hB3:Below p w w3:=(hB1.alloc (by omega) _).trans (hb3.mono (by omega));obtain⟨a3,c3,rfl,-⟩:=ho3.rd;obtain⟨a,c,rfl,-⟩:=hown.rd
 exact⟨a,_,c,a3,_,c3,w3,hr,hA.cell (i:=0) rfl,hA1.cell (i:=0) rfl,hA2.cell (i:=0) rfl,hA3.cell (i:=0) rfl,hA3.free 0,⟨_,hA3.set 0 _,aCj ho3 (a:=⟨p,0,none⟩) hp _⟩,hB3.setCell (p:=⟨p,0,none⟩) (aA _) _⟩
theorem zW (p B:Nat) (ls:List (List Bool)) (v n:Nat) (w:World) (h:WrL w p B ls) (hp:p<B) (hB:B<=w.heap.size) (hl:ls.length<=1000000) (hv:v<18446744073709551616) (hn:n<=64):
  Calls Tryz.prog 70 #[.pointer (some ⟨p,0,none⟩),.int .u64 (v:Int),.int .i64 (n:Int)] w fun e w'=>e=.returned (.tuple #[])/\WrL w' p B (ls++[aY v n])/\Below p w w':=by
 obtain⟨l,hl'⟩:∃l,l=aY v n:=⟨_,rfl⟩;rw[<-hl'];obtain⟨S,hS⟩:∃S,S=mkS (aD l):=⟨_,rfl⟩;obtain⟨L,hL⟩:∃L,L=(l.length:Int):=⟨_,rfl⟩;have hput:∀W,Calls Tryz.prog 44 #[.agg #[.string ⟨#[]⟩,.int .i64 0],.int .u64 (v:Int),.int .i64 (n:Int)] W fun e w'=>e=.returned (.tuple #[.agg #[.string S,.int .i64 L],.int .i64 0])/\Below W.heap.size W w':=fun W=>by
  have:=uH [] v n W hv hn (by simp);rw[List.nil_append,<-hl'] at this;rw[hS,hL];exact this
 have hH:∀W,Below w.heap.size w W->WrL W p B ls/\B<=W.heap.size:=fun W hb=>by
  obtain⟨u,h1,h2⟩:=h;exact⟨⟨u,h1.below hb (by omega),h2.below hb (aA _)⟩,by have:=hb.size;omega⟩
 have HF:=fun W (hb:Below w.heap.size w W)=>aQ9 p B ls l W (hH W hb).1 hp (hH W hb).2 hl S hS L hL
 have hpw:p<w.heap.size:=by omega
 clear hH h hS hL hl' hl hB;go_enter Tryz.func70,Tryz.ntmps70;go_wp2_with fail;refine(hput _).mono ?_;rintro e w1 ⟨rfl,hb1⟩;obtain⟨a,n1,c,a3,n3,c3,w3,hr2,c0,ca,cb,c3',f3,HO,HB⟩:=HF w1 hb1;have HBB:=hid ((hb1.mono (Nat.le_of_lt hpw)).trans HB);have HOO:=hid HO;have b0:=(Arr.new w1 77 [.string S,.int .i64 L]).cell (i:=0) rfl;have b1:=(Arr.new w1 77 [.string S,.int .i64 L]).cell (i:=1) rfl;clear HF hput HB HO;go_wp2_with fail
 go_region_law (refine xC rfl (.tmp 19) (.tmp 21) 78 rfl (.slice a n1 c) (.slice (some ⟨w1.heap.size+1,0,none⟩) 1 1) (.slice a3 n3 c3) w3 (by simp[qC]) (by simp[qC]) hr2 ?_)
 all_goals
  go_wp2_with fail
  go_end0
  exact⟨rfl,HOO.out,HBB.out⟩
theorem aA2 (a1 a2 b1 b2:Int) (W:World):
  Calls Tryz.prog 150 #[.agg #[.int .i64 a1,.int .i64 a2],.agg #[.int .i64 b1,.int .i64 b2]] W fun e w'=>e=.returned (.bool (decide (ahd (a1,a2) (b1,b2))))/\Below W.heap.size W w':=by
 have hX:=(Arr.new W 229 [.int .i64 a1,.int .i64 a2]).alloc (.cells #[.int .i64 b1,.int .i64 b2] 229);have hY:Arr ((W.alloc (.cells #[.int .i64 a1,.int .i64 a2] 229)).alloc (.cells #[.int .i64 b1,.int .i64 b2] 229)) (W.heap.size+1) 229 [.int .i64 b1,.int .i64 b2]:=by
  rw[show W.heap.size+1=(W.alloc (.cells #[.int .i64 a1,.int .i64 a2] 229)).heap.size by simp];exact Arr.new _ _ _
 change Arr ((W.alloc (.cells #[.int .i64 a1,.int .i64 a2] 229)).alloc (.cells #[.int .i64 b1,.int .i64 b2] 229)) _ _ _ at hX;have x0:=hX.cell (i:=0) rfl;have x1:=hX.cell (i:=1) rfl;have y0:=hY.cell (i:=0) rfl;have y1:=hY.cell (i:=1) rfl;have HB:=hid (bD (bD (aB W.heap.size W) (.cells #[.int .i64 a1,.int .i64 a2] 229)) (.cells #[.int .i64 b1,.int .i64 b2] 229));clear hX hY;rcases Int.lt_trichotomy a1 b1 with h|h|h
 ·have u1:decide (a1<b1)=true:=decide_eq_true h;rw[decide_eq_true (show ahd (a1,a2) (b1,b2) from .inl h)];go_enter Tryz.func150,Tryz.ntmps150;go_wp2_with fail;go_ret;exact⟨rfl,HB.out⟩
 ·subst h;have u1:decide (a1<a1)=false:=decide_eq_false (by omega)
  by_cases h2:a2<b2
  ·have u2:decide (a2<b2)=true:=decide_eq_true h2;rw[decide_eq_true (show ahd (a1,a2) (a1,b2) from .inr ⟨rfl,h2⟩)];go_enter Tryz.func150,Tryz.ntmps150;go_wp2_with fail;go_ret;exact⟨rfl,HB.out⟩
  ·have u2:decide (a2<b2)=false:=decide_eq_false h2;rw[decide_eq_false (show ¬ahd (a1,a2) (a1,b2) from fun k=>k.elim (fun q=>absurd q (by simp)) (fun q=>h2 q.2))];go_enter Tryz.func150,Tryz.ntmps150;go_wp2_with fail;go_ret;exact⟨rfl,HB.out⟩
 ·have u1:decide (a1<b1)=false:=decide_eq_false (by omega);have u2:(a1==b1)=false:=beq_false_of_ne (by omega);have u3:decide (a1=b1)=false:=decide_eq_false (by omega);rw[decide_eq_false (show ¬ahd (a1,a2) (b1,b2) from fun k=>k.elim (fun q=>absurd q (show ¬a1<b1 by omega)) (fun q=>absurd q.1 (show ¬a1=b1 by omega)))];go_enter Tryz.func150,Tryz.ntmps150;go_wp2_with fail;go_ret;exact⟨rfl,HB.out⟩
theorem OwI.zero (w:World) (B:Nat) (hB:B<=w.heap.size):OwI (w.alloc (.cells #[] 3)) B (.slice (some ⟨w.heap.size,0,none⟩) 0 0) []:=
 ⟨rfl,.inr ⟨w.heap.size,0,#[],rfl,hB,(by show(w.heap.push _)[w.heap.size]? =_;simp),aA _,by simp[maxLen],by simp,by simp⟩⟩
theorem aA3 (v:Value) (l:List Int) (w:World) (hr:RdI w v l) (h0:0<l.length) (hl:l.length<=1000000):
  Calls Tryz.prog 114 #[v] w fun e w'=>∃v',e=.returned v'/\OwI w' w.heap.size v' l/\Below w.heap.size w w':=by
 have hr0:=hr;obtain⟨a,ca,rfl,hca,hma,hA⟩:=hr.open;unfold maxLen at hma;obtain⟨b,off,rfl,hb,hc⟩:=hA h0;have hcmp:(binOp .eql 39 (.slice (some ⟨b,off,none⟩) l.length ca) (.slice none 0 0)).run Tryz.prog w=.ok (.bool false) w:=Go.Lib.run_eql_slice_nil w _ _ _ _ _ _ _ Tryz.underlying39;clear hA hc hr;go_enter Tryz.func114,Tryz.ntmps114;go_wp2_with (at_builtin;refine kG rfl _ _ rfl w.heap.size _ [] l rfl (OwI.zero w _ (aA _)) _ rfl (hr0.below (bD (aB _ _) _)) h0 ?_ ?_ ?_;(simp;omega);(simp);intro v' w' r1 r2 r3 r4);go_ret
 exact⟨_,rfl,by simpa using r1,(bD (aB _ _) _).trans r2⟩
theorem aRb (M q:Nat):(M:Int)/2^q=((M/2^q:Nat):Int):=by
 rw[Int.natCast_ediv,Int.natCast_pow];rfl
theorem aRc (n:Nat) (w:World) (h1:1<=n) (h2:n<=64):
  Calls Tryz.prog 50 #[.int .i64 (n:Int)] w fun e w'=>e=.returned (.int .u64 ((2^n-1:Nat):Int))/\w'=w:=by
 obtain⟨q,hq⟩:∃q:Nat,q=64-n:=⟨_,rfl⟩;have m1:aI.wrap (64-(n:Int))=(q:Int):=by rw[aM];omega
 have m2:(0:Int)<=(q:Int):=by omega
 have m3:¬(q:Int)<0:=by omega
 have HR:=hid (show 18446744073709551615/2^q=2^n-1 by
  have hp:0<2^q:=Nat.two_pow_pos q;have e:2^n*2^q=18446744073709551616:=by rw[<-Nat.pow_add,show n+q=64 by omega]
  have hn:0<2^n:=Nat.two_pow_pos n;rw[show 18446744073709551615=(2^q-1)+(2^n-1)*2^q by rw[Nat.sub_mul,e];have:=Nat.le_mul_of_pos_left (2^q) hn;omega];rw[Nat.add_mul_div_right _ _ hp,Nat.div_eq_of_lt (by omega),iZ])
 go_enter Tryz.func50,Tryz.ntmps50;go_wp2_with fail;go_ret;exact⟨fX (by rw[<-HR.out,hq];exact aRb 18446744073709551615 (64-n)),rfl⟩
theorem aRd (a:Option Addr) (n c:Nat) (w:World):
  Calls Tryz.prog 113 #[.slice a n c,.int .i64 10] w fun e w'=>
   e=.returned (.func (.func 137) #[] #[.pointer (some ⟨w.heap.size,0,none⟩),.pointer (some ⟨w.heap.size+1,0,none⟩)])/\w'=(w.alloc (.cells #[.slice a n c] 39)).alloc (.cells #[.int .i64 10] 3):=by
 have hb:Arr ((w.alloc (.cells #[.slice a n c] 39)).alloc (.cells #[.int .i64 10] 3)) (w.heap.size+1) 3 [.int .i64 10]:=by
  rw[show w.heap.size+1=(w.alloc (.cells #[.slice a n c] 39)).heap.size by simp];exact Arr.new _ _ _
 have c1:=hb.cell (i:=0) rfl;clear hb;go_enter Tryz.func113,Tryz.ntmps113;go_wp2_with fail;go_ret;exact⟨rfl,rfl⟩
theorem aRe (s:ByteArray) (a n:Int) (w:World):
  Calls Tryz.prog 49 #[.string s,.int .i64 a,.int .i64 n] w fun e w'=>
   e=.returned (.func (.func 84) #[] #[.pointer (some ⟨w.heap.size+1,0,none⟩),.pointer (some ⟨w.heap.size+1+1,0,none⟩),.pointer (some ⟨w.heap.size,0,none⟩)])/\
   w'=((w.alloc (.cells #[.string s] 9)).alloc (.cells #[.int .i64 a] 3)).alloc (.cells #[.int .i64 n] 3):=by
 go_enter Tryz.func49,Tryz.ntmps49;go_wp2_with fail;go_ret;exact⟨rfl,rfl⟩
abbrev pr (q:Int×Int):VV:=(.int .i64 q.1,.int .i64 q.2)
theorem aA4:∀(L:List VV) (i:Nat) (a b:Value),i<L.length->((prC L).set (i*2) a).set (i*2+1) b=prC (L.set i (a,b))
 |[],i,a,b,h=>by simp at h
 |x::L,0,a,b,_=>rfl
 |x::L,i+1,a,b,h=>by
  have ih:=aA4 L i a b (by simpa using h);have e:prC (x::L)=x.1::x.2::prC L:=rfl;rw[e,show(i+1)*2=i*2+2 by omega,aG,aG,aG,aG,ih];rfl
theorem aRj:El2 Tryz.prog 231 229 16 (.agg #[.int .i64 0,.int .i64 0]):=El2.mk' (by kernel_rfl) Tryz.underlying231 rfl (by decide)
def eT (w:World) (g:Nat) (l:List (Int×Int)) (R:List Value):Prop:=Arr w g 229 (prC (l.map pr)++R)
theorem tK (l:List (Int×Int)):(prC (l.map pr)).length=l.length*2:=by rw[JK,bJ]
theorem eT.cells {w:World} {g:Nat} {l:List (Int×Int)} {R:List Value} (h:eT w g l R) {i:Nat} (hi:i<l.length):
  w.cell? ⟨g,i*2,none⟩=some (.int .i64 (l.getD i (0,0)).1)/\w.cell? ⟨g,i*2+1,none⟩=some (.int .i64 (l.getD i (0,0)).2):=by
 have hq:(l.map pr)[i]? =some (pr (l.getD i (0,0))):=by rw[dY,aN hi,aV,aN hi];rfl
 obtain⟨e1,e2⟩:=CQ _ _ _ hq;have hl:=tK l;exact⟨Arr.cell h (by rw[gS (by omega)];exact e1),Arr.cell h (by rw[gS (by omega)];exact e2)⟩
theorem eT.put {w:World} {g:Nat} {l:List (Int×Int)} {R:List Value} (h:eT w g l R) {i:Nat} (hi:i<l.length) (x:Int×Int):
  eT ((w.setCell ⟨g,i*2,none⟩ (.int .i64 x.1)).setCell ⟨g,i*2+1,none⟩ (.int .i64 x.2)) g (l.set i x) R:=by
 have:=(Arr.set h (i*2) (.int .i64 x.1)).set (i*2+1) (.int .i64 x.2);have hl:=tK l;rw[aC4 _ _ (by omega),aC4 _ _ (by rw[mW];omega),aA4 _ _ _ _ (by rw[bJ];exact hi)] at this;unfold eT;rw[List.map_set];exact this
theorem eT.swap {w:World} {g:Nat} {l:List (Int×Int)} {R:List Value} (h:eT w g l R) {i j:Nat} (hi:i<l.length) (hj:j<l.length):
  eT ((((w.setCell ⟨g,i*2,none⟩ (.int .i64 (l.getD j (0,0)).1)).setCell ⟨g,i*2+1,none⟩ (.int .i64 (l.getD j (0,0)).2)).setCell ⟨g,j*2,none⟩ (.int .i64 (l.getD i (0,0)).1)).setCell ⟨g,j*2+1,none⟩ (.int .i64 (l.getD i (0,0)).2)) g (mR l i j) R:=
 (h.put hi (l.getD j (0,0))).put (by rw[mW];exact hj) (l.getD i (0,0))
abbrev oE:Value:=.func (.func 150) #[] #[]
def QU (w:World) (p B:Nat) (l:List (Int×Int)):Prop:=∃v,Arr w p 233 [v,oE]/\OwP w B 229 v (l.map pr)
theorem aA5 {w:World} {B:Nat} {v:Value} {l:List (Int×Int)} (h:OwP w B 229 v (l.map pr)) (h0:0<l.length):∃g cap R,v=.slice (some ⟨g,0,none⟩) l.length cap/\B<=g/\eT w g l R/\l.length<=cap/\cap<=maxLen/\(prC (l.map pr)++R).length=cap*2:=by
 obtain⟨hl,h⟩:=h;rw[bJ] at h;rcases h with⟨rfl,h1⟩|⟨g,cap,cur,rfl,hb,hg,hnc,hcm,hcs,ht⟩
 ·omega
 ·refine⟨g,cap,cur.toList.drop (l.length*2),rfl,hb,?_,hnc,hcm,?_⟩
  ·unfold eT Arr;rw[<-ht,jE,Array.toArray_toList];exact hg
  ·rw[<-ht,jE,Array.length_toList];exact hcs
theorem MX {w:World} {B g cap:Nat} {l:List (Int×Int)} {R:List Value} (hR:eT w g l R) (hB:B<=g) (hc:l.length<=cap) (hm:cap<=maxLen) (hl:(prC (l.map pr)++R).length=cap*2):OwP w B 229 (.slice (some ⟨g,0,none⟩) l.length cap) (l.map pr):=by
 have e:=tK l;refine⟨by rw[e,bJ],.inr ⟨g,cap,(prC (l.map pr)++R).toArray,by rw[bJ],hB,hR,by rw[bJ];exact hc,hm,by simpa using hl,?_⟩⟩;rw[bJ];show(prC (l.map pr)++R).take (l.length*2)=_;rw[<-e,List.take_left'];rfl
def KQ (p:Nat) (w w':World):Prop:=w.heap.size<=w'.heap.size/\∀k o,w.heap[k]? =some o->k≠p->(∀c fz,o≠.cells c 229 fz)->w'.heap[k]? =some o
theorem KQ.refl (p:Nat) (w:World):KQ p w w:=⟨aA _,fun _ _ h _ _=>h⟩
theorem KQ.trans {p:Nat} {a b c:World} (h:KQ p a b) (k:KQ p b c):KQ p a c:=⟨aW h.1 k.1,fun i o hi hne ht=>k.2 i o (h.2 i o hi hne ht) hne ht⟩
theorem KQ.below {p:Nat} {w w':World} (h:Below w.heap.size w w'):KQ p w w':=⟨h.size,fun k _ hk _ _=>(h.block k (gQ.1 hk).1).trans hk⟩
theorem KQ.row {p g:Nat} {w w':World} {l:List (Int×Int)} {R:List Value} (hR:eT w g l R) (h:w.grownBy w' (some g)):KQ p w w':=⟨h.size,fun k o hk _ ht=>by
 refine(h.block k (gQ.1 hk).1 (fun e=>?_)).trans hk;obtain rfl:=bW e;unfold eT Arr at hR;rw[hk] at hR;exact ht _ _ (bW hR)⟩
theorem KQ.app {p B:Nat} {w w':World} {v:Value} {L:List VV} (ho:OwP w B 229 v L) (h:w.grownBy w' v.ownBlock):KQ p w w':=⟨h.size,fun k o hk _ ht=>by
 refine(h.block k (gQ.1 hk).1 (fun e=>?_)).trans hk;rcases ho.2 with⟨rfl,_⟩|⟨g,cap,cur,rfl,_,hg,_⟩
 ·cases e
 ·obtain rfl:=bW e;rw[hk] at hg;exact ht _ _ (bW hg)⟩
theorem KQ.box {p i:Nat} {w:World} (v:Value):KQ p w (w.setCell ⟨p,i,none⟩ v):=⟨by simp,fun k o hk hne _=>by rw[kT w ⟨p,i,none⟩ k v hne];exact hk⟩
theorem KQ.arr {p b e:Nat} {w w':World} {l:List Value} (h:KQ p w w') (hA:Arr w b e l) (hp:b≠p) (he:e≠229):Arr w' b e l:=h.2 b _ hA hp (fun c fz q=>by injection q with _ q2;exact he q2)
theorem aRk (p B:Nat) (l:List (Int×Int)) (x:Int×Int) (w:World) (h:QU w p B l) (hp:p<B) (hB:B<=w.heap.size) (hl:l.length<=1000000):
  ∃(a:Option Addr) (n c g cap:Nat) (R:List Value) (w3:World),
   (tT #[231,231] 231 #[.slice a n c,.slice (some ⟨w.heap.size+1,0,none⟩) 1 1]).run Tryz.prog ((w.alloc (.cells #[.int .i64 x.1,.int .i64 x.2] 229)).alloc (.cells #[.int .i64 x.1,.int .i64 x.2] 229)).drew=.ok (.slice (some ⟨g,0,none⟩) (l.length+1) cap) w3/\
   w.cell? ⟨p,0,none⟩=some (.slice a n c)/\(w.alloc (.cells #[.int .i64 x.1,.int .i64 x.2] 229)).cell? ⟨p,0,none⟩=some (.slice a n c)/\
   ((w.alloc (.cells #[.int .i64 x.1,.int .i64 x.2] 229)).alloc (.cells #[.int .i64 x.1,.int .i64 x.2] 229)).cell? ⟨p,0,none⟩=some (.slice a n c)/\
   w3.cell? ⟨p,0,none⟩=some (.slice a n c)/\w3.frozen? ⟨p,0,none⟩=false/\
   Arr (w3.setCell ⟨p,0,none⟩ (.slice (some ⟨g,0,none⟩) (l.length+1) cap)) p 233 [.slice (some ⟨g,0,none⟩) (l.length+1) cap,oE]/\
   eT (w3.setCell ⟨p,0,none⟩ (.slice (some ⟨g,0,none⟩) (l.length+1) cap)) g (l++[x]) R/\B<=g/\l.length+1<=cap/\cap<=maxLen/\(prC ((l++[x]).map pr)++R).length=cap*2/\
   Below p w (w3.setCell ⟨p,0,none⟩ (.slice (some ⟨g,0,none⟩) (l.length+1) cap))/\KQ p w (w3.setCell ⟨p,0,none⟩ (.slice (some ⟨g,0,none⟩) (l.length+1) cap)):=by
 obtain⟨v,hA,hown⟩:=h;obtain⟨o,ho⟩:∃o:Obj,o=.cells #[.int .i64 x.1,.int .i64 x.2] 229:=⟨_,rfl⟩;rw[<-ho];have hA1:Arr (w.alloc o).drew p 233 [v,oE]:=hA.alloc _;have ho1:OwP (w.alloc o).drew B 229 v (l.map pr):=hown.alloc _;have hs1:(w.alloc o).drew.heap.size=w.heap.size+1:=by simp
 have hb1:Below w.heap.size w (w.alloc o).drew:=((aB _ w).alloc (aA _) _).drew;have hsrc:=kK.new (w.alloc o).drew 229 (pr x);rw[hs1] at hsrc;have hA2:=hA1.alloc o;obtain⟨v3,w3,hr,ho3,hb3,hg3⟩:=JL aRj (w:=(w.alloc o).drew.alloc o) 231 B v (l.map pr) (ho1.alloc o) _ [pr x] (by rw[ho] at hsrc ⊢;exact hsrc) (fun q hq=>by obtain rfl:=dC.1 hq;exact⟨rfl,rfl⟩) (by simp;omega) (by rw[fV,hs1];omega);have hA3:=hA2.below hb3 hp;have hb2:Below w.heap.size w ((w.alloc o).drew.alloc o):=hb1.alloc (by omega) _
 have hB3:Below p w w3:=(hb2.mono (by omega)).trans (hb3.mono (by omega));have hK3:KQ p w w3:=(KQ.below hb2).trans (KQ.app (ho1.alloc o) hg3);rw[show l.map pr++[pr x]=(l++[x]).map pr by simp] at ho3;obtain⟨g,cap,R,rfl,hBg,hR,hc,hm,hlen⟩:=aA5 ho3 (by simp);have e1:(l++[x]).length=l.length+1:=by simp
 rw[e1] at hr hc;obtain⟨a,c,rfl,_⟩:=hown.src.open;have hne:g≠p:=by omega
 exact⟨a,_,c,g,cap,R,w3,hr,hA.cell (i:=0) rfl,hA1.cell (i:=0) rfl,hA2.cell (i:=0) rfl,hA3.cell (i:=0) rfl,hA3.free 0,hA3.set 0 _,Arr.other hR ⟨p,0,none⟩ (fun e=>hne e.symm) _,hBg,hc,hm,hlen,hB3.setCell (p:=⟨p,0,none⟩) (aA _) _,hK3.trans (KQ.box _)⟩
end Go.Proofs.YtpgmbhpbgkljdaaGreatDoor
