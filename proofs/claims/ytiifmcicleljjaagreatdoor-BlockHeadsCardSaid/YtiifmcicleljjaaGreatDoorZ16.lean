/-
  Texts put together (part 16): the walks and the plain laws on which the statement stands.
-/
import Derived.Sort.BigQuietIn
import Derived.Sort.LoopGhostIn
import Derived.Sort.QuietIn
import Derived.Sort.CutIn
import Derived.Test.YtiifmcicleljjaaGreatDoorZ12
set_option maxRecDepth 100000
set_option maxHeartbeats 12800000
open Array renaming getElem?_eq_some_iff->gQ,replicate_succ->lL,replicate_zero->lM
open Bool renaming noConfusion->tQ,or_false->xK
open Go renaming CallsIn->mD,callsIn_of_wp->tW,callsIn_of_wp_marks->xX,heap_setCell_other->kT,ownFrom_below->GT,run_takeDeferred->sJ
open Go.Fence renaming wide->eA
open Go.IntKind renaming i64->aI,u8->pX,wrap_i64->aM,wrap_u8->xQ
open Go.KeepsOthers renaming drew->aC3,setCell->iH
open Go.Lib renaming OthersKept->GY,byteCells->nS
open Go.OwnFrom renaming and->GS
open Go.Proofs renaming enters_of->fN
open Go.RowKit.Below renaming refl->aB
open Go.World renaming size_alloc->fV
open Go.World.ownsRow renaming kept->NH
open List renaming append_assoc->cF,append_nil->eE,append_toArray->lO,cons_append->gE,drop_zero->AP,flatMap_append->pZ,flatMap_singleton->AN,getD_eq_getElem?_getD->aV,getElem?_eq_getElem->aN,length_append->aL,length_cons->cR,length_drop->cI,length_eq_zero_iff->mV,length_map->bJ,length_nil->cX,length_take->aX,map_append->fI,mem_of_getElem?->cH,mem_of_mem_take->nO,nil_append->iG,push_toArray->lN,size_toArray->mY,take_of_length_le->cS
open Nat renaming le_refl->aA,le_succ->pI,lt_succ_self->sG,min_eq_left->gU,reduceAdd->lZ,reduceSub->mZ,sub_zero->AF,zero_add->iZ,zero_le->aU
open Option.some renaming inj->bW
open UInt8 renaming ofNat->eK,toNat_ofNat'->nP
namespace Go.Proofs.YtiifmcicleljjaaGreatDoor
section
open Go.RowKit Go Go.Shelf
theorem LH {s:List UInt8} {at':Int} {k:Nat} {e:Int} (he:e≠0) (hk:k<=16) (h:(cJ s at' k).2.2.2=e):cG s at'=([],0,e):=by
 have h2:=uY (s:=s) (at':=at') (k:=k) (by rw[h];exact he) (16-k);rw[show k+(16-k)=16 by omega] at h2;unfold cG;simp only
 rw[h2,if_pos (by rw[h];exact he),h]
theorem VR (s:List UInt8) (at':Int):cJ s at' 0=([],at'+16,aE s at' 16==0,aO s.length at' 16):=rfl
theorem VS {s:List UInt8} {at':Int} {k:Nat} {o:List UInt8} {nx:Int} {bad:Bool} (h:cJ s at' k=(o,nx,bad,0)) (hb:(aE s at' 16).testBit (15-k)=false):cJ s at' (k+1)=(o,nx,bad,0):=by
 unfold cJ;simp only
 rw[h,if_neg (by simp),hb,if_neg (by decide)]
theorem VT {s:List UInt8} {at':Int} {k:Nat} {o:List UInt8} {nx:Int} {bad:Bool} (h:cJ s at' k=(o,nx,bad,0)) (hb:(aE s at' 16).testBit (15-k)=true) (he:aO s.length nx 16≠0):(cJ s at' (k+1)).2.2.2=aO s.length nx 16:=by
 unfold cJ;simp only
 rw[h,if_neg (by simp),hb,if_pos rfl,if_pos he]
theorem VU {s:List UInt8} {at':Int} {k:Nat} {o:List UInt8} {nx:Int} {bad:Bool} (h:cJ s at' k=(o,nx,bad,0)) (hb:(aE s at' 16).testBit (15-k)=true) (he:aO s.length nx 16=0):
  cJ s at' (k+1)=(o++jS (aE s nx 16) k 16,nx+16,bad||aE s nx 16==0,0):=by
 unfold cJ;simp only
 rw[h,if_neg (by simp),hb,if_pos rfl,if_neg (by rw[he];simp)]
theorem VW {s:List UInt8} {at':Int} {o:List UInt8} {nx:Int} {bad:Bool} (h:cJ s at' 16=(o,nx,bad,0)):cG s at'=if bad then([],0,3) else(o,nx,0):=by
 unfold cG;simp only
 rw[h,if_neg (by simp)]
theorem VX (v k i:Nat):jS v k (i+1)=jS v k i++if v.testBit (15-i) then[eK (16*k+i)] else[]:=rfl
theorem aO6 {l:List Int} (hx:∀x∈l,x=0\/x=1) {k:Nat} {x:Int} (h:l[k]? =some x):
  cM (cC 6) ((l.map dV).take (k+1))=cM (cC 6) ((l.map dV).take k)++[((plc (eB (cC 6) ((l.map dV).take k)) (dV x):Nat):Int)]/\
  eB (cC 6) ((l.map dV).take (k+1))=eF (eB (cC 6) ((l.map dV).take k)) (plc (eB (cC 6) ((l.map dV).take k)) (dV x))/\
  dV x∈eB (cC 6) ((l.map dV).take k)/\plc (eB (cC 6) ((l.map dV).take k)) (dV x)<2:=by
 have hb:(l.map dV)[k]? =some (dV x):=by rw[List.getElem?_map,h];rfl
 have e:(l.map dV).take (k+1)=(l.map dV).take k++[dV x]:=by rw[List.take_add_one,hb];rfl
 have hm:=DN hx;have h6:=JZ (show 2<=6 by decide);have hmem:dV x∈eB (cC 6) ((l.map dV).take k):=(BV _ _).mem_iff.2 (by rw[h6];exact List.mem_append_left _ (hm _ (cH hb)));refine⟨by rw[e,BW],by rw[e,IM],hmem,?_⟩;have h2:=(JY ((l.map dV).take (k+1)) (cC 2) ((cC 6).drop 2) (fun b hb=>hm b (nO hb))).1;rw[<-h6] at h2
 have hr:=vT ((l.map dV).take (k+1)) (cC 2) (fun b hb=>hm b (nO hb)) ((plc (eB (cC 6) ((l.map dV).take k)) (dV x):Nat):Int) (by rw[<-h2,e,BW];exact List.mem_append_right _ (List.mem_singleton.2 rfl));have hl:(cC 2).length=2:=rfl;rw[hl] at hr;omega
theorem aO7 {l:List Int} (hx:∀x∈l,x=0\/x=1):cM (cC 6) (l.map dV)=dO l:=by
 rw[KM,JZ (show 2<=6 by decide),(JY _ _ _ (DN hx)).1]
theorem aO8 (l:List Int):(l.map lF).flatten=dE l:=by unfold dE;rw[List.flatMap_def]
theorem aO9 (v:Value) (l:List Int) (w:World) (hr:RdI w v l) (hl:l.length<=20000) (hx:∀x∈l,x=0\/x=1):
  Calls Tryz.prog 33 #[v,.int .i64 2] w fun e w'=>e=.returned (.tuple #[eL (dE (dO l)),.int .i64 0])/\Below w.heap.size w w':=by
 have hmf:∀(fn:Fn) (first cap:Array Value) (w:World),(Instr.makeFunc fn first cap).run Tryz.prog w=.ok (.func fn first cap) w:=fun _ _ _ _=>rfl
 have HX:=hid hx;have HN:=hid (fun k x (h:l[k]? =some x)=>aO6 hx h);have HP6:=hid (aO7 hx);have hbox:=Arr.new w 3 [.int .i64 2];have hB0:=Arr.new (w.alloc (.cells #[.int .i64 2] 3)) 29 [.string ⟨#[]⟩,.int .i64 0];have hT0:=hbox.alloc (.cells #[.string ⟨#[]⟩,.int .i64 0] 29);have hs1:(w.alloc (.cells #[.int .i64 2] 3)).heap.size=w.heap.size+1:=by simp
 have hs2:((w.alloc (.cells #[.int .i64 2] 3)).alloc (.cells #[.string ⟨#[]⟩,.int .i64 0] 29)).heap.size=w.heap.size+2:=by simp
 have hb2:Below w.heap.size w ((w.alloc (.cells #[.int .i64 2] 3)).alloc (.cells #[.string ⟨#[]⟩,.int .i64 0] 29)):=bD (bD (aB _ _) _) _;rw[hs1] at hB0;change Arr ((w.alloc (.cells #[.int .i64 2] 3)).alloc (.cells #[.string ⟨#[]⟩,.int .i64 0] 29)) _ _ _ at hT0;change Arr ((w.alloc (.cells #[.int .i64 2] 3)).alloc (.cells #[.string ⟨#[]⟩,.int .i64 0] 29)) _ _ _ at hB0;have hr2:=hr.below hb2
 have hcf:∀W,Below (w.heap.size+2) ((w.alloc (.cells #[.int .i64 2] 3)).alloc (.cells #[.string ⟨#[]⟩,.int .i64 0] 29)) W->Calls Tryz.prog 85 #[v,.func (.func 86) #[] #[.pointer (some ⟨w.heap.size,0,none⟩)]] W fun e w'=>e=.returned (.bool false)/\w'=W:=fun W hW=>
  (uN 86 #[.pointer (some ⟨w.heap.size,0,none⟩)] (fun _=>false) v l W (hr2.below (hs2▸hW)) (fN Tryz.func86 (by kernel_rfl) rfl)
   (fun W' hW' x hxl=>aO5 w.heap.size x W' (((hT0.below hW (by omega)).below hW' (by have:=hW.size;omega)).cell (i:=0) rfl) (hx x hxl))).mono fun e w' ⟨h1,h2⟩=>by
    rw[oN (fun x _=>rfl)] at h1;exact⟨h1,h2⟩
 obtain⟨a,ca,rfl,hca,hma,hA⟩:=hr2.open;unfold maxLen at hma;clear hr hr2 hbox hx;go_enter Tryz.func33,Tryz.ntmps33;go_wp2_with fail;generalize ((w.alloc (.cells #[.int .i64 2] 3)).alloc (.cells #[.string ⟨#[]⟩,.int .i64 0] 29))=w2 at*
 have c0:=hT0.cell (i:=0) rfl;refine(ZC 2 _ (by decide) (by decide)).mono ?_;rintro e w3 ⟨rfl,rfl⟩;go_wp2_with fail;refine(hcf _ (aB _ _)).mono ?_;rintro e w4 ⟨rfl,rfl⟩;go_wp2_with fail;refine(ZE 2 _).mono ?_;rintro e w5 ⟨rfl,hA5,hb5,hz5⟩;obtain⟨z,hz⟩:∃z,z=w4.heap.size:=⟨_,rfl⟩;rw[<-hz] at hA5 hb5 hz5 hs2 ⊢;rw[<-ZG] at hA5;have hB5:=hB0.below hb5 (by omega);have HBL:=hid (hb2.trans (hb5.mono (by omega)));have HA:=hid (fun(h:0<l.length)=>hA h);have hzw:w.heap.size+2<=z:=by omega
 have HS2:=hid hs2;have HZ:=hid hz;clear hcf hT0 hB0 c0 hA hb2 hs2 hz;go_wp2_with fail
 go_loopg [7,9,10,11,12,25] l.length (fun g s7 _s9 _s10 _s11 _s12 s25 wr=>∃(k:Nat) (u:Value),k<=l.length/\g=l.length-k/\u=s7/\s25=.int .i64 (k:Int)/\gG wr (z+1) u ((cM (cC 6) ((l.map dV).take k)).map lF)/\Arr wr z 144 (iX (BX (eB (cC 6) ((l.map dV).take k))) 2)/\Below z w5 wr/\z<wr.heap.size)
 case atStart=>exact⟨0,_,aU _,rfl,rfl,rfl,gG.nil _ _,hA5,aB _ _,hz5⟩
 case round=>
  obtain⟨k,u,hk,hg,rfl,rfl,ho,hA,hbel,hzr⟩:=hrel;have HG:=hid hg;clear hg
  by_cases hlt:k<l.length
  ·have u1:decide ((k:Int)<(l.length:Int))=true:=decide_eq_true (by omega);obtain⟨b,off,rfl,hb,hc⟩:=HA.out (by omega);obtain⟨x,hxx⟩:=dH hlt;have c1:=(hbel.cell (p:=⟨b,off+k,none⟩) (by show b<z;rw[HZ.out];exact hb)).trans ((hb5.cell (p:=⟨b,off+k,none⟩) (by show b<z;rw[HZ.out];exact hb)).trans (hc k x hxx));obtain⟨n1,n2,n3,n4⟩:=HN.out k x hxx;have hx01:=HX.out x (cH hxx);have hxb:((dV x).toNat:Int)=x:=by rcases hx01 with rfl|rfl<;>rfl
   have hAl:(eB (cC 6) ((l.map dV).take k)).length=6:=(BV _ _).length_eq;obtain⟨Q,hQ⟩:∃Q,Q=eB (cC 6) ((l.map dV).take k):=⟨_,rfl⟩;obtain⟨M,hM⟩:∃M,M=cM (cC 6) ((l.map dV).take k):=⟨_,rfl⟩;have hMl:M.length=k:=by rw[hM,rH,aX,bJ];omega
   rw[<-hQ] at n1 n2 n3 n4 hAl hA;rw[<-hM] at n1 ho;obtain⟨i,hi⟩:∃i,i=plc Q (dV x):=⟨_,rfl⟩;have hix:=aO4 n3;rw[hxb,<-hi] at hix;rw[<-hi] at n1 n2 n4;have N1:=hid n1;have N2:=hid n2;have hslice:RdI wr (.slice (some ⟨z,0,none⟩) 6 6) (BX Q):=by
    have hbl:(BX Q).length=6:=by rw[tG];exact hAl
    refine⟨some ⟨z,0,none⟩,6,by rw[hbl],by rw[hbl];exact aA _,by simp[maxLen],.inr ⟨z,0,rfl,hzr,fun j hj=>?_⟩⟩;rw[bJ] at hj;rw[iZ,hA.cell (EO hj)];simp[aV,aN hj]
   have hin:=aO3 (.slice (some ⟨z,0,none⟩) 6 6) (BX Q) x wr hslice;rw[hix] at hin;have hfr:=ZB z (BX Q) 2 i (by rw[tG];exact hAl) (by omega) wr hA;rw[ZF] at hfr;clear n1 n2 n3 hxx hc hix hxb hi hQ hM hslice;go_wp2_with fail;refine hin.mono ?_;rintro e w6 ⟨rfl,rfl⟩;obtain⟨X,hX⟩:∃X,X=lF ((i:Nat):Int):=⟨_,rfl⟩;have hi2:i=0\/i=1:=by omega
   have hXl:X.length<=2:=by rcases hi2 with rfl|rfl<;>(rw[hX];decide)
   have HXX:=hid hX;rcases hi2 with hi0|hi0
   ·skip
    subst hi0;have hput:∀W,Calls Tryz.prog 75 #[.agg #[.string ⟨#[]⟩,.int .i64 0],.int .u64 0,.int .i64 1] W fun e w'=>e=.returned (.tuple #[.agg #[.string (mkS (aD X)),.int .i64 (X.length:Int)],.int .i64 0])/\Below W.heap.size W w':=fun W=>by
     have:=uH [] 0 1 W (by decide) (by decide) (by decide);rw[show([]:List Bool)++aY 0 1=X by rw[HXX.out];decide] at this;exact this
    clear hX;go_wp2_with fail;refine hfr.mono ?_;rintro e w7 ⟨rfl,hA7,hg7⟩;have ho7:gG w7 (z+1) u (M.map lF):=NH ho hg7 (iL ho (sG z));have hb7:=hbel.grown hg7 (by omega) (fun k hk=>by obtain rfl:=bW hk;exact aA _);have hs7:=hg7.size;clear hfr ho hg7 hbel;go_wp2_with fail;refine(hput _).mono ?_;rintro e w8 ⟨rfl,hb8⟩;have hA8:=hA7.below hb8 (by omega);have ho8:=ho7.below hb8 (aA _);have hb8':=hb7.trans (hb8.mono (by omega));have hs8:=hb8.size;have hA9:=hA8.alloc (.cells #[.string (mkS (aD X)),.int .i64 (X.length:Int)] 29)
    have ho9:=ho8.alloc (.cells #[.string (mkS (aD X)),.int .i64 (X.length:Int)] 29);have hb9:=hb8'.alloc (o:=.cells #[.string (mkS (aD X)),.int .i64 (X.length:Int)] 29) (by omega);have hz9:(w8.alloc (.cells #[.string (mkS (aD X)),.int .i64 (X.length:Int)] 29)).heap.size=w8.heap.size+1:=by simp
    have hN:=Arr.new (w8.alloc (.cells #[.string (mkS (aD X)),.int .i64 (X.length:Int)] 29)) 29 [.string (mkS (aD X)),.int .i64 (X.length:Int)];rw[hz9] at hN;have hA10:=hA9.alloc (.cells #[.string (mkS (aD X)),.int .i64 (X.length:Int)] 29);have ho10:=ho9.alloc (.cells #[.string (mkS (aD X)),.int .i64 (X.length:Int)] 29);have hb10:=hb9.alloc (o:=.cells #[.string (mkS (aD X)),.int .i64 (X.length:Int)] 29) (by omega)
    have hz10:((w8.alloc (.cells #[.string (mkS (aD X)),.int .i64 (X.length:Int)] 29)).alloc (.cells #[.string (mkS (aD X)),.int .i64 (X.length:Int)] 29)).heap.size=w8.heap.size+2:=by simp
    clear hA8 ho8 hb8 hb8' hA7 ho7 hb7 hA9 ho9 hb9;go_wp2_with (at_builtin;refine PY rfl _ _ rfl (z+1) _ (M.map lF) X rfl ho10 _ rfl hN ?_ ?_ ?_;(rw[bJ];omega);(omega);intro v11 w11 r1 r2 r3);have hg:=HG.out
    go_roundg (l.length-(k+1))
    case measure=>omega
    case rel=>
     refine⟨k+1,_,by omega,rfl,rfl,by go_num,?_,?_,hb10.trans (r2.mono (by omega)),?_⟩
     ·rw[N1.out,fI];have e:[((0:Nat):Int)].map lF=[X]:=by rw[HXX.out];rfl
      rw[e];exact r1
     ·rw[N2.out];exact hA10.below r2 (sG z)
     ·have:=r2.size;omega
   ·skip
    subst hi0;have hput:∀W,Calls Tryz.prog 75 #[.agg #[.string ⟨#[]⟩,.int .i64 0],.int .u64 2,.int .i64 2] W fun e w'=>e=.returned (.tuple #[.agg #[.string (mkS (aD X)),.int .i64 (X.length:Int)],.int .i64 0])/\Below W.heap.size W w':=fun W=>by
     have:=uH [] 2 2 W (by decide) (by decide) (by decide);rw[show([]:List Bool)++aY 2 2=X by rw[HXX.out];decide] at this;exact this
    clear hX;go_wp2_with fail;refine hfr.mono ?_;rintro e w7 ⟨rfl,hA7,hg7⟩;have ho7:gG w7 (z+1) u (M.map lF):=NH ho hg7 (iL ho (sG z));have hb7:=hbel.grown hg7 (by omega) (fun k hk=>by obtain rfl:=bW hk;exact aA _);have hs7:=hg7.size;clear hfr ho hg7 hbel;go_wp2_with fail;refine(hput _).mono ?_;rintro e w8 ⟨rfl,hb8⟩;have hA8:=hA7.below hb8 (by omega);have ho8:=ho7.below hb8 (aA _);have hb8':=hb7.trans (hb8.mono (by omega));have hs8:=hb8.size;have hA9:=hA8.alloc (.cells #[.string (mkS (aD X)),.int .i64 (X.length:Int)] 29)
    have ho9:=ho8.alloc (.cells #[.string (mkS (aD X)),.int .i64 (X.length:Int)] 29);have hb9:=hb8'.alloc (o:=.cells #[.string (mkS (aD X)),.int .i64 (X.length:Int)] 29) (by omega);have hz9:(w8.alloc (.cells #[.string (mkS (aD X)),.int .i64 (X.length:Int)] 29)).heap.size=w8.heap.size+1:=by simp
    have hN:=Arr.new (w8.alloc (.cells #[.string (mkS (aD X)),.int .i64 (X.length:Int)] 29)) 29 [.string (mkS (aD X)),.int .i64 (X.length:Int)];rw[hz9] at hN;have hA10:=hA9.alloc (.cells #[.string (mkS (aD X)),.int .i64 (X.length:Int)] 29);have ho10:=ho9.alloc (.cells #[.string (mkS (aD X)),.int .i64 (X.length:Int)] 29);have hb10:=hb9.alloc (o:=.cells #[.string (mkS (aD X)),.int .i64 (X.length:Int)] 29) (by omega)
    have hz10:((w8.alloc (.cells #[.string (mkS (aD X)),.int .i64 (X.length:Int)] 29)).alloc (.cells #[.string (mkS (aD X)),.int .i64 (X.length:Int)] 29)).heap.size=w8.heap.size+2:=by simp
    clear hA8 ho8 hb8 hb8' hA7 ho7 hb7 hA9 ho9 hb9;go_wp2_with (at_builtin;refine PY rfl _ _ rfl (z+1) _ (M.map lF) X rfl ho10 _ rfl hN ?_ ?_ ?_;(rw[bJ];omega);(omega);intro v11 w11 r1 r2 r3);have hg:=HG.out
    go_roundg (l.length-(k+1))
    case measure=>omega
    case rel=>
     refine⟨k+1,_,by omega,rfl,rfl,by go_num,?_,?_,hb10.trans (r2.mono (by omega)),?_⟩
     ·rw[N1.out,fI];have e:[((1:Nat):Int)].map lF=[X]:=by rw[HXX.out];rfl
      rw[e];exact r1
     ·rw[N2.out];exact hA10.below r2 (sG z)
     ·have:=r2.size;omega
  ·have u1:decide ((k:Int)<(l.length:Int))=false:=decide_eq_false (by omega);rw[cS (by rw[bJ];omega),HP6.out] at ho;have hsl:((dO l).map lF).flatten=dE (dO l):=aO8 _;have hsll:=wL (dO l) 2 (yW HX.out);rw[uU] at hsll;have hct:=CF u ((dO l).map lF) wr (gG.rd ho) (by rw[hsl];omega);rw[hsl] at hct;obtain⟨D,hD⟩:∃D,D=dE (dO l):=⟨_,rfl⟩;rw[<-hD] at hct;have HD:=hid hD;unfold eL at hct;have hB6:=hB5.below hbel (by omega);have hBL:=HBL.out.trans (hbel.mono (by omega));clear ho hsl hD;go_wp2_with fail
   refine hct.mono ?_;rintro e w6 ⟨rfl,hb6⟩;have hB7:=hB6.below hb6 (by omega);have hBL7:=hBL.trans (hb6.mono (by omega));have d0:=hB7.cell (i:=0) rfl;have d1:=hB7.cell (i:=1) rfl;have f0:=hB7.free 0;have f1:=hB7.free 1;clear hct hb6 hB6 hBL hbel;go_wp2_with fail;have z0:Arr ((w6.setCell ⟨w.heap.size+1,0,none⟩ (.string (mkS (aD D)))).setCell ⟨w.heap.size+1,1,none⟩ (.int .i64 (D.length:Int))) (w.heap.size+1) 29 [.string (mkS (aD D)),.int .i64 (D.length:Int)]:=(hB7.set 0 _).set 1 _
   refine bodyPost_ret (qH rfl _ _ (w.heap.size+1) _ _ (0,0) _ rfl z0 Tryz.underlying29 rfl mF) rfl ⟨by rw[<-HD.out];rfl,(hBL7.setCell (p:=⟨w.heap.size+1,0,none⟩) (pI _) _).setCell (p:=⟨w.heap.size+1,1,none⟩) (pI _) _⟩
theorem aPg (b n:Nat) (x:Int) (W:World) (hc:W.cell? ⟨b,0,none⟩=some (.int .i64 (n:Int))) (hx:0<=x/\x<(n:Int)):
  Calls Tryz.prog 144 #[.int .i64 x,.pointer (some ⟨b,0,none⟩)] W fun e w'=>e=.returned (.bool false)/\w'=W:=by
 have v1:decide (x<0)=false:=decide_eq_false (by omega);have v2:decide (x>=(n:Int))=false:=decide_eq_false (by omega);have v3:decide ((n:Int)<=x)=false:=decide_eq_false (by omega);go_enter Tryz.func144,Tryz.ntmps144;go_wp2_with fail;go_ret;exact⟨rfl,rfl⟩
theorem ZJ (v:Value) (l:List Int) (n:Nat) (w:World) (hr:RdI w v l) (hx:∀x∈l,0<=x/\x<(n:Int)):
  Calls Tryz.prog 81 #[v,.int .i64 (n:Int)] w fun e w'=>e=.returned (.bool false)/\Below w.heap.size w w':=by
 have hbox:=Arr.new w 3 [.int .i64 (n:Int)];have hb2:Below w.heap.size w (w.alloc (.cells #[.int .i64 (n:Int)] 3)):=bD (aB _ _) _;have hs1:(w.alloc (.cells #[.int .i64 (n:Int)] 3)).heap.size=w.heap.size+1:=by simp
 change Arr (w.alloc (.cells #[.int .i64 (n:Int)] 3)) _ _ _ at hbox;have hcf:=(uN 144 #[.pointer (some ⟨w.heap.size,0,none⟩)] (fun _=>false) v l _ (hr.below hb2) (fN Tryz.func144 (by kernel_rfl) rfl)
   (fun W' hW' x hxl=>aPg w.heap.size n x W' ((hbox.below hW' (by omega)).cell (i:=0) rfl) (hx x hxl))).mono (fun e w' h=>show e=.returned (.bool false)/\w'=_ from by
    have h1:=h.1;rw[oN (fun x _=>rfl)] at h1;exact⟨h1,h.2⟩)
 clear hr hbox hs1 hx;go_enter Tryz.func81,Tryz.ntmps81;go_wp2_with fail;refine hcf.mono ?_;rintro e w1 ⟨rfl,rfl⟩;go_wp2_with fail;go_ret;exact⟨rfl,hb2⟩
theorem aPh (x:Int) (W:World) (hx:0<=x/\x<=1048576):
  Calls Tryz.prog 192 #[.int .i64 x] W fun e w'=>e=.returned (.bool false)/\w'=W:=by
 have v1:decide (x<0)=false:=decide_eq_false (by omega);have v2:decide (x>1048576)=false:=decide_eq_false (by omega);have v3:decide (1048576<x)=false:=decide_eq_false (by omega);go_enter Tryz.func192,Tryz.ntmps192;go_wp2_with fail;go_ret;exact⟨rfl,rfl⟩
theorem aPi (v:Value) (l:List Int) (w:World) (hr:RdI w v l) (hx:∀x∈l,0<=x/\x<=1048576):
  Calls Tryz.prog 145 #[v] w fun e w'=>e=.returned (.bool true)/\w'=w:=by
 have hcf:=(uN 192 #[] (fun _=>false) v l w hr (fN Tryz.func192 (by kernel_rfl) rfl)
   (fun W' _ x hxl=>aPh x W' (hx x hxl))).mono (fun e w' h=>show e=.returned (.bool false)/\w'=_ from by
    have h1:=h.1;rw[oN (fun x _=>rfl)] at h1;exact⟨h1,h.2⟩)
 clear hr hx;go_enter Tryz.func145,Tryz.ntmps145;go_wp2_with fail;refine hcf.mono ?_;rintro e w1 ⟨rfl,rfl⟩;go_wp2_with fail;go_ret;exact⟨rfl,rfl⟩
theorem ZK (v u:Value) (l g:List Int) (w:World) (hr:RdI w v l) (hu:RdI w u g) (hE:bL l=0) (hg:∀x∈g,0<=x/\x<(l.length:Int)) (hgl:g.length<=1000):
  Calls Tryz.prog 83 #[v,u] w fun e w'=>e=.returned (.tuple #[.int .i64 (nI l g),.int .i64 0])/\Below w.heap.size w w':=by
 rw[TC hE hg];have hok:=(eH hE).1;have hck:=zS v l w hr;rw[hE] at hck;have HSB:=hid (fun k=>SG hok.2.2 (g.take k));have HX:=hid hg;have HL:=hid (fun(x:Int) (h:0<=x/\x<(l.length:Int))=>show l[x.toNat]? =some (l.getD x.toNat 0) by
  rw[aV,aN (show x.toNat<l.length by omega)];rfl)
 have hno:=fun W (h:RdI W u g)=>ZJ u g l.length W h hg
 have hl2:=hok.1;have HLB:=hid (fun(x:Int) (h:0<=x/\x<(l.length:Int))=>hok.2.2 (l.getD x.toNat 0) (cH (HL.out x h)));obtain⟨a,ca,rfl,hca,hma,hA⟩:=hr.open;unfold maxLen at hma;obtain⟨b,off,rfl,hb,hc⟩:=hA (by omega);obtain⟨a2,c2,rfl,hc2,hm2,hA2⟩:=hu.open;unfold maxLen at hm2;clear hr hA hok hg hE;go_enter Tryz.func83,Tryz.ntmps83;go_wp2_with fail;refine hck.mono ?_;rintro e w1 ⟨rfl,hb1⟩;have hu1:=hu.below hb1;clear hck;go_wp2_with fail;refine(hno _ hu1).mono ?_;rintro e w2 ⟨rfl,hb2⟩;have hbb:=hb1.trans (hb2.mono hb1.size)
 have HC:=hid (fun j x (hx:l[j]? =some x)=>((lP hbb).1 b (off+j) hb).trans (hc j x hx));have HC2:=hid (fun b2 o2 (h:b2<w.heap.size) (h2:∀j x,g[j]? =some x->w.cell? ⟨b2,o2+j,none⟩=some (.int .i64 x)) j x (hx:g[j]? =some x)=>((lP hbb).1 b2 (o2+j) h).trans (h2 j x hx));clear hno hu hu1 hc;go_wp2_with fail
 go_loopg [4,8,20] g.length (fun gg s4 _s8 s20 wr=>∃k:Nat,k<=g.length/\gg=g.length-k/\s20=.int .i64 (k:Int)/\s4=.int .i64 (lT l (g.take k))/\wr=w2)
 case atStart=>exact⟨0,aU _,rfl,rfl,rfl,rfl⟩
 case round=>
  obtain⟨k,hk,hg,rfl,rfl,rfl⟩:=hrel;have HG:=hid hg;clear hg;have hsb:=HSB.out k;rw[aX,gU hk] at hsb
  by_cases hlt:k<g.length
  ·have u1:decide ((k:Int)<(g.length:Int))=true:=decide_eq_true (by omega);obtain⟨b2,o2,rfl,hb2,hcc⟩:=hA2 (by omega);obtain⟨x,hx⟩:=dH hlt;have c1:=HC2.out b2 o2 hb2 hcc k x hx;have hxb:=HX.out x (cH hx);have hlx:=HL.out x hxb;have hlb:=HLB.out x hxb;have HT:=hid (TD (l:=l) hx);obtain⟨X,rfl⟩:∃X:Nat,x=(X:Int):=⟨x.toNat,by omega⟩;rw[Int.toNat_natCast] at hlx hlb HT;have c2:=HC.out X _ hlx;obtain⟨S,hS⟩:∃S,S=lT l (g.take k):=⟨_,rfl⟩;obtain⟨D,hD⟩:∃D,D=l.getD X 0:=⟨_,rfl⟩;rw[<-hS,<-hD] at HT;rw[<-hS] at hsb ⊢;rw[<-hD] at hlb c2
   have m1:aI.wrap (S+D)=S+D:=by rw[aM];omega
   have v1:(X:Int)<(l.length:Int):=hxb.2;have v2:X<l.length:=by omega
   clear hx hlx hcc hA2 hS hD hxb;go_wp2_with fail;have hg:=HG.out
   go_roundg (g.length-(k+1))
   case measure=>omega
   case rel=>exact⟨k+1,by omega,rfl,by go_num,by rw[HT.out],rfl⟩
  ·have u1:decide ((k:Int)<(g.length:Int))=false:=decide_eq_false (by omega);rw[cS (by omega)];go_wp2_with fail
   go_ret2
   exact⟨rfl,hbb⟩
theorem aQp (s:ByteArray) (p:Int) (w:World) (hs:s.size<=1000000) (hp1: -9223372036854775808<=p) (hp2:p<=9223372036854775807):
  Calls Tryz.prog 111 #[.string s,.int .i64 p] w fun e w'=>e=.returned (.tuple #[.string (mkS (cG s.data.toList p).1),.int .i64 (cG s.data.toList p).2.1,.int .i64 (cG s.data.toList p).2.2])/\Below w.heap.size w w':=by
 have hL:s.data.toList.length=s.size:=by simp
 have hz:=VR s.data.toList p;have hget:=fun W=>sT s p 16 W hs (by decide) hp1 hp2
 have hlt16:=iA s.data.toList p 16;rw[hL] at hz;obtain⟨E0,hE0⟩:∃E,E=aO s.size p 16:=⟨_,rfl⟩;obtain⟨F,hF⟩:∃F,F=aE s.data.toList p 16:=⟨_,rfl⟩;rw[<-hF,<-hE0] at hz hget;rw[<-hF] at hlt16;have hF64:F<18446744073709551616:=by omega
 have hpb:E0=0->0<=p/\p<=8000000:=fun h=>by
  have:=fQ (n:=s.size) (at':=p) (k:=16) (by rw[<-hE0];exact h);omega
 obtain⟨T0,hT0⟩:∃T0:Bool,T0=(F==0):=⟨_,rfl⟩;have t0:((F:Int)==0)=T0:=by
  rw[hT0]
  by_cases h:F=0
  ·rw[h];rfl
  ·rw[beq_eq_false_iff_ne.2 h,beq_eq_false_iff_ne];omega
 obtain⟨P16,hP16⟩:∃q:Int,q=aI.wrap (p+16):=⟨_,rfl⟩;have hPw:E0=0->P16=p+16:=fun h=>by
  have:=hpb h;rw[hP16,aM];omega
 have HF:=hid hF;have HL:=hid hL;have HST:=hid (show(E0=0/\cJ s.data.toList p 0=([],P16,T0||false,0))\/(E0≠0/\(cJ s.data.toList p 0).2.2.2=E0) by
  by_cases h:E0=0
  ·left;exact⟨h,by rw[hz,hPw h,<-hT0,h,xK]⟩
  ·right;exact⟨h,by rw[hz]⟩)
 have HPB:=hid hpb;have m0:=hP16.symm;clear hF hz hL hT0 hPw hpb hP16 hE0;go_enter Tryz.func111,Tryz.ntmps111;go_wp2_with fail;refine(hget _).mono ?_;rintro e w1 ⟨rfl,rfl⟩;go_wp2_with fail
 go_loopg [1,6,7,8,10] 16 (fun g s1 s6 s7 s8 s10 wr=>∃(k:Nat) (o:List UInt8) (nx:Int) (emp:Bool) (E:Int),k<=16/\g=16-k/\s10=.int .i64 (k:Int)/\s1=.int .i64 nx/\s8=.bool emp/\s6=.int .i64 E/\Hid ((E=0/\cJ s.data.toList p k=(o,nx,T0||emp,0))\/(E≠0/\(cJ s.data.toList p k).2.2.2=E))/\o.length<=16*k/\OwB wr w1.heap.size s7 o/\Below w1.heap.size w1 wr)
 case atStart=>exact⟨0,[],P16,false,E0,by omega,rfl,rfl,rfl,rfl,rfl,HST,by simp,Ow.nil _ _ _,aB _ _⟩
 case round=>
  obtain⟨k,o,nx,emp,E,hk,hg,rfl,rfl,rfl,rfl,HU,hol,hown,hbel⟩:=hrel;have HG:=hid hg;clear hg m0;have hbs:=hbel.size
  by_cases hE:E=0
  rotate_left
  ·have t2:(E==0)=false:=by rw[beq_eq_false_iff_ne];exact hE
   have t3:(E != 0)=true:=by rw[bne_iff_ne];exact hE
   have hU:cG s.data.toList p=([],0,E):=by
    rcases HU.out with⟨h,_⟩|⟨_,h⟩
    ·exact absurd h hE
    ·exact LH hE hk h
   have HUU:=hid hU;clear hU hE
   by_cases hlt:k<16
   ·have t1:decide ((k:Int)<16)=true:=decide_eq_true (by omega);go_wp2_with fail
    go_ret3
    exact⟨by rw[HUU.out];rfl,hbel⟩
   ·have t1:decide ((k:Int)<16)=false:=decide_eq_false (by omega);go_wp2_with fail
    go_ret3
    exact⟨by rw[HUU.out];rfl,hbel⟩
  ·subst hE;have hU:cJ s.data.toList p k=(o,nx,T0||emp,0):=by
    rcases HU.out with⟨_,h⟩|⟨h,_⟩
    ·exact h
    ·exact absurd rfl h
   have hp0:0<=p/\p<=8000000:=by
    apply HPB.out
    by_cases h:E0=0
    ·exact h
    ·have h0:(cJ s.data.toList p 0).2.2.2=E0:=by
      rcases HST.out with⟨h1,_⟩|⟨_,h1⟩
      ·exact absurd h1 h
      ·exact h1
     have h2:=uY (s:=s.data.toList) (at':=p) (k:=0) (by rw[h0];exact h) k;rw[iZ] at h2;rw[h2] at hU;rw[hU] at h0;exact h0.symm
   have hbd:=yE s.data.toList p k;rw[hU] at hbd;have hnx:=hbd.2 rfl;simp only at hnx;clear hbd
   by_cases hlt:k<16
   ·have t1:decide ((k:Int)<16)=true:=decide_eq_true (by omega);obtain⟨q,hq⟩:∃q,q=15-k:=⟨_,rfl⟩;have m1:aI.wrap (15-(k:Int))=(q:Int):=by rw[aM];omega
    have m1':(15:Int)-(k:Int)=(q:Int):=by omega
    have m2:min q 64=q:=by omega
    have e4:=IY F q hF64;obtain⟨b,hb⟩:∃b,b=F.testBit q:=⟨_,rfl⟩;rw[<-hb] at e4;have HB:=hid (show(aE s.data.toList p 16).testBit (15-k)=b by rw[<-HF.out,<-hq,hb]);clear hq hb
    cases b with
    |false=>
     have HS:=hid (VS hU HB.out);have e5:((false.toNat:Nat):Int)=0:=rfl;rw[e5] at e4;clear hU;go_wp2_with fail;have hg:=HG.out
     go_roundg (16-(k+1))
     case measure=>omega
     case rel=>exact⟨k+1,o,nx,emp,0,by omega,rfl,by go_num,rfl,rfl,rfl,hid (.inl ⟨rfl,HS.out⟩),by omega,hown,hbel⟩
    |true=>
     have e5:((true.toNat:Nat):Int)=1:=rfl;rw[e5] at e4;have hget2:=fun W=>sT s nx 16 W hs (by decide) (by omega) (by omega)
     have hV:=iA s.data.toList nx 16;have hrl:=CE (aE s.data.toList nx 16) k;obtain⟨nx2,hnx2⟩:∃q:Int,q=nx+16:=⟨_,rfl⟩;have m3:aI.wrap (nx+16)=nx2:=by rw[aM];omega
     have hST:(aO s.size nx 16=0/\cJ s.data.toList p (k+1)=(o++jS (aE s.data.toList nx 16) k 16,nx2,T0||(emp||aE s.data.toList nx 16==0),0))\/(aO s.size nx 16≠0/\(cJ s.data.toList p (k+1)).2.2.2=aO s.size nx 16):=by
      by_cases h:aO s.size nx 16=0
      ·left
       have:=VU hU HB.out (by rw[HL.out];exact h);rw[Bool.or_assoc] at this;exact⟨h,by rw[this,hnx2]⟩
      ·right
       have:=VT hU HB.out (by rw[HL.out];exact h);rw[HL.out] at this;exact⟨h,this⟩
     obtain⟨V,hVV⟩:∃V,V=aE s.data.toList nx 16:=⟨_,rfl⟩;obtain⟨E2,hE2⟩:∃E,E=aO s.size nx 16:=⟨_,rfl⟩;rw[<-hVV,<-hE2] at hget2 hST;rw[<-hVV] at hV hrl;have hV64:V<18446744073709551616:=by omega
     obtain⟨T1,hT1⟩:∃T1:Bool,T1=(V==0):=⟨_,rfl⟩;have u1:((V:Int)==0)=T1:=by
      rw[hT1]
      by_cases h:V=0
      ·rw[h];rfl
      ·rw[beq_eq_false_iff_ne.2 h,beq_eq_false_iff_ne];omega
     rw[<-hT1] at hST;have HST2:=hid hST;obtain⟨kk,hkk⟩:∃kk,kk=16*k:=⟨_,rfl⟩;have m4:aI.wrap ((k:Int)*16)=(kk:Int):=by rw[aM];omega
     have m5:(k:Int)*16=(kk:Int):=by omega
     have HKK:=hid hkk;have hkk240:kk<=240:=by omega
     have HRL:=hid hrl;clear hkk hT1 hnx2 hVV hrl hST hU hE2;go_wp2_with fail;refine(hget2 _).mono ?_;rintro e w2 ⟨rfl,rfl⟩;go_upto_region 12 with fail
     go_cut [8] (fun c8 wx=>c8=.bool (emp||T1)/\wx=w2)
     case first=>
      cases emp with
      |true=>go_wp2_with fail;go_meet;exact⟨rfl,rfl⟩
      |false=>go_wp2_with fail;go_meet;exact⟨rfl,rfl⟩
     case rest=>
      obtain⟨rfl,rfl⟩:=hcut;go_wp2_with fail
      go_loopg [7,48] 16 (fun g s7 s48 wx=>∃i:Nat,i<=16/\g=16-i/\s48=.int .i64 (i:Int)/\OwB wx w1.heap.size s7 (o++jS V k i)/\Below w1.heap.size w1 wx)
      case atStart=>exact⟨0,by omega,rfl,rfl,by rw[show jS V k 0=[] from rfl,eE];exact hown,hbel⟩
      case round=>
       obtain⟨i,hi,hg,rfl,hown2,hbel2⟩:=hrel;have HG2:=hid hg;clear hg e4
       by_cases hil:i<16
       ·have u2:decide ((i:Int)<16)=true:=decide_eq_true (by omega);obtain⟨q2,hq2⟩:∃q,q=15-i:=⟨_,rfl⟩;have m6:aI.wrap (15-(i:Int))=(q2:Int):=by rw[aM];omega
        have m6':(15:Int)-(i:Int)=(q2:Int):=by omega
        have m7:min q2 64=q2:=by omega
        have e6:=IY V q2 hV64;have HRS:=hid (VX V k i);rw[<-hq2] at HRS;have hlen:=HRL.out i
        cases hb2:V.testBit q2 with
        |false=>
         rw[hb2,show((false.toNat:Nat):Int)=0 from rfl] at e6;rw[hb2] at HRS;clear hb2 hq2;go_wp2_with fail;have hg:=HG2.out
         go_roundg (16-(i+1))
         case measure=>omega
         case rel=>exact⟨i+1,by omega,rfl,by go_num,by rw[HRS.out,if_neg (by decide),eE];exact hown2,hbel2⟩
        |true=>
         rw[hb2,show((true.toNat:Nat):Int)=1 from rfl] at e6;rw[hb2] at HRS;obtain⟨c,hc⟩:∃c:Nat,c=kk+i:=⟨_,rfl⟩;have m8:aI.wrap ((kk:Int)+(i:Int))=(c:Int):=by rw[aM];omega
         have m8':(kk:Int)+(i:Int)=(c:Int):=by omega
         obtain⟨b,hb⟩:∃b:UInt8,b=eK c:=⟨_,rfl⟩;have hbt:b.toNat=c:=by rw[hb,nP];omega
         have m9:pX.wrap (c:Int)=(b.toNat:Int):=by rw[hbt,xQ];omega
         have m9':(c:Int)%256=(b.toNat:Int):=by rw[hbt];omega
         have HBB:=hid (show eK (16*k+i)=b by rw[hb,hc,HKK.out]);have hsz2:=hbel2.size;clear hb2 hq2 hc hb hbt;go_wp2_with (at_builtin;refine yZ rfl _ _ rfl w1.heap.size _ _ rfl (Ow.alloc hown2 _) wr.heap.size b rfl ?_ ?_ ?_ ?_;(exact bS _ _ _);(rw[aL];omega);(simp;omega);intro v' w3 hown' hB hgrow);have hg:=HG2.out
         go_roundg (16-(i+1))
         case measure=>omega
         case rel=>exact⟨i+1,by omega,rfl,by go_num,by rw[HRS.out,if_pos trivial,HBB.out,<-cF];exact hown',(hbel2.alloc hsz2 _).trans hB⟩
       ·have u2:decide ((i:Int)<16)=false:=decide_eq_false (by omega);have hie:i=16:=by omega
        subst hie;have hr16:=HRL.out 16;go_wp2_with fail;have hg:=HG.out
        go_roundg (16-(k+1))
        case measure=>omega
        case rel=>exact⟨k+1,_,nx2,emp||T1,E2,by omega,rfl,by go_num,rfl,rfl,rfl,HST2,by rw[aL];omega,hown2,hbel2⟩
   ·have t1:decide ((k:Int)<16)=false:=decide_eq_false (by omega);have hke:k=16:=by omega
    subst hke;have hfin:=VW hU
    cases emp with
    |true=>
     rw[Bool.or_true,if_pos rfl] at hfin;have HFN:=hid hfin;clear hfin hU;go_wp2_with fail
     go_ret3
     exact⟨by rw[HFN.out];rfl,hbel⟩
    |false=>
     cases T0 with
     |true=>
      rw[xK,if_pos rfl] at hfin;have HFN:=hid hfin;clear hfin hU;go_wp2_with fail
      go_ret3
      exact⟨by rw[HFN.out];rfl,hbel⟩
     |false=>
      rw[xK,if_neg (by decide)] at hfin;have HFN:=hid hfin;clear hfin hU;obtain⟨a,n,c,rfl,HN,hc1,hc2⟩:=hown.openN;have hcv:(convert 45 9 (.slice a n c)).run Tryz.prog wr=.ok (.string (mkS o)) wr:=lQ hown.rd;go_wp2_with fail
      go_ret3
      exact⟨by rw[HFN.out];rfl,hbel⟩
end
section
open Go.RowKit Go Go.Shelf
attribute [local go_sem] Oper.semAt_some
def vE:Nat->List UInt8->List (List UInt8)
 |0,_=>[]
 |_+1,[]=>[]
 |f+1,c::r=>(c::r).take (dX (c::r))::vE f ((c::r).drop (dX (c::r)))
theorem aBc:∀f g s,s.length<=f->s.length<=g->vE f s=vE g s
 |0,g,s,hf,hg=>by
  have:s=[]:=mV.1 (by omega);subst this
  cases g<;>rfl
 |f+1,0,s,hf,hg=>by
  have:s=[]:=mV.1 (by omega);subst this;rfl
 |f+1,g+1,[],_,_=>rfl
 |f+1,g+1,c::r,hf,hg=>by
  unfold vE;have:=pS (c::r) (by simp);rw[aBc f g _ (by rw[cI];simp only[cR] at*;omega) (by rw[cI];simp only[cR] at*;omega)]
def jX (s:List UInt8):List (List UInt8):=vE s.length s
theorem MZ:jX []=[]:=rfl
theorem NA (s:List UInt8) (h:s≠[]):jX s=s.take (dX s)::jX (s.drop (dX s)):=by
 cases s with
 |nil=>exact absurd rfl h
 |cons c r=>
  have:=pS (c::r) h;show vE (r.length+1) (c::r)=_;unfold vE jX;rw[aBc r.length ((c::r).drop (dX (c::r))).length _ (by rw[cI];simp only[cR] at*;omega) (aA _)]
def zX (x:List UInt8):Array Value:=#[.string (mkS x)]
theorem NB {B:Nat} {J:List (List UInt8)->World->Prop} (h:AbidesFrom B J) {s:List (List UInt8)} {A:World} (hs:J s A) (k:Nat):J s (A.drewN k):=
 h s A _ none hs ⟨rfl,rfl,rfl,aA _,fun _ _ _=>rfl⟩ (fun r e=>by cases e)
theorem aR0 (n:Nat) (hn:1<=n) (l Bs n₀:Nat) (all:ByteArray) (hall:all.size<=1000000) (J:List (List UInt8)->World->Prop) (hJb:∀s A v,J s A->J s (A.setCell ⟨Bs,0,none⟩ v)) (B:Nat) (hJa:AbidesFrom B J)
  (hY:∀pre x W1,J pre W1->(∃r,pre++x::r=jX all.data.toList)->YieldAt eA (n-1) Tryz.prog l (zX x) W1 fun e W'=>e=.returned (.bool true)/\J (pre++[x]) W'/\KpB n₀ Bs W1 W')
  (W:World) (hA:Arr W Bs 9 [.string all]) (h0:J [] W):
  mD eA n Tryz.prog 127 #[.func (.yield l) #[] #[],.pointer (some ⟨Bs,0,none⟩)] W fun e W'=>(∃v,e=.returned v)/\J (jX all.data.toList) W':=by
 refine tW Tryz.func127 rfl trivial ?_ rfl;simp only[Tryz.ntmps127,mY,cR,cX,lZ,mZ,lL,lM,lN,lO,iG,gE];have HALL:=hid (show ∃L,L=jX all.data.toList from⟨_,rfl⟩)
 gi_wp2_with fail
 gi_loopg [3] all.size (fun g _s3 wr=>∃(pre:List (List UInt8)) (s:ByteArray),g=s.size/\s.size<=1000000/\pre++jX s.data.toList=jX all.data.toList/\J pre wr/\Arr wr Bs 9 [.string s])
 case atStart=>exact⟨[],all,rfl,hall,rfl,h0,hA⟩
 case round=>
  obtain⟨pre,s,hg,hr6,hp,hJ,hA⟩:=hrel;have HG:=hid hg;have HP:=hid hp;have HL:=hid (show s.data.toList.length=s.size by simp);clear hg hp;have c0:=hA.cell (i:=0) rfl
  by_cases hne:s.data.toList=[]
  ·have te:s.toList.isEmpty=true:=by rw[Lib.toList_data,hne];rfl
   have hp:=HP.out;rw[hne,MZ,eE] at hp;have HP2:=hid hp;clear hp HP hne
   gi_wp2_with fail
   go_end0
   exact⟨⟨_,rfl⟩,by rw[<-HP2.out];exact hJ⟩
  ·have hrl:0<s.size:=by rw[<-HL.out];exact List.length_pos_iff.2 hne
   have te:s.toList.isEmpty=false:=LR hne;have HNE:=hid hne;clear hne
   gi_wp2_with fail
   gi_loopg [3] 255 (fun g s3 wx=>∃k:Nat,1<=k/\k<=255/\k<=s.size/\g=256-k/\s3=.int .i64 (k:Int)/\Hid (∀j,j<k->s.data.toList[j]? =s.data.toList[0]?)/\J pre wx/\Arr wx Bs 9 [.string s])
   case atStart=>exact⟨1,by omega,by omega,by omega,by omega,rfl,hid (fun j hj=>by rw[show j=0 by omega]),hJ,hA⟩
   case round=>
    obtain⟨k,hk1,hk2,hk3,hg,rfl,HJ,hJx,hAx⟩:=hrel;have HG1:=hid hg;clear hg c0;have c1:=hAx.cell (i:=0) rfl;obtain⟨T,hT⟩:∃T:Bool,T=decide (k<s.size/\k<255/\s.data.toList[k]? =s.data.toList[0]?):=⟨_,rfl⟩;have HT:=hid hT;clear hT;obtain⟨m,hm0,hm1,hm2⟩:=yI s.size 255 (by decide);have hm3:min (s.size:Int) 255=(m:Int):=by rw[<-hm0];omega
    gi_upto_region 2 with fail
    gi_cut [18,21,22,23,24,25,26,27,28,29] from 6 (fun c18 d21 d22 d23 d24 d25 d26 d27 d28 d29 wx=>(c18=.bool T/\d21=u21/\d22=u22/\d23=u23/\d24=u24/\d25=u25/\d26=u26/\d27=u27/\d28=u28/\d29=u29)/\J pre wx/\Arr wx Bs 9 [.string s])
    case first=>
     by_cases g1:k<m
     ·have u1:decide ((k:Int)<(m:Int))=true:=decide_eq_true (by omega);have g2:k<s.size:=by omega
      have e2:=eW s k g2;have e0:=eW s 0 hrl
      by_cases g3:s[k]=s[0]
      ·have u3:((s[k].toNat:Int)==(s[0].toNat:Int))=true:=by rw[g3];simp
       have u4:decide ((s[k].toNat:Int)=(s[0].toNat:Int))=true:=decide_eq_true (by rw[g3]);have HT2:=hid (show T=true by rw[HT.out,decide_eq_true];exact⟨g2,by omega,by rw[e2,e0,g3]⟩);clear g3 e2 e0
       gi_quiet (fail)
       gi_wp2_with fail
       gi_meet
       exact⟨⟨by rw[HT2.out],rfl,rfl,rfl,rfl,rfl,rfl,rfl,rfl,rfl⟩,NB hJa hJx _,hAx.drewN _⟩
      ·have hne:(s[k].toNat:Int)≠(s[0].toNat:Int):=fun e=>g3 (UInt8.toNat_inj.1 (by omega))
       have u3:((s[k].toNat:Int)==(s[0].toNat:Int))=false:=by rw[beq_eq_false_iff_ne];exact hne
       have u4:decide ((s[k].toNat:Int)=(s[0].toNat:Int))=false:=decide_eq_false hne;have HT2:=hid (show T=false by rw[HT.out,decide_eq_false];rintro⟨_,_,h3⟩;rw[e2,e0] at h3;injection h3 with h3;exact g3 h3);clear g3 e2 e0 hne
       gi_quiet (fail)
       gi_wp2_with fail
       gi_meet
       exact⟨⟨by rw[HT2.out],rfl,rfl,rfl,rfl,rfl,rfl,rfl,rfl,rfl⟩,NB hJa hJx _,hAx.drewN _⟩
     ·have u1:decide ((k:Int)<(m:Int))=false:=decide_eq_false (by omega);have HT2:=hid (show T=false by rw[HT.out,decide_eq_false];rintro⟨h1,h2,_⟩;omega)
      gi_quiet (fail)
      gi_wp2_with fail
      gi_meet
      exact⟨⟨by rw[HT2.out],rfl,rfl,rfl,rfl,rfl,rfl,rfl,rfl,rfl⟩,NB hJa hJx _,hAx.drewN _⟩
    case rest=>
     obtain⟨⟨rfl,rfl,rfl,rfl,rfl,rfl,rfl,rfl,rfl,rfl⟩,hJy,hAy⟩:=hcut;clear hm0 hm3 hm1 hm2 c1 hJx hAx
     cases T with
     |true=>
      have hgo:=of_decide_eq_true HT.out.symm;have HS:=hid hgo.2.2;have g1:=hgo.1;have g2:=hgo.2.1;clear hgo
      gi_wp2_with fail
      have hg:=HG1.out
      gi_roundg (256-(k+1))
      case measure=>omega
      case rel=>exact⟨k+1,by omega,by omega,by omega,rfl,by go_num,hid (fun j hj=>by rcases Nat.lt_or_ge j k with h|h;exact HJ.out j h;rw[show j=k by omega];exact HS.out),hJy,hAy⟩
     |false=>
      have hno:=of_decide_eq_false HT.out.symm;have hpn:dX s.data.toList=k:=DV hk2 (by rw[HL.out];exact hk3) HJ.out (by
       by_cases h1:k<s.size
       ·by_cases h2:k<255
        ·exact .inr (.inr (fun h3=>hno ⟨h1,h2,h3⟩))
        ·exact .inl (by omega)
       ·exact .inr (.inl (by rw[HL.out];omega)))
      have hpc:=NA s.data.toList HNE.out;rw[hpn] at hpc;have hx0:s.extract 0 k=mkS (s.data.toList.take k):=by rw[nT,AP,AF]
      obtain⟨s2,hs2⟩:∃s2,s2=s.extract k s.size:=⟨_,rfl⟩;have hd2:s2.data.toList=s.data.toList.drop k:=by
       rw[hs2,nT,fW,cS (by rw[cI,HL.out];omega)]
      have hsz2:s2.size=s.size-k:=by
       have:s2.data.toList.length=s2.size:=by simp
       rw[<-this,hd2,cI,HL.out]
      obtain⟨x,hx⟩:∃x,x=s.data.toList.take k:=⟨_,rfl⟩;rw[<-hx] at hx0 hpc;have hpre:=HP.out;rw[hpc] at hpre;obtain⟨fn,tmps,assign,body,hy,hR⟩:=hY pre x wc hJy ⟨_,hpre⟩;unfold zX at hy;have hs2':s.extract k s.size=s2:=hs2.symm;have HPR:=hid (show(pre++[x])++jX s2.data.toList=jX all.data.toList by rw[hd2,cF];exact hpre);have c1:=hAy.cell (i:=0) rfl;clear hs2 hd2 hx hpc hpre hno hpn HT;have q1:(k:Int)<=(s.size:Int):=by omega
      gi_wp2_with fail
      refine hR.mono ?_;rintro e W3 ⟨rfl,hJ3,hk3'⟩;have hA3:Arr W3 Bs 9 [.string s]:=by unfold Arr;rw[hk3'.2];exact hAy
      have d0:=hA3.cell (i:=0) rfl;have f3:=hA3.free 0
      gi_wp2_with fail
      have hg:=HG.out
      gi_roundg s2.size
      case measure=>omega
      case rel=>exact⟨pre++[x],s2,rfl,by omega,HPR.out,hJb _ _ _ hJ3,hA3.set 0 _⟩
theorem aBd (n:Nat) (hn:1<=n) (Bs n₀:Nat) (all:ByteArray) (hall:all.size<=1000000) (w:World) (hA:Arr w Bs 9 [.string all]):
  MN n Tryz.prog 127 #[.pointer (some ⟨Bs,0,none⟩)] zX Bs (KpB n₀ Bs) (jX all.data.toList) w:=fun l J W hW hJa hJb hY h0=>
 aR0 n hn l Bs n₀ all hall J hJb _ hJa hY W (hA.below hW hA.lt) h0
theorem aBe (n:Nat) (all:ByteArray) (w:World):
  mD eA n Tryz.prog 58 #[.string all] w fun e w'=>e=.returned (.func (.func 127) #[] #[.pointer (some ⟨w.heap.size,0,none⟩)])/\w'=w.alloc (.cells #[.string all] 9):=by
 refine tW Tryz.func58 rfl trivial ?_ rfl;simp only[Tryz.ntmps58,mY,cR,cX,lZ,mZ,lL,lM,lN,lO,iG,gE]
 gi_wp2
 go_ret;exact⟨rfl,rfl⟩
def pkL (x:List UInt8):List UInt8:=x.take (min x.length 4)++if 4<=x.length then[eK (x.length-4)] else[]
theorem aR5 {s:List UInt8} {n:Nat} (h:n<=s.length):mN s n=pkL (s.take n):=by
 unfold mN pkL;rw[aX,gU h,List.take_take,show min (min n 4) n=min n 4 by omega]
theorem FE:∀(k:Nat) (s:List UInt8),s.length<=k->bC s=(jX s).flatMap pkL
 |0,s,h=>by
  have:s=[]:=mV.1 (by omega);subst this;rfl
 |k+1,s,h=>by
  by_cases hs:s=[]
  ·subst hs;rfl
  ·have hb:=pS s hs;rw[yU s hs,NA s hs,List.flatMap_cons,aR5 hb.2.2,FE k _ (by rw[cI];omega)]
theorem NC:∀(k:Nat) (s:List UInt8),s.length<=k->∀x∈jX s,1<=x.length/\x.length<=255
 |0,s,h,x,hx=>by
  have:s=[]:=mV.1 (by omega);subst this;rw[MZ] at hx;simp at hx
 |k+1,s,h,x,hx=>by
  by_cases hs:s=[]
  ·subst hs;rw[MZ] at hx;simp at hx
  ·have hb:=pS s hs;rw[NA s hs] at hx;rcases List.mem_cons.1 hx with rfl|hx
   ·rw[aX];omega
   ·exact NC k _ (by rw[cI];omega) x hx
theorem aBg {all:List UInt8} {pre r:List (List UInt8)} {x:List UInt8} (h:pre++x::r=jX all):(pre.flatMap pkL).length<=2*all.length:=by
 have h1:=(oS all.length all (aA _)).1;rw[FE all.length all (aA _),<-h,pZ,aL] at h1;omega
theorem Bld.same {w w':World} {B b:Nat} {l:List UInt8} (h:Bld w B b l) (hk:∀k o,w.heap[k]? =some o->o.isCells=true->(k=b\/∃c fz,o=.cells c 5 fz)->w'.heap[k]? =some o):Bld w' B b l:=by
 have key:∀p,Lib.BuilderAtF 112 5 B b p (nS l) w->Lib.BuilderAtF 112 5 B b p (nS l) w':=by
  rintro p ⟨hB,v,hb,hown,hne⟩;refine⟨hB,v,hk b _ hb rfl (.inl rfl),⟨hown.1,?_⟩,hne⟩;rcases hown.2 with hn|⟨g,cap,cur,fz,e,hBg,hg,rest⟩
  ·exact .inl hn
  ·exact .inr ⟨g,cap,cur,fz,e,hBg,hk g _ hg rfl (.inr ⟨_,_,rfl⟩),rest⟩
 exact h.elim (fun x=>.inl (key _ x)) (fun x=>.inr (key _ x))
theorem Bld.kept {w w':World} {B b:Nat} {l:List UInt8} {row:Option Nat} (h:Bld w B b l) (hg:w.grownBy w' row) (hr:∀r,row=some r->∃o:Obj,w.heap[r]? =some o/\o.isCells=false):Bld w' B b l:=
 h.same fun k o hk hc _=>(hg.block k (gQ.1 hk).1 (fun e=>by
  obtain⟨o',ho',hn⟩:=hr k e.symm;rw[hk] at ho'
  injection ho' with ho'
  rw[ho',hn] at hc;exact absurd hc (by decide))).trans hk
theorem Bld.setBox {w:World} {B b Bs:Nat} {l:List UInt8} (h:Bld w B b l) {x v:Value} (hA:Arr w Bs 9 [x]) (hne:b≠Bs):Bld (w.setCell ⟨Bs,0,none⟩ v) B b l:=
 h.same fun k o hk _ ho=>by
  have hkB:k≠Bs:=by
   rintro rfl;rcases ho with e|⟨c,fz,rfl⟩
   ·exact hne e.symm
   ·unfold Arr at hA;rw[hk] at hA
    injection hA with hA
    injection hA with _ h2 _
    exact absurd h2 (by decide)
  rw[kT w ⟨Bs,0,none⟩ k v (fun e=>hkB e)];exact hk
theorem Arr.keptB {w w':World} {b:Nat} {e:TypeId} {l:List Value} {row:Option Nat} (h:Arr w b e l) (hg:w.grownBy w' row) (hr:∀r,row=some r->∃o:Obj,w.heap[r]? =some o/\o.isCells=false):Arr w' b e l:=by
 have h2:w.heap[b]? =some (.cells l.toArray e (0,0)):=h;show w'.heap[b]? =_;rw[hg.block b h.lt (fun q=>by
  obtain⟨o',ho',hn⟩:=hr b q.symm;rw[h2] at ho'
  injection ho' with ho'
  rw[<-ho'] at hn;exact tQ hn)]
 exact h2
theorem Arr.others {w w':World} {g b:Nat} {x:Value} (h:Arr w g 9 [x]) (hk:GY 5 (some b) w w') (hne:g≠b):Arr w' g 9 [x]:=
 hk g _ h (fun e=>hne (by injection e)) (fun c fz e=>by injection e with _ h2 _;exact absurd h2 (by decide))
theorem aBh {B b:Nat} {w w':World} (hs:w.heap.size<=w'.heap.size) (hk:GY 5 (some b) w w') (hb:∀o,w.heap[b]? =some o->o.isCells=true):KeepsFrom B w w':=
 ⟨hs,fun k o _ ho hc=>hk k o ho (fun e=>by injection e with e;subst e;rw[hb o ho] at hc;exact absurd hc (by decide)) (fun c fz e=>by rw[e] at hc;exact tQ hc)⟩
theorem aR6 (n:Nat) (hn:3<=n) (s:ByteArray) (w:World) (hs:s.size<=1000000):
  mD eA n Tryz.prog 22 #[.string s] w fun e w'=>e=.returned (.string (mkS (bC s.data.toList)))/\Below w.heap.size w w':=by
 have h1:1<=n:=by omega
 refine xX Tryz.func22 rfl trivial ?_ rfl;simp only[Tryz.ntmps22,mY,cR,cX,lZ,mZ,lL,lM,lN,lO,iG,gE]
 gi_wp2_with fail
 refine⟨trivial,(aBe (n-1) s _).mono ?_⟩;rintro e w' ⟨rfl,rfl⟩
 gi_wp2_with fail
 have hB0:=aAp w;have hB1:Bld ((w.alloc (.cells #[.pointer none,.slice none 0 0] 112)).alloc (.cells #[.string s] 9)) w.heap.size w.heap.size []:=hB0.same fun k o hk _ _=>by rw[Below.heap_alloc _ _ _ (gQ.1 hk).1];exact hk
 have hA1:=Arr.new (w.alloc (.cells #[.pointer none,.slice none 0 0] 112)) 9 [.string s];rw[fV] at hA1;change Arr ((w.alloc (.cells #[.pointer none,.slice none 0 0] 112)).alloc (.cells #[.string s] 9)) _ _ _ at hA1;have hs1:((w.alloc (.cells #[.pointer none,.slice none 0 0] 112)).alloc (.cells #[.string s] 9)).heap.size=w.heap.size+1+1:=by simp
 have hb1:Below w.heap.size w ((w.alloc (.cells #[.pointer none,.slice none 0 0] 112)).alloc (.cells #[.string s] 9)):=((aB _ w).alloc (aA _) _).alloc (by simp) _;clear hB0;generalize (w.alloc (.cells #[.pointer none,.slice none 0 0] 112)).alloc (.cells #[.string s] 9)=w1 at*
 refine MO (w0:=w1) (Bs:=w.heap.size+1) h1 (gf:=127) (lb:=#[.pointer (some ⟨w.heap.size+1,0,none⟩)]) rfl (fN Tryz.func127 (by kernel_rfl) rfl)
  (aBd (n-1) (by omega) (w.heap.size+1) w.heap.size s hs w1 hA1) DZ (LM (by omega) (by omega)) (aB _ _) (fun _=>rfl) (by omega)
  (fun pre W=>(Bld W w.heap.size w.heap.size (pre.flatMap pkL)/\∃x,Arr W (w.heap.size+1) 9 [x])/\Below w.heap.size w W)
  (GS (Own.from (fun s A B row hs hg hr=>⟨hs.1.kept hg hr,by obtain⟨x,hx⟩:=hs.2;exact⟨x,hx.keptB hg hr⟩⟩) _) (GT (aA _) (by omega)))
  (fun pre A v ⟨⟨h1,x,h2⟩,h3⟩=>⟨⟨h1.setBox h2 (by omega),v,h2.set 0 v⟩,h3.setCell (p:=⟨w.heap.size+1,0,none⟩) (by show w.heap.size<=w.heap.size+1;omega) _⟩)
  ⟨⟨hB1,_,hA1⟩,hb1⟩
  (fun x=>{tmps:=#[.string s,undef,.string ⟨#[]⟩,.pointer (some ⟨w.heap.size,0,none⟩),.string (mkS x),.string s,.func (.func 127) #[] #[.pointer (some ⟨w.heap.size+1,0,none⟩)],.string (mkS x),undef,undef,undef,undef,undef,undef,undef,undef,undef,undef,undef,undef,undef,undef,undef],defers:=[]}) ?assign ?body ?done
 case assign=>
  intro l x W K hK;unfold zX
  gi_wp2
  exact hK
 case body=>
  rintro l pre x W ⟨⟨hB,y,hA⟩,hbel⟩ ⟨r,hr⟩;have hx:=NC s.data.toList.length s.data.toList (aA _) x (by rw[<-hr];simp);have hpl:=aBg hr;rw[show s.data.toList.length=s.size by simp] at hpl;obtain⟨m,hm0,hm1,hm2⟩:=yI x.length 4 (by decide);have hm3:min (x.length:Int) 4=(m:Int):=by rw[<-hm0];omega
  have hx0:(mkS x).extract 0 m=mkS (x.take m):=by rw[nT,AP,AF,fW]
  have hsz:=hbel.size;have hq:(m:Int)<=(x.length:Int):=by omega
  have hbc:∀o,W.heap[w.heap.size]? =some o->o.isCells=true:=fun o ho=>by
   rcases hB with⟨_,v,hb,_⟩|⟨_,v,hb,_⟩
   ·rw[hb] at ho;injection ho with ho;rw[<-ho];rfl
   ·rw[hb] at ho;injection ho with ho;rw[<-ho];rfl
  gi_wp2_with fail
  refine⟨trivial,fun _=>by omega,((callsIn_wide.2 (aQu w.heap.size w.heap.size _ (mkS (x.take m)) W hB (by rw[cP,aX];omega) hsz)).inRound l).mono ?_⟩;rintro e W2 ⟨rfl,hB2,hb2,ho2⟩;rw[fW] at hB2;have hA2:=hA.others ho2 (by omega);have hk2:=aBh (B:=w1.heap.size) hb2.size ho2 hbc;have hbel2:=hbel.trans hb2
  by_cases h4:4<=x.length
  ·have t1:decide ((x.length:Int)>=4)=true:=decide_eq_true (by omega);have t2:decide ((4:Int)<=(x.length:Int))=true:=decide_eq_true (by omega);obtain⟨d,hd⟩:∃d:Nat,d=x.length-4:=⟨_,rfl⟩;obtain⟨b,hb⟩:∃b:UInt8,b=eK d:=⟨_,rfl⟩;have hbt:b.toNat=d:=by rw[hb,nP];omega
   have m1:aI.wrap ((x.length:Int)-4)=(d:Int):=by rw[aM];omega
   have m2:(x.length:Int)-4=(d:Int):=by omega
   have m3:pX.wrap (d:Int)=(b.toNat:Int):=by rw[hbt,xQ];omega
   have m4:(d:Int)%256=(b.toNat:Int):=by rw[hbt];omega
   have HPK:=hid (show pre.flatMap pkL++x.take m++[b]=(pre++[x]).flatMap pkL by
    rw[pZ,AN,cF]
    congr 1
    unfold pkL;rw[if_pos h4,hb,hd,show min x.length 4=m by omega])
   have hbc2:∀o,W2.heap[w.heap.size]? =some o->o.isCells=true:=fun o ho=>by
    rcases hB2 with⟨_,v,hb,_⟩|⟨_,v,hb,_⟩
    ·rw[hb] at ho;injection ho with ho;rw[<-ho];rfl
    ·rw[hb] at ho;injection ho with ho;rw[<-ho];rfl
   clear hb hbt hd
   gi_wp2_with fail
   refine⟨trivial,fun _=>by omega,((callsIn_wide.2 (aAm w.heap.size w.heap.size _ b W2 hB2 (by rw[aL,aX];omega) (by have:=hb2.size;omega))).inRound l).mono ?_⟩;rintro e W3 ⟨rfl,hB3,hb3,ho3⟩;have hA3:=hA2.others ho3 (by omega);have hk3:=aBh (B:=w1.heap.size) hb3.size ho3 hbc2
   gi_wp2_with fail
   exact⟨hk2.trans hk3,⟨hb2.trans hb3,hA3.trans hA.symm⟩,⟨by rw[<-HPK.out];exact hB3,_,hA3⟩,hbel2.trans hb3⟩
  ·have t1:decide ((x.length:Int)>=4)=false:=decide_eq_false (by omega);have t2:decide ((4:Int)<=(x.length:Int))=false:=decide_eq_false (by omega);have HPK:=hid (show pre.flatMap pkL++x.take m=(pre++[x]).flatMap pkL by
    rw[pZ,AN]
    congr 1
    unfold pkL;rw[if_neg h4,eE,show min x.length 4=m by omega])
   gi_wp2_with fail
   exact⟨hk2,⟨hb2,hA2.trans hA.symm⟩,⟨by rw[<-HPK.out];exact hB2,_,hA2⟩,hbel2⟩
 case done=>
  rintro D W hD ⟨⟨hB,y,hA⟩,hbel⟩ hK;rw[<-FE s.data.toList.length s.data.toList (aA _)] at hB;have hsz:=hbel.size
  gi_wp2_with fail
  refine⟨trivial,(callsIn_wide.2 (aAn w.heap.size w.heap.size _ W hB hsz)).mono ?_⟩;rintro e W2 ⟨rfl,_,hb2,ho2⟩;have hK2:W2.heap[D]? =some (.deferred (some [])):=ho2 D _ hK (fun e=>by injection e with e;omega) (fun c fz e=>by injection e)
  gi_wp2_with fail
  refine⟨by simp,.inl ⟨_,_,rfl,sJ hK2,?_⟩⟩;exact⟨_,results_tmp rfl _ _ _,rfl,(hbel.trans hb2).trans (belowK_b (w:=w1) (by omega) W2 D _ _ hD hK2 rfl rfl)⟩
theorem aR7 (s:ByteArray) (w:World) (hs:s.size<=1000000):
  Calls Tryz.prog 22 #[.string s] w fun e w'=>e=.returned (.string (mkS (bC s.data.toList)))/\Below w.heap.size w w':=
 callsIn_wide.1 (aR6 3 (aA _) s w hs)
def tL (n:Nat):Nat:=if n<4 then n else 5
theorem aR8 (n:Nat) (w:World):Calls Tryz.prog 59 #[.int .i64 (n:Int)] w fun e w'=>e=.returned (.int .i64 (tL n:Int))/\w'=w:=by
 unfold tL
 by_cases h:n<4
 ·have t1:decide ((n:Int)<4)=true:=decide_eq_true (by omega);rw[if_pos h];go_enter Tryz.func59,Tryz.ntmps59;go_wp2_with fail;go_ret;exact⟨rfl,rfl⟩
 ·have t1:decide ((n:Int)<4)=false:=decide_eq_false (by omega);rw[if_neg h];go_enter Tryz.func59,Tryz.ntmps59;go_wp2_with fail;go_ret;exact⟨rfl,rfl⟩
theorem aR9 (x:List UInt8):(pkL x).length=tL x.length:=by
 unfold pkL tL;rw[aL,aX]
 by_cases h:4<=x.length
 ·rw[if_pos h,if_neg (by omega)];simp;omega
 ·rw[if_neg h,if_pos (by omega)];simp;omega
def pC (l:List (List UInt8)):Nat:=(l.flatMap pkL).length
theorem aSa (l:List (List UInt8)) (x:List UInt8):pC (l++[x])=pC l+tL x.length:=by
 unfold pC;rw[pZ,aL,AN,aR9]
theorem aSb (n:Nat) (hn:3<=n) (s:ByteArray) (w:World) (hs:s.size<=1000000):
  mD eA n Tryz.prog 17 #[.string s] w fun e w'=>e=.returned (.int .i64 ((bC s.data.toList).length:Int))/\Below w.heap.size w w':=by
 have h1:1<=n:=by omega
 refine xX Tryz.func17 rfl trivial ?_ rfl;simp only[Tryz.ntmps17,mY,cR,cX,lZ,mZ,lL,lM,lN,lO,iG,gE]
 gi_wp2_with fail
 refine⟨trivial,(aBe (n-1) s _).mono ?_⟩;rintro e w' ⟨rfl,rfl⟩
 gi_wp2_with fail
 have hA0:=(Arr.new w 3 [.int .i64 0]).alloc (.cells #[.string s] 9);have hA1:=Arr.new (w.alloc (.cells #[.int .i64 0] 3)) 9 [.string s];rw[fV] at hA1;change Arr ((w.alloc (.cells #[.int .i64 0] 3)).alloc (.cells #[.string s] 9)) _ _ _ at hA1;change Arr ((w.alloc (.cells #[.int .i64 0] 3)).alloc (.cells #[.string s] 9)) _ _ _ at hA0;have hs1:((w.alloc (.cells #[.int .i64 0] 3)).alloc (.cells #[.string s] 9)).heap.size=w.heap.size+1+1:=by simp
 have hb1:Below w.heap.size w ((w.alloc (.cells #[.int .i64 0] 3)).alloc (.cells #[.string s] 9)):=((aB _ w).alloc (aA _) _).alloc (by simp) _;generalize (w.alloc (.cells #[.int .i64 0] 3)).alloc (.cells #[.string s] 9)=w1 at*
 refine MO (w0:=w1) (Bs:=w.heap.size+1) h1 (gf:=127) (lb:=#[.pointer (some ⟨w.heap.size+1,0,none⟩)]) rfl (fN Tryz.func127 (by kernel_rfl) rfl)
  (aBd (n-1) (by omega) (w.heap.size+1) w.heap.size s hs w1 hA1) DZ (LM (by omega) (by omega)) (aB _ _) (fun _=>rfl) (by omega)
  (fun pre W=>(Arr W w.heap.size 3 [.int .i64 (pC pre:Int)]/\∃x,Arr W (w.heap.size+1) 9 [x])/\Below w.heap.size w W)
  (GS (Own.from (fun s A B row hs hg hr=>⟨hs.1.keptB hg hr,by obtain⟨x,hx⟩:=hs.2;exact⟨x,hx.keptB hg hr⟩⟩) _) (GT (aA _) (by omega)))
  (fun pre A v ⟨⟨h1,x,h2⟩,h3⟩=>⟨⟨h1.other ⟨w.heap.size+1,0,none⟩ (by simp) v,v,h2.set 0 v⟩,h3.setCell (p:=⟨w.heap.size+1,0,none⟩) (by show w.heap.size<=w.heap.size+1;omega) _⟩)
  ⟨⟨hA0,_,hA1⟩,hb1⟩
  (fun x=>{tmps:=#[.string s,undef,.pointer (some ⟨w.heap.size,0,none⟩),.string (mkS x),.string s,.func (.func 127) #[] #[.pointer (some ⟨w.heap.size+1,0,none⟩)],.string (mkS x),undef,undef,undef,undef,undef,undef],defers:=[]}) ?assign ?body ?done
 case assign=>
  intro l x W K hK;unfold zX
  gi_wp2
  exact hK
 case body=>
  rintro l pre x W ⟨⟨hA,y,hAs⟩,hbel⟩ ⟨r,hr⟩;have hx:=NC s.data.toList.length s.data.toList (aA _) x (by rw[<-hr];simp);have hpl:=aBg hr;rw[show s.data.toList.length=s.size by simp] at hpl;change pC pre<=2*s.size at hpl;have hsz:=hbel.size;have c0:=hA.cell (i:=0) rfl;have f0:=hA.free 0;have HS:=hid (aSa pre x);have hlp:tL x.length<=5:=by unfold tL;split<;>omega
  obtain⟨q,hq⟩:∃q,q=tL x.length:=⟨_,rfl⟩;have hcall:=fun W=>(callsIn_wide (n:=n-1-1-1)).2 (aR8 x.length W)
  rw[<-hq] at hcall HS hlp;clear hq;obtain⟨a,ha⟩:∃a,a=pC pre:=⟨_,rfl⟩;rw[<-ha] at HS hpl c0;obtain⟨c,hc⟩:∃c:Nat,c=a+q:=⟨_,rfl⟩;have m1:aI.wrap ((a:Int)+(q:Int))=(c:Int):=by rw[aM];omega
  have m2:(a:Int)+(q:Int)=(c:Int):=by omega
  have m3:aI.wrap (c:Int)=(c:Int):=by rw[aM];omega
  have HC:=hid (show pC (pre++[x])=c by rw[HS.out,hc]);clear ha hc
  gi_wp2_with fail
  gi_region_with (refine⟨trivial,fun _=>by omega,((hcall _).inRound l).mono ?_⟩;rintro e w2 ⟨rfl,rfl⟩)
  all_goals
   gi_wp2_with fail
   refine⟨((iH W _ _).trans (aC3 _)).from _,⟨((aB w.heap.size W).setCell (p:=⟨w.heap.size,0,none⟩) (aA _) _).drew,kT W ⟨w.heap.size,0,none⟩ (w.heap.size+1) _ (by simp)⟩,⟨?_,y,hAs.other ⟨w.heap.size,0,none⟩ (by simp) _⟩,(hbel.setCell (p:=⟨w.heap.size,0,none⟩) (aA _) _).drew⟩;rw[HC.out];exact hA.set 0 _
 case done=>
  rintro D W hD ⟨⟨hA,y,hAs⟩,hbel⟩ hK;have c0:=hA.cell (i:=0) rfl;have f0:=hA.free 0;have HF:=hid (show pC (jX s.data.toList)=(bC s.data.toList).length by rw[FE _ _ (aA _)];rfl)
  gi_wp2_with fail
  have hK2:=(iH W ⟨w.heap.size,0,none⟩ (.int .i64 (pC (jX s.data.toList):Int))).same D _ hK rfl;refine⟨by simp,.inl ⟨_,_,rfl,sJ hK2,?_⟩⟩;have hc4:(W.setCell ⟨w.heap.size,0,none⟩ (.int .i64 (pC (jX s.data.toList):Int))).cell? ⟨w.heap.size,0,none⟩=some (.int .i64 (pC (jX s.data.toList):Int)):=World.cell?_setCell_same _ _ _ c0;have hc6:=cell_kept hc4 (grownBy_putObj' _ D (.deferred none)) (fun r e=>by cases e;exact⟨_,hK2,rfl⟩)
  refine⟨.int .i64 (pC (jX s.data.toList):Int),?_,by rw[HF.out],(hbel.setCell (p:=⟨w.heap.size,0,none⟩) (aA _) _).trans (belowK_b (w:=w1) (by omega) _ D _ _ hD hK2 rfl rfl)⟩;simp[results,Tryz.f17,go_sem,hc6]
theorem ND (s:ByteArray) (w:World) (hs:s.size<=1000000):
  Calls Tryz.prog 17 #[.string s] w fun e w'=>e=.returned (.int .i64 ((bC s.data.toList).length:Int))/\Below w.heap.size w w':=
 callsIn_wide.1 (aSb 3 (aA _) s w hs)
end
end Go.Proofs.YtiifmcicleljjaaGreatDoor
