/-
  Texts put together (part 34): the walks and the plain laws on which the statement stands.
-/
import Derived.Test.YtihbnmlinkbnkaaGreatDoorZ29
set_option maxRecDepth 100000
set_option maxHeartbeats 12800000
set_option linter.unusedVariables false
set_option linter.unusedSimpArgs false
open Go.Proofs.Tryz
open Go.Proofs.Tryz renaming prog->pG
open Decidable renaming not_not->eB
open Go.RowKit.Below renaming refl->aH
open List renaming ext_getElem?->lH,length_append->aL,nil_append->eL,take_of_length_le->cD
open Nat renaming add_assoc->fU,mod_lt->kU,zero_add->iP
namespace Go.Proofs.YtihbnmlinkbnkaaGreatDoor
section
theorem aS4 (n:Nat) (at':Int) (k:Nat):aP n at' k=0\/aP n at' k=1\/aP n at' k=2:=by grind [aP]
theorem aT2 (s t:List UInt8) {i:Nat} (h:i<8*s.length):dO (s++t) i=dO s i:=by rw[EL,aB h]
theorem aT3 (s t:List UInt8):(eR (s++t)).take (8*s.length)=eR s:=by
 apply lH
 grind [wA,aT2,eR]
theorem aCt (s t:List UInt8) {a n:Nat} (h:a+n<=8*s.length):seg (s++t) a n=seg s a n:=by
 unfold seg;rw[<-aT3 s t];apply lH
 grind
theorem qH (s t:List UInt8) (at':Int) (k:Nat):aP s.length at' k=2\/(aP (s++t).length at' k=aP s.length at' k/\aK (s++t) at' k=aK s at' k):=by grind [aS4,iG,aP,aK,aCt]
theorem aCu (s t:List UInt8) (at':Int):∀k,(dQ s at' k).2.2.2=2\/dQ (s++t) at' k=dQ s at' k
 |0=>by
  rcases qH s t at' 16 with h|⟨d,A⟩
  ·exact .inl h
  ·grind [dQ]
 |k+1=>by
  rcases aCu s t at' k with h|h
  ·grind [CC,dQ]
  ·rcases qH s t at' 16 with q|⟨_,F⟩
   ·left
    have G:(dQ s at' 0).2.2.2=2:=q;have:=CC (s:=s) (at':=at') (k:=0) (by omega) (k+1)
    grind
   grind [qH,dQ,CC,aK]
theorem aT4 (s t:List UInt8) (at':Int):(dF s at').2.2=2\/dF (s++t) at'=dF s at':=by grind [aCu,dF]
theorem aCv (s t:List UInt8):∀(f:Nat) (at' n:Int),(lQ s f at' n).2.2=2\/lQ (s++t) f at' n=lQ s f at' n
 |0,_,_=>.inl rfl
 |f+1,at',n=>by
  rcases qH s t at' 1 with h|⟨d,A⟩
  ·grind [lQ]
  ·rcases qH s t (at'+1) 1 with r|⟨F,G⟩
   ·grind [aP,lQ,aK]
   ·have H:=fun m=>aCv s t f (at'+2) m
    unfold lQ
    grind
theorem aT5 (s t:List UInt8) (at' n:Int) (d:0<=at'):(fS s at' n).2.2=2\/fS (s++t) at' n=fS s at' n:=by
 have h:=aCv s t (8*(s++t).length+2) at' n
 grind [fS,lQ,RG]
theorem SA {s:List UInt8} {at':Int} {k:Nat} (h:(bC s at' k).2.2.2≠0):∀j,bC s at' (k+j)=bC s at' k
 |0=>rfl
 |j+1=>by
  rw[<-fU];show(if(bC s at' (k+j)).2.2.2≠0 then _ else _)=_;rw[SA h j,aB h]
theorem aCw (s t:List UInt8) (at':Int) (d:0<=at'):∀k,(bC s at' k).2.2.2=2\/bC (s++t) at' k=bC s at' k
 |0=>by
  rcases qH s t at' 5 with h|⟨A,F⟩
  ·grind [bC]
  ·grind [bC]
 |k+1=>by
  rcases aCw s t at' d k with h|h
  ·grind [SA,bC]
  grind [bC,SA,EP,aT5]
theorem aT6 (s t:List UInt8) (at' n:Int):(gS s at' n).2.2=2\/gS (s++t) at' n=gS s at' n:=by grind [gS,aCw]
theorem aCx (s t:List UInt8) (tables:Int):∀(f:Nat) (at' n:Int),(lY s tables f at' n).2.2=2\/lY (s++t) tables f at' n=lY s tables f at' n
 |0,_,_=>.inl rfl
 |f+1,at',n=>by
  rcases qH s t at' 1 with h|⟨d,A⟩
  ·grind [lY]
  ·have F:=aCx s t tables f (at'+1) (n+1);unfold lY
   grind
theorem aT7 (s t:List UInt8) (tables at' n:Int) (d:0<=at'):(kN s tables at' n).2.2=2\/kN (s++t) tables at' n=kN s tables at' n:=by
 have h:=aCx s t tables (8*(s++t).length+2) at' n
 grind [kN,lY,RK]
theorem SB {s:List UInt8} {tables at':Int} {k:Nat} (h:(dR s tables at' k).2.2≠0):∀j,dR s tables at' (k+j)=dR s tables at' k
 |0=>rfl
 |j+1=>by
  rw[<-fU];show(if(dR s tables at' (k+j)).2.2≠0 then _ else _)=_;rw[SB h j,aB h]
theorem aCy (s t:List UInt8) (tables at':Int) (d:0<=at') (A:0<tables):∀k,(dR s tables at' k).2.2=2\/dR (s++t) tables at' k=dR s tables at' k
 |0=>.inr rfl
 |k+1=>by
  rcases aCy s t tables at' d A k with h|h
  ·grind [SB,dR]
  grind [dR,SB,BV,aT7]
theorem aT8 (s t:List UInt8) (at' n tables:Int):(eD s at' n tables).2.2=2\/eD (s++t) at' n tables=eD s at' n tables:=by grind [eD,aCy]
theorem aT9 (l:List Int):∀x∈l,x<=mQ l:=by
 unfold mQ;have A:∀(l:List Int) (m:Int),m<=l.foldl max m/\∀x∈l,x<=l.foldl max m:=fun l=>by
  induction l with
  |nil=>intro m;exact⟨Int.le_refl _,fun x d=>by simp at d⟩
  |cons y l F=>
   intro m;obtain⟨H,G⟩:=F (max m y);rw[List.foldl_cons];refine⟨by omega,fun x d=>?_⟩;rcases List.mem_cons.1 d with rfl|d
   ·omega
   ·exact G x d
 exact(A l 0).2
theorem aCz (l:List Int) (s t:List UInt8) {a i:Nat} (h:a+bL l i<=8*s.length):lA l (s++t) a i↔lA l s a i:=by grind [lA,aCt,bL]
theorem aUa (l:List Int) (s t:List UInt8) (at':Int):(dE l s at').2.2=2\/dE l (s++t) at'=dE l s at':=by
 by_cases d:bM l≠0
 ·grind [dE]
 ·by_cases I:at'<0
  ·grind [dE]
  ·obtain⟨a,rfl⟩:∃a:Nat,at'=(a:Int):=⟨at'.toNat,by omega⟩;have d:=eB.1 d
   by_cases A:∃i,i<l.length/\lA l s a i
   ·obtain⟨i,hi,A⟩:=A
    right
    rw[zH d hi A,zH d hi ((aCz l s t A.1).2 A)]
   ·have F:∀i,i<l.length->¬lA l s a i:=fun i hi k=>A ⟨i,hi,k⟩
    rw[zI d F]
    by_cases G:(a:Int)>8*(s.length:Int)-mQ l
    ·grind
    ·right
     rw[aA G,zI d (fun i hi k=>?_),aA (by rw[aL];omega)];have H:=lX (gE d).1 hi;have J:=aT9 l _ (List.mem_of_getElem? H.2.2)
     grind [aCz,dE]
theorem aC0 (s t:List UInt8) (at' codes:Int):∀k,(bO s at' codes k).2.2=2\/bO (s++t) at' codes k=bO s at' codes k
 |0=>.inr rfl
 |k+1=>by
  rcases aC0 s t at' codes k with h|h
  ·grind [LI,bO]
  grind [bO,LI,aT6]
theorem aC1 (s u:List UInt8) (at':Int) (t:List (List Int)) (d:List Int) (fin:Int):∀k,(bZ s at' t d fin k).2.2.1=2\/bZ (s++u) at' t d fin k=bZ s at' t d fin k
 |0=>.inr rfl
 |k+1=>by
  rcases aC1 s u at' t d fin k with h|h
  ·grind [LJ,bZ]
  grind [bZ,LJ,aUa]
theorem aUb (s t:List UInt8) (at' codes:Int):(dW s at' codes).2.2=2\/dW (s++t) at' codes=dW s at' codes:=by
 rcases qH s t at' 3 with h|⟨J,L⟩
 ·grind [dW]
 ·by_cases A:aP s.length at' 3≠0
  ·grind [dW]
  ·by_cases F:aK s at' 3<2\/6<aK s at' 3
   ·grind [dW]
   ·rcases qH s t (at'+3) 15 with r|⟨M,U⟩
    ·grind [dW]
    ·by_cases G:aP s.length (at'+3) 15≠0
     ·right
      unfold dW;rw[J,L,M,aA A,aA A,aA F,aA F,aB G,aB G]
     ·by_cases H:aK s (at'+3) 15=0
      ·right
       unfold dW;rw[J,L,M,U,aA A,aA A,aA F,aA F,aA G,aA G,aB H,aB H]
      ·rcases aT8 s t (at'+18) (aK s (at'+3) 15) (aK s at' 3) with c|c
       ·left
        unfold dW;rw[aA A,aA F,aA G,aA H];simp only
        rw[aB (by omega)];exact c
       ·by_cases I:(eD s (at'+18) (aK s (at'+3) 15) (aK s at' 3)).2.2≠0
        ·right
         unfold dW;rw[J,L,M,U,aA A,aA A,aA F,aA F,aA G,aA G,aA H,aA H];simp only
         rw[c,aB I,aB I]
        ·rcases aC0 s t (eD s (at'+18) (aK s (at'+3) 15) (aK s at' 3)).2.1 codes (aK s at' 3) with d|d
         ·left
          unfold dW;rw[aA A,aA F,aA G,aA H];simp only
          rw[aA I,aB (by omega)];exact d
         ·by_cases O:(bO s (eD s (at'+18) (aK s (at'+3) 15) (aK s at' 3)).2.1 codes (aK s at' 3)).2.2≠0
          ·right
           unfold dW;rw[J,L,M,U,aA A,aA A,aA F,aA F,aA G,aA G,aA H,aA H];simp only
           rw[c,aA I,aA I,d,aB O,aB O]
          ·rcases aC1 s t (bO s (eD s (at'+18) (aK s (at'+3) 15) (aK s at' 3)).2.1 codes (aK s at' 3)).2.1 (bO s (eD s (at'+18) (aK s (at'+3) 15) (aK s at' 3)).2.1 codes (aK s at' 3)).1 (eD s (at'+18) (aK s (at'+3) 15) (aK s at' 3)).1 (codes-1) (10*(eD s (at'+18) (aK s (at'+3) 15) (aK s at' 3)).1.length) with e|e
           ·left
            unfold dW;rw[aA A,aA F,aA G,aA H];simp only
            rw[aA I,aA O];unfold jW;simp only
            rw[aB (by omega)];exact e
           ·right
            unfold dW;rw[J,L,M,U,aA A,aA A,aA F,aA F,aA G,aA G,aA H,aA H];simp only
            rw[c,aA I,aA I,d,aA O,aA O];unfold jW;simp only
            rw[e]
theorem SC {s:List UInt8} {a:Nat} {l:List Bool} (d:a+l.length<=8*s.length) (A:∀i,i<l.length->dO s (a+i)=l.getD i false):cR s a l:=by
 refine⟨d,?_⟩;apply lH;intro i;unfold seg;rw[List.getElem?_take,List.getElem?_drop]
 by_cases hi:i<l.length
 ·rw[aB hi,wA,aB (by omega),A i hi,List.getD_eq_getElem?_getD,List.getElem?_eq_getElem hi];rfl
 ·rw[aA hi,List.getElem?_eq_none (by omega)]
theorem bIb {s:List UInt8} {a:Nat} {l m:List Bool} (A:cR s a l) (d:cR s (a+l.length) m):cR s a (l++m):=by
 refine⟨by rw[aL];have:=d.1;omega,?_⟩;rw[aL,aB2,A.2,d.2]
theorem bGy {s t:List UInt8} {a:Nat} {l:List Bool} (A:s.length=t.length) (h:∀i,a<=i->i<a+l.length->dO t i=dO s i) (d:cR s a l):cR t a l:=
 SC (by have:=d.1;omega) (fun i hi=>by rw[h _ (by omega) (by omega)];exact LK d hi)
theorem aUf:∀x:Fin 256,∀k:Fin 8,∀q:Fin 8,(x.val^^^(128>>>k.val)).testBit (7-q.val)=(x.val.testBit (7-q.val) != decide (q=k)):=by decide+kernel
theorem aUg (x k:Nat) (d:x<256):x^^^(128>>>k)<256:=Nat.xor_lt_two_pow (n:=8) d (Nat.lt_of_le_of_lt (Nat.shiftRight_le _ _) (by decide))
def LL (s:List UInt8) (k:Nat):List UInt8:=s.set (k/8) (UInt8.ofNat ((s.getD (k/8) 0).toNat^^^(128>>>(k%8))))
theorem bGz (s:List UInt8) (k:Nat):(LL s k).length=s.length:=by simp[LL]
theorem bG0 {s:List UInt8} {k:Nat} (A:k<8*s.length) (i:Nat):dO (LL s k) i=(dO s i != decide (i=k)):=by
 unfold LL;rw[aBs (by omega)];have d:(s.getD (k/8) 0).toNat<256:=UInt8.toNat_lt _
 by_cases h:i/8=k/8
 ·rw[aB h,UInt8.toNat_ofNat',Nat.mod_eq_of_lt (aUg _ _ d)];have:=aUf ⟨_,d⟩ ⟨k%8,kU _ (by decide)⟩ ⟨i%8,kU _ (by decide)⟩;simp only at this;rw[this];unfold dO;rw[h]
  congr 1
  by_cases e:i=k
  ·rw[aG e,aG (by rw[e])]
  ·rw[aE e,aE (fun q=>e (by injection q;omega))]
 ·rw[aA h,aE (fun e=>h (by rw[e])),Bool.bne_false]
end
section
open Go.RowKit
theorem aVd (s t:List UInt8) (at' room:Int):(cO s at' room).2.2.2=2\/cO (s++t) at' room=cO s at' room:=by
 by_cases d:at'<0\/room<1\/360<room
 ·right
  unfold cO;rw[aB d,aB d]
 ·rcases qH s t at' 48 with h|⟨I,J⟩
  ·left
   unfold cO;rw[aA d,aB (by omega)];exact h
  ·by_cases A:aP s.length at' 48≠0
   ·right
    unfold cO;rw[I,aA d,aA d,aB A,aB A]
   ·by_cases F:aK s at' 48≠0x314159265359
    ·right
     unfold cO;rw[I,J,aA d,aA d,aA A,aA A,aB F,aB F]
    ·rcases qH s t (at'+48) 32 with r|⟨M,U⟩
     ·left
      unfold cO;rw[aA d,aA A,aA F,aB (by omega)];exact r
     ·by_cases G:aP s.length (at'+48) 32≠0
      ·right
       unfold cO;rw[I,J,M,aA d,aA d,aA A,aA A,aA F,aA F,aB G,aB G]
      ·rcases qH s t (at'+80) 16 with o|⟨O,V⟩
       ·left
        unfold cO;rw[aA d,aA A,aA F,aA G,aB (by omega)];exact o
       ·by_cases H:aP s.length (at'+80) 16≠0
        ·right
         unfold cO;rw[I,J,M,O,aA d,aA d,aA A,aA A,aA F,aA F,aA G,aA G,aB H,aB H]
        ·rcases aT4 s t (at'+96) with u|u
         ·left
          unfold cO;rw[aA d,aA A,aA F,aA G,aA H];simp only
          rw[aB (by omega)];exact u
         ·by_cases L:(dF s (at'+96)).2.2≠0
          ·right
           unfold cO;rw[I,J,M,O,aA d,aA d,aA A,aA A,aA F,aA F,aA G,aA G,aA H,aA H];simp only
           rw[u,aB L,aB L]
          ·rcases aUb s t (dF s (at'+96)).2.1 (((dF s (at'+96)).1.length:Int)+2) with c|c
           ·left
            unfold cO;rw[aA d,aA A,aA F,aA G,aA H];simp only
            rw[aA L,aB (by omega)];exact c
           ·right
            unfold cO;rw[I,J,M,U,O,V,aA d,aA d,aA A,aA A,aA F,aA F,aA G,aA G,aA H,aA H];simp only
            rw[u,aA L,aA L,c]
end
section
open Go.RowKit Go Go.Shelf
theorem aDw (r:Int):∀(l:List ByteArray) (a:Nat),(lB r a l).map Prt.r=l.map (fun _=>r)
 |[],_=>rfl
 |t::l,a=>by simp[lB,eJ,aDw]
theorem aDy:∀(l:List (Nat×List ByteArray)) (a:Nat),(kT a l).map Prt.r=(l.map (fun p=>p.2.map (fun _=>40*(p.1:Int)))).flatten
 |[],_=>rfl
 |p::l,a=>by simp[kT,aDw,aDy]
theorem aVo (s t:List UInt8) (k:Nat):(fX s k).2=2\/fX (s++t) k=fX s k:=by grind [fX]
theorem aVp (s t:List UInt8) (a:Int) (v:BitVec 32):(kS s a v).2=2\/kS (s++t) a v=kS s a v:=by
 rcases qH s t (a+48) 32 with h|⟨d,A⟩
 ·grind [kS]
 grind [aP,kS,iG,aK,jP,qH]
theorem aDz {s:List UInt8} {r:Int}:∀(f g:Nat) (a:Int) (acc:List Prt),(eE s r f a acc).2.2≠2->f<=g->eE s r g a acc=eE s r f a acc
 |0,_,_,_,h,_=>absurd rfl h
 |f+1,0,_,_,_,h=>absurd h (by omega)
 |f+1,g+1,a,acc,h,H=>by
  unfold eE at h ⊢
  by_cases d:aP s.length a 48≠0
  ·grind
  rw[aA d] at h ⊢;rw[aA d]
  by_cases A:aK s a 48=0x177245385090
  ·grind
  rw[aA A] at h ⊢;rw[aA A]
  by_cases F:aK s a 48≠0x314159265359
  ·grind
  rw[aA F] at h ⊢;rw[aA F]
  by_cases G:(cO s a r).2.2.2≠0
  ·grind
  rw[aA G] at h ⊢;rw[aA G];exact aDz f g _ _ h (by omega)
theorem aD0 {s:List UInt8} (t:List UInt8) {r:Int}:∀(f:Nat) (a:Int) (acc:List Prt),(eE s r f a acc).2.2=2\/eE (s++t) r f a acc=eE s r f a acc
 |0,_,_=>.inl rfl
 |f+1,a,acc=>by
  rcases qH s t a 48 with h|⟨H,I⟩
  ·grind [eE]
  ·unfold eE;rw[H,I]
   by_cases d:aP s.length a 48≠0
   ·grind
   rw[aA d,aA d]
   by_cases A:aK s a 48=0x177245385090
   ·grind [aVp,sU,eE]
   rw[aA A,aA A]
   by_cases F:aK s a 48≠0x314159265359
   ·grind
   rw[aA F,aA F];rcases aVd s t a r with k|k
   ·grind
   rw[k]
   by_cases G:(cO s a r).2.2.2≠0
   ·grind
   rw[aA G,aA G];exact aD0 t f _ _
theorem aVq (s t:List UInt8) (a:Int):(cU s a).2.2=2\/cU (s++t) a=cU s a:=by grind [cU,aVo,fX,aD0,eE,aDz]
theorem SQ {s:List UInt8}:∀(l:List (Nat×List ByteArray)) (f k:Nat) (acc:List Prt),(∀p∈l,1<=p.1/\p.1<=9/\∀t∈p.2,okT (40*(p.1:Int)) t)->l.length<=f->cR s (8*k) (dH l)->
  gT s f ((8*k:Nat):Int) acc=gT s (f-l.length) ((8*k+(dH l).length:Nat):Int) (acc++kT (8*k) l)
 |[],f,k,acc,_,_,_=>by
  show _=gT s f ((8*k+0:Nat):Int) (acc++[]);rw[List.append_nil,Nat.add_zero]
 |p::l,0,_,_,_,d,_=>absurd d (by simp)
 |p::l,f+1,k,acc,A,d,h=>by
  have G:dH (p::l)=iD (cM p.1 p.2)++dH l:=rfl;rw[G] at h ⊢;have H:=h.1;rw[aL] at H ⊢;obtain⟨I,F⟩:=gN h;obtain⟨J,L,M⟩:=A p (List.mem_cons_self ..);have O:=SO J L M I;have V:=zO (cM p.1 p.2);have Z:=zN (cM p.1 p.2).length;have a0:=xT p.1 p.2;obtain⟨m,hm⟩:∃m,(iD (cM p.1 p.2)).length=8*m:=⟨(iD (cM p.1 p.2)).length/8,by omega⟩;have e:8*k+(iD (cM p.1 p.2)).length=8*(k+m):=by omega
  rw[e] at F O;have ih:=SQ l f (k+m) (acc++lB (40*(p.1:Int)) (8*k+32) p.2) (fun x U=>A x (List.mem_cons_of_mem _ U)) (by grind) F
  grind [gT,kT,lB,okT,cR,dH]
theorem SR {l:List (Nat×List ByteArray)} {n:Nat} {x:List ByteArray} {c:Nat} (H:∀p∈l,1<=p.1/\p.1<=9/\∀t∈p.2,okT (40*(p.1:Int)) t) (I:1<=n) (J:n<=9) (L:∀t∈x,okT (40*(n:Int)) t)
  (a2:0<c) (hc:c<(aI (cM n x)).length):(cI (aI (dH l)++(aI (cM n x)).take c)).2=2:=by
 obtain⟨s,A⟩:∃s,s=aI (dH l)++(aI (cM n x)).take c:=⟨_,rfl⟩;obtain⟨t,M⟩:∃t,t=(aI (cM n x)).drop c:=⟨_,rfl⟩;have O:s++t=aI (dH (l++[(n,x)])):=by rw[A,M,List.append_assoc,List.take_append_drop,tU,aDu]
 have U:s.length=(aI (dH l)).length+c:=by grind
 have V:=LP l;have a3:=(EW l).2;rw[<-A];have Z:s≠[]:=fun e=>by grind
 obtain⟨k,hk⟩:∃k,k=(aI (dH l)).length:=⟨_,rfl⟩;rw[<-hk] at U V;have a0:cR s 0 (dH l):=by
  have d:=ES (dH l);refine SC (by omega) (fun i hi=>?_);rw[iP,A,EL,aB (by omega)];have:=LK d (i:=i) hi
  grind
 have F:=SQ (s:=s) l (8*s.length+1) 0 [] H (by omega) a0;rw[eL,show 8*0+(dH l).length=8*k by omega] at F;unfold cI;rw[aA Z];show(gT s (8*s.length+1) ((8*0:Nat):Int) []).2=2;rw[F];obtain⟨f,hf⟩:∃f,8*s.length+1-l.length=f+1:=⟨8*s.length-l.length,by omega⟩;rw[hf];have a1:(cU s ((8*k:Nat):Int)).2.2=2:=by
  rcases aVq s t ((8*k:Nat):Int) with q|q
  ·exact q
  ·exfalso;have hW:cR (s++t) (8*k) (iD (cM n x)):=by
    have d:=ES (dH (l++[(n,x)]));rw[<-O,aDt,aDs] at d;have:=(gN d).2
    grind
   have G:=SO I J L hW;rw[q] at G;have a4:=EZ (s:=s) (a:=((8*k:Nat):Int)) (by rw[G])
   grind [aI,cM,iD,aDl,iJ,zN,zO,okT,cI,dH]
 unfold gT;rw[aA (by omega),aB (by grind)];exact a1
theorem aVr {l:List (Nat×List ByteArray)} {m:List UInt8} (G:∀p∈l,1<=p.1/\p.1<=9/\∀t∈p.2,okT (40*(p.1:Int)) t) (d:m≠[]) (V:m.length<=3):(cI (aI (dH l)++m)).2=2:=by
 obtain⟨s,A⟩:∃s,s=aI (dH l)++m:=⟨_,rfl⟩;have Z:=List.length_pos_iff.2 d;have H:s.length=(aI (dH l)).length+m.length:=by grind
 have I:=LP l;have a0:=(EW l).2;rw[<-A];have J:s≠[]:=fun e=>by grind
 obtain⟨k,L⟩:∃k,k=(aI (dH l)).length:=⟨_,rfl⟩;rw[<-L] at H I;have M:cR s 0 (dH l):=by
  have d:=ES (dH l);refine SC (by omega) (fun i hi=>?_);rw[iP,A,EL,aB (by omega)];have:=LK d (i:=i) hi
  grind
 have F:=SQ (s:=s) l (8*s.length+1) 0 [] G (by omega) M;rw[eL,show 8*0+(dH l).length=8*k by omega] at F;unfold cI;rw[aA J];show(gT s (8*s.length+1) ((8*0:Nat):Int) []).2=2;rw[F];obtain⟨f,O⟩:∃f,8*s.length+1-l.length=f+1:=⟨8*s.length-l.length,by omega⟩;rw[O];have hr:(fX s (((8*k:Nat):Int)/8).toNat).2=2:=by grind [fX,okT,cI,aI,dH]
 have U:(cU s ((8*k:Nat):Int)).2.2=2:=by
  unfold cU
  grind
 unfold gT;rw[aA (by omega),aB (by grind)];exact U
theorem aVs {s:List UInt8} {hi:Int}:∀{l:List Prt} {lo:Int},qZ s lo l hi->∀(i:Nat) (p:Prt),l[i]? =some p->zP s p/\lo<=p.a/\∀q,l[i+1]? =some q->p.z<=q.a
 |[],_,_,i,p,h=>by simp at h
 |x::l,lo,k,0,p,h=>by
  obtain rfl:x=p:=by simpa using h
  refine⟨k.2.1,k.1,fun q d=>?_⟩
  cases l with
  |nil=>simp at d
  |cons y l=>
   obtain rfl:y=q:=by simpa using d
   exact k.2.2.1
 |x::l,lo,k,i+1,p,h=>by
  have A:l[i]? =some p:=by simpa using h
  obtain⟨F,G,H⟩:=aVs k.2.2 i p A;have:=k.2.1.facts;have:=k.1
  grind
end
section
open Go.RowKit
theorem bDk {l m:List Int} {k:Nat} {x y:Int} (h:l.take k=m.take k) (d:l[k]? =some x) (A:m[k]? =some y) (F:x=y):l.take (k+1)=m.take (k+1):=by grind [List.take_add_one]
theorem bDl (I J:Value) (d lb:List Int) (w:World) (L:RdI w I d) (M:RdI w J lb):
  Calls pG 23 #[I,J] w fun e w'=>e=.returned (.bool (d==lb))/\Below w.heap.size w w':=by
 obtain⟨a,ca,rfl,a8,a2,O⟩:=L.open;obtain⟨b,cb,rfl,a9,a3,U⟩:=M.open;clear L M;unfold maxLen at a2 a3
 by_cases F:d.length=lb.length
 case neg=>
  have a4:d≠lb:=fun e=>F (by rw[e])
  have hd:((d.length:Int) != (lb.length:Int))=true:=by rw[bne_iff_ne];omega
  go_enter func23,ntmps23;go_wp2;go_ret;exact⟨sJ (by rw[beq_eq_false_iff_ne.2 a4]),aH _ _⟩
 case pos=>
  have hd:((d.length:Int) != (lb.length:Int))=false:=by rw[bne_eq_false_iff_eq];omega
  have HL:=hid F;have b0:d.length<=lb.length:=by omega
  have b3:lb.length<=d.length:=by omega
  clear F;go_enter func23,ntmps23;go_wp2
  go_loopw [5] (fun i wr=>∃k:Nat,k<=d.length/\i=.int .i64 k/\Hid (d.take k=lb.take k)/\Below w.heap.size w wr) (fun i _=>d.length-(intOf i).toNat)
  case atStart=>exact⟨0,Nat.zero_le _,rfl,hid rfl,aH _ _⟩
  case round=>
   obtain⟨k,hk,rfl,HT,A⟩:=hrel
   by_cases a5:k<d.length
   ·obtain⟨V,Z,rfl,a6,a0⟩:=O (by omega);obtain⟨b2,o2,rfl,a7,a1⟩:=U (by omega);obtain⟨x,G⟩:=eG a5;obtain⟨y,H⟩:=eG (l:=lb) (k:=k) (by omega);have c1:wr.cell? ⟨V,Z+k,none⟩=some (.int .i64 x):=by rw[A.cell (p:=⟨V,Z+k,none⟩) a6];exact a0 k _ G
    have c2:wr.cell? ⟨b2,o2+k,none⟩=some (.int .i64 y):=by rw[A.cell (p:=⟨b2,o2+k,none⟩) a7];exact a1 k _ H
    have HX:=hid G;have HY:=hid H;clear a0 a1 O U G H;go_wp2
    go_quiet (fail)
    go_wp2
    ·have h:(x != y)=true:=by assumption
     go_ret;refine⟨sJ ?_,below_drewN A _⟩;have h':x≠y:=by simpa using h
     rw[eq_comm,cB];intro e;have:=HX.out;rw[e,HY.out] at this;exact h' (by simpa using this.symm)
    ·have h:(x != y)=false:=by assumption
     go_roundw
     case rel=>exact⟨k+1,by omega,by go_num,hid (bDk HT.out HX.out HY.out (by simpa using h)),below_drewN A _⟩
     case measure=>simp[intOf];omega
   ·go_wp2;go_ret;exact⟨sJ (by
     have e:=HT.out;rw[cD (by omega),cD (by omega)] at e;simp[e]),A⟩
theorem bDm (d A:Value) (l:List Int) (w:World) (F:RdI w d l) (G:RdI w A l):
  Calls pG 23 #[d,A] w fun e w'=>e=.returned (.bool true)/\Below w.heap.size w w':=by grind [bDl,sJ,RdI]
end
end Go.Proofs.YtihbnmlinkbnkaaGreatDoor
