/-
  Blocks (chapter 16), plainly: what is no block is told with nothing, and never as a wrong argument.
-/
import Derived.Test.YtiifmcicleljjaaGreatDoorZ17
set_option maxRecDepth 100000
set_option maxHeartbeats 12800000
namespace Go.Proofs.YtiifmcicleljjaaGreatDoor
open Go.RowKit Go Go.Shelf
theorem n01:(0:Int)≠1:=by decide
theorem n21:(2:Int)≠1:=by decide
theorem n31:(3:Int)≠1:=by decide
theorem n41:(4:Int)≠1:=by decide
theorem n61:(6:Int)≠1:=by decide
theorem n71:(7:Int)≠1:=by decide
def IsA (l:List UInt8) (m:Nat):Prop:=∃p:Nat->Bool,l=((List.range m).filter p).map UInt8.ofNat
theorem IsA.step {l:List UInt8} {m:Nat} (h:IsA l m) (b:Bool):IsA (l++if b then[UInt8.ofNat m] else[]) (m+1):=by
 obtain⟨p,rfl⟩:=h;refine⟨fun x=>if x=m then b else p x,?_⟩;rw[List.range_succ,List.filter_append,List.map_append];have e:(List.range m).filter (fun x=>if x=m then b else p x)=(List.range m).filter p:=List.filter_congr (fun x hx=>by rw[if_neg (by have:=List.mem_range.1 hx;omega)]);rw[e]
 congr 1
 cases b<;>simp
theorem IsA.skip {l:List UInt8} {m:Nat} (h:IsA l m):∀n,IsA l (m+n)
 |0=>h
 |n+1=>by
  have:=(IsA.skip h n).step false;rw[if_neg (by decide),List.append_nil] at this;exact this
theorem IsA.row {l:List UInt8} {v k:Nat} (h:IsA l (16*k)):∀i,IsA (l++jS v k i) (16*k+i)
 |0=>by simpa [jS] using h
 |i+1=>by
  have:=(IsA.row (v:=v) h i).step (v.testBit (15-i));unfold jS;rw[<-List.append_assoc];exact this
theorem IsA.alph {l:List UInt8} (h:IsA l 256):bK l=l:=by
 obtain⟨p,hp⟩:=h;have hm:∀m,m<256->dB l m=p m:=fun m hm=>by
  rw[Bool.eq_iff_iff];have e:(UInt8.ofNat m).toNat=m:=by simp;omega
  have hb:=IJ l (UInt8.ofNat m);rw[e] at hb;rw[hb,hp,List.mem_map];constructor
  ·rintro⟨x,hx,hxe⟩;obtain⟨h1,h2⟩:=List.mem_filter.1 hx;have h1:=List.mem_range.1 h1;have h3:x=m:=by
    have:=congrArg UInt8.toNat hxe;simp at this;omega
   rwa[<-h3]
  ·intro h;exact⟨m,List.mem_filter.2 ⟨List.mem_range.2 hm,h⟩,rfl⟩
 show jH l 256=l;unfold jH;rw[List.filter_congr (q:=p) (fun x hx=>hm x (List.mem_range.1 hx))];exact hp.symm
theorem umapTo_isA (s:List UInt8) (at':Int):∀k,IsA (cJ s at' k).1 (16*k)
 |0=>⟨fun _=>false,by simp[cJ]⟩
 |k+1=>by
  have ih:=umapTo_isA s at' k;rw[show 16*(k+1)=16*k+16 by omega];unfold cJ;simp only
  split
  ·exact ih.skip 16
  ·split
   ·split
    ·exact ih.skip 16
    ·exact ih.row 16
   ·exact ih.skip 16
theorem rowU_ne {v k:Nat}:∀i,(∃j,j<i/\v.testBit (15-j)=true)->jS v k i≠[]
 |0,⟨_,h,_⟩=>absurd h (by omega)
 |i+1,⟨j,h1,h2⟩=>by
  unfold jS;intro e;obtain⟨e1,e2⟩:=List.append_eq_nil_iff.1 e
  by_cases q:j=i
  ·subst q;rw[if_pos h2] at e2
   cases e2
  ·exact rowU_ne i ⟨j,by omega,h2⟩ e1
theorem some_bit {v:Nat} (h0:v≠0) (h:v<2^16):∃j,j<16/\v.testBit (15-j)=true:=by
 obtain⟨i,hi⟩:=Nat.exists_testBit_of_ne_zero h0;have hlt:i<16:=by
  refine Nat.lt_of_not_le fun q=>?_
  rw[Nat.testBit_lt_two_pow (Nat.lt_of_lt_of_le h (Nat.pow_le_pow_right (by decide) q))] at hi
  cases hi
 exact⟨15-i,by omega,by rw[show 15-(15-i)=i by omega];exact hi⟩
theorem umapTo_ne (s:List UInt8) (at':Int):∀k,k<=16->(cJ s at' k).2.2.2=0->(cJ s at' k).2.2.1=false->aE s at' 16≠0/\((∃j,j<k/\(aE s at' 16).testBit (15-j)=true)->(cJ s at' k).1≠[])
 |0,_,_,h=>⟨by simpa [cJ] using h,fun⟨_,hj,_⟩=>absurd hj (by omega)⟩
 |k+1,hk,he,hf=>by
  unfold cJ at he hf ⊢;simp only at he hf ⊢
  by_cases q1:(cJ s at' k).2.2.2≠0
  ·rw[if_pos q1] at he;exact absurd he q1
  ·rw[if_neg q1] at he hf ⊢;have q1:=Decidable.not_not.1 q1
   by_cases q2:(aE s at' 16).testBit (15-k)=true
   ·rw[if_pos q2] at he hf ⊢
    by_cases q3:aO s.length (cJ s at' k).2.1 16≠0
    ·rw[if_pos q3] at he;exact absurd he q3
    ·rw[if_neg q3] at hf ⊢;simp only[Bool.or_eq_false_iff] at hf;obtain⟨f1,f2⟩:=hf;obtain⟨i1,i2⟩:=umapTo_ne s at' k (by omega) q1 f1;refine⟨i1,fun _ e=>?_⟩;exact rowU_ne 16 (some_bit (by simpa using f2) (iA ..)) (List.append_eq_nil_iff.1 e).2
   ·rw[if_neg q2] at he hf ⊢;obtain⟨i1,i2⟩:=umapTo_ne s at' k (by omega) q1 hf;refine⟨i1,fun⟨j,h1,h2⟩=>i2 ⟨j,?_,h2⟩⟩;rcases Nat.lt_or_ge j k with h|h
    ·exact h
    ·obtain rfl:j=k:=by omega
     exact absurd h2 q2
theorem umapL_alph {s:List UInt8} {at':Int} (h:(cG s at').2.2=0):(cG s at').1≠[]/\bK (cG s at').1=(cG s at').1:=by
 have hi:=umapTo_isA s at' 16;have hn:=umapTo_ne s at' 16 (Nat.le_refl _);unfold cG at h ⊢;simp only at h ⊢
 by_cases k1:(cJ s at' 16).2.2.2≠0
 ·rw[if_pos k1] at h;exact absurd h k1
 ·rw[if_neg k1] at h ⊢
  by_cases k2:(cJ s at' 16).2.2.1=true
  ·rw[if_pos k2] at h;simp at h
  ·rw[if_neg k2];obtain⟨h1,h2⟩:=hn (Decidable.not_not.1 k1) (by simpa using k2);exact⟨h2 (some_bit h1 (iA ..)),hi.alph⟩
theorem getE_pos {n:Nat} {a:Int} {k:Nat} (h:0<=a):aO n a k≠1:=by
 unfold aO;rw[if_neg (by omega)];split
 ·exact n21
 ·exact n01
theorem umapTo_no1 (s:List UInt8) (at':Int) (h0:0<=at'):∀k,(cJ s at' k).2.2.2≠1
 |0=>getE_pos h0
 |k+1=>by
  have ih:=umapTo_no1 s at' h0 k;have hb:=(yE s at' k).2;unfold cJ;simp only
  split
  ·exact ih
  ·next q=>
   have hb:=hb (Decidable.not_not.1 q);split
   ·split
    ·exact getE_pos (by omega)
    ·exact n01
   ·exact ih
theorem umapL_no1 {s:List UInt8} {at':Int} (h0:0<=at'):(cG s at').2.2≠1:=by
 have:=umapTo_no1 s at' h0 16;unfold cG;simp only
 split
 ·exact this
 ·split
  ·exact n31
  ·exact n01
theorem lenF_no1 (s:List UInt8):∀(f:Nat) (at' n:Int),0<=at'->(iB s f at' n).2.2≠1
 |0,_,_,_=>n21
 |f+1,at',n,h0=>by
  unfold iB;simp only
  generalize (if aE s (at'+1) 1=0 then n+1 else n-1)=m;split
  ·exact getE_pos h0
  ·split
   ·exact n01
   ·split
    ·exact getE_pos (by omega)
    ·split
     ·exact n31
     ·exact lenF_no1 s f _ _ (by omega)
theorem lensTo_no1 (s:List UInt8) (at':Int) (h0:0<=at'):∀k,(aZ s at' k).2.2.2≠1
 |0=>by
  unfold aZ;simp only
  split
  ·exact getE_pos h0
  ·split
   ·exact n31
   ·exact n01
 |k+1=>by
  have ih:=lensTo_no1 s at' h0 k;have hok:=yR s at' h0 k;unfold aZ;simp only
  split
  ·exact ih
  ·next q=>
   have hok:=hok (Decidable.not_not.1 q);split
   ·exact lenF_no1 s _ _ _ (by omega)
   ·exact n01
theorem lensL_no1 {s:List UInt8} {at' n:Int} (h0:0<=at') (h1:2<=n) (h2:n<=258):(eJ s at' n).2.2≠1:=by
 have:=lensTo_no1 s at' h0 n.toNat;unfold eJ;rw[if_neg (by omega)];simp only
 split
 ·exact this
 ·exact n01
theorem onesF_no1 (s:List UInt8) (tables:Int):∀(f:Nat) (at' n:Int),0<=at'->(jK s tables f at' n).2.2≠1
 |0,_,_,_=>n21
 |f+1,at',n,h0=>by
  unfold jK;split
  ·exact getE_pos h0
  ·split
   ·exact n01
   ·split
    ·exact n31
    ·exact onesF_no1 s tables f _ _ (by omega)
theorem selTo_no1 (s:List UInt8) (tables at':Int) (h0:0<=at') (ht:0<tables):∀k,(cO s tables at' k).2.2≠1
 |0=>n01
 |k+1=>by
  have ih:=selTo_no1 s tables at' h0 ht k;have hok:=wG s tables at' h0 ht k;unfold cO;simp only
  split
  ·exact ih
  ·next q=>
   have hok:=hok (Decidable.not_not.1 q);split
   ·exact onesF_no1 s _ _ _ _ (by omega)
   ·exact n01
theorem selA_no1 {s:List UInt8} {at' n tables:Int} (h0:0<=at') (h1:2<=tables) (h2:tables<=6) (h3:0<=n) (h4:n<=1048576):(dD s at' n tables).2.2≠1:=by
 have:=selTo_no1 s tables at' h0 (by omega) n.toNat;unfold dD;rw[if_neg (by omega)];simp only
 split
 ·exact this
 ·exact n01
theorem checkE_no1 {l:List Int} (h:fY l):bL l≠1:=by
 unfold bL;rw[if_neg (fun k=>k h)];split
 ·exact n61
 ·exact n01
theorem tablesTo_no1 (s:List UInt8) (at' codes:Int) (h0:0<=at') (h1:2<=codes) (h2:codes<=258):∀k,(bF s at' codes k).2.2≠1
 |0=>n01
 |k+1=>by
  have ih:=tablesTo_no1 s at' codes h0 h1 h2 k;have hn:=VP s at' codes k;unfold bF;simp only
  split
  ·exact ih
  ·next q=>
   have hn:=(hn (Decidable.not_not.1 q)).1;have hl:=lensL_no1 (s:=s) (at':=(bF s at' codes k).2.1) (n:=codes) (by omega) h1 h2;have hk:=aJx (s:=s) (at':=(bF s at' codes k).2.1) (n:=codes);split
   ·exact hl
   ·next q2=>
    have hk:=hk (Decidable.not_not.1 q2);split
    ·exact checkE_no1 ⟨by omega,by omega,hk.2.2.2.2.1⟩
    ·exact n01
theorem symAt_no1 {l:List Int} {s:List UInt8} {at':Int} (h:bL l=0) (h0:0<=at'):(bZ l s at').2.2≠1:=by
 unfold bZ;rw[if_neg (fun k=>k h),if_neg (by omega)];split
 ·exact n01
 ·split
  ·exact n21
  ·exact n31
theorem symsTo_no1 {s:List UInt8} {at':Int} {t:List (List Int)} {cs:List Int} {fin:Int} (h0:0<=at') (ht:∀c,bL (t.getD (cs.getD c 0).toNat [])=0):∀k,(bH s at' t cs fin k).2.2.1≠1
 |0=>n01
 |k+1=>by
  have ih:=symsTo_no1 (s:=s) (fin:=fin) h0 ht k;have hn:=LE s at' t cs fin k;unfold bH;simp only
  split
  ·exact ih
  ·next q=>
   have hn:=(hn (Decidable.not_not.1 fun z=>q (.inl z))).1;split
   ·exact symAt_no1 (ht _) (by omega)
   ·split
    ·split
     ·exact n31
     ·exact n01
    ·exact n01
theorem codedL_no1 {s:List UInt8} {at' codes:Int} (h0:0<=at') (h1:2<=codes) (h2:codes<=258):(cV s at' codes).2.2≠1:=by
 unfold cV
 by_cases q1:aO s.length at' 3≠0
 ·rw[if_pos q1];exact getE_pos h0
 rw[if_neg q1]
 by_cases q2:aE s at' 3<2\/6<aE s at' 3
 ·rw[if_pos q2];exact n31
 rw[if_neg q2]
 by_cases q3:aO s.length (at'+3) 15≠0
 ·rw[if_pos q3];exact getE_pos (by omega)
 rw[if_neg q3];have hv15:=iA s (at'+3) 15
 by_cases q4:aE s (at'+3) 15=0
 ·rw[if_pos q4];exact n31
 rw[if_neg q4];simp only
 generalize aE s at' 3=n at*
 generalize aE s (at'+3) 15=m at*
 have hs1:=selA_no1 (s:=s) (at':=at'+18) (n:=(m:Int)) (tables:=(n:Int)) (by omega) (by omega) (by omega) (by omega) (by omega)
 by_cases q5:(dD s (at'+18) m n).2.2≠0
 ·rw[if_pos q5];exact hs1
 rw[if_neg q5];have hsel:=aJ0 (Decidable.not_not.1 q5);generalize dD s (at'+18) m n=c at*
 have ht1:=tablesTo_no1 s c.2.1 codes (by omega) h1 h2 n
 by_cases q6:(bF s c.2.1 codes n).2.2≠0
 ·rw[if_pos q6];exact ht1
 rw[if_neg q6];have ht:=DM s c.2.1 codes n (Decidable.not_not.1 q6);have htn:=VP s c.2.1 codes n (Decidable.not_not.1 q6);generalize bF s c.2.1 codes n=t at*
 have hc:∀k,bL (t.1.getD (c.1.getD k 0).toNat [])=0:=fun k=>by
  have hb:0<=c.1.getD k 0/\c.1.getD k 0<(n:Int):=by
   rw[List.getD_eq_getElem?_getD]
   cases e:c.1[k]? with
   |none=>exact⟨Int.le_refl _,by show(0:Int)<n;omega⟩
   |some x=>exact hsel.2.2.2.2.2.1 x (List.mem_of_getElem? e)
  have hlt:(c.1.getD k 0).toNat<t.1.length:=by omega
  rw[List.getD_eq_getElem?_getD,List.getElem?_eq_getElem hlt];exact(ht.2 _ (List.getElem_mem hlt)).1
 have hsy:=symsTo_no1 (s:=s) (at':=t.2.1) (t:=t.1) (cs:=c.1) (fin:=codes-1) (by omega) hc (10*c.1.length);unfold gX;simp only
 generalize bH s t.2.1 t.1 c.1 (codes-1) (10*c.1.length)=p at*
 split
 ·exact hsy
 ·split
  ·exact n01
  ·exact n31
theorem rest_no1 {a:ByteArray} {o:Int} {l:List Int} {most:Int} (h:a.data.toList≠[]/\bK a.data.toList=a.data.toList):(rest a o l most).2≠1:=by
 unfold rest;rw[if_neg (fun k=>k h)];split
 ·exact n31
 ·split
  ·exact n41
  ·split
   ·exact n31
   ·exact n01
theorem unpL_no1 (p:List UInt8) (most:Int):(fR p most).2≠1:=by
 unfold fR;split
 ·exact n31
 ·split
  ·exact n41
  ·exact n01
theorem blkD_err {s:List UInt8} {a room:Int} (h0:0<=a) (h1:1<=room) (h2:room<=360) (h:(cL s a room).2.2.2≠0):∃E:Int,E≠0/\E≠1/\cL s a room=(cW,0,0,E):=by
 unfold cL at h ⊢;rw[if_neg (by omega)] at h ⊢
 by_cases q1:aO s.length a 48≠0
 ·rw[if_pos q1];exact⟨_,q1,getE_pos h0,rfl⟩
 rw[if_neg q1] at h ⊢
 by_cases q2:aE s a 48≠0x314159265359
 ·rw[if_pos q2];exact⟨3,by decide,n31,rfl⟩
 rw[if_neg q2] at h ⊢
 by_cases q3:aO s.length (a+48) 32≠0
 ·rw[if_pos q3];exact⟨_,q3,getE_pos (by omega),rfl⟩
 rw[if_neg q3] at h ⊢
 by_cases q4:aO s.length (a+80) 16≠0
 ·rw[if_pos q4];exact⟨_,q4,getE_pos (by omega),rfl⟩
 rw[if_neg q4] at h ⊢;simp only at h ⊢;have hu1:=umapL_no1 (s:=s) (at':=a+96) (by omega);have hua:=umapL_alph (s:=s) (at':=a+96);have hub:=yE s (a+96) 16;have huc:(cG s (a+96)).2.2=0->a+96<=(cG s (a+96)).2.1/\(cG s (a+96)).1.length<=256:=by
  intro e;unfold cG at e ⊢;simp only at e ⊢
  by_cases k1:(cJ s (a+96) 16).2.2.2≠0
  ·rw[if_pos k1] at e;exact absurd e k1
  ·rw[if_neg k1] at e ⊢
   by_cases k2:(cJ s (a+96) 16).2.2.1=true
   ·rw[if_pos k2] at e;simp at e
   ·rw[if_neg k2];have:=(hub.2 (Decidable.not_not.1 k1)).1;exact⟨by show a+96<=(cJ s (a+96) 16).2.1;omega,hub.1⟩
 by_cases q5:(cG s (a+96)).2.2≠0
 ·rw[if_pos q5];exact⟨_,q5,hu1,rfl⟩
 rw[if_neg q5] at h ⊢;have hua:=hua (Decidable.not_not.1 q5);have huc:=huc (Decidable.not_not.1 q5);clear hub;generalize cG s (a+96)=u at*
 have hc1:=codedL_no1 (s:=s) (at':=u.2.1) (codes:=(u.1.length:Int)+2) (by omega) (by omega) (by omega)
 by_cases q6:(cV s u.2.1 ((u.1.length:Int)+2)).2.2≠0
 ·rw[if_pos q6];exact⟨_,q6,hc1,rfl⟩
 rw[if_neg q6] at h ⊢;generalize cV s u.2.1 ((u.1.length:Int)+2)=c at*
 have hr1:=rest_no1 (a:=mkS u.1) (o:=(aE s (a+80) 16:Int)) (l:=c.1) (most:=room) (by rw[fW];exact hua)
 by_cases q7:(rest (mkS u.1) (aE s (a+80) 16) c.1 room).2≠0
 ·rw[if_pos q7];exact⟨_,q7,hr1,rfl⟩
 rw[if_neg q7] at h ⊢;generalize rest (mkS u.1) (aE s (a+80) 16) c.1 room=r at*
 have hn1:=unpL_no1 r.1.data.toList (52*room)
 by_cases q8:(fR r.1.data.toList (52*room)).2≠0
 ·rw[if_pos q8];exact⟨_,q8,hn1,rfl⟩
 rw[if_neg q8] at h ⊢;generalize fR r.1.data.toList (52*room)=o at*
 by_cases q9:(fG o.1).toNat≠aE s (a+48) 32
 ·rw[if_pos q9];exact⟨7,by decide,n71,rfl⟩
 rw[if_neg q9] at h;simp at h
end Go.Proofs.YtiifmcicleljjaaGreatDoor
