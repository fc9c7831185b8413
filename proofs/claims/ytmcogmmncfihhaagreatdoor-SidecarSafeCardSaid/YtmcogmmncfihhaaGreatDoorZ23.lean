/-
  Texts put together (part 23): the walks and the plain laws on which the statement stands.
-/
import Derived.Test.YtmcogmmncfihhaaGreatDoorZ22
set_option maxRecDepth 100000
set_option maxHeartbeats 12800000
set_option linter.unusedVariables false
set_option linter.unusedSimpArgs false
open Go.Instr renaming sliceAt->GN
open Go.IntKind renaming i64->aI
open List renaming drop_zero->AP,getD_eq_getElem?_getD->aV,length_append->aL,length_drop->cI,length_take->aX
open Nat renaming le_refl->aA
namespace Go.Proofs.YtmcogmmncfihhaaGreatDoor
open Go.RowKit Go Go.Shelf
abbrev okA (l:List (Nat×List ByteArray)):Prop:=∀p∈l,1<=p.1/\p.1<=9/\∀t∈p.2,okT (40*(p.1:Int)) t
noncomputable def aYf (l:List (Nat×List ByteArray)):ByteArray:=mkS (aD (aYe l))
def aYn (l:List (Nat×List ByteArray)):List ByteArray:=(l.map (fun p=>p.2)).flatten
theorem aZa (x y:List (Nat×List ByteArray)):aYf x++aYf y=aYf (x++y):=by unfold aYf;rw[pM,aZs]
theorem aZ5 {x y:List (Nat×List ByteArray)} (h:okA x) (k:okA y):okA (x++y):=fun p hp=>(List.mem_append.1 hp).elim (h p) (k p)
theorem bA6 {n:Nat} {l:List ByteArray} (h1:1<=n) (h9:n<=9) (h:∀t∈l,okT (40*(n:Int)) t):okA [(n,l)]:=fun p hp=>by obtain rfl:=List.mem_singleton.1 hp;exact⟨h1,h9,h⟩
theorem aZ6:∀{l:List (Nat×List ByteArray)},okA l->(aYf l).size<=3500*(aYn l).length+15*l.length
 |[],_=>by unfold aYf;rw[cP];exact aA _
 |p::l,h=>by
  have ih:=aZ6 (l:=l) (fun q hq=>h q (List.mem_cons_of_mem _ hq));obtain⟨h1,h2,h3⟩:=h p (List.mem_cons_self ..);have hb:=aYu (r:=40*(p.1:Int)) (by omega) p.2 h3;have hw:aYe (p::l)=aYh (aYd p.1 p.2)++aYe l:=rfl;have hp:=aYo (aYd p.1 p.2);have hu:=aWq (aYd p.1 p.2).length;have hlt:=aZh (aYd p.1 p.2).length;have hs:=aYq p.1 p.2;have e1:=aY5 (p::l);have e2:=aY5 l;have ha:(aYn (p::l)).length=p.2.length+(aYn l).length:=by unfold aYn;rw[List.map_cons,List.flatten_cons,aL]
  unfold aYf at ih ⊢;rw[cP] at ih ⊢;rw[hw,aL] at e1;rw[hw];rw[ha,List.length_cons];omega
theorem aZ7 {l:List (Nat×List ByteArray)} (hl:l≠[]) (ho:okA l):aUl (aYf l).data.toList=aYj 0 l/\(hH (aYf l).data.toList).2=0:=by
 have h:=bAk hl ho;unfold aYf;rw[fW];unfold aUl;rw[h];exact⟨rfl,rfl⟩
theorem RdT.nil (w:World):RdT w (.slice none 0 0) []:=⟨none,0,rfl,aA _,by simp[maxLen],.inl rfl⟩
theorem bA8 (n:Nat) (l:List ByteArray):(aYf [(n,l)]).data.toList.take 4=aYl n/\14<=(aYf [(n,l)]).size:=by
 unfold aYf;rw[fW,cP,<-aYt,gY,aYq];refine⟨?_,by omega⟩;have h:=aZj (s:=aD (aYd n l)) (h:=aYl n) (k:=0) (by
  have:=zP (aYd n l);unfold aYd at this ⊢;exact(jN this).1)
 rw[AP] at h;exact h
theorem aZb (s:ByteArray) (k:Nat):(s.extract 0 k).data.toList=s.data.toList.take k:=by rw[nT,fW,AP,Nat.sub_zero]
theorem RdP.nil (w:World):RdP w (.slice none 0 0) []:=⟨none,0,rfl,aA _,by simp[maxLen],fun h=>absurd h (by simp)⟩
theorem WfP.nil:WfP []:=by intro p hp;simp at hp
theorem bAa (c:Int) (h1: -9223372036854775808<=c) (h2:c<=9223372036854775807):∃q R:Nat,1<=R/\R<=9/\aI.wrap (1+(q:Int))=(R:Int)/\1+(q:Int)=(R:Int)/\∀W,Calls Tryz.prog 21 #[.int .i64 c,.int .i64 9] W fun e w'=>e=.returned (.int .i64 (q:Int))/\W=w':=by
 obtain⟨p1,p2⟩:=vU c 9 (by decide);obtain⟨q,hq⟩:∃q:Nat,gA c 9=(q:Int):=⟨_,(Int.toNat_of_nonneg p1).symm⟩;refine⟨q,1+q,by omega,by omega,by rw[show 1+(q:Int)=((1+q:Nat):Int) by push_cast;rfl];exact aU6 _ (by omega),by push_cast;rfl,fun W=>?_⟩;have h:=aY9 c 9 W h1 h2 (by decide) (by decide);rw[hq] at h;exact h
theorem bAb (o:Int) (k:Nat) (hk:2<=k) (h1: -9223372036854775808<=o) (h2:o<=9223372036854775807): -9223372036854775808<=o.tdiv (k:Int)/\o.tdiv (k:Int)<=9223372036854775807/\aI.wrap (o.tdiv (k:Int))=o.tdiv (k:Int):=by
 have h:=Int.natAbs_tdiv o (k:Int);rw[Int.natAbs_natCast] at h;have h3:o.natAbs.div k<=o.natAbs/2:=Nat.div_le_div_left hk (by decide);rw[<-h] at h3;have h4: -9223372036854775808<=o.tdiv (k:Int)/\o.tdiv (k:Int)<=9223372036854775807:=by omega
 refine⟨h4.1,h4.2,?_⟩;rw[IntKind.wrap_i64];omega
theorem bA9 {w:World} {v:Value} {x:List ByteArray} (h:RdT w v x) (k:Nat) (hk:k<=x.length):
  ∃v',(∀W,(GN 44 v none (some (.int .i64 (k:Int))) none).run Tryz.prog W=.ok v' W)/\RdT w v' (x.take k):=by
 obtain⟨a,cap,rfl,h1,h2,h3⟩:=h;have hl:(x.take k).length=k:=by rw[aX];omega
 have e:aYk (x.take k)=(aYk x).take k:=by unfold aYk;rw[List.map_take]
 refine⟨.slice a k cap,fun W=>?_,a,cap,by rw[hl],by omega,h2,?_⟩
 ·have k1:k<=cap:=by omega
  cases a with
  |none=>simp[go_sem,k1]
  |some p=>
   by_cases h0:cap=0
   ·obtain rfl:k=0:=by omega
    simp[go_sem]
   ·simp[go_sem,k1]
 ·rcases h3 with h3|⟨b,off,ha,hb,hc⟩
  ·exact .inl (by rw[e,h3,List.take_nil])
  ·refine .inr ⟨b,off,ha,hb,fun j hj=>?_⟩;rw[e] at hj ⊢;have hj2:j<k/\j<(aYk x).length:=by rw[aX] at hj;omega
   rw[hc j hj2.2,aV,aV,List.getElem?_take,if_pos hj2.1]
theorem bBa {w:World} {v:Value} {x:List ByteArray} (h:RdT w v x) (k:Nat) (hk:k<=x.length):
  ∃v',(∀W,(GN 44 v (some (.int .i64 (k:Int))) none none).run Tryz.prog W=.ok v' W)/\RdT w v' (x.drop k):=by
 obtain⟨a,cap,rfl,h1,h2,h3⟩:=h;have hl:(x.drop k).length=x.length-k:=cI ..;have e:aYk (x.drop k)=(aYk x).drop k:=by unfold aYk;rw[List.map_drop]
 by_cases h0:cap=k
 ·have hk2:x.length=k:=by omega
  have hd:x.drop k=[]:=List.drop_of_length_le (by omega);refine⟨.slice a 0 0,fun W=>?_,a,0,by rw[hd];rfl,by rw[hd];exact aA _,by simp[maxLen],.inl (by rw[hd];rfl)⟩
  cases a<;>simp[go_sem,h0,hk2]
 ·cases a with
  |none=>
   have hn:x=[]:=by
    rcases h3 with h3|⟨b,off,ha,-,-⟩
    ·exact List.map_eq_nil_iff.1 h3
    ·cases ha
   subst hn;obtain rfl:k=0:=by simpa using hk
   exact⟨.slice none 0 cap,fun W=>by simp[go_sem],none,cap,rfl,Nat.zero_le _,h2,.inl rfl⟩
  |some p=>
   refine⟨.slice (some (p.add k)) (x.length-k) (cap-k),fun W=>?_,some (p.add k),cap-k,by rw[hl],by rw[hl];omega,by omega,?_⟩
   ·have k1:(k:Int)<=(x.length:Int):=by omega
    by_cases hk0:k=0
    ·subst hk0;simp[go_sem,h0]
    ·simp[go_sem,hk,h0]
   ·rcases h3 with h3|⟨b,off,ha,hb,hc⟩
    ·exact .inl (by rw[e,h3,List.drop_nil])
    ·cases ha
     refine .inr ⟨b,off+k,by simp[Addr.add],hb,fun j hj=>?_⟩;rw[e] at hj ⊢;rw[cI] at hj;rw[Nat.add_assoc,hc (k+j) (by omega),aV,aV,List.getElem?_drop]
theorem bBe {s:ByteArray} (h:s.size=0):s.toList.isEmpty=true:=by
 have e:s.data.toList=[]:=List.length_eq_zero_iff.1 (by simpa using h);rw[Lib.toList_data,e];rfl
end Go.Proofs.YtmcogmmncfihhaaGreatDoor
