/-
  The mathematics of sidecars (chapter 20): numbers as bytes, an index as bytes, and what such bytes say.
-/
import Derived.Test.YtmcogmmncfihhaaGreatDoorZ5
set_option linter.unusedVariables false
set_option linter.unusedSimpArgs false
set_option maxRecDepth 100000
set_option maxHeartbeats 12800000
namespace Go.Proofs.YtmcogmmncfihhaaGreatDoor
def beL:Nat->Nat->List UInt8
 |0,_=>[]
 |k+1,v=>UInt8.ofNat (v/256^k)::beL k v
def valB (s:List UInt8):Nat:=s.foldl (fun v b=>v*256+b.toNat) 0
theorem beL_length:∀(k v:Nat),(beL k v).length=k
 |0,_=>rfl
 |k+1,v=>by
  show(beL k v).length+1=k+1;rw[beL_length k v]
theorem foldB_add:∀(s:List UInt8) (v:Nat),s.foldl (fun v b=>v*256+b.toNat) v=v*256^s.length+valB s
 |[],v=>by simp[valB]
 |b::s,v=>by
  have h1:=foldB_add s (v*256+b.toNat);have h2:=foldB_add s (0*256+b.toNat);show s.foldl _ (v*256+b.toNat)=v*256^(s.length+1)+s.foldl _ (0*256+b.toNat);rw[h1,h2,Nat.pow_succ,Nat.add_mul,Nat.zero_mul,Nat.zero_add,Nat.mul_assoc,Nat.mul_comm 256,Nat.add_assoc]
theorem valB_cons (b:UInt8) (s:List UInt8):valB (b::s)=b.toNat*256^s.length+valB s:=by
 show s.foldl _ (0*256+b.toNat)=_;rw[foldB_add,Nat.zero_mul,Nat.zero_add]
theorem valB_lt:∀s:List UInt8,valB s<256^s.length
 |[]=>by simp[valB]
 |b::s=>by
  have ih:=valB_lt s;have hb:=b.toNat_lt;rw[valB_cons,List.length_cons,Nat.pow_succ];have h1:b.toNat*256^s.length+256^s.length<=256^s.length*256:=by
   rw[<-Nat.succ_mul,Nat.mul_comm];exact Nat.mul_le_mul_left _ (by omega)
  omega
theorem valB_beL:∀(k v:Nat),valB (beL k v)=v%256^k
 |0,v=>by simp[beL,valB,Nat.mod_one]
 |k+1,v=>by
  show valB (UInt8.ofNat (v/256^k)::beL k v)=_;have e:(UInt8.ofNat (v/256^k)).toNat=v/256^k%256:=by rw[UInt8.toNat_ofNat']
  rw[valB_cons,beL_length,valB_beL k v,e,Nat.pow_succ,Nat.mod_mul,Nat.mul_comm,Nat.add_comm]
theorem beL_mod:∀(k v m:Nat),k<=m->beL k (v%256^m)=beL k v
 |0,_,_,_=>rfl
 |k+1,v,m,h=>by
  show UInt8.ofNat (v%256^m/256^k)::beL k (v%256^m)=UInt8.ofNat (v/256^k)::beL k v;rw[beL_mod k v m (by omega)]
  congr 1
  obtain⟨d,rfl⟩:∃d,m=k+(d+1):=⟨m-k-1,by omega⟩;rw[Nat.pow_add,Nat.mod_mul_right_div_self];apply UInt8.toNat_inj.1;rw[UInt8.toNat_ofNat',UInt8.toNat_ofNat',Nat.pow_succ,Nat.mod_mul_left_mod]
theorem beL_valB:∀s:List UInt8,beL s.length (valB s)=s
 |[]=>rfl
 |b::s=>by
  have hlt:=valB_lt s;have hp:0<256^s.length:=Nat.pow_pos (by decide);have e1:valB (b::s)/256^s.length=b.toNat:=by
   rw[valB_cons,Nat.mul_comm,Nat.mul_add_div hp,Nat.div_eq_of_lt hlt,Nat.add_zero]
  have e2:valB (b::s)%256^s.length=valB s:=by
   rw[valB_cons,Nat.mul_comm,Nat.mul_add_mod,Nat.mod_eq_of_lt hlt]
  show UInt8.ofNat (valB (b::s)/256^s.length)::beL s.length (valB (b::s))=_;rw[e1,<-beL_mod s.length (valB (b::s)) s.length (Nat.le_refl _),e2,beL_valB s]
  congr 1
  exact UInt8.ofNat_toNat
def entB (x:Ent):List UInt8:=beL 8 x.a.toNat++(beL 2 x.r.toNat++(beL 8 x.f.toNat++(beL 4 x.n.toNat++beL 4 x.y.toNat)))
def entA (s:List UInt8):Ent:=⟨valB (s.take 8),valB ((s.drop 8).take 2),valB ((s.drop 10).take 8),valB ((s.drop 18).take 4),valB ((s.drop 22).take 4)⟩
theorem entB_length (x:Ent):(entB x).length=26:=by
 unfold entB;simp only[List.length_append,beL_length]
def Ent.fit (x:Ent):Prop:=0<=x.a/\x.a<9223372036854775808/\0<=x.r/\x.r<65536/\0<=x.f/\x.f<9223372036854775808/\0<=x.n/\x.n<4294967296/\0<=x.y/\x.y<4294967296
theorem beL_back {k:Nat} {v:Int} (h0:0<=v) (h1:v.toNat<256^k):((valB (beL k v.toNat):Nat):Int)=v:=by
 rw[valB_beL,Nat.mod_eq_of_lt h1];omega
theorem entA_back {x:Ent} (h:x.fit) (t:List UInt8):entA (entB x++t)=x:=by
 obtain⟨h1,h2,h3,h4,h5,h6,h7,h8,h9,h10⟩:=h;have l1:=beL_length 8 x.a.toNat;have l2:=beL_length 2 x.r.toNat;have l3:=beL_length 8 x.f.toNat;have l4:=beL_length 4 x.n.toNat;have l5:=beL_length 4 x.y.toNat;have b1:=beL_back (k:=8) h1 (by omega);have b2:=beL_back (k:=2) h3 (by omega);have b3:=beL_back (k:=8) h5 (by omega);have b4:=beL_back (k:=4) h7 (by omega);have b5:=beL_back (k:=4) h9 (by omega);unfold entA entB;generalize beL 8 x.a.toNat=c1 at*
 generalize beL 2 x.r.toNat=c2 at*
 generalize beL 8 x.f.toNat=c3 at*
 generalize beL 4 x.n.toNat=c4 at*
 generalize beL 4 x.y.toNat=c5 at*
 simp only[List.append_assoc];have g1:(c1++(c2++(c3++(c4++(c5++t))))).take 8=c1:=List.take_left' l1;have d1:(c1++(c2++(c3++(c4++(c5++t))))).drop 8=c2++(c3++(c4++(c5++t))):=List.drop_left' l1;have d2:(c1++(c2++(c3++(c4++(c5++t))))).drop 10=c3++(c4++(c5++t)):=by
  rw[show 10=8+2 from rfl,<-List.drop_drop,d1];exact List.drop_left' l2
 have d3:(c1++(c2++(c3++(c4++(c5++t))))).drop 18=c4++(c5++t):=by
  rw[show 18=10+8 from rfl,<-List.drop_drop,d2];exact List.drop_left' l3
 have d4:(c1++(c2++(c3++(c4++(c5++t))))).drop 22=c5++t:=by
  rw[show 22=18+4 from rfl,<-List.drop_drop,d3];exact List.drop_left' l4
 rw[g1,d1,d2,d3,d4,List.take_left' l2,List.take_left' l3,List.take_left' l4,List.take_left' l5,b1,b2,b3,b4,b5]
theorem entB_back {s:List UInt8} (h:26<=s.length):entB (entA s)=s.take 26:=by
 have key:∀(i k:Nat),i+k<=26->beL k (valB ((s.drop i).take k))=(s.drop i).take k:=fun i k hk=>by
  have hl:((s.drop i).take k).length=k:=by rw[List.length_take,List.length_drop];omega
  have:=beL_valB ((s.drop i).take k);rwa[hl] at this
 have k0:=key 0 8 (by omega);rw[List.drop_zero] at k0;unfold entB entA;simp only[Int.toNat_natCast];rw[k0,key 8 2 (by omega),key 10 8 (by omega),key 18 4 (by omega),key 22 4 (by omega)];have split:∀(i k m:Nat),(s.drop i).take k++(s.drop (i+k)).take m=(s.drop i).take (k+m):=fun i k m=>by
  rw[List.take_add,List.drop_drop]
 rw[split 18 4 4,split 10 8 8,split 8 2 16];have:=split 0 8 18;rw[List.drop_zero] at this;exact this
def entsB (l:List Ent):List UInt8:=(l.map entB).flatten
def entsA:Nat->List UInt8->List Ent
 |0,_=>[]
 |n+1,s=>entA s::entsA n (s.drop 26)
theorem entsB_cons (x:Ent) (l:List Ent):entsB (x::l)=entB x++entsB l:=rfl
theorem entsB_length:∀l:List Ent,(entsB l).length=26*l.length
 |[]=>rfl
 |x::l=>by
  rw[entsB_cons,List.length_append,entB_length,entsB_length l,List.length_cons];omega
theorem entsA_length:∀(n:Nat) (s:List UInt8),(entsA n s).length=n
 |0,_=>rfl
 |n+1,s=>by
  show(entsA n _).length+1=_;rw[entsA_length n]
theorem entsA_back:∀(l:List Ent),(∀x∈l,x.fit)->entsA l.length (entsB l)=l
 |[],_=>rfl
 |x::l,h=>by
  rw[entsB_cons,List.length_cons];show entA (entB x++entsB l)::entsA l.length ((entB x++entsB l).drop 26)=_;rw[entA_back (h x (List.mem_cons_self ..)),List.drop_left' (entB_length x),entsA_back l (fun y hy=>h y (List.mem_cons_of_mem _ hy))]
theorem entsB_back:∀(n:Nat) (s:List UInt8),s.length=26*n->entsB (entsA n s)=s
 |0,s,h=>by
  have:s=[]:=List.length_eq_zero_iff.1 (by omega);subst this;rfl
 |n+1,s,h=>by
  show entB (entA s)++entsB (entsA n (s.drop 26))=s;rw[entB_back (by omega),entsB_back n _ (by rw[List.length_drop];omega),List.take_append_drop]
def sideB (size sum:Nat) (l:List Ent):List UInt8:=[80,77,105,49]++(beL 8 size++(beL 4 sum++(beL 4 l.length++entsB l)))
def readD (s:List UInt8):List Ent×Nat×Nat×Int:=
 if s.length<20 then([],0,0,2)
 else if s.take 4≠[80,77,105,49]\/9223372036854775808<=valB ((s.drop 4).take 8) then([],0,0,3)
 else if s.length<20+26*valB ((s.drop 16).take 4) then([],0,0,2)
 else if 20+26*valB ((s.drop 16).take 4)<s.length then([],0,0,3)
 else if ¬((∀x∈entsA (valB ((s.drop 16).take 4)) (s.drop 20),x.a<9223372036854775808/\x.f<9223372036854775808)/\aU1 (entsA (valB ((s.drop 16).take 4)) (s.drop 20))) then([],0,0,3)
 else(entsA (valB ((s.drop 16).take 4)) (s.drop 20),valB ((s.drop 4).take 8),valB ((s.drop 12).take 4),0)
theorem sideB_length (size sum:Nat) (l:List Ent):(sideB size sum l).length=20+26*l.length:=by
 unfold sideB;simp only[List.length_append,beL_length,entsB_length,List.length_cons,List.length_nil];omega
theorem side_parts (size sum:Nat) (l:List Ent) (t:List UInt8):
  (sideB size sum l++t).take 4=[80,77,105,49]/\((sideB size sum l++t).drop 4).take 8=beL 8 size/\((sideB size sum l++t).drop 12).take 4=beL 4 sum/\((sideB size sum l++t).drop 16).take 4=beL 4 l.length/\(sideB size sum l++t).drop 20=entsB l++t:=by
 have l1:([80,77,105,49]:List UInt8).length=4:=rfl;have l2:=beL_length 8 size;have l3:=beL_length 4 sum;have l4:=beL_length 4 l.length;unfold sideB;generalize ([80,77,105,49]:List UInt8)=c1 at*
 generalize beL 8 size=c2 at*
 generalize beL 4 sum=c3 at*
 generalize beL 4 l.length=c4 at*
 simp only[List.append_assoc];have d1:(c1++(c2++(c3++(c4++(entsB l++t))))).drop 4=c2++(c3++(c4++(entsB l++t))):=List.drop_left' l1;have d2:(c1++(c2++(c3++(c4++(entsB l++t))))).drop 12=c3++(c4++(entsB l++t)):=by
  rw[show 12=4+8 from rfl,<-List.drop_drop,d1];exact List.drop_left' l2
 have d3:(c1++(c2++(c3++(c4++(entsB l++t))))).drop 16=c4++(entsB l++t):=by
  rw[show 16=12+4 from rfl,<-List.drop_drop,d2];exact List.drop_left' l3
 have d4:(c1++(c2++(c3++(c4++(entsB l++t))))).drop 20=entsB l++t:=by
  rw[show 20=16+4 from rfl,<-List.drop_drop,d3];exact List.drop_left' l4
 rw[d1,d2,d3,d4];exact⟨List.take_left' l1,List.take_left' l2,List.take_left' l3,List.take_left' l4,rfl⟩
theorem read_back {size sum:Nat} {l:List Ent} (h1:size<9223372036854775808) (h2:sum<4294967296) (h3:l.length<4294967296) (hf:∀x∈l,x.fit) (hr:aU1 l):readD (sideB size sum l)=(l,size,sum,0):=by
 obtain⟨p1,p2,p3,p4,p5⟩:=side_parts size sum l [];rw[List.append_nil] at p1 p2 p3 p4 p5;rw[List.append_nil] at p5;have hl:=sideB_length size sum l;have v2:valB (beL 8 size)=size:=by rw[valB_beL];exact Nat.mod_eq_of_lt (by omega)
 have v3:valB (beL 4 sum)=sum:=by rw[valB_beL];exact Nat.mod_eq_of_lt (by omega)
 have v4:valB (beL 4 l.length)=l.length:=by rw[valB_beL];exact Nat.mod_eq_of_lt (by omega)
 unfold readD;rw[p1,p2,p3,p4,p5,v2,v3,v4,hl,entsA_back l hf,if_neg (by omega),if_neg (by rintro(k|k)<;>first|exact k rfl|omega),if_neg (by omega),if_neg (by omega),if_neg (fun k=>k ⟨fun x hx=>⟨(hf x hx).2.1,(hf x hx).2.2.2.2.2.1⟩,hr⟩)]
theorem read_same {s:List UInt8} (h:(readD s).2.2.2=0):sideB (readD s).2.1 (readD s).2.2.1 (readD s).1=s/\aU1 (readD s).1/\(readD s).2.1<9223372036854775808:=by
 unfold readD at h ⊢
 by_cases q1:s.length<20
 ·rw[if_pos q1] at h;exact absurd h (by decide)
 rw[if_neg q1] at h ⊢
 by_cases q2:s.take 4≠[80,77,105,49]\/9223372036854775808<=valB ((s.drop 4).take 8)
 ·rw[if_pos q2] at h;exact absurd h (by decide)
 rw[if_neg q2] at h ⊢
 by_cases q3:s.length<20+26*valB ((s.drop 16).take 4)
 ·rw[if_pos q3] at h;exact absurd h (by decide)
 rw[if_neg q3] at h ⊢
 by_cases q4:20+26*valB ((s.drop 16).take 4)<s.length
 ·rw[if_pos q4] at h;exact absurd h (by decide)
 rw[if_neg q4] at h ⊢
 by_cases q5:¬((∀x∈entsA (valB ((s.drop 16).take 4)) (s.drop 20),x.a<9223372036854775808/\x.f<9223372036854775808)/\aU1 (entsA (valB ((s.drop 16).take 4)) (s.drop 20)))
 ·rw[if_pos q5] at h;exact absurd h (by decide)
 rw[if_neg q5];have q5:=Decidable.not_not.1 q5;have hh:s.take 4=[80,77,105,49]:=Decidable.not_not.1 fun k=>q2 (.inl k)
 refine⟨?_,q5.2,by show valB _<_;omega⟩;have key:∀(i k:Nat),i+k<=20->beL k (valB ((s.drop i).take k))=(s.drop i).take k:=fun i k hk=>by
  have hl:((s.drop i).take k).length=k:=by rw[List.length_take,List.length_drop];omega
  have:=beL_valB ((s.drop i).take k);rwa[hl] at this
 show sideB (valB ((s.drop 4).take 8)) (valB ((s.drop 12).take 4)) (entsA (valB ((s.drop 16).take 4)) (s.drop 20))=s;unfold sideB;rw[entsA_length,key 4 8 (by omega),key 12 4 (by omega),key 16 4 (by omega),entsB_back _ _ (by rw[List.length_drop];omega),<-hh];have split:∀(i k:Nat),(s.drop i).take k++s.drop (i+k)=s.drop i:=fun i k=>by
  rw[<-List.drop_drop,List.take_append_drop]
 rw[split 16 4,split 12 4,split 4 8,List.take_append_drop]
theorem side_cut {size sum:Nat} {l:List Ent} (h1:size<9223372036854775808) (h3:l.length<4294967296) {k:Nat} (hk:k<(sideB size sum l).length):(readD ((sideB size sum l).take k)).2.2.2=2:=by
 obtain⟨p1,p2,p3,p4,p5⟩:=side_parts size sum l [];rw[List.append_nil] at p1 p2 p3 p4 p5;have hl:=sideB_length size sum l;have v2:valB (beL 8 size)=size:=by rw[valB_beL];exact Nat.mod_eq_of_lt (by omega)
 have v4:valB (beL 4 l.length)=l.length:=by rw[valB_beL];exact Nat.mod_eq_of_lt (by omega)
 have hkl:((sideB size sum l).take k).length=k:=by rw[List.length_take];omega
 unfold readD;rw[hkl]
 by_cases q:k<20
 ·rw[if_pos q]
 ·have t1:((sideB size sum l).take k).take 4=[80,77,105,49]:=by rw[List.take_take,show min 4 k=4 by omega,p1]
  have t2:(((sideB size sum l).take k).drop 4).take 8=beL 8 size:=by rw[List.drop_take,List.take_take,show min 8 (k-4)=8 by omega,p2]
  have t4:(((sideB size sum l).take k).drop 16).take 4=beL 4 l.length:=by rw[List.drop_take,List.take_take,show min 4 (k-16)=4 by omega,p4]
  rw[if_neg q,t1,t2,t4,v2,v4,if_neg (by rintro(k|k)<;>first|exact k rfl|omega),if_pos (by omega)]
theorem read_long {size sum:Nat} {l:List Ent} (h1:size<9223372036854775808) (h3:l.length<4294967296) {m:List UInt8} (hm:m≠[]):(readD (sideB size sum l++m)).2.2.2=3:=by
 obtain⟨p1,p2,p3,p4,p5⟩:=side_parts size sum l m;have hl:=sideB_length size sum l;have hml:=List.length_pos_iff.2 hm;have v2:valB (beL 8 size)=size:=by rw[valB_beL];exact Nat.mod_eq_of_lt (by omega)
 have v4:valB (beL 4 l.length)=l.length:=by rw[valB_beL];exact Nat.mod_eq_of_lt (by omega)
 unfold readD;rw[List.length_append,p1,p2,p4,v2,v4,if_neg (by omega),if_neg (by rintro(k|k)<;>first|exact k rfl|omega),if_neg (by omega),if_pos (by omega)]
end Go.Proofs.YtmcogmmncfihhaaGreatDoor
