/-
  The mathematics of archives (chapter 17): one bit of the last sum is another one: that is told.
-/
import Derived.Test.YtihbnmlinkbnkaaGreatDoorZ45
set_option linter.unusedVariables false
set_option linter.unusedSimpArgs false
set_option maxRecDepth 100000
set_option maxHeartbeats 12800000
namespace Go.Proofs.YtihbnmlinkbnkaaGreatDoor
theorem arcD_flip {L:List (Nat×List ByteArray)} (hL:L≠[]) (ho:∀p∈L,1<=p.1/\p.1<=9/\∀t∈p.2,okT (40*(p.1:Int)) t) {b:Nat} (h1:8*((aI (dH L)).length-3)<=b) (h2:b<8*((aI (dH L)).length-1)):
  (cI (LL (aI (dH L)) b)).2=7:=by
 obtain⟨I,⟨n,x⟩,rfl⟩:∃I p,L=I++[p]:=⟨L.dropLast,L.getLast hL,(List.dropLast_concat_getLast hL).symm⟩;obtain⟨o1,o2,o3⟩:=ho (n,x) (List.mem_append_right _ (List.mem_singleton.2 rfl));have hst:=ES (dH (I++[(n,x)]));have h8:=LP (I++[(n,x)]);have hal:=(EW I).1;have hil:=(EW I).2;rw[aDt,aDs] at hst h8;rw[List.length_append] at h8;obtain⟨s,hs⟩:∃s,s=aI (dH (I++[(n,x)])):=⟨_,rfl⟩;rw[<-hs] at h1 h2 ⊢;rw[show aI (dH I++iD (cM n x))=s by rw[hs,aDt,aDs]] at hst
 rw[show aI (dH I++iD (cM n x))=s by rw[hs,aDt,aDs]] at h8;dsimp only at o1 o2 o3;obtain⟨a1,a2⟩:=gN hst;obtain⟨K,hK⟩:∃K,(dH I).length=8*K:=⟨(dH I).length/8,by omega⟩;rw[hK,Nat.zero_add] at a2;have hpl:=zO (cM n x);have hpn:=aDk (cM n x).length;have hsl:=xT n x;have hb8:b<8*s.length:=by omega
 obtain⟨s',hs'⟩:∃s',s'=LL s b:=⟨_,rfl⟩;have hl':s'.length=s.length:=by rw[hs',bGz]
 have keep:∀{a:Nat} {l:List Bool},cR s a l->a+l.length<=b->cR s' a l:=fun{a l} h hb=>
  bGy hl'.symm (fun i _ hi=>by rw[hs',bG0 hb8,aE (by omega)];simp) h
 have a3:=a2;unfold iD cM at a3;rw[List.append_assoc] at a3;have hh:=(gN a3).1;have hhl:(eR (iN n)).length=32:=by rw[qU];rfl
 obtain⟨p1,p2⟩:=gN (bG2 a2);obtain⟨p3,p4⟩:=gN p2;rw[dV] at p4;obtain⟨p5,_⟩:=gN p4;obtain⟨c,hc⟩:∃c,c=8*K+32+(fN x).length+48:=⟨_,rfl⟩;rw[<-hc] at p5;have hc32:c+32<=8*s.length:=by have:=p5.1;rw[dV] at this;exact this
 have hsg:(seg s' c 32).length=32:=BT (by omega);obtain⟨v,hv⟩:∃v,v=dG (seg s' c 32):=⟨_,rfl⟩;have hvb:v<2^32:=by have:=wC (seg s' c 32);rw[hsg] at this;rw[hv];exact this
 have hvn:aT v 32=seg s' c 32:=by have:=RA (seg s' c 32);rw[hsg] at this;rw[hv];exact this
 have q5:cR s' c (aT v 32):=⟨by rw[dV];omega,by rw[dV,hvn]⟩;have hne:v≠(EV x).toNat:=fun e=>by
  rw[e] at q5;have e1:=LK q5 (i:=b-c) (by rw[dV];omega);have e2:=LK p5 (i:=b-c) (by rw[dV];omega);rw[show c+(b-c)=b by omega] at e1 e2;rw[hs',bG0 hb8,e2,aG rfl] at e1;simp at e1
 have q1:=keep p1 (by omega);have q3:=keep p3 (by rw[dV];omega);have qh:=keep hh (by omega);have qj:cR s' (8*K+32) (fN x++(aT 0x177245385090 48++(aT v 32++[]))):=
  bIb q1 (bIb q3 (by rw[dV,List.append_nil,<-hc];exact q5))
 have hfs:=bBu (r:=40*(n:Int)) (by omega) hvb x (8*s'.length+1) (8*K+32) [] o3 (by have:=aDq x;omega) qj (by
  rw[List.nil_append];unfold sU;rw[aDo];exact hne)
 have hrm:=aVi o1 o2 qh;have hsd:(cU s' ((8*K:Nat):Int)).2.2=7:=by
  unfold cU;rw[show(((8*K:Nat):Int)/8).toNat=K by omega,hrm,aA (by simp)];exact hfs
 have hsk:=SQ (s:=s') I (8*s'.length+1) 0 [] (fun p hp=>ho p (List.mem_append_left _ hp)) (by omega) (keep a1 (by omega));rw[List.nil_append,Nat.mul_zero,Nat.zero_add,hK] at hsk;rw[<-hs'];unfold cI;rw[aA (fun e=>by rw[e] at hl';simp at hl';omega)];show(gT s' (8*s'.length+1) ((0:Nat):Int) []).2=7;rw[hsk];obtain⟨f,hf⟩:∃f,8*s'.length+1-I.length=f+1:=⟨8*s'.length-I.length,by omega⟩;rw[hf];unfold gT;rw[aA (by omega),aB (by rw[hsd];decide)];exact hsd
end Go.Proofs.YtihbnmlinkbnkaaGreatDoor
