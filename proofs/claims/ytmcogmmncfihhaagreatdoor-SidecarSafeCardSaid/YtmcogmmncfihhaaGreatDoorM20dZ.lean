/-
  The mathematics of sidecars (chapter 20), more: one byte another one, one more, one less.
-/
import Derived.Test.YtmcogmmncfihhaaGreatDoorM20cZ
set_option linter.unusedVariables false
set_option linter.unusedSimpArgs false
set_option maxRecDepth 100000
set_option maxHeartbeats 12800000
namespace Go.Proofs.YtmcogmmncfihhaaGreatDoor
open Go
theorem swap_iff {s:List UInt8} {k:Nat} {b c:UInt8} (h:s[k]? =some b):s.take k++[c]++s.drop (k+1)=s↔b=c:=by
 obtain⟨hk,hb⟩:=List.getElem?_eq_some_iff.1 h;have e:s.take k++[b]++s.drop (k+1)=s:=by
  rw[List.append_assoc,<-hb];show s.take k++(s[k]::s.drop (k+1))=s;rw[<-List.drop_eq_getElem_cons hk,List.take_append_drop]
 constructor
 ·intro q;have hl:(s.take k).length=k:=by rw[List.length_take];omega
  have q1:(s.take k++([c]++s.drop (k+1)))[k]? =some b:=by rw[<-List.append_assoc,q];exact h
  rw[List.getElem?_append_right (by omega),hl,Nat.sub_self] at q1;exact(Option.some.inj q1).symm
 ·rintro rfl;exact e
theorem load_len {a s:List UInt8} (hA:(hH a).2=0) (hs:a.length<=1000000) (hl:(hH a).1.length<=1000000) (h:s.length≠20+26*(hH a).1.length):loadE a s≠0:=by
 intro q;have e:=(load_own hA hs hl).1 q;refine h ?_;rw[e,sideB_length,aWd];unfold aUl;rw[if_pos hA]
theorem load_twice {a:List UInt8} {l:List Ent} (h0:a≠[]) (ha:a.length<9223372036854775808) (hl:l.length<4294967296) (hf:∀x∈l,x.fit) (hr:aU1 l):loadE (a++a) (sideB a.length (fG a).toNat l)=7:=by
 have hc:=(fG a).isLt;have hp:=List.length_pos_iff.2 h0;exact load_else (read_back ha hc hl hf hr) (.inl (by rw[List.length_append];omega))
theorem arc_some {a:List UInt8} (h:(hH a).2=0):a≠[]:=by
 rintro rfl;unfold hH at h;rw[if_pos rfl] at h;exact absurd h (by decide)
end Go.Proofs.YtmcogmmncfihhaaGreatDoor
