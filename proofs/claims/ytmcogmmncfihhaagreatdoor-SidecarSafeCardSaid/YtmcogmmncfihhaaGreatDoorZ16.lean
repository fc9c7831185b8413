/-
  Texts put together (part 16): the walks and the plain laws on which the statement stands.
-/
import Derived.Deep.RegionLawGrows
import Derived.Lib.SliceRun
import Derived.Sort.BigQuietIn
import Derived.Sort.LoopGhostIn
import Derived.Sort.QuietIn
import Derived.Sort.CutIn
import Derived.Test.YtmcogmmncfihhaaGreatDoorZ15
set_option maxRecDepth 100000
set_option maxHeartbeats 12800000
set_option linter.unusedVariables false
set_option linter.unusedSimpArgs false
open Array renaming getElem?_eq_some_iff->gQ
open Go renaming callsD_of_wpS->FY,heap_setCell_other->kT,wpAnyH_ready->fL
open Go.Act renaming put->aJ
open Go.AllReadyH renaming cons->fA,nil->fM
open Go.Calls renaming quiet_of_same->OM
open Go.Instr renaming typeAssert->BA
open Go.IntKind renaming i64->aI,wrap_i64->aM,wrap_u32->vP
open Go.Oper renaming wp->lX
open Go.Region renaming wanted->nR
open Go.RowKit.Below renaming refl->aB
open Go.Value renaming int->bO,slice->lK
open Go.World renaming cell?_setCell_other->iQ
open Int renaming natCast_nonneg->bAd,tmod_eq_emod_of_nonneg->oJ
open List renaming getD_eq_getElem?_getD->aV,getElem?_append_left->gS,getElem?_cons_zero->aP,getElem?_eq_getElem->aN,getElem?_map->dY,getElem?_toArray->aR,length_append->aL,length_drop->cI,length_map->bJ,setIfInBounds_toArray->aK,set_cons_succ->aG,set_cons_zero->aH,take_of_length_le->cS
open Nat renaming le_of_lt->sK,le_refl->aA,le_succ->pI,le_trans->aW,mod_lt->jQ,zero_le->aU
open Option.some renaming inj->bW,injEq->iP
namespace Go.Proofs.YtmcogmmncfihhaaGreatDoor
section
open Go.RowKit Go Go.Shelf
theorem aPm (p q r:Addr) (w:World):
  CallsD Tryz.prog 140 #[.pointer (some p),.pointer (some q),.pointer (some r)] .returning w fun e u' w'=>e=.returned (.tuple #[])/\u'=.returning/\w'=w:=by
 refine FY Tryz.func140 rfl fun c₀ cs hu=>?_
 apply wpS_seq;apply wpS_region;simp[wpOpsS,go_sem,recoverD,hu,Tryz.ntmps140,Exit.thenS];refine wpS_of_wp ?_;go_wp2
 cases c₀
 simp_all [bodyPostS,results,Tryz.f140]
theorem tH {b c o p:Nat} (h:b≠c):(⟨b,o,none⟩:Addr)≠⟨c,p,none⟩:=fun e=>h (congrArg Addr.block e)
theorem aPn (v:Value) (xT:TypeId) (w:World):(BA (.iface 234 v) xT 234 true).run Tryz.prog w=.ok (.tuple #[v,.bool true]) w:=by
 simp[BA,run_underlying Tryz.underlying234]
theorem aPo (z:Nat) (E:Int) (older:List PanicEntry) (w:World) (x6 x7 x8:Value) (g6:Arr w z 57 [x6]) (g7:Arr w (z+1) 3 [x7]) (g8:Arr w (z+1+1) 27 [x8]):
  CallsD Tryz.prog 140 #[.pointer (some ⟨z,0,none⟩),.pointer (some ⟨z+1,0,none⟩),.pointer (some ⟨z+1+1,0,none⟩)] (.panicking ({v:=.iface 234 (.agg #[.int .i64 E]),recovered:=false}::older)) w fun e u' w'=>
   e=.returned (.tuple #[])/\u'=.panicking ({v:=.iface 234 (.agg #[.int .i64 E]),recovered:=true}::older)/\Arr w' z 57 [.slice none 0 0]/\Arr w' (z+1) 3 [.int .i64 0]/\Arr w' (z+1+1) 27 [.int .i64 E]/\Below z w w':=by
 have e6:=g6.cell (i:=0) rfl;have e7:=g7.cell (i:=0) rfl;have e8:=g8.cell (i:=0) rfl;have f6:=g6.free 0;have f7:=g7.free 0;have f8:=g8.free 0;refine FY Tryz.func140 rfl fun c₀ cs hu=>?_
 apply wpS_seq;apply wpS_region;simp[wpOpsS,go_sem,recoverD,hu,Tryz.ntmps140,Exit.thenS];refine wpS_of_wp ?_;simp only[Array.replicate_succ,Array.replicate_zero,List.push_toArray,List.append_toArray,List.nil_append,List.cons_append,aK,aH,aG];have hta:=aPn (.agg #[.int .i64 E]);go_wp2_with fail;have g6':=g6.alloc (.cells #[.int .i64 E] 234);have g7':=g7.alloc (.cells #[.int .i64 E] 234);have g8':=g8.alloc (.cells #[.int .i64 E] 234);have hc0:=bS w (.int .i64 E) 234;have hzl:=g8.lt
 have hBz:Below z w (w.alloc (.cells #[.int .i64 E] 234)):=(aB z w).alloc (by omega) _;generalize w.alloc (.cells #[.int .i64 E] 234)=w1 at*
 obtain⟨sb,hsb⟩:∃sb,sb=w.heap.size:=⟨_,rfl⟩;rw[<-hsb] at hc0 hzl ⊢;clear e6 e7 e8 f6 f7 f8 hsb g6 g7 g8;have hBd:=hBz.drew;have h6:Arr w1.drew z 57 [x6]:=g6';have h7:Arr w1.drew (z+1) 3 [x7]:=g7';have h8:Arr w1.drew (z+1+1) 27 [x8]:=g8';have hS0:w1.drew.cell? ⟨sb,0,none⟩=some (.int .i64 E):=hc0;refine wp_region_held_drew (S:=fun w'=>w'.cell? ⟨sb,0,none⟩=some (.int .i64 E)) (by kernel_rfl) hc0 (fun hHeld=>?_);generalize w1.drew=w2 at*
 have k7:=h7.other ⟨z,0,none⟩ (by show _≠_;simp only[ne_eq];omega) (.slice none 0 0);have k8:=(h8.other ⟨z,0,none⟩ (by show _≠_;simp only[ne_eq];omega) (.slice none 0 0)).other ⟨z+1,0,none⟩ (by show _≠_;simp only[ne_eq];omega) (.int .i64 0);have e6:=h6.cell (i:=0) rfl;have e7:=k7.cell (i:=0) rfl;have e8:=k8.cell (i:=0) rfl;have f6:=h6.free 0;have f7:=k7.free 0;have f8:=k8.free 0;have hS1:(w2.setCell ⟨z,0,none⟩ (.slice none 0 0)).cell? ⟨sb,0,none⟩=some (.int .i64 E):=by rw[iQ _ _ _ _ (tH (by omega))];exact hS0
 have hS2:((w2.setCell ⟨z,0,none⟩ (.slice none 0 0)).setCell ⟨z+1,0,none⟩ (.int .i64 0)).cell? ⟨sb,0,none⟩=some (.int .i64 E):=by rw[iQ _ _ _ _ (tH (by omega))];exact hS1
 have hS3:(((w2.setCell ⟨z,0,none⟩ (.slice none 0 0)).setCell ⟨z+1,0,none⟩ (.int .i64 0)).setCell ⟨z+1+1,0,none⟩ (.int .i64 E)).cell? ⟨sb,0,none⟩=some (.int .i64 E):=by rw[iQ _ _ _ _ (tH (by omega))];exact hS2
 have q6:Arr (((w2.setCell ⟨z,0,none⟩ (.slice none 0 0)).setCell ⟨z+1,0,none⟩ (.int .i64 0)).setCell ⟨z+1+1,0,none⟩ (.int .i64 E)) z 57 [.slice none 0 0]:=((h6.set 0 _).other _ (by show _≠_;simp only[ne_eq];omega) _).other _ (by show _≠_;simp only[ne_eq];omega) _;have q7:Arr (((w2.setCell ⟨z,0,none⟩ (.slice none 0 0)).setCell ⟨z+1,0,none⟩ (.int .i64 0)).setCell ⟨z+1+1,0,none⟩ (.int .i64 E)) (z+1) 3 [.int .i64 0]:=(k7.set 0 _).other _ (by show _≠_;simp only[ne_eq];omega) _
 have q8:Arr (((w2.setCell ⟨z,0,none⟩ (.slice none 0 0)).setCell ⟨z+1,0,none⟩ (.int .i64 0)).setCell ⟨z+1+1,0,none⟩ (.int .i64 E)) (z+1+1) 27 [.int .i64 E]:=k8.set 0 _;have hBf:Below z w (((w2.setCell ⟨z,0,none⟩ (.slice none 0 0)).setCell ⟨z+1,0,none⟩ (.int .i64 0)).setCell ⟨z+1+1,0,none⟩ (.int .i64 E)):=((hBd.setCell (p:=⟨z,0,none⟩) (aA _) _).setCell (p:=⟨z+1,0,none⟩) (pI _) _).setCell (p:=⟨z+1+1,0,none⟩) (by show z<=z+1+1;omega) _;refine wpAnyH_take (i:=0) (oi:=?oi0) (v:=?v0) ?hi0 (by kernel_rfl) (by kernel_rfl) (by kernel_rfl) ?hq0 ?hy0 (by assumption) ?_
 case hi0=>(simp only[aR,aP];rfl)
 case hq0=>exact fun _ _ _ h=>h
 case hy0=>(refine Or.inl ⟨by rfl,?_⟩;intro w' hSw;(try dsimp only at hSw);(try go_simp);try with_reducible rfl)
 try simp only[aJ,aK,aH,aG]
 refine wpAnyH_take (i:=1) (oi:=?oi1) (v:=?v1) ?hi1 (by kernel_rfl) (by kernel_rfl) (by kernel_rfl) ?hq1 ?hy1 (by assumption) ?_
 case hi1=>(simp only[aR,List.getElem?_cons_succ,aP];rfl)
 case hq1=>exact fun _ _ _ h=>h
 case hy1=>(refine Or.inl ⟨by rfl,?_⟩;intro w' hSw;(try dsimp only at hSw);(try go_simp);try with_reducible rfl)
 try simp only[aJ,aK,aH,aG]
 refine fL (rs:=[2]) (by kernel_rfl) (by simp) ?_;refine fA rfl (fun K hK=>?_) fM;go_simp;refine hK.out _ _ ?_ (fun _=>?_)
 ·first|exact hS1|exact hS2|exact hS3
 try simp only[aJ,aK,aH,aG]
 refine fL (rs:=[3]) (by kernel_rfl) (by simp) ?_;refine fA rfl (fun K hK=>?_) fM;go_simp;refine hK.out _ _ ?_ (fun _=>?_)
 ·first|exact hS1|exact hS2|exact hS3
 try simp only[aJ,aK,aH,aG]
 refine fL (rs:=[4]) (by kernel_rfl) (by simp) ?_;refine fA rfl (fun K hK=>?_) fM;go_simp;refine hK.out _ _ ?_ (fun _=>?_)
 ·first|exact hS1|exact hS2|exact hS3
 try simp only[aJ,aK,aH,aG]
 refine wpAnyH_done (by kernel_rfl) ?_ _;go_wp2_with fail;refine⟨rfl,.panicking ({v:=.iface 234 (.agg #[.int .i64 E]),recovered:=true}::older),?_,.tuple #[],?_,rfl,rfl,q6,q7,q8,hBf⟩
 ·first|rfl|(cases c₀;simp_all)
 ·simp[results,Tryz.f140]
theorem ZS {P:Program} {fn:Func} {p q r:Tmp} {tx ty tz:TypeId} (h:fn.results=#[.cell p tx,.cell q ty,.cell r tz]) (tmps:Array Value) (w:World) (ax ay az:Addr) (vx vy vz:Value)
  (hp:tmps.getD p undef=.pointer (some ax)) (hq:tmps.getD q undef=.pointer (some ay)) (hr:tmps.getD r undef=.pointer (some az))
  (hx:(loadVar tx ax).run P w=.ok vx w) (hy:(loadVar ty ay).run P w=.ok vy w) (hz:(loadVar tz az).run P w=.ok vz w):
  (results fn tmps).run P w=.ok (.tuple #[vx,vy,vz]) w:=by
 have hp':tmps[p]?.getD undef=.pointer (some ax):=by simpa using hp
 have hq':tmps[q]?.getD undef=.pointer (some ay):=by simpa using hq
 have hr':tmps[r]?.getD undef=.pointer (some az):=by simpa using hr
 simp[results,h,hp',hq',hr',asAddr,hx,hy,hz,Result.andThen]
theorem MM {w W:World} {s:List UInt8} {a n z:Nat} {E:Int} {tmps:Array Value} {x6 x7 x8:Value} (h:eJ s (a:Int) (n:Int)=([],0,E)) (hz:w.heap.size=z)
  (g6:Arr W z 57 [x6]) (g7:Arr W (z+1) 3 [x7]) (g8:Arr W (z+1+1) 27 [x8]) (hb:Below z w W)
  (t6:tmps.getD 6 undef=.pointer (some ⟨z,0,none⟩)) (t7:tmps.getD 7 undef=.pointer (some ⟨z+1,0,none⟩)) (t8:tmps.getD 8 undef=.pointer (some ⟨z+1+1,0,none⟩)):
  Leaves Tryz.prog Tryz.f120 tmps (fun e w'=>wM w w' s a n e) [{target:=.fn (.func 140) #[.pointer (some ⟨z,0,none⟩),.pointer (some ⟨z+1,0,none⟩),.pointer (some ⟨z+1+1,0,none⟩)],args:=#[]}] (.panicking (ER E)) W:=by
 refine leaves_cons (f:=140) (args:=#[.pointer (some ⟨z,0,none⟩),.pointer (some ⟨z+1,0,none⟩),.pointer (some ⟨z+1+1,0,none⟩)]) (by simp) (by simp[go_sem]) ?_;refine(aPo z E [] W x6 x7 x8 g6 g7 g8).mono ?_;rintro e u' w' ⟨rfl,rfl,h6,h7,h8,hb'⟩;have c6:=h6.cell (i:=0) rfl;have c7:=h7.cell (i:=0) rfl;have c8:=h8.cell (i:=0) rfl;refine⟨_,ZS rfl tmps w' _ _ _ (.slice none 0 0) (.int .i64 0) (.int .i64 E) t6 t7 t8 (by simp[go_sem,c6]) (by simp[go_sem,c7]) (by simp[go_sem,c8]),?_⟩;exact yY h (hz▸hb.trans hb')
theorem aPp (w:World) (t1 t2 t3:TypeId) (v1 v2 v3:Value):∀W,W=((w.alloc (.cells #[v1] t1)).alloc (.cells #[v2] t2)).alloc (.cells #[v3] t3)->
  (Arr W w.heap.size t1 [v1]/\Arr W (w.heap.size+1) t2 [v2]/\Arr W (w.heap.size+1+1) t3 [v3])/\Below w.heap.size w W/\W.heap.size=w.heap.size+1+1+1:=by
 rintro W rfl;have a1:=Arr.new w t1 [v1];have a2:=Arr.new (w.alloc (.cells #[v1] t1)) t2 [v2];have a3:=Arr.new ((w.alloc (.cells #[v1] t1)).alloc (.cells #[v2] t2)) t3 [v3];have e:∀(W:World) (o:Obj),(W.alloc o).heap.size=W.heap.size+1:=fun W o=>by simp
 rw[e] at a2;rw[e,e] at a3;refine⟨⟨(a1.alloc _).alloc _,a2.alloc _,a3⟩,?_,by simp⟩;exact(((aB _ w).alloc (aA _) _).alloc (by simp) _).alloc (by simp;omega) _
theorem aPq (s:ByteArray) (a n:Nat) (w:World) (hs:s.size<=1000000) (ha:a<=90000000) (hn1:2<=n) (hn2:n<=258):
  Calls Tryz.prog 120 #[.string s,.int .i64 (a:Int),.int .i64 (n:Int)] w fun e w'=>wM w w' s.data.toList a n e:=by
 have HL:=hid (show s.data.toList.length=s.size by simp);have t1:decide ((a:Int)<0)=false:=decide_eq_false (by omega);have hmf:∀(fn:Fn) (first cap:Array Value) (w:World),(Instr.makeFunc fn first cap).run Tryz.prog w=.ok (.func fn first cap) w:=fun _ _ _ _=>rfl
 have HERR:=hid (fun k hk=>UF (s:=s.data.toList) (a:=a) (k:=k) hn1 hn2 hk);have HEQ:=hid (KO s.data.toList a n hn1 hn2);have h0:=UG s.data.toList (a:Int);rw[HL.out] at h0;have H0:=hid h0;clear h0;have hVb:=iA s.data.toList (a:Int) 5;have hok:=fQ (n:=s.size) (at':=(a:Int)) (k:=5);have hVb:aE s.data.toList (a:Int) 5<32:=hVb
 go_enter_defers Tryz.func120,Tryz.ntmps120
 go_wp2_with fail;refine(ZL n _ hn1 hn2).mono ?_;rintro e w' ⟨rfl,rfl⟩;obtain⟨⟨g6,g7,g8⟩,hB0,hz0⟩:=aPp w 57 3 27 (.slice none 0 0) (.int .i64 0) (.int .i64 0) _ rfl;generalize ((w.alloc (.cells #[.slice none 0 0] 57)).alloc (.cells #[.int .i64 0] 3)).alloc (.cells #[.int .i64 0] 27)=w0 at*
 obtain⟨z,hz⟩:∃z,w.heap.size=z:=⟨_,rfl⟩;rw[hz] at g6 g7 g8 hB0 hz0 ⊢;have HZ:=hid hz;clear hz;go_wp2_with fail;have hA0:DRd (w0.alloc (.cells #[.string s,.int .i64 (a:Int)] 237)) w0.heap.size s a:=Arr.new w0 237 [.string s,.int .i64 (a:Int)];have g6:=g6.alloc (.cells #[.string s,.int .i64 (a:Int)] 237);have g7:=g7.alloc (.cells #[.string s,.int .i64 (a:Int)] 237);have g8:=g8.alloc (.cells #[.string s,.int .i64 (a:Int)] 237);have hB1:=hB0.alloc (o:=.cells #[.string s,.int .i64 (a:Int)] 237) (by omega)
 have hz1:(w0.alloc (.cells #[.string s,.int .i64 (a:Int)] 237)).heap.size=z+1+1+1+1:=by simp[hz0]
 rw[hz0] at hA0;generalize w0.alloc (.cells #[.string s,.int .i64 (a:Int)] 237)=w1 at*
 clear hB0 hz0;refine(MK (z+1+1+1) s a 5 w1 hA0 hs (by decide) (by omega)).mono ?_;rintro e w2 (⟨h1,rfl,hA2,hg2⟩|⟨h1,rfl,hg2⟩)
 rotate_left
 ·have g6:=g6.grown hg2 (by simp only[ne_eq,iP];omega);have g7:=g7.grown hg2 (by simp only[ne_eq,iP];omega);have g8:=g8.grown hg2 (by simp only[ne_eq,iP];omega);have hB2:=hB1.grown hg2 (by omega) (fun k hk=>by obtain rfl:=bW hk;omega);have H:=H0.out;rw[if_pos h1] at H;have HF:=HERR.out 0 (by omega) (by rw[H];exact h1);rw[H] at HF;go_wp2_with fail;exact MM HF HZ.out g6 g7 g8 hB2 rfl rfl rfl
 have hok:=hok h1;have H:=H0.out;rw[if_neg (fun k=>k h1)] at H;obtain⟨V,hV⟩:∃V,V=aE s.data.toList (a:Int) 5:=⟨_,rfl⟩;rw[<-hV] at H hVb ⊢;clear hV h1;have g6:=g6.grown hg2 (by simp only[ne_eq,iP];omega);have g7:=g7.grown hg2 (by simp only[ne_eq,iP];omega);have g8:=g8.grown hg2 (by simp only[ne_eq,iP];omega);have hB2:=hB1.grown hg2 (by omega) (fun k hk=>by obtain rfl:=bW hk;omega);have hz2:z+1+1+1+1<=w2.heap.size:=by have:=hg2.size;omega
 clear hB1 hz1 hg2 hA0;go_wp2_with fail;refine(ML (z+1+1+1) (V:Int) w2).mono ?_;rintro e w3 (⟨h2,rfl,rfl⟩|⟨h2,rfl,rfl⟩)
 rotate_left
 ·rw[if_pos (by omega)] at H;have HF:=HERR.out 0 (by omega) (by rw[H];exact(by decide:(3:Int)≠0));rw[H] at HF;go_wp2_with fail;exact MM HF HZ.out g6 g7 g8 hB2 rfl rfl rfl
 rw[if_neg (by omega)] at H;have H0:=hid H;clear H;go_wp2_with fail
 go_loopg [10,28] n (fun g s10 s28 wr=>∃(k p:Nat) (m:Int) (v:Value),k<=n/\g=n-k/\s28=.int .i64 (k:Int)/\s10=.int .i64 m/\1<=m/\m<=20/\p<=90000005/\Hid ((aZ s.data.toList (a:Int) k).2.2.2=0/\(aZ s.data.toList (a:Int) k).2.1=m/\(aZ s.data.toList (a:Int) k).2.2.1=(p:Int)/\(aZ s.data.toList (a:Int) k).1.length=k)/\
  Arr wr z 57 [v]/\Arr wr (z+1) 3 [.int .i64 0]/\Arr wr (z+1+1) 27 [.int .i64 0]/\DRd wr (z+1+1+1) s p/\OwI wr (z+1+1+1+1) v (aZ s.data.toList (a:Int) k).1/\Below z w wr/\z+1+1+1+1<=wr.heap.size)
 case atStart=>exact⟨0,a+5,(V:Int),_,aU _,rfl,rfl,rfl,by omega,by omega,by omega,hid ⟨by rw[H0.out],by rw[H0.out],by rw[H0.out];push_cast;rfl,by rw[H0.out];rfl⟩,g6,g7,g8,hA2,by rw[H0.out];exact OwI.nil _ _,hB2,hz2⟩
 case round=>
  clear g6 g7 g8 hA2 hB2 hz2;obtain⟨k,p,m,v,hk,hg,rfl,rfl,hm1,hm2,hpb,HK,g6,g7,g8,hA,ho,hbel,hsz⟩:=hrel;have HG:=hid hg;clear hg
  by_cases hlt:k<n
  ·have v1:decide ((k:Int)<(n:Int))=true:=decide_eq_true (by omega);have hst:=UH HK.out.1;rw[HK.out.2.1,HK.out.2.2.1] at hst;have hcall:=aPl (z+1+1+1) s p m wr hA hs (by omega) hm1 hm2;have hAok:=DA s.data.toList (8*s.data.toList.length+2) (p:Int) m (by omega) hm1 hm2;rw[HL.out] at hAok;rw[show iB s.data.toList (8*s.size+2) (p:Int) m=eD s.data.toList (p:Int) m by unfold eD;rw[HL.out]] at hAok;obtain⟨q1,q2,q3,hq⟩:∃q1 q2 q3,eD s.data.toList (p:Int) m=(q1,q2,q3):=⟨_,_,_,rfl⟩;rw[hq] at hst hcall hAok;simp only at hst hcall hAok;clear hq;go_wp2_with fail
   refine hcall.mono ?_;rintro e w3 (⟨hq3,rfl,⟨p',hp',hA3⟩,hg3⟩|⟨hq3,rfl,hg3⟩)
   rotate_left
   ·rw[if_pos hq3] at hst;have HF:=HERR.out (k+1) (by omega) (by rw[hst];exact hq3);rw[hst] at HF;have g6:=g6.grown hg3 (by simp only[ne_eq,iP];omega);have g7:=g7.grown hg3 (by simp only[ne_eq,iP];omega);have g8:=g8.grown hg3 (by simp only[ne_eq,iP];omega);have hB3:=hbel.grown hg3 (by omega) (fun k hk=>by obtain rfl:=bW hk;omega);go_wp2_with fail;exact MM HF HZ.out g6 g7 g8 hB3 rfl rfl rfl
   subst hq3;subst hp';rw[if_neg (fun k=>k rfl)] at hst;obtain⟨a1,a2,a3,a4⟩:=hAok rfl;have HS:=hid hst;clear hst;have hol:(aZ s.data.toList (a:Int) k).1.length<=258:=by rw[HK.out.2.2.2];omega
   have g6:=g6.grown hg3 (by simp only[ne_eq,iP];omega);have g7:=g7.grown hg3 (by simp only[ne_eq,iP];omega);have g8:=g8.grown hg3 (by simp only[ne_eq,iP];omega);have hsz3:z+1+1+1+1<=w3.heap.size:=by have:=hg3.size;omega
   have ho3:OwI w3 (z+1+1+1+1) v (aZ s.data.toList (a:Int) k).1:=Ow.kept ho hg3 (by
    rcases hob:v.ownBlock with _|kb
    ·exact .inl rfl
    ·have:=(Ow.lt ho kb hob).1;refine .inr (fun e=>?_);have:=bW e;omega)
   have hB3:=hbel.grown hg3 (by omega) (fun k hk=>by obtain rfl:=bW hk;omega);have c6:=g6.cell (i:=0) rfl;clear ho hbel;have hzb:z<z+1+1+1+1:=by omega
   have hzb1:z+1<z+1+1+1+1:=by omega
   have hzb2:z+1+1<z+1+1+1+1:=by omega
   have hzb3:z+1+1+1<z+1+1+1+1:=by omega
   clear hcall hAok hok;go_wp2_with (at_builtin;refine eN rfl _ _ rfl (z+1+1+1+1) _ _ rfl (OwI.alloc ho3 _) _ q1 rfl (bS _ _ _) ?_ ?_ ?_;(omega);(simp;omega);intro v4 w4 r1 r2 r3;obtain⟨ad4,ca4,rfl,_,_,_⟩:=(OwI.rd r1).open;have f6:=((g6.alloc (.cells #[.int .i64 q1] 3)).below r2 hzb).free 0;have e6:=((g6.alloc (.cells #[.int .i64 q1] 3)).below r2 hzb).cell (i:=0) rfl);have k6:=((g6.alloc (.cells #[.int .i64 q1] 3)).below r2 hzb).set 0 (.slice ad4 ((aZ s.data.toList (a:Int) k).1.length+1) ca4)
   have k7:=((g7.alloc (.cells #[.int .i64 q1] 3)).below r2 hzb1).other ⟨z,0,none⟩ (by show _≠_;simp only[ne_eq];omega) (.slice ad4 ((aZ s.data.toList (a:Int) k).1.length+1) ca4);have k8:=((g8.alloc (.cells #[.int .i64 q1] 3)).below r2 hzb2).other ⟨z,0,none⟩ (by show _≠_;simp only[ne_eq];omega) (.slice ad4 ((aZ s.data.toList (a:Int) k).1.length+1) ca4);have kA:=((Arr.alloc hA3 (.cells #[.int .i64 q1] 3)).below r2 hzb3).other ⟨z,0,none⟩ (by show _≠_;simp only[ne_eq];omega) (.slice ad4 ((aZ s.data.toList (a:Int) k).1.length+1) ca4)
   have kB:=((hB3.alloc (o:=.cells #[.int .i64 q1] 3) (by omega)).trans (r2.mono (by omega))).setCell (p:=⟨z,0,none⟩) (aA _) (.slice ad4 ((aZ s.data.toList (a:Int) k).1.length+1) ca4);have hg:=HG.out
   go_roundg (n-(k+1))
   case measure=>omega
   case rel=>
    refine⟨k+1,p',q1,_,by omega,rfl,by go_num,rfl,a1,a2,by omega,hid ⟨by rw[HS.out],by rw[HS.out],by rw[HS.out],by rw[HS.out,aL,HK.out.2.2.2];rfl⟩,k6,k7,k8,kA,?_,kB,?_⟩
    ·rw[HS.out];rw[aL] at r1;refine Ow.kept r1 (gbS w4 z 0 _) ?_;rcases hob:(lK ad4 ((aZ s.data.toList (a:Int) k).1.length+[q1].length) ca4).ownBlock with _|kb
     ·exact .inl rfl
     ·have:=(Ow.lt r1 kb hob).1;refine .inr (fun e=>?_);have:=bW e;omega
    ·have:=r2.size;simp only[World.size_alloc] at this;simp only[World.size_setCell];omega
  ·have v1:decide ((k:Int)<(n:Int))=false:=decide_eq_false (by omega);have hke:k=n:=by omega
   subst hke;have hEQ:=HEQ.out;rw[if_neg (fun q=>q HK.out.1),HK.out.2.2.1] at hEQ;have HF:=hid hEQ;obtain⟨adv,cav,rfl,_,_,_⟩:=(OwI.rd ho).open;have c6:=g6.cell (i:=0) rfl;have c7:=g7.cell (i:=0) rfl;have c8:=g8.cell (i:=0) rfl;have f6:=g6.free 0;have f7:=g7.free 0;have f8:=g8.free 0;have d0:=Arr.cell hA (i:=0) rfl;have d1:=Arr.cell hA (i:=1) rfl;clear hEQ hok;go_wp2_with fail
   go_region
   go_wp2_with fail;refine leaves_cons (f:=140) (args:=#[.pointer (some ⟨z,0,none⟩),.pointer (some ⟨z+1,0,none⟩),.pointer (some ⟨z+1+1,0,none⟩)]) (by simp) (by simp[go_sem]) ?_;refine(aPm ⟨z,0,none⟩ ⟨z+1,0,none⟩ ⟨z+1+1,0,none⟩ _).mono ?_;rintro e u' w'' ⟨rfl,rfl,rfl⟩;have hb3:=HZ.out;have k6:=((g6.set 0 (.slice adv (aZ s.data.toList (a:Int) k).1.length cav)).other ⟨z+1,0,none⟩ (by show _≠_;simp only[ne_eq];omega) (.int .i64 (p:Int))).other ⟨z+1+1,0,none⟩ (by show _≠_;simp only[ne_eq];omega) (.int .i64 0)
   have k7:=((g7.other ⟨z,0,none⟩ (by show _≠_;simp only[ne_eq];omega) (.slice adv (aZ s.data.toList (a:Int) k).1.length cav)).set 0 (.int .i64 (p:Int))).other ⟨z+1+1,0,none⟩ (by show _≠_;simp only[ne_eq];omega) (.int .i64 0);have k8:=((g8.other ⟨z,0,none⟩ (by show _≠_;simp only[ne_eq];omega) (.slice adv (aZ s.data.toList (a:Int) k).1.length cav)).other ⟨z+1,0,none⟩ (by show _≠_;simp only[ne_eq];omega) (.int .i64 (p:Int))).set 0 (.int .i64 0)
   have kB:=((hbel.setCell (p:=⟨z,0,none⟩) (aA _) (.slice adv (aZ s.data.toList (a:Int) k).1.length cav)).setCell (p:=⟨z+1,0,none⟩) (pI _) (.int .i64 (p:Int))).setCell (p:=⟨z+1+1,0,none⟩) (by show z<=z+1+1;omega) (.int .i64 0);have kv:∀(q:Nat) (V:Value) (W:World),q<z+1+1+1+1->OwI W (z+1+1+1+1) (lK adv (aZ s.data.toList (a:Int) k).1.length cav) (aZ s.data.toList (a:Int) k).1->OwI (W.setCell ⟨q,0,none⟩ V) (z+1+1+1+1) (lK adv (aZ s.data.toList (a:Int) k).1.length cav) (aZ s.data.toList (a:Int) k).1:=fun q V W hq h=>by
    refine Ow.kept h (gbS W q 0 V) ?_;rcases hob:(lK adv (aZ s.data.toList (a:Int) k).1.length cav).ownBlock with _|kb
    ·exact .inl rfl
    ·have:=(Ow.lt h kb hob).1;refine .inr (fun e=>?_);have:=bW e;omega
   have kO:=kv (z+1+1) (.int .i64 0) _ (by omega) (kv (z+1) (.int .i64 (p:Int)) _ (by omega) (kv z (.slice adv (aZ s.data.toList (a:Int) k).1.length cav) _ (by omega) ho));generalize ((wr.setCell ⟨z,0,none⟩ (.slice adv (aZ s.data.toList (a:Int) k).1.length cav)).setCell ⟨z+1,0,none⟩ (.int .i64 (p:Int))).setCell ⟨z+1+1,0,none⟩ (.int .i64 0)=w5 at*
   have k6:Arr w5.drew z 57 [.slice adv (aZ s.data.toList (a:Int) k).1.length cav]:=k6;have k7:Arr w5.drew (z+1) 3 [.int .i64 (p:Int)]:=k7;have k8:Arr w5.drew (z+1+1) 27 [.int .i64 0]:=k8;have kO:OwI w5.drew (z+1+1+1+1) (.slice adv (aZ s.data.toList (a:Int) k).1.length cav) (aZ s.data.toList (a:Int) k).1:=kO;have kB:=kB.drew;generalize w5.drew=w6 at*
   have c6:=k6.cell (i:=0) rfl;have c7:=k7.cell (i:=0) rfl;have c8:=k8.cell (i:=0) rfl;refine⟨_,ZS rfl _ w6 ⟨z,0,none⟩ ⟨z+1,0,none⟩ ⟨z+1+1,0,none⟩ (.slice adv (aZ s.data.toList (a:Int) k).1.length cav) (.int .i64 (p:Int)) (.int .i64 0) rfl rfl rfl (by simp[go_sem,c6]) (by simp[go_sem,c7]) (by simp[go_sem,c8]),?_⟩;exact⟨_,by rw[HF.out],by rw[HF.out];exact Ow.base kO (by omega),by rw[hb3];exact kB⟩
theorem ZU (n:Int) (W:World):Calls Tryz.prog 103 #[.int .i64 n] W fun e w'=>e=.returned (.bool (decide (1<=n)&&decide (n<=360)))/\w'=W:=by
 by_cases h:1<=n
 ·have u1:decide (1<=n)=true:=decide_eq_true h;have u2:decide (n>=1)=true:=decide_eq_true h;rw[u1];go_enter Tryz.func103,Tryz.ntmps103;go_wp2_with fail;go_ret;exact⟨rfl,rfl⟩
 ·have u1:decide (1<=n)=false:=decide_eq_false h;have u2:decide (n>=1)=false:=decide_eq_false h;rw[u1];go_enter Tryz.func103,Tryz.ntmps103;go_wp2_with fail;go_ret;exact⟨rfl,rfl⟩
def oC (E:Int):List PanicEntry:=[{v:=.iface 187 (.agg #[.int .i64 E]),recovered:=false}]
theorem vC (E:Int) (W:World):Calls Tryz.prog 116 #[.int .i64 E] W fun e w'=>
  (E=0/\e=.returned (.tuple #[])/\w'=W)\/(E≠0/\e=.panicked (oC E)/\w'=W):=by
 by_cases h:E=0
 ·subst h;go_enter Tryz.func116,Tryz.ntmps116;go_wp2_with fail
  go_end0
  exact .inl ⟨trivial,rfl,rfl⟩
 ·have u1:(E != 0)=true:=by simpa using h
  go_enter Tryz.func116,Tryz.ntmps116;go_wp2_with fail;exact⟨rfl,.inr ⟨h,rfl,rfl⟩⟩
theorem pU (b:Bool) (E:Int) (W:World) (hE:E≠0):Calls Tryz.prog 106 #[.bool b,.int .i64 E] W fun e w'=>
  (b=true/\e=.returned (.tuple #[])/\w'=W)\/(b=false/\e=.panicked (oC E)/\w'=W):=by
 have hor:=(vC E W).mono (fun e w' h=>show e=.panicked (oC E)/\w'=W from by
  rcases h with h|h
  ·exact absurd h.1 hE
  ·exact h.2)
 cases b with
 |true=>
  go_enter Tryz.func106,Tryz.ntmps106;go_wp2_with fail
  go_end0
  exact .inl ⟨trivial,rfl,rfl⟩
 |false=>
  go_enter Tryz.func106,Tryz.ntmps106;go_wp2_with fail;refine hor.mono ?_;rintro e w' ⟨rfl,rfl⟩;go_wp2_with fail;exact⟨rfl,.inr ⟨trivial,rfl,rfl⟩⟩
def BRd (w:World) (b:Nat) (s:ByteArray) (a:Nat) (tb ch co:Value):Prop:=Arr w b 191 [.string s,.int .i64 (a:Int),tb,ch,co]
theorem zT (b:Nat) (s:ByteArray) (a k:Nat) (tb ch co:Value) (W:World) (hA:BRd W b s a tb ch co) (hs:s.size<=1000000) (hk:k<=48) (ha:a<=100000000):
  Calls Tryz.prog 109 #[.pointer (some ⟨b,0,none⟩),.int .i64 (k:Int)] W fun e w'=>
   (aO s.size (a:Int) k=0/\e=.returned (.int .i64 (aE s.data.toList (a:Int) k:Int))/\BRd w' b s (a+k) tb ch co/\W.grownBy w' (some b))\/(aO s.size (a:Int) k≠0/\e=.panicked (oC (aO s.size (a:Int) k))/\W.grownBy w' (some b)):=by
 have hget:=fun W=>sT s (a:Int) k W hs (by omega) (by omega) (by omega)
 have hVb:=iA s.data.toList (a:Int) k;have hVb2:aE s.data.toList (a:Int) k<281474976710656:=Nat.lt_of_lt_of_le hVb (aW (Nat.pow_le_pow_right (by decide) hk) (by decide));obtain⟨E,hE⟩:∃E,E=aO s.size (a:Int) k:=⟨_,rfl⟩;obtain⟨V,hV⟩:∃V,V=aE s.data.toList (a:Int) k:=⟨_,rfl⟩;rw[<-hE,<-hV];rw[<-hE,<-hV] at hget;rw[<-hV] at hVb2;have HE:=hid hE;clear hE hV hVb;have c0:=Arr.cell hA (i:=0) rfl;have c1:=Arr.cell hA (i:=1) rfl;have m1:aI.wrap (V:Int)=(V:Int):=by rw[aM];omega
 have m2:aI.wrap ((a:Int)+(k:Int))=(a:Int)+(k:Int):=by rw[aM];omega
 have hor:=fun W=>vC E W
 go_enter Tryz.func109,Tryz.ntmps109;go_wp2_with fail
 go_quiet (first|(go_at_call 92;exact OM (hget _)))
 generalize hWn:W.drewN nq=W1 at*
 have hA1:BRd W1 b s a tb ch co:=by rw[<-hWn];exact hA
 have hg1:W.grownBy W1 (some b):=by rw[<-hWn];exact⟨rfl,rfl,rfl,aA _,fun _ _ _=>rfl⟩
 have d1:=Arr.cell hA1 (i:=1) rfl;have g1:=Arr.free hA1 1;clear hWn;go_wp2_with fail;refine(hor _).mono ?_;rintro e w2 (⟨rfl,rfl,rfl⟩|⟨h0,rfl,rfl⟩)
 ·go_wp2_with fail;go_ret;exact⟨rfl,by have:=Arr.set hA1 1 (.int .i64 ((a:Int)+(k:Int)));unfold BRd;push_cast;exact this,gbT hg1 (gbS _ _ _ _)⟩
 ·go_wp2_with fail;exact⟨rfl,.inr ⟨h0,rfl,hg1⟩⟩
theorem ES (b:Nat) (s:ByteArray) (a:Nat) (q E:Int) (tb ch co:Value) (W:World) (hA:BRd W b s a tb ch co):
  Calls Tryz.prog 111 #[.pointer (some ⟨b,0,none⟩),.int .i64 q,.int .i64 E] W fun e w'=>
   (E=0/\e=.returned (.tuple #[])/\Arr w' b 191 [.string s,.int .i64 q,tb,ch,co]/\W.grownBy w' (some b))\/(E≠0/\e=.panicked (oC E)/\w'=W):=by
 have d1:=Arr.cell hA (i:=1) rfl;have g1:=Arr.free hA 1;have hor:=vC E W;go_enter Tryz.func111,Tryz.ntmps111;go_wp2_with fail;refine hor.mono ?_;rintro e w2 (⟨rfl,rfl,rfl⟩|⟨h0,rfl,rfl⟩)
 ·go_wp2_with fail
  go_end0
  exact⟨rfl,Arr.set hA 1 _,gbS _ _ _ _⟩
 ·go_wp2_with fail;exact⟨rfl,.inr ⟨h0,rfl,rfl⟩⟩
theorem aV3 (d:Nat) (h:d<=9223372036854775807):wrap64 (d:Int)=(d:Int):=IZ (by omega) (by omega)
theorem aW1 (a:BitVec 32):(a.toNat:Int)/2147483648=((a>>>31).toNat:Int):=by
 rw[BitVec.toNat_ushiftRight,Nat.shiftRight_eq_div_pow];omega
theorem aW2 (a b:BitVec 32):bits .or .u32 (a.toNat:Int) (b.toNat:Int)=((a|||b).toNat:Int):=by
 rw[u32_or_nat _ _ a.isLt b.isLt,BitVec.toNat_or]
theorem aW3 (x b:BitVec 32) (w:World):
  Calls Tryz.prog 108 #[.int .u32 (x.toNat:Int),.int .u32 (b.toNat:Int)] w fun e w'=>e=.returned (.int .u32 ((aU8 x b).toNat:Int))/\w'=w:=by
 have e1:=WC x;have e2:=aW1 x;obtain⟨y,hy⟩:∃y,y=x<<<1:=⟨_,rfl⟩;obtain⟨z,hz⟩:∃z,z=x>>>31:=⟨_,rfl⟩;have e3:=aW2 y z;obtain⟨q,hq⟩:∃q,q=y|||z:=⟨_,rfl⟩;have e4:=DW q b;obtain⟨r,hr⟩:∃r,r=q^^^b:=⟨_,rfl⟩;have HF:=hid (show((r.toNat:Nat):Int)=((aU8 x b).toNat:Int) by rw[hr,hq,hy,hz];rfl);rw[<-hy] at e1;rw[<-hz] at e2;rw[<-hq] at e3;rw[<-hr] at e4;clear hy hz hq hr;obtain⟨X,hX⟩:∃X,X=x.toNat:=⟨_,rfl⟩;obtain⟨Y,hY⟩:∃Y,Y=y.toNat:=⟨_,rfl⟩;obtain⟨Z,hZ⟩:∃Z,Z=z.toNat:=⟨_,rfl⟩;obtain⟨Q,hQ⟩:∃Q,Q=q.toNat:=⟨_,rfl⟩;obtain⟨B,hB⟩:∃B,B=b.toNat:=⟨_,rfl⟩;obtain⟨R,hR⟩:∃R,R=r.toNat:=⟨_,rfl⟩
 rw[<-hX,<-hY] at e1;rw[<-hX,<-hZ] at e2;rw[<-hY,<-hZ,<-hQ] at e3;rw[<-hQ,<-hB,<-hR] at e4;rw[<-hR] at HF;rw[<-hX,<-hB];have e1':(X:Int)*2%4294967296=(Y:Int):=by rw[<-e1,vP]
 have e2':(X:Int)/2147483648=(Z:Int):=by omega
 clear e2;clear hX hY hZ hQ hB hR;go_enter Tryz.func108,Tryz.ntmps108;go_wp2_with fail;go_ret;exact⟨fX HF.out,rfl⟩
def aU2 (l:List (BitVec 32)):List Value:=l.map (fun b=>bO .u32 (b.toNat:Int))
def RdS (w:World) (v:Value) (l:List (BitVec 32)):Prop:=Rd w v l.length (aU2 l)
def OwS (w:World) (B:Nat) (v:Value) (l:List (BitVec 32)):Prop:=Ow w B 34 v (aU2 l)
theorem aVb (l:List (BitVec 32)):(aU2 l).length=l.length:=bJ ..
theorem OwS.rd {w:World} {B:Nat} {v:Value} {l:List (BitVec 32)} (h:OwS w B v l):RdS w v l:=by
 unfold RdS;have:=Ow.rd h;rwa[aVb] at this
theorem RdS.below {w w':World} {v:Value} {l:List (BitVec 32)} (h:RdS w v l) (hb:Below w.heap.size w w'):RdS w' v l:=Rd.below h hb
theorem RdS.open {w:World} {v:Value} {l:List (BitVec 32)} (h:RdS w v l):
  ∃a cap,v=.slice a l.length cap/\l.length<=cap/\cap<=maxLen/\
   (0<l.length->∃b off,a=some ⟨b,off,none⟩/\b<w.heap.size/\∀j x,l[j]? =some x->w.cell? ⟨b,off+j,none⟩=some (.int .u32 (x.toNat:Int))):=by
 obtain⟨a,cap,rfl,h1,h2,h3⟩:=h;refine⟨a,cap,rfl,h1,h2,fun hne=>?_⟩;rcases h3 with h3|⟨b,off,rfl,hlt,hc⟩
 ·have:=congrArg List.length h3;rw[aVb,List.length_nil] at this;omega
 ·refine⟨b,off,rfl,hlt,fun j x hx=>?_⟩;have hj:=(List.getElem?_eq_some_iff.1 hx).1;have e:(aU2 l)[j]? =some (.int .u32 (x.toNat:Int)):=by unfold aU2;rw[dY,hx];rfl
  rw[hc j (by rw[aVb];exact hj),aV,e];rfl
theorem aW4 {l:List (BitVec 32)} {k:Nat} {x:BitVec 32} (h:l[k]? =some x):aUi (l.take (k+1))=aU8 (aUi (l.take k)) x:=by
 unfold aUi;rw[List.take_add_one,h];show List.foldl aU8 0#32 (l.take k++[x])=_;rw[List.foldl_append];rfl
theorem aW5 (v:Value) (l:List (BitVec 32)) (w:World) (hr:RdS w v l):
  Calls Tryz.prog 102 #[v] w fun e w'=>e=.returned (.int .u32 ((aUi l).toNat:Int))/\w'=w:=by
 obtain⟨a,ca,rfl,hca,hma,hA⟩:=hr.open;unfold maxLen at hma;clear hr;obtain⟨Z,hZ⟩:∃Z,Z=(aUi (l.take 0)).toNat:=⟨_,rfl⟩;have hz0:(Z:Int)=0:=by rw[hZ];rfl
 go_enter Tryz.func102,Tryz.ntmps102;go_wp2_with fail
 go_loopg [2,4,7] l.length (fun g s2 _s4 s7 wr=>∃k X:Nat,k<=l.length/\g=l.length-k/\s7=.int .i64 (k:Int)/\s2=.int .u32 (X:Int)/\Hid (X=(aUi (l.take k)).toNat)/\wr=w)
 case atStart=>exact⟨0,Z,aU _,rfl,rfl,by rw[hz0],hid hZ,rfl⟩
 case round=>
  obtain⟨k,X,hk,hg,rfl,rfl,HX,rfl⟩:=hrel;have HG:=hid hg;clear hg hz0 hZ
  by_cases hlt:k<l.length
  ·have t1:decide ((k:Int)<(l.length:Int))=true:=decide_eq_true (by omega);obtain⟨b,off,rfl,hb,hc⟩:=hA (by omega);obtain⟨x,hx⟩:∃x,l[k]? =some x:=⟨_,aN hlt⟩;have c1:=hc k x hx;have hcall:=aW3 (aUi (l.take k)) x wr;rw[<-aW4 hx,<-HX.out] at hcall;obtain⟨Y,hY⟩:∃Y,Y=(aUi (l.take (k+1))).toNat:=⟨_,rfl⟩;obtain⟨x',hx'⟩:∃x',x'=x.toNat:=⟨_,rfl⟩;rw[<-hY,<-hx'] at hcall;rw[<-hx'] at c1;have HY:=hid hY;clear hY hx' hx hc hA;go_wp2_with fail;refine hcall.mono ?_;rintro e w2 ⟨rfl,rfl⟩;go_wp2_with fail;have hg:=HG.out
   go_roundg (l.length-(k+1))
   case measure=>omega
   case rel=>exact⟨k+1,Y,by omega,rfl,by go_num,rfl,HY,rfl⟩
  ·have t1:decide ((k:Int)<(l.length:Int))=false:=decide_eq_false (by omega);have HF:=hid (show((X:Nat):Int)=((aUi l).toNat:Int) by rw[HX.out,cS (by omega)]);go_wp2_with fail;go_ret;exact⟨fX HF.out,rfl⟩
theorem aW6 (x:Nat) (h1:49<=x) (h2:x<=57):∃d q:Nat,IntKind.u8.wrap ((x:Int)-48)=(d:Int)/\(x:Int)-48=(d:Int)/\aI.wrap (d:Int)=(d:Int)/\wrap64 (d:Int)=(d:Int)/\aI.wrap (40*(d:Int))=(q:Int)/\40*(d:Int)=(q:Int)/\(q:Int)=40*((x:Int)-48):=
 ⟨x-48,40*(x-48),by rw[IntKind.wrap_u8];omega,by omega,by rw[aM];omega,aV3 _ (by omega),by rw[aM];omega,by omega,by omega⟩
theorem aW7 (s:ByteArray) (w:World) (hs:4<=s.size):
  Calls Tryz.prog 100 #[.string s,.string ⟨#[80,77,107]⟩] w fun e w'=>e=.returned (.bool ((s.extract 0 3).toList==[80,77,107]))/\w'=w:=by
 have t1:decide ((s.size:Int)>=3)=true:=decide_eq_true (by omega);have t2:decide ((3:Int)<=(s.size:Int))=true:=decide_eq_true (by omega);have q1:(3:Int)<=(s.size:Int):=by omega
 go_enter Tryz.func100,Tryz.ntmps100;go_wp2_with fail;go_enter Tryz.func107,Tryz.ntmps107;go_wp2_with fail;go_ret;exact⟨rfl,rfl⟩
theorem aW8 (s:ByteArray) (k:Nat) (w:World) (hk:k<=s.size) (hs:s.size<=1000000):
  Calls Tryz.prog 91 #[.string s,.int .i64 (k:Int)] w fun e w'=>e=.returned (.tuple #[.int .i64 (QU s.data.toList k).1,.int .i64 (QU s.data.toList k).2])/\w'=w:=by
 have HL:=hid (show s.data.toList.length=s.size by simp);obtain⟨T,hT⟩:∃T,T=s.extract k s.size:=⟨_,rfl⟩;have hd:T.data.toList=s.data.toList.drop k:=by
  rw[hT,nT,fW,cS (by rw[cI,HL.out];omega)]
 have hTs:T.size=s.size-k:=by
  have:T.data.toList.length=T.size:=by simp
  rw[<-this,hd,cI,HL.out]
 have q1:(k:Int)<=(s.size:Int):=by omega
 have hT':s.extract k s.size=T:=hT.symm;clear hT
 by_cases h4:T.size<4
 ·have hr:QU s.data.toList k=(0,2):=by unfold QU;rw[if_pos (by rw[HL.out];omega)]
  have t1:decide ((T.size:Int)<4)=true:=decide_eq_true (by omega);rw[hr];clear hr hd;go_enter Tryz.func91,Tryz.ntmps91;go_wp2_with fail
  go_ret2
  exact⟨rfl,rfl⟩
 have t1:decide ((T.size:Int)<4)=false:=decide_eq_false (by omega);have h3:3<T.size:=by omega
 have hpre:=fun W=>aW7 T W (by omega)
 have e3:=eW T 3 h3;have hb3:(s.data.toList.getD (k+3) 0).toNat=T[3].toNat:=by
  rw[hd,List.getElem?_drop] at e3;rw[aV,e3];rfl
 have hp3:(s.data.toList.drop k).take 3=(T.extract 0 3).toList:=by
  rw[Lib.toList_data,nT,fW,hd,List.drop_zero]
 have hr:QU s.data.toList k=if(T.extract 0 3).toList≠[80,77,107]\/T[3].toNat<49\/57<T[3].toNat then((0:Int),(3:Int)) else((40:Int)*((T[3].toNat:Int)-48),(0:Int)):=by
  unfold QU;rw[if_neg (by rw[HL.out];omega),hb3,hp3]
 have hbt:=T[3].toNat_lt;clear hd e3 hb3 hp3
 by_cases hp:(T.extract 0 3).toList=[80,77,107]
 rotate_left
 ·have hpf:((T.extract 0 3).toList==[80,77,107])=false:=by rw[beq_eq_false_iff_ne];exact hp
  rw[if_pos (.inl hp)] at hr;rw[hr];rw[hpf] at hpre;clear hr hp hpf;go_enter Tryz.func91,Tryz.ntmps91;go_wp2_with fail;refine(hpre _).mono ?_;rintro e w' ⟨rfl,rfl⟩;go_wp2_with fail
  go_ret2
  exact⟨rfl,rfl⟩
 have hpt:((T.extract 0 3).toList==[80,77,107])=true:=by rw[beq_iff_eq];exact hp
 rw[hpt] at hpre
 by_cases hlo:T[3].toNat<49
 ·have u1:decide ((T[3].toNat:Int)<49)=true:=decide_eq_true (by omega);rw[if_pos (.inr (.inl hlo))] at hr;rw[hr];clear hr hp hpt;go_enter Tryz.func91,Tryz.ntmps91;go_wp2_with fail;refine(hpre _).mono ?_;rintro e w' ⟨rfl,rfl⟩;go_wp2_with fail
  go_ret2
  exact⟨rfl,rfl⟩
 have u1:decide ((T[3].toNat:Int)<49)=false:=decide_eq_false (by omega)
 by_cases hhi:57<T[3].toNat
 ·have u2:decide ((T[3].toNat:Int)>57)=true:=decide_eq_true (by omega);have u3:decide (57<(T[3].toNat:Int))=true:=decide_eq_true (by omega);rw[if_pos (.inr (.inr hhi))] at hr;rw[hr];clear hr hp hpt;go_enter Tryz.func91,Tryz.ntmps91;go_wp2_with fail;refine(hpre _).mono ?_;rintro e w' ⟨rfl,rfl⟩;go_wp2_with fail
  go_ret2
  exact⟨rfl,rfl⟩
 have u2:decide ((T[3].toNat:Int)>57)=false:=decide_eq_false (by omega);have u3:decide (57<(T[3].toNat:Int))=false:=decide_eq_false (by omega);rw[if_neg (by rintro(q|q|q)<;>first|exact q hp|omega)] at hr;obtain⟨d,q,m1,m2,m3,m3',m4,m5,m6⟩:=aW6 T[3].toNat (by omega) (by omega);have HR:=hid (show((q:Nat):Int)=(QU s.data.toList k).1/\(0:Int)=(QU s.data.toList k).2 by rw[hr];exact⟨m6,rfl⟩);rw[<-HR.out.1,<-HR.out.2];clear hr hp hpt hlo hhi m6;go_enter Tryz.func91,Tryz.ntmps91;go_wp2_with fail;refine(hpre _).mono ?_;rintro e w' ⟨rfl,rfl⟩;go_wp2_with fail
 go_ret2
 exact⟨rfl,rfl⟩
def SRd (w:World) (b:Nat) (s:ByteArray) (a:Int) (v:Value):Prop:=Arr w b 147 [.string s,.int .i64 a,v]
theorem Ow.box {w w':World} {B b e:Nat} {v:Value} {xs:List Value} (h:Ow w B e v xs) (hg:w.grownBy w' (some b)) (hb:b<B):Ow w' B e v xs:=
 h.kept hg (by
  cases hv:v.ownBlock with
  |none=>exact .inl rfl
  |some k=>exact .inr (fun q=>by injection q with q;have:=(h.lt k hv).1;omega))
theorem aU6 (d:Nat) (h:d<=9223372036854775807):aI.wrap (d:Int)=(d:Int):=by rw[aM];omega
theorem aW9 (V:Nat) (h:V<4294967296):IntKind.u32.wrap (V:Int)=(V:Int):=by rw[vP];omega
theorem aXa (V:Nat) (h:V<4294967296):(V:Int)%4294967296=(V:Int):=by omega
theorem aXb (a:Nat) (ha:a<=90000000):∃A r8 q pd F:Nat,A=a+80/\aUr ((a:Int)+80).toNat=pd/\pd<=7/\F=A+pd/\(A:Int)+(aUr (A:Int).toNat:Int)=(F:Int)/\aI.wrap ((a:Int)+48)=(a:Int)+48/\aI.wrap ((a:Int)+80)=(A:Int)/\(a:Int)+80=(A:Int)/\
  (A:Int).tmod 8=(r8:Int)/\aI.wrap (8-(r8:Int))=(q:Int)/\8-(r8:Int)=(q:Int)/\(q:Int).tmod 8=(pd:Int)/\aI.wrap ((A:Int)+(pd:Int))=(F:Int)/\(A:Int)+(pd:Int)=(F:Int)/\aI.wrap (F:Int)=(F:Int)/\wrap64 (F:Int)=(F:Int):=by
 obtain⟨A,hA⟩:∃A,A=a+80:=⟨_,rfl⟩;obtain⟨r8,hr8⟩:∃r8,r8=A%8:=⟨_,rfl⟩;obtain⟨q,hq⟩:∃q,q=8-r8:=⟨_,rfl⟩;obtain⟨pd,hpd⟩:∃pd,pd=q%8:=⟨_,rfl⟩;obtain⟨F,hF⟩:∃F,F=A+pd:=⟨_,rfl⟩;have hr:r8<8:=by rw[hr8];exact jQ _ (by decide)
 have hp:pd<8:=by rw[hpd];exact jQ _ (by decide)
 have e1:(a:Int)+80=(A:Int):=by omega
 have e2:8-(r8:Int)=(q:Int):=by omega
 have e3:(A:Int)+(pd:Int)=(F:Int):=by omega
 have hFb:F<=9223372036854775807:=by omega
 have hAb:A<=9223372036854775807:=by omega
 have e4:(a:Int)+48=((a+48:Nat):Int):=by push_cast;rfl
 have e5:aUr A=pd:=by unfold aUr;rw[<-hr8,<-hq,hpd]
 have e6:((a:Int)+80).toNat=A:=by omega
 refine⟨A,r8,q,pd,F,hA,by rw[e6];exact e5,by omega,hF,by rw[Int.toNat_natCast,e5];exact e3,?_,?_,e1,?_,?_,e2,?_,?_,e3,aU6 F hFb,aV3 F hFb⟩
 ·rw[e4];exact aU6 _ (by omega)
 ·rw[e1];exact aU6 _ hAb
 ·rw[oJ (bAd _),hr8];rfl
 ·rw[e2];exact aU6 _ (by omega)
 ·rw[oJ (bAd _),hpd];rfl
 ·rw[e3];exact aU6 _ hFb
theorem aXc (b B:Nat) (s:ByteArray) (a:Nat) (v:Value) (l:List (BitVec 32)) (w:World) (hA:SRd w b s (a:Int) v) (hr:OwS w B v l) (hbB:b<B) (hs:s.size<=1000000) (ha:a<=90000000):
  Calls Tryz.prog 93 #[.pointer (some ⟨b,0,none⟩)] w fun e w'=>
   e=.returned (.int .i64 (aUm s.data.toList (a:Int) (aUi l)).2)/\w.grownBy w' (some b)/\∃a':Int,SRd w' b s a' v/\((aUm s.data.toList (a:Int) (aUi l)).2=0->a'=(aUm s.data.toList (a:Int) (aUi l)).1):=by
 have HL:=hid (show s.data.toList.length=s.size by simp);obtain⟨A,r8,q,pd,F,hAe,hpn,hpd7,hF,hAF,hrest⟩:=aXb a ha;have HR:=hid hrest;clear hrest;have hAI:(a:Int)+80=(A:Int):=by omega
 have hFI:(A:Int)+(pd:Int)=(F:Int):=by omega
 have hg1:=fun W=>sT s ((a:Int)+48) 32 W hs (by decide) (by omega) (by omega)
 have hg2:=fun W=>sT s (A:Int) pd W hs (by omega) (by omega) (by omega)
 have hpn':aUr (A:Int).toNat=pd:=by rw[<-hAI];exact hpn
 have hAF':(A:Int)+(pd:Int)=(F:Int):=hFI;have hv1:=iA s.data.toList ((a:Int)+48) 32;have hd:aUm s.data.toList (a:Int) (aUi l)=if aO s.size ((a:Int)+48) 32≠0 then(0,aO s.size ((a:Int)+48) 32) else if aE s.data.toList ((a:Int)+48) 32≠(aUi l).toNat then(0,7) else if aE s.data.toList (A:Int) pd≠0 then(0,3) else((F:Int),0):=by
  unfold aUm;rw[HL.out,hAI,hpn',hAF']
 have hcall:=fun W (h:RdS W v l)=>aW5 v l W h
 obtain⟨S,hS⟩:∃S,S=(aUi l).toNat:=⟨_,rfl⟩;obtain⟨E,hE⟩:∃E,E=aO s.size ((a:Int)+48) 32:=⟨_,rfl⟩;obtain⟨V,hV⟩:∃V,V=aE s.data.toList ((a:Int)+48) 32:=⟨_,rfl⟩;obtain⟨E2,hE2⟩:∃E2,E2=aO s.size (A:Int) pd:=⟨_,rfl⟩;obtain⟨V2,hV2⟩:∃V2,V2=aE s.data.toList (A:Int) pd:=⟨_,rfl⟩;rw[<-hE,<-hV] at hg1;rw[<-hE2,<-hV2] at hg2;rw[<-hS] at hcall;rw[<-hE,<-hV,<-hV2,<-hS] at hd;rw[<-hV] at hv1;have hv1':V<4294967296:=hv1;obtain⟨m1,m2,m2',m3,m4,m4',m5,m6,m6',-,-⟩:=HR.out;have m7:=aW9 V hv1';have m7':=aXa V hv1';have HD:=hid hd;have c0:=Arr.cell hA (i:=0) rfl;have c1:=Arr.cell hA (i:=1) rfl
 clear hpn' hAF' HR hAI hFI;clear hd hS hE hV hE2 hV2 hv1 hpn hAe hF hAF HL;go_enter Tryz.func93,Tryz.ntmps93;go_wp2_with fail
 go_quiet (first|(go_at_call 92;exact OM (hg1 _)))
 generalize hWn:w.drewN nq=W1 at*
 have hA1:SRd W1 b s (a:Int) v:=by rw[<-hWn];exact hA
 have hr1:OwS W1 B v l:=by rw[<-hWn];exact hr
 have hgr1:w.grownBy W1 (some b):=by rw[<-hWn];exact⟨rfl,rfl,rfl,aA _,fun _ _ _=>rfl⟩
 have d1:=Arr.cell hA1 (i:=1) rfl;have f1:=Arr.free hA1 1;have hA2:SRd (W1.setCell ⟨b,1,none⟩ (.int .i64 (A:Int))) b s (A:Int) v:=Arr.set hA1 1 _;have hr2:OwS (W1.setCell ⟨b,1,none⟩ (.int .i64 (A:Int))) B v l:=Ow.box hr1 (gbS _ _ _ _) hbB;have hgr2:=gbT hgr1 (gbS W1 b 1 (.int .i64 (A:Int)));have e0:=Arr.cell hA2 (i:=0) rfl;have e1:=Arr.cell hA2 (i:=1) rfl;clear hWn hA hr c0 c1 hA1 hr1 hgr1;go_wp2_with fail;generalize W1.setCell ⟨b,1,none⟩ (.int .i64 (A:Int))=W2 at*
 go_quiet (first|(go_at_call 92;exact OM (hg2 _)))
 generalize hWn:W2.drewN nq=W3 at*
 have hA3:SRd W3 b s (A:Int) v:=by rw[<-hWn];exact hA2
 have hr3:OwS W3 B v l:=by rw[<-hWn];exact hr2
 have hgr3:w.grownBy W3 (some b):=by rw[<-hWn];exact⟨hgr2.os,hgr2.tape,hgr2.output,hgr2.size,hgr2.block⟩
 have d3:=Arr.cell hA3 (i:=1) rfl;have f3:=Arr.free hA3 1;have hA4:SRd (W3.setCell ⟨b,1,none⟩ (.int .i64 (F:Int))) b s (F:Int) v:=Arr.set hA3 1 _;have hr4:OwS (W3.setCell ⟨b,1,none⟩ (.int .i64 (F:Int))) B v l:=Ow.box hr3 (gbS _ _ _ _) hbB;have hgr4:=gbT hgr3 (gbS W3 b 1 (.int .i64 (F:Int)));have e2:=Arr.cell hA4 (i:=2) rfl;have hrd:=hr4.rd;have hrt:=hcall _ hrd;clear hWn hA2 hr2 hgr2 e0 e1 d1 f1 hA3 hr3 hgr3 hg1 hg2 hcall
 by_cases h1:E=0
 rotate_left
 ·have t1:(E==0)=false:=by rw[beq_eq_false_iff_ne];exact h1
  have t2:(E != 0)=true:=by rw[bne_iff_ne];exact h1
  have hd:=HD.out;rw[if_pos h1] at hd;have HF:=hid hd;clear hd HD hrt h1;go_wp2_with fail;go_ret;exact⟨fX (by rw[HF.out]),hgr4,_,hA4,fun k=>absurd (by rw[HF.out] at k;exact k) (by simpa using t2)⟩
 subst h1;have hd:=HD.out;rw[if_neg (fun k=>k rfl)] at hd;have HD:=hid hd;clear hd;go_wp2_with fail;refine hrt.mono ?_;rintro e w' ⟨rfl,rfl⟩
 by_cases h2:V=S
 rotate_left
 ·have t1:((V:Int) != (S:Int))=true:=by rw[bne_iff_ne];exact fun q=>h2 (Int.ofNat_inj.1 q)
  have t2:(V != S)=true:=by rw[bne_iff_ne];exact h2
  have hd:=HD.out;rw[if_pos h2] at hd;have HF:=hid hd;clear hd HD h2;go_wp2_with fail;go_ret;exact⟨fX (by rw[HF.out]),hgr4,_,hA4,fun k=>absurd (by rw[HF.out] at k;exact k) (by decide)⟩
 have t1:((V:Int) != (S:Int))=false:=by rw[bne_eq_false_iff_eq,h2]
 have t2:(V != S)=false:=by rw[bne_eq_false_iff_eq];exact h2
 have hd:=HD.out;rw[if_neg (fun k=>k h2)] at hd
 by_cases h3:V2=0
 rotate_left
 ·have t3:((V2:Int) != 0)=true:=by rw[bne_iff_ne];exact fun q=>h3 (Int.ofNat_inj.1 q)
  have t4:(V2 != 0)=true:=by rw[bne_iff_ne];exact h3
  rw[if_pos h3] at hd;have HF:=hid hd;clear hd HD h2 h3;go_wp2_with fail;go_ret;exact⟨fX (by rw[HF.out]),hgr4,_,hA4,fun k=>absurd (by rw[HF.out] at k;exact k) (by decide)⟩
 have t3:((V2:Int) != 0)=false:=by rw[bne_eq_false_iff_eq,h3];rfl
 have t4:(V2 != 0)=false:=by rw[bne_eq_false_iff_eq];exact h3
 rw[if_neg (fun k=>k h3)] at hd;have HF:=hid hd;clear hd HD h2 h3;go_wp2_with fail;go_ret;exact⟨fX (by rw[HF.out]),hgr4,_,hA4,fun _=>by rw[HF.out]⟩
theorem xC {P:Program} {ops:Array Oper} {o:Oper} {a:Act} {w:World} {K:Act->World->Prop} {Q:Exit->Act->World->Prop} {E:Prop} (hg:o.guard=none) (s x:Operand) (t:TypeId)
  (ho:o.op=.call {callee:=.builtin .append,args:=#[s,x],argTypes:=#[t,t]}) (v u v':Value) (w':World) (hs:a.eval s=v) (hx:a.eval x=u)
  (hr:(Builtin.append_ #[t,t] o.type #[v,u]).run P w=.ok v' w') (h:K (a.put o.dst v') w'):if nR o (yielded ops a.tmps)=true then lX P o a w K Q else E:=by
 have hw:nR o (yielded ops a.tmps)=true:=by simp[nR,hg]
 rw[if_pos hw];unfold lX execOp;simp only[ho,resolve,invoke,builtin,Sem.run_bind,Sem.run_pure,Result.andThen_ok,List.map_toArray,List.map_cons,List.map_nil,hs,hx,hr];exact h
def WrL (w:World) (p B:Nat) (ls:List (List Bool)):Prop:=∃v,Arr w p 999983 [v]/\gG w B v ls
def KT (e p:Nat) (w w':World):Prop:=w.heap.size<=w'.heap.size/\∀k o,w.heap[k]? =some o->k≠p->(∀c fz,o≠.cells c e fz)->w'.heap[k]? =some o
theorem KT.trans {e p:Nat} {a b c:World} (h:KT e p a b) (k:KT e p b c):KT e p a c:=⟨aW h.1 k.1,fun i o hi hne ht=>k.2 i o (h.2 i o hi hne ht) hne ht⟩
theorem KT.below {e p:Nat} {w w':World} (h:Below w.heap.size w w'):KT e p w w':=⟨h.size,fun k _ hk _ _=>(h.block k (gQ.1 hk).1).trans hk⟩
theorem KT.app {e p B z n:Nat} {w w':World} {v:Value} {xs:List Value} (ho:w.ownsRow B e z v n xs) (h:w.grownBy w' v.ownBlock):KT e p w w':=⟨h.size,fun k o hk _ ht=>by
 refine(h.block k (gQ.1 hk).1 (fun e=>?_)).trans hk;rcases ho.2 with⟨rfl,_⟩|⟨g,cap,cur,rfl,_,hg,_⟩
 ·cases e
 ·obtain rfl:=bW e;rw[hk] at hg;exact ht _ _ (bW hg)⟩
theorem KT.box {e p i:Nat} {w:World} (v:Value):KT e p w (w.setCell ⟨p,i,none⟩ v):=⟨by simp,fun k o hk hne _=>by rw[kT w ⟨p,i,none⟩ k v hne];exact hk⟩
theorem KT.ow {e p B e':Nat} {w w':World} {v:Value} {xs:List Value} (h:KT e p w w') (ho:Ow w B e' v xs) (hp:p<B) (he:e'≠e):Ow w' B e' v xs:=by
 refine⟨ho.1,?_⟩;rcases ho.2 with hn|⟨g,cap,cur,e1,hb,hg,rest⟩
 ·exact .inl hn
 ·exact .inr ⟨g,cap,cur,e1,hb,h.2 g _ hg (by omega) (fun c fz q=>by injection q with _ q2;exact he q2),rest⟩
theorem OwI.zero (w:World) (B:Nat) (hB:B<=w.heap.size):OwI (w.alloc (.cells #[] 3)) B (.slice (some ⟨w.heap.size,0,none⟩) 0 0) []:=
 ⟨rfl,.inr ⟨w.heap.size,0,#[],rfl,hB,(by show(w.heap.push _)[w.heap.size]? =_;simp),aA _,by simp[maxLen],by simp,by simp⟩⟩
abbrev pr (q:Int×Int):VV:=(.int .i64 q.1,.int .i64 q.2)
theorem aA4:∀(L:List VV) (i:Nat) (a b:Value),i<L.length->((prC L).set (i*2) a).set (i*2+1) b=prC (L.set i (a,b))
 |[],i,a,b,h=>by simp at h
 |x::L,0,a,b,_=>rfl
 |x::L,i+1,a,b,h=>by
  have ih:=aA4 L i a b (by simpa using h);have e:prC (x::L)=x.1::x.2::prC L:=rfl;rw[e,show(i+1)*2=i*2+2 by omega,aG,aG,aG,aG,ih];rfl
def kS (w:World) (B:Nat) (v:Value) (l:List Int):Prop:=∃b R,v=.slice (some ⟨b,0,none⟩) l.length l.length/\B<=b/\Arr w b 3 (l.map (bO .i64)++R)
theorem kS.rd {w:World} {B:Nat} {v:Value} {l:List Int} (h:kS w B v l) (hl:l.length<=1000000):RdI w v l:=by
 obtain⟨b,R,rfl,hB,hA⟩:=h;refine⟨_,_,rfl,aA _,by unfold maxLen;omega,.inr ⟨b,0,rfl,hA.lt,fun j hj=>?_⟩⟩;rw[Nat.zero_add];exact hA.cell (by rw[gS hj,aN hj,aV,aN hj];rfl)
theorem kS.below {w w':World} {B:Nat} {v:Value} {l:List Int} (h:kS w B v l) (hb:Below w.heap.size w w'):kS w' B v l:=by
 obtain⟨b,R,e,hB,hA⟩:=h;exact⟨b,R,e,hB,hA.below hb hA.lt⟩
theorem kS.base {w:World} {B B':Nat} {v:Value} {l:List Int} (h:kS w B v l) (hB:B'<=B):kS w B' v l:=by
 obtain⟨b,R,e,h1,hA⟩:=h;exact⟨b,R,e,aW hB h1,hA⟩
end
section
open Go.RowKit Go Go.Shelf
attribute [local go_sem] Oper.semAt_some
def KpA (B1:Nat) (A B:World):Prop:=A.heap.size<=B.heap.size/\∀k o,(k=B1\/k=B1+1)->A.heap[k]? =some o->o.isCells=true->B.heap[k]? =some o
theorem KpA.trans {B1:Nat} {A B C:World} (h:KpA B1 A B) (k:KpA B1 B C):KpA B1 A C:=⟨aW h.1 k.1,fun i o hi ho hc=>k.2 i o hi (h.2 i o hi ho hc) hc⟩
theorem KpA.put {B1 B:Nat} (_:B1+1<B) (W:World) (l:Nat) (o o':Obj) (hl:B<=l) (_:W.heap[l]? =some o) (_:o.isCells=false) (_:o.isWalk=false):KpA B1 W (W.putObj l o'):=
 ⟨by simp,fun k q hk hq _=>by rw[World.putObj_heap_other (by omega)];exact hq⟩
theorem KpA.arr {B1 b e:Nat} {A B:World} {l:List Value} (h:KpA B1 A B) (hA:Arr A b e l) (hb:b=B1\/b=B1+1):Arr B b e l:=h.2 b _ hb hA rfl
end
end Go.Proofs.YtmcogmmncfihhaaGreatDoor
