/- A part of the proof: Zi Zj Zl Zm Zn Wd Yn Wa Xa Xb Mq Xc Ix R10c. -/
import Derived.Test.YtlcfiilejnnlnaaGreatDoorB09
import Derived.Laws.StructEq
import Derived.DeepKeys
set_option maxRecDepth 100000
set_option maxHeartbeats 20000000
set_option linter.unusedVariables false
set_option linter.unusedSimpArgs false
namespace Go.Proofs.YtlcfiilejnnlnaaGreatDoor
section
open Go
theorem bt0 (l:List Nat):(strB l).data.toList=l.map UInt8.ofNat:=by unfold strB;simp
theorem bi6 (t:List Nat):((strB t).toList == (⟨#[]⟩:ByteArray).toList)=decide (t=[]):=by
 rw [ByteArray.toList_eq,ByteArray.toList_eq,bt0]
 cases t <;> simp
theorem cd6 {s:Strm} {q d:Nat} (h:s.b[q]?=some d):(strL s)[8+q]?=some (yD d):=by
 unfold strL
 rw [List.getElem?_append_right (by simp),List.getElem?_append_left (by have:=(List.getElem?_eq_some_iff.1 h).1;simp;omega),List.getElem?_map]
 simp [h]
theorem sk38 {A B:Prop} (k:B) (h:Hd7 B→A:=by intro hk7q;(first|refine sb21 ?_|refine sb1 ?_|((with_reducible refine' Cp.by ?hc ?_);(case hc=>fail))|((with_reducible refine' CE.pure ?hc ?_);(case hc=>fail)));exact hk7q.run):A:=h ⟨k⟩
theorem by0 (s:Strm) (h:s.OK) (t:List Nat) (ht:∀ d∈t,d<256) (hn:s.n+t.length≤100000000):APure Tryz.prog 83 [strD s,strY t] (strD (Strm.add t.length s t)):=by
 obtain ⟨R,hR⟩:∃ R,R=Strm.add t.length s t:=⟨_,rfl⟩
 have hRo:R.OK:=by rw [hR];exact Strm.add_ok _ h ht
 rw [← hR,aQ6 h]
 refine eP7 Tryz.func83 Tryz.ntmps83 fun BB=>?_
 (((with_reducible refine W.mk ?_);(conv=>whnf)))
 refine Bx.r ?_
 refine OtE.box (t:=172) rfl rfl (fun b2=>?_)
 repeat' first|refine sk38 ?_|(intro b;conv=>whnf)
 refine aa5 mixed aa0 (γ:=Nat × Strm × List Nat) (fun g=>[(1,strY g.2.2)]) (fun g=>[(b,.cells 172 [D.v (zv (ZV.int IntKind.u32)),D.v (zv (ZV.int IntKind.u32)),D.v (zv (ZV.int IntKind.u32)),D.v (zv (ZV.int IntKind.u32)),D.v (zv (ZV.int IntKind.u32)),D.v (zv (ZV.int IntKind.u32)),D.v (zv (ZV.int IntKind.u32)),D.v (zv (ZV.int IntKind.u32)),D.v (zv (ZV.int IntKind.u8)),D.v (zv (ZV.int IntKind.u8)),D.v (zv (ZV.int IntKind.u8)),D.v (zv (ZV.int IntKind.u8)),D.v (zv (ZV.int IntKind.u8)),D.v (zv (ZV.int IntKind.u8)),D.v (zv (ZV.int IntKind.u8)),D.v (zv (ZV.int IntKind.u8)),D.v (zv (ZV.int IntKind.u8)),D.v (zv (ZV.int IntKind.u8)),D.v (zv (ZV.int IntKind.u8)),D.v (zv (ZV.int IntKind.u8)),D.v (zv (ZV.int IntKind.u8)),D.v (zv (ZV.int IntKind.u8)),D.v (zv (ZV.int IntKind.u8)),D.v (zv (ZV.int IntKind.u8)),D.v (zv (ZV.int IntKind.u8)),D.v (zv (ZV.int IntKind.u8)),D.v (zv (ZV.int IntKind.u8)),D.v (zv (ZV.int IntKind.u8)),D.v (zv (ZV.int IntKind.u8)),D.v (zv (ZV.int IntKind.u8)),D.v (zv (ZV.int IntKind.u8)),D.v (zv (ZV.int IntKind.u8)),D.v (zv (ZV.int IntKind.u8)),D.v (zv (ZV.int IntKind.u8)),D.v (zv (ZV.int IntKind.u8)),D.v (zv (ZV.int IntKind.u8)),D.v (zv (ZV.int IntKind.u8)),D.v (zv (ZV.int IntKind.u8)),D.v (zv (ZV.int IntKind.u8)),D.v (zv (ZV.int IntKind.u8)),D.v (zv (ZV.int IntKind.u8)),D.v (zv (ZV.int IntKind.u8)),D.v (zv (ZV.int IntKind.u8)),D.v (zv (ZV.int IntKind.u8)),D.v (zv (ZV.int IntKind.u8)),D.v (zv (ZV.int IntKind.u8)),D.v (zv (ZV.int IntKind.u8)),D.v (zv (ZV.int IntKind.u8)),D.v (zv (ZV.int IntKind.u8)),D.v (zv (ZV.int IntKind.u8)),D.v (zv (ZV.int IntKind.u8)),D.v (zv (ZV.int IntKind.u8)),D.v (zv (ZV.int IntKind.u8)),D.v (zv (ZV.int IntKind.u8)),D.v (zv (ZV.int IntKind.u8)),D.v (zv (ZV.int IntKind.u8)),D.v (zv (ZV.int IntKind.u8)),D.v (zv (ZV.int IntKind.u8)),D.v (zv (ZV.int IntKind.u8)),D.v (zv (ZV.int IntKind.u8)),D.v (zv (ZV.int IntKind.u8)),D.v (zv (ZV.int IntKind.u8)),D.v (zv (ZV.int IntKind.u8)),D.v (zv (ZV.int IntKind.u8)),D.v (zv (ZV.int IntKind.u8)),D.v (zv (ZV.int IntKind.u8)),D.v (zv (ZV.int IntKind.u8)),D.v (zv (ZV.int IntKind.u8)),D.v (zv (ZV.int IntKind.u8)),D.v (zv (ZV.int IntKind.u8)),D.v (zv (ZV.int IntKind.u8)),D.v (zv (ZV.int IntKind.u8)),D.v (zv (ZV.int IntKind.u64))]),(b2,.cells 172 (strL g.2.1))]) (fun g=>Strm.add g.1 g.2.1 g.2.2=R∧g.2.2.length≤g.1∧g.2.1.OK∧(∀ d∈g.2.2,d<256)∧g.2.1.n+g.2.2.length≤100000000) (fun g=>g.1) (t.length,s,t) (aa2 cl2) (Sc.refl _) ⟨hR.symm,Nat.le_refl _,h,ht,hn⟩ ?_
 clear h ht hn hR
 rintro ⟨f,s,t⟩ ⟨hR,hf,h,ht,hn⟩
 simp only at hR hf h ht hn ⊢
 by_cases h0:t=[]
 ·subst h0
  rw [Strm.add_nil] at hR
  subst hR
  repeat' first|refine sk38 ?_|(intro b;conv=>whnf)
  rw [bi6]
  repeat' first|refine sk38 ?_|(intro b;conv=>whnf)
  refine Br.t (decide_eq_true trivial) ?_
  repeat' first|refine sk38 ?_|(intro b;conv=>whnf)
  refine Ld.mem (tb:=172) (cs:=strL s) (d:=strD s) (List.Mem.tail _ (List.Mem.head _)) (by rw [ah0 h];decide) (by rw [aQ6 h];simp only [mkD,List.drop_zero];rw [List.take_of_length_le (by rw [ah0 h];exact Nat.le_refl _)];rfl) ?_
  unfold strD
  repeat' first|refine sk38 ?_|(intro b;conv=>whnf)
  refine Sv.perm (tb:=172) (cs:=[D.v (zv (ZV.int IntKind.u32)),D.v (zv (ZV.int IntKind.u32)),D.v (zv (ZV.int IntKind.u32)),D.v (zv (ZV.int IntKind.u32)),D.v (zv (ZV.int IntKind.u32)),D.v (zv (ZV.int IntKind.u32)),D.v (zv (ZV.int IntKind.u32)),D.v (zv (ZV.int IntKind.u32)),D.v (zv (ZV.int IntKind.u8)),D.v (zv (ZV.int IntKind.u8)),D.v (zv (ZV.int IntKind.u8)),D.v (zv (ZV.int IntKind.u8)),D.v (zv (ZV.int IntKind.u8)),D.v (zv (ZV.int IntKind.u8)),D.v (zv (ZV.int IntKind.u8)),D.v (zv (ZV.int IntKind.u8)),D.v (zv (ZV.int IntKind.u8)),D.v (zv (ZV.int IntKind.u8)),D.v (zv (ZV.int IntKind.u8)),D.v (zv (ZV.int IntKind.u8)),D.v (zv (ZV.int IntKind.u8)),D.v (zv (ZV.int IntKind.u8)),D.v (zv (ZV.int IntKind.u8)),D.v (zv (ZV.int IntKind.u8)),D.v (zv (ZV.int IntKind.u8)),D.v (zv (ZV.int IntKind.u8)),D.v (zv (ZV.int IntKind.u8)),D.v (zv (ZV.int IntKind.u8)),D.v (zv (ZV.int IntKind.u8)),D.v (zv (ZV.int IntKind.u8)),D.v (zv (ZV.int IntKind.u8)),D.v (zv (ZV.int IntKind.u8)),D.v (zv (ZV.int IntKind.u8)),D.v (zv (ZV.int IntKind.u8)),D.v (zv (ZV.int IntKind.u8)),D.v (zv (ZV.int IntKind.u8)),D.v (zv (ZV.int IntKind.u8)),D.v (zv (ZV.int IntKind.u8)),D.v (zv (ZV.int IntKind.u8)),D.v (zv (ZV.int IntKind.u8)),D.v (zv (ZV.int IntKind.u8)),D.v (zv (ZV.int IntKind.u8)),D.v (zv (ZV.int IntKind.u8)),D.v (zv (ZV.int IntKind.u8)),D.v (zv (ZV.int IntKind.u8)),D.v (zv (ZV.int IntKind.u8)),D.v (zv (ZV.int IntKind.u8)),D.v (zv (ZV.int IntKind.u8)),D.v (zv (ZV.int IntKind.u8)),D.v (zv (ZV.int IntKind.u8)),D.v (zv (ZV.int IntKind.u8)),D.v (zv (ZV.int IntKind.u8)),D.v (zv (ZV.int IntKind.u8)),D.v (zv (ZV.int IntKind.u8)),D.v (zv (ZV.int IntKind.u8)),D.v (zv (ZV.int IntKind.u8)),D.v (zv (ZV.int IntKind.u8)),D.v (zv (ZV.int IntKind.u8)),D.v (zv (ZV.int IntKind.u8)),D.v (zv (ZV.int IntKind.u8)),D.v (zv (ZV.int IntKind.u8)),D.v (zv (ZV.int IntKind.u8)),D.v (zv (ZV.int IntKind.u8)),D.v (zv (ZV.int IntKind.u8)),D.v (zv (ZV.int IntKind.u8)),D.v (zv (ZV.int IntKind.u8)),D.v (zv (ZV.int IntKind.u8)),D.v (zv (ZV.int IntKind.u8)),D.v (zv (ZV.int IntKind.u8)),D.v (zv (ZV.int IntKind.u8)),D.v (zv (ZV.int IntKind.u8)),D.v (zv (ZV.int IntKind.u8)),D.v (zv (ZV.int IntKind.u64))]) (τ:=[(b2,.cells 172 (strL s))]) (cs':=s8L s.S ++ ((List.range 64).map (fun i=>yD (s.b.getD i 0)) ++ [uD s.n])) (List.Perm.refl _) rfl (by decide) rfl rfl ?_
  repeat' first|refine sk38 ?_|(intro b;conv=>whnf)
  exact Rt.pure rfl
 ·obtain ⟨f,rfl⟩:∃ g,f=g+1:=⟨f - 1,by have:=List.length_pos_iff.2 h0;omega⟩
  rw [Strm.add,if_neg h0] at hR
  obtain ⟨hc1,hc2,hc3⟩:=s.cut_le t
  have hc4:=hc3 h0
  have hnn:=bi5 h
  have hL:=ah0 h
  repeat' first|refine sk38 ?_|(intro b;conv=>whnf)
  rw [bi6,decide_eq_false h0]
  repeat' first|refine sk38 ?_|(intro b;conv=>whnf)
  refine Ld.cellm (tb:=172) (List.Mem.tail _ (List.Mem.head _)) hnn ?_
  repeat' first|refine sk38 ?_|(intro b;conv=>whnf)
  refine Ot.yd (aa3 (r:=.int .u64 ((s.n % 64:Nat):Int)) rfl rfl rfl (fun w=>cn3)) ?_
  repeat' first|refine sk38 ?_|(intro b;conv=>whnf)
  refine Ot.yd (ab5 (m:=((s.n % 64:Nat):Int)) rfl rfl Tryz.underlying167 Tryz.underlying3 (by simp only [IntKind.wrap_i64];omega)) ?_
  repeat' first|refine sk38 ?_|(intro b;conv=>whnf)
  refine Ot.yd (az8 aa0 (l:=s.n % 64) (h:=64) rfl rfl rfl rfl (.inr ⟨_,_,_,rfl,rfl,rfl⟩) (.inl ⟨rfl,rfl⟩) (by omega) (by decide) (by omega)) ?_
  repeat' first|refine sk38 ?_|(intro b;conv=>whnf)
  refine OtE.copystr aa0 (l:=t) (m:=s.cut t) (tb:=172) (cs:=strL s) (τ:=[(b,.cells 172 [D.v (zv (ZV.int IntKind.u32)),D.v (zv (ZV.int IntKind.u32)),D.v (zv (ZV.int IntKind.u32)),D.v (zv (ZV.int IntKind.u32)),D.v (zv (ZV.int IntKind.u32)),D.v (zv (ZV.int IntKind.u32)),D.v (zv (ZV.int IntKind.u32)),D.v (zv (ZV.int IntKind.u32)),D.v (zv (ZV.int IntKind.u8)),D.v (zv (ZV.int IntKind.u8)),D.v (zv (ZV.int IntKind.u8)),D.v (zv (ZV.int IntKind.u8)),D.v (zv (ZV.int IntKind.u8)),D.v (zv (ZV.int IntKind.u8)),D.v (zv (ZV.int IntKind.u8)),D.v (zv (ZV.int IntKind.u8)),D.v (zv (ZV.int IntKind.u8)),D.v (zv (ZV.int IntKind.u8)),D.v (zv (ZV.int IntKind.u8)),D.v (zv (ZV.int IntKind.u8)),D.v (zv (ZV.int IntKind.u8)),D.v (zv (ZV.int IntKind.u8)),D.v (zv (ZV.int IntKind.u8)),D.v (zv (ZV.int IntKind.u8)),D.v (zv (ZV.int IntKind.u8)),D.v (zv (ZV.int IntKind.u8)),D.v (zv (ZV.int IntKind.u8)),D.v (zv (ZV.int IntKind.u8)),D.v (zv (ZV.int IntKind.u8)),D.v (zv (ZV.int IntKind.u8)),D.v (zv (ZV.int IntKind.u8)),D.v (zv (ZV.int IntKind.u8)),D.v (zv (ZV.int IntKind.u8)),D.v (zv (ZV.int IntKind.u8)),D.v (zv (ZV.int IntKind.u8)),D.v (zv (ZV.int IntKind.u8)),D.v (zv (ZV.int IntKind.u8)),D.v (zv (ZV.int IntKind.u8)),D.v (zv (ZV.int IntKind.u8)),D.v (zv (ZV.int IntKind.u8)),D.v (zv (ZV.int IntKind.u8)),D.v (zv (ZV.int IntKind.u8)),D.v (zv (ZV.int IntKind.u8)),D.v (zv (ZV.int IntKind.u8)),D.v (zv (ZV.int IntKind.u8)),D.v (zv (ZV.int IntKind.u8)),D.v (zv (ZV.int IntKind.u8)),D.v (zv (ZV.int IntKind.u8)),D.v (zv (ZV.int IntKind.u8)),D.v (zv (ZV.int IntKind.u8)),D.v (zv (ZV.int IntKind.u8)),D.v (zv (ZV.int IntKind.u8)),D.v (zv (ZV.int IntKind.u8)),D.v (zv (ZV.int IntKind.u8)),D.v (zv (ZV.int IntKind.u8)),D.v (zv (ZV.int IntKind.u8)),D.v (zv (ZV.int IntKind.u8)),D.v (zv (ZV.int IntKind.u8)),D.v (zv (ZV.int IntKind.u8)),D.v (zv (ZV.int IntKind.u8)),D.v (zv (ZV.int IntKind.u8)),D.v (zv (ZV.int IntKind.u8)),D.v (zv (ZV.int IntKind.u8)),D.v (zv (ZV.int IntKind.u8)),D.v (zv (ZV.int IntKind.u8)),D.v (zv (ZV.int IntKind.u8)),D.v (zv (ZV.int IntKind.u8)),D.v (zv (ZV.int IntKind.u8)),D.v (zv (ZV.int IntKind.u8)),D.v (zv (ZV.int IntKind.u8)),D.v (zv (ZV.int IntKind.u8)),D.v (zv (ZV.int IntKind.u8)),D.v (zv (ZV.int IntKind.u64))])]) rfl rfl rfl rfl rfl rfl rfl (List.Perm.swap _ _ _) rfl (by rw [hL];omega) ht ?_
  have hput:=bD8 h (at_:=s.n % 64) (t:=t.take (s.cut t)) (by rw [List.length_take];omega)
  have hso:=Strm.step_ok h ht
  rw [show 0+8+s.n % 64*1=8+s.n % 64 by omega,hput]
  obtain ⟨c,hcd⟩:∃ c,c=s.cut t:=⟨_,rfl⟩
  obtain ⟨b',hb'⟩:∃ b',b'=putB s.b (s.n % 64) (t.take c):=⟨_,rfl⟩
  have hst:s.step t=⟨if s.n % 64+c=64 then aU5 s.S b' else s.S,b',s.n+c⟩:=by rw [hb',hcd];rfl
  rw [← hcd] at hc1 hc2 hc4 hR ⊢
  rw [← hb']
  rw [hst] at hso hR
  have hbl:=hso.len
  have hbt:=hso.lt
  simp only at hbl hbt
  have h1:(⟨s.S,b',s.n⟩:Strm).OK:=⟨hbl,hbt⟩
  clear hput hst hcd hc3 hnn hL h
  repeat' first|refine sk38 ?_|(intro b;conv=>whnf)
  refine Ot.yd (bm1 aa0 (l:=t) (k:=c) rfl rfl rfl rfl rfl rfl hc1) ?_
  repeat' first|refine sk38 ?_|(intro b;conv=>whnf)
  refine Ld.cellm (tb:=172) (List.Mem.head _) (bi5 h1) ?_
  repeat' first|refine sk38 ?_|(intro b;conv=>whnf)
  refine Ot.yd (ab5 (m:=(c:Int)) rfl rfl Tryz.underlying3 Tryz.underlying167 (by simp only [IntKind.wrap_u64];omega)) ?_
  repeat' first|refine sk38 ?_|(intro b;conv=>whnf)
  refine Ot.yd (aa3 (r:=.int .u64 ((s.n+c:Nat):Int)) rfl rfl rfl (fun w=>addU (n:=s.n) (k:=c) (by omega))) ?_
  repeat' first|refine sk38 ?_|(intro b;conv=>whnf)
  refine Sv.cellm (tb:=172) (cs':=strL ⟨s.S,b',s.n+c⟩) (List.Perm.refl _) (by show 0+72<_;rw [ah0 h1];decide) rfl (by show (strL ⟨s.S,b',s.n⟩).set (0+72) _=_;exact bs9 h1 (s.n+c)) ?_
  have h2:(⟨s.S,b',s.n+c⟩:Strm).OK:=⟨hbl,hbt⟩
  by_cases hfu:s.n % 64+c=64
  ·rw [if_pos hfu] at hso hR
   have HC:=bH8 s.S b' hbl hbt
   repeat' first|refine sk38 ?_|(intro b;conv=>whnf)
   refine Ld.mem (tb:=172) (cs:=strL ⟨s.S,b',s.n+c⟩) (d:=s8D s.S) (List.Mem.head _) (by rw [ah0 h2];decide) rfl ?_
   repeat' first|refine sk38 ?_|(intro b;conv=>whnf)
   refine Ot.yd (az8 aa0 (l:=0) (h:=64) rfl rfl rfl rfl (.inl ⟨rfl,rfl⟩) (.inl ⟨rfl,rfl⟩) (by decide) (by decide) (by decide)) ?_
   repeat' first|refine sk38 ?_|(intro b;conv=>whnf)
   refine Cp.pk (APk.peek (.cons (Pk.same _) (.cons (Pk.part (tb:=172) (cs:=strL ⟨s.S,b',s.n+c⟩) (xs:=b'.map yC) (List.Mem.head _) (by rw [List.length_map];exact hbl) (by decide) (fun q x hq=>by
    rw [List.getElem?_map] at hq
    cases hz:b'[q]? with
    | none=>rw [hz] at hq;cases hq
    | some z=>rw [hz] at hq;cases hq;exact ⟨_,rfl,cd6 (s:=⟨s.S,b',s.n+c⟩) hz⟩)) .nil)) HC rfl) ?_
   repeat' first|refine sk38 ?_|(intro b;conv=>whnf)
   refine Sv.perm (tb:=172) (cs:=strL ⟨s.S,b',s.n+c⟩) (cs':=strL ⟨aU5 s.S b',b',s.n+c⟩) (List.Perm.refl _) rfl (by rw [ah0 h2];decide) rfl rfl ?_
   repeat' first|refine sk38 ?_|(intro b;conv=>whnf)
   exact ⟨(f,⟨aU5 s.S b',b',s.n+c⟩,t.drop c),(aa2 cl7),Sc.perm (List.Perm.swap _ _ _),⟨hR,by simp only [List.length_drop];omega,hso,fun d hd=>ht d (List.mem_of_mem_drop hd),by simp only [List.length_drop];omega⟩,by simp only;omega⟩
  ·rw [if_neg hfu] at hso hR
   repeat' first|refine sk38 ?_|(intro b;conv=>whnf)
   exact ⟨(f,⟨s.S,b',s.n+c⟩,t.drop c),(aa2 cl7),Sc.perm (List.Perm.swap _ _ _),⟨hR,by simp only [List.length_drop];omega,hso,fun d hd=>ht d (List.mem_of_mem_drop hd),by simp only [List.length_drop];omega⟩,by simp only;omega⟩
end
section
open Go Go.RowKit Go.Shelf
section
variable {P:Program} {σ τ:aa1} {ρ:Operand→D}
theorem bP7 {w:World} {O:Nat→Prop} {u:Value} {s d e:TypeId} {l:List Nat} (h:Rd w O (.sl 1 (l.map fun (b:Nat)=>[D.v (.int .u8 (b:Int))])) u) (hl:∀ c∈l,c<256) (h1:P.underlying s=some (.slice e)) (h2:P.underlying e=some (.int .u8)) (h3:P.underlying d=some .string):(convert s d u).run P w = .ok (.string (strB l)) w:=by
 obtain ⟨a,cap,vs,hv,hle,hk,hc,hr⟩:=h.sl_inv
 rw [List.length_map] at hv hle
 rw [hv]
 cases l with
 | nil=>
  rw [List.length_nil,run_convert_bytes_string w s d e a 0 cap h1 h2 h3]
  cases a <;> simp [Conv.bytesToString,loadCells,loadCellsFrom,Result.andThen,strB] <;> rfl
 | cons c l'=>
  obtain ⟨b,off,rfl,_⟩:=hc 0 _ rfl
  have:=run_convert_bytes_back (P:=P) w s d e ⟨b,off,none⟩ cap ((c :: l').map UInt8.ofNat) h1 h2 h3 (fun j hj=>by
   rw [List.length_map] at hj
   have hj2:(c :: l')[j]?=some (c :: l')[j]:=List.getElem?_eq_getElem hj
   have hlt:=hl _ (List.mem_of_getElem? hj2)
   have hq:((c :: l').map fun (b:Nat)=>[D.v (.int .u8 (b:Int))])[j]?=some [D.v (.int .u8 (((c :: l')[j]:Nat):Int))]:=by rw [List.getElem?_map,hj2];rfl
   obtain ⟨b',off',e1,_,_,h4⟩:=hc j _ hq
   cases e1
   have h5:=h4 0 (by omega)
   have h6:=(hr j _ hq 0 _ rfl).val rfl
   rw [ah4]
   simp only [Nat.mul_one,Nat.add_zero] at h5
   rw [h5,h6]
   simp only [List.getElem_map,UInt8.toNat_ofNat']
   rw [Nat.mod_eq_of_lt (by simpa using hlt)])
  rw [List.length_map] at this
  exact this
theorem bP0 {o:Oper} {s d e et:TypeId} {x:Operand} {l:List Nat} {v:Value} {r:aa1} (ho:o.op = .convert s d x) (hx:ρ x = .v v) (hr:RowIs et 1 (l.map fun (b:Nat)=>[D.v (.int .u8 (b:Int))]) v r) (hp:σ.Perm (r ++ τ)) (hl:∀ c∈l,c<256) (h1:P.underlying s=some (.slice e)) (h2:P.underlying e=some (.int .u8)) (h3:P.underlying d=some .string):Yd P o ρ σ (strY l):=by
 intro w X η hη hst
 obtain ⟨dst,op,ty,pos,aft,g⟩:=o
 simp only at ho
 subst ho
 have hv:=(hη x (by simp [Op.operands])).val hx
 refine ac8 (s:=convert s d (η x)) (u:=.string (strB l)) ?_ (Ex.refl w) (.v _)
 rw [hv]
 exact bP7 (ay3 hr (hst.perm hp)).stable hl h1 h2 h3
end
def outS (S:S8):List Nat:=(List.range 32).map (ax1 S)
theorem bG1 (S:S8):(outS S).length=32:=by simp [outS]
theorem bT4 (S:S8) {i:Nat} (h:i<32):(outS S)[i]?=some (ax1 S i):=by unfold outS;rw [List.getElem?_map,List.getElem?_range h];rfl
def Strm.fin (s:Strm):Strm:=Strm.add (padT s.n).length s (padT s.n)
theorem Strm.fin_sha {s:Strm} {m:List Nat} (h:s.Has m):outS s.fin.S=sha m:=by
 have h1:=Strm.add_has (padT s.n).length h (t:=padT s.n) (Nat.le_refl _)
 have h2:=h1.ok.st
 unfold Strm.fin
 rw [h2,h.n]
 unfold outS sha
 rw [List.length_append]
theorem sk39 {A B:Prop} (k:B) (h:Hd7 B→A:=by intro hk7q;(first|refine sb21 ?_|refine sb1 ?_|((with_reducible refine' Cp.by ?hc ?_);(case hc=>exact HA))|((with_reducible refine' CE.pure ?hc ?_);(case hc=>exact HA)));exact hk7q.run):A:=h ⟨k⟩
theorem sk40 {A B:Prop} (k:B) (h:Hd7 B→A:=by intro hk7q;(first|refine sb21 ?_|refine sb6 ?_|((with_reducible refine' Cp.by ?hc ?_);(case hc=>exact HA))|((with_reducible refine' CE.pure ?hc ?_);(case hc=>exact HA)));exact hk7q.run):A:=h ⟨k⟩
theorem bW5 (s:Strm) (h:s.OK) (hn:s.n≤10000000):APure Tryz.prog 85 [strD s] (bb7 (outS s.fin.S)):=by
 have hpl:(padT s.n).length≤100:=by rw [aT0];unfold padZ;omega
 have HA:=by0 s h (padT s.n) (aS9 _) (by omega)
 have hfo:s.fin.OK:=Strm.add_ok _ h (aS9 _)
 rw [show Strm.add (padT s.n).length s (padT s.n)=s.fin from rfl] at HA
 have hol:=bG1 s.fin.S
 have hat:=fun {i:Nat} (h:i<32)=>bT4 s.fin.S h
 generalize s.fin=R at *
 generalize outS R.S=L at *
 have hsd:=aQ6 h
 conv=>enter [3,1];rw [hsd]
 refine eP7 Tryz.func85 Tryz.ntmps85 fun BB=>?_
 (((with_reducible refine W.mk ?_);(conv=>whnf)))
 refine Bx.r ?_
 refine OtE.box (t:=172) rfl rfl (fun b1=>?_)
 repeat' first|refine sk39 ?_|(intro b;conv=>whnf)
 refine Ld.cellm (tb:=172) (List.Mem.tail _ (List.Mem.head _)) (bi5 h) ?_
 repeat' first|refine sk39 ?_|(intro b;conv=>whnf)
 refine Ot.yd (aa3 (r:=.int .u64 ((8*s.n:Nat):Int)) rfl rfl rfl (fun w=>mul8 (by omega))) ?_
 repeat' first|refine sk40 ?_|(intro b;conv=>whnf)
 refine Bx.r ?_
 refine OtE.bsl aa0 rfl rfl rfl rfl rfl rfl rfl rfl rfl rfl (by decide) (fun bo=>?_)
 repeat' first|refine sk39 ?_|(intro b;conv=>whnf)
 refine aa5 mixed aa0 (γ:=Nat × Value × aa1) (fun g=>[(4,.v g.2.1)]) (fun g=>g.2.2 ++ [(b,.cells 176 [D.v (zv (ZV.int IntKind.u8)),D.v (zv (ZV.int IntKind.u8)),D.v (zv (ZV.int IntKind.u8)),D.v (zv (ZV.int IntKind.u8)),D.v (zv (ZV.int IntKind.u8)),D.v (zv (ZV.int IntKind.u8)),D.v (zv (ZV.int IntKind.u8)),D.v (zv (ZV.int IntKind.u8)),D.v (zv (ZV.int IntKind.u8)),D.v (zv (ZV.int IntKind.u8)),D.v (zv (ZV.int IntKind.u8)),D.v (zv (ZV.int IntKind.u8)),D.v (zv (ZV.int IntKind.u8)),D.v (zv (ZV.int IntKind.u8)),D.v (zv (ZV.int IntKind.u8)),D.v (zv (ZV.int IntKind.u8)),D.v (zv (ZV.int IntKind.u8)),D.v (zv (ZV.int IntKind.u8)),D.v (zv (ZV.int IntKind.u8)),D.v (zv (ZV.int IntKind.u8)),D.v (zv (ZV.int IntKind.u8)),D.v (zv (ZV.int IntKind.u8)),D.v (zv (ZV.int IntKind.u8)),D.v (zv (ZV.int IntKind.u8)),D.v (zv (ZV.int IntKind.u8)),D.v (zv (ZV.int IntKind.u8)),D.v (zv (ZV.int IntKind.u8)),D.v (zv (ZV.int IntKind.u8)),D.v (zv (ZV.int IntKind.u8)),D.v (zv (ZV.int IntKind.u8)),D.v (zv (ZV.int IntKind.u8)),D.v (zv (ZV.int IntKind.u8))]),(b1,.cells 172 (strL s))]) (fun g=>g.1≤padZ s.n∧RY (128 :: List.replicate g.1 0) g.2.1 g.2.2) (fun g=>padZ s.n - g.1) (0,.slice (some ⟨bo,0,none⟩) 1 1,[(bo,.cells 5 [yD 128])]) (aa2 cl2) (Sc.refl _) ⟨Nat.zero_le _,aD4 (xs:=[yC 128]) bo (by simp) (by decide)⟩ ?_
 rintro ⟨j,v,r⟩ ⟨hj,hrow⟩
 simp only at hj hrow ⊢
 obtain ⟨a,c,rfl⟩:=RowIs.slice hrow
 have hpz:padZ s.n=(119 - s.n % 64) % 64:=rfl
 have hln:((128 :: List.replicate j 0).map yC).length=1+j:=by simp;omega
 have htm:((s.n:Int)+((128 :: List.replicate j 0).map yC).length).tmod 64=(((s.n+(1+j)) % 64:Nat):Int):=by rw [hln];exact bc9 (s.n+(1+j)) 64
 repeat' first|refine sk39 ?_|(intro b;conv=>whnf)
 refine Ld.cellm (tb:=172) (List.mem_append_right _ (List.Mem.tail _ (List.Mem.head _))) (bi5 h) ?_
 repeat' first|refine sk39 ?_|(intro b;conv=>whnf)
 refine Ot.yd (ab5 (m:=(s.n:Int)) rfl rfl Tryz.underlying167 Tryz.underlying3 (by simp only [IntKind.wrap_i64];omega)) ?_
 repeat' first|refine sk39 ?_|(intro b;conv=>whnf)
 rw [show ((s.n:Int)+((j+1:Nat):Int)).tmod 64=(((s.n+(j+1)) % 64:Nat):Int) from bc9 (s.n+(j+1)) 64]
 by_cases hjz:j<padZ s.n
 ·repeat' first|refine sk39 ?_|(intro b;conv=>whnf)
  refine Ap.go rfl rfl rfl rfl hrow (List.Perm.refl _) rfl (zs:=(128 :: List.replicate (j+1) 0).map yC) (by rw [List.replicate_succ'];simp) (sz_y (c:=1000065) (by simp;omega) (by decide)) (by simp;omega) (fun s'=>s' ++ [(b,.cells 176 [D.v (zv (ZV.int IntKind.u8)),D.v (zv (ZV.int IntKind.u8)),D.v (zv (ZV.int IntKind.u8)),D.v (zv (ZV.int IntKind.u8)),D.v (zv (ZV.int IntKind.u8)),D.v (zv (ZV.int IntKind.u8)),D.v (zv (ZV.int IntKind.u8)),D.v (zv (ZV.int IntKind.u8)),D.v (zv (ZV.int IntKind.u8)),D.v (zv (ZV.int IntKind.u8)),D.v (zv (ZV.int IntKind.u8)),D.v (zv (ZV.int IntKind.u8)),D.v (zv (ZV.int IntKind.u8)),D.v (zv (ZV.int IntKind.u8)),D.v (zv (ZV.int IntKind.u8)),D.v (zv (ZV.int IntKind.u8)),D.v (zv (ZV.int IntKind.u8)),D.v (zv (ZV.int IntKind.u8)),D.v (zv (ZV.int IntKind.u8)),D.v (zv (ZV.int IntKind.u8)),D.v (zv (ZV.int IntKind.u8)),D.v (zv (ZV.int IntKind.u8)),D.v (zv (ZV.int IntKind.u8)),D.v (zv (ZV.int IntKind.u8)),D.v (zv (ZV.int IntKind.u8)),D.v (zv (ZV.int IntKind.u8)),D.v (zv (ZV.int IntKind.u8)),D.v (zv (ZV.int IntKind.u8)),D.v (zv (ZV.int IntKind.u8)),D.v (zv (ZV.int IntKind.u8)),D.v (zv (ZV.int IntKind.u8)),D.v (zv (ZV.int IntKind.u8))]),(b1,.cells 172 (strL s))]) (fun s'=>List.Perm.refl _) (fun a3 c3 s3 hr3=>?_)
  repeat' first|refine sk39 ?_|(intro b;conv=>whnf)
  exact ⟨(j+1,_,s3),(aa2 cl2),Sc.refl _,⟨by simp only;omega,hr3⟩,by simp only;omega⟩
 ·obtain rfl:j=padZ s.n:=by omega
  clear htm hln hjz
  repeat' first|refine sk39 ?_|(intro b;conv=>whnf)
  refine aa5 mixed aa0 (γ:=Nat × Value × aa1) (fun g=>[(23,iD g.1),(4,.v g.2.1)]) (fun g=>g.2.2 ++ [(b,.cells 176 [D.v (zv (ZV.int IntKind.u8)),D.v (zv (ZV.int IntKind.u8)),D.v (zv (ZV.int IntKind.u8)),D.v (zv (ZV.int IntKind.u8)),D.v (zv (ZV.int IntKind.u8)),D.v (zv (ZV.int IntKind.u8)),D.v (zv (ZV.int IntKind.u8)),D.v (zv (ZV.int IntKind.u8)),D.v (zv (ZV.int IntKind.u8)),D.v (zv (ZV.int IntKind.u8)),D.v (zv (ZV.int IntKind.u8)),D.v (zv (ZV.int IntKind.u8)),D.v (zv (ZV.int IntKind.u8)),D.v (zv (ZV.int IntKind.u8)),D.v (zv (ZV.int IntKind.u8)),D.v (zv (ZV.int IntKind.u8)),D.v (zv (ZV.int IntKind.u8)),D.v (zv (ZV.int IntKind.u8)),D.v (zv (ZV.int IntKind.u8)),D.v (zv (ZV.int IntKind.u8)),D.v (zv (ZV.int IntKind.u8)),D.v (zv (ZV.int IntKind.u8)),D.v (zv (ZV.int IntKind.u8)),D.v (zv (ZV.int IntKind.u8)),D.v (zv (ZV.int IntKind.u8)),D.v (zv (ZV.int IntKind.u8)),D.v (zv (ZV.int IntKind.u8)),D.v (zv (ZV.int IntKind.u8)),D.v (zv (ZV.int IntKind.u8)),D.v (zv (ZV.int IntKind.u8)),D.v (zv (ZV.int IntKind.u8)),D.v (zv (ZV.int IntKind.u8))]),(b1,.cells 172 (strL s))]) (fun g=>g.1≤8∧RY (128 :: (List.replicate (padZ s.n) 0 ++ (len8 s.n).take g.1)) g.2.1 g.2.2) (fun g=>8 - g.1) (0,_,r) (aa2 cl2) (Sc.refl _) ⟨Nat.zero_le _,by simpa using hrow⟩ ?_
  clear hrow
  rintro ⟨i,v2,r2⟩ ⟨hi,hrow⟩
  simp only at hi hrow ⊢
  by_cases hi8:i<8
  ·have hg:=bk6 (n:=s.n) hi8
   generalize 8*s.n=m at *
   repeat' first|refine sk39 ?_|(intro b;conv=>whnf)
   rw [show (56:Int) - 8*(i:Int)=((56 - 8*i:Nat):Int) by omega]
   refine Ot.yd (aa3 (r:=.int .u64 ((m / 2 ^ (56 - 8*i):Nat):Int)) rfl rfl rfl (fun w=>ap0 .u64 m .i64 (56 - 8*i) (by show _≤64;omega))) ?_
   repeat' first|refine sk39 ?_|(intro b;conv=>whnf)
   refine Ot.yd (ab5 (m:=((m / 2 ^ (56 - 8*i) % 256:Nat):Int)) rfl rfl Tryz.underlying167 Tryz.underlying5 (by rw [IntKind.wrap_u8];omega)) ?_
   repeat' first|refine sk39 ?_|(intro b;conv=>whnf)
   refine Ap.go rfl rfl rfl rfl hrow (List.Perm.refl _) rfl (zs:=(128 :: (List.replicate (padZ s.n) 0 ++ (len8 s.n).take (i+1))).map yC) (by rw [List.take_add_one,hg];simp) (sz_y (c:=1000165) (by simp [ax6];omega) (by decide)) (by simp [ax6];omega) (fun s'=>s' ++ [(b,.cells 176 [D.v (zv (ZV.int IntKind.u8)),D.v (zv (ZV.int IntKind.u8)),D.v (zv (ZV.int IntKind.u8)),D.v (zv (ZV.int IntKind.u8)),D.v (zv (ZV.int IntKind.u8)),D.v (zv (ZV.int IntKind.u8)),D.v (zv (ZV.int IntKind.u8)),D.v (zv (ZV.int IntKind.u8)),D.v (zv (ZV.int IntKind.u8)),D.v (zv (ZV.int IntKind.u8)),D.v (zv (ZV.int IntKind.u8)),D.v (zv (ZV.int IntKind.u8)),D.v (zv (ZV.int IntKind.u8)),D.v (zv (ZV.int IntKind.u8)),D.v (zv (ZV.int IntKind.u8)),D.v (zv (ZV.int IntKind.u8)),D.v (zv (ZV.int IntKind.u8)),D.v (zv (ZV.int IntKind.u8)),D.v (zv (ZV.int IntKind.u8)),D.v (zv (ZV.int IntKind.u8)),D.v (zv (ZV.int IntKind.u8)),D.v (zv (ZV.int IntKind.u8)),D.v (zv (ZV.int IntKind.u8)),D.v (zv (ZV.int IntKind.u8)),D.v (zv (ZV.int IntKind.u8)),D.v (zv (ZV.int IntKind.u8)),D.v (zv (ZV.int IntKind.u8)),D.v (zv (ZV.int IntKind.u8)),D.v (zv (ZV.int IntKind.u8)),D.v (zv (ZV.int IntKind.u8)),D.v (zv (ZV.int IntKind.u8)),D.v (zv (ZV.int IntKind.u8))]),(b1,.cells 172 (strL s))]) (fun s'=>List.Perm.refl _) (fun a3 c3 s3 hr3=>?_)
   repeat' first|refine sk39 ?_|(intro b;conv=>whnf)
   exact ⟨(i+1,_,s3),(aa2 cl2),Sc.refl _,⟨by simp only;omega,hr3⟩,by simp only;omega⟩
  ·obtain rfl:i=8:=by omega
   rw [List.take_of_length_le (by rw [ax6];exact Nat.le_refl _)] at hrow
   repeat' first|refine sk39 ?_|(intro b;conv=>whnf)
   refine Ld.mem (tb:=172) (cs:=strL s) (d:=strD s) (List.mem_append_right _ (List.Mem.tail _ (List.Mem.head _))) (by rw [ah0 h];decide) (by rw [hsd];simp only [mkD,List.drop_zero];rw [List.take_of_length_le (by rw [ah0 h];exact Nat.le_refl _)];rfl) ?_
   repeat' first|refine sk39 ?_|(intro b;conv=>whnf)
   refine Ot.yd (bP0 (l:=padT s.n) rfl rfl hrow (List.Perm.refl _) (aS9 _) Tryz.underlying23 Tryz.underlying5 Tryz.underlying9) ?_
   repeat' first|refine sk39 ?_|(intro b;conv=>whnf)
   refine Sv.perm (tb:=172) (cs:=strL s) (cs':=s8L R.S ++ ((List.range 64).map (fun i=>yD (R.b.getD i 0)) ++ [uD R.n])) (τ:=r2 ++ [(b,.cells 176 [D.v (zv (ZV.int IntKind.u8)),D.v (zv (ZV.int IntKind.u8)),D.v (zv (ZV.int IntKind.u8)),D.v (zv (ZV.int IntKind.u8)),D.v (zv (ZV.int IntKind.u8)),D.v (zv (ZV.int IntKind.u8)),D.v (zv (ZV.int IntKind.u8)),D.v (zv (ZV.int IntKind.u8)),D.v (zv (ZV.int IntKind.u8)),D.v (zv (ZV.int IntKind.u8)),D.v (zv (ZV.int IntKind.u8)),D.v (zv (ZV.int IntKind.u8)),D.v (zv (ZV.int IntKind.u8)),D.v (zv (ZV.int IntKind.u8)),D.v (zv (ZV.int IntKind.u8)),D.v (zv (ZV.int IntKind.u8)),D.v (zv (ZV.int IntKind.u8)),D.v (zv (ZV.int IntKind.u8)),D.v (zv (ZV.int IntKind.u8)),D.v (zv (ZV.int IntKind.u8)),D.v (zv (ZV.int IntKind.u8)),D.v (zv (ZV.int IntKind.u8)),D.v (zv (ZV.int IntKind.u8)),D.v (zv (ZV.int IntKind.u8)),D.v (zv (ZV.int IntKind.u8)),D.v (zv (ZV.int IntKind.u8)),D.v (zv (ZV.int IntKind.u8)),D.v (zv (ZV.int IntKind.u8)),D.v (zv (ZV.int IntKind.u8)),D.v (zv (ZV.int IntKind.u8)),D.v (zv (ZV.int IntKind.u8)),D.v (zv (ZV.int IntKind.u8))])]) cl12 rfl (by rw [ah0 h];decide) rfl (by
    unfold spl
    rw [List.drop_of_length_le (by rw [ah0 h];exact Nat.le_refl 73)]
    rfl) ?_
   obtain ⟨X,hX⟩:∃ X,X=(List.range 64).map (fun i=>yD (R.b.getD i 0)) ++ [uD R.n]:=⟨_,rfl⟩
   rw [← hX]
   repeat' first|refine sk39 ?_|(intro b;conv=>whnf)
   rename_i b0
   refine aa5 mixed aa0 (γ:=Nat) (fun i=>[(40,iD i)]) (fun i=>[(b,.cells 176 (yc32 (L.take i))),(b1,.cells 172 (s8L R.S ++ X)),(b0,.cells 176 [D.v (zv (ZV.int IntKind.u8)),D.v (zv (ZV.int IntKind.u8)),D.v (zv (ZV.int IntKind.u8)),D.v (zv (ZV.int IntKind.u8)),D.v (zv (ZV.int IntKind.u8)),D.v (zv (ZV.int IntKind.u8)),D.v (zv (ZV.int IntKind.u8)),D.v (zv (ZV.int IntKind.u8)),D.v (zv (ZV.int IntKind.u8)),D.v (zv (ZV.int IntKind.u8)),D.v (zv (ZV.int IntKind.u8)),D.v (zv (ZV.int IntKind.u8)),D.v (zv (ZV.int IntKind.u8)),D.v (zv (ZV.int IntKind.u8)),D.v (zv (ZV.int IntKind.u8)),D.v (zv (ZV.int IntKind.u8)),D.v (zv (ZV.int IntKind.u8)),D.v (zv (ZV.int IntKind.u8)),D.v (zv (ZV.int IntKind.u8)),D.v (zv (ZV.int IntKind.u8)),D.v (zv (ZV.int IntKind.u8)),D.v (zv (ZV.int IntKind.u8)),D.v (zv (ZV.int IntKind.u8)),D.v (zv (ZV.int IntKind.u8)),D.v (zv (ZV.int IntKind.u8)),D.v (zv (ZV.int IntKind.u8)),D.v (zv (ZV.int IntKind.u8)),D.v (zv (ZV.int IntKind.u8)),D.v (zv (ZV.int IntKind.u8)),D.v (zv (ZV.int IntKind.u8)),D.v (zv (ZV.int IntKind.u8)),D.v (zv (ZV.int IntKind.u8))])]) (fun i=>i≤32) (fun i=>32 - i) 0 (aa2 cl2) (Sc.sl (.cons_cons _ (.cons_cons _ (List.sublist_append_right _ _)))) (by decide) ?_
   clear hrow
   intro i hi
   have hsi:(L.take i).length=i:=by rw [List.length_take];omega
   by_cases hi32:i<32
   ·have htd:((i:Int)).tdiv 4=((i / 4:Nat):Int):=cd2 i 4
    have htm:((i:Int)).tmod 4=((i % 4:Nat):Int):=bc9 i 4
    have hp:=bp6 (l:=L.take i) (by omega) (ax1 R.S i)
    have hwl:=bL7 (l:=L.take i) (by omega)
    rw [hsi,← av9 (hat hi32)] at hp
    have h8:(s8L R.S ++ X)[i / 4]?=some (wD (R.S.list.getD (i / 4) 0)):=by rw [List.getElem?_append_left (by show i / 4<8;omega)];exact ce1 R.S (by omega)
    repeat' first|refine sk39 ?_|(intro b;conv=>whnf)
    refine Sd.go ⟨by decide,by rw [htd];exact ⟨by omega,by omega⟩⟩ ?_
    rw [htd]
    repeat' first|refine sk39 ?_|(intro b;conv=>whnf)
    refine Ot.yd (an1 aa0 (m:=i / 4) (q:=i / 4) rfl rfl rfl rfl rfl ?hq1 ?hq2 (Nat.zero_add _)) ?_;(case hq1=>first|exact htd|omega);(case hq2=>omega);repeat' (first|refine sk39 ?_|(intro b;conv=>whnf))
    refine Ld.cellm (tb:=172) (List.Mem.tail _ (List.Mem.head _)) h8 ?_
    repeat' first|refine sk39 ?_|(intro b;conv=>whnf)
    rw [show (24:Int) - 8*(i:Int).tmod 4=((24 - 8*(i % 4):Nat):Int) by rw [htm];omega]
    refine Ot.yd (aa3 (r:=.int .u32 (((R.S.list.getD (i / 4) 0).toNat / 2 ^ (24 - 8*(i % 4)):Nat):Int)) rfl rfl rfl (fun w=>ap0 .u32 _ .i64 (24 - 8*(i % 4)) (by show _≤32;omega))) ?_
    repeat' first|refine sk39 ?_|(intro b;conv=>whnf)
    refine Ot.yd (ab5 (m:=((ax1 R.S i:Nat):Int)) rfl rfl Tryz.underlying168 Tryz.underlying5 (by unfold ax1;simp only [IntKind.wrap_u8];omega)) ?_
    repeat' first|refine sk39 ?_|(intro b;conv=>whnf)
    refine Ot.yd (an1 aa0 (m:=i) (q:=i) rfl rfl rfl rfl rfl ?hq1 ?hq2 (Nat.zero_add _)) ?_;(case hq1=>first|exact htd|omega);(case hq2=>omega);repeat' (first|refine sk39 ?_|(intro b;conv=>whnf))
    refine Sv.cellm (List.Perm.refl _) (by rw [hwl];exact hi32) rfl hp ?_
    repeat' first|refine sk39 ?_|(intro b;conv=>whnf)
    exact ⟨i+1,(aa2 cl2),Sc.refl _,by omega,by omega⟩
   ·obtain rfl:i=32:=by omega
    rw [List.take_of_length_le (by omega)]
    have hwf:=bp7 hol
    repeat' first|refine sk39 ?_|(intro b;conv=>whnf)
    refine Ld.mem (tb:=176) (cs:=yc32 L) (d:=bb7 L) (List.Mem.head _) (by rw [hwf,List.length_map,hol];decide) (by rw [hwf];unfold bb7;rw [aP6 hol];simp only [mkD,List.drop_zero];rw [List.take_of_length_le (by simp [hol])];rfl) ?_
    unfold bb7
    repeat' first|refine sk39 ?_|(intro b;conv=>whnf)
    refine Sv.perm (tb:=176) (cs:=[D.v (zv (ZV.int IntKind.u8)),D.v (zv (ZV.int IntKind.u8)),D.v (zv (ZV.int IntKind.u8)),D.v (zv (ZV.int IntKind.u8)),D.v (zv (ZV.int IntKind.u8)),D.v (zv (ZV.int IntKind.u8)),D.v (zv (ZV.int IntKind.u8)),D.v (zv (ZV.int IntKind.u8)),D.v (zv (ZV.int IntKind.u8)),D.v (zv (ZV.int IntKind.u8)),D.v (zv (ZV.int IntKind.u8)),D.v (zv (ZV.int IntKind.u8)),D.v (zv (ZV.int IntKind.u8)),D.v (zv (ZV.int IntKind.u8)),D.v (zv (ZV.int IntKind.u8)),D.v (zv (ZV.int IntKind.u8)),D.v (zv (ZV.int IntKind.u8)),D.v (zv (ZV.int IntKind.u8)),D.v (zv (ZV.int IntKind.u8)),D.v (zv (ZV.int IntKind.u8)),D.v (zv (ZV.int IntKind.u8)),D.v (zv (ZV.int IntKind.u8)),D.v (zv (ZV.int IntKind.u8)),D.v (zv (ZV.int IntKind.u8)),D.v (zv (ZV.int IntKind.u8)),D.v (zv (ZV.int IntKind.u8)),D.v (zv (ZV.int IntKind.u8)),D.v (zv (ZV.int IntKind.u8)),D.v (zv (ZV.int IntKind.u8)),D.v (zv (ZV.int IntKind.u8)),D.v (zv (ZV.int IntKind.u8)),D.v (zv (ZV.int IntKind.u8))]) (τ:=[(b,.cells 176 (yc32 L)),(b1,.cells 172 (s8L R.S ++ X))]) (cs':=(List.range 32).map fun i=>yD (L.getD i 0)) cl12 rfl (by decide) rfl rfl ?_
    repeat' first|refine sk39 ?_|(intro b;conv=>whnf)
    exact Rt.pure rfl
end
section
open Go
theorem bV7:∃ inf,Tryz.prog.info? 5=some inf∧inf.zero=some (.int .u8 0)∧inf.size=1∧inf.bytes=1:=by
 have h:(Tryz.prog.info? 5).map (fun i=>(i.zero,i.size,i.bytes))=some (some (.int .u8 0),1,1):=by kernel_rfl
 obtain ⟨inf,h1,h2⟩:=Option.map_eq_some_iff.1 h
 simp only [Prod.mk.injEq] at h2
 exact ⟨inf,h1,h2.1,h2.2.1,h2.2.2⟩
theorem bD4 (l:List Nat) (hl:l.length≤1000000) (h:∀ d∈l,d<256):ACall Tryz.prog 84 [strY l] [] (fun d s=>∃ v,d = .v v∧RY (encI l.length ++ l) v s):=by
 have hs:=aj6 l
 have he:=ac5 (n:=(l.length:Int)) (ae4 hl)
 have hne:(encI (l.length:Int)).map yC≠[]:=by unfold encI;simp
 obtain ⟨inf,i1,i2,i3,i4⟩:=bV7
 refine eC7 Tryz.func84 Tryz.ntmps84 fun BB=>?_
 repeat' first|refine sk2 ?_|(intro b;conv=>whnf)
 refine CE.own (bh2 ((strB l).size:Int) (by rw [hs];exact ae4 hl)) (ai4 _) (fun s'=>s') ao0 ?_
 rintro _ s0 ⟨v0,rfl,hr0⟩
 rw [hs] at hr0
 repeat' first|refine sk2 ?_|(intro b;conv=>whnf)
 refine OtE.apstr (l:=l) rfl rfl rfl Tryz.underlying23 Tryz.underlying9 i1 i2 i3 i4 hr0 hne (τ:=[]) (by simp) h (by rw [List.length_map];omega) (fun v' s' hr=>?_)
 repeat' first|refine sk2 ?_|(intro b;conv=>whnf)
 refine Rt.by (d':=.v v') (σ':=s') (Vs.perm (by simp)) ⟨_,rfl,?_⟩
 show RowIs _ 1 ((encI (l.length:Int) ++ l).map yC) _ _
 rw [List.map_append]
 exact hr
theorem bq4 {l:List Nat} (hl:l.length≤1000000) (h:∀ d∈l,d<256):APure Tryz.prog 84 [strY l] (slY (encI l.length ++ l)):=ar9 (bD4 l hl h)
theorem bF4 (l:List Nat) (hl:l.length≤1000000) (h:∀ d∈l,d<256):ACall Tryz.prog 141 [strY l] [] (fun d s=>∃ v,d = .v v∧RY (encI l.length ++ l) v s):=by
 have hs:=aj6 l
 have he:=ac5 (n:=(l.length:Int)) (ae4 hl)
 have hz:(encI (l.length:Int) ++ l).length≤1000100:=by rw [List.length_append];omega
 refine eC7 Tryz.func141 Tryz.ntmps141 fun BB=>?_
 repeat' first|refine sk2 ?_|(intro b;conv=>whnf)
 refine CE.own (bj6 ((strB l).size:Int) (by rw [hs];exact ae4 hl)) (ai4 _) (fun s'=>s') ao0 ?_
 rintro _ s0 ⟨v0,rfl,hr0⟩
 rw [hs] at hr0
 repeat' first|refine sk2 ?_|(intro b;conv=>whnf)
 refine Ot.yd (cb4 (l:=l) rfl rfl h Tryz.underlying9 Tryz.underlying23 Tryz.underlying5) ?_
 repeat' first|refine sk2 ?_|(intro b;conv=>whnf)
 refine Ap.go rfl rfl rfl rfl hr0 (ai4 _) (aD6 l) (zs:=(encI (l.length:Int) ++ l).map yC) (by rw [List.map_append]) (sz_y hz (by decide)) (by rw [List.length_map];omega) (fun s'=>s') ao0 (fun a' c' s' hr=>?_)
 repeat' first|refine sk2 ?_|(intro b;conv=>whnf)
 exact Rt.same ⟨_,rfl,hr⟩
theorem bu3 {l:List Nat} (hl:l.length≤1000000) (h:∀ d∈l,d<256):APure Tryz.prog 141 [strY l] (slY (encI l.length ++ l)):=ar9 (bF4 l hl h)
end
section
open Go
def az6 (l:List Nat):D:=.agg ((List.range 16).map fun i=>yD (l.getD i 0))
def au7 (p:List Nat):List Nat:=10 :: (encI p.length ++ p)
theorem bN6 {s:Strm} (h:s.OK):mkD true (((strL s).drop 0).take 73)=strD s:=by
 rw [aQ6 h,List.drop_zero,List.take_of_length_le (by rw [ah0 h];exact Nat.le_refl _)]
 rfl
theorem sk41 {A B:Prop} (k:B) (h:Hd7 B→A:=by intro hk7q;(first|refine sb0 ?_|refine sb1 ?_|((with_reducible refine' Cp.by ?hc ?_);(case hc=>first|exact aH3|exact HA|exact HB|exact HW|exact HS))|((with_reducible refine' CE.pure ?hc ?_);(case hc=>first|exact aH3|exact HA|exact HB|exact HW|exact HS)));exact hk7q.run):A:=h ⟨k⟩
theorem sk42 {A B:Prop} (k:B) (h:Hd7 B→A:=by intro hk7q;(first|refine sb21 ?_|refine sb1 ?_|((with_reducible refine' Cp.by ?hc ?_);(case hc=>first|exact aH3|exact HA|exact HB|exact HW|exact HS))|((with_reducible refine' CE.pure ?hc ?_);(case hc=>first|exact aH3|exact HA|exact HB|exact HW|exact HS)));exact hk7q.run):A:=h ⟨k⟩
theorem co6 (p:List Nat) (hl:p.length≤900000) (h:∀ d∈p,d<256):APure Tryz.prog 41 [iD 10,.sl 1 [[strY p]]] (az6 (sha (au7 p))):=by
 have hen:=ac5 (n:=(p.length:Int)) (ae4 (by omega))
 have helt:=aE1 (n:=(p.length:Int)) (ae4 (by omega))
 have hmt:∀ d∈encI (p.length:Int) ++ p,d<256:=fun d hd=>by
  rcases List.mem_append.1 hd with h1|h1
  ·exact helt d h1
  ·exact h d h1
 have HW:=bq4 (l:=p) (by omega) h
 have HA:=by0 strm0 bi4 [10] (by decide) (by decide)
 have h1:=Strm.add_has ([10]:List Nat).length bs8 (t:=[10]) (Nat.le_refl _)
 have o1:(Strm.add ([10]:List Nat).length strm0 [10]).OK:=Strm.add_ok _ bi4 (by decide)
 generalize Strm.add ([10]:List Nat).length strm0 [10]=S1 at *
 have hn1:S1.n=1:=h1.n
 generalize hE:encI (p.length:Int) ++ p=E at *
 have hEl:E.length≤900009:=by rw [← hE,List.length_append];omega
 have HB:=by0 S1 o1 E hmt (by omega)
 have h2:=Strm.add_has E.length h1 (t:=E) (Nat.le_refl _)
 have o2:(Strm.add E.length S1 E).OK:=Strm.add_ok _ o1 hmt
 generalize Strm.add E.length S1 E=S2 at *
 have hn2:S2.n=1+E.length:=by rw [h2.n];simp;omega
 have HS:=bW5 S2 o2 (by omega)
 rw [Strm.fin_sha h2] at HS
 have hm:au7 p=([] ++ [10]) ++ E:=by unfold au7;rw [hE];rfl
 rw [hm]
 generalize sha (([] ++ [10]) ++ E)=H at *
 refine eP7 Tryz.func41 Tryz.ntmps41 fun BB=>?_
 repeat' first|refine sk41 ?_|(intro b;conv=>whnf)
 refine Ot.yd (ab5 (m:=((10:Nat):Int)) rfl rfl Tryz.underlying3 Tryz.underlying5 rfl) ?_
 repeat' first|refine sk41 ?_|(intro b;conv=>whnf)
 refine Ot.yd (bg7 (l:=[10]) rfl rfl (by decide) Tryz.underlying23 Tryz.underlying5 Tryz.underlying9) ?_
 repeat' first|refine sk42 ?_|(intro b;conv=>whnf)
 rename_i b4
 refine Sv.perm (tb:=172) (cs':=strL S1) (List.Perm.refl _) rfl (by decide) rfl (by unfold strL;rw [← aE5 o1.len];rfl) ?_
 repeat' first|refine sk42 ?_|(intro b;conv=>whnf)
 refine aa5 mixed aa0 (γ:=Nat) (fun i=>[(17,iD i)]) (fun i=>[(b,.cells 172 (strL (if i=0 then S1 else S2))),(b4,.cells 38 [D.v (zv (ZV.int IntKind.u8)),D.v (zv (ZV.int IntKind.u8)),D.v (zv (ZV.int IntKind.u8)),D.v (zv (ZV.int IntKind.u8)),D.v (zv (ZV.int IntKind.u8)),D.v (zv (ZV.int IntKind.u8)),D.v (zv (ZV.int IntKind.u8)),D.v (zv (ZV.int IntKind.u8)),D.v (zv (ZV.int IntKind.u8)),D.v (zv (ZV.int IntKind.u8)),D.v (zv (ZV.int IntKind.u8)),D.v (zv (ZV.int IntKind.u8)),D.v (zv (ZV.int IntKind.u8)),D.v (zv (ZV.int IntKind.u8)),D.v (zv (ZV.int IntKind.u8)),D.v (zv (ZV.int IntKind.u8))])]) (fun i=>i≤1) (fun i=>1 - i) 0 (aa2 cl2) (Sc.refl _) (by decide) ?_
 intro i hi
 by_cases hi1:i<1
 ·obtain rfl:i=0:=by omega
  rw [if_pos rfl]
  repeat' first|refine sk42 ?_|(intro b;conv=>whnf)
  refine Ld.mem (tb:=172) (cs:=strL S1) (d:=strD S1) (List.Mem.head _) (by rw [ah0 o1];decide) (bN6 o1) ?_
  repeat' first|refine sk42 ?_|(intro b;conv=>whnf)
  refine Ot.yd (bg7 (l:=E) rfl rfl hmt Tryz.underlying23 Tryz.underlying5 Tryz.underlying9) ?_
  repeat' first|refine sk42 ?_|(intro b;conv=>whnf)
  refine Sv.perm (tb:=172) (cs:=strL S1) (cs':=strL S2) (List.Perm.refl _) rfl (by rw [ah0 o1];decide) rfl (by
   unfold spl
   rw [List.drop_of_length_le (by rw [ah0 o1];exact Nat.le_refl 73)]
   conv=>rhs;unfold strL
   rw [← aE5 o2.len];rfl) ?_
  repeat' first|refine sk42 ?_|(intro b;conv=>whnf)
  exact ⟨1,(aa2 cl2),Sc.refl _,by omega,by omega⟩
 ·obtain rfl:i=1:=by omega
  rw [if_neg (by decide)]
  repeat' first|refine sk42 ?_|(intro b;conv=>whnf)
  refine Ld.mem (tb:=172) (cs:=strL S2) (d:=strD S2) (List.Mem.head _) (by rw [ah0 o2];decide) (bN6 o2) ?_
  repeat' first|refine sk42 ?_|(intro b;conv=>whnf)
  rename_i b0
  refine Sv.perm (tb:=176) (cs':=(List.range 32).map fun i=>yD (H.getD i 0)) (List.Perm.refl _) rfl (by decide) rfl rfl ?_
  repeat' first|refine sk42 ?_|(intro b;conv=>whnf)
  refine Ot.yd (az8 aa0 (l:=0) (h:=16) rfl rfl rfl rfl (.inl ⟨rfl,rfl⟩) (.inr ⟨_,_,_,rfl,rfl,rfl⟩) (by decide) (by decide) (by decide)) ?_
  repeat' first|refine sk42 ?_|(intro b;conv=>whnf)
  refine Ot.yd (bL6 aa0 rfl rfl rfl rfl (by decide)) ?_
  repeat' first|refine sk42 ?_|(intro b;conv=>whnf)
  refine Ld.mem (tb:=176) (cs:=(List.range 32).map fun i=>yD (H.getD i 0)) (d:=az6 H) (List.Mem.head _) (by rw [List.length_map,List.length_range];decide) rfl ?_
  unfold az6
  repeat' first|refine sk42 ?_|(intro b;conv=>whnf)
  refine Sv.perm (tb:=38) (cs:=[D.v (zv (ZV.int IntKind.u8)),D.v (zv (ZV.int IntKind.u8)),D.v (zv (ZV.int IntKind.u8)),D.v (zv (ZV.int IntKind.u8)),D.v (zv (ZV.int IntKind.u8)),D.v (zv (ZV.int IntKind.u8)),D.v (zv (ZV.int IntKind.u8)),D.v (zv (ZV.int IntKind.u8)),D.v (zv (ZV.int IntKind.u8)),D.v (zv (ZV.int IntKind.u8)),D.v (zv (ZV.int IntKind.u8)),D.v (zv (ZV.int IntKind.u8)),D.v (zv (ZV.int IntKind.u8)),D.v (zv (ZV.int IntKind.u8)),D.v (zv (ZV.int IntKind.u8)),D.v (zv (ZV.int IntKind.u8))]) (τ:=[(b,.cells 176 ((List.range 32).map fun i=>yD (H.getD i 0))),(b0,.cells 172 (strL S2))]) (cs':=(List.range 16).map fun i=>yD (H.getD i 0)) cl12 rfl (by decide) rfl rfl ?_
  repeat' first|refine sk42 ?_|(intro b;conv=>whnf)
  exact Rt.pure rfl
theorem sk43 {A B:Prop} (k:B) (h:Hd7 B→A:=by intro hk7q;(first|refine sb21 ?_|refine sb1 ?_|((with_reducible refine' Cp.by ?hc ?_);(case hc=>exact HW))|((with_reducible refine' CE.pure ?hc ?_);(case hc=>exact HW)));exact hk7q.run):A:=h ⟨k⟩
theorem sk44 {A B:Prop} (k:B) (h:Hd7 B→A:=by intro hk7q;(first|refine sb21 ?_|refine sb6 ?_|((with_reducible refine' Cp.by ?hc ?_);(case hc=>exact HW))|((with_reducible refine' CE.pure ?hc ?_);(case hc=>exact HW)));exact hk7q.run):A:=h ⟨k⟩
theorem bF0 (p:List Nat) (hl:p.length≤900000) (h:∀ d∈p,d<256):APure Tryz.prog 87 [iD 10,.sl 1 [[strY p]]] (slY (au7 p)):=by
 have hen:=ac5 (n:=(p.length:Int)) (ae4 (by omega))
 have HW:=bu3 (l:=p) (by omega) h
 have hz:(au7 p).length≤1000000:=by unfold au7;rw [List.length_cons,List.length_append];omega
 refine eP7 Tryz.func87 Tryz.ntmps87 fun BB=>?_
 repeat' first|refine sk43 ?_|(intro b;conv=>whnf)
 refine Ot.yd (ab5 (m:=((10:Nat):Int)) rfl rfl Tryz.underlying3 Tryz.underlying5 rfl) ?_
 repeat' first|refine sk44 ?_|(intro b;conv=>whnf)
 refine Bx.r ?_
 refine OtE.bsl aa0 rfl rfl rfl rfl rfl rfl rfl rfl rfl rfl (by decide) (fun bo=>?_)
 repeat' first|refine sk43 ?_|(intro b;conv=>whnf)
 refine aa5 mixed aa0 (γ:=Nat × Value × aa1) (fun g=>[(6,iD g.1),(5,.v g.2.1)]) (fun g=>g.2.2) (fun g=>g.1≤1∧RY (if g.1=0 then [10] else au7 p) g.2.1 g.2.2) (fun g=>1 - g.1) (0,.slice (some ⟨bo,0,none⟩) 1 1,[(bo,.cells 5 [yD 10])]) (aa2 cl2) (Sc.refl _) ⟨Nat.zero_le _,aD4 (xs:=[yC 10]) bo (by simp) (by decide)⟩ ?_
 rintro ⟨i,v,r⟩ ⟨hi,hrow⟩
 simp only at hi hrow ⊢
 by_cases hi1:i<1
 ·obtain rfl:i=0:=by omega
  rw [if_pos rfl] at hrow
  repeat' first|refine sk43 ?_|(intro b;conv=>whnf)
  refine Ap.go rfl rfl rfl rfl hrow (ai4 _) (aD6 _) (zs:=(au7 p).map yC) rfl (sz_y hz (by decide)) (by rw [List.length_map];omega) (fun s'=>s') ao0 (fun a' c' s' hr=>?_)
  repeat' first|refine sk43 ?_|(intro b;conv=>whnf)
  exact ⟨(1,_,s'),(aa2 cl2),Sc.refl _,⟨by simp only;omega,hr⟩,by simp only;omega⟩
 ·obtain rfl:i=1:=by omega
  rw [if_neg (by decide)] at hrow
  repeat' first|refine sk43 ?_|(intro b;conv=>whnf)
  exact Rt.vs (Vs.row hrow (ai4 _))
end
section
open Go
def yc16 (l:List Nat):List D:=l.map yD ++ List.replicate (16 - l.length) (yD 0)
theorem bD0 {l:List Nat} (h:l.length≤16):(yc16 l).length=16:=by unfold yc16;simp;omega
theorem bp8 {l:List Nat} (h:l.length<16) (x:Nat):(yc16 l).set l.length (yD x)=yc16 (l ++ [x]):=by
 unfold yc16
 rw [show 16 - l.length=(16 - (l ++ [x]).length)+1 by simp;omega,List.replicate_succ,List.set_append_right _ _ (by simp)]
 simp
theorem sk45 {A B:Prop} (k:B) (h:Hd7 B→A:=by intro hk7q;(first|refine sb21 ?_|refine sb1 ?_|((with_reducible refine' Cp.by ?hc ?_);(case hc=>exact HS))|((with_reducible refine' CE.pure ?hc ?_);(case hc=>exact HS)));exact hk7q.run):A:=h ⟨k⟩
theorem bE9 (m:List Nat) (hl:m.length≤1000000) (h:∀ d∈m,d<256):APure Tryz.prog 86 [slY m] (az6 (sha m)):=by
 have HS:=ce7 m hl h
 generalize sha m=H at *
 refine eP7 Tryz.func86 Tryz.ntmps86 fun BB=>?_
 repeat' first|refine sk45 ?_|(intro b;conv=>whnf)
 rename_i b2
 refine Sv.perm (tb:=176) (cs':=((List.range 32).map fun i=>yD (H.getD i 0))) (List.Perm.refl _) rfl (by decide) rfl rfl ?_
 repeat' first|refine sk45 ?_|(intro b;conv=>whnf)
 rename_i b3
 refine Sv.perm (tb:=38) (cs':=yc16 []) (List.Perm.refl _) rfl (by decide) rfl rfl ?_
 repeat' first|refine sk45 ?_|(intro b;conv=>whnf)
 refine aa5 mixed aa0 (γ:=Nat) (fun i=>[(5,iD i)]) (fun i=>[(b,.cells 38 (yc16 (((List.range 16).map fun i=>H.getD i 0).take i))),(b3,.cells 176 ((List.range 32).map fun i=>yD (H.getD i 0))),(b2,.cells 38 (yc16 []))]) (fun i=>i≤16) (fun i=>16 - i) 0 (aa2 cl2) (Sc.refl _) (by decide) ?_
 intro i hi
 have hsi:(((List.range 16).map fun i=>H.getD i 0).take i).length=i:=by rw [List.length_take];simp;omega
 by_cases hi16:i<16
 ·have hp:=bp8 (l:=((List.range 16).map fun i=>H.getD i 0).take i) (by omega) (H.getD i 0)
  have hwl:=bD0 (l:=((List.range 16).map fun i=>H.getD i 0).take i) (by omega)
  have hx:((List.range 16).map fun i=>H.getD i 0)[i]?=some (H.getD i 0):=by rw [List.getElem?_map,List.getElem?_range hi16];rfl
  have h3:((List.range 32).map fun i=>yD (H.getD i 0))[i]?=some (yD (H.getD i 0)):=by rw [List.getElem?_map,List.getElem?_range (by omega)];rfl
  rw [hsi,← av9 hx] at hp
  repeat' first|refine sk45 ?_|(intro b;conv=>whnf)
  refine Ot.yd (an1 aa0 (m:=i) (q:=i) rfl rfl rfl rfl rfl ?hq1 ?hq2 (Nat.zero_add _)) ?_;(case hq1=>omega);(case hq2=>omega);repeat' (first|refine sk45 ?_|(intro b;conv=>whnf))
  refine Ld.cellm (tb:=176) (List.Mem.tail _ (List.Mem.head _)) h3 ?_
  repeat' first|refine sk45 ?_|(intro b;conv=>whnf)
  refine Ot.yd (an1 aa0 (m:=i) (q:=i) rfl rfl rfl rfl rfl ?hq1 ?hq2 (Nat.zero_add _)) ?_;(case hq1=>omega);(case hq2=>omega);repeat' (first|refine sk45 ?_|(intro b;conv=>whnf))
  refine Sv.cellm (List.Perm.refl _) (by rw [hwl];exact hi16) rfl hp ?_
  repeat' first|refine sk45 ?_|(intro b;conv=>whnf)
  exact ⟨i+1,(aa2 cl2),Sc.refl _,by omega,by omega⟩
 ·obtain rfl:i=16:=by omega
  have hf:yc16 (((List.range 16).map fun i=>H.getD i 0).take 16)=(List.range 16).map fun i=>yD (H.getD i 0):=by
   rw [List.take_of_length_le (by simp)]
   unfold yc16
   simp
  rw [hf]
  repeat' first|refine sk45 ?_|(intro b;conv=>whnf)
  refine Ld.mem (tb:=38) (cs:=(List.range 16).map fun i=>yD (H.getD i 0)) (d:=az6 H) (List.Mem.head _) (by rw [List.length_map,List.length_range];decide) rfl ?_
  unfold az6
  repeat' first|refine sk45 ?_|(intro b;conv=>whnf)
  refine Sv.perm (tb:=38) (cs:=yc16 []) (τ:=[(b,.cells 38 ((List.range 16).map fun i=>yD (H.getD i 0))),(b3,.cells 176 ((List.range 32).map fun i=>yD (H.getD i 0)))]) (cs':=(List.range 16).map fun i=>yD (H.getD i 0)) cl12 rfl (by decide) rfl rfl ?_
  repeat' first|refine sk45 ?_|(intro b;conv=>whnf)
  exact Rt.pure rfl
theorem ch8 {p:List Nat} (hl:p.length≤900000) (h:∀ d∈p,d<256):∀ d∈au7 p,d<256:=by
 intro d hd
 unfold au7 at hd
 rcases List.mem_cons.1 hd with rfl|hd
 ·decide
 ·rcases List.mem_append.1 hd with h1|h1
  ·exact aE1 (n:=(p.length:Int)) (ae4 (by omega)) d h1
  ·exact h d h1
theorem bU3 {p:List Nat} (hl:p.length≤900000):(au7 p).length≤1000000:=by
 have hen:=ac5 (n:=(p.length:Int)) (ae4 (by omega))
 unfold au7
 rw [List.length_cons,List.length_append]
 omega
theorem sk46 {A B:Prop} (k:B) (h:Hd7 B→A:=by intro hk7q;(first|refine sb21 ?_|refine sb1 ?_|((with_reducible refine' Cp.by ?hc ?_);(case hc=>first|exact HI|exact HS))|((with_reducible refine' CE.pure ?hc ?_);(case hc=>first|exact HI|exact HS)));exact hk7q.run):A:=h ⟨k⟩
theorem cn4 (p:List Nat) (hl:p.length≤900000) (h:∀ d∈p,d<256):APure Tryz.prog 42 [iD 10,.sl 1 [[strY p]]] (az6 (sha (au7 p))):=by
 have HI:=bF0 p hl h
 have HS:=bE9 (au7 p) (bU3 hl) (ch8 hl h)
 generalize sha (au7 p)=H at *
 unfold az6 at HS ⊢
 refine eP7 Tryz.func42 Tryz.ntmps42 fun BB=>?_
 repeat' first|refine sk46 ?_|(intro b;conv=>whnf)
 refine Sv.perm (tb:=38) (cs':=(List.range 16).map fun i=>yD (H.getD i 0)) (List.Perm.refl _) rfl (by decide) rfl rfl ?_
 repeat' first|refine sk46 ?_|(intro b;conv=>whnf)
 exact Rt.pure rfl
def digW (w:Wd):D:=az6 (sha (au7 (encW w)))
theorem cc4 (w:Wd) (hw:WSm w):APure Tryz.prog 13 [slW w] (digW w):=by
 have HI:=bc4 w hw
 have hl:(encW w).length≤900000:=by have:=hw.len;omega
 have hlt:=bf7 hw.wd
 have HS:=co6 (encW w) hl hlt
 unfold digW
 generalize sha (au7 (encW w))=H at *
 unfold az6 at HS ⊢
 refine eP7 Tryz.func13 Tryz.ntmps13 fun BB=>?_
 repeat' first|refine sk46 ?_|(intro b;conv=>whnf)
 refine Ot.yd (bg7 (l:=encW w) rfl rfl hlt Tryz.underlying23 Tryz.underlying5 Tryz.underlying9) ?_
 repeat' first|refine sk46 ?_|(intro b;conv=>whnf)
 refine Sv.perm (tb:=38) (cs':=(List.range 16).map fun i=>yD (H.getD i 0)) (List.Perm.refl _) rfl (by decide) rfl rfl ?_
 repeat' first|refine sk46 ?_|(intro b;conv=>whnf)
 exact Rt.pure rfl
theorem bS7 (w:Wd) (hw:WSm w):APure Tryz.prog 14 [slW w] (digW w):=by
 have HI:=aR3 w hw
 have hl:(encW w).length≤900000:=by have:=hw.len;omega
 have hlt:=bf7 hw.wd
 have HS:=cn4 (encW w) hl hlt
 unfold digW
 generalize sha (au7 (encW w))=H at *
 unfold az6 at HS ⊢
 refine eP7 Tryz.func14 Tryz.ntmps14 fun BB=>?_
 repeat' first|refine sk46 ?_|(intro b;conv=>whnf)
 refine Ot.yd (bg7 (l:=encW w) rfl rfl hlt Tryz.underlying23 Tryz.underlying5 Tryz.underlying9) ?_
 repeat' first|refine sk46 ?_|(intro b;conv=>whnf)
 refine Sv.perm (tb:=38) (cs':=(List.range 16).map fun i=>yD (H.getD i 0)) (List.Perm.refl _) rfl (by decide) rfl rfl ?_
 repeat' first|refine sk46 ?_|(intro b;conv=>whnf)
 exact Rt.pure rfl
end
section
open Go Go.RowKit Go.Shelf
theorem bv8 {α β:Type} {f:α→Option β}:∀ {l:List α},(∀ a∈l,∃ b,f a=some b)→∃ bs,l.mapM f=some bs
 | [],_=>⟨[],rfl⟩
 | a :: l,h=>by
  obtain ⟨b,hb⟩:=h a List.mem_cons_self
  obtain ⟨bs,hbs⟩:=bv8 (fun x hx=>h x (List.mem_cons_of_mem _ hx))
  exact ⟨b :: bs,by rw [List.mapM_cons,hb,hbs];rfl⟩
theorem bM7 {w:World} {O:Nat→Prop} {l vs:List Value} (h:RdL w O (l.map D.v) vs):vs=l:=by
 have hl:=h.len
 rw [List.length_map] at hl
 refine List.ext_getElem hl fun i h1 h2=>?_
 exact (h.at_ i (.v l[i]) vs[i] (by rw [List.getElem?_map,List.getElem?_eq_getElem h2];rfl) (List.getElem?_eq_getElem h1)).val rfl
def digV (H:List Nat):List Value:=(List.range 16).map fun i=>.int .u8 ((H.getD i 0:Nat):Int)
theorem bC1 (H:List Nat):az6 H = .agg ((digV H).map D.v):=by unfold az6 digV;rw [List.map_map];rfl
theorem bZ1 (H:List Nat) {i:Nat} (h:i<16):((digV H).drop (i*1)).take 1=[.int .u8 ((H.getD i 0:Nat):Int)]:=by
 have:(digV H)[i]?=some (.int .u8 ((H.getD i 0:Nat):Int)):=by unfold digV;rw [List.getElem?_map,List.getElem?_range h];rfl
 obtain ⟨h1,h2⟩:=List.getElem?_eq_some_iff.1 this
 rw [Nat.mul_one,List.drop_eq_getElem_cons h1,h2]
 rfl
theorem ck3:Tryz.prog.keyType 38=true:=by kernel_rfl
theorem bY9:Tryz.prog.keyTypeAt 2 38=true:=by kernel_rfl
theorem aZ9:Tryz.prog.cellsOf 38=16:=by kernel_rfl
theorem ck1:Tryz.prog.cellsOf 5=1:=by kernel_rfl
theorem ck2:Tryz.prog.types.size=(Tryz.prog.types.size - 1)+1:=by kernel_rfl
theorem bz3:Tryz.prog.eqGuardType Tryz.prog.depth 38=false:=by kernel_rfl
theorem bZ0 (H:List Nat) (h:∀ d∈H,d<256):∃ l,keyOf Tryz.prog 38 (.agg (digV H).toArray)=some l:=by
 unfold keyOf
 rw [Tryz.underlying38]
 simp only
 rw [if_pos (by rw [ck3,Bool.true_and];unfold Value.formed;rw [Tryz.underlying38];simp only [aZ9];unfold digV;simp)]
 have:∃ L,Tryz.prog.keyLits (Tryz.prog.types.size+1) 38 (Value.agg (digV H).toArray).cells.toList=some L:=by
  have hc:(Value.agg (digV H).toArray).cells.toList=digV H:=rfl
  rw [hc]
  unfold Program.keyLits
  rw [Tryz.underlying38]
  simp only
  rw [if_pos (show (digV H).length=Tryz.prog.cellsOf 38 by rw [aZ9];unfold digV;simp)]
  obtain ⟨bs,hbs⟩:=bv8 (l:=List.range 16) (f:=fun i=>Tryz.prog.keyLits Tryz.prog.types.size 5 (((digV H).drop (i*Tryz.prog.cellsOf 5)).take (Tryz.prog.cellsOf 5))) (fun i hi=>by
   rw [ck1,bZ1 H (List.mem_range.1 hi),ck2]
   unfold Program.keyLits
   rw [Tryz.underlying5]
   simp only
   refine ⟨_,if_pos ⟨trivial,?_⟩⟩
   have hd:H.getD i 0<256:=by
    rw [List.getD_eq_getElem?_getD]
    cases hq:H[i]? with
    | none=>decide
    | some d=>exact h d (List.mem_of_getElem? hq)
   simp only [Lit.wf,Bool.and_eq_true,decide_eq_true_eq]
   refine ⟨show (0:Int)≤((H.getD i 0:Nat):Int) by omega,show ((H.getD i 0:Nat):Int)≤255 by omega⟩)
  exact ⟨_,by rw [hbs];rfl⟩
 obtain ⟨L,hL⟩:=this
 exact ⟨_,by rw [hL];rfl⟩
section
variable {ρ:Operand→D} {σ:aa1}
theorem cb8 {o:Oper} {t':TypeId} {x y:Operand} {H:List Nat} (ho:o.op = .binOp .neq 38 x y t') (hx:ρ x=az6 H) (hy:ρ y=az6 H) (hH:∀ d∈H,d<256):Yd Tryz.prog o ρ σ (bD false):=by
 intro w X η hη hst
 obtain ⟨dst,op,ty,pos,aft,g⟩:=o
 simp only at ho
 subst ho
 have h1:=hη x (by simp [Op.operands])
 have h2:=hη y (by simp [Op.operands])
 rw [hx,bC1] at h1
 rw [hy,bC1] at h2
 obtain ⟨v1,e1,h1⟩:=h1.agg_inv
 obtain ⟨v2,e2,h2⟩:=h2.agg_inv
 rw [bM7 h1] at e1
 rw [bM7 h2] at e2
 refine ac8 (s:=do eqGuard .neq 38 x y (η x) (η y);binOp .neq 38 (η x) (η y)) (u:=.bool false) ?_ (Ex.refl w) (.v _)
 rw [e1,e2]
 obtain ⟨l,hl⟩:=bZ0 H hH
 obtain ⟨r,hr,hrt⟩:=run_equal_deep w (m:=2) (by decide) bY9 (by rw [Tryz.underlying38]) hl hl
 obtain rfl:r=true:=hrt.2 rfl
 simp only [Sem.run_bind,run_eqGuard_agg w .neq _ _ _ _ _ bz3,Result.andThen,run_neq_struct]
 rw [show Op.equalIn 10000=Op.equal from rfl,hr]
 rfl
end
end
section
open Go
theorem cl16 {p:Prop} (h:p:=by repeat (first|exact List.Sublist.refl _|exact List.nil_sublist _|apply List.Sublist.cons)):p:=h
theorem aw3 (a b:Wd) (hwa:WCt a) (hwb:WCt b):APure Tryz.prog 16 [slW a,slW b] (bD (decide (a=b))):=by
 have ha:=hwa.k
 have hb:=hwb.k
 refine eP7 Tryz.func16 Tryz.ntmps16 fun BB=>?_
 by_cases hl:a.length=b.length
 ·repeat' first|refine sk13 ?_|(intro b;conv=>whnf)
  refine ai2 mixed aa0 (γ:=Nat) (fun k=>[(5,iD k)]) (fun _=>[]) (fun k=>k≤a.length∧∀ i,i<k→a[i]?=b[i]?) (fun k=>a.length - k) 0 (aa2 cl7) cl16 ⟨Nat.zero_le _,fun i h=>by omega⟩ ?_
  rintro k ⟨hk,hno⟩
  by_cases hlt:k<a.length
  ·obtain ⟨x,hx⟩:∃ x,a[((k:Nat):Int).toNat]?=some x:=⟨_,List.getElem?_eq_getElem hlt⟩
   obtain ⟨y,hy⟩:∃ y,b[((k:Nat):Int).toNat]?=some y:=⟨_,List.getElem?_eq_getElem (by show k<_;omega)⟩
   have hx':a[k]?=some x:=hx
   have hy':b[k]?=some y:=hy
   have hxm:=List.mem_of_getElem? hx'
   have hym:=List.mem_of_getElem? hy'
   have hxl:=hwa.n x hxm
   have hyl:=hwb.n y hym
   by_cases he:x.length=y.length
   ·repeat' first|refine sk13 ?_|(intro b;conv=>whnf)
    refine ai2 mixed aa0 (γ:=Nat) (fun i=>[(6,iD i)]) (fun _=>[]) (fun i=>i≤x.length∧∀ j,j<i→x[j]?=y[j]?) (fun i=>x.length - i) 0 (aa2 cl7) cl16 ⟨Nat.zero_le _,fun i h=>by omega⟩ ?_
    rintro i ⟨hi,hni⟩
    by_cases hil:i<x.length
    ·obtain ⟨r,hr⟩:∃ r,x[((i:Nat):Int).toNat]?=some r:=⟨_,List.getElem?_eq_getElem hil⟩
     obtain ⟨t,ht⟩:∃ t,y[((i:Nat):Int).toNat]?=some t:=⟨_,List.getElem?_eq_getElem (by show i<_;omega)⟩
     have hr':x[i]?=some r:=hr
     have ht':y[i]?=some t:=ht
     have HC:=bF2 r t (hwa.f x hxm r (List.mem_of_getElem? hr')) (hwb.f y hym t (List.mem_of_getElem? ht'))
     by_cases h2:r=t
     ·rw [decide_eq_true h2] at HC
      repeat' first|refine sk13 ?_|(intro b;conv=>whnf)
      refine ⟨i+1,(aa2 cl7),cl16,⟨by omega,fun j hj=>?_⟩,by omega⟩
      by_cases e:j=i
      ·subst e;rw [hr',ht',h2]
      ·exact hni j (by omega)
     ·have hne:a≠b:=fun h=>by
       subst h
       cases hx'.symm.trans hy'
       cases hr'.symm.trans ht'
       exact h2 rfl
      rw [decide_eq_false h2] at HC
      repeat' first|refine sk13 ?_|(intro b;conv=>whnf)
      refine Rt.pure (congrArg bD ?_)
      exact (decide_eq_false hne).symm
    ·have hxy:x=y:=List.ext_getElem? fun j=>by
      by_cases hj:j<i
      ·exact hni j hj
      ·rw [List.getElem?_eq_none_iff.2 (by omega),List.getElem?_eq_none_iff.2 (by omega)]
     repeat' first|refine sk13 ?_|(intro b;conv=>whnf)
     refine ⟨k+1,(aa2 cl7),cl16,⟨by omega,fun j hj=>?_⟩,by omega⟩
     by_cases e:j=k
     ·subst e;rw [hx',hy',hxy]
     ·exact hno j (by omega)
   ·have hne:a≠b:=fun h=>by
     subst h
     cases hx'.symm.trans hy'
     exact he rfl
    repeat' first|refine sk13 ?_|(intro b;conv=>whnf)
    refine Rt.pure (congrArg bD ?_)
    exact (decide_eq_false hne).symm
  ·have hab:a=b:=List.ext_getElem? fun i=>by
    by_cases hi:i<k
    ·exact hno i hi
    ·rw [List.getElem?_eq_none_iff.2 (by omega),List.getElem?_eq_none_iff.2 (by omega)]
   repeat' first|refine sk13 ?_|(intro b;conv=>whnf)
   refine Rt.pure (congrArg bD ?_)
   exact (decide_eq_true hab).symm
 ·have hne:a≠b:=fun h=>hl (by rw [h])
  repeat' first|refine sk13 ?_|(intro b;conv=>whnf)
  refine Rt.pure (congrArg bD ?_)
  exact (decide_eq_false hne).symm
end
section
open Go Go.RowKit Go.Shelf
section
variable {α:Type} {f:List Nat→α × Nat × Int}
theorem bk2:∀ {n:Nat} {b:List Nat} {l:List α} {j:Nat},many f n b=(l,j,0)→∀ x∈l,∃ b' k,b'.length≤b.length∧f b'=(x,k,0)
 | 0,b,l,j,h,x,hx=>by cases h;cases hx
 | n+1,b,l,j,h,x,hx=>by
  obtain ⟨y,k,l',j',h1,h2,rfl,rfl⟩:=aT4 h
  rcases List.mem_cons.1 hx with rfl|hx
  ·exact ⟨b,k,Nat.le_refl _,h1⟩
  ·obtain ⟨b',k',g1,g2⟩:=bk2 h2 x hx
   rw [List.length_drop] at g1
   exact ⟨b',k',by omega,g2⟩
theorem aH1 {c:Int} (hc:c≠0) {b:List Nat} {l:List α} {j:Nat} (h:al1 c f b=(l,j,0)):l.length≤b.length∧∀ x∈l,∃ b' k,b'.length≤b.length∧f b'=(x,k,0):=by
 obtain ⟨n,k,j',h1,h2,-⟩:=bw3 hc h
 obtain ⟨-,h3,h4⟩:=aF7 hc h1
 refine ⟨by rw [ar6 h2];omega,fun x hx=>?_⟩
 obtain ⟨b',k',g1,g2⟩:=bk2 h2 x hx
 rw [List.length_drop] at g1
 exact ⟨b',k',by omega,g2⟩
end
theorem bf9 (b:List Nat) (hb:b.length≤1000000):WCt (decW b).1:=by
 by_cases he:(decW b).2.2=0
 ·have h:al1 2 getK b=((decW b).1,(decW b).2.1,0):=by
   rw [← he];rfl
  obtain ⟨h1,h2⟩:=aH1 (by decide) h
  refine ⟨by omega,fun l hl=>?_,fun l hl r hr=>?_⟩
  ·obtain ⟨b',k,g1,g2⟩:=h2 l hl
   have:=(aH1 (by decide) g2).1
   omega
  ·obtain ⟨b',k,g1,g2⟩:=h2 l hl
   obtain ⟨b2,k2,q1,q2⟩:=(aH1 (by decide) g2).2 r hr
   have:=(aH1 (by decide) q2).1
   omega
 ·have h:=bH0 (f:=getK) (c:=2) (b:=b) he
  have:(decW b).1=[]:=congrArg Prod.fst h
  rw [this]
  exact ⟨by simp,by simp,by simp⟩
theorem WSm.ct {w:Wd} (h:WSm w):WCt w:=
 ⟨by have:=h.k;omega,fun l hl=>by have:=h.n l hl;omega,fun l hl r hr=>by have:=h.f l hl r hr;omega⟩
section
variable {P:Program} {ρ:Operand→D} {σ:aa1}
theorem bP5 {o:Oper} {t t':TypeId} {x y:Operand} {p:Bool} (ho:o.op = .binOp .neq t x y t') (hx:ρ x = .v (.bool p)) (hy:ρ y = .v (.bool p)) (ht:P.underlying t=some .bool):Yd P o ρ σ (bD false):=by
 have:=yd_bne (σ:=σ) ho hx hy ht
 rw [beq_self_eq_true] at this
 exact this
end
end
section
open Go
/-! ### Sums -/
def cd5 (rows:List (List Int)) (up share i:Nat):Int:=rows.foldl (fun (acc:Int) (r:List Int)=>if r.getD up 0=(i:Int) then IntKind.i64.wrap (acc+r.getD share 0) else acc) (0:Int)
def upOf (x:Sch) (o sh:Nat):Nat:=match x.kinds[o]? with
 | some k=>match k.fields[sh]? with
  | some g=>(ac2 k g.up).toNat
  | none=>0
 | none=>0
def numOk (n:Int):Bool:=!(decide (n < -1099511627776) || decide (1099511627776<n))
def recOk (x:Sch) (k:Nat) (l:List Int):Bool:=bV0 x k l && l.all numOk
def ar3 (x:Sch) (k:Nat) (l:List (List Int)):Bool:=decide (l.length≤512) && l.all (recOk x k)
def fitW (x:Sch) (w:Wd):Bool:=decide (w.length=x.kinds.length) && (List.range w.length).all (fun k=>ar3 x k (w.getD k [])) && (ab8 x).all (fun r=>(w.getD r.kind []).all (aG0 w r))
/-! ### Life cycles -/
def ch9 (x:Sch) (n:ByteArray):Lif:=(x.lives.find? fun l=>seq l.name n).getD ⟨ByteArray.empty,[],[]⟩
def bR4 (l:Lif) (now:List Bool):List Bool:=l.moves.foldl (fun nx m=>if now.getD m.1.toNat false then nx.set m.2.toNat true else nx) (List.replicate 12 false)
def cg7 (l:Lif):Nat→List Bool
 | 0=>(List.replicate 12 false).set 0 true
 | m+1=>bR4 l (cg7 l m)
def cp1 (l:Lif) (s:Nat):Bool:=!l.moves.any fun m=>decide (m.1=(s:Int))
def bU9 (l:Lif):Bool:=decide (l.states.length≤12) && decide (l.moves.length≤32) && decide (l.states.length≠0) && l.moves.all fun m=>bv5 l.states.length m
def ce4 (l:Lif) (lo hi:Int):List Bool:=
 if bU9 l && decide (0≤lo) && decide (lo≤hi) && decide (hi≤1000) then (List.range l.states.length).map fun s=>(List.range (hi.toNat+1)).any fun m=>(cg7 l m).getD s false && (decide (lo≤(m:Int)) || cp1 l s) else []
/-! ### One field -/
def vatR (r:List Int) (i:Int):Int:=r.getD i.toNat 0
def getR (kd:Knd) (r:List Int) (n:ByteArray):Int:=if isE n then 0 else vatR r (ac2 kd n)
def outE (v lo hi:Int):Int:=if v<lo∨hi<v then 5 else 0
def cn1 (x:Sch) (w:Wd) (k i f:Nat):Int:=cd5 (w.getD (aD3 x k f).1.toNat []) (upOf x (aD3 x k f).1.toNat (aD3 x k f).2.toNat) (aD3 x k f).2.toNat i
def ck4 (x:Sch) (w:Wd) (k:Nat) (kd:Knd) (d:Fld) (r:List Int):Int:=
 match af3 x (upIx x k (ac2 kd d.up)) with
 | some ko=>vatR ((w.getD (upIx x k (ac2 kd d.up)).toNat []).getD (vatR r (ac2 kd d.up)).toNat []) (ac2 ko d.of)
 | none=>0
def bz7 (x:Sch) (w:Wd) (k:Nat) (kd:Knd) (r:List Int) (i f:Nat) (d:Fld) (ks:List Int):Int:=
 if d.kind=0 then (if r.getD f 0<d.lo then 5 else if r.getD f 0∈ks then 7 else 0)
 else if d.kind=2∨d.kind=7 then outE (r.getD f 0) d.lo d.hi
 else if d.kind=3 then (if r.getD f 0<0∨(d.words.length:Int)≤r.getD f 0∨d.weights.getD (r.getD f 0).toNat 0=0 then 5 else 0)
 else if d.kind=4 then outE (r.getD f 0 - getR kd r d.of) d.lo d.hi
 else if d.kind=5 then (if (ce4 (ch9 x d.of) d.lo d.hi).getD (r.getD f 0).toNat false && decide (0≤r.getD f 0) then 0 else 8)
 else if d.kind=6 then (if r.getD f 0=cn1 x w k i f then 0 else 9)
 else if d.kind=8 then (if r.getD f 0=ck4 x w k kd d r then 0 else 16)
 else 0
def keyF (r:List Int) (f:Nat) (d:Fld) (ks:List Int):List Int:=if d.kind=0∧¬ r.getD f 0<d.lo then r.getD f 0 :: ks else ks
def aB9 (kd:Knd) (r:List Int) (ks:List Int):Nat→List Int
 | 0=>ks
 | q+1=>match kd.fields[q]? with
  | some d=>keyF r q d (aB9 kd r ks q)
  | none=>aB9 kd r ks q
def aK9 (kd:Knd) (l:List (List Int)):Nat→List Int
 | 0=>[]
 | i+1=>match l[i]? with
  | some r=>aB9 kd r (aK9 kd l i) r.length
  | none=>aK9 kd l i
def cj1 (kd:Knd) (r:List Int) (q:Rul):Bool:=decide (getR kd r q.a≤getR kd r q.b+q.n)
def fldP (x:Sch) (w:Wd) (k:Nat) (kd:Knd) (l:List (List Int)) (i:Nat) (r:List Int) (f:Nat):List Prb:=
 match kd.fields[f]? with
 | some d=>one k i f (bz7 x w k kd r i f d (aB9 kd r (aK9 kd l i) f))
 | none=>[]
def rulP (x:Sch) (k:Nat) (kd:Knd) (i:Nat) (r:List Int) (q:Nat):List Prb:=
 match x.rules[q]? with
 | some u=>one k i (-1) (if ab6 x u.kind=(k:Int)∧cj1 kd r u=false then 24 else 0)
 | none=>[]
def recP (x:Sch) (w:Wd) (k:Nat) (kd:Knd) (l:List (List Int)) (i:Nat):List Prb:=
 match l[i]? with
 | some r=>upTo r.length (fldP x w k kd l i r) ++ upTo x.rules.length (rulP x k kd i r)
 | none=>[]
def knP (x:Sch) (w:Wd) (k:Nat):List Prb:=
 match x.kinds[k]? with
 | some kd=>upTo (w.getD k []).length (recP x w k kd (w.getD k []))
 | none=>[]
def limP (x:Sch) (w:Wd) (k:Nat):List Prb:=
 match x.kinds[k]? with
 | some kd=>one k (-1) (-1) (if ((w.getD k []).length:Int)<kd.lo∨kd.hi<((w.getD k []).length:Int) then 4 else 0)
 | none=>[]
def degE (w:Wd) (r:Rf) (j:Nat):Nat:=(w.getD r.kind []).countP fun l=>decide (l.getD r.field 0=(j:Int))
def degP (x:Sch) (w:Wd) (r:Rf) (j:Nat):List Prb:=
 match fieldAt x r.kind r.field with
 | some d=>one r.kind j r.field (if (degE w r j:Int)<d.lo∨d.hi<(degE w r j:Int) then 11 else 0)
 | none=>[]
def aN0 (x:Sch) (w:Wd) (q:Nat):List Prb:=
 match (ab8 x)[q]? with
 | some r=>upTo (w.getD r.up.toNat []).length (degP x w r)
 | none=>[]
def ba9 (x:Sch) (w:Wd):List Prb:=
 if fitW x w then upTo w.length (limP x w) ++ upTo w.length (knP x w) ++ upTo (ab8 x).length (aN0 x w) else [(-1,-1,-1,2)]
end
section
open Go Go.Maps Go.MapKept
def idxs (rows:List (List Int)) (f j:Nat):List Int:=(rows.zipIdx.filter fun p=>decide (p.1.getD f 0=(j:Int))).map fun p=>(p.2:Int)
theorem aZ2 (rows:List (List Int)) (r:List Int) (f j:Nat):idxs (rows ++ [r]) f j=if r.getD f 0=(j:Int) then idxs rows f j ++ [(rows.length:Int)] else idxs rows f j:=by
 unfold idxs
 rw [List.zipIdx_append,List.filter_append,List.map_append,List.zipIdx_singleton,List.filter_cons,List.filter_nil,Nat.zero_add]
 by_cases h:r.getD f 0=(j:Int)
 ·rw [if_pos h,if_pos (by simpa using h)];rfl
 ·rw [if_neg h,if_neg (by simpa using h)];simp
theorem bk8 (rows:List (List Int)) (f j:Nat):(idxs rows f j).length=rows.countP fun r=>decide (r.getD f 0=(j:Int)):=by
 generalize hr:rows.reverse=l
 induction l generalizing rows with
 | nil=>rw [List.reverse_eq_nil_iff] at hr;subst hr;rfl
 | cons r l ih=>
  have hl:rows=l.reverse ++ [r]:=by rw [← List.reverse_reverse rows,hr];simp
  subst hl
  rw [aZ2,List.countP_append,← ih l.reverse (by simp),List.countP_singleton]
  by_cases h:r.getD f 0=(j:Int)
  ·rw [if_pos h,if_pos (decide_eq_true h),List.length_append];rfl
  ·rw [if_neg h,if_neg (by simpa using h)];rfl
def adjL (rows:List (List Int)) (f n:Nat):List (List Int):=(List.range n).map (idxs rows f)
theorem av3 (rows:List (List Int)) (f n:Nat):(adjL rows f n).length=n:=by simp [adjL]
theorem aC7 {f n j:Nat} (rows:List (List Int)) (h:j<n):(adjL rows f n)[j]?=some (idxs rows f j):=by simp [adjL,h]
theorem bK9 (f n:Nat):adjL [] f n=List.replicate n []:=by
 refine List.ext_getElem? fun i=>?_
 by_cases h:i<n
 ·rw [aC7 _ h,List.getElem?_replicate,if_pos h];rfl
 ·rw [List.getElem?_eq_none_iff.2 (by rw [av3];omega),List.getElem?_eq_none_iff.2 (by simp;omega)]
theorem bC2 {rows:List (List Int)} {r:List Int} {f n v:Nat} (h:r.getD f 0=(v:Int)):adjL (rows ++ [r]) f n=(adjL rows f n).set v (idxs rows f v ++ [(rows.length:Int)]):=by
 refine List.ext_getElem? fun i=>?_
 by_cases hi:i<n
 ·rw [aC7 _ hi,aZ2,h]
  by_cases e:i=v
  ·subst e
   rw [if_pos rfl,List.getElem?_set_self (by rw [av3];exact hi)]
  ·rw [if_neg (by omega),List.getElem?_set_ne (Ne.symm e),aC7 _ hi]
 ·rw [List.getElem?_eq_none_iff.2 (by rw [av3];omega),List.getElem?_eq_none_iff.2 (by rw [List.length_set,av3];omega)]
theorem au1 {α:Type} {l:List α} {j:Nat} {x:α} (h:l[j]?=some x):l.take (j+1)=l.take j ++ [x]:=by rw [List.take_add_one,h];rfl
theorem bm8 (x:Sch):(ab8 x).Pairwise fun a b=>a.kind≠b.kind∨a.field≠b.field:=by
 have hF:∀ k kd i a,a∈refF x k kd i→a.kind=k∧a.field=i:=by
  intro k kd i a h
  unfold refF at h
  split at h
  ·split at h
   ·rw [List.mem_singleton] at h;subst h;exact ⟨rfl,rfl⟩
   ·cases h
  ·cases h
 have hK:∀ k a,a∈refK x k→a.kind=k:=by
  intro k a h
  unfold refK at h
  split at h
  ·obtain ⟨i,_,h⟩:=aT2.1 h;exact (hF _ _ _ _ h).1
  ·cases h
 unfold ab8 upTo
 rw [List.pairwise_flatMap]
 refine ⟨fun k _=>?_,List.nodup_range.imp fun hab a ha b hb=>.inl (by rw [hK _ _ ha,hK _ _ hb];exact hab)⟩
 unfold refK
 split
 ·unfold upTo
  rw [List.pairwise_flatMap]
  refine ⟨fun i _=>?_,List.nodup_range.imp fun hab a ha b hb=>.inr (by rw [(hF _ _ _ _ ha).2,(hF _ _ _ _ hb).2];exact hab)⟩
  unfold refF
  split
  ·split <;> simp
  ·simp
 ·simp
theorem bS3 {x:Sch} {p q:Nat} {a b:Rf} (ha:(ab8 x)[p]?=some a) (hb:(ab8 x)[q]?=some b) (h:p≠q):a.kind≠b.kind∨a.field≠b.field:=by
 obtain ⟨l1,e1⟩:=List.getElem?_eq_some_iff.1 ha
 obtain ⟨l2,e2⟩:=List.getElem?_eq_some_iff.1 hb
 have hp:=List.pairwise_iff_getElem.1 (bm8 x)
 rcases Nat.lt_or_gt_of_ne h with h|h
 ·have:=hp p q l1 l2 h;rwa [e1,e2] at this
 ·have:=hp q p l2 l1 h
  rw [e1,e2] at this
  exact this.imp Ne.symm Ne.symm
def adjR (w:Wd) (r:Rf):List (List Int):=adjL (w.getD r.kind []) r.field (w.getD r.up.toNat []).length
def lnC (r:Rf):List D:=[iD r.kind,iD r.field,iD r.up]
abbrev slLn (l:List Rf):D:=.sl 3 (l.map lnC)
abbrev lnV (r:Rf):Value:=lkV r.kind r.field r.up
def AdjS (w:Wd) (F:Value→Option Value) (L:List Rf) (σ:aa1):Prop:=∃ (vs:List Value) (ts:List aa1),All3 (fun r v t=>RW1 (adjR w r) v t∧F (lnV r)=some v) L vs ts∧σ.Perm ts.flatten
theorem AdjS.nil (w:Wd) (F:Value→Option Value):AdjS w F [] []:=⟨[],[],.nil,by simp⟩
theorem AdjS.perm {w:Wd} {F:Value→Option Value} {L:List Rf} {σ σ':aa1} (h:AdjS w F L σ) (hp:σ'.Perm σ):AdjS w F L σ':=by
 obtain ⟨vs,ts,h1,h2⟩:=h
 exact ⟨vs,ts,h1,hp.trans h2⟩
theorem All3.imp {α:Type} {R R':ORep α} {xs:List α} {vs:List Value} {ts:List aa1} (h:All3 R xs vs ts) (hi:∀ x∈xs,∀ v t,R x v t→R' x v t):All3 R' xs vs ts:=by
 induction h with
 | nil=>exact .nil
 | cons h k ih=>exact .cons (hi _ (List.mem_cons_self ..) _ _ h) (ih fun x hx=>hi x (List.mem_cons_of_mem _ hx))
theorem AdjS.push {w:Wd} {F:Value→Option Value} {L:List Rf} {σ τ:aa1} {r:Rf} {v:Value} (h:AdjS w F L σ) (hr:RW1 (adjR w r) v τ) (hne:∀ r'∈L,r'.kind≠r.kind∨r'.field≠r.field):AdjS w (updF F (lnV r) v) (L ++ [r]) (σ ++ τ):=by
 obtain ⟨vs,ts,h1,h2⟩:=h
 refine ⟨vs ++ [v],ts ++ [τ],All3.append (h1.imp fun r' hr' u t hh=>⟨hh.1,?_⟩) (.cons ⟨hr,?_⟩ .nil),?_⟩
 ·unfold updF
  rw [if_neg]
  ·exact hh.2
  ·intro e
   obtain ⟨e1,e2,_⟩:=bU7 e
   rcases hne r' hr' with h|h <;> omega
 ·unfold updF;rw [if_pos rfl]
 ·rw [List.flatten_append]
  simpa using h2.append_right τ
theorem AdjS.at {w:Wd} {F:Value→Option Value} {L:List Rf} {σ:aa1} (h:AdjS w F L σ) {q:Nat} {r:Rf} (hr:L[q]?=some r):∃ v t τ,F (lnV r)=some v∧RW1 (adjR w r) v t∧σ.Perm (t ++ τ):=by
 obtain ⟨vs,ts,h1,h2⟩:=h
 obtain ⟨u,t,τ,g1,g2,g3,_⟩:=h1.at hr
 exact ⟨u,t,τ,g2.2,g2.1,h2.trans g3⟩
end
section
open Go Go.RowKit Go.Shelf Go.Maps Go.MapKept
open Go.ChangeMaps (setBlock modify_eq_set heap_setBlock_same heap_setBlock_other)
noncomputable def updG (G:Value→Option D) (key:Value) (d:D):Value→Option D:=open Classical in fun x=>if x=key then some d else G x
section
variable {P:Program} {r:Option Nat} {n:Nat} {df:Nat} {N:Nat} {σ τ:aa1} {ρ:Operand→D} {f:Frm} {L:List Oper} {k t e:TypeId} {G:Value→Option D} {b:Nat} {kv z:Value} {kl:Lit} {zd:D}
theorem cf3 {w:World} {X:Nat→Prop} (hs:StOK w X σ) (hb:(b,Blk.mp P k G)∈σ):∃ es c n F,w.heap[b]?=some (.map es c)∧Ents P k es c n F∧∀ key,(F key=none∧G key=none)∨∃ v d,F key=some v∧G key=some d∧Rd w (Own σ X) d v:=by
 obtain ⟨_,o,h1,es,c,n,F,rfl,h3,h4⟩:=hs.at_ b _ hb
 exact ⟨es,c,n,F,h1,h3,h4⟩
theorem OtE.makeMapM {o:Oper} {K:Frm→aa1→Prop} (ho:o.op = .makeMap t none) (kk:∀ b,W (putK N o.dst (.v (.map (some b))) f (fun f'=>K f' ((b,.mp P k fun _=>none) :: σ)))):OtE P r n df L N o f σ K:=by
 refine ⟨fun rest Q a hsp hw hk=>?_⟩
 refine ad7 hw (by rw [ho];rfl) fun w X fr hst=>?_
 have e0:(execOp fr.eval o).run P w = .ok (.value (.map (some w.heap.size))) (w.alloc (.map #[] 0)):=by
  simp only [execOp,ho]
  rfl
 rw [e0]
 have hz:∀ w O,(Blk.mp P k fun _=>none).ok w O (.map #[] 0):=fun w O=>⟨#[],0,0,fun _=>none,rfl,⟨by simp,stamped_empty 0,by simp,by simp,by simp⟩,fun _=>.inl ⟨rfl,rfl⟩⟩
 obtain ⟨g1,g2,g3⟩:=hst.st.new (.map #[] 0) (.mp P k fun _=>none) (hz _ _)
 obtain ⟨f',hs',h4⟩:=ac7 (kk w.heap.size).h hsp
 exact ⟨_,_,g2,(hst.mv g2 g1).put (.v _) o.dst,hk _ _ _ h4 hs'⟩
theorem OtE.mapUpdateM {o:Oper} {m key x:Operand} {d:D} {K:Frm→aa1→Prop} (ho:o.op = .mapUpdate t m key x) (hm:evF f m = .v (.map (some b))) (hd:KeyD (evF f key) kv) (hx:evF f x=d) (hb:σ.Perm ((b,Blk.mp P k G) :: τ))
  (KK:Keyed P k) (ht:P.underlying t=some (.map k e)) (hkey:keyOf P k kv=some kl) (kk:W (putK N o.dst (.v undef) f (fun f'=>K f' ((b,.mp P k (updG G kv d)) :: τ)))):OtE P r n df L N o f σ K:=by
 refine ⟨fun rest Q a hsp hw hk=>?_⟩
 refine ad7 hw (by rw [ho];rfl) fun w X fr hst=>?_
 have hst':=hst.perm hb
 obtain ⟨es,c,nn,F,q1,q2,q3⟩:=cf3 hst'.st (List.mem_cons_self)
 have hη:∀ x,Rd w (Own ((b,Blk.mp P k G) :: τ) X) (evF f x) (fr.eval x):=fun x=>hsp.le x _ _ _ (hst'.fr.eval x)
 obtain ⟨w',h1,⟨es',c',h2,h3⟩,h4⟩:=MapIs.update (v:=fr.eval x) (n:=nn) ⟨es,c,q1,q2⟩ KK ht hkey
 have p1:=(hη m).val hm
 have p2:=hd _ _ _ (hη key)
 have p3:=hη x
 rw [hx] at p3
 have e0:(execOp fr.eval o).run P w = .ok .skip w':=by
  simp only [execOp,ho,p1,p2]
  show (do let _ ← Instr.mapUpdate t (.map (some b)) kv (fr.eval x);pure Next.skip).run P w=_
  simp only [Sem.run_bind,h1,Result.andThen,Sem.run_pure]
 have h6:(Blk.mp P k (updG G kv d)).ok w (Own ((b,Blk.mp P k G) :: τ) X) (.map es' c'):=by
  refine ⟨es',c',_,_,rfl,h3,fun key=>?_⟩
  unfold updF updG
  by_cases hk:key=kv
  ·subst hk
   exact .inr ⟨_,_,if_pos rfl,if_pos rfl,p3⟩
  ·rw [if_neg hk,if_neg hk]
   exact q3 key
 obtain ⟨g1,g2,g3,g4⟩:=hst'.st.upd (i:=0) (k':=.mp P k (updG G kv d)) rfl h4 h2 h6
 obtain ⟨f',hs',h8⟩:=ac7 kk.h hsp
 rw [e0]
 exact ⟨_,be3 hb g2,(hst'.mv g2 g1).put (.v undef) o.dst,hk _ _ _ h8 hs'⟩
end
end
section
open Go Go.Maps Go.MapKept
theorem ACall.look {P:Program} {f:FuncId} {ds ds':List D} {σ τ ρ:aa1} {R:D→aa1→Prop} (hv:VsL σ ds τ ds') (hp:σ.Perm (τ ++ ρ)) (hc:ACall P f ds' τ R) (hfl:∀ d s,R d s→bI1 d=true∧FlS s) :
  ACall P f ds σ (fun d σ'=>∃ s,σ'=s ++ ρ∧R d s):=by
 refine ⟨hc.ent,fun w X vs hv0 hs=>?_⟩
 obtain ⟨hsτ,hvτ⟩:=hv.run w X vs hs hv0
 have hsp:=hs.perm hp
 refine (hc.run w X vs hvτ hsτ).mono ?_
 rintro e w' ⟨u,d,s,g1,g2,g3,g4,g5⟩
 obtain ⟨f1,f2⟩:=hfl d s g2
 have hnd:=hsp.nodup
 rw [aa4,List.nodup_append] at hnd
 obtain ⟨n1,n2,n3⟩:=hnd
 have hz:=g5.keep.size
 have hblk:∀ b,b<w.heap.size→¬ Own (τ ++ ρ) X b→w'.heap[b]?=w.heap[b]?:=fun b hb hn=>g5.keep.block b hb (fun hk=>hn (.inr (by rw [aa4];exact List.mem_append_left _ hk)))
 have hO:∀ b,b<w.heap.size→¬ Own (τ ++ ρ) X b→¬ Own (s ++ ρ) X b:=fun b hb hn ho=>by
  rcases ho with ho|ho
  ·exact hn (.inl ho)
  ·rw [aa4,List.mem_append] at ho
   rcases ho with ho|ho
   ·rcases g5.new b ho with h|h
    ·exact hn (.inr (by rw [aa4];exact List.mem_append_left _ h))
    ·omega
   ·exact hn (.inr (by rw [aa4];exact List.mem_append_right _ ho))
 have hρ:∀ b,b∈ab4 ρ→b<w.heap.size:=fun b hb=>hsp.lt (by rw [aa4];exact List.mem_append_right _ hb)
 refine ⟨u,d,s ++ ρ,g1,⟨s,rfl,g2⟩,bf4 g3 f1,⟨?_,fun b k hbk=>?_,fun b hb=>Nat.lt_of_lt_of_le (hs.xlt b hb) hz,?_⟩,⟨⟨g5.keep.os,g5.keep.tape,g5.keep.output,hz,fun b hb hn=>g5.keep.block b hb (fun hk=>hn (ag6 hp b (by rw [aa4];exact List.mem_append_left _ hk)))⟩,fun b hb=>?_⟩⟩
 ·rw [aa4,List.nodup_append]
  refine ⟨g4.nodup,n2,fun b h1 c h2 e=>?_⟩
  subst e
  rcases g5.new b h1 with h|h
  ·exact n3 b h b h2 rfl
  ·have:=hρ b h2;omega
 ·rcases List.mem_append.1 hbk with h|h
  ·obtain ⟨h1,o,h2,h3⟩:=g4.at_ b k h
   refine ⟨h1,o,h2,?_⟩
   have hfk:=f2 _ h
   cases k with
   | cells t cs=>
    obtain ⟨vs,q1,q2⟩:=h3
    exact ⟨vs,q1,q2.len,fun j d u r1 r2=>by5 (q2.at_ j d u r1 r2) (hfk d (List.mem_of_getElem? r1))⟩
   | obj ok=>exact h3
   | mp P k G=>exact hfk.elim
  ·obtain ⟨h1,o,h2,h3⟩:=hsp.at_ b k (List.mem_append_right _ h)
   have hlt:=(Array.getElem?_eq_some_iff.1 h2).1
   have hnτ:b ∉ ab4 τ:=fun hb=>n3 b hb b (au8 h) rfl
   exact ⟨h1,o,(g5.keep.block b hlt hnτ).trans h2,Blk.ok_keep hz hO hblk h3⟩
 ·refine hsp.gok.keep hz hO hblk (fun b hb=>?_)
  rcases hb with hb|hb
  ·exact Nat.lt_of_lt_of_le (hs.xlt b hb) hz
  ·rw [aa4,List.mem_append] at hb
   rcases hb with hb|hb
   ·exact g4.lt hb
   ·exact Nat.lt_of_lt_of_le (hρ b hb) hz
 ·rw [aa4,List.mem_append] at hb
  rcases hb with hb|hb
  ·rcases g5.new b hb with h|h
   ·exact .inl (ag6 hp b (by rw [aa4];exact List.mem_append_left _ h))
   ·exact .inr h
  ·exact .inl (ag6 hp b (by rw [aa4];exact List.mem_append_right _ hb))
def lvG (l:List Lif):Value→Option D
 | .string n=>(l.find? fun x=>seq x.name n).map fun x=>lifD x
 | _=>none
theorem bU5:lvG []=fun _=>none:=by
 funext v
 cases v <;> rfl
theorem bG7 (lf:Lif) (l:List Lif):updG (lvG l) (.string lf.name) (lifD lf)=lvG (lf :: l):=by
 funext v
 unfold updG
 by_cases h:v = .string lf.name
 ·rw [if_pos h,h]
  simp [lvG,aA4]
 ·rw [if_neg h]
  cases v <;> try rfl
  rename_i n
  have:seq lf.name n=false:=by
   cases e:seq lf.name n with
   | false=>rfl
   | true=>exact absurd (by rw [(bd3 _ _).1 e]) h
  simp [lvG,List.find?,this]
end
section
open Go
theorem sk47 {A B:Prop} (k:B) (h:Hd7 B→A:=by intro hk7q;(first|refine sb0 ?_|refine sb1 ?_|((with_reducible refine' Cp.by ?hc ?_);(case hc=>exact hp _ (List.mem_of_getElem? hy)))|((with_reducible refine' CE.pure ?hc ?_);(case hc=>exact hp _ (List.mem_of_getElem? hy))));exact hk7q.run):A:=h ⟨k⟩
theorem bk7 {f:FuncId} {cs:List D} (l:List Knd) (p:Knd→Bool) (hl:l.length≤1000000) (hp:∀ y∈l,APure Tryz.prog f [kndD y,.ro cs] (bD (p y))):APure Tryz.prog 108 [slK l,.clo f [.ro cs]] (iD (idx p l)):=by
 refine eP7 Tryz.func108 Tryz.ntmps108 fun BB=>?_
 repeat' first|refine sk47 ?_|(intro b;conv=>whnf)
 refine ad5 mixed aa0 (γ:=Nat) (fun k=>[(8,iD k)]) (fun _=>[]) (fun k=>k≤l.length∧∀ i y,i<k→l[i]?=some y→p y=false) (fun k=>l.length - k) 0 rfl rfl ⟨by omega,by omega⟩ ?_
 rintro k ⟨hk,hno⟩
 by_cases hlt:k<l.length
 ·obtain ⟨y,hy⟩:∃ y,l[(k:Int).toNat]?=some y:=⟨_,List.getElem?_eq_getElem hlt⟩
  repeat' first|refine sk47 ?_|(intro b;conv=>whnf)|(with_reducible refine Br.d (fun hc=>?_) (fun hc=>?_))|(with_reducible refine Br.b (fun hc=>?_) (fun hc=>?_))
  ·refine Rt.pure (congrArg iD ?_)
   exact (ae7 hy ‹_› hno).symm
  ·exact ⟨k+1,rfl,rfl,⟨by omega,fun i z hi hz=>by
    by_cases e:i=k
    ·subst e;rw [show ((i:Int)).toNat=i from rfl,hz] at hy;cases hy;assumption
    ·exact hno i z (by omega) hz⟩,by omega⟩
 ·repeat' first|refine sk47 ?_|(intro b;conv=>whnf)
  refine Rt.pure (congrArg iD ?_)
  exact (al9 fun i y hy=>hno i y (by have:=(List.getElem?_eq_some_iff.1 hy).1;omega) hy).symm
theorem sk48 {A B:Prop} (k:B) (h:Hd7 B→A:=by intro hk7q;(first|refine sb0 ?_|refine sb1 ?_|((with_reducible refine' Cp.by ?hc ?_);(case hc=>exact bk7 l p hl hp))|((with_reducible refine' CE.pure ?hc ?_);(case hc=>exact bk7 l p hl hp)));exact hk7q.run):A:=h ⟨k⟩
theorem bO0 {f:FuncId} {cs:List D} (l:List Fld) (p:Fld→Bool) (hl:l.length≤1000000) (hp:∀ y∈l,APure Tryz.prog f [fldD y,.ro cs] (bD (p y))):APure Tryz.prog 165 [slF l,.clo f [.ro cs]] (iD (idx p l)):=by
 refine eP7 Tryz.func165 Tryz.ntmps165 fun BB=>?_
 repeat' first|refine sk47 ?_|(intro b;conv=>whnf)
 refine ad5 mixed aa0 (γ:=Nat) (fun k=>[(8,iD k)]) (fun _=>[]) (fun k=>k≤l.length∧∀ i y,i<k→l[i]?=some y→p y=false) (fun k=>l.length - k) 0 rfl rfl ⟨by omega,by omega⟩ ?_
 rintro k ⟨hk,hno⟩
 by_cases hlt:k<l.length
 ·obtain ⟨y,hy⟩:∃ y,l[(k:Int).toNat]?=some y:=⟨_,List.getElem?_eq_getElem hlt⟩
  repeat' first|refine sk47 ?_|(intro b;conv=>whnf)|(with_reducible refine Br.d (fun hc=>?_) (fun hc=>?_))|(with_reducible refine Br.b (fun hc=>?_) (fun hc=>?_))
  ·refine Rt.pure (congrArg iD ?_)
   exact (ae7 hy ‹_› hno).symm
  ·exact ⟨k+1,rfl,rfl,⟨by omega,fun i z hi hz=>by
    by_cases e:i=k
    ·subst e;rw [show ((i:Int)).toNat=i from rfl,hz] at hy;cases hy;assumption
    ·exact hno i z (by omega) hz⟩,by omega⟩
 ·repeat' first|refine sk47 ?_|(intro b;conv=>whnf)
  refine Rt.pure (congrArg iD ?_)
  exact (al9 fun i y hy=>hno i y (by have:=(List.getElem?_eq_some_iff.1 hy).1;omega) hy).symm
theorem bN8 {f:FuncId} {cs:List D} (l:List Lif) (p:Lif→Bool) (hl:l.length≤1000000) (hp:∀ y∈l,APure Tryz.prog f [lifD y,.ro cs] (bD (p y))):APure Tryz.prog 197 [slL l,.clo f [.ro cs]] (iD (idx p l)):=by
 refine eP7 Tryz.func197 Tryz.ntmps197 fun BB=>?_
 repeat' first|refine sk47 ?_|(intro b;conv=>whnf)
 refine ad5 mixed aa0 (γ:=Nat) (fun k=>[(8,iD k)]) (fun _=>[]) (fun k=>k≤l.length∧∀ i y,i<k→l[i]?=some y→p y=false) (fun k=>l.length - k) 0 rfl rfl ⟨by omega,by omega⟩ ?_
 rintro k ⟨hk,hno⟩
 by_cases hlt:k<l.length
 ·obtain ⟨y,hy⟩:∃ y,l[(k:Int).toNat]?=some y:=⟨_,List.getElem?_eq_getElem hlt⟩
  repeat' first|refine sk47 ?_|(intro b;conv=>whnf)|(with_reducible refine Br.d (fun hc=>?_) (fun hc=>?_))|(with_reducible refine Br.b (fun hc=>?_) (fun hc=>?_))
  ·refine Rt.pure (congrArg iD ?_)
   exact (ae7 hy ‹_› hno).symm
  ·exact ⟨k+1,rfl,rfl,⟨by omega,fun i z hi hz=>by
    by_cases e:i=k
    ·subst e;rw [show ((i:Int)).toNat=i from rfl,hz] at hy;cases hy;assumption
    ·exact hno i z (by omega) hz⟩,by omega⟩
 ·repeat' first|refine sk47 ?_|(intro b;conv=>whnf)
  refine Rt.pure (congrArg iD ?_)
  exact (al9 fun i y hy=>hno i y (by have:=(List.getElem?_eq_some_iff.1 hy).1;omega) hy).symm
theorem sk49 {A B:Prop} (k:B) (h:Hd7 B→A:=by intro hk7q;(first|refine sb0 ?_|refine sb1 ?_|((with_reducible refine' Cp.by ?hc ?_);(case hc=>exact bN8 l p hl hp))|((with_reducible refine' CE.pure ?hc ?_);(case hc=>exact bN8 l p hl hp)));exact hk7q.run):A:=h ⟨k⟩
theorem bg3 {f:FuncId} {cs:List D} (l:List Lif) (p:Lif→Bool) (hl:l.length≤1000000) (hp:∀ y∈l,APure Tryz.prog f [lifD y,.ro cs] (bD (p y))):APure Tryz.prog 145 [slL l,.clo f [.ro cs]] (bD (l.any p)):=by
 refine eP7 Tryz.func145 Tryz.ntmps145 fun BB=>?_
 repeat' first|refine sk49 ?_|(intro b;conv=>whnf)
 refine Rt.pure (congrArg bD ?_)
 exact ap1 p l
theorem bN7 {f:FuncId} {cs:List D} (l:List Rul) (p:Rul→Bool) (hl:l.length≤1000000) (hp:∀ y∈l,APure Tryz.prog f [rulD y,.ro cs] (bD (p y))):APure Tryz.prog 237 [slR l,.clo f [.ro cs]] (iD (idx p l)):=by
 refine eP7 Tryz.func237 Tryz.ntmps237 fun BB=>?_
 repeat' first|refine sk47 ?_|(intro b;conv=>whnf)
 refine ad5 mixed aa0 (γ:=Nat) (fun k=>[(8,iD k)]) (fun _=>[]) (fun k=>k≤l.length∧∀ i y,i<k→l[i]?=some y→p y=false) (fun k=>l.length - k) 0 rfl rfl ⟨by omega,by omega⟩ ?_
 rintro k ⟨hk,hno⟩
 by_cases hlt:k<l.length
 ·obtain ⟨y,hy⟩:∃ y,l[(k:Int).toNat]?=some y:=⟨_,List.getElem?_eq_getElem hlt⟩
  repeat' first|refine sk47 ?_|(intro b;conv=>whnf)|(with_reducible refine Br.d (fun hc=>?_) (fun hc=>?_))|(with_reducible refine Br.b (fun hc=>?_) (fun hc=>?_))
  ·refine Rt.pure (congrArg iD ?_)
   exact (ae7 hy ‹_› hno).symm
  ·exact ⟨k+1,rfl,rfl,⟨by omega,fun i z hi hz=>by
    by_cases e:i=k
    ·subst e;rw [show ((i:Int)).toNat=i from rfl,hz] at hy;cases hy;assumption
    ·exact hno i z (by omega) hz⟩,by omega⟩
 ·repeat' first|refine sk47 ?_|(intro b;conv=>whnf)
  refine Rt.pure (congrArg iD ?_)
  exact (al9 fun i y hy=>hno i y (by have:=(List.getElem?_eq_some_iff.1 hy).1;omega) hy).symm
theorem sk50 {A B:Prop} (k:B) (h:Hd7 B→A:=by intro hk7q;(first|refine sb0 ?_|refine sb1 ?_|((with_reducible refine' Cp.by ?hc ?_);(case hc=>exact bN7 l p hl hp))|((with_reducible refine' CE.pure ?hc ?_);(case hc=>exact bN7 l p hl hp)));exact hk7q.run):A:=h ⟨k⟩
theorem bB6 {f:FuncId} {cs:List D} (l:List Rul) (p:Rul→Bool) (hl:l.length≤1000000) (hp:∀ y∈l,APure Tryz.prog f [rulD y,.ro cs] (bD (p y))):APure Tryz.prog 198 [slR l,.clo f [.ro cs]] (bD (l.any p)):=by
 refine eP7 Tryz.func198 Tryz.ntmps198 fun BB=>?_
 repeat' first|refine sk50 ?_|(intro b;conv=>whnf)
 refine Rt.pure (congrArg bD ?_)
 exact ap1 p l
end
section
open Go
theorem aB7:Le (.agg [sD ⟨#[]⟩,sD ⟨#[]⟩,sD ⟨#[]⟩,iD 0,iD 0,iD 0,.v (.slice none 0 0),.v (.slice none 0 0)]) (fldD aI1):=
 bN5 (LeL.cons (Le.refl _) (LeL.cons (Le.refl _) (LeL.cons (Le.refl _) (LeL.cons (Le.refl _) (LeL.cons (Le.refl _) (LeL.cons (Le.refl _) (LeL.cons (ae1 _) (LeL.cons (ae1 _) LeL.nil))))))))
theorem bs4 {x:Sch} {i j:Int} {f:Fld} (h:upIx x i j<0):topF x i j f=none:=by simp [topF,h]
theorem bs5 {x:Sch} {i j:Int} {f:Fld} {ko:Knd} (h:¬ upIx x i j<0) (hk:x.kinds[(upIx x i j).toNat]?=some ko):topF x i j f=fieldAt x (upIx x i j) (ac2 ko f.of):=by
 have:af3 x (upIx x i j)=some ko:=by unfold af3;rw [if_pos (by omega)];exact hk
 simp only [topF,this];rw [if_neg h]
theorem br4 (x:Sch) (i j:Int):upIx x i j<x.kinds.length:=by
 by_cases h:0≤upIx x i j
 ·obtain ⟨o,k,h1,h2⟩:=bQ5 x i j h
  have:=(List.getElem?_eq_some_iff.1 h2).1
  omega
 ·omega
theorem sk51 {A B:Prop} (k:B) (h:Hd7 B→A:=by intro hk7q;(first|refine sb0 ?_|refine sb1 ?_|((with_reducible refine' Cp.by ?hc ?_);(case hc=>first|exact aj9 _ _ (by assumption)|exact ah5 _ _ (by assumption)|exact aJ5 _ _ _ (by assumption) (by assumption)))|((with_reducible refine' CE.pure ?hc ?_);(case hc=>first|exact aj9 _ _ (by assumption)|exact ah5 _ _ (by assumption)|exact aJ5 _ _ _ (by assumption) (by assumption))));exact hk7q.run):A:=h ⟨k⟩
theorem aX0 (x:Sch) (i j:Int) (f:Fld) (hl:x.kinds.length≤1000000) (hf:∀ k∈x.kinds,k.fields.length≤1000000) (hfa:fieldAt x i j=some f):APure Tryz.prog 217 [schD x,iD i,iD j] (.tup [iD (abvR x i j f).1,fldD (abvR x i j f).2]):=by
 refine eP7 Tryz.func217 Tryz.ntmps217 fun BB=>?_
 obtain ⟨h0,h1,k,hk,hkf⟩:=ah3 hfa
 have hul:=br4 x i j
 by_cases hu:upIx x i j<0
 ·have ht:abvR x i j f=(-1,aI1):=by simp [abvR,bs4 hu]
  repeat' first|refine sk51 ?_|(intro b;conv=>whnf)|refine IxM.mk fun y hy=>?_|(with_reducible refine Br.d (fun hc=>?_) (fun hc=>?_))|(with_reducible refine Br.b (fun hc=>?_) (fun hc=>?_))
  rw [ht]
  exact Rt.vs (Vs.tup (VsL.cons (Vs.refl _ _) (VsL.cons (Vs.le aB7) (VsL.nil _))))
 ·obtain ⟨ko,hko⟩:∃ ko,x.kinds[(upIx x i j).toNat]?=some ko:=⟨_,List.getElem?_eq_getElem (by omega)⟩
  have hfk:=hf ko (List.mem_of_getElem? hko)
  have htf:=bs5 (f:=f) hu hko
  have hfl:=ap7 ko f.of
  repeat' first|refine sk51 ?_|(intro b;conv=>whnf)|refine IxM.mk fun y hy=>?_|(with_reducible refine Br.d (fun hc=>?_) (fun hc=>?_))|(with_reducible refine Br.b (fun hc=>?_) (fun hc=>?_))
  ·have ht:abvR x i j f=(-1,aI1):=by simp only [abvR,htf,aj3 (x:=x) (i:=upIx x i j) (j:=ac2 ko f.of) (by omega)]
   rw [ht]
   exact Rt.vs (Vs.tup (VsL.cons (Vs.refl _ _) (VsL.cons (Vs.le aB7) (VsL.nil _))))
  ·have ht:abvR x i j f=(y.kind,y):=by simp only [abvR,htf,ah2 (x:=x) (i:=upIx x i j) (j:=ac2 ko f.of) (by omega) (by omega) hko,hy]
   rw [ht]
   exact Rt.vs (Vs.refl _ _)
end
end Go.Proofs.YtlcfiilejnnlnaaGreatDoor
