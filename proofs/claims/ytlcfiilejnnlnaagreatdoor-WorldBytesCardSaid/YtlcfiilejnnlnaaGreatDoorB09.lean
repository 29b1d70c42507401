/- A part of the proof: O2 Zk Ze Zf Zg Zh. -/
import Derived.Test.YtlcfiilejnnlnaaGreatDoorB08
set_option maxRecDepth 100000
set_option maxHeartbeats 20000000
set_option linter.unusedVariables false
set_option linter.unusedSimpArgs false
namespace Go.Proofs.YtlcfiilejnnlnaaGreatDoor
section
open Go Go.RowKit Go.Shelf
section
variable {P:Program} {r:Option Nat} {n:Nat} {df:Nat} {ops:Array Oper} {Q:Pst} {a:List D} {σ:aa1} {md:Region.Mode}
def inE (l:List Nat) (i:Nat):Bool:=l.any (Nat.beq i)
inductive Or2 where
 | done
 | one (i:Nat) (t:Or2)
 | two (i:Nat) (t:Or2) (j:Nat) (u:Or2)
 | three (i:Nat) (t:Or2) (j:Nat) (u:Or2) (k:Nat) (v:Or2)
 | four (i:Nat) (t:Or2) (j:Nat) (u:Or2) (k:Nat) (v:Or2) (l:Nat) (w:Or2)
 | fst (i:Nat) (t:Or2)
def or2B (md:Region.Mode) (ops:Array Oper) (E:Nat→Bool):Nat→Or2→Array Bool→Bool
 | 0,.done,listed=>(Region.ready md ops listed).isEmpty
 | f+1,.one i t,listed=>decide (Region.ready md ops listed=[i]) && (E i && or2B md ops E f t (listed.setIfInBounds i true))
 | f+1,.two i t j u,listed=>decide (Region.ready md ops listed=[i,j]) && (E i && E j && (or2B md ops E f t (listed.setIfInBounds i true) && or2B md ops E f u (listed.setIfInBounds j true)))
 | f+1,.three i t j u k v,listed=>decide (Region.ready md ops listed=[i,j,k]) && (E i && E j && E k && (or2B md ops E f t (listed.setIfInBounds i true) && (or2B md ops E f u (listed.setIfInBounds j true) && or2B md ops E f v (listed.setIfInBounds k true))))
 | f+1,.four i t j u k v l w,listed=>decide (Region.ready md ops listed=[i,j,k,l]) && (E i && E j && E k && E l && (or2B md ops E f t (listed.setIfInBounds i true) && (or2B md ops E f u (listed.setIfInBounds j true) && (or2B md ops E f v (listed.setIfInBounds k true) && or2B md ops E f w (listed.setIfInBounds l true)))))
 | f+1,.fst i t,listed=>(Region.ready md ops listed).contains i && Region.free md ops listed i && !E i && or2B md ops E f t (listed.setIfInBounds i true)
 | _,_,_=>false
def gOr2 (P:Program) (r:Option Nat) (n:Nat) (df:Nat) (ops:Array Oper) (E:Nat→Bool) (L:List D→aa1→Prop):Or2→List D→aa1→Prop
 | .done,a,σ=>L a σ
 | .one i t,a,σ=>gOp P r n df ops E i (gOr2 P r n df ops E L t) a σ
 | .two i t j u,a,σ=>gOp P r n df ops E i (gOr2 P r n df ops E L t) a σ∧gOp P r n df ops E j (gOr2 P r n df ops E L u) a σ
 | .three i t j u k v,a,σ=>gOp P r n df ops E i (gOr2 P r n df ops E L t) a σ∧gOp P r n df ops E j (gOr2 P r n df ops E L u) a σ∧gOp P r n df ops E k (gOr2 P r n df ops E L v) a σ
 | .four i t j u k v l w,a,σ=>gOp P r n df ops E i (gOr2 P r n df ops E L t) a σ∧gOp P r n df ops E j (gOr2 P r n df ops E L u) a σ∧gOp P r n df ops E k (gOr2 P r n df ops E L v) a σ∧gOp P r n df ops E l (gOr2 P r n df ops E L w) a σ
 | .fst i t,a,σ=>∃ o d,ops[i]?=some o∧YsIn none P ops [] o d a∧gOr2 P r n df ops E L t (putD a o.dst d) σ
theorem ae9 {E:Nat→Bool} {L:List D→aa1→Prop}:∀ (f:Nat) (t:Or2) (listed:Array Bool) (a:List D) (σ:aa1),HeadInv md ops ops.size listed→or2B md ops E f t listed=true→gOr2 P r n df ops E L t a σ→gAny P r n df md ops E L f listed a σ
 | 0,.done,listed,a,σ,_,hB,h=>⟨by simpa [or2B] using hB,h⟩
 | f+1,.one i t,listed,a,σ,inv,hB,h=>by
  simp only [or2B,Bool.and_eq_true,decide_eq_true_eq] at hB
  refine ⟨fun h1=>(by rw [hB.1] at h1;cases h1),fun k hk=>?_⟩
  have hk2:=hk
  rw [hB.1] at hk
  have:k=i:=by simpa using hk
  subst this
  obtain ⟨_,o,ho,_⟩:=mem_ready.1 hk2
  exact ac4 (fun a' σ' h'=>ae9 f t _ a' σ' (inv.set hk2 (Array.getElem?_eq_some_iff.1 ho).1) hB.2.2 h') h
 | f+1,.two i t j u,listed,a,σ,inv,hB,h=>by
  simp only [or2B,Bool.and_eq_true,decide_eq_true_eq] at hB
  refine ⟨fun h1=>(by rw [hB.1] at h1;cases h1),fun k hk=>?_⟩
  have hk2:=hk
  rw [hB.1] at hk
  obtain ⟨_,o,ho,_⟩:=mem_ready.1 hk2
  have inv':=inv.set hk2 (Array.getElem?_eq_some_iff.1 ho).1
  have:k=i∨k=j:=by simpa using hk
  rcases this with rfl|rfl
  ·exact ac4 (fun a' σ' h'=>ae9 f t _ a' σ' inv' hB.2.2.1 h') h.1
  ·exact ac4 (fun a' σ' h'=>ae9 f u _ a' σ' inv' hB.2.2.2 h') h.2
 | f+1,.three i t j u l v,listed,a,σ,inv,hB,h=>by
  simp only [or2B,Bool.and_eq_true,decide_eq_true_eq] at hB
  refine ⟨fun h1=>(by rw [hB.1] at h1;cases h1),fun k hk=>?_⟩
  have hk2:=hk
  rw [hB.1] at hk
  obtain ⟨_,o,ho,_⟩:=mem_ready.1 hk2
  have inv':=inv.set hk2 (Array.getElem?_eq_some_iff.1 ho).1
  have:k=i∨k=j∨k=l:=by simpa using hk
  rcases this with rfl|rfl|rfl
  ·exact ac4 (fun a' σ' h'=>ae9 f t _ a' σ' inv' hB.2.2.1 h') h.1
  ·exact ac4 (fun a' σ' h'=>ae9 f u _ a' σ' inv' hB.2.2.2.1 h') h.2.1
  ·exact ac4 (fun a' σ' h'=>ae9 f v _ a' σ' inv' hB.2.2.2.2 h') h.2.2
 | f+1,.four i t j u l v m w,listed,a,σ,inv,hB,h=>by
  simp only [or2B,Bool.and_eq_true,decide_eq_true_eq] at hB
  refine ⟨fun h1=>(by rw [hB.1] at h1;cases h1),fun k hk=>?_⟩
  have hk2:=hk
  rw [hB.1] at hk
  obtain ⟨_,o,ho,_⟩:=mem_ready.1 hk2
  have inv':=inv.set hk2 (Array.getElem?_eq_some_iff.1 ho).1
  have:k=i∨k=j∨k=l∨k=m:=by simpa using hk
  rcases this with rfl|rfl|rfl|rfl
  ·exact ac4 (fun a' σ' h'=>ae9 f t _ a' σ' inv' hB.2.2.1 h') h.1
  ·exact ac4 (fun a' σ' h'=>ae9 f u _ a' σ' inv' hB.2.2.2.1 h') h.2.1
  ·exact ac4 (fun a' σ' h'=>ae9 f v _ a' σ' inv' hB.2.2.2.2.1 h') h.2.2.1
  ·exact ac4 (fun a' σ' h'=>ae9 f w _ a' σ' inv' hB.2.2.2.2.2 h') h.2.2.2
 | f+1,.fst i t,listed,a,σ,inv,hB,h=>by
  simp only [or2B,Bool.and_eq_true,Bool.not_eq_true'] at hB
  obtain ⟨⟨⟨hr,hf⟩,hE⟩,hB'⟩:=hB
  obtain ⟨o,d,ho,hy,hk⟩:=h
  have hr':i∈Region.ready md ops listed:=by simpa using hr
  have hin:i<ops.size:=(Array.getElem?_eq_some_iff.1 ho).1
  have H:=ae9 f t _ _ _ (inv.set hr' hin) hB' hk
  exact an3 (S:=fun _=>True) ho hE (fun _ _ _ _ _ _ _=>trivial) f listed a σ inv (Region.free_spec ho hf) hr' trivial (fun s _=>hy.free s) H
 | 0,.one _ _,_,_,_,_,hB,_=>by cases hB
 | 0,.three _ _ _ _ _ _,_,_,_,_,hB,_=>by cases hB
 | 0,.four _ _ _ _ _ _ _ _,_,_,_,_,hB,_=>by cases hB
 | 0,.two _ _ _ _,_,_,_,_,hB,_=>by cases hB
 | 0,.fst _ _,_,_,_,_,hB,_=>by cases hB
 | _+1,.done,_,_,_,_,hB,_=>by cases hB
def bv6 (md:Region.Mode) (ops:Array Oper) (E:Nat→Bool) (f:Nat) (t:Or2):List Nat→Array Bool→Bool
 | [],listed=>or2B md ops E f t listed
 | i :: hs,listed=>(Region.ready md ops listed).contains i && Region.free md ops listed i && !E i && bv6 md ops E f t hs (listed.setIfInBounds i true)
theorem aF6 {E:Nat→Bool} {L:List D→aa1→Prop} {f:Nat} {t:Or2}:∀ (hs:List Nat) (listed:Array Bool) (a:List D) (σ:aa1),HeadInv md ops ops.size listed→bv6 md ops E f t hs listed=true →
  gLex P md ops E (gOr2 P r n df ops E L t) hs a σ→gAny P r n df md ops E L (hs.length+f) listed a σ
 | [],listed,a,σ,inv,hB,h=>by
  rw [show ([]:List Nat).length+f=f by simp]
  exact ae9 f t listed a σ inv hB h
 | i :: hs,listed,a,σ,inv,hB,h=>by
  simp only [bv6,Bool.and_eq_true,Bool.not_eq_true'] at hB
  obtain ⟨⟨⟨hr,hf⟩,hE⟩,hB'⟩:=hB
  obtain ⟨o,d,ho,hy,hk⟩:=h
  have hr':i∈Region.ready md ops listed:=by simpa using hr
  have hin:i<ops.size:=(Array.getElem?_eq_some_iff.1 ho).1
  have H:=aF6 hs _ _ _ (inv.set hr' hin) hB' hk
  rw [show (i :: hs).length+f=(hs.length+f)+1 by simp;omega]
  rcases hy with ⟨hb,hy⟩|hy
  ·exact an3 (S:=fun s=>s=σ) ho hE (fun ls i1 i2 j hj e=>by rw [bg0 hb ls i1 i2 j hj] at e;cases e) _ listed a σ inv (Region.free_spec ho hf) hr' rfl (fun s e=>by subst e;exact hy) H
  ·exact an3 (S:=fun _=>True) ho hE (fun _ _ _ _ _ _ _=>trivial) _ listed a σ inv (Region.free_spec ho hf) hr' trivial (fun s _=>hy.free s) H
theorem bb1 {id:Nat} {l:List Oper} (E:Nat→Bool) (hs:List Nat) (f:Nat) (t:Or2) (hm:P.follows .mixedOrders=true) (hl:hs.length+f=l.length) (hB:bv6 .any l.toArray E f t hs (Array.replicate l.length false)=true)
  (h:gLex P .any l.toArray E (gOr2 P r n df l.toArray E (fun a σ=>Q .normal a σ) t) hs a σ):AWP P r n df (.region id l.toArray true) Q a σ:=by
 refine ⟨fun w X fr hst=>?_⟩
 have inv0:HeadInv .any l.toArray l.toArray.size (Array.replicate l.length false):=
  ⟨by simp,fun j oj _ hl=>(by rw [getD_replicate_false] at hl;cases hl),fun t ht ht'=>by omega⟩
 refine wpIn_region_any hm ?_
 have hx0:=ax7 w
 have:=ak5 (w0:=w) (σ0:=σ) (X:=X) _ _ _ _ fr { w with drawn:=w.drawn+1 } (Mv.of_ex hx0) (hst.ex hx0) (aF6 hs _ a σ inv0 hB h)
 rw [hl] at this
 have e:l.toArray.size=l.length:=by simp
 rw [e]
 exact this
theorem ah6 {E:Nat→Bool} {L L':List D→aa1→Prop} (h:∀ a σ,L a σ→L' a σ):∀ {t:Or2} {a:List D} {σ:aa1},gOr2 P r n df ops E L t a σ→gOr2 P r n df ops E L' t a σ
 | .done,_,_,hh=>h _ _ hh
 | .one _ _,_,_,hh=>ac4 (fun _ _=>ah6 h) hh
 | .two _ _ _ _,_,_,hh=>⟨ac4 (fun _ _=>ah6 h) hh.1,ac4 (fun _ _=>ah6 h) hh.2⟩
 | .three _ _ _ _ _ _,_,_,hh=>⟨ac4 (fun _ _=>ah6 h) hh.1,ac4 (fun _ _=>ah6 h) hh.2.1,ac4 (fun _ _=>ah6 h) hh.2.2⟩
 | .four _ _ _ _ _ _ _ _,_,_,hh=>⟨ac4 (fun _ _=>ah6 h) hh.1,ac4 (fun _ _=>ah6 h) hh.2.1,ac4 (fun _ _=>ah6 h) hh.2.2.1,ac4 (fun _ _=>ah6 h) hh.2.2.2⟩
 | .fst _ _,_,_,hh=>let ⟨o,d,h1,h2,h3⟩:=hh;⟨o,d,h1,h2,ah6 h h3⟩
end
section
variable {P:Program} {r:Option Nat} {n:Nat} {df:Nat} {N:Nat} {σ:aa1} {a:List D} {f:Frm} {T:TypeId→Option TI} {L:List Oper} {Q:Fst}
def bY1 (P:Program) (T:TypeId→Option TI) (N:Nat) (L:List Oper) (i:Nat) (K:Frm→Prop) (f:Frm):Prop:=match L[i]? with
 | none=>False
 | some o=>exG L f o fun go=>match go with
  | true=>bif ag7 o.op then exY P T o f [] (fun d=>putK N o.dst d f K) else False
  | false=>putK N o.dst (.v undef) f K
def aC4 (P:Program) (T:TypeId→Option TI) (r:Option Nat) (n:Nat) (df:Nat) (N:Nat) (L:List Oper) (K:Frm→aa1→Prop):Or2→Frm→aa1→Prop
 | .done,f,σ=>K f σ
 | .one i t,f,σ=>ap2 P T r n df N L i (aC4 P T r n df N L K t) f σ
 | .two i t j u,f,σ=>ap2 P T r n df N L i (aC4 P T r n df N L K t) f σ∧ap2 P T r n df N L j (aC4 P T r n df N L K u) f σ
 | .three i t j u k v,f,σ=>ap2 P T r n df N L i (aC4 P T r n df N L K t) f σ∧ap2 P T r n df N L j (aC4 P T r n df N L K u) f σ∧ap2 P T r n df N L k (aC4 P T r n df N L K v) f σ
 | .four i t j u k v l w,f,σ=>ap2 P T r n df N L i (aC4 P T r n df N L K t) f σ∧ap2 P T r n df N L j (aC4 P T r n df N L K u) f σ∧ap2 P T r n df N L k (aC4 P T r n df N L K v) f σ∧ap2 P T r n df N L l (aC4 P T r n df N L K w) f σ
 | .fst i t,f,σ=>bY1 P T N L i (fun f'=>aC4 P T r n df N L K t f' σ) f
theorem bI8 (hT:∀ t i,T t=some i→tiOf P t=some i) {i:Nat} {K:Frm→Prop} (h:bY1 P T N L i K f) (hs:Sp N a f):∃ o d,L.toArray[i]?=some o∧YsIn none P L.toArray [] o d a∧∃ f',Sp N (putD a o.dst d) f'∧K f':=by
 unfold bY1 at h
 split at h
 ·exact h.elim
 ·rename_i o ho
  have ho':L.toArray[i]?=some o:=by simpa using ho
  obtain ⟨go,hw,h1⟩:=aP2 (K:=fun go=>match go with
   | true=>bif ag7 o.op then exY P T o f [] (fun d=>putK N o.dst d f K) else False
   | false=>putK N o.dst (.v undef) f K) h hs
  cases go with
  | true=>
   obtain ⟨hn,h2⟩:=af0 h1
   obtain ⟨d,hy,h3⟩:=aP1 hT h2
   obtain ⟨f',hs',h4⟩:=ac7 h3 hs
   exact ⟨o,d,ho',.inl ⟨hw,hn,.of (hy.le hs.le)⟩,f',hs',h4⟩
  | false=>
   obtain ⟨f',hs',h4⟩:=ac7 h1 hs
   exact ⟨o,_,ho',.inr ⟨hw,rfl⟩,f',hs',h4⟩
def am8 (p:Nat→Bool):Or2→Bool
 | .done=>true
 | .one i t=>p i && am8 p t
 | .two i t j u=>p i && (am8 p t && (p j && am8 p u))
 | .three i t j u k v=>p i && (am8 p t && (p j && (am8 p u && (p k && am8 p v))))
 | .four i t j u k v l w=>p i && (am8 p t && (p j && (am8 p u && (p k && (am8 p v && (p l && am8 p w))))))
 | .fst _ t=>am8 p t
theorem ak1 (hT:∀ t i,T t=some i→tiOf P t=some i) {E:Nat→Bool}:∀ {t:Or2} {K:Frm→aa1→Prop} {f:Frm} {σ:aa1} {a:List D},am8 E t=true→aC4 P T r n df N L K t f σ→Sp N a f→gOr2 P r n df L.toArray E (fun a' σ'=>∃ f',Sp N a' f'∧K f' σ') t a σ
 | .done,K,f,σ,a,hE,h,hs=>⟨f,hs,h⟩
 | .one i t,K,f,σ,a,hE,h,hs=>by
  simp only [am8,Bool.and_eq_true] at hE
  exact ah9 hT hE.1 h hs (fun f' σ' a' h2 hs'=>ak1 hT hE.2 h2 hs')
 | .two i t j u,K,f,σ,a,hE,h,hs=>by
  simp only [am8,Bool.and_eq_true] at hE
  exact ⟨ah9 hT hE.1 h.1 hs (fun f' σ' a' h2 hs'=>ak1 hT hE.2.1 h2 hs'),ah9 hT hE.2.2.1 h.2 hs (fun f' σ' a' h2 hs'=>ak1 hT hE.2.2.2 h2 hs')⟩
 | .three i t j u k v,K,f,σ,a,hE,h,hs=>by
  simp only [am8,Bool.and_eq_true] at hE
  exact ⟨ah9 hT hE.1 h.1 hs (fun f' σ' a' h2 hs'=>ak1 hT hE.2.1 h2 hs'),ah9 hT hE.2.2.1 h.2.1 hs (fun f' σ' a' h2 hs'=>ak1 hT hE.2.2.2.1 h2 hs'),ah9 hT hE.2.2.2.2.1 h.2.2 hs (fun f' σ' a' h2 hs'=>ak1 hT hE.2.2.2.2.2 h2 hs')⟩
 | .four i t j u k v l w,K,f,σ,a,hE,h,hs=>by
  simp only [am8,Bool.and_eq_true] at hE
  exact ⟨ah9 hT hE.1 h.1 hs (fun f' σ' a' h2 hs'=>ak1 hT hE.2.1 h2 hs'),ah9 hT hE.2.2.1 h.2.1 hs (fun f' σ' a' h2 hs'=>ak1 hT hE.2.2.2.1 h2 hs'),ah9 hT hE.2.2.2.2.1 h.2.2.1 hs (fun f' σ' a' h2 hs'=>ak1 hT hE.2.2.2.2.2.1 h2 hs'),ah9 hT hE.2.2.2.2.2.2.1 h.2.2.2 hs (fun f' σ' a' h2 hs'=>ak1 hT hE.2.2.2.2.2.2.2 h2 hs')⟩
 | .fst i t,K,f,σ,a,hE,h,hs=>by
  simp only [am8] at hE
  obtain ⟨o,d,h1,h2,f',h3,h4⟩:=bI8 (K:=fun f'=>aC4 P T r n df N L K t f' σ) hT h hs
  exact ⟨o,d,h1,h2,ak1 hT hE h4 h3⟩
theorem al6 (hm:P.follows .mixedOrders=true) (hT:∀ t i,T t=some i→tiOf P t=some i) {id:Nat} {O:Array Oper} (hO:O=L.toArray) (hs:List Nat) (fu:Nat) (E:Nat→Bool) (t:Or2) {γ:Type} (ps:γ→Frm) (S:γ→aa1) (I:γ→Prop)
  (hB:(Nat.beq (hs.length+fu) L.length && bv6 .any L.toArray E fu t hs (Array.replicate L.length false) && am8 E t)=true)
  (h:W (exHs P T N L E σ hs (fun f1=>aC4 P T r n df N L (fun f' σ'=>∃ g,chkF f' (aq3 (.region id O true) f (ps g))∧Sc σ' (S g)∧I g) t f1 σ) f))
  (kk:∀ g,I g→W (aC1 (aq3 (.region id O true) f (ps g)) fun F=>Q .normal F (S g))):Lp P r n df N (.region id O true) Q f σ:=by
 subst hO
 simp only [Bool.and_eq_true] at hB
 refine ⟨fun a hs'=>?_⟩
 refine aH7 (bb1 (Q:=fun e a' σ'=>e = .normal∧∃ f',Sp N a' f'∧∃ g,chkF f' (aq3 (.region id L.toArray true) f (ps g))∧Sc σ' (S g)∧I g) E hs fu t hm (Nat.eq_of_beq_eq_true hB.1.1) hB.1.2 (aw9 (fun a' σ' h'=>?_) (az4 hT h.h hs'))) ?_
 ·obtain ⟨rfl,f',h1,h2⟩:=h'
  have:=ak1 hT hB.2 h2 h1
  exact ah6 (fun a σ h=>⟨rfl,h⟩) this
 ·rintro e a' σ' ⟨rfl,f',h1,g,h2,h4,h3⟩
  exact ⟨S g,h4,_,h1.sub h2,ao5 (kk g h3).h⟩
end
end
section
open Go
theorem bV4:∀ n∈kLit,n<4294967296:=by decide
theorem bw9 {i n:Nat} (h:kLit[i]?=some n):wV (kAt i) = .int .u32 (n:Int):=by
 have h1:=bV4 n (List.mem_of_getElem? h)
 unfold kAt wV
 rw [List.getD_eq_getElem?_getD,h,Option.getD_some,BitVec.toNat_ofNat,Nat.mod_eq_of_lt h1]
theorem bw8 {i:Nat} (h:i<64):∃ n,kLit[i]?=some n:=⟨_,List.getElem?_eq_getElem (by show i<64;exact h)⟩
def kD:List D:=(List.range 64).map fun i=>wD (kAt i)
theorem co3 {i:Nat} (h:i<64):kD[i]?=some (wD (kAt i)):=by unfold kD;rw [List.getElem?_map,List.getElem?_range h];rfl
section
variable {ρ:Operand→D} {σ:aa1}
theorem cm7 {o:Oper} (ho:o.op = .load 293 (.global 1)) (hρ:ρ (.global 1) = .v (.pointer (some ⟨1,0,none⟩))):Yd Tryz.prog o ρ σ (.agg kD):=by
 intro w X η hη hst
 obtain ⟨dst,op,ty,pos,aft,g⟩:=o
 simp only at ho
 subst ho
 have hp:=(hη (.global 1) (by simp [Op.operands])).val hρ
 obtain ⟨g1,g2⟩:=aE6 (aa0 293 _ rfl) w
 have hr:=ar2 (P:=Tryz.prog) (w:=w) (t:=293) (n:=64) (b:=1) (off:=0) (f:=fun j=>wV (kAt j)) g1 g2 (fun j hj=>by
  obtain ⟨n,hn⟩:=bw8 hj
  rw [bw9 hn,Nat.zero_add]
  exact hst.gok.hc j n hn)
 refine ac8 (s:=Instr.loadAt 293 (η (.global 1))) (by rw [hp];exact hr) (Ex.refl w) (.agg _ _ (by simp [kD]) (fun j d u h1 h2=>?_))
 unfold kD at h1
 rw [List.getElem?_map] at h1 h2
 cases hq:(List.range 64)[j]? with
 | none=>rw [hq] at h1;cases h1
 | some z=>rw [hq] at h1 h2;cases h1;cases h2;exact .v _
theorem cm5 {o:Oper} {x:Operand} {j:Nat} (hj:j<64) (ho:o.op = .load 168 x) (hx:ρ x = .v (.pointer (some ⟨2,j,none⟩))):Yd Tryz.prog o ρ σ (wD (kAt j)):=by
 intro w X η hη hst
 obtain ⟨dst,op,ty,pos,aft,g⟩:=o
 simp only at ho
 subst ho
 have hp:=(hη x (by simp [Op.operands])).val hx
 obtain ⟨g1,g2⟩:=aE6 (aa0 168 _ rfl) w
 obtain ⟨n,hn⟩:=bw8 hj
 refine ac8 (s:=Instr.loadAt 168 (η x)) (u:=wV (kAt j)) ?_ (Ex.refl w) (.v _)
 rw [hp]
 exact an8 g1 (by rw [bw9 hn];exact hst.gok.rc j n hn)
end
end
section
open Go
abbrev s8D (s:S8):D:=.agg [wD s.a,wD s.b,wD s.c,wD s.d,wD s.e,wD s.f,wD s.g,wD s.h]
theorem aI3 {P:Program} {σ:aa1} {ρ:Operand→D} {T:TypeId→Option TI} (hT:∀ t i,T t=some i→tiOf P t=some i) {o:Oper} {t:TypeId} {x ix:Operand} {b off n:Nat} {kk:IntKind} {j:Int} {ag:Bool} {i:TI} (ho:o.op = .indexAddr t x ix) (hx:ρ x = .v (.pointer (some ⟨b,off,none⟩))) (hi:ρ ix = .v (.int kk j)) (ht:T t=some i) (ha:i.arr=some (n,ag,1)) (hj:0≤j) (hm:j.toNat<n):Yd P o ρ σ (.v (.pointer (some ⟨b,off+j.toNat,none⟩))):=
 an1 hT ho hx hi ht ha (by omega) hm rfl
def cn5 (s r:S8):Nat→List D
 | 0=>[wD s.a,wD s.b,wD s.c,wD s.d,wD s.e,wD s.f,wD s.g,wD s.h]
 | 1=>[wD (s.a+r.a),wD s.b,wD s.c,wD s.d,wD (s.e+r.e),wD s.f,wD s.g,wD s.h]
 | 2=>[wD (s.a+r.a),wD (s.b+r.b),wD s.c,wD s.d,wD (s.e+r.e),wD (s.f+r.f),wD s.g,wD s.h]
 | 3=>[wD (s.a+r.a),wD (s.b+r.b),wD (s.c+r.c),wD s.d,wD (s.e+r.e),wD (s.f+r.f),wD (s.g+r.g),wD s.h]
 | _=>[wD (s.a+r.a),wD (s.b+r.b),wD (s.c+r.c),wD (s.d+r.d),wD (s.e+r.e),wD (s.f+r.f),wD (s.g+r.g),wD (s.h+r.h)]
abbrev ptrD (b:Nat):D:=.v (.pointer (some ⟨b,0,none⟩))
theorem sb24 {A B:Prop} (k:B) (h:Hd7 B→A:=by intro hk7q;(first|((with_reducible refine W.mk ?_);(conv=>whnf))|(with_reducible refine Br.tt ?_)|(with_reducible refine Br.ff ?_)|(with_reducible refine Br.n ?_)|((with_reducible refine' Br.eq ?h ?_);(case h=>(simp only [List.length_map,List.length_take,List.length_append,List.length_cons,List.length_nil,List.length_replicate,Nat.reduceAdd];exact rfl)))|((with_reducible refine Sd.go ?qs7 ?_);(case qs7=>first|trivial|(constructor <;> omega)|omega|assumption|((try simp only [List.length_map,List.length_take,List.length_append,List.length_cons,List.length_nil,List.length_replicate,Nat.reduceAdd] at *);first|(constructor <;> omega)|omega)))|((with_reducible refine Ck.go ?qs7 ?_);(case qs7=>kernel_rfl))|((with_reducible refine' Ix.mapAt ?hy ?h0 ?_);(case hy=>assumption);(case h0=>omega))|((with_reducible refine' Ix.at ?hy ?h0 ?_);(case hy=>exact rfl);(case h0=>omega))|((with_reducible refine Ix.mapM ?h0 ?_);(case h0=>first|omega|(simp only [List.length_map,List.length_take,List.length_append,List.length_cons,List.length_nil,List.length_replicate,Nat.reduceAdd] at *;omega)))|((with_reducible refine' Ld.at 0 ?h1 ?h2 ?h3 ?_);(case h1=>exact rfl);(case h2=>exact rfl);(case h3=>exact rfl))|((with_reducible refine' Ld.at 1 ?h1 ?h2 ?h3 ?_);(case h1=>exact rfl);(case h2=>exact rfl);(case h3=>exact rfl))|((with_reducible refine' Ld.at 2 ?h1 ?h2 ?h3 ?_);(case h1=>exact rfl);(case h2=>exact rfl);(case h3=>exact rfl))|((with_reducible refine' Ld.at 3 ?h1 ?h2 ?h3 ?_);(case h1=>exact rfl);(case h2=>exact rfl);(case h3=>exact rfl))|((with_reducible refine' Ld.at 4 ?h1 ?h2 ?h3 ?_);(case h1=>exact rfl);(case h2=>exact rfl);(case h3=>exact rfl))|fail|((with_reducible refine' Ot.yd ?hyd ?_);(case hyd=>first|(refine' ap9 aa0 rfl rfl rfl rfl rfl ?hc ?h0;(case hc=>assumption);(case h0=>omega))|(refine ap8 aa0 rfl rfl rfl rfl rfl ?_;first|omega|(simp only [List.length_map,List.length_take,List.length_append,List.length_cons,List.length_nil,List.length_replicate,Nat.reduceAdd];omega))|exact av7 rfl rfl rfl|exact av8 rfl rfl rfl|(refine aI3 aa0 rfl rfl rfl rfl rfl ?_ ?_ <;> decide)))|((with_reducible refine' Rs.tc aa0 (m:=0) ?h ?hi ?hj ?hb ?ht ?hag ?hs ?_);(case h=>exact rfl);(case hi=>exact rfl);(case hj=>exact rfl);(case hb=>exact rfl);(case ht=>exact rfl);(case hag=>exact rfl);(case hs=>exact rfl))|((with_reducible refine' Rs.ct aa0 (m:=0) ?h ?hi ?hj ?hb ?ht ?hag ?hs ?_);(case h=>exact rfl);(case hi=>exact rfl);(case hj=>exact rfl);(case hb=>exact rfl);(case ht=>exact rfl);(case hag=>exact rfl);(case hs=>exact rfl))|((with_reducible refine' Rs.c aa0 (m:=0) ?h ?hj ?hb ?ht ?hag ?hs ?_);(case h=>exact rfl);(case hj=>exact rfl);(case hb=>exact rfl);(case ht=>exact rfl);(case hag=>exact rfl);(case hs=>exact rfl))|((with_reducible refine Br.dt ?h ?_);(case h=>omega))|((with_reducible refine Br.df ?h ?_);(case h=>omega))|((with_reducible refine Br.t ?h ?_);(case h=>assumption))|((with_reducible refine Br.f ?h ?_);(case h=>assumption))|((with_reducible refine Br.t ?h ?_);(case h=>(refine decide_eq_true ?_;omega)))|((with_reducible refine Br.f ?h ?_);(case h=>(refine decide_eq_false ?_;omega))));exact hk7q.run):A:=h ⟨k⟩
theorem sk25 {A B:Prop} (k:B) (h:Hd7 B→A:=by intro hk7q;(first|refine sb24 ?_|refine sb1 ?_|((with_reducible refine' Cp.by ?hc ?_);(case hc=>first|exact HS|exact aF4 _ 6 11 25 (by decide) (by decide) (by decide) (by decide) (by decide) (by decide)|exact aF4 _ 2 13 22 (by decide) (by decide) (by decide) (by decide) (by decide) (by decide)))|((with_reducible refine' CE.pure ?hc ?_);(case hc=>first|exact HS|exact aF4 _ 6 11 25 (by decide) (by decide) (by decide) (by decide) (by decide) (by decide)|exact aF4 _ 2 13 22 (by decide) (by decide) (by decide) (by decide) (by decide) (by decide))));exact hk7q.run):A:=h ⟨k⟩
theorem sb26 {A B:Prop} (k:B) (h:Hd7 B→A:=by intro hk7q;(first|((with_reducible refine W.mk ?_);(conv=>whnf))|(with_reducible refine Br.tt ?_)|(with_reducible refine Br.ff ?_)|(with_reducible refine Br.n ?_)|((with_reducible refine' Br.eq ?h ?_);(case h=>(simp only [List.length_map,List.length_take,List.length_append,List.length_cons,List.length_nil,List.length_replicate,Nat.reduceAdd];exact rfl)))|((with_reducible refine Sd.go ?qs7 ?_);(case qs7=>first|trivial|(constructor <;> omega)|omega|assumption|((try simp only [List.length_map,List.length_take,List.length_append,List.length_cons,List.length_nil,List.length_replicate,Nat.reduceAdd] at *);first|(constructor <;> omega)|omega)))|((with_reducible refine Ck.go ?qs7 ?_);(case qs7=>kernel_rfl))|((with_reducible refine' Ix.mapAt ?hy ?h0 ?_);(case hy=>assumption);(case h0=>omega))|((with_reducible refine' Ix.at ?hy ?h0 ?_);(case hy=>exact rfl);(case h0=>omega))|((with_reducible refine Ix.mapM ?h0 ?_);(case h0=>first|omega|(simp only [List.length_map,List.length_take,List.length_append,List.length_cons,List.length_nil,List.length_replicate,Nat.reduceAdd] at *;omega)))|((with_reducible refine' Ld.at 0 ?h1 ?h2 ?h3 ?_);(case h1=>exact rfl);(case h2=>exact rfl);(case h3=>exact rfl))|((with_reducible refine' Ld.at 1 ?h1 ?h2 ?h3 ?_);(case h1=>exact rfl);(case h2=>exact rfl);(case h3=>exact rfl))|((with_reducible refine' Ld.at 2 ?h1 ?h2 ?h3 ?_);(case h1=>exact rfl);(case h2=>exact rfl);(case h3=>exact rfl))|((with_reducible refine' Ld.at 3 ?h1 ?h2 ?h3 ?_);(case h1=>exact rfl);(case h2=>exact rfl);(case h3=>exact rfl))|((with_reducible refine' Ld.at 4 ?h1 ?h2 ?h3 ?_);(case h1=>exact rfl);(case h2=>exact rfl);(case h3=>exact rfl))|((with_reducible refine' Sv.at 0 ?h1 ?h2 ?h3 ?h4 ?h5 ?_);(case h1=>exact rfl);(case h2=>exact rfl);(case h3=>exact rfl);(case h4=>exact rfl);(case h5=>exact (by first|(simp only [List.set_cons_succ,List.set_cons_zero,spl,ad8,mkD,List.take_succ_cons,List.take_zero,List.drop_succ_cons,List.drop_zero,List.length_cons,List.length_nil,List.nil_append,List.cons_append,Nat.reduceAdd,Nat.zero_add,List.append_nil,List.map_cons,List.map_nil];rfl)|rfl)))|((with_reducible refine' Sv.at 1 ?h1 ?h2 ?h3 ?h4 ?h5 ?_);(case h1=>exact rfl);(case h2=>exact rfl);(case h3=>exact rfl);(case h4=>exact rfl);(case h5=>exact (by first|(simp only [List.set_cons_succ,List.set_cons_zero,spl,ad8,mkD,List.take_succ_cons,List.take_zero,List.drop_succ_cons,List.drop_zero,List.length_cons,List.length_nil,List.nil_append,List.cons_append,Nat.reduceAdd,Nat.zero_add,List.append_nil,List.map_cons,List.map_nil];rfl)|rfl)))|((with_reducible refine' Sv.at 2 ?h1 ?h2 ?h3 ?h4 ?h5 ?_);(case h1=>exact rfl);(case h2=>exact rfl);(case h3=>exact rfl);(case h4=>exact rfl);(case h5=>exact (by first|(simp only [List.set_cons_succ,List.set_cons_zero,spl,ad8,mkD,List.take_succ_cons,List.take_zero,List.drop_succ_cons,List.drop_zero,List.length_cons,List.length_nil,List.nil_append,List.cons_append,Nat.reduceAdd,Nat.zero_add,List.append_nil,List.map_cons,List.map_nil];rfl)|rfl)))|((with_reducible refine' Sv.at 3 ?h1 ?h2 ?h3 ?h4 ?h5 ?_);(case h1=>exact rfl);(case h2=>exact rfl);(case h3=>exact rfl);(case h4=>exact rfl);(case h5=>exact (by first|(simp only [List.set_cons_succ,List.set_cons_zero,spl,ad8,mkD,List.take_succ_cons,List.take_zero,List.drop_succ_cons,List.drop_zero,List.length_cons,List.length_nil,List.nil_append,List.cons_append,Nat.reduceAdd,Nat.zero_add,List.append_nil,List.map_cons,List.map_nil];rfl)|rfl)))|((with_reducible refine' Sv.at 4 ?h1 ?h2 ?h3 ?h4 ?h5 ?_);(case h1=>exact rfl);(case h2=>exact rfl);(case h3=>exact rfl);(case h4=>exact rfl);(case h5=>exact (by first|(simp only [List.set_cons_succ,List.set_cons_zero,spl,ad8,mkD,List.take_succ_cons,List.take_zero,List.drop_succ_cons,List.drop_zero,List.length_cons,List.length_nil,List.nil_append,List.cons_append,Nat.reduceAdd,Nat.zero_add,List.append_nil,List.map_cons,List.map_nil];rfl)|rfl)))|((with_reducible refine' Ot.yd ?hyd ?_);(case hyd=>first|(refine' ap9 aa0 rfl rfl rfl rfl rfl ?hc ?h0;(case hc=>assumption);(case h0=>omega))|(refine ap8 aa0 rfl rfl rfl rfl rfl ?_;first|omega|(simp only [List.length_map,List.length_take,List.length_append,List.length_cons,List.length_nil,List.length_replicate,Nat.reduceAdd];omega))|exact av7 rfl rfl rfl|exact av8 rfl rfl rfl|(refine aI3 aa0 rfl rfl rfl rfl rfl ?_ ?_ <;> decide)))|((with_reducible refine' Rs.tc aa0 (m:=0) ?h ?hi ?hj ?hb ?ht ?hag ?hs ?_);(case h=>exact rfl);(case hi=>exact rfl);(case hj=>exact rfl);(case hb=>exact rfl);(case ht=>exact rfl);(case hag=>exact rfl);(case hs=>exact rfl))|((with_reducible refine' Rs.ct aa0 (m:=0) ?h ?hi ?hj ?hb ?ht ?hag ?hs ?_);(case h=>exact rfl);(case hi=>exact rfl);(case hj=>exact rfl);(case hb=>exact rfl);(case ht=>exact rfl);(case hag=>exact rfl);(case hs=>exact rfl))|((with_reducible refine' Rs.c aa0 (m:=0) ?h ?hj ?hb ?ht ?hag ?hs ?_);(case h=>exact rfl);(case hj=>exact rfl);(case hb=>exact rfl);(case ht=>exact rfl);(case hag=>exact rfl);(case hs=>exact rfl))|((with_reducible refine Br.dt ?h ?_);(case h=>omega))|((with_reducible refine Br.df ?h ?_);(case h=>omega))|((with_reducible refine Br.t ?h ?_);(case h=>assumption))|((with_reducible refine Br.f ?h ?_);(case h=>assumption))|((with_reducible refine Br.t ?h ?_);(case h=>(refine decide_eq_true ?_;omega)))|((with_reducible refine Br.f ?h ?_);(case h=>(refine decide_eq_false ?_;omega))));exact hk7q.run):A:=h ⟨k⟩
theorem sk27 {A B:Prop} (k:B) (h:Hd7 B→A:=by intro hk7q;(first|refine sb26 ?_|refine sb1 ?_|((with_reducible refine' Cp.by ?hc ?_);(case hc=>first|exact HS|exact aF4 _ 6 11 25 (by decide) (by decide) (by decide) (by decide) (by decide) (by decide)|exact aF4 _ 2 13 22 (by decide) (by decide) (by decide) (by decide) (by decide) (by decide)))|((with_reducible refine' CE.pure ?hc ?_);(case hc=>first|exact HS|exact aF4 _ 6 11 25 (by decide) (by decide) (by decide) (by decide) (by decide) (by decide)|exact aF4 _ 2 13 22 (by decide) (by decide) (by decide) (by decide) (by decide) (by decide))));exact hk7q.run):A:=h ⟨k⟩
theorem bH8 (s:S8) (y:List Nat) (hb:y.length=64) (hlt:∀ d∈y,d<256):APure Tryz.prog 139 [s8D s,slY y] (s8D (aU5 s y)):=by
 have HS:=bH7 y hb hlt
 have hl:=ax3 y 64
 obtain ⟨l,hL⟩:∃ l,l=schN y 64:=⟨_,rfl⟩
 rw [← hL] at hl HS
 unfold aV3 at HS
 refine eP7 Tryz.func139 Tryz.ntmps139 fun BB=>?_
 (((with_reducible refine W.mk ?_);(conv=>whnf)))
 refine Bx.r ?_
 refine OtE.box (t:=169) rfl rfl (fun b2=>?_)
 repeat' first|refine sk25 ?_|(intro b;conv=>whnf)
 rename_i b4
 refine Sv.perm (cs':=l.map wD) (List.Perm.refl _) rfl (by decide) rfl (by rw [← aV2 hl];rfl) ?_
 repeat' first|refine sk27 ?_|(intro b;conv=>whnf)
 refine Dm.r ?_
 refine W.mk ?_
 refine al6 mixed aa0 rfl [0,1,3,4] 6 (inE [2,5,6,7,8,9]) (.four 2 (.three 5 (.two 6 (.one 7 (.one 8 (.one 9 .done))) 7 (.one 6 (.one 8 (.one 9 .done)))) 6 (.two 5 (.one 7 (.one 8 (.one 9 .done))) 7 (.two 5 (.one 8 (.one 9 .done)) 8 (.one 5 (.one 9 .done)))) 7 (.two 5 (.one 6 (.one 8 (.one 9 .done))) 6 (.two 5 (.one 8 (.one 9 .done)) 8 (.one 5 (.one 9 .done))))) 5 (.three 2 (.two 6 (.one 7 (.one 8 (.one 9 .done))) 7 (.one 6 (.one 8 (.one 9 .done)))) 6 (.two 2 (.one 7 (.one 8 (.one 9 .done))) 7 (.one 2 (.one 8 (.one 9 .done)))) 7 (.two 2 (.one 6 (.one 8 (.one 9 .done))) 6 (.one 2 (.one 8 (.one 9 .done))))) 6 (.three 2 (.two 5 (.one 7 (.one 8 (.one 9 .done))) 7 (.two 5 (.one 8 (.one 9 .done)) 8 (.one 5 (.one 9 .done)))) 5 (.two 2 (.one 7 (.one 8 (.one 9 .done))) 7 (.one 2 (.one 8 (.one 9 .done)))) 7 (.two 2 (.two 5 (.one 8 (.one 9 .done)) 8 (.one 5 (.one 9 .done))) 5 (.one 2 (.one 8 (.one 9 .done))))) 7 (.three 2 (.two 5 (.one 6 (.one 8 (.one 9 .done))) 6 (.two 5 (.one 8 (.one 9 .done)) 8 (.one 5 (.one 9 .done)))) 5 (.two 2 (.one 6 (.one 8 (.one 9 .done))) 6 (.one 2 (.one 8 (.one 9 .done)))) 6 (.two 2 (.two 5 (.one 8 (.one 9 .done)) 8 (.one 5 (.one 9 .done))) 5 (.one 2 (.one 8 (.one 9 .done)))))) (γ:=Nat × Nat) (fun g=>[(6,ptrD g.1),(7,ptrD g.2)]) (fun g=>(g.1,.cells 295 [D.v (wV s.a),D.v (wV s.b),D.v (wV s.c),D.v (wV s.d)]) :: (g.2,.cells 295 [D.v (wV s.e),D.v (wV s.f),D.v (wV s.g),D.v (wV s.h)]) :: (b,.cells 293 (l.map wD)) :: (b4,.cells 169 [D.v (zv (ZV.int IntKind.u32)),D.v (zv (ZV.int IntKind.u32)),D.v (zv (ZV.int IntKind.u32)),D.v (zv (ZV.int IntKind.u32)),D.v (zv (ZV.int IntKind.u32)),D.v (zv (ZV.int IntKind.u32)),D.v (zv (ZV.int IntKind.u32)),D.v (zv (ZV.int IntKind.u32))]) :: [(b2,.cells 169 [wD s.a,wD s.b,wD s.c,wD s.d,wD s.e,wD s.f,wD s.g,wD s.h])]) (fun _=>True) (by decide +kernel) ?_ ?_
 ·repeat' first|refine sk27 ?_|(intro b;conv=>whnf)|(refine And.intro ?_ ?_ <;> (conv=>whnf))|(refine Ot.yd (az8 aa0 (l:=0) (h:=4) rfl rfl rfl rfl (.inl ⟨rfl,rfl⟩) (.inr ⟨_,_,_,rfl,rfl,rfl⟩) (by decide) (by decide) (by decide)) ?_)|(refine Ot.yd (az8 aa0 (l:=4) (h:=8) rfl rfl rfl rfl (.inr ⟨_,_,_,rfl,rfl,rfl⟩) (.inl ⟨rfl,rfl⟩) (by decide) (by decide) (by decide)) ?_)|(refine Ot.yd (bL6 aa0 rfl rfl rfl rfl (by decide)) ?_)
  all_goals exact ⟨(_,_),(aa2 cl7),(Sc.perm (by refine ac9 fun a=>?_;simp only [List.append_eq,List.nil_append,ad1,af7,af6] <;> omega)),trivial⟩
 ·rintro ⟨b6,b7⟩ _
  simp only
  repeat' first|refine sk27 ?_|(intro b;conv=>whnf)
  refine Ld.yd (cm7 rfl rfl) ?_
  repeat' first|refine sk27 ?_|(intro b;conv=>whnf)
  refine aa5 mixed aa0 (γ:=Nat) (fun t=>[(22,iD t)]) (fun t=>(b6,.cells 295 [wD (rnds s y t).a,wD (rnds s y t).b,wD (rnds s y t).c,wD (rnds s y t).d]) :: (b7,.cells 295 [wD (rnds s y t).e,wD (rnds s y t).f,wD (rnds s y t).g,wD (rnds s y t).h]) :: (b,.cells 293 (l.map wD)) :: (b4,.cells 169 [D.v (zv (ZV.int IntKind.u32)),D.v (zv (ZV.int IntKind.u32)),D.v (zv (ZV.int IntKind.u32)),D.v (zv (ZV.int IntKind.u32)),D.v (zv (ZV.int IntKind.u32)),D.v (zv (ZV.int IntKind.u32)),D.v (zv (ZV.int IntKind.u32)),D.v (zv (ZV.int IntKind.u32))]) :: [(b2,.cells 169 [wD s.a,wD s.b,wD s.c,wD s.d,wD s.e,wD s.f,wD s.g,wD s.h])]) (fun t=>t≤64) (fun t=>64 - t) 0 (aa2 cl2) (Sc.refl _) (by decide) ?_
  intro t ht
  by_cases h64:t<64
  ·have hw:(l.map wD)[t]?=some (wD (l.getD t 0)):=by rw [List.getElem?_map,List.getD_eq_getElem?_getD,List.getElem?_eq_getElem (by omega)];rfl
   have hn:rnds s y (t+1)=rnd (rnds s y t) (kAt t) (l.getD t 0):=by rw [rnds,hL]
   have hk:=co3 h64
   generalize rnds s y t=R at *
   repeat' first|refine sk27 ?_|(intro b;conv=>whnf)
   refine Ot.yd (bP3 aa0 rfl rfl rfl rfl rfl rfl h64 hk) ?_
   repeat' first|refine sk27 ?_|(intro b;conv=>whnf)
   refine Ot.yd (aa3 (r:=wV (R.h+mixW R.e 6 11 25)) rfl rfl rfl (fun w=>ae5 _ _)) ?_;repeat' (first|refine sk27 ?_|(intro b;conv=>whnf))
   refine Ot.yd (aa3 (r:=wV (R.e &&& R.f)) rfl rfl rfl (fun w=>ay2 _ _)) ?_;repeat' (first|refine sk27 ?_|(intro b;conv=>whnf))
   refine Ot.yd (bm0 (r:=wV (~~~R.e)) rfl rfl (fun w=>ce2 _)) ?_;repeat' (first|refine sk27 ?_|(intro b;conv=>whnf))
   refine Ot.yd (aa3 (r:=wV (~~~R.e &&& R.g)) rfl rfl rfl (fun w=>ay2 _ _)) ?_;repeat' (first|refine sk27 ?_|(intro b;conv=>whnf))
   refine Ot.yd (aa3 (r:=wV (chW R.e R.f R.g)) rfl rfl rfl (fun w=>aj7 _ _)) ?_;repeat' (first|refine sk27 ?_|(intro b;conv=>whnf))
   refine Ot.yd (aa3 (r:=wV (R.h+mixW R.e 6 11 25+chW R.e R.f R.g)) rfl rfl rfl (fun w=>ae5 _ _)) ?_;repeat' (first|refine sk27 ?_|(intro b;conv=>whnf))
   refine Ot.yd (aa3 (r:=wV (R.h+mixW R.e 6 11 25+chW R.e R.f R.g+kAt t)) rfl rfl rfl (fun w=>ae5 _ _)) ?_;repeat' (first|refine sk27 ?_|(intro b;conv=>whnf))
   refine Ot.yd (an1 aa0 (m:=t) (q:=t) rfl rfl rfl rfl rfl (by omega) (by omega) (Nat.zero_add _)) ?_
   repeat' first|refine sk27 ?_|(intro b;conv=>whnf)
   refine Ld.cellm (tb:=293) (List.Mem.tail _ (List.Mem.tail _ (List.Mem.head _))) hw ?_
   repeat' first|refine sk27 ?_|(intro b;conv=>whnf)
   refine Ot.yd (aa3 (r:=wV (R.h+mixW R.e 6 11 25+chW R.e R.f R.g+kAt t+l.getD t 0)) rfl rfl rfl (fun w=>ae5 _ _)) ?_;repeat' (first|refine sk27 ?_|(intro b;conv=>whnf))
   refine Ot.yd (aa3 (r:=wV (R.a &&& R.b)) rfl rfl rfl (fun w=>ay2 _ _)) ?_;repeat' (first|refine sk27 ?_|(intro b;conv=>whnf))
   refine Ot.yd (aa3 (r:=wV (R.a &&& R.c)) rfl rfl rfl (fun w=>ay2 _ _)) ?_;repeat' (first|refine sk27 ?_|(intro b;conv=>whnf))
   refine Ot.yd (aa3 (r:=wV ((R.a &&& R.b) ^^^ (R.a &&& R.c))) rfl rfl rfl (fun w=>aj7 _ _)) ?_;repeat' (first|refine sk27 ?_|(intro b;conv=>whnf))
   refine Ot.yd (aa3 (r:=wV (R.b &&& R.c)) rfl rfl rfl (fun w=>ay2 _ _)) ?_;repeat' (first|refine sk27 ?_|(intro b;conv=>whnf))
   refine Ot.yd (aa3 (r:=wV (majW R.a R.b R.c)) rfl rfl rfl (fun w=>aj7 _ _)) ?_;repeat' (first|refine sk27 ?_|(intro b;conv=>whnf))
   refine Ot.yd (aa3 (r:=wV (mixW R.a 2 13 22+majW R.a R.b R.c)) rfl rfl rfl (fun w=>ae5 _ _)) ?_;repeat' (first|refine sk27 ?_|(intro b;conv=>whnf))
   refine Ot.yd (aa3 (r:=wV (R.d+(R.h+mixW R.e 6 11 25+chW R.e R.f R.g+kAt t+l.getD t 0))) rfl rfl rfl (fun w=>ae5 _ _)) ?_;repeat' (first|refine sk27 ?_|(intro b;conv=>whnf))
   refine Ot.yd (aa3 (r:=wV (R.h+mixW R.e 6 11 25+chW R.e R.f R.g+kAt t+l.getD t 0+(mixW R.a 2 13 22+majW R.a R.b R.c))) rfl rfl rfl (fun w=>ae5 _ _)) ?_;repeat' (first|refine sk27 ?_|(intro b;conv=>whnf))
   exact ⟨t+1,(aa2 cl2),by rw [hn];exact Sc.refl _,by omega,by omega⟩
  ·obtain rfl:t=64:=by omega
   have hc:aU5 s y=s.add (rnds s y 64):=rfl
   rw [hc]
   clear hc
   generalize rnds s y 64=R at *
   repeat' first|refine sk27 ?_|(intro b;conv=>whnf)
   refine aa5 mixed aa0 (γ:=Nat) (fun i=>[(94,iD i)]) (fun i=>(b6,.cells 295 [wD R.a,wD R.b,wD R.c,wD R.d]) :: (b7,.cells 295 [wD R.e,wD R.f,wD R.g,wD R.h]) :: (b,.cells 293 (l.map wD)) :: (b4,.cells 169 [D.v (zv (ZV.int IntKind.u32)),D.v (zv (ZV.int IntKind.u32)),D.v (zv (ZV.int IntKind.u32)),D.v (zv (ZV.int IntKind.u32)),D.v (zv (ZV.int IntKind.u32)),D.v (zv (ZV.int IntKind.u32)),D.v (zv (ZV.int IntKind.u32)),D.v (zv (ZV.int IntKind.u32))]) :: [(b2,.cells 169 (cn5 s R i))]) (fun i=>i≤4) (fun i=>4 - i) 0 (aa2 cl2) (Sc.refl _) (by decide) ?_
   intro i hi
   by_cases hi4:i<4
   ·rcases i with _ | _ | _ | _|i
    ·repeat' first|refine sk27 ?_|(intro b;conv=>whnf)
     refine Ot.yd (aa3 (r:=wV (s.a+R.a)) rfl rfl rfl (fun w=>ae5 _ _)) ?_;repeat' (first|refine sk27 ?_|(intro b;conv=>whnf))
     refine Ot.yd (aa3 (r:=wV (s.e+R.e)) rfl rfl rfl (fun w=>ae5 _ _)) ?_;repeat' (first|refine sk27 ?_|(intro b;conv=>whnf))
     exact ⟨1,(aa2 cl2),Sc.refl _,by omega,by omega⟩
    ·repeat' first|refine sk27 ?_|(intro b;conv=>whnf)
     refine Ot.yd (aa3 (r:=wV (s.b+R.b)) rfl rfl rfl (fun w=>ae5 _ _)) ?_;repeat' (first|refine sk27 ?_|(intro b;conv=>whnf))
     refine Ot.yd (aa3 (r:=wV (s.f+R.f)) rfl rfl rfl (fun w=>ae5 _ _)) ?_;repeat' (first|refine sk27 ?_|(intro b;conv=>whnf))
     exact ⟨2,(aa2 cl2),Sc.refl _,by omega,by omega⟩
    ·repeat' first|refine sk27 ?_|(intro b;conv=>whnf)
     refine Ot.yd (aa3 (r:=wV (s.c+R.c)) rfl rfl rfl (fun w=>ae5 _ _)) ?_;repeat' (first|refine sk27 ?_|(intro b;conv=>whnf))
     refine Ot.yd (aa3 (r:=wV (s.g+R.g)) rfl rfl rfl (fun w=>ae5 _ _)) ?_;repeat' (first|refine sk27 ?_|(intro b;conv=>whnf))
     exact ⟨3,(aa2 cl2),Sc.refl _,by omega,by omega⟩
    ·repeat' first|refine sk27 ?_|(intro b;conv=>whnf)
     refine Ot.yd (aa3 (r:=wV (s.d+R.d)) rfl rfl rfl (fun w=>ae5 _ _)) ?_;repeat' (first|refine sk27 ?_|(intro b;conv=>whnf))
     refine Ot.yd (aa3 (r:=wV (s.h+R.h)) rfl rfl rfl (fun w=>ae5 _ _)) ?_;repeat' (first|refine sk27 ?_|(intro b;conv=>whnf))
     exact ⟨4,(aa2 cl2),Sc.refl _,by omega,by omega⟩
    ·omega
   ·obtain rfl:i=4:=by omega
    repeat' first|refine sk27 ?_|(intro b;conv=>whnf)
    refine Rs.c aa0 (m:=3) rfl rfl rfl rfl rfl rfl ?_
    repeat' first|refine sk27 ?_|(intro b;conv=>whnf)
    exact Rt.pure rfl
end
section
open Go
theorem bc9 (m k:Nat):((m:Int)).tmod (k:Int)=((m % k:Nat):Int):=(Int.ofNat_tmod m k).symm
theorem cd2 (m k:Nat):((m:Int)).tdiv (k:Int)=((m / k:Nat):Int):=(Int.ofNat_tdiv m k).symm
section
variable {P:Program} {t:TypeId} {p q:Operand} {w:World}
theorem mul8 {n:Nat} (h:n≤1000000000):(do eqGuard .mul t p q (.int .u64 8) (.int .u64 (n:Int));binOp .mul t (.int .u64 8) (.int .u64 (n:Int))).run P w = .ok (.int .u64 ((8*n:Nat):Int)) w:=by
 show Result.ok (Value.int .u64 (IntKind.u64.wrap _)) w=_
 have e:IntKind.u64.wrap (8*(n:Int))=((8*n:Nat):Int):=by rw [IntKind.wrap_u64];omega
 rw [e]
end
theorem bk6 {n i:Nat} (h:i<8):(len8 n)[i]?=some (8*n / 2 ^ (56 - 8*i) % 256):=by
 unfold len8
 rw [av2 _ _ _ h,show 56 - 8*i=8*(8 - 1 - i) by omega,aJ8]
theorem ax6 (n:Nat):(len8 n).length=8:=af2 _ _
theorem aS9 (n:Nat):∀ d∈padT n,d<256:=by
 intro d hd
 unfold padT at hd
 rcases List.mem_cons.1 hd with rfl|hd
 ·decide
 ·rcases List.mem_append.1 hd with h|h
  ·rw [(List.mem_replicate.1 h).2];decide
  ·exact aZ8 _ _ _ h
theorem ce8 (y:List Nat) (hl:y.length≤1000000):APure Tryz.prog 186 [slY y] (slY (y ++ padT y.length)):=by
 refine eP7 Tryz.func186 Tryz.ntmps186 fun BB=>?_
 repeat' first|refine sk2 ?_|(intro b;conv=>whnf)
 refine Ap.go rfl rfl rfl rfl (RowIs.e0 _ _ (some ⟨b,0,none⟩)) (ai4 _) (aD6 y) (zs:=y.map yC) rfl (sz_y (c:=1000000) hl (by decide)) (bd0 hl) (fun s'=>s') ao0 (fun a1 c1 s1 hr1=>?_)
 repeat' first|refine sk2 ?_|(intro b;conv=>whnf)
 refine Ap.go rfl rfl rfl rfl hr1 (ai4 _) rfl (zs:=(y ++ [128]).map yC) (by rw [List.map_append];rfl) (sz_y (c:=1000001) (by simp;omega) (by decide)) (by simp;omega) (fun s'=>s') ao0 (fun a2 c2 s2 hr2=>?_)
 clear hr1
 repeat' first|refine sk2 ?_|(intro b;conv=>whnf)
 refine aa5 mixed aa0 (γ:=Nat × Value × aa1) (fun g=>[(3,.v g.2.1)]) (fun g=>g.2.2) (fun g=>g.1≤padZ y.length∧RY (y ++ 128 :: List.replicate g.1 0) g.2.1 g.2.2) (fun g=>padZ y.length - g.1) (0,_,s2) (aa2 cl2) (Sc.refl _) ⟨Nat.zero_le _,hr2⟩ ?_
 clear hr2
 rintro ⟨j,v,s⟩ ⟨hj,hrow⟩
 simp only at hj hrow ⊢
 obtain ⟨a,c,rfl⟩:=RowIs.slice hrow
 have hpz:padZ y.length=(119 - y.length % 64) % 64:=rfl
 have hln:((y ++ 128 :: List.replicate j 0).map yC).length=y.length+1+j:=by simp;omega
 have htm:((((y ++ 128 :: List.replicate j 0).map yC).length:Int)).tmod 64=(((y.length+1+j) % 64:Nat):Int):=by rw [hln];exact bc9 _ 64
 have htm2:((y.length+(j+1):Nat):Int).tmod 64=(((y.length+(j+1)) % 64:Nat):Int):=bc9 _ 64
 repeat' first|refine sk2 ?_|(intro b;conv=>whnf)
 rw [htm]
 by_cases hjz:j<padZ y.length
 ·repeat' first|refine sk2 ?_|(intro b;conv=>whnf)
  refine Ap.go rfl rfl rfl rfl hrow (ai4 _) rfl (zs:=(y ++ 128 :: List.replicate (j+1) 0).map yC) (by rw [List.replicate_succ'];simp) (sz_y (c:=1000065) (by simp;omega) (by decide)) (by simp;omega) (fun s'=>s') ao0 (fun a3 c3 s3 hr3=>?_)
  repeat' first|refine sk2 ?_|(intro b;conv=>whnf)
  exact ⟨(j+1,_,s3),(aa2 cl2),Sc.refl _,⟨by simp only;omega,hr3⟩,by simp only;omega⟩
 ·obtain rfl:j=padZ y.length:=by omega
  repeat' first|refine sk2 ?_|(intro b;conv=>whnf)
  refine Ot.yd (ab5 (m:=(y.length:Int)) rfl rfl Tryz.underlying3 Tryz.underlying167 (by simp only [IntKind.wrap_u64,List.length_map];omega)) ?_
  repeat' first|refine sk2 ?_|(intro b;conv=>whnf)
  refine Ot.yd (aa3 (r:=.int .u64 ((8*y.length:Nat):Int)) rfl rfl rfl (fun w=>mul8 (by omega))) ?_
  repeat' first|refine sk2 ?_|(intro b;conv=>whnf)
  refine aa5 mixed aa0 (γ:=Nat × Value × aa1) (fun g=>[(5,iD g.1),(3,.v g.2.1)]) (fun g=>g.2.2) (fun g=>g.1≤8∧RY (y ++ 128 :: (List.replicate (padZ y.length) 0 ++ (len8 y.length).take g.1)) g.2.1 g.2.2) (fun g=>8 - g.1) (0,_,s) (aa2 cl2) (Sc.refl _) ⟨Nat.zero_le _,by simpa using hrow⟩ ?_
  clear hrow htm htm2 hln
  rintro ⟨i,v2,s2⟩ ⟨hi,hrow⟩
  simp only at hi hrow ⊢
  by_cases hi8:i<8
  ·have hg:=bk6 (n:=y.length) hi8
   generalize 8*y.length=m at *
   repeat' first|refine sk2 ?_|(intro b;conv=>whnf)
   rw [show (56:Int) - 8*(i:Int)=((56 - 8*i:Nat):Int) by omega]
   refine Ot.yd (aa3 (r:=.int .u64 ((m / 2 ^ (56 - 8*i):Nat):Int)) rfl rfl rfl (fun w=>ap0 .u64 m .i64 (56 - 8*i) (by show _≤64;omega))) ?_
   repeat' first|refine sk2 ?_|(intro b;conv=>whnf)
   refine Ot.yd (ab5 (m:=((m / 2 ^ (56 - 8*i) % 256:Nat):Int)) rfl rfl Tryz.underlying167 Tryz.underlying5 (by rw [IntKind.wrap_u8];omega)) ?_
   repeat' first|refine sk2 ?_|(intro b;conv=>whnf)
   refine Ap.go rfl rfl rfl rfl hrow (by simp:s2.Perm (s2 ++ [])) rfl (zs:=(y ++ 128 :: (List.replicate (padZ y.length) 0 ++ (len8 y.length).take (i+1))).map yC) (by rw [List.take_add_one,hg];simp) (sz_y (c:=1000165) (by simp [ax6];omega) (by decide)) (by simp [ax6];omega) (fun s'=>s') ao0 (fun a3 c3 s3 hr3=>?_)
   repeat' first|refine sk2 ?_|(intro b;conv=>whnf)
   exact ⟨(i+1,_,s3),(aa2 cl2),Sc.refl _,⟨by simp only;omega,hr3⟩,by simp only;omega⟩
  ·obtain rfl:i=8:=by omega
   rw [List.take_of_length_le (by rw [ax6];exact Nat.le_refl _)] at hrow
   repeat' first|refine sk2 ?_|(intro b;conv=>whnf)
   exact Rt.vs (Vs.row hrow (ai4 _))
end
section
open Go
def yc32 (l:List Nat):List D:=l.map yD ++ List.replicate (32 - l.length) (yD 0)
theorem bL7 {l:List Nat} (h:l.length≤32):(yc32 l).length=32:=by unfold yc32;simp;omega
theorem bp6 {l:List Nat} (h:l.length<32) (x:Nat):(yc32 l).set l.length (yD x)=yc32 (l ++ [x]):=by
 unfold yc32
 rw [show 32 - l.length=(32 - (l ++ [x]).length)+1 by simp;omega,List.replicate_succ,List.set_append_right _ _ (by simp)]
 simp
theorem bp7 {l:List Nat} (h:l.length=32):yc32 l=l.map yD:=by unfold yc32;rw [h];simp
def bb7 (l:List Nat):D:=.agg ((List.range 32).map fun i=>yD (l.getD i 0))
theorem aP6 {l:List Nat} (h:l.length=32):(List.range 32).map (fun i=>yD (l.getD i 0))=l.map yD:=by
 refine List.ext_getElem (by simp [h]) fun i h1 h2=>?_
 simp only [List.length_map,List.length_range] at h1
 have h3:i<l.length:=by omega
 simp [List.getD_eq_getElem?_getD,h3]
theorem bR8 (m:List Nat):(sha m).length=32:=by unfold sha;simp
abbrev s8L (s:S8):List D:=[wD s.a,wD s.b,wD s.c,wD s.d,wD s.e,wD s.f,wD s.g,wD s.h]
theorem ce1 (s:S8) {i:Nat} (h:i<8):(s8L s)[i]?=some (wD (s.list.getD i 0)):=by
 rcases i with _ | _ | _ | _ | _ | _ | _ | _|i
 any_goals rfl
 omega
theorem bZ3 (s:S8) (i:Nat):ax1 s i<256:=Nat.mod_lt _ (by decide)
theorem cd8 (m:List Nat):∀ d∈sha m,d<256:=by
 intro d hd
 unfold sha at hd
 obtain ⟨i,_,rfl⟩:=List.mem_map.1 hd
 exact bZ3 _ _
theorem cd9 (m:List Nat) {i:Nat} (h:i<32):(sha m)[i]?=some (ax1 (shaN (m ++ padT m.length) ((m.length+(padT m.length).length) / 64)) i):=by
 unfold sha
 rw [List.getElem?_map,List.getElem?_range h]
 rfl
theorem av9 {α:Type} {l:List α} {j:Nat} {x:α} (h:l[j]?=some x):l.take (j+1)=l.take j ++ [x]:=by rw [List.take_add_one,h];rfl
theorem sb28 {A B:Prop} (k:B) (h:Hd7 B→A:=by intro hk7q;(first|((with_reducible refine W.mk ?_);(conv=>whnf))|(with_reducible refine Br.tt ?_)|(with_reducible refine Br.ff ?_)|(with_reducible refine Br.n ?_)|((with_reducible refine' Br.eq ?h ?_);(case h=>(simp only [List.length_map,List.length_take,List.length_append,List.length_cons,List.length_nil,List.length_replicate,Nat.reduceAdd];exact rfl)))|((with_reducible refine Sd.go ?qs7 ?_);(case qs7=>first|trivial|(constructor <;> omega)|omega|assumption|((try simp only [List.length_map,List.length_take,List.length_append,List.length_cons,List.length_nil,List.length_replicate,Nat.reduceAdd] at *);first|(constructor <;> omega)|omega)))|((with_reducible refine Ck.go ?qs7 ?_);(case qs7=>kernel_rfl))|((with_reducible refine' Ix.mapAt ?hy ?h0 ?_);(case hy=>assumption);(case h0=>omega))|((with_reducible refine' Ix.at ?hy ?h0 ?_);(case hy=>exact rfl);(case h0=>omega))|((with_reducible refine Ix.mapM ?h0 ?_);(case h0=>first|omega|(simp only [List.length_map,List.length_take,List.length_append,List.length_cons,List.length_nil,List.length_replicate,Nat.reduceAdd] at *;omega)))|((with_reducible refine' Ld.at 0 ?h1 ?h2 ?h3 ?_);(case h1=>exact rfl);(case h2=>exact rfl);(case h3=>exact rfl))|((with_reducible refine' Ld.at 1 ?h1 ?h2 ?h3 ?_);(case h1=>exact rfl);(case h2=>exact rfl);(case h3=>exact rfl))|((with_reducible refine' Ld.at 2 ?h1 ?h2 ?h3 ?_);(case h1=>exact rfl);(case h2=>exact rfl);(case h3=>exact rfl))|((with_reducible refine' Sv.at 0 ?h1 ?h2 ?h3 ?h4 ?h5 ?_);(case h1=>exact rfl);(case h2=>exact rfl);(case h3=>exact rfl);(case h4=>exact rfl);(case h5=>exact (by first|(simp only [List.set_cons_succ,List.set_cons_zero,spl,ad8,mkD,List.take_succ_cons,List.take_zero,List.drop_succ_cons,List.drop_zero,List.length_cons,List.length_nil,List.nil_append,List.cons_append,Nat.reduceAdd,Nat.zero_add,List.append_nil,List.map_cons,List.map_nil];rfl)|rfl)))|((with_reducible refine' Sv.at 1 ?h1 ?h2 ?h3 ?h4 ?h5 ?_);(case h1=>exact rfl);(case h2=>exact rfl);(case h3=>exact rfl);(case h4=>exact rfl);(case h5=>exact (by first|(simp only [List.set_cons_succ,List.set_cons_zero,spl,ad8,mkD,List.take_succ_cons,List.take_zero,List.drop_succ_cons,List.drop_zero,List.length_cons,List.length_nil,List.nil_append,List.cons_append,Nat.reduceAdd,Nat.zero_add,List.append_nil,List.map_cons,List.map_nil];rfl)|rfl)))|((with_reducible refine' Sv.at 2 ?h1 ?h2 ?h3 ?h4 ?h5 ?_);(case h1=>exact rfl);(case h2=>exact rfl);(case h3=>exact rfl);(case h4=>exact rfl);(case h5=>exact (by first|(simp only [List.set_cons_succ,List.set_cons_zero,spl,ad8,mkD,List.take_succ_cons,List.take_zero,List.drop_succ_cons,List.drop_zero,List.length_cons,List.length_nil,List.nil_append,List.cons_append,Nat.reduceAdd,Nat.zero_add,List.append_nil,List.map_cons,List.map_nil];rfl)|rfl)))|((with_reducible refine' Ot.yd ?hyd ?_);(case hyd=>first|(refine' ap9 aa0 rfl rfl rfl rfl rfl ?hc ?h0;(case hc=>assumption);(case h0=>omega))|(refine ap8 aa0 rfl rfl rfl rfl rfl ?_;first|omega|(simp only [List.length_map,List.length_take,List.length_append,List.length_cons,List.length_nil,List.length_replicate,Nat.reduceAdd];omega))|exact av7 rfl rfl rfl|exact av8 rfl rfl rfl|(refine aI3 aa0 rfl rfl rfl rfl rfl ?_ ?_ <;> decide)))|((with_reducible refine' Rs.tc aa0 (m:=0) ?h ?hi ?hj ?hb ?ht ?hag ?hs ?_);(case h=>exact rfl);(case hi=>exact rfl);(case hj=>exact rfl);(case hb=>exact rfl);(case ht=>exact rfl);(case hag=>exact rfl);(case hs=>exact rfl))|((with_reducible refine' Rs.ct aa0 (m:=0) ?h ?hi ?hj ?hb ?ht ?hag ?hs ?_);(case h=>exact rfl);(case hi=>exact rfl);(case hj=>exact rfl);(case hb=>exact rfl);(case ht=>exact rfl);(case hag=>exact rfl);(case hs=>exact rfl))|((with_reducible refine' Rs.c aa0 (m:=0) ?h ?hj ?hb ?ht ?hag ?hs ?_);(case h=>exact rfl);(case hj=>exact rfl);(case hb=>exact rfl);(case ht=>exact rfl);(case hag=>exact rfl);(case hs=>exact rfl))|((with_reducible refine Br.dt ?h ?_);(case h=>omega))|((with_reducible refine Br.df ?h ?_);(case h=>omega))|((with_reducible refine Br.t ?h ?_);(case h=>assumption))|((with_reducible refine Br.f ?h ?_);(case h=>assumption))|((with_reducible refine Br.t ?h ?_);(case h=>(refine decide_eq_true ?_;omega)))|((with_reducible refine Br.f ?h ?_);(case h=>(refine decide_eq_false ?_;omega))));exact hk7q.run):A:=h ⟨k⟩
theorem sk29 {A B:Prop} (k:B) (h:Hd7 B→A:=by intro hk7q;(first|refine sb28 ?_|refine sb1 ?_|((with_reducible refine' Cp.by ?hc ?_);(case hc=>first|exact HP|exact HW|exact aa9 _ 6 (by decide) (by decide)|exact aa9 _ 11 (by decide) (by decide)|exact aa9 _ 25 (by decide) (by decide)|exact aa9 _ 2 (by decide) (by decide)|exact aa9 _ 13 (by decide) (by decide)|exact aa9 _ 22 (by decide) (by decide)))|((with_reducible refine' CE.pure ?hc ?_);(case hc=>first|exact HP|exact HW|exact aa9 _ 6 (by decide) (by decide)|exact aa9 _ 11 (by decide) (by decide)|exact aa9 _ 25 (by decide) (by decide)|exact aa9 _ 2 (by decide) (by decide)|exact aa9 _ 13 (by decide) (by decide)|exact aa9 _ 22 (by decide) (by decide))));exact hk7q.run):A:=h ⟨k⟩
theorem sb30 {A B:Prop} (k:B) (h:Hd7 B→A:=by intro hk7q;(first|((with_reducible refine W.mk ?_);(conv=>whnf))|(with_reducible refine Br.tt ?_)|(with_reducible refine Br.ff ?_)|(with_reducible refine Br.n ?_)|((with_reducible refine' Br.eq ?h ?_);(case h=>(simp only [List.length_map,List.length_take,List.length_append,List.length_cons,List.length_nil,List.length_replicate,Nat.reduceAdd];exact rfl)))|((with_reducible refine Sd.go ?qs7 ?_);(case qs7=>first|trivial|(constructor <;> omega)|omega|assumption|((try simp only [List.length_map,List.length_take,List.length_append,List.length_cons,List.length_nil,List.length_replicate,Nat.reduceAdd] at *);first|(constructor <;> omega)|omega)))|((with_reducible refine Ck.go ?qs7 ?_);(case qs7=>kernel_rfl))|((with_reducible refine' Ix.mapAt ?hy ?h0 ?_);(case hy=>assumption);(case h0=>omega))|((with_reducible refine' Ix.at ?hy ?h0 ?_);(case hy=>exact rfl);(case h0=>omega))|((with_reducible refine Ix.mapM ?h0 ?_);(case h0=>first|omega|(simp only [List.length_map,List.length_take,List.length_append,List.length_cons,List.length_nil,List.length_replicate,Nat.reduceAdd] at *;omega)))|((with_reducible refine' Ld.at 0 ?h1 ?h2 ?h3 ?_);(case h1=>exact rfl);(case h2=>exact rfl);(case h3=>exact rfl))|((with_reducible refine' Ld.at 1 ?h1 ?h2 ?h3 ?_);(case h1=>exact rfl);(case h2=>exact rfl);(case h3=>exact rfl))|((with_reducible refine' Ld.at 2 ?h1 ?h2 ?h3 ?_);(case h1=>exact rfl);(case h2=>exact rfl);(case h3=>exact rfl))|fail|((with_reducible refine' Ot.yd ?hyd ?_);(case hyd=>first|(refine' ap9 aa0 rfl rfl rfl rfl rfl ?hc ?h0;(case hc=>assumption);(case h0=>omega))|(refine ap8 aa0 rfl rfl rfl rfl rfl ?_;first|omega|(simp only [List.length_map,List.length_take,List.length_append,List.length_cons,List.length_nil,List.length_replicate,Nat.reduceAdd];omega))|exact av7 rfl rfl rfl|exact av8 rfl rfl rfl|(refine aI3 aa0 rfl rfl rfl rfl rfl ?_ ?_ <;> decide)))|((with_reducible refine' Rs.tc aa0 (m:=0) ?h ?hi ?hj ?hb ?ht ?hag ?hs ?_);(case h=>exact rfl);(case hi=>exact rfl);(case hj=>exact rfl);(case hb=>exact rfl);(case ht=>exact rfl);(case hag=>exact rfl);(case hs=>exact rfl))|((with_reducible refine' Rs.ct aa0 (m:=0) ?h ?hi ?hj ?hb ?ht ?hag ?hs ?_);(case h=>exact rfl);(case hi=>exact rfl);(case hj=>exact rfl);(case hb=>exact rfl);(case ht=>exact rfl);(case hag=>exact rfl);(case hs=>exact rfl))|((with_reducible refine' Rs.c aa0 (m:=0) ?h ?hj ?hb ?ht ?hag ?hs ?_);(case h=>exact rfl);(case hj=>exact rfl);(case hb=>exact rfl);(case ht=>exact rfl);(case hag=>exact rfl);(case hs=>exact rfl))|((with_reducible refine Br.dt ?h ?_);(case h=>omega))|((with_reducible refine Br.df ?h ?_);(case h=>omega))|((with_reducible refine Br.t ?h ?_);(case h=>assumption))|((with_reducible refine Br.f ?h ?_);(case h=>assumption))|((with_reducible refine Br.t ?h ?_);(case h=>(refine decide_eq_true ?_;omega)))|((with_reducible refine Br.f ?h ?_);(case h=>(refine decide_eq_false ?_;omega))));exact hk7q.run):A:=h ⟨k⟩
theorem sk31 {A B:Prop} (k:B) (h:Hd7 B→A:=by intro hk7q;(first|refine sb30 ?_|refine sb1 ?_|((with_reducible refine' Cp.by ?hc ?_);(case hc=>first|exact HP|exact HW|exact aa9 _ 6 (by decide) (by decide)|exact aa9 _ 11 (by decide) (by decide)|exact aa9 _ 25 (by decide) (by decide)|exact aa9 _ 2 (by decide) (by decide)|exact aa9 _ 13 (by decide) (by decide)|exact aa9 _ 22 (by decide) (by decide)))|((with_reducible refine' CE.pure ?hc ?_);(case hc=>first|exact HP|exact HW|exact aa9 _ 6 (by decide) (by decide)|exact aa9 _ 11 (by decide) (by decide)|exact aa9 _ 25 (by decide) (by decide)|exact aa9 _ 2 (by decide) (by decide)|exact aa9 _ 13 (by decide) (by decide)|exact aa9 _ 22 (by decide) (by decide))));exact hk7q.run):A:=h ⟨k⟩
theorem sb32 {A B:Prop} (k:B) (h:Hd7 B→A:=by intro hk7q;(first|((with_reducible refine W.mk ?_);(conv=>whnf))|(with_reducible refine Br.tt ?_)|(with_reducible refine Br.ff ?_)|(with_reducible refine Br.n ?_)|((with_reducible refine' Br.eq ?h ?_);(case h=>(simp only [List.length_map,List.length_take,List.length_append,List.length_cons,List.length_nil,List.length_replicate,Nat.reduceAdd];exact rfl)))|((with_reducible refine Sd.go ?qs7 ?_);(case qs7=>first|trivial|(constructor <;> omega)|omega|assumption|((try simp only [List.length_map,List.length_take,List.length_append,List.length_cons,List.length_nil,List.length_replicate,Nat.reduceAdd] at *);first|(constructor <;> omega)|omega)))|((with_reducible refine Ck.go ?qs7 ?_);(case qs7=>kernel_rfl))|((with_reducible refine' Ix.mapAt ?hy ?h0 ?_);(case hy=>assumption);(case h0=>omega))|((with_reducible refine' Ix.at ?hy ?h0 ?_);(case hy=>exact rfl);(case h0=>omega))|((with_reducible refine Ix.mapM ?h0 ?_);(case h0=>first|omega|(simp only [List.length_map,List.length_take,List.length_append,List.length_cons,List.length_nil,List.length_replicate,Nat.reduceAdd] at *;omega)))|((with_reducible refine' Ld.at 0 ?h1 ?h2 ?h3 ?_);(case h1=>exact rfl);(case h2=>exact rfl);(case h3=>exact rfl))|((with_reducible refine' Ld.at 1 ?h1 ?h2 ?h3 ?_);(case h1=>exact rfl);(case h2=>exact rfl);(case h3=>exact rfl))|((with_reducible refine' Ld.at 2 ?h1 ?h2 ?h3 ?_);(case h1=>exact rfl);(case h2=>exact rfl);(case h3=>exact rfl))|((with_reducible refine' Sv.at 1 ?h1 ?h2 ?h3 ?h4 ?h5 ?_);(case h1=>exact rfl);(case h2=>exact rfl);(case h3=>exact rfl);(case h4=>exact rfl);(case h5=>exact (by first|(simp only [List.set_cons_succ,List.set_cons_zero,spl,ad8,mkD,List.take_succ_cons,List.take_zero,List.drop_succ_cons,List.drop_zero,List.length_cons,List.length_nil,List.nil_append,List.cons_append,Nat.reduceAdd,Nat.zero_add,List.append_nil,List.map_cons,List.map_nil];rfl)|rfl)))|((with_reducible refine' Ot.yd ?hyd ?_);(case hyd=>first|(refine' ap9 aa0 rfl rfl rfl rfl rfl ?hc ?h0;(case hc=>assumption);(case h0=>omega))|(refine ap8 aa0 rfl rfl rfl rfl rfl ?_;first|omega|(simp only [List.length_map,List.length_take,List.length_append,List.length_cons,List.length_nil,List.length_replicate,Nat.reduceAdd];omega))|exact av7 rfl rfl rfl|exact av8 rfl rfl rfl|(refine aI3 aa0 rfl rfl rfl rfl rfl ?_ ?_ <;> decide)))|((with_reducible refine' Rs.tc aa0 (m:=0) ?h ?hi ?hj ?hb ?ht ?hag ?hs ?_);(case h=>exact rfl);(case hi=>exact rfl);(case hj=>exact rfl);(case hb=>exact rfl);(case ht=>exact rfl);(case hag=>exact rfl);(case hs=>exact rfl))|((with_reducible refine' Rs.ct aa0 (m:=0) ?h ?hi ?hj ?hb ?ht ?hag ?hs ?_);(case h=>exact rfl);(case hi=>exact rfl);(case hj=>exact rfl);(case hb=>exact rfl);(case ht=>exact rfl);(case hag=>exact rfl);(case hs=>exact rfl))|((with_reducible refine' Rs.c aa0 (m:=0) ?h ?hj ?hb ?ht ?hag ?hs ?_);(case h=>exact rfl);(case hj=>exact rfl);(case hb=>exact rfl);(case ht=>exact rfl);(case hag=>exact rfl);(case hs=>exact rfl))|((with_reducible refine Br.dt ?h ?_);(case h=>omega))|((with_reducible refine Br.df ?h ?_);(case h=>omega))|((with_reducible refine Br.t ?h ?_);(case h=>assumption))|((with_reducible refine Br.f ?h ?_);(case h=>assumption))|((with_reducible refine Br.t ?h ?_);(case h=>(refine decide_eq_true ?_;omega)))|((with_reducible refine Br.f ?h ?_);(case h=>(refine decide_eq_false ?_;omega))));exact hk7q.run):A:=h ⟨k⟩
theorem sk33 {A B:Prop} (k:B) (h:Hd7 B→A:=by intro hk7q;(first|refine sb32 ?_|refine sb1 ?_|((with_reducible refine' Cp.by ?hc ?_);(case hc=>first|exact HP|exact HW|exact aa9 _ 6 (by decide) (by decide)|exact aa9 _ 11 (by decide) (by decide)|exact aa9 _ 25 (by decide) (by decide)|exact aa9 _ 2 (by decide) (by decide)|exact aa9 _ 13 (by decide) (by decide)|exact aa9 _ 22 (by decide) (by decide)))|((with_reducible refine' CE.pure ?hc ?_);(case hc=>first|exact HP|exact HW|exact aa9 _ 6 (by decide) (by decide)|exact aa9 _ 11 (by decide) (by decide)|exact aa9 _ 25 (by decide) (by decide)|exact aa9 _ 2 (by decide) (by decide)|exact aa9 _ 13 (by decide) (by decide)|exact aa9 _ 22 (by decide) (by decide))));exact hk7q.run):A:=h ⟨k⟩
theorem sb34 {A B:Prop} (k:B) (h:Hd7 B→A:=by intro hk7q;(first|((with_reducible refine W.mk ?_);(conv=>whnf))|(with_reducible refine Br.tt ?_)|(with_reducible refine Br.ff ?_)|(with_reducible refine Br.n ?_)|((with_reducible refine' Br.eq ?h ?_);(case h=>(simp only [List.length_map,List.length_take,List.length_append,List.length_cons,List.length_nil,List.length_replicate,Nat.reduceAdd];exact rfl)))|((with_reducible refine Sd.go ?qs7 ?_);(case qs7=>first|trivial|(constructor <;> omega)|omega|assumption|((try simp only [List.length_map,List.length_take,List.length_append,List.length_cons,List.length_nil,List.length_replicate,Nat.reduceAdd] at *);first|(constructor <;> omega)|omega)))|((with_reducible refine Ck.go ?qs7 ?_);(case qs7=>kernel_rfl))|((with_reducible refine' Ix.mapAt ?hy ?h0 ?_);(case hy=>assumption);(case h0=>omega))|((with_reducible refine' Ix.at ?hy ?h0 ?_);(case hy=>exact rfl);(case h0=>omega))|((with_reducible refine Ix.mapM ?h0 ?_);(case h0=>first|omega|(simp only [List.length_map,List.length_take,List.length_append,List.length_cons,List.length_nil,List.length_replicate,Nat.reduceAdd] at *;omega)))|fail|((with_reducible refine' Sv.at 1 ?h1 ?h2 ?h3 ?h4 ?h5 ?_);(case h1=>exact rfl);(case h2=>exact rfl);(case h3=>exact rfl);(case h4=>exact rfl);(case h5=>exact (by first|(simp only [List.set_cons_succ,List.set_cons_zero,spl,ad8,mkD,List.take_succ_cons,List.take_zero,List.drop_succ_cons,List.drop_zero,List.length_cons,List.length_nil,List.nil_append,List.cons_append,Nat.reduceAdd,Nat.zero_add,List.append_nil,List.map_cons,List.map_nil];rfl)|rfl)))|((with_reducible refine' Ot.yd ?hyd ?_);(case hyd=>first|(refine' ap9 aa0 rfl rfl rfl rfl rfl ?hc ?h0;(case hc=>assumption);(case h0=>omega))|(refine ap8 aa0 rfl rfl rfl rfl rfl ?_;first|omega|(simp only [List.length_map,List.length_take,List.length_append,List.length_cons,List.length_nil,List.length_replicate,Nat.reduceAdd];omega))|exact av7 rfl rfl rfl|exact av8 rfl rfl rfl|(refine aI3 aa0 rfl rfl rfl rfl rfl ?_ ?_ <;> decide)))|((with_reducible refine' Rs.tc aa0 (m:=0) ?h ?hi ?hj ?hb ?ht ?hag ?hs ?_);(case h=>exact rfl);(case hi=>exact rfl);(case hj=>exact rfl);(case hb=>exact rfl);(case ht=>exact rfl);(case hag=>exact rfl);(case hs=>exact rfl))|((with_reducible refine' Rs.ct aa0 (m:=0) ?h ?hi ?hj ?hb ?ht ?hag ?hs ?_);(case h=>exact rfl);(case hi=>exact rfl);(case hj=>exact rfl);(case hb=>exact rfl);(case ht=>exact rfl);(case hag=>exact rfl);(case hs=>exact rfl))|((with_reducible refine' Rs.c aa0 (m:=0) ?h ?hj ?hb ?ht ?hag ?hs ?_);(case h=>exact rfl);(case hj=>exact rfl);(case hb=>exact rfl);(case ht=>exact rfl);(case hag=>exact rfl);(case hs=>exact rfl))|((with_reducible refine Br.dt ?h ?_);(case h=>omega))|((with_reducible refine Br.df ?h ?_);(case h=>omega))|((with_reducible refine Br.t ?h ?_);(case h=>assumption))|((with_reducible refine Br.f ?h ?_);(case h=>assumption))|((with_reducible refine Br.t ?h ?_);(case h=>(refine decide_eq_true ?_;omega)))|((with_reducible refine Br.f ?h ?_);(case h=>(refine decide_eq_false ?_;omega))));exact hk7q.run):A:=h ⟨k⟩
theorem sk35 {A B:Prop} (k:B) (h:Hd7 B→A:=by intro hk7q;(first|refine sb34 ?_|refine sb1 ?_|((with_reducible refine' Cp.by ?hc ?_);(case hc=>first|exact HP|exact HW|exact aa9 _ 6 (by decide) (by decide)|exact aa9 _ 11 (by decide) (by decide)|exact aa9 _ 25 (by decide) (by decide)|exact aa9 _ 2 (by decide) (by decide)|exact aa9 _ 13 (by decide) (by decide)|exact aa9 _ 22 (by decide) (by decide)))|((with_reducible refine' CE.pure ?hc ?_);(case hc=>first|exact HP|exact HW|exact aa9 _ 6 (by decide) (by decide)|exact aa9 _ 11 (by decide) (by decide)|exact aa9 _ 25 (by decide) (by decide)|exact aa9 _ 2 (by decide) (by decide)|exact aa9 _ 13 (by decide) (by decide)|exact aa9 _ 22 (by decide) (by decide))));exact hk7q.run):A:=h ⟨k⟩
theorem sb36 {A B:Prop} (k:B) (h:Hd7 B→A:=by intro hk7q;(first|((with_reducible refine W.mk ?_);(conv=>whnf))|(with_reducible refine Br.tt ?_)|(with_reducible refine Br.ff ?_)|(with_reducible refine Br.n ?_)|((with_reducible refine' Br.eq ?h ?_);(case h=>(simp only [List.length_map,List.length_take,List.length_append,List.length_cons,List.length_nil,List.length_replicate,Nat.reduceAdd];exact rfl)))|((with_reducible refine Sd.go ?qs7 ?_);(case qs7=>first|trivial|(constructor <;> omega)|omega|assumption|((try simp only [List.length_map,List.length_take,List.length_append,List.length_cons,List.length_nil,List.length_replicate,Nat.reduceAdd] at *);first|(constructor <;> omega)|omega)))|((with_reducible refine Ck.go ?qs7 ?_);(case qs7=>kernel_rfl))|((with_reducible refine' Ix.mapAt ?hy ?h0 ?_);(case hy=>assumption);(case h0=>omega))|((with_reducible refine' Ix.at ?hy ?h0 ?_);(case hy=>exact rfl);(case h0=>omega))|((with_reducible refine Ix.mapM ?h0 ?_);(case h0=>first|omega|(simp only [List.length_map,List.length_take,List.length_append,List.length_cons,List.length_nil,List.length_replicate,Nat.reduceAdd] at *;omega)))|fail|fail|((with_reducible refine' Ot.yd ?hyd ?_);(case hyd=>first|(refine' ap9 aa0 rfl rfl rfl rfl rfl ?hc ?h0;(case hc=>assumption);(case h0=>omega))|(refine ap8 aa0 rfl rfl rfl rfl rfl ?_;first|omega|(simp only [List.length_map,List.length_take,List.length_append,List.length_cons,List.length_nil,List.length_replicate,Nat.reduceAdd];omega))|exact av7 rfl rfl rfl|exact av8 rfl rfl rfl|(refine aI3 aa0 rfl rfl rfl rfl rfl ?_ ?_ <;> decide)))|((with_reducible refine' Rs.tc aa0 (m:=0) ?h ?hi ?hj ?hb ?ht ?hag ?hs ?_);(case h=>exact rfl);(case hi=>exact rfl);(case hj=>exact rfl);(case hb=>exact rfl);(case ht=>exact rfl);(case hag=>exact rfl);(case hs=>exact rfl))|((with_reducible refine' Rs.ct aa0 (m:=0) ?h ?hi ?hj ?hb ?ht ?hag ?hs ?_);(case h=>exact rfl);(case hi=>exact rfl);(case hj=>exact rfl);(case hb=>exact rfl);(case ht=>exact rfl);(case hag=>exact rfl);(case hs=>exact rfl))|((with_reducible refine' Rs.c aa0 (m:=0) ?h ?hj ?hb ?ht ?hag ?hs ?_);(case h=>exact rfl);(case hj=>exact rfl);(case hb=>exact rfl);(case ht=>exact rfl);(case hag=>exact rfl);(case hs=>exact rfl))|((with_reducible refine Br.dt ?h ?_);(case h=>omega))|((with_reducible refine Br.df ?h ?_);(case h=>omega))|((with_reducible refine Br.t ?h ?_);(case h=>assumption))|((with_reducible refine Br.f ?h ?_);(case h=>assumption))|((with_reducible refine Br.t ?h ?_);(case h=>(refine decide_eq_true ?_;omega)))|((with_reducible refine Br.f ?h ?_);(case h=>(refine decide_eq_false ?_;omega))));exact hk7q.run):A:=h ⟨k⟩
theorem sk37 {A B:Prop} (k:B) (h:Hd7 B→A:=by intro hk7q;(first|refine sb36 ?_|refine sb1 ?_|((with_reducible refine' Cp.by ?hc ?_);(case hc=>first|exact HP|exact HW|exact aa9 _ 6 (by decide) (by decide)|exact aa9 _ 11 (by decide) (by decide)|exact aa9 _ 25 (by decide) (by decide)|exact aa9 _ 2 (by decide) (by decide)|exact aa9 _ 13 (by decide) (by decide)|exact aa9 _ 22 (by decide) (by decide)))|((with_reducible refine' CE.pure ?hc ?_);(case hc=>first|exact HP|exact HW|exact aa9 _ 6 (by decide) (by decide)|exact aa9 _ 11 (by decide) (by decide)|exact aa9 _ 25 (by decide) (by decide)|exact aa9 _ 2 (by decide) (by decide)|exact aa9 _ 13 (by decide) (by decide)|exact aa9 _ 22 (by decide) (by decide))));exact hk7q.run):A:=h ⟨k⟩
theorem ce7 (y:List Nat) (hl:y.length≤1000000) (hlt:∀ d∈y,d<256):APure Tryz.prog 140 [slY y] (bb7 (sha y)):=by
 have HP:=ce8 y hl
 have hpm:=bT3 y.length
 have hpl:(padT y.length).length≤100:=by rw [aT0];unfold padZ;omega
 obtain ⟨m,hm⟩:∃ m,m=y ++ padT y.length:=⟨_,rfl⟩
 have hml:m.length=y.length+(padT y.length).length:=by rw [hm,List.length_append]
 have hmlt:∀ d∈m,d<256:=fun d hd=>by
  rw [hm] at hd
  rcases List.mem_append.1 hd with h|h
  ·exact hlt d h
  ·exact aS9 _ d h
 obtain ⟨N,hN⟩:∃ N,N=(y.length+(padT y.length).length) / 64:=⟨_,rfl⟩
 have hmN:m.length=64*N:=by omega
 have hat:=fun {i:Nat} (h:i<32)=>cd9 y h
 have hsl:=bR8 y
 rw [← hm,← hN] at hat
 rw [← hm] at HP
 generalize sha y=L at *
 refine eP7 Tryz.func140 Tryz.ntmps140 fun BB=>?_
 repeat' first|refine sk29 ?_|(intro b;conv=>whnf)
 rename_i b2
 refine aa5 mixed aa0 (γ:=Nat) (fun n=>[(5,iD ((64*n:Nat):Int))]) (fun n=>[(b,.cells 169 (s8L (shaN m n))),(b2,.cells 176 (yc32 []))]) (fun n=>n≤N) (fun n=>N - n) 0 (aa2 cl2) (Sc.refl _) (Nat.zero_le _) ?_
 intro n hn
 by_cases hnN:n<N
 ·skip
  have HW:=bE8 ((m.drop (64*n)).take 64) (by simp;omega) (fun d hd=>hmlt d (List.mem_of_mem_drop (List.mem_of_mem_take hd)))
  have hcp:shaN m (n+1)=(shaN m n).add (rnds (shaN m n) ((m.drop (64*n)).take 64) 64):=rfl
  generalize shaN m n=S at *
  obtain ⟨blk,hblk⟩:∃ blk,blk=(m.drop (64*n)).take 64:=⟨_,rfl⟩
  rw [← hblk] at HW hcp
  have hll:=ax3 blk 64
  obtain ⟨l,hL⟩:∃ l,l=schN blk 64:=⟨_,rfl⟩
  rw [← hL] at hll HW
  unfold aV3 at HW
  repeat' first|refine sk29 ?_|(intro b;conv=>whnf)
  refine Ot.yd (aj4 aa0 (l:=64*n) (h:=64*n+64) (ys:=blk.map yC) rfl rfl rfl rfl rfl (.inr ⟨_,_,_,rfl,rfl,rfl⟩) (.inr ⟨_,_,_,rfl,rfl,by omega⟩) (by omega) (by simp;omega) (by rw [hblk,List.drop_take,List.map_take,List.map_drop];congr 1;omega)) ?_
  repeat' first|refine sk31 ?_|(intro b;conv=>whnf)
  rename_i b0
  refine Sv.perm (cs':=l.map wD) (List.Perm.refl _) rfl (by decide) rfl (by rw [← aV2 hll];rfl) ?_
  repeat' first|refine sk33 ?_|(intro b;conv=>whnf)
  refine aa5 mixed aa0 (γ:=Nat) (fun t=>[(15,iD t),(7,wD (rnds S blk t).a),(8,wD (rnds S blk t).b),(9,wD (rnds S blk t).c),(10,wD (rnds S blk t).d),(11,wD (rnds S blk t).e),(12,wD (rnds S blk t).f),(13,wD (rnds S blk t).g),(14,wD (rnds S blk t).h)]) (fun t=>[(b,.cells 293 (l.map wD)),(b0,.cells 169 (s8L S)),(b2,.cells 176 (yc32 []))]) (fun t=>t≤64) (fun t=>64 - t) 0 (aa2 cl2) (Sc.refl _) (by decide) ?_
  intro t ht
  by_cases h64:t<64
  ·have hw:(l.map wD)[t]?=some (wD (l.getD t 0)):=by rw [List.getElem?_map,List.getD_eq_getElem?_getD,List.getElem?_eq_getElem (by omega)];rfl
   have hn:rnds S blk (t+1)=rnd (rnds S blk t) (kAt t) (l.getD t 0):=by rw [rnds,hL]
   generalize rnds S blk t=R at *
   repeat' first|refine sk33 ?_|(intro b;conv=>whnf)
   refine Ot.yd (aa3 (r:=wV (rotR R.e 6 ^^^ rotR R.e 11)) rfl rfl rfl (fun w=>aj7 _ _)) ?_;repeat' (first|refine sk33 ?_|(intro b;conv=>whnf))
   refine Ot.yd (aa3 (r:=wV (mixW R.e 6 11 25)) rfl rfl rfl (fun w=>aj7 _ _)) ?_;repeat' (first|refine sk33 ?_|(intro b;conv=>whnf))
   refine Ot.yd (aa3 (r:=wV (R.h+mixW R.e 6 11 25)) rfl rfl rfl (fun w=>ae5 _ _)) ?_;repeat' (first|refine sk33 ?_|(intro b;conv=>whnf))
   refine Ot.yd (aa3 (r:=wV (R.e &&& R.f)) rfl rfl rfl (fun w=>ay2 _ _)) ?_;repeat' (first|refine sk33 ?_|(intro b;conv=>whnf))
   refine Ot.yd (aa3 (r:=wV (R.e ^^^ BitVec.allOnes 32)) rfl rfl rfl (fun w=>aj7 R.e (BitVec.allOnes 32))) ?_;repeat' (first|refine sk33 ?_|(intro b;conv=>whnf))
   rw [BitVec.xor_allOnes]
   refine Ot.yd (aa3 (r:=wV (~~~R.e &&& R.g)) rfl rfl rfl (fun w=>ay2 _ _)) ?_;repeat' (first|refine sk33 ?_|(intro b;conv=>whnf))
   refine Ot.yd (aa3 (r:=wV (chW R.e R.f R.g)) rfl rfl rfl (fun w=>aj7 _ _)) ?_;repeat' (first|refine sk33 ?_|(intro b;conv=>whnf))
   refine Ot.yd (aa3 (r:=wV (R.h+mixW R.e 6 11 25+chW R.e R.f R.g)) rfl rfl rfl (fun w=>ae5 _ _)) ?_;repeat' (first|refine sk33 ?_|(intro b;conv=>whnf))
   refine Ot.yd (an1 aa0 (m:=t) (q:=t) rfl rfl rfl rfl rfl (by omega) (by omega) (Nat.zero_add _)) ?_;repeat' (first|refine sk33 ?_|(intro b;conv=>whnf))
   refine Ld.yd (cm5 h64 rfl rfl) ?_
   repeat' first|refine sk33 ?_|(intro b;conv=>whnf)
   refine Ot.yd (aa3 (r:=wV (R.h+mixW R.e 6 11 25+chW R.e R.f R.g+kAt t)) rfl rfl rfl (fun w=>ae5 _ _)) ?_;repeat' (first|refine sk33 ?_|(intro b;conv=>whnf))
   refine Ot.yd (an1 aa0 (m:=t) (q:=t) rfl rfl rfl rfl rfl (by omega) (by omega) (Nat.zero_add _)) ?_;repeat' (first|refine sk33 ?_|(intro b;conv=>whnf))
   refine Ld.cellm (tb:=293) (List.Mem.head _) hw ?_
   repeat' first|refine sk33 ?_|(intro b;conv=>whnf)
   refine Ot.yd (aa3 (r:=wV (R.h+mixW R.e 6 11 25+chW R.e R.f R.g+kAt t+l.getD t 0)) rfl rfl rfl (fun w=>ae5 _ _)) ?_;repeat' (first|refine sk33 ?_|(intro b;conv=>whnf))
   refine Ot.yd (aa3 (r:=wV (rotR R.a 2 ^^^ rotR R.a 13)) rfl rfl rfl (fun w=>aj7 _ _)) ?_;repeat' (first|refine sk33 ?_|(intro b;conv=>whnf))
   refine Ot.yd (aa3 (r:=wV (mixW R.a 2 13 22)) rfl rfl rfl (fun w=>aj7 _ _)) ?_;repeat' (first|refine sk33 ?_|(intro b;conv=>whnf))
   refine Ot.yd (aa3 (r:=wV (R.a &&& R.b)) rfl rfl rfl (fun w=>ay2 _ _)) ?_;repeat' (first|refine sk33 ?_|(intro b;conv=>whnf))
   refine Ot.yd (aa3 (r:=wV (R.a &&& R.c)) rfl rfl rfl (fun w=>ay2 _ _)) ?_;repeat' (first|refine sk33 ?_|(intro b;conv=>whnf))
   refine Ot.yd (aa3 (r:=wV ((R.a &&& R.b) ^^^ (R.a &&& R.c))) rfl rfl rfl (fun w=>aj7 _ _)) ?_;repeat' (first|refine sk33 ?_|(intro b;conv=>whnf))
   refine Ot.yd (aa3 (r:=wV (R.b &&& R.c)) rfl rfl rfl (fun w=>ay2 _ _)) ?_;repeat' (first|refine sk33 ?_|(intro b;conv=>whnf))
   refine Ot.yd (aa3 (r:=wV (majW R.a R.b R.c)) rfl rfl rfl (fun w=>aj7 _ _)) ?_;repeat' (first|refine sk33 ?_|(intro b;conv=>whnf))
   refine Ot.yd (aa3 (r:=wV (mixW R.a 2 13 22+majW R.a R.b R.c)) rfl rfl rfl (fun w=>ae5 _ _)) ?_;repeat' (first|refine sk33 ?_|(intro b;conv=>whnf))
   refine Ot.yd (aa3 (r:=wV (R.d+(R.h+mixW R.e 6 11 25+chW R.e R.f R.g+kAt t+l.getD t 0))) rfl rfl rfl (fun w=>ae5 _ _)) ?_;repeat' (first|refine sk33 ?_|(intro b;conv=>whnf))
   refine Ot.yd (aa3 (r:=wV (R.h+mixW R.e 6 11 25+chW R.e R.f R.g+kAt t+l.getD t 0+(mixW R.a 2 13 22+majW R.a R.b R.c))) rfl rfl rfl (fun w=>ae5 _ _)) ?_;repeat' (first|refine sk33 ?_|(intro b;conv=>whnf))
   exact ⟨t+1,(by simp only [hn];exact (aa2 cl2)),Sc.refl _,by omega,by omega⟩
  ·obtain rfl:t=64:=by omega
   generalize rnds S blk 64=R at *
   repeat' first|refine sk33 ?_|(intro b;conv=>whnf)
   refine Ot.yd (aa3 (r:=wV (S.a+R.a)) rfl rfl rfl (fun w=>ae5 _ _)) ?_;repeat' (first|refine sk33 ?_|(intro b;conv=>whnf))
   refine Ot.yd (aa3 (r:=wV (S.b+R.b)) rfl rfl rfl (fun w=>ae5 _ _)) ?_;repeat' (first|refine sk33 ?_|(intro b;conv=>whnf))
   refine Ot.yd (aa3 (r:=wV (S.c+R.c)) rfl rfl rfl (fun w=>ae5 _ _)) ?_;repeat' (first|refine sk33 ?_|(intro b;conv=>whnf))
   refine Ot.yd (aa3 (r:=wV (S.d+R.d)) rfl rfl rfl (fun w=>ae5 _ _)) ?_;repeat' (first|refine sk33 ?_|(intro b;conv=>whnf))
   refine Ot.yd (aa3 (r:=wV (S.e+R.e)) rfl rfl rfl (fun w=>ae5 _ _)) ?_;repeat' (first|refine sk33 ?_|(intro b;conv=>whnf))
   refine Ot.yd (aa3 (r:=wV (S.f+R.f)) rfl rfl rfl (fun w=>ae5 _ _)) ?_;repeat' (first|refine sk33 ?_|(intro b;conv=>whnf))
   refine Ot.yd (aa3 (r:=wV (S.g+R.g)) rfl rfl rfl (fun w=>ae5 _ _)) ?_;repeat' (first|refine sk33 ?_|(intro b;conv=>whnf))
   refine Ot.yd (aa3 (r:=wV (S.h+R.h)) rfl rfl rfl (fun w=>ae5 _ _)) ?_;repeat' (first|refine sk33 ?_|(intro b;conv=>whnf))
   exact ⟨n+1,(aa2 cl2),by rw [hcp];exact Sc.sl (List.sublist_cons_self _ _),by omega,by omega⟩
 ·obtain rfl:n=N:=by omega
  generalize shaN m n=S at *
  repeat' first|refine sk33 ?_|(intro b;conv=>whnf)
  rename_i b0
  refine aa5 mixed aa0 (γ:=Nat) (fun i=>[(19,iD i)]) (fun i=>[(b,.cells 176 (yc32 (L.take i))),(b0,.cells 169 (s8L S)),(b2,.cells 176 (yc32 []))]) (fun i=>i≤32) (fun i=>32 - i) 0 (aa2 cl2) (Sc.refl _) (by decide) ?_
  intro i hi
  have hsi:(L.take i).length=i:=by rw [List.length_take];omega
  by_cases hi32:i<32
  ·have htd:((i:Int)).tdiv 4=((i / 4:Nat):Int):=cd2 i 4
   have htm:((i:Int)).tmod 4=((i % 4:Nat):Int):=bc9 i 4
   have hp:=bp6 (l:=L.take i) (by omega) (ax1 S i)
   have hwl:=bL7 (l:=L.take i) (by omega)
   rw [hsi,← av9 (hat hi32)] at hp
   repeat' first|refine sk33 ?_|(intro b;conv=>whnf)
   refine Sd.go ⟨by decide,by rw [htd];exact ⟨by omega,by omega⟩⟩ ?_
   rw [htd]
   repeat' first|refine sk33 ?_|(intro b;conv=>whnf)
   refine Ot.yd (an1 aa0 (m:=i / 4) (q:=i / 4) rfl rfl rfl rfl rfl ?hq1 ?hq2 (Nat.zero_add _)) ?_;(case hq1=>first|exact htd|omega);(case hq2=>omega);repeat' (first|refine sk33 ?_|(intro b;conv=>whnf))
   refine Ld.cellm (tb:=169) (List.Mem.tail _ (List.Mem.head _)) (ce1 S (i:=i / 4) (by omega)) ?_
   repeat' first|refine sk33 ?_|(intro b;conv=>whnf)
   rw [show (24:Int) - 8*(i:Int).tmod 4=((24 - 8*(i % 4):Nat):Int) by rw [htm];omega]
   refine Ot.yd (aa3 (r:=.int .u32 (((S.list.getD (i / 4) 0).toNat / 2 ^ (24 - 8*(i % 4)):Nat):Int)) rfl rfl rfl (fun w=>ap0 .u32 _ .i64 (24 - 8*(i % 4)) (by show _≤32;omega))) ?_
   repeat' first|refine sk33 ?_|(intro b;conv=>whnf)
   refine Ot.yd (ab5 (m:=((ax1 S i:Nat):Int)) rfl rfl Tryz.underlying168 Tryz.underlying5 (by unfold ax1;simp only [IntKind.wrap_u8];omega)) ?_
   repeat' first|refine sk33 ?_|(intro b;conv=>whnf)
   refine Ot.yd (an1 aa0 (m:=i) (q:=i) rfl rfl rfl rfl rfl ?hq1 ?hq2 (Nat.zero_add _)) ?_;(case hq1=>first|exact htd|omega);(case hq2=>omega);repeat' (first|refine sk33 ?_|(intro b;conv=>whnf))
   refine Sv.cellm (List.Perm.refl _) (by rw [hwl];exact hi32) rfl hp ?_
   repeat' first|refine sk33 ?_|(intro b;conv=>whnf)
   exact ⟨i+1,(aa2 cl2),Sc.refl _,by omega,by omega⟩
  ·obtain rfl:i=32:=by omega
   rw [List.take_of_length_le (by omega)]
   have hwf:=bp7 hsl
   repeat' first|refine sk35 ?_|(intro b;conv=>whnf)
   refine Ld.mem (tb:=176) (cs:=yc32 L) (d:=bb7 L) (List.Mem.head _) (by rw [hwf,List.length_map,hsl];decide) (by rw [hwf];unfold bb7;rw [aP6 hsl];simp only [mkD,List.drop_zero];rw [List.take_of_length_le (by simp [hsl])];rfl) ?_
   unfold bb7
   repeat' first|refine sk37 ?_|(intro b;conv=>whnf)
   refine Sv.perm (tb:=176) (cs:=yc32 []) (τ:=[(b,.cells 176 (yc32 L)),(b0,.cells 169 (s8L S))]) (cs':=(List.range 32).map fun i=>yD (L.getD i 0)) cl12 rfl (by decide) rfl rfl ?_
   repeat' first|refine sk37 ?_|(intro b;conv=>whnf)
   exact Rt.pure rfl
end
section
open Go Go.RowKit Go.Shelf
section
variable {P:Program} {σ:aa1} {ρ:Operand→D} {T:TypeId→Option TI}
theorem Pk.part {b off n c:Nat} {tb:TypeId} {cs:List D} {xs:List (List D)} (hb:(b,Blk.cells tb cs)∈σ) (hl:xs.length=n) (hn:n≤c) (hx:∀ (q:Nat) x,xs[q]?=some x→∃ d,x=[d]∧cs[off+q]?=some d):Pk σ (.v (.slice (some ⟨b,off,none⟩) n c)) (.sl 1 xs):=⟨fun w X u hs hr=>by
 have:=hr.val rfl
 subst this
 subst hl
 obtain ⟨_,ob,hob,vs,rfl,hvs⟩:=hs.at_ b _ hb
 refine .sl 1 xs (some ⟨b,off,none⟩) c (fun q _=>vs.getD (off+q) undef) hn (fun x h=>?_) (fun q x hq=>⟨b,off,rfl,fun h=>h,(Array.getElem?_eq_some_iff.1 hob).1,fun m hm=>?_⟩) (fun q x hq m d hd=>?_)
 ·obtain ⟨q,hq⟩:=List.getElem?_of_mem h
  obtain ⟨d,rfl,_⟩:=hx q x hq
  rfl
 ·obtain ⟨d,rfl,h2⟩:=hx q x hq
  obtain ⟨u,k1,k2⟩:=hvs.get h2
  obtain rfl:m=0:=by omega
  have hlt:=(List.getElem?_eq_some_iff.1 k1).1
  simp [World.cell?,hob,List.getD_eq_getElem?_getD,k1]
 ·obtain ⟨d',rfl,h2⟩:=hx q x hq
  cases m with
  | zero=>
   cases hd
   obtain ⟨u,k1,k2⟩:=hvs.get h2
   simpa [List.getD_eq_getElem?_getD,k1] using k2.stable
  | succ m=>cases hd⟩
theorem bm1 (hT:∀ t i,T t=some i→tiOf P t=some i) {o:Oper} {t:TypeId} {x y:Operand} {l:List Nat} {kk:IntKind} {j:Int} {k:Nat} {i:TI} (ho:o.op = .slice t x (some y) none none) (hx:ρ x=strY l) (hi:ρ y = .v (.int kk j)) (ht:T t=some i) (hs:i.str=true) (hj:j=(k:Int)) (hk:k≤l.length):Yd P o ρ σ (strY (l.drop k)):=by
 subst hj
 intro w X η hη hst
 obtain ⟨dst,op,ty,pos,aft,g⟩:=o
 simp only at ho
 subst ho
 have h1:=(hη x (by simp [Op.operands])).val hx
 have h2:=(hη y (by simp [Op.operands])).val hi
 have hu:=bi2 (hT t i ht) hs
 have he:(strB l).extract k (strB l).size=strB (l.drop k):=by
  apply ByteArray.ext
  unfold strB
  simp [ByteArray.size]
  exact List.take_of_length_le (by simp)
 refine ac8 (s:=Instr.sliceAt t (η x) ((some y).map η) ((none:Option Operand).map η) ((none:Option Operand).map η)) (u:=.string (strB (l.drop k))) ?_ (Ex.refl w) (.v _)
 rw [h1]
 have hle:k≤(strB l).size:=by rw [aj6];exact hk
 simp [Instr.sliceAt,run_underlying hu,Result.andThen,Instr.slice,Instr.sliceBounds,Instr.sliceBound,h2,asIntOf,hle,he]
end
section
variable {P:Program} {t:TypeId} {p q:Operand} {w:World}
theorem cn3 {n:Nat}:(do eqGuard .rem t p q (.int .u64 (n:Int)) (.int .u64 64);binOp .rem t (.int .u64 (n:Int)) (.int .u64 64)).run P w = .ok (.int .u64 ((n % 64:Nat):Int)) w:=by
 have h:((n:Int)).tmod 64=((n % 64:Nat):Int):=bc9 n 64
 simp [eqGuard,binOp,Op.intDiv,h]
theorem addU {n k:Nat} (h:n+k≤1000000000):(do eqGuard .add t p q (.int .u64 (n:Int)) (.int .u64 (k:Int));binOp .add t (.int .u64 (n:Int)) (.int .u64 (k:Int))).run P w = .ok (.int .u64 ((n+k:Nat):Int)) w:=by
 show Result.ok (Value.int .u64 (IntKind.u64.wrap _)) w=_
 have e:IntKind.u64.wrap ((n:Int)+(k:Int))=((n+k:Nat):Int):=by rw [IntKind.wrap_u64];omega
 rw [e]
end
/-! ### Streams -/
structure Strm where
 S:S8
 b:List Nat
 n:Nat
structure Strm.OK (s:Strm):Prop where
 len:s.b.length=64
 lt:∀ d∈s.b,d<256
def Strm.cut (s:Strm) (t:List Nat):Nat:=Nat.min t.length (64 - s.n % 64)
def Strm.step (s:Strm) (t:List Nat):Strm:=
 ⟨if s.n % 64+s.cut t=64 then aU5 s.S (putB s.b (s.n % 64) (t.take (s.cut t))) else s.S,putB s.b (s.n % 64) (t.take (s.cut t)),s.n+s.cut t⟩
def Strm.add:Nat→Strm→List Nat→Strm
 | 0,s,_=>s
 | f+1,s,t=>if t=[] then s else Strm.add f (s.step t) (t.drop (s.cut t))
theorem Strm.add_nil (f:Nat) (s:Strm):Strm.add f s []=s:=by cases f <;> rfl
theorem Strm.cut_le (s:Strm) (t:List Nat):s.cut t≤t.length∧s.n % 64+s.cut t≤64∧(t≠[]→0<s.cut t):=by
 have h1:s.n % 64<64:=Nat.mod_lt _ (by decide)
 have h2:s.cut t=min t.length (64 - s.n % 64):=rfl
 refine ⟨by omega,by omega,fun h=>?_⟩
 have:=List.length_pos_iff.2 h
 omega
theorem bT0 {b t:List Nat} {a:Nat} (hb:∀ d∈b,d<256) (ht:∀ d∈t,d<256):∀ d∈putB b a t,d<256:=by
 intro d hd
 unfold putB at hd
 simp only [List.mem_append] at hd
 rcases hd with (h|h)|h
 ·exact hb d (List.mem_of_mem_take h)
 ·exact ht d h
 ·exact hb d (List.mem_of_mem_drop h)
theorem Strm.step_ok {s:Strm} (h:s.OK) {t:List Nat} (ht:∀ d∈t,d<256):(s.step t).OK:=by
 obtain ⟨h1,h2,_⟩:=s.cut_le t
 refine ⟨?_,bT0 h.lt (fun d hd=>ht d (List.mem_of_mem_take hd))⟩
 show (putB s.b (s.n % 64) (t.take (s.cut t))).length=64
 rw [aS8 (by rw [List.length_take,h.len];omega)]
 exact h.len
structure Strm.Has (s:Strm) (m:List Nat):Prop where
 ok:StrOK m s.S s.b
 n:s.n=m.length
theorem Strm.step_has {s:Strm} {m t:List Nat} (h:s.Has m):(s.step t).Has (m ++ t.take (s.cut t)):=by
 obtain ⟨h1,h2,_⟩:=s.cut_le t
 have hn:=h.n
 have hl:(t.take (s.cut t)).length=s.cut t:=by rw [List.length_take];omega
 refine ⟨?_,by show s.n+s.cut t=_;rw [List.length_append,hl,hn]⟩
 show StrOK _ (if s.n % 64+s.cut t=64 then aU5 s.S (putB s.b (s.n % 64) (t.take (s.cut t))) else s.S) (putB s.b (s.n % 64) (t.take (s.cut t)))
 split
 ·rename_i h3
  rw [hn] at h3 ⊢
  exact h.ok.full (by rw [hl];exact h3)
 ·rename_i h3
  rw [hn] at h3 h2 ⊢
  exact h.ok.more (by rw [hl];omega)
theorem Strm.add_has:∀ (f:Nat) {s:Strm} {m t:List Nat},s.Has m→t.length≤f→(Strm.add f s t).Has (m ++ t)
 | 0,s,m,t,h,hf=>by
  have:t=[]:=List.length_eq_zero_iff.1 (by omega)
  subst this
  rw [List.append_nil];exact h
 | f+1,s,m,t,h,hf=>by
  unfold Strm.add
  split
  ·rename_i h0;subst h0;rw [List.append_nil];exact h
  ·rename_i h0
   obtain ⟨h1,h2,h3⟩:=s.cut_le t
   have h4:=h3 h0
   have:=add_has f (step_has (t:=t) h) (t:=t.drop (s.cut t)) (by rw [List.length_drop];omega)
   rwa [List.append_assoc,List.take_append_drop] at this
theorem Strm.add_ok:∀ (f:Nat) {s:Strm} {t:List Nat},s.OK→(∀ d∈t,d<256)→(Strm.add f s t).OK
 | 0,s,t,h,_=>h
 | f+1,s,t,h,ht=>by
  unfold Strm.add
  split
  ·exact h
  ·exact add_ok f (step_ok h ht) (fun d hd=>ht d (List.mem_of_mem_drop hd))
abbrev uD (n:Nat):D:=.v (.int .u64 (n:Int))
abbrev strL (s:Strm):List D:=s8L s.S ++ (s.b.map yD ++ [uD s.n])
def strD (s:Strm):D:=.agg (s8L s.S ++ ((List.range 64).map (fun i=>yD (s.b.getD i 0)) ++ [uD s.n]))
theorem aE5 {l:List Nat} (h:l.length=64):(List.range 64).map (fun i=>yD (l.getD i 0))=l.map yD:=by
 refine List.ext_getElem (by simp [h]) fun i h1 h2=>?_
 simp only [List.length_map,List.length_range] at h1
 have h3:i<l.length:=by omega
 simp [List.getD_eq_getElem?_getD,h3]
theorem aQ6 {s:Strm} (h:s.OK):strD s = .agg (strL s):=by unfold strD;rw [aE5 h.len]
theorem ah0 {s:Strm} (h:s.OK):(strL s).length=73:=by simp [strL,h.len]
theorem bi5 {s:Strm} (h:s.OK):(strL s)[72]?=some (uD s.n):=by
 unfold strL
 rw [List.getElem?_append_right (by simp),List.getElem?_append_right (by simp [h.len])]
 simp [h.len]
theorem bs9 {s:Strm} (h:s.OK) (n:Nat):(strL s).set 72 (uD n)=strL ⟨s.S,s.b,n⟩:=by
 unfold strL
 rw [List.set_append_right _ _ (by simp),List.set_append_right _ _ (by simp [h.len])]
 simp [h.len]
theorem bR6 {A B C new:List D} {at_:Nat} (h:at_+new.length≤B.length):spl (A ++ (B ++ C)) (A.length+at_) new=A ++ (spl B at_ new ++ C):=by
 unfold spl
 rw [List.take_append,List.take_of_length_le (by omega),Nat.add_sub_cancel_left,List.take_append_of_le_length (by omega),List.drop_append,List.drop_of_length_le (by omega),List.nil_append,show A.length+at_+new.length - A.length=at_+new.length by omega,List.drop_append_of_le_length h]
 simp [List.append_assoc]
theorem bD8 {s:Strm} (h:s.OK) {at_:Nat} {t:List Nat} (ht:at_+t.length≤64):spl (strL s) (8+at_) (t.map yD)=strL ⟨s.S,putB s.b at_ t,s.n⟩:=by
 have:=bR6 (A:=s8L s.S) (B:=s.b.map yD) (C:=[uD s.n]) (new:=t.map yD) (at_:=at_) (by rw [List.length_map,List.length_map,h.len];exact ht)
 show spl (s8L s.S ++ (s.b.map yD ++ [uD s.n])) ((s8L s.S).length+at_) (t.map yD)=_
 rw [this]
 unfold strL spl putB
 simp [List.map_append,List.map_take,List.map_drop]
def strm0:Strm:=⟨bV6,List.replicate 64 0,0⟩
theorem bs8:strm0.Has []:=⟨StrOK.begin (List.replicate 64 0) List.length_replicate,rfl⟩
theorem bi4:strm0.OK:=⟨List.length_replicate,fun d hd=>by rw [(List.mem_replicate.1 hd).2];decide⟩
theorem aH3:APure Tryz.prog 82 [] (strD strm0):=by
 refine eP7 Tryz.func82 Tryz.ntmps82 fun BB=>?_
 repeat' first|refine sk2 ?_|(intro b;conv=>whnf)
 exact Rt.pure rfl
end
end Go.Proofs.YtlcfiilejnnlnaaGreatDoor
