/- A part of the proof: O2. -/
import Derived.Test.YtjbbmjjildhfbaaGreatDoorA10
set_option maxRecDepth 100000
set_option maxHeartbeats 4000000
set_option linter.unusedVariables false
set_option linter.unusedSimpArgs false
namespace Go.Proofs.YtjbbmjjildhfbaaGreatDoor
section
open Go Go.RowKit Go.Shelf
section
variable {P : Program} {r : Option Nat} {n : Nat} {df : Nat} {ops : Array Oper} {Q : Pst} {a : List D} {σ : Store} {md : Region.Mode}
def inE (l : List Nat) (i : Nat) : Bool:=l.any (Nat.beq i)
inductive Or2 where
 | done
 | one (i : Nat) (t : Or2)
 | two (i : Nat) (t : Or2) (j : Nat) (u : Or2)
 | three (i : Nat) (t : Or2) (j : Nat) (u : Or2) (k : Nat) (v : Or2)
 | fst (i : Nat) (t : Or2)
def or2B (md : Region.Mode) (ops : Array Oper) (E : Nat → Bool) : Nat → Or2 → Array Bool → Bool
 | 0,.done,listed=>(Region.ready md ops listed).isEmpty
 | f + 1,.one i t,listed=>decide (Region.ready md ops listed = [i]) && (E i && or2B md ops E f t (listed.setIfInBounds i true))
 | f + 1,.two i t j u,listed=>decide (Region.ready md ops listed = [i,j]) && (E i && E j && (or2B md ops E f t (listed.setIfInBounds i true) && or2B md ops E f u (listed.setIfInBounds j true)))
 | f + 1,.three i t j u k v,listed=>decide (Region.ready md ops listed = [i,j,k]) && (E i && E j && E k && (or2B md ops E f t (listed.setIfInBounds i true) && (or2B md ops E f u (listed.setIfInBounds j true) && or2B md ops E f v (listed.setIfInBounds k true))))
 | f + 1,.fst i t,listed=>(Region.ready md ops listed).contains i && Region.free md ops listed i && !E i && or2B md ops E f t (listed.setIfInBounds i true)
 | _,_,_=>false
def gOr2 (P : Program) (r : Option Nat) (n : Nat) (df : Nat) (ops : Array Oper) (E : Nat → Bool) (L : List D → Store → Prop) : Or2 → List D → Store → Prop
 | .done,a,σ=>L a σ
 | .one i t,a,σ=>gOp P r n df ops E i (gOr2 P r n df ops E L t) a σ
 | .two i t j u,a,σ=>gOp P r n df ops E i (gOr2 P r n df ops E L t) a σ ∧ gOp P r n df ops E j (gOr2 P r n df ops E L u) a σ
 | .three i t j u k v,a,σ=>gOp P r n df ops E i (gOr2 P r n df ops E L t) a σ ∧ gOp P r n df ops E j (gOr2 P r n df ops E L u) a σ ∧ gOp P r n df ops E k (gOr2 P r n df ops E L v) a σ
 | .fst i t,a,σ=>∃ o d,ops[i]? = some o ∧ YsIn none P ops [] o d a ∧ gOr2 P r n df ops E L t (putD a o.dst d) σ
theorem gAny_of_or2 {E : Nat → Bool} {L : List D → Store → Prop} : ∀ (f : Nat) (t : Or2) (listed : Array Bool) (a : List D) (σ : Store),HeadInv md ops ops.size listed → or2B md ops E f t listed = true → gOr2 P r n df ops E L t a σ → gAny P r n df md ops E L f listed a σ
 | 0,.done,listed,a,σ,_,hB,h=>⟨by simpa [or2B] using hB,h⟩
 | f + 1,.one i t,listed,a,σ,inv,hB,h=>by
  simp only [or2B,Bool.and_eq_true,decide_eq_true_eq] at hB
  refine ⟨fun h1=>(by rw [hB.1] at h1;cases h1),fun k hk=>?_⟩
  have hk2:=hk
  rw [hB.1] at hk
  have : k = i:=by simpa using hk
  subst this
  obtain ⟨_,o,ho,_⟩:=mem_ready.1 hk2
  exact gOp_mono (fun a' σ' h'=>gAny_of_or2 f t _ a' σ' (inv.set hk2 (Array.getElem?_eq_some_iff.1 ho).1) hB.2.2 h') h
 | f + 1,.two i t j u,listed,a,σ,inv,hB,h=>by
  simp only [or2B,Bool.and_eq_true,decide_eq_true_eq] at hB
  refine ⟨fun h1=>(by rw [hB.1] at h1;cases h1),fun k hk=>?_⟩
  have hk2:=hk
  rw [hB.1] at hk
  obtain ⟨_,o,ho,_⟩:=mem_ready.1 hk2
  have inv':=inv.set hk2 (Array.getElem?_eq_some_iff.1 ho).1
  have : k = i ∨ k = j:=by simpa using hk
  rcases this with rfl | rfl
  ·exact gOp_mono (fun a' σ' h'=>gAny_of_or2 f t _ a' σ' inv' hB.2.2.1 h') h.1
  ·exact gOp_mono (fun a' σ' h'=>gAny_of_or2 f u _ a' σ' inv' hB.2.2.2 h') h.2
 | f + 1,.three i t j u l v,listed,a,σ,inv,hB,h=>by
  simp only [or2B,Bool.and_eq_true,decide_eq_true_eq] at hB
  refine ⟨fun h1=>(by rw [hB.1] at h1;cases h1),fun k hk=>?_⟩
  have hk2:=hk
  rw [hB.1] at hk
  obtain ⟨_,o,ho,_⟩:=mem_ready.1 hk2
  have inv':=inv.set hk2 (Array.getElem?_eq_some_iff.1 ho).1
  have : k = i ∨ k = j ∨ k = l:=by simpa using hk
  rcases this with rfl | rfl | rfl
  ·exact gOp_mono (fun a' σ' h'=>gAny_of_or2 f t _ a' σ' inv' hB.2.2.1 h') h.1
  ·exact gOp_mono (fun a' σ' h'=>gAny_of_or2 f u _ a' σ' inv' hB.2.2.2.1 h') h.2.1
  ·exact gOp_mono (fun a' σ' h'=>gAny_of_or2 f v _ a' σ' inv' hB.2.2.2.2 h') h.2.2
 | f + 1,.fst i t,listed,a,σ,inv,hB,h=>by
  simp only [or2B,Bool.and_eq_true,Bool.not_eq_true'] at hB
  obtain ⟨⟨⟨hr,hf⟩,hE⟩,hB'⟩:=hB
  obtain ⟨o,d,ho,hy,hk⟩:=h
  have hr' : i ∈ Region.ready md ops listed:=by simpa using hr
  have hin : i < ops.size:=(Array.getElem?_eq_some_iff.1 ho).1
  have H:=gAny_of_or2 f t _ _ _ (inv.set hr' hin) hB' hk
  exact gAny_first (S:=fun _=>True) ho hE (fun _ _ _ _ _ _ _=>trivial) f listed a σ inv (Region.free_spec ho hf) hr' trivial (fun s _=>hy.free s) H
 | 0,.one _ _,_,_,_,_,hB,_=>by cases hB
 | 0,.three _ _ _ _ _ _,_,_,_,_,hB,_=>by cases hB
 | 0,.two _ _ _ _,_,_,_,_,hB,_=>by cases hB
 | 0,.fst _ _,_,_,_,_,hB,_=>by cases hB
 | _ + 1,.done,_,_,_,_,hB,_=>by cases hB
def mixO2 (md : Region.Mode) (ops : Array Oper) (E : Nat → Bool) (f : Nat) (t : Or2) : List Nat → Array Bool → Bool
 | [],listed=>or2B md ops E f t listed
 | i :: hs,listed=>(Region.ready md ops listed).contains i && Region.free md ops listed i && !E i && mixO2 md ops E f t hs (listed.setIfInBounds i true)
theorem gAny_of_lex2 {E : Nat → Bool} {L : List D → Store → Prop} {f : Nat} {t : Or2} : ∀ (hs : List Nat) (listed : Array Bool) (a : List D) (σ : Store),HeadInv md ops ops.size listed → mixO2 md ops E f t hs listed = true →
  gLex P md ops E (gOr2 P r n df ops E L t) hs a σ → gAny P r n df md ops E L (hs.length + f) listed a σ
 | [],listed,a,σ,inv,hB,h=>by
  rw [show ([] : List Nat).length + f = f by simp]
  exact gAny_of_or2 f t listed a σ inv hB h
 | i :: hs,listed,a,σ,inv,hB,h=>by
  simp only [mixO2,Bool.and_eq_true,Bool.not_eq_true'] at hB
  obtain ⟨⟨⟨hr,hf⟩,hE⟩,hB'⟩:=hB
  obtain ⟨o,d,ho,hy,hk⟩:=h
  have hr' : i ∈ Region.ready md ops listed:=by simpa using hr
  have hin : i < ops.size:=(Array.getElem?_eq_some_iff.1 ho).1
  have H:=gAny_of_lex2 hs _ _ _ (inv.set hr' hin) hB' hk
  rw [show (i :: hs).length + f = (hs.length + f) + 1 by simp;omega]
  rcases hy with ⟨hb,hy⟩ | hy
  ·exact gAny_first (S:=fun s=>s = σ) ho hE (fun ls i1 i2 j hj e=>by rw [barB_ok hb ls i1 i2 j hj] at e;cases e) _ listed a σ inv (Region.free_spec ho hf) hr' rfl (fun s e=>by subst e;exact hy) H
  ·exact gAny_first (S:=fun _=>True) ho hE (fun _ _ _ _ _ _ _=>trivial) _ listed a σ inv (Region.free_spec ho hf) hr' trivial (fun s _=>hy.free s) H
theorem awp_draw_or2 {id : Nat} {l : List Oper} (E : Nat → Bool) (hs : List Nat) (f : Nat) (t : Or2) (hm : P.follows .mixedOrders = true) (hl : hs.length + f = l.length) (hB : mixO2 .any l.toArray E f t hs (Array.replicate l.length false) = true)
  (h : gLex P .any l.toArray E (gOr2 P r n df l.toArray E (fun a σ=>Q .normal a σ) t) hs a σ) : AWP P r n df (.region id l.toArray true) Q a σ:=by
 refine ⟨fun w X fr hst=>?_⟩
 have inv0 : HeadInv .any l.toArray l.toArray.size (Array.replicate l.length false):=
  ⟨by simp,fun j oj _ hl=>(by rw [getD_replicate_false] at hl;cases hl),fun t ht ht'=>by omega⟩
 refine wpIn_region_any hm ?_
 have hx0:=ex_drawn w
 have:=any_of_gAny (w0:=w) (σ0:=σ) (X:=X) _ _ _ _ fr { w with drawn:=w.drawn + 1 } (Mv.of_ex hx0) (hst.ex hx0) (gAny_of_lex2 hs _ a σ inv0 hB h)
 rw [hl] at this
 have e : l.toArray.size = l.length:=by simp
 rw [e]
 exact this
theorem gOr2_mono {E : Nat → Bool} {L L' : List D → Store → Prop} (h : ∀ a σ,L a σ → L' a σ) : ∀ {t : Or2} {a : List D} {σ : Store},gOr2 P r n df ops E L t a σ → gOr2 P r n df ops E L' t a σ
 | .done,_,_,hh=>h _ _ hh
 | .one _ _,_,_,hh=>gOp_mono (fun _ _=>gOr2_mono h) hh
 | .two _ _ _ _,_,_,hh=>⟨gOp_mono (fun _ _=>gOr2_mono h) hh.1,gOp_mono (fun _ _=>gOr2_mono h) hh.2⟩
 | .three _ _ _ _ _ _,_,_,hh=>⟨gOp_mono (fun _ _=>gOr2_mono h) hh.1,gOp_mono (fun _ _=>gOr2_mono h) hh.2.1,gOp_mono (fun _ _=>gOr2_mono h) hh.2.2⟩
 | .fst _ _,_,_,hh=>let ⟨o,d,h1,h2,h3⟩:=hh;⟨o,d,h1,h2,gOr2_mono h h3⟩
end
section
variable {P : Program} {r : Option Nat} {n : Nat} {df : Nat} {N : Nat} {σ : Store} {a : List D} {f : Frm} {T : TypeId → Option TI} {L : List Oper} {Q : Fst}
def exFst (P : Program) (T : TypeId → Option TI) (N : Nat) (L : List Oper) (i : Nat) (K : Frm → Prop) (f : Frm) : Prop:=match L[i]? with
 | none=>False
 | some o=>exG L f o fun go=>match go with
  | true=>bif noDefer o.op then exY P T o f [] (fun d=>putK N o.dst d f K) else False
  | false=>putK N o.dst (.v undef) f K
def exOr2 (P : Program) (T : TypeId → Option TI) (r : Option Nat) (n : Nat) (df : Nat) (N : Nat) (L : List Oper) (K : Frm → Store → Prop) : Or2 → Frm → Store → Prop
 | .done,f,σ=>K f σ
 | .one i t,f,σ=>exStepB P T r n df N L i (exOr2 P T r n df N L K t) f σ
 | .two i t j u,f,σ=>exStepB P T r n df N L i (exOr2 P T r n df N L K t) f σ ∧ exStepB P T r n df N L j (exOr2 P T r n df N L K u) f σ
 | .three i t j u k v,f,σ=>exStepB P T r n df N L i (exOr2 P T r n df N L K t) f σ ∧ exStepB P T r n df N L j (exOr2 P T r n df N L K u) f σ ∧ exStepB P T r n df N L k (exOr2 P T r n df N L K v) f σ
 | .fst i t,f,σ=>exFst P T N L i (fun f'=>exOr2 P T r n df N L K t f' σ) f
theorem exFst_ok (hT : ∀ t i,T t = some i → tiOf P t = some i) {i : Nat} {K : Frm → Prop} (h : exFst P T N L i K f) (hs : Sp N a f) : ∃ o d,L.toArray[i]? = some o ∧ YsIn none P L.toArray [] o d a ∧ ∃ f',Sp N (putD a o.dst d) f' ∧ K f':=by
 unfold exFst at h
 split at h
 ·exact h.elim
 ·rename_i o ho
  have ho' : L.toArray[i]? = some o:=by simpa using ho
  obtain ⟨go,hw,h1⟩:=exG_ok (K:=fun go=>match go with
   | true=>bif noDefer o.op then exY P T o f [] (fun d=>putK N o.dst d f K) else False
   | false=>putK N o.dst (.v undef) f K) h hs
  cases go with
  | true=>
   obtain ⟨hn,h2⟩:=cond_ok h1
   obtain ⟨d,hy,h3⟩:=exY_ok hT h2
   obtain ⟨f',hs',h4⟩:=putK_ok h3 hs
   exact ⟨o,d,ho',.inl ⟨hw,hn,.of (hy.le hs.le)⟩,f',hs',h4⟩
  | false=>
   obtain ⟨f',hs',h4⟩:=putK_ok h1 hs
   exact ⟨o,_,ho',.inr ⟨hw,rfl⟩,f',hs',h4⟩
def or2All (p : Nat → Bool) : Or2 → Bool
 | .done=>true
 | .one i t=>p i && or2All p t
 | .two i t j u=>p i && (or2All p t && (p j && or2All p u))
 | .three i t j u k v=>p i && (or2All p t && (p j && (or2All p u && (p k && or2All p v))))
 | .fst _ t=>or2All p t
theorem exOr2_ok (hT : ∀ t i,T t = some i → tiOf P t = some i) {E : Nat → Bool} : ∀ {t : Or2} {K : Frm → Store → Prop} {f : Frm} {σ : Store} {a : List D},or2All E t = true → exOr2 P T r n df N L K t f σ → Sp N a f → gOr2 P r n df L.toArray E (fun a' σ'=>∃ f',Sp N a' f' ∧ K f' σ') t a σ
 | .done,K,f,σ,a,hE,h,hs=>⟨f,hs,h⟩
 | .one i t,K,f,σ,a,hE,h,hs=>by
  simp only [or2All,Bool.and_eq_true] at hE
  exact exStepB_ok hT hE.1 h hs (fun f' σ' a' h2 hs'=>exOr2_ok hT hE.2 h2 hs')
 | .two i t j u,K,f,σ,a,hE,h,hs=>by
  simp only [or2All,Bool.and_eq_true] at hE
  exact ⟨exStepB_ok hT hE.1 h.1 hs (fun f' σ' a' h2 hs'=>exOr2_ok hT hE.2.1 h2 hs'),exStepB_ok hT hE.2.2.1 h.2 hs (fun f' σ' a' h2 hs'=>exOr2_ok hT hE.2.2.2 h2 hs')⟩
 | .three i t j u k v,K,f,σ,a,hE,h,hs=>by
  simp only [or2All,Bool.and_eq_true] at hE
  exact ⟨exStepB_ok hT hE.1 h.1 hs (fun f' σ' a' h2 hs'=>exOr2_ok hT hE.2.1 h2 hs'),exStepB_ok hT hE.2.2.1 h.2.1 hs (fun f' σ' a' h2 hs'=>exOr2_ok hT hE.2.2.2.1 h2 hs'),exStepB_ok hT hE.2.2.2.2.1 h.2.2 hs (fun f' σ' a' h2 hs'=>exOr2_ok hT hE.2.2.2.2.2 h2 hs')⟩
 | .fst i t,K,f,σ,a,hE,h,hs=>by
  simp only [or2All] at hE
  obtain ⟨o,d,h1,h2,f',h3,h4⟩:=exFst_ok (K:=fun f'=>exOr2 P T r n df N L K t f' σ) hT h hs
  exact ⟨o,d,h1,h2,exOr2_ok hT hE h4 h3⟩
theorem lp_or2 (hm : P.follows .mixedOrders = true) (hT : ∀ t i,T t = some i → tiOf P t = some i) {id : Nat} {O : Array Oper} (hO : O = L.toArray) (hs : List Nat) (fu : Nat) (E : Nat → Bool) (t : Or2) {γ : Type} (ps : γ → Frm) (S : γ → Store) (I : γ → Prop)
  (hB : (Nat.beq (hs.length + fu) L.length && mixO2 .any L.toArray E fu t hs (Array.replicate L.length false) && or2All E t) = true)
  (h : W (exHs P T N L E σ hs (fun f1=>exOr2 P T r n df N L (fun f' σ'=>∃ g,chkF f' (headF (.region id O true) f (ps g)) ∧ Sc σ' (S g) ∧ I g) t f1 σ) f))
  (kk : ∀ g,I g → W (forceF (headF (.region id O true) f (ps g)) fun F=>Q .normal F (S g))) : Lp P r n df N (.region id O true) Q f σ:=by
 subst hO
 simp only [Bool.and_eq_true] at hB
 refine ⟨fun a hs'=>?_⟩
 refine awp_post (awp_draw_or2 (Q:=fun e a' σ'=>e = .normal ∧ ∃ f',Sp N a' f' ∧ ∃ g,chkF f' (headF (.region id L.toArray true) f (ps g)) ∧ Sc σ' (S g) ∧ I g) E hs fu t hm (Nat.eq_of_beq_eq_true hB.1.1) hB.1.2 (gLex_mono (fun a' σ' h'=>?_) (exHs_ok hT h.h hs'))) ?_
 ·obtain ⟨rfl,f',h1,h2⟩:=h'
  have:=exOr2_ok hT hB.2 h2 h1
  exact gOr2_mono (fun a σ h=>⟨rfl,h⟩) this
 ·rintro e a' σ' ⟨rfl,f',h1,g,h2,h4,h3⟩
  exact ⟨S g,h4,_,h1.sub h2,forceF_ok (kk g h3).h⟩
end
end
end Go.Proofs.YtjbbmjjildhfbaaGreatDoor
