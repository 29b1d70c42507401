/- A part of the proof: Om. -/
import Derived.Test.YtjbbmjjildhfbaaGreatDoorP04
set_option maxRecDepth 100000
set_option maxHeartbeats 4000000
set_option linter.unusedVariables false
set_option linter.unusedSimpArgs false
namespace Go.Proofs.YtjbbmjjildhfbaaGreatDoor
section
open Go Go.RowKit Go.Shelf
section
variable {P:Program} {r:Option Nat} {n:Nat} {df:Nat} {ops:Array Oper} {Q:Pst} {a:List D} {σ:aa1} {md:Region.Mode}
def only (L:List Tmp) (a:List D):List D:=a.mapIdx fun i d=>if i∈L then d else .any
theorem only_len (L:List Tmp) (a:List D):(only L a).length=a.length:=by simp [only]
theorem only_put {L:List Tmp} {dst:Option Tmp} {d:D} (h:∀ i,dst=some i→i ∉ L):only L (putD a dst d)=only L a:=by
 cases dst with
 | none=>rfl
 | some i=>
  refine List.ext_getElem? fun j=>?_
  simp only [only,putD,List.getElem?_mapIdx,List.getElem?_set]
  by_cases e:i=j
  ·subst e
   have:=h i rfl
   by_cases hl:i<a.length
   ·simp [hl,this]
   ·simp [hl]
  ·simp [e]
theorem St.mask {w:World} {X:Nat→Prop} {fr:Act} (L:List Tmp) (h:St w X df a σ fr):St w X df (only L a) σ fr:=by
 refine ⟨⟨by rw [only_len];exact h.fr.size,fun i d hd=>?_⟩,h.st,h.df⟩
 simp only [only,List.getElem?_mapIdx,Option.map_eq_some_iff] at hd
 obtain ⟨d0,h0,h1⟩:=hd
 obtain ⟨u,k1,k2⟩:=h.fr.at_ i d0 h0
 refine ⟨u,k1,?_⟩
 subst h1
 split
 ·exact k2
 ·exact .any _
theorem St.back {w w':World} {X:Nat→Prop} {dst:Option Tmp} {d:D} {σ':aa1} {fr fr':Act} (h:St w X df a σ fr) (hm:Mv w σ w' σ') {a':List D} (h':St w' X df a' σ' fr') (hl:a'.length=a.length) (hd:∀ i,dst=some i→i<a.length→a'[i]?=some d) (hu:∃ u,fr'.tmps=(fr.put dst u).tmps):St w' X df (putD a dst d) σ' fr':=by
 obtain ⟨u,hu⟩:=hu
 have keep:∀ {e:D} {v:Value},Rd w (Own σ X) e v→Rd w' (Own σ' X) e v:=fun h=>h.keep hm.keep.size (fun b hb hn ho=>by
  rcases ho with ho|ho
  ·exact hn (.inl ho)
  ·rcases hm.new b ho with h1|h1
   ·exact hn (.inr h1)
   ·omega) (fun b hb hn=>hm.keep.block b hb (fun hk=>hn (.inr hk)))
 refine ⟨⟨?_,fun i e he=>?_⟩,h'.st,h'.df⟩
 ·have:=h'.fr.size
  cases dst <;> simpa [putD,hl] using this
 ·cases dst with
  | none=>
   obtain ⟨v,k1,k2⟩:=h.fr.at_ i e he
   exact ⟨v,by rw [hu];exact k1,keep k2⟩
  | some j=>
   by_cases hij:j=i
   ·subst hij
    refine h'.fr.at_ j e ?_
    simp only [putD,List.getElem?_set,if_true] at he
    split at he
    ·rename_i hlt;rw [hd j rfl hlt];exact he
    ·cases he
   ·have he':a[i]?=some e:=by simpa [putD,List.getElem?_set,hij] using he
    obtain ⟨v,k1,k2⟩:=h.fr.at_ i e he'
    exact ⟨v,by rw [hu];simpa [Act.put,Array.getElem?_setIfInBounds_ne hij] using k1,keep k2⟩
theorem op_of_list {F:Fence} {Q0 Q':Exit→Act→World→Prop} {i:Nat} {o:Oper} {fr:Act} {w:World} (hi:ops[i]?=some o) (hq:∀ e a w,Q0 e a w→e = .normal) (h:wpListIn F n P ops Q0 [o] fr w) :
  wpOpIn F n P ops Q' i (fun fr' w'=>Q0 .normal fr' w'∧∃ u,fr'.tmps=(fr.put o.dst u).tmps) fr w:=by
 unfold wpOpIn
 simp only [hi]
 unfold wpListIn at h
 split at h
 ·rename_i hw
  rw [if_pos hw]
  unfold Oper.wpIn at h ⊢
  refine ⟨h.1,?_⟩
  have hm:=h.2
  generalize (o.semAt F.round fr.eval).run P w=res at *
  cases res with
  | ok x w'=>
   cases x <;> simp only [Oper.uponIn] at hm ⊢
   case value u=>exact ⟨hm,u,rfl⟩
   case skip=>exact ⟨hm,undef,rfl⟩
   case defer d=>exact ⟨hm,undef,by cases o.dst <;> rfl⟩
   case enter f args=>
    refine ⟨hm.1,hm.2.mono fun e w'' he=>?_⟩
    cases e with
    | returned v=>exact ⟨he,v,rfl⟩
    | panicked c=>have:=hq _ _ _ he;cases this
    | outgrown=>obtain ⟨a0,w0,h0⟩:=he;have:=hq _ _ _ h0;cases this
   case row=>exact ⟨hm.1,hm.2.mono fun v w'' he=>⟨he,v,rfl⟩⟩
   case round=>
    refine ⟨hm.1,hm.2.mono fun e w'' he=>?_⟩
    cases e with
    | returned v=>exact ⟨he,v,rfl⟩
    | panicked c=>have:=hq _ _ _ he;cases this
    | outgrown=>obtain ⟨a0,w0,h0⟩:=he;have:=hq _ _ _ h0;cases this
  | halt x w'=>cases x <;> simp only [Oper.uponIn] at hm ⊢ <;> first|exact hm.elim|(have:=hq _ _ _ hm;cases this)
 ·rename_i hw
  rw [if_neg hw]
  exact ⟨h.1,h.2,undef,rfl⟩
def EfS (P:Program) (r:Option Nat) (n:Nat) (df:Nat) (ops:Array Oper) (o:Oper) (K:List D→aa1→Prop) (a:List D) (σ:aa1):Prop:=
 AOps P r n df ops (fun e a' σ'=>e = .normal∧a'.length=a.length∧∃ d,(∀ i,o.dst=some i→i<a.length→a'[i]?=some d)∧K (putD a o.dst d) σ') [o] (only (o.looksAt ops) a) σ
def gOp (P:Program) (r:Option Nat) (n:Nat) (df:Nat) (ops:Array Oper) (E:Nat→Bool) (i:Nat) (K:List D→aa1→Prop) (a:List D) (σ:aa1):Prop:=match ops[i]? with
 | none=>False
 | some o=>match E i with
  | false=>∃ d,YsIn none P ops σ o d a∧K (putD a o.dst d) σ
  | true=>EfS P r n df ops o K a σ
def gAny (P:Program) (r:Option Nat) (n:Nat) (df:Nat) (md:Region.Mode) (ops:Array Oper) (E:Nat→Bool) (L:List D→aa1→Prop):Nat→Array Bool→List D→aa1→Prop
 | 0,listed,a,σ=>Region.ready md ops listed=[]∧L a σ
 | f+1,listed,a,σ=>Region.ready md ops listed≠[]∧∀ i∈Region.ready md ops listed,gOp P r n df ops E i (gAny P r n df md ops E L f (listed.setIfInBounds i true)) a σ
theorem EfS.mono {o:Oper} {K K':List D→aa1→Prop} (h:∀ a σ,K a σ→K' a σ) (hh:EfS P r n df ops o K a σ):EfS P r n df ops o K' a σ:=
 ⟨fun w X fr hs=>af3 (fun e a w ⟨a',σ',⟨h1,h0,d,h2,h3⟩,h4⟩=>⟨a',σ',⟨h1,h0,d,h2,h _ _ h3⟩,h4⟩) _ _ _ (AOps.run hh w X fr hs)⟩
theorem ac5 {E:Nat→Bool} {i:Nat} {K K':List D→aa1→Prop} (h:∀ a σ,K a σ→K' a σ) (hh:gOp P r n df ops E i K a σ):gOp P r n df ops E i K' a σ:=by
 unfold gOp at *
 split
 ·rename_i ho;simp only [ho] at hh
 ·rename_i o ho
  simp only [ho] at hh
  split
  ·rename_i he;simp only [he] at hh;obtain ⟨d,h1,h2⟩:=hh;exact ⟨d,h1,h _ _ h2⟩
  ·rename_i he;simp only [he] at hh;exact hh.mono h
theorem gOp_put {E:Nat→Bool} {j:Nat} {oi oj:Oper} {d:D} {S:aa1→Prop} (hj:ops[j]?=some oj) (hap:oi.apart ops oj=true) {K:List D→aa1→Prop}
  (hE:E j=true→∀ s,S s) (hS:S σ) (hy:∀ s,S s→YsIn none P ops s oi d a) (h:gOp P r n df ops E j K (putD a oi.dst d) σ) :
  gOp P r n df ops E j (fun a' σ'=>S σ'∧(∀ s,S s→YsIn none P ops s oi d a')∧K (putD a' oi.dst d) σ') a σ:=by
 obtain ⟨h1,h2,h3⟩:=Oper.apart_spec hap
 unfold gOp at *
 simp only [hj] at *
 cases he:E j with
 | false=>
  simp only [he] at h ⊢
  obtain ⟨e,k1,k2⟩:=h
  refine ⟨e,?_,hS,fun s hs=>(hy s hs).put h3,by rw [← aD2 a d e h2];exact k2⟩
  unfold YsIn at *
  rw [aK9 h1] at k1
  rcases k1 with ⟨q1,q2,q3⟩|q
  ·exact .inl ⟨q1,q2,q3.congr (fun x hx=>(evD_put fun i hi=>av7 (h1 i hi) x hx).symm)⟩
  ·exact .inr q
 | true=>
  simp only [he] at h ⊢
  unfold EfS at *
  rw [only_put h1] at h
  refine ⟨fun w X fr hs=>af3 (fun e a' w' ⟨a'',σ',⟨q1,q0,d',q2,q3⟩,q4⟩=>⟨a'',σ',⟨q1,by rw [q0];cases oi.dst <;> simp [putD],d',(fun i hi hl=>q2 i hi (by cases oi.dst <;> simpa [putD] using hl)),hE he σ',fun s hs=>(hy s hs).put h3,?_⟩,q4⟩) _ _ _ (h.run w X fr hs)⟩
  rw [← aD2 a d d' h2];exact q3
theorem an7 {E:Nat→Bool} {i:Nat} {oi:Oper} {d:D} {L:List D→aa1→Prop} {S:aa1→Prop} (hi:ops[i]?=some oi) (hEi:E i=false)
  (hS:∀ listed,HeadInv md ops ops.size listed→listed.getD i true=false→∀ j∈Region.ready md ops listed,E j=true→∀ s,S s) :
  ∀ (f:Nat) (listed:Array Bool) (a:List D) (σ:aa1),HeadInv md ops ops.size listed →
   (∀ j oj,ops[j]?=some oj→j≠i→listed.getD j true=false→(∀ e∈oj.after,Region.binds md e=true→e.on≠i)→oi.apart ops oj=true) →
   i∈Region.ready md ops listed→S σ→(∀ s,S s→YsIn none P ops s oi d a) →
   gAny P r n df md ops E L f (listed.setIfInBounds i true) (putD a oi.dst d) σ→gAny P r n df md ops E L (f+1) listed a σ:=by
 intro f
 induction f with
 | zero=>
  intro listed a σ inv _ hr hs hy H
  refine ⟨fun h=>(by rw [h] at hr;cases hr),fun j hj=>?_⟩
  by_cases hji:j=i
  ·subst hji
   unfold gOp
   simp only [hi,hEi]
   exact ⟨d,hy _ hs,H⟩
  ·have:=ready_mono hj hji
   rw [H.1] at this
   cases this
 | succ f ih=>
  intro listed a σ inv hfree hr hs hy H
  have hun:=(mem_ready.1 hr).1
  refine ⟨fun h=>(by rw [h] at hr;cases hr),fun j hj=>?_⟩
  by_cases hji:j=i
  ·subst hji
   unfold gOp
   simp only [hi,hEi]
   exact ⟨d,hy _ hs,H⟩
  ·obtain ⟨hjun,oj,hoj,hall⟩:=mem_ready.1 hj
   have hjn:j<ops.size:=(Array.getElem?_eq_some_iff.1 hoj).1
   have hnot:∀ e∈oj.after,Region.binds md e=true→e.on≠i:=fun e he hb heq=>by
    have h1:=hall e he hb
    rw [heq,getD_both hun] at h1
    cases h1
   have h2:=gOp_put hoj (hfree j oj hoj hji hjun hnot) (hS listed inv hun j hj) hs hy (H.2 j (ready_mono hj hji))
   refine ac5 (fun a' σ' h3=>ih (listed.setIfInBounds j true) a' σ' (inv.set hj hjn) (fun k ok hk hki hunk hno=>hfree k ok hk hki ?_ hno) (ready_mono hr (Ne.symm hji)) h3.1 h3.2.1 ?_) h2
   ·by_cases hjk:j=k
    ·subst hjk;exact hjun
    ·rw [getD_set_ne true hjk] at hunk;exact hunk
   ·rw [Array.setIfInBounds_comm _ _ hji];exact h3.2.2
def desc (md:Region.Mode) (ops:Array Oper) (i:Nat):List Nat→List Nat→List Nat
 | [],acc=>acc
 | j :: l,acc=>desc md ops i l (bif acc.any (fun k=>Region.waitsFor md ops j k) then j :: acc else acc)
def barB (md:Region.Mode) (ops:Array Oper) (E:Nat→Bool) (i:Nat):Bool:=
 (List.range ops.size).all fun e=>!E e || (desc md ops i (List.range ops.size) []).contains e || (desc md ops i (List.range ops.size) [i]).contains e && !Nat.beq e i
theorem desc_ok {listed:Array Bool} {i:Nat} (inv:HeadInv md ops ops.size listed) (hun:listed.getD i true=false) :
  ∀ (l acc:List Nat),(∀ k∈acc,listed.getD k false=false∧(k=i∨k ∉ Region.ready md ops listed))→∀ k∈desc md ops i l acc,listed.getD k false=false∧(k=i∨k ∉ Region.ready md ops listed)
 | [],acc,h,k,hk=>h k hk
 | j :: l,acc,h,k,hk=>by
  refine desc_ok inv hun l _ (fun k hk=>?_) k hk
  cases hb:acc.any (fun k=>Region.waitsFor md ops j k) with
  | false=>rw [hb] at hk;exact h k hk
  | true=>
   rw [hb] at hk
   rcases List.mem_cons.1 hk with rfl|hk
   ·obtain ⟨k',hk',hw⟩:=List.any_eq_true.1 hb
    obtain ⟨oj,hoj,e,he,hbi,hon⟩:=Region.waitsFor_spec hw
    have h1:=(h k' hk').1
    constructor
    ·cases hl:listed.getD k false with
     | false=>rfl
     | true=>have h2:=inv.closed k oj hoj hl e he hbi;rw [hon,h1] at h2;cases h2
    ·refine .inr fun hr=>?_
     obtain ⟨_,o',ho',hall⟩:=mem_ready.1 hr
     have:o'=oj:=Option.some.inj (ho'.symm.trans hoj)
     subst this
     have h2:=hall e he hbi
     rw [hon,h1] at h2
     cases h2
   ·exact h k hk
theorem barB_ok {E:Nat→Bool} {i:Nat} (h:barB md ops E i=true) (listed:Array Bool) (inv:HeadInv md ops ops.size listed) (hun:listed.getD i true=false) (j:Nat) (hj:j∈Region.ready md ops listed):E j=false:=by
 cases hE:E j with
 | false=>rfl
 | true=>
  exfalso
  obtain ⟨_,oj,hoj,_⟩:=mem_ready.1 hj
  have hjn:j<ops.size:=(Array.getElem?_eq_some_iff.1 hoj).1
  have h1:=List.all_eq_true.1 h j (List.mem_range.2 hjn)
  simp only [hE,Bool.not_true,Bool.false_or,Bool.or_eq_true,Bool.and_eq_true,List.contains_iff_mem,Bool.not_eq_true'] at h1
  rcases h1 with h1|⟨h1,h2⟩
  ·have:=desc_ok inv hun _ [] (fun k hk=>by cases hk) j h1
   rcases this.2 with e|e
   ·subst e
    have:∀ (l:List Nat),desc md ops j l []=[]:=fun l=>by induction l with
     | nil=>rfl
     | cons x l ih=>simpa [desc] using ih
    rw [this] at h1;cases h1
   ·exact e hj
  ·have:=desc_ok inv hun _ [i] (fun k hk=>by
    have:k=i:=by simpa using hk
    subst this;exact ⟨getD_both hun,.inl rfl⟩) j h1
   rcases this.2 with e|e
   ·subst e;simp at h2
   ·exact e hj
def seqLB (md:Region.Mode) (ops:Array Oper):List Nat→Array Bool→Bool
 | [],listed=>(Region.ready md ops listed).isEmpty
 | k :: l,listed=>decide (Region.ready md ops listed=[k]) && seqLB md ops l (listed.setIfInBounds k true)
def mixB (md:Region.Mode) (ops:Array Oper) (E:Nat→Bool) (rest:List Nat):List Nat→Array Bool→Bool
 | [],listed=>seqLB md ops rest listed
 | i :: hs,listed=>(Region.ready md ops listed).contains i && Region.free md ops listed i && !E i && mixB md ops E rest hs (listed.setIfInBounds i true)
def gSeq (P:Program) (r:Option Nat) (n:Nat) (df:Nat) (ops:Array Oper) (E:Nat→Bool) (L:List D→aa1→Prop):List Nat→List D→aa1→Prop
 | [],a,σ=>L a σ
 | k :: l,a,σ=>gOp P r n df ops E k (gSeq P r n df ops E L l) a σ
def gLex (P:Program) (md:Region.Mode) (ops:Array Oper) (E:Nat→Bool) (L:List D→aa1→Prop):List Nat→List D→aa1→Prop
 | [],a,σ=>L a σ
 | i :: hs,a,σ=>∃ o d,ops[i]?=some o∧((barB md ops E i=true∧YsIn none P ops σ o d a)∨YsIn none P ops [] o d a)∧gLex P md ops E L hs (putD a o.dst d) σ
theorem aO7 {E:Nat→Bool} {L:List D→aa1→Prop}:∀ (l:List Nat) (listed:Array Bool) (a:List D) (σ:aa1),seqLB md ops l listed=true→gSeq P r n df ops E L l a σ→gAny P r n df md ops E L l.length listed a σ
 | [],listed,a,σ,hB,h=>⟨by simpa [seqLB] using hB,h⟩
 | k :: l,listed,a,σ,hB,h=>by
  simp only [seqLB,Bool.and_eq_true,decide_eq_true_eq] at hB
  refine ⟨fun h1=>(by rw [hB.1] at h1;cases h1),fun i hi=>?_⟩
  rw [hB.1] at hi
  have:i=k:=by simpa using hi
  subst this
  exact ac5 (fun a' σ' h'=>aO7 l _ a' σ' hB.2 h') h
theorem Yd.free {o:Oper} {ρ:Operand→D} {d:D} (h:Yd P o ρ [] d):Yd P o ρ σ d:=by
 intro w X η hη hs
 have io:∀ x,Own [] (Own σ X) x↔Own σ X x:=fun x=>⟨fun h=>h.elim id (fun h=>by cases h),.inl⟩
 have t1:∀ {w':World} {d:D} {u:Value},Rd w' (Own σ X) d u→Rd w' (Own [] (Own σ X)) d u:=fun h=>h.keep (Nat.le_refl _) (fun x _ hn ho=>hn ((io x).1 ho)) (fun _ _ _=>rfl)
 have t2:∀ {w':World} {d:D} {u:Value},Rd w' (Own [] (Own σ X)) d u→Rd w' (Own σ X) d u:=fun h=>h.keep (Nat.le_refl _) (fun x _ hn ho=>hn ((io x).2 ho)) (fun _ _ _=>rfl)
 have h1:=h w (Own σ X) η (fun x hx=>t1 (hη x hx)) ⟨List.nodup_nil,fun b k hm=>(by cases hm),fun b hb=>by
  rcases hb with hb|hb
  ·exact hs.xlt b hb
  ·exact hs.lt hb,hs.gok.mono (fun x hx=>(io x).1 hx)⟩
 generalize (execOp η o).run P w=res at h1
 cases res with
 | ok x w'=>
  cases x <;> simp only [YU] at h1 ⊢
  case value u=>exact ⟨h1.1,t2 h1.2⟩
  case enter f args=>exact ⟨h1.1,h1.2.mono fun e w'' ⟨u,q1,q2,q3⟩=>⟨u,q1,q2,t2 q3⟩⟩
 | halt x w'=>simp only [YU] at h1
theorem YsIn.free {o:Oper} {d:D} (h:YsIn none P ops [] o d a) (s:aa1):YsIn none P ops s o d a:=by
 rcases h with ⟨h1,h2,h3⟩|h
 ·exact .inl ⟨h1,h2,.of h3.yd.free⟩
 ·exact .inr h
theorem aO8 {E:Nat→Bool} {L:List D→aa1→Prop} {rest:List Nat}:∀ (hs:List Nat) (listed:Array Bool) (a:List D) (σ:aa1),HeadInv md ops ops.size listed→mixB md ops E rest hs listed=true →
  gLex P md ops E (gSeq P r n df ops E L rest) hs a σ→gAny P r n df md ops E L (hs.length+rest.length) listed a σ
 | [],listed,a,σ,inv,hB,h=>by
  rw [show ([]:List Nat).length+rest.length=rest.length by simp]
  exact aO7 rest listed a σ hB h
 | i :: hs,listed,a,σ,inv,hB,h=>by
  simp only [mixB,Bool.and_eq_true,Bool.not_eq_true'] at hB
  obtain ⟨⟨⟨hr,hf⟩,hE⟩,hB'⟩:=hB
  obtain ⟨o,d,ho,hy,hk⟩:=h
  have hr':i∈Region.ready md ops listed:=by simpa using hr
  have hin:i<ops.size:=(Array.getElem?_eq_some_iff.1 ho).1
  have H:=aO8 hs _ _ _ (inv.set hr' hin) hB' hk
  rw [show (i :: hs).length+rest.length=(hs.length+rest.length)+1 by simp;omega]
  rcases hy with ⟨hb,hy⟩|hy
  ·exact an7 (S:=fun s=>s=σ) ho hE (fun ls i1 i2 j hj e=>by rw [barB_ok hb ls i1 i2 j hj] at e;cases e) _ listed a σ inv (Region.free_spec ho hf) hr' rfl (fun s e=>by subst e;exact hy) H
  ·exact an7 (S:=fun _=>True) ho hE (fun _ _ _ _ _ _ _=>trivial) _ listed a σ inv (Region.free_spec ho hf) hr' trivial (fun s _=>hy.free s) H
inductive Ord where
 | done
 | one (i:Nat) (t:Ord)
 | two (i:Nat) (t:Ord) (j:Nat) (u:Ord)
 | three (i:Nat) (t:Ord) (j:Nat) (u:Ord) (k:Nat) (v:Ord)
def ordB (md:Region.Mode) (ops:Array Oper):Nat→Ord→Array Bool→Bool
 | 0,.done,listed=>(Region.ready md ops listed).isEmpty
 | f+1,.one i t,listed=>decide (Region.ready md ops listed=[i]) && ordB md ops f t (listed.setIfInBounds i true)
 | f+1,.two i t j u,listed=>decide (Region.ready md ops listed=[i,j]) && (ordB md ops f t (listed.setIfInBounds i true) && ordB md ops f u (listed.setIfInBounds j true))
 | f+1,.three i t j u k v,listed=>decide (Region.ready md ops listed=[i,j,k]) && (ordB md ops f t (listed.setIfInBounds i true) && (ordB md ops f u (listed.setIfInBounds j true) && ordB md ops f v (listed.setIfInBounds k true)))
 | _,_,_=>false
def gOrd (P:Program) (r:Option Nat) (n:Nat) (df:Nat) (ops:Array Oper) (E:Nat→Bool) (L:List D→aa1→Prop):Ord→List D→aa1→Prop
 | .done,a,σ=>L a σ
 | .one i t,a,σ=>gOp P r n df ops E i (gOrd P r n df ops E L t) a σ
 | .two i t j u,a,σ=>gOp P r n df ops E i (gOrd P r n df ops E L t) a σ∧gOp P r n df ops E j (gOrd P r n df ops E L u) a σ
 | .three i t j u k v,a,σ=>gOp P r n df ops E i (gOrd P r n df ops E L t) a σ∧gOp P r n df ops E j (gOrd P r n df ops E L u) a σ∧gOp P r n df ops E k (gOrd P r n df ops E L v) a σ
theorem al0 {E:Nat→Bool} {L:List D→aa1→Prop}:∀ (f:Nat) (t:Ord) (listed:Array Bool) (a:List D) (σ:aa1),ordB md ops f t listed=true→gOrd P r n df ops E L t a σ→gAny P r n df md ops E L f listed a σ
 | 0,.done,listed,a,σ,hB,h=>⟨by simpa [ordB] using hB,h⟩
 | f+1,.one i t,listed,a,σ,hB,h=>by
  simp only [ordB,Bool.and_eq_true,decide_eq_true_eq] at hB
  refine ⟨fun h1=>(by rw [hB.1] at h1;cases h1),fun k hk=>?_⟩
  rw [hB.1] at hk
  have:k=i:=by simpa using hk
  subst this
  exact ac5 (fun a' σ' h'=>al0 f t _ a' σ' hB.2 h') h
 | f+1,.two i t j u,listed,a,σ,hB,h=>by
  simp only [ordB,Bool.and_eq_true,decide_eq_true_eq] at hB
  refine ⟨fun h1=>(by rw [hB.1] at h1;cases h1),fun k hk=>?_⟩
  rw [hB.1] at hk
  have:k=i∨k=j:=by simpa using hk
  rcases this with rfl|rfl
  ·exact ac5 (fun a' σ' h'=>al0 f t _ a' σ' hB.2.1 h') h.1
  ·exact ac5 (fun a' σ' h'=>al0 f u _ a' σ' hB.2.2 h') h.2
 | f+1,.three i t j u l v,listed,a,σ,hB,h=>by
  simp only [ordB,Bool.and_eq_true,decide_eq_true_eq] at hB
  refine ⟨fun h1=>(by rw [hB.1] at h1;cases h1),fun k hk=>?_⟩
  rw [hB.1] at hk
  have:k=i∨k=j∨k=l:=by simpa using hk
  rcases this with rfl|rfl|rfl
  ·exact ac5 (fun a' σ' h'=>al0 f t _ a' σ' hB.2.1 h') h.1
  ·exact ac5 (fun a' σ' h'=>al0 f u _ a' σ' hB.2.2.1 h') h.2.1
  ·exact ac5 (fun a' σ' h'=>al0 f v _ a' σ' hB.2.2.2 h') h.2.2
 | 0,.one _ _,_,_,_,hB,_=>by cases hB
 | 0,.three _ _ _ _ _ _,_,_,_,hB,_=>by cases hB
 | 0,.two _ _ _ _,_,_,_,hB,_=>by cases hB
 | _+1,.done,_,_,_,hB,_=>by cases hB
def mixOB (md:Region.Mode) (ops:Array Oper) (E:Nat→Bool) (f:Nat) (t:Ord):List Nat→Array Bool→Bool
 | [],listed=>ordB md ops f t listed
 | i :: hs,listed=>(Region.ready md ops listed).contains i && Region.free md ops listed i && !E i && mixOB md ops E f t hs (listed.setIfInBounds i true)
theorem aI2 {E:Nat→Bool} {L:List D→aa1→Prop} {f:Nat} {t:Ord}:∀ (hs:List Nat) (listed:Array Bool) (a:List D) (σ:aa1),HeadInv md ops ops.size listed→mixOB md ops E f t hs listed=true →
  gLex P md ops E (gOrd P r n df ops E L t) hs a σ→gAny P r n df md ops E L (hs.length+f) listed a σ
 | [],listed,a,σ,inv,hB,h=>by
  rw [show ([]:List Nat).length+f=f by simp]
  exact al0 f t listed a σ hB h
 | i :: hs,listed,a,σ,inv,hB,h=>by
  simp only [mixOB,Bool.and_eq_true,Bool.not_eq_true'] at hB
  obtain ⟨⟨⟨hr,hf⟩,hE⟩,hB'⟩:=hB
  obtain ⟨o,d,ho,hy,hk⟩:=h
  have hr':i∈Region.ready md ops listed:=by simpa using hr
  have hin:i<ops.size:=(Array.getElem?_eq_some_iff.1 ho).1
  have H:=aI2 hs _ _ _ (inv.set hr' hin) hB' hk
  rw [show (i :: hs).length+f=(hs.length+f)+1 by simp;omega]
  rcases hy with ⟨hb,hy⟩|hy
  ·exact an7 (S:=fun s=>s=σ) ho hE (fun ls i1 i2 j hj e=>by rw [barB_ok hb ls i1 i2 j hj] at e;cases e) _ listed a σ inv (Region.free_spec ho hf) hr' rfl (fun s e=>by subst e;exact hy) H
  ·exact an7 (S:=fun _=>True) ho hE (fun _ _ _ _ _ _ _=>trivial) _ listed a σ inv (Region.free_spec ho hf) hr' trivial (fun s _=>hy.free s) H
theorem al1 {E:Nat→Bool} {X:Nat→Prop} {w0:World} {σ0:aa1}:∀ (f:Nat) (listed:Array Bool) (a:List D) (σ:aa1) (fr:Act) (w:World),Mv w0 σ0 w σ→St w X df a σ fr→gAny P r n df md ops E (fun a σ=>Q .normal a σ) f listed a σ →
  wpAnyIn (FW r) n P md ops (Pw w0 X df σ0 Q) f listed fr w
 | 0,listed,a,σ,fr,w,hm,hs,h=>⟨h.1,a,σ,h.2,hs,hm⟩
 | f+1,listed,a,σ,fr,w,hm,hs,h=>by
  refine ⟨fun h0=>absurd h0 h.1,fun i hi=>?_⟩
  have h2:=h.2 i hi
  unfold gOp at h2
  split at h2
  ·exact h2.elim
  ·rename_i o ho
   split at h2
   ·obtain ⟨d,hy,hk⟩:=h2
    unfold wpOpIn
    simp only [ho]
    rcases hy with ⟨k1,k2,k3⟩|⟨k1,rfl⟩
    ·rw [if_pos (by rw [ao1 hs.fr k1])]
     refine ⟨bf6 o w _,?_⟩
     rw [show (FW r).round=r from rfl,av5 k2]
     have h1:=k3.yd w X fr.eval (fun x _=>hs.fr.eval x) hs.st
     generalize (execOp fr.eval o).run P w=res at h1
     cases res with
     | ok x w'=>
      cases x <;> simp only [YU] at h1
      case value u=>exact al1 f _ _ _ _ _ (hm.trans (Mv.of_ex h1.1)) ((hs.ex h1.1).put h1.2 o.dst) hk
      case enter fn args=>
       obtain ⟨rfl,hc⟩:=h1
       refine ⟨fun hd=>by simp [FW,Fence.wide] at hd,?_⟩
       have hc':CallsIn Fence.wide (n - 1) P fn args w' _:=callsIn_wide.2 hc
       have:CallsIn (FW r) (n - 1) P fn args w' _:=hc'
       refine this.mono fun e w'' he=>?_
       obtain ⟨u,rfl,hx2,hr2⟩:=he
       exact al1 f _ _ _ _ _ (hm.trans (Mv.of_ex hx2)) ((hs.ex hx2).put hr2 o.dst) hk
     | halt x w'=>simp only [YU] at h1
    ·rw [if_neg (by rw [ao1 hs.fr k1];simp)]
     exact ⟨bf6 o w _,al1 f _ _ _ _ _ hm (hs.put (.v _) o.dst) hk⟩
   ·have h3:=AOps.run h2 w X fr (hs.mask _)
    refine wpOpIn_mono ?_ (op_of_list (Q':=Pw w0 X df σ0 Q) ho (fun e a w ⟨_,_,⟨h,_⟩,_⟩=>h) h3)
    rintro fr' w' ⟨⟨a',σ',⟨_,hl,d,hd,hK⟩,hst',hmv⟩,hu⟩
    exact al1 f _ _ _ _ _ (hm.trans hmv) (St.back hs hmv hst' hl hd hu) hK
theorem bh8 {id:Nat} {l:List Oper} (E:Nat→Bool) (hs rest:List Nat) (hm:P.follows .mixedOrders=true) (hl:hs.length+rest.length=l.length) (hB:mixB .any l.toArray E rest hs (Array.replicate l.length false)=true)
  (h:gLex P .any l.toArray E (gSeq P r n df l.toArray E (fun a σ=>Q .normal a σ) rest) hs a σ):AWP P r n df (.region id l.toArray true) Q a σ:=by
 refine ⟨fun w X fr hst=>?_⟩
 have inv0:HeadInv .any l.toArray l.toArray.size (Array.replicate l.length false):=
  ⟨by simp,fun j oj _ hl=>(by rw [getD_replicate_false] at hl;cases hl),fun t ht ht'=>by omega⟩
 refine wpIn_region_any hm ?_
 have hx0:=az8 w
 have:=al1 (w0:=w) (σ0:=σ) (X:=X) _ _ _ _ fr { w with drawn:=w.drawn+1 } (Mv.of_ex hx0) (hst.ex hx0) (aO8 hs _ a σ inv0 hB h)
 rw [hl] at this
 have e:l.toArray.size=l.length:=by simp
 rw [e]
 exact this
theorem aI7 {id:Nat} {l:List Oper} (E:Nat→Bool) (hs:List Nat) (f:Nat) (t:Ord) (hm:P.follows .mixedOrders=true) (hl:hs.length+f=l.length) (hB:mixOB .any l.toArray E f t hs (Array.replicate l.length false)=true)
  (h:gLex P .any l.toArray E (gOrd P r n df l.toArray E (fun a σ=>Q .normal a σ) t) hs a σ):AWP P r n df (.region id l.toArray true) Q a σ:=by
 refine ⟨fun w X fr hst=>?_⟩
 have inv0:HeadInv .any l.toArray l.toArray.size (Array.replicate l.length false):=
  ⟨by simp,fun j oj _ hl=>(by rw [getD_replicate_false] at hl;cases hl),fun t ht ht'=>by omega⟩
 refine wpIn_region_any hm ?_
 have hx0:=az8 w
 have:=al1 (w0:=w) (σ0:=σ) (X:=X) _ _ _ _ fr { w with drawn:=w.drawn+1 } (Mv.of_ex hx0) (hst.ex hx0) (aI2 hs _ a σ inv0 hB h)
 rw [hl] at this
 have e:l.toArray.size=l.length:=by simp
 rw [e]
 exact this
end
end
end Go.Proofs.YtjbbmjjildhfbaaGreatDoor
