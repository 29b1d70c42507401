/- A part of the proof: Op Aop Yd. -/
import Derived.Test.YtjbbmjjildhfbaaGreatDoorP01
import Derived.StillTail
import Derived.Laws.Cells
import Derived.Shelf.Abstract
import Derived.IntWalk
set_option maxRecDepth 100000
set_option maxHeartbeats 4000000
set_option linter.unusedVariables false
set_option linter.unusedSimpArgs false
namespace Go.Proofs.YtjbbmjjildhfbaaGreatDoor
section
open Go Go.RowKit
def ah2:Op→Bool
 | .defer _=>false
 | .select _ _=>false
 | _=>true
theorem av5 {o:Oper} (h:ah2 o.op=true) (r:Option Nat) (ρ:Operand→Value):Oper.semAt r ρ o=execOp ρ o:=by
 cases r with
 | none=>rfl
 | some l=>exact Oper.semAt_some l ρ o (fun c hc=>by rw [hc] at h;cases h)
def YU (P:Program) (w:World) (X:Nat→Prop) (σ:aa1) (d:D):Result Next→Prop
 | .ok (.value u) w'=>Ex w w'∧Rd w' (Own σ X) d u
 | .ok (.enter f args) w'=>w'=w∧Calls P f args w (fun e w''=>∃ u,e = .returned u∧Ex w w''∧Rd w'' (Own σ X) d u)
 | _=>False
def Yd (P:Program) (o:Oper) (ρ:Operand→D) (σ:aa1) (d:D):Prop:=
 ∀ (w:World) (X:Nat→Prop) (η:Operand→Value),(∀ x∈o.op.operands,Rd w (Own σ X) (ρ x) (η x))→StOK w X σ→YU P w X σ d ((execOp η o).run P w)
theorem Yd.congr {P:Program} {o:Oper} {ρ ρ':Operand→D} {σ:aa1} {d:D} (h:Yd P o ρ σ d) (he:∀ x∈o.op.operands,ρ' x=ρ x):Yd P o ρ' σ d:=
 fun w X η hη hs=>h w X η (fun x hx=>by rw [← he x hx];exact hη x hx) hs
def am7 (ops:Array Oper) (a:List D) (o:Oper):Option Bool:=
 match o.guard with
 | none=>some true
 | some (j,want)=>
  match (ops[j]?).bind (·.dst) with
  | some t=>(match a[t]? with|some (.v x)=>(match x with | .bool b=>some (b == want) | _=>some false) | _=>none)
  | none=>none
theorem ao1 {ops:Array Oper} {a:List D} {o:Oper} {t:Bool} {w:World} {O:Nat→Prop} {tmps:Array Value} (hf:FR w O a tmps) (h:am7 ops a o=some t):Region.wanted o (yielded ops tmps)=t:=by
 unfold am7 at h
 unfold Region.wanted
 split at h
 ·rename_i hg;cases h;simp only [hg]
 ·rename_i j want hg
  simp only [hg]
  split at h
  ·rename_i tt ht
   split at h
   ·rename_i x hb
    obtain ⟨u,h1,h2⟩:=hf.at_ _ _ hb
    have:=h2.val rfl
    subst this
    simp only [yielded,ht,Option.bind_some,h1]
    cases u <;> simp only at h <;> cases h <;> first|rfl|(rename_i b0;cases b0 <;> cases want <;> rfl)
   ·cases h
  ·cases h
section
variable {P:Program} {r:Option Nat} {n:Nat} {df:Nat} {ops:Array Oper} {Q:Pst} {a:List D} {σ:aa1}
def Pw (w:World) (X:Nat→Prop) (df:Nat) (σ:aa1) (Q:Pst):Exit→Act→World→Prop:=fun e fr' w'=>∃ a' σ',Q e a' σ'∧St w' X df a' σ' fr'∧Mv w σ w' σ'
theorem Pw.moved {w w':World} {X:Nat→Prop} {σ σ':aa1} (hm:Mv w σ w' σ') {e:Exit} {fr:Act} {w'':World} (h:Pw w' X df σ' Q e fr w''):Pw w X df σ Q e fr w'':=by
 obtain ⟨a',s',h1,h2,h3⟩:=h
 exact ⟨a',s',h1,h2,hm.trans h3⟩
theorem af3 {F:Fence} {Q1 Q2:Exit→Act→World→Prop} (hq:∀ e a w,Q1 e a w→Q2 e a w):∀ (l:List Oper) (fr:Act) (w:World),wpListIn F n P ops Q1 l fr w→wpListIn F n P ops Q2 l fr w
 | [],_,_,h=>hq _ _ _ h
 | o :: l,fr,w,h=>by
  unfold wpListIn at h ⊢
  split at h
  ·rename_i hw
   rw [if_pos hw]
   have hm:=Oper.wpIn_mono (fun a w h=>af3 hq l a w h) h
   unfold Oper.wpIn at hm ⊢
   refine ⟨hm.1,?_⟩
   have hm:=hm.2
   generalize (o.semAt F.round fr.eval).run P w=res at *
   cases res with
   | ok x w'=>
    cases x <;> simp only [Oper.uponIn] at hm ⊢ <;> try exact hm
    case enter f args=>
     refine ⟨hm.1,hm.2.mono fun e w'' he=>?_⟩
     cases e with
     | returned v=>exact he
     | panicked c=>exact hq _ _ _ he
     | outgrown=>obtain ⟨a0,w0,h0⟩:=he;exact ⟨a0,w0,hq _ _ _ h0⟩
    case round=>
     refine ⟨hm.1,hm.2.mono fun e w'' he=>?_⟩
     cases e with
     | returned v=>exact he
     | panicked c=>exact hq _ _ _ he
     | outgrown=>obtain ⟨a0,w0,h0⟩:=he;exact ⟨a0,w0,hq _ _ _ h0⟩
   | halt x w'=>cases x <;> simp only [Oper.uponIn] at hm ⊢ <;> first|exact hq _ _ _ hm|exact hm
  ·rename_i hw
   rw [if_neg hw]
   exact ⟨h.1,af3 hq l _ _ h.2⟩
structure AOps (P:Program) (r:Option Nat) (n:Nat) (df:Nat) (ops:Array Oper) (Q:Pst) (l:List Oper) (a:List D) (σ:aa1):Prop where
 run:∀ (w:World) (X:Nat→Prop) (fr:Act),St w X df a σ fr→wpListIn (FW r) n P ops (Pw w X df σ Q) l fr w
theorem aops_nil (h:Q .normal a σ):AOps P r n df ops Q [] a σ:=⟨fun w X fr hs=>⟨a,σ,h,hs,Mv.refl _ _⟩⟩
theorem awp_region {id:Nat} (h:AOps P r n df ops Q ops.toList a σ):AWP P r n df (.region id ops false) Q a σ:=⟨fun w X fr hs=>wpIn_region_list (h.run w X fr hs)⟩
theorem bf6 (o:Oper) (w:World) (ρ:Operand→Value):∀ f,o.about P w ρ=some f→(FW r).fn f:=fun _ _=>trivial
theorem aops_skip {o:Oper} {rest:List Oper} (hw:am7 ops a o=some false) (h:AOps P r n df ops Q rest (putD a o.dst (.v undef)) σ):AOps P r n df ops Q (o :: rest) a σ:=by
 refine ⟨fun w X fr hs=>?_⟩
 unfold wpListIn
 rw [if_neg (by rw [ao1 hs.fr hw];simp)]
 exact ⟨bf6 o w _,h.run w X _ (hs.put (.v _) o.dst)⟩
theorem ah3 {o:Oper} {rest:List Oper} (hw:am7 ops a o=some true) (hn:ah2 o.op=true)
  (h:∀ w X fr,St w X df a σ fr→(match (execOp fr.eval o).run P w with
   | .ok (.value u) w'=>∃ d σ',Mv w σ w' σ'∧St w' X df (putD a o.dst d) σ' (fr.put o.dst u)∧AOps P r n df ops Q rest (putD a o.dst d) σ'
   | .ok .skip w'=>∃ σ',Mv w σ w' σ'∧St w' X df (putD a o.dst (.v undef)) σ' (fr.put o.dst undef)∧AOps P r n df ops Q rest (putD a o.dst (.v undef)) σ'
   | .ok (.enter f args) w'=>w'=w∧Calls P f args w (fun e w''=>∃ u,e = .returned u∧∃ d σ',Mv w σ w'' σ'∧St w'' X df (putD a o.dst d) σ' (fr.put o.dst u)∧AOps P r n df ops Q rest (putD a o.dst d) σ')
   | _=>False)):AOps P r n df ops Q (o :: rest) a σ:=by
 refine ⟨fun w X fr hs=>?_⟩
 have h:=h w X fr hs
 unfold wpListIn
 rw [if_pos (by rw [ao1 hs.fr hw])]
 refine ⟨bf6 o w _,?_⟩
 rw [show (FW r).round=r from rfl,av5 hn]
 generalize (execOp fr.eval o).run P w=res at h
 have fin:∀ {w':World} {fr':Act} {a':List D} {σ':aa1},Mv w σ w' σ'→St w' X df a' σ' fr'→AOps P r n df ops Q rest a' σ'→wpListIn (FW r) n P ops (Pw w X df σ Q) rest fr' w':=
  fun hm hst hk=>af3 (fun e a w'' hp=>Pw.moved hm hp) rest _ _ (hk.run _ X _ hst)
 cases res with
 | ok x w'=>
  cases x <;> simp only at h <;> try exact h.elim
  case value u=>obtain ⟨d,σ',h1,h2,h3⟩:=h;exact fin h1 h2 h3
  case skip=>obtain ⟨σ',h1,h2,h3⟩:=h;exact fin h1 h2 h3
  case enter f args=>
   obtain ⟨rfl,hc⟩:=h
   refine ⟨fun hd=>by simp [FW,Fence.wide] at hd,?_⟩
   have hc':CallsIn Fence.wide (n - 1) P f args w' _:=callsIn_wide.2 hc
   have:CallsIn (FW r) (n - 1) P f args w' _:=hc'
   refine this.mono fun e w'' he=>?_
   obtain ⟨u,rfl,d,σ',h1,h2,h3⟩:=he
   exact fin h1 h2 h3
 | halt x w'=>exact h.elim
theorem aops_yd {o:Oper} {rest:List Oper} {d:D} (hw:am7 ops a o=some true) (hn:ah2 o.op=true) (hy:Yd P o (evD a) σ d) (h:AOps P r n df ops Q rest (putD a o.dst d) σ):AOps P r n df ops Q (o :: rest) a σ:=by
 refine ah3 hw hn fun w X fr hs=>?_
 have h1:=hy w X fr.eval (fun x _=>hs.fr.eval x) hs.st
 generalize (execOp fr.eval o).run P w=res at h1
 cases res with
 | ok x w'=>
  cases x <;> simp only [YU] at h1
  case value u=>exact ⟨d,σ,Mv.of_ex h1.1,(hs.ex h1.1).put h1.2 o.dst,h⟩
  case enter f args=>exact ⟨h1.1,h1.2.mono fun e w'' ⟨u,he,hx,hr⟩=>⟨u,he,d,σ,Mv.of_ex hx,(hs.ex hx).put hr o.dst,h⟩⟩
 | halt x w'=>simp only [YU] at h1
/-! ### Regions that draw their order -/
theorem aD2 (a:List D) {x y:Option Tmp} (d e:D) (h:∀ i,x=some i→y≠some i):putD (putD a x d) y e=putD (putD a y e) x d:=by
 cases x with
 | none=>rfl
 | some i=>
  cases y with
  | none=>rfl
  | some j=>
   have:i≠j:=fun hij=>h i rfl (by rw [hij])
   simp only [putD]
   exact List.set_comm _ _ this
theorem evD_put {a:List D} {dst:Option Tmp} {d:D} {x:Operand} (h:∀ i,dst=some i→x ≠ .tmp i):evD (putD a dst d) x=evD a x:=by
 cases dst with
 | none=>rfl
 | some i=>
  cases x with
  | tmp t=>
   have:i≠t:=fun e=>h i rfl (by rw [e])
   simp [evD,putD,List.getD_eq_getElem?_getD,List.getElem?_set,this]
  | _=>rfl
theorem aK9 {o:Oper} {dst:Option Tmp} {d:D} (h:∀ i,dst=some i→i ∉ o.looksAt ops):am7 ops (putD a dst d) o=am7 ops a o:=by
 cases dst with
 | none=>rfl
 | some i=>
  unfold am7
  split
  ·rfl
  ·rename_i j want hg
   split
   ·rename_i t ht
    have:i≠t:=fun e=>h i rfl (by
     subst e
     unfold Oper.looksAt
     refine List.mem_append_right _ ?_
     simp [hg,ht])
    simp [putD,List.getElem?_set,this]
   ·rfl
def isAl (al:Option (Nat × TypeId)) (o:Oper):Bool:=match al with
 | none=>false
 | some (s,_)=>match o.dst with|some i=>Nat.beq i s|none=>false
def Hd (al:Option (Nat × TypeId)) (P:Program) (o:Oper) (ρ:Operand→D) (σ:aa1) (d:D):Prop:=
 (isAl al o=false∧Yd P o ρ σ d)∨(isAl al o=true∧(∃ s t,al=some (s,t)∧o.op = .alloc t∧o.dst=some s)∧d = .any)
theorem Hd.congr {al:Option (Nat × TypeId)} {P:Program} {o:Oper} {ρ ρ':Operand→D} {σ:aa1} {d:D} (h:Hd al P o ρ σ d) (he:∀ x∈o.op.operands,ρ' x=ρ x):Hd al P o ρ' σ d:=by
 rcases h with ⟨h1,h2⟩|h
 ·exact .inl ⟨h1,h2.congr he⟩
 ·exact .inr h
theorem Hd.yd {P:Program} {o:Oper} {ρ:Operand→D} {σ:aa1} {d:D} (h:Hd none P o ρ σ d):Yd P o ρ σ d:=by
 rcases h with ⟨_,h⟩|⟨h,_⟩
 ·exact h
 ·cases h
theorem Hd.of {P:Program} {o:Oper} {ρ:Operand→D} {σ:aa1} {d:D} (h:Yd P o ρ σ d):Hd none P o ρ σ d:=.inl ⟨rfl,h⟩
variable {al:Option (Nat × TypeId)}
def aOp (al:Option (Nat × TypeId)) (P:Program) (ops:Array Oper) (σ:aa1) (i:Nat) (K:List D→Prop) (a:List D):Prop:=
 match ops[i]? with
 | none=>K a
 | some o=>(am7 ops a o=some true∧ah2 o.op=true∧∃ d,Hd al P o (evD a) σ d∧K (putD a o.dst d))∨(am7 ops a o=some false∧K (putD a o.dst (.v undef)))
theorem aOp_mono {i:Nat} {K K':List D→Prop} (h:∀ a,K a→K' a) (hh:aOp al P ops σ i K a):aOp al P ops σ i K' a:=by
 unfold aOp at *
 split
 ·rename_i ho;simp only [ho] at hh;exact h _ hh
 ·rename_i o ho
  simp only [ho] at hh
  rcases hh with ⟨h1,h2,d,h3,h4⟩|⟨h1,h2⟩
  ·exact .inl ⟨h1,h2,d,h3,h _ h4⟩
  ·exact .inr ⟨h1,h _ h2⟩
def YsIn (al:Option (Nat × TypeId)) (P:Program) (ops:Array Oper) (σ:aa1) (o:Oper) (d:D) (a:List D):Prop:=
 (am7 ops a o=some true∧ah2 o.op=true∧Hd al P o (evD a) σ d)∨(am7 ops a o=some false∧d = .v undef)
theorem YsIn.aOp {i:Nat} {o:Oper} {d:D} (hi:ops[i]?=some o) (hy:YsIn al P ops σ o d a) {K:List D→Prop} (h:K (putD a o.dst d)):aOp al P ops σ i K a:=by
 unfold Proofs.YtjbbmjjildhfbaaGreatDoor.aOp
 simp only [hi]
 rcases hy with ⟨h1,h2,h3⟩|⟨h1,rfl⟩
 ·exact .inl ⟨h1,h2,d,h3,h⟩
 ·exact .inr ⟨h1,h⟩
theorem aK6 {i:Nat} {o:Oper} {K:List D→Prop} (hi:ops[i]?=some o) (h:aOp al P ops σ i K a):∃ d,YsIn al P ops σ o d a∧K (putD a o.dst d):=by
 unfold aOp at h
 simp only [hi] at h
 rcases h with ⟨h1,h2,d,h3,h4⟩|⟨h1,h2⟩
 ·exact ⟨d,.inl ⟨h1,h2,h3⟩,h4⟩
 ·exact ⟨_,.inr ⟨h1,rfl⟩,h2⟩
theorem av7 {o:Oper} {i:Nat} (h:i ∉ o.looksAt ops):∀ x∈o.op.operands,x ≠ .tmp i:=by
 intro x hx he
 subst he
 exact h (List.mem_append_left _ (List.mem_filterMap.2 ⟨.tmp i,by simpa using hx,rfl⟩))
theorem YsIn.put {o:Oper} {d:D} (hy:YsIn al P ops σ o d a) {dst:Option Tmp} {e:D} (h:∀ i,dst=some i→i ∉ o.looksAt ops):YsIn al P ops σ o d (putD a dst e):=by
 unfold YsIn at *
 rw [aK9 h]
 rcases hy with ⟨h1,h2,h3⟩|h1
 ·exact .inl ⟨h1,h2,h3.congr fun x hx=>evD_put fun i hi=>av7 (h i hi) x hx⟩
 ·exact .inr h1
theorem aOp_put {j:Nat} {oi oj:Oper} {d:D} (hj:ops[j]?=some oj) (hap:oi.apart ops oj=true) {K:List D→Prop}
  (hy:YsIn al P ops σ oi d a) (h:aOp al P ops σ j K (putD a oi.dst d)):aOp al P ops σ j (fun a'=>YsIn al P ops σ oi d a'∧K (putD a' oi.dst d)) a:=by
 obtain ⟨h1,h2,h3⟩:=Oper.apart_spec hap
 unfold aOp at *
 simp only [hj] at *
 rw [aK9 h1] at h
 rcases h with ⟨k1,k2,e,k3,k4⟩|⟨k1,k2⟩
 ·refine .inl ⟨k1,k2,e,k3.congr (fun x hx=>(evD_put fun i hi=>av7 (h1 i hi) x hx).symm),hy.put h3,?_⟩
  rw [← aD2 a d e h2];exact k4
 ·refine .inr ⟨k1,hy.put h3,?_⟩
  rw [← aD2 a d _ h2];exact k2
variable {md:Region.Mode}
def aHead (al:Option (Nat × TypeId)) (P:Program) (md:Region.Mode) (ops:Array Oper) (σ:aa1) (m:Nat) (L:Array Bool→List D→Prop):Nat→Array Bool→List D→Prop
 | 0,listed,a=>L listed a
 | f+1,listed,a=>Region.ready md ops listed≠[]∧∀ i∈Region.ready md ops listed,i<m∧aOp al P ops σ i (aHead al P md ops σ m L f (listed.setIfInBounds i true)) a
theorem aQ0 {m i:Nat} {oi:Oper} {d:D} {L:Array Bool→List D→Prop} (hi:ops[i]?=some oi)
  (hwt:∀ listed,HeadInv md ops m listed→listed.getD i true=false→∀ t,m≤t→t ∉ Region.ready md ops listed) (hin:i<m)
  (hdone:∀ listed a,L listed a→∀ j∈Region.ready md ops listed,m≤j) :
  ∀ (f:Nat) (listed:Array Bool) (a:List D),HeadInv md ops m listed →
   (∀ j oj,ops[j]?=some oj→j≠i→listed.getD j true=false→(∀ e∈oj.after,Region.binds md e=true→e.on≠i)→oi.apart ops oj=true) →
   i∈Region.ready md ops listed→YsIn al P ops σ oi d a →
   aHead al P md ops σ m L f (listed.setIfInBounds i true) (putD a oi.dst d)→aHead al P md ops σ m L (f+1) listed a:=by
 intro f
 induction f with
 | zero=>
  intro listed a inv _ hr hy H
  have hun:=(mem_ready.1 hr).1
  refine ⟨fun h=>(by rw [h] at hr;cases hr),fun j hj=>?_⟩
  have hjn:j<m:=Nat.lt_of_not_le fun h=>hwt listed inv hun j h hj
  refine ⟨hjn,?_⟩
  by_cases hji:j=i
  ·subst hji;exact hy.aOp hi H
  ·have:=hdone _ _ H j (ready_mono hj hji);omega
 | succ f ih=>
  intro listed a inv hfree hr hy H
  have hun:=(mem_ready.1 hr).1
  refine ⟨fun h=>(by rw [h] at hr;cases hr),fun j hj=>?_⟩
  have hjn:j<m:=Nat.lt_of_not_le fun h=>hwt listed inv hun j h hj
  refine ⟨hjn,?_⟩
  by_cases hji:j=i
  ·subst hji;exact hy.aOp hi H
  ·obtain ⟨hjun,oj,hoj,hall⟩:=mem_ready.1 hj
   have hnot:∀ e∈oj.after,Region.binds md e=true→e.on≠i:=fun e he hb heq=>by
    have h1:=hall e he hb
    rw [heq,getD_both hun] at h1
    cases h1
   have h2:=aOp_put hoj (hfree j oj hoj hji hjun hnot) hy (H.2 j (ready_mono hj hji)).2
   refine aOp_mono (fun a' h3=>ih (listed.setIfInBounds j true) a' (inv.set hj hjn) (fun k ok hk hki hunk hno=>hfree k ok hk hki ?_ hno) (ready_mono hr (Ne.symm hji)) h3.1 ?_) h2
   ·by_cases hjk:j=k
    ·subst hjk;exact hjun
    ·rw [getD_set_ne true hjk] at hunk;exact hunk
   ·rw [Array.setIfInBounds_comm _ _ hji];exact h3.2
def aC3 (al:Option (Nat × TypeId)) (P:Program) (ops:Array Oper) (σ:aa1) (L:List D→Prop):List Oper→List D→Prop
 | [],a=>L a
 | o :: rest,a=>(am7 ops a o=some true∧ah2 o.op=true∧∃ d,Hd al P o (evD a) σ d∧aC3 al P ops σ L rest (putD a o.dst d))∨(am7 ops a o=some false∧aC3 al P ops σ L rest (putD a o.dst (.v undef)))
structure ALex (P:Program) (ops:Array Oper) (σ:aa1) (L:List D→Prop) (l:List Oper) (a:List D):Prop where
 run:aC3 none P ops σ L l a
theorem aP9 {m g:Nat} {Lq:List D→Prop} (hwt:∀ i listed,i<m→HeadInv md ops m listed→listed.getD i true=false→∀ t,m≤t→t ∉ Region.ready md ops listed) :
  ∀ (l:List Oper) (k:Nat) (listed:Array Bool) (a:List D),(∀ j,j<l.length→l[j]?=ops[k+j]?)→k+l.length=m→HeadInv md ops m listed →
  Region.lexHead md ops g l.length k listed=true→aC3 al P ops σ Lq l a →
  aHead al P md ops σ m (fun listed' a'=>Region.seqB md ops g m listed'=true∧Lq a') l.length listed a
 | [],k,listed,a,_,hk,_,hB,h=>by
  obtain rfl:k=m:=by simpa using hk
  exact ⟨by simpa [Region.lexHead] using hB,h⟩
 | o :: l,k,listed,a,hl,hk,inv,hB,h=>by
  have h0:ops[k]?=some o:=by simpa using (hl 0 (by simp)).symm
  simp only [List.length_cons,Region.lexHead,Bool.and_eq_true] at hB hk
  obtain ⟨⟨hr,hf⟩,hB'⟩:=hB
  have hr':k∈Region.ready md ops listed:=by simpa using hr
  have hst:aOp al P ops σ k (aC3 al P ops σ Lq l) a:=by unfold aOp;simp only [h0];exact h
  obtain ⟨d,hy,hK⟩:=aK6 h0 hst
  exact aQ0 h0 (fun ls i1 i2=>hwt k ls (by omega) i1 i2) (by omega) (fun listed' a' hL=>seqB_ready hL.1) l.length listed a inv (Region.free_spec h0 hf) hr' hy
   (aP9 hwt l (k+1) _ _ (fun j hj=>by have:=hl (j+1) (by simp;omega);simpa [Nat.add_assoc,Nat.add_comm 1 j] using this) (by omega) (inv.set hr' (by omega)) hB' hK)
theorem at1 {F:Fence} {Q':Exit→Act→World→Prop}:∀ (l:List Oper) (k:Nat) (listed:Array Bool) (fr:Act) (w:World),(∀ j,l[j]?=ops[k+j]?) →
  Region.seqB md ops l.length k listed=true→wpListIn F n P ops Q' l fr w→wpAnyIn F n P md ops Q' l.length listed fr w
 | [],_,_,_,_,_,hB,h=>⟨by simpa [Region.seqB] using hB,h⟩
 | o :: l,k,listed,fr,w,hl,hB,h=>by
  have h0:ops[k]?=some o:=by simpa using (hl 0).symm
  simp only [List.length_cons,Region.seqB,Bool.and_eq_true,decide_eq_true_eq] at hB
  refine ⟨fun h1=>(by rw [hB.1] at h1;cases h1),fun i hi=>?_⟩
  rw [hB.1] at hi
  have hik:i=k:=by simpa using hi
  subst hik
  have hw:wpOpIn F n P ops Q' i (wpListIn F n P ops Q' l) fr w:=by unfold wpOpIn;simp only [h0];exact h
  exact wpOpIn_mono (fun a' w' h'=>at1 l (i+1) _ a' w' (fun j=>by have:=hl (j+1);simpa [Nat.add_assoc,Nat.add_comm 1 j] using this) hB.2 h') hw
theorem al6 {m g:Nat} {L:Array Bool→List D→Prop} {Q':Exit→Act→World→Prop} {X:Nat→Prop} {w0:World}
  (hL:∀ listed a fr w,Ex w0 w→St w X df a σ fr→L listed a→wpAnyIn (FW r) n P md ops Q' g listed fr w) :
  ∀ (f:Nat) (listed:Array Bool) (a:List D) (fr:Act) (w:World),Ex w0 w→St w X df a σ fr→aHead none P md ops σ m L f listed a→wpAnyIn (FW r) n P md ops Q' (f+g) listed fr w
 | 0,listed,a,fr,w,hx,hs,h=>by rw [Nat.zero_add];exact hL _ _ _ _ hx hs h
 | f+1,listed,a,fr,w,hx,hs,h=>by
  rw [show f+1+g=(f+g)+1 by omega]
  refine ⟨fun h0=>absurd h0 h.1,fun i hi=>?_⟩
  have h2:=(h.2 i hi).2
  unfold aOp at h2
  unfold wpOpIn
  split
  ·rename_i ho;simp only [ho] at h2;exact al6 hL f _ a fr w hx hs h2
  ·rename_i o ho
   simp only [ho] at h2
   rcases h2 with ⟨k1,k2,d,k3,k4⟩|⟨k1,k2⟩
   ·rw [if_pos (by rw [ao1 hs.fr k1])]
    refine ⟨bf6 o w _,?_⟩
    rw [show (FW r).round=r from rfl,av5 k2]
    have h1:=k3.yd w X fr.eval (fun x _=>hs.fr.eval x) hs.st
    generalize (execOp fr.eval o).run P w=res at h1
    cases res with
    | ok x w'=>
     cases x <;> simp only [YU] at h1
     case value u=>exact al6 hL f _ _ _ _ (hx.trans h1.1) ((hs.ex h1.1).put h1.2 o.dst) k4
     case enter fn args=>
      obtain ⟨rfl,hc⟩:=h1
      refine ⟨fun hd=>by simp [FW,Fence.wide] at hd,?_⟩
      have hc':CallsIn Fence.wide (n - 1) P fn args w' _:=callsIn_wide.2 hc
      have:CallsIn (FW r) (n - 1) P fn args w' _:=hc'
      refine this.mono fun e w'' he=>?_
      obtain ⟨u,rfl,hx2,hr2⟩:=he
      exact al6 hL f _ _ _ _ (hx.trans hx2) ((hs.ex hx2).put hr2 o.dst) k4
    | halt x w'=>simp only [YU] at h1
   ·rw [if_neg (by rw [ao1 hs.fr k1];simp)]
    exact ⟨bf6 o w _,al6 hL f _ _ _ _ hx (hs.put (.v _) o.dst) k2⟩
theorem az8 (w:World):Ex w { w with drawn:=w.drawn+1 }:=(Ex.refl w).drew
theorem ba4 {id:Nat} {l:List Oper} (m:Nat) (hm:P.follows .mixedOrders=true) (hB:Region.lexTailB .any l.toArray m=true)
  (h:ALex P l.toArray σ (fun a'=>AOps P r n df l.toArray Q (l.drop m) a' σ) (l.take m) a):AWP P r n df (.region id l.toArray true) Q a σ:=by
 refine ⟨fun w X fr hs=>?_⟩
 simp only [Region.lexTailB,Bool.and_eq_true,decide_eq_true_eq] at hB
 obtain ⟨⟨⟨⟨hsel,hn⟩,hsk⟩,hc⟩,hlex⟩:=hB
 have hn':m<l.length:=by simpa using hn
 have htl:(l.take m).length=m:=by simp;omega
 have hdl:(l.drop m).length=l.toArray.size - m:=by simp
 have inv0:HeadInv .any l.toArray m (Array.replicate l.toArray.size false):=
  ⟨by simp,fun j oj _ hl=>(by rw [getD_replicate_false] at hl;cases hl),fun t _ ht=>getD_in (by simpa using ht) (getD_replicate_false _ _)⟩
 have H:=aP9 (md:=.any) (g:=l.toArray.size - m) (fun i ls hi i1 i2=>tail_waits hsk hc hn i1 _ i rfl hi i2) (l.take m) 0 _ a (fun j hj=>by
  have hj':j<m:=by rw [htl] at hj;exact hj
  simp [hj']) (by simpa using htl) inv0 (by rw [htl];exact hlex) h.run
 refine wpIn_region_any hm ?_
 have hx0:=az8 w
 have:=al6 (r:=r) (n:=n) (df:=df) (Q':=Pw w X df σ Q) (g:=l.toArray.size - m) (X:=X) (w0:={ w with drawn:=w.drawn+1 }) (fun listed a' fr' w' hx' hs' hL=>by
  have:=at1 (md:=.any) (Q':=Pw w X df σ Q) (l.drop m) m listed fr' w' (fun j=>by simp [List.getElem?_drop]) (by rw [hdl];exact hL.1)
   (af3 (fun e a w'' hp=>Pw.moved (Mv.of_ex (hx0.trans hx')) hp) _ _ _ (hL.2.run w' X fr' hs'))
  rwa [hdl] at this) _ _ _ fr _ (Ex.refl _) (hs.ex hx0) H
 rw [htl,show m+(l.toArray.size - m)=l.toArray.size by omega] at this
 exact this
theorem as5:∀ (f k:Nat) (listed:Array Bool),Region.lexFrom md ops f k listed=true→Region.lexHead md ops 0 f k listed=true
 | 0,k,listed,h=>h
 | f+1,k,listed,h=>by
  simp only [Region.lexFrom,Region.lexHead,Bool.and_eq_true] at h ⊢
  exact ⟨h.1,as5 f (k+1) _ h.2⟩
theorem awp_draw {id:Nat} {l:List Oper} (hm:P.follows .mixedOrders=true) (hB:Region.lexB .any l.toArray=true)
  (h:ALex P l.toArray σ (fun a'=>Q .normal a' σ) l a):AWP P r n df (.region id l.toArray true) Q a σ:=by
 refine ⟨fun w X fr hs=>?_⟩
 simp only [Region.lexB,Bool.and_eq_true] at hB
 have inv0:HeadInv .any l.toArray l.toArray.size (Array.replicate l.toArray.size false):=
  ⟨by simp,fun j oj _ hl=>(by rw [getD_replicate_false] at hl;cases hl),fun t _ ht=>getD_in (by simpa using ht) (getD_replicate_false _ _)⟩
 have H:=aP9 (md:=.any) (m:=l.toArray.size) (g:=0) (fun i ls hi i1 i2 t ht hr=>by
   obtain ⟨_,o,ho,_⟩:=mem_ready.1 hr
   have:=(Array.getElem?_eq_some_iff.1 ho).1
   omega) l 0 _ a (fun j hj=>by simp) (by simp) inv0 (as5 _ _ _ (by simpa using hB.2)) h.run
 refine wpIn_region_any hm ?_
 have hx0:=az8 w
 have:=al6 (r:=r) (n:=n) (df:=df) (Q':=Pw w X df σ Q) (g:=0) (X:=X) (w0:={ w with drawn:=w.drawn+1 }) (fun listed a' fr' w' hx' hs' hL=>
  ⟨by simpa [Region.seqB] using hL.1,a',σ,hL.2,hs',Mv.of_ex (hx0.trans hx')⟩) _ _ _ fr _ (Ex.refl _) (hs.ex hx0) H
 rw [show l.length+0=l.toArray.size by simp] at this
 exact this
end
end
section
open Go Go.RowKit Go.Shelf
inductive ZV where
 | int (k:IntKind)|bool|str|ptr|sl|map|fn|ifc
 deriving DecidableEq
def zv:ZV→Value
 | .int k=>.int k 0 | .bool=>.bool false | .str=>.string ⟨#[]⟩ | .ptr=>.pointer none | .sl=>.slice none 0 0 | .map=>.map none | .fn=>.nilFunc | .ifc=>.nilIface
def zvOf:Value→Option ZV
 | .int k n=>if n=0 then some (.int k) else none
 | .bool b=>if b=false then some .bool else none
 | .string s=>if s.data.size=0 then some .str else none
 | .pointer none=>some .ptr
 | .slice none 0 0=>some .sl
 | .map none=>some .map
 | .nilFunc=>some .fn
 | .nilIface=>some .ifc
 | _=>none
theorem zvOf_ok {v:Value} {z:ZV} (h:zvOf v=some z):v=zv z:=by
 unfold zvOf at h
 split at h <;> (try (split at h)) <;> (try cases h) <;> first
  | (rename_i h0;subst h0;rfl)
  | (rename_i s h0;cases s;simp at h0;subst h0;rfl)
  | rfl
  | skip
structure TI where
 agg:Bool
 size:Nat
 fs:List (Nat × Bool × Nat):=[]
 sl:Option (Nat × Bool × Nat × Nat):=none
 arr:Option (Nat × Bool × Nat):=none
 zero:List ZV:=[]
 str:Bool:=false
 deriving DecidableEq
def isAggB:TypeDesc→Bool
 | .struct _ | .array _ _=>true
 | _=>false
def szOf (P:Program) (t:TypeId):Option (Bool × Nat):=
 match P.info? t,P.underlying t with
 | some i,some u=>some (isAggB u,i.size)
 | _,_=>none
def tiOf (P:Program) (t:TypeId):Option TI:=
 match P.info? t,P.underlying t with
 | some i,some u=>some {
   agg:=isAggB u,size:=i.size,
   fs:=match u with | .struct fs=>(fs.toList.mapM fun f=>(szOf P f.type).map fun s=>(f.offset,s.1,s.2)).getD [] | _=>[],
   sl:=match u with | .slice e=>(szOf P e).map fun s=>(e,s.1,s.2,P.bytesOf e) | _=>none,
   arr:=match u with | .array n e=>(szOf P e).map fun s=>(n,s.1,s.2) | _=>none,
   zero:=(i.zero.bind fun v=>v.cells.toList.mapM zvOf).getD [],
   str:=match u with | .string=>true | _=>false }
 | _,_=>none
theorem aq2 {P:Program} {t:TypeId} {i:TI} (h:tiOf P t=some i):∃ inf u,P.info? t=some inf∧P.underlying t=some u∧i.agg=isAggB u∧i.size=inf.size ∧
  i.fs=(match u with | .struct fs=>(fs.toList.mapM fun f=>(szOf P f.type).map fun s=>(f.offset,s.1,s.2)).getD [] | _=>[]) ∧
  i.sl=(match u with | .slice e=>(szOf P e).map fun s=>(e,s.1,s.2,P.bytesOf e) | _=>none) ∧
  i.arr=(match u with | .array n e=>(szOf P e).map fun s=>(n,s.1,s.2) | _=>none) ∧
  i.zero=(inf.zero.bind fun v=>v.cells.toList.mapM zvOf).getD []∧i.str=(match u with | .string=>true | _=>false):=by
 unfold tiOf at h
 split at h
 ·rename_i inf u h1 h2
  cases h
  exact ⟨inf,u,h1,h2,rfl,rfl,rfl,rfl,rfl,rfl,rfl⟩
 ·cases h
theorem aq3 {P:Program} {t:TypeId} {b:Bool} {n:Nat} (h:szOf P t=some (b,n)) (w:World):(isAgg t).run P w = .ok b w∧(sizeOf t).run P w = .ok n w:=by
 unfold szOf at h
 split at h
 ·rename_i i u h1 h2
  cases h
  refine ⟨?_,by simp [sizeOf,typeInfo,program,Sem.run,h1]⟩
  simp only [isAgg,Sem.run_bind,run_underlying h2,Result.andThen]
  cases u <;> rfl
 ·cases h
theorem aR1 {P:Program} {t:TypeId} {i:TI} (h:tiOf P t=some i) (w:World):(isAgg t).run P w = .ok i.agg w∧(sizeOf t).run P w = .ok i.size w:=by
 obtain ⟨inf,u,h1,h2,h3,h4,_⟩:=aq2 h
 exact aq3 (by simp [szOf,h1,h2,h3,h4]) w
theorem at0 (b off n:Nat):(⟨b,off,none⟩:Addr).add n=⟨b,off+n,none⟩:=by
 unfold Addr.add
 split
 ·rename_i h;subst h;rfl
 ·rfl
section
variable {P:Program} {σ:aa1} {w:World} {X:Nat→Prop}
def aPick:D→D→D→Option (Prop × D)
 | .v (.bool true),x,_=>some (True,x)
 | .v (.bool false),_,y=>some (True,y)
 | _,_,_=>none
def aBox:D→Option (Prop × D)
 | .any=>none
 | d=>some (True,.ro (ag4 d))
def aNil:D→Option (Prop × D)
 | .ro cs=>some (True,.ro cs)
 | .clo f cs=>some (True,.clo f cs)
 | .v (.pointer (some a))=>some (True,.v (.pointer (some a)))
 | .v (.func (.func f) x y)=>some (True,.v (.func (.func f) x y))
 | _=>none
structure InR (n:Int):Prop where
 lo:-9223372036854775808≤n
 hi:n≤9223372036854775807
def vBin:BinOp→Value→Value→Option (Prop × Value)
 | .add,.int .i64 x,.int .i64 y=>some (InR (x+y),.int .i64 (x+y))
 | .sub,.int .i64 x,.int .i64 y=>some (InR (x - y),.int .i64 (x - y))
 | .mul,.int .i64 x,.int .i64 y=>some (InR (x*y),.int .i64 (x*y))
 | .lss,.int .i64 x,.int .i64 y=>some (True,.bool (decide (x<y)))
 | .leq,.int .i64 x,.int .i64 y=>some (True,.bool (decide (x≤y)))
 | .gtr,.int .i64 x,.int .i64 y=>some (True,.bool (decide (y<x)))
 | .geq,.int .i64 x,.int .i64 y=>some (True,.bool (decide (y≤x)))
 | .eql,.int .i64 x,.int .i64 y=>some (True,.bool (decide (x=y)))
 | .neq,.int .i64 x,.int .i64 y=>some (True,.bool (!decide (x=y)))
 | .lss,.int .u8 x,.int .u8 y=>some (True,.bool (decide (x<y)))
 | .leq,.int .u8 x,.int .u8 y=>some (True,.bool (decide (x≤y)))
 | .gtr,.int .u8 x,.int .u8 y=>some (True,.bool (decide (y<x)))
 | .geq,.int .u8 x,.int .u8 y=>some (True,.bool (decide (y≤x)))
 | .eql,.int .u8 x,.int .u8 y=>some (True,.bool (decide (x=y)))
 | .neq,.int .u8 x,.int .u8 y=>some (True,.bool (!decide (x=y)))
 | .gtr,.int .u64 x,.int .u64 y=>some (True,.bool (decide (y<x)))
 | .rem,.int .i64 x,.int .i64 y=>some (y≠0,.int .i64 (x.tmod y))
 | .quo,.int .i64 x,.int .i64 y=>some (y≠0∧InR (x.tdiv y),.int .i64 (x.tdiv y))
 | .eql,.string x,.string y=>some (True,.bool (x.toList == y.toList))
 | .neq,.string x,.string y=>some (True,.bool (!(x.toList == y.toList)))
 | .add,.string x,.string y=>some (x.size+y.size≤9223372036854775807,.string (x ++ y))
 | _,_,_=>none
def aBin (b:BinOp):D→D→Option (Prop × D)
 | .v x,.v y=>(vBin b x y).map fun p=>(p.1,.v p.2)
 | _,_=>none
def vUn:UnOp→Value→Option (Prop × Value)
 | .not,.bool b=>some (True,.bool (!b))
 | .neg,.int .i64 n=>some (InR (-n),.int .i64 (-n))
 | _,_=>none
def aUn (u:UnOp):D→Option (Prop × D)
 | .v x=>(vUn u x).map fun p=>(p.1,.v p.2)
 | _=>none
def mkD (agg:Bool) (cs:List D):D:=bif agg then .agg cs else cs.headD .any
def aLoad:Option TI→D→Option (Prop × D)
 | some i,.ro cs=>bif Nat.ble i.size cs.length && (i.agg || i.size == 1) then some (True,mkD i.agg (cs.take i.size)) else none
 | _,_=>none
def aF3:Option TI→Nat→D→Option (Prop × D)
 | some i,f,.ro cs=>match i.fs[f]? with
  | some (off,_,n)=>bif Nat.ble off cs.length && !(n == 0) then some (True,.ro (cs.drop off)) else none
  | none=>none
 | some i,f,.v (.pointer (some ⟨b,o,none⟩))=>match i.fs[f]? with
  | some (off,_,n)=>bif !(n == 0) then some (True,.v (.pointer (some ⟨b,o+off,none⟩))) else none
  | none=>none
 | _,_,_=>none
def aPart:Option TI→Nat→D→Option (Prop × D)
 | some i,f,.agg cs=>match i.fs[f]? with
  | some (off,ag,n)=>bif Nat.ble (off+n) cs.length && (ag || n == 1) then some (True,mkD ag ((cs.drop off).take n)) else none
  | none=>none
 | _,_,_=>none
def aExt:Nat→D→Option (Prop × D)
 | i,.tup ds=>match ds[i]? with|some d=>some (True,d)|none=>none
 | i,.v (.tuple vs)=>match vs[i]? with|some d=>some (True,.v d)|none=>none
 | _,_=>none
def aLen:Option TI→D→Option (Prop × D)
 | some i,.sl _ xs=>bif i.sl.isSome then some (True,.v (.int .i64 xs.length)) else none
 | some i,.v (.slice _ n _)=>bif i.sl.isSome then some (True,.v (.int .i64 n)) else none
 | some i,.v (.string s)=>bif i.str then some (True,.v (.int .i64 s.size)) else none
 | _,_=>none
def aIdx:Option TI→D→D→Option (Prop × D)
 | some i,.ro cs,.v (.int _ (.ofNat j))=>match i.arr with
  | some (n,_,k)=>bif Nat.blt j n && Nat.ble (j*k) cs.length then some (True,.ro (cs.drop (j*k))) else none
  | none=>none
 | some i,.v (.slice (some ⟨b,off,none⟩) n _),.v (.int _ j)=>match i.sl with
  | some (_,_,k,_)=>some (0≤j∧j<n,.v (.pointer (some ⟨b,off+j.toNat*k,none⟩)))
  | none=>none
 | _,_,_=>none
def aCall (T:TypeId→Option TI) (c:Call) (ρ:Operand→D):Option (Prop × D):=
 match c.callee,c.args.toList,c.argTypes.toList with
 | .builtin .len,[x],[t]=>aLen (T t) (ρ x)
 | _,_,_=>none
def aop (T:TypeId→Option TI) (op:Op) (ρ:Operand→D):Option (Prop × D):=
 match op with
 | .move x=>some (True,ρ x)
 | .assign x=>some (True,ρ x)
 | .pick c x y=>aPick (ρ c) (ρ x) (ρ y)
 | .box _ x=>aBox (ρ x)
 | .nilCheck x=>aNil (ρ x)
 | .binOp b _ x y _=>aBin b (ρ x) (ρ y)
 | .unOp u _ x=>aUn u (ρ x)
 | .load t x=>aLoad (T t) (ρ x)
 | .fieldAddr s x f=>aF3 (T s) f (ρ x)
 | .field s x f=>aPart (T s) f (ρ x)
 | .extract x i=>aExt i (ρ x)
 | .indexAddr t x i=>aIdx (T t) (ρ x) (ρ i)
 | .call c=>aCall T c ρ
 | _=>none
theorem aN2 (hst:StOK w X σ) {b:Nat} (hb:w.heap.size≤b):¬ Own σ X b:=fun h=>by have:=hst.own_lt h;omega
theorem rd_box (hst:StOK w X σ) {d:D} {u:Value} (h:Rd w (Own σ X) d u) (hne:d ≠ .any) (t:TypeId):Rd (w.alloc (.cells u.cells t)) (Own σ X) (.ro (ag4 d)) (.pointer (some ⟨w.heap.size,0,none⟩)):=by
 have hc:=(h.ex ((Ex.refl w).alloc (o:=.cells u.cells t))).cells hne
 refine .ro _ _ _ (fun j=>u.cells.toList.getD j undef) (aN2 hst (Nat.le_refl _)) (by simp) (fun j hj=>?_) (fun j d' hd'=>?_)
 ·have hlt:j<u.cells.toList.length:=by rw [hc.len];exact hj
  rw [Nat.zero_add,World.cell?_alloc_new]
  have hlt':j<u.cells.size:=by simpa using hlt
  simp [hlt']
 ·obtain ⟨u',h1,h2⟩:=hc.get hd'
  simp only [List.getD_eq_getElem?_getD,h1]
  exact h2
theorem wrap_in {n:Int} (h:InR n):IntKind.i64.wrap n=n:=IntWalk.i64_in _ ⟨h.lo,h.hi⟩
theorem vBin_ok {b:BinOp} {x y:Value} {s:Prop} {u:Value} (h:vBin b x y=some (s,u)) (hs:s) (t:TypeId) (p q:Operand) (w:World) :
  (do eqGuard b t p q x y;binOp b t x y).run P w = .ok u w:=by
 unfold vBin at h
 split at h <;> cases h <;> first
  | rfl
  | (simp [eqGuard,binOp,Op.intArith,wrap_in hs];done)
  | (simp [eqGuard,binOp,Op.intCmp];done)
  | (simp [eqGuard,binOp,Op.intDiv,hs];done)
  | (simp [eqGuard,binOp,Op.intDiv,hs.1,wrap_in hs.2];done)
  | (simp [eqGuard,binOp,Op.stringOp];done)
  | (show (Op.stringOp .add _ _).run P w=_;simp only [Op.stringOp];rw [if_neg (by rw [show IntKind.i64.max=9223372036854775807 from rfl];omega)];rfl)
theorem vUn_ok {b:UnOp} {x:Value} {s:Prop} {u:Value} (h:vUn b x=some (s,u)) (hs:s) (w:World):(Op.unary b x).run P w = .ok u w:=by
 unfold vUn at h
 split at h <;> cases h
 ·simp [Op.unary]
 ·simp only [Op.unary,Op.intArith,Int.zero_sub,wrap_in hs];rfl
theorem ax4 {t:TypeId} {n b off:Nat} {f:Nat→Value} (h1:(isAgg t).run P w = .ok true w) (h2:(sizeOf t).run P w = .ok n w) (hc:∀ j,j<n→w.cell? ⟨b,off+j,none⟩=some (f j)) :
  (Instr.loadAt t (.pointer (some ⟨b,off,none⟩))).run P w = .ok (.agg ((List.range n).map f).toArray) w:=by
 have:=run_loadCells (P:=P) (w:=w) ⟨b,off,none⟩ n f (fun j hj=>by rw [at0];exact hc j hj)
 simp [Instr.loadAt,Instr.sureAddr,loadVar,h1,h2,this,Result.andThen]
theorem as0 {t:TypeId} {b off:Nat} {v:Value} (h1:(isAgg t).run P w = .ok false w) (hc:w.cell? ⟨b,off,none⟩=some v) :
  (Instr.loadAt t (.pointer (some ⟨b,off,none⟩))).run P w = .ok v w:=by
 simp [Instr.loadAt,Instr.sureAddr,loadVar,h1,Result.andThen,load,Sem.run,hc]
end
end
section
open Go Go.RowKit Go.Shelf
section
variable {P:Program} {σ:aa1} {w:World} {X:Nat→Prop} {ρ:Operand→D}
theorem af8 {s:Sem Value} {u:Value} {w':World} {d:D} (h:s.run P w = .ok u w') (hx:Ex w w') (hr:Rd w' (Own σ X) d u):YU P w X σ d ((do pure (Next.value (← s)):Sem Next).run P w):=by
 simp only [Sem.run_bind,h,Result.andThen,Sem.run_pure]
 exact ⟨hx,hr⟩
theorem rd_mk {O:Nat→Prop} {cs:List D} {f:Nat→Value} {n:Nat} (ag:Bool) (hl:n≤cs.length) (h1:ag=true∨n=1) (hr:∀ (j:Nat) d,cs[j]?=some d→Rd w O d (f j)) :
  Rd w O (mkD ag (cs.take n)) (if ag then .agg ((List.range n).map f).toArray else f 0):=by
 cases ag with
 | true=>
  refine .agg _ _ (by simp [hl]) (fun j d u h2 h3=>?_)
  rw [List.getElem?_take] at h2
  split at h2
  ·rename_i hj
   simp [hj] at h3
   subst h3
   exact hr j d h2
  ·cases h2
 | false=>
  have:n=1:=by simpa using h1
  subst this
  cases cs with
  | nil=>simp at hl
  | cons c cs=>exact hr 0 c rfl
theorem aLoad_ok {t:TypeId} {T:TypeId→Option TI} (hT:∀ t i,T t=some i→tiOf P t=some i) {dx d:D} {s:Prop} {x:Value} (h:aLoad (T t) dx=some (s,d)) (hx:Rd w (Own σ X) dx x) :
  ∃ u,(Instr.loadAt t x).run P w = .ok u w∧Rd w (Own σ X) d u:=by
 unfold aLoad at h
 split at h
 ·rename_i i cs hti
  obtain ⟨g1,g2⟩:=aR1 (hT t i hti) w
  cases hc:(Nat.ble i.size cs.length && (i.agg || i.size == 1)) with
  | false=>rw [hc] at h;cases h
  | true=>
   rw [hc] at h;cases h
   simp only [Bool.and_eq_true,Nat.ble_eq,Bool.or_eq_true,beq_iff_eq] at hc
   generalize hq:D.ro cs=q at hx
   cases hx <;> cases hq
   rename_i b off vs hO hb hcl hr
   have hrd:=rd_mk (f:=vs) i.agg hc.1 hc.2 hr
   cases hag:i.agg with
   | true=>
    rw [hag] at g1 hrd
    exact ⟨_,ax4 g1 g2 (fun j hj=>hcl j (by omega)),hrd⟩
   | false=>
    rw [hag] at g1 hrd
    have h1:i.size=1:=by rcases hc.2 with h|h <;> simp_all
    exact ⟨_,as0 g1 (by have:=hcl 0 (by omega);simpa using this),hrd⟩
 ·cases h
theorem mapM_get {α β:Type} {f:α→Option β}:∀ {l:List α} {r:List β},l.mapM f=some r→∀ (i:Nat) (b:β),r[i]?=some b→∃ a,l[i]?=some a∧f a=some b
 | [],r,h,i,b,hb=>by simp at h;subst h;simp at hb
 | x :: l,r,h,i,b,hb=>by
  simp only [List.mapM_cons,Option.bind_eq_bind,Option.bind_eq_some_iff,Option.pure_def,Option.some.injEq] at h
  obtain ⟨y,hy,ys,hys,rfl⟩:=h
  cases i with
  | zero=>simp at hb;subst hb;exact ⟨x,rfl,hy⟩
  | succ i=>simp at hb;obtain ⟨a,h1,h2⟩:=mapM_get hys i b hb;exact ⟨a,by simpa using h1,h2⟩
theorem ti_field {t:TypeId} {i:TI} (h:tiOf P t=some i) {f off n:Nat} {ag:Bool} (hf:i.fs[f]?=some (off,ag,n)) :
  ∃ fs fl,P.underlying t=some (.struct fs)∧fs[f]?=some fl∧fl.offset=off∧szOf P fl.type=some (ag,n):=by
 obtain ⟨inf,u,h1,h2,_,_,h5,_,_,_,_⟩:=aq2 h
 rw [h5] at hf
 cases u with
 | struct fs=>
  simp only at hf
  cases hm:fs.toList.mapM (fun f=>(szOf P f.type).map fun s=>(f.offset,s.1,s.2)) with
  | none=>rw [hm] at hf;simp at hf
  | some r=>
   rw [hm] at hf
   obtain ⟨fl,g1,g2⟩:=mapM_get hm f _ hf
   simp only [Option.map_eq_some_iff,Prod.mk.injEq] at g2
   obtain ⟨sz,g3,rfl,rfl,rfl⟩:=g2
   exact ⟨fs,fl,h2,by simpa using g1,rfl,by rw [g3]⟩
 | _=>simp at hf
theorem aM0 {t:TypeId} {i:TI} (h:tiOf P t=some i) {f off n b o:Nat} {ag:Bool} (hf:i.fs[f]?=some (off,ag,n)) (hn:n≠0) :
  (Instr.fieldAt t (.pointer (some ⟨b,o,none⟩)) f).run P w = .ok (.pointer (some ⟨b,o+off,none⟩)) w:=by
 obtain ⟨fs,fl,h1,h2,h3,h4⟩:=ti_field h hf
 have:=(aq3 h4 w).2
 simp [Instr.fieldAt,run_underlying h1,h2,Instr.sureAddr,fieldPlace,this,hn,Result.andThen,at0,h3]
theorem aField_ok {t:TypeId} {T:TypeId→Option TI} (hT:∀ t i,T t=some i→tiOf P t=some i) {f:Nat} {dx d:D} {s:Prop} {x:Value} (h:aF3 (T t) f dx=some (s,d)) (hx:Rd w (Own σ X) dx x) :
  ∃ u,(Instr.fieldAt t x f).run P w = .ok u w∧Rd w (Own σ X) d u:=by
 cases hti:T t with
 | none=>rw [hti] at h;simp [aF3] at h
 | some i=>
  rw [hti] at h
  cases hf:i.fs[f]? with
  | none=>cases dx <;> simp [aF3,hf] at h;(split at h <;> simp_all)
  | some p=>
   obtain ⟨off,ag,n⟩:=p
   cases dx with
   | ro cs=>
    simp only [aF3,hf] at h
    cases hc:(Nat.ble off cs.length && !(n == 0)) with
    | false=>rw [hc] at h;cases h
    | true=>
     rw [hc] at h;cases h
     simp only [Bool.and_eq_true,Nat.ble_eq,Bool.not_eq_true',beq_eq_false_iff_ne,ne_eq] at hc
     generalize hq:D.ro cs=q at hx
     cases hx <;> cases hq
     rename_i b o vs hO hb hcl hr
     refine ⟨_,aM0 (hT t i hti) hf hc.2,.ro _ _ _ (fun j=>vs (off+j)) hO hb (fun j hj=>?_) (fun j d hd=>?_)⟩
     ·rw [Nat.add_assoc];exact hcl (off+j) (by simp at hj;omega)
     ·rw [List.getElem?_drop] at hd;exact hr _ _ hd
   | v y=>
    have:=hx.val rfl
    subst this
    unfold aF3 at h
    split at h
    ·cases ‹D.v _=D.ro _›
    ·rename_i i' f' b o e1 e2
     cases e1;cases e2
     simp only [hf] at h
     cases hc:(!(n == 0)) with
     | false=>rw [hc] at h;cases h
     | true=>
      rw [hc] at h;cases h
      simp only [Bool.not_eq_true',beq_eq_false_iff_ne,ne_eq] at hc
      exact ⟨_,aM0 (hT t i hti) hf hc,.v _⟩
    ·cases h
   | _=>simp [aF3] at h
theorem aPart_ok {t:TypeId} {T:TypeId→Option TI} (hT:∀ t i,T t=some i→tiOf P t=some i) {f:Nat} {dx d:D} {s:Prop} {x:Value} (h:aPart (T t) f dx=some (s,d)) (hx:Rd w (Own σ X) dx x) :
  ∃ u,(Instr.field t x f).run P w = .ok u w∧Rd w (Own σ X) d u:=by
 cases hti:T t with
 | none=>rw [hti] at h;simp [aPart] at h
 | some i=>
  rw [hti] at h
  cases dx with
  | agg cs=>
   cases hf:i.fs[f]? with
   | none=>simp [aPart,hf] at h
   | some p=>
   obtain ⟨off,ag,n⟩:=p
   simp only [aPart,hf] at h
   cases hc:(Nat.ble (off+n) cs.length && (ag || n == 1)) with
   | false=>rw [hc] at h;cases h
   | true=>
    rw [hc] at h;cases h
    simp only [Bool.and_eq_true,Nat.ble_eq,Bool.or_eq_true,beq_iff_eq] at hc
    generalize hq:D.agg cs=q at hx
    cases hx <;> cases hq
    rename_i vs hl hr
    obtain ⟨fs,fl,h1,h2,h3,h4⟩:=ti_field (hT t i hti) hf
    obtain ⟨k1,k2⟩:=aq3 h4 w
    have hrd:=rd_mk (w:=w) (O:=Own σ X) (cs:=cs.drop off) (f:=fun j=>(vs[off+j]?).getD undef) (n:=n) ag (by simp;omega) hc.2 (fun j d hd=>by
     rw [List.getElem?_drop] at hd
     have hlt:off+j<vs.length:=by rw [hl];exact (List.getElem?_eq_some_iff.1 hd).1
     have:=hr (off+j) d _ hd (List.getElem?_eq_getElem hlt)
     simpa [List.getElem?_eq_getElem hlt] using this)
    refine ⟨_,?_,hrd⟩
    cases ag with
    | true=>
     simp only [Instr.field,Sem.run_bind,run_underlying h1,Result.andThen,h2,asAgg,Sem.run_pure,part,k1,k2,if_true,h3]
     have e:vs.toArray.extract off (off+n)=((List.range n).map fun j=>(vs[off+j]?).getD undef).toArray:=by
      apply Array.ext'
      apply List.ext_getElem?
      intro j
      simp only [Array.toList_extract,List.extract_eq_take_drop,List.getElem?_take,List.getElem?_drop,List.getElem?_map,List.getElem?_range]
      by_cases hj:j<n
      ·have:off+j<vs.length:=by omega
       simp [hj,this]
      ·simp [hj]
     rw [e]
    | false=>
     have:n=1:=by simpa using hc.2
     subst this
     have hlt:off<vs.length:=by omega
     simp [Instr.field,run_underlying h1,Result.andThen,h2,asAgg,part,k1,h3,hlt]
  | _=>simp [aPart] at h
theorem aj3 {t:TypeId} {i:TI} (h:tiOf P t=some i) {e k by_:Nat} {ag:Bool} (hf:i.sl=some (e,ag,k,by_)):P.underlying t=some (.slice e)∧szOf P e=some (ag,k)∧P.bytesOf e=by_:=by
 obtain ⟨inf,u,h1,h2,_,_,_,h5,_,_,_⟩:=aq2 h
 rw [h5] at hf
 cases u with
 | slice e'=>
  simp only [Option.map_eq_some_iff,Prod.mk.injEq] at hf
  obtain ⟨sz,g3,rfl,rfl,rfl,rfl⟩:=hf
  exact ⟨h2,by rw [g3],rfl⟩
 | _=>simp at hf
theorem ti_array {t:TypeId} {i:TI} (h:tiOf P t=some i) {n k:Nat} {ag:Bool} (hf:i.arr=some (n,ag,k)):∃ e,P.underlying t=some (.array n e)∧szOf P e=some (ag,k):=by
 obtain ⟨inf,u,h1,h2,_,_,_,_,h5,_,_⟩:=aq2 h
 rw [h5] at hf
 cases u with
 | array m e=>
  simp only [Option.map_eq_some_iff,Prod.mk.injEq] at hf
  obtain ⟨sz,g3,rfl,rfl,rfl⟩:=hf
  exact ⟨e,h2,by rw [g3]⟩
 | _=>simp at hf
theorem ti_str {t:TypeId} {i:TI} (h:tiOf P t=some i) (hf:i.str=true):P.underlying t=some .string:=by
 obtain ⟨inf,u,h1,h2,_,_,_,_,_,_,h5⟩:=aq2 h
 rw [h5] at hf
 cases u <;> simp at hf
 exact h2
theorem aLen_ok {t ty:TypeId} {T:TypeId→Option TI} (hT:∀ t i,T t=some i→tiOf P t=some i) {dx d:D} {s:Prop} {x:Value} (h:aLen (T t) dx=some (s,d)) (hx:Rd w (Own σ X) dx x) :
  ∃ u,(Builtin.len_ #[t] ty #[x]).run P w = .ok u w∧Rd w (Own σ X) d u:=by
 cases hti:T t with
 | none=>rw [hti] at h;simp [aLen] at h
 | some i=>
  rw [hti] at h
  unfold aLen at h
  split at h
  ·rename_i i' k xs e1
   cases e1
   cases hs:i.sl with
   | none=>rw [hs] at h;cases h
   | some p=>
    obtain ⟨e,ag,kk,by_⟩:=p
    rw [hs] at h
    cases h
    have hu:=(aj3 (hT t i hti) hs).1
    generalize hq:D.sl k xs=q at hx
    cases hx <;> cases hq
    exact ⟨_,by simp [Builtin.len_,run_underlying hu,Result.andThen,goInt],.v _⟩
  ·rename_i i' a n c e1
   cases e1
   cases hs:i.sl with
   | none=>rw [hs] at h;cases h
   | some p=>
    obtain ⟨e,ag,kk,by_⟩:=p
    rw [hs] at h
    cases h
    have hu:=(aj3 (hT t i hti) hs).1
    have:=hx.val rfl
    subst this
    exact ⟨_,by simp [Builtin.len_,run_underlying hu,Result.andThen,goInt],.v _⟩
  ·rename_i i' s e1
   cases e1
   cases hs:i.str with
   | false=>rw [hs] at h;cases h
   | true=>
    rw [hs] at h
    cases h
    have hu:=ti_str (hT t i hti) hs
    have:=hx.val rfl
    subst this
    exact ⟨_,by simp [Builtin.len_,run_underlying hu,Result.andThen,goInt],.v _⟩
  ·cases h
theorem aIdx_ok {t:TypeId} {T:TypeId→Option TI} (hT:∀ t i,T t=some i→tiOf P t=some i) {dx di d:D} {s:Prop} {x y:Value} (h:aIdx (T t) dx di=some (s,d)) (hs:s) (hx:Rd w (Own σ X) dx x) (hy:Rd w (Own σ X) di y) :
  ∃ u,(Instr.indexAt t x y).run P w = .ok u w∧Rd w (Own σ X) d u:=by
 cases hti:T t with
 | none=>rw [hti] at h;simp [aIdx] at h
 | some i=>
  rw [hti] at h
  unfold aIdx at h
  split at h
  ·rename_i i' cs kk j e1
   cases e1
   split at h
   ·rename_i n ag k harr
    cases hc:(Nat.blt j n && Nat.ble (j*k) cs.length) with
    | false=>rw [hc] at h;cases h
    | true=>
     rw [hc] at h;cases h
     simp only [Bool.and_eq_true,Nat.ble_eq,Nat.blt_eq] at hc
     obtain ⟨e,hu,hsz⟩:=ti_array (hT t i hti) harr
     have hz:=(aq3 hsz w).2
     have:=hy.val rfl
     subst this
     generalize hq:D.ro cs=q at hx
     cases hx <;> cases hq
     rename_i b o vs hO hb hcl hr
     refine ⟨.pointer (some ⟨b,o+j*k,none⟩),?_,.ro _ _ _ (fun m=>vs (j*k+m)) hO hb (fun m hm=>?_) (fun m d hd=>?_)⟩
     ·have h1:(Int.ofNat j).toNat=j:=rfl
      have h2:(Int.ofNat j:Int)<n:=by simpa using hc.1
      simp [Instr.indexAt,asIntOf,run_underlying hu,Instr.sureAddr,Result.andThen,hz,at0,hc.1]
     ·rw [Nat.add_assoc];exact hcl (j*k+m) (by simp at hm;omega)
     ·rw [List.getElem?_drop] at hd;exact hr _ _ hd
   ·cases h
  ·rename_i i' b off n c kk j e1
   cases e1
   split at h
   ·rename_i e ag k by_ hsl
    cases h
    obtain ⟨hu,hsz,_⟩:=aj3 (hT t i hti) hsl
    have hz:=(aq3 hsz w).2
    have:=hy.val rfl
    subst this
    have:=hx.val rfl
    subst this
    exact ⟨_,by simp [Instr.indexAt,asIntOf,run_underlying hu,Result.andThen,hz,at0,hs.1,hs.2],.v _⟩
   ·cases h
  ·cases h
theorem yd_aop {T:TypeId→Option TI} (hT:∀ t i,T t=some i→tiOf P t=some i) {o:Oper} {s:Prop} {d:D} (h:aop T o.op ρ=some (s,d)) (hs:s):Yd P o ρ σ d:=by
 intro w X η hη hst
 obtain ⟨dst,op,ty,pos,aft,g⟩:=o
 simp only at h hη
 unfold aop at h
 split at h
 ·rename_i x;cases h;exact ⟨Ex.refl w,hη x (by simp [Op.operands])⟩
 ·rename_i x;cases h;exact ⟨Ex.refl w,hη x (by simp [Op.operands])⟩
 ·rename_i c x y
  have hc:=hη c (by simp [Op.operands])
  have hx:=hη x (by simp [Op.operands])
  have hy:=hη y (by simp [Op.operands])
  unfold aPick at h
  split at h
  ·rename_i e;cases h;rw [e] at hc;have:=hc.val rfl;simp only [execOp,this,asBool];exact ⟨Ex.refl w,hx⟩
  ·rename_i e;cases h;rw [e] at hc;have:=hc.val rfl;simp only [execOp,this,asBool];exact ⟨Ex.refl w,hy⟩
  ·cases h
 ·rename_i t x
  have hx:=hη x (by simp [Op.operands])
  unfold aBox at h
  split at h
  ·cases h
  ·rename_i hne
   cases h
   exact af8 (s:=Instr.box t (η x)) (by simp [Instr.box,newVar,newRow,newObj,Sem.run,Result.andThen]) ((Ex.refl w).alloc) (rd_box hst hx hne t)
 ·rename_i x
  have hx:=hη x (by simp [Op.operands])
  unfold aNil at h
  split at h
  ·rename_i cs e;cases h;rw [e] at hx;generalize hu:η x=u at *;generalize hq:D.ro cs=q at hx;cases hx <;> cases hq;rename_i b off vs hO hb hc hr;simp only [execOp,hu];exact ⟨Ex.refl w,.ro _ _ _ vs hO hb hc hr⟩
  ·rename_i f cs e;cases h;rw [e] at hx;generalize hu:η x=u at *;generalize hq:D.clo f cs=q at hx;cases hx <;> cases hq;rename_i vs hl hr;simp only [execOp,hu];exact ⟨Ex.refl w,.clo f cs vs hl hr⟩
  ·rename_i a e;cases h;rw [e] at hx;have:=hx.val rfl;simp only [execOp,this];exact ⟨Ex.refl w,.v _⟩
  ·rename_i f x y e;cases h;rw [e] at hx;have:=hx.val rfl;simp only [execOp,this];exact ⟨Ex.refl w,.v _⟩
  ·cases h
 ·rename_i b t x y _
  have hx:=hη x (by simp [Op.operands])
  have hy:=hη y (by simp [Op.operands])
  unfold aBin at h
  split at h
  ·rename_i u v e1 e2
   rw [e1] at hx;rw [e2] at hy
   simp only [Option.map_eq_some_iff] at h
   obtain ⟨⟨s',r⟩,h1,h2⟩:=h
   cases h2
   have:=vBin_ok (P:=P) h1 hs t x y w
   rw [← hx.val rfl,← hy.val rfl] at this
   exact af8 this (Ex.refl w) (.v _)
  ·cases h
 ·rename_i b t x
  have hx:=hη x (by simp [Op.operands])
  unfold aUn at h
  split at h
  ·rename_i u e1
   rw [e1] at hx
   simp only [Option.map_eq_some_iff] at h
   obtain ⟨⟨s',r⟩,h1,h2⟩:=h
   cases h2
   have:=vUn_ok (P:=P) h1 hs w
   rw [← hx.val rfl] at this
   exact af8 this (Ex.refl w) (.v _)
  ·cases h
 ·rename_i t x
  obtain ⟨u,h1,h2⟩:=aLoad_ok hT h (hη x (by simp [Op.operands]))
  exact af8 h1 (Ex.refl w) h2
 ·rename_i t x f
  obtain ⟨u,h1,h2⟩:=aField_ok hT h (hη x (by simp [Op.operands]))
  exact af8 h1 (Ex.refl w) h2
 ·rename_i t x f
  obtain ⟨u,h1,h2⟩:=aPart_ok hT h (hη x (by simp [Op.operands]))
  exact af8 h1 (Ex.refl w) h2
 ·rename_i x i
  have hx:=hη x (by simp [Op.operands])
  generalize hi:i=i0 at h
  unfold aExt at h
  split at h
  ·rename_i ds e
   subst hi
   rw [e] at hx
   split at h
   ·rename_i d' hd
    cases h
    generalize hu:η x=u at *
    generalize hq:D.tup ds=q at hx
    cases hx <;> cases hq
    rename_i vs hl hr
    have hlt:i<vs.length:=by rw [hl];exact (List.getElem?_eq_some_iff.1 hd).1
    refine af8 (s:=Instr.extract (η x) i) (u:=vs[i]) (by rw [hu];simp [Instr.extract,hlt]) (Ex.refl w) (hr i _ _ hd (List.getElem?_eq_getElem hlt))
   ·cases h
  ·rename_i vs e
   subst hi
   rw [e] at hx
   split at h
   ·rename_i d' hd
    cases h
    have:=hx.val rfl
    exact af8 (s:=Instr.extract (η x) i) (u:=d') (by rw [this];simp [Instr.extract,hd]) (Ex.refl w) (.v _)
   ·cases h
  ·cases h
 ·rename_i t x i
  obtain ⟨u,h1,h2⟩:=aIdx_ok hT h hs (hη x (by simp [Op.operands])) (hη i (by simp [Op.operands]))
  exact af8 h1 (Ex.refl w) h2
 ·rename_i c
  obtain ⟨callee,args,ats⟩:=c
  unfold aCall at h
  split at h
  ·rename_i x t e1 e2 e3
   simp only at e1 e2 e3
   have h2:args = #[x]:=by apply Array.ext';simpa using e2
   have h3:ats = #[t]:=by apply Array.ext';simpa using e3
   subst e1 h2 h3
   obtain ⟨u,g1,g2⟩:=aLen_ok (ty:=ty) hT h (hη x (by simp [Op.operands,Call.operands]))
   simp only [execOp,resolve,invoke,builtin,Sem.run_bind,Sem.run_pure,Result.andThen,List.map_toArray,List.map_cons,List.map_nil,g1]
   exact ⟨Ex.refl w,g2⟩
  ·cases h
 ·cases h
theorem yd_index {T:TypeId→Option TI} (hT:∀ t i,T t=some i→tiOf P t=some i) {o:Oper} {t:TypeId} {x ix:Operand} {k:Nat} {xs:List (List D)} {kk:IntKind} {j:Int} {cs:List D} {i:TI} {p:Nat × Bool × Nat × Nat} (ho:o.op = .indexAddr t x ix) (hx:ρ x = .sl k xs) (hi:ρ ix = .v (.int kk j))
  (ht:T t=some i) (hs:i.sl=some p) (hk:p.2.2.1=k) (hc:xs[j.toNat]?=some cs) (h0:0≤j):Yd P o ρ σ (.ro cs):=by
 intro w X η hη hst
 obtain ⟨dst,op,ty,pos,aft,g⟩:=o
 simp only at ho
 subst ho
 obtain ⟨e,ag,k',by_⟩:=p
 simp only at hk
 subst hk
 have h1:=hη x (by simp [Op.operands])
 have h2:=hη ix (by simp [Op.operands])
 rw [hx] at h1
 rw [hi] at h2
 have h2:=h2.val rfl
 obtain ⟨hu,hsz,_⟩:=aj3 (hT t i ht) hs
 have hz:=(aq3 hsz w).2
 obtain ⟨a,cap,vs,hv,hcap,hk,hcl,hr⟩:=h1.sl_inv
 obtain ⟨b,off,rfl,hO,hb,hcell⟩:=hcl _ _ hc
 have hlt:j.toNat<xs.length:=(List.getElem?_eq_some_iff.1 hc).1
 have hj:j<xs.length:=by omega
 have hl:cs.length=k':=hk cs (List.mem_of_getElem? hc)
 refine af8 (s:=Instr.indexAt t (η x) (η ix)) (u:=.pointer (some ⟨b,off+j.toNat*k',none⟩)) ?_ (Ex.refl w) (.ro _ _ _ (vs j.toNat) hO hb (fun m hm=>hcell m (by omega)) (fun m d hd=>hr _ _ hc m d hd))
 rw [hv,h2]
 simp [Instr.indexAt,asIntOf,run_underlying hu,Result.andThen,hz,at0,h0,hj]
end
end
end Go.Proofs.YtjbbmjjildhfbaaGreatDoor
