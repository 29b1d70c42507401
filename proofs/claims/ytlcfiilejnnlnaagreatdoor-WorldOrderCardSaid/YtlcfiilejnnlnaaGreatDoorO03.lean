/- A part of the proof: Ex Oq Om. -/
import Derived.Test.YtlcfiilejnnlnaaGreatDoorO02
set_option maxRecDepth 100000
set_option maxHeartbeats 20000000
set_option linter.unusedVariables false
set_option linter.unusedSimpArgs false
namespace Go.Proofs.YtlcfiilejnnlnaaGreatDoor
section
open Go Go.RowKit Go.Shelf
abbrev Frm:=List (Nat × D)
def an2:Frm→Nat→Option D
 | [],_=>none
 | (i,d) :: f,t=>bif Nat.beq i t then some d else an2 f t
def evF (f:Frm):Operand→D
 | .tmp t=>match an2 f t with|some d=>d|none=>.any
 | .const v=>.v v
 | .global g=>.v (.pointer (some ⟨g,0,none⟩))
 | .func f=>.v (.func (.func f) #[] #[])
structure Sp (N:Nat) (a:List D) (f:Frm):Prop where
 len:a.length=N
 at_:∀ i d,an2 f i=some d→d = .any∨a[i]?=some d
section
variable {N:Nat} {a:List D} {f:Frm}
theorem Sp.le (h:Sp N a f) (x:Operand):Le (evD a x) (evF f x):=by
 cases x with
 | tmp t=>
  simp only [evF]
  cases hl:an2 f t with
  | none=>exact fun _ _ v _=>.any v
  | some d=>
   rcases h.at_ t d hl with rfl|h1
   ·exact fun _ _ v _=>.any v
   ·simp only [evD,List.getD_eq_getElem?_getD,h1];exact Le.refl _
 | _=>exact Le.refl _
theorem Sp.eq (h:Sp N a f) {x:Operand} {d:D} (he:evF f x=d) (hd:d ≠ .any):evD a x=d:=by
 cases x with
 | tmp t=>
  simp only [evF] at he
  cases hl:an2 f t with
  | none=>rw [hl] at he;exact absurd he.symm hd
  | some d'=>
   rw [hl] at he
   simp only at he
   subst he
   rcases h.at_ t d' hl with h0|h1
   ·exact absurd h0 hd
   ·simp [evD,List.getD_eq_getElem?_getD,h1]
 | _=>exact he
theorem Yd.le {P:Program} {o:Oper} {ρ ρ':Operand→D} {σ:aa1} {d:D} (h:∀ x,Le (ρ x) (ρ' x)) (hy:Yd P o ρ' σ d):Yd P o ρ σ d:=
 fun w X η hη hs=>hy w X η (fun x hx=>h x _ _ _ (hη x hx)) hs
def putK (N:Nat) (dst:Option Tmp) (d:D) (f:Frm) (K:Frm→Prop):Prop:=
 match dst with
 | none=>K f
 | some i=>bif Nat.blt i N then K ((i,d) :: f) else False
theorem ad4 {dst:Option Tmp} {d:D} {K:Frm→Prop} (h:putK N dst d f K) (hs:Sp N a f):∃ f',Sp N (putD a dst d) f'∧K f':=by
 cases dst with
 | none=>exact ⟨f,hs,h⟩
 | some i=>
  simp only [putK] at h
  cases hb:Nat.blt i N with
  | false=>rw [hb] at h;exact h.elim
  | true=>
   rw [hb] at h
   rw [Nat.blt_eq] at hb
   refine ⟨_,⟨by simp [putD,hs.len],fun j d' hj=>?_⟩,h⟩
   simp only [an2] at hj
   cases he:Nat.beq i j with
   | true=>
    rw [he] at hj
    simp only [cond_true,Option.some.injEq] at hj
    have:=Nat.eq_of_beq_eq_true he
    subst this hj
    exact .inr (by simp [putD,hs.len,hb])
   | false=>
    rw [he] at hj
    have hne:i≠j:=fun e=>by subst e;simp at he
    rcases hs.at_ j d' hj with h1|h1
    ·exact .inl h1
    ·exact .inr (by simp [putD,List.getElem?_set,hne,h1])
end
/-! ### Data brought into their normal form -/
def ab7 (d:D) (K:D→Prop):Prop:=match d with
 | .v x=>K (.v x)
 | .any=>K .any
 | .sl k xs=>K (.sl k xs)
 | .ro cs=>K (.ro cs)
 | .agg cs=>K (.agg cs)
 | .tup ds=>K (.tup ds)
 | .clo f cs=>K (.clo f cs)
 | .gl g=>K (.gl g)
theorem ad6 {d:D} {K:D→Prop} (h:ab7 d K):K d:=by cases d <;> exact h
def as9:List D→(List D→Prop)→Prop
 | [],K=>K []
 | d :: ds,K=>ab7 d fun d=>as9 ds fun ds=>K (d :: ds)
theorem ai6:∀ {l:List D} {K:List D→Prop},as9 l K→K l
 | [],_,h=>h
 | d :: ds,K,h=>ai6 (K:=fun ds=>K (d :: ds)) (ad6 (K:=fun d=>as9 ds fun ds=>K (d :: ds)) h)
def aM9:List (List D)→(List (List D)→Prop)→Prop
 | [],K=>K []
 | x :: xs,K=>as9 x fun x=>aM9 xs fun xs=>K (x :: xs)
theorem aQ8:∀ {l:List (List D)} {K:List (List D)→Prop},aM9 l K→K l
 | [],_,h=>h
 | x :: xs,K,h=>aQ8 (K:=fun xs=>K (x :: xs)) (ai6 (K:=fun x=>aM9 xs fun xs=>K (x :: xs)) h)
def bF4:Nat→List D→(List D→Prop)→Prop
 | 0,l,K=>K l
 | _+1,[],K=>K []
 | n+1,_ :: l,K=>bF4 n l K
theorem aI8:∀ {n:Nat} {l:List D} {K:List D→Prop},bF4 n l K→K (l.drop n)
 | 0,_,_,h=>h
 | _+1,[],_,h=>h
 | n+1,_ :: l,K,h=>aI8 (n:=n) (l:=l) (K:=K) h
def mkK (ag:Bool) (n:Nat) (cs:List D) (K:D→Prop):Prop:=
 match ag with
 | true=>bif Nat.beq n cs.length then K (.agg cs) else as9 (cs.take n) fun l=>K (.agg l)
 | false=>match cs with|c :: _=>bif Nat.beq n 1 then ab7 c K else False | []=>False
theorem bV6 {ag:Bool} {n:Nat} {cs:List D} {K:D→Prop} (h:mkK ag n cs K):K (mkD ag (cs.take n)):=by
 unfold mkK at h
 cases ag with
 | true=>
  simp only at h
  cases hb:Nat.beq n cs.length with
  | true=>
   rw [hb] at h
   have:=Nat.eq_of_beq_eq_true hb
   rw [this,List.take_length]
   exact h
  | false=>rw [hb] at h;exact ai6 (K:=fun l=>K (.agg l)) h
 | false=>
  cases cs with
  | nil=>exact h.elim
  | cons c cs=>
   simp only at h
   cases hb:Nat.beq n 1 with
   | false=>rw [hb] at h;exact h.elim
   | true=>rw [hb] at h;have:=Nat.eq_of_beq_eq_true hb;subst this;exact ad6 h
/-! ### Where the executor stops -/
structure Br (t:Bool) (A B:Prop):Prop where
 yes:t=true→A
 no:t=false→B
structure Bc (t:Bool) (A B C:Prop):Prop where
 run:Br t A B∨C
structure Bx (A B:Prop):Prop where
 run:A∨B
structure Sd (s A:Prop):Prop where
 s:s
 k:A
structure Ck (b:Bool) (A:Prop):Prop where
 s:b=true
 k:A
structure Ix (xs:List (List D)) (j:Int) (K:List D→Prop):Prop where
 run:0≤j∧∃ cs,xs[j.toNat]?=some cs∧K cs
structure Ld (P:Program) (o:Oper) (ρ:Operand→D) (σ:aa1) (b off:Nat) (ag:Bool) (sz:Nat) (K:D→Prop):Prop where
 run:(∃ (j:Nat) (tb:TypeId) (cs:List D),σ[j]?=some (b,.cells tb cs)∧off+sz≤cs.length∧K (mkD ag ((cs.drop off).take sz)))∨∃ d,Yd P o ρ σ d∧K d
structure Ot (P:Program) (o:Oper) (ρ:Operand→D) (σ:aa1) (K:D→Prop):Prop where
 run:∃ d,Yd P o ρ σ d∧K d
structure APk (P:Program) (f:FuncId) (args:List D) (σ:aa1) (d:D):Prop where
 ent:Enters P f
 run:∀ (w:World) (X:Nat→Prop) (vs:List Value),RdL w (Own σ X) args vs→StOK w X σ →
  Calls P f vs.toArray w fun e w'=>∃ u,e = .returned u∧Rd w' (Own σ X) d u∧Ex w w'
theorem APure.pk {P:Program} {f:FuncId} {args:List D} {σ:aa1} {d:D} (h:APure P f args d):APk P f args σ d:=
 ⟨h.ent,fun w X vs hv hs=>h.run w _ vs hv hs.gok⟩
theorem cv1 {P:Program} {σ:aa1} {o:Oper} {ρ:Operand→D} {f:FuncId} {ds:List D} {d:D} (h:bt7 o.op ρ=some (f,ds)) (hp:APk P f ds σ d):Yd P o ρ σ d:=by
 intro w X η hη hst
 obtain ⟨vs,h1,h2⟩:=bp4 (P:=P) (w:=w) h hp.ent hη
 rw [h2]
 exact ⟨rfl,(hp.run w X vs h1 hst).mono fun e w' ⟨u,g1,g2,g3⟩=>⟨u,g1,g3,g2⟩⟩
structure Cp (P:Program) (f:FuncId) (args:List D) (σ:aa1) (K:D→Prop):Prop where
 run:∃ d,APk P f args σ d∧K d
def ca0:BinOp→Value→Bool
 | .add,_=>true | .sub,_=>true | .mul,_=>true | .rem,_=>true | .quo,_=>true
 | _,_=>false
theorem bK1 {b:BinOp} {x y u:Value} {s:Prop} (h:vBin b x y=some (s,u)) (hb:ca0 b x=false):s:=by
 unfold vBin at h
 split at h <;> cases h <;> first|trivial|cases hb
def exY (P:Program) (T:TypeId→Option TI) (o:Oper) (f:Frm) (σ:aa1) (K:D→Prop):Prop:=
 match o.op with
 | .move x=>ab7 (evF f x) K
 | .assign x=>ab7 (evF f x) K
 | .pick c x y=>match evF f c with
  | .v (.bool t)=>Br t (ab7 (evF f x) K) (ab7 (evF f y) K)
  | _=>Ot P o (evF f) σ (fun d=>ab7 d K)
 | .box _ x=>match evF f x with
  | .any=>Ot P o (evF f) σ (fun d=>ab7 d K)
  | .agg cs=>K (.ro cs)
  | .v (.agg vs)=>as9 (vs.toList.map .v) fun l=>K (.ro l)
  | d=>K (.ro [d])
 | .nilCheck x=>match evF f x with
  | .ro cs=>K (.ro cs)
  | .clo g cs=>K (.clo g cs)
  | .v (.pointer (some p))=>K (.v (.pointer (some p)))
  | .v (.func (.func g) u v)=>K (.v (.func (.func g) u v))
  | _=>Ot P o (evF f) σ (fun d=>ab7 d K)
 | .binOp b _ x y _=>match evF f x with
  | .v u=>match evF f y with
   | .v v=>match vBin b u v with
    | some (s,r)=>bif ca0 b u then Bx (Sd s (K (.v r))) (Ot P o (evF f) σ (fun d=>ab7 d K)) else K (.v r)
    | none=>Ot P o (evF f) σ (fun d=>ab7 d K)
   | _=>Ot P o (evF f) σ (fun d=>ab7 d K)
  | _=>Ot P o (evF f) σ (fun d=>ab7 d K)
 | .unOp b _ x=>match evF f x with
  | .v u=>match vUn b u with
   | some (s,r)=>(match b with | .not=>Sd s (K (.v r)) | _=>Sd s (K (.v r)))
   | none=>Ot P o (evF f) σ (fun d=>ab7 d K)
  | _=>Ot P o (evF f) σ (fun d=>ab7 d K)
 | .load t x=>match T t with
  | none=>Ot P o (evF f) σ (fun d=>ab7 d K)
  | some i=>match evF f x with
   | .ro cs=>bif Nat.ble i.size cs.length && (i.agg || i.size == 1) then mkK i.agg i.size cs K else False
   | .v (.pointer (some ⟨b,off,none⟩))=>bif i.agg || i.size == 1 then Ld P o (evF f) σ b off i.agg i.size (fun d=>ab7 d K) else False
   | _=>Ot P o (evF f) σ (fun d=>ab7 d K)
 | .fieldAddr s x fl=>match T s with
  | none=>Ot P o (evF f) σ (fun d=>ab7 d K)
  | some i=>match i.fs[fl]? with
   | none=>Ot P o (evF f) σ (fun d=>ab7 d K)
   | some (off,_,n)=>match evF f x with
    | .ro cs=>bif Nat.ble off cs.length && !(n == 0) then bF4 off cs fun l=>K (.ro l) else False
    | .v (.pointer (some ⟨b,o,none⟩))=>bif !(n == 0) then K (.v (.pointer (some ⟨b,o+off,none⟩))) else False
    | _=>Ot P o (evF f) σ (fun d=>ab7 d K)
 | .field s x fl=>match T s with
  | none=>Ot P o (evF f) σ (fun d=>ab7 d K)
  | some i=>match i.fs[fl]? with
   | none=>Ot P o (evF f) σ (fun d=>ab7 d K)
   | some (off,ag,n)=>match evF f x with
    | .agg cs=>bif Nat.ble (off+n) cs.length && (ag || n == 1) then bF4 off cs fun l=>mkK ag n l K else False
    | _=>Ot P o (evF f) σ (fun d=>ab7 d K)
 | .extract x i=>match evF f x with
  | .tup ds=>match ds[i]? with|some d=>ab7 d K|none=>Ot P o (evF f) σ (fun d=>ab7 d K)
  | .v (.tuple vs)=>match vs[i]? with|some d=>K (.v d)|none=>Ot P o (evF f) σ (fun d=>ab7 d K)
  | _=>Ot P o (evF f) σ (fun d=>ab7 d K)
 | .indexAddr t x ix=>match T t with
  | none=>Ot P o (evF f) σ (fun d=>ab7 d K)
  | some i=>match evF f ix with
   | .v (.int kk j)=>match evF f x with
    | .sl k xs=>match i.sl with
     | some (_,_,k',_)=>bif Nat.beq k' k then Ix xs j (fun cs=>K (.ro cs)) else False
     | none=>Ot P o (evF f) σ (fun d=>ab7 d K)
    | .v (.slice (some ⟨b,off,none⟩) n _)=>match i.sl with
     | some (_,_,k,_)=>Sd (0≤j∧j<n) (K (.v (.pointer (some ⟨b,off+j.toNat*k,none⟩))))
     | none=>Ot P o (evF f) σ (fun d=>ab7 d K)
    | .ro cs=>match j with
     | .ofNat m=>match i.arr with
      | some (n,_,k)=>bif Nat.blt m n && Nat.ble (m*k) cs.length then bF4 (m*k) cs fun l=>K (.ro l) else False
      | none=>Ot P o (evF f) σ (fun d=>ab7 d K)
     | _=>Ot P o (evF f) σ (fun d=>ab7 d K)
    | _=>Ot P o (evF f) σ (fun d=>ab7 d K)
   | _=>Ot P o (evF f) σ (fun d=>ab7 d K)
 | .build t ps=>match T t with
  | none=>Ot P o (evF f) σ (fun d=>ab7 d K)
  | some i=>bif Nat.beq i.zero.length i.size && Nat.blt 0 i.size && (i.arr.isSome || !i.fs.isEmpty) then
    (match aW8 (plD i) (i.zero.map fun z=>.v (zv z)) (ps.toList.map fun p=>(p.1,evF f p.2)) with
    | some out=>as9 out fun l=>K (.agg l)
    | none=>Ot P o (evF f) σ (fun d=>ab7 d K)) else False
 | .buildSlice t m ps=>match T t with
  | none=>Ot P o (evF f) σ (fun d=>ab7 d K)
  | some i=>match i.sl with
   | none=>Ot P o (evF f) σ (fun d=>ab7 d K)
   | some (e,_,k,_)=>match T e with
    | none=>Ot P o (evF f) σ (fun d=>ab7 d K)
    | some j=>bif Nat.beq j.zero.length j.size && Nat.beq j.size k && Nat.blt 0 k && Nat.ble (m*k) 1000 then
      (match aW8 (fun q=>some (q*k,k)) (aG5 j.zero k m) (ps.toList.map fun p=>(p.1,evF f p.2)) with
      | some out=>bif out.length == m*k then aM9 (aO9 k m out) fun l=>K (.sl k l) else False
      | none=>Ot P o (evF f) σ (fun d=>ab7 d K)) else False
 | .makeFunc (.func g) first cap=>bif first.toList.isEmpty then as9 (cap.toList.map (evF f)) fun l=>K (.clo g l) else False
 | .call c=>match c.callee with
  | .builtin .len=>match c.args.toList,c.argTypes.toList with
   | [x],[t]=>match T t with
    | none=>Ot P o (evF f) σ (fun d=>ab7 d K)
    | some i=>match evF f x with
     | .sl _ xs=>bif i.sl.isSome then K (.v (.int .i64 xs.length)) else False
     | .v (.slice _ n _)=>bif i.sl.isSome then K (.v (.int .i64 n)) else False
     | .v (.string s)=>bif i.str then K (.v (.int .i64 s.size)) else False
     | _=>Ot P o (evF f) σ (fun d=>ab7 d K)
   | _,_=>Ot P o (evF f) σ (fun d=>ab7 d K)
  | .value _=>match bt7 o.op (evF f) with
   | some (g,ds)=>as9 ds fun ds=>Cp P g ds σ fun d=>ab7 d K
   | none=>Ot P o (evF f) σ (fun d=>ab7 d K)
  | _=>Ot P o (evF f) σ (fun d=>ab7 d K)
 | _=>Ot P o (evF f) σ (fun d=>ab7 d K)
section
variable {P:Program} {N:Nat} {σ:aa1} {a:List D} {f:Frm} {T:TypeId→Option TI}
theorem ae6 {c:Bool} {A:Prop} (h:bif c then A else False):c=true∧A:=by cases c;exact h.elim;exact ⟨rfl,h⟩
theorem cl1 {p:Prop} (h:p:=by simp only [ho,aop,ci1,hc,e2,e3,hi,hx,aLen,h1,cond_true];try rfl):p:=h
theorem aR3 (hT:∀ t i,T t=some i→tiOf P t=some i) {o:Oper} {K:D→Prop} (h:exY P T o f σ K):∃ d,Yd P o (evF f) σ d∧K d:=by
 have go:∀ {s d},aop T o.op (evF f)=some (s,d)→s→K d→∃ d,Yd P o (evF f) σ d∧K d:=fun h1 h2 h3=>⟨_,cj2 hT h1 h2,h3⟩
 have ot:Ot P o (evF f) σ (fun d=>ab7 d K)→∃ d,Yd P o (evF f) σ d∧K d:=fun h=>let ⟨d,h1,h2⟩:=h.run;⟨d,h1,ad6 h2⟩
 unfold exY at h
 split at h
 ·rename_i x ho;exact go (by simp only [ho,aop];try rfl) trivial (ad6 h)
 ·rename_i x ho;exact go (by simp only [ho,aop];try rfl) trivial (ad6 h)
 ·rename_i c x y ho
  split at h
  ·rename_i t ht
   cases t with
   | true=>exact go (by simp only [ho,aop,ht,bS7];try rfl) trivial (ad6 (h.yes rfl))
   | false=>exact go (by simp only [ho,aop,ht,bS7];try rfl) trivial (ad6 (h.no rfl))
  ·exact ot h
 ·rename_i t x ho
  split at h
  ·exact ot h
  ·rename_i cs hx;exact go (by simp only [ho,aop,hx,aBox];try rfl) trivial h
  ·rename_i vs hx
   have:=ai6 (K:=fun l=>K (.ro l)) h
   exact go (by simp only [ho,aop,hx,aBox];try rfl) trivial this
  ·rename_i d h1 h2 h3
   have hc:af8 (evF f x)=[evF f x]:=by
    unfold af8;split
    ·rename_i cs e;exact absurd e (h2 cs)
    ·rename_i vs e;exact absurd e (h3 vs)
    ·rfl
   have hb:aBox (evF f x)=some (True,.ro (af8 (evF f x))):=by
    unfold aBox;split
    ·rename_i e;exact absurd e h1
    ·rfl
   exact go (by simp only [ho,aop];exact hb) trivial (by rw [hc];exact h)
 ·rename_i x ho
  split at h
  ·rename_i hx;exact go (by simp only [ho,aop,hx,aNil];try rfl) trivial h
  ·rename_i hx;exact go (by simp only [ho,aop,hx,aNil];try rfl) trivial h
  ·rename_i hx;exact go (by simp only [ho,aop,hx,aNil];try rfl) trivial h
  ·rename_i hx;exact go (by simp only [ho,aop,hx,aNil];try rfl) trivial h
  ·exact ot h
 ·rename_i b t x y t' ho
  split at h
  ·rename_i u hu
   split at h
   ·rename_i v hv
    split at h
    ·rename_i s r hr
     have hb:aop T o.op (evF f)=some (s,.v r):=by simp only [ho,aop,hu,hv,aBin,hr,Option.map_some]
     cases hs:ca0 b u with
     | true=>
      rw [hs] at h
      rcases h.run with h|h
      ·exact go hb h.s h.k
      ·exact ot h
     | false=>rw [hs] at h;exact go hb (bK1 hr hs) h
    ·exact ot h
   ·exact ot h
  ·exact ot h
 ·rename_i b t x ho
  split at h
  ·rename_i u hu
   split at h
   ·rename_i s r hr
    have hb:aop T o.op (evF f)=some (s,.v r):=by simp only [ho,aop,hu,aUn,hr,Option.map_some]
    split at h <;> exact go hb h.s h.k
   ·exact ot h
  ·exact ot h
 ·rename_i t x ho
  split at h
  ·exact ot h
  ·rename_i i hi
   split at h
   ·rename_i cs hx
    obtain ⟨h1,h2⟩:=ae6 h
    exact go (by simp only [ho,aop,hx,hi,bT1,h1,cond_true];try rfl) trivial (bV6 h2)
   ·rename_i b off hx
    obtain ⟨h1,h2⟩:=ae6 h
    rcases h2.run with ⟨j,tb,cs,g1,g2,g3⟩|⟨d,g1,g2⟩
    ·exact ⟨_,ci7 hT ho hi hx g1 g2 (by simpa using h1),ad6 g3⟩
    ·exact ⟨d,g1,ad6 g2⟩
   ·exact ot h
 ·rename_i s x fl ho
  split at h
  ·exact ot h
  ·rename_i i hi
   split at h
   ·exact ot h
   ·rename_i off ag n hf
    split at h
    ·rename_i cs hx
     obtain ⟨h1,h2⟩:=ae6 h
     exact go (by simp only [ho,aop,hx,hi,aD3,hf,h1,cond_true];try rfl) trivial (aI8 (K:=fun l=>K (.ro l)) h2)
    ·rename_i b oo hx
     obtain ⟨h1,h2⟩:=ae6 h
     exact go (by simp only [ho,aop,hx,hi,aD3,hf,h1,cond_true];try rfl) trivial h2
    ·exact ot h
 ·rename_i s x fl ho
  split at h
  ·exact ot h
  ·rename_i i hi
   split at h
   ·exact ot h
   ·rename_i off ag n hf
    split at h
    ·rename_i cs hx
     obtain ⟨h1,h2⟩:=ae6 h
     exact go (by simp only [ho,aop,hx,hi,bi9,hf,h1,cond_true];try rfl) trivial (bV6 (aI8 (K:=fun l=>mkK ag n l K) h2))
    ·exact ot h
 ·rename_i x i ho
  split at h
  ·rename_i ds hx
   split at h
   ·rename_i d hd;exact go (by simp only [ho,aop,hx,aExt,hd];try rfl) trivial (ad6 h)
   ·exact ot h
  ·rename_i vs hx
   split at h
   ·rename_i d hd;exact go (by simp only [ho,aop,hx,aExt,hd];try rfl) trivial h
   ·exact ot h
  ·exact ot h
 ·rename_i t x ix ho
  split at h
  ·exact ot h
  ·rename_i i hi
   split at h
   ·rename_i kk j hj
    split at h
    ·rename_i k xs hx
     split at h
     ·rename_i e ag k' by_ hs
      obtain ⟨h1,h2⟩:=ae6 h
      obtain ⟨g1,cs,g2,g3⟩:=h2.run
      exact ⟨_,bI8 hT ho hx hj hi hs (Nat.eq_of_beq_eq_true h1) g2 g1,g3⟩
     ·exact ot h
    ·rename_i b off n c hx
     split at h
     ·rename_i e ag k by_ hs
      exact go (by simp only [ho,aop,hx,hi,hj,aIdx,hs];try rfl) h.s h.k
     ·exact ot h
    ·rename_i cs hx
     split at h
     ·rename_i m
      split at h
      ·rename_i n ag k hs
       obtain ⟨h1,h2⟩:=ae6 h
       exact go (by simp only [ho,aop,hx,hi,hj,aIdx,hs,h1,cond_true];try rfl) trivial (aI8 (K:=fun l=>K (.ro l)) h2)
      ·exact ot h
     ·exact ot h
    ·exact ot h
   ·exact ot h
 ·rename_i t ps ho
  split at h
  ·exact ot h
  ·rename_i i hi
   obtain ⟨h1,h2⟩:=ae6 h
   simp only [Bool.and_eq_true] at h1
   split at h2
   ·rename_i out hf
    exact ⟨_,bI9 hT ho hi (Nat.eq_of_beq_eq_true h1.1.1) h1.1.2 h1.2 hf,ai6 (K:=fun l=>K (.agg l)) h2⟩
   ·exact ot h2
 ·rename_i t m ps ho
  split at h
  ·exact ot h
  ·rename_i i hi
   split at h
   ·exact ot h
   ·rename_i e ag k by_ hs
    split at h
    ·exact ot h
    ·rename_i j hj
     obtain ⟨h1,h2⟩:=ae6 h
     simp only [Bool.and_eq_true] at h1
     split at h2
     ·rename_i out hf
      obtain ⟨h3,h4⟩:=ae6 h2
      exact ⟨_,cj0 hT ho hi hs hj (Nat.eq_of_beq_eq_true h1.1.1.1) (Nat.eq_of_beq_eq_true h1.1.1.2) h1.1.2 h1.2 hf h3,aQ8 (K:=fun l=>K (.sl k l)) h4⟩
     ·exact ot h2
 ·rename_i g first cap ho
  obtain ⟨h1,h2⟩:=ae6 h
  have h0:first = #[]:=by simpa using h1
  subst h0
  exact ⟨_,ci8 ho,ai6 (K:=fun l=>K (.clo g l)) h2⟩
 ·rename_i c ho
  split at h
  ·rename_i hc
   split at h
   ·rename_i x t e2 e3
    split at h
    ·exact ot h
    ·rename_i i hi
     split at h
     ·rename_i k xs hx
      obtain ⟨h1,h2⟩:=ae6 h
      exact go cl1 trivial h2
     ·rename_i ad n cc hx
      obtain ⟨h1,h2⟩:=ae6 h
      exact go cl1 trivial h2
     ·rename_i s hx
      obtain ⟨h1,h2⟩:=ae6 h
      exact go cl1 trivial h2
     ·exact ot h
   ·exact ot h
  ·split at h
   ·rename_i g ds hc
    obtain ⟨d,g1,g2⟩:=(ai6 (K:=fun ds=>Cp P g ds σ fun d=>ab7 d K) h).run
    exact ⟨d,cv1 hc g1,ad6 g2⟩
   ·exact ot h
  ·exact ot h
 ·exact ot h
end
end
section
open Go Go.RowKit Go.Shelf
section
variable {P:Program} {r:Option Nat} {n:Nat} {df:Nat} {ops:Array Oper} {Q:Pst} {a:List D} {σ:aa1} {md:Region.Mode} {al:Option (Nat × TypeId)}
theorem aR8 {m g:Nat} {Lq:List D→Prop} (hwt:∀ i listed,i<m→HeadInv md ops m listed→listed.getD i true=false→∀ t,m≤t→t ∉ Region.ready md ops listed) :
  ∀ (l:List Oper) (k:Nat) (listed:Array Bool) (a:List D),(∀ j,j<l.length→l[j]?=ops[k+j]?)→k+l.length=m→HeadInv md ops m listed→(∀ j,j<k→listed.getD j false=true) →
  Region.lexHead md ops g l.length k listed=true→aA5 al P ops σ Lq l a →
  bj0 al P md ops σ m (fun listed' a'=>Region.seqB md ops g m listed'=true∧(∀ j,j<m→listed'.getD j false=true)∧Lq a') l.length listed a
 | [],k,listed,a,_,hk,_,hs,hB,h=>by
  obtain rfl:k=m:=by simpa using hk
  exact ⟨by simpa [Region.lexHead] using hB,hs,h⟩
 | o :: l,k,listed,a,hl,hk,inv,hs,hB,h=>by
  have h0:ops[k]?=some o:=by simpa using (hl 0 (by simp)).symm
  simp only [List.length_cons,Region.lexHead,Bool.and_eq_true] at hB hk
  obtain ⟨⟨hr,hf⟩,hB'⟩:=hB
  have hr':k∈Region.ready md ops listed:=by simpa using hr
  have hst:aOp al P ops σ k (aA5 al P ops σ Lq l) a:=by unfold aOp;simp only [h0];exact h
  obtain ⟨d,hy,hK⟩:=aJ2 h0 hst
  have hks:k<listed.size:=by
   have h1:=(mem_ready.1 hr').1
   refine Nat.lt_of_not_le fun hle=>?_
   rw [Array.getD_eq_getD_getElem?,Array.getElem?_eq_none (by omega)] at h1
   cases h1
  exact aO2 h0 (fun ls i1 i2=>hwt k ls (by omega) i1 i2) (by omega) (fun listed' a' hL=>seqB_ready hL.1) l.length listed a inv (Region.free_spec h0 hf) hr' hy
   (aR8 hwt l (k+1) _ _ (fun j hj=>by have:=hl (j+1) (by simp;omega);simpa [Nat.add_assoc,Nat.add_comm 1 j] using this) (by omega) (inv.set hr' (by omega)) (fun j hj=>by
    by_cases e:j=k
    ·subst e;simp [Array.getD_eq_getD_getElem?,hks]
    ·have:=hs j (by omega)
     rw [Array.getD_eq_getD_getElem?,Array.getElem?_setIfInBounds_ne (by omega)]
     simpa [Array.getD_eq_getD_getElem?] using this) hB' hK)
def StG (X:Nat→Prop) (df:Nat) (σ:aa1) (s:Nat) (t0:TypeId) (zc:List Value) (w0:World) (gh:Option Nat) (w:World) (a:List D) (fr:Act):Prop:=match gh with
 | none=>St w X df a σ fr
 | some b=>St w (fun x=>X x∨x=b) df a σ fr∧w0.heap.size≤b∧w.heap[b]?=some (.cells zc.toArray t0 (0,0))∧fr.tmps[s]?=some (.pointer (some ⟨b,0,none⟩))∧¬ Own σ X b
theorem StG.step {X:Nat→Prop} {s:Nat} {t0:TypeId} {zc:List Value} {w0 w w':World} {gh:Option Nat} {fr:Act} {dst:Option Tmp} {d:D} {u:Value} (h:StG X df σ s t0 zc w0 gh w a fr) (hx:Ex w w') (hd:∀ X',(gh=none→X'=X)→(∀ b,gh=some b→X'=fun x=>X x∨x=b)→Rd w' (Own σ X') d u) (hne:dst≠some s) :
  StG X df σ s t0 zc w0 gh w' (putD a dst d) (fr.put dst u):=by
 cases gh with
 | none=>exact (St.ex h hx).put (hd X (fun _=>rfl) (fun b e=>by cases e)) dst
 | some b=>
  obtain ⟨h1,h2,h3,h4,h5⟩:=h
  refine ⟨(h1.ex hx).put (hd _ (fun e=>by cases e) (fun b' e=>by cases e;rfl)) dst,h2,(hx.block b (Array.getElem?_eq_some_iff.1 h3).1).trans h3,?_,h5⟩
  cases dst with
  | none=>exact h4
  | some i=>
   have:i≠s:=fun e=>hne (by rw [e])
   simp [Act.put,this,h4]
theorem StG.some_st {X:Nat→Prop} {s:Nat} {t0:TypeId} {zc:List Value} {w0 w:World} {gh:Option Nat} {fr:Act} (h:StG X df σ s t0 zc w0 gh w a fr) :
  ∃ X':Nat→Prop,(gh=none→X'=X)∧(∀ b,gh=some b→X'=fun x=>X x∨x=b)∧St w X' df a σ fr:=by
 cases gh with
 | none=>exact ⟨X,(fun _=>rfl),(fun b e=>by cases e),h⟩
 | some b=>exact ⟨_,(fun e=>by cases e),(fun b' e=>by cases e;rfl),h.1⟩
theorem StG.made {X:Nat→Prop} {s:Nat} {t0:TypeId} {w0 w:World} {fr:Act} (hs:St w X df a σ fr) (hx0:Ex w0 w) (cs:Array Value) (hlt:s<fr.tmps.size) :
  StG X df σ s t0 cs.toList w0 (some w.heap.size) (w.alloc (.cells cs t0)) (putD a (some s) .any) (fr.put (some s) (.pointer (some ⟨w.heap.size,0,none⟩))):=by
 have hx:Ex w (w.alloc (.cells cs t0)):=(Ex.refl w).alloc
 have hO:∀ x,x<w.heap.size→¬ Own σ X x→¬ Own σ (fun x=>X x∨x=w.heap.size) x:=by
  intro x hxl hn ho
  rcases ho with (ho|ho)|ho
  ·exact hn (.inl ho)
  ·omega
  ·exact hn (.inr ho)
 have hS:∀ x,x<w.heap.size→¬ Own σ X x→(w.alloc (.cells cs t0)).heap[x]?=w.heap[x]?:=fun x hxl _=>hx.block x hxl
 refine ⟨St.put (⟨hs.fr.keep hx.size hO hS,⟨hs.st.nodup,fun b k hm=>?_,fun b hb=>?_,hs.st.gok.keep hx.size hO hS (fun b hb=>?_)⟩,hs.df.keep hx.size hO hS⟩:St (w.alloc (.cells cs t0)) (fun x=>X x∨x=w.heap.size) df a σ fr) (.any _) (some s),hx0.size,?_,?_,aL6 hs.st (Nat.le_refl _)⟩
 ·obtain ⟨h1,o,h2,h3⟩:=hs.st.at_ b k hm
  have hbl:=(Array.getElem?_eq_some_iff.1 h2).1
  refine ⟨fun h=>?_,o,(hx.block b hbl).trans h2,Blk.ok_keep hx.size hO hS h3⟩
  rcases h with h|h
  ·exact h1 h
  ·omega
 ·rcases hb with hb|rfl
  ·exact Nat.lt_of_lt_of_le (hs.st.xlt b hb) hx.size
  ·simp
 ·rcases hb with (hb|rfl)|hb
  ·exact Nat.lt_of_lt_of_le (hs.st.xlt b hb) hx.size
  ·simp
  ·exact Nat.lt_of_lt_of_le (hs.st.lt hb) hx.size
 ·unfold World.alloc;simp
 ·simp [Act.put,hlt]
theorem ap1 {listed:Array Bool} {i j:Nat} {b:Bool} (h:i≠j):(listed.setIfInBounds i true).getD j b=listed.getD j b:=by
 simp only [Array.getD_eq_getD_getElem?,Array.getElem?_setIfInBounds_ne h]
theorem an0 {m g i0 s:Nat} {t0:TypeId} {zc:List Value} {o0:Oper} {L:Array Bool→List D→Prop} {Q':Exit→Act→World→Prop} {X:Nat→Prop} {w0:World}
  (h0:ops[i0]?=some o0) (hop:o0.op = .alloc t0) (hd0:o0.dst=some s) (hg0:o0.guard=none) (hu:∀ (j:Nat) o,ops[j]?=some o→o.dst=some s→j=i0) (hsl:s<a.length)
  (hzero:∀ w,∃ z,(zeroValue t0).run P w = .ok z w∧z.cells.toList=zc)
  (hL:∀ listed a fr w b,Ex w0 w→StG X df σ s t0 zc w0 (some b) w a fr→L listed a→wpAnyIn (FW r) n P md ops Q' g listed fr w)
  (hLi:∀ listed a,L listed a→listed.getD i0 false=true) :
  ∀ (f:Nat) (listed:Array Bool) (a:List D) (fr:Act) (w:World) (gh:Option Nat),s<a.length→Ex w0 w→StG X df σ s t0 zc w0 gh w a fr→i0<listed.size→(gh=none→listed.getD i0 true=false)→(∀ b,gh=some b→listed.getD i0 false=true) →
   bj0 (some (s,t0)) P md ops σ m L f listed a→wpAnyIn (FW r) n P md ops Q' (f+g) listed fr w
 | 0,listed,a,fr,w,gh,hsa,hx,hs,hsz,hn,hb,h=>by
  rw [Nat.zero_add]
  cases gh with
  | none=>have h1:=hLi _ _ h;rw [getD_both (hn rfl)] at h1;cases h1
  | some b=>exact hL _ _ _ _ _ hx hs h
 | f+1,listed,a,fr,w,gh,hsa,hx,hs,hsz,hn,hb,h=>by
  rw [show f+1+g=(f+g)+1 by omega]
  refine ⟨fun hh=>absurd hh h.1,fun i hi=>?_⟩
  have h2:=(h.2 i hi).2
  obtain ⟨hun,oi,hoi,_⟩:=mem_ready.1 hi
  have hpl:∀ d,s<(putD a oi.dst d).length:=fun d=>by cases oi.dst <;> simp [putD,hsa]
  unfold aOp at h2
  unfold wpOpIn
  simp only [hoi] at h2 ⊢
  obtain ⟨X',hX1,hX2,hst⟩:=hs.some_st
  rcases h2 with ⟨k1,k2,d,k3,k4⟩|⟨k1,k2⟩
  ·rw [if_pos (by rw [ap5 hst.fr k1])]
   refine ⟨bc5 oi w _,?_⟩
   rw [show (FW r).round=r from rfl,av4 k2]
   rcases k3 with ⟨q1,q2⟩|⟨q1,⟨s',t',q2,q3,q4⟩,rfl⟩
   ·have hne:oi.dst≠some s:=fun e=>by simp [isAl,e] at q1
    have hii:i≠i0:=fun e=>by subst e;rw [h0] at hoi;cases hoi;exact hne hd0
    have h1:=q2 w X' fr.eval (fun x _=>hst.fr.eval x) hst.st
    generalize (execOp fr.eval oi).run P w=res at h1
    have stp:∀ {w':World} {u:Value},Ex w w'→Rd w' (Own σ X') d u→StG X df σ s t0 zc w0 gh w' (putD a oi.dst d) (fr.put oi.dst u):=fun hxx hr=>hs.step hxx (fun X'' e1 e2=>by
     have:X''=X':=by
      cases gh with
      | none=>rw [e1 rfl,hX1 rfl]
      | some b=>rw [e2 b rfl,hX2 b rfl]
     rw [this];exact hr) hne
    have hn':gh=none→(listed.setIfInBounds i true).getD i0 true=false:=fun e=>by rw [ap1 hii];exact hn e
    have hb':∀ b,gh=some b→(listed.setIfInBounds i true).getD i0 false=true:=fun b e=>by rw [ap1 hii];exact hb b e
    cases res with
    | ok x w'=>
     cases x <;> simp only [YU] at h1
     case value u=>exact an0 h0 hop hd0 hg0 hu hsl hzero hL hLi f _ _ _ _ gh (hpl d) (hx.trans h1.1) (stp h1.1 h1.2) (by simpa using hsz) hn' hb' k4
     case enter fn args=>
      obtain ⟨rfl,hc⟩:=h1
      refine ⟨fun hd=>by simp [FW,Fence.wide] at hd,?_⟩
      have hc':CallsIn Fence.wide (n - 1) P fn args w' _:=callsIn_wide.2 hc
      have:CallsIn (FW r) (n - 1) P fn args w' _:=hc'
      refine this.mono fun e w'' he=>?_
      obtain ⟨u,rfl,hx2,hr2⟩:=he
      exact an0 h0 hop hd0 hg0 hu hsl hzero hL hLi f _ _ _ _ gh (hpl d) (hx.trans hx2) (stp hx2 hr2) (by simpa using hsz) hn' hb' k4
    | halt x w'=>simp only [YU] at h1
   ·cases q2
    have hii:i=i0:=hu i oi hoi q4
    subst hii
    have hgh:gh=none:=by
     cases gh with
     | none=>rfl
     | some b=>have h3:=hb b rfl;rw [getD_both hun] at h3;cases h3
    subst hgh
    have hst0:St w X df a σ fr:=hs
    obtain ⟨z,z1,z2⟩:=hzero w
    have e:(execOp fr.eval oi).run P w = .ok (.value (.pointer (some ⟨w.heap.size,0,none⟩))) (w.alloc (.cells z.cells t0)):=by
     simp only [execOp,q3,Sem.run_bind,Instr.alloc,z1,Result.andThen,newVar,newRow,newObj]
     rfl
    rw [e]
    have hm:=StG.made (t0:=t0) hst0 hx z.cells (by rw [hst0.fr.size];exact hsa)
    rw [z2] at hm
    rw [q4] at k4
    show wpAnyIn _ _ _ _ _ _ _ _ (fr.put oi.dst _) _
    rw [q4]
    refine an0 h0 hop hd0 hg0 hu hsl hzero hL hLi f _ _ _ _ (some w.heap.size) (by simpa [putD] using hsa) (hx.trans ((Ex.refl w).alloc)) hm (by simpa using hsz) (fun e=>by cases e) (fun b _=>?_) k4
    simp [Array.getD_eq_getD_getElem?,hsz]
  ·rw [if_neg (by rw [ap5 hst.fr k1];simp)]
   have hii:i≠i0:=fun e=>by
    subst e;rw [h0] at hoi;cases hoi
    simp [an1,hg0] at k1
   have hne:oi.dst≠some s:=fun e=>hii (hu i oi hoi e)
   refine ⟨bc5 oi w _,an0 h0 hop hd0 hg0 hu hsl hzero hL hLi f _ _ _ _ gh (hpl _) hx (hs.step (Ex.refl w) (fun _ _ _=>.v _) hne) (by simpa using hsz) (fun e=>by rw [ap1 hii];exact hn e) (fun b e=>by rw [ap1 hii];exact hb b e) k2⟩
theorem be3 {id:Nat} {l:List Oper} (m i0 s:Nat) (t0:TypeId) (o0:Oper) {T:TypeId→Option TI} (hT:∀ t i,T t=some i→tiOf P t=some i) {ti:TI} (ht:T t0=some ti) (hz:ti.zero.length=ti.size) (hp:0<ti.size) (hm:P.follows .mixedOrders=true) (hB:Region.lexTailB .any l.toArray m=true)
  (h0:l[i0]?=some o0) (him:i0<m) (hop:o0.op = .alloc t0) (hd0:o0.dst=some s) (hg0:o0.guard=none) (hu:∀ (j:Nat) o,l[j]?=some o→o.dst=some s→j=i0) (hsa:s<a.length)
  (h:aA5 (some (s,t0)) P l.toArray σ (fun a'=>a'.length=a.length∧∀ b,AOps P r n df l.toArray Q (l.drop m) (a'.set s (.v (.pointer (some ⟨b,0,none⟩)))) ((b,.cells t0 (ti.zero.map fun z=>.v (zv z))) :: σ)) (l.take m) a):AWP P r n df (.region id l.toArray true) Q a σ:=by
 refine ⟨fun w X fr hs=>?_⟩
 simp only [Region.lexTailB,Bool.and_eq_true,decide_eq_true_eq] at hB
 obtain ⟨⟨⟨⟨hsel,hn⟩,hsk⟩,hc⟩,hlex⟩:=hB
 have hn':m<l.length:=by simpa using hn
 have htl:(l.take m).length=m:=by simp;omega
 have hdl:(l.drop m).length=l.toArray.size - m:=by simp
 have inv0:HeadInv .any l.toArray m (Array.replicate l.toArray.size false):=
  ⟨by simp,fun j oj _ hl=>(by rw [getD_replicate_false] at hl;cases hl),fun t _ ht=>getD_in (by simpa using ht) (getD_replicate_false _ _)⟩
 have H:=aR8 (md:=.any) (g:=l.toArray.size - m) (fun i ls hi i1 i2=>tail_waits hsk hc hn i1 _ i rfl hi i2) (l.take m) 0 _ a (fun j hj=>by
  have hj':j<m:=by rw [htl] at hj;exact hj
  simp [hj']) (by simpa using htl) inv0 (fun j hj=>by omega) (by rw [htl];exact hlex) h
 refine wpIn_region_any hm ?_
 have hx0:=ay8 w
 have hzero:∀ w,∃ z,(zeroValue t0).run P w = .ok z w∧z.cells.toList=ti.zero.map zv:=fun w=>au9 (hT t0 ti ht) hz hp w
 have:=an0 (r:=r) (n:=n) (df:=df) (Q':=Pw w X df σ Q) (g:=l.toArray.size - m) (X:=X) (w0:={ w with drawn:=w.drawn+1 }) (i0:=i0) (o0:=o0) (a:=a) (by simpa using h0) hop hd0 hg0 (fun j o hj=>hu j o (by simpa using hj)) hsa hzero
  (fun listed a' fr' w' b hx' hs' hL=>by
   obtain ⟨g1,g2,g3,g4,g5⟩:=hs'
   have hbX:∀ x,Own ((b,Blk.cells t0 (ti.zero.map fun z=>.v (zv z))) :: σ) X x↔Own σ (fun x=>X x∨x=b) x:=by
    intro x
    simp only [Own,aa9,List.map_cons,List.mem_cons]
    constructor
    ·rintro (h|h|h)
     ·exact .inl (.inl h)
     ·exact .inl (.inr h)
     ·exact .inr h
    ·rintro ((h|h)|h)
     ·exact .inl h
     ·exact .inr (.inl h)
     ·exact .inr (.inr h)
   have hkp:∀ {d:D} {u:Value},Rd w' (Own σ (fun x=>X x∨x=b)) d u→Rd w' (Own ((b,Blk.cells t0 (ti.zero.map fun z=>.v (zv z))) :: σ) X) d u:=fun h=>h.keep (Nat.le_refl _) (fun x _ hn ho=>hn ((hbX x).1 ho)) (fun _ _ _=>rfl)
   have hbs:b<w'.heap.size:=(Array.getElem?_eq_some_iff.1 g3).1
   have hSt:St w' X df (a'.set s (.v (.pointer (some ⟨b,0,none⟩)))) ((b,.cells t0 (ti.zero.map fun z=>.v (zv z))) :: σ) fr':=by
    refine ⟨⟨by simp [g1.fr.size],fun i d hd=>?_⟩,⟨?_,fun b' k hm'=>?_,fun x hx=>g1.st.xlt x (.inl hx),g1.st.gok.mono (fun x hx=>(hbX x).1 hx)⟩,g1.df.keep (Nat.le_refl _) (fun x _ hn ho=>hn ((hbX x).1 ho)) (fun _ _ _=>rfl)⟩
    ·rw [List.getElem?_set] at hd
     split at hd
     ·rename_i e
      subst e
      split at hd
      ·cases hd;exact ⟨_,g4,.v _⟩
      ·cases hd
     ·obtain ⟨u,k1,k2⟩:=g1.fr.at_ i d hd
      exact ⟨u,k1,hkp k2⟩
    ·simp only [aa9,List.map_cons,List.nodup_cons]
     exact ⟨fun hm'=>g5 (.inr hm'),g1.st.nodup⟩
    ·rcases List.mem_cons.1 hm' with e|hm'
     ·cases e
      refine ⟨fun hX=>g5 (.inl hX),_,g3,(ti.zero.map zv),rfl,?_⟩
      have:=RdL.vals (w:=w') (O:=Own ((b,Blk.cells t0 (ti.zero.map fun z=>.v (zv z))) :: σ) X) (ti.zero.map zv)
      rw [List.map_map] at this;exact this
     ·obtain ⟨q1,o,q2,q3⟩:=g1.st.at_ b' k hm'
      exact ⟨fun hX=>q1 (.inl hX),o,q2,Blk.ok_keep (Nat.le_refl _) (fun x _ hn ho=>hn ((hbX x).1 ho)) (fun _ _ _=>rfl) q3⟩
   have hMv:Mv w σ w' ((b,.cells t0 (ti.zero.map fun z=>.v (zv z))) :: σ):=by
    refine ⟨(hx0.trans hx').keep,fun x hx=>?_⟩
    simp only [aa9,List.map_cons,List.mem_cons] at hx
    rcases hx with rfl|hx
    ·exact .inr (Nat.le_trans hx0.size g2)
    ·exact .inl hx
   have:=at1 (md:=.any) (Q':=Pw w X df σ Q) (l.drop m) m listed fr' w' (fun j=>by simp [List.getElem?_drop]) (by rw [hdl];exact hL.1)
    (af4 (fun e a w'' hp=>Pw.moved hMv hp) _ _ _ ((hL.2.2.2 b).run w' X fr' hSt))
   rwa [hdl] at this)
  (fun listed a' hL=>hL.2.1 i0 him) _ _ _ fr _ none hsa (Ex.refl _) (show StG X df σ s t0 _ _ none _ a fr from hs.ex hx0) (by have:=(List.getElem?_eq_some_iff.1 h0).1;simpa using this) (fun _=>getD_in (by have:=(List.getElem?_eq_some_iff.1 h0).1;simpa using this) (getD_replicate_false _ _)) (fun b e=>by cases e) H
 rw [htl,show m+(l.toArray.size - m)=l.toArray.size by omega] at this
 exact this
end
end
section
open Go Go.RowKit Go.Shelf
section
variable {P:Program} {r:Option Nat} {n:Nat} {df:Nat} {ops:Array Oper} {Q:Pst} {a:List D} {σ:aa1} {md:Region.Mode}
def only (L:List Tmp) (a:List D):List D:=a.mapIdx fun i d=>if i∈L then d else .any
theorem bn1 (L:List Tmp) (a:List D):(only L a).length=a.length:=by simp [only]
theorem bM2 {L:List Tmp} {dst:Option Tmp} {d:D} (h:∀ i,dst=some i→i ∉ L):only L (putD a dst d)=only L a:=by
 cases dst with
 | none=>rfl
 | some i=>
  refine List.ext_getElem? fun j=>?_
  simp only [only,putD,List.getElem?_mapIdx,List.getElem?_set]
  by_cases e:i=j
  ·subst e
   have:=h i rfl
   by_cases hl:i<a.length
   ·simp [hl,this]
   ·simp [hl]
  ·simp [e]
theorem St.mask {w:World} {X:Nat→Prop} {fr:Act} (L:List Tmp) (h:St w X df a σ fr):St w X df (only L a) σ fr:=by
 refine ⟨⟨by rw [bn1];exact h.fr.size,fun i d hd=>?_⟩,h.st,h.df⟩
 simp only [only,List.getElem?_mapIdx,Option.map_eq_some_iff] at hd
 obtain ⟨d0,h0,h1⟩:=hd
 obtain ⟨u,k1,k2⟩:=h.fr.at_ i d0 h0
 refine ⟨u,k1,?_⟩
 subst h1
 split
 ·exact k2
 ·exact .any _
theorem St.back {w w':World} {X:Nat→Prop} {dst:Option Tmp} {d:D} {σ':aa1} {fr fr':Act} (h:St w X df a σ fr) (hm:Mv w σ w' σ') {a':List D} (h':St w' X df a' σ' fr') (hl:a'.length=a.length) (hd:∀ i,dst=some i→i<a.length→a'[i]?=some d) (hu:∃ u,fr'.tmps=(fr.put dst u).tmps):St w' X df (putD a dst d) σ' fr':=by
 obtain ⟨u,hu⟩:=hu
 have keep:∀ {e:D} {v:Value},Rd w (Own σ X) e v→Rd w' (Own σ' X) e v:=fun h=>h.keep hm.keep.size (fun b hb hn ho=>by
  rcases ho with ho|ho
  ·exact hn (.inl ho)
  ·rcases hm.new b ho with h1|h1
   ·exact hn (.inr h1)
   ·omega) (fun b hb hn=>hm.keep.block b hb (fun hk=>hn (.inr hk)))
 refine ⟨⟨?_,fun i e he=>?_⟩,h'.st,h'.df⟩
 ·have:=h'.fr.size
  cases dst <;> simpa [putD,hl] using this
 ·cases dst with
  | none=>
   obtain ⟨v,k1,k2⟩:=h.fr.at_ i e he
   exact ⟨v,by rw [hu];exact k1,keep k2⟩
  | some j=>
   by_cases hij:j=i
   ·subst hij
    refine h'.fr.at_ j e ?_
    simp only [putD,List.getElem?_set,if_true] at he
    split at he
    ·rename_i hlt;rw [hd j rfl hlt];exact he
    ·cases he
   ·have he':a[i]?=some e:=by simpa [putD,List.getElem?_set,hij] using he
    obtain ⟨v,k1,k2⟩:=h.fr.at_ i e he'
    exact ⟨v,by rw [hu];simpa [Act.put,Array.getElem?_setIfInBounds_ne hij] using k1,keep k2⟩
theorem br4 {F:Fence} {Q0 Q':Exit→Act→World→Prop} {i:Nat} {o:Oper} {fr:Act} {w:World} (hi:ops[i]?=some o) (hq:∀ e a w,Q0 e a w→e = .normal) (h:wpListIn F n P ops Q0 [o] fr w) :
  wpOpIn F n P ops Q' i (fun fr' w'=>Q0 .normal fr' w'∧∃ u,fr'.tmps=(fr.put o.dst u).tmps) fr w:=by
 unfold wpOpIn
 simp only [hi]
 unfold wpListIn at h
 split at h
 ·rename_i hw
  rw [if_pos hw]
  unfold Oper.wpIn at h ⊢
  refine ⟨h.1,?_⟩
  have hm:=h.2
  generalize (o.semAt F.round fr.eval).run P w=res at *
  cases res with
  | ok x w'=>
   cases x <;> simp only [Oper.uponIn] at hm ⊢
   case value u=>exact ⟨hm,u,rfl⟩
   case skip=>exact ⟨hm,undef,rfl⟩
   case defer d=>exact ⟨hm,undef,by cases o.dst <;> rfl⟩
   case enter f args=>
    refine ⟨hm.1,hm.2.mono fun e w'' he=>?_⟩
    cases e with
    | returned v=>exact ⟨he,v,rfl⟩
    | panicked c=>have:=hq _ _ _ he;cases this
    | outgrown=>obtain ⟨a0,w0,h0⟩:=he;have:=hq _ _ _ h0;cases this
   case row=>exact ⟨hm.1,hm.2.mono fun v w'' he=>⟨he,v,rfl⟩⟩
   case round=>
    refine ⟨hm.1,hm.2.mono fun e w'' he=>?_⟩
    cases e with
    | returned v=>exact ⟨he,v,rfl⟩
    | panicked c=>have:=hq _ _ _ he;cases this
    | outgrown=>obtain ⟨a0,w0,h0⟩:=he;have:=hq _ _ _ h0;cases this
  | halt x w'=>cases x <;> simp only [Oper.uponIn] at hm ⊢ <;> first|exact hm.elim|(have:=hq _ _ _ hm;cases this)
 ·rename_i hw
  rw [if_neg hw]
  exact ⟨h.1,h.2,undef,rfl⟩
def EfS (P:Program) (r:Option Nat) (n:Nat) (df:Nat) (ops:Array Oper) (o:Oper) (K:List D→aa1→Prop) (a:List D) (σ:aa1):Prop:=
 AOps P r n df ops (fun e a' σ'=>e = .normal∧a'.length=a.length∧∃ d,(∀ i,o.dst=some i→i<a.length→a'[i]?=some d)∧K (putD a o.dst d) σ') [o] (only (o.looksAt ops) a) σ
def gOp (P:Program) (r:Option Nat) (n:Nat) (df:Nat) (ops:Array Oper) (E:Nat→Bool) (i:Nat) (K:List D→aa1→Prop) (a:List D) (σ:aa1):Prop:=match ops[i]? with
 | none=>False
 | some o=>match E i with
  | false=>∃ d,YsIn none P ops σ o d a∧K (putD a o.dst d) σ
  | true=>EfS P r n df ops o K a σ
def gAny (P:Program) (r:Option Nat) (n:Nat) (df:Nat) (md:Region.Mode) (ops:Array Oper) (E:Nat→Bool) (L:List D→aa1→Prop):Nat→Array Bool→List D→aa1→Prop
 | 0,listed,a,σ=>Region.ready md ops listed=[]∧L a σ
 | f+1,listed,a,σ=>Region.ready md ops listed≠[]∧∀ i∈Region.ready md ops listed,gOp P r n df ops E i (gAny P r n df md ops E L f (listed.setIfInBounds i true)) a σ
theorem EfS.mono {o:Oper} {K K':List D→aa1→Prop} (h:∀ a σ,K a σ→K' a σ) (hh:EfS P r n df ops o K a σ):EfS P r n df ops o K' a σ:=
 ⟨fun w X fr hs=>af4 (fun e a w ⟨a',σ',⟨h1,h0,d,h2,h3⟩,h4⟩=>⟨a',σ',⟨h1,h0,d,h2,h _ _ h3⟩,h4⟩) _ _ _ (AOps.run hh w X fr hs)⟩
theorem ac1 {E:Nat→Bool} {i:Nat} {K K':List D→aa1→Prop} (h:∀ a σ,K a σ→K' a σ) (hh:gOp P r n df ops E i K a σ):gOp P r n df ops E i K' a σ:=by
 unfold gOp at *
 split
 ·rename_i ho;simp only [ho] at hh
 ·rename_i o ho
  simp only [ho] at hh
  split
  ·rename_i he;simp only [he] at hh;obtain ⟨d,h1,h2⟩:=hh;exact ⟨d,h1,h _ _ h2⟩
  ·rename_i he;simp only [he] at hh;exact hh.mono h
theorem ce7 {E:Nat→Bool} {j:Nat} {oi oj:Oper} {d:D} {S:aa1→Prop} (hj:ops[j]?=some oj) (hap:oi.apart ops oj=true) {K:List D→aa1→Prop}
  (hE:E j=true→∀ s,S s) (hS:S σ) (hy:∀ s,S s→YsIn none P ops s oi d a) (h:gOp P r n df ops E j K (putD a oi.dst d) σ) :
  gOp P r n df ops E j (fun a' σ'=>S σ'∧(∀ s,S s→YsIn none P ops s oi d a')∧K (putD a' oi.dst d) σ') a σ:=by
 obtain ⟨h1,h2,h3⟩:=Oper.apart_spec hap
 unfold gOp at *
 simp only [hj] at *
 cases he:E j with
 | false=>
  simp only [he] at h ⊢
  obtain ⟨e,k1,k2⟩:=h
  refine ⟨e,?_,hS,fun s hs=>(hy s hs).put h3,by rw [← aB4 a d e h2];exact k2⟩
  unfold YsIn at *
  rw [aJ4 h1] at k1
  rcases k1 with ⟨q1,q2,q3⟩|q
  ·exact .inl ⟨q1,q2,q3.congr (fun x hx=>(bi3 fun i hi=>av7 (h1 i hi) x hx).symm)⟩
  ·exact .inr q
 | true=>
  simp only [he] at h ⊢
  unfold EfS at *
  rw [bM2 h1] at h
  refine ⟨fun w X fr hs=>af4 (fun e a' w' ⟨a'',σ',⟨q1,q0,d',q2,q3⟩,q4⟩=>⟨a'',σ',⟨q1,by rw [q0];cases oi.dst <;> simp [putD],d',(fun i hi hl=>q2 i hi (by cases oi.dst <;> simpa [putD] using hl)),hE he σ',fun s hs=>(hy s hs).put h3,?_⟩,q4⟩) _ _ _ (h.run w X fr hs)⟩
  rw [← aB4 a d d' h2];exact q3
theorem ao6 {E:Nat→Bool} {i:Nat} {oi:Oper} {d:D} {L:List D→aa1→Prop} {S:aa1→Prop} (hi:ops[i]?=some oi) (hEi:E i=false)
  (hS:∀ listed,HeadInv md ops ops.size listed→listed.getD i true=false→∀ j∈Region.ready md ops listed,E j=true→∀ s,S s) :
  ∀ (f:Nat) (listed:Array Bool) (a:List D) (σ:aa1),HeadInv md ops ops.size listed →
   (∀ j oj,ops[j]?=some oj→j≠i→listed.getD j true=false→(∀ e∈oj.after,Region.binds md e=true→e.on≠i)→oi.apart ops oj=true) →
   i∈Region.ready md ops listed→S σ→(∀ s,S s→YsIn none P ops s oi d a) →
   gAny P r n df md ops E L f (listed.setIfInBounds i true) (putD a oi.dst d) σ→gAny P r n df md ops E L (f+1) listed a σ:=by
 intro f
 induction f with
 | zero=>
  intro listed a σ inv _ hr hs hy H
  refine ⟨fun h=>(by rw [h] at hr;cases hr),fun j hj=>?_⟩
  by_cases hji:j=i
  ·subst hji
   unfold gOp
   simp only [hi,hEi]
   exact ⟨d,hy _ hs,H⟩
  ·have:=ready_mono hj hji
   rw [H.1] at this
   cases this
 | succ f ih=>
  intro listed a σ inv hfree hr hs hy H
  have hun:=(mem_ready.1 hr).1
  refine ⟨fun h=>(by rw [h] at hr;cases hr),fun j hj=>?_⟩
  by_cases hji:j=i
  ·subst hji
   unfold gOp
   simp only [hi,hEi]
   exact ⟨d,hy _ hs,H⟩
  ·obtain ⟨hjun,oj,hoj,hall⟩:=mem_ready.1 hj
   have hjn:j<ops.size:=(Array.getElem?_eq_some_iff.1 hoj).1
   have hnot:∀ e∈oj.after,Region.binds md e=true→e.on≠i:=fun e he hb heq=>by
    have h1:=hall e he hb
    rw [heq,getD_both hun] at h1
    cases h1
   have h2:=ce7 hoj (hfree j oj hoj hji hjun hnot) (hS listed inv hun j hj) hs hy (H.2 j (ready_mono hj hji))
   refine ac1 (fun a' σ' h3=>ih (listed.setIfInBounds j true) a' σ' (inv.set hj hjn) (fun k ok hk hki hunk hno=>hfree k ok hk hki ?_ hno) (ready_mono hr (Ne.symm hji)) h3.1 h3.2.1 ?_) h2
   ·by_cases hjk:j=k
    ·subst hjk;exact hjun
    ·rw [getD_set_ne true hjk] at hunk;exact hunk
   ·rw [Array.setIfInBounds_comm _ _ hji];exact h3.2.2
def desc (md:Region.Mode) (ops:Array Oper) (i:Nat):List Nat→List Nat→List Nat
 | [],acc=>acc
 | j :: l,acc=>desc md ops i l (bif acc.any (fun k=>Region.waitsFor md ops j k) then j :: acc else acc)
def barB (md:Region.Mode) (ops:Array Oper) (E:Nat→Bool) (i:Nat):Bool:=
 (List.range ops.size).all fun e=>!E e || (desc md ops i (List.range ops.size) []).contains e || (desc md ops i (List.range ops.size) [i]).contains e && !Nat.beq e i
theorem bi4 {listed:Array Bool} {i:Nat} (inv:HeadInv md ops ops.size listed) (hun:listed.getD i true=false) :
  ∀ (l acc:List Nat),(∀ k∈acc,listed.getD k false=false∧(k=i∨k ∉ Region.ready md ops listed))→∀ k∈desc md ops i l acc,listed.getD k false=false∧(k=i∨k ∉ Region.ready md ops listed)
 | [],acc,h,k,hk=>h k hk
 | j :: l,acc,h,k,hk=>by
  refine bi4 inv hun l _ (fun k hk=>?_) k hk
  cases hb:acc.any (fun k=>Region.waitsFor md ops j k) with
  | false=>rw [hb] at hk;exact h k hk
  | true=>
   rw [hb] at hk
   rcases List.mem_cons.1 hk with rfl|hk
   ·obtain ⟨k',hk',hw⟩:=List.any_eq_true.1 hb
    obtain ⟨oj,hoj,e,he,hbi,hon⟩:=Region.waitsFor_spec hw
    have h1:=(h k' hk').1
    constructor
    ·cases hl:listed.getD k false with
     | false=>rfl
     | true=>have h2:=inv.closed k oj hoj hl e he hbi;rw [hon,h1] at h2;cases h2
    ·refine .inr fun hr=>?_
     obtain ⟨_,o',ho',hall⟩:=mem_ready.1 hr
     have:o'=oj:=Option.some.inj (ho'.symm.trans hoj)
     subst this
     have h2:=hall e he hbi
     rw [hon,h1] at h2
     cases h2
   ·exact h k hk
theorem bi5 {E:Nat→Bool} {i:Nat} (h:barB md ops E i=true) (listed:Array Bool) (inv:HeadInv md ops ops.size listed) (hun:listed.getD i true=false) (j:Nat) (hj:j∈Region.ready md ops listed):E j=false:=by
 cases hE:E j with
 | false=>rfl
 | true=>
  exfalso
  obtain ⟨_,oj,hoj,_⟩:=mem_ready.1 hj
  have hjn:j<ops.size:=(Array.getElem?_eq_some_iff.1 hoj).1
  have h1:=List.all_eq_true.1 h j (List.mem_range.2 hjn)
  simp only [hE,Bool.not_true,Bool.false_or,Bool.or_eq_true,Bool.and_eq_true,List.contains_iff_mem,Bool.not_eq_true'] at h1
  rcases h1 with h1|⟨h1,h2⟩
  ·have:=bi4 inv hun _ [] (fun k hk=>by cases hk) j h1
   rcases this.2 with e|e
   ·subst e
    have:∀ (l:List Nat),desc md ops j l []=[]:=fun l=>by induction l with
     | nil=>rfl
     | cons x l ih=>simpa [desc] using ih
    rw [this] at h1;cases h1
   ·exact e hj
  ·have:=bi4 inv hun _ [i] (fun k hk=>by
    have:k=i:=by simpa using hk
    subst this;exact ⟨getD_both hun,.inl rfl⟩) j h1
   rcases this.2 with e|e
   ·subst e;simp at h2
   ·exact e hj
def bx6 (md:Region.Mode) (ops:Array Oper):List Nat→Array Bool→Bool
 | [],listed=>(Region.ready md ops listed).isEmpty
 | k :: l,listed=>decide (Region.ready md ops listed=[k]) && bx6 md ops l (listed.setIfInBounds k true)
def mixB (md:Region.Mode) (ops:Array Oper) (E:Nat→Bool) (rest:List Nat):List Nat→Array Bool→Bool
 | [],listed=>bx6 md ops rest listed
 | i :: hs,listed=>(Region.ready md ops listed).contains i && Region.free md ops listed i && !E i && mixB md ops E rest hs (listed.setIfInBounds i true)
def gSeq (P:Program) (r:Option Nat) (n:Nat) (df:Nat) (ops:Array Oper) (E:Nat→Bool) (L:List D→aa1→Prop):List Nat→List D→aa1→Prop
 | [],a,σ=>L a σ
 | k :: l,a,σ=>gOp P r n df ops E k (gSeq P r n df ops E L l) a σ
def gLex (P:Program) (md:Region.Mode) (ops:Array Oper) (E:Nat→Bool) (L:List D→aa1→Prop):List Nat→List D→aa1→Prop
 | [],a,σ=>L a σ
 | i :: hs,a,σ=>∃ o d,ops[i]?=some o∧((barB md ops E i=true∧YsIn none P ops σ o d a)∨YsIn none P ops [] o d a)∧gLex P md ops E L hs (putD a o.dst d) σ
theorem aM7 {E:Nat→Bool} {L:List D→aa1→Prop}:∀ (l:List Nat) (listed:Array Bool) (a:List D) (σ:aa1),bx6 md ops l listed=true→gSeq P r n df ops E L l a σ→gAny P r n df md ops E L l.length listed a σ
 | [],listed,a,σ,hB,h=>⟨by simpa [bx6] using hB,h⟩
 | k :: l,listed,a,σ,hB,h=>by
  simp only [bx6,Bool.and_eq_true,decide_eq_true_eq] at hB
  refine ⟨fun h1=>(by rw [hB.1] at h1;cases h1),fun i hi=>?_⟩
  rw [hB.1] at hi
  have:i=k:=by simpa using hi
  subst this
  exact ac1 (fun a' σ' h'=>aM7 l _ a' σ' hB.2 h') h
theorem Yd.free {o:Oper} {ρ:Operand→D} {d:D} (h:Yd P o ρ [] d):Yd P o ρ σ d:=by
 intro w X η hη hs
 have io:∀ x,Own [] (Own σ X) x↔Own σ X x:=fun x=>⟨fun h=>h.elim id (fun h=>by cases h),.inl⟩
 have t1:∀ {w':World} {d:D} {u:Value},Rd w' (Own σ X) d u→Rd w' (Own [] (Own σ X)) d u:=fun h=>h.keep (Nat.le_refl _) (fun x _ hn ho=>hn ((io x).1 ho)) (fun _ _ _=>rfl)
 have t2:∀ {w':World} {d:D} {u:Value},Rd w' (Own [] (Own σ X)) d u→Rd w' (Own σ X) d u:=fun h=>h.keep (Nat.le_refl _) (fun x _ hn ho=>hn ((io x).2 ho)) (fun _ _ _=>rfl)
 have h1:=h w (Own σ X) η (fun x hx=>t1 (hη x hx)) ⟨List.nodup_nil,fun b k hm=>(by cases hm),fun b hb=>by
  rcases hb with hb|hb
  ·exact hs.xlt b hb
  ·exact hs.lt hb,hs.gok.mono (fun x hx=>(io x).1 hx)⟩
 generalize (execOp η o).run P w=res at h1
 cases res with
 | ok x w'=>
  cases x <;> simp only [YU] at h1 ⊢
  case value u=>exact ⟨h1.1,t2 h1.2⟩
  case enter f args=>exact ⟨h1.1,h1.2.mono fun e w'' ⟨u,q1,q2,q3⟩=>⟨u,q1,q2,t2 q3⟩⟩
 | halt x w'=>simp only [YU] at h1
theorem YsIn.free {o:Oper} {d:D} (h:YsIn none P ops [] o d a) (s:aa1):YsIn none P ops s o d a:=by
 rcases h with ⟨h1,h2,h3⟩|h
 ·exact .inl ⟨h1,h2,.of h3.yd.free⟩
 ·exact .inr h
theorem aM8 {E:Nat→Bool} {L:List D→aa1→Prop} {rest:List Nat}:∀ (hs:List Nat) (listed:Array Bool) (a:List D) (σ:aa1),HeadInv md ops ops.size listed→mixB md ops E rest hs listed=true →
  gLex P md ops E (gSeq P r n df ops E L rest) hs a σ→gAny P r n df md ops E L (hs.length+rest.length) listed a σ
 | [],listed,a,σ,inv,hB,h=>by
  rw [show ([]:List Nat).length+rest.length=rest.length by simp]
  exact aM7 rest listed a σ hB h
 | i :: hs,listed,a,σ,inv,hB,h=>by
  simp only [mixB,Bool.and_eq_true,Bool.not_eq_true'] at hB
  obtain ⟨⟨⟨hr,hf⟩,hE⟩,hB'⟩:=hB
  obtain ⟨o,d,ho,hy,hk⟩:=h
  have hr':i∈Region.ready md ops listed:=by simpa using hr
  have hin:i<ops.size:=(Array.getElem?_eq_some_iff.1 ho).1
  have H:=aM8 hs _ _ _ (inv.set hr' hin) hB' hk
  rw [show (i :: hs).length+rest.length=(hs.length+rest.length)+1 by simp;omega]
  rcases hy with ⟨hb,hy⟩|hy
  ·exact ao6 (S:=fun s=>s=σ) ho hE (fun ls i1 i2 j hj e=>by rw [bi5 hb ls i1 i2 j hj] at e;cases e) _ listed a σ inv (Region.free_spec ho hf) hr' rfl (fun s e=>by subst e;exact hy) H
  ·exact ao6 (S:=fun _=>True) ho hE (fun _ _ _ _ _ _ _=>trivial) _ listed a σ inv (Region.free_spec ho hf) hr' trivial (fun s _=>hy.free s) H
inductive Ord where
 | done
 | one (i:Nat) (t:Ord)
 | two (i:Nat) (t:Ord) (j:Nat) (u:Ord)
 | three (i:Nat) (t:Ord) (j:Nat) (u:Ord) (k:Nat) (v:Ord)
def ordB (md:Region.Mode) (ops:Array Oper):Nat→Ord→Array Bool→Bool
 | 0,.done,listed=>(Region.ready md ops listed).isEmpty
 | f+1,.one i t,listed=>decide (Region.ready md ops listed=[i]) && ordB md ops f t (listed.setIfInBounds i true)
 | f+1,.two i t j u,listed=>decide (Region.ready md ops listed=[i,j]) && (ordB md ops f t (listed.setIfInBounds i true) && ordB md ops f u (listed.setIfInBounds j true))
 | f+1,.three i t j u k v,listed=>decide (Region.ready md ops listed=[i,j,k]) && (ordB md ops f t (listed.setIfInBounds i true) && (ordB md ops f u (listed.setIfInBounds j true) && ordB md ops f v (listed.setIfInBounds k true)))
 | _,_,_=>false
def gOrd (P:Program) (r:Option Nat) (n:Nat) (df:Nat) (ops:Array Oper) (E:Nat→Bool) (L:List D→aa1→Prop):Ord→List D→aa1→Prop
 | .done,a,σ=>L a σ
 | .one i t,a,σ=>gOp P r n df ops E i (gOrd P r n df ops E L t) a σ
 | .two i t j u,a,σ=>gOp P r n df ops E i (gOrd P r n df ops E L t) a σ∧gOp P r n df ops E j (gOrd P r n df ops E L u) a σ
 | .three i t j u k v,a,σ=>gOp P r n df ops E i (gOrd P r n df ops E L t) a σ∧gOp P r n df ops E j (gOrd P r n df ops E L u) a σ∧gOp P r n df ops E k (gOrd P r n df ops E L v) a σ
theorem al4 {E:Nat→Bool} {L:List D→aa1→Prop}:∀ (f:Nat) (t:Ord) (listed:Array Bool) (a:List D) (σ:aa1),ordB md ops f t listed=true→gOrd P r n df ops E L t a σ→gAny P r n df md ops E L f listed a σ
 | 0,.done,listed,a,σ,hB,h=>⟨by simpa [ordB] using hB,h⟩
 | f+1,.one i t,listed,a,σ,hB,h=>by
  simp only [ordB,Bool.and_eq_true,decide_eq_true_eq] at hB
  refine ⟨fun h1=>(by rw [hB.1] at h1;cases h1),fun k hk=>?_⟩
  rw [hB.1] at hk
  have:k=i:=by simpa using hk
  subst this
  exact ac1 (fun a' σ' h'=>al4 f t _ a' σ' hB.2 h') h
 | f+1,.two i t j u,listed,a,σ,hB,h=>by
  simp only [ordB,Bool.and_eq_true,decide_eq_true_eq] at hB
  refine ⟨fun h1=>(by rw [hB.1] at h1;cases h1),fun k hk=>?_⟩
  rw [hB.1] at hk
  have:k=i∨k=j:=by simpa using hk
  rcases this with rfl|rfl
  ·exact ac1 (fun a' σ' h'=>al4 f t _ a' σ' hB.2.1 h') h.1
  ·exact ac1 (fun a' σ' h'=>al4 f u _ a' σ' hB.2.2 h') h.2
 | f+1,.three i t j u l v,listed,a,σ,hB,h=>by
  simp only [ordB,Bool.and_eq_true,decide_eq_true_eq] at hB
  refine ⟨fun h1=>(by rw [hB.1] at h1;cases h1),fun k hk=>?_⟩
  rw [hB.1] at hk
  have:k=i∨k=j∨k=l:=by simpa using hk
  rcases this with rfl|rfl|rfl
  ·exact ac1 (fun a' σ' h'=>al4 f t _ a' σ' hB.2.1 h') h.1
  ·exact ac1 (fun a' σ' h'=>al4 f u _ a' σ' hB.2.2.1 h') h.2.1
  ·exact ac1 (fun a' σ' h'=>al4 f v _ a' σ' hB.2.2.2 h') h.2.2
 | 0,.one _ _,_,_,_,hB,_=>by cases hB
 | 0,.three _ _ _ _ _ _,_,_,_,hB,_=>by cases hB
 | 0,.two _ _ _ _,_,_,_,hB,_=>by cases hB
 | _+1,.done,_,_,_,hB,_=>by cases hB
def bs1 (md:Region.Mode) (ops:Array Oper) (E:Nat→Bool) (f:Nat) (t:Ord):List Nat→Array Bool→Bool
 | [],listed=>ordB md ops f t listed
 | i :: hs,listed=>(Region.ready md ops listed).contains i && Region.free md ops listed i && !E i && bs1 md ops E f t hs (listed.setIfInBounds i true)
theorem aG1 {E:Nat→Bool} {L:List D→aa1→Prop} {f:Nat} {t:Ord}:∀ (hs:List Nat) (listed:Array Bool) (a:List D) (σ:aa1),HeadInv md ops ops.size listed→bs1 md ops E f t hs listed=true →
  gLex P md ops E (gOrd P r n df ops E L t) hs a σ→gAny P r n df md ops E L (hs.length+f) listed a σ
 | [],listed,a,σ,inv,hB,h=>by
  rw [show ([]:List Nat).length+f=f by simp]
  exact al4 f t listed a σ hB h
 | i :: hs,listed,a,σ,inv,hB,h=>by
  simp only [bs1,Bool.and_eq_true,Bool.not_eq_true'] at hB
  obtain ⟨⟨⟨hr,hf⟩,hE⟩,hB'⟩:=hB
  obtain ⟨o,d,ho,hy,hk⟩:=h
  have hr':i∈Region.ready md ops listed:=by simpa using hr
  have hin:i<ops.size:=(Array.getElem?_eq_some_iff.1 ho).1
  have H:=aG1 hs _ _ _ (inv.set hr' hin) hB' hk
  rw [show (i :: hs).length+f=(hs.length+f)+1 by simp;omega]
  rcases hy with ⟨hb,hy⟩|hy
  ·exact ao6 (S:=fun s=>s=σ) ho hE (fun ls i1 i2 j hj e=>by rw [bi5 hb ls i1 i2 j hj] at e;cases e) _ listed a σ inv (Region.free_spec ho hf) hr' rfl (fun s e=>by subst e;exact hy) H
  ·exact ao6 (S:=fun _=>True) ho hE (fun _ _ _ _ _ _ _=>trivial) _ listed a σ inv (Region.free_spec ho hf) hr' trivial (fun s _=>hy.free s) H
theorem al5 {E:Nat→Bool} {X:Nat→Prop} {w0:World} {σ0:aa1}:∀ (f:Nat) (listed:Array Bool) (a:List D) (σ:aa1) (fr:Act) (w:World),Mv w0 σ0 w σ→St w X df a σ fr→gAny P r n df md ops E (fun a σ=>Q .normal a σ) f listed a σ →
  wpAnyIn (FW r) n P md ops (Pw w0 X df σ0 Q) f listed fr w
 | 0,listed,a,σ,fr,w,hm,hs,h=>⟨h.1,a,σ,h.2,hs,hm⟩
 | f+1,listed,a,σ,fr,w,hm,hs,h=>by
  refine ⟨fun h0=>absurd h0 h.1,fun i hi=>?_⟩
  have h2:=h.2 i hi
  unfold gOp at h2
  split at h2
  ·exact h2.elim
  ·rename_i o ho
   split at h2
   ·obtain ⟨d,hy,hk⟩:=h2
    unfold wpOpIn
    simp only [ho]
    rcases hy with ⟨k1,k2,k3⟩|⟨k1,rfl⟩
    ·rw [if_pos (by rw [ap5 hs.fr k1])]
     refine ⟨bc5 o w _,?_⟩
     rw [show (FW r).round=r from rfl,av4 k2]
     have h1:=k3.yd w X fr.eval (fun x _=>hs.fr.eval x) hs.st
     generalize (execOp fr.eval o).run P w=res at h1
     cases res with
     | ok x w'=>
      cases x <;> simp only [YU] at h1
      case value u=>exact al5 f _ _ _ _ _ (hm.trans (Mv.of_ex h1.1)) ((hs.ex h1.1).put h1.2 o.dst) hk
      case enter fn args=>
       obtain ⟨rfl,hc⟩:=h1
       refine ⟨fun hd=>by simp [FW,Fence.wide] at hd,?_⟩
       have hc':CallsIn Fence.wide (n - 1) P fn args w' _:=callsIn_wide.2 hc
       have:CallsIn (FW r) (n - 1) P fn args w' _:=hc'
       refine this.mono fun e w'' he=>?_
       obtain ⟨u,rfl,hx2,hr2⟩:=he
       exact al5 f _ _ _ _ _ (hm.trans (Mv.of_ex hx2)) ((hs.ex hx2).put hr2 o.dst) hk
     | halt x w'=>simp only [YU] at h1
    ·rw [if_neg (by rw [ap5 hs.fr k1];simp)]
     exact ⟨bc5 o w _,al5 f _ _ _ _ _ hm (hs.put (.v _) o.dst) hk⟩
   ·have h3:=AOps.run h2 w X fr (hs.mask _)
    refine wpOpIn_mono ?_ (br4 (Q':=Pw w0 X df σ0 Q) ho (fun e a w ⟨_,_,⟨h,_⟩,_⟩=>h) h3)
    rintro fr' w' ⟨⟨a',σ',⟨_,hl,d,hd,hK⟩,hst',hmv⟩,hu⟩
    exact al5 f _ _ _ _ _ (hm.trans hmv) (St.back hs hmv hst' hl hd hu) hK
theorem be4 {id:Nat} {l:List Oper} (E:Nat→Bool) (hs rest:List Nat) (hm:P.follows .mixedOrders=true) (hl:hs.length+rest.length=l.length) (hB:mixB .any l.toArray E rest hs (Array.replicate l.length false)=true)
  (h:gLex P .any l.toArray E (gSeq P r n df l.toArray E (fun a σ=>Q .normal a σ) rest) hs a σ):AWP P r n df (.region id l.toArray true) Q a σ:=by
 refine ⟨fun w X fr hst=>?_⟩
 have inv0:HeadInv .any l.toArray l.toArray.size (Array.replicate l.length false):=
  ⟨by simp,fun j oj _ hl=>(by rw [getD_replicate_false] at hl;cases hl),fun t ht ht'=>by omega⟩
 refine wpIn_region_any hm ?_
 have hx0:=ay8 w
 have:=al5 (w0:=w) (σ0:=σ) (X:=X) _ _ _ _ fr { w with drawn:=w.drawn+1 } (Mv.of_ex hx0) (hst.ex hx0) (aM8 hs _ a σ inv0 hB h)
 rw [hl] at this
 have e:l.toArray.size=l.length:=by simp
 rw [e]
 exact this
theorem aG4 {id:Nat} {l:List Oper} (E:Nat→Bool) (hs:List Nat) (f:Nat) (t:Ord) (hm:P.follows .mixedOrders=true) (hl:hs.length+f=l.length) (hB:bs1 .any l.toArray E f t hs (Array.replicate l.length false)=true)
  (h:gLex P .any l.toArray E (gOrd P r n df l.toArray E (fun a σ=>Q .normal a σ) t) hs a σ):AWP P r n df (.region id l.toArray true) Q a σ:=by
 refine ⟨fun w X fr hst=>?_⟩
 have inv0:HeadInv .any l.toArray l.toArray.size (Array.replicate l.length false):=
  ⟨by simp,fun j oj _ hl=>(by rw [getD_replicate_false] at hl;cases hl),fun t ht ht'=>by omega⟩
 refine wpIn_region_any hm ?_
 have hx0:=ay8 w
 have:=al5 (w0:=w) (σ0:=σ) (X:=X) _ _ _ _ fr { w with drawn:=w.drawn+1 } (Mv.of_ex hx0) (hst.ex hx0) (aG1 hs _ a σ inv0 hB h)
 rw [hl] at this
 have e:l.toArray.size=l.length:=by simp
 rw [e]
 exact this
end
end
end Go.Proofs.YtlcfiilejnnlnaaGreatDoor
