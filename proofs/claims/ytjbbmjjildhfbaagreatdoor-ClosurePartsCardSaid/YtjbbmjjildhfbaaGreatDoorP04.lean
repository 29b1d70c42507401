/- A part of the proof: Mo Pm Pn Ex Oq. -/
import Derived.Test.YtjbbmjjildhfbaaGreatDoorP03
import Derived.Deep.OwnRows
set_option maxRecDepth 100000
set_option maxHeartbeats 4000000
set_option linter.unusedVariables false
set_option linter.unusedSimpArgs false
namespace Go.Proofs.YtjbbmjjildhfbaaGreatDoor
section
open Go Go.RowKit Go.Shelf
section
variable {P:Program} {r:Option Nat} {n:Nat} {df:Nat} {ops:Array Oper} {Q:Pst} {a:List D} {σ:aa1} {w:World} {X:Nat→Prop} {ρ:Operand→D}
theorem bget (s:ByteArray) (j:Nat):s[j]?=(bytes s)[j]?:=by
 unfold bytes
 by_cases h:j<s.size
 ·have h2:j<s.data.toList.length:=by simpa using h
  rw [List.getElem?_eq_getElem h2,getElem?_pos s j h]
  rfl
 ·have h2:¬ j<s.data.toList.length:=by simpa using h
  rw [List.getElem?_eq_none (by omega),getElem?_neg s j h]
theorem yd_sidx {T:TypeId→Option TI} (hT:∀ t i,T t=some i→tiOf P t=some i) {o:Oper} {t:TypeId} {x ix:Operand} {s:ByteArray} {kk:IntKind} {j:Int} {c:UInt8} {i:TI} (ho:o.op = .index t x ix) (hx:ρ x = .v (.string s)) (hi:ρ ix = .v (.int kk j)) (ht:T t=some i) (hs:i.str=true)
  (hc:(bytes s)[j.toNat]?=some c) (h0:0≤j):Yd P o ρ σ (.v (.int .u8 c.toNat)):=by
 intro w X η hη hst
 obtain ⟨dst,op,ty,pos,aft,g⟩:=o
 simp only at ho
 subst ho
 have h1:=(hη x (by simp [Op.operands])).val hx
 have h2:=(hη ix (by simp [Op.operands])).val hi
 have hu:=ti_str (hT t i ht) hs
 refine af8 (s:=Instr.index t (η x) (η ix)) (u:=.int .u8 c.toNat) ?_ (Ex.refl w) (.v _)
 rw [h1,h2]
 have hb:s[j.toNat]?=some c:=by rw [bget];exact hc
 simp only [Instr.index,asIntOf,Sem.run_bind,Sem.run_pure,Result.andThen,run_underlying hu,if_pos h0,hb]
theorem aU7 {T:TypeId→Option TI} (hT:∀ t i,T t=some i→tiOf P t=some i) {o:Oper} {t:TypeId} {x y:Operand} {s:ByteArray} {kk:IntKind} {j:Int} {i:TI} (ho:o.op = .slice t x none (some y) none) (hx:ρ x = .v (.string s)) (hi:ρ y = .v (.int kk j)) (ht:T t=some i) (hs:i.str=true)
  (h0:0≤j∧j≤s.size):Yd P o ρ σ (.v (.string (s.extract 0 j.toNat))):=by
 intro w X η hη hst
 obtain ⟨dst,op,ty,pos,aft,g⟩:=o
 simp only at ho
 subst ho
 have h1:=(hη x (by simp [Op.operands])).val hx
 have h2:=(hη y (by simp [Op.operands])).val hi
 have hu:=ti_str (hT t i ht) hs
 refine af8 (s:=Instr.sliceAt t (η x) ((none:Option Operand).map η) ((some y).map η) ((none:Option Operand).map η)) (u:=.string (s.extract 0 j.toNat)) ?_ (Ex.refl w) (.v _)
 rw [h1]
 simp [Instr.sliceAt,run_underlying hu,Result.andThen,Instr.slice,Instr.sliceBounds,Instr.sliceBound,h2,asIntOf,h0]
theorem yd_slto {T:TypeId→Option TI} (hT:∀ t i,T t=some i→tiOf P t=some i) {o:Oper} {t:TypeId} {x y:Operand} {k:Nat} {xs:List (List D)} {kk:IntKind} {j:Int} {i:TI} {p:Nat × Bool × Nat × Nat} (ho:o.op = .slice t x none (some y) none) (hx:ρ x = .sl k xs) (hi:ρ y = .v (.int kk j)) (ht:T t=some i) (hs:i.sl=some p)
  (h0:0≤j∧j≤xs.length):Yd P o ρ σ (.sl k (xs.take j.toNat)):=by
 intro w X η hη hst
 obtain ⟨dst,op,ty,pos,aft,g⟩:=o
 simp only at ho
 subst ho
 obtain ⟨e,ag,k',by_⟩:=p
 have h1:=hη x (by simp [Op.operands])
 rw [hx] at h1
 have h2:=(hη y (by simp [Op.operands])).val hi
 obtain ⟨hu,hsz,_⟩:=aj3 (hT t i ht) hs
 have hz:=(aq3 hsz w).2
 obtain ⟨ad,cap,vs,hv,hcap,hk,hc,hr⟩:=h1.sl_inv
 have hjc:j≤cap:=by omega
 refine af8 (s:=Instr.sliceAt t (η x) ((none:Option Operand).map η) ((some y).map η) ((none:Option Operand).map η)) (u:=.slice ad j.toNat cap) ?_ (Ex.refl w) ?_
 ·rw [hv]
  have e0:(if cap=0 then ad else ad.map (·.add (0*k')))=ad:=by
   split
   ·rfl
   ·cases ad <;> simp [Addr.add]
  simp [Instr.sliceAt,run_underlying hu,Result.andThen,Instr.slice,Instr.sliceBounds,Instr.sliceBound,h2,asIntOf,h0.1,hjc,hz] at e0 ⊢
  exact e0
 ·have hl:(xs.take j.toNat).length=j.toNat:=by simp;omega
  have:=Rd.sl (w:=w) (O:=Own σ X) k (xs.take j.toNat) ad cap vs (by omega) (fun y hy=>hk y (List.mem_of_mem_take hy)) (fun q y hq=>hc q y (by
   rw [List.getElem?_take] at hq
   split at hq
   ·exact hq
   ·cases hq)) (fun q y hq=>hr q y (by
   rw [List.getElem?_take] at hq
   split at hq
   ·exact hq
   ·cases hq))
  rw [hl] at this
  exact this
theorem yd_mkf {o:Oper} {f:FuncId} {cap:Array Operand} (ho:o.op = .makeFunc (.func f) #[] cap):Yd P o ρ σ (.clo f (cap.toList.map ρ)):=by
 intro w X η hη hst
 obtain ⟨dst,op,ty,pos,aft,g⟩:=o
 simp only at ho
 subst ho
 have:=rdl_map (w:=w) (O:=Own σ X) (ρ:=ρ) (η:=η) cap.toList (fun x hx=>hη x (by simp [Op.operands];simpa using hx))
 have hr:=Rd.clo (w:=w) (O:=Own σ X) f _ _ this.len this.at_
 refine af8 (s:=Instr.makeFunc (.func f) ((#[]:Array Operand).map η) (cap.map η)) (w':=w) ?_ (Ex.refl w) hr
 rw [show (List.map η cap.toList).toArray=Array.map η cap by apply Array.ext';simp]
 simp [Instr.makeFunc]
theorem yd_min {o:Oper} {x y:Operand} {ts:Array TypeId} {k:IntKind} {p q:Int} (ho:o.op = .call { callee:=.builtin .min,args:=#[x,y],argTypes:=ts }) (hx:ρ x = .v (.int k p)) (hy:ρ y = .v (.int k q)):Yd P o ρ σ (.v (.int k (if q<p then q else p))):=by
 intro w X η hη hst
 obtain ⟨dst,op,ty,pos,aft,g⟩:=o
 simp only at ho
 subst ho
 have h1:=(hη x (by simp [Op.operands,Call.operands])).val hx
 have h2:=(hη y (by simp [Op.operands,Call.operands])).val hy
 simp only [execOp,resolve,invoke,builtin,Sem.run_bind,Sem.run_pure,Result.andThen,List.map_toArray,List.map_cons,List.map_nil,h1,h2]
 exact ⟨Ex.refl w,.v _⟩
theorem yd_max {o:Oper} {x y:Operand} {ts:Array TypeId} {k:IntKind} {p q:Int} (ho:o.op = .call { callee:=.builtin .max,args:=#[x,y],argTypes:=ts }) (hx:ρ x = .v (.int k p)) (hy:ρ y = .v (.int k q)):Yd P o ρ σ (.v (.int k (if p<q then q else p))):=by
 intro w X η hη hst
 obtain ⟨dst,op,ty,pos,aft,g⟩:=o
 simp only at ho
 subst ho
 have h1:=(hη x (by simp [Op.operands,Call.operands])).val hx
 have h2:=(hη y (by simp [Op.operands,Call.operands])).val hy
 simp only [execOp,resolve,invoke,builtin,Sem.run_bind,Sem.run_pure,Result.andThen,List.map_toArray,List.map_cons,List.map_nil,h1,h2]
 exact ⟨Ex.refl w,.v _⟩
theorem aops_make {T:TypeId→Option TI} (hT:∀ t i,T t=some i→tiOf P t=some i) {o:Oper} {rest:List Oper} {x y:Operand} {t e:TypeId} {i j:TI} {ag:Bool} {by_ m:Nat} {z:ZV} (hw:am7 ops a o=some true) (ho:o.op = .makeSlice t x y) (hx:evD a x = .v (.int .i64 m)) (hy:evD a y = .v (.int .i64 m))
  (ht:T t=some i) (hi:i.sl=some (e,ag,1,by_)) (he:T e=some j) (hz:j.zero=[z]) (hs:j.size=1) (hb:by_*m≤281474976710656) (hm:m≤1000000000)
  (k:∀ b,AOps P r n df ops Q rest (putD a o.dst (.v (.slice (some ⟨b,0,none⟩) m m))) ((b,.cells e (List.replicate m (.v (zv z)))) :: σ)):AOps P r n df ops Q (o :: rest) a σ:=by
 refine ah3 hw (by rw [ho];rfl) fun w X fr hst=>?_
 have h1:=(hst.fr.eval x).val hx
 have h2:=(hst.fr.eval y).val hy
 obtain ⟨hu,hsz,hby⟩:=aj3 (hT t i ht) hi
 obtain ⟨inf,zz,k1,k2,k3,k4⟩:=ti_zero (hT e j he) (by rw [hz,hs];rfl) (by omega)
 have hzz:zz.cells = #[zv z]:=by apply Array.ext';rw [k4,hz];rfl
 have hbt:inf.bytes=by_:=by rw [← hby];simp [Program.bytesOf,k1]
 have hrun:=run_make (P:=P) w t e inf zz hu k1 k2 .i64 .i64 m m (by omega) (Int.le_refl _) (by rw [hbt];have h:((by_*m:Nat):Int)≤281474976710656:=(by omega);rwa [Int.natCast_mul] at h) (by omega)
 have hcells:(madeCells zz.cells ((m:Int).toNat*inf.size)).toList=List.replicate m (zv z):=by
  rw [hzz,k3,hs,Nat.mul_one,Int.toNat_natCast]
  apply List.ext_getElem?
  intro q
  by_cases hq:q<m
  ·simp [madeCells,hq,Nat.mod_one]
  ·simp [madeCells,hq]
 have ee:(execOp fr.eval o).run P w = .ok (.value (.slice (some ⟨w.heap.size,0,none⟩) m m)) (w.alloc (.cells (madeCells zz.cells ((m:Int).toNat*inf.size)) e)):=by
  simp only [execOp,ho,Sem.run_bind,h1,h2,hrun,Result.andThen,Sem.run_pure,Int.toNat_natCast]
 rw [ee]
 obtain ⟨g1,g2,g3⟩:=hst.st.new (.cells (madeCells zz.cells ((m:Int).toNat*inf.size)) e) (.cells e (List.replicate m (.v (zv z)))) ⟨_,by rw [Array.toArray_toList],by rw [hcells];have:=RdL.vals (w:=w) (O:=Own σ X) (List.replicate m (zv z));rw [List.map_replicate] at this;exact this⟩
 exact ⟨_,_,g2,(⟨hst.fr.keep (by simp) g3 (fun b hb _=>((Ex.refl w).alloc).block b hb),g1,hst.df.keep (by simp) g3 (fun b hb _=>((Ex.refl w).alloc).block b hb)⟩:St _ X df a _ fr).put (.v _) o.dst,k _⟩
def effO:Op→Bool
 | .store _ _ _=>true
 | .alloc _=>true
 | .makeSlice _ _ _=>true
 | .makeMap _ _=>true
 | .mapUpdate _ _ _ _=>true
 | .mapEntry _ _ _=>true
 | .entryStore _ _ _ _=>true
 | .call { callee:=.builtin .append,.. }=>true
 | .call { callee:=.builtin .copy,.. }=>true
 | _=>false
def effAt:List Oper→Option Nat
 | []=>none
 | o :: l=>bif effO o.op then some 0 else (match effAt l with|some m=>some (m+1)|none=>none)
end
end
section
open Go Go.RowKit Go.Shelf
section
variable {P:Program} {r:Option Nat} {n:Nat} {df:Nat} {ops:Array Oper} {Q:Pst} {a:List D} {σ:aa1} {w:World} {X:Nat→Prop} {ρ:Operand→D}
theorem aJ6 {τ:aa1} (h:σ.Perm τ) (b:Nat):Own σ X b↔Own τ X b:=by
 have:b∈ab2 σ↔b∈ab2 τ:=(h.map Prod.fst).mem_iff
 simp only [Own,this]
theorem StOK.perm {τ:aa1} (h:σ.Perm τ) (hs:StOK w X σ):StOK w X τ:=
 ⟨(h.map Prod.fst).nodup_iff.1 hs.nodup,fun b k hm=>by
  obtain ⟨h1,o,h2,h3⟩:=hs.at_ b k (h.mem_iff.2 hm)
  exact ⟨h1,o,h2,Blk.ok_keep (Nat.le_refl _) (fun x _ hn=>by rw [← aJ6 h];exact hn) (fun _ _ _=>rfl) h3⟩,hs.xlt,hs.gok.mono (fun x ho=>(aJ6 h x).2 ho)⟩
theorem St.perm {τ:aa1} {fr:Act} (h:σ.Perm τ) (hs:St w X df a σ fr):St w X df a τ fr:=
 ⟨hs.fr.keep (Nat.le_refl _) (fun x _ hn=>by rw [← aJ6 h];exact hn) (fun _ _ _=>rfl),hs.st.perm h,hs.df.keep (Nat.le_refl _) (fun x _ hn=>by rw [← aJ6 h];exact hn) (fun _ _ _=>rfl)⟩
theorem Pw.perm {τ:aa1} (h:σ.Perm τ) {e:Exit} {fr:Act} {w':World} (hp:Pw w X df τ Q e fr w'):Pw w X df σ Q e fr w':=by
 obtain ⟨a',s',h1,h2,h3⟩:=hp
 have hk:∀ x,x∈ab2 τ→x∈ab2 σ:=fun x hx=>(h.map Prod.fst).mem_iff.2 hx
 exact ⟨a',s',h1,h2,⟨h3.keep.mono (fun x _ hx=>hk x hx),fun x hx=>(h3.new x hx).imp (hk x) id⟩⟩
theorem ay5 {l:List Oper} {τ:aa1} (h:σ.Perm τ) (k:AOps P r n df ops Q l a τ):AOps P r n df ops Q l a σ:=
 ⟨fun w X fr hs=>af3 (fun _ _ _ hp=>Pw.perm h hp) _ _ _ (k.run w X fr (hs.perm h))⟩
end
end
section
open Go Go.RowKit Go.Shelf
section
variable {P:Program} {r:Option Nat} {n:Nat} {df:Nat} {ops:Array Oper} {Q:Pst} {a:List D} {σ:aa1} {w:World} {X:Nat→Prop} {ρ:Operand→D}
def Le (d d':D):Prop:=∀ (w:World) (O:Nat→Prop) (v:Value),Rd w O d v→Rd w O d' v
inductive LeL:List D→List D→Prop
 | nil:LeL [] []
 | cons {d d':D} {ds ds':List D} (h:Le d d') (t:LeL ds ds'):LeL (d :: ds) (d' :: ds')
theorem Le.refl (d:D):Le d d:=fun _ _ _ h=>h
theorem ah5 (k:Nat):Le (.v (.slice none 0 0)) (.sl k []):=fun w O v h=>by
 have:=h.val rfl
 subst this
 exact .sl k [] none 0 (fun _ _=>undef) (Nat.le_refl _) (by simp) (fun i x hx=>by simp at hx) (fun i x hx=>by simp at hx)
theorem LeL.rd {ds ds':List D} (h:LeL ds ds') {O:Nat→Prop}:∀ {vs:List Value},RdL w O ds vs→RdL w O ds' vs:=by
 induction h with
 | nil=>exact fun h=>h
 | cons h t ih=>
  intro vs hv
  cases vs with
  | nil=>have:=hv.len;simp at this
  | cons v vs=>
   exact .cons (h _ _ _ (hv.at_ 0 _ _ rfl rfl)) (ih ⟨by have:=hv.len;simpa using this,fun j d u h1 h2=>hv.at_ (j+1) d u (by simpa using h1) (by simpa using h2)⟩)
theorem le_agg {ds ds':List D} (h:LeL ds ds'):Le (.agg ds) (.agg ds'):=fun w O v hv=>by
 obtain ⟨vs,rfl,h1⟩:=hv.agg_inv
 have:=h.rd h1
 exact .agg _ _ this.len this.at_
theorem le_tup {ds ds':List D} (h:LeL ds ds'):Le (.tup ds) (.tup ds'):=fun w O v hv=>by
 obtain ⟨vs,rfl,h1⟩:=hv.tup_inv
 have:=h.rd h1
 exact .tup _ _ this.len this.at_
theorem res_tmp5 {fn:Func} {i1 i2 i3 i4 i5:Tmp} (h:fn.results = #[.tmp i1,.tmp i2,.tmp i3,.tmp i4,.tmp i5]) :
  ResOK P fn a σ (.tup [a.getD i1 (.v undef),a.getD i2 (.v undef),a.getD i3 (.v undef),a.getD i4 (.v undef),a.getD i5 (.v undef)]):=fun w X t hf _=>by
 refine ⟨.tuple #[t.getD i1 undef,t.getD i2 undef,t.getD i3 undef,t.getD i4 undef,t.getD i5 undef],by simp [results,h],?_⟩
 have:=RdL.cons (ai9 hf i1) (RdL.cons (ai9 hf i2) (RdL.cons (ai9 hf i3) (RdL.cons (ai9 hf i4) (RdL.cons (ai9 hf i5) RdL.nil))))
 exact .tup _ _ this.len this.at_
end
end
section
open Go Go.RowKit Go.Shelf
abbrev Frm:=List (Nat × D)
def am8:Frm→Nat→Option D
 | [],_=>none
 | (i,d) :: f,t=>bif Nat.beq i t then some d else am8 f t
def evF (f:Frm):Operand→D
 | .tmp t=>match am8 f t with|some d=>d|none=>.any
 | .const v=>.v v
 | .global g=>.v (.pointer (some ⟨g,0,none⟩))
 | .func f=>.v (.func (.func f) #[] #[])
structure Sp (N:Nat) (a:List D) (f:Frm):Prop where
 len:a.length=N
 at_:∀ i d,am8 f i=some d→d = .any∨a[i]?=some d
section
variable {N:Nat} {a:List D} {f:Frm}
theorem Sp.le (h:Sp N a f) (x:Operand):Le (evD a x) (evF f x):=by
 cases x with
 | tmp t=>
  simp only [evF]
  cases hl:am8 f t with
  | none=>exact fun _ _ v _=>.any v
  | some d=>
   rcases h.at_ t d hl with rfl|h1
   ·exact fun _ _ v _=>.any v
   ·simp only [evD,List.getD_eq_getElem?_getD,h1];exact Le.refl _
 | _=>exact Le.refl _
theorem Sp.eq (h:Sp N a f) {x:Operand} {d:D} (he:evF f x=d) (hd:d ≠ .any):evD a x=d:=by
 cases x with
 | tmp t=>
  simp only [evF] at he
  cases hl:am8 f t with
  | none=>rw [hl] at he;exact absurd he.symm hd
  | some d'=>
   rw [hl] at he
   simp only at he
   subst he
   rcases h.at_ t d' hl with h0|h1
   ·exact absurd h0 hd
   ·simp [evD,List.getD_eq_getElem?_getD,h1]
 | _=>exact he
theorem Yd.le {P:Program} {o:Oper} {ρ ρ':Operand→D} {σ:aa1} {d:D} (h:∀ x,Le (ρ x) (ρ' x)) (hy:Yd P o ρ' σ d):Yd P o ρ σ d:=
 fun w X η hη hs=>hy w X η (fun x hx=>h x _ _ _ (hη x hx)) hs
def putK (N:Nat) (dst:Option Tmp) (d:D) (f:Frm) (K:Frm→Prop):Prop:=
 match dst with
 | none=>K f
 | some i=>bif Nat.blt i N then K ((i,d) :: f) else False
theorem ad7 {dst:Option Tmp} {d:D} {K:Frm→Prop} (h:putK N dst d f K) (hs:Sp N a f):∃ f',Sp N (putD a dst d) f'∧K f':=by
 cases dst with
 | none=>exact ⟨f,hs,h⟩
 | some i=>
  simp only [putK] at h
  cases hb:Nat.blt i N with
  | false=>rw [hb] at h;exact h.elim
  | true=>
   rw [hb] at h
   rw [Nat.blt_eq] at hb
   refine ⟨_,⟨by simp [putD,hs.len],fun j d' hj=>?_⟩,h⟩
   simp only [am8] at hj
   cases he:Nat.beq i j with
   | true=>
    rw [he] at hj
    simp only [cond_true,Option.some.injEq] at hj
    have:=Nat.eq_of_beq_eq_true he
    subst this hj
    exact .inr (by simp [putD,hs.len,hb])
   | false=>
    rw [he] at hj
    have hne:i≠j:=fun e=>by subst e;simp at he
    rcases hs.at_ j d' hj with h1|h1
    ·exact .inl h1
    ·exact .inr (by simp [putD,List.getElem?_set,hne,h1])
end
/-! ### Data brought into their normal form -/
def ab4 (d:D) (K:D→Prop):Prop:=match d with
 | .v x=>K (.v x)
 | .any=>K .any
 | .sl k xs=>K (.sl k xs)
 | .ro cs=>K (.ro cs)
 | .agg cs=>K (.agg cs)
 | .tup ds=>K (.tup ds)
 | .clo f cs=>K (.clo f cs)
 | .gl g=>K (.gl g)
theorem ad3 {d:D} {K:D→Prop} (h:ab4 d K):K d:=by cases d <;> exact h
def as6:List D→(List D→Prop)→Prop
 | [],K=>K []
 | d :: ds,K=>ab4 d fun d=>as6 ds fun ds=>K (d :: ds)
theorem ai3:∀ {l:List D} {K:List D→Prop},as6 l K→K l
 | [],_,h=>h
 | d :: ds,K,h=>ai3 (K:=fun ds=>K (d :: ds)) (ad3 (K:=fun d=>as6 ds fun ds=>K (d :: ds)) h)
def aZ3:List (List D)→(List (List D)→Prop)→Prop
 | [],K=>K []
 | x :: xs,K=>as6 x fun x=>aZ3 xs fun xs=>K (x :: xs)
theorem aT4:∀ {l:List (List D)} {K:List (List D)→Prop},aZ3 l K→K l
 | [],_,h=>h
 | x :: xs,K,h=>aT4 (K:=fun xs=>K (x :: xs)) (ai3 (K:=fun x=>aZ3 xs fun xs=>K (x :: xs)) h)
def dropL:Nat→List D→(List D→Prop)→Prop
 | 0,l,K=>K l
 | _+1,[],K=>K []
 | n+1,_ :: l,K=>dropL n l K
theorem aK0:∀ {n:Nat} {l:List D} {K:List D→Prop},dropL n l K→K (l.drop n)
 | 0,_,_,h=>h
 | _+1,[],_,h=>h
 | n+1,_ :: l,K,h=>aK0 (n:=n) (l:=l) (K:=K) h
def mkK (ag:Bool) (n:Nat) (cs:List D) (K:D→Prop):Prop:=
 match ag with
 | true=>bif Nat.beq n cs.length then K (.agg cs) else as6 (cs.take n) fun l=>K (.agg l)
 | false=>match cs with|c :: _=>bif Nat.beq n 1 then ab4 c K else False | []=>False
theorem mkK_ok {ag:Bool} {n:Nat} {cs:List D} {K:D→Prop} (h:mkK ag n cs K):K (mkD ag (cs.take n)):=by
 unfold mkK at h
 cases ag with
 | true=>
  simp only at h
  cases hb:Nat.beq n cs.length with
  | true=>
   rw [hb] at h
   have:=Nat.eq_of_beq_eq_true hb
   rw [this,List.take_length]
   exact h
  | false=>rw [hb] at h;exact ai3 (K:=fun l=>K (.agg l)) h
 | false=>
  cases cs with
  | nil=>exact h.elim
  | cons c cs=>
   simp only at h
   cases hb:Nat.beq n 1 with
   | false=>rw [hb] at h;exact h.elim
   | true=>rw [hb] at h;have:=Nat.eq_of_beq_eq_true hb;subst this;exact ad3 h
/-! ### Where the executor stops -/
structure Br (t:Bool) (A B:Prop):Prop where
 yes:t=true→A
 no:t=false→B
structure Bc (t:Bool) (A B C:Prop):Prop where
 run:Br t A B∨C
structure Bx (A B:Prop):Prop where
 run:A∨B
structure Sd (s A:Prop):Prop where
 s:s
 k:A
structure Ck (b:Bool) (A:Prop):Prop where
 s:b=true
 k:A
structure Ix (xs:List (List D)) (j:Int) (K:List D→Prop):Prop where
 run:0≤j∧∃ cs,xs[j.toNat]?=some cs∧K cs
structure Ld (P:Program) (o:Oper) (ρ:Operand→D) (σ:aa1) (b off:Nat) (ag:Bool) (sz:Nat) (K:D→Prop):Prop where
 run:(∃ (j:Nat) (tb:TypeId) (cs:List D),σ[j]?=some (b,.cells tb cs)∧off+sz≤cs.length∧K (mkD ag ((cs.drop off).take sz)))∨∃ d,Yd P o ρ σ d∧K d
structure Ot (P:Program) (o:Oper) (ρ:Operand→D) (σ:aa1) (K:D→Prop):Prop where
 run:∃ d,Yd P o ρ σ d∧K d
structure APk (P:Program) (f:FuncId) (args:List D) (σ:aa1) (d:D):Prop where
 ent:Enters P f
 run:∀ (w:World) (X:Nat→Prop) (vs:List Value),RdL w (Own σ X) args vs→StOK w X σ →
  Calls P f vs.toArray w fun e w'=>∃ u,e = .returned u∧Rd w' (Own σ X) d u∧Ex w w'
theorem APure.pk {P:Program} {f:FuncId} {args:List D} {σ:aa1} {d:D} (h:APure P f args d):APk P f args σ d:=
 ⟨h.ent,fun w X vs hv hs=>h.run w _ vs hv hs.gok⟩
theorem yd_pk {P:Program} {σ:aa1} {o:Oper} {ρ:Operand→D} {f:FuncId} {ds:List D} {d:D} (h:callD o.op ρ=some (f,ds)) (hp:APk P f ds σ d):Yd P o ρ σ d:=by
 intro w X η hη hst
 obtain ⟨vs,h1,h2⟩:=callD_ok (P:=P) (w:=w) h hp.ent hη
 rw [h2]
 exact ⟨rfl,(hp.run w X vs h1 hst).mono fun e w' ⟨u,g1,g2,g3⟩=>⟨u,g1,g3,g2⟩⟩
structure Cp (P:Program) (f:FuncId) (args:List D) (σ:aa1) (K:D→Prop):Prop where
 run:∃ d,APk P f args σ d∧K d
def sideB:BinOp→Value→Bool
 | .add,_=>true | .sub,_=>true | .mul,_=>true | .rem,_=>true | .quo,_=>true
 | _,_=>false
theorem sideB_ok {b:BinOp} {x y u:Value} {s:Prop} (h:vBin b x y=some (s,u)) (hb:sideB b x=false):s:=by
 unfold vBin at h
 split at h <;> cases h <;> first|trivial|cases hb
def exY (P:Program) (T:TypeId→Option TI) (o:Oper) (f:Frm) (σ:aa1) (K:D→Prop):Prop:=
 match o.op with
 | .move x=>ab4 (evF f x) K
 | .assign x=>ab4 (evF f x) K
 | .pick c x y=>match evF f c with
  | .v (.bool t)=>Br t (ab4 (evF f x) K) (ab4 (evF f y) K)
  | _=>Ot P o (evF f) σ (fun d=>ab4 d K)
 | .box _ x=>match evF f x with
  | .any=>Ot P o (evF f) σ (fun d=>ab4 d K)
  | .agg cs=>K (.ro cs)
  | .v (.agg vs)=>as6 (vs.toList.map .v) fun l=>K (.ro l)
  | d=>K (.ro [d])
 | .nilCheck x=>match evF f x with
  | .ro cs=>K (.ro cs)
  | .clo g cs=>K (.clo g cs)
  | .v (.pointer (some p))=>K (.v (.pointer (some p)))
  | .v (.func (.func g) u v)=>K (.v (.func (.func g) u v))
  | _=>Ot P o (evF f) σ (fun d=>ab4 d K)
 | .binOp b _ x y _=>match evF f x with
  | .v u=>match evF f y with
   | .v v=>match vBin b u v with
    | some (s,r)=>bif sideB b u then Bx (Sd s (K (.v r))) (Ot P o (evF f) σ (fun d=>ab4 d K)) else K (.v r)
    | none=>Ot P o (evF f) σ (fun d=>ab4 d K)
   | _=>Ot P o (evF f) σ (fun d=>ab4 d K)
  | _=>Ot P o (evF f) σ (fun d=>ab4 d K)
 | .unOp b _ x=>match evF f x with
  | .v u=>match vUn b u with
   | some (s,r)=>(match b with | .not=>Sd s (K (.v r)) | _=>Sd s (K (.v r)))
   | none=>Ot P o (evF f) σ (fun d=>ab4 d K)
  | _=>Ot P o (evF f) σ (fun d=>ab4 d K)
 | .load t x=>match T t with
  | none=>Ot P o (evF f) σ (fun d=>ab4 d K)
  | some i=>match evF f x with
   | .ro cs=>bif Nat.ble i.size cs.length && (i.agg || i.size == 1) then mkK i.agg i.size cs K else False
   | .v (.pointer (some ⟨b,off,none⟩))=>bif i.agg || i.size == 1 then Ld P o (evF f) σ b off i.agg i.size (fun d=>ab4 d K) else False
   | _=>Ot P o (evF f) σ (fun d=>ab4 d K)
 | .fieldAddr s x fl=>match T s with
  | none=>Ot P o (evF f) σ (fun d=>ab4 d K)
  | some i=>match i.fs[fl]? with
   | none=>Ot P o (evF f) σ (fun d=>ab4 d K)
   | some (off,_,n)=>match evF f x with
    | .ro cs=>bif Nat.ble off cs.length && !(n == 0) then dropL off cs fun l=>K (.ro l) else False
    | .v (.pointer (some ⟨b,o,none⟩))=>bif !(n == 0) then K (.v (.pointer (some ⟨b,o+off,none⟩))) else False
    | _=>Ot P o (evF f) σ (fun d=>ab4 d K)
 | .field s x fl=>match T s with
  | none=>Ot P o (evF f) σ (fun d=>ab4 d K)
  | some i=>match i.fs[fl]? with
   | none=>Ot P o (evF f) σ (fun d=>ab4 d K)
   | some (off,ag,n)=>match evF f x with
    | .agg cs=>bif Nat.ble (off+n) cs.length && (ag || n == 1) then dropL off cs fun l=>mkK ag n l K else False
    | _=>Ot P o (evF f) σ (fun d=>ab4 d K)
 | .extract x i=>match evF f x with
  | .tup ds=>match ds[i]? with|some d=>ab4 d K|none=>Ot P o (evF f) σ (fun d=>ab4 d K)
  | .v (.tuple vs)=>match vs[i]? with|some d=>K (.v d)|none=>Ot P o (evF f) σ (fun d=>ab4 d K)
  | _=>Ot P o (evF f) σ (fun d=>ab4 d K)
 | .indexAddr t x ix=>match T t with
  | none=>Ot P o (evF f) σ (fun d=>ab4 d K)
  | some i=>match evF f ix with
   | .v (.int kk j)=>match evF f x with
    | .sl k xs=>match i.sl with
     | some (_,_,k',_)=>bif Nat.beq k' k then Ix xs j (fun cs=>K (.ro cs)) else False
     | none=>Ot P o (evF f) σ (fun d=>ab4 d K)
    | .v (.slice (some ⟨b,off,none⟩) n _)=>match i.sl with
     | some (_,_,k,_)=>Sd (0≤j∧j<n) (K (.v (.pointer (some ⟨b,off+j.toNat*k,none⟩))))
     | none=>Ot P o (evF f) σ (fun d=>ab4 d K)
    | .ro cs=>match j with
     | .ofNat m=>match i.arr with
      | some (n,_,k)=>bif Nat.blt m n && Nat.ble (m*k) cs.length then dropL (m*k) cs fun l=>K (.ro l) else False
      | none=>Ot P o (evF f) σ (fun d=>ab4 d K)
     | _=>Ot P o (evF f) σ (fun d=>ab4 d K)
    | _=>Ot P o (evF f) σ (fun d=>ab4 d K)
   | _=>Ot P o (evF f) σ (fun d=>ab4 d K)
 | .build t ps=>match T t with
  | none=>Ot P o (evF f) σ (fun d=>ab4 d K)
  | some i=>bif Nat.beq i.zero.length i.size && Nat.blt 0 i.size && (i.arr.isSome || !i.fs.isEmpty) then
    (match fillD (plD i) (i.zero.map fun z=>.v (zv z)) (ps.toList.map fun p=>(p.1,evF f p.2)) with
    | some out=>as6 out fun l=>K (.agg l)
    | none=>Ot P o (evF f) σ (fun d=>ab4 d K)) else False
 | .buildSlice t m ps=>match T t with
  | none=>Ot P o (evF f) σ (fun d=>ab4 d K)
  | some i=>match i.sl with
   | none=>Ot P o (evF f) σ (fun d=>ab4 d K)
   | some (e,_,k,_)=>match T e with
    | none=>Ot P o (evF f) σ (fun d=>ab4 d K)
    | some j=>bif Nat.beq j.zero.length j.size && Nat.beq j.size k && Nat.blt 0 k && Nat.ble (m*k) 1000 then
      (match fillD (fun q=>some (q*k,k)) (zeros j.zero k m) (ps.toList.map fun p=>(p.1,evF f p.2)) with
      | some out=>bif out.length == m*k then aZ3 (ba0 k m out) fun l=>K (.sl k l) else False
      | none=>Ot P o (evF f) σ (fun d=>ab4 d K)) else False
 | .makeFunc (.func g) first cap=>bif first.toList.isEmpty then as6 (cap.toList.map (evF f)) fun l=>K (.clo g l) else False
 | .call c=>match c.callee with
  | .builtin .len=>match c.args.toList,c.argTypes.toList with
   | [x],[t]=>match T t with
    | none=>Ot P o (evF f) σ (fun d=>ab4 d K)
    | some i=>match evF f x with
     | .sl _ xs=>bif i.sl.isSome then K (.v (.int .i64 xs.length)) else False
     | .v (.slice _ n _)=>bif i.sl.isSome then K (.v (.int .i64 n)) else False
     | .v (.string s)=>bif i.str then K (.v (.int .i64 s.size)) else False
     | _=>Ot P o (evF f) σ (fun d=>ab4 d K)
   | _,_=>Ot P o (evF f) σ (fun d=>ab4 d K)
  | .value _=>match callD o.op (evF f) with
   | some (g,ds)=>as6 ds fun ds=>Cp P g ds σ fun d=>ab4 d K
   | none=>Ot P o (evF f) σ (fun d=>ab4 d K)
  | _=>Ot P o (evF f) σ (fun d=>ab4 d K)
 | _=>Ot P o (evF f) σ (fun d=>ab4 d K)
section
variable {P:Program} {N:Nat} {σ:aa1} {a:List D} {f:Frm} {T:TypeId→Option TI}
theorem ae2 {c:Bool} {A:Prop} (h:bif c then A else False):c=true∧A:=by cases c;exact h.elim;exact ⟨rfl,h⟩
theorem cl1 {p:Prop} (h:p:=by simp only [ho,aop,aCall,hc,e2,e3,hi,hx,aLen,h1,cond_true];try rfl):p:=h
theorem aT9 (hT:∀ t i,T t=some i→tiOf P t=some i) {o:Oper} {K:D→Prop} (h:exY P T o f σ K):∃ d,Yd P o (evF f) σ d∧K d:=by
 have go:∀ {s d},aop T o.op (evF f)=some (s,d)→s→K d→∃ d,Yd P o (evF f) σ d∧K d:=fun h1 h2 h3=>⟨_,yd_aop hT h1 h2,h3⟩
 have ot:Ot P o (evF f) σ (fun d=>ab4 d K)→∃ d,Yd P o (evF f) σ d∧K d:=fun h=>let ⟨d,h1,h2⟩:=h.run;⟨d,h1,ad3 h2⟩
 unfold exY at h
 split at h
 ·rename_i x ho;exact go (by simp only [ho,aop];try rfl) trivial (ad3 h)
 ·rename_i x ho;exact go (by simp only [ho,aop];try rfl) trivial (ad3 h)
 ·rename_i c x y ho
  split at h
  ·rename_i t ht
   cases t with
   | true=>exact go (by simp only [ho,aop,ht,aPick];try rfl) trivial (ad3 (h.yes rfl))
   | false=>exact go (by simp only [ho,aop,ht,aPick];try rfl) trivial (ad3 (h.no rfl))
  ·exact ot h
 ·rename_i t x ho
  split at h
  ·exact ot h
  ·rename_i cs hx;exact go (by simp only [ho,aop,hx,aBox];try rfl) trivial h
  ·rename_i vs hx
   have:=ai3 (K:=fun l=>K (.ro l)) h
   exact go (by simp only [ho,aop,hx,aBox];try rfl) trivial this
  ·rename_i d h1 h2 h3
   have hc:ag4 (evF f x)=[evF f x]:=by
    unfold ag4;split
    ·rename_i cs e;exact absurd e (h2 cs)
    ·rename_i vs e;exact absurd e (h3 vs)
    ·rfl
   have hb:aBox (evF f x)=some (True,.ro (ag4 (evF f x))):=by
    unfold aBox;split
    ·rename_i e;exact absurd e h1
    ·rfl
   exact go (by simp only [ho,aop];exact hb) trivial (by rw [hc];exact h)
 ·rename_i x ho
  split at h
  ·rename_i hx;exact go (by simp only [ho,aop,hx,aNil];try rfl) trivial h
  ·rename_i hx;exact go (by simp only [ho,aop,hx,aNil];try rfl) trivial h
  ·rename_i hx;exact go (by simp only [ho,aop,hx,aNil];try rfl) trivial h
  ·rename_i hx;exact go (by simp only [ho,aop,hx,aNil];try rfl) trivial h
  ·exact ot h
 ·rename_i b t x y t' ho
  split at h
  ·rename_i u hu
   split at h
   ·rename_i v hv
    split at h
    ·rename_i s r hr
     have hb:aop T o.op (evF f)=some (s,.v r):=by simp only [ho,aop,hu,hv,aBin,hr,Option.map_some]
     cases hs:sideB b u with
     | true=>
      rw [hs] at h
      rcases h.run with h|h
      ·exact go hb h.s h.k
      ·exact ot h
     | false=>rw [hs] at h;exact go hb (sideB_ok hr hs) h
    ·exact ot h
   ·exact ot h
  ·exact ot h
 ·rename_i b t x ho
  split at h
  ·rename_i u hu
   split at h
   ·rename_i s r hr
    have hb:aop T o.op (evF f)=some (s,.v r):=by simp only [ho,aop,hu,aUn,hr,Option.map_some]
    split at h <;> exact go hb h.s h.k
   ·exact ot h
  ·exact ot h
 ·rename_i t x ho
  split at h
  ·exact ot h
  ·rename_i i hi
   split at h
   ·rename_i cs hx
    obtain ⟨h1,h2⟩:=ae2 h
    exact go (by simp only [ho,aop,hx,hi,aLoad,h1,cond_true];try rfl) trivial (mkK_ok h2)
   ·rename_i b off hx
    obtain ⟨h1,h2⟩:=ae2 h
    rcases h2.run with ⟨j,tb,cs,g1,g2,g3⟩|⟨d,g1,g2⟩
    ·exact ⟨_,yd_own hT ho hi hx g1 g2 (by simpa using h1),ad3 g3⟩
    ·exact ⟨d,g1,ad3 g2⟩
   ·exact ot h
 ·rename_i s x fl ho
  split at h
  ·exact ot h
  ·rename_i i hi
   split at h
   ·exact ot h
   ·rename_i off ag n hf
    split at h
    ·rename_i cs hx
     obtain ⟨h1,h2⟩:=ae2 h
     exact go (by simp only [ho,aop,hx,hi,aF3,hf,h1,cond_true];try rfl) trivial (aK0 (K:=fun l=>K (.ro l)) h2)
    ·rename_i b oo hx
     obtain ⟨h1,h2⟩:=ae2 h
     exact go (by simp only [ho,aop,hx,hi,aF3,hf,h1,cond_true];try rfl) trivial h2
    ·exact ot h
 ·rename_i s x fl ho
  split at h
  ·exact ot h
  ·rename_i i hi
   split at h
   ·exact ot h
   ·rename_i off ag n hf
    split at h
    ·rename_i cs hx
     obtain ⟨h1,h2⟩:=ae2 h
     exact go (by simp only [ho,aop,hx,hi,aPart,hf,h1,cond_true];try rfl) trivial (mkK_ok (aK0 (K:=fun l=>mkK ag n l K) h2))
    ·exact ot h
 ·rename_i x i ho
  split at h
  ·rename_i ds hx
   split at h
   ·rename_i d hd;exact go (by simp only [ho,aop,hx,aExt,hd];try rfl) trivial (ad3 h)
   ·exact ot h
  ·rename_i vs hx
   split at h
   ·rename_i d hd;exact go (by simp only [ho,aop,hx,aExt,hd];try rfl) trivial h
   ·exact ot h
  ·exact ot h
 ·rename_i t x ix ho
  split at h
  ·exact ot h
  ·rename_i i hi
   split at h
   ·rename_i kk j hj
    split at h
    ·rename_i k xs hx
     split at h
     ·rename_i e ag k' by_ hs
      obtain ⟨h1,h2⟩:=ae2 h
      obtain ⟨g1,cs,g2,g3⟩:=h2.run
      exact ⟨_,yd_index hT ho hx hj hi hs (Nat.eq_of_beq_eq_true h1) g2 g1,g3⟩
     ·exact ot h
    ·rename_i b off n c hx
     split at h
     ·rename_i e ag k by_ hs
      exact go (by simp only [ho,aop,hx,hi,hj,aIdx,hs];try rfl) h.s h.k
     ·exact ot h
    ·rename_i cs hx
     split at h
     ·rename_i m
      split at h
      ·rename_i n ag k hs
       obtain ⟨h1,h2⟩:=ae2 h
       exact go (by simp only [ho,aop,hx,hi,hj,aIdx,hs,h1,cond_true];try rfl) trivial (aK0 (K:=fun l=>K (.ro l)) h2)
      ·exact ot h
     ·exact ot h
    ·exact ot h
   ·exact ot h
 ·rename_i t ps ho
  split at h
  ·exact ot h
  ·rename_i i hi
   obtain ⟨h1,h2⟩:=ae2 h
   simp only [Bool.and_eq_true] at h1
   split at h2
   ·rename_i out hf
    exact ⟨_,yd_build hT ho hi (Nat.eq_of_beq_eq_true h1.1.1) h1.1.2 h1.2 hf,ai3 (K:=fun l=>K (.agg l)) h2⟩
   ·exact ot h2
 ·rename_i t m ps ho
  split at h
  ·exact ot h
  ·rename_i i hi
   split at h
   ·exact ot h
   ·rename_i e ag k by_ hs
    split at h
    ·exact ot h
    ·rename_i j hj
     obtain ⟨h1,h2⟩:=ae2 h
     simp only [Bool.and_eq_true] at h1
     split at h2
     ·rename_i out hf
      obtain ⟨h3,h4⟩:=ae2 h2
      exact ⟨_,yd_bsl hT ho hi hs hj (Nat.eq_of_beq_eq_true h1.1.1.1) (Nat.eq_of_beq_eq_true h1.1.1.2) h1.1.2 h1.2 hf h3,aT4 (K:=fun l=>K (.sl k l)) h4⟩
     ·exact ot h2
 ·rename_i g first cap ho
  obtain ⟨h1,h2⟩:=ae2 h
  have h0:first = #[]:=by simpa using h1
  subst h0
  exact ⟨_,yd_mkf ho,ai3 (K:=fun l=>K (.clo g l)) h2⟩
 ·rename_i c ho
  split at h
  ·rename_i hc
   split at h
   ·rename_i x t e2 e3
    split at h
    ·exact ot h
    ·rename_i i hi
     split at h
     ·rename_i k xs hx
      obtain ⟨h1,h2⟩:=ae2 h
      exact go cl1 trivial h2
     ·rename_i ad n cc hx
      obtain ⟨h1,h2⟩:=ae2 h
      exact go cl1 trivial h2
     ·rename_i s hx
      obtain ⟨h1,h2⟩:=ae2 h
      exact go cl1 trivial h2
     ·exact ot h
   ·exact ot h
  ·split at h
   ·rename_i g ds hc
    obtain ⟨d,g1,g2⟩:=(ai3 (K:=fun ds=>Cp P g ds σ fun d=>ab4 d K) h).run
    exact ⟨d,yd_pk hc g1,ad3 g2⟩
   ·exact ot h
  ·exact ot h
 ·exact ot h
end
end
section
open Go Go.RowKit Go.Shelf
section
variable {P:Program} {r:Option Nat} {n:Nat} {df:Nat} {ops:Array Oper} {Q:Pst} {a:List D} {σ:aa1} {md:Region.Mode} {al:Option (Nat × TypeId)}
theorem aU5 {m g:Nat} {Lq:List D→Prop} (hwt:∀ i listed,i<m→HeadInv md ops m listed→listed.getD i true=false→∀ t,m≤t→t ∉ Region.ready md ops listed) :
  ∀ (l:List Oper) (k:Nat) (listed:Array Bool) (a:List D),(∀ j,j<l.length→l[j]?=ops[k+j]?)→k+l.length=m→HeadInv md ops m listed→(∀ j,j<k→listed.getD j false=true) →
  Region.lexHead md ops g l.length k listed=true→aC3 al P ops σ Lq l a →
  aHead al P md ops σ m (fun listed' a'=>Region.seqB md ops g m listed'=true∧(∀ j,j<m→listed'.getD j false=true)∧Lq a') l.length listed a
 | [],k,listed,a,_,hk,_,hs,hB,h=>by
  obtain rfl:k=m:=by simpa using hk
  exact ⟨by simpa [Region.lexHead] using hB,hs,h⟩
 | o :: l,k,listed,a,hl,hk,inv,hs,hB,h=>by
  have h0:ops[k]?=some o:=by simpa using (hl 0 (by simp)).symm
  simp only [List.length_cons,Region.lexHead,Bool.and_eq_true] at hB hk
  obtain ⟨⟨hr,hf⟩,hB'⟩:=hB
  have hr':k∈Region.ready md ops listed:=by simpa using hr
  have hst:aOp al P ops σ k (aC3 al P ops σ Lq l) a:=by unfold aOp;simp only [h0];exact h
  obtain ⟨d,hy,hK⟩:=aK6 h0 hst
  have hks:k<listed.size:=by
   have h1:=(mem_ready.1 hr').1
   refine Nat.lt_of_not_le fun hle=>?_
   rw [Array.getD_eq_getD_getElem?,Array.getElem?_eq_none (by omega)] at h1
   cases h1
  exact aQ0 h0 (fun ls i1 i2=>hwt k ls (by omega) i1 i2) (by omega) (fun listed' a' hL=>seqB_ready hL.1) l.length listed a inv (Region.free_spec h0 hf) hr' hy
   (aU5 hwt l (k+1) _ _ (fun j hj=>by have:=hl (j+1) (by simp;omega);simpa [Nat.add_assoc,Nat.add_comm 1 j] using this) (by omega) (inv.set hr' (by omega)) (fun j hj=>by
    by_cases e:j=k
    ·subst e;simp [Array.getD_eq_getD_getElem?,hks]
    ·have:=hs j (by omega)
     rw [Array.getD_eq_getD_getElem?,Array.getElem?_setIfInBounds_ne (by omega)]
     simpa [Array.getD_eq_getD_getElem?] using this) hB' hK)
def StG (X:Nat→Prop) (df:Nat) (σ:aa1) (s:Nat) (t0:TypeId) (zc:List Value) (w0:World) (gh:Option Nat) (w:World) (a:List D) (fr:Act):Prop:=match gh with
 | none=>St w X df a σ fr
 | some b=>St w (fun x=>X x∨x=b) df a σ fr∧w0.heap.size≤b∧w.heap[b]?=some (.cells zc.toArray t0 (0,0))∧fr.tmps[s]?=some (.pointer (some ⟨b,0,none⟩))∧¬ Own σ X b
theorem StG.step {X:Nat→Prop} {s:Nat} {t0:TypeId} {zc:List Value} {w0 w w':World} {gh:Option Nat} {fr:Act} {dst:Option Tmp} {d:D} {u:Value} (h:StG X df σ s t0 zc w0 gh w a fr) (hx:Ex w w') (hd:∀ X',(gh=none→X'=X)→(∀ b,gh=some b→X'=fun x=>X x∨x=b)→Rd w' (Own σ X') d u) (hne:dst≠some s) :
  StG X df σ s t0 zc w0 gh w' (putD a dst d) (fr.put dst u):=by
 cases gh with
 | none=>exact (St.ex h hx).put (hd X (fun _=>rfl) (fun b e=>by cases e)) dst
 | some b=>
  obtain ⟨h1,h2,h3,h4,h5⟩:=h
  refine ⟨(h1.ex hx).put (hd _ (fun e=>by cases e) (fun b' e=>by cases e;rfl)) dst,h2,(hx.block b (Array.getElem?_eq_some_iff.1 h3).1).trans h3,?_,h5⟩
  cases dst with
  | none=>exact h4
  | some i=>
   have:i≠s:=fun e=>hne (by rw [e])
   simp [Act.put,this,h4]
theorem StG.some_st {X:Nat→Prop} {s:Nat} {t0:TypeId} {zc:List Value} {w0 w:World} {gh:Option Nat} {fr:Act} (h:StG X df σ s t0 zc w0 gh w a fr) :
  ∃ X':Nat→Prop,(gh=none→X'=X)∧(∀ b,gh=some b→X'=fun x=>X x∨x=b)∧St w X' df a σ fr:=by
 cases gh with
 | none=>exact ⟨X,(fun _=>rfl),(fun b e=>by cases e),h⟩
 | some b=>exact ⟨_,(fun e=>by cases e),(fun b' e=>by cases e;rfl),h.1⟩
theorem StG.made {X:Nat→Prop} {s:Nat} {t0:TypeId} {w0 w:World} {fr:Act} (hs:St w X df a σ fr) (hx0:Ex w0 w) (cs:Array Value) (hlt:s<fr.tmps.size) :
  StG X df σ s t0 cs.toList w0 (some w.heap.size) (w.alloc (.cells cs t0)) (putD a (some s) .any) (fr.put (some s) (.pointer (some ⟨w.heap.size,0,none⟩))):=by
 have hx:Ex w (w.alloc (.cells cs t0)):=(Ex.refl w).alloc
 have hO:∀ x,x<w.heap.size→¬ Own σ X x→¬ Own σ (fun x=>X x∨x=w.heap.size) x:=by
  intro x hxl hn ho
  rcases ho with (ho|ho)|ho
  ·exact hn (.inl ho)
  ·omega
  ·exact hn (.inr ho)
 have hS:∀ x,x<w.heap.size→¬ Own σ X x→(w.alloc (.cells cs t0)).heap[x]?=w.heap[x]?:=fun x hxl _=>hx.block x hxl
 refine ⟨St.put (⟨hs.fr.keep hx.size hO hS,⟨hs.st.nodup,fun b k hm=>?_,fun b hb=>?_,hs.st.gok.keep hx.size hO hS (fun b hb=>?_)⟩,hs.df.keep hx.size hO hS⟩:St (w.alloc (.cells cs t0)) (fun x=>X x∨x=w.heap.size) df a σ fr) (.any _) (some s),hx0.size,?_,?_,aN2 hs.st (Nat.le_refl _)⟩
 ·obtain ⟨h1,o,h2,h3⟩:=hs.st.at_ b k hm
  have hbl:=(Array.getElem?_eq_some_iff.1 h2).1
  refine ⟨fun h=>?_,o,(hx.block b hbl).trans h2,Blk.ok_keep hx.size hO hS h3⟩
  rcases h with h|h
  ·exact h1 h
  ·omega
 ·rcases hb with hb|rfl
  ·exact Nat.lt_of_lt_of_le (hs.st.xlt b hb) hx.size
  ·simp
 ·rcases hb with (hb|rfl)|hb
  ·exact Nat.lt_of_lt_of_le (hs.st.xlt b hb) hx.size
  ·simp
  ·exact Nat.lt_of_lt_of_le (hs.st.lt hb) hx.size
 ·unfold World.alloc;simp
 ·simp [Act.put,hlt]
theorem ao0 {listed:Array Bool} {i j:Nat} {b:Bool} (h:i≠j):(listed.setIfInBounds i true).getD j b=listed.getD j b:=by
 simp only [Array.getD_eq_getD_getElem?,Array.getElem?_setIfInBounds_ne h]
theorem am6 {m g i0 s:Nat} {t0:TypeId} {zc:List Value} {o0:Oper} {L:Array Bool→List D→Prop} {Q':Exit→Act→World→Prop} {X:Nat→Prop} {w0:World}
  (h0:ops[i0]?=some o0) (hop:o0.op = .alloc t0) (hd0:o0.dst=some s) (hg0:o0.guard=none) (hu:∀ (j:Nat) o,ops[j]?=some o→o.dst=some s→j=i0) (hsl:s<a.length)
  (hzero:∀ w,∃ z,(zeroValue t0).run P w = .ok z w∧z.cells.toList=zc)
  (hL:∀ listed a fr w b,Ex w0 w→StG X df σ s t0 zc w0 (some b) w a fr→L listed a→wpAnyIn (FW r) n P md ops Q' g listed fr w)
  (hLi:∀ listed a,L listed a→listed.getD i0 false=true) :
  ∀ (f:Nat) (listed:Array Bool) (a:List D) (fr:Act) (w:World) (gh:Option Nat),s<a.length→Ex w0 w→StG X df σ s t0 zc w0 gh w a fr→i0<listed.size→(gh=none→listed.getD i0 true=false)→(∀ b,gh=some b→listed.getD i0 false=true) →
   aHead (some (s,t0)) P md ops σ m L f listed a→wpAnyIn (FW r) n P md ops Q' (f+g) listed fr w
 | 0,listed,a,fr,w,gh,hsa,hx,hs,hsz,hn,hb,h=>by
  rw [Nat.zero_add]
  cases gh with
  | none=>have h1:=hLi _ _ h;rw [getD_both (hn rfl)] at h1;cases h1
  | some b=>exact hL _ _ _ _ _ hx hs h
 | f+1,listed,a,fr,w,gh,hsa,hx,hs,hsz,hn,hb,h=>by
  rw [show f+1+g=(f+g)+1 by omega]
  refine ⟨fun hh=>absurd hh h.1,fun i hi=>?_⟩
  have h2:=(h.2 i hi).2
  obtain ⟨hun,oi,hoi,_⟩:=mem_ready.1 hi
  have hpl:∀ d,s<(putD a oi.dst d).length:=fun d=>by cases oi.dst <;> simp [putD,hsa]
  unfold aOp at h2
  unfold wpOpIn
  simp only [hoi] at h2 ⊢
  obtain ⟨X',hX1,hX2,hst⟩:=hs.some_st
  rcases h2 with ⟨k1,k2,d,k3,k4⟩|⟨k1,k2⟩
  ·rw [if_pos (by rw [ao1 hst.fr k1])]
   refine ⟨bf6 oi w _,?_⟩
   rw [show (FW r).round=r from rfl,av5 k2]
   rcases k3 with ⟨q1,q2⟩|⟨q1,⟨s',t',q2,q3,q4⟩,rfl⟩
   ·have hne:oi.dst≠some s:=fun e=>by simp [isAl,e] at q1
    have hii:i≠i0:=fun e=>by subst e;rw [h0] at hoi;cases hoi;exact hne hd0
    have h1:=q2 w X' fr.eval (fun x _=>hst.fr.eval x) hst.st
    generalize (execOp fr.eval oi).run P w=res at h1
    have stp:∀ {w':World} {u:Value},Ex w w'→Rd w' (Own σ X') d u→StG X df σ s t0 zc w0 gh w' (putD a oi.dst d) (fr.put oi.dst u):=fun hxx hr=>hs.step hxx (fun X'' e1 e2=>by
     have:X''=X':=by
      cases gh with
      | none=>rw [e1 rfl,hX1 rfl]
      | some b=>rw [e2 b rfl,hX2 b rfl]
     rw [this];exact hr) hne
    have hn':gh=none→(listed.setIfInBounds i true).getD i0 true=false:=fun e=>by rw [ao0 hii];exact hn e
    have hb':∀ b,gh=some b→(listed.setIfInBounds i true).getD i0 false=true:=fun b e=>by rw [ao0 hii];exact hb b e
    cases res with
    | ok x w'=>
     cases x <;> simp only [YU] at h1
     case value u=>exact am6 h0 hop hd0 hg0 hu hsl hzero hL hLi f _ _ _ _ gh (hpl d) (hx.trans h1.1) (stp h1.1 h1.2) (by simpa using hsz) hn' hb' k4
     case enter fn args=>
      obtain ⟨rfl,hc⟩:=h1
      refine ⟨fun hd=>by simp [FW,Fence.wide] at hd,?_⟩
      have hc':CallsIn Fence.wide (n - 1) P fn args w' _:=callsIn_wide.2 hc
      have:CallsIn (FW r) (n - 1) P fn args w' _:=hc'
      refine this.mono fun e w'' he=>?_
      obtain ⟨u,rfl,hx2,hr2⟩:=he
      exact am6 h0 hop hd0 hg0 hu hsl hzero hL hLi f _ _ _ _ gh (hpl d) (hx.trans hx2) (stp hx2 hr2) (by simpa using hsz) hn' hb' k4
    | halt x w'=>simp only [YU] at h1
   ·cases q2
    have hii:i=i0:=hu i oi hoi q4
    subst hii
    have hgh:gh=none:=by
     cases gh with
     | none=>rfl
     | some b=>have h3:=hb b rfl;rw [getD_both hun] at h3;cases h3
    subst hgh
    have hst0:St w X df a σ fr:=hs
    obtain ⟨z,z1,z2⟩:=hzero w
    have e:(execOp fr.eval oi).run P w = .ok (.value (.pointer (some ⟨w.heap.size,0,none⟩))) (w.alloc (.cells z.cells t0)):=by
     simp only [execOp,q3,Sem.run_bind,Instr.alloc,z1,Result.andThen,newVar,newRow,newObj]
     rfl
    rw [e]
    have hm:=StG.made (t0:=t0) hst0 hx z.cells (by rw [hst0.fr.size];exact hsa)
    rw [z2] at hm
    rw [q4] at k4
    show wpAnyIn _ _ _ _ _ _ _ _ (fr.put oi.dst _) _
    rw [q4]
    refine am6 h0 hop hd0 hg0 hu hsl hzero hL hLi f _ _ _ _ (some w.heap.size) (by simpa [putD] using hsa) (hx.trans ((Ex.refl w).alloc)) hm (by simpa using hsz) (fun e=>by cases e) (fun b _=>?_) k4
    simp [Array.getD_eq_getD_getElem?,hsz]
  ·rw [if_neg (by rw [ao1 hst.fr k1];simp)]
   have hii:i≠i0:=fun e=>by
    subst e;rw [h0] at hoi;cases hoi
    simp [am7,hg0] at k1
   have hne:oi.dst≠some s:=fun e=>hii (hu i oi hoi e)
   refine ⟨bf6 oi w _,am6 h0 hop hd0 hg0 hu hsl hzero hL hLi f _ _ _ _ gh (hpl _) hx (hs.step (Ex.refl w) (fun _ _ _=>.v _) hne) (by simpa using hsz) (fun e=>by rw [ao0 hii];exact hn e) (fun b e=>by rw [ao0 hii];exact hb b e) k2⟩
theorem bh7 {id:Nat} {l:List Oper} (m i0 s:Nat) (t0:TypeId) (o0:Oper) {T:TypeId→Option TI} (hT:∀ t i,T t=some i→tiOf P t=some i) {ti:TI} (ht:T t0=some ti) (hz:ti.zero.length=ti.size) (hp:0<ti.size) (hm:P.follows .mixedOrders=true) (hB:Region.lexTailB .any l.toArray m=true)
  (h0:l[i0]?=some o0) (him:i0<m) (hop:o0.op = .alloc t0) (hd0:o0.dst=some s) (hg0:o0.guard=none) (hu:∀ (j:Nat) o,l[j]?=some o→o.dst=some s→j=i0) (hsa:s<a.length)
  (h:aC3 (some (s,t0)) P l.toArray σ (fun a'=>a'.length=a.length∧∀ b,AOps P r n df l.toArray Q (l.drop m) (a'.set s (.v (.pointer (some ⟨b,0,none⟩)))) ((b,.cells t0 (ti.zero.map fun z=>.v (zv z))) :: σ)) (l.take m) a):AWP P r n df (.region id l.toArray true) Q a σ:=by
 refine ⟨fun w X fr hs=>?_⟩
 simp only [Region.lexTailB,Bool.and_eq_true,decide_eq_true_eq] at hB
 obtain ⟨⟨⟨⟨hsel,hn⟩,hsk⟩,hc⟩,hlex⟩:=hB
 have hn':m<l.length:=by simpa using hn
 have htl:(l.take m).length=m:=by simp;omega
 have hdl:(l.drop m).length=l.toArray.size - m:=by simp
 have inv0:HeadInv .any l.toArray m (Array.replicate l.toArray.size false):=
  ⟨by simp,fun j oj _ hl=>(by rw [getD_replicate_false] at hl;cases hl),fun t _ ht=>getD_in (by simpa using ht) (getD_replicate_false _ _)⟩
 have H:=aU5 (md:=.any) (g:=l.toArray.size - m) (fun i ls hi i1 i2=>tail_waits hsk hc hn i1 _ i rfl hi i2) (l.take m) 0 _ a (fun j hj=>by
  have hj':j<m:=by rw [htl] at hj;exact hj
  simp [hj']) (by simpa using htl) inv0 (fun j hj=>by omega) (by rw [htl];exact hlex) h
 refine wpIn_region_any hm ?_
 have hx0:=az8 w
 have hzero:∀ w,∃ z,(zeroValue t0).run P w = .ok z w∧z.cells.toList=ti.zero.map zv:=fun w=>ay7 (hT t0 ti ht) hz hp w
 have:=am6 (r:=r) (n:=n) (df:=df) (Q':=Pw w X df σ Q) (g:=l.toArray.size - m) (X:=X) (w0:={ w with drawn:=w.drawn+1 }) (i0:=i0) (o0:=o0) (a:=a) (by simpa using h0) hop hd0 hg0 (fun j o hj=>hu j o (by simpa using hj)) hsa hzero
  (fun listed a' fr' w' b hx' hs' hL=>by
   obtain ⟨g1,g2,g3,g4,g5⟩:=hs'
   have hbX:∀ x,Own ((b,Blk.cells t0 (ti.zero.map fun z=>.v (zv z))) :: σ) X x↔Own σ (fun x=>X x∨x=b) x:=by
    intro x
    simp only [Own,ab2,List.map_cons,List.mem_cons]
    constructor
    ·rintro (h|h|h)
     ·exact .inl (.inl h)
     ·exact .inl (.inr h)
     ·exact .inr h
    ·rintro ((h|h)|h)
     ·exact .inl h
     ·exact .inr (.inl h)
     ·exact .inr (.inr h)
   have hkp:∀ {d:D} {u:Value},Rd w' (Own σ (fun x=>X x∨x=b)) d u→Rd w' (Own ((b,Blk.cells t0 (ti.zero.map fun z=>.v (zv z))) :: σ) X) d u:=fun h=>h.keep (Nat.le_refl _) (fun x _ hn ho=>hn ((hbX x).1 ho)) (fun _ _ _=>rfl)
   have hbs:b<w'.heap.size:=(Array.getElem?_eq_some_iff.1 g3).1
   have hSt:St w' X df (a'.set s (.v (.pointer (some ⟨b,0,none⟩)))) ((b,.cells t0 (ti.zero.map fun z=>.v (zv z))) :: σ) fr':=by
    refine ⟨⟨by simp [g1.fr.size],fun i d hd=>?_⟩,⟨?_,fun b' k hm'=>?_,fun x hx=>g1.st.xlt x (.inl hx),g1.st.gok.mono (fun x hx=>(hbX x).1 hx)⟩,g1.df.keep (Nat.le_refl _) (fun x _ hn ho=>hn ((hbX x).1 ho)) (fun _ _ _=>rfl)⟩
    ·rw [List.getElem?_set] at hd
     split at hd
     ·rename_i e
      subst e
      split at hd
      ·cases hd;exact ⟨_,g4,.v _⟩
      ·cases hd
     ·obtain ⟨u,k1,k2⟩:=g1.fr.at_ i d hd
      exact ⟨u,k1,hkp k2⟩
    ·simp only [ab2,List.map_cons,List.nodup_cons]
     exact ⟨fun hm'=>g5 (.inr hm'),g1.st.nodup⟩
    ·rcases List.mem_cons.1 hm' with e|hm'
     ·cases e
      refine ⟨fun hX=>g5 (.inl hX),_,g3,(ti.zero.map zv),rfl,?_⟩
      have:=RdL.vals (w:=w') (O:=Own ((b,Blk.cells t0 (ti.zero.map fun z=>.v (zv z))) :: σ) X) (ti.zero.map zv)
      rw [List.map_map] at this;exact this
     ·obtain ⟨q1,o,q2,q3⟩:=g1.st.at_ b' k hm'
      exact ⟨fun hX=>q1 (.inl hX),o,q2,Blk.ok_keep (Nat.le_refl _) (fun x _ hn ho=>hn ((hbX x).1 ho)) (fun _ _ _=>rfl) q3⟩
   have hMv:Mv w σ w' ((b,.cells t0 (ti.zero.map fun z=>.v (zv z))) :: σ):=by
    refine ⟨(hx0.trans hx').keep,fun x hx=>?_⟩
    simp only [ab2,List.map_cons,List.mem_cons] at hx
    rcases hx with rfl|hx
    ·exact .inr (Nat.le_trans hx0.size g2)
    ·exact .inl hx
   have:=at1 (md:=.any) (Q':=Pw w X df σ Q) (l.drop m) m listed fr' w' (fun j=>by simp [List.getElem?_drop]) (by rw [hdl];exact hL.1)
    (af3 (fun e a w'' hp=>Pw.moved hMv hp) _ _ _ ((hL.2.2.2 b).run w' X fr' hSt))
   rwa [hdl] at this)
  (fun listed a' hL=>hL.2.1 i0 him) _ _ _ fr _ none hsa (Ex.refl _) (show StG X df σ s t0 _ _ none _ a fr from hs.ex hx0) (by have:=(List.getElem?_eq_some_iff.1 h0).1;simpa using this) (fun _=>getD_in (by have:=(List.getElem?_eq_some_iff.1 h0).1;simpa using this) (getD_replicate_false _ _)) (fun b e=>by cases e) H
 rw [htl,show m+(l.toArray.size - m)=l.toArray.size by omega] at this
 exact this
end
end
end Go.Proofs.YtjbbmjjildhfbaaGreatDoor
