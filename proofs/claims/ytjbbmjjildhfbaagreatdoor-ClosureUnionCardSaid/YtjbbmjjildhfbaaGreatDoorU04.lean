/- A part of the proof: Bs Mo Pm Pn Ex. -/
import Derived.Test.YtjbbmjjildhfbaaGreatDoorU03
import Derived.Laws.Tables
import Derived.Deep.OwnRows
set_option maxRecDepth 100000
set_option maxHeartbeats 4000000
set_option linter.unusedVariables false
set_option linter.unusedSimpArgs false
namespace Go.Proofs.YtjbbmjjildhfbaaGreatDoor
section
open Go Go.RowKit Go.Shelf
section
variable {P : Program} {r : Option Nat} {n : Nat} {df : Nat} {ops : Array Oper} {Q : Pst} {a : List D} {σ : Store} {w : World} {X : Nat → Prop} {ρ : Operand → D}
def fillD (place : Nat → Option (Nat × Nat)) (cs : List D) : List (Nat × D) → Option (List D)
 | []=>some cs
 | (i,d) :: rest=>match place i with
  | none=>none
  | some (off,size)=>bif notAny d && ((cellsD d).length == size) && Nat.ble (off + size) cs.length then fillD place (spl cs off (cellsD d)) rest else none
theorem set_spl (l : List Value) : ∀ (off s : Nat) (cs : Array Value),off + s + l.length ≤ cs.size →
  ((l.zipIdx s).foldl (fun cs p=>cs.setIfInBounds (off + p.2) p.1) cs).toList = cs.toList.take (off + s) ++ l ++ cs.toList.drop (off + s + l.length):=by
 induction l with
 | nil=>intro off s cs _;simp
 | cons v l ih=>
  intro off s cs h
  simp only [List.length_cons] at h
  rw [List.zipIdx_cons,List.foldl_cons,ih off (s + 1) _ (by simp;omega)]
  simp only [Array.toList_setIfInBounds]
  have e:=list_seg_step cs.toList (off + s) v l (by simp;omega)
  simpa [Nat.add_assoc] using e
theorem fill_ok {O : Nat → Prop} {place : Nat → Option (Nat × Nat)} : ∀ (ps : List (Nat × Operand)) (η : Operand → Value) (cs : List D) (vs : Array Value) (out : List D),(∀ p ∈ ps,Rd w O (ρ p.2) (η p.2)) → RdL w O cs vs.toList →
  fillD place cs (ps.map fun p=>(p.1,ρ p.2)) = some out → ∃ arr,Instr.fill place vs (ps.map fun p=>(p.1,η p.2)) = some arr ∧ RdL w O out arr.toList
 | [],η,cs,vs,out,_,hr,h=>by cases h;exact ⟨vs,rfl,hr⟩
 | (i,x) :: ps,η,cs,vs,out,hp,hr,h=>by
  simp only [List.map_cons,fillD] at h
  cases hpl : place i with
  | none=>rw [hpl] at h;cases h
  | some q=>
   obtain ⟨off,size⟩:=q
   rw [hpl] at h
   simp only at h
   cases hc : (notAny (ρ x) && ((cellsD (ρ x)).length == size) && Nat.ble (off + size) cs.length) with
   | false=>rw [hc] at h;cases h
   | true=>
    rw [hc] at h
    simp only [Bool.and_eq_true,beq_iff_eq,Nat.ble_eq] at hc
    obtain ⟨⟨c1,c2⟩,c3⟩:=hc
    have hx:=(hp (i,x) (by simp)).cells (notAny_ne c1)
    have hxl : (η x).cells.size = size:=by have:=hx.len;simpa [c2] using this
    have hle : off + size ≤ vs.size:=by have:=hr.len;simp at this;omega
    have hq : ¬ ((η x).cells.size ≠ size || off + (η x).cells.size > vs.size) = true:=by simp [hxl];omega
    have hsp : ((η x).cells.zipIdx.foldl (fun cs (p : Value × Nat)=>cs.setIfInBounds (off + p.2) p.1) vs).toList = vs.toList.take off ++ (η x).cells.toList ++ vs.toList.drop (off + (η x).cells.toList.length):=by
     have:=set_spl (η x).cells.toList off 0 vs (by simp [hxl];omega)
     rw [Nat.add_zero] at this
     rw [← this,← Array.foldl_toList]
     simp
    obtain ⟨arr,g1,g2⟩:=fill_ok ps η (spl cs off (cellsD (ρ x))) ((η x).cells.zipIdx.foldl (fun cs (p : Value × Nat)=>cs.setIfInBounds (off + p.2) p.1) vs) out (fun p hm=>hp p (by simp [hm])) (by
     rw [hsp];unfold spl;rw [hx.len]
     exact ((hr.take off).append hx).append (hr.drop _)) h
    refine ⟨arr,?_,g2⟩
    simp only [List.map_cons,Instr.fill,hpl]
    rw [if_neg hq]
    exact g1
def plD (i : TI) (f : Nat) : Option (Nat × Nat):=match i.arr with
 | some (_,_,k)=>some (f * k,k)
 | none=>match i.fs[f]? with | some (o,_,m)=>some (o,m) | none=>none
theorem ti_zero {t : TypeId} {i : TI} (h : tiOf P t = some i) (hz : i.zero.length = i.size) (hp : 0 < i.size) : ∃ inf z,P.info? t = some inf ∧ inf.zero = some z ∧ inf.size = i.size ∧ z.cells.toList = i.zero.map zv:=by
 obtain ⟨inf,u,h1,_,_,h4,_,_,_,_,_⟩:=tiOf_ok h
 obtain ⟨z,g1,g2⟩:=zero_run h hz hp default
 refine ⟨inf,z,h1,?_,h4.symm,g2⟩
 cases hzz : inf.zero with
 | none=>simp [zeroValue,typeInfo,program,Sem.run,h1,hzz,unsupported] at g1
 | some z'=>simp [zeroValue,typeInfo,program,Sem.run,h1,hzz] at g1;rw [g1]
theorem places_ok : ∀ (fs : List Field) (rr : List (Nat × Bool × Nat)),(fs.mapM fun f=>(szOf P f.type).map fun s=>(f.offset,s.1,s.2)) = some rr →
  fs.mapM (fun f=>(P.info? f.type).map fun i=>(f.offset,i.size)) = some (rr.map fun q=>(q.1,q.2.2))
 | [],rr,h=>by simp at h;subst h;rfl
 | f :: fs,rr,h=>by
  simp only [List.mapM_cons,Option.bind_eq_bind,Option.bind_eq_some_iff,Option.pure_def,Option.some.injEq,Option.map_eq_some_iff] at h
  obtain ⟨y,⟨s,hs,rfl⟩,ys,hys,rfl⟩:=h
  have ih:=places_ok fs ys hys
  unfold szOf at hs
  split at hs
  ·rename_i inf u h1 h2
   cases hs
   simp [List.mapM_cons,h1,ih]
  ·cases hs
theorem built_ok {t : TypeId} {i : TI} (h : tiOf P t = some i) (hz : i.zero.length = i.size) (hp : 0 < i.size) (hf : i.arr.isSome = true ∨ i.fs ≠ []) :
  ∃ z : Array Value,z.toList = i.zero.map zv ∧ ∀ parts,P.built t parts = Instr.fill (plD i) z parts:=by
 obtain ⟨inf,z,k1,k2,k3,k4⟩:=ti_zero h hz hp
 obtain ⟨inf',u,h1,h2,_,_,h5,_,h6,_,_⟩:=tiOf_ok h
 rw [k1] at h1
 cases h1
 refine ⟨z.cells,k4,fun parts=>?_⟩
 unfold Program.built
 cases u with
 | array m e=>
  simp only at h6
  cases hs : szOf P e with
  | none=>rw [hs] at h6;rw [h6,h5] at hf;simp at hf
  | some q=>
   rw [hs] at h6
   unfold szOf at hs
   split at hs
   ·rename_i ie u' g1 g2
    cases hs
    simp only [k1,h2,k2,g1]
    have e1 : (plD i) = (fun f=>some (f * ie.size,ie.size)):=by funext f;simp [plD,h6]
    rw [e1]
   ·cases hs
 | struct fields=>
  simp only at h5 h6
  cases hm : fields.toList.mapM (fun f=>(szOf P f.type).map fun s=>(f.offset,s.1,s.2)) with
  | none=>rw [hm] at h5;rw [h5,h6] at hf;simp at hf
  | some rr=>
   rw [hm] at h5
   simp only [k1,h2,k2,places_ok _ _ hm]
   have e1 : (plD i) = (fun f=>(rr.map fun q=>(q.1,q.2.2)).toArray[f]?):=by
    funext f
    simp only [plD,h6,h5,Option.getD_some]
    cases hr : rr[f]? with
    | none=>simp [hr]
    | some q=>simp [hr]
   rw [e1]
 | _=>rw [h5,h6] at hf;simp at hf
theorem mem_build {t : TypeId} {ps : Array (Nat × Operand)} {p : Nat × Operand} (h : p ∈ ps.toList) : p.2 ∈ (Op.build t ps).operands:=List.mem_toArray.2 (List.mem_map.2 ⟨p,h,rfl⟩)
theorem mem_bsl {t : TypeId} {m : Nat} {ps : Array (Nat × Operand)} {p : Nat × Operand} (h : p ∈ ps.toList) : p.2 ∈ (Op.buildSlice t m ps).operands:=List.mem_toArray.2 (List.mem_map.2 ⟨p,h,rfl⟩)
theorem yd_build {T : TypeId → Option TI} (hT : ∀ t i,T t = some i → tiOf P t = some i) {o : Oper} {t : TypeId} {ps : Array (Nat × Operand)} {i : TI} {out : List D} (ho : o.op = .build t ps) (ht : T t = some i) (hz : i.zero.length = i.size) (hp : Nat.blt 0 i.size = true) (hf : (i.arr.isSome || !i.fs.isEmpty) = true)
  (h : fillD (plD i) (i.zero.map fun z=>.v (zv z)) (ps.toList.map fun p=>(p.1,ρ p.2)) = some out) : Yd P o ρ σ (.agg out):=by
 intro w X η hη hst
 obtain ⟨dst,op,ty,pos,aft,g⟩:=o
 simp only at ho
 subst ho
 have hp' : 0 < i.size:=by simpa [Nat.blt_eq] using hp
 obtain ⟨z,g1,g2⟩:=built_ok (hT t i ht) hz hp' (by simpa using hf)
 have hzr : RdL w (Own σ X) (i.zero.map fun z=>.v (zv z)) z.toList:=by rw [g1];have:=RdL.vals (w:=w) (O:=Own σ X) (i.zero.map zv);rw [List.map_map] at this;exact this
 obtain ⟨arr,k1,k2⟩:=fill_ok ps.toList η _ z out (fun p hm=>hη p.2 (mem_build hm)) hzr h
 have hrd:=Rd.agg (w:=w) (O:=Own σ X) out arr.toList k2.len k2.at_
 rw [Array.toArray_toList] at hrd
 have hrun:=run_build w t (ps.map fun p=>(p.1,η p.2)) arr (by rw [g2,Array.toList_map];exact k1)
 clear k1 k2 h hzr g1 g2
 have e : (execOp η ⟨dst,.build t ps,ty,pos,aft,g⟩) = (do pure (Next.value (← Instr.build t (ps.map fun p=>(p.1,η p.2)))) : Sem Next):=by
  unfold execOp
  rfl
 rw [e]
 exact yu_run hrun (Ex.refl w) hrd
def zeros (z : List ZV) (k m : Nat) : List D:=(List.range (m * k)).map fun q=>.v (zv (z.getD (q % k) .bool))
def chunk (k m : Nat) (cs : List D) : List (List D):=(List.range m).map fun i=>(cs.drop (i * k)).take k
theorem yd_bsl {T : TypeId → Option TI} (hT : ∀ t i,T t = some i → tiOf P t = some i) {o : Oper} {t e : TypeId} {ps : Array (Nat × Operand)} {i j : TI} {ag : Bool} {k by_ m : Nat} {out : List D} (ho : o.op = .buildSlice t m ps) (ht : T t = some i) (hs : i.sl = some (e,ag,k,by_)) (he : T e = some j) (hz : j.zero.length = j.size) (hk : j.size = k) (hp : Nat.blt 0 k = true)
  (hm : Nat.ble (m * k) 1000 = true) (h : fillD (fun q=>some (q * k,k)) (zeros j.zero k m) (ps.toList.map fun p=>(p.1,ρ p.2)) = some out) (hl : (out.length == m * k) = true) : Yd P o ρ σ (.sl k (chunk k m out)):=by
 intro w X η hη hst
 obtain ⟨dst,op,ty,pos,aft,g⟩:=o
 simp only at ho
 subst ho
 have hp' : 0 < k:=by simpa [Nat.blt_eq] using hp
 have hm' : m * k ≤ 1000:=by simpa [Nat.ble_eq] using hm
 have hl' : out.length = m * k:=by simpa using hl
 obtain ⟨hu,hsz,_⟩:=ti_slice (hT t i ht) hs
 have hsz':=(szOf_ok hsz w).2
 obtain ⟨z,g1,g2⟩:=zero_run (hT e j he) hz (by omega) w
 have hzl : z.cells.size = k:=by have:=congrArg List.length g2;simpa [hz,hk] using this
 have hzr : RdL w (Own σ X) (zeros j.zero k m) ((Array.range (m * k)).map (z.cells[· % z.cells.size]!)).toList:=by
  refine ⟨by simp [zeros],fun q d u h1 h2=>?_⟩
  have hq : q < m * k:=by simpa [zeros] using (List.getElem?_eq_some_iff.1 h1).1
  simp only [zeros,List.getElem?_map,List.getElem?_range hq,Option.map_some,Option.some.injEq] at h1
  simp [hq,hzl] at h2
  subst h1 h2
  have hmod : q % k < k:=Nat.mod_lt _ hp'
  have : z.cells[q % k]! = zv (j.zero.getD (q % k) .bool):=by
   have h3 : z.cells.toList[q % k]? = (j.zero.map zv)[q % k]?:=by rw [g2]
   have h4 : q % k < j.zero.length:=by omega
   simp [h4,hzl,hmod] at h3
   simp [hzl,hmod,h4]
   exact h3
  rw [this]
  exact .v _
 obtain ⟨arr,k1,k2⟩:=fill_ok ps.toList η _ _ out (fun p hm=>hη p.2 (mem_bsl hm)) hzr h
 have hal : arr.size = m * k:=by have:=k2.len;simpa [hl'] using this
 have hrun : (Instr.buildSlice t m (ps.map fun p=>(p.1,η p.2))).run P w = .ok (.slice (some ⟨w.heap.size,0,none⟩) m m) (w.alloc (.cells arr e)):=by
  have h24 : ¬ m * k > 2 ^ 24:=by omega
  have hr0 : (Array.range 0 : Array Nat) = #[]:=rfl
  by_cases h0 : m * k = 0
  ·have hm0 : m = 0:=by rcases Nat.mul_eq_zero.1 h0 with h | h <;> omega
   subst hm0
   have k1' : Instr.fill (fun q=>some (q * k,k)) #[] (ps.toList.map fun p=>(p.1,η p.2)) = some arr:=by simpa [hr0] using k1
   simp [Instr.buildSlice,run_underlying hu,hsz',Result.andThen,newRow,newObj,Sem.run,hr0,k1']
  ·have h0' : ¬ (m = 0 ∨ k = 0):=fun h=>h0 (Nat.mul_eq_zero.2 h)
   simp only [Instr.buildSlice,Sem.run_bind,run_underlying hu,hsz',Result.andThen,if_neg h24,if_neg h0,g1,Sem.run_pure,Array.toList_map,k1,newRow,newObj,Sem.run]
   rfl
 refine yu_run hrun ((Ex.refl w).alloc) ?_
 have k3:=k2.ex ((Ex.refl w).alloc (o:=.cells arr e))
 have hch : (chunk k m out).length = m:=by simp [chunk]
 have:=Rd.sl (w:=w.alloc (.cells arr e)) (O:=Own σ X) k (chunk k m out) (some ⟨w.heap.size,0,none⟩) m (fun q c=>arr.toList.getD (q * k + c) undef) (by omega) (fun x hx=>by
  simp only [chunk,List.mem_map,List.mem_range] at hx
  obtain ⟨q,hq,rfl⟩:=hx
  have : (q + 1) * k ≤ m * k:=Nat.mul_le_mul_right _ hq
  rw [Nat.add_mul] at this
  simp;omega) (fun q x hx=>⟨w.heap.size,0,rfl,not_own hst (Nat.le_refl _),by simp,fun c hc=>by
   have hq : q < m:=by simpa [chunk] using (List.getElem?_eq_some_iff.1 hx).1
   have : (q + 1) * k ≤ m * k:=Nat.mul_le_mul_right _ hq
   rw [Nat.add_mul] at this
   have hlt : q * k + c < arr.size:=by omega
   rw [Nat.zero_add,World.cell?_alloc_new]
   simp [hlt]⟩) (fun q x hx c d hd=>by
   have hq : q < m:=by simpa [chunk] using (List.getElem?_eq_some_iff.1 hx).1
   simp only [chunk,List.getElem?_map,List.getElem?_range hq,Option.map_some,Option.some.injEq] at hx
   subst hx
   rw [List.getElem?_take] at hd
   split at hd
   ·rw [List.getElem?_drop] at hd
    obtain ⟨u,q1,q2⟩:=k3.get hd
    simp only [List.getD_eq_getElem?_getD,q1]
    exact q2
   ·cases hd)
 rw [hch] at this
 exact this
end
end
section
open Go Go.RowKit Go.Shelf
section
variable {P : Program} {r : Option Nat} {n : Nat} {df : Nat} {ops : Array Oper} {Q : Pst} {a : List D} {σ : Store} {w : World} {X : Nat → Prop} {ρ : Operand → D}
theorem bget (s : ByteArray) (j : Nat) : s[j]? = (bytes s)[j]?:=by
 unfold bytes
 by_cases h : j < s.size
 ·have h2 : j < s.data.toList.length:=by simpa using h
  rw [List.getElem?_eq_getElem h2,getElem?_pos s j h]
  rfl
 ·have h2 : ¬ j < s.data.toList.length:=by simpa using h
  rw [List.getElem?_eq_none (by omega),getElem?_neg s j h]
theorem yd_sidx {T : TypeId → Option TI} (hT : ∀ t i,T t = some i → tiOf P t = some i) {o : Oper} {t : TypeId} {x ix : Operand} {s : ByteArray} {kk : IntKind} {j : Int} {c : UInt8} {i : TI} (ho : o.op = .index t x ix) (hx : ρ x = .v (.string s)) (hi : ρ ix = .v (.int kk j)) (ht : T t = some i) (hs : i.str = true)
  (hc : (bytes s)[j.toNat]? = some c) (h0 : 0 ≤ j) : Yd P o ρ σ (.v (.int .u8 c.toNat)):=by
 intro w X η hη hst
 obtain ⟨dst,op,ty,pos,aft,g⟩:=o
 simp only at ho
 subst ho
 have h1:=(hη x (by simp [Op.operands])).val hx
 have h2:=(hη ix (by simp [Op.operands])).val hi
 have hu:=ti_str (hT t i ht) hs
 refine yu_run (s:=Instr.index t (η x) (η ix)) (u:=.int .u8 c.toNat) ?_ (Ex.refl w) (.v _)
 rw [h1,h2]
 have hb : s[j.toNat]? = some c:=by rw [bget];exact hc
 simp only [Instr.index,asIntOf,Sem.run_bind,Sem.run_pure,Result.andThen,run_underlying hu,if_pos h0,hb]
theorem yd_strto {T : TypeId → Option TI} (hT : ∀ t i,T t = some i → tiOf P t = some i) {o : Oper} {t : TypeId} {x y : Operand} {s : ByteArray} {kk : IntKind} {j : Int} {i : TI} (ho : o.op = .slice t x none (some y) none) (hx : ρ x = .v (.string s)) (hi : ρ y = .v (.int kk j)) (ht : T t = some i) (hs : i.str = true)
  (h0 : 0 ≤ j ∧ j ≤ s.size) : Yd P o ρ σ (.v (.string (s.extract 0 j.toNat))):=by
 intro w X η hη hst
 obtain ⟨dst,op,ty,pos,aft,g⟩:=o
 simp only at ho
 subst ho
 have h1:=(hη x (by simp [Op.operands])).val hx
 have h2:=(hη y (by simp [Op.operands])).val hi
 have hu:=ti_str (hT t i ht) hs
 refine yu_run (s:=Instr.sliceAt t (η x) ((none : Option Operand).map η) ((some y).map η) ((none : Option Operand).map η)) (u:=.string (s.extract 0 j.toNat)) ?_ (Ex.refl w) (.v _)
 rw [h1]
 simp [Instr.sliceAt,run_underlying hu,Result.andThen,Instr.slice,Instr.sliceBounds,Instr.sliceBound,h2,asIntOf,h0]
theorem yd_slto {T : TypeId → Option TI} (hT : ∀ t i,T t = some i → tiOf P t = some i) {o : Oper} {t : TypeId} {x y : Operand} {k : Nat} {xs : List (List D)} {kk : IntKind} {j : Int} {i : TI} {p : Nat × Bool × Nat × Nat} (ho : o.op = .slice t x none (some y) none) (hx : ρ x = .sl k xs) (hi : ρ y = .v (.int kk j)) (ht : T t = some i) (hs : i.sl = some p)
  (h0 : 0 ≤ j ∧ j ≤ xs.length) : Yd P o ρ σ (.sl k (xs.take j.toNat)):=by
 intro w X η hη hst
 obtain ⟨dst,op,ty,pos,aft,g⟩:=o
 simp only at ho
 subst ho
 obtain ⟨e,ag,k',by_⟩:=p
 have h1:=hη x (by simp [Op.operands])
 rw [hx] at h1
 have h2:=(hη y (by simp [Op.operands])).val hi
 obtain ⟨hu,hsz,_⟩:=ti_slice (hT t i ht) hs
 have hz:=(szOf_ok hsz w).2
 obtain ⟨ad,cap,vs,hv,hcap,hk,hc,hr⟩:=h1.sl_inv
 have hjc : j ≤ cap:=by omega
 refine yu_run (s:=Instr.sliceAt t (η x) ((none : Option Operand).map η) ((some y).map η) ((none : Option Operand).map η)) (u:=.slice ad j.toNat cap) ?_ (Ex.refl w) ?_
 ·rw [hv]
  have e0 : (if cap = 0 then ad else ad.map (·.add (0 * k'))) = ad:=by
   split
   ·rfl
   ·cases ad <;> simp [Addr.add]
  simp [Instr.sliceAt,run_underlying hu,Result.andThen,Instr.slice,Instr.sliceBounds,Instr.sliceBound,h2,asIntOf,h0.1,hjc,hz] at e0 ⊢
  exact e0
 ·have hl : (xs.take j.toNat).length = j.toNat:=by simp;omega
  have:=Rd.sl (w:=w) (O:=Own σ X) k (xs.take j.toNat) ad cap vs (by omega) (fun y hy=>hk y (List.mem_of_mem_take hy)) (fun q y hq=>hc q y (by
   rw [List.getElem?_take] at hq
   split at hq
   ·exact hq
   ·cases hq)) (fun q y hq=>hr q y (by
   rw [List.getElem?_take] at hq
   split at hq
   ·exact hq
   ·cases hq))
  rw [hl] at this
  exact this
theorem yd_mkf {o : Oper} {f : FuncId} {cap : Array Operand} (ho : o.op = .makeFunc (.func f) #[] cap) : Yd P o ρ σ (.clo f (cap.toList.map ρ)):=by
 intro w X η hη hst
 obtain ⟨dst,op,ty,pos,aft,g⟩:=o
 simp only at ho
 subst ho
 have:=rdl_map (w:=w) (O:=Own σ X) (ρ:=ρ) (η:=η) cap.toList (fun x hx=>hη x (by simp [Op.operands];simpa using hx))
 have hr:=Rd.clo (w:=w) (O:=Own σ X) f _ _ this.len this.at_
 refine yu_run (s:=Instr.makeFunc (.func f) ((#[] : Array Operand).map η) (cap.map η)) (w':=w) ?_ (Ex.refl w) hr
 rw [show (List.map η cap.toList).toArray = Array.map η cap by apply Array.ext';simp]
 simp [Instr.makeFunc]
theorem yd_min {o : Oper} {x y : Operand} {ts : Array TypeId} {k : IntKind} {p q : Int} (ho : o.op = .call { callee:=.builtin .min,args:=#[x,y],argTypes:=ts }) (hx : ρ x = .v (.int k p)) (hy : ρ y = .v (.int k q)) : Yd P o ρ σ (.v (.int k (if q < p then q else p))):=by
 intro w X η hη hst
 obtain ⟨dst,op,ty,pos,aft,g⟩:=o
 simp only at ho
 subst ho
 have h1:=(hη x (by simp [Op.operands,Call.operands])).val hx
 have h2:=(hη y (by simp [Op.operands,Call.operands])).val hy
 simp only [execOp,resolve,invoke,builtin,Sem.run_bind,Sem.run_pure,Result.andThen,List.map_toArray,List.map_cons,List.map_nil,h1,h2]
 exact ⟨Ex.refl w,.v _⟩
theorem yd_max {o : Oper} {x y : Operand} {ts : Array TypeId} {k : IntKind} {p q : Int} (ho : o.op = .call { callee:=.builtin .max,args:=#[x,y],argTypes:=ts }) (hx : ρ x = .v (.int k p)) (hy : ρ y = .v (.int k q)) : Yd P o ρ σ (.v (.int k (if p < q then q else p))):=by
 intro w X η hη hst
 obtain ⟨dst,op,ty,pos,aft,g⟩:=o
 simp only at ho
 subst ho
 have h1:=(hη x (by simp [Op.operands,Call.operands])).val hx
 have h2:=(hη y (by simp [Op.operands,Call.operands])).val hy
 simp only [execOp,resolve,invoke,builtin,Sem.run_bind,Sem.run_pure,Result.andThen,List.map_toArray,List.map_cons,List.map_nil,h1,h2]
 exact ⟨Ex.refl w,.v _⟩
theorem aops_make {T : TypeId → Option TI} (hT : ∀ t i,T t = some i → tiOf P t = some i) {o : Oper} {rest : List Oper} {x y : Operand} {t e : TypeId} {i j : TI} {ag : Bool} {by_ m : Nat} {z : ZV} (hw : wantD ops a o = some true) (ho : o.op = .makeSlice t x y) (hx : evD a x = .v (.int .i64 m)) (hy : evD a y = .v (.int .i64 m))
  (ht : T t = some i) (hi : i.sl = some (e,ag,1,by_)) (he : T e = some j) (hz : j.zero = [z]) (hs : j.size = 1) (hb : by_ * m ≤ 281474976710656) (hm : m ≤ 1000000000)
  (k : ∀ b,AOps P r n df ops Q rest (putD a o.dst (.v (.slice (some ⟨b,0,none⟩) m m))) ((b,.cells e (List.replicate m (.v (zv z)))) :: σ)) : AOps P r n df ops Q (o :: rest) a σ:=by
 refine aops_step hw (by rw [ho];rfl) fun w X fr hst=>?_
 have h1:=(hst.fr.eval x).val hx
 have h2:=(hst.fr.eval y).val hy
 obtain ⟨hu,hsz,hby⟩:=ti_slice (hT t i ht) hi
 obtain ⟨inf,zz,k1,k2,k3,k4⟩:=ti_zero (hT e j he) (by rw [hz,hs];rfl) (by omega)
 have hzz : zz.cells = #[zv z]:=by apply Array.ext';rw [k4,hz];rfl
 have hbt : inf.bytes = by_:=by rw [← hby];simp [Program.bytesOf,k1]
 have hrun:=run_make (P:=P) w t e inf zz hu k1 k2 .i64 .i64 m m (by omega) (Int.le_refl _) (by rw [hbt];have h : ((by_ * m : Nat) : Int) ≤ 281474976710656:=(by omega);rwa [Int.natCast_mul] at h) (by omega)
 have hcells : (madeCells zz.cells ((m : Int).toNat * inf.size)).toList = List.replicate m (zv z):=by
  rw [hzz,k3,hs,Nat.mul_one,Int.toNat_natCast]
  apply List.ext_getElem?
  intro q
  by_cases hq : q < m
  ·simp [madeCells,hq,Nat.mod_one]
  ·simp [madeCells,hq]
 have ee : (execOp fr.eval o).run P w = .ok (.value (.slice (some ⟨w.heap.size,0,none⟩) m m)) (w.alloc (.cells (madeCells zz.cells ((m : Int).toNat * inf.size)) e)):=by
  simp only [execOp,ho,Sem.run_bind,h1,h2,hrun,Result.andThen,Sem.run_pure,Int.toNat_natCast]
 rw [ee]
 obtain ⟨g1,g2,g3⟩:=hst.st.new (.cells (madeCells zz.cells ((m : Int).toNat * inf.size)) e) (.cells e (List.replicate m (.v (zv z)))) ⟨_,by rw [Array.toArray_toList],by rw [hcells];have:=RdL.vals (w:=w) (O:=Own σ X) (List.replicate m (zv z));rw [List.map_replicate] at this;exact this⟩
 exact ⟨_,_,g2,(⟨hst.fr.keep (by simp) g3 (fun b hb _=>((Ex.refl w).alloc).block b hb),g1,hst.df.keep (by simp) g3 (fun b hb _=>((Ex.refl w).alloc).block b hb)⟩ : St _ X df a _ fr).put (.v _) o.dst,k _⟩
def effO : Op → Bool
 | .store _ _ _=>true
 | .alloc _=>true
 | .makeSlice _ _ _=>true
 | .makeMap _ _=>true
 | .mapUpdate _ _ _ _=>true
 | .mapEntry _ _ _=>true
 | .entryStore _ _ _ _=>true
 | .call { callee:=.builtin .append,.. }=>true
 | .call { callee:=.builtin .copy,.. }=>true
 | _=>false
def effAt : List Oper → Option Nat
 | []=>none
 | o :: l=>bif effO o.op then some 0 else (match effAt l with | some m=>some (m + 1) | none=>none)
end
end
section
open Go Go.RowKit Go.Shelf
section
variable {P : Program} {r : Option Nat} {n : Nat} {df : Nat} {ops : Array Oper} {Q : Pst} {a : List D} {σ : Store} {w : World} {X : Nat → Prop} {ρ : Operand → D}
theorem own_perm {τ : Store} (h : σ.Perm τ) (b : Nat) : Own σ X b ↔ Own τ X b:=by
 have : b ∈ keysS σ ↔ b ∈ keysS τ:=(h.map Prod.fst).mem_iff
 simp only [Own,this]
theorem StOK.perm {τ : Store} (h : σ.Perm τ) (hs : StOK w X σ) : StOK w X τ:=
 ⟨(h.map Prod.fst).nodup_iff.1 hs.nodup,fun b k hm=>by
  obtain ⟨h1,o,h2,h3⟩:=hs.at_ b k (h.mem_iff.2 hm)
  exact ⟨h1,o,h2,Blk.ok_keep (Nat.le_refl _) (fun x _ hn=>by rw [← own_perm h];exact hn) (fun _ _ _=>rfl) h3⟩,hs.xlt,hs.gok.mono (fun x ho=>(own_perm h x).2 ho)⟩
theorem St.perm {τ : Store} {fr : Act} (h : σ.Perm τ) (hs : St w X df a σ fr) : St w X df a τ fr:=
 ⟨hs.fr.keep (Nat.le_refl _) (fun x _ hn=>by rw [← own_perm h];exact hn) (fun _ _ _=>rfl),hs.st.perm h,hs.df.keep (Nat.le_refl _) (fun x _ hn=>by rw [← own_perm h];exact hn) (fun _ _ _=>rfl)⟩
theorem Pw.perm {τ : Store} (h : σ.Perm τ) {e : Exit} {fr : Act} {w' : World} (hp : Pw w X df τ Q e fr w') : Pw w X df σ Q e fr w':=by
 obtain ⟨a',s',h1,h2,h3⟩:=hp
 have hk : ∀ x,x ∈ keysS τ → x ∈ keysS σ:=fun x hx=>(h.map Prod.fst).mem_iff.2 hx
 exact ⟨a',s',h1,h2,⟨h3.keep.mono (fun x _ hx=>hk x hx),fun x hx=>(h3.new x hx).imp (hk x) id⟩⟩
theorem aops_perm {l : List Oper} {τ : Store} (h : σ.Perm τ) (k : AOps P r n df ops Q l a τ) : AOps P r n df ops Q l a σ:=
 ⟨fun w X fr hs=>wpListIn_mono (fun _ _ _ hp=>Pw.perm h hp) _ _ _ (k.run w X fr (hs.perm h))⟩
end
end
section
open Go Go.RowKit Go.Shelf
section
variable {P : Program} {r : Option Nat} {n : Nat} {df : Nat} {ops : Array Oper} {Q : Pst} {a : List D} {σ : Store} {w : World} {X : Nat → Prop} {ρ : Operand → D}
def Le (d d' : D) : Prop:=∀ (w : World) (O : Nat → Prop) (v : Value),Rd w O d v → Rd w O d' v
inductive LeL : List D → List D → Prop
 | nil : LeL [] []
 | cons {d d' : D} {ds ds' : List D} (h : Le d d') (t : LeL ds ds') : LeL (d :: ds) (d' :: ds')
theorem Le.refl (d : D) : Le d d:=fun _ _ _ h=>h
theorem le_nil (k : Nat) : Le (.v (.slice none 0 0)) (.sl k []):=fun w O v h=>by
 have:=h.val rfl
 subst this
 exact .sl k [] none 0 (fun _ _=>undef) (Nat.le_refl _) (by simp) (fun i x hx=>by simp at hx) (fun i x hx=>by simp at hx)
theorem LeL.rd {ds ds' : List D} (h : LeL ds ds') {O : Nat → Prop} : ∀ {vs : List Value},RdL w O ds vs → RdL w O ds' vs:=by
 induction h with
 | nil=>exact fun h=>h
 | cons h t ih=>
  intro vs hv
  cases vs with
  | nil=>have:=hv.len;simp at this
  | cons v vs=>
   exact .cons (h _ _ _ (hv.at_ 0 _ _ rfl rfl)) (ih ⟨by have:=hv.len;simpa using this,fun j d u h1 h2=>hv.at_ (j + 1) d u (by simpa using h1) (by simpa using h2)⟩)
theorem le_agg {ds ds' : List D} (h : LeL ds ds') : Le (.agg ds) (.agg ds'):=fun w O v hv=>by
 obtain ⟨vs,rfl,h1⟩:=hv.agg_inv
 have:=h.rd h1
 exact .agg _ _ this.len this.at_
theorem le_tup {ds ds' : List D} (h : LeL ds ds') : Le (.tup ds) (.tup ds'):=fun w O v hv=>by
 obtain ⟨vs,rfl,h1⟩:=hv.tup_inv
 have:=h.rd h1
 exact .tup _ _ this.len this.at_
theorem res_tmp5 {fn : Func} {i1 i2 i3 i4 i5 : Tmp} (h : fn.results = #[.tmp i1,.tmp i2,.tmp i3,.tmp i4,.tmp i5]) :
  ResOK P fn a σ (.tup [a.getD i1 (.v undef),a.getD i2 (.v undef),a.getD i3 (.v undef),a.getD i4 (.v undef),a.getD i5 (.v undef)]):=fun w X t hf _=>by
 refine ⟨.tuple #[t.getD i1 undef,t.getD i2 undef,t.getD i3 undef,t.getD i4 undef,t.getD i5 undef],by simp [results,h],?_⟩
 have:=RdL.cons (fr_getD hf i1) (RdL.cons (fr_getD hf i2) (RdL.cons (fr_getD hf i3) (RdL.cons (fr_getD hf i4) (RdL.cons (fr_getD hf i5) RdL.nil))))
 exact .tup _ _ this.len this.at_
end
end
section
open Go Go.RowKit Go.Shelf
abbrev Frm:=List (Nat × D)
def lookF : Frm → Nat → Option D
 | [],_=>none
 | (i,d) :: f,t=>bif Nat.beq i t then some d else lookF f t
def evF (f : Frm) : Operand → D
 | .tmp t=>match lookF f t with | some d=>d | none=>.any
 | .const v=>.v v
 | .global g=>.v (.pointer (some ⟨g,0,none⟩))
 | .func f=>.v (.func (.func f) #[] #[])
structure Sp (N : Nat) (a : List D) (f : Frm) : Prop where
 len : a.length = N
 at_ : ∀ i d,lookF f i = some d → d = .any ∨ a[i]? = some d
section
variable {N : Nat} {a : List D} {f : Frm}
theorem Sp.le (h : Sp N a f) (x : Operand) : Le (evD a x) (evF f x):=by
 cases x with
 | tmp t=>
  simp only [evF]
  cases hl : lookF f t with
  | none=>exact fun _ _ v _=>.any v
  | some d=>
   rcases h.at_ t d hl with rfl | h1
   ·exact fun _ _ v _=>.any v
   ·simp only [evD,List.getD_eq_getElem?_getD,h1];exact Le.refl _
 | _=>exact Le.refl _
theorem Sp.eq (h : Sp N a f) {x : Operand} {d : D} (he : evF f x = d) (hd : d ≠ .any) : evD a x = d:=by
 cases x with
 | tmp t=>
  simp only [evF] at he
  cases hl : lookF f t with
  | none=>rw [hl] at he;exact absurd he.symm hd
  | some d'=>
   rw [hl] at he
   simp only at he
   subst he
   rcases h.at_ t d' hl with h0 | h1
   ·exact absurd h0 hd
   ·simp [evD,List.getD_eq_getElem?_getD,h1]
 | _=>exact he
theorem Yd.le {P : Program} {o : Oper} {ρ ρ' : Operand → D} {σ : Store} {d : D} (h : ∀ x,Le (ρ x) (ρ' x)) (hy : Yd P o ρ' σ d) : Yd P o ρ σ d:=
 fun w X η hη hs=>hy w X η (fun x hx=>h x _ _ _ (hη x hx)) hs
def putK (N : Nat) (dst : Option Tmp) (d : D) (f : Frm) (K : Frm → Prop) : Prop:=
 match dst with
 | none=>K f
 | some i=>bif Nat.blt i N then K ((i,d) :: f) else False
theorem putK_ok {dst : Option Tmp} {d : D} {K : Frm → Prop} (h : putK N dst d f K) (hs : Sp N a f) : ∃ f',Sp N (putD a dst d) f' ∧ K f':=by
 cases dst with
 | none=>exact ⟨f,hs,h⟩
 | some i=>
  simp only [putK] at h
  cases hb : Nat.blt i N with
  | false=>rw [hb] at h;exact h.elim
  | true=>
   rw [hb] at h
   rw [Nat.blt_eq] at hb
   refine ⟨_,⟨by simp [putD,hs.len],fun j d' hj=>?_⟩,h⟩
   simp only [lookF] at hj
   cases he : Nat.beq i j with
   | true=>
    rw [he] at hj
    simp only [cond_true,Option.some.injEq] at hj
    have:=Nat.eq_of_beq_eq_true he
    subst this hj
    exact .inr (by simp [putD,hs.len,hb])
   | false=>
    rw [he] at hj
    have hne : i ≠ j:=fun e=>by subst e;simp at he
    rcases hs.at_ j d' hj with h1 | h1
    ·exact .inl h1
    ·exact .inr (by simp [putD,List.getElem?_set,hne,h1])
end
/-! ### Data brought into their normal form -/
def forceD (d : D) (K : D → Prop) : Prop:=match d with
 | .v x=>K (.v x)
 | .any=>K .any
 | .sl k xs=>K (.sl k xs)
 | .ro cs=>K (.ro cs)
 | .agg cs=>K (.agg cs)
 | .tup ds=>K (.tup ds)
 | .clo f cs=>K (.clo f cs)
 | .gl g=>K (.gl g)
theorem forceD_ok {d : D} {K : D → Prop} (h : forceD d K) : K d:=by cases d <;> exact h
def forceL : List D → (List D → Prop) → Prop
 | [],K=>K []
 | d :: ds,K=>forceD d fun d=>forceL ds fun ds=>K (d :: ds)
theorem forceL_ok : ∀ {l : List D} {K : List D → Prop},forceL l K → K l
 | [],_,h=>h
 | d :: ds,K,h=>forceL_ok (K:=fun ds=>K (d :: ds)) (forceD_ok (K:=fun d=>forceL ds fun ds=>K (d :: ds)) h)
def forceLL : List (List D) → (List (List D) → Prop) → Prop
 | [],K=>K []
 | x :: xs,K=>forceL x fun x=>forceLL xs fun xs=>K (x :: xs)
theorem forceLL_ok : ∀ {l : List (List D)} {K : List (List D) → Prop},forceLL l K → K l
 | [],_,h=>h
 | x :: xs,K,h=>forceLL_ok (K:=fun xs=>K (x :: xs)) (forceL_ok (K:=fun x=>forceLL xs fun xs=>K (x :: xs)) h)
def dropL : Nat → List D → (List D → Prop) → Prop
 | 0,l,K=>K l
 | _ + 1,[],K=>K []
 | n + 1,_ :: l,K=>dropL n l K
theorem dropL_ok : ∀ {n : Nat} {l : List D} {K : List D → Prop},dropL n l K → K (l.drop n)
 | 0,_,_,h=>h
 | _ + 1,[],_,h=>h
 | n + 1,_ :: l,K,h=>dropL_ok (n:=n) (l:=l) (K:=K) h
def mkK (ag : Bool) (n : Nat) (cs : List D) (K : D → Prop) : Prop:=
 match ag with
 | true=>bif Nat.beq n cs.length then K (.agg cs) else forceL (cs.take n) fun l=>K (.agg l)
 | false=>match cs with | c :: _=>bif Nat.beq n 1 then forceD c K else False | []=>False
theorem mkK_ok {ag : Bool} {n : Nat} {cs : List D} {K : D → Prop} (h : mkK ag n cs K) : K (mkD ag (cs.take n)):=by
 unfold mkK at h
 cases ag with
 | true=>
  simp only at h
  cases hb : Nat.beq n cs.length with
  | true=>
   rw [hb] at h
   have:=Nat.eq_of_beq_eq_true hb
   rw [this,List.take_length]
   exact h
  | false=>rw [hb] at h;exact forceL_ok (K:=fun l=>K (.agg l)) h
 | false=>
  cases cs with
  | nil=>exact h.elim
  | cons c cs=>
   simp only at h
   cases hb : Nat.beq n 1 with
   | false=>rw [hb] at h;exact h.elim
   | true=>rw [hb] at h;have:=Nat.eq_of_beq_eq_true hb;subst this;exact forceD_ok h
/-! ### Where the executor stops -/
structure Br (t : Bool) (A B : Prop) : Prop where
 yes : t = true → A
 no : t = false → B
structure Bc (t : Bool) (A B C : Prop) : Prop where
 run : Br t A B ∨ C
structure Bx (A B : Prop) : Prop where
 run : A ∨ B
structure Sd (s A : Prop) : Prop where
 s : s
 k : A
structure Ck (b : Bool) (A : Prop) : Prop where
 s : b = true
 k : A
structure Ix (xs : List (List D)) (j : Int) (K : List D → Prop) : Prop where
 run : 0 ≤ j ∧ ∃ cs,xs[j.toNat]? = some cs ∧ K cs
structure Ld (P : Program) (o : Oper) (ρ : Operand → D) (σ : Store) (b off : Nat) (ag : Bool) (sz : Nat) (K : D → Prop) : Prop where
 run : (∃ (j : Nat) (tb : TypeId) (cs : List D),σ[j]? = some (b,.cells tb cs) ∧ off + sz ≤ cs.length ∧ K (mkD ag ((cs.drop off).take sz))) ∨ ∃ d,Yd P o ρ σ d ∧ K d
structure Ot (P : Program) (o : Oper) (ρ : Operand → D) (σ : Store) (K : D → Prop) : Prop where
 run : ∃ d,Yd P o ρ σ d ∧ K d
structure APk (P : Program) (f : FuncId) (args : List D) (σ : Store) (d : D) : Prop where
 ent : Enters P f
 run : ∀ (w : World) (X : Nat → Prop) (vs : List Value),RdL w (Own σ X) args vs → StOK w X σ →
  Calls P f vs.toArray w fun e w'=>∃ u,e = .returned u ∧ Rd w' (Own σ X) d u ∧ Ex w w'
theorem APure.pk {P : Program} {f : FuncId} {args : List D} {σ : Store} {d : D} (h : APure P f args d) : APk P f args σ d:=
 ⟨h.ent,fun w X vs hv hs=>h.run w _ vs hv hs.gok⟩
theorem yd_pk {P : Program} {σ : Store} {o : Oper} {ρ : Operand → D} {f : FuncId} {ds : List D} {d : D} (h : callD o.op ρ = some (f,ds)) (hp : APk P f ds σ d) : Yd P o ρ σ d:=by
 intro w X η hη hst
 obtain ⟨vs,h1,h2⟩:=callD_ok (P:=P) (w:=w) h hp.ent hη
 rw [h2]
 exact ⟨rfl,(hp.run w X vs h1 hst).mono fun e w' ⟨u,g1,g2,g3⟩=>⟨u,g1,g3,g2⟩⟩
structure Cp (P : Program) (f : FuncId) (args : List D) (σ : Store) (K : D → Prop) : Prop where
 run : ∃ d,APk P f args σ d ∧ K d
def sideB : BinOp → Value → Bool
 | .add,_=>true | .sub,_=>true | .mul,_=>true | .rem,_=>true | .quo,_=>true
 | _,_=>false
theorem sideB_ok {b : BinOp} {x y u : Value} {s : Prop} (h : vBin b x y = some (s,u)) (hb : sideB b x = false) : s:=by
 unfold vBin at h
 split at h <;> cases h <;> first | trivial | cases hb
def exY (P : Program) (T : TypeId → Option TI) (o : Oper) (f : Frm) (σ : Store) (K : D → Prop) : Prop:=
 match o.op with
 | .move x=>forceD (evF f x) K
 | .assign x=>forceD (evF f x) K
 | .pick c x y=>match evF f c with
  | .v (.bool t)=>Br t (forceD (evF f x) K) (forceD (evF f y) K)
  | _=>Ot P o (evF f) σ (fun d=>forceD d K)
 | .box _ x=>match evF f x with
  | .any=>Ot P o (evF f) σ (fun d=>forceD d K)
  | .agg cs=>K (.ro cs)
  | .v (.agg vs)=>forceL (vs.toList.map .v) fun l=>K (.ro l)
  | d=>K (.ro [d])
 | .nilCheck x=>match evF f x with
  | .ro cs=>K (.ro cs)
  | .clo g cs=>K (.clo g cs)
  | .v (.pointer (some p))=>K (.v (.pointer (some p)))
  | .v (.func (.func g) u v)=>K (.v (.func (.func g) u v))
  | _=>Ot P o (evF f) σ (fun d=>forceD d K)
 | .binOp b _ x y _=>match evF f x with
  | .v u=>match evF f y with
   | .v v=>match vBin b u v with
    | some (s,r)=>bif sideB b u then Bx (Sd s (K (.v r))) (Ot P o (evF f) σ (fun d=>forceD d K)) else K (.v r)
    | none=>Ot P o (evF f) σ (fun d=>forceD d K)
   | _=>Ot P o (evF f) σ (fun d=>forceD d K)
  | _=>Ot P o (evF f) σ (fun d=>forceD d K)
 | .unOp b _ x=>match evF f x with
  | .v u=>match vUn b u with
   | some (s,r)=>(match b with | .not=>Sd s (K (.v r)) | _=>Sd s (K (.v r)))
   | none=>Ot P o (evF f) σ (fun d=>forceD d K)
  | _=>Ot P o (evF f) σ (fun d=>forceD d K)
 | .load t x=>match T t with
  | none=>Ot P o (evF f) σ (fun d=>forceD d K)
  | some i=>match evF f x with
   | .ro cs=>bif Nat.ble i.size cs.length && (i.agg || i.size == 1) then mkK i.agg i.size cs K else False
   | .v (.pointer (some ⟨b,off,none⟩))=>bif i.agg || i.size == 1 then Ld P o (evF f) σ b off i.agg i.size (fun d=>forceD d K) else False
   | _=>Ot P o (evF f) σ (fun d=>forceD d K)
 | .fieldAddr s x fl=>match T s with
  | none=>Ot P o (evF f) σ (fun d=>forceD d K)
  | some i=>match i.fs[fl]? with
   | none=>Ot P o (evF f) σ (fun d=>forceD d K)
   | some (off,_,n)=>match evF f x with
    | .ro cs=>bif Nat.ble off cs.length && !(n == 0) then dropL off cs fun l=>K (.ro l) else False
    | .v (.pointer (some ⟨b,o,none⟩))=>bif !(n == 0) then K (.v (.pointer (some ⟨b,o + off,none⟩))) else False
    | _=>Ot P o (evF f) σ (fun d=>forceD d K)
 | .field s x fl=>match T s with
  | none=>Ot P o (evF f) σ (fun d=>forceD d K)
  | some i=>match i.fs[fl]? with
   | none=>Ot P o (evF f) σ (fun d=>forceD d K)
   | some (off,ag,n)=>match evF f x with
    | .agg cs=>bif Nat.ble (off + n) cs.length && (ag || n == 1) then dropL off cs fun l=>mkK ag n l K else False
    | _=>Ot P o (evF f) σ (fun d=>forceD d K)
 | .extract x i=>match evF f x with
  | .tup ds=>match ds[i]? with | some d=>forceD d K | none=>Ot P o (evF f) σ (fun d=>forceD d K)
  | .v (.tuple vs)=>match vs[i]? with | some d=>K (.v d) | none=>Ot P o (evF f) σ (fun d=>forceD d K)
  | _=>Ot P o (evF f) σ (fun d=>forceD d K)
 | .indexAddr t x ix=>match T t with
  | none=>Ot P o (evF f) σ (fun d=>forceD d K)
  | some i=>match evF f ix with
   | .v (.int kk j)=>match evF f x with
    | .sl k xs=>match i.sl with
     | some (_,_,k',_)=>bif Nat.beq k' k then Ix xs j (fun cs=>K (.ro cs)) else False
     | none=>Ot P o (evF f) σ (fun d=>forceD d K)
    | .v (.slice (some ⟨b,off,none⟩) n _)=>match i.sl with
     | some (_,_,k,_)=>Sd (0 ≤ j ∧ j < n) (K (.v (.pointer (some ⟨b,off + j.toNat * k,none⟩))))
     | none=>Ot P o (evF f) σ (fun d=>forceD d K)
    | .ro cs=>match j with
     | .ofNat m=>match i.arr with
      | some (n,_,k)=>bif Nat.blt m n && Nat.ble (m * k) cs.length then dropL (m * k) cs fun l=>K (.ro l) else False
      | none=>Ot P o (evF f) σ (fun d=>forceD d K)
     | _=>Ot P o (evF f) σ (fun d=>forceD d K)
    | _=>Ot P o (evF f) σ (fun d=>forceD d K)
   | _=>Ot P o (evF f) σ (fun d=>forceD d K)
 | .build t ps=>match T t with
  | none=>Ot P o (evF f) σ (fun d=>forceD d K)
  | some i=>bif Nat.beq i.zero.length i.size && Nat.blt 0 i.size && (i.arr.isSome || !i.fs.isEmpty) then
    (match fillD (plD i) (i.zero.map fun z=>.v (zv z)) (ps.toList.map fun p=>(p.1,evF f p.2)) with
    | some out=>forceL out fun l=>K (.agg l)
    | none=>Ot P o (evF f) σ (fun d=>forceD d K)) else False
 | .buildSlice t m ps=>match T t with
  | none=>Ot P o (evF f) σ (fun d=>forceD d K)
  | some i=>match i.sl with
   | none=>Ot P o (evF f) σ (fun d=>forceD d K)
   | some (e,_,k,_)=>match T e with
    | none=>Ot P o (evF f) σ (fun d=>forceD d K)
    | some j=>bif Nat.beq j.zero.length j.size && Nat.beq j.size k && Nat.blt 0 k && Nat.ble (m * k) 1000 then
      (match fillD (fun q=>some (q * k,k)) (zeros j.zero k m) (ps.toList.map fun p=>(p.1,evF f p.2)) with
      | some out=>bif out.length == m * k then forceLL (chunk k m out) fun l=>K (.sl k l) else False
      | none=>Ot P o (evF f) σ (fun d=>forceD d K)) else False
 | .makeFunc (.func g) first cap=>bif first.toList.isEmpty then forceL (cap.toList.map (evF f)) fun l=>K (.clo g l) else False
 | .call c=>match c.callee with
  | .builtin .len=>match c.args.toList,c.argTypes.toList with
   | [x],[t]=>match T t with
    | none=>Ot P o (evF f) σ (fun d=>forceD d K)
    | some i=>match evF f x with
     | .sl _ xs=>bif i.sl.isSome then K (.v (.int .i64 xs.length)) else False
     | .v (.slice _ n _)=>bif i.sl.isSome then K (.v (.int .i64 n)) else False
     | .v (.string s)=>bif i.str then K (.v (.int .i64 s.size)) else False
     | _=>Ot P o (evF f) σ (fun d=>forceD d K)
   | _,_=>Ot P o (evF f) σ (fun d=>forceD d K)
  | .value _=>match callD o.op (evF f) with
   | some (g,ds)=>forceL ds fun ds=>Cp P g ds σ fun d=>forceD d K
   | none=>Ot P o (evF f) σ (fun d=>forceD d K)
  | _=>Ot P o (evF f) σ (fun d=>forceD d K)
 | _=>Ot P o (evF f) σ (fun d=>forceD d K)
section
variable {P : Program} {N : Nat} {σ : Store} {a : List D} {f : Frm} {T : TypeId → Option TI}
theorem cond_ok {c : Bool} {A : Prop} (h : bif c then A else False) : c = true ∧ A:=by cases c;exact h.elim;exact ⟨rfl,h⟩
theorem cl1 {p : Prop} (h : p:=by simp only [ho,aop,aCall,hc,e2,e3,hi,hx,aLen,h1,cond_true];try rfl) : p:=h
theorem exY_ok (hT : ∀ t i,T t = some i → tiOf P t = some i) {o : Oper} {K : D → Prop} (h : exY P T o f σ K) : ∃ d,Yd P o (evF f) σ d ∧ K d:=by
 have go : ∀ {s d},aop T o.op (evF f) = some (s,d) → s → K d → ∃ d,Yd P o (evF f) σ d ∧ K d:=fun h1 h2 h3=>⟨_,yd_aop hT h1 h2,h3⟩
 have ot : Ot P o (evF f) σ (fun d=>forceD d K) → ∃ d,Yd P o (evF f) σ d ∧ K d:=fun h=>let ⟨d,h1,h2⟩:=h.run;⟨d,h1,forceD_ok h2⟩
 unfold exY at h
 split at h
 ·rename_i x ho;exact go (by simp only [ho,aop];try rfl) trivial (forceD_ok h)
 ·rename_i x ho;exact go (by simp only [ho,aop];try rfl) trivial (forceD_ok h)
 ·rename_i c x y ho
  split at h
  ·rename_i t ht
   cases t with
   | true=>exact go (by simp only [ho,aop,ht,aPick];try rfl) trivial (forceD_ok (h.yes rfl))
   | false=>exact go (by simp only [ho,aop,ht,aPick];try rfl) trivial (forceD_ok (h.no rfl))
  ·exact ot h
 ·rename_i t x ho
  split at h
  ·exact ot h
  ·rename_i cs hx;exact go (by simp only [ho,aop,hx,aBox];try rfl) trivial h
  ·rename_i vs hx
   have:=forceL_ok (K:=fun l=>K (.ro l)) h
   exact go (by simp only [ho,aop,hx,aBox];try rfl) trivial this
  ·rename_i d h1 h2 h3
   have hc : cellsD (evF f x) = [evF f x]:=by
    unfold cellsD;split
    ·rename_i cs e;exact absurd e (h2 cs)
    ·rename_i vs e;exact absurd e (h3 vs)
    ·rfl
   have hb : aBox (evF f x) = some (True,.ro (cellsD (evF f x))):=by
    unfold aBox;split
    ·rename_i e;exact absurd e h1
    ·rfl
   exact go (by simp only [ho,aop];exact hb) trivial (by rw [hc];exact h)
 ·rename_i x ho
  split at h
  ·rename_i hx;exact go (by simp only [ho,aop,hx,aNil];try rfl) trivial h
  ·rename_i hx;exact go (by simp only [ho,aop,hx,aNil];try rfl) trivial h
  ·rename_i hx;exact go (by simp only [ho,aop,hx,aNil];try rfl) trivial h
  ·rename_i hx;exact go (by simp only [ho,aop,hx,aNil];try rfl) trivial h
  ·exact ot h
 ·rename_i b t x y t' ho
  split at h
  ·rename_i u hu
   split at h
   ·rename_i v hv
    split at h
    ·rename_i s r hr
     have hb : aop T o.op (evF f) = some (s,.v r):=by simp only [ho,aop,hu,hv,aBin,hr,Option.map_some]
     cases hs : sideB b u with
     | true=>
      rw [hs] at h
      rcases h.run with h | h
      ·exact go hb h.s h.k
      ·exact ot h
     | false=>rw [hs] at h;exact go hb (sideB_ok hr hs) h
    ·exact ot h
   ·exact ot h
  ·exact ot h
 ·rename_i b t x ho
  split at h
  ·rename_i u hu
   split at h
   ·rename_i s r hr
    have hb : aop T o.op (evF f) = some (s,.v r):=by simp only [ho,aop,hu,aUn,hr,Option.map_some]
    split at h <;> exact go hb h.s h.k
   ·exact ot h
  ·exact ot h
 ·rename_i t x ho
  split at h
  ·exact ot h
  ·rename_i i hi
   split at h
   ·rename_i cs hx
    obtain ⟨h1,h2⟩:=cond_ok h
    exact go (by simp only [ho,aop,hx,hi,aLoad,h1,cond_true];try rfl) trivial (mkK_ok h2)
   ·rename_i b off hx
    obtain ⟨h1,h2⟩:=cond_ok h
    rcases h2.run with ⟨j,tb,cs,g1,g2,g3⟩ | ⟨d,g1,g2⟩
    ·exact ⟨_,yd_own hT ho hi hx g1 g2 (by simpa using h1),forceD_ok g3⟩
    ·exact ⟨d,g1,forceD_ok g2⟩
   ·exact ot h
 ·rename_i s x fl ho
  split at h
  ·exact ot h
  ·rename_i i hi
   split at h
   ·exact ot h
   ·rename_i off ag n hf
    split at h
    ·rename_i cs hx
     obtain ⟨h1,h2⟩:=cond_ok h
     exact go (by simp only [ho,aop,hx,hi,aField,hf,h1,cond_true];try rfl) trivial (dropL_ok (K:=fun l=>K (.ro l)) h2)
    ·rename_i b oo hx
     obtain ⟨h1,h2⟩:=cond_ok h
     exact go (by simp only [ho,aop,hx,hi,aField,hf,h1,cond_true];try rfl) trivial h2
    ·exact ot h
 ·rename_i s x fl ho
  split at h
  ·exact ot h
  ·rename_i i hi
   split at h
   ·exact ot h
   ·rename_i off ag n hf
    split at h
    ·rename_i cs hx
     obtain ⟨h1,h2⟩:=cond_ok h
     exact go (by simp only [ho,aop,hx,hi,aPart,hf,h1,cond_true];try rfl) trivial (mkK_ok (dropL_ok (K:=fun l=>mkK ag n l K) h2))
    ·exact ot h
 ·rename_i x i ho
  split at h
  ·rename_i ds hx
   split at h
   ·rename_i d hd;exact go (by simp only [ho,aop,hx,aExt,hd];try rfl) trivial (forceD_ok h)
   ·exact ot h
  ·rename_i vs hx
   split at h
   ·rename_i d hd;exact go (by simp only [ho,aop,hx,aExt,hd];try rfl) trivial h
   ·exact ot h
  ·exact ot h
 ·rename_i t x ix ho
  split at h
  ·exact ot h
  ·rename_i i hi
   split at h
   ·rename_i kk j hj
    split at h
    ·rename_i k xs hx
     split at h
     ·rename_i e ag k' by_ hs
      obtain ⟨h1,h2⟩:=cond_ok h
      obtain ⟨g1,cs,g2,g3⟩:=h2.run
      exact ⟨_,yd_index hT ho hx hj hi hs (Nat.eq_of_beq_eq_true h1) g2 g1,g3⟩
     ·exact ot h
    ·rename_i b off n c hx
     split at h
     ·rename_i e ag k by_ hs
      exact go (by simp only [ho,aop,hx,hi,hj,aIdx,hs];try rfl) h.s h.k
     ·exact ot h
    ·rename_i cs hx
     split at h
     ·rename_i m
      split at h
      ·rename_i n ag k hs
       obtain ⟨h1,h2⟩:=cond_ok h
       exact go (by simp only [ho,aop,hx,hi,hj,aIdx,hs,h1,cond_true];try rfl) trivial (dropL_ok (K:=fun l=>K (.ro l)) h2)
      ·exact ot h
     ·exact ot h
    ·exact ot h
   ·exact ot h
 ·rename_i t ps ho
  split at h
  ·exact ot h
  ·rename_i i hi
   obtain ⟨h1,h2⟩:=cond_ok h
   simp only [Bool.and_eq_true] at h1
   split at h2
   ·rename_i out hf
    exact ⟨_,yd_build hT ho hi (Nat.eq_of_beq_eq_true h1.1.1) h1.1.2 h1.2 hf,forceL_ok (K:=fun l=>K (.agg l)) h2⟩
   ·exact ot h2
 ·rename_i t m ps ho
  split at h
  ·exact ot h
  ·rename_i i hi
   split at h
   ·exact ot h
   ·rename_i e ag k by_ hs
    split at h
    ·exact ot h
    ·rename_i j hj
     obtain ⟨h1,h2⟩:=cond_ok h
     simp only [Bool.and_eq_true] at h1
     split at h2
     ·rename_i out hf
      obtain ⟨h3,h4⟩:=cond_ok h2
      exact ⟨_,yd_bsl hT ho hi hs hj (Nat.eq_of_beq_eq_true h1.1.1.1) (Nat.eq_of_beq_eq_true h1.1.1.2) h1.1.2 h1.2 hf h3,forceLL_ok (K:=fun l=>K (.sl k l)) h4⟩
     ·exact ot h2
 ·rename_i g first cap ho
  obtain ⟨h1,h2⟩:=cond_ok h
  have h0 : first = #[]:=by simpa using h1
  subst h0
  exact ⟨_,yd_mkf ho,forceL_ok (K:=fun l=>K (.clo g l)) h2⟩
 ·rename_i c ho
  split at h
  ·rename_i hc
   split at h
   ·rename_i x t e2 e3
    split at h
    ·exact ot h
    ·rename_i i hi
     split at h
     ·rename_i k xs hx
      obtain ⟨h1,h2⟩:=cond_ok h
      exact go cl1 trivial h2
     ·rename_i ad n cc hx
      obtain ⟨h1,h2⟩:=cond_ok h
      exact go cl1 trivial h2
     ·rename_i s hx
      obtain ⟨h1,h2⟩:=cond_ok h
      exact go cl1 trivial h2
     ·exact ot h
   ·exact ot h
  ·split at h
   ·rename_i g ds hc
    obtain ⟨d,g1,g2⟩:=(forceL_ok (K:=fun ds=>Cp P g ds σ fun d=>forceD d K) h).run
    exact ⟨d,yd_pk hc g1,forceD_ok g2⟩
   ·exact ot h
  ·exact ot h
 ·exact ot h
end
end
end Go.Proofs.YtjbbmjjildhfbaaGreatDoor
