/- A part of the proof: Ro Xa Xb Mq Xc Ix R10c R10d R10e Ta Tb Tc Td Te Ml R10f. -/
import Derived.Test.YtlcfiilejnnlnaaGreatDoorO05
import Derived.DeepKeys5
set_option maxRecDepth 100000
set_option maxHeartbeats 20000000
set_option linter.unusedVariables false
set_option linter.unusedSimpArgs false
namespace Go.Proofs.YtlcfiilejnnlnaaGreatDoor
section
open Go Go.Maps Go.MapKept
abbrev RI:ORep (List Int):=fun l v s=>RowIs 3 1 (l.map fun n=>[iD n]) v s
abbrev RW1:ORep (List (List Int)):=RowsOf 22 RI
abbrev RW:ORep Wd:=RowsOf 62 RW1
theorem cx3:Frz RI slI:=bE4 _ _ _
theorem bW6:Frz RW1 slW1:=bo5 cx3
theorem cx2:Frz RW slW:=bo5 bW6
theorem cw2 (l:List Int):((l.map fun b=>[iD b]).all fun y=>y.all oneD)=true:=by rw [List.all_eq_true];intro y hy;obtain ⟨b,_,rfl⟩:=List.mem_map.1 hy;rfl
structure Snd (x:Sch):Prop where
 no:ah6 x=[]
 vld:Vld x
 up:∀ r∈aa4 x,0≤r.up∧r.up<r.kind∧r.kind<x.kinds.length
theorem ay3 (x:Sch) (k i:Int) (h:0≤upIx x k i):upIx x k i<k:=by
 unfold upIx at h ⊢
 have key:∀ f,0≤refUp x k f→refUp x k f<k:=fun f h=>by
  unfold refUp at h ⊢
  split
  ·assumption
  ·rename_i hn;rw [if_neg hn] at h;omega
 split
 ·rename_i e;rw [e] at h;simp at h
 ·rename_i f e
  rw [e] at h
  simp only at h
  split
  ·rename_i h1
   rw [if_pos h1] at h
   cases hu:aD6 x k i f with
   | none=>rw [hu] at h;simp [as7] at h
   | some g=>rw [hu] at h;exact key g h
  ·rename_i h1
   rw [if_neg h1] at h
   split
   ·rename_i h2;rw [if_pos h2] at h;exact key f h
   ·rename_i h2;rw [if_neg h2] at h;omega
theorem bg5 {k f r e:Int} (h:one k f r e=[]):e=0:=by
 unfold one at h;split at h
 ·assumption
 ·cases h
theorem aH6 {α:Type} {q:Nat} {g:Nat→List α} (h:upTo q g=[]) (i:Nat) (hi:i<q):g i=[]:=by
 unfold upTo at h
 rw [List.flatMap_eq_nil_iff] at h
 exact h i (List.mem_range.2 hi)
theorem au2 {x:Sch} (h:ah6 x=[]) {k:Nat} {kd:Knd} {i:Nat} {f:Fld} (hk:x.kinds[k]?=some kd) (hf:kd.fields[i]?=some f):¬ aa3 kd f.name<i∧ac3 x k i f=0:=by
 unfold ah6 at h
 split at h
 ·simp only [List.append_eq_nil_iff] at h
  have h1:=aH6 h.1.2 k (List.getElem?_eq_some_iff.1 hk).1
  simp only [ak1,hk,List.append_eq_nil_iff] at h1
  have h2:=aH6 h1.2 i (List.getElem?_eq_some_iff.1 hf).1
  simp only [ag4,hf] at h2
  have h3:=bg5 h2
  unfold aG3 at h3
  split at h3
  ·omega
  ·exact ⟨by assumption,h3⟩
 ·cases h
theorem bx3 {x:Sch} (h:ah6 x=[]):ai3 x=0:=by
 unfold ah6 at h
 split at h
 ·assumption
 ·cases h
theorem aF0 {x:Sch} (h:ah6 x=[]):Snd x:=by
 refine ⟨h,bv1 (bx3 h),fun r hr=>?_⟩
 obtain ⟨kd,f,h1,h2,h3,h4,_⟩:=aI2 hr
 have h5:=(au2 h h1 h2).2
 have h6:0≤upIx x r.kind r.field:=by
  unfold ac3 at h5
  rw [if_neg (by omega),if_neg (by omega),if_pos h3] at h5
  split at h5
  ·cases h5
  ·omega
 rw [h4]
 exact ⟨h6,ay3 x _ _ h6,(List.getElem?_eq_some_iff.1 h1).1⟩
structure Ws (w:Wd):Prop where
 nk:w.length≤1000
 nr:∀ l∈w,l.length≤1000
 nf:∀ l∈w,∀ r∈l,r.length≤1000
theorem aH8 {x:Sch} (hV:Vld x):(aa4 x).length≤6000:=by
 have h1:=ab9 (fun k=>bl9 x k (fun k hk=>by have:=hV.nf k hk;omega)) x.kinds.length
 have:=hV.nk
 unfold aa4;omega
theorem bN9:laidOutB Tryz.prog=true:=by kernel_rfl
theorem bt6:Tryz.prog.cellsOf 3=1:=by kernel_rfl
theorem aW5 (n:Nat) {a:Int} (ha:(Lit.int .i64 a).wf=true):Tryz.prog.keyLits (n+1) 3 [.int .i64 a]=some [.int .i64 a]:=by
 simp only [Program.keyLits,Tryz.underlying3,ha]
 simp
theorem am0:Keyed Tryz.prog 3:=int_keyed Tryz.underlying3
theorem ax4 {a:Int} (ha:(Lit.int .i64 a).wf=true):keyOf Tryz.prog 3 (.int .i64 a)=some (.int .i64 a):=keyOf_int_mk Tryz.underlying3 ha
theorem wf64 {a:Int} (h1:-9223372036854775808≤a) (h2:a≤9223372036854775807):(Lit.int .i64 a).wf=true:=by
 have e1:IntKind.i64.min = -9223372036854775808:=rfl
 have e2:IntKind.i64.max=9223372036854775807:=rfl
 simp [Lit.wf,e1,e2,h1,h2]
theorem bI7 (w:World):(zeroValue 3).run Tryz.prog w = .ok (.int .i64 0) w:=by kernel_rfl
def part {α:Type} (x0:α) (xs:List α) (j:Nat):List α:=xs.take j ++ List.replicate (xs.length - j) x0
theorem Mk.go {T:TypeId→Option TI} {σ:aa1} {t e:TypeId} {i j:TI} {ag:Bool} {by_ m':Nat} {z:ZV} {K:D→aa1→Prop} (m:Nat) (h1:T t=some i) (h2:i.sl=some (e,ag,1,by_)) (h3:T e=some j) (h4:j.zero=[z]) (h5:j.size=1) (hm:m'=m) (hb:by_*m≤281474976710656) (hl:m≤1000000000)
  (k:∀ b,W (K (.v (.slice (some ⟨b,0,none⟩) m m)) ((b,.cells e (List.replicate m (.v (zv z)))) :: σ))):Mk T σ t (.v (.int .i64 m')) (.v (.int .i64 m')) K:=by
 subst hm
 exact ⟨e,i,j,ag,by_,m',z,h1,h2,h3,h4,h5,rfl,rfl,hb,hl,fun b=>(k b).h⟩
/-! ### Keys of three numbers -/
theorem aI3:Keyed Tryz.prog 147:=Keyed.of_law (deep_law_laid bN9 (m:=3) (by omega) (of_decide_eq_true (by kernel_rfl)) (by kernel_rfl) (by rw [Tryz.underlying147]))
theorem bN1:Tryz.prog.keyType 147=true:=by kernel_rfl
def lkV (a b c:Int):Value:=.agg #[.int .i64 a,.int .i64 b,.int .i64 c]
theorem bn6:Tryz.prog.cellsOf 147=3:=by kernel_rfl
theorem bB8 (a b c:Int):(lkV a b c).formed Tryz.prog 147=true:=by
 simp [lkV,Value.formed,Tryz.underlying147,bn6]
theorem bn5 {a b c:Int} (ha:(Lit.int .i64 a).wf=true) (hb:(Lit.int .i64 b).wf=true) (hc:(Lit.int .i64 c).wf=true):∃ l,keyOf Tryz.prog 147 (lkV a b c)=some l:=by
 unfold keyOf
 rw [Tryz.underlying147]
 simp only [bN1,bB8,Bool.and_self,if_true]
 have:∃ n,Tryz.prog.types.size=n+1:=⟨Tryz.prog.types.size - 1,by have:0<Tryz.prog.types.size:=of_decide_eq_true (by kernel_rfl);omega⟩
 obtain ⟨n,hn⟩:=this
 rw [hn]
 have:Tryz.prog.keyLits (n+1+1) 147 (lkV a b c).cells.toList=some [.int .i64 a,.int .i64 b,.int .i64 c]:=by
  unfold Program.keyLits
  simp [lkV,Value.cells,Tryz.underlying147,bn6,bt6,aW5 n ha,aW5 n hb,aW5 n hc]
 rw [this]
 exact ⟨_,rfl⟩
theorem cd2 {a b c d e f:Int} (h:lkV a b c=lkV d e f):a=d∧b=e∧c=f:=by
 simp only [lkV,Value.agg.injEq] at h
 have:=congrArg Array.toList h
 simp at this
 exact this
theorem KeyD.agg3 (x y z:Value):KeyD (.agg [.v x,.v y,.v z]) (.agg #[x,y,z]):=fun w O u h=>by
 obtain ⟨vs,rfl,h1⟩:=h.agg_inv
 have hl:=h1.len
 match vs,hl with
 | [a,b,c],_=>
  have q1:=(h1.at_ 0 _ _ rfl rfl).val rfl
  have q2:=(h1.at_ 1 _ _ rfl rfl).val rfl
  have q3:=(h1.at_ 2 _ _ rfl rfl).val rfl
  rw [q1,q2,q3]
end
section
open Go
/-! ### Sums -/
def aP5 (rows:List (List Int)) (up share i:Nat):Int:=rows.foldl (fun (acc:Int) (r:List Int)=>if r.getD up 0=(i:Int) then IntKind.i64.wrap (acc+r.getD share 0) else acc) (0:Int)
def upOf (x:Sch) (o sh:Nat):Nat:=match x.kinds[o]? with
 | some k=>match k.fields[sh]? with
  | some g=>(aa3 k g.up).toNat
  | none=>0
 | none=>0
def numOk (n:Int):Bool:=!(decide (n < -1099511627776) || decide (1099511627776<n))
def recOk (x:Sch) (k:Nat) (l:List Int):Bool:=cd3 x k l && l.all numOk
def an4 (x:Sch) (k:Nat) (l:List (List Int)):Bool:=decide (l.length≤512) && l.all (recOk x k)
def fitW (x:Sch) (w:Wd):Bool:=decide (w.length=x.kinds.length) && (List.range w.length).all (fun k=>an4 x k (w.getD k [])) && (aa4 x).all (fun r=>(w.getD r.kind []).all (refOk w r))
/-! ### Life cycles -/
def bC0 (x:Sch) (n:ByteArray):Lif:=(x.lives.find? fun l=>seq l.name n).getD ⟨ByteArray.empty,[],[]⟩
def bZ4 (l:Lif) (now:List Bool):List Bool:=l.moves.foldl (fun nx m=>if now.getD m.1.toNat false then nx.set m.2.toNat true else nx) (List.replicate 12 false)
def bA5 (l:Lif):Nat→List Bool
 | 0=>(List.replicate 12 false).set 0 true
 | m+1=>bZ4 l (bA5 l m)
def bt4 (l:Lif) (s:Nat):Bool:=!l.moves.any fun m=>decide (m.1=(s:Int))
def aM2 (l:Lif):Bool:=decide (l.states.length≤12) && decide (l.moves.length≤32) && decide (l.states.length≠0) && l.moves.all fun m=>moveB l.states.length m
def au4 (l:Lif) (lo hi:Int):List Bool:=
 if aM2 l && decide (0≤lo) && decide (lo≤hi) && decide (hi≤1000) then (List.range l.states.length).map fun s=>(List.range (hi.toNat+1)).any fun m=>(bA5 l m).getD s false && (decide (lo≤(m:Int)) || bt4 l s) else []
/-! ### One field -/
def vatR (r:List Int) (i:Int):Int:=r.getD i.toNat 0
def getR (kd:Knd) (r:List Int) (n:ByteArray):Int:=if isE n then 0 else vatR r (aa3 kd n)
def outE (v lo hi:Int):Int:=if v<lo∨hi<v then 5 else 0
def sumAt (x:Sch) (w:Wd) (k i f:Nat):Int:=aP5 (w.getD (aq4 x k f).1.toNat []) (upOf x (aq4 x k f).1.toNat (aq4 x k f).2.toNat) (aq4 x k f).2.toNat i
def copyAt (x:Sch) (w:Wd) (k:Nat) (kd:Knd) (d:Fld) (r:List Int):Int:=
 match ad5 x (upIx x k (aa3 kd d.up)) with
 | some ko=>vatR ((w.getD (upIx x k (aa3 kd d.up)).toNat []).getD (vatR r (aa3 kd d.up)).toNat []) (aa3 ko d.of)
 | none=>0
def codeF (x:Sch) (w:Wd) (k:Nat) (kd:Knd) (r:List Int) (i f:Nat) (d:Fld) (ks:List Int):Int:=
 if d.kind=0 then (if r.getD f 0<d.lo then 5 else if r.getD f 0∈ks then 7 else 0)
 else if d.kind=2∨d.kind=7 then outE (r.getD f 0) d.lo d.hi
 else if d.kind=3 then (if r.getD f 0<0∨(d.words.length:Int)≤r.getD f 0∨d.weights.getD (r.getD f 0).toNat 0=0 then 5 else 0)
 else if d.kind=4 then outE (r.getD f 0 - getR kd r d.of) d.lo d.hi
 else if d.kind=5 then (if (au4 (bC0 x d.of) d.lo d.hi).getD (r.getD f 0).toNat false && decide (0≤r.getD f 0) then 0 else 8)
 else if d.kind=6 then (if r.getD f 0=sumAt x w k i f then 0 else 9)
 else if d.kind=8 then (if r.getD f 0=copyAt x w k kd d r then 0 else 16)
 else 0
def keyF (r:List Int) (f:Nat) (d:Fld) (ks:List Int):List Int:=if d.kind=0∧¬ r.getD f 0<d.lo then r.getD f 0 :: ks else ks
def an3 (kd:Knd) (r:List Int) (ks:List Int):Nat→List Int
 | 0=>ks
 | q+1=>match kd.fields[q]? with
  | some d=>keyF r q d (an3 kd r ks q)
  | none=>an3 kd r ks q
def ao3 (kd:Knd) (l:List (List Int)):Nat→List Int
 | 0=>[]
 | i+1=>match l[i]? with
  | some r=>an3 kd r (ao3 kd l i) r.length
  | none=>ao3 kd l i
def bo0 (kd:Knd) (r:List Int) (q:Rul):Bool:=decide (getR kd r q.a≤getR kd r q.b+q.n)
def fldP (x:Sch) (w:Wd) (k:Nat) (kd:Knd) (l:List (List Int)) (i:Nat) (r:List Int) (f:Nat):List Prb:=
 match kd.fields[f]? with
 | some d=>one k i f (codeF x w k kd r i f d (an3 kd r (ao3 kd l i) f))
 | none=>[]
def rulP (x:Sch) (k:Nat) (kd:Knd) (i:Nat) (r:List Int) (q:Nat):List Prb:=
 match x.rules[q]? with
 | some u=>one k i (-1) (if ab1 x u.kind=(k:Int)∧bo0 kd r u=false then 24 else 0)
 | none=>[]
def recP (x:Sch) (w:Wd) (k:Nat) (kd:Knd) (l:List (List Int)) (i:Nat):List Prb:=
 match l[i]? with
 | some r=>upTo r.length (fldP x w k kd l i r) ++ upTo x.rules.length (rulP x k kd i r)
 | none=>[]
def knP (x:Sch) (w:Wd) (k:Nat):List Prb:=
 match x.kinds[k]? with
 | some kd=>upTo (w.getD k []).length (recP x w k kd (w.getD k []))
 | none=>[]
def limP (x:Sch) (w:Wd) (k:Nat):List Prb:=
 match x.kinds[k]? with
 | some kd=>one k (-1) (-1) (if ((w.getD k []).length:Int)<kd.lo∨kd.hi<((w.getD k []).length:Int) then 4 else 0)
 | none=>[]
def degE (w:Wd) (r:Rf) (j:Nat):Nat:=(w.getD r.kind []).countP fun l=>decide (l.getD r.field 0=(j:Int))
def degP (x:Sch) (w:Wd) (r:Rf) (j:Nat):List Prb:=
 match fieldAt x r.kind r.field with
 | some d=>one r.kind j r.field (if (degE w r j:Int)<d.lo∨d.hi<(degE w r j:Int) then 11 else 0)
 | none=>[]
def au8 (x:Sch) (w:Wd) (q:Nat):List Prb:=
 match (aa4 x)[q]? with
 | some r=>upTo (w.getD r.up.toNat []).length (degP x w r)
 | none=>[]
def ak4 (x:Sch) (w:Wd):List Prb:=
 if fitW x w then upTo w.length (limP x w) ++ upTo w.length (knP x w) ++ upTo (aa4 x).length (au8 x w) else [(-1,-1,-1,2)]
end
section
open Go Go.Maps Go.MapKept
def idxs (rows:List (List Int)) (f j:Nat):List Int:=(rows.zipIdx.filter fun p=>decide (p.1.getD f 0=(j:Int))).map fun p=>(p.2:Int)
theorem aM5 (rows:List (List Int)) (r:List Int) (f j:Nat):idxs (rows ++ [r]) f j=if r.getD f 0=(j:Int) then idxs rows f j ++ [(rows.length:Int)] else idxs rows f j:=by
 unfold idxs
 rw [List.zipIdx_append,List.filter_append,List.map_append,List.zipIdx_singleton,List.filter_cons,List.filter_nil,Nat.zero_add]
 by_cases h:r.getD f 0=(j:Int)
 ·rw [if_pos h,if_pos (by simpa using h)];rfl
 ·rw [if_neg h,if_neg (by simpa using h)];simp
theorem aC5 (rows:List (List Int)) (f j:Nat):(idxs rows f j).length=rows.countP fun r=>decide (r.getD f 0=(j:Int)):=by
 generalize hr:rows.reverse=l
 induction l generalizing rows with
 | nil=>rw [List.reverse_eq_nil_iff] at hr;subst hr;rfl
 | cons r l ih=>
  have hl:rows=l.reverse ++ [r]:=by rw [← List.reverse_reverse rows,hr];simp
  subst hl
  rw [aM5,List.countP_append,← ih l.reverse (by simp),List.countP_singleton]
  by_cases h:r.getD f 0=(j:Int)
  ·rw [if_pos h,if_pos (decide_eq_true h),List.length_append];rfl
  ·rw [if_neg h,if_neg (by simpa using h)];rfl
def adjL (rows:List (List Int)) (f n:Nat):List (List Int):=(List.range n).map (idxs rows f)
theorem ap3 (rows:List (List Int)) (f n:Nat):(adjL rows f n).length=n:=by simp [adjL]
theorem aw2 {f n j:Nat} (rows:List (List Int)) (h:j<n):(adjL rows f n)[j]?=some (idxs rows f j):=by simp [adjL,h]
theorem bS6 (f n:Nat):adjL [] f n=List.replicate n []:=by
 refine List.ext_getElem? fun i=>?_
 by_cases h:i<n
 ·rw [aw2 _ h,List.getElem?_replicate,if_pos h];rfl
 ·rw [List.getElem?_eq_none_iff.2 (by rw [ap3];omega),List.getElem?_eq_none_iff.2 (by simp;omega)]
theorem bI3 {rows:List (List Int)} {r:List Int} {f n v:Nat} (h:r.getD f 0=(v:Int)):adjL (rows ++ [r]) f n=(adjL rows f n).set v (idxs rows f v ++ [(rows.length:Int)]):=by
 refine List.ext_getElem? fun i=>?_
 by_cases hi:i<n
 ·rw [aw2 _ hi,aM5,h]
  by_cases e:i=v
  ·subst e
   rw [if_pos rfl,List.getElem?_set_self (by rw [ap3];exact hi)]
  ·rw [if_neg (by omega),List.getElem?_set_ne (Ne.symm e),aw2 _ hi]
 ·rw [List.getElem?_eq_none_iff.2 (by rw [ap3];omega),List.getElem?_eq_none_iff.2 (by rw [List.length_set,ap3];omega)]
theorem ac7 {α:Type} {l:List α} {j:Nat} {x:α} (h:l[j]?=some x):l.take (j+1)=l.take j ++ [x]:=by rw [List.take_add_one,h];rfl
theorem br0 (x:Sch):(aa4 x).Pairwise fun a b=>a.kind≠b.kind∨a.field≠b.field:=by
 have hF:∀ k kd i a,a∈refF x k kd i→a.kind=k∧a.field=i:=by
  intro k kd i a h
  unfold refF at h
  split at h
  ·split at h
   ·rw [List.mem_singleton] at h;subst h;exact ⟨rfl,rfl⟩
   ·cases h
  ·cases h
 have hK:∀ k a,a∈refK x k→a.kind=k:=by
  intro k a h
  unfold refK at h
  split at h
  ·obtain ⟨i,_,h⟩:=av5.1 h;exact (hF _ _ _ _ h).1
  ·cases h
 unfold aa4 upTo
 rw [List.pairwise_flatMap]
 refine ⟨fun k _=>?_,List.nodup_range.imp fun hab a ha b hb=>.inl (by rw [hK _ _ ha,hK _ _ hb];exact hab)⟩
 unfold refK
 split
 ·unfold upTo
  rw [List.pairwise_flatMap]
  refine ⟨fun i _=>?_,List.nodup_range.imp fun hab a ha b hb=>.inr (by rw [(hF _ _ _ _ ha).2,(hF _ _ _ _ hb).2];exact hab)⟩
  unfold refF
  split
  ·split <;> simp
  ·simp
 ·simp
theorem ca6 {x:Sch} {p q:Nat} {a b:Rf} (ha:(aa4 x)[p]?=some a) (hb:(aa4 x)[q]?=some b) (h:p≠q):a.kind≠b.kind∨a.field≠b.field:=by
 obtain ⟨l1,e1⟩:=List.getElem?_eq_some_iff.1 ha
 obtain ⟨l2,e2⟩:=List.getElem?_eq_some_iff.1 hb
 have hp:=List.pairwise_iff_getElem.1 (br0 x)
 rcases Nat.lt_or_gt_of_ne h with h|h
 ·have:=hp p q l1 l2 h;rwa [e1,e2] at this
 ·have:=hp q p l2 l1 h
  rw [e1,e2] at this
  exact this.imp Ne.symm Ne.symm
def adjR (w:Wd) (r:Rf):List (List Int):=adjL (w.getD r.kind []) r.field (w.getD r.up.toNat []).length
def lnC (r:Rf):List D:=[iD r.kind,iD r.field,iD r.up]
abbrev slLn (l:List Rf):D:=.sl 3 (l.map lnC)
abbrev lnV (r:Rf):Value:=lkV r.kind r.field r.up
def AdjS (w:Wd) (F:Value→Option Value) (L:List Rf) (σ:aa1):Prop:=∃ (vs:List Value) (ts:List aa1),All3 (fun r v t=>RW1 (adjR w r) v t∧F (lnV r)=some v) L vs ts∧σ.Perm ts.flatten
theorem AdjS.nil (w:Wd) (F:Value→Option Value):AdjS w F [] []:=⟨[],[],.nil,by simp⟩
theorem AdjS.perm {w:Wd} {F:Value→Option Value} {L:List Rf} {σ σ':aa1} (h:AdjS w F L σ) (hp:σ'.Perm σ):AdjS w F L σ':=by
 obtain ⟨vs,ts,h1,h2⟩:=h
 exact ⟨vs,ts,h1,hp.trans h2⟩
theorem All3.imp {α:Type} {R R':ORep α} {xs:List α} {vs:List Value} {ts:List aa1} (h:All3 R xs vs ts) (hi:∀ x∈xs,∀ v t,R x v t→R' x v t):All3 R' xs vs ts:=by
 induction h with
 | nil=>exact .nil
 | cons h k ih=>exact .cons (hi _ (List.mem_cons_self ..) _ _ h) (ih fun x hx=>hi x (List.mem_cons_of_mem _ hx))
theorem AdjS.push {w:Wd} {F:Value→Option Value} {L:List Rf} {σ τ:aa1} {r:Rf} {v:Value} (h:AdjS w F L σ) (hr:RW1 (adjR w r) v τ) (hne:∀ r'∈L,r'.kind≠r.kind∨r'.field≠r.field):AdjS w (updF F (lnV r) v) (L ++ [r]) (σ ++ τ):=by
 obtain ⟨vs,ts,h1,h2⟩:=h
 refine ⟨vs ++ [v],ts ++ [τ],All3.append (h1.imp fun r' hr' u t hh=>⟨hh.1,?_⟩) (.cons ⟨hr,?_⟩ .nil),?_⟩
 ·unfold updF
  rw [if_neg]
  ·exact hh.2
  ·intro e
   obtain ⟨e1,e2,_⟩:=cd2 e
   rcases hne r' hr' with h|h <;> omega
 ·unfold updF;rw [if_pos rfl]
 ·rw [List.flatten_append]
  simpa using h2.append_right τ
theorem AdjS.at {w:Wd} {F:Value→Option Value} {L:List Rf} {σ:aa1} (h:AdjS w F L σ) {q:Nat} {r:Rf} (hr:L[q]?=some r):∃ v t τ,F (lnV r)=some v∧RW1 (adjR w r) v t∧σ.Perm (t ++ τ):=by
 obtain ⟨vs,ts,h1,h2⟩:=h
 obtain ⟨u,t,τ,g1,g2,g3,_⟩:=h1.at hr
 exact ⟨u,t,τ,g2.2,g2.1,h2.trans g3⟩
end
section
open Go Go.RowKit Go.Shelf Go.Maps Go.MapKept
open Go.ChangeMaps (setBlock modify_eq_set heap_setBlock_same heap_setBlock_other)
noncomputable def updG (G:Value→Option D) (key:Value) (d:D):Value→Option D:=open Classical in fun x=>if x=key then some d else G x
section
variable {P:Program} {r:Option Nat} {n:Nat} {df:Nat} {N:Nat} {σ τ:aa1} {ρ:Operand→D} {f:Frm} {L:List Oper} {k t e:TypeId} {G:Value→Option D} {b:Nat} {kv z:Value} {kl:Lit} {zd:D}
theorem bA2 {w:World} {X:Nat→Prop} (hs:StOK w X σ) (hb:(b,Blk.mp P k G)∈σ):∃ es c n F,w.heap[b]?=some (.map es c)∧Ents P k es c n F∧∀ key,(F key=none∧G key=none)∨∃ v d,F key=some v∧G key=some d∧Rd w (Own σ X) d v:=by
 obtain ⟨_,o,h1,es,c,n,F,rfl,h3,h4⟩:=hs.at_ b _ hb
 exact ⟨es,c,n,F,h1,h3,h4⟩
theorem OtE.makeMapM {o:Oper} {K:Frm→aa1→Prop} (ho:o.op = .makeMap t none) (kk:∀ b,W (putK N o.dst (.v (.map (some b))) f (fun f'=>K f' ((b,.mp P k fun _=>none) :: σ)))):OtE P r n df L N o f σ K:=by
 refine ⟨fun rest Q a hsp hw hk=>?_⟩
 refine ae8 hw (by rw [ho];rfl) fun w X fr hst=>?_
 have e0:(execOp fr.eval o).run P w = .ok (.value (.map (some w.heap.size))) (w.alloc (.map #[] 0)):=by
  simp only [execOp,ho]
  rfl
 rw [e0]
 have hz:∀ w O,(Blk.mp P k fun _=>none).ok w O (.map #[] 0):=fun w O=>⟨#[],0,0,fun _=>none,rfl,⟨by simp,stamped_empty 0,by simp,by simp,by simp⟩,fun _=>.inl ⟨rfl,rfl⟩⟩
 obtain ⟨g1,g2,g3⟩:=hst.st.new (.map #[] 0) (.mp P k fun _=>none) (hz _ _)
 obtain ⟨f',hs',h4⟩:=ad4 (kk w.heap.size).h hsp
 exact ⟨_,_,g2,(hst.mv g2 g1).put (.v _) o.dst,hk _ _ _ h4 hs'⟩
theorem OtE.mapUpdateM {o:Oper} {m key x:Operand} {d:D} {K:Frm→aa1→Prop} (ho:o.op = .mapUpdate t m key x) (hm:evF f m = .v (.map (some b))) (hd:KeyD (evF f key) kv) (hx:evF f x=d) (hb:σ.Perm ((b,Blk.mp P k G) :: τ))
  (KK:Keyed P k) (ht:P.underlying t=some (.map k e)) (hkey:keyOf P k kv=some kl) (kk:W (putK N o.dst (.v undef) f (fun f'=>K f' ((b,.mp P k (updG G kv d)) :: τ)))):OtE P r n df L N o f σ K:=by
 refine ⟨fun rest Q a hsp hw hk=>?_⟩
 refine ae8 hw (by rw [ho];rfl) fun w X fr hst=>?_
 have hst':=hst.perm hb
 obtain ⟨es,c,nn,F,q1,q2,q3⟩:=bA2 hst'.st (List.mem_cons_self)
 have hη:∀ x,Rd w (Own ((b,Blk.mp P k G) :: τ) X) (evF f x) (fr.eval x):=fun x=>hsp.le x _ _ _ (hst'.fr.eval x)
 obtain ⟨w',h1,⟨es',c',h2,h3⟩,h4⟩:=MapIs.update (v:=fr.eval x) (n:=nn) ⟨es,c,q1,q2⟩ KK ht hkey
 have p1:=(hη m).val hm
 have p2:=hd _ _ _ (hη key)
 have p3:=hη x
 rw [hx] at p3
 have e0:(execOp fr.eval o).run P w = .ok .skip w':=by
  simp only [execOp,ho,p1,p2]
  show (do let _ ← Instr.mapUpdate t (.map (some b)) kv (fr.eval x);pure Next.skip).run P w=_
  simp only [Sem.run_bind,h1,Result.andThen,Sem.run_pure]
 have h6:(Blk.mp P k (updG G kv d)).ok w (Own ((b,Blk.mp P k G) :: τ) X) (.map es' c'):=by
  refine ⟨es',c',_,_,rfl,h3,fun key=>?_⟩
  unfold updF updG
  by_cases hk:key=kv
  ·subst hk
   exact .inr ⟨_,_,if_pos rfl,if_pos rfl,p3⟩
  ·rw [if_neg hk,if_neg hk]
   exact q3 key
 obtain ⟨g1,g2,g3,g4⟩:=hst'.st.upd (i:=0) (k':=.mp P k (updG G kv d)) rfl h4 h2 h6
 obtain ⟨f',hs',h8⟩:=ad4 kk.h hsp
 rw [e0]
 exact ⟨_,bg9 hb g2,(hst'.mv g2 g1).put (.v undef) o.dst,hk _ _ _ h8 hs'⟩
theorem bq2 {o:Oper} {m key:Operand} (d:D) (ho:o.op = .lookup t m key false) (hm:ρ m = .v (.map (some b))) (hd:KeyD (ρ key) kv) (hb:(b,Blk.mp P k G)∈σ)
  (K:Keyed P k) (ht:P.underlying t=some (.map k e)) (hz:∀ w,(zeroValue e).run P w = .ok z w) (hzd:∀ w O,Rd w O zd z) (hkey:keyOf P k kv=some kl) (hv:(G kv).getD zd=d):Yd P o ρ σ d:=by
 subst hv
 intro w X η hη hst
 obtain ⟨dst,op,ty,pos,aft,g⟩:=o
 simp only at ho
 subst ho
 have h1:=(hη m (by simp [Op.operands])).val hm
 have h2:=hd _ _ _ (hη key (by simp [Op.operands]))
 obtain ⟨es,c,nn,F,q1,q2,q3⟩:=bA2 hst hb
 refine ae0 (s:=Instr.lookup t (η m) (η key) false) (by rw [h1,h2];exact MapIs.look (n:=nn) ⟨es,c,q1,q2⟩ K ht (hz w) hkey) (Ex.refl w) ?_
 rcases q3 kv with ⟨r1,r2⟩|⟨v,d,r1,r2,r3⟩
 ·rw [r1,r2];exact hzd _ _
 ·rw [r1,r2];exact r3
theorem aE8 {o:Oper} {m key:Operand} (d:D) (ok:Bool) (ho:o.op = .lookup t m key true) (hm:ρ m = .v (.map (some b))) (hd:KeyD (ρ key) kv) (hb:(b,Blk.mp P k G)∈σ)
  (K:Keyed P k) (ht:P.underlying t=some (.map k e)) (hz:∀ w,(zeroValue e).run P w = .ok z w) (hzd:∀ w O,Rd w O zd z) (hkey:keyOf P k kv=some kl) (hv:(G kv).getD zd=d) (hok:(G kv).isSome=ok):Yd P o ρ σ (.tup [d,.v (.bool ok)]):=by
 subst hv hok
 intro w X η hη hst
 obtain ⟨dst,op,ty,pos,aft,g⟩:=o
 simp only at ho
 subst ho
 have h1:=(hη m (by simp [Op.operands])).val hm
 have h2:=hd _ _ _ (hη key (by simp [Op.operands]))
 obtain ⟨es,c,nn,F,q1,q2,q3⟩:=bA2 hst hb
 refine ae0 (s:=Instr.lookup t (η m) (η key) true) (by rw [h1,h2];exact MapIs.look_ok (n:=nn) ⟨es,c,q1,q2⟩ K ht (hz w) hkey) (Ex.refl w) ?_
 rcases q3 kv with ⟨r1,r2⟩|⟨v,d,r1,r2,r3⟩
 ·rw [r1,r2]
  have h5:=RdL.cons (w:=w) (O:=Own σ X) (hzd w (Own σ X)) (RdL.cons (Rd.v (.bool false)) RdL.nil)
  exact Rd.tup [zd,.v (.bool false)] _ h5.len h5.at_
 ·rw [r1,r2]
  have h5:=RdL.cons (w:=w) (O:=Own σ X) r3 (RdL.cons (Rd.v (.bool true)) RdL.nil)
  exact Rd.tup [d,.v (.bool true)] _ h5.len h5.at_
end
end
section
open Go Go.Maps Go.MapKept
theorem ACall.look {P:Program} {f:FuncId} {ds ds':List D} {σ τ ρ:aa1} {R:D→aa1→Prop} (hv:VsL σ ds τ ds') (hp:σ.Perm (τ ++ ρ)) (hc:ACall P f ds' τ R) (hfl:∀ d s,R d s→bP4 d=true∧FlS s) :
  ACall P f ds σ (fun d σ'=>∃ s,σ'=s ++ ρ∧R d s):=by
 refine ⟨hc.ent,fun w X vs hv0 hs=>?_⟩
 obtain ⟨hsτ,hvτ⟩:=hv.run w X vs hs hv0
 have hsp:=hs.perm hp
 refine (hc.run w X vs hvτ hsτ).mono ?_
 rintro e w' ⟨u,d,s,g1,g2,g3,g4,g5⟩
 obtain ⟨f1,f2⟩:=hfl d s g2
 have hnd:=hsp.nodup
 rw [ab0,List.nodup_append] at hnd
 obtain ⟨n1,n2,n3⟩:=hnd
 have hz:=g5.keep.size
 have hblk:∀ b,b<w.heap.size→¬ Own (τ ++ ρ) X b→w'.heap[b]?=w.heap[b]?:=fun b hb hn=>g5.keep.block b hb (fun hk=>hn (.inr (by rw [ab0];exact List.mem_append_left _ hk)))
 have hO:∀ b,b<w.heap.size→¬ Own (τ ++ ρ) X b→¬ Own (s ++ ρ) X b:=fun b hb hn ho=>by
  rcases ho with ho|ho
  ·exact hn (.inl ho)
  ·rw [ab0,List.mem_append] at ho
   rcases ho with ho|ho
   ·rcases g5.new b ho with h|h
    ·exact hn (.inr (by rw [ab0];exact List.mem_append_left _ h))
    ·omega
   ·exact hn (.inr (by rw [ab0];exact List.mem_append_right _ ho))
 have hρ:∀ b,b∈aa9 ρ→b<w.heap.size:=fun b hb=>hsp.lt (by rw [ab0];exact List.mem_append_right _ hb)
 refine ⟨u,d,s ++ ρ,g1,⟨s,rfl,g2⟩,bi0 g3 f1,⟨?_,fun b k hbk=>?_,fun b hb=>Nat.lt_of_lt_of_le (hs.xlt b hb) hz,?_⟩,⟨⟨g5.keep.os,g5.keep.tape,g5.keep.output,hz,fun b hb hn=>g5.keep.block b hb (fun hk=>hn (ah0 hp b (by rw [ab0];exact List.mem_append_left _ hk)))⟩,fun b hb=>?_⟩⟩
 ·rw [ab0,List.nodup_append]
  refine ⟨g4.nodup,n2,fun b h1 c h2 e=>?_⟩
  subst e
  rcases g5.new b h1 with h|h
  ·exact n3 b h b h2 rfl
  ·have:=hρ b h2;omega
 ·rcases List.mem_append.1 hbk with h|h
  ·obtain ⟨h1,o,h2,h3⟩:=g4.at_ b k h
   refine ⟨h1,o,h2,?_⟩
   have hfk:=f2 _ h
   cases k with
   | cells t cs=>
    obtain ⟨vs,q1,q2⟩:=h3
    exact ⟨vs,q1,q2.len,fun j d u r1 r2=>bW7 (q2.at_ j d u r1 r2) (hfk d (List.mem_of_getElem? r1))⟩
   | obj ok=>exact h3
   | mp P k G=>exact hfk.elim
  ·obtain ⟨h1,o,h2,h3⟩:=hsp.at_ b k (List.mem_append_right _ h)
   have hlt:=(Array.getElem?_eq_some_iff.1 h2).1
   have hnτ:b ∉ aa9 τ:=fun hb=>n3 b hb b (ay6 h) rfl
   exact ⟨h1,o,(g5.keep.block b hlt hnτ).trans h2,Blk.ok_keep hz hO hblk h3⟩
 ·refine hsp.gok.keep hz hO hblk (fun b hb=>?_)
  rcases hb with hb|hb
  ·exact Nat.lt_of_lt_of_le (hs.xlt b hb) hz
  ·rw [ab0,List.mem_append] at hb
   rcases hb with hb|hb
   ·exact g4.lt hb
   ·exact Nat.lt_of_lt_of_le (hρ b hb) hz
 ·rw [ab0,List.mem_append] at hb
  rcases hb with hb|hb
  ·rcases g5.new b hb with h|h
   ·exact .inl (ah0 hp b (by rw [ab0];exact List.mem_append_left _ h))
   ·exact .inr h
  ·exact .inl (ah0 hp b (by rw [ab0];exact List.mem_append_right _ hb))
def lvG (l:List Lif):Value→Option D
 | .string n=>(l.find? fun x=>seq x.name n).map fun x=>lifD x
 | _=>none
theorem cd1:lvG []=fun _=>none:=by
 funext v
 cases v <;> rfl
theorem bM9 (lf:Lif) (l:List Lif):updG (lvG l) (.string lf.name) (lifD lf)=lvG (lf :: l):=by
 funext v
 unfold updG
 by_cases h:v = .string lf.name
 ·rw [if_pos h,h]
  simp [lvG,ar0]
 ·rw [if_neg h]
  cases v <;> try rfl
  rename_i n
  have:seq lf.name n=false:=by
   cases e:seq lf.name n with
   | false=>rfl
   | true=>exact absurd (by rw [(az8 _ _).1 e]) h
  simp [lvG,List.find?,this]
end
section
open Go
theorem sk5 {A B:Prop} (k:B) (h:Hd7 B→A:=by intro hk7q;(first|refine sb0 ?_|refine sb1 ?_|((with_reducible refine' Cp.by ?hc ?_);(case hc=>exact hp _ (List.mem_of_getElem? hy)))|((with_reducible refine' CE.pure ?hc ?_);(case hc=>exact hp _ (List.mem_of_getElem? hy))));exact hk7q.run):A:=h ⟨k⟩
theorem bo2 {f:FuncId} {cs:List D} (l:List Knd) (p:Knd→Bool) (hl:l.length≤1000000) (hp:∀ y∈l,APure Tryz.prog f [kndD y,.ro cs] (bD (p y))):APure Tryz.prog 108 [slK l,.clo f [.ro cs]] (iD (idx p l)):=by
 refine eP7 Tryz.func108 Tryz.ntmps108 fun BB=>?_
 repeat' first|refine sk5 ?_|(intro b;conv=>whnf)
 refine ae2 mixed aa0 (γ:=Nat) (fun k=>[(8,iD k)]) (fun _=>[]) (fun k=>k≤l.length∧∀ i y,i<k→l[i]?=some y→p y=false) (fun k=>l.length - k) 0 rfl rfl ⟨by omega,by omega⟩ ?_
 rintro k ⟨hk,hno⟩
 by_cases hlt:k<l.length
 ·obtain ⟨y,hy⟩:∃ y,l[(k:Int).toNat]?=some y:=⟨_,List.getElem?_eq_getElem hlt⟩
  repeat' first|refine sk5 ?_|(intro b;conv=>whnf)|(with_reducible refine Br.d (fun hc=>?_) (fun hc=>?_))|(with_reducible refine Br.b (fun hc=>?_) (fun hc=>?_))
  ·refine Rt.pure (congrArg iD ?_)
   exact (ac5 hy ‹_› hno).symm
  ·exact ⟨k+1,rfl,rfl,⟨by omega,fun i z hi hz=>by
    by_cases e:i=k
    ·subst e;rw [show ((i:Int)).toNat=i from rfl,hz] at hy;cases hy;assumption
    ·exact hno i z (by omega) hz⟩,by omega⟩
 ·repeat' first|refine sk5 ?_|(intro b;conv=>whnf)
  refine Rt.pure (congrArg iD ?_)
  exact (ag5 fun i y hy=>hno i y (by have:=(List.getElem?_eq_some_iff.1 hy).1;omega) hy).symm
theorem sk6 {A B:Prop} (k:B) (h:Hd7 B→A:=by intro hk7q;(first|refine sb0 ?_|refine sb1 ?_|((with_reducible refine' Cp.by ?hc ?_);(case hc=>exact bo2 l p hl hp))|((with_reducible refine' CE.pure ?hc ?_);(case hc=>exact bo2 l p hl hp)));exact hk7q.run):A:=h ⟨k⟩
theorem bW3 {f:FuncId} {cs:List D} (l:List Fld) (p:Fld→Bool) (hl:l.length≤1000000) (hp:∀ y∈l,APure Tryz.prog f [fldD y,.ro cs] (bD (p y))):APure Tryz.prog 165 [slF l,.clo f [.ro cs]] (iD (idx p l)):=by
 refine eP7 Tryz.func165 Tryz.ntmps165 fun BB=>?_
 repeat' first|refine sk5 ?_|(intro b;conv=>whnf)
 refine ae2 mixed aa0 (γ:=Nat) (fun k=>[(8,iD k)]) (fun _=>[]) (fun k=>k≤l.length∧∀ i y,i<k→l[i]?=some y→p y=false) (fun k=>l.length - k) 0 rfl rfl ⟨by omega,by omega⟩ ?_
 rintro k ⟨hk,hno⟩
 by_cases hlt:k<l.length
 ·obtain ⟨y,hy⟩:∃ y,l[(k:Int).toNat]?=some y:=⟨_,List.getElem?_eq_getElem hlt⟩
  repeat' first|refine sk5 ?_|(intro b;conv=>whnf)|(with_reducible refine Br.d (fun hc=>?_) (fun hc=>?_))|(with_reducible refine Br.b (fun hc=>?_) (fun hc=>?_))
  ·refine Rt.pure (congrArg iD ?_)
   exact (ac5 hy ‹_› hno).symm
  ·exact ⟨k+1,rfl,rfl,⟨by omega,fun i z hi hz=>by
    by_cases e:i=k
    ·subst e;rw [show ((i:Int)).toNat=i from rfl,hz] at hy;cases hy;assumption
    ·exact hno i z (by omega) hz⟩,by omega⟩
 ·repeat' first|refine sk5 ?_|(intro b;conv=>whnf)
  refine Rt.pure (congrArg iD ?_)
  exact (ag5 fun i y hy=>hno i y (by have:=(List.getElem?_eq_some_iff.1 hy).1;omega) hy).symm
theorem bW1 {f:FuncId} {cs:List D} (l:List Lif) (p:Lif→Bool) (hl:l.length≤1000000) (hp:∀ y∈l,APure Tryz.prog f [lifD y,.ro cs] (bD (p y))):APure Tryz.prog 197 [slL l,.clo f [.ro cs]] (iD (idx p l)):=by
 refine eP7 Tryz.func197 Tryz.ntmps197 fun BB=>?_
 repeat' first|refine sk5 ?_|(intro b;conv=>whnf)
 refine ae2 mixed aa0 (γ:=Nat) (fun k=>[(8,iD k)]) (fun _=>[]) (fun k=>k≤l.length∧∀ i y,i<k→l[i]?=some y→p y=false) (fun k=>l.length - k) 0 rfl rfl ⟨by omega,by omega⟩ ?_
 rintro k ⟨hk,hno⟩
 by_cases hlt:k<l.length
 ·obtain ⟨y,hy⟩:∃ y,l[(k:Int).toNat]?=some y:=⟨_,List.getElem?_eq_getElem hlt⟩
  repeat' first|refine sk5 ?_|(intro b;conv=>whnf)|(with_reducible refine Br.d (fun hc=>?_) (fun hc=>?_))|(with_reducible refine Br.b (fun hc=>?_) (fun hc=>?_))
  ·refine Rt.pure (congrArg iD ?_)
   exact (ac5 hy ‹_› hno).symm
  ·exact ⟨k+1,rfl,rfl,⟨by omega,fun i z hi hz=>by
    by_cases e:i=k
    ·subst e;rw [show ((i:Int)).toNat=i from rfl,hz] at hy;cases hy;assumption
    ·exact hno i z (by omega) hz⟩,by omega⟩
 ·repeat' first|refine sk5 ?_|(intro b;conv=>whnf)
  refine Rt.pure (congrArg iD ?_)
  exact (ag5 fun i y hy=>hno i y (by have:=(List.getElem?_eq_some_iff.1 hy).1;omega) hy).symm
theorem sk7 {A B:Prop} (k:B) (h:Hd7 B→A:=by intro hk7q;(first|refine sb0 ?_|refine sb1 ?_|((with_reducible refine' Cp.by ?hc ?_);(case hc=>exact bW1 l p hl hp))|((with_reducible refine' CE.pure ?hc ?_);(case hc=>exact bW1 l p hl hp)));exact hk7q.run):A:=h ⟨k⟩
theorem bi7 {f:FuncId} {cs:List D} (l:List Lif) (p:Lif→Bool) (hl:l.length≤1000000) (hp:∀ y∈l,APure Tryz.prog f [lifD y,.ro cs] (bD (p y))):APure Tryz.prog 145 [slL l,.clo f [.ro cs]] (bD (l.any p)):=by
 refine eP7 Tryz.func145 Tryz.ntmps145 fun BB=>?_
 repeat' first|refine sk7 ?_|(intro b;conv=>whnf)
 refine Rt.pure (congrArg bD ?_)
 exact ai2 p l
theorem bV9 {f:FuncId} {cs:List D} (l:List Rul) (p:Rul→Bool) (hl:l.length≤1000000) (hp:∀ y∈l,APure Tryz.prog f [rulD y,.ro cs] (bD (p y))):APure Tryz.prog 237 [slR l,.clo f [.ro cs]] (iD (idx p l)):=by
 refine eP7 Tryz.func237 Tryz.ntmps237 fun BB=>?_
 repeat' first|refine sk5 ?_|(intro b;conv=>whnf)
 refine ae2 mixed aa0 (γ:=Nat) (fun k=>[(8,iD k)]) (fun _=>[]) (fun k=>k≤l.length∧∀ i y,i<k→l[i]?=some y→p y=false) (fun k=>l.length - k) 0 rfl rfl ⟨by omega,by omega⟩ ?_
 rintro k ⟨hk,hno⟩
 by_cases hlt:k<l.length
 ·obtain ⟨y,hy⟩:∃ y,l[(k:Int).toNat]?=some y:=⟨_,List.getElem?_eq_getElem hlt⟩
  repeat' first|refine sk5 ?_|(intro b;conv=>whnf)|(with_reducible refine Br.d (fun hc=>?_) (fun hc=>?_))|(with_reducible refine Br.b (fun hc=>?_) (fun hc=>?_))
  ·refine Rt.pure (congrArg iD ?_)
   exact (ac5 hy ‹_› hno).symm
  ·exact ⟨k+1,rfl,rfl,⟨by omega,fun i z hi hz=>by
    by_cases e:i=k
    ·subst e;rw [show ((i:Int)).toNat=i from rfl,hz] at hy;cases hy;assumption
    ·exact hno i z (by omega) hz⟩,by omega⟩
 ·repeat' first|refine sk5 ?_|(intro b;conv=>whnf)
  refine Rt.pure (congrArg iD ?_)
  exact (ag5 fun i y hy=>hno i y (by have:=(List.getElem?_eq_some_iff.1 hy).1;omega) hy).symm
theorem sk8 {A B:Prop} (k:B) (h:Hd7 B→A:=by intro hk7q;(first|refine sb0 ?_|refine sb1 ?_|((with_reducible refine' Cp.by ?hc ?_);(case hc=>exact bV9 l p hl hp))|((with_reducible refine' CE.pure ?hc ?_);(case hc=>exact bV9 l p hl hp)));exact hk7q.run):A:=h ⟨k⟩
theorem bH7 {f:FuncId} {cs:List D} (l:List Rul) (p:Rul→Bool) (hl:l.length≤1000000) (hp:∀ y∈l,APure Tryz.prog f [rulD y,.ro cs] (bD (p y))):APure Tryz.prog 198 [slR l,.clo f [.ro cs]] (bD (l.any p)):=by
 refine eP7 Tryz.func198 Tryz.ntmps198 fun BB=>?_
 repeat' first|refine sk8 ?_|(intro b;conv=>whnf)
 refine Rt.pure (congrArg bD ?_)
 exact ai2 p l
end
section
open Go
theorem aC0:Le (.agg [sD ⟨#[]⟩,sD ⟨#[]⟩,sD ⟨#[]⟩,iD 0,iD 0,iD 0,.v (.slice none 0 0),.v (.slice none 0 0)]) (fldD aD4):=
 bV7 (LeL.cons (Le.refl _) (LeL.cons (Le.refl _) (LeL.cons (Le.refl _) (LeL.cons (Le.refl _) (LeL.cons (Le.refl _) (LeL.cons (Le.refl _) (LeL.cons (af6 _) (LeL.cons (af6 _) LeL.nil))))))))
theorem bw3 {x:Sch} {i j:Int} {f:Fld} (h:upIx x i j<0):topF x i j f=none:=by simp [topF,h]
theorem bw4 {x:Sch} {i j:Int} {f:Fld} {ko:Knd} (h:¬ upIx x i j<0) (hk:x.kinds[(upIx x i j).toNat]?=some ko):topF x i j f=fieldAt x (upIx x i j) (aa3 ko f.of):=by
 have:ad5 x (upIx x i j)=some ko:=by unfold ad5;rw [if_pos (by omega)];exact hk
 simp only [topF,this];rw [if_neg h]
theorem bv3 (x:Sch) (i j:Int):upIx x i j<x.kinds.length:=by
 by_cases h:0≤upIx x i j
 ·obtain ⟨o,k,h1,h2⟩:=bv4 x i j h
  have:=(List.getElem?_eq_some_iff.1 h2).1
  omega
 ·omega
theorem sk9 {A B:Prop} (k:B) (h:Hd7 B→A:=by intro hk7q;(first|refine sb0 ?_|refine sb1 ?_|((with_reducible refine' Cp.by ?hc ?_);(case hc=>first|exact ak6 _ _ (by assumption)|exact ag9 _ _ (by assumption)|exact aF6 _ _ _ (by assumption) (by assumption)))|((with_reducible refine' CE.pure ?hc ?_);(case hc=>first|exact ak6 _ _ (by assumption)|exact ag9 _ _ (by assumption)|exact aF6 _ _ _ (by assumption) (by assumption))));exact hk7q.run):A:=h ⟨k⟩
theorem ba0 (x:Sch) (i j:Int) (f:Fld) (hl:x.kinds.length≤1000000) (hf:∀ k∈x.kinds,k.fields.length≤1000000) (hfa:fieldAt x i j=some f):APure Tryz.prog 217 [schD x,iD i,iD j] (.tup [iD (abvR x i j f).1,fldD (abvR x i j f).2]):=by
 refine eP7 Tryz.func217 Tryz.ntmps217 fun BB=>?_
 obtain ⟨h0,h1,k,hk,hkf⟩:=ag0 hfa
 have hul:=bv3 x i j
 by_cases hu:upIx x i j<0
 ·have ht:abvR x i j f=(-1,aD4):=by simp [abvR,bw3 hu]
  repeat' first|refine sk9 ?_|(intro b;conv=>whnf)|refine IxM.mk fun y hy=>?_|(with_reducible refine Br.d (fun hc=>?_) (fun hc=>?_))|(with_reducible refine Br.b (fun hc=>?_) (fun hc=>?_))
  rw [ht]
  exact Rt.vs (Vs.tup (VsL.cons (Vs.refl _ _) (VsL.cons (Vs.le aC0) (VsL.nil _))))
 ·obtain ⟨ko,hko⟩:∃ ko,x.kinds[(upIx x i j).toNat]?=some ko:=⟨_,List.getElem?_eq_getElem (by omega)⟩
  have hfk:=hf ko (List.mem_of_getElem? hko)
  have htf:=bw4 (f:=f) hu hko
  have hfl:=ar4 ko f.of
  repeat' first|refine sk9 ?_|(intro b;conv=>whnf)|refine IxM.mk fun y hy=>?_|(with_reducible refine Br.d (fun hc=>?_) (fun hc=>?_))|(with_reducible refine Br.b (fun hc=>?_) (fun hc=>?_))
  ·have ht:abvR x i j f=(-1,aD4):=by simp only [abvR,htf,aj8 (x:=x) (i:=upIx x i j) (j:=aa3 ko f.of) (by omega)]
   rw [ht]
   exact Rt.vs (Vs.tup (VsL.cons (Vs.refl _ _) (VsL.cons (Vs.le aC0) (VsL.nil _))))
  ·have ht:abvR x i j f=(y.kind,y):=by simp only [abvR,htf,af7 (x:=x) (i:=upIx x i j) (j:=aa3 ko f.of) (by omega) (by omega) hko,hy]
   rw [ht]
   exact Rt.vs (Vs.refl _ _)
end
section
open Go
theorem sk10 {A B:Prop} (k:B) (h:Hd7 B→A:=by intro hk7q;(first|refine sb0 ?_|refine sb1 ?_|((with_reducible refine' Cp.by ?hc ?_);(case hc=>first|exact ak6 _ _ (by assumption)|exact ba0 _ _ _ _ (by assumption) (by assumption) (by assumption)))|((with_reducible refine' CE.pure ?hc ?_);(case hc=>first|exact ak6 _ _ (by assumption)|exact ba0 _ _ _ _ (by assumption) (by assumption) (by assumption))));exact hk7q.run):A:=h ⟨k⟩
theorem aZ9 (x:Sch) (i j up:Int) (f:Fld) (hl:x.kinds.length≤1000000) (hf:∀ k∈x.kinds,k.fields.length≤1000000) (hfa:fieldAt x i j=some f):APure Tryz.prog 179 [schD x,iD i,iD j,iD up] (iD (az6 x i j f up)):=by
 refine eP7 Tryz.func179 Tryz.ntmps179 fun BB=>?_
 obtain ⟨h0,h1,k,hk,hkf⟩:=ag0 hfa
 repeat' first|refine sk10 ?_|(intro b;conv=>whnf)|(with_reducible refine Br.d (fun hc=>?_) (fun hc=>?_))|(with_reducible refine Br.b (fun hc=>?_) (fun hc=>?_))
 all_goals (refine Rt.pure (congrArg iD ?_);unfold az6;(repeat' split) <;> first|rfl|omega)
theorem eqE (s:ByteArray):(s.toList == (⟨#[]⟩:ByteArray).toList)=isE s:=by
 unfold isE
 have:(⟨#[]⟩:ByteArray).toList=[]:=by rw [ByteArray.toList_eq]
 rw [this]
 cases s.toList <;> rfl
theorem sk11 {A B:Prop} (k:B) (h:Hd7 B→A:=by intro hk7q;(first|refine sb0 ?_|refine sb1 ?_|((with_reducible refine' Cp.by ?hc ?_);(case hc=>first|exact ag9 _ _ (by assumption)|exact aF6 _ _ _ (by assumption) (by assumption)|exact bm5 _ _ _ _ (by assumption) (by assumption) (by assumption)|exact aZ9 _ _ _ _ _ (by assumption) (by assumption) (by assumption)))|((with_reducible refine' CE.pure ?hc ?_);(case hc=>first|exact ag9 _ _ (by assumption)|exact aF6 _ _ _ (by assumption) (by assumption)|exact bm5 _ _ _ _ (by assumption) (by assumption) (by assumption)|exact aZ9 _ _ _ _ _ (by assumption) (by assumption) (by assumption))));exact hk7q.run):A:=h ⟨k⟩
theorem aZ7 (x:Sch) (i j:Int) (f:Fld) (hl:x.kinds.length≤1000000) (hf:∀ k∈x.kinds,k.fields.length≤1000000) (hll:x.lives.length≤1000000) (hfa:fieldAt x i j=some f):APure Tryz.prog 130 [schD x,iD i,iD j] (iD (ac3 x i j f)):=by
 refine eP7 Tryz.func130 Tryz.ntmps130 fun BB=>?_
 obtain ⟨h0,h1,k,hk,hkf⟩:=ag0 hfa
 have hfk:=hf k (List.mem_of_getElem? hk)
 have hka:ad5 x i=some k:=by simp [ad5,h0,hk]
 have hfl:=ar4 k f.of
 repeat' first|refine sk11 ?_|(intro b;conv=>whnf)|refine IxM.mk fun y hy=>?_|(with_reducible refine Br.d (fun hc=>?_) (fun hc=>?_))|(with_reducible refine Br.b (fun hc=>?_) (fun hc=>?_))
 all_goals try
  (refine Rt.pure (congrArg iD ?_);(try simp only [eqE,List.length_map,List.length_take,List.length_append,List.length_cons,List.length_nil,List.length_replicate,Nat.reduceAdd] at *);unfold ac3;(repeat' split) <;> first|rfl|omega|(unfold dayE;rw [hka];(repeat' split) <;> first|rfl|omega|(simp_all;done)|(simp_all;omega)))
 have hU:ac3 x i j f=if x.lives.any (fun l=>seq l.name f.of) then 0 else 12:=by
  unfold ac3;rw [if_neg (by omega),if_neg (by omega),if_neg (by omega),if_neg (by omega),if_pos (by omega)]
 rw [hU]
 refine ae2 mixed aa0 (γ:=Nat) (fun q=>[(10,iD q)]) (fun _=>[(b,.cells 97 (fldC f))]) (fun q=>q≤x.lives.length∧∀ m y,m<q→x.lives[m]?=some y→seq y.name f.of=false) (fun q=>x.lives.length - q) 0 rfl rfl ⟨by omega,by omega⟩ ?_
 rintro q ⟨hq,hno⟩
 repeat' first|refine sk11 ?_|(intro b;conv=>whnf)|refine IxM.mk fun y hy=>?_|(with_reducible refine Br.d (fun hc=>?_) (fun hc=>?_))|(with_reducible refine Br.b (fun hc=>?_) (fun hc=>?_))
 ·refine Rt.pure (congrArg iD ?_)
  rw [if_pos (List.any_eq_true.2 ⟨y,List.mem_of_getElem? hy,by assumption⟩)]
 ·exact ⟨q+1,rfl,rfl,⟨by omega,fun m z hm hz=>by
   by_cases e:m=q
   ·subst e;rw [show ((m:Int)).toNat=m from rfl,hz] at hy;cases hy;assumption
   ·exact hno m z (by omega) hz⟩,by omega⟩
 ·refine Rt.pure (congrArg iD ?_)
  rw [if_neg]
  rw [List.any_eq_true]
  rintro ⟨y,hy,hs⟩
  obtain ⟨m,hm⟩:=List.getElem?_of_mem hy
  have:=hno m y (by have:=(List.getElem?_eq_some_iff.1 hm).1;omega) hm
  rw [this] at hs;cases hs
end
section
open Go
theorem sk12 {A B:Prop} (k:B) (h:Hd7 B→A:=by intro hk7q;(first|refine sb0 ?_|refine sb1 ?_|((with_reducible refine' Cp.by ?hc ?_);(case hc=>first|exact ak6 _ _ (by assumption)|exact ag9 _ _ (by assumption)))|((with_reducible refine' CE.pure ?hc ?_);(case hc=>first|exact ak6 _ _ (by assumption)|exact ag9 _ _ (by assumption))));exact hk7q.run):A:=h ⟨k⟩
theorem aZ8 (fs:List Fld):APure Tryz.prog 129 [slF fs] (bD (aQ6 fs)):=by
 refine eP7 Tryz.func129 Tryz.ntmps129 fun BB=>?_
 cases fs with
 | nil=>
  repeat' first|refine sk12 ?_|(intro b;conv=>whnf)|(with_reducible refine Br.d (fun hc=>?_) (fun hc=>?_))|(with_reducible refine Br.b (fun hc=>?_) (fun hc=>?_))
  refine Rt.pure (congrArg bD ?_);rfl
 | cons f r=>
  repeat' first|refine sk12 ?_|(intro b;conv=>whnf)|(with_reducible refine Br.d (fun hc=>?_) (fun hc=>?_))|(with_reducible refine Br.b (fun hc=>?_) (fun hc=>?_))
  all_goals (refine Rt.pure (congrArg bD ?_);simp_all [aQ6])
def prbC (p:Prb):List D:=[iD p.1,iD p.2.1,iD p.2.2.1,iD p.2.2.2]
theorem aU0 {x:Sch} {i m:Nat} {r s:Rul} (hm:m<i) (hs:x.rules[m]?=some s) (h:seq s.name r.name=true):ae1 x i r=true:=by
 unfold ae1
 rw [List.any_eq_true]
 exact ⟨s,List.mem_of_getElem? (i:=m) (by rw [List.getElem?_take,if_pos hm];exact hs),h⟩
theorem aF4 {x:Sch} {i:Nat} {r:Rul} (h:∀ (m:Nat) y,m<i→x.rules[m]?=some y→seq y.name r.name=false):ae1 x i r=false:=by
 unfold ae1
 rw [List.any_eq_false]
 intro s hs
 obtain ⟨m,hm⟩:=List.getElem?_of_mem hs
 rw [List.getElem?_take] at hm
 split at hm
 ·rename_i hlt;simp [h m s hlt hm]
 ·cases hm
theorem bg1 {x:Sch} {i:Nat} {r:Rul} (h:ae1 x i r=true):au3 x i r=7:=by
 unfold au3
 split <;> rw [h] <;> rfl
theorem aZ3 {x:Sch} {i:Nat} {r:Rul} (h:ae1 x i r=false) (hk:ad5 x (ab1 x r.kind)=none):au3 x i r=12:=by
 simp only [au3,hk,h];rfl
theorem bq9 {x:Sch} {i:Nat} {r:Rul} {k:Knd} (h:ae1 x i r=false) (hk:ad5 x (ab1 x r.kind)=some k) :
  au3 x i r=if ae4 x k (ab1 x r.kind) r.a=true∨ae4 x k (ab1 x r.kind) r.b=true then 12 else if ac9 x k (ab1 x r.kind) r.a=true∨ac9 x k (ab1 x r.kind) r.b=true then 13 else if seq r.a r.b=true then 1 else 0:=by
 simp only [au3,hk,h]
 cases ae4 x k (ab1 x r.kind) r.a <;> cases ae4 x k (ab1 x r.kind) r.b <;> cases ac9 x k (ab1 x r.kind) r.a <;> cases ac9 x k (ab1 x r.kind) r.b <;> cases seq r.a r.b <;> rfl
theorem aX9 {x:Sch} {i j:Int} {k:Knd} {g:Fld} (h0:0≤i) (hk:x.kinds[i.toNat]?=some k) (hj:0≤j) (hg:k.fields[j.toNat]?=some g):atR x i j=(g,true):=by
 unfold atR;rw [af7 h0 hj hk,hg]
theorem bp7 {x:Sch} {i j:Int} (hj:j<0):atR x i j=(aD4,false):=by
 unfold atR;rw [aj8 (by omega)]
theorem nm_E (x:Sch) (k:Knd) (o:Int) {n:ByteArray} (h:(n.toList == ({ data:=#[] }:ByteArray).toList)=true):ae4 x k o n=false∧ac9 x k o n=false:=by rw [eqE] at h;simp [ae4,ac9,h]
theorem cp2 (x:Sch) (k:Knd) (o:Int) {n:ByteArray} (h:(n.toList == ({ data:=#[] }:ByteArray).toList)=false) (hi:aa3 k n<0):ae4 x k o n=true:=by rw [eqE] at h;simp [ae4,h,bp7 hi]
theorem cp1 {x:Sch} {k:Knd} {o:Int} {n:ByteArray} {g:Fld} (h:(n.toList == ({ data:=#[] }:ByteArray).toList)=false) (h0:0≤o) (hk:x.kinds[o.toNat]?=some k) (hj:0≤aa3 k n) (hg:k.fields[(aa3 k n).toNat]?=some g) :
  ae4 x k o n=false∧ac9 x k o n=(!decide (g.kind=2) && !decide (g.kind=4)):=by
 rw [eqE] at h
 simp only [ae4,ac9,h,aX9 h0 hk hj hg]
 refine ⟨rfl,?_⟩
 by_cases h2:g.kind=2 <;> by_cases h4:g.kind=4 <;> simp [h2,h4]
def twoI (x:Sch) (k:Knd) (o:Int) (r:Rul) (g:Nat × Bool):Prop:=(g.1=0∧g.2=false)∨(g.1=1∧ae4 x k o r.a=false∧g.2=ac9 x k o r.a)∨(g.1=2∧ae4 x k o r.a=false∧ae4 x k o r.b=false∧g.2=(ac9 x k o r.a || ac9 x k o r.b))
theorem aZ6 (x:Sch) (i:Nat) (r:Rul) (hl:x.kinds.length≤1000000) (hf:∀ k∈x.kinds,k.fields.length≤1000000) (hrl:x.rules.length≤1000000) (hr:x.rules[i]?=some r):APure Tryz.prog 131 [schD x,iD i] (iD (au3 x i r)):=by
 refine eP7 Tryz.func131 Tryz.ntmps131 fun BB=>?_
 repeat' first|refine sk12 ?_|(intro b;conv=>whnf)|refine IxM.mk fun y hy=>?_|(with_reducible refine Br.d (fun hc=>?_) (fun hc=>?_))|(with_reducible refine Br.b (fun hc=>?_) (fun hc=>?_))
 refine ae2 mixed aa0 (γ:=Nat) (fun q=>[(6,iD q)]) (fun _=>[(b,.cells 92 (rulC r))]) (fun q=>q≤i∧∀ (m:Nat) y,m<q→x.rules[m]?=some y→seq y.name r.name=false) (fun q=>i - q) 0 rfl rfl ⟨by omega,fun m y hm=>by omega⟩ ?_
 rintro q ⟨hq,hno⟩
 have hil:=(List.getElem?_eq_some_iff.1 hr).1
 have hkl:=aC2 x r.kind
 repeat' first|refine sk12 ?_|(intro b;conv=>whnf)|refine IxM.mk fun y hy=>?_|(with_reducible refine Br.d (fun hc=>?_) (fun hc=>?_))|(with_reducible refine Br.b (fun hc=>?_) (fun hc=>?_))
 ·refine Rt.pure (congrArg iD ?_)
  exact (bg1 (aU0 (m:=q) (by omega) hy (by assumption))).symm
 ·exact ⟨q+1,rfl,rfl,⟨by omega,fun m z hm hz=>by
   by_cases e:m=q
   ·subst e;rw [show ((m:Int)).toNat=m from rfl,hz] at hy;cases hy;assumption
   ·exact hno m z (by omega) hz⟩,by omega⟩
 ·obtain rfl:q=i:=by omega
  refine Rt.pure (congrArg iD ?_)
  exact (aZ3 (aF4 hno) (by unfold ad5;rw [if_neg (by omega)])).symm
 ·obtain rfl:q=i:=by omega
  obtain ⟨k,hk⟩:∃ k,x.kinds[(ab1 x r.kind).toNat]?=some k:=⟨_,List.getElem?_eq_getElem (by omega)⟩
  have hka:ad5 x (ab1 x r.kind)=some k:=by unfold ad5;rw [if_pos (by omega)];exact hk
  have hE:=bq9 (aF4 hno) hka
  have hfk:=hf k (List.mem_of_getElem? hk)
  have hfa:=ar4 k r.a
  have hfb:=ar4 k r.b
  refine ae2 mixed aa0 (γ:=Nat × Bool) (fun g=>[(9,bD g.2),(10,iD g.1)]) (fun _=>[(b,.cells 92 (rulC r))]) (twoI x k (ab1 x r.kind) r) (fun g=>2 - g.1) (0,false) rfl rfl (.inl ⟨rfl,rfl⟩) ?_
  rintro ⟨j,w⟩ (⟨rfl,rfl⟩|⟨rfl,ha,rfl⟩|⟨rfl,ha,hb,rfl⟩)
  ·repeat' first|refine sk12 ?_|(intro b;conv=>whnf)|refine IxM.mk fun y hy=>?_|(with_reducible refine Br.d (fun hc=>?_) (fun hc=>?_))|(with_reducible refine Br.b (fun hc=>?_) (fun hc=>?_))
   ·exact ⟨(1,false),rfl,rfl,.inr (.inl ⟨rfl,(nm_E x k _ ‹_›).1,(nm_E x k _ ‹_›).2.symm⟩),by simp⟩
   ·refine Rt.pure (congrArg iD ?_)
    rw [hE,if_pos (.inl (cp2 x k _ ‹_› (by omega)))]
   all_goals
    have hh:=cp1 (x:=x) (k:=k) (o:=ab1 x r.kind) (n:=r.a) ‹_› (by omega) hk (by omega) hy
    first
    | exact ⟨(1,!decide (y.kind=4)),rfl,rfl,.inr (.inl ⟨rfl,hh.1,by rw [hh.2];simp [*]⟩),by simp⟩
    | exact ⟨(1,false),rfl,rfl,.inr (.inl ⟨rfl,hh.1,by rw [hh.2];simp [*]⟩),by simp⟩
  ·generalize hw:ac9 x k (ab1 x r.kind) r.a=w
   repeat' first|refine sk12 ?_|(intro b;conv=>whnf)|refine IxM.mk fun y hy=>?_|(with_reducible refine Br.d (fun hc=>?_) (fun hc=>?_))|(with_reducible refine Br.b (fun hc=>?_) (fun hc=>?_))
   ·exact ⟨(2,w),rfl,rfl,.inr (.inr ⟨rfl,ha,(nm_E x k _ ‹_›).1,by rw [(nm_E x k _ (n:=r.b) ‹_›).2,hw];simp⟩),by simp⟩
   ·refine Rt.pure (congrArg iD ?_)
    rw [hE,if_pos (.inr (cp2 x k _ ‹_› (by omega)))]
   all_goals
    have hh:=cp1 (x:=x) (k:=k) (o:=ab1 x r.kind) (n:=r.b) ‹_› (by omega) hk (by omega) hy
    first
    | exact ⟨(2,true),rfl,rfl,.inr (.inr ⟨rfl,ha,hh.1,by rw [hh.2,hw];simp [*]⟩),by simp⟩
    | exact ⟨(2,!decide (y.kind=4)),rfl,rfl,.inr (.inr ⟨rfl,ha,hh.1,by rw [hh.2,hw];simp [*]⟩),by simp⟩
    | exact ⟨(2,false),rfl,rfl,.inr (.inr ⟨rfl,ha,hh.1,by rw [hh.2,hw];simp [*]⟩),by simp⟩
  ·generalize hw:(ac9 x k (ab1 x r.kind) r.a || ac9 x k (ab1 x r.kind) r.b)=w
   rw [if_neg (by simp [ha,hb])] at hE
   simp only [← Bool.or_eq_true,hw] at hE
   repeat' first|refine sk12 ?_|(intro b;conv=>whnf)|refine IxM.mk fun y hy=>?_|(with_reducible refine Br.d (fun hc=>?_) (fun hc=>?_))|(with_reducible refine Br.b (fun hc=>?_) (fun hc=>?_))
   all_goals (refine Rt.pure (congrArg iD ?_);rw [hE];simp [*,seq])
end
section
open Go
theorem bk5 (y:Knd) (nm:ByteArray):APure Tryz.prog 109 [kndD y,.ro [sD nm]] (bD (seq y.name nm)):=by
 refine eP7 Tryz.func109 Tryz.ntmps109 fun BB=>?_
 repeat' first|refine sk2 ?_|(intro b;conv=>whnf)
 refine Rt.pure (congrArg bD ?_);rfl
theorem aY4 (y:Fld) (nm:ByteArray):APure Tryz.prog 166 [fldD y,.ro [sD nm]] (bD (seq y.name nm)):=by
 refine eP7 Tryz.func166 Tryz.ntmps166 fun BB=>?_
 repeat' first|refine sk2 ?_|(intro b;conv=>whnf)
 refine Rt.pure (congrArg bD ?_);rfl
theorem sk13 {A B:Prop} (k:B) (h:Hd7 B→A:=by intro hk7q;(first|refine sb0 ?_|refine sb1 ?_|((with_reducible refine' Cp.by ?hc ?_);(case hc=>exact bo2 x.kinds (fun y=>seq y.name nm) hl (fun y _=>bk5 y nm)))|((with_reducible refine' CE.pure ?hc ?_);(case hc=>exact bo2 x.kinds (fun y=>seq y.name nm) hl (fun y _=>bk5 y nm))));exact hk7q.run):A:=h ⟨k⟩
theorem ai0 (x:Sch) (nm:ByteArray) (hl:x.kinds.length≤1000000):APure Tryz.prog 60 [schD x,sD nm] (iD (ab1 x nm)):=by
 refine eP7 Tryz.func60 Tryz.ntmps60 fun BB=>?_
 repeat' first|refine sk13 ?_|(intro b;conv=>whnf)
 refine Rt.pure (congrArg iD ?_);rfl
theorem sk14 {A B:Prop} (k:B) (h:Hd7 B→A:=by intro hk7q;(first|refine sb0 ?_|refine sb1 ?_|((with_reducible refine' Cp.by ?hc ?_);(case hc=>exact bW3 k.fields (fun y=>seq y.name nm) hl (fun y _=>aY4 y nm)))|((with_reducible refine' CE.pure ?hc ?_);(case hc=>exact bW3 k.fields (fun y=>seq y.name nm) hl (fun y _=>aY4 y nm))));exact hk7q.run):A:=h ⟨k⟩
theorem ad3 (k:Knd) (nm:ByteArray) (hl:k.fields.length≤1000000):APure Tryz.prog 119 [kndD k,sD nm] (iD (aa3 k nm)):=by
 refine eP7 Tryz.func119 Tryz.ntmps119 fun BB=>?_
 repeat' first|refine sk14 ?_|(intro b;conv=>whnf)
 refine Rt.pure (congrArg iD ?_);rfl
theorem aY5 (x:Sch) (i j:Int):APure Tryz.prog 150 [schD x,iD i,iD j] (.tup [fldD (atR x i j).1,bD (atR x i j).2]):=by
 refine eP7 Tryz.func150 Tryz.ntmps150 fun BB=>?_
 repeat' first|refine sk2 ?_|(intro b;conv=>whnf)|refine IxM.mk fun y hy=>?_|(with_reducible refine Br.d (fun hc=>?_) (fun hc=>?_))|(with_reducible refine Br.b (fun hc=>?_) (fun hc=>?_))
 all_goals first
  | (have hr:atR x i j=(aD4,false):=(by unfold atR;rw [aj8 (by omega)]);rw [hr];exact Rt.vs (Vs.tup (VsL.cons ((Vs.le aC0).trans (Vs.drop (List.nil_sublist _))) (VsL.cons (Vs.refl _ _) (VsL.nil _)))))
  | (have hr:atR x i j=(aD4,false):=(by unfold atR;rw [af7 (by omega) (by omega) hy,List.getElem?_eq_none (by omega)]);rw [hr];exact Rt.vs (Vs.tup (VsL.cons ((Vs.le aC0).trans (Vs.drop (List.nil_sublist _))) (VsL.cons (Vs.refl _ _) (VsL.nil _)))))
  | (have hr:=aX9 (x:=x) (i:=i) (j:=j) (by omega) ‹x.kinds[i.toNat]?=some _› (by omega) hy;rw [hr];exact Rt.vs (Vs.refl _ _))
theorem bp8 {x:Sch} {i j:Int} {f:Fld} (h:fieldAt x i j=some f):atR x i j=(f,true):=by unfold atR;rw [h]
theorem bH2 {x:Sch} {i j:Int} (h:fieldAt x i j=none):atR x i j=(aD4,false):=by unfold atR;rw [h]
theorem sk15 {A B:Prop} (k:B) (h:Hd7 B→A:=by intro hk7q;(first|refine sb0 ?_|refine sb1 ?_|((with_reducible refine' Cp.by ?hc ?_);(case hc=>first|exact HA|exact ai0 _ _ (by assumption)|exact ad3 _ _ (by assumption)))|((with_reducible refine' CE.pure ?hc ?_);(case hc=>first|exact HA|exact ai0 _ _ (by assumption)|exact ad3 _ _ (by assumption))));exact hk7q.run):A:=h ⟨k⟩
theorem ck2 (x:Sch) (i j:Int) (f:Fld) (hl:x.kinds.length≤1000000) (hfa:fieldAt x i j=some f) (hk:f.kind=1):APure Tryz.prog 98 [schD x,iD i,iD j] (iD (refUp x i f)):=by
 have HA:=aY5 x i j
 rw [bp8 hfa] at HA
 refine eP7 Tryz.func98 Tryz.ntmps98 fun BB=>?_
 repeat' first|refine sk15 ?_|(intro b;conv=>whnf)|(with_reducible refine Br.d (fun hc=>?_) (fun hc=>?_))|(with_reducible refine Br.b (fun hc=>?_) (fun hc=>?_))
 all_goals (refine Rt.pure (congrArg iD ?_);unfold refUp;first|rw [if_pos (by assumption)]|rw [if_neg (by assumption)])
theorem sk16 {A B:Prop} (k:B) (h:Hd7 B→A:=by intro hk7q;(first|refine sb0 ?_|refine sb1 ?_|((with_reducible refine' Cp.by ?hc ?_);(case hc=>first|exact HA|exact HB|exact HU|exact ai0 _ _ (by assumption)|exact ad3 _ _ (by assumption)))|((with_reducible refine' CE.pure ?hc ?_);(case hc=>first|exact HA|exact HB|exact HU|exact ai0 _ _ (by assumption)|exact ad3 _ _ (by assumption))));exact hk7q.run):A:=h ⟨k⟩
theorem aw7 (x:Sch) (i j:Int) (hl:x.kinds.length≤1000000) (hf:∀ k∈x.kinds,k.fields.length≤1000000):APure Tryz.prog 98 [schD x,iD i,iD j] (iD (upIx x i j)):=by
 have HA:=aY5 x i j
 cases hfa:fieldAt x i j with
 | none=>
  rw [bH2 hfa] at HA
  refine eP7 Tryz.func98 Tryz.ntmps98 fun BB=>?_
  repeat' first|refine sk16 ?_|(intro b;conv=>whnf)|(with_reducible refine Br.d (fun hc=>?_) (fun hc=>?_))|(with_reducible refine Br.b (fun hc=>?_) (fun hc=>?_))
  refine Rt.pure (congrArg iD ?_);simp [upIx,hfa]
 | some f=>
  rw [bp8 hfa] at HA
  obtain ⟨h0,h1,k,hk,hkf⟩:=ag0 hfa
  have hfk:=hf k (List.mem_of_getElem? hk)
  have hka:ad5 x i=some k:=by simp [ad5,h0,hk]
  have hkl:=(List.getElem?_eq_some_iff.1 hk).1
  have hU:=aS7 hfa hka
  have HB:=aY5 x i (aa3 k f.up)
  cases hg:fieldAt x i (aa3 k f.up) with
  | none=>
   rw [bH2 hg] at HB
   simp only [hg,ax2,as7] at hU
   refine eP7 Tryz.func98 Tryz.ntmps98 fun BB=>?_
   repeat' first|refine sk16 ?_|(intro b;conv=>whnf)|(with_reducible refine Br.d (fun hc=>?_) (fun hc=>?_))|(with_reducible refine Br.b (fun hc=>?_) (fun hc=>?_))
   all_goals (refine Rt.pure (congrArg iD ?_);rw [hU];unfold refUp;(repeat' split) <;> first|rfl|omega)
  | some g=>
   rw [bp8 hg] at HB
   simp only [hg,ax2] at hU
   by_cases hg1:g.kind=1
   ·have HU:=ck2 x i (aa3 k f.up) g hl hg hg1
    refine eP7 Tryz.func98 Tryz.ntmps98 fun BB=>?_
    repeat' first|refine sk16 ?_|(intro b;conv=>whnf)|(with_reducible refine Br.d (fun hc=>?_) (fun hc=>?_))|(with_reducible refine Br.b (fun hc=>?_) (fun hc=>?_))
    all_goals (refine Rt.pure (congrArg iD ?_);rw [hU];(repeat' split) <;> first|rfl|omega|(unfold refUp;(repeat' split) <;> first|rfl|omega)|(unfold as7;simp only;unfold refUp;(repeat' split) <;> first|rfl|omega))
   ·refine eP7 Tryz.func98 Tryz.ntmps98 fun BB=>?_
    repeat' first|refine sk16 ?_|(intro b;conv=>whnf)|(with_reducible refine Br.d (fun hc=>?_) (fun hc=>?_))|(with_reducible refine Br.b (fun hc=>?_) (fun hc=>?_))
    all_goals (refine Rt.pure (congrArg iD ?_);rw [hU];(repeat' split) <;> first|rfl|omega|(unfold refUp;(repeat' split) <;> first|rfl|omega)|(unfold as7;simp only;unfold refUp;(repeat' split) <;> first|rfl|omega))
end
section
open Go
theorem sk17 {A B:Prop} (k:B) (h:Hd7 B→A:=by intro hk7q;(first|refine sb0 ?_|refine sb1 ?_|((with_reducible refine' Cp.by ?hc ?_);(case hc=>first|exact ai0 _ _ (by assumption)|exact aw7 _ _ _ (by assumption) (by assumption)))|((with_reducible refine' CE.pure ?hc ?_);(case hc=>first|exact ai0 _ _ (by assumption)|exact aw7 _ _ _ (by assumption) (by assumption))));exact hk7q.run):A:=h ⟨k⟩
theorem cl2 {p:Prop} (h:p:=by repeat (first|exact List.Sublist.refl _|exact List.nil_sublist _|apply List.Sublist.cons)):p:=h
theorem aD7 (x:Sch) (i:Int) (f:Fld) (hi:0≤i) (hl:x.kinds.length≤1000000) (hf:∀ k∈x.kinds,k.fields.length≤1000000):APure Tryz.prog 209 [schD x,iD i,fldD f] (.tup [iD (aq3 x i f).1,slI (aq3 x i f).2]):=by
 refine eP7 Tryz.func209 Tryz.ntmps209 fun BB=>?_
 have hkl:=aC2 x f.of
 have hno:f.kind≠6∨ab1 x f.of≤i→aq3 x i f=(-1,[]):=fun h=>by unfold aq3;rw [aF2 h];rfl
 repeat' first|refine sk17 ?_|(intro b;conv=>whnf)|refine IxM.mk fun y hy=>?_|(with_reducible refine Br.d (fun hc=>?_) (fun hc=>?_))|(with_reducible refine Br.b (fun hc=>?_) (fun hc=>?_))
 ·rw [hno (by omega)]
  exact Rt.vs (Vs.tup (VsL.cons (Vs.refl _ _) (VsL.cons (bj8 _ _) (VsL.nil _))))
 ·obtain ⟨ko,rfl⟩:∃ ko,ko=y:=⟨_,rfl⟩
  have hko:=hy
  clear hy
  have h6:f.kind=6:=by omega
  have hno':=aF3 (x:=x) (i:=i) h6 (by omega)
  obtain ⟨o,ho⟩:=Int.eq_ofNat_of_zero_le (show 0≤ab1 x f.of by omega)
  rw [ho] at hko
  have hko:x.kinds[o]?=some ko:=hko
  have hS:aq3 x i f=((o:Int),aj0 x o i f ko.fields ko.fields.length):=by
   unfold aq3;rw [hno',aK1 x i f o ko ho hko,ho];rfl
  have hfk:=hf ko (List.mem_of_getElem? hko)
  rw [ho]
  refine af0 mixed aa0 (γ:=Nat × Value × aa1) (fun g=>[(9,.v g.2.1),(31,iD g.1)]) (fun g=>g.2.2) (fun g=>g.1≤ko.fields.length∧RowIs 3 1 (slN (aj0 x o i f ko.fields g.1)) g.2.1 g.2.2) (fun g=>ko.fields.length - g.1) (0,.slice none 0 0,[]) rfl cl2 ⟨Nat.zero_le _,RowIs.nil _ _⟩ ?_
  rintro ⟨q,v,s⟩ ⟨hq,hrow⟩
  simp only at hq hrow ⊢
  repeat' first|refine sk17 ?_|(intro b;conv=>whnf)|refine IxM.mk fun y hy=>?_|(with_reducible refine Br.d (fun hc=>?_) (fun hc=>?_))|(with_reducible refine Br.b (fun hc=>?_) (fun hc=>?_))
  ·have hsh:ar7 x o i f y q=true:=by simp [ar7,seq, *]
   have Hs:=aq9 x o i f ko.fields q y hy
   rw [hsh,if_pos rfl] at Hs
   have hlen:=aF1 x o i f ko.fields (q+1)
   refine Ap.go rfl rfl rfl rfl hrow (ba7 _ _) rfl (zs:=slN (aj0 x o i f ko.fields (q+1))) (by rw [Hs];simp only [slN,List.map_append];rfl) (by simp [slN];omega) (by simp [slN];omega) (fun s'=>_ :: s') (aL4 _) (fun a c s' hr=>?_)
   repeat' first|refine sk17 ?_|(intro b;conv=>whnf)|refine IxM.mk fun y hy=>?_
   exact ⟨(q+1,_,s'),rfl,List.Sublist.cons _ (List.Sublist.refl _),⟨by simp only;omega,hr⟩,by simp only;omega⟩
  iterate 3
   have hsh:ar7 x o i f y q=false:=by simp [ar7,seq, *]
   have Hs:=aq9 x o i f ko.fields q y hy
   rw [hsh,if_neg (by simp),List.append_nil] at Hs
   exact ⟨(q+1,v,s),rfl,List.Sublist.cons _ (List.Sublist.refl _),⟨by simp only;omega,by simp only;rw [Hs];exact hrow⟩,by simp only;omega⟩
  ·obtain rfl:q=ko.fields.length:=by omega
   rw [hS]
   exact Rt.vs (Vs.tup (VsL.cons (Vs.refl _ _) (VsL.cons (Vs.row hrow (bz9 _)) (VsL.nil _))))
 ·rw [hno (by omega)]
  exact Rt.vs (Vs.tup (VsL.cons (Vs.refl _ _) (VsL.cons (bj8 _ _) (VsL.nil _))))
theorem HS1 {x:Sch} {i j:Int} {f:Fld} {o:Int} {l:List Int} (hfa:fieldAt x i j=some f) (hs:aq3 x i f=(o,l)):aq4 x i j=cb7 o l:=by
 simp only [aq4,hfa,hs]
theorem sk18 {A B:Prop} (k:B) (h:Hd7 B→A:=by intro hk7q;(first|refine sb0 ?_|refine sb1 ?_|((with_reducible refine' Cp.by ?hc ?_);(case hc=>first|exact HA|exact HS))|((with_reducible refine' CE.pure ?hc ?_);(case hc=>first|exact HA|exact HS)));exact hk7q.run):A:=h ⟨k⟩
theorem bw2 (x:Sch) (i j:Int) (hl:x.kinds.length≤1000000) (hf:∀ k∈x.kinds,k.fields.length≤1000000):APure Tryz.prog 172 [schD x,iD i,iD j] (.tup [iD (aq4 x i j).1,iD (aq4 x i j).2]):=by
 have HA:=aY5 x i j
 cases hfa:fieldAt x i j with
 | none=>
  rw [bH2 hfa] at HA
  refine eP7 Tryz.func172 Tryz.ntmps172 fun BB=>?_
  repeat' first|refine sk18 ?_|(intro b;conv=>whnf)|(with_reducible refine Br.d (fun hc=>?_) (fun hc=>?_))|(with_reducible refine Br.b (fun hc=>?_) (fun hc=>?_))
  exact Rt.pure (by simp only [aq4,hfa])
 | some f=>
  rw [bp8 hfa] at HA
  have HS:=aD7 x i f (ag0 hfa).1 hl hf
  rcases hs:aq3 x i f with ⟨o,l⟩
  have hsr:=HS1 hfa hs
  rw [hs] at HS
  simp only at HS
  by_cases hl1:l.length=1
  ·obtain ⟨m,rfl⟩:=List.length_eq_one_iff.1 hl1
   refine eP7 Tryz.func172 Tryz.ntmps172 fun BB=>?_
   repeat' first|refine sk18 ?_|(intro b;conv=>whnf)|(with_reducible refine Br.d (fun hc=>?_) (fun hc=>?_))|(with_reducible refine Br.b (fun hc=>?_) (fun hc=>?_))
   exact Rt.pure (by rw [hsr];rfl)
  ·have hsr':aq4 x i j=(-1,-1):=by rw [hsr,bM1 hl1]
   refine eP7 Tryz.func172 Tryz.ntmps172 fun BB=>?_
   repeat' first|refine sk18 ?_|(intro b;conv=>whnf)|(with_reducible refine Br.d (fun hc=>?_) (fun hc=>?_))|(with_reducible refine Br.b (fun hc=>?_) (fun hc=>?_))
   exact Rt.pure (by rw [hsr'])
end
section
open Go
theorem aS9 (fs:List (Bool × Int)) (hl:fs.length≤1000):APure Tryz.prog 147 [.sl 2 (fs.map fun p=>[bD p.1,iD p.2])] (iD (ak3 fs)):=by
 refine eP7 Tryz.func147 Tryz.ntmps147 fun BB=>?_
 repeat' first|refine sk2 ?_|(intro b;conv=>whnf)|refine IxM.mk fun y hy=>?_
 refine af0 mixed aa0 (γ:=Nat) (fun q=>[(7,iD q)]) (fun _=>[]) (fun q=>q≤fs.length∧∀ (m:Nat) y,m<q→fs[m]?=some y→y.1=false) (fun q=>fs.length - q) 0 rfl cl2 ⟨by omega,fun m y hm=>by omega⟩ ?_
 rintro q ⟨hq,hno⟩
 repeat' first|refine sk2 ?_|(intro b;conv=>whnf)|refine IxM.mk fun y hy=>?_|(with_reducible refine Br.d (fun hc=>?_) (fun hc=>?_))|(with_reducible refine Br.b (fun hc=>?_) (fun hc=>?_))
 ·refine Rt.pure (congrArg iD ?_);exact (bE6 hno hy (by assumption)).symm
 ·exact ⟨q+1,rfl,cl2,⟨by omega,fun m z hm hz=>by
   by_cases e:m=q
   ·subst e;rw [show ((m:Int)).toNat=m from rfl,hz] at hy;cases hy;assumption
   ·exact hno m z (by omega) hz⟩,by omega⟩
 ·refine Rt.pure (congrArg iD ?_);exact (bi1 (fun m y hy=>hno m y (by have:=(List.getElem?_eq_some_iff.1 hy).1;omega) hy)).symm
theorem ad2 (b:Bool) (c:Int):APure Tryz.prog 147 [.sl 2 [[bD b,iD c]]] (iD (ak3 [(b,c)])):=aS9 [(b,c)] (by simp)
theorem ad1 (b:Bool) (c:Int) (b':Bool) (c':Int):APure Tryz.prog 147 [.sl 2 [[bD b,iD c],[bD b',iD c']]] (iD (ak3 [(b,c),(b',c')])):=aS9 [(b,c),(b',c')] (by simp)
theorem ap6 (b1 b2 b3 b4:Bool) (c1 c2 c3 c4:Int):APure Tryz.prog 147 [.sl 2 [[bD b1,iD c1],[bD b2,iD c2],[bD b3,iD c3],[bD b4,iD c4]]] (iD (ak3 [(b1,c1),(b2,c2),(b3,c3),(b4,c4)])):=aS9 [(b1,c1),(b2,c2),(b3,c3),(b4,c4)] (by simp)
def ck6 (x:Sch) (i j:Int) (f:Fld):List D:=[iD x.version,slK x.kinds,slL x.lives,slR x.rules,iD i,iD j,sD f.name,sD f.of,sD f.up,iD f.kind,iD f.lo,iD f.hi,slS f.words,slI f.weights]
abbrev aT4 (x:Sch) (i j:Int) (f:Fld):D:=.agg (ck6 x i j f)
theorem sk19 {A B:Prop} (k:B) (h:Hd7 B→A:=by intro hk7q;(first|refine sb0 ?_|refine sb1 ?_|((with_reducible refine' Cp.by ?hc ?_);(case hc=>exact aw7 x _ _ hl hf))|((with_reducible refine' CE.pure ?hc ?_);(case hc=>exact aw7 x _ _ hl hf)));exact hk7q.run):A:=h ⟨k⟩
theorem aS8 (x:Sch) (i j:Int) (f:Fld) (hl:x.kinds.length≤1000000) (hf:∀ k∈x.kinds,k.fields.length≤1000000):APure Tryz.prog 294 [aT4 x i j f] (bD (decide (upIx x i j<0))):=by
 refine eP7 Tryz.func294 Tryz.ntmps294 fun BB=>?_
 repeat' first|refine sk19 ?_|(intro b;conv=>whnf)
 refine Rt.pure (congrArg bD ?_);rfl
theorem sk20 {A B:Prop} (k:B) (h:Hd7 B→A:=by intro hk7q;(first|refine sb0 ?_|refine sb1 ?_|((with_reducible refine' Cp.by ?hc ?_);(case hc=>first|exact aw7 x _ _ hl hf|exact HA|exact ad3 _ _ (by assumption)))|((with_reducible refine' CE.pure ?hc ?_);(case hc=>first|exact aw7 x _ _ hl hf|exact HA|exact ad3 _ _ (by assumption))));exact hk7q.run):A:=h ⟨k⟩
theorem bT6 (x:Sch) (i j:Int) (f:Fld) (hl:x.kinds.length≤1000000) (hf:∀ k∈x.kinds,k.fields.length≤1000000):APure Tryz.prog 304 [aT4 x i j f] (.tup [fldD (topR x i j f).1,bD (topR x i j f).2]):=by
 have hul:=bv3 x i j
 refine eP7 Tryz.func304 Tryz.ntmps304 fun BB=>?_
 by_cases hu:upIx x i j<0
 ·have ht:topR x i j f=(aD4,false):=by unfold topR;rw [bw3 hu]
  repeat' first|refine sk20 ?_|(intro b;conv=>whnf)|(with_reducible refine Br.d (fun hc=>?_) (fun hc=>?_))|(with_reducible refine Br.b (fun hc=>?_) (fun hc=>?_))
  rw [ht]
  exact Rt.vs (Vs.tup (VsL.cons (Vs.le aC0) (VsL.cons (Vs.refl _ _) (VsL.nil _))))
 ·obtain ⟨ko,hko⟩:∃ ko,x.kinds[(upIx x i j).toNat]?=some ko:=⟨_,List.getElem?_eq_getElem (by omega)⟩
  have hfk:=hf ko (List.mem_of_getElem? hko)
  have htf:=bw4 (f:=f) hu hko
  have HA:=aY5 x (upIx x i j) (aa3 ko f.of)
  have ht:topR x i j f=atR x (upIx x i j) (aa3 ko f.of):=by unfold topR atR;rw [htf]
  repeat' first|refine sk20 ?_|(intro b;conv=>whnf)|(with_reducible refine Br.d (fun hc=>?_) (fun hc=>?_))|(with_reducible refine Br.b (fun hc=>?_) (fun hc=>?_))
  rw [ht]
  exact Rt.vs (Vs.refl _ _)
end
section
open Go
theorem aq0 (b:Bool) (c:Int):ak3 [(b,c)]=if b=true then c else 0:=by cases b <;> rfl
theorem as0 (b b':Bool) (c c':Int):ak3 [(b,c),(b',c')]=if b=true then c else if b'=true then c' else 0:=by cases b <;> cases b' <;> rfl
theorem cq9 {x:Sch} {i j:Int} {f:Fld} (hk:f.kind=0):ac3 x i j f=if 0<j then 13 else 0:=by
 unfold ac3;by_cases h:0<j <;> simp [hk,h]
theorem cq8 {x:Sch} {i j:Int} {f:Fld} (hk:f.kind=1):ac3 x i j f=if upIx x i j<0 then 12 else 0:=by simp [ac3,hk]
theorem cq7 {x:Sch} {i j:Int} {f:Fld} (hk:f.kind=4):ac3 x i j f=dayE x i j f:=by simp [ac3,hk]
theorem cq6 {x:Sch} {i j:Int} {f:Fld} (hk:f.kind=5):ac3 x i j f=if x.lives.any (fun l=>seq l.name f.of) then 0 else 12:=by simp only [ac3,hk];simp
theorem cq5 {x:Sch} {i j:Int} {f:Fld} (hk:f.kind=6):ac3 x i j f=if (aq3 x i f).1<0 then 12 else if (aq3 x i f).2.length=1 then 0 else 11:=by simp [ac3,hk]
theorem cq4 {x:Sch} {i j:Int} {f:Fld} (hk:f.kind=7):ac3 x i j f=if upIx x i j<0 then 12 else if (abvR x i j f).1=6∧ab1 x (abvR x i j f).2.of=i then 0 else 13:=by simp [ac3,az6,hk]
theorem cq3 {x:Sch} {i j:Int} {f:Fld} (hk:f.kind=8):ac3 x i j f=if upIx x i j<0 then 12 else if (abvR x i j f).1<0∨(abvR x i j f).1=0∨(abvR x i j f).1=1∨(abvR x i j f).1=6∨(abvR x i j f).1=7 then 13 else 0:=by simp [ac3,az6,hk]
theorem sk21 {A B:Prop} (k:B) (h:Hd7 B→A:=by intro hk7q;(first|refine sb0 ?_|refine sb1 ?_|((with_reducible refine' Cp.by ?hc ?_);(case hc=>first|exact ad2 _ _|exact ad1 _ _ _ _))|((with_reducible refine' CE.pure ?hc ?_);(case hc=>first|exact ad2 _ _|exact ad1 _ _ _ _)));exact hk7q.run):A:=h ⟨k⟩
theorem bw1 (x:Sch) (i j:Int) (f:Fld) (hk:f.kind=0):APure Tryz.prog 297 [aT4 x i j f] (iD (ac3 x i j f)):=by
 refine eP7 Tryz.func297 Tryz.ntmps297 fun BB=>?_
 repeat' first|refine sk21 ?_|(intro b;conv=>whnf)
 refine Rt.pure (congrArg iD ?_)
 rw [aq0,cq9 hk]
 simp
theorem sk22 {A B:Prop} (k:B) (h:Hd7 B→A:=by intro hk7q;(first|refine sb0 ?_|refine sb1 ?_|((with_reducible refine' Cp.by ?hc ?_);(case hc=>first|exact ad2 _ _|exact ad1 _ _ _ _|exact aS8 x i j f hl hf))|((with_reducible refine' CE.pure ?hc ?_);(case hc=>first|exact ad2 _ _|exact ad1 _ _ _ _|exact aS8 x i j f hl hf)));exact hk7q.run):A:=h ⟨k⟩
theorem bw0 (x:Sch) (i j:Int) (f:Fld) (hl:x.kinds.length≤1000000) (hf:∀ k∈x.kinds,k.fields.length≤1000000) (hk:f.kind=1):APure Tryz.prog 298 [aT4 x i j f] (iD (ac3 x i j f)):=by
 refine eP7 Tryz.func298 Tryz.ntmps298 fun BB=>?_
 repeat' first|refine sk22 ?_|(intro b;conv=>whnf)
 refine Rt.pure (congrArg iD ?_)
 rw [aq0,cq8 hk]
 simp
theorem sk23 {A B:Prop} (k:B) (h:Hd7 B→A:=by intro hk7q;(first|refine sb0 ?_|refine sb1 ?_|((with_reducible refine' Cp.by ?hc ?_);(case hc=>first|exact ad2 _ _|exact ad1 _ _ _ _|exact HA|exact ad3 _ _ (by assumption)))|((with_reducible refine' CE.pure ?hc ?_);(case hc=>first|exact ad2 _ _|exact ad1 _ _ _ _|exact HA|exact ad3 _ _ (by assumption))));exact hk7q.run):A:=h ⟨k⟩
theorem bv9 (x:Sch) (i j:Int) (f:Fld) (hl:x.kinds.length≤1000000) (hf:∀ k∈x.kinds,k.fields.length≤1000000) (hfa:fieldAt x i j=some f) (hk:f.kind=4):APure Tryz.prog 299 [aT4 x i j f] (iD (ac3 x i j f)):=by
 obtain ⟨h0,h1,k,hk0,hkf⟩:=ag0 hfa
 have hfk:=hf k (List.mem_of_getElem? hk0)
 have hka:ad5 x i=some k:=by simp [ad5,h0,hk0]
 have hfl:=ar4 k f.of
 rw [cq7 hk]
 simp only [dayE,hka]
 have HA:=aY5 x i (aa3 k f.of)
 by_cases hn:aa3 k f.of<0
 ·rw [bp7 hn] at HA
  refine eP7 Tryz.func299 Tryz.ntmps299 fun BB=>?_
  repeat' first|refine sk23 ?_|(intro b;conv=>whnf)|(with_reducible refine Br.d (fun hc=>?_) (fun hc=>?_))|(with_reducible refine Br.b (fun hc=>?_) (fun hc=>?_))
  all_goals (refine Rt.pure (congrArg iD ?_);rw [aq0,← eqE];generalize (f.of.toList == ({ data:=#[] }:ByteArray).toList)=e at *;simp [*])
 ·obtain ⟨g,hg⟩:∃ g,k.fields[(aa3 k f.of).toNat]?=some g:=⟨_,List.getElem?_eq_getElem (by omega)⟩
  rw [aX9 h0 hk0 (by omega) hg] at HA
  rw [hg]
  refine eP7 Tryz.func299 Tryz.ntmps299 fun BB=>?_
  repeat' first|refine sk23 ?_|(intro b;conv=>whnf)|(with_reducible refine Br.d (fun hc=>?_) (fun hc=>?_))|(with_reducible refine Br.b (fun hc=>?_) (fun hc=>?_))
  all_goals (refine Rt.pure (congrArg iD ?_);rw [aq0,← eqE];generalize (f.of.toList == ({ data:=#[] }:ByteArray).toList)=e at *;simp [*])
theorem aP3 (x:Sch) (i j:Int) (f:Fld) (y:Lif):APure Tryz.prog 301 [lifD y,.ro (ck6 x i j f)] (bD (seq y.name f.of)):=by
 refine eP7 Tryz.func301 Tryz.ntmps301 fun BB=>?_
 repeat' first|refine sk2 ?_|(intro b;conv=>whnf)
 refine Rt.pure (congrArg bD ?_);rfl
theorem sk24 {A B:Prop} (k:B) (h:Hd7 B→A:=by intro hk7q;(first|refine sb0 ?_|refine sb1 ?_|((with_reducible refine' Cp.by ?hc ?_);(case hc=>first|exact ad2 _ _|exact ad1 _ _ _ _|exact bi7 x.lives (fun y=>seq y.name f.of) hll (fun y _=>aP3 x i j f y)))|((with_reducible refine' CE.pure ?hc ?_);(case hc=>first|exact ad2 _ _|exact ad1 _ _ _ _|exact bi7 x.lives (fun y=>seq y.name f.of) hll (fun y _=>aP3 x i j f y))));exact hk7q.run):A:=h ⟨k⟩
theorem bv8 (x:Sch) (i j:Int) (f:Fld) (hll:x.lives.length≤1000000) (hk:f.kind=5):APure Tryz.prog 300 [aT4 x i j f] (iD (ac3 x i j f)):=by
 refine eP7 Tryz.func300 Tryz.ntmps300 fun BB=>?_
 repeat' first|refine sk24 ?_|(intro b;conv=>whnf)
 refine Rt.pure (congrArg iD ?_)
 rw [aq0,cq6 hk]
 cases x.lives.any (fun l=>seq l.name f.of) <;> rfl
theorem sk25 {A B:Prop} (k:B) (h:Hd7 B→A:=by intro hk7q;(first|refine sb0 ?_|refine sb1 ?_|((with_reducible refine' Cp.by ?hc ?_);(case hc=>first|exact ad2 _ _|exact ad1 _ _ _ _|exact aD7 x i f h0 hl hf))|((with_reducible refine' CE.pure ?hc ?_);(case hc=>first|exact ad2 _ _|exact ad1 _ _ _ _|exact aD7 x i f h0 hl hf)));exact hk7q.run):A:=h ⟨k⟩
theorem bv7 (x:Sch) (i j:Int) (f:Fld) (h0:0≤i) (hl:x.kinds.length≤1000000) (hf:∀ k∈x.kinds,k.fields.length≤1000000) (hk:f.kind=6):APure Tryz.prog 302 [aT4 x i j f] (iD (ac3 x i j f)):=by
 refine eP7 Tryz.func302 Tryz.ntmps302 fun BB=>?_
 repeat' first|refine sk25 ?_|(intro b;conv=>whnf)
 refine Rt.pure (congrArg iD ?_)
 rw [as0,cq5 hk]
 simp only [List.length_map]
 by_cases h1:(aq3 x i f).1<0 <;> by_cases h2:(aq3 x i f).2.length=1 <;> simp [h1,h2] <;> omega
theorem bi8 {x:Sch} {i j:Int} {f:Fld}:(abvR x i j f).1=(if (topR x i j f).2=true then (topR x i j f).1.kind else -1)∧(abvR x i j f).2=(topR x i j f).1:=by
 unfold abvR topR;cases topF x i j f <;> simp
theorem cg4 {k u:Int} (B:Bool) (p:Bool) (h:0≤k∧k≤8) (hB:B=true↔(k=0∨k=1∨k=6∨k=7)) {_hp:p=decide (u<0)} :
  (if p=true then (12:Int) else if B=true then 13 else 0)=if u<0 then 12 else if (if true=true then k else -1)<0∨(if true=true then k else -1)=0∨(if true=true then k else -1)=1∨(if true=true then k else -1)=6∨(if true=true then k else -1)=7 then 13 else 0:=by
 subst _hp
 simp only [if_true,decide_eq_true_eq]
 by_cases hu:u<0
 ·rw [if_pos hu,if_pos hu]
 ·rw [if_neg hu,if_neg hu]
  by_cases hb:B=true
  ·rw [if_pos hb,if_pos (by have:=hB.1 hb;omega)]
  ·rw [if_neg hb,if_neg (by intro h';exact hb (hB.2 (by omega)))]
theorem sk26 {A B:Prop} (k:B) (h:Hd7 B→A:=by intro hk7q;(first|refine sb0 ?_|refine sb1 ?_|((with_reducible refine' Cp.by ?hc ?_);(case hc=>first|exact ad2 _ _|exact ad1 _ _ _ _|exact aS8 x i j f hl hf|exact HT|exact ai0 _ _ (by assumption)))|((with_reducible refine' CE.pure ?hc ?_);(case hc=>first|exact ad2 _ _|exact ad1 _ _ _ _|exact aS8 x i j f hl hf|exact HT|exact ai0 _ _ (by assumption))));exact hk7q.run):A:=h ⟨k⟩
theorem bv6 (x:Sch) (i j:Int) (f:Fld) (hl:x.kinds.length≤1000000) (hf:∀ k∈x.kinds,k.fields.length≤1000000) (hk:f.kind=7):APure Tryz.prog 303 [aT4 x i j f] (iD (ac3 x i j f)):=by
 rw [cq4 hk,bi8.1,bi8.2]
 have HT:=bT6 x i j f hl hf
 rcases ht:topR x i j f with ⟨g,b⟩
 rw [ht] at HT
 simp only at HT ⊢
 refine eP7 Tryz.func303 Tryz.ntmps303 fun BB=>?_
 cases b
 ·repeat' first|refine sk26 ?_|(intro b;conv=>whnf)|(with_reducible refine Br.d (fun hc=>?_) (fun hc=>?_))|(with_reducible refine Br.b (fun hc=>?_) (fun hc=>?_))
  all_goals (refine Rt.pure (congrArg iD ?_);rw [as0];simp [*])
 ·repeat' first|refine sk26 ?_|(intro b;conv=>whnf)|(with_reducible refine Br.d (fun hc=>?_) (fun hc=>?_))|(with_reducible refine Br.b (fun hc=>?_) (fun hc=>?_))
  all_goals (refine Rt.pure (congrArg iD ?_);rw [as0];simp [*])
theorem bv5 (x:Sch) (i j:Int) (f:Fld) (hl:x.kinds.length≤1000000) (hf:∀ k∈x.kinds,k.fields.length≤1000000) (hg:∀ k∈x.kinds,∀ g∈k.fields,0≤g.kind∧g.kind≤8) (hk:f.kind=8):APure Tryz.prog 305 [aT4 x i j f] (iD (ac3 x i j f)):=by
 rw [cq3 hk,bi8.1]
 have HT:=bT6 x i j f hl hf
 have hgk:(topR x i j f).2=true→0≤(topR x i j f).1.kind∧(topR x i j f).1.kind≤8:=by
  unfold topR
  cases ht:topF x i j f with
  | none=>intro h;cases h
  | some g=>
   intro _
   unfold topF at ht
   split at ht
   ·cases ht
   ·split at ht
    ·obtain ⟨_,_,k',hk',hkf⟩:=ag0 ht
     exact hg k' (List.mem_of_getElem? hk') g (List.mem_of_getElem? hkf)
    ·cases ht
 rcases ht:topR x i j f with ⟨g,b⟩
 rw [ht] at HT hgk
 simp only at HT hgk ⊢
 refine eP7 Tryz.func305 Tryz.ntmps305 fun BB=>?_
 cases b
 ·repeat' first|refine sk26 ?_|(intro b;conv=>whnf)|(with_reducible refine Br.d (fun hc=>?_) (fun hc=>?_))|(with_reducible refine Br.b (fun hc=>?_) (fun hc=>?_))
  all_goals (refine Rt.pure (congrArg iD ?_);rw [as0];simp [*])
 ·have hgk:=hgk rfl
  repeat' first|refine sk26 ?_|(intro b;conv=>whnf)|(with_reducible refine Br.d (fun hc=>?_) (fun hc=>?_))|(with_reducible refine Br.b (fun hc=>?_) (fun hc=>?_))
  all_goals (clear HT;refine Rt.pure (congrArg iD ?_);rw [as0];refine cg4 _ _ hgk ?_ (_hp:=rfl);first|(simp;omega)|(simp only [Bool.false_eq_true,false_iff];omega)|(simp only [true_iff];omega))
end
section
open Go
theorem sk27 {A B:Prop} (k:B) (h:Hd7 B→A:=by intro hk7q;(first|refine sb0 ?_|refine sb1 ?_|((with_reducible refine' Cp.by ?hc ?_);(case hc=>first|exact ad2 _ _|exact ad1 _ _ _ _|exact ap6 _ _ _ _ _ _ _ _|exact ai0 _ _ (by assumption)))|((with_reducible refine' CE.pure ?hc ?_);(case hc=>first|exact ad2 _ _|exact ad1 _ _ _ _|exact ap6 _ _ _ _ _ _ _ _|exact ai0 _ _ (by assumption))));exact hk7q.run):A:=h ⟨k⟩
theorem bk4 (x:Sch) (i:Nat) (k:Knd) (hl:x.kinds.length≤1000000) (hk:x.kinds[i]?=some k):APure Tryz.prog 148 [schD x,iD i] (iD (am6 x i k)):=by
 have hk:x.kinds[((i:Nat):Int).toNat]?=some k:=hk
 have hil:=(List.getElem?_eq_some_iff.1 hk).1
 refine eP7 Tryz.func148 Tryz.ntmps148 fun BB=>?_
 rcases hfs:k.fields with _|⟨g,r⟩
 ·have h0:k.fields.length=0:=by rw [hfs];rfl
  repeat' first|refine sk27 ?_|(intro b;conv=>whnf)|(with_reducible refine Br.d (fun hc=>?_) (fun hc=>?_))|(with_reducible refine Br.b (fun hc=>?_) (fun hc=>?_))
  all_goals (refine Rt.pure (congrArg iD ?_);rw [as0];unfold am6 aQ6;rw [hfs];simp [*])
 ·have hg:k.fields[(0:Int).toNat]?=some g:=by rw [hfs];rfl
  have h0:0<k.fields.length:=by rw [hfs];simp
  repeat' first|refine sk27 ?_|(intro b;conv=>whnf)|(with_reducible refine Br.d (fun hc=>?_) (fun hc=>?_))|(with_reducible refine Br.b (fun hc=>?_) (fun hc=>?_))
  all_goals (refine Rt.pure (congrArg iD ?_);rw [as0];unfold am6 aQ6;rw [hfs];simp [*])
theorem bk3 (y r:Rul):APure Tryz.prog 199 [rulD y,.ro (rulC r)] (bD (seq y.name r.name)):=by
 refine eP7 Tryz.func199 Tryz.ntmps199 fun BB=>?_
 repeat' first|refine sk2 ?_|(intro b;conv=>whnf)
 refine Rt.pure (congrArg bD ?_);rfl
def ruI (x:Sch) (k:Knd) (o:Int) (r:Rul) (g:Nat × Bool × Bool):Prop:=(g.1=0∧g.2.1=false∧g.2.2=false)∨(g.1=1∧g.2.1=ae4 x k o r.a∧g.2.2=ac9 x k o r.a)∨(g.1=2∧g.2.1=(ae4 x k o r.a || ae4 x k o r.b)∧g.2.2=(ac9 x k o r.a || ac9 x k o r.b))
theorem sk28 {A B:Prop} (k:B) (h:Hd7 B→A:=by intro hk7q;(first|refine sb0 ?_|refine sb1 ?_|((with_reducible refine' Cp.by ?hc ?_);(case hc=>first|exact ad2 _ _|exact ad1 _ _ _ _|exact ap6 _ _ _ _ _ _ _ _|exact HR|exact HF|exact HAT|exact ai0 _ _ (by assumption)))|((with_reducible refine' CE.pure ?hc ?_);(case hc=>first|exact ad2 _ _|exact ad1 _ _ _ _|exact ap6 _ _ _ _ _ _ _ _|exact HR|exact HF|exact HAT|exact ai0 _ _ (by assumption))));exact hk7q.run):A:=h ⟨k⟩
theorem cl3 {p:Prop} (h:p:=by repeat (first|exact Chk.nil|refine Chk.cons rfl ?_)):p:=h
theorem bq4 (x:Sch) (i:Nat) (r:Rul) (hl:x.kinds.length≤1000000) (hrl:x.rules.length≤1000000) (hr:x.rules[i]?=some r) (hk:ab1 x r.kind<0):APure Tryz.prog 149 [schD x,iD i] (iD (au3 x i r)):=by
 have hr:x.rules[((i:Nat):Int).toNat]?=some r:=hr
 have hil:=(List.getElem?_eq_some_iff.1 hr).1
 have HR:APure Tryz.prog 198 [.sl 5 ((x.rules.map rulC).take i),.clo 199 [.ro (rulC r)]] (bD (ae1 x i r)):=by
  rw [← List.map_take];exact bH7 (x.rules.take i) (fun s=>seq s.name r.name) (by simp;omega) (fun y _=>bk3 y r)
 have hE:au3 x i r=ak3 [(ae1 x i r,7),(true,12),(false,13),(seq r.a r.b,1)]:=by
  have:ad5 x (ab1 x r.kind)=none:=by unfold ad5;rw [if_neg (by omega)]
  simp only [au3,this]
 refine eP7 Tryz.func149 Tryz.ntmps149 fun BB=>?_
 repeat' first|refine sk28 ?_|(intro b;conv=>whnf)
 refine CE.pk (APk.peek (.cons (Pk.same _) (.cons (Pk.clo (.cons (Pk.ptr (j:=0) rfl (PkL.refl _)) .nil)) .nil)) HR rfl) ?_
 repeat' first|refine sk28 ?_|(intro b;conv=>whnf)
 refine af0 mixed aa0 (γ:=Nat) (fun j=>[(37,iD j),(8,bD (decide (ab1 x r.kind<0))),(9,bD false)]) (fun _=>[(b,.cells 92 (rulC r))]) (fun j=>j≤2) (fun j=>2 - j) 0 (aa2 cl3) cl2 (by omega) ?_
 rintro j hj
 obtain rfl|rfl|rfl:j=0∨j=1∨j=2:=by omega
 ·repeat' first|refine sk28 ?_|(intro b;conv=>whnf)|(with_reducible refine Br.d (fun hc=>?_) (fun hc=>?_))|(with_reducible refine Br.b (fun hc=>?_) (fun hc=>?_))
  all_goals exact ⟨1,(aa2 cl3),cl2,by omega,by omega⟩
 ·repeat' first|refine sk28 ?_|(intro b;conv=>whnf)|(with_reducible refine Br.d (fun hc=>?_) (fun hc=>?_))|(with_reducible refine Br.b (fun hc=>?_) (fun hc=>?_))
  all_goals exact ⟨2,(aa2 cl3),cl2,by omega,by omega⟩
 ·repeat' first|refine sk28 ?_|(intro b;conv=>whnf)|(with_reducible refine Br.d (fun hc=>?_) (fun hc=>?_))|(with_reducible refine Br.b (fun hc=>?_) (fun hc=>?_))
  refine Rt.pure (congrArg iD ?_)
  rw [hE,decide_eq_true hk];rfl
theorem sk29 {A B:Prop} (k:B) (h:Hd7 B→A:=by intro hk7q;(first|refine sb0 ?_|refine sb1 ?_|((with_reducible refine' Cp.by ?hc ?_);(case hc=>first|exact ad2 _ _|exact ad1 _ _ _ _|exact ap6 _ _ _ _ _ _ _ _|exact HR|exact aY5 _ _ _|exact ai0 _ _ (by assumption)|exact ad3 _ _ (by assumption)))|((with_reducible refine' CE.pure ?hc ?_);(case hc=>first|exact ad2 _ _|exact ad1 _ _ _ _|exact ap6 _ _ _ _ _ _ _ _|exact HR|exact aY5 _ _ _|exact ai0 _ _ (by assumption)|exact ad3 _ _ (by assumption))));exact hk7q.run):A:=h ⟨k⟩
theorem bf4 (x:Sch) (i:Nat) (r:Rul) (k:Knd) (hl:x.kinds.length≤1000000) (hf:∀ k∈x.kinds,k.fields.length≤1000000) (hrl:x.rules.length≤1000000) (hr:x.rules[i]?=some r) (h0:0≤ab1 x r.kind) (hk:x.kinds[(ab1 x r.kind).toNat]?=some k):APure Tryz.prog 149 [schD x,iD i] (iD (au3 x i r)):=by
 have hr:x.rules[((i:Nat):Int).toNat]?=some r:=hr
 have hil:=(List.getElem?_eq_some_iff.1 hr).1
 have hfk:=hf k (List.mem_of_getElem? hk)
 have HR:APure Tryz.prog 198 [.sl 5 ((x.rules.map rulC).take i),.clo 199 [.ro (rulC r)]] (bD (ae1 x i r)):=by
  rw [← List.map_take];exact bH7 (x.rules.take i) (fun s=>seq s.name r.name) (by simp;omega) (fun y _=>bk3 y r)
 have hE:au3 x i r=ak3 [(ae1 x i r,7),(ae4 x k (ab1 x r.kind) r.a || ae4 x k (ab1 x r.kind) r.b,12),(ac9 x k (ab1 x r.kind) r.a || ac9 x k (ab1 x r.kind) r.b,13),(seq r.a r.b,1)]:=by
  have:ad5 x (ab1 x r.kind)=some k:=by unfold ad5;rw [if_pos h0];exact hk
  simp only [au3,this]
 refine eP7 Tryz.func149 Tryz.ntmps149 fun BB=>?_
 repeat' first|refine sk29 ?_|(intro b;conv=>whnf)
 refine CE.pk (APk.peek (.cons (Pk.same _) (.cons (Pk.clo (.cons (Pk.ptr (j:=0) rfl (PkL.refl _)) .nil)) .nil)) HR rfl) ?_
 clear HR
 repeat' first|refine sk29 ?_|(intro b;conv=>whnf)
 refine af0 mixed aa0 (γ:=Nat × Bool × Bool) (fun g=>[(37,iD g.1),(8,bD g.2.1),(9,bD g.2.2)]) (fun _=>[(b,.cells 92 (rulC r))]) (ruI x k (ab1 x r.kind) r) (fun g=>2 - g.1) (0,decide (ab1 x r.kind<0),false) (aa2 cl3) cl2 (.inl ⟨rfl,by simp;omega,rfl⟩) ?_
 rintro ⟨j,m,w⟩ (⟨rfl,rfl,rfl⟩|⟨rfl,rfl,rfl⟩|⟨rfl,rfl,rfl⟩)
 ·repeat' first|refine sk29 ?_|(intro b;conv=>whnf)|(with_reducible refine Br.d (fun hc=>?_) (fun hc=>?_))|(with_reducible refine Br.b (fun hc=>?_) (fun hc=>?_))
  all_goals (refine ⟨(1,ae4 x k (ab1 x r.kind) r.a,ac9 x k (ab1 x r.kind) r.a),aa2 (.cons rfl (.cons ?_ (.cons ?_ cl3))),cl2,.inr (.inl ⟨rfl,rfl,rfl⟩),by simp only;omega⟩ <;> (refine congrArg (fun b=>some (bD b)) ?_;clear hE;simp only [ae4,ac9,← eqE];generalize (r.a.toList == ({ data:=#[] }:ByteArray).toList)=ea at *;generalize (atR x (ab1 x r.kind) (aa3 k r.a)).1.kind=K at *;first|(simp [*];done)|(by_cases h4:K=4 <;> by_cases h2:K=2 <;> simp_all)))
 ·repeat' first|refine sk29 ?_|(intro b;conv=>whnf)|(with_reducible refine Br.d (fun hc=>?_) (fun hc=>?_))|(with_reducible refine Br.b (fun hc=>?_) (fun hc=>?_))
  all_goals (refine ⟨(2,ae4 x k (ab1 x r.kind) r.a || ae4 x k (ab1 x r.kind) r.b,ac9 x k (ab1 x r.kind) r.a || ac9 x k (ab1 x r.kind) r.b),aa2 (.cons rfl (.cons ?_ (.cons ?_ cl3))),cl2,.inr (.inr ⟨rfl,rfl,rfl⟩),by simp only;omega⟩ <;> (refine congrArg (fun b=>some (bD b)) ?_;clear hE;generalize ae4 x k (ab1 x r.kind) r.a=na at *;generalize ac9 x k (ab1 x r.kind) r.a=nb at *;simp only [ae4,ac9,← eqE];generalize (r.b.toList == ({ data:=#[] }:ByteArray).toList)=eb at *;generalize (atR x (ab1 x r.kind) (aa3 k r.b)).1.kind=K at *;first|(simp [*];done)|(by_cases h4:K=4 <;> by_cases h2:K=2 <;> simp_all)))
 ·repeat' first|refine sk29 ?_|(intro b;conv=>whnf)|(with_reducible refine Br.d (fun hc=>?_) (fun hc=>?_))|(with_reducible refine Br.b (fun hc=>?_) (fun hc=>?_))
  refine Rt.pure (congrArg iD ?_)
  rw [hE];rfl
theorem bk2 (x:Sch) (i:Nat) (r:Rul) (hl:x.kinds.length≤1000000) (hf:∀ k∈x.kinds,k.fields.length≤1000000) (hrl:x.rules.length≤1000000) (hr:x.rules[i]?=some r):APure Tryz.prog 149 [schD x,iD i] (iD (au3 x i r)):=by
 by_cases h0:ab1 x r.kind<0
 ·exact bq4 x i r hl hrl hr h0
 ·have hlt:ab1 x r.kind<x.kinds.length:=aw5 _ _
  exact bf4 x i r _ hl hf hrl hr (by omega) (List.getElem?_eq_getElem (by omega))
end
section
open Go Go.Maps Go.MapKept
theorem ad7 {ρ:Operand→D} {σ:aa1} {o:Oper} (ho:o.op = .load 246 (.global 0)) (hρ:ρ (.global 0) = .v (.pointer (some ⟨0,0,none⟩))) :
  Yd Tryz.prog o ρ σ (.gl 0):=by
 intro w X η hη hst
 obtain ⟨dst,op,ty,pos,aft,g⟩:=o
 simp only at ho
 subst ho
 have hp:=(hη (.global 0) (by simp [Op.operands])).val hρ
 obtain ⟨r,h1,h2,h3⟩:=hst.gok.checks
 obtain ⟨g1,g2⟩:=aP4 (aa0 246 _ rfl) w
 refine ae0 (s:=Instr.loadAt 246 (η (.global 0))) (u:=.map (some r)) ?_ (Ex.refl w) (.gl _ _ (hst.gok.no _ (by decide)) (Nat.lt_of_lt_of_le (by decide) hst.gok.sz) h1)
 rw [hp]
 exact as5 g1 h1
def chkB (n:Int):Bool:=(aggF chkM (.int .i64 n)).isSome
def chkD (n:Int):D:=.agg [.v (((chkM (.int .i64 n))).getD .nilFunc)]
theorem bX7 {ρ:Operand→D} {σ:aa1} {o:Oper} {x i:Operand} {n:Int} (ho:o.op = .lookup 246 x i true) (hx:ρ x = .gl 0) (hi:ρ i = .v (.int .i64 n)) (hn:0≤n∧n≤8) :
  Yd Tryz.prog o ρ σ (.tup [chkD n,.v (.bool (chkB n))]):=by
 intro w X η hη hst
 obtain ⟨dst,op,ty,pos,aft,g⟩:=o
 simp only at ho
 subst ho
 have h0:=hη x (by simp [Op.operands])
 rw [hx] at h0
 have hv:=(hη i (by simp [Op.operands])).val hi
 obtain ⟨r,h1,h2,h3⟩:=hst.gok.checks
 have hxv:η x = .map (some r):=by
  generalize hq:D.gl 0=q at h0
  generalize η x=u at h0
  cases h0 <;> cases hq
  rename_i q' _ _ hc
  rw [h1] at hc;cases hc;rfl
 have hwf:(Lit.int .i64 n).wf=true:=by
  have:n=0∨n=1∨n=2∨n=3∨n=4∨n=5∨n=6∨n=7∨n=8:=by omega
  rcases this with rfl|rfl|rfl|rfl|rfl|rfl|rfl|rfl|rfl <;> rfl
 have hz:(zeroValue 244).run Tryz.prog w = .ok (.agg #[.nilFunc]) w:=by
  have:(Tryz.prog.info? 244).map (fun i=>i.zero)=some (some (.agg #[.nilFunc])):=by kernel_rfl
  cases hi:Tryz.prog.info? 244 with
  | none=>rw [hi] at this;cases this
  | some inf=>
   rw [hi] at this
   simp only [Option.map_some,Option.some.injEq] at this
   simp [zeroValue,typeInfo,program,Sem.run,hi,this]
 have hrun:=h3.look_ok (int_keyed Tryz.underlying3) Tryz.underlying246 hz (keyOf_int_mk Tryz.underlying3 hwf)
 refine ae0 (s:=Instr.lookup 246 (η x) (η i) true) (by rw [hxv,hv];exact hrun) (Ex.refl w) ?_
 have e:(aggF chkM (.int .i64 n)).getD (.agg #[.nilFunc]) = .agg #[(chkM (.int .i64 n)).getD .nilFunc]:=by
  unfold aggF;cases chkM (.int .i64 n) <;> rfl
 rw [e]
 have h5:=RdL.cons (w:=w) (O:=Own σ X) (Rd.agg [.v ((chkM (.int .i64 n)).getD .nilFunc)] [(chkM (.int .i64 n)).getD .nilFunc] rfl (RdL.vals [(chkM (.int .i64 n)).getD .nilFunc]).at_) (RdL.cons (Rd.v (.bool (chkB n))) RdL.nil)
 exact Rd.tup [chkD n,.v (.bool (chkB n))] _ h5.len h5.at_
end
section
open Go
theorem sk30 {A B:Prop} (k:B) (h:Hd7 B→A:=by intro hk7q;(first|refine sb0 ?_|refine sb1 ?_|((with_reducible refine' Cp.by ?hc ?_);(case hc=>first|exact HV|exact aZ8 _|exact ak6 _ _ (by assumption)|exact ag9 _ _ (by assumption)|exact aZ7 _ _ _ _ (by assumption) (by assumption) (by assumption) (by assumption)|exact aZ6 _ _ _ (by assumption) (by assumption) (by assumption) (by assumption)))|((with_reducible refine' CE.pure ?hc ?_);(case hc=>first|exact HV|exact aZ8 _|exact ak6 _ _ (by assumption)|exact ag9 _ _ (by assumption)|exact aZ7 _ _ _ _ (by assumption) (by assumption) (by assumption) (by assumption)|exact aZ6 _ _ _ (by assumption) (by assumption) (by assumption) (by assumption))));exact hk7q.run):A:=h ⟨k⟩
end
end Go.Proofs.YtlcfiilejnnlnaaGreatDoor
