/- A part of the proof: Bo Ns Nt Tab TySpec Dat TyQ Probs Cs Cd R10 R10b Mp Lo. -/
import Derived.Test.YtlcfiilejnnlnaaGreatDoorO04
import Derived.Laws.CopyRow
import Derived.Laws.Cover3
import Derived.Laws.Small
import Derived.Test.YtlcfiilejnnlnaaGreatDoorProg
import Derived.WideKeyEntry
set_option maxRecDepth 100000
set_option maxHeartbeats 20000000
set_option linter.unusedVariables false
set_option linter.unusedSimpArgs false
namespace Go.Proofs.YtlcfiilejnnlnaaGreatDoor
section
open Go Go.RowKit Go.Shelf
section
variable {P:Program} {r:Option Nat} {n:Nat} {df:Nat} {N:Nat} {Q:Pst} {a:List D} {σ:aa1} {w:World} {X:Nat→Prop} {ρ:Operand→D} {f:Frm} {L:List Oper} {T:TypeId→Option TI}
theorem bj4 {o:Oper} {t t':TypeId} {x y:Operand} {p q:Bool} (ho:o.op = .binOp .neq t x y t') (hx:ρ x = .v (.bool p)) (hy:ρ y = .v (.bool q)) (ht:P.underlying t=some .bool):Yd P o ρ σ (.v (.bool (!(p == q)))):=by
 intro w X η hη hst
 obtain ⟨dst,op,ty,pos,aft,g⟩:=o
 simp only at ho
 subst ho
 have h1:=(hη x (by simp [Op.operands])).val hx
 have h2:=(hη y (by simp [Op.operands])).val hy
 refine ae0 (s:=do eqGuard .neq t x y (η x) (η y);binOp .neq t (η x) (η y)) (u:=.bool (!(p == q))) ?_ (Ex.refl w) (.v _)
 rw [h1,h2]
 show (do eqGuard .neq t x y (.bool p) (.bool q);(do pure (Value.bool (!(← Op.equal t (.bool p) (.bool q)))))).run P w=_
 have hg0:(eqGuard .neq t x y (.bool p) (.bool q)).run P w = .ok () w:=rfl
 simp only [Sem.run_bind,hg0,Result.andThen,run_equal_bool w t p q ht,Sem.run_pure]
theorem cj1 {o:Oper} {t t':TypeId} {x y:Operand} {p q:Bool} (ho:o.op = .binOp .eql t x y t') (hx:ρ x = .v (.bool p)) (hy:ρ y = .v (.bool q)) (ht:P.underlying t=some .bool):Yd P o ρ σ (.v (.bool (p == q))):=by
 intro w X η hη hst
 obtain ⟨dst,op,ty,pos,aft,g⟩:=o
 simp only at ho
 subst ho
 have h1:=(hη x (by simp [Op.operands])).val hx
 have h2:=(hη y (by simp [Op.operands])).val hy
 refine ae0 (s:=do eqGuard .eql t x y (η x) (η y);binOp .eql t (η x) (η y)) (u:=.bool (p == q)) ?_ (Ex.refl w) (.v _)
 rw [h1,h2]
 show (do eqGuard .eql t x y (.bool p) (.bool q);(do pure (Value.bool (← Op.equal t (.bool p) (.bool q))))).run P w=_
 have hg0:(eqGuard .eql t x y (.bool p) (.bool q)).run P w = .ok () w:=rfl
 simp only [Sem.run_bind,hg0,Result.andThen,run_equal_bool w t p q ht,Sem.run_pure]
theorem bj1 (hT:∀ t i,T t=some i→tiOf P t=some i) {o:Oper} {t:TypeId} {x:Operand} {lo hi:Option Operand} {b off m c:Nat} {l h:Nat} {i:TI} {p:Nat × Bool × Nat × Nat} (ho:o.op = .slice t x lo hi none) (hx:ρ x = .v (.slice (some ⟨b,off,none⟩) m c)) (ht:T t=some i) (hs:i.sl=some p)
  (hlo:(lo=none∧l=0)∨∃ y kk,lo=some y∧ρ y = .v (.int kk (l:Int))) (hhi:(hi=none∧h=m)∨∃ y kk,hi=some y∧ρ y = .v (.int kk (h:Int))) (h1:l≤h) (h2:h≤c) (h3:l<c):Yd P o ρ σ (.v (.slice (some ⟨b,off+l*p.2.2.1,none⟩) (h - l) (c - l))):=by
 intro w X η hη hst
 obtain ⟨dst,op,ty,pos,aft,g⟩:=o
 simp only at ho
 subst ho
 obtain ⟨e,ag,k',by_⟩:=p
 obtain ⟨hu,hsz,_⟩:=ai9 (hT t i ht) hs
 have hz:=(am3 hsz w).2
 have hxv:=(hη x (by simp [Op.operands])).val hx
 refine ae0 (s:=Instr.sliceAt t (η x) (lo.map η) (hi.map η) ((none:Option Operand).map η)) (u:=.slice (some ⟨b,off+l*k',none⟩) (h - l) (c - l)) ?_ (Ex.refl w) (.v _)
 rw [hxv]
 have hne:c≠l:=by omega
 have hb:(Instr.sliceBounds true m c (lo.map η) (hi.map η) none).run P w = .ok (l,h,c) w:=by
  have hh:((h:Int)).toNat=h:=rfl
  have hl:((l:Int)).toNat=l:=rfl
  rcases hlo with ⟨rfl,rfl⟩|⟨yl,kl,rfl,hyl⟩ <;> rcases hhi with ⟨rfl,rfl⟩|⟨yh,kh,rfl,hyh⟩
  ·simp [Instr.sliceBounds,Result.andThen]
  ·have:=(hη yh (by simp [Op.operands])).val hyh
   simp [Instr.sliceBounds,Instr.sliceBound,Result.andThen,this,asIntOf,h2]
  ·have:=(hη yl (by simp [Op.operands])).val hyl
   simp [Instr.sliceBounds,Instr.sliceBound,Result.andThen,this,asIntOf,h1]
  ·have q1:=(hη yl (by simp [Op.operands])).val hyl
   have q2:=(hη yh (by simp [Op.operands])).val hyh
   simp [Instr.sliceBounds,Instr.sliceBound,Result.andThen,q1,q2,asIntOf,h1,h2]
 simp only [Instr.sliceAt,Sem.run_bind,run_underlying hu,Result.andThen,Instr.slice,Option.map_none,hb,hz,Sem.run_pure,if_neg hne,Option.map_some,ap4]
theorem bu7 {o:Oper} {s d:TypeId} {x:Operand} {k k':IntKind} {n:Int} (ho:o.op = .convert s d x) (hx:ρ x = .v (.int k n)) {ds:TypeDesc} (h1:P.underlying s=some ds) (h2:P.underlying d=some (.int k')) (hn:k'.wrap n=n):Yd P o ρ σ (.v (.int k' n)):=by
 intro w X η hη hst
 obtain ⟨dst,op,ty,pos,aft,g⟩:=o
 simp only at ho
 subst ho
 have h:=(hη x (by simp [Op.operands])).val hx
 refine ae0 (s:=convert s d (η x)) (u:=.int k' n) ?_ (Ex.refl w) (.v _)
 rw [h]
 cases ds <;> simp [convert,run_underlying h1,run_underlying h2,Conv.intToInt,hn]
theorem OtE.copy (hT:∀ t i,T t=some i→tiOf P t=some i) {o:Oper} {p x:Operand} {t t2 e:TypeId} {i j:TI} {ag:Bool} {by_ b off dl dc jj:Nat} {tb:TypeId} {cs new:List D} {K:Frm→aa1→Prop}
  (ho:o.op = .call { callee:=.builtin .copy,args:=#[p,x],argTypes:=#[t,t2] }) (hp:evF f p = .v (.slice (some ⟨b,off,none⟩) dl dc)) (ht:T t=some i) (hs:i.sl=some (e,ag,1,by_)) (hj:T e=some j) (hjs:j.size=1)
  (hb:σ[jj]?=some (b,.cells tb cs)) (hfit:off+new.length≤cs.length) (hone:new.all oneD=true) (hne:new≠[])
  (hsrc:(∃ ys:List (List D),evF f x = .sl 1 ys∧new=(ys.take (Nat.min ys.length dl)).flatten∧new.length=Nat.min ys.length dl)∨(∃ (o2 sl sc:Nat),evF f x = .v (.slice (some ⟨b,o2,none⟩) sl sc)∧new=(cs.drop o2).take (Nat.min sl dl)∧new.length=Nat.min sl dl))
  (kk:W (putK N o.dst (.v (.int .i64 new.length)) f (fun f'=>K f' (σ.set jj (b,.cells tb (spl cs off new)))))):OtE P r n df L N o f σ K:=by
 refine ⟨fun rest Q a hsp hw hk=>?_⟩
 refine ae8 hw (by rw [ho];rfl) fun w X fr hst=>?_
 have hpv:=hsp.le p _ _ _ (hst.fr.eval p)
 rw [hp] at hpv
 have hpv:=hpv.val rfl
 have hxv:=hsp.le x _ _ _ (hst.fr.eval x)
 obtain ⟨hu,hsz,_⟩:=ai9 (hT t i ht) hs
 have hsz1:(P.info? e).map (·.size)=some 1:=by
  obtain ⟨inf,u,q1,_,_,q4,_⟩:=ar5 (hT e j hj)
  rw [q1];simp [← q4,hjs]
 obtain ⟨_,ob,hob,vs,rfl,hvs⟩:=hst.st.at_ b _ (List.mem_of_getElem? hb)
 obtain ⟨nv,ad,sl,sc,hxe,hnr,hnl,hcell⟩:∃ (nv:List Value) (ad:Addr) (sl sc:Nat),fr.eval x = .slice (some ad) sl sc∧RdL w (Own σ X) new nv∧nv.length=Nat.min sl dl∧∀ (j:Nat) v,nv[j]?=some v→w.cell? (ad.add j)=some v:=by
  rcases hsrc with ⟨ys,h1,h2,h3⟩|⟨o2,sl,sc,h1,h2,h3⟩
  ·rw [h1] at hxv
   obtain ⟨a0,c,news,hxe,hrd,hnl,hcl⟩:=aT5 hxv (by omega)
   have hys:ys≠[]:=fun h=>by subst h;simp at h2;exact hne h2
   obtain ⟨ad,rfl,hcell⟩:=hcl hys
   have hysk:∀ y∈ys,y.length=1:=(hxv.sl_inv.choose_spec.choose_spec.choose_spec).2.2.1
   have hfl:(ys.take (Nat.min ys.length dl)).flatten=ys.flatten.take (Nat.min ys.length dl):=by
    have h4:(ys.take (Nat.min ys.length dl)).flatten.length=Nat.min ys.length dl:=by rw [← h2];exact h3
    have h5:ys.flatten=(ys.take (Nat.min ys.length dl)).flatten ++ (ys.drop (Nat.min ys.length dl)).flatten:=by rw [← List.flatten_append,List.take_append_drop]
    rw [h5,List.take_left' h4]
   refine ⟨news.take (Nat.min ys.length dl),ad,ys.length,c,hxe,by rw [h2,hfl];exact hrd.take _,?_,fun j v hv=>?_⟩
   ·rw [List.length_take,hnl]
    have:=Nat.min_le_left ys.length dl
    simp only [Nat.mul_one];exact Nat.min_eq_left this
   ·rw [List.getElem?_take] at hv
    split at hv
    ·exact hcell j v hv
    ·cases hv
  ·rw [h1] at hxv
   have hxe:=hxv.val rfl
   have hr2:=(hvs.drop o2).take (Nat.min sl dl)
   refine ⟨(vs.drop o2).take (Nat.min sl dl),⟨b,o2,none⟩,sl,sc,hxe,by rw [h2];exact hr2,by rw [hr2.len,← h2,h3],fun j v hv=>?_⟩
   rw [List.getElem?_take] at hv
   split at hv
   ·rw [List.getElem?_drop] at hv
    have hlt:=(List.getElem?_eq_some_iff.1 hv).1
    rw [ap4]
    simp [World.cell?,hob,hv]
   ·cases hv
 have hnn:nv.length=new.length:=hnr.len
 have hrun:=run_copy_row (P:=P) w t t2 o.type e b off dl dc ad sl sc vs.toArray tb nv hu hsz1 hob hnl hcell (by simp [hvs.len];omega) (bg2 hnr hone)
 have ee:(execOp fr.eval o).run P w = .ok (.value (goInt nv.length)) (w.setRow b (vs.take off ++ nv ++ vs.drop (off+nv.length)).toArray):=by
  simp only [execOp,ho,resolve,invoke,builtin,Sem.run_bind,Sem.run_pure,Result.andThen,List.map_toArray,List.map_cons,List.map_nil,hpv,hxe,hrun]
 rw [ee]
 obtain ⟨q1,q2⟩:=aM6 (cur':=(vs.take off ++ nv ++ vs.drop (off+nv.length)).toArray) hob
 have hnew:RdL w (Own σ X) (spl cs off new) (vs.take off ++ nv ++ vs.drop (off+nv.length)):=by
  unfold spl
  rw [hnn]
  exact ((hvs.take off).append hnr).append (hvs.drop _)
 obtain ⟨g1,g2,g3,g4⟩:=hst.st.upd hb (k':=.cells tb (spl cs off new)) q2 q1 ⟨_,rfl,hnew⟩
 obtain ⟨f',hs',h4⟩:=ad4 kk.h hsp
 refine ⟨.v (.int .i64 new.length),_,g2,?_,hk _ _ _ h4 hs'⟩
 rw [← hnn]
 exact (⟨hst.fr.keep q2.size g3 g4,g1,hst.df.keep q2.size g3 g4⟩:St _ X df a _ fr).put (.v _) o.dst
theorem Rs.c1 (hT:∀ t i,T t=some i→tiOf P t=some i) {fn:Func} {j b:Nat} {t tb:TypeId} {d:D} {ti:TI} {K:D→Prop} (h:fn.results = #[.cell j t]) (hj:evF f (.tmp j) = .v (.pointer (some ⟨b,0,none⟩))) (hb:(b,Blk.cells tb [d])∈σ) (ht:T t=some ti) (hag:ti.agg=false)
  (k:W (K d)):Rs P N fn f σ K:=by
 refine ⟨_,fun a ha=>?_,k.h⟩
 intro w X tm hf hst
 obtain ⟨_,ob,hob,vs,rfl,hvs⟩:=hst.at_ b _ hb
 obtain ⟨g1,g2⟩:=aP4 (hT t ti ht) w
 rw [hag] at g1
 have hp:=(aj4 hf j).val (ha.eq hj (fun h=>by cases h))
 obtain ⟨u,k1,k2⟩:=hvs.get (j:=0) rfl
 have hcell:w.cell? ⟨b,0,none⟩=some u:=by simp [World.cell?,hob,k1]
 have hl:(loadVar t ⟨b,0,none⟩).run P w = .ok u w:=by
  have:=as5 (P:=P) (t:=t) g1 hcell
  simp only [Instr.loadAt,Instr.sureAddr,Sem.run_bind,Sem.run_pure,Result.andThen] at this
  exact this
 exact ⟨u,by simp [results,h,hp,asAddr,hl,Result.andThen,-Array.getD_eq_getD_getElem?],k2⟩
theorem Ld.cellm {o:Oper} {b off:Nat} {K:D→Prop} {tb:TypeId} {cs:List D} {d:D} (h1:(b,Blk.cells tb cs)∈σ) (h2:cs[off]?=some d) (h:W (K d)):Ld P o ρ σ b off false 1 K:=by
 obtain ⟨j,hj⟩:=List.getElem?_of_mem h1
 exact Ld.cell j hj h2 h
theorem Sv.cellm {b off:Nat} {d:D} {K:aa1→Prop} {tb:TypeId} {cs cs':List D} {τ:aa1} (h1:σ.Perm ((b,.cells tb cs) :: τ)) (h2:off<cs.length) (h3:oneD d=true) (h4:cs.set off d=cs') (h:W (K ((b,.cells tb cs') :: τ))):Sv σ b off [d] 1 K:=by
 refine Sv.perm h1 rfl h2 (by simp [h3]) ?_ h
 subst h4
 unfold spl
 rw [List.set_eq_take_append_cons_drop,if_pos h2]
 simp
end
end
section
open Go Go.RowKit Go.Shelf
abbrev ORep (α:Type):=α→Value→aa1→Prop
inductive All3 {α:Type} (R:ORep α):List α→List Value→List aa1→Prop
 | nil:All3 R [] [] []
 | cons {x:α} {u:Value} {t:aa1} {xs:List α} {vs:List Value} {ts:List aa1} (h:R x u t) (k:All3 R xs vs ts):All3 R (x :: xs) (u :: vs) (t :: ts)
section
variable {α:Type} {R:ORep α}
theorem All3.len {xs:List α} {vs:List Value} {ts:List aa1} (h:All3 R xs vs ts):vs.length=xs.length∧ts.length=xs.length:=by
 induction h with
 | nil=>exact ⟨rfl,rfl⟩
 | cons h k ih=>simp [ih.1,ih.2]
theorem All3.at {xs:List α} {vs:List Value} {ts:List aa1} (h:All3 R xs vs ts):∀ {i:Nat} {x:α},xs[i]?=some x→∃ u t τ,vs[i]?=some u∧R x u t∧ts.flatten.Perm (t ++ τ) ∧
  ∀ x' u' t',R x' u' t'→∃ ts',All3 R (xs.set i x') (vs.set i u') ts'∧ts'.flatten.Perm (t' ++ τ):=by
 induction h with
 | nil=>intro i x hx;simp at hx
 | @cons y u t xs vs ts h k ih=>
  intro i x hx
  cases i with
  | zero=>
   simp at hx
   subst hx
   exact ⟨u,t,ts.flatten,rfl,h,by simp,fun x' u' t' h'=>⟨t' :: ts,.cons h' k,by simp⟩⟩
  | succ i=>
   simp at hx
   obtain ⟨u2,t2,τ,h1,h2,h3,h4⟩:=ih hx
   refine ⟨u2,t2,t ++ τ,by simpa using h1,h2,?_,fun x' u' t' h'=>?_⟩
   ·rw [List.flatten_cons]
    refine (List.Perm.append_left t h3).trans ?_
    rw [← List.append_assoc,← List.append_assoc]
    exact List.perm_append_comm.append_right _
   ·obtain ⟨ts',k1,k2⟩:=h4 x' u' t' h'
    refine ⟨t :: ts',by simpa using All3.cons h k1,?_⟩
    rw [List.flatten_cons]
    refine (List.Perm.append_left t k2).trans ?_
    rw [← List.append_assoc,← List.append_assoc]
    exact List.perm_append_comm.append_right _
theorem All3.append {xs ys:List α} {vs us:List Value} {ts ss:List aa1} (h:All3 R xs vs ts) (k:All3 R ys us ss):All3 R (xs ++ ys) (vs ++ us) (ts ++ ss):=by
 induction h with
 | nil=>exact k
 | cons h _ ih=>exact .cons h ih
theorem All3.rep {x:α} {u:Value} {t:aa1} (h:R x u t):∀ n,All3 R (List.replicate n x) (List.replicate n u) (List.replicate n t)
 | 0=>.nil
 | n+1=>by rw [List.replicate_succ,List.replicate_succ,List.replicate_succ];exact .cons h (All3.rep h n)
structure RowsOf (e:TypeId) (R:ORep α) (xs:List α) (v:Value) (s:aa1):Prop where
 ex:∃ (vs:List Value) (s0:aa1) (ts:List aa1),RowIs e 1 (vs.map fun u=>[D.v u]) v s0∧All3 R xs vs ts∧s.Perm (s0 ++ ts.flatten)
theorem RowsOf.perm {e:TypeId} {xs:List α} {v:Value} {s s':aa1} (h:RowsOf e R xs v s) (hp:s'.Perm s):RowsOf e R xs v s':=by
 obtain ⟨vs,s0,ts,h1,h2,h3⟩:=h.ex
 exact ⟨vs,s0,ts,h1,h2,hp.trans h3⟩
theorem RowsOf.slice {e:TypeId} {xs:List α} {v:Value} {s:aa1} (h:RowsOf e R xs v s):∃ a c,v = .slice a xs.length c:=by
 obtain ⟨vs,s0,ts,h1,h2,h3⟩:=h.ex
 obtain ⟨a,c,e⟩:=h1.slice
 rw [List.length_map,h2.len.1] at e
 exact ⟨a,c,e⟩
theorem ce9 (vs:List Value):(vs.map fun u=>[D.v u]).flatten=vs.map D.v:=by
 induction vs with
 | nil=>rfl
 | cons v vs ih=>simp [ih]
theorem RowIs.block {e:TypeId} {k:Nat} {xs:List (List D)} {v:Value} {s:aa1} (h:RowIs e k xs v s) (hne:xs≠[]):∃ b cap junk,v = .slice (some ⟨b,0,none⟩) xs.length cap∧s=[(b,.cells e (xs.flatten ++ junk))]∧xs.length≤cap∧cap≤maxLen∧xs.length*k+junk.length=cap*k∧∀ d∈junk,d=D.any:=by
 rcases h.is with ⟨_,h,_⟩|h
 ·exact absurd h hne
 ·exact h
theorem RowsOf.at {e:TypeId} {xs:List α} {v:Value} {s:aa1} (h:RowsOf e R xs v s) {i:Nat} {x:α} (hx:xs[i]?=some x) :
  ∃ b cap cs u t τ,v = .slice (some ⟨b,0,none⟩) xs.length cap∧s.Perm ((b,.cells e cs) :: (t ++ τ))∧cs[i]?=some (.v u)∧R x u t ∧
   ∀ x' u' t' s',R x' u' t'→s'.Perm ((b,.cells e (cs.set i (.v u'))) :: (t' ++ τ))→RowsOf e R (xs.set i x') v s':=by
 obtain ⟨vs,s0,ts,h1,h2,h3⟩:=h.ex
 obtain ⟨u,t,τ,g1,g2,g3,g4⟩:=h2.at hx
 have hil:=(List.getElem?_eq_some_iff.1 g1).1
 obtain ⟨b,cap,junk,rfl,rfl,q3,q4,q5,q6⟩:=h1.block (fun h=>by
  have:=congrArg List.length h;simp at this;subst this;simp at hil)
 rw [ce9] at h3
 refine ⟨b,cap,vs.map D.v ++ junk,u,t,τ,by rw [List.length_map,h2.len.1],?_,?_,g2,fun x' u' t' s' h' hp=>?_⟩
 ·exact h3.trans (List.Perm.cons _ g3)
 ·rw [List.getElem?_append_left (by simpa using hil),List.getElem?_map,g1];rfl
 ·obtain ⟨ts',k1,k2⟩:=g4 x' u' t' h'
  refine ⟨vs.set i u',[(b,.cells e ((vs.set i u').map D.v ++ junk))],ts',⟨fun y hy=>by obtain ⟨z,_,rfl⟩:=List.mem_map.1 hy;rfl,.inr ⟨b,cap,junk,by simp [h2.len.1],by rw [ce9],by simpa using q3,q4,by simpa using q5,q6⟩⟩,k1,?_⟩
  refine hp.trans ?_
  rw [List.set_append_left _ _ (by simpa using hil),List.map_set]
  exact List.Perm.cons _ k2.symm
def Frz (R:ORep α) (den:α→D):Prop:=∀ x u t τ w X,R x u t→StOK w X (t ++ τ)→Rd w (Own τ X) (den x) u
theorem bE4 {β:Type} (e:TypeId) (k:Nat) (g:β→List D):Frz (fun (l:List β) v s=>RowIs e k (l.map g) v s) (fun l=>.sl k (l.map g)):=fun _ _ _ _ _ _ h hs=>aF5 h hs
theorem aj5 {w:World} {X:Nat→Prop} {s t:aa1} {d:D} {u:Value} (h:Rd w (Own s X) d u) (hs:∀ b,b∈aa9 t→b∈aa9 s):Rd w (Own t X) d u:=
 h.keep (Nat.le_refl _) (fun b _ hn ho=>hn (ho.imp id (hs b))) (fun _ _ _=>rfl)
theorem bo5 {e:TypeId} {den:α→D} (hf:Frz R den):Frz (RowsOf e R) (fun xs=>.sl 1 (xs.map fun x=>[den x])):=by
 intro xs v s τ w X h hs
 obtain ⟨vs,s0,ts,h1,h2,h3⟩:=h.ex
 have hp:(s ++ τ).Perm (s0 ++ (ts.flatten ++ τ)):=by rw [← List.append_assoc];exact h3.append_right _
 have hs':=hs.perm hp
 have hrow:=aF5 h1 hs'
 obtain ⟨a,cap,f,e1,hcap,hk,hc,hr⟩:=hrow.sl_inv
 have hsub:∀ b,b∈aa9 τ→b∈aa9 (ts.flatten ++ τ):=fun b hb=>by rw [ab0];exact List.mem_append_right _ hb
 have hlen:vs.length=xs.length:=h2.len.1
 rw [e1,List.length_map,hlen,show xs.length=(xs.map fun x=>[den x]).length by simp]
 refine .sl 1 _ a cap f (by simpa [hlen] using hcap) (fun y hy=>by obtain ⟨z,_,rfl⟩:=List.mem_map.1 hy;rfl) (fun i y hy=>?_) (fun i y hy j d hd=>?_)
 ·have hi:i<vs.length:=by have:=(List.getElem?_eq_some_iff.1 hy).1;simpa [hlen] using this
  obtain ⟨b,off,q1,q2,q3,q4⟩:=hc i [.v vs[i]] (by rw [List.getElem?_map,List.getElem?_eq_getElem hi];rfl)
  exact ⟨b,off,q1,fun ho=>q2 (ho.imp id (hsub b)),q3,q4⟩
 ·rw [List.getElem?_map,Option.map_eq_some_iff] at hy
  obtain ⟨x,hx,rfl⟩:=hy
  cases j with
  | succ j=>simp at hd
  | zero=>
   simp at hd
   subst hd
   obtain ⟨u,t,τ',g1,g2,g3,g4⟩:=h2.at hx
   have hv:=(hr i [.v u] (by rw [List.getElem?_map,g1];rfl) 0 _ rfl).val rfl
   rw [hv]
   have hp2:(s ++ τ).Perm (t ++ (s0 ++ τ' ++ τ)):=by
    refine hp.trans ?_
    refine (List.Perm.append_left s0 (g3.append_right τ)).trans ?_
    simp only [List.append_assoc]
    rw [← List.append_assoc s0 t,← List.append_assoc t s0]
    exact List.perm_append_comm.append_right _
   have:=hf x u t (s0 ++ τ' ++ τ) w X g2 (hs.perm hp2)
   exact aj5 this (fun b hb=>by rw [ab0];exact List.mem_append_right _ hb)
theorem Vs.frz {den:α→D} (hf:Frz R den) {x:α} {v:Value} {s σ τ:aa1} (h:R x v s) (hp:σ.Perm (s ++ τ)):Vs σ (.v v) τ (den x):=
 ⟨fun w X u hs hr=>by
  have:=hr.val rfl
  subst this
  exact ⟨(hs.perm hp).sub (List.sublist_append_right _ _),hf x _ s τ w X h (hs.perm hp)⟩,fun b hb=>ah0 hp b (by rw [ab0];exact List.mem_append_right _ hb)⟩
theorem RowsOf.made {e:TypeId} {x0:α} (h0:R x0 (.slice none 0 0) []) (m b:Nat) (hm:m≤maxLen):RowsOf e R (List.replicate m x0) (.slice (some ⟨b,0,none⟩) m m) [(b,.cells e (List.replicate m (.v (.slice none 0 0))))]:=by
 refine ⟨List.replicate m (.slice none 0 0),[(b,.cells e (List.replicate m (.v (.slice none 0 0))))],List.replicate m [],⟨fun y hy=>by obtain ⟨z,_,rfl⟩:=List.mem_map.1 hy;rfl,.inr ⟨b,m,[],by simp,by rw [ce9];simp,by simp,hm,by simp,fun d hd=>by cases hd⟩⟩,All3.rep h0 m,by simp⟩
theorem RowsOf.nil (e:TypeId) (R:ORep α):RowsOf e R [] (.slice none 0 0) []:=⟨[],[],[],RowIs.nil _ _,.nil,by simp⟩
theorem RowIs.put {e:TypeId} {k:Nat} {xs:List (List D)} {b n cap:Nat} {cs:List D} (h:RowIs e k xs (.slice (some ⟨b,0,none⟩) n cap) [(b,.cells e cs)]) {i:Nat} {x':List D} (hi:i<xs.length) (hx:x'.length=k):RowIs e k (xs.set i x') (.slice (some ⟨b,0,none⟩) n cap) [(b,.cells e (spl cs (i*k) x'))]:=by
 have hne:xs≠[]:=fun e=>by subst e;simp at hi
 obtain ⟨b',cap',junk,e1,e2,q3,q4,q5,q6⟩:=h.block hne
 cases e1
 have e3:cs=xs.flatten ++ junk:=by simpa using e2
 refine ⟨fun y hy=>?_,.inr ⟨b,cap,junk,by simp,?_,by simpa using q3,q4,by simpa using q5,q6⟩⟩
 ·rcases List.mem_or_eq_of_mem_set hy with h1|rfl
  ·exact h.len y h1
  ·exact hx
 ·have hfl:=av9 h.len
  have key:spl cs (i*k) x'=(xs.set i x').flatten ++ junk:=by
   rw [e3]
   have e4:xs=xs.take i ++ xs[i] :: xs.drop (i+1):=by rw [List.getElem_cons_drop,List.take_append_drop]
   have e5:xs.set i x'=xs.take i ++ x' :: xs.drop (i+1):=by rw [List.set_eq_take_append_cons_drop,if_pos hi]
   have ht:(xs.take i).flatten.length=i*k:=by
    rw [av9 (k:=k) (fun y hy=>h.len y (List.mem_of_mem_take hy)),List.length_take,Nat.min_eq_left (by omega)]
   have hxi:xs[i].length=k:=h.len _ (List.getElem_mem hi)
   rw [e5]
   conv=>lhs;rw [e4]
   unfold spl
   simp only [List.flatten_append,List.flatten_cons,List.append_assoc]
   rw [← ht,List.take_left',List.drop_append,List.drop_of_length_le (by omega)]
   ·simp only [List.nil_append,List.append_assoc]
    congr 2
    rw [show (xs.take i).flatten.length+x'.length - (xs.take i).flatten.length=x'.length by omega,hx,← hxi,List.drop_left']
    rfl
   ·rfl
  rw [key]
theorem RowIs.get {e:TypeId} {k:Nat} {xs:List (List D)} {v:Value} {s:aa1} (h:RowIs e k xs v s) {i:Nat} {x:List D} (hx:xs[i]?=some x):∃ b cap cs,v = .slice (some ⟨b,0,none⟩) xs.length cap∧s=[(b,.cells e cs)]∧∀ j,j<k→cs[i*k+j]?=x[j]?:=by
 have hne:xs≠[]:=fun e=>by subst e;simp at hx
 obtain ⟨b,cap,junk,e1,e2,q3,q4,q5,q6⟩:=h.block hne
 refine ⟨b,cap,_,e1,e2,fun j hj=>?_⟩
 have:=aI7 h.len hx hj
 have hjx:j<x.length:=by rw [h.len x (List.mem_of_getElem? hx)];exact hj
 rw [List.getElem?_append_left,this]
 exact (List.getElem?_eq_some_iff.1 (this.trans (List.getElem?_eq_getElem hjx))).1
end
/-! ### What is made new may stand beside what was only looked at -/
def flA:D→Bool
 | .v _=>true
 | .any=>true
 | _=>false
def Blk.flat:Blk→Prop
 | .cells _ cs=>∀ d∈cs,flA d=true
 | .obj _=>True
 | .mp _ _ _=>False
def FlS (s:aa1):Prop:=∀ p∈s,Blk.flat p.2
theorem bW7 {w w':World} {O O':Nat→Prop} {d:D} {u:Value} (h:Rd w O d u) (hd:flA d=true):Rd w' O' d u:=by
 cases d <;> first|(have:=h.val rfl;subst this;exact .v _)|exact .any u|cases hd
theorem FlS.append {s t:aa1} (h:FlS s) (k:FlS t):FlS (s ++ t):=fun p hp=>(List.mem_append.1 hp).elim (h p) (k p)
theorem FlS.perm {s t:aa1} (h:FlS s) (hp:t.Perm s):FlS t:=fun p hq=>h p (hp.mem_iff.1 hq)
theorem FlS.row {e:TypeId} {k:Nat} {xs:List (List D)} {v:Value} {s:aa1} (h:RowIs e k xs v s) (hf:∀ x∈xs,∀ d∈x,flA d=true):FlS s:=by
 rcases h.is with ⟨_,_,rfl⟩|⟨b,cap,junk,_,rfl,_,_,_,hj⟩
 ·exact fun p hp=>by cases hp
 ·intro p hp
  rw [List.mem_singleton] at hp
  subst hp
  intro d hd
  rcases List.mem_append.1 hd with h1|h1
  ·obtain ⟨x,hx,hdx⟩:=List.mem_flatten.1 h1
   exact hf x hx d hdx
  ·rw [hj d h1];rfl
theorem FlS.rows {α:Type} {R:ORep α} (hR:∀ x u t,R x u t→FlS t) {e:TypeId} {xs:List α} {v:Value} {s:aa1} (h:RowsOf e R xs v s):FlS s:=by
 obtain ⟨vs,s0,ts,h1,h2,h3⟩:=h.ex
 refine FlS.perm (FlS.append (FlS.row h1 fun x hx d hd=>?_) ?_) h3
 ·obtain ⟨u,_,rfl⟩:=List.mem_map.1 hx
  rw [List.mem_singleton] at hd
  subst hd;rfl
 ·clear h3 h1 h
  induction h2 with
  | nil=>exact fun p hp=>by cases hp
  | cons h k ih=>rw [List.flatten_cons];exact (hR _ _ _ h).append ih
theorem ACall.peek {P:Program} {f:FuncId} {ds ds':List D} {σ:aa1} {R:D→aa1→Prop} (hp:PkL σ ds ds') (hc:ACall P f ds' [] R) (hfl:∀ d s,R d s→bP4 d=true∧FlS s) :
  ACall P f ds σ (fun d σ'=>∃ s,σ'=s ++ σ∧R d s):=by
 refine ⟨hc.ent,fun w X vs hv hs=>?_⟩
 have hv':=hp.rd hs hv
 have hst0:StOK w (fun _=>False) []:=⟨List.nodup_nil,fun b k hm=>(by cases hm),fun b hb=>hb.elim,hs.gok.mono (fun b hb=>by rcases hb with hb|hb;exact hb.elim;cases hb)⟩
 refine (hc.run w (fun _=>False) vs ⟨hv'.len,fun j d u g1 g2=>(hv'.at_ j d u g1 g2).keep (Nat.le_refl _) (fun b _ _ ho=>by rcases ho with ho|ho;exact ho.elim;cases ho) (fun _ _ _=>rfl)⟩ hst0).mono ?_
 rintro e w' ⟨u,d,s,g1,g2,g3,g4,g5⟩
 obtain ⟨f1,f2⟩:=hfl d s g2
 have hx:Ex w w':=⟨g5.keep.os,g5.keep.tape,g5.keep.output,g5.keep.size,fun b hb _=>g5.keep.block b hb (fun hk=>by cases hk)⟩
 have hnew:∀ b,b∈aa9 s→w.heap.size≤b:=fun b hb=>by
  rcases g5.new b hb with h|h
  ·cases h
  ·exact h
 have hO:∀ b,b<w.heap.size→¬ Own σ X b→¬ Own (s ++ σ) X b:=fun b hb hn ho=>by
  rcases ho with ho|ho
  ·exact hn (.inl ho)
  ·rw [ab0,List.mem_append] at ho
   rcases ho with ho|ho
   ·have:=hnew b ho;omega
   ·exact hn (.inr ho)
 refine ⟨u,d,s ++ σ,g1,⟨s,rfl,g2⟩,bi0 g3 f1,⟨?_,fun b k hbk=>?_,fun b hb=>Nat.lt_of_lt_of_le (hs.xlt b hb) hx.size,?_⟩,⟨⟨hx.os,hx.tape,hx.output,hx.size,fun b hb _=>hx.block b hb⟩,fun b hb=>?_⟩⟩
 ·rw [ab0,List.nodup_append]
  exact ⟨g4.nodup,hs.nodup,fun b h1 c h2 e=>by subst e;have:=hnew b h1;have:=hs.lt h2;omega⟩
 ·rcases List.mem_append.1 hbk with h|h
  ·obtain ⟨_,o,h2,h3⟩:=g4.at_ b k h
   refine ⟨fun hX=>by have:=hnew b (ay6 h);have:=hs.xlt b hX;omega,o,h2,?_⟩
   have hfk:=f2 _ h
   cases k with
   | cells t cs=>
    obtain ⟨vs,q1,q2⟩:=h3
    exact ⟨vs,q1,q2.len,fun j d u r1 r2=>bW7 (q2.at_ j d u r1 r2) (hfk d (List.mem_of_getElem? r1))⟩
   | obj ok=>exact h3
   | mp P k G=>exact hfk.elim
  ·obtain ⟨h1,o,h2,h3⟩:=hs.at_ b k h
   have hlt:=(Array.getElem?_eq_some_iff.1 h2).1
   exact ⟨h1,o,(hx.block b hlt).trans h2,Blk.ok_keep hx.size hO (fun b hb _=>hx.block b hb) h3⟩
 ·refine hs.gok.keep hx.size hO (fun b hb _=>hx.block b hb) (fun b hb=>?_)
  rcases hb with hb|hb
  ·exact Nat.lt_of_lt_of_le (hs.xlt b hb) hx.size
  ·rw [ab0,List.mem_append] at hb
   rcases hb with hb|hb
   ·exact g4.lt hb
   ·exact Nat.lt_of_lt_of_le (hs.lt hb) hx.size
 ·rw [ab0,List.mem_append] at hb
  rcases hb with hb|hb
  ·exact .inr (hnew b hb)
  ·exact .inl hb
theorem Pk.frz {α:Type} {R:ORep α} {den:α→D} (hf:Frz R den) {x:α} {v:Value} {s σ τ:aa1} (h:R x v s) (hp:σ.Perm (s ++ τ)):Pk σ (.v v) (den x):=
 ⟨fun w X u hs hr=>by have:=hr.val rfl;subst this;exact (hf x _ s τ w X h (hs.perm hp)).stable⟩
end
section
open Go Go.RowKit Go.Shelf
section
variable {β:Type} {g:β→D}
abbrev RowR (e1:TypeId) (g:β→D):ORep (List β):=fun l v s=>RowIs e1 1 (l.map fun b=>[g b]) v s
theorem bZ6 {cs:List D} {off:Nat} (h:off<cs.length) (d:D):spl cs off [d]=cs.set off d:=by
 unfold spl
 rw [List.set_eq_take_append_cons_drop,if_pos h]
 simp
theorem am4 {e1:TypeId} {l:List β} {u:Value} {s:aa1} (h:RowR e1 g l u s) {i:Nat} {b:β} (hb:l[i]?=some b) :
  ∃ b1 cap1 cs1,u = .slice (some ⟨b1,0,none⟩) l.length cap1∧s=[(b1,.cells e1 cs1)]∧cs1[i]?=some (g b)∧∀ b',RowR e1 g (l.set i b') u [(b1,.cells e1 (cs1.set i (g b')))]:=by
 have hi:=(List.getElem?_eq_some_iff.1 hb).1
 obtain ⟨b1,cap1,cs1,e2,e3,e4⟩:=RowIs.get h (show (l.map fun b=>[g b])[i]?=some [g b] by rw [List.getElem?_map,hb];rfl)
 have h4:=e4 0 (by omega)
 simp only [Nat.mul_one,Nat.add_zero] at h4
 have h5:cs1[i]?=some (g b):=by rw [h4];rfl
 rw [List.length_map] at e2
 subst e2 e3
 refine ⟨b1,cap1,cs1,rfl,rfl,h5,fun b'=>?_⟩
 have:=RowIs.put h (i:=i) (x':=[g b']) (by simpa using hi) rfl
 rw [Nat.mul_one,bZ6 (List.getElem?_eq_some_iff.1 h5).1] at this
 show RowIs e1 1 ((l.set i b').map fun b=>[g b]) _ _
 rw [List.map_set]
 exact this
theorem by1 {e1:TypeId} {l:List β} {u:Value} {s:aa1} (h:RowR e1 g l u s):∃ a c,u = .slice a l.length c:=by
 obtain ⟨a,c,e⟩:=RowIs.slice h
 rw [List.length_map] at e
 exact ⟨a,c,e⟩
end
theorem ix1 (j:Nat):0+((j:Nat):Int).toNat*1=j:=by simp
end
section
open Go
abbrev TO:=Option TI
theorem cu4 {t n:Nat} (h:¬ t<n):Nat.blt t n=false:=by
 rw [Bool.eq_false_iff];intro hb;rw [Nat.blt_eq] at hb;exact h hb
def tt0:TO:=some ⟨false,1,[],none,none,[],false⟩
def tt1:TO:=some ⟨false,1,[],none,none,[.fn],false⟩
def tt2:TO:=some ⟨false,1,[],none,none,[.int .i64],false⟩
def tt3:TO:=some ⟨false,1,[],none,none,[.bool],false⟩
def tt4:TO:=some ⟨false,1,[],none,none,[.int .u8],false⟩
def tt5:TO:=some ⟨true,4,[(0,false,1),(1,false,1),(2,false,1),(3,false,1)],none,none,[.int .i64,.int .i64,.bool,.int .u8],false⟩
def tt6:TO:=some ⟨false,1,[],none,none,[.str],true⟩
def tt7:TO:=some ⟨false,1,[],none,none,[.int .u64],false⟩
def tt8:TO:=some ⟨true,2,[(0,false,1),(1,false,1)],none,none,[.str,.int .u64],false⟩
def tt9:TO:=some ⟨false,1,[],none,none,[.ptr],false⟩
def tt10:TO:=some ⟨true,1,[(0,false,1)],none,none,[.ptr],false⟩
def tt11:TO:=some ⟨false,1,[],none,none,[.ifc],false⟩
def tt12:TO:=some ⟨false,1,[],none,none,[.int .i32],false⟩
def tt13:TO:=some ⟨false,1,[],some (3,false,1,8),none,[.sl],false⟩
def tt14:TO:=some ⟨false,1,[],some (5,false,1,1),none,[.sl],false⟩
def tt15:TO:=some ⟨false,1,[],some (85,true,4,56),none,[.sl],false⟩
def tt16:TO:=some ⟨false,1,[],some (89,true,3,64),none,[.sl],false⟩
def tt17:TO:=some ⟨false,1,[],some (92,true,5,72),none,[.sl],false⟩
def tt18:TO:=some ⟨true,4,[(0,false,1),(1,false,1),(2,false,1),(3,false,1)],none,none,[.int .i64,.sl,.sl,.sl],false⟩
def tt19:TO:=some ⟨false,1,[],some (62,false,1,24),none,[.sl],false⟩
def tt20:TO:=some ⟨true,16,[],none,some (16,false,1),[.int .u8,.int .u8,.int .u8,.int .u8,.int .u8,.int .u8,.int .u8,.int .u8,.int .u8,.int .u8,.int .u8,.int .u8,.int .u8,.int .u8,.int .u8,.int .u8],false⟩
def tt21:TO:=some ⟨false,1,[],some (23,false,1,24),none,[.sl],false⟩
def tt22:TO:=some ⟨false,1,[],some (9,false,1,16),none,[.sl],false⟩
def tt23:TO:=some ⟨false,1,[],some (51,true,5,88),none,[.sl],false⟩
def tt24:TO:=some ⟨true,5,[(0,false,1),(1,false,1),(2,false,1),(3,false,1),(4,false,1)],none,none,[.int .i64,.sl,.sl,.sl,.int .i64],false⟩
def tt25:TO:=some ⟨true,8,[(0,false,1),(1,false,1),(2,false,1),(3,true,5)],none,none,[.int .i64,.str,.sl,.int .i64,.sl,.sl,.sl,.int .i64],false⟩
def tt26:TO:=some ⟨false,1,[],some (57,true,5,88),none,[.sl],false⟩
def tt27:TO:=some ⟨false,1,[],some (22,false,1,24),none,[.sl],false⟩
def tt28:TO:=some ⟨false,1,[],some (135,true,4,32),none,[.sl],false⟩
def tt29:TO:=some ⟨false,1,[],some (59,true,8,136),none,[.sl],false⟩
def tt30:TO:=some ⟨false,1,[],some (31,false,1,24),none,[.sl],false⟩
def tt31:TO:=some ⟨true,1,[(0,false,1)],none,none,[.sl],false⟩
def tt32:TO:=some ⟨true,2,[(0,false,1),(1,false,1)],none,none,[.sl,.int .i64],false⟩
def tt33:TO:=some ⟨false,1,[],some (97,true,8,120),none,[.sl],false⟩
def tt34:TO:=some ⟨true,4,[(0,false,1),(1,false,1),(2,false,1),(3,false,1)],none,none,[.str,.int .i64,.int .i64,.sl],false⟩
def tt35:TO:=some ⟨false,1,[],some (90,true,2,16),none,[.sl],false⟩
def tt36:TO:=some ⟨true,3,[(0,false,1),(1,false,1),(2,false,1)],none,none,[.str,.sl,.sl],false⟩
def tt37:TO:=some ⟨true,2,[],none,some (2,false,1),[.int .i64,.int .i64],false⟩
def tt38:TO:=some ⟨true,5,[(0,false,1),(1,false,1),(2,false,1),(3,false,1),(4,false,1)],none,none,[.str,.str,.str,.str,.int .i64],false⟩
def tt39:TO:=some ⟨true,8,[(0,false,1),(1,false,1),(2,false,1),(3,false,1),(4,false,1),(5,false,1),(6,false,1),(7,false,1)],none,none,[.str,.str,.str,.int .i64,.int .i64,.int .i64,.sl,.sl],false⟩
def tt40:TO:=some ⟨true,4,[(0,false,1),(1,false,1),(2,false,1),(3,false,1)],none,none,[.int .i64,.int .i64,.int .i64,.int .i64],false⟩
def tt41:TO:=some ⟨false,1,[],none,none,[.map],false⟩
def tt42:TO:=some ⟨true,7,[(0,true,4),(4,false,1),(5,false,1),(6,false,1)],none,none,[.int .i64,.sl,.sl,.sl,.sl,.int .i64,.map],false⟩
def tt43:TO:=some ⟨false,1,[],some (4,false,1,1),none,[.sl],false⟩
def tt44:TO:=some ⟨false,1,[],some (147,true,3,24),none,[.sl],false⟩
def tt45:TO:=some ⟨true,9,[(0,true,4),(4,false,1),(5,false,1),(6,false,1),(7,false,1),(8,false,1)],none,none,[.int .i64,.sl,.sl,.sl,.sl,.sl,.map,.map,.sl],false⟩
def tt46:TO:=some ⟨true,3,[(0,false,1),(1,false,1),(2,false,1)],none,none,[.int .i64,.int .i64,.int .i64],false⟩
def tt47:TO:=some ⟨false,1,[],some (151,true,4,32),none,[.sl],false⟩
def tt48:TO:=some ⟨true,6,[(0,true,4),(4,false,1),(5,false,1)],none,none,[.int .i64,.sl,.sl,.sl,.ifc,.bool],false⟩
def tt49:TO:=some ⟨false,1,[],none,none,[.int .u32],false⟩
def tt50:TO:=some ⟨true,8,[],none,some (8,false,1),[.int .u32,.int .u32,.int .u32,.int .u32,.int .u32,.int .u32,.int .u32,.int .u32],false⟩
def tt51:TO:=some ⟨true,64,[],none,some (64,false,1),[.int .u8,.int .u8,.int .u8,.int .u8,.int .u8,.int .u8,.int .u8,.int .u8,.int .u8,.int .u8,.int .u8,.int .u8,.int .u8,.int .u8,.int .u8,.int .u8,.int .u8,.int .u8,.int .u8,.int .u8,.int .u8,.int .u8,.int .u8,.int .u8,.int .u8,.int .u8,.int .u8,.int .u8,.int .u8,.int .u8,.int .u8,.int .u8,.int .u8,.int .u8,.int .u8,.int .u8,.int .u8,.int .u8,.int .u8,.int .u8,.int .u8,.int .u8,.int .u8,.int .u8,.int .u8,.int .u8,.int .u8,.int .u8,.int .u8,.int .u8,.int .u8,.int .u8,.int .u8,.int .u8,.int .u8,.int .u8,.int .u8,.int .u8,.int .u8,.int .u8,.int .u8,.int .u8,.int .u8,.int .u8],false⟩
def tt52:TO:=some ⟨true,73,[(0,true,8),(8,true,64),(72,false,1)],none,none,[.int .u32,.int .u32,.int .u32,.int .u32,.int .u32,.int .u32,.int .u32,.int .u32,.int .u8,.int .u8,.int .u8,.int .u8,.int .u8,.int .u8,.int .u8,.int .u8,.int .u8,.int .u8,.int .u8,.int .u8,.int .u8,.int .u8,.int .u8,.int .u8,.int .u8,.int .u8,.int .u8,.int .u8,.int .u8,.int .u8,.int .u8,.int .u8,.int .u8,.int .u8,.int .u8,.int .u8,.int .u8,.int .u8,.int .u8,.int .u8,.int .u8,.int .u8,.int .u8,.int .u8,.int .u8,.int .u8,.int .u8,.int .u8,.int .u8,.int .u8,.int .u8,.int .u8,.int .u8,.int .u8,.int .u8,.int .u8,.int .u8,.int .u8,.int .u8,.int .u8,.int .u8,.int .u8,.int .u8,.int .u8,.int .u8,.int .u8,.int .u8,.int .u8,.int .u8,.int .u8,.int .u8,.int .u8,.int .u64],false⟩
def tt53:TO:=some ⟨true,32,[],none,some (32,false,1),[.int .u8,.int .u8,.int .u8,.int .u8,.int .u8,.int .u8,.int .u8,.int .u8,.int .u8,.int .u8,.int .u8,.int .u8,.int .u8,.int .u8,.int .u8,.int .u8,.int .u8,.int .u8,.int .u8,.int .u8,.int .u8,.int .u8,.int .u8,.int .u8,.int .u8,.int .u8,.int .u8,.int .u8,.int .u8,.int .u8,.int .u8,.int .u8],false⟩
def tt54:TO:=some ⟨false,1,[],some (114,true,4,32),none,[.sl],false⟩
def tt55:TO:=some ⟨false,1,[],some (191,true,4,32),none,[.sl],false⟩
def tt56:TO:=some ⟨false,1,[],some (234,true,2,16),none,[.sl],false⟩
def tt57:TO:=some ⟨false,1,[],some (130,false,1,24),none,[.sl],false⟩
def tt58:TO:=some ⟨false,1,[],some (43,false,1,8),none,[.sl],false⟩
def tt59:TO:=some ⟨true,2,[(0,false,1),(1,false,1)],none,none,[.int .i64,.int .i64],false⟩
def tt60:TO:=some ⟨true,2,[(0,false,1),(1,false,1)],none,none,[.bool,.int .i64],false⟩
def tt61:TO:=some ⟨true,1,[(0,false,1)],none,none,[.fn],false⟩
def tt62:TO:=some ⟨true,14,[(0,true,4),(4,false,1),(5,false,1),(6,true,8)],none,none,[.int .i64,.sl,.sl,.sl,.int .i64,.int .i64,.str,.str,.str,.int .i64,.int .i64,.int .i64,.sl,.sl],false⟩
def tt63:TO:=some ⟨false,1,[],some (48,false,1,24),none,[.sl],false⟩
def tt64:TO:=some ⟨true,2,[(0,false,1),(1,false,1)],none,none,[.ptr,.sl],false⟩
def tt65:TO:=some ⟨true,12,[],none,some (12,false,1),[.bool,.bool,.bool,.bool,.bool,.bool,.bool,.bool,.bool,.bool,.bool,.bool],false⟩
def tt66:TO:=some ⟨true,64,[],none,some (64,false,1),[.int .u32,.int .u32,.int .u32,.int .u32,.int .u32,.int .u32,.int .u32,.int .u32,.int .u32,.int .u32,.int .u32,.int .u32,.int .u32,.int .u32,.int .u32,.int .u32,.int .u32,.int .u32,.int .u32,.int .u32,.int .u32,.int .u32,.int .u32,.int .u32,.int .u32,.int .u32,.int .u32,.int .u32,.int .u32,.int .u32,.int .u32,.int .u32,.int .u32,.int .u32,.int .u32,.int .u32,.int .u32,.int .u32,.int .u32,.int .u32,.int .u32,.int .u32,.int .u32,.int .u32,.int .u32,.int .u32,.int .u32,.int .u32,.int .u32,.int .u32,.int .u32,.int .u32,.int .u32,.int .u32,.int .u32,.int .u32,.int .u32,.int .u32,.int .u32,.int .u32,.int .u32,.int .u32,.int .u32,.int .u32],false⟩
def tt67:TO:=some ⟨true,4,[],none,some (4,false,1),[.int .u32,.int .u32,.int .u32,.int .u32],false⟩
def tt68:TO:=some ⟨false,1,[],some (168,false,1,4),none,[.sl],false⟩
def tt69:TO:=some ⟨false,1,[],some (242,true,2,16),none,[.sl],false⟩
def tt70:TO:=some ⟨false,1,[],some (20,false,1,16),none,[.sl],false⟩
def tt71:TO:=some ⟨true,9,[],none,some (9,false,1),[.str,.str,.str,.str,.str,.str,.str,.str,.str],false⟩
def tt72:TO:=some ⟨true,24,[],none,some (24,false,1),[.int .u8,.int .u8,.int .u8,.int .u8,.int .u8,.int .u8,.int .u8,.int .u8,.int .u8,.int .u8,.int .u8,.int .u8,.int .u8,.int .u8,.int .u8,.int .u8,.int .u8,.int .u8,.int .u8,.int .u8,.int .u8,.int .u8,.int .u8,.int .u8],false⟩
def tt73:TO:=some ⟨true,20,[],none,some (20,false,1),[.int .u64,.int .u64,.int .u64,.int .u64,.int .u64,.int .u64,.int .u64,.int .u64,.int .u64,.int .u64,.int .u64,.int .u64,.int .u64,.int .u64,.int .u64,.int .u64,.int .u64,.int .u64,.int .u64,.int .u64],false⟩
def tt74:TO:=some ⟨true,65,[],none,some (65,false,1),[.int .u8,.int .u8,.int .u8,.int .u8,.int .u8,.int .u8,.int .u8,.int .u8,.int .u8,.int .u8,.int .u8,.int .u8,.int .u8,.int .u8,.int .u8,.int .u8,.int .u8,.int .u8,.int .u8,.int .u8,.int .u8,.int .u8,.int .u8,.int .u8,.int .u8,.int .u8,.int .u8,.int .u8,.int .u8,.int .u8,.int .u8,.int .u8,.int .u8,.int .u8,.int .u8,.int .u8,.int .u8,.int .u8,.int .u8,.int .u8,.int .u8,.int .u8,.int .u8,.int .u8,.int .u8,.int .u8,.int .u8,.int .u8,.int .u8,.int .u8,.int .u8,.int .u8,.int .u8,.int .u8,.int .u8,.int .u8,.int .u8,.int .u8,.int .u8,.int .u8,.int .u8,.int .u8,.int .u8,.int .u8,.int .u8],false⟩
def tt75:TO:=some ⟨true,4,[(0,false,1),(1,false,1),(2,false,1),(3,false,1)],none,none,[.ptr,.ptr,.ptr,.str],false⟩
def tt76:TO:=some ⟨true,0,[],none,some (0,false,1),[],false⟩
def tt77:TO:=some ⟨true,0,[(0,true,0)],none,none,[],false⟩
def tt78:TO:=some ⟨true,11,[(0,false,1),(1,false,1),(2,false,1),(3,false,1),(4,false,1),(5,false,1),(6,false,1),(7,false,1),(8,false,1),(9,false,1),(10,false,1)],none,none,[.int .u64,.int .u64,.int .u32,.int .u8,.int .u8,.int .u8,.int .u8,.fn,.ptr,.int .i32,.int .i32],false⟩
def tget (t:Nat):TO:=bif Nat.blt t 365 then (bif Nat.blt t 182 then (bif Nat.blt t 91 then (bif Nat.blt t 45 then (bif Nat.blt t 22 then (bif Nat.blt t 11 then (bif Nat.blt t 5 then (bif Nat.blt t 2 then (bif Nat.blt t 1 then (tt0) else (tt1)) else (bif Nat.blt t 3 then (tt2) else (bif Nat.blt t 4 then (tt2) else (tt3)))) else (bif Nat.blt t 8 then (bif Nat.blt t 6 then (tt4) else (bif Nat.blt t 7 then (tt4) else (tt5))) else (bif Nat.blt t 9 then (tt5) else (tt6)))) else (bif Nat.blt t 16 then (bif Nat.blt t 13 then (bif Nat.blt t 12 then (tt6) else (tt7)) else (bif Nat.blt t 14 then (tt8) else (bif Nat.blt t 15 then (tt8) else (tt9)))) else (bif Nat.blt t 19 then (bif Nat.blt t 17 then (tt9) else (bif Nat.blt t 18 then (tt9) else (tt10))) else (bif Nat.blt t 20 then (tt10) else (bif Nat.blt t 21 then (tt11) else (tt12)))))) else (bif Nat.blt t 33 then (bif Nat.blt t 27 then (bif Nat.blt t 24 then (bif Nat.blt t 23 then (tt13) else (tt14)) else (bif Nat.blt t 25 then (tt15) else (bif Nat.blt t 26 then (tt16) else (tt17)))) else (bif Nat.blt t 30 then (bif Nat.blt t 28 then (tt18) else (bif Nat.blt t 29 then (tt18) else (tt1))) else (bif Nat.blt t 31 then (tt19) else (bif Nat.blt t 32 then (tt19) else (tt1))))) else (bif Nat.blt t 39 then (bif Nat.blt t 36 then (tt1) else (bif Nat.blt t 37 then (tt1) else (tt20))) else (bif Nat.blt t 42 then (tt1) else (bif Nat.blt t 43 then (tt21) else (bif Nat.blt t 44 then (tt2) else (tt0))))))) else (bif Nat.blt t 68 then (bif Nat.blt t 56 then (bif Nat.blt t 50 then (bif Nat.blt t 47 then (tt1) else (bif Nat.blt t 48 then (tt1) else (bif Nat.blt t 49 then (tt22) else (tt23)))) else (bif Nat.blt t 53 then (bif Nat.blt t 51 then (tt24) else (bif Nat.blt t 52 then (tt24) else (tt25))) else (bif Nat.blt t 54 then (tt25) else (bif Nat.blt t 55 then (tt1) else (tt26))))) else (bif Nat.blt t 62 then (bif Nat.blt t 59 then (bif Nat.blt t 57 then (tt24) else (bif Nat.blt t 58 then (tt24) else (tt25))) else (bif Nat.blt t 60 then (tt25) else (tt1))) else (bif Nat.blt t 65 then (bif Nat.blt t 63 then (tt27) else (bif Nat.blt t 64 then (tt0) else (tt1))) else (bif Nat.blt t 66 then (tt1) else (bif Nat.blt t 67 then (tt1) else (tt28)))))) else (bif Nat.blt t 79 then (bif Nat.blt t 73 then (bif Nat.blt t 70 then (tt1) else (bif Nat.blt t 71 then (tt1) else (bif Nat.blt t 72 then (tt29) else (tt30)))) else (bif Nat.blt t 76 then (bif Nat.blt t 74 then (tt1) else (bif Nat.blt t 75 then (tt1) else (tt31))) else (bif Nat.blt t 77 then (tt31) else (tt1)))) else (bif Nat.blt t 85 then (bif Nat.blt t 82 then (bif Nat.blt t 80 then (tt9) else (tt32)) else (bif Nat.blt t 83 then (tt1) else (bif Nat.blt t 84 then (tt33) else (tt34)))) else (bif Nat.blt t 88 then (bif Nat.blt t 86 then (tt34) else (bif Nat.blt t 87 then (tt1) else (tt35))) else (bif Nat.blt t 89 then (tt36) else (bif Nat.blt t 90 then (tt36) else (tt37)))))))) else (bif Nat.blt t 136 then (bif Nat.blt t 113 then (bif Nat.blt t 102 then (bif Nat.blt t 96 then (bif Nat.blt t 93 then (tt38) else (bif Nat.blt t 94 then (tt0) else (tt1))) else (bif Nat.blt t 99 then (bif Nat.blt t 97 then (tt39) else (bif Nat.blt t 98 then (tt39) else (tt1))) else (tt1))) else (bif Nat.blt t 107 then (bif Nat.blt t 104 then (tt1) else (bif Nat.blt t 105 then (tt1) else (bif Nat.blt t 106 then (tt1) else (tt0)))) else (bif Nat.blt t 110 then (bif Nat.blt t 108 then (tt1) else (bif Nat.blt t 109 then (tt1) else (tt0))) else (bif Nat.blt t 111 then (tt0) else (tt1))))) else (bif Nat.blt t 124 then (bif Nat.blt t 118 then (bif Nat.blt t 115 then (tt40) else (bif Nat.blt t 116 then (tt1) else (bif Nat.blt t 117 then (tt9) else (tt32)))) else (bif Nat.blt t 121 then (bif Nat.blt t 119 then (tt32) else (tt1)) else (bif Nat.blt t 122 then (tt9) else (bif Nat.blt t 123 then (tt0) else (tt1))))) else (bif Nat.blt t 130 then (bif Nat.blt t 127 then (bif Nat.blt t 125 then (tt1) else (bif Nat.blt t 126 then (tt9) else (tt1))) else (bif Nat.blt t 128 then (tt41) else (tt42))) else (bif Nat.blt t 133 then (bif Nat.blt t 131 then (tt43) else (tt1)) else (bif Nat.blt t 134 then (tt1) else (bif Nat.blt t 135 then (tt1) else (tt40))))))) else (bif Nat.blt t 159 then (bif Nat.blt t 147 then (bif Nat.blt t 141 then (bif Nat.blt t 138 then (tt1) else (bif Nat.blt t 139 then (tt41) else (tt1))) else (bif Nat.blt t 144 then (bif Nat.blt t 142 then (tt44) else (tt41)) else (bif Nat.blt t 145 then (tt45) else (bif Nat.blt t 146 then (tt45) else (tt46))))) else (bif Nat.blt t 153 then (bif Nat.blt t 150 then (bif Nat.blt t 148 then (tt46) else (bif Nat.blt t 149 then (tt47) else (tt1))) else (bif Nat.blt t 151 then (tt40) else (bif Nat.blt t 152 then (tt40) else (tt1)))) else (bif Nat.blt t 156 then (bif Nat.blt t 154 then (tt1) else (tt11)) else (bif Nat.blt t 157 then (tt9) else (tt48))))) else (bif Nat.blt t 170 then (bif Nat.blt t 164 then (tt1) else (bif Nat.blt t 167 then (tt1) else (bif Nat.blt t 168 then (tt7) else (bif Nat.blt t 169 then (tt49) else (tt50))))) else (bif Nat.blt t 176 then (bif Nat.blt t 173 then (bif Nat.blt t 171 then (tt51) else (tt52)) else (tt1)) else (bif Nat.blt t 179 then (bif Nat.blt t 177 then (tt53) else (tt1)) else (bif Nat.blt t 180 then (tt1) else (bif Nat.blt t 181 then (tt7) else (tt1))))))))) else (bif Nat.blt t 273 then (bif Nat.blt t 227 then (bif Nat.blt t 204 then (bif Nat.blt t 193 then (bif Nat.blt t 187 then (bif Nat.blt t 184 then (tt1) else (bif Nat.blt t 185 then (tt54) else (tt1))) else (bif Nat.blt t 190 then (bif Nat.blt t 188 then (tt1) else (bif Nat.blt t 189 then (tt1) else (tt55))) else (bif Nat.blt t 191 then (tt1) else (bif Nat.blt t 192 then (tt40) else (tt1))))) else (bif Nat.blt t 198 then (tt1) else (bif Nat.blt t 201 then (bif Nat.blt t 199 then (tt1) else (bif Nat.blt t 200 then (tt56) else (tt0))) else (tt1)))) else (bif Nat.blt t 215 then (bif Nat.blt t 209 then (bif Nat.blt t 206 then (tt1) else (bif Nat.blt t 207 then (tt57) else (bif Nat.blt t 208 then (tt0) else (tt1)))) else (bif Nat.blt t 212 then (bif Nat.blt t 210 then (tt1) else (bif Nat.blt t 211 then (tt0) else (tt58))) else (tt1))) else (bif Nat.blt t 221 then (bif Nat.blt t 218 then (bif Nat.blt t 216 then (tt1) else (bif Nat.blt t 217 then (tt1) else (tt0))) else (tt1)) else (tt1)))) else (bif Nat.blt t 250 then (bif Nat.blt t 238 then (bif Nat.blt t 232 then (bif Nat.blt t 229 then (bif Nat.blt t 228 then (tt0) else (tt1)) else (bif Nat.blt t 230 then (tt0) else (tt1))) else (bif Nat.blt t 235 then (bif Nat.blt t 233 then (tt1) else (tt59)) else (tt1))) else (bif Nat.blt t 244 then (bif Nat.blt t 241 then (tt1) else (bif Nat.blt t 242 then (tt60) else (bif Nat.blt t 243 then (tt60) else (tt1)))) else (bif Nat.blt t 247 then (bif Nat.blt t 245 then (tt61) else (bif Nat.blt t 246 then (tt0) else (tt41))) else (bif Nat.blt t 248 then (tt62) else (bif Nat.blt t 249 then (tt62) else (tt0)))))) else (bif Nat.blt t 261 then (bif Nat.blt t 255 then (tt1) else (bif Nat.blt t 258 then (bif Nat.blt t 256 then (tt1) else (bif Nat.blt t 257 then (tt1) else (tt63))) else (bif Nat.blt t 259 then (tt1) else (bif Nat.blt t 260 then (tt1) else (tt0))))) else (bif Nat.blt t 267 then (bif Nat.blt t 264 then (bif Nat.blt t 262 then (tt1) else (bif Nat.blt t 263 then (tt0) else (tt1))) else (bif Nat.blt t 265 then (tt9) else (tt64))) else (bif Nat.blt t 270 then (bif Nat.blt t 268 then (tt1) else (tt11)) else (bif Nat.blt t 271 then (tt0) else (tt1))))))) else (bif Nat.blt t 319 then (bif Nat.blt t 296 then (bif Nat.blt t 284 then (bif Nat.blt t 278 then (bif Nat.blt t 275 then (tt1) else (bif Nat.blt t 276 then (tt1) else (tt65))) else (tt1)) else (bif Nat.blt t 290 then (bif Nat.blt t 287 then (bif Nat.blt t 285 then (tt1) else (bif Nat.blt t 286 then (tt1) else (tt0))) else (tt1)) else (bif Nat.blt t 293 then (tt1) else (bif Nat.blt t 294 then (tt66) else (bif Nat.blt t 295 then (tt1) else (tt67)))))) else (bif Nat.blt t 307 then (bif Nat.blt t 301 then (bif Nat.blt t 298 then (bif Nat.blt t 297 then (tt68) else (tt1)) else (tt1)) else (bif Nat.blt t 304 then (bif Nat.blt t 302 then (tt1) else (bif Nat.blt t 303 then (tt1) else (tt69))) else (bif Nat.blt t 305 then (tt1) else (bif Nat.blt t 306 then (tt41) else (tt1))))) else (bif Nat.blt t 313 then (bif Nat.blt t 310 then (bif Nat.blt t 308 then (tt9) else (tt1)) else (tt1)) else (bif Nat.blt t 316 then (bif Nat.blt t 314 then (tt1) else (bif Nat.blt t 315 then (tt1) else (tt0))) else (tt1))))) else (bif Nat.blt t 342 then (bif Nat.blt t 330 then (bif Nat.blt t 324 then (bif Nat.blt t 321 then (bif Nat.blt t 320 then (tt1) else (tt70)) else (bif Nat.blt t 322 then (tt1) else (bif Nat.blt t 323 then (tt1) else (tt9)))) else (bif Nat.blt t 327 then (tt1) else (bif Nat.blt t 328 then (tt0) else (tt1)))) else (bif Nat.blt t 336 then (tt1) else (bif Nat.blt t 339 then (bif Nat.blt t 337 then (tt71) else (tt1)) else (bif Nat.blt t 340 then (tt1) else (bif Nat.blt t 341 then (tt1) else (tt72)))))) else (bif Nat.blt t 353 then (bif Nat.blt t 347 then (bif Nat.blt t 344 then (tt1) else (bif Nat.blt t 345 then (tt0) else (tt1))) else (bif Nat.blt t 350 then (bif Nat.blt t 348 then (tt73) else (bif Nat.blt t 349 then (tt74) else (tt1))) else (bif Nat.blt t 351 then (tt1) else (tt75)))) else (bif Nat.blt t 359 then (bif Nat.blt t 356 then (bif Nat.blt t 354 then (tt76) else (tt77)) else (bif Nat.blt t 357 then (tt1) else (tt4))) else (bif Nat.blt t 362 then (bif Nat.blt t 360 then (tt1) else (tt12)) else (bif Nat.blt t 363 then (tt78) else (bif Nat.blt t 364 then (tt78) else (tt1)))))))))) else none
theorem bZ2:((List.range 365).all fun t=>decide (tiOf Tryz.prog t=tget t))=true:=by kernel_rfl
theorem aa0 (t:TypeId) (i:TI) (h:tget t=some i):tiOf Tryz.prog t=some i:=by
 by_cases ht:t<365
 ·have:=List.all_eq_true.1 bZ2 t (List.mem_range.2 ht)
  rw [of_decide_eq_true this];exact h
 ·unfold tget at h
  rw [cu4 ht] at h
  cases h
theorem mixed:Tryz.prog.follows .mixedOrders=true:=by kernel_rfl
end
section
open Go
def ab1 (x:Sch) (n:ByteArray):Int:=idx (fun k=>seq k.name n) x.kinds
def aa3 (k:Knd) (n:ByteArray):Int:=idx (fun f=>seq f.name n) k.fields
def ad5 (x:Sch) (i:Int):Option Knd:=if 0≤i then x.kinds[i.toNat]? else none
def fieldAt (x:Sch) (i j:Int):Option Fld:=match ad5 x i with|some k=>if 0≤j then k.fields[j.toNat]? else none|none=>none
def refUp (x:Sch) (i:Int) (f:Fld):Int:=if ab1 x f.of<i then ab1 x f.of else -1
def ax2 (u j:Int):Option Fld→Option Fld
 | some g=>if u<j∧g.kind=1 then some g else none
 | none=>none
def aD6 (x:Sch) (i j:Int) (f:Fld):Option Fld:=
 match ad5 x i with
 | none=>none
 | some k=>ax2 (aa3 k f.up) j (fieldAt x i (aa3 k f.up))
def as7 (x:Sch) (i:Int):Option Fld→Int
 | some g=>refUp x i g
 | none=>-1
def upIx (x:Sch) (i j:Int):Int:=
 match fieldAt x i j with
 | none=>-1
 | some f=>if f.kind=7∨f.kind=8 then as7 x i (aD6 x i j f) else if f.kind=1 then refUp x i f else -1
def as4 (x:Sch) (i:Int) (f:Fld):List Int:=
 match ad5 x (ab1 x f.of) with
 | none=>[]
 | some k=>((List.range k.fields.length).filter fun (j:Nat)=>match k.fields[j]? with|some g=>decide (g.kind=7) && seq g.of f.name && decide (upIx x (ab1 x f.of) j=i)|none=>false).map (fun (j:Nat)=>(j:Int))
def av1 (x:Sch) (i:Int) (f:Fld):Bool:=!decide (f.kind=6) || decide (ab1 x f.of≤i)
end
section
open Go
abbrev iD (n:Int):D:=.v (.int .i64 n)
abbrev bD (b:Bool):D:=.v (.bool b)
abbrev sD (s:ByteArray):D:=.v (.string s)
def slI (xs:List Int):D:=.sl 1 (xs.map fun x=>[iD x])
def slS (xs:List ByteArray):D:=.sl 1 (xs.map fun x=>[sD x])
def fldC (f:Fld):List D:=[sD f.name,sD f.of,sD f.up,iD f.kind,iD f.lo,iD f.hi,slS f.words,slI f.weights]
def slF (xs:List Fld):D:=.sl 8 (xs.map fldC)
def kndC (k:Knd):List D:=[sD k.name,iD k.lo,iD k.hi,slF k.fields]
def slK (xs:List Knd):D:=.sl 4 (xs.map kndC)
def movC (m:Int × Int):List D:=[iD m.1,iD m.2]
def lifC (x:Lif):List D:=[sD x.name,slS x.states,.sl 2 (x.moves.map movC)]
def slL (xs:List Lif):D:=.sl 3 (xs.map lifC)
def rulC (x:Rul):List D:=[sD x.name,sD x.kind,sD x.a,sD x.b,iD x.n]
def slR (xs:List Rul):D:=.sl 5 (xs.map rulC)
def schC (x:Sch):List D:=[iD x.version,slK x.kinds,slL x.lives,slR x.rules]
abbrev schD (x:Sch):D:=.agg (schC x)
abbrev kndD (x:Knd):D:=.agg (kndC x)
abbrev fldD (x:Fld):D:=.agg (fldC x)
abbrev lifD (x:Lif):D:=.agg (lifC x)
abbrev rulD (x:Rul):D:=.agg (rulC x)
theorem cq0 {α β:Type} {f:α→β} {l:List α} {i:Nat} {x:α} (h:l[i]?=some x):(l.map f)[i]?=some (f x):=by rw [List.getElem?_map,h];rfl
end
section
open Go
def ar7 (x:Sch) (o i:Int) (f:Fld) (g:Fld) (j:Nat):Bool:=decide (g.kind=7) && seq g.of f.name && decide (upIx x o j=i)
def aj0 (x:Sch) (o i:Int) (f:Fld) (fs:List Fld) (n:Nat):List Int:=
 ((List.range n).filter fun (j:Nat)=>match fs[j]? with|some g=>ar7 x o i f g j|none=>false).map (fun (j:Nat)=>(j:Int))
theorem aq9 (x:Sch) (o i:Int) (f:Fld) (fs:List Fld) (n:Nat) (g:Fld) (h:fs[n]?=some g):aj0 x o i f fs (n+1)=aj0 x o i f fs n ++ (if ar7 x o i f g n then [(n:Int)] else []):=by
 simp only [aj0,List.range_succ,List.filter_append,List.map_append]
 congr 1
 simp only [List.filter_cons,h,List.filter_nil]
 split <;> simp_all
theorem aF1 (x:Sch) (o i:Int) (f:Fld) (fs:List Fld) (n:Nat):(aj0 x o i f fs n).length≤n:=by
 simp only [aj0,List.length_map]
 exact Nat.le_trans (List.length_filter_le _ _) (by simp)
theorem bg0 (x:Sch) (i:Int) (f:Fld) (k:Knd) (hk:ad5 x (ab1 x f.of)=some k):as4 x i f=aj0 x (ab1 x f.of) i f k.fields k.fields.length:=by
 simp only [as4,hk,aj0,ar7] <;> rfl
theorem bC9 (x:Sch) (n:ByteArray) (h:0≤ab1 x n):∃ (o:Nat) (k:Knd),ab1 x n=o∧x.kinds[o]?=some k∧seq k.name n=true:=by
 unfold ab1 idx at *
 split at h
 ·rename_i o ho
  obtain ⟨h1,h2,_⟩:=List.findIdx?_eq_some_iff_getElem.1 ho
  exact ⟨o,x.kinds[o],by simp [ho],List.getElem?_eq_getElem h1,h2⟩
 ·omega
theorem bl8 (x:Sch) (i:Int) (f:Fld) (h:0≤refUp x i f):∃ (o:Nat) (k:Knd),refUp x i f=o∧x.kinds[o]?=some k:=by
 unfold refUp at *
 split at h
 ·obtain ⟨o,k,h1,h2,_⟩:=bC9 x f.of h
  exact ⟨o,k,by rw [if_pos (by assumption)];exact h1,h2⟩
 ·omega
theorem bv4 (x:Sch) (i j:Int) (h:0≤upIx x i j):∃ (o:Nat) (k:Knd),upIx x i j=o∧x.kinds[o]?=some k:=by
 unfold upIx at *
 cases hf:fieldAt x i j with
 | none=>simp [hf] at h
 | some f=>
  simp only [hf] at h ⊢
  split at h
  ·rename_i h7
   simp only [h7,if_true]
   unfold as7 at *
   split at h
   ·rename_i g hg;exact bl8 x i g h
   ·omega
  ·rename_i h7
   simp only [h7,if_false]
   split at h
   ·rename_i h1;simp only [h1,if_true];exact bl8 x i f h
   ·omega
def topF (x:Sch) (i j:Int) (f:Fld):Option Fld:=
 if upIx x i j<0 then none else match ad5 x (upIx x i j) with|some k=>fieldAt x (upIx x i j) (aa3 k f.of)|none=>none
def aD4:Fld:=⟨⟨#[]⟩,⟨#[]⟩,⟨#[]⟩,0,0,0,[],[]⟩
def topR (x:Sch) (i j:Int) (f:Fld):Fld × Bool:=match topF x i j f with|some g=>(g,true)|none=>(aD4,false)
def atR (x:Sch) (i j:Int):Fld × Bool:=match fieldAt x i j with|some g=>(g,true)|none=>(aD4,false)
def ak3:List (Bool × Int)→Int
 | []=>0
 | (true,c) :: _=>c
 | (false,_) :: l=>ak3 l
def ae4 (x:Sch) (k:Knd) (o:Int) (n:ByteArray):Bool:=!isE n && !(atR x o (aa3 k n)).2
def ac9 (x:Sch) (k:Knd) (o:Int) (n:ByteArray):Bool:=!isE n && ((atR x o (aa3 k n)).1.kind != 2 && (atR x o (aa3 k n)).1.kind != 4)
def ae1 (x:Sch) (i:Nat) (r:Rul):Bool:=(x.rules.take i).any (fun s=>seq s.name r.name)
def au3 (x:Sch) (i:Nat) (r:Rul):Int:=
 match ad5 x (ab1 x r.kind) with
 | none=>ak3 [(ae1 x i r,7),(true,12),(false,13),(seq r.a r.b,1)]
 | some k=>ak3 [(ae1 x i r,7),(ae4 x k (ab1 x r.kind) r.a || ae4 x k (ab1 x r.kind) r.b,12),(ac9 x k (ab1 x r.kind) r.a || ac9 x k (ab1 x r.kind) r.b,13),(seq r.a r.b,1)]
theorem aA3:∀ (fs:List (Bool × Int)) (n:Nat),(∀ (j:Nat) x,j<n→fs[j]?=some x→x.1=false)→ak3 (fs.drop n)=ak3 fs
 | fs,0,_=>by simp
 | [],n+1,_=>by simp
 | (b,c) :: l,n+1,h=>by
  have hb:b=false:=h 0 (b,c) (by omega) rfl
  subst hb
  have:=aA3 l n (fun j x hj hx=>h (j+1) x (by omega) (by simpa using hx))
  simpa [ak3] using this
theorem bE6 {fs:List (Bool × Int)} {n:Nat} {x:Bool × Int} (h:∀ (j:Nat) x,j<n→fs[j]?=some x→x.1=false) (hx:fs[n]?=some x) (hb:x.1=true):ak3 fs=x.2:=by
 rw [← aA3 fs n h]
 have hlt:=(List.getElem?_eq_some_iff.1 hx).1
 have he:=(List.getElem?_eq_some_iff.1 hx).2
 rw [List.drop_eq_getElem_cons hlt,he]
 obtain ⟨b,c⟩:=x
 simp only at hb;subst hb;rfl
theorem bi1 {fs:List (Bool × Int)} (h:∀ (j:Nat) x,fs[j]?=some x→x.1=false):ak3 fs=0:=by
 rw [← aA3 fs fs.length (fun j x _ hx=>h j x hx),List.drop_length];rfl
end
section
open Go
abbrev Prb:=Int × Int × Int × Int
def one (k f r e:Int):List Prb:=if e=0 then [] else [(k,f,r,e)]
theorem av3 (k f r e:Int):(one k f r e).length≤1:=by unfold one;split <;> simp
theorem one0 (k f r:Int):one k f r 0=[]:=by simp [one]
def upTo {α:Type} (q:Nat) (g:Nat→List α):List α:=(List.range q).flatMap g
theorem ac4 {α:Type} (q:Nat) (g:Nat→List α):upTo (q+1) g=upTo q g ++ g q:=by simp [upTo,List.range_succ,List.flatMap_append]
theorem ab9 {α:Type} {g:Nat→List α} {m:Nat} (h:∀ i,(g i).length≤m):∀ q,(upTo q g).length≤q*m
 | 0=>by simp [upTo]
 | q+1=>by rw [ac4,List.length_append,Nat.add_mul];have:=ab9 h q;have:=h q;omega
def aq3 (x:Sch) (i:Int) (f:Fld):Int × List Int:=if av1 x i f then (-1,[]) else (ab1 x f.of,as4 x i f)
def abvR (x:Sch) (i j:Int) (f:Fld):Int × Fld:=match topF x i j f with
 | none=>(-1,aD4)
 | some g=>(g.kind,g)
def az6 (x:Sch) (i j:Int) (f:Fld) (up:Int):Int:=
 if up<0 then 12
 else if f.kind=7 then (if (abvR x i j f).1=6∧ab1 x (abvR x i j f).2.of=i then 0 else 13)
 else if (abvR x i j f).1<0∨(abvR x i j f).1=0∨(abvR x i j f).1=1∨(abvR x i j f).1=6∨(abvR x i j f).1=7 then 13 else 0
def dayE (x:Sch) (i j:Int) (f:Fld):Int:=match ad5 x i with
 | none=>0
 | some k=>if isE f.of then 0 else if aa3 k f.of<0∨j≤aa3 k f.of then 12 else match k.fields[(aa3 k f.of).toNat]? with|some g=>if g.kind=4 then 0 else 12|none=>12
def ac3 (x:Sch) (i j:Int) (f:Fld):Int:=
 if f.kind=0∧0<j then 13
 else if f.kind=0∨f.kind=2∨f.kind=3 then 0
 else if f.kind=1 then (if upIx x i j<0 then 12 else 0)
 else if f.kind=4 then dayE x i j f
 else if f.kind=5 then (if x.lives.any (fun l=>seq l.name f.of) then 0 else 12)
 else if f.kind=6 then (if (aq3 x i f).1<0 then 12 else if (aq3 x i f).2.length=1 then 0 else 11)
 else az6 x i j f (upIx x i j)
def aQ6 (fs:List Fld):Bool:=match fs with | []=>false|f :: _=>decide (f.kind=0)
def aB8 (x:Sch) (i:Nat) (l:Lif):Bool:=(x.lives.take i).any (fun m=>seq m.name l.name)
def aM1 (x:Sch) (i:Nat):List Prb:=match x.lives[i]? with|some l=>one (-1) i (-1) (if aB8 x i l then 7 else 0)|none=>[]
def am6 (x:Sch) (i:Nat) (k:Knd):Int:=if ab1 x k.name<i then 7 else if aQ6 k.fields then 0 else 11
def aG3 (x:Sch) (i:Nat) (k:Knd) (j:Nat) (f:Fld):Int:=if aa3 k f.name<j then 7 else ac3 x i j f
def ag4 (x:Sch) (i:Nat) (k:Knd) (j:Nat):List Prb:=match k.fields[j]? with|some f=>one i j (-1) (aG3 x i k j f)|none=>[]
def ak1 (x:Sch) (i:Nat):List Prb:=match x.kinds[i]? with|some k=>one i (-1) (-1) (am6 x i k) ++ upTo k.fields.length (ag4 x i k)|none=>[]
def aK5 (x:Sch) (i:Nat):List Prb:=match x.rules[i]? with|some r=>one (-1) (-1) i (au3 x i r)|none=>[]
def ai3 (x:Sch):Int:=if al7 x then 0 else 1
def ah6 (x:Sch):List Prb:=if ai3 x=0 then upTo x.lives.length (aM1 x) ++ upTo x.kinds.length (ak1 x) ++ upTo x.rules.length (aK5 x) else [(-1,-1,-1,ai3 x)]
theorem bb4 (x:Sch) (i:Nat):(aM1 x i).length≤1:=by unfold aM1;split;exact av3 _ _ _ _;simp
theorem aR2 (x:Sch) (i:Nat) (k:Knd) (j:Nat):(ag4 x i k j).length≤1:=by unfold ag4;split;exact av3 _ _ _ _;simp
theorem by0 (x:Sch) (i:Nat):(aK5 x i).length≤1:=by unfold aK5;split;exact av3 _ _ _ _;simp
theorem bC8 (x:Sch) (i:Nat) (h:∀ k∈x.kinds,k.fields.length≤10):(ak1 x i).length≤11:=by
 unfold ak1
 split
 ·rename_i k hk
  rw [List.length_append]
  have h1:=ab9 (aR2 x i k) k.fields.length
  have h2:=h k (List.mem_of_getElem? hk)
  have h3:=av3 i (-1) (-1) (am6 x i k)
  omega
 ·simp
structure Vld (x:Sch):Prop where
 nk:x.kinds.length≤6
 nl:x.lives.length≤6
 nr:x.rules.length≤16
 nf:∀ k∈x.kinds,k.fields.length≤10
 kinds:∀ k∈x.kinds,aj3 k=true
 lives:∀ l∈x.lives,aj9 l=true
 rules:∀ r∈x.rules,at7 r=true
theorem cj8 {x:Sch} (h:al7 x=true):Vld x:=by
 simp only [al7,Bool.and_eq_true,decide_eq_true_eq,List.all_eq_true] at h
 obtain ⟨⟨⟨⟨⟨⟨_,h2⟩,h3⟩,h4⟩,h5⟩,h6⟩,h7⟩:=h
 exact ⟨h2,h3,h4,fun k hk=>by have:=h5 k hk;simp only [aj3,Bool.and_eq_true,decide_eq_true_eq] at this;exact this.1.2,h5,h6,h7⟩
theorem bv1 {x:Sch} (h:ai3 x=0):Vld x:=by
 unfold ai3 at h
 split at h
 ·exact cj8 (by assumption)
 ·omega
end
section
open Go
abbrev Wd:=List (List (List Int))
abbrev Sb:=List (List Bool)
structure Rf where
 kind:Nat
 field:Nat
 up:Int
 least:Int
def refF (x:Sch) (k:Nat) (kd:Knd) (i:Nat):List Rf:=match kd.fields[i]? with
 | some f=>if f.kind=1 then [⟨k,i,upIx x k i,f.lo⟩] else []
 | none=>[]
def refK (x:Sch) (k:Nat):List Rf:=match x.kinds[k]? with
 | some kd=>upTo kd.fields.length (refF x k kd)
 | none=>[]
def aa4 (x:Sch):List Rf:=upTo x.kinds.length (refK x)
theorem bm0 (x:Sch) (k:Nat) (kd:Knd) (i:Nat):(refF x k kd i).length≤1:=by unfold refF;split <;> (try split) <;> simp
theorem bl9 (x:Sch) (k:Nat) (h:∀ k∈x.kinds,k.fields.length≤1000):(refK x k).length≤1000:=by
 unfold refK
 split
 ·rename_i kd hk
  have h1:=ab9 (bm0 x k kd) kd.fields.length
  have h2:=h kd (List.mem_of_getElem? hk)
  omega
 ·simp
theorem av5 {α:Type} {q:Nat} {g:Nat→List α} {a:α}:a∈upTo q g↔∃ i,i<q∧a∈g i:=by
 unfold upTo;rw [List.mem_flatMap];constructor
 ·rintro ⟨i,hi,ha⟩;exact ⟨i,List.mem_range.1 hi,ha⟩
 ·rintro ⟨i,hi,ha⟩;exact ⟨i,List.mem_range.2 hi,ha⟩
theorem aI2 {x:Sch} {r:Rf} (h:r∈aa4 x):∃ kd f,x.kinds[r.kind]?=some kd∧kd.fields[r.field]?=some f∧f.kind=1∧r.up=upIx x r.kind r.field∧r.least=f.lo:=by
 obtain ⟨k,hk,h⟩:=av5.1 h
 unfold refK at h
 split at h
 ·rename_i kd hkd
  obtain ⟨i,hi,h⟩:=av5.1 h
  unfold refF at h
  split at h
  ·rename_i f hf
   split at h
   ·rename_i h1
    rw [List.mem_singleton] at h
    subst h
    exact ⟨kd,f,hkd,hf,h1,rfl,rfl⟩
   ·cases h
  ·cases h
 ·cases h
def aK9 (w:Wd) (k i:Nat):List Int:=(w.getD k []).getD i []
def refOk (w:Wd) (r:Rf) (l:List Int):Bool:=!(decide (l.getD r.field 0<0) || decide ((w.getD r.up.toNat []).length≤l.getD r.field 0))
def cd3 (x:Sch) (k:Nat) (l:List Int):Bool:=decide (l.length=(match x.kinds[k]? with|some kd=>kd.fields.length|none=>0))
/-! ### Laws -/
theorem aa6 {α:Type} {l:List α} {i:Nat} {a:α} (h:l[i]?=some a) (d:α):l.getD i d=a:=by simp [List.getD_eq_getElem?_getD,h]
end
section
open Go
def rfC (r:Rf):List D:=[iD r.kind,iD r.field,iD r.up,iD r.least]
def slW1 (l:List (List Int)):D:=.sl 1 (l.map fun r=>[slI r])
def slW (w:Wd):D:=.sl 1 (w.map fun l=>[slW1 l])
def slB (l:List Bool):D:=.sl 1 (l.map fun b=>[bD b])
def slS2 (s:Sb):D:=.sl 1 (s.map fun l=>[slB l])
def atC (k i:Int):List D:=[iD k,iD i]
end
section
open Go
theorem eC7 {N:Nat} {σ:aa1} {g:FuncId} {fn:Func} {c:Code} {args:List D} {R:D→aa1→Prop} (hf:Tryz.prog.funcs[g]?=some fn) (hN:fn.ntmps=N) (h:∀ B,W (am9 Tryz.prog tget none 9 B N c (retF Tryz.prog N fn R) (argF args) σ)) (hname:(fn.name == "runtime.NumGoroutine")=false:=by kernel_rfl) (hb:fn.body=some c:=by exact rfl) (hl:Nat.ble args.length N=true:=by exact rfl):ACall Tryz.prog g args σ R:=bW8 mixed aa0 hf hname hb hN hl h
theorem eP7 {N:Nat} {g:FuncId} {fn:Func} {c:Code} {args:List D} {d:D} (hf:Tryz.prog.funcs[g]?=some fn) (hN:fn.ntmps=N) (h:∀ B,W (am9 Tryz.prog tget none 9 B N c (retF Tryz.prog N fn fun d' _=>d'=d) (argF args) [])) (hname:(fn.name == "runtime.NumGoroutine")=false:=by kernel_rfl) (hb:fn.body=some c:=by exact rfl) (hl:Nat.ble args.length N=true:=by exact rfl):APure Tryz.prog g args d:=APure.of_call (bW8 mixed aa0 hf hname hb hN hl h)
theorem dr7 {A B:Prop} (k:B) (h:Hd7 B→A:=by intro hk7q;(refine Dr.r ?_;(((with_reducible refine W.mk ?_);(conv=>whnf)));refine Dm.r ?_;refine W.mk ?_);exact hk7q.run):A:=h ⟨k⟩
theorem sb0 {A B:Prop} (k:B) (h:Hd7 B→A:=by intro hk7q;(first|((with_reducible refine W.mk ?_);(conv=>whnf))|(with_reducible refine Br.tt ?_)|(with_reducible refine Br.ff ?_)|(with_reducible refine Br.n ?_)|((with_reducible refine' Br.eq ?h ?_);(case h=>(simp only [List.length_map,List.length_take,List.length_append,List.length_cons,List.length_nil,List.length_replicate,Nat.reduceAdd];exact rfl)))|((with_reducible refine Sd.go ?qs7 ?_);(case qs7=>first|trivial|(constructor <;> omega)|omega|assumption|((try simp only [List.length_map,List.length_take,List.length_append,List.length_cons,List.length_nil,List.length_replicate,Nat.reduceAdd] at *);first|(constructor <;> omega)|omega)))|((with_reducible refine Ck.go ?qs7 ?_);(case qs7=>kernel_rfl))|((with_reducible refine' Ix.mapAt ?hy ?h0 ?_);(case hy=>assumption);(case h0=>omega))|((with_reducible refine' Ix.at ?hy ?h0 ?_);(case hy=>exact rfl);(case h0=>omega))|((with_reducible refine Ix.mapM ?h0 ?_);(case h0=>first|omega|(simp only [List.length_map,List.length_take,List.length_append,List.length_cons,List.length_nil,List.length_replicate,Nat.reduceAdd] at *;omega)))|((with_reducible refine' Ld.at 0 ?h1 ?h2 ?h3 ?_);(case h1=>exact rfl);(case h2=>exact rfl);(case h3=>exact rfl))|((with_reducible refine' Ld.at 1 ?h1 ?h2 ?h3 ?_);(case h1=>exact rfl);(case h2=>exact rfl);(case h3=>exact rfl))|((with_reducible refine' Ld.at 2 ?h1 ?h2 ?h3 ?_);(case h1=>exact rfl);(case h2=>exact rfl);(case h3=>exact rfl))|((with_reducible refine' Sv.at 0 ?h1 ?h2 ?h3 ?h4 ?h5 ?_);(case h1=>exact rfl);(case h2=>exact rfl);(case h3=>exact rfl);(case h4=>exact rfl);(case h5=>exact (by first|(simp only [List.set_cons_succ,List.set_cons_zero,spl,af8,mkD,List.take_succ_cons,List.take_zero,List.drop_succ_cons,List.drop_zero,List.length_cons,List.length_nil,List.nil_append,List.cons_append,Nat.reduceAdd,Nat.zero_add,List.append_nil,List.map_cons,List.map_nil];rfl)|rfl)))|((with_reducible refine' Sv.at 1 ?h1 ?h2 ?h3 ?h4 ?h5 ?_);(case h1=>exact rfl);(case h2=>exact rfl);(case h3=>exact rfl);(case h4=>exact rfl);(case h5=>exact (by first|(simp only [List.set_cons_succ,List.set_cons_zero,spl,af8,mkD,List.take_succ_cons,List.take_zero,List.drop_succ_cons,List.drop_zero,List.length_cons,List.length_nil,List.nil_append,List.cons_append,Nat.reduceAdd,Nat.zero_add,List.append_nil,List.map_cons,List.map_nil];rfl)|rfl)))|((with_reducible refine' Sv.at 2 ?h1 ?h2 ?h3 ?h4 ?h5 ?_);(case h1=>exact rfl);(case h2=>exact rfl);(case h3=>exact rfl);(case h4=>exact rfl);(case h5=>exact (by first|(simp only [List.set_cons_succ,List.set_cons_zero,spl,af8,mkD,List.take_succ_cons,List.take_zero,List.drop_succ_cons,List.drop_zero,List.length_cons,List.length_nil,List.nil_append,List.cons_append,Nat.reduceAdd,Nat.zero_add,List.append_nil,List.map_cons,List.map_nil];rfl)|rfl)))|((with_reducible refine' Ot.yd ?hyd ?_);(case hyd=>first|(refine' aS1 aa0 rfl rfl rfl rfl rfl ?hc ?h0;(case hc=>assumption);(case h0=>omega))|(refine aS0 aa0 rfl rfl rfl rfl rfl ?_;first|omega|(simp only [List.length_map,List.length_take,List.length_append,List.length_cons,List.length_nil,List.length_replicate,Nat.reduceAdd];omega))|(refine aH4 aa0 rfl rfl rfl rfl rfl ?_;omega)|exact bj4 rfl rfl rfl Tryz.underlying4|exact bj2 rfl rfl rfl|exact bj3 rfl rfl rfl))|((with_reducible refine' Rs.tc aa0 (m:=0) ?h ?hi ?hj ?hb ?ht ?hag ?hs ?_);(case h=>exact rfl);(case hi=>exact rfl);(case hj=>exact rfl);(case hb=>exact rfl);(case ht=>exact rfl);(case hag=>exact rfl);(case hs=>exact rfl))|((with_reducible refine' Rs.ct aa0 (m:=0) ?h ?hi ?hj ?hb ?ht ?hag ?hs ?_);(case h=>exact rfl);(case hi=>exact rfl);(case hj=>exact rfl);(case hb=>exact rfl);(case ht=>exact rfl);(case hag=>exact rfl);(case hs=>exact rfl))|((with_reducible refine' Rs.c aa0 (m:=0) ?h ?hj ?hb ?ht ?hag ?hs ?_);(case h=>exact rfl);(case hj=>exact rfl);(case hb=>exact rfl);(case ht=>exact rfl);(case hag=>exact rfl);(case hs=>exact rfl))|((with_reducible refine Br.dt ?h ?_);(case h=>omega))|((with_reducible refine Br.df ?h ?_);(case h=>omega))|((with_reducible refine Br.t ?h ?_);(case h=>assumption))|((with_reducible refine Br.f ?h ?_);(case h=>assumption))|((with_reducible refine Br.t ?h ?_);(case h=>(refine decide_eq_true ?_;omega)))|((with_reducible refine Br.f ?h ?_);(case h=>(refine decide_eq_false ?_;omega))));exact hk7q.run):A:=h ⟨k⟩
theorem sb1 {A B:Prop} (k:B) (h:Hd7 B→A:=by intro hk7q;(first|(with_reducible refine Bc.l ?_)|(with_reducible refine Bx.l ?_)|((with_reducible refine Dr.l ?h ?_);(case h=>decide +kernel))|(with_reducible refine Dr.r ?_)|((with_reducible refine Dm.l ?h ?_);(case h=>decide +kernel))|((with_reducible refine Cb.go ?h ?_);(case h=>decide +kernel)));exact hk7q.run):A:=h ⟨k⟩
theorem sk2 {A B:Prop} (k:B) (h:Hd7 B→A:=by intro hk7q;(first|refine sb0 ?_|refine sb1 ?_|((with_reducible refine' Cp.by ?hc ?_);(case hc=>fail))|((with_reducible refine' CE.pure ?hc ?_);(case hc=>fail)));exact hk7q.run):A:=h ⟨k⟩
theorem ak6 (x:Sch) (nm:ByteArray) (hl:x.kinds.length≤1000000):APure Tryz.prog 81 [schD x,sD nm] (iD (ab1 x nm)):=by
 refine eP7 Tryz.func81 Tryz.ntmps81 fun BB=>?_
 repeat' first|refine sk2 ?_|(intro b;conv=>whnf)|refine IxM.mk fun y hy=>?_
 refine ae2 mixed aa0 (γ:=Nat) (fun k=>[(5,iD k)]) (fun _=>[]) (fun k=>k≤x.kinds.length∧∀ i y,i<k→x.kinds[i]?=some y→seq y.name nm=false) (fun k=>x.kinds.length - k) 0 rfl rfl ⟨by omega,by omega⟩ ?_
 rintro k ⟨hk,hno⟩
 repeat' first|refine sk2 ?_|(intro b;conv=>whnf)|refine IxM.mk fun y hy=>?_|(with_reducible refine Br.d (fun hc=>?_) (fun hc=>?_))|(with_reducible refine Br.b (fun hc=>?_) (fun hc=>?_))
 ·refine Rt.pure (congrArg iD ?_)
  exact (ac5 hy ‹_› hno).symm
 ·exact ⟨k+1,rfl,rfl,⟨by omega,fun i z hi hz=>by
   by_cases e:i=k
   ·subst e;rw [show ((i:Int)).toNat=i from rfl,hz] at hy;cases hy;assumption
   ·exact hno i z (by omega) hz⟩,by omega⟩
 ·refine Rt.pure (congrArg iD ?_)
  exact (ag5 fun i y hy=>hno i y (by have:=(List.getElem?_eq_some_iff.1 hy).1;omega) hy).symm
def hasB (x:Sch) (i j:Int):Bool:=(fieldAt x i j).isSome
theorem aj8 {x:Sch} {i j:Int} (h:i<0∨(x.kinds.length:Int)≤i∨j<0):fieldAt x i j=none:=by
 unfold fieldAt ad5
 by_cases hi:0≤i
 ·rw [if_pos hi]
  cases hk:x.kinds[i.toNat]? with
  | none=>rfl
  | some k=>
   have:=(List.getElem?_eq_some_iff.1 hk).1
   simp only
   rw [if_neg (by omega)]
 ·rw [if_neg hi]
theorem af7 {x:Sch} {i j:Int} {k:Knd} (h0:0≤i) (h1:0≤j) (hk:x.kinds[i.toNat]?=some k):fieldAt x i j=k.fields[j.toNat]?:=by
 unfold fieldAt ad5
 rw [if_pos h0,hk]
 simp only
 rw [if_pos h1]
theorem ag9 (k:Knd) (nm:ByteArray) (hl:k.fields.length≤1000000):APure Tryz.prog 80 [kndD k,sD nm] (iD (aa3 k nm)):=by
 refine eP7 Tryz.func80 Tryz.ntmps80 fun BB=>?_
 repeat' first|refine sk2 ?_|(intro b;conv=>whnf)|refine IxM.mk fun y hy=>?_
 refine ae2 mixed aa0 (γ:=Nat) (fun q=>[(5,iD q)]) (fun _=>[]) (fun q=>q≤k.fields.length∧∀ i y,i<q→k.fields[i]?=some y→seq y.name nm=false) (fun q=>k.fields.length - q) 0 rfl rfl ⟨by omega,by omega⟩ ?_
 rintro q ⟨hq,hno⟩
 repeat' first|refine sk2 ?_|(intro b;conv=>whnf)|refine IxM.mk fun y hy=>?_|(with_reducible refine Br.d (fun hc=>?_) (fun hc=>?_))|(with_reducible refine Br.b (fun hc=>?_) (fun hc=>?_))
 ·refine Rt.pure (congrArg iD ?_)
  exact (ac5 hy ‹_› hno).symm
 ·exact ⟨q+1,rfl,rfl,⟨by omega,fun i z hi hz=>by
   by_cases e:i=q
   ·subst e;rw [show ((i:Int)).toNat=i from rfl,hz] at hy;cases hy;assumption
   ·exact hno i z (by omega) hz⟩,by omega⟩
 ·refine Rt.pure (congrArg iD ?_)
  exact (ag5 fun i y hy=>hno i y (by have:=(List.getElem?_eq_some_iff.1 hy).1;omega) hy).symm
theorem aU4 (x:Sch) (i j:Int):APure Tryz.prog 79 [schD x,iD i,iD j] (bD (hasB x i j)):=by
 refine eP7 Tryz.func79 Tryz.ntmps79 fun BB=>?_
 repeat' first|refine sk2 ?_|(intro b;conv=>whnf)|refine IxM.mk fun y hy=>?_|(with_reducible refine Br.d (fun hc=>?_) (fun hc=>?_))|(with_reducible refine Br.b (fun hc=>?_) (fun hc=>?_))
 ·refine Rt.pure (congrArg bD ?_)
  simp [hasB,aj8 (x:=x) (i:=i) (j:=j) (by omega)]
 ·refine Rt.pure (congrArg bD ?_)
  simp [hasB,aj8 (x:=x) (i:=i) (j:=j) (by omega)]
 ·refine Rt.pure (congrArg bD ?_)
  simp [hasB,aj8 (x:=x) (i:=i) (j:=j) (by omega)]
 ·refine Rt.pure (congrArg bD ?_)
  rw [hasB,af7 (by omega) (by omega) hy]
  by_cases hlt:j<y.fields.length
  ·rw [List.getElem?_eq_getElem (by omega)];simpa using hlt
  ·rw [List.getElem?_eq_none (by omega)];simpa using hlt
theorem ag0 {x:Sch} {i j:Int} {f:Fld} (h:fieldAt x i j=some f):0≤i∧0≤j∧∃ k,x.kinds[i.toNat]?=some k∧k.fields[j.toNat]?=some f:=by
 unfold fieldAt ad5 at h
 by_cases hi:0≤i
 ·rw [if_pos hi] at h
  cases hk:x.kinds[i.toNat]? with
  | none=>simp [hk] at h
  | some k=>
   simp only [hk] at h
   by_cases hj:0≤j
   ·rw [if_pos hj] at h;exact ⟨hi,hj,k,rfl,h⟩
   ·rw [if_neg hj] at h;cases h
 ·rw [if_neg hi] at h;cases h
theorem aS7 {x:Sch} {i j:Int} {f:Fld} {k:Knd} (hfa:fieldAt x i j=some f) (hka:ad5 x i=some k):upIx x i j=if f.kind=7∨f.kind=8 then as7 x i (ax2 (aa3 k f.up) j (fieldAt x i (aa3 k f.up))) else if f.kind=1 then refUp x i f else -1:=by
 simp only [upIx,hfa,aD6,hka]
theorem ar4 (k:Knd) (nm:ByteArray):aa3 k nm<k.fields.length:=aw5 _ _
theorem aC2 (x:Sch) (nm:ByteArray):ab1 x nm<x.kinds.length:=aw5 _ _
theorem sk3 {A B:Prop} (k:B) (h:Hd7 B→A:=by intro hk7q;(first|refine sb0 ?_|refine sb1 ?_|((with_reducible refine' Cp.by ?hc ?_);(case hc=>first|exact aU4 _ _ _|exact ak6 _ _ (by assumption)|exact ag9 _ _ (by assumption)))|((with_reducible refine' CE.pure ?hc ?_);(case hc=>first|exact aU4 _ _ _|exact ak6 _ _ (by assumption)|exact ag9 _ _ (by assumption))));exact hk7q.run):A:=h ⟨k⟩
theorem aF6 (x:Sch) (i j:Int) (hl:x.kinds.length≤1000000) (hf:∀ k∈x.kinds,k.fields.length≤1000000):APure Tryz.prog 36 [schD x,iD i,iD j] (iD (upIx x i j)):=by
 refine eP7 Tryz.func36 Tryz.ntmps36 fun BB=>?_
 cases hfa:fieldAt x i j with
 | none=>
  have hh:hasB x i j=false:=by simp [hasB,hfa]
  repeat' first|refine sk3 ?_|(intro b;conv=>whnf)
  refine Rt.pure (congrArg iD ?_);simp [upIx,hfa]
 | some f=>
  have hh:hasB x i j=true:=by simp [hasB,hfa]
  obtain ⟨h0,h1,k,hk,hkf⟩:=ag0 hfa
  have hfk:=hf k (List.mem_of_getElem? hk)
  have hka:ad5 x i=some k:=by simp [ad5,h0,hk]
  have hlt:=ar4 k f.up
  have hU:=aS7 hfa hka
  cases hg:fieldAt x i (aa3 k f.up) with
  | none=>
   have hneg:aa3 k f.up<0:=by
    refine Int.not_le.1 fun h=>?_
    rw [af7 h0 h hk,List.getElem?_eq_getElem (by omega)] at hg;cases hg
   simp only [hg,ax2,as7] at hU
   repeat' first|refine sk3 ?_|(intro b;conv=>whnf)|(with_reducible refine Br.d (fun hc=>?_) (fun hc=>?_))|(with_reducible refine Br.b (fun hc=>?_) (fun hc=>?_))
   all_goals (refine Rt.pure (congrArg iD ?_);rw [hU];unfold refUp;(repeat' split) <;> first|rfl|omega)
  | some g=>
   obtain ⟨_,hpos,k',hk',hg0⟩:=ag0 hg
   obtain rfl:k=k':=by rw [hk] at hk';exact Option.some.inj hk'
   simp only [hg,ax2] at hU
   repeat' first|refine sk3 ?_|(intro b;conv=>whnf)|(with_reducible refine Br.d (fun hc=>?_) (fun hc=>?_))|(with_reducible refine Br.b (fun hc=>?_) (fun hc=>?_))
   all_goals (refine Rt.pure (congrArg iD ?_);rw [hU];unfold refUp;(repeat' split) <;> first|rfl|omega|(unfold as7;simp only;unfold refUp;(repeat' split) <;> first|rfl|omega))
end
section
open Go
def slN (l:List Int):List (List D):=l.map fun n=>[iD n]
theorem aF2 {x:Sch} {i:Int} {f:Fld} (h:f.kind≠6∨ab1 x f.of≤i):av1 x i f=true:=by
 simp only [av1];rcases h with h|h <;> simp [h]
theorem aF3 {x:Sch} {i:Int} {f:Fld} (h:f.kind=6) (h':i<ab1 x f.of):av1 x i f=false:=by
 simp only [av1,h];simp;omega
theorem aK1 (x:Sch) (i:Int) (f:Fld) (o:Nat) (ko:Knd) (ho:ab1 x f.of=o) (hko:x.kinds[o]?=some ko):as4 x i f=aj0 x o i f ko.fields ko.fields.length:=by
 rw [← ho];exact bg0 x i f ko (by rw [ho];simp [ad5,hko])
theorem bj8 (σ:aa1) (k:Nat):Vs σ (.v (.slice none 0 0)) σ (.sl k []):=Vs.le (af6 k)
theorem sk4 {A B:Prop} (k:B) (h:Hd7 B→A:=by intro hk7q;(first|refine sb0 ?_|refine sb1 ?_|((with_reducible refine' Cp.by ?hc ?_);(case hc=>first|exact aU4 _ _ _|exact ak6 _ _ (by assumption)|exact ag9 _ _ (by assumption)|exact aF6 _ _ _ (by assumption) (by assumption)))|((with_reducible refine' CE.pure ?hc ?_);(case hc=>first|exact aU4 _ _ _|exact ak6 _ _ (by assumption)|exact ag9 _ _ (by assumption)|exact aF6 _ _ _ (by assumption) (by assumption))));exact hk7q.run):A:=h ⟨k⟩
theorem bm5 (x:Sch) (i j:Int) (f:Fld) (hl:x.kinds.length≤1000000) (hf:∀ k∈x.kinds,k.fields.length≤1000000) (hfa:fieldAt x i j=some f):APure Tryz.prog 178 [schD x,iD i,iD j] (.tup [iD (aq3 x i f).1,slI (aq3 x i f).2]):=by
 refine eP7 Tryz.func178 Tryz.ntmps178 fun BB=>?_
 obtain ⟨h0,h1,k,hk,hkf⟩:=ag0 hfa
 have hkl:=aC2 x f.of
 have hno:f.kind≠6∨ab1 x f.of≤i→aq3 x i f=(-1,[]):=fun h=>by unfold aq3;rw [aF2 h];rfl
 repeat' first|refine sk4 ?_|(intro b;conv=>whnf)|refine IxM.mk fun y hy=>?_|(with_reducible refine Br.d (fun hc=>?_) (fun hc=>?_))|(with_reducible refine Br.b (fun hc=>?_) (fun hc=>?_))
 ·rw [hno (by omega)]
  exact Rt.vs (Vs.tup (VsL.cons (Vs.refl _ _) (VsL.cons (bj8 _ _) (VsL.nil _))))
 ·obtain ⟨ko,rfl⟩:∃ ko,ko=y:=⟨_,rfl⟩
  have hko:=hy
  clear hy
  have h6:f.kind=6:=by omega
  have hno':=aF3 (x:=x) (i:=i) h6 (by omega)
  obtain ⟨o,ho⟩:=Int.eq_ofNat_of_zero_le (show 0≤ab1 x f.of by omega)
  rw [ho] at hko
  have hko:x.kinds[o]?=some ko:=hko
  have hS:aq3 x i f=((o:Int),aj0 x o i f ko.fields ko.fields.length):=by
   unfold aq3;rw [hno',aK1 x i f o ko ho hko,ho];rfl
  have hfk:=hf ko (List.mem_of_getElem? hko)
  rw [ho]
  refine ae2 mixed aa0 (γ:=Nat × Value × aa1) (fun g=>[(10,.v g.2.1),(12,iD g.1)]) (fun g=>(b,.cells 97 (fldC f)) :: g.2.2) (fun g=>g.1≤ko.fields.length∧RowIs 3 1 (slN (aj0 x o i f ko.fields g.1)) g.2.1 g.2.2) (fun g=>ko.fields.length - g.1) (0,.slice none 0 0,[]) rfl rfl ⟨Nat.zero_le _,RowIs.nil _ _⟩ ?_
  rintro ⟨q,v,s⟩ ⟨hq,hrow⟩
  simp only at hq hrow ⊢
  repeat' first|refine sk4 ?_|(intro b;conv=>whnf)|refine IxM.mk fun y hy=>?_|(with_reducible refine Br.d (fun hc=>?_) (fun hc=>?_))|(with_reducible refine Br.b (fun hc=>?_) (fun hc=>?_))
  ·have hsh:ar7 x o i f y q=true:=by simp [ar7,seq, *]
   have Hs:=aq9 x o i f ko.fields q y hy
   rw [hsh,if_pos rfl] at Hs
   have hlen:=aF1 x o i f ko.fields (q+1)
   refine Ap.go rfl rfl rfl rfl hrow (ba7 _ _) rfl (zs:=slN (aj0 x o i f ko.fields (q+1))) (by rw [Hs];simp only [slN,List.map_append];rfl) (by simp [slN];omega) (by simp [slN];omega) (fun s'=>_ :: s') (aL4 _) (fun a c s' hr=>?_)
   repeat' first|refine sk4 ?_|(intro b;conv=>whnf)|refine IxM.mk fun y hy=>?_
   exact ⟨(q+1,_,s'),rfl,rfl,⟨by simp only;omega,hr⟩,by simp only;omega⟩
  iterate 3
   have hsh:ar7 x o i f y q=false:=by simp [ar7,seq, *]
   have Hs:=aq9 x o i f ko.fields q y hy
   rw [hsh,if_neg (by simp),List.append_nil] at Hs
   exact ⟨(q+1,v,s),rfl,rfl,⟨by simp only;omega,by simp only;rw [Hs];exact hrow⟩,by simp only;omega⟩
  ·obtain rfl:q=ko.fields.length:=by omega
   rw [hS]
   exact Rt.vs (Vs.tup (VsL.cons (Vs.refl _ _) (VsL.cons (Vs.row hrow (ba7 _ _)) (VsL.nil _))))
 ·rw [hno (by omega)]
  exact Rt.vs (Vs.tup (VsL.cons (Vs.refl _ _) (VsL.cons (bj8 _ _) (VsL.nil _))))
def cb7 (o:Int):List Int→Int × Int
 | [n]=>(o,n)
 | _=>(-1,-1)
def aq4 (x:Sch) (i j:Int):Int × Int:=match fieldAt x i j with
 | none=>(-1,-1)
 | some f=>cb7 (aq3 x i f).1 (aq3 x i f).2
theorem bM1 {o:Int} {l:List Int} (h:l.length≠1):cb7 o l=(-1,-1):=by
 match l,h with
 | [],_=>rfl
 | [a],h=>exact absurd rfl h
 | a :: b :: r,_=>rfl
end
section
open Go Go.RowKit Go.Shelf Go.Maps Go.MapKept
open Go.ChangeMaps (setBlock modify_eq_set heap_setBlock_same heap_setBlock_other)
/-! ### Permutations by counting -/
section
open Classical in
noncomputable local instance:DecidableEq (Nat × Blk):=fun _ _=>propDecidable _
noncomputable def ct (a:Nat × Blk) (l:aa1):Nat:=l.count a
noncomputable def ct1 (a x:Nat × Blk):Nat:=[x].count a
theorem ah7 (a:Nat × Blk):ct a []=0:=by simp [ct]
theorem ad9 (a x:Nat × Blk) (l:aa1):ct a (x :: l)=ct1 a x+ct a l:=by
 unfold ct ct1
 rw [show x :: l=[x] ++ l from rfl,List.count_append]
theorem ah8 (a:Nat × Blk) (l m:aa1):ct a (l ++ m)=ct a l+ct a m:=by simp [ct]
theorem aN2 {l m:aa1} (h:l.Perm m) (a:Nat × Blk):ct a l=ct a m:=by unfold ct;exact h.count_eq a
theorem ad8 {l m:aa1} (h:∀ a,ct a l=ct a m):l.Perm m:=List.perm_iff_count.2 h
end
def MapO (P:Program) (k:TypeId) (f:Value→Option Value) (o:Obj):Prop:=∃ es clock n,o = .map es clock∧Ents P k es clock n f
def MapS (P:Program) (k:TypeId) (f:Value→Option Value) (key stamp:Value) (o:Obj):Prop:=∃ es clock n,o = .map es clock∧Ents P k es clock n f∧∃ e∈es.toList,e.key=key∧stamp=goInt e.born
theorem MapS.is {P:Program} {k:TypeId} {f:Value→Option Value} {key stamp:Value} {o:Obj} (h:MapS P k f key stamp o):MapO P k f o:=by
 obtain ⟨es,c,n,h1,h2,_⟩:=h;exact ⟨es,c,n,h1,h2⟩
def KeyD (d:D) (kv:Value):Prop:=∀ (w:World) (O:Nat→Prop) (u:Value),Rd w O d u→u=kv
theorem KeyD.v (x:Value):KeyD (.v x) x:=fun _ _ _ h=>h.val rfl
section
variable {P:Program} {r:Option Nat} {n:Nat} {df:Nat} {N:Nat} {σ τ:aa1} {ρ:Operand→D} {f:Frm} {L:List Oper} {k t e:TypeId} {F:Value→Option Value} {b:Nat} {kv z:Value} {kl:Lit}
theorem bA0 {w:World} {X:Nat→Prop} {ok:Obj→Prop} (hs:StOK w X σ) (hb:(b,Blk.obj ok)∈σ):∃ o,w.heap[b]?=some o∧ok o:=by
 obtain ⟨_,o,h1,h2⟩:=hs.at_ b _ hb
 exact ⟨o,h1,h2⟩
theorem bu6 {o:Oper} {m key:Operand} {ok:Obj→Prop} (ho:o.op = .lookup t m key false) (hm:ρ m = .v (.map (some b))) (hd:KeyD (ρ key) kv) (hb:(b,Blk.obj ok)∈σ) (hok:∀ o,ok o→MapO P k F o)
  (K:Keyed P k) (ht:P.underlying t=some (.map k e)) (hz:∀ w,(zeroValue e).run P w = .ok z w) (hkey:keyOf P k kv=some kl):Yd P o ρ σ (.v ((F kv).getD z)):=by
 intro w X η hη hst
 obtain ⟨dst,op,ty,pos,aft,g⟩:=o
 simp only at ho
 subst ho
 have h1:=(hη m (by simp [Op.operands])).val hm
 have h2:=hd _ _ _ (hη key (by simp [Op.operands]))
 obtain ⟨ob,q1,q2⟩:=bA0 hst hb
 obtain ⟨es,c,nn,rfl,q3⟩:=hok _ q2
 exact ae0 (s:=Instr.lookup t (η m) (η key) false) (by rw [h1,h2];exact MapIs.look (n:=nn) ⟨es,c,q1,q3⟩ K ht (hz w) hkey) (Ex.refl w) (.v _)
theorem OtE.makeMap {o:Oper} {K:Frm→aa1→Prop} (ho:o.op = .makeMap t none) (kk:∀ b,W (putK N o.dst (.v (.map (some b))) f (fun f'=>K f' ((b,.obj (MapO P k fun _=>none)) :: σ)))):OtE P r n df L N o f σ K:=by
 refine ⟨fun rest Q a hsp hw hk=>?_⟩
 refine ae8 hw (by rw [ho];rfl) fun w X fr hst=>?_
 have e0:(execOp fr.eval o).run P w = .ok (.value (.map (some w.heap.size))) (w.alloc (.map #[] 0)):=by
  simp only [execOp,ho]
  rfl
 rw [e0]
 have hz:MapO P k (fun _=>none) (.map #[] 0):=⟨#[],0,0,rfl,⟨by simp,stamped_empty 0,by simp,by simp,by simp⟩⟩
 obtain ⟨g1,g2,g3⟩:=hst.st.new (.map #[] 0) (.obj (MapO P k fun _=>none)) hz
 obtain ⟨f',hs',h4⟩:=ad4 (kk w.heap.size).h hsp
 exact ⟨_,_,g2,(hst.mv g2 g1).put (.v _) o.dst,hk _ _ _ h4 hs'⟩
theorem bg9 {w w':World} {s:aa1} (hp:σ.Perm τ) (h:Mv w τ w' s):Mv w σ w' s:=h.wider (fun b hb=>(ah0 hp b hb))
theorem OtE.obj {o:Oper} {K:Frm→aa1→Prop} {ok:Obj→Prop} (hn:ah1 o.op=true) (hb:σ.Perm ((b,Blk.obj ok) :: τ))
  (h:∀ (w:World) (fr:Act) (X:Nat→Prop) (ob:Obj),(∀ x,Rd w (Own σ X) (evF f x) (fr.eval x))→w.heap[b]?=some ob→ok ob →
   ∃ (d:D) (u:Value) (ok':Obj→Prop) (w':World) (ob':Obj),((execOp fr.eval o).run P w = .ok (.value u) w'∨((execOp fr.eval o).run P w = .ok .skip w'∧u=undef∧d = .v undef))∧(∀ w O,Rd w O d u)∧Keep (fun x=>x=b) w w'∧w'.heap[b]?=some ob'∧ok' ob'∧putK N o.dst d f (fun f'=>K f' ((b,.obj ok') :: τ))):OtE P r n df L N o f σ K:=by
 refine ⟨fun rest Q a hsp hw hk=>?_⟩
 refine ae8 hw hn fun w X fr hst=>?_
 have hst':=hst.perm hb
 obtain ⟨ob,q1,q2⟩:=bA0 hst'.st (List.mem_cons_self)
 obtain ⟨d,u,ok',w',ob',h1,h2,h3,h5,h6,h7⟩:=h w fr X ob (fun x=>hsp.le x _ _ _ (hst.fr.eval x)) q1 q2
 obtain ⟨g1,g2,g3,g4⟩:=hst'.st.upd (i:=0) (k':=.obj ok') rfl h3 h5 h6
 obtain ⟨f',hs',h8⟩:=ad4 h7 hsp
 have hst2:=(hst'.mv g2 g1).put (h2 w' _) o.dst
 rcases h1 with h1|⟨h1,rfl,rfl⟩
 ·rw [h1]
  exact ⟨d,_,bg9 hb g2,hst2,hk _ _ _ h8 hs'⟩
 ·rw [h1]
  exact ⟨_,bg9 hb g2,hst2,hk _ _ _ h8 hs'⟩
theorem OtE.mapUpdate {o:Oper} {m key x:Operand} {xv:Value} {K:Frm→aa1→Prop} (ho:o.op = .mapUpdate t m key x) (hm:evF f m = .v (.map (some b))) (hd:KeyD (evF f key) kv) (hx:evF f x = .v xv) (hb:σ.Perm ((b,Blk.obj (MapO P k F)) :: τ))
  (KK:Keyed P k) (ht:P.underlying t=some (.map k e)) (hkey:keyOf P k kv=some kl) (kk:W (putK N o.dst (.v undef) f (fun f'=>K f' ((b,.obj (MapO P k (updF F kv xv))) :: τ)))):OtE P r n df L N o f σ K:=by
 refine OtE.obj (by rw [ho];rfl) hb fun w fr X ob hη hob hok=>?_
 obtain ⟨es,c,nn,rfl,q3⟩:=hok
 obtain ⟨w',h1,⟨es',c',h2,h3⟩,h4⟩:=MapIs.update (v:=xv) (n:=nn) ⟨es,c,hob,q3⟩ KK ht hkey
 refine ⟨.v undef,undef,MapO P k (updF F kv xv),w',_,.inr ⟨?_,rfl,rfl⟩,fun _ _=>.v _,h4,h2,⟨es',c',_,rfl,h3⟩,kk.h⟩
 have p1:=(hη m).val hm
 have p2:=hd _ _ _ (hη key)
 have p3:=(hη x).val hx
 simp only [execOp,ho,p1,p2,p3]
 show (do let _ ← Instr.mapUpdate t (.map (some b)) kv xv;pure Next.skip).run P w=_
 simp only [Sem.run_bind,h1,Result.andThen,Sem.run_pure]
theorem OtE.mapEntry {o:Oper} {m key:Operand} {K:Frm→aa1→Prop} {ok:Obj→Prop} (ho:o.op = .mapEntry t m key) (hm:evF f m = .v (.map (some b))) (hd:KeyD (evF f key) kv) (hb:σ.Perm ((b,Blk.obj ok) :: τ)) (hok:∀ o,ok o→MapO P k F o)
  (KK:Keyed P k) (ht:P.underlying t=some (.map k e)) (hz:∀ w,(zeroValue e).run P w = .ok z w) (hkey:keyOf P k kv=some kl) (kk:∀ st,W (putK N o.dst (.tup [.v ((F kv).getD z),.v st]) f (fun f'=>K f' ((b,.obj (MapS P k (updF F kv ((F kv).getD z)) kv st)) :: τ)))):OtE P r n df L N o f σ K:=by
 refine OtE.obj (by rw [ho];rfl) hb fun w fr X ob hη hob hok'=>?_
 obtain ⟨es,c,nn,rfl,E⟩:=hok _ hok'
 have p1:=(hη m).val hm
 have p2:=hd _ _ _ (hη key)
 have tup:∀ (x y:Value) w O,Rd w O (.tup [.v x,.v y]) (.tuple #[x,y]):=fun x y w O=>by
  have h5:=RdL.cons (w:=w) (O:=O) (Rd.v x) (RdL.cons (Rd.v y) RdL.nil)
  exact Rd.tup [.v x,.v y] _ h5.len h5.at_
 rcases E.look KK hkey w with ⟨h1,h0,h2⟩|⟨j,e0,h1,h2,h3,h0⟩
 ·refine ⟨.tup [.v z,.v (goInt c)],.tuple #[z,goInt c],MapS P k (updF F kv z) kv (goInt c),setBlock w b (.map (es.push ⟨kv,z,c⟩) (c+1)),_,.inl ?_,fun w O=>tup _ _ w O,Keep.setBlock hob,heap_setBlock_same hob _,⟨_,_,nn+1,rfl,E.push hkey h2,⟨kv,z,c⟩,by simp,rfl,rfl⟩,?_⟩
  ·simp only [execOp,ho,p1,p2]
   show (do let v ← Instr.mapEntry t (.map (some b)) kv;pure (Next.value v)).run P w=_
   simp [Instr.mapEntry,run_underlying ht,MapKept.run_getObj_map hob,KK.check w false hkey,h1,hz,MapKept.run_setObj_map _ hob,Result.andThen,setBlock]
  ·have:=(kk (goInt c)).h
   rw [h0] at this
   exact this
 ·have hj:es[j]?=some e0:=by simpa using h2
  have E':=E.modify (v:=e0.val) hkey h2 h3 (fun e=>{ e with key:=kv }) (fun _=>rfl) rfl rfl
  refine ⟨.tup [.v e0.val,.v (goInt e0.born)],.tuple #[e0.val,goInt e0.born],MapS P k (updF F kv e0.val) kv (goInt e0.born),setBlock w b (.map (es.modify j fun e=>{ e with key:=kv }) c),_,.inl ?_,fun w O=>tup _ _ w O,Keep.setBlock hob,heap_setBlock_same hob _,⟨_,_,nn,rfl,E',{ e0 with key:=kv },?_,rfl,rfl⟩,?_⟩
  ·simp only [execOp,ho,p1,p2]
   show (do let v ← Instr.mapEntry t (.map (some b)) kv;pure (Next.value v)).run P w=_
   simp [Instr.mapEntry,run_underlying ht,MapKept.run_getObj_map hob,KK.check w false hkey,h1,hj,h3,KK.stays w hkey,MapKept.run_setObj_map _ hob,Result.andThen,setBlock]
  ·rw [Array.toList_modify,modify_eq_set _ _ _ _ h2]
   exact List.mem_set (List.getElem?_eq_some_iff.1 h2).1 _
  ·have:=(kk (goInt e0.born)).h
   rw [h0] at this
   exact this
theorem bQ9 {es:Array MapEntry} {c nn:Nat} (E:Ents P k es c nn F) {e0:MapEntry} {j:Nat} (h:es.toList[j]?=some e0):es.findIdx? (fun e=>((e.born:Nat):Int) == ((e0.born:Nat):Int))=some j:=by
 rw [WideElems.findIdx_arr]
 exact WideElems.findIdx_born ((stamped_iff es c).1 E.stamped).2.1 h
theorem OtE.entryStore {o:Oper} {m st x:Operand} {xv sv:Value} {K:Frm→aa1→Prop} (ho:o.op = .entryStore t m st x) (hm:evF f m = .v (.map (some b))) (hs:evF f st = .v sv) (hx:evF f x = .v xv) (hb:σ.Perm ((b,Blk.obj (MapS P k F kv sv)) :: τ))
  (hkey:keyOf P k kv=some kl) (kk:W (putK N o.dst (.v undef) f (fun f'=>K f' ((b,.obj (MapO P k (updF F kv xv))) :: τ)))):OtE P r n df L N o f σ K:=by
 refine OtE.obj (by rw [ho];rfl) hb fun w fr X ob hη hob hok=>?_
 obtain ⟨es,c,nn,rfl,E,e0,he0,h3,rfl⟩:=hok
 obtain ⟨j,h2⟩:=List.getElem?_of_mem he0
 have E':=E.modify (v:=xv) hkey h2 h3 (fun e=>{ e with val:=xv }) (fun _=>rfl) h3 rfl
 refine ⟨.v undef,undef,MapO P k (updF F kv xv),setBlock w b (.map (es.modify j fun e=>{ e with val:=xv }) c),_,.inr ⟨?_,rfl,rfl⟩,fun _ _=>.v _,Keep.setBlock hob,heap_setBlock_same hob _,⟨_,_,nn,rfl,E'⟩,kk.h⟩
 have p1:=(hη m).val hm
 have p2:=(hη st).val hs
 have p3:=(hη x).val hx
 simp only [execOp,ho,p1,p2,p3]
 show (do let _ ← Instr.entryStore t (.map (some b)) (goInt e0.born) xv;pure Next.skip).run P w=_
 simp [Instr.entryStore,MapKept.run_getObj_map hob,asInt,asIntOf,goInt,bQ9 E h2,MapKept.run_setObj_map _ hob,Result.andThen,setBlock]
end
end
section
open Go Go.RowKit Go.Shelf
section
variable {P:Program} {r:Option Nat} {n:Nat} {df:Nat} {N:Nat} {σ:aa1} {f:Frm} {L:List Oper} {T:TypeId→Option TI} {Q:Fst}
theorem ar2 {ρ:Operand→D} {k t e:TypeId} {F:Value→Option Value} {b:Nat} {kv z u:Value} {kl:Lit} {o:Oper} {m key:Operand} {ok:Obj→Prop} (ho:o.op = .lookup t m key false) (hm:ρ m = .v (.map (some b))) (hd:KeyD (ρ key) kv) (hb:(b,Blk.obj ok)∈σ) (hok:∀ o,ok o→MapO P k F o)
  (K:Maps.Keyed P k) (ht:P.underlying t=some (.map k e)) (hz:∀ w,(zeroValue e).run P w = .ok z w) (hkey:keyOf P k kv=some kl) (hv:(F kv).getD z=u):Yd P o ρ σ (.v u):=by
 subst hv;exact bu6 ho hm hd hb hok K ht hz hkey
def loE (hs:List Nat) (i:Nat):Bool:=!hs.any (Nat.beq i)
theorem ap8 {ops:Array Oper} {E:Nat→Bool} {L L':List D→aa1→Prop} (h:∀ a σ,L a σ→L' a σ):∀ {t:Ord} {a:List D} {σ:aa1},gOrd P r n df ops E L t a σ→gOrd P r n df ops E L' t a σ
 | .done,_,_,hh=>h _ _ hh
 | .one _ _,_,_,hh=>ac1 (fun _ _=>ap8 h) hh
 | .two _ _ _ _,_,_,hh=>⟨ac1 (fun _ _=>ap8 h) hh.1,ac1 (fun _ _=>ap8 h) hh.2⟩
 | .three _ _ _ _ _ _,_,_,hh=>⟨ac1 (fun _ _=>ap8 h) hh.1,ac1 (fun _ _=>ap8 h) hh.2.1,ac1 (fun _ _=>ap8 h) hh.2.2⟩
theorem aB7 (hm:P.follows .mixedOrders=true) (hT:∀ t i,T t=some i→tiOf P t=some i) {id:Nat} {O:Array Oper} (hO:O=L.toArray) (hs:List Nat) (fu:Nat) (t:Ord) {γ:Type} (ps:γ→Frm) (S:γ→aa1) (I:γ→Prop)
  (hB:(Nat.beq (hs.length+fu) L.length && bs1 .any L.toArray (loE hs) fu t hs (Array.replicate L.length false) && aw3 (loE hs) t)=true)
  (h:W (exHs P T N L (loE hs) σ hs (fun f1=>aW9 P T r n df N L (fun f' σ'=>∃ g,chkF f' (ar9 (.region id O true) f (ps g))∧S g=σ'∧I g) t f1 σ) f))
  (kk:∀ g,I g→W (aC6 (ar9 (.region id O true) f (ps g)) fun F=>Q .normal F (S g))):Lp P r n df N (.region id O true) Q f σ:=by
 subst hO
 simp only [Bool.and_eq_true] at hB
 refine ⟨fun a hs'=>?_⟩
 refine ar1 (aG4 (Q:=fun e a' σ'=>e = .normal∧∃ f',Sp N a' f'∧∃ g,chkF f' (ar9 (.region id L.toArray true) f (ps g))∧S g=σ'∧I g) (loE hs) hs fu t hm (Nat.eq_of_beq_eq_true hB.1.1) hB.1.2 (ax5 (fun a' σ' h'=>?_) (aA4 hT h.h hs'))) ?_
 ·obtain ⟨rfl,f',h1,h2⟩:=h'
  have:=at0 hT hB.2 h2 h1
  exact ap8 (fun a σ h=>⟨rfl,h⟩) this
 ·rintro e a' σ' ⟨rfl,f',h1,g,h2,rfl,h3⟩
  exact ⟨_,h1.sub h2,ap9 (kk g h3).h⟩
end
end
end Go.Proofs.YtlcfiilejnnlnaaGreatDoor
