/- A part of the proof: Ew Rg Bo Ns. -/
import Derived.Test.YtjbbmjjildhfbaaGreatDoorP06
import Derived.Laws.CopyRow
import Derived.Laws.Cover3
import Derived.Laws.Small
set_option maxRecDepth 100000
set_option maxHeartbeats 4000000
set_option linter.unusedVariables false
set_option linter.unusedSimpArgs false
namespace Go.Proofs.YtjbbmjjildhfbaaGreatDoor
section
open Go Go.RowKit Go.Shelf
section
variable {P:Program} {σ τ:aa1} {T:TypeId→Option TI} {w:World}
theorem Rd.stable {O:Nat→Prop} {d:D} {u:Value} (h:Rd w O d u):Rd w (fun _=>False) d u:=
 h.keep (Nat.le_refl _) (fun _ _ _ h=>h) (fun _ _ _=>rfl)
theorem RdL.stable {O:Nat→Prop} {d:List D} {u:List Value} (h:RdL w O d u):RdL w (fun _=>False) d u:=
 h.keep (Nat.le_refl _) (fun _ _ _ h=>h) (fun _ _ _=>rfl)
structure Pk (σ:aa1) (d d':D):Prop where
 run:∀ (w:World) (X:Nat→Prop) (u:Value),StOK w X σ→Rd w (Own σ X) d u→Rd w (fun _=>False) d' u
inductive PkL (σ:aa1):List D→List D→Prop
 | nil:PkL σ [] []
 | cons {d d':D} {ds ds':List D} (h:Pk σ d d') (t:PkL σ ds ds'):PkL σ (d :: ds) (d' :: ds')
theorem Pk.same (d:D):Pk σ d d:=⟨fun _ _ _ _ h=>h.stable⟩
theorem Pk.le {d d':D} (h:Le d d'):Pk σ d d':=⟨fun _ _ _ _ k=>h _ _ _ k.stable⟩
theorem Pk.row {e:TypeId} {k:Nat} {xs:List (List D)} {v:Value} {s:aa1} (h:RowIs e k xs v s) (hp:σ.Perm (s ++ τ)):Pk σ (.v v) (.sl k xs):=
 ⟨fun w X u hs hr=>by have:=hr.val rfl;subst this;exact (aH5 h (hs.perm hp)).stable⟩
theorem PkL.rd {ds ds':List D} (h:PkL σ ds ds') {X:Nat→Prop} (hs:StOK w X σ):∀ {us:List Value},RdL w (Own σ X) ds us→RdL w (fun _=>False) ds' us:=by
 induction h with
 | nil=>exact fun h=>⟨h.len,fun j d u h1=>by simp at h1⟩
 | cons h t ih=>
  intro vs hv
  cases vs with
  | nil=>have:=hv.len;simp at this
  | cons v vs=>
   exact .cons (h.run _ _ _ hs (hv.at_ 0 _ _ rfl rfl)) (ih ⟨by have:=hv.len;simpa using this,fun j d u h1 h2=>hv.at_ (j+1) d u (by simpa using h1) (by simpa using h2)⟩)
theorem Pk.agg {ds ds':List D} (h:PkL σ ds ds'):Pk σ (.agg ds) (.agg ds'):=⟨fun w X u hs hr=>by
 obtain ⟨vs,rfl,h1⟩:=hr.agg_inv
 have:=h.rd hs h1
 exact .agg _ _ this.len this.at_⟩
theorem Pk.clo {f:FuncId} {ds ds':List D} (h:PkL σ ds ds'):Pk σ (.clo f ds) (.clo f ds'):=⟨fun w X u hs hr=>by
 obtain ⟨vs,rfl,h1⟩:=hr.clo_inv
 have:=h.rd hs h1
 exact .clo _ _ _ this.len this.at_⟩
theorem PkL.refl:∀ ds:List D,PkL σ ds ds
 | []=>.nil
 | d :: ds=>.cons (Pk.same d) (PkL.refl ds)
theorem Pk.ptr {j b:Nat} {tb:TypeId} {cs cs':List D} (hb:σ[j]?=some (b,.cells tb cs)) (h:PkL σ cs cs'):Pk σ (.v (.pointer (some ⟨b,0,none⟩))) (.ro cs'):=⟨fun w X u hs hr=>by
 have:=hr.val rfl
 subst this
 obtain ⟨_,ob,hob,vs,rfl,hvs⟩:=hs.at_ b _ (List.mem_of_getElem? hb)
 have hr:=h.rd hs hvs
 refine .ro _ _ _ (fun m=>vs.getD m undef) (fun h=>h) (Array.getElem?_eq_some_iff.1 hob).1 (fun m hm=>?_) (fun m d hd=>?_)
 ·have:m<vs.length:=by rw [hr.len];exact hm
  simp [World.cell?,hob,this]
 ·obtain ⟨u,k1,k2⟩:=hr.get hd
  simpa [List.getD_eq_getElem?_getD,k1] using k2⟩
def isV:D→Bool
 | .v _=>true
 | _=>false
def flatD:D→Bool
 | .v _=>true
 | .tup ds=>ds.all isV
 | .agg ds=>ds.all isV
 | _=>false
theorem isV_rd {O O':Nat→Prop} {w':World} {d:D} {u:Value} (h:Rd w O d u) (hd:isV d=true):Rd w' O' d u:=by
 cases d <;> first|(have:=h.val rfl;subst this;exact .v _)|cases hd
theorem flat_rd {O O':Nat→Prop} {d:D} {u:Value} (h:Rd w O d u) (hd:flatD d=true):Rd w O' d u:=by
 cases d with
 | v x=>exact isV_rd h rfl
 | tup ds=>
  obtain ⟨vs,rfl,h1⟩:=h.tup_inv
  exact .tup _ _ h1.len fun j d u g1 g2=>isV_rd (h1.at_ j d u g1 g2) (List.all_eq_true.1 hd _ (List.mem_of_getElem? g1))
 | agg ds=>
  obtain ⟨vs,rfl,h1⟩:=h.agg_inv
  exact .agg _ _ h1.len fun j d u g1 g2=>isV_rd (h1.at_ j d u g1 g2) (List.all_eq_true.1 hd _ (List.mem_of_getElem? g1))
 | _=>cases hd
theorem APk.peek {g:FuncId} {args args':List D} {d:D} (hp:PkL σ args args') (h:APure P g args' d) (hf:flatD d=true):APk P g args σ d:=
 ⟨h.ent,fun w X vs hv hs=>(h.run w (fun _=>False) vs (hp.rd hs hv) (hs.gok.mono (fun b hb=>hb.elim))).mono fun e w' ⟨u,h1,h2,h3⟩=>⟨u,h1,flat_rd h2 hf,h3⟩⟩
theorem APk.le {g:FuncId} {args args':List D} {d:D} (hl:LeL args args') (h:APure P g args' d):APk P g args σ d:=
 ⟨h.ent,fun w X vs hv hs=>h.run w _ vs (hl.rd hv) hs.gok⟩
/-! ### What is handed back -/
structure VsL (σ:aa1) (ds:List D) (σ':aa1) (ds':List D):Prop where
 run:∀ (w:World) (X:Nat→Prop) (us:List Value),StOK w X σ→RdL w (Own σ X) ds us→StOK w X σ'∧RdL w (Own σ' X) ds' us
 sub:∀ b,b∈ab2 σ'→b∈ab2 σ
theorem aY1 {σ':aa1} {X:Nat→Prop} (h:∀ b,b∈ab2 σ'→b∈ab2 σ) (b:Nat) (hn:¬ Own σ X b):¬ Own σ' X b:=fun ho=>hn (ho.imp id (h b))
theorem VsL.nil (σ:aa1):VsL σ [] σ []:=⟨fun _ _ _ h1 h2=>⟨h1,h2⟩,fun _ h=>h⟩
theorem VsL.cons {σ' σ'':aa1} {d d':D} {ds ds':List D} (h:Vs σ d σ' d') (t:VsL σ' ds σ'' ds'):VsL σ (d :: ds) σ'' (d' :: ds'):=
 ⟨fun w X us hs hr=>by
  cases us with
  | nil=>have:=hr.len;simp at this
  | cons v vs=>
   obtain ⟨g1,g2⟩:=h.run w X v hs (hr.at_ 0 _ _ rfl rfl)
   have htl:RdL w (Own σ X) ds vs:=⟨by have:=hr.len;simpa using this,fun j d u h1 h2=>hr.at_ (j+1) d u (by simpa using h1) (by simpa using h2)⟩
   obtain ⟨k1,k2⟩:=t.run w X vs g1 (htl.keep (Nat.le_refl _) (fun b _ hn=>aY1 h.sub b hn) (fun _ _ _=>rfl))
   exact ⟨k1,.cons (g2.keep (Nat.le_refl _) (fun b _ hn=>aY1 t.sub b hn) (fun _ _ _=>rfl)) k2⟩,fun b hb=>h.sub b (t.sub b hb)⟩
theorem Vs.tup {σ':aa1} {ds ds':List D} (h:VsL σ ds σ' ds'):Vs σ (.tup ds) σ' (.tup ds'):=⟨fun w X u hs hr=>by
 obtain ⟨vs,rfl,h1⟩:=hr.tup_inv
 obtain ⟨g1,g2⟩:=h.run w X vs hs h1
 exact ⟨g1,.tup _ _ g2.len g2.at_⟩,h.sub⟩
theorem Vs.agg {σ':aa1} {ds ds':List D} (h:VsL σ ds σ' ds'):Vs σ (.agg ds) σ' (.agg ds'):=⟨fun w X u hs hr=>by
 obtain ⟨vs,rfl,h1⟩:=hr.agg_inv
 obtain ⟨g1,g2⟩:=h.run w X vs hs h1
 exact ⟨g1,.agg _ _ g2.len g2.at_⟩,h.sub⟩
theorem ak0 {σ':aa1} (h:σ.Perm σ') (b:Nat) (hb:b∈ab2 σ'):b∈ab2 σ:=(h.map Prod.fst).mem_iff.2 hb
theorem Vs.row {e:TypeId} {k:Nat} {xs:List (List D)} {v:Value} {s:aa1} (h:RowIs e k xs v s) (hp:σ.Perm (s ++ τ)):Vs σ (.v v) τ (.sl k xs):=
 ⟨fun w X u hs hr=>by
  have:=hr.val rfl
  subst this
  exact ⟨(hs.perm hp).sub (List.sublist_append_right _ _),aH5 h (hs.perm hp)⟩,fun b hb=>ak0 hp b (by rw [ac0];exact List.mem_append_right _ hb)⟩
theorem Vs.drop {d:D} (hs:τ.Sublist σ):Vs σ d τ d:=
 ⟨fun w X u h1 h2=>⟨h1.sub hs,h2.keep (Nat.le_refl _) (fun b _ hn=>ak6 hs b hn) (fun _ _ _=>rfl)⟩,fun b hb=>(hs.map Prod.fst).subset hb⟩
theorem Vs.perm {d:D} (hp:σ.Perm τ):Vs σ d τ d:=
 ⟨fun w X u h1 h2=>⟨h1.perm hp,h2.keep (Nat.le_refl _) (fun b _ hn=>aY1 (ak0 hp) b hn) (fun _ _ _=>rfl)⟩,ak0 hp⟩
theorem Vs.ptr {b:Nat} {tb:TypeId} {cs:List D} (hp:σ.Perm ((b,.cells tb cs) :: τ)):Vs σ (.v (.pointer (some ⟨b,0,none⟩))) τ (.ro cs):=
 ⟨fun w X u hs hr=>by
  have:=hr.val rfl
  subst this
  have hs':=hs.perm hp
  have hsub:τ.Sublist ((b,Blk.cells tb cs) :: τ):=List.sublist_cons_self _ _
  obtain ⟨hX,ob,hob,vs,rfl,hvs⟩:=hs'.at_ b _ List.mem_cons_self
  have hnO:¬ Own τ X b:=by
   rintro (h|h)
   ·exact hX h
   ·have hnd:=hs'.nodup
    simp only [ab2,List.map_cons,List.nodup_cons] at hnd
    exact hnd.1 h
  refine ⟨hs'.sub hsub,.ro _ _ _ (fun m=>vs.getD m undef) hnO (Array.getElem?_eq_some_iff.1 hob).1 (fun m hm=>?_) (fun m d hd=>?_)⟩
  ·have:m<vs.length:=by rw [hvs.len];exact hm
   simp [World.cell?,hob,this]
  ·obtain ⟨u,k1,k2⟩:=hvs.get hd
   have:Rd w (Own τ X) d u:=k2.keep (Nat.le_refl _) (fun b _ hn=>ak6 hsub b hn) (fun _ _ _=>rfl)
   simpa [List.getD_eq_getElem?_getD,k1] using this,fun b hb=>ak0 hp b (List.mem_cons_of_mem _ hb)⟩
inductive Chk (f':Frm):Frm→Prop
 | nil:Chk f' []
 | cons {i:Nat} {d:D} {F:Frm} (h:am8 f' i=some d) (t:Chk f' F):Chk f' ((i,d) :: F)
theorem aa2 {f' F:Frm} (h:Chk f' F):chkF f' F:=by
 induction h with
 | nil=>rfl
 | cons h t ih=>unfold chkF at *;simp only [List.map_cons,h,ih]
theorem OtE.yd {P:Program} {r:Option Nat} {n df N:Nat} {L:List Oper} {o:Oper} {f:Frm} {K:Frm→aa1→Prop} {d:D} (hn:ah2 o.op=true) (h:Yd P o (evF f) σ d) (k:W (putK N o.dst d f (fun f'=>K f' σ))):OtE P r n df L N o f σ K:=
 ⟨fun rest Q a hs hw hk=>by obtain ⟨f',hs',h4⟩:=ad7 k.h hs;exact aops_yd hw hn (h.le hs.le) (hk _ _ _ h4 hs')⟩
theorem aa9 (hm:P.follows .mixedOrders=true) (hT:∀ t i,T t=some i→tiOf P t=some i) {r:Option Nat} {n:Nat} {df:Nat} {N:Nat} {f:Frm} {Q:Fst} {c:Code} {γ:Type} (ps:γ→Frm) (S:γ→aa1) (I:γ→Prop) (μ:γ→Nat) (g₀:γ)
  (h1:chkF f (ar0 c f (ps g₀))) (h2:(S g₀).Sublist σ) (h3:I g₀)
  (h4:∀ g,I g→W (aE7 (ar0 c f (ps g)) fun F=>ar3 P T r n df N c (thenF (fun f' σ'=>∃ g',chkF f' (ar0 c f (ps g'))∧(S g').Sublist σ'∧I g'∧μ g' < μ g) Q) F (S g))) :
  Lp P r n df N (.loop c) Q f σ:=by
 refine ⟨fun a hs=>?_⟩
 refine ba3 (fun m a σ=>∃ g,μ g=m∧I g∧Sp N a (ar0 c f (ps g))∧(S g).Sublist σ) (μ g₀) ⟨g₀,rfl,h3,hs.sub h1,h2⟩ ?_
 rintro m a σ ⟨g,rfl,hI,hS,hsub⟩
 refine awp_drop hsub (as9 (ar2 hm hT (ao9 (h4 g hI).h) hS) ?_)
 rintro e a' σ' ⟨f',hs',h'⟩
 cases e with
 | normal=>obtain ⟨g',k1,k2,k3,k4⟩:=h';exact ⟨μ g',k4,g',rfl,k3,hs'.sub k1,k2⟩
 | _=>exact ⟨f',hs',h'⟩
/-! ### append,at the stops -/
theorem Ap.go {t e:TypeId} {i j:TI} {ag:Bool} {k by_:Nat} {xs ys zs:List (List D)} {v:Value} {s:aa1} {K:D→aa1→Prop} (h1:T t=some i) (h2:i.sl=some (e,ag,k,by_)) (h3:T e=some j) (h4:(Nat.beq j.zero.length j.size && Nat.blt 0 k && Nat.beq j.size k)=true)
  (hr:RowIs e k xs v s) (hp:σ.Perm (s ++ τ)) (ho:(ys.all fun y=>y.all oneD)=true) (hz:xs ++ ys=zs) (hb:zs.length*by_≤140737488355328) (hm:zs.length≤1000000000) (fs:aa1→aa1) (hq:∀ s',(s' ++ τ).Perm (fs s'))
  (kk:∀ a c s',RowIs e k zs (.slice a zs.length c) s'→W (K (.v (.slice a zs.length c)) (fs s'))):Ap P T σ (.v v) (.sl k ys) t K:=by
 subst hz
 simp only [Bool.and_eq_true] at h4
 rw [List.length_append] at hb hm
 refine ⟨e,i,j,ag,k,by_,xs,ys,v,s,[],τ,h1,h2,h3,Nat.eq_of_beq_eq_true h4.1.1,by simpa [Nat.blt_eq] using h4.1.2,Nat.eq_of_beq_eq_true h4.2,rfl,.inl ⟨rfl,rfl⟩,hr,hp,fun y hy=>List.all_eq_true.1 ho y hy,hb,hm,.inl fun v' s' hr'=>?_⟩
 obtain ⟨a,c,rfl⟩:=hr'.slice
 exact ⟨_,hq s',(kk a c s' hr').h⟩
theorem aM8 (s:aa1):s.Perm (s ++ []):=by simp
theorem aS4 (s:aa1):(s ++ []).Perm s:=by simp
theorem perm1 (x:Nat × Blk) (s:aa1):(x :: s).Perm (s ++ [x]):=(List.perm_append_singleton x s).symm
theorem bd6 (x:Nat × Blk) (s:aa1):(s ++ [x]).Perm (x :: s):=List.perm_append_singleton x s
theorem perm2 (x y:Nat × Blk) (s:aa1):(x :: y :: s).Perm (s ++ [x,y]):=List.perm_append_comm (l₁:=[x,y]) (l₂:=s)
theorem perm2' (x y:Nat × Blk) (s:aa1):(s ++ [x,y]).Perm (x :: y :: s):=(perm2 x y s).symm
theorem Ap.frz {t e:TypeId} {i j:TI} {ag:Bool} {k by_:Nat} {xs ys zs:List (List D)} {v:Value} {s:aa1} {K:D→aa1→Prop} (h1:T t=some i) (h2:i.sl=some (e,ag,k,by_)) (h3:T e=some j) (h4:(Nat.beq j.zero.length j.size && Nat.blt 0 k && Nat.beq j.size k)=true)
  (hr:RowIs e k xs v s) (hp:σ.Perm (s ++ τ)) (ho:(ys.all fun y=>y.all oneD)=true) (hz:xs ++ ys=zs) (hb:zs.length*by_≤140737488355328) (hm:zs.length≤1000000000)
  (kk:W (K (.sl k zs) τ)):Ap P T σ (.v v) (.sl k ys) t K:=by
 subst hz
 simp only [Bool.and_eq_true] at h4
 rw [List.length_append] at hb hm
 exact ⟨e,i,j,ag,k,by_,xs,ys,v,s,[],τ,h1,h2,h3,Nat.eq_of_beq_eq_true h4.1.1,by simpa [Nat.blt_eq] using h4.1.2,Nat.eq_of_beq_eq_true h4.2,rfl,.inl ⟨rfl,rfl⟩,hr,hp,fun y hy=>List.all_eq_true.1 ho y hy,hb,hm,.inr kk.h⟩
theorem Ld.cell {o:Oper} {ρ:Operand→D} {b off:Nat} {K:D→Prop} (j:Nat) {tb:TypeId} {cs:List D} {d:D} (h1:σ[j]?=some (b,.cells tb cs)) (h2:cs[off]?=some d) (h:W (K d)):Ld P o ρ σ b off false 1 K:=by
 have hlt:=(List.getElem?_eq_some_iff.1 h2).1
 refine ⟨.inl ⟨j,tb,cs,h1,by omega,?_⟩⟩
 have:(cs.drop off).take 1=[d]:=by
  rw [List.drop_eq_getElem_cons hlt]
  simp [(List.getElem?_eq_some_iff.1 h2).2]
 rw [this]
 exact h.h
theorem Sv.cell {b off:Nat} {d:D} {K:aa1→Prop} (j:Nat) {tb:TypeId} {cs cs':List D} (h1:σ[j]?=some (b,.cells tb cs)) (h2:off<cs.length) (h3:oneD d=true) (h4:cs.set off d=cs') (h:W (K (σ.set j (b,.cells tb cs')))):Sv σ b off [d] 1 K:=by
 subst h4
 refine ⟨j,tb,cs,_,h1,rfl,h2,by simp [h3],List.Perm.of_eq ?_,h.h⟩
 congr 3
 unfold spl
 rw [List.set_eq_take_append_cons_drop,if_pos h2]
 simp
/-! ### Results that lie in memory -/
theorem aB0 {b:Nat} {t tb:TypeId} {cs:List D} {ti:TI} {X:Nat→Prop} (hT:∀ t i,T t=some i→tiOf P t=some i) (hst:StOK w X σ) {m:Nat} (hb:σ[m]?=some (b,.cells tb cs)) (ht:T t=some ti) (hag:ti.agg=true) (hs:ti.size=cs.length) :
  ∃ vs:List Value,(loadVar t ⟨b,0,none⟩).run P w = .ok (.agg vs.toArray) w∧RdL w (Own σ X) cs vs:=by
 obtain ⟨_,ob,hob,vs,rfl,hvs⟩:=hst.at_ b _ (List.mem_of_getElem? hb)
 obtain ⟨g1,g2⟩:=aR1 (hT t ti ht) w
 rw [hag] at g1
 have hcell:∀ q,q<cs.length→w.cell? ⟨b,0+q,none⟩=some (vs.getD q undef):=by
  intro q hq
  have:q<vs.length:=by rw [hvs.len];exact hq
  simp [World.cell?,hob,this]
 have hl:=ax4 (P:=P) (w:=w) (f:=fun q=>vs.getD q undef) g1 g2 (fun q hq=>hcell q (by omega))
 have hmap:(List.range ti.size).map (fun q=>vs.getD q undef)=vs:=by
  apply List.ext_getElem?
  intro q
  by_cases hq:q<ti.size
  ·have:q<vs.length:=by rw [hvs.len];omega
   simp [hq,this]
  ·have:vs.length≤q:=by rw [hvs.len];omega
   simp [hq,this]
 rw [hmap] at hl
 refine ⟨vs,?_,hvs⟩
 have:=hl
 simp only [Instr.loadAt,Instr.sureAddr,Sem.run_bind,Sem.run_pure,Result.andThen] at this
 exact this
variable {N:Nat} {f:Frm} {fn:Func}
theorem Rs.c (hT:∀ t i,T t=some i→tiOf P t=some i) {j m b:Nat} {t tb:TypeId} {cs:List D} {ti:TI} {K:D→Prop} (h:fn.results = #[.cell j t]) (hj:evF f (.tmp j) = .v (.pointer (some ⟨b,0,none⟩))) (hb:σ[m]?=some (b,.cells tb cs)) (ht:T t=some ti) (hag:ti.agg=true) (hs:ti.size=cs.length)
  (k:W (K (.agg cs))):Rs P N fn f σ K:=by
 refine ⟨_,fun a ha=>?_,k.h⟩
 intro w X tm hf hst
 obtain ⟨vs,h1,h2⟩:=aB0 hT hst hb ht hag hs
 have hp:=(ai9 hf j).val (ha.eq hj (fun h=>by cases h))
 exact ⟨.agg vs.toArray,by simp [results,h,hp,asAddr,h1,Result.andThen,-Array.getD_eq_getD_getElem?],.agg _ _ h2.len h2.at_⟩
theorem Rs.tc (hT:∀ t i,T t=some i→tiOf P t=some i) {i j m b:Nat} {t tb:TypeId} {cs:List D} {ti:TI} {d:D} {K:D→Prop} (h:fn.results = #[.tmp i,.cell j t]) (hi:evF f (.tmp i)=d) (hj:evF f (.tmp j) = .v (.pointer (some ⟨b,0,none⟩))) (hb:σ[m]?=some (b,.cells tb cs)) (ht:T t=some ti) (hag:ti.agg=true) (hs:ti.size=cs.length)
  (k:W (K (.tup [d,.agg cs]))):Rs P N fn f σ K:=by
 subst hi
 refine ⟨_,fun a ha=>?_,k.h⟩
 intro w X tm hf hst
 obtain ⟨vs,h1,h2⟩:=aB0 hT hst hb ht hag hs
 have hp:=(ai9 hf j).val (ha.eq hj (fun h=>by cases h))
 refine ⟨.tuple #[tm.getD i undef,.agg vs.toArray],by simp [results,h,hp,asAddr,h1,Result.andThen,-Array.getD_eq_getD_getElem?],?_⟩
 have:=RdL.cons (an6 ha i _ _ _ (ai9 hf i)) (RdL.cons (Rd.agg (w:=w) (O:=Own σ X) cs vs h2.len h2.at_) RdL.nil)
 exact .tup _ _ this.len this.at_
theorem Rs.ct (hT:∀ t i,T t=some i→tiOf P t=some i) {i j m b:Nat} {t tb:TypeId} {cs:List D} {ti:TI} {d:D} {K:D→Prop} (h:fn.results = #[.cell j t,.tmp i]) (hi:evF f (.tmp i)=d) (hj:evF f (.tmp j) = .v (.pointer (some ⟨b,0,none⟩))) (hb:σ[m]?=some (b,.cells tb cs)) (ht:T t=some ti) (hag:ti.agg=true) (hs:ti.size=cs.length)
  (k:W (K (.tup [.agg cs,d]))):Rs P N fn f σ K:=by
 subst hi
 refine ⟨_,fun a ha=>?_,k.h⟩
 intro w X tm hf hst
 obtain ⟨vs,h1,h2⟩:=aB0 hT hst hb ht hag hs
 have hp:=(ai9 hf j).val (ha.eq hj (fun h=>by cases h))
 refine ⟨.tuple #[.agg vs.toArray,tm.getD i undef],by simp [results,h,hp,asAddr,h1,Result.andThen,-Array.getD_eq_getD_getElem?],?_⟩
 have:=RdL.cons (Rd.agg (w:=w) (O:=Own σ X) cs vs h2.len h2.at_) (RdL.cons (an6 ha i _ _ _ (ai9 hf i)) RdL.nil)
 exact .tup _ _ this.len this.at_
end
end
section
open Go Go.RowKit Go.Shelf
structure AIter (P:Program) (gf:FuncId) (caps:List D) (its:List (List D)):Prop where
 ent:Enters P gf
 run:∀ (O:Nat→Prop) (W:World) (lb:List Value),RdL W O caps lb→∃ vsl:List (List Value),vsl.length=its.length∧(∀ (k:Nat) x vs,its[k]?=some x→vsl[k]?=some vs→RdL W O x vs) ∧
  ∀ (l:Nat) (J Jx:Nat→World→Prop),(∀ k A B,J k A→Ex A B→J k B)→(∀ k A B,Jx k A→Ex A B→Jx k B) →
   (∀ (k:Nat) vs W1,vsl[k]?=some vs→J k W1→YieldAt Fence.wide 7 P l vs.toArray W1 fun e W'=>
    (e = .returned (.bool true)∧J (k+1) W'∧W1.heap.size≤W'.heap.size∧∀ b,b<W.heap.size→¬ O b→W'.heap[b]?=W1.heap[b]?)∨(e = .returned (.bool false)∧Jx (k+1) W')) →
   J 0 W→CallsIn Fence.wide 8 P gf (#[.func (.yield l) #[] #[]] ++ lb.toArray) W fun e W'=>∃ v,e = .returned v∧(J its.length W'∨∃ k,Jx k W')
section
variable {P:Program} {r:Option Nat} {n:Nat} {df:Nat} {Q:Pst} {a:List D} {σ σ':aa1} {w w':World} {X:Nat→Prop}
theorem St.mv {fr:Act} (h:St w X df a σ fr) (hm:Mv w σ w' σ') (hs:StOK w' X σ'):St w' X df a σ' fr:=by
 have hO:∀ b,b<w.heap.size→¬ Own σ X b→¬ Own σ' X b:=fun b hb hn ho=>by
  rcases ho with ho|ho
  ·exact hn (.inl ho)
  ·rcases hm.new b ho with h1|h1
   ·exact hn (.inr h1)
   ·omega
 have hS:∀ b,b<w.heap.size→¬ Own σ X b→w'.heap[b]?=w.heap[b]?:=fun b hb hn=>hm.keep.block b hb (fun hk=>hn (.inr hk))
 exact ⟨h.fr.keep hm.keep.size hO hS,hs,h.df.keep hm.keep.size hO hS⟩
theorem St.turn {fr:Act} (h:St w X df a σ fr) {D:Nat} {o o':Obj} (h5:5≤D) (hO:¬ Own σ X D) (hD:w.heap[D]?=some o) (ho:o.isCells=false) (hm:∀ es c,o ≠ .map es c) (hd:∀ d,o ≠ .deferred d):St (w.putObj D o') X df a σ fr:=by
 refine ⟨h.fr.of_cells (Nat.le_of_eq (ak5 _ _).symm) (aF9 hD ho),h.st.turn h5 hO hD ho hm,?_⟩
 obtain ⟨h0,bs,h1,h2,h3⟩:=h.df
 refine ⟨by rw [ak5];exact h0,bs,h1,h2,fun b hb=>?_⟩
 obtain ⟨k1,k2,k3⟩:=h3 b hb
 exact ⟨k1,k2,(World.putObj_heap_other (fun e=>by subst e;rw [hD] at k3;cases k3;exact hd _ rfl)).trans k3⟩
theorem Mv.turn (h:Mv w σ w' σ') {l:Nat} (hl:w.heap.size≤l) (o:Obj):Mv w σ (w'.putObj l o) σ':=
 ⟨⟨h.keep.os,h.keep.tape,h.keep.output,by rw [ak5];exact h.keep.size,fun b hb hn=>(World.putObj_heap_other (fun e=>by omega)).trans (h.keep.block b hb hn)⟩,h.new⟩
def aQ2 (a:List D) (ps:List Tmp) (x:List D):List D:=(ps.zip x).foldl (fun a p=>a.set p.1 p.2) a
theorem fr_set {O:Nat→Prop} {t:Array Value} (h:FR w O a t) {d:D} {u:Value} (hd:Rd w O d u) (i:Nat):FR w O (a.set i d) (t.setIfInBounds i u):=by
 have:=FR.put (fr:=⟨t,[]⟩) h hd (some i)
 exact this
theorem fr_setPs {O:Nat→Prop}:∀ (ps:List Tmp) {x:List D} {vs:List Value} {a:List D} {t:Array Value},FR w O a t→RdL w O x vs→FR w O (aQ2 a ps x) ((ps.zip vs).foldl (fun t (p,v)=>t.setIfInBounds p v) t)
 | [],x,vs,a,t,h,_=>by simpa [aQ2] using h
 | p :: ps,[],vs,a,t,h,hr=>by
  have:vs=[]:=by have:=hr.len;simpa using this
  subst this
  simpa [aQ2] using h
 | p :: ps,d :: x,[],a,t,h,hr=>by have:=hr.len;simp at this
 | p :: ps,d :: x,v :: vs,a,t,h,hr=>by
  have htl:RdL w O x vs:=⟨by have:=hr.len;simpa using this,fun j d u h1 h2=>hr.at_ (j+1) d u (by simpa using h1) (by simpa using h2)⟩
  have:=fr_setPs ps (fr_set h (hr.at_ 0 d v rfl rfl) p) htl
  simpa [aQ2] using this
def rangeQ (Q:Pst) (a:List D) {γ:Type} (S:γ→aa1) (I:γ→Prop):Pst
 | .normal,_,σ'=>∃ g,(S g).Sublist σ'∧I g
 | .ret,_,σ'=>Q .ret a σ'
 | .exit id,_,σ'=>Q (.exit id) a σ'
 | _,_,_=>False
theorem own_mv (hm:Mv w σ w' σ') {b:Nat} (hb:b<w.heap.size) (hn:¬ Own σ X b):¬ Own σ' X b:=fun ho=>by
 rcases ho with ho|ho
 ·exact hn (.inl ho)
 ·rcases hm.new b ho with h1|h1
  ·exact hn (.inr h1)
  ·omega
theorem awp_range {g:Operand} {ps:Array Tmp} {assign body:Code} {gf:FuncId} {caps:List D} {its:List (List D)} (hit:AIter P gf caps its) (hg:evD a g = .clo gf caps) (hps:∀ x∈its,x.length=ps.size)
  {γ:Type} (S:Nat→γ→aa1) (I:Nat→γ→Prop) (g₀:γ) (hσ:(S 0 g₀).Sublist σ) (h0:I 0 g₀)
  (round:∀ (l:Nat) (k:Nat) gk x,its[k]?=some x→I k gk→AWP P (some l) 7 0 assign (thenA (AWP P (some l) 7 0 body (rangeQ Q a (S (k+1)) (I (k+1)))) (fun _ _ _=>False)) (aQ2 a ps.toList x) (S k gk))
  (done:∀ gk,I its.length gk→Q .normal a (S its.length gk)):AWP P none 9 df (.rangeFunc g ps assign body) Q a σ:=by
 refine ⟨fun w X fr hs=>?_⟩
 have hv:=hs.fr.eval g
 rw [hg] at hv
 obtain ⟨lb,hgv,hlb⟩:=hv.clo_inv
 refine wpIn_rangeFunc ?_
 intro fn hfn
 rw [show (FW none).round=none from rfl]
 obtain ⟨rec,hrec⟩:∃ rec:LoopState→Option Code→Loop,rec=fun st pe=>{ state:=st,pending:=pe,fn,tmps:=fr.tmps,params:=ps,assign,body,defers:=w.heap.size }:=⟨_,rfl⟩
 obtain ⟨W1,hW1⟩:∃ W1,(w.alloc (.deferred (some []))).alloc (.loop (rec .ready none))=W1:=⟨_,rfl⟩
 have hL1:W1.heap[w.heap.size+1]?=some (.loop (rec .ready none)):=by
  rw [← hW1];have:=World.alloc_heap_new (w.alloc (.deferred (some []))) (.loop (rec .ready none));rwa [World.size_alloc] at this
 have hx1:Ex w W1:=by rw [← hW1];exact ((Ex.refl w).alloc).alloc
 have hK1:W1.heap[w.heap.size]?=some (.deferred (some [])):=by
  rw [← hW1];exact (Below.heap_alloc _ _ _ (by simp)).trans (World.alloc_heap_new w _)
 have hz1:W1.heap.size=w.heap.size+2:=by rw [← hW1];simp
 have h5:5≤w.heap.size:=hs.st.gok.sz
 obtain ⟨fr',hfr'⟩:∃ fr':Act,fr'={ fr with defers:=mrk w.heap.size :: fr.defers }:=⟨_,rfl⟩
 have hnD:¬ Own σ X w.heap.size:=aN2 hs.st (Nat.le_refl _)
 have hnl:¬ Own σ X (w.heap.size+1):=aN2 hs.st (Nat.le_succ _)
 have hs1:St W1 X df a σ fr':=by
  have:=hs.ex hx1
  refine ⟨by rw [hfr'];exact this.fr,this.st,?_⟩
  obtain ⟨k0,bs,k1,k2,k3⟩:=this.df
  have k0':=hs.df.1
  refine ⟨k0,w.heap.size :: bs,by rw [hfr',k1];rfl,List.nodup_cons.2 ⟨fun hm=>?_,k2⟩,fun b hb=>?_⟩
  ·obtain ⟨_,bs0,q1,_,q3⟩:=hs.df
   have e:bs0.map mrk=bs.map mrk:=q1.symm.trans k1
   have hinj:bs0=bs:=by
    have:=congrArg (List.map (fun d:Deferred=>match d.target with | .collected b=>b | _=>0)) e
    simpa [mrk,List.map_map,Function.comp_def] using this
   rw [← hinj] at hm
   have:=(Array.getElem?_eq_some_iff.1 (q3 _ hm).2.2).1
   omega
  ·rcases List.mem_cons.1 hb with rfl|hb
   ·exact ⟨k0',hnD,hK1⟩
   ·exact k3 b hb
 refine ⟨w.heap.size+1,[{ target:=.collected w.heap.size,args:=#[] }],W1,{ target:=.fn (.func gf) lb.toArray,args:=#[.func (.yield (w.heap.size+1)) #[] #[]] },W1,gf,
  #[.func (.yield (w.heap.size+1)) #[] #[]] ++ lb.toArray,W1,?_,?_,?_,?_,(fun hd=>by simp [FW,Fence.wide] at hd),?_⟩
 ·rw [← hW1,hrec];exact run_enterLoop_outer _ _ _ _ _
 ·simp only [resolve,hgv]
  simp [go_sem]
 ·intro f' hf';simp [Target.leads] at hf';trivial
 ·simp only [invoke];exact hit.ent _ _
 ·obtain ⟨O,hO⟩:∃ O:Nat→Prop,O=fun b=>Own σ X b∨b=w.heap.size∨b=w.heap.size+1:=⟨_,rfl⟩
  have hnO:∀ {b:Nat},¬ O b→¬ Own σ X b∧b≠w.heap.size∧b≠w.heap.size+1:=fun {b} h=>by
   rw [hO] at h;exact ⟨fun h1=>h (.inl h1),fun h1=>h (.inr (.inl h1)),fun h1=>h (.inr (.inr h1))⟩
  obtain ⟨vsl,hvl,hvr,hrun⟩:=hit.run O W1 lb (hlb.keep hx1.size (fun b hb hn=>by
   rw [hO];rintro (h|h|h)
   ·exact hn h
   ·omega
   ·omega) (fun b hb _=>hx1.block b hb))
  have hcall:=hrun (w.heap.size+1)
   (fun k W=>∃ gk,I k gk∧St W X df a (S k gk) fr'∧Mv w σ W (S k gk)∧W1.heap.size≤W.heap.size∧W.heap[w.heap.size+1]?=some (.loop (rec .ready none))∧¬ Own (S k gk) X (w.heap.size+1))
   (fun _ W=>∃ τ e c,(e = .ret∧c = .ret∨∃ id,e = .exit id∧c = .exit id)∧Q e a τ∧St W X df a τ fr'∧Mv w σ W τ∧W.heap[w.heap.size+1]?=some (.loop (rec .done (some c)))∧¬ Own τ X (w.heap.size+1))
   (fun k A B ⟨gk,q1,q2,q3,q4,q5,q6⟩ hx=>⟨gk,q1,q2.ex hx,q3.trans (Mv.of_ex hx),Nat.le_trans q4 hx.size,(hx.block _ (Array.getElem?_eq_some_iff.1 q5).1).trans q5,q6⟩)
   (fun k A B ⟨τ,e,c,q1,q2,q3,q4,q5,q6⟩ hx=>⟨τ,e,c,q1,q2,q3.ex hx,q4.trans (Mv.of_ex hx),(hx.block _ (Array.getElem?_eq_some_iff.1 q5).1).trans q5,q6⟩)
   ?_ ⟨g₀,h0,⟨hs1.fr.keep (Nat.le_refl _) (fun x _ hn=>ak6 hσ x hn) (fun _ _ _=>rfl),hs1.st.sub hσ,hs1.df.keep (Nat.le_refl _) (fun x _ hn=>ak6 hσ x hn) (fun _ _ _=>rfl)⟩,
    (Mv.of_ex hx1).fewer (fun b hb=>(hσ.map Prod.fst).subset hb),Nat.le_refl _,hL1,ak6 hσ _ hnl⟩
  ·refine hcall.mono ?_
   rintro e W2 ⟨v,rfl,(⟨gk,q1,q2,q3,q4,q5,q6⟩|⟨_,τ,e,c,q1,q2,q3,q4,q5,q6⟩)⟩
   ·refine ⟨none,_,by have:=run_endLoop (P:=P) q5 (by rw [hrec];simp);rw [hrec] at this;exact this,?_⟩
    refine ⟨a,S its.length gk,done gk q1,?_,q3.turn (Nat.le_succ _) _⟩
    have:=q2.turn (o':=.loop { rec .ready none with state:=.exhausted }) (by omega) q6 q5 rfl (fun _ _ h=>by cases h) (fun _ h=>by cases h)
    rw [hfr',hrec] at this
    exact this
   ·refine ⟨some c,_,by have:=run_endLoop (P:=P) q5 (by rw [hrec];simp);rw [hrec] at this;exact this,?_⟩
    have hst:=q3.turn (o':=.loop { rec .done (some c) with state:=.exhausted }) (by omega) q6 q5 rfl (fun _ _ h=>by cases h) (fun _ h=>by cases h)
    rw [hfr',hrec] at hst
    have hmv:=q4.turn (Nat.le_succ _) (.loop { rec .done (some c) with state:=.exhausted })
    rw [hrec] at hmv
    rcases q1 with ⟨rfl,rfl⟩|⟨id,rfl,rfl⟩
    ·exact wpIn_ret ⟨a,τ,q2,hst,hmv⟩
    ·exact wpIn_exit ⟨a,τ,q2,hst,hmv⟩
  ·-- one round
   rintro k vs Wc hvk ⟨gk,q1,q2,q3,q4,q5,q6⟩
   have hkl:k<its.length:=by rw [← hvl];exact (List.getElem?_eq_some_iff.1 hvk).1
   obtain ⟨x,hx⟩:∃ x,its[k]?=some x:=⟨_,List.getElem?_eq_getElem hkl⟩
   have hlc:w.heap.size+1<Wc.heap.size:=(Array.getElem?_eq_some_iff.1 q5).1
   have hkeep1:∀ b,b<W1.heap.size→¬ O b→¬ Own (S k gk) X b∧Wc.heap[b]?=W1.heap[b]?:=fun b hb hn=>by
    obtain ⟨n1,n2,n3⟩:=hnO hn
    have hbw:b<w.heap.size:=by omega
    exact ⟨own_mv q3 hbw n1,(q3.keep.block b hbw (fun h=>n1 (.inr h))).trans (hx1.block b hbw).symm⟩
   have hxv:RdL Wc (Own (S k gk) X) x vs:=(hvr k x vs hx hvk).keep q4 (fun b hb hn=>(hkeep1 b hb hn).1) (fun b hb hn=>(hkeep1 b hb hn).2)
   have hsz:vs.toArray.size=ps.size:=by simp [hxv.len,hps x (List.mem_of_getElem? hx)]
   have hy:=run_yield (P:=P) (args:=vs.toArray) q5 (by rw [hrec];exact hsz)
   rw [hrec] at hy
   refine ⟨fn,_,assign,body,hy,?_⟩
   have hzip:((ps.zip vs.toArray).foldl (fun t (p:Tmp × Value)=>t.setIfInBounds p.1 p.2) fr.tmps)=((ps.toList.zip vs).foldl (fun t (p:Tmp × Value)=>t.setIfInBounds p.1 p.2) fr.tmps):=by
    rw [← Array.foldl_toList];simp
   have hfr0:FR Wc (Own (S k gk) X) a fr.tmps:=by have:=q2.fr;rw [hfr'] at this;exact this
   have hst0:St Wc X 0 (aQ2 a ps.toList x) (S k gk) { tmps:=(ps.zip vs.toArray).foldl (fun t (p:Tmp × Value)=>t.setIfInBounds p.1 p.2) fr.tmps,defers:=[] }:=
    ⟨by rw [hzip];exact fr_setPs ps.toList hfr0 hxv,q2.st,Mks.nil (Nat.zero_le _)⟩
   refine roundIn_of_wpIn hfn (wpIn_mono ((round (w.heap.size+1) k gk x hx q1).run Wc X _ hst0) ?_)
   rintro e a1 w1 ⟨a1',σ1,hA,hst1,hmv1⟩
   cases e with
   | normal=>
    have hl1:w1.heap[w.heap.size+1]?=some (.loop (rec .ready none)):=(hmv1.keep.block _ hlc (fun h=>q6 (.inr h))).trans q5
    have hn1:¬ Own σ1 X (w.heap.size+1):=own_mv hmv1 hlc q6
    refine ⟨_,run_beginRound hl1 (by rw [hrec]),?_⟩
    have hl1s:=(Array.getElem?_eq_some_iff.1 hl1).1
    have hl2:(w1.putObj (w.heap.size+1) (.loop { rec .ready none with state:=.busy })).heap[w.heap.size+1]?=some (.loop { rec .ready none with state:=.busy }):=World.putObj_heap_same hl1s
    have hst2:=hst1.turn (o':=.loop { rec .ready none with state:=.busy }) (by omega) hn1 hl1 rfl (fun _ _ h=>by cases h) (fun _ h=>by cases h)
    have hout1:St w1 X df a σ1 fr':=q2.mv hmv1 hst1.st
    have hout2:=hout1.turn (o':=.loop { rec .ready none with state:=.busy }) (by omega) hn1 hl1 rfl (fun _ _ h=>by cases h) (fun _ h=>by cases h)
    have hmv2:Mv w σ (w1.putObj (w.heap.size+1) (.loop { rec .ready none with state:=.busy })) σ1:=(q3.trans hmv1).turn (Nat.le_succ _) _
    have hA:AWP P (some (w.heap.size+1)) 7 0 body (rangeQ Q a (S (k+1)) (I (k+1))) a1' σ1:=hA
    refine wpIn_mono (hA.run _ X a1 hst2) ?_
    rintro e3 a3 W3 ⟨a3',σ3,hQ3,hst3,hmv3⟩
    have hl2s:w.heap.size+1<(w1.putObj (w.heap.size+1) (.loop { rec .ready none with state:=.busy })).heap.size:=by rw [ak5];exact hl1s
    have hl3:W3.heap[w.heap.size+1]?=some (.loop { rec .ready none with state:=.busy }):=(hmv3.keep.block _ hl2s (fun h=>hn1 (.inr h))).trans hl2
    have hn3:¬ Own σ3 X (w.heap.size+1):=own_mv hmv3 hl2s hn1
    have hl3s:=(Array.getElem?_eq_some_iff.1 hl3).1
    have hout3:St W3 X df a σ3 fr':=hout2.mv hmv3 hst3.st
    have hmv3':Mv w σ W3 σ3:=hmv2.trans hmv3
    have fin:∀ (jump:Option Code),(Instr.endRound (w.heap.size+1) jump).run P W3 = .ok (.bool jump.isNone) (W3.putObj (w.heap.size+1) (.loop (rec (if jump.isNone then .ready else .done) jump))) ∧
      (W3.putObj (w.heap.size+1) (.loop (rec (if jump.isNone then .ready else .done) jump))).heap[w.heap.size+1]?=some (.loop (rec (if jump.isNone then .ready else .done) jump)) ∧
      St (W3.putObj (w.heap.size+1) (.loop (rec (if jump.isNone then .ready else .done) jump))) X df a σ3 fr':=fun jump=>by
     have:=run_endRound (P:=P) jump hl3
     refine ⟨by rw [hrec] at this ⊢;exact this,World.putObj_heap_same hl3s,hout3.turn (by omega) hn3 hl3 rfl (fun _ _ h=>by cases h) (fun _ h=>by cases h)⟩
    have hkp:∀ (o:Obj) (b:Nat),b<W1.heap.size→¬ O b→(W3.putObj (w.heap.size+1) o).heap[b]?=Wc.heap[b]?:=fun o b hb hn=>by
     obtain ⟨n1,n2,n3⟩:=hnO hn
     have hbw:b<w.heap.size:=by omega
     have h1:=hmv3'.keep.block b hbw (fun h=>n1 (.inr h))
     have h2:=q3.keep.block b hbw (fun h=>n1 (.inr h))
     exact (World.putObj_heap_other n3).trans (h1.trans h2.symm)
    have hzz:∀ o:Obj,Wc.heap.size≤(W3.putObj (w.heap.size+1) o).heap.size:=fun o=>by
     have h1:=hmv1.keep.size
     have h2:=hmv3.keep.size
     rw [ak5] at h2 ⊢
     omega
    have pend:∀ (e0:Exit) (c:Code),(e0 = .ret∧c = .ret∨∃ id,e0 = .exit id∧c = .exit id)→Q e0 a σ3→∃ v w',(Instr.endRound (w.heap.size+1) (some c)).run P W3 = .ok v w' ∧
      ((Ending.returned v = .returned (.bool true)∧(∃ gk,I (k+1) gk∧St w' X df a (S (k+1) gk) fr'∧Mv w σ w' (S (k+1) gk)∧W1.heap.size≤w'.heap.size∧w'.heap[w.heap.size+1]?=some (.loop (rec .ready none))∧¬ Own (S (k+1) gk) X (w.heap.size+1))∧Wc.heap.size≤w'.heap.size∧∀ b,b<W1.heap.size→¬ O b→w'.heap[b]?=Wc.heap[b]?) ∨
       (Ending.returned v = .returned (.bool false)∧∃ τ e c,(e = .ret∧c = .ret∨∃ id,e = .exit id∧c = .exit id)∧Q e a τ∧St w' X df a τ fr'∧Mv w σ w' τ∧w'.heap[w.heap.size+1]?=some (.loop (rec .done (some c)))∧¬ Own τ X (w.heap.size+1))):=fun e0 c hec hq=>by
     obtain ⟨f1,f2,f3⟩:=fin (some c)
     exact ⟨_,_,f1,.inr ⟨rfl,σ3,e0,c,hec,hq,f3,hmv3'.turn (Nat.le_succ _) _,f2,hn3⟩⟩
    cases e3 with
    | normal=>
     obtain ⟨g',hsub,hI'⟩:=hQ3
     obtain ⟨f1,f2,f3⟩:=fin none
     refine ⟨_,_,f1,.inl ⟨rfl,⟨g',hI',?_,?_,Nat.le_trans q4 (hzz _),f2,ak6 hsub _ hn3⟩,hzz _,hkp _⟩⟩
     ·exact ⟨f3.fr.keep (Nat.le_refl _) (fun x _ hn=>ak6 hsub x hn) (fun _ _ _=>rfl),f3.st.sub hsub,f3.df.keep (Nat.le_refl _) (fun x _ hn=>ak6 hsub x hn) (fun _ _ _=>rfl)⟩
     ·exact (hmv3'.turn (Nat.le_succ _) _).fewer (fun b hb=>(hsub.map Prod.fst).subset hb)
    | ret=>exact pend .ret .ret (.inl ⟨rfl,rfl⟩) hQ3
    | exit id=>exact pend (.exit id) (.exit id) (.inr ⟨id,rfl,rfl⟩) hQ3
    | goto t=>exact hQ3.elim
    | panic c=>exact hQ3.elim
    | outgrown=>exact hQ3.elim
   | exit id=>exact hA.elim
   | goto t=>exact hA.elim
   | ret=>exact hA.elim
   | panic c=>exact hA.elim
   | outgrown=>exact hA.elim
end
/-! ### .. by the executor -/
section
variable {P:Program} {df:Nat} {N:Nat} {σ:aa1} {a:List D} {f:Frm} {T:TypeId→Option TI} {Q:Fst}
def rangeF (Q:Fst) (f:Frm) {γ:Type} (S:γ→aa1) (I:γ→Prop):Fst
 | .normal,_,σ'=>∃ g,(S g).Sublist σ'∧I g
 | .ret,_,σ'=>Q .ret f σ'
 | .exit id,_,σ'=>Q (.exit id) f σ'
 | _,_,_=>False
def zipF:List Tmp→List D→Frm→Frm
 | p :: ps,d :: x,f=>zipF ps x ((p,d) :: f)
 | _,_,f=>f
theorem zipF_ok:∀ {ps:List Tmp} {x:List D} {a:List D} {f:Frm},(ps.all fun p=>Nat.blt p N)=true→Sp N a f→Sp N (aQ2 a ps x) (zipF ps x f)
 | [],x,a,f,_,h=>by simpa [aQ2,zipF] using h
 | p :: ps,[],a,f,_,h=>by simpa [aQ2,zipF] using h
 | p :: ps,d :: x,a,f,hp,h=>by
  simp only [List.all_cons,Bool.and_eq_true,Nat.blt_eq] at hp
  have:=zipF_ok (x:=x) hp.2 (h.set (d:=d) hp.1)
  simpa [aQ2,zipF] using this
theorem aE0 (hm:P.follows .mixedOrders=true) (hT:∀ t i,T t=some i→tiOf P t=some i) {g:Operand} {ps:Array Tmp} {assign body:Code} {gf:FuncId} {caps:List D} {its:List (List D)} (hg:evF f g = .clo gf caps) (hit:AIter P gf caps its) (hps:∀ x∈its,x.length=ps.size) (hpN:(ps.toList.all fun p=>Nat.blt p N)=true)
  {γ:Type} (S:Nat→γ→aa1) (I:Nat→γ→Prop) (g₀:γ) (hσ:(S 0 g₀).Sublist σ) (h0:I 0 g₀)
  (round:∀ (l k:Nat) gk x,its[k]?=some x→I k gk→W (ar3 P T (some l) 7 0 N assign (thenF (ar3 P T (some l) 7 0 N body (rangeF Q f (S (k+1)) (I (k+1)))) (fun _ _ _=>False)) (zipF ps.toList x f) (S k gk)))
  (done:∀ gk,I its.length gk→W (Q .normal f (S its.length gk))):Lp P none 9 df N (.rangeFunc g ps assign body) Q f σ:=by
 refine ⟨fun a hs=>?_⟩
 refine awp_range hit (hs.eq hg (fun h=>by cases h)) hps S I g₀ hσ h0 (fun l k gk x hx hI=>?_) (fun gk hI=>⟨f,hs,(done gk hI).h⟩)
 refine as9 (ar2 hm hT (round l k gk x hx hI).h (zipF_ok hpN hs)) ?_
 rintro e a1 σ1 ⟨f1,hs1,h1⟩
 cases e with
 | normal=>
  refine as9 (ar2 hm hT h1 hs1) ?_
  rintro e a2 σ2 ⟨f2,hs2,h2⟩
  cases e with
  | normal=>exact h2
  | ret=>exact ⟨f,hs,h2⟩
  | exit id=>exact ⟨f,hs,h2⟩
  | goto t=>exact h2.elim
  | panic c=>exact h2.elim
  | outgrown=>exact h2.elim
 | exit id=>exact h1.elim
 | goto t=>exact h1.elim
 | ret=>exact h1.elim
 | panic c=>exact h1.elim
 | outgrown=>exact h1.elim
end
end
section
open Go Go.RowKit Go.Shelf
section
variable {P:Program} {r:Option Nat} {n:Nat} {df:Nat} {N:Nat} {Q:Pst} {a:List D} {σ:aa1} {w:World} {X:Nat→Prop} {ρ:Operand→D} {f:Frm} {L:List Oper} {T:TypeId→Option TI}
theorem yd_bne {o:Oper} {t t':TypeId} {x y:Operand} {p q:Bool} (ho:o.op = .binOp .neq t x y t') (hx:ρ x = .v (.bool p)) (hy:ρ y = .v (.bool q)) (ht:P.underlying t=some .bool):Yd P o ρ σ (.v (.bool (!(p == q)))):=by
 intro w X η hη hst
 obtain ⟨dst,op,ty,pos,aft,g⟩:=o
 simp only at ho
 subst ho
 have h1:=(hη x (by simp [Op.operands])).val hx
 have h2:=(hη y (by simp [Op.operands])).val hy
 refine af8 (s:=do eqGuard .neq t x y (η x) (η y);binOp .neq t (η x) (η y)) (u:=.bool (!(p == q))) ?_ (Ex.refl w) (.v _)
 rw [h1,h2]
 show (do eqGuard .neq t x y (.bool p) (.bool q);(do pure (Value.bool (!(← Op.equal t (.bool p) (.bool q)))))).run P w=_
 have hg0:(eqGuard .neq t x y (.bool p) (.bool q)).run P w = .ok () w:=rfl
 simp only [Sem.run_bind,hg0,Result.andThen,run_equal_bool w t p q ht,Sem.run_pure]
theorem OtE.nilsl (hT:∀ t i,T t=some i→tiOf P t=some i) {o:Oper} {t t':TypeId} {x y:Operand} {k:Nat} {xs:List (List D)} {i:TI} {p:Nat × Bool × Nat × Nat} {K:Frm→aa1→Prop} (ho:o.op = .binOp .eql t x y t') (hx:evF f x = .sl k xs) (hy:evF f y = .v (.slice none 0 0)) (ht:T t=some i) (hs:i.sl=some p)
  (k1:∀ e:Bool,(e=true→xs=[])→W (putK N o.dst (.v (.bool e)) f (fun f'=>K f' σ))):OtE P r n df L N o f σ K:=by
 refine ⟨fun rest Q a hsp hw hk=>?_⟩
 refine ah3 hw (by rw [ho];rfl) fun w X fr hst=>?_
 have h1:=hsp.le x _ _ _ (hst.fr.eval x)
 rw [hx] at h1
 have h2:=(hsp.le y _ _ _ (hst.fr.eval y))
 rw [hy] at h2
 have h2:=h2.val rfl
 obtain ⟨e,ag,k',by_⟩:=p
 obtain ⟨hu,_,_⟩:=aj3 (hT t i ht) hs
 obtain ⟨ad,cap,vs,hv,hcap,hk',hc,hr⟩:=h1.sl_inv
 have e0:(execOp fr.eval o).run P w = .ok (.value (.bool ad.isNone)) w:=by
  simp only [execOp,ho,hv,h2]
  show (do let u ← (do eqGuard .eql t x y (.slice ad xs.length cap) (.slice none 0 0);(do pure (Value.bool (← Op.equal t (.slice ad xs.length cap) (.slice none 0 0)))));pure (Next.value u)).run P w=_
  have hg0:(eqGuard .eql t x y (.slice ad xs.length cap) (.slice none 0 0)).run P w = .ok () w:=rfl
  simp only [Sem.run_bind,hg0,Result.andThen,run_equal_slice_nil w t e ad xs.length cap hu,Sem.run_pure]
 rw [e0]
 have hne:ad.isNone=true→xs=[]:=fun h=>by
  cases xs with
  | nil=>rfl
  | cons z zs=>
   obtain ⟨b,off,ha,_⟩:=hc 0 z rfl
   rw [ha] at h;cases h
 obtain ⟨f',hs',h4⟩:=ad7 (k1 _ hne).h hsp
 exact ⟨_,σ,Mv.refl _ _,hst.put (.v _) o.dst,hk _ _ _ h4 hs'⟩
theorem yd_slown (hT:∀ t i,T t=some i→tiOf P t=some i) {o:Oper} {t:TypeId} {x:Operand} {lo hi:Option Operand} {b off m c:Nat} {l h:Nat} {i:TI} {p:Nat × Bool × Nat × Nat} (ho:o.op = .slice t x lo hi none) (hx:ρ x = .v (.slice (some ⟨b,off,none⟩) m c)) (ht:T t=some i) (hs:i.sl=some p)
  (hlo:(lo=none∧l=0)∨∃ y kk,lo=some y∧ρ y = .v (.int kk (l:Int))) (hhi:(hi=none∧h=m)∨∃ y kk,hi=some y∧ρ y = .v (.int kk (h:Int))) (h1:l≤h) (h2:h≤c) (h3:l<c):Yd P o ρ σ (.v (.slice (some ⟨b,off+l*p.2.2.1,none⟩) (h - l) (c - l))):=by
 intro w X η hη hst
 obtain ⟨dst,op,ty,pos,aft,g⟩:=o
 simp only at ho
 subst ho
 obtain ⟨e,ag,k',by_⟩:=p
 obtain ⟨hu,hsz,_⟩:=aj3 (hT t i ht) hs
 have hz:=(aq3 hsz w).2
 have hxv:=(hη x (by simp [Op.operands])).val hx
 refine af8 (s:=Instr.sliceAt t (η x) (lo.map η) (hi.map η) ((none:Option Operand).map η)) (u:=.slice (some ⟨b,off+l*k',none⟩) (h - l) (c - l)) ?_ (Ex.refl w) (.v _)
 rw [hxv]
 have hne:c≠l:=by omega
 have hb:(Instr.sliceBounds true m c (lo.map η) (hi.map η) none).run P w = .ok (l,h,c) w:=by
  have hh:((h:Int)).toNat=h:=rfl
  have hl:((l:Int)).toNat=l:=rfl
  rcases hlo with ⟨rfl,rfl⟩|⟨yl,kl,rfl,hyl⟩ <;> rcases hhi with ⟨rfl,rfl⟩|⟨yh,kh,rfl,hyh⟩
  ·simp [Instr.sliceBounds,Result.andThen]
  ·have:=(hη yh (by simp [Op.operands])).val hyh
   simp [Instr.sliceBounds,Instr.sliceBound,Result.andThen,this,asIntOf,h2]
  ·have:=(hη yl (by simp [Op.operands])).val hyl
   simp [Instr.sliceBounds,Instr.sliceBound,Result.andThen,this,asIntOf,h1]
  ·have q1:=(hη yl (by simp [Op.operands])).val hyl
   have q2:=(hη yh (by simp [Op.operands])).val hyh
   simp [Instr.sliceBounds,Instr.sliceBound,Result.andThen,q1,q2,asIntOf,h1,h2]
 simp only [Instr.sliceAt,Sem.run_bind,run_underlying hu,Result.andThen,Instr.slice,Option.map_none,hb,hz,Sem.run_pure,if_neg hne,Option.map_some,at0]
theorem yd_conv {o:Oper} {s d:TypeId} {x:Operand} {k k':IntKind} {n:Int} (ho:o.op = .convert s d x) (hx:ρ x = .v (.int k n)) {ds:TypeDesc} (h1:P.underlying s=some ds) (h2:P.underlying d=some (.int k')) (hn:k'.wrap n=n):Yd P o ρ σ (.v (.int k' n)):=by
 intro w X η hη hst
 obtain ⟨dst,op,ty,pos,aft,g⟩:=o
 simp only at ho
 subst ho
 have h:=(hη x (by simp [Op.operands])).val hx
 refine af8 (s:=convert s d (η x)) (u:=.int k' n) ?_ (Ex.refl w) (.v _)
 rw [h]
 cases ds <;> simp [convert,run_underlying h1,run_underlying h2,Conv.intToInt,hn]
theorem OtE.copy (hT:∀ t i,T t=some i→tiOf P t=some i) {o:Oper} {p x:Operand} {t t2 e:TypeId} {i j:TI} {ag:Bool} {by_ b off dl dc jj:Nat} {tb:TypeId} {cs new:List D} {K:Frm→aa1→Prop}
  (ho:o.op = .call { callee:=.builtin .copy,args:=#[p,x],argTypes:=#[t,t2] }) (hp:evF f p = .v (.slice (some ⟨b,off,none⟩) dl dc)) (ht:T t=some i) (hs:i.sl=some (e,ag,1,by_)) (hj:T e=some j) (hjs:j.size=1)
  (hb:σ[jj]?=some (b,.cells tb cs)) (hfit:off+new.length≤cs.length) (hone:new.all oneD=true) (hne:new≠[])
  (hsrc:(∃ ys:List (List D),evF f x = .sl 1 ys∧new=(ys.take (Nat.min ys.length dl)).flatten∧new.length=Nat.min ys.length dl)∨(∃ (o2 sl sc:Nat),evF f x = .v (.slice (some ⟨b,o2,none⟩) sl sc)∧new=(cs.drop o2).take (Nat.min sl dl)∧new.length=Nat.min sl dl))
  (kk:W (putK N o.dst (.v (.int .i64 new.length)) f (fun f'=>K f' (σ.set jj (b,.cells tb (spl cs off new)))))):OtE P r n df L N o f σ K:=by
 refine ⟨fun rest Q a hsp hw hk=>?_⟩
 refine ah3 hw (by rw [ho];rfl) fun w X fr hst=>?_
 have hpv:=hsp.le p _ _ _ (hst.fr.eval p)
 rw [hp] at hpv
 have hpv:=hpv.val rfl
 have hxv:=hsp.le x _ _ _ (hst.fr.eval x)
 obtain ⟨hu,hsz,_⟩:=aj3 (hT t i ht) hs
 have hsz1:(P.info? e).map (·.size)=some 1:=by
  obtain ⟨inf,u,q1,_,_,q4,_⟩:=aq2 (hT e j hj)
  rw [q1];simp [← q4,hjs]
 obtain ⟨_,ob,hob,vs,rfl,hvs⟩:=hst.st.at_ b _ (List.mem_of_getElem? hb)
 obtain ⟨nv,ad,sl,sc,hxe,hnr,hnl,hcell⟩:∃ (nv:List Value) (ad:Addr) (sl sc:Nat),fr.eval x = .slice (some ad) sl sc∧RdL w (Own σ X) new nv∧nv.length=Nat.min sl dl∧∀ (j:Nat) v,nv[j]?=some v→w.cell? (ad.add j)=some v:=by
  rcases hsrc with ⟨ys,h1,h2,h3⟩|⟨o2,sl,sc,h1,h2,h3⟩
  ·rw [h1] at hxv
   obtain ⟨a0,c,news,hxe,hrd,hnl,hcl⟩:=aV7 hxv (by omega)
   have hys:ys≠[]:=fun h=>by subst h;simp at h2;exact hne h2
   obtain ⟨ad,rfl,hcell⟩:=hcl hys
   have hysk:∀ y∈ys,y.length=1:=(hxv.sl_inv.choose_spec.choose_spec.choose_spec).2.2.1
   have hfl:(ys.take (Nat.min ys.length dl)).flatten=ys.flatten.take (Nat.min ys.length dl):=by
    have h4:(ys.take (Nat.min ys.length dl)).flatten.length=Nat.min ys.length dl:=by rw [← h2];exact h3
    have h5:ys.flatten=(ys.take (Nat.min ys.length dl)).flatten ++ (ys.drop (Nat.min ys.length dl)).flatten:=by rw [← List.flatten_append,List.take_append_drop]
    rw [h5,List.take_left' h4]
   refine ⟨news.take (Nat.min ys.length dl),ad,ys.length,c,hxe,by rw [h2,hfl];exact hrd.take _,?_,fun j v hv=>?_⟩
   ·rw [List.length_take,hnl]
    have:=Nat.min_le_left ys.length dl
    simp only [Nat.mul_one];exact Nat.min_eq_left this
   ·rw [List.getElem?_take] at hv
    split at hv
    ·exact hcell j v hv
    ·cases hv
  ·rw [h1] at hxv
   have hxe:=hxv.val rfl
   have hr2:=(hvs.drop o2).take (Nat.min sl dl)
   refine ⟨(vs.drop o2).take (Nat.min sl dl),⟨b,o2,none⟩,sl,sc,hxe,by rw [h2];exact hr2,by rw [hr2.len,← h2,h3],fun j v hv=>?_⟩
   rw [List.getElem?_take] at hv
   split at hv
   ·rw [List.getElem?_drop] at hv
    have hlt:=(List.getElem?_eq_some_iff.1 hv).1
    rw [at0]
    simp [World.cell?,hob,hv]
   ·cases hv
 have hnn:nv.length=new.length:=hnr.len
 have hrun:=run_copy_row (P:=P) w t t2 o.type e b off dl dc ad sl sc vs.toArray tb nv hu hsz1 hob hnl hcell (by simp [hvs.len];omega) (rdl_one hnr hone)
 have ee:(execOp fr.eval o).run P w = .ok (.value (goInt nv.length)) (w.setRow b (vs.take off ++ nv ++ vs.drop (off+nv.length)).toArray):=by
  simp only [execOp,ho,resolve,invoke,builtin,Sem.run_bind,Sem.run_pure,Result.andThen,List.map_toArray,List.map_cons,List.map_nil,hpv,hxe,hrun]
 rw [ee]
 obtain ⟨q1,q2⟩:=aO5 (cur':=(vs.take off ++ nv ++ vs.drop (off+nv.length)).toArray) hob
 have hnew:RdL w (Own σ X) (spl cs off new) (vs.take off ++ nv ++ vs.drop (off+nv.length)):=by
  unfold spl
  rw [hnn]
  exact ((hvs.take off).append hnr).append (hvs.drop _)
 obtain ⟨g1,g2,g3,g4⟩:=hst.st.upd hb (k':=.cells tb (spl cs off new)) q2 q1 ⟨_,rfl,hnew⟩
 obtain ⟨f',hs',h4⟩:=ad7 kk.h hsp
 refine ⟨.v (.int .i64 new.length),_,g2,?_,hk _ _ _ h4 hs'⟩
 rw [← hnn]
 exact (⟨hst.fr.keep q2.size g3 g4,g1,hst.df.keep q2.size g3 g4⟩:St _ X df a _ fr).put (.v _) o.dst
theorem Rs.c1 (hT:∀ t i,T t=some i→tiOf P t=some i) {fn:Func} {j b:Nat} {t tb:TypeId} {d:D} {ti:TI} {K:D→Prop} (h:fn.results = #[.cell j t]) (hj:evF f (.tmp j) = .v (.pointer (some ⟨b,0,none⟩))) (hb:(b,Blk.cells tb [d])∈σ) (ht:T t=some ti) (hag:ti.agg=false)
  (k:W (K d)):Rs P N fn f σ K:=by
 refine ⟨_,fun a ha=>?_,k.h⟩
 intro w X tm hf hst
 obtain ⟨_,ob,hob,vs,rfl,hvs⟩:=hst.at_ b _ hb
 obtain ⟨g1,g2⟩:=aR1 (hT t ti ht) w
 rw [hag] at g1
 have hp:=(ai9 hf j).val (ha.eq hj (fun h=>by cases h))
 obtain ⟨u,k1,k2⟩:=hvs.get (j:=0) rfl
 have hcell:w.cell? ⟨b,0,none⟩=some u:=by simp [World.cell?,hob,k1]
 have hl:(loadVar t ⟨b,0,none⟩).run P w = .ok u w:=by
  have:=as0 (P:=P) (t:=t) g1 hcell
  simp only [Instr.loadAt,Instr.sureAddr,Sem.run_bind,Sem.run_pure,Result.andThen] at this
  exact this
 exact ⟨u,by simp [results,h,hp,asAddr,hl,Result.andThen,-Array.getD_eq_getD_getElem?],k2⟩
theorem Ld.cellm {o:Oper} {b off:Nat} {K:D→Prop} {tb:TypeId} {cs:List D} {d:D} (h1:(b,Blk.cells tb cs)∈σ) (h2:cs[off]?=some d) (h:W (K d)):Ld P o ρ σ b off false 1 K:=by
 obtain ⟨j,hj⟩:=List.getElem?_of_mem h1
 exact Ld.cell j hj h2 h
theorem Sv.cellm {b off:Nat} {d:D} {K:aa1→Prop} {tb:TypeId} {cs cs':List D} {τ:aa1} (h1:σ.Perm ((b,.cells tb cs) :: τ)) (h2:off<cs.length) (h3:oneD d=true) (h4:cs.set off d=cs') (h:W (K ((b,.cells tb cs') :: τ))):Sv σ b off [d] 1 K:=by
 refine Sv.perm h1 rfl h2 (by simp [h3]) ?_ h
 subst h4
 unfold spl
 rw [List.set_eq_take_append_cons_drop,if_pos h2]
 simp
end
end
section
open Go Go.RowKit Go.Shelf
abbrev ORep (α:Type):=α→Value→aa1→Prop
inductive All3 {α:Type} (R:ORep α):List α→List Value→List aa1→Prop
 | nil:All3 R [] [] []
 | cons {x:α} {u:Value} {t:aa1} {xs:List α} {vs:List Value} {ts:List aa1} (h:R x u t) (k:All3 R xs vs ts):All3 R (x :: xs) (u :: vs) (t :: ts)
section
variable {α:Type} {R:ORep α}
theorem All3.len {xs:List α} {vs:List Value} {ts:List aa1} (h:All3 R xs vs ts):vs.length=xs.length∧ts.length=xs.length:=by
 induction h with
 | nil=>exact ⟨rfl,rfl⟩
 | cons h k ih=>simp [ih.1,ih.2]
theorem All3.at {xs:List α} {vs:List Value} {ts:List aa1} (h:All3 R xs vs ts):∀ {i:Nat} {x:α},xs[i]?=some x→∃ u t τ,vs[i]?=some u∧R x u t∧ts.flatten.Perm (t ++ τ) ∧
  ∀ x' u' t',R x' u' t'→∃ ts',All3 R (xs.set i x') (vs.set i u') ts'∧ts'.flatten.Perm (t' ++ τ):=by
 induction h with
 | nil=>intro i x hx;simp at hx
 | @cons y u t xs vs ts h k ih=>
  intro i x hx
  cases i with
  | zero=>
   simp at hx
   subst hx
   exact ⟨u,t,ts.flatten,rfl,h,by simp,fun x' u' t' h'=>⟨t' :: ts,.cons h' k,by simp⟩⟩
  | succ i=>
   simp at hx
   obtain ⟨u2,t2,τ,h1,h2,h3,h4⟩:=ih hx
   refine ⟨u2,t2,t ++ τ,by simpa using h1,h2,?_,fun x' u' t' h'=>?_⟩
   ·rw [List.flatten_cons]
    refine (List.Perm.append_left t h3).trans ?_
    rw [← List.append_assoc,← List.append_assoc]
    exact List.perm_append_comm.append_right _
   ·obtain ⟨ts',k1,k2⟩:=h4 x' u' t' h'
    refine ⟨t :: ts',by simpa using All3.cons h k1,?_⟩
    rw [List.flatten_cons]
    refine (List.Perm.append_left t k2).trans ?_
    rw [← List.append_assoc,← List.append_assoc]
    exact List.perm_append_comm.append_right _
theorem All3.append {xs ys:List α} {vs us:List Value} {ts ss:List aa1} (h:All3 R xs vs ts) (k:All3 R ys us ss):All3 R (xs ++ ys) (vs ++ us) (ts ++ ss):=by
 induction h with
 | nil=>exact k
 | cons h _ ih=>exact .cons h ih
theorem All3.rep {x:α} {u:Value} {t:aa1} (h:R x u t):∀ n,All3 R (List.replicate n x) (List.replicate n u) (List.replicate n t)
 | 0=>.nil
 | n+1=>by rw [List.replicate_succ,List.replicate_succ,List.replicate_succ];exact .cons h (All3.rep h n)
structure RowsOf (e:TypeId) (R:ORep α) (xs:List α) (v:Value) (s:aa1):Prop where
 ex:∃ (vs:List Value) (s0:aa1) (ts:List aa1),RowIs e 1 (vs.map fun u=>[D.v u]) v s0∧All3 R xs vs ts∧s.Perm (s0 ++ ts.flatten)
theorem RowsOf.perm {e:TypeId} {xs:List α} {v:Value} {s s':aa1} (h:RowsOf e R xs v s) (hp:s'.Perm s):RowsOf e R xs v s':=by
 obtain ⟨vs,s0,ts,h1,h2,h3⟩:=h.ex
 exact ⟨vs,s0,ts,h1,h2,hp.trans h3⟩
theorem RowsOf.slice {e:TypeId} {xs:List α} {v:Value} {s:aa1} (h:RowsOf e R xs v s):∃ a c,v = .slice a xs.length c:=by
 obtain ⟨vs,s0,ts,h1,h2,h3⟩:=h.ex
 obtain ⟨a,c,e⟩:=h1.slice
 rw [List.length_map,h2.len.1] at e
 exact ⟨a,c,e⟩
theorem flat1 (vs:List Value):(vs.map fun u=>[D.v u]).flatten=vs.map D.v:=by
 induction vs with
 | nil=>rfl
 | cons v vs ih=>simp [ih]
theorem RowIs.block {e:TypeId} {k:Nat} {xs:List (List D)} {v:Value} {s:aa1} (h:RowIs e k xs v s) (hne:xs≠[]):∃ b cap junk,v = .slice (some ⟨b,0,none⟩) xs.length cap∧s=[(b,.cells e (xs.flatten ++ junk))]∧xs.length≤cap∧cap≤maxLen∧xs.length*k+junk.length=cap*k∧∀ d∈junk,d=D.any:=by
 rcases h.is with ⟨_,h,_⟩|h
 ·exact absurd h hne
 ·exact h
theorem RowsOf.at {e:TypeId} {xs:List α} {v:Value} {s:aa1} (h:RowsOf e R xs v s) {i:Nat} {x:α} (hx:xs[i]?=some x) :
  ∃ b cap cs u t τ,v = .slice (some ⟨b,0,none⟩) xs.length cap∧s.Perm ((b,.cells e cs) :: (t ++ τ))∧cs[i]?=some (.v u)∧R x u t ∧
   ∀ x' u' t' s',R x' u' t'→s'.Perm ((b,.cells e (cs.set i (.v u'))) :: (t' ++ τ))→RowsOf e R (xs.set i x') v s':=by
 obtain ⟨vs,s0,ts,h1,h2,h3⟩:=h.ex
 obtain ⟨u,t,τ,g1,g2,g3,g4⟩:=h2.at hx
 have hil:=(List.getElem?_eq_some_iff.1 g1).1
 obtain ⟨b,cap,junk,rfl,rfl,q3,q4,q5,q6⟩:=h1.block (fun h=>by
  have:=congrArg List.length h;simp at this;subst this;simp at hil)
 rw [flat1] at h3
 refine ⟨b,cap,vs.map D.v ++ junk,u,t,τ,by rw [List.length_map,h2.len.1],?_,?_,g2,fun x' u' t' s' h' hp=>?_⟩
 ·exact h3.trans (List.Perm.cons _ g3)
 ·rw [List.getElem?_append_left (by simpa using hil),List.getElem?_map,g1];rfl
 ·obtain ⟨ts',k1,k2⟩:=g4 x' u' t' h'
  refine ⟨vs.set i u',[(b,.cells e ((vs.set i u').map D.v ++ junk))],ts',⟨fun y hy=>by obtain ⟨z,_,rfl⟩:=List.mem_map.1 hy;rfl,.inr ⟨b,cap,junk,by simp [h2.len.1],by rw [flat1],by simpa using q3,q4,by simpa using q5,q6⟩⟩,k1,?_⟩
  refine hp.trans ?_
  rw [List.set_append_left _ _ (by simpa using hil),List.map_set]
  exact List.Perm.cons _ k2.symm
def Frz (R:ORep α) (den:α→D):Prop:=∀ x u t τ w X,R x u t→StOK w X (t ++ τ)→Rd w (Own τ X) (den x) u
theorem frz_row {β:Type} (e:TypeId) (k:Nat) (g:β→List D):Frz (fun (l:List β) v s=>RowIs e k (l.map g) v s) (fun l=>.sl k (l.map g)):=fun _ _ _ _ _ _ h hs=>aH5 h hs
theorem ah1 {w:World} {X:Nat→Prop} {s t:aa1} {d:D} {u:Value} (h:Rd w (Own s X) d u) (hs:∀ b,b∈ab2 t→b∈ab2 s):Rd w (Own t X) d u:=
 h.keep (Nat.le_refl _) (fun b _ hn ho=>hn (ho.imp id (hs b))) (fun _ _ _=>rfl)
theorem aZ2 {e:TypeId} {den:α→D} (hf:Frz R den):Frz (RowsOf e R) (fun xs=>.sl 1 (xs.map fun x=>[den x])):=by
 intro xs v s τ w X h hs
 obtain ⟨vs,s0,ts,h1,h2,h3⟩:=h.ex
 have hp:(s ++ τ).Perm (s0 ++ (ts.flatten ++ τ)):=by rw [← List.append_assoc];exact h3.append_right _
 have hs':=hs.perm hp
 have hrow:=aH5 h1 hs'
 obtain ⟨a,cap,f,e1,hcap,hk,hc,hr⟩:=hrow.sl_inv
 have hsub:∀ b,b∈ab2 τ→b∈ab2 (ts.flatten ++ τ):=fun b hb=>by rw [ac0];exact List.mem_append_right _ hb
 have hlen:vs.length=xs.length:=h2.len.1
 rw [e1,List.length_map,hlen,show xs.length=(xs.map fun x=>[den x]).length by simp]
 refine .sl 1 _ a cap f (by simpa [hlen] using hcap) (fun y hy=>by obtain ⟨z,_,rfl⟩:=List.mem_map.1 hy;rfl) (fun i y hy=>?_) (fun i y hy j d hd=>?_)
 ·have hi:i<vs.length:=by have:=(List.getElem?_eq_some_iff.1 hy).1;simpa [hlen] using this
  obtain ⟨b,off,q1,q2,q3,q4⟩:=hc i [.v vs[i]] (by rw [List.getElem?_map,List.getElem?_eq_getElem hi];rfl)
  exact ⟨b,off,q1,fun ho=>q2 (ho.imp id (hsub b)),q3,q4⟩
 ·rw [List.getElem?_map,Option.map_eq_some_iff] at hy
  obtain ⟨x,hx,rfl⟩:=hy
  cases j with
  | succ j=>simp at hd
  | zero=>
   simp at hd
   subst hd
   obtain ⟨u,t,τ',g1,g2,g3,g4⟩:=h2.at hx
   have hv:=(hr i [.v u] (by rw [List.getElem?_map,g1];rfl) 0 _ rfl).val rfl
   rw [hv]
   have hp2:(s ++ τ).Perm (t ++ (s0 ++ τ' ++ τ)):=by
    refine hp.trans ?_
    refine (List.Perm.append_left s0 (g3.append_right τ)).trans ?_
    simp only [List.append_assoc]
    rw [← List.append_assoc s0 t,← List.append_assoc t s0]
    exact List.perm_append_comm.append_right _
   have:=hf x u t (s0 ++ τ' ++ τ) w X g2 (hs.perm hp2)
   exact ah1 this (fun b hb=>by rw [ac0];exact List.mem_append_right _ hb)
theorem Vs.frz {den:α→D} (hf:Frz R den) {x:α} {v:Value} {s σ τ:aa1} (h:R x v s) (hp:σ.Perm (s ++ τ)):Vs σ (.v v) τ (den x):=
 ⟨fun w X u hs hr=>by
  have:=hr.val rfl
  subst this
  exact ⟨(hs.perm hp).sub (List.sublist_append_right _ _),hf x _ s τ w X h (hs.perm hp)⟩,fun b hb=>ak0 hp b (by rw [ac0];exact List.mem_append_right _ hb)⟩
theorem RowsOf.made {e:TypeId} {x0:α} (h0:R x0 (.slice none 0 0) []) (m b:Nat) (hm:m≤maxLen):RowsOf e R (List.replicate m x0) (.slice (some ⟨b,0,none⟩) m m) [(b,.cells e (List.replicate m (.v (.slice none 0 0))))]:=by
 refine ⟨List.replicate m (.slice none 0 0),[(b,.cells e (List.replicate m (.v (.slice none 0 0))))],List.replicate m [],⟨fun y hy=>by obtain ⟨z,_,rfl⟩:=List.mem_map.1 hy;rfl,.inr ⟨b,m,[],by simp,by rw [flat1];simp,by simp,hm,by simp,fun d hd=>by cases hd⟩⟩,All3.rep h0 m,by simp⟩
theorem RowsOf.nil (e:TypeId) (R:ORep α):RowsOf e R [] (.slice none 0 0) []:=⟨[],[],[],RowIs.nil _ _,.nil,by simp⟩
theorem RowIs.put {e:TypeId} {k:Nat} {xs:List (List D)} {b n cap:Nat} {cs:List D} (h:RowIs e k xs (.slice (some ⟨b,0,none⟩) n cap) [(b,.cells e cs)]) {i:Nat} {x':List D} (hi:i<xs.length) (hx:x'.length=k):RowIs e k (xs.set i x') (.slice (some ⟨b,0,none⟩) n cap) [(b,.cells e (spl cs (i*k) x'))]:=by
 have hne:xs≠[]:=fun e=>by subst e;simp at hi
 obtain ⟨b',cap',junk,e1,e2,q3,q4,q5,q6⟩:=h.block hne
 cases e1
 have e3:cs=xs.flatten ++ junk:=by simpa using e2
 refine ⟨fun y hy=>?_,.inr ⟨b,cap,junk,by simp,?_,by simpa using q3,q4,by simpa using q5,q6⟩⟩
 ·rcases List.mem_or_eq_of_mem_set hy with h1|rfl
  ·exact h.len y h1
  ·exact hx
 ·have hfl:=aw0 h.len
  have key:spl cs (i*k) x'=(xs.set i x').flatten ++ junk:=by
   rw [e3]
   have e4:xs=xs.take i ++ xs[i] :: xs.drop (i+1):=by rw [List.getElem_cons_drop,List.take_append_drop]
   have e5:xs.set i x'=xs.take i ++ x' :: xs.drop (i+1):=by rw [List.set_eq_take_append_cons_drop,if_pos hi]
   have ht:(xs.take i).flatten.length=i*k:=by
    rw [aw0 (k:=k) (fun y hy=>h.len y (List.mem_of_mem_take hy)),List.length_take,Nat.min_eq_left (by omega)]
   have hxi:xs[i].length=k:=h.len _ (List.getElem_mem hi)
   rw [e5]
   conv=>lhs;rw [e4]
   unfold spl
   simp only [List.flatten_append,List.flatten_cons,List.append_assoc]
   rw [← ht,List.take_left',List.drop_append,List.drop_of_length_le (by omega)]
   ·simp only [List.nil_append,List.append_assoc]
    congr 2
    rw [show (xs.take i).flatten.length+x'.length - (xs.take i).flatten.length=x'.length by omega,hx,← hxi,List.drop_left']
    rfl
   ·rfl
  rw [key]
theorem RowIs.get {e:TypeId} {k:Nat} {xs:List (List D)} {v:Value} {s:aa1} (h:RowIs e k xs v s) {i:Nat} {x:List D} (hx:xs[i]?=some x):∃ b cap cs,v = .slice (some ⟨b,0,none⟩) xs.length cap∧s=[(b,.cells e cs)]∧∀ j,j<k→cs[i*k+j]?=x[j]?:=by
 have hne:xs≠[]:=fun e=>by subst e;simp at hx
 obtain ⟨b,cap,junk,e1,e2,q3,q4,q5,q6⟩:=h.block hne
 refine ⟨b,cap,_,e1,e2,fun j hj=>?_⟩
 have:=aJ9 h.len hx hj
 have hjx:j<x.length:=by rw [h.len x (List.mem_of_getElem? hx)];exact hj
 rw [List.getElem?_append_left,this]
 exact (List.getElem?_eq_some_iff.1 (this.trans (List.getElem?_eq_getElem hjx))).1
end
/-! ### What is made new may stand beside what was only looked at -/
def flA:D→Bool
 | .v _=>true
 | .any=>true
 | _=>false
def Blk.flat:Blk→Prop
 | .cells _ cs=>∀ d∈cs,flA d=true
 | .obj _=>True
def FlS (s:aa1):Prop:=∀ p∈s,Blk.flat p.2
theorem flA_rd {w w':World} {O O':Nat→Prop} {d:D} {u:Value} (h:Rd w O d u) (hd:flA d=true):Rd w' O' d u:=by
 cases d <;> first|(have:=h.val rfl;subst this;exact .v _)|exact .any u|cases hd
theorem FlS.append {s t:aa1} (h:FlS s) (k:FlS t):FlS (s ++ t):=fun p hp=>(List.mem_append.1 hp).elim (h p) (k p)
theorem FlS.perm {s t:aa1} (h:FlS s) (hp:t.Perm s):FlS t:=fun p hq=>h p (hp.mem_iff.1 hq)
theorem FlS.row {e:TypeId} {k:Nat} {xs:List (List D)} {v:Value} {s:aa1} (h:RowIs e k xs v s) (hf:∀ x∈xs,∀ d∈x,flA d=true):FlS s:=by
 rcases h.is with ⟨_,_,rfl⟩|⟨b,cap,junk,_,rfl,_,_,_,hj⟩
 ·exact fun p hp=>by cases hp
 ·intro p hp
  rw [List.mem_singleton] at hp
  subst hp
  intro d hd
  rcases List.mem_append.1 hd with h1|h1
  ·obtain ⟨x,hx,hdx⟩:=List.mem_flatten.1 h1
   exact hf x hx d hdx
  ·rw [hj d h1];rfl
theorem FlS.rows {α:Type} {R:ORep α} (hR:∀ x u t,R x u t→FlS t) {e:TypeId} {xs:List α} {v:Value} {s:aa1} (h:RowsOf e R xs v s):FlS s:=by
 obtain ⟨vs,s0,ts,h1,h2,h3⟩:=h.ex
 refine FlS.perm (FlS.append (FlS.row h1 fun x hx d hd=>?_) ?_) h3
 ·obtain ⟨u,_,rfl⟩:=List.mem_map.1 hx
  rw [List.mem_singleton] at hd
  subst hd;rfl
 ·clear h3 h1 h
  induction h2 with
  | nil=>exact fun p hp=>by cases hp
  | cons h k ih=>rw [List.flatten_cons];exact (hR _ _ _ h).append ih
theorem ACall.peek {P:Program} {f:FuncId} {ds ds':List D} {σ:aa1} {R:D→aa1→Prop} (hp:PkL σ ds ds') (hc:ACall P f ds' [] R) (hfl:∀ d s,R d s→flatD d=true∧FlS s) :
  ACall P f ds σ (fun d σ'=>∃ s,σ'=s ++ σ∧R d s):=by
 refine ⟨hc.ent,fun w X vs hv hs=>?_⟩
 have hv':=hp.rd hs hv
 have hst0:StOK w (fun _=>False) []:=⟨List.nodup_nil,fun b k hm=>(by cases hm),fun b hb=>hb.elim,hs.gok.mono (fun b hb=>by rcases hb with hb|hb;exact hb.elim;cases hb)⟩
 refine (hc.run w (fun _=>False) vs ⟨hv'.len,fun j d u g1 g2=>(hv'.at_ j d u g1 g2).keep (Nat.le_refl _) (fun b _ _ ho=>by rcases ho with ho|ho;exact ho.elim;cases ho) (fun _ _ _=>rfl)⟩ hst0).mono ?_
 rintro e w' ⟨u,d,s,g1,g2,g3,g4,g5⟩
 obtain ⟨f1,f2⟩:=hfl d s g2
 have hx:Ex w w':=⟨g5.keep.os,g5.keep.tape,g5.keep.output,g5.keep.size,fun b hb _=>g5.keep.block b hb (fun hk=>by cases hk)⟩
 have hnew:∀ b,b∈ab2 s→w.heap.size≤b:=fun b hb=>by
  rcases g5.new b hb with h|h
  ·cases h
  ·exact h
 have hO:∀ b,b<w.heap.size→¬ Own σ X b→¬ Own (s ++ σ) X b:=fun b hb hn ho=>by
  rcases ho with ho|ho
  ·exact hn (.inl ho)
  ·rw [ac0,List.mem_append] at ho
   rcases ho with ho|ho
   ·have:=hnew b ho;omega
   ·exact hn (.inr ho)
 refine ⟨u,d,s ++ σ,g1,⟨s,rfl,g2⟩,flat_rd g3 f1,⟨?_,fun b k hbk=>?_,fun b hb=>Nat.lt_of_lt_of_le (hs.xlt b hb) hx.size,?_⟩,⟨⟨hx.os,hx.tape,hx.output,hx.size,fun b hb _=>hx.block b hb⟩,fun b hb=>?_⟩⟩
 ·rw [ac0,List.nodup_append]
  exact ⟨g4.nodup,hs.nodup,fun b h1 c h2 e=>by subst e;have:=hnew b h1;have:=hs.lt h2;omega⟩
 ·rcases List.mem_append.1 hbk with h|h
  ·obtain ⟨_,o,h2,h3⟩:=g4.at_ b k h
   refine ⟨fun hX=>by have:=hnew b (aD9 h);have:=hs.xlt b hX;omega,o,h2,?_⟩
   have hfk:=f2 _ h
   cases k with
   | cells t cs=>
    obtain ⟨vs,q1,q2⟩:=h3
    exact ⟨vs,q1,q2.len,fun j d u r1 r2=>flA_rd (q2.at_ j d u r1 r2) (hfk d (List.mem_of_getElem? r1))⟩
   | obj ok=>exact h3
  ·obtain ⟨h1,o,h2,h3⟩:=hs.at_ b k h
   have hlt:=(Array.getElem?_eq_some_iff.1 h2).1
   exact ⟨h1,o,(hx.block b hlt).trans h2,Blk.ok_keep hx.size hO (fun b hb _=>hx.block b hb) h3⟩
 ·refine hs.gok.keep hx.size hO (fun b hb _=>hx.block b hb) (fun b hb=>?_)
  rcases hb with hb|hb
  ·exact Nat.lt_of_lt_of_le (hs.xlt b hb) hx.size
  ·rw [ac0,List.mem_append] at hb
   rcases hb with hb|hb
   ·exact g4.lt hb
   ·exact Nat.lt_of_lt_of_le (hs.lt hb) hx.size
 ·rw [ac0,List.mem_append] at hb
  rcases hb with hb|hb
  ·exact .inr (hnew b hb)
  ·exact .inl hb
theorem Pk.frz {α:Type} {R:ORep α} {den:α→D} (hf:Frz R den) {x:α} {v:Value} {s σ τ:aa1} (h:R x v s) (hp:σ.Perm (s ++ τ)):Pk σ (.v v) (den x):=
 ⟨fun w X u hs hr=>by have:=hr.val rfl;subst this;exact (hf x _ s τ w X h (hs.perm hp)).stable⟩
end
end Go.Proofs.YtjbbmjjildhfbaaGreatDoor
