/- A part of the proof: Nt Mp Lo Jn Jp Bl Bp. -/
import Derived.Test.YtjbbmjjildhfbaaGreatDoorW07
import Derived.WideKeyEntry
import Derived.Laws.AppendOwn
set_option maxRecDepth 100000
set_option maxHeartbeats 4000000
set_option linter.unusedVariables false
set_option linter.unusedSimpArgs false
namespace Go.Proofs.YtjbbmjjildhfbaaGreatDoor
section
open Go Go.RowKit Go.Shelf
section
variable {β:Type} {g:β→D}
abbrev RowR (e1:TypeId) (g:β→D):ORep (List β):=fun l v s=>RowIs e1 1 (l.map fun b=>[g b]) v s
theorem spl_one {cs:List D} {off:Nat} (h:off<cs.length) (d:D):spl cs off [d]=cs.set off d:=by
 unfold spl
 rw [List.set_eq_take_append_cons_drop,if_pos h]
 simp
theorem aX2 {e1:TypeId} {l:List β} {u:Value} {s:aa1} (h:RowR e1 g l u s) {i:Nat} {b:β} (hb:l[i]?=some b) :
  ∃ b1 cap1 cs1,u = .slice (some ⟨b1,0,none⟩) l.length cap1∧s=[(b1,.cells e1 cs1)]∧cs1[i]?=some (g b)∧∀ b',RowR e1 g (l.set i b') u [(b1,.cells e1 (cs1.set i (g b')))]:=by
 have hi:=(List.getElem?_eq_some_iff.1 hb).1
 obtain ⟨b1,cap1,cs1,e2,e3,e4⟩:=RowIs.get h (show (l.map fun b=>[g b])[i]?=some [g b] by rw [List.getElem?_map,hb];rfl)
 have h4:=e4 0 (by omega)
 simp only [Nat.mul_one,Nat.add_zero] at h4
 have h5:cs1[i]?=some (g b):=by rw [h4];rfl
 rw [List.length_map] at e2
 subst e2 e3
 refine ⟨b1,cap1,cs1,rfl,rfl,h5,fun b'=>?_⟩
 have:=RowIs.put h (i:=i) (x':=[g b']) (by simpa using hi) rfl
 rw [Nat.mul_one,spl_one (List.getElem?_eq_some_iff.1 h5).1] at this
 show RowIs e1 1 ((l.set i b').map fun b=>[g b]) _ _
 rw [List.map_set]
 exact this
theorem row_slice {e1:TypeId} {l:List β} {u:Value} {s:aa1} (h:RowR e1 g l u s):∃ a c,u = .slice a l.length c:=by
 obtain ⟨a,c,e⟩:=RowIs.slice h
 rw [List.length_map] at e
 exact ⟨a,c,e⟩
theorem aW9 {α:Type} {l:List α} {i:Nat} {a:α} (h:l[i]?=some a):l.set i a=l:=by
 apply List.ext_getElem?
 intro j
 rw [List.getElem?_set]
 split
 ·rename_i e;subst e
  rw [if_pos (List.getElem?_eq_some_iff.1 h).1,h]
 ·rfl
theorem be0 {e e1:TypeId} {t:List (List β)} {v:Value} {σ:aa1} (h:RowsOf e (RowR e1 g) t v σ) {j:Nat} {l:List β} (hl:t[j]?=some l) :
  ∃ b0 cap0 cs0 a1 c1,v = .slice (some ⟨b0,0,none⟩) t.length cap0∧(b0,Blk.cells e cs0)∈σ∧cs0[j]?=some (.v (.slice a1 l.length c1)):=by
 obtain ⟨b0,cap0,cs0,u,tt,ρ,h1,h2,h3,h4,h5⟩:=h.at hl
 obtain ⟨a1,c1,rfl⟩:=row_slice h4
 exact ⟨b0,cap0,cs0,a1,c1,h1,h2.mem_iff.2 (by simp),h3⟩
theorem at1 {e e1:TypeId} {t:List (List β)} {v:Value} {σ:aa1} (h:RowsOf e (RowR e1 g) t v σ) {j i:Nat} {l:List β} {b:β} (hl:t[j]?=some l) (hb:l[i]?=some b) :
  ∃ b0 cap0 cs0 b1 cap1 cs1 ρ,v = .slice (some ⟨b0,0,none⟩) t.length cap0∧σ.Perm ((b0,.cells e cs0) :: (b1,.cells e1 cs1) :: ρ)∧cs0[j]?=some (.v (.slice (some ⟨b1,0,none⟩) l.length cap1))∧cs1[i]?=some (g b) ∧
   ∀ b',RowsOf e (RowR e1 g) (t.set j (l.set i b')) v ((b0,.cells e cs0) :: (b1,.cells e1 (cs1.set i (g b'))) :: ρ):=by
 obtain ⟨b0,cap0,cs0,u,tt,ρ,h1,h2,h3,h4,h5⟩:=h.at hl
 obtain ⟨b1,cap1,cs1,rfl,rfl,q3,q4⟩:=aX2 h4 hb
 refine ⟨b0,cap0,cs0,b1,cap1,cs1,ρ,h1,h2,h3,q3,fun b'=>h5 _ _ _ _ (q4 b') ?_⟩
 rw [aW9 h3]
 exact List.Perm.refl _
end
theorem ix1 (j:Nat):0+((j:Nat):Int).toNat*1=j:=by simp
end
section
open Go Go.RowKit Go.Shelf Go.Maps Go.MapKept
open Go.ChangeMaps (setBlock modify_eq_set heap_setBlock_same heap_setBlock_other)
/-! ### Permutations by counting -/
section
open Classical in
noncomputable local instance:DecidableEq (Nat × Blk):=fun _ _=>propDecidable _
noncomputable def ct (a:Nat × Blk) (l:aa1):Nat:=l.count a
noncomputable def ct1 (a x:Nat × Blk):Nat:=[x].count a
theorem af1 (a:Nat × Blk):ct a []=0:=by simp [ct]
theorem ac4 (a x:Nat × Blk) (l:aa1):ct a (x :: l)=ct1 a x+ct a l:=by
 unfold ct ct1
 rw [show x :: l=[x] ++ l from rfl,List.count_append]
theorem ae7 (a:Nat × Blk) (l m:aa1):ct a (l ++ m)=ct a l+ct a m:=by simp [ct]
theorem al2 {l m:aa1} (h:l.Perm m) (a:Nat × Blk):ct a l=ct a m:=by unfold ct;exact h.count_eq a
theorem ac3 {l m:aa1} (h:∀ a,ct a l=ct a m):l.Perm m:=List.perm_iff_count.2 h
end
def MapO (P:Program) (k:TypeId) (f:Value→Option Value) (o:Obj):Prop:=∃ es clock n,o = .map es clock∧Ents P k es clock n f
def MapS (P:Program) (k:TypeId) (f:Value→Option Value) (key stamp:Value) (o:Obj):Prop:=∃ es clock n,o = .map es clock∧Ents P k es clock n f∧∃ e∈es.toList,e.key=key∧stamp=goInt e.born
theorem MapS.is {P:Program} {k:TypeId} {f:Value→Option Value} {key stamp:Value} {o:Obj} (h:MapS P k f key stamp o):MapO P k f o:=by
 obtain ⟨es,c,n,h1,h2,_⟩:=h;exact ⟨es,c,n,h1,h2⟩
def KeyD (d:D) (kv:Value):Prop:=∀ (w:World) (O:Nat→Prop) (u:Value),Rd w O d u→u=kv
theorem KeyD.v (x:Value):KeyD (.v x) x:=fun _ _ _ h=>h.val rfl
theorem KeyD.agg2 (x y:Value):KeyD (.agg [.v x,.v y]) (.agg #[x,y]):=fun w O u h=>by
 obtain ⟨vs,rfl,h1⟩:=h.agg_inv
 have hl:=h1.len
 match vs,hl with
 | [a,b],_=>
  have q1:=(h1.at_ 0 _ _ rfl rfl).val rfl
  have q2:=(h1.at_ 1 _ _ rfl rfl).val rfl
  rw [q1,q2]
section
variable {P:Program} {r:Option Nat} {n:Nat} {df:Nat} {N:Nat} {σ τ:aa1} {ρ:Operand→D} {f:Frm} {L:List Oper} {k t e:TypeId} {F:Value→Option Value} {b:Nat} {kv z:Value} {kl:Lit}
theorem own_obj {w:World} {X:Nat→Prop} {ok:Obj→Prop} (hs:StOK w X σ) (hb:(b,Blk.obj ok)∈σ):∃ o,w.heap[b]?=some o∧ok o:=by
 obtain ⟨_,o,h1,h2⟩:=hs.at_ b _ hb
 exact ⟨o,h1,h2⟩
theorem yd_lookup {o:Oper} {m key:Operand} {ok:Obj→Prop} (ho:o.op = .lookup t m key false) (hm:ρ m = .v (.map (some b))) (hd:KeyD (ρ key) kv) (hb:(b,Blk.obj ok)∈σ) (hok:∀ o,ok o→MapO P k F o)
  (K:Keyed P k) (ht:P.underlying t=some (.map k e)) (hz:∀ w,(zeroValue e).run P w = .ok z w) (hkey:keyOf P k kv=some kl):Yd P o ρ σ (.v ((F kv).getD z)):=by
 intro w X η hη hst
 obtain ⟨dst,op,ty,pos,aft,g⟩:=o
 simp only at ho
 subst ho
 have h1:=(hη m (by simp [Op.operands])).val hm
 have h2:=hd _ _ _ (hη key (by simp [Op.operands]))
 obtain ⟨ob,q1,q2⟩:=own_obj hst hb
 obtain ⟨es,c,nn,rfl,q3⟩:=hok _ q2
 exact ah4 (s:=Instr.lookup t (η m) (η key) false) (by rw [h1,h2];exact MapIs.look (n:=nn) ⟨es,c,q1,q3⟩ K ht (hz w) hkey) (Ex.refl w) (.v _)
theorem OtE.makeMap {o:Oper} {K:Frm→aa1→Prop} (ho:o.op = .makeMap t none) (kk:∀ b,W (putK N o.dst (.v (.map (some b))) f (fun f'=>K f' ((b,.obj (MapO P k fun _=>none)) :: σ)))):OtE P r n df L N o f σ K:=by
 refine ⟨fun rest Q a hsp hw hk=>?_⟩
 refine ag9 hw (by rw [ho];rfl) fun w X fr hst=>?_
 have e0:(execOp fr.eval o).run P w = .ok (.value (.map (some w.heap.size))) (w.alloc (.map #[] 0)):=by
  simp only [execOp,ho]
  rfl
 rw [e0]
 have hz:MapO P k (fun _=>none) (.map #[] 0):=⟨#[],0,0,rfl,⟨by simp,stamped_empty 0,by simp,by simp,by simp⟩⟩
 obtain ⟨g1,g2,g3⟩:=hst.st.new (.map #[] 0) (.obj (MapO P k fun _=>none)) hz
 obtain ⟨f',hs',h4⟩:=ae0 (kk w.heap.size).h hsp
 exact ⟨_,_,g2,(hst.mv g2 g1).put (.v _) o.dst,hk _ _ _ h4 hs'⟩
theorem mv_perm {w w':World} {s:aa1} (hp:σ.Perm τ) (h:Mv w τ w' s):Mv w σ w' s:=h.wider (fun b hb=>(al5 hp b hb))
theorem OtE.obj {o:Oper} {K:Frm→aa1→Prop} {ok:Obj→Prop} (hn:ai4 o.op=true) (hb:σ.Perm ((b,Blk.obj ok) :: τ))
  (h:∀ (w:World) (fr:Act) (X:Nat→Prop) (ob:Obj),(∀ x,Rd w (Own σ X) (evF f x) (fr.eval x))→w.heap[b]?=some ob→ok ob →
   ∃ (d:D) (u:Value) (ok':Obj→Prop) (w':World) (ob':Obj),((execOp fr.eval o).run P w = .ok (.value u) w'∨((execOp fr.eval o).run P w = .ok .skip w'∧u=undef∧d = .v undef))∧(∀ w O,Rd w O d u)∧Keep (fun x=>x=b) w w'∧w'.heap[b]?=some ob'∧ok' ob'∧putK N o.dst d f (fun f'=>K f' ((b,.obj ok') :: τ))):OtE P r n df L N o f σ K:=by
 refine ⟨fun rest Q a hsp hw hk=>?_⟩
 refine ag9 hw hn fun w X fr hst=>?_
 have hst':=hst.perm hb
 obtain ⟨ob,q1,q2⟩:=own_obj hst'.st (List.mem_cons_self)
 obtain ⟨d,u,ok',w',ob',h1,h2,h3,h5,h6,h7⟩:=h w fr X ob (fun x=>hsp.le x _ _ _ (hst.fr.eval x)) q1 q2
 obtain ⟨g1,g2,g3,g4⟩:=hst'.st.upd (i:=0) (k':=.obj ok') rfl h3 h5 h6
 obtain ⟨f',hs',h8⟩:=ae0 h7 hsp
 have hst2:=(hst'.mv g2 g1).put (h2 w' _) o.dst
 rcases h1 with h1|⟨h1,rfl,rfl⟩
 ·rw [h1]
  exact ⟨d,_,mv_perm hb g2,hst2,hk _ _ _ h8 hs'⟩
 ·rw [h1]
  exact ⟨_,mv_perm hb g2,hst2,hk _ _ _ h8 hs'⟩
theorem OtE.mapUpdate {o:Oper} {m key x:Operand} {xv:Value} {K:Frm→aa1→Prop} (ho:o.op = .mapUpdate t m key x) (hm:evF f m = .v (.map (some b))) (hd:KeyD (evF f key) kv) (hx:evF f x = .v xv) (hb:σ.Perm ((b,Blk.obj (MapO P k F)) :: τ))
  (KK:Keyed P k) (ht:P.underlying t=some (.map k e)) (hkey:keyOf P k kv=some kl) (kk:W (putK N o.dst (.v undef) f (fun f'=>K f' ((b,.obj (MapO P k (updF F kv xv))) :: τ)))):OtE P r n df L N o f σ K:=by
 refine OtE.obj (by rw [ho];rfl) hb fun w fr X ob hη hob hok=>?_
 obtain ⟨es,c,nn,rfl,q3⟩:=hok
 obtain ⟨w',h1,⟨es',c',h2,h3⟩,h4⟩:=MapIs.update (v:=xv) (n:=nn) ⟨es,c,hob,q3⟩ KK ht hkey
 refine ⟨.v undef,undef,MapO P k (updF F kv xv),w',_,.inr ⟨?_,rfl,rfl⟩,fun _ _=>.v _,h4,h2,⟨es',c',_,rfl,h3⟩,kk.h⟩
 have p1:=(hη m).val hm
 have p2:=hd _ _ _ (hη key)
 have p3:=(hη x).val hx
 simp only [execOp,ho,p1,p2,p3]
 show (do let _ ← Instr.mapUpdate t (.map (some b)) kv xv;pure Next.skip).run P w=_
 simp only [Sem.run_bind,h1,Result.andThen,Sem.run_pure]
theorem OtE.mapEntry {o:Oper} {m key:Operand} {K:Frm→aa1→Prop} {ok:Obj→Prop} (ho:o.op = .mapEntry t m key) (hm:evF f m = .v (.map (some b))) (hd:KeyD (evF f key) kv) (hb:σ.Perm ((b,Blk.obj ok) :: τ)) (hok:∀ o,ok o→MapO P k F o)
  (KK:Keyed P k) (ht:P.underlying t=some (.map k e)) (hz:∀ w,(zeroValue e).run P w = .ok z w) (hkey:keyOf P k kv=some kl) (kk:∀ st,W (putK N o.dst (.tup [.v ((F kv).getD z),.v st]) f (fun f'=>K f' ((b,.obj (MapS P k (updF F kv ((F kv).getD z)) kv st)) :: τ)))):OtE P r n df L N o f σ K:=by
 refine OtE.obj (by rw [ho];rfl) hb fun w fr X ob hη hob hok'=>?_
 obtain ⟨es,c,nn,rfl,E⟩:=hok _ hok'
 have p1:=(hη m).val hm
 have p2:=hd _ _ _ (hη key)
 have tup:∀ (x y:Value) w O,Rd w O (.tup [.v x,.v y]) (.tuple #[x,y]):=fun x y w O=>by
  have h5:=RdL.cons (w:=w) (O:=O) (Rd.v x) (RdL.cons (Rd.v y) RdL.nil)
  exact Rd.tup [.v x,.v y] _ h5.len h5.at_
 rcases E.look KK hkey w with ⟨h1,h0,h2⟩|⟨j,e0,h1,h2,h3,h0⟩
 ·refine ⟨.tup [.v z,.v (goInt c)],.tuple #[z,goInt c],MapS P k (updF F kv z) kv (goInt c),setBlock w b (.map (es.push ⟨kv,z,c⟩) (c+1)),_,.inl ?_,fun w O=>tup _ _ w O,Keep.setBlock hob,heap_setBlock_same hob _,⟨_,_,nn+1,rfl,E.push hkey h2,⟨kv,z,c⟩,by simp,rfl,rfl⟩,?_⟩
  ·simp only [execOp,ho,p1,p2]
   show (do let v ← Instr.mapEntry t (.map (some b)) kv;pure (Next.value v)).run P w=_
   simp [Instr.mapEntry,run_underlying ht,MapKept.run_getObj_map hob,KK.check w false hkey,h1,hz,MapKept.run_setObj_map _ hob,Result.andThen,setBlock]
  ·have:=(kk (goInt c)).h
   rw [h0] at this
   exact this
 ·have hj:es[j]?=some e0:=by simpa using h2
  have E':=E.modify (v:=e0.val) hkey h2 h3 (fun e=>{ e with key:=kv }) (fun _=>rfl) rfl rfl
  refine ⟨.tup [.v e0.val,.v (goInt e0.born)],.tuple #[e0.val,goInt e0.born],MapS P k (updF F kv e0.val) kv (goInt e0.born),setBlock w b (.map (es.modify j fun e=>{ e with key:=kv }) c),_,.inl ?_,fun w O=>tup _ _ w O,Keep.setBlock hob,heap_setBlock_same hob _,⟨_,_,nn,rfl,E',{ e0 with key:=kv },?_,rfl,rfl⟩,?_⟩
  ·simp only [execOp,ho,p1,p2]
   show (do let v ← Instr.mapEntry t (.map (some b)) kv;pure (Next.value v)).run P w=_
   simp [Instr.mapEntry,run_underlying ht,MapKept.run_getObj_map hob,KK.check w false hkey,h1,hj,h3,KK.stays w hkey,MapKept.run_setObj_map _ hob,Result.andThen,setBlock]
  ·rw [Array.toList_modify,modify_eq_set _ _ _ _ h2]
   exact List.mem_set (List.getElem?_eq_some_iff.1 h2).1 _
  ·have:=(kk (goInt e0.born)).h
   rw [h0] at this
   exact this
theorem born_idx {es:Array MapEntry} {c nn:Nat} (E:Ents P k es c nn F) {e0:MapEntry} {j:Nat} (h:es.toList[j]?=some e0):es.findIdx? (fun e=>((e.born:Nat):Int) == ((e0.born:Nat):Int))=some j:=by
 rw [WideElems.findIdx_arr]
 exact WideElems.findIdx_born ((stamped_iff es c).1 E.stamped).2.1 h
theorem OtE.entryStore {o:Oper} {m st x:Operand} {xv sv:Value} {K:Frm→aa1→Prop} (ho:o.op = .entryStore t m st x) (hm:evF f m = .v (.map (some b))) (hs:evF f st = .v sv) (hx:evF f x = .v xv) (hb:σ.Perm ((b,Blk.obj (MapS P k F kv sv)) :: τ))
  (hkey:keyOf P k kv=some kl) (kk:W (putK N o.dst (.v undef) f (fun f'=>K f' ((b,.obj (MapO P k (updF F kv xv))) :: τ)))):OtE P r n df L N o f σ K:=by
 refine OtE.obj (by rw [ho];rfl) hb fun w fr X ob hη hob hok=>?_
 obtain ⟨es,c,nn,rfl,E,e0,he0,h3,rfl⟩:=hok
 obtain ⟨j,h2⟩:=List.getElem?_of_mem he0
 have E':=E.modify (v:=xv) hkey h2 h3 (fun e=>{ e with val:=xv }) (fun _=>rfl) h3 rfl
 refine ⟨.v undef,undef,MapO P k (updF F kv xv),setBlock w b (.map (es.modify j fun e=>{ e with val:=xv }) c),_,.inr ⟨?_,rfl,rfl⟩,fun _ _=>.v _,Keep.setBlock hob,heap_setBlock_same hob _,⟨_,_,nn,rfl,E'⟩,kk.h⟩
 have p1:=(hη m).val hm
 have p2:=(hη st).val hs
 have p3:=(hη x).val hx
 simp only [execOp,ho,p1,p2,p3]
 show (do let _ ← Instr.entryStore t (.map (some b)) (goInt e0.born) xv;pure Next.skip).run P w=_
 simp [Instr.entryStore,MapKept.run_getObj_map hob,asInt,asIntOf,goInt,born_idx E h2,MapKept.run_setObj_map _ hob,Result.andThen,setBlock]
end
end
section
open Go Go.RowKit Go.Shelf
section
variable {P:Program} {r:Option Nat} {n:Nat} {df:Nat} {N:Nat} {σ:aa1} {f:Frm} {L:List Oper} {T:TypeId→Option TI} {Q:Fst}
theorem ak2 {ρ:Operand→D} {k t e:TypeId} {F:Value→Option Value} {b:Nat} {kv z u:Value} {kl:Lit} {o:Oper} {m key:Operand} {ok:Obj→Prop} (ho:o.op = .lookup t m key false) (hm:ρ m = .v (.map (some b))) (hd:KeyD (ρ key) kv) (hb:(b,Blk.obj ok)∈σ) (hok:∀ o,ok o→MapO P k F o)
  (K:Maps.Keyed P k) (ht:P.underlying t=some (.map k e)) (hz:∀ w,(zeroValue e).run P w = .ok z w) (hkey:keyOf P k kv=some kl) (hv:(F kv).getD z=u):Yd P o ρ σ (.v u):=by
 subst hv;exact yd_lookup ho hm hd hb hok K ht hz hkey
theorem OtE.mapEntry2 {τ:aa1} {k t e:TypeId} {F:Value→Option Value} {b:Nat} {kv z u:Value} {kl:Lit} {o:Oper} {m key:Operand} {K:Frm→aa1→Prop} {ok:Obj→Prop} (ho:o.op = .mapEntry t m key) (hm:evF f m = .v (.map (some b))) (hd:KeyD (evF f key) kv) (hb:σ.Perm ((b,Blk.obj ok) :: τ)) (hok:∀ o,ok o→MapO P k F o)
  (KK:Maps.Keyed P k) (ht:P.underlying t=some (.map k e)) (hz:∀ w,(zeroValue e).run P w = .ok z w) (hkey:keyOf P k kv=some kl) (hv:(F kv).getD z=u) (kk:∀ st,W (putK N o.dst (.tup [.v u,.v st]) f (fun f'=>K f' ((b,.obj (MapS P k (updF F kv u) kv st)) :: τ)))):OtE P r n df L N o f σ K:=by
 subst hv;exact OtE.mapEntry ho hm hd hb hok KK ht hz hkey kk
theorem updF_at (F:Value→Option Value) (kv u z:Value):(updF F kv u kv).getD z=u:=by simp [updF]
def loE (hs:List Nat) (i:Nat):Bool:=!hs.any (Nat.beq i)
theorem an4 {ops:Array Oper} {E:Nat→Bool} {L L':List D→aa1→Prop} (h:∀ a σ,L a σ→L' a σ):∀ {t:Ord} {a:List D} {σ:aa1},gOrd P r n df ops E L t a σ→gOrd P r n df ops E L' t a σ
 | .done,_,_,hh=>h _ _ hh
 | .one _ _,_,_,hh=>ac7 (fun _ _=>an4 h) hh
 | .two _ _ _ _,_,_,hh=>⟨ac7 (fun _ _=>an4 h) hh.1,ac7 (fun _ _=>an4 h) hh.2⟩
 | .three _ _ _ _ _ _,_,_,hh=>⟨ac7 (fun _ _=>an4 h) hh.1,ac7 (fun _ _=>an4 h) hh.2.1,ac7 (fun _ _=>an4 h) hh.2.2⟩
theorem aA1 (hm:P.follows .mixedOrders=true) (hT:∀ t i,T t=some i→tiOf P t=some i) {id:Nat} {O:Array Oper} (hO:O=L.toArray) (hs:List Nat) (fu:Nat) (t:Ord) {γ:Type} (ps:γ→Frm) (S:γ→aa1) (I:γ→Prop)
  (hB:(Nat.beq (hs.length+fu) L.length && mixOB .any L.toArray (loE hs) fu t hs (Array.replicate L.length false) && aq1 (loE hs) t)=true)
  (h:W (exHs P T N L (loE hs) σ hs (fun f1=>bb1 P T r n df N L (fun f' σ'=>∃ g,chkF f' (aq5 (.region id O true) f (ps g))∧S g=σ'∧I g) t f1 σ) f))
  (kk:∀ g,I g→W (aC6 (aq5 (.region id O true) f (ps g)) fun F=>Q .normal F (S g))):Lp P r n df N (.region id O true) Q f σ:=by
 subst hO
 simp only [Bool.and_eq_true] at hB
 refine ⟨fun a hs'=>?_⟩
 refine av6 (aA8 (Q:=fun e a' σ'=>e = .normal∧∃ f',Sp N a' f'∧∃ g,chkF f' (aq5 (.region id L.toArray true) f (ps g))∧S g=σ'∧I g) (loE hs) hs fu t hm (Nat.eq_of_beq_eq_true hB.1.1) hB.1.2 (ax7 (fun a' σ' h'=>?_) (aA6 hT h.h hs'))) ?_
 ·obtain ⟨rfl,f',h1,h2⟩:=h'
  have:=av3 hT hB.2 h2 h1
  exact an4 (fun a σ h=>⟨rfl,h⟩) this
 ·rintro e a' σ' ⟨rfl,f',h1,g,h2,rfl,h3⟩
  exact ⟨_,h1.sub h2,an5 (kk g h3).h⟩
end
end
section
open Go Go.RowKit Go.Shelf
section
variable {P:Program} {r:Option Nat} {n:Nat} {df:Nat} {N:Nat} {σ:aa1} {f:Frm} {L:List Oper} {T:TypeId→Option TI} {Q:Fst}
theorem ay9 (hm:P.follows .mixedOrders=true) (hT:∀ t i,T t=some i→tiOf P t=some i) {c:Code} (h:W (ar6 P T r n df N c Q f σ)):Lp P r n df N c Q f σ:=⟨fun a hs=>ar0 hm hT h.h hs⟩
theorem lp_perm {c:Code} {τ:aa1} (hp:σ.Perm τ) (k:Lp P r n df N c Q f τ):Lp P r n df N c Q f σ:=⟨fun a hs=>aM4 (fun w X fr h=>h.perm hp) (fun x hx=>al5 hp x hx) (k.run a hs)⟩
theorem bg8 {c:Code} {τ:aa1} {i:Nat} {d d':D} (hl:ao1 f i=some d) (hd:d ≠ .any) (h:Vs σ d τ d') (k:Lp P r n df N c Q ((i,d') :: f) τ):Lp P r n df N c Q f σ:=by
 refine ⟨fun a hs=>?_⟩
 have hai:a[i]?=some d:=by
  rcases hs.at_ i d hl with h1|h1
  ·exact absurd h1 hd
  ·exact h1
 have hil:=(List.getElem?_eq_some_iff.1 hai).1
 refine aM4 (b:=a.set i d') (τ:=τ) (fun w X fr hst=>?_) h.sub (k.run (a.set i d') ⟨by rw [List.length_set];exact hs.len,fun j e hj=>?_⟩)
 ·obtain ⟨u,hu,hr⟩:=hst.fr.at_ i d hai
  obtain ⟨g1,g2⟩:=h.run w X u hst.st hr
  refine ⟨⟨by rw [List.length_set];exact hst.fr.size,fun j e hj=>?_⟩,g1,hst.df.keep (Nat.le_refl _) (fun x _ hn ho=>hn (ho.imp id (h.sub x))) (fun _ _ _=>rfl)⟩
  by_cases e1:i=j
  ·subst e1
   rw [List.getElem?_set_self hil] at hj
   cases hj
   exact ⟨u,hu,g2⟩
  ·rw [List.getElem?_set_ne e1] at hj
   obtain ⟨v,k1,k2⟩:=hst.fr.at_ j e hj
   exact ⟨v,k1,ak5 k2 h.sub⟩
 ·simp only [ao1] at hj
  cases he:Nat.beq i j with
  | true=>
   rw [he] at hj
   have:=Nat.eq_of_beq_eq_true he
   subst this
   simp only [cond_true,Option.some.injEq] at hj
   subst hj
   exact .inr (List.getElem?_set_self hil)
  | false=>
   rw [he] at hj
   have hne:i≠j:=fun e=>by subst e;simp at he
   rcases hs.at_ j e hj with h1|h1
   ·exact .inl h1
   ·exact .inr (by rw [List.getElem?_set_ne hne];exact h1)
theorem OtE.box {o:Oper} {t:TypeId} {x:Operand} {cs:List D} {K:Frm→aa1→Prop} (ho:o.op = .box t x) (hx:evF f x = .agg cs) (kk:∀ b,W (putK N o.dst (.v (.pointer (some ⟨b,0,none⟩))) f (fun f'=>K f' ((b,.cells t cs) :: σ)))):OtE P r n df L N o f σ K:=by
 refine ⟨fun rest Q a hsp hw hk=>?_⟩
 refine ag9 hw (by rw [ho];rfl) fun w X fr hst=>?_
 have h1:=hsp.le x _ _ _ (hst.fr.eval x)
 rw [hx] at h1
 obtain ⟨vs,hv,hvs⟩:=h1.agg_inv
 have e0:(execOp fr.eval o).run P w = .ok (.value (.pointer (some ⟨w.heap.size,0,none⟩))) (w.alloc (.cells vs.toArray t)):=by
  simp only [execOp,ho,hv]
  rfl
 rw [e0]
 obtain ⟨g1,g2,g3⟩:=hst.st.new (.cells vs.toArray t) (.cells t cs) ⟨vs,rfl,hvs⟩
 obtain ⟨f',hs',h4⟩:=ae0 (kk w.heap.size).h hsp
 exact ⟨_,_,g2,(hst.mv g2 g1).put (.v _) o.dst,hk _ _ _ h4 hs'⟩
/-! ### What lies in a new slice is written no more -/
def Vd (σ τ:aa1) (d d':D):Prop:=∀ (w:World) (X:Nat→Prop) (u:Value),StOK w X σ→Rd w (Own σ X) d u→Rd w (Own τ X) d' u
theorem Vd.same {σ τ:aa1} (hs:∀ b,b∈ab2 τ→b∈ab2 σ) (d:D):Vd σ τ d d:=fun _ _ _ _ h=>ak5 h hs
theorem Vd.vs {σ τ:aa1} {d d':D} (h:Vs σ d τ d'):Vd σ τ d d':=fun w X u hs hr=>(h.run w X u hs hr).2
inductive Vd2 (σ τ:aa1):List D→List D→Prop
 | nil:Vd2 σ τ [] []
 | cons {d d':D} {l l':List D} (h:Vd σ τ d d') (k:Vd2 σ τ l l'):Vd2 σ τ (d :: l) (d' :: l')
inductive Vd3 (σ τ:aa1):List (List D)→List (List D)→Prop
 | nil:Vd3 σ τ [] []
 | cons {d d':List D} {l l':List (List D)} (h:Vd2 σ τ d d') (k:Vd3 σ τ l l'):Vd3 σ τ (d :: l) (d' :: l')
theorem Vd2.len {σ τ:aa1} {l l':List D} (h:Vd2 σ τ l l'):l'.length=l.length:=by induction h with|nil=>rfl|cons _ _ ih=>simp [ih]
theorem Vd3.len {σ τ:aa1} {l l':List (List D)} (h:Vd3 σ τ l l'):l'.length=l.length:=by induction h with|nil=>rfl|cons _ _ ih=>simp [ih]
theorem Vd2.same {σ τ:aa1} (hs:∀ b,b∈ab2 τ→b∈ab2 σ):∀ l:List D,Vd2 σ τ l l
 | []=>.nil
 | d :: l=>.cons (Vd.same hs d) (Vd2.same hs l)
theorem Vd3.same {σ τ:aa1} (hs:∀ b,b∈ab2 τ→b∈ab2 σ):∀ l:List (List D),Vd3 σ τ l l
 | []=>.nil
 | d :: l=>.cons (Vd2.same hs d) (Vd3.same hs l)
theorem Vd2.at_ {σ τ:aa1} {l l':List D} (h:Vd2 σ τ l l'):∀ {j:Nat} {d':D},l'[j]?=some d'→∃ d,l[j]?=some d∧Vd σ τ d d':=by
 induction h with
 | nil=>intro j d' h;simp at h
 | cons h k ih=>
  intro j d' hj
  cases j with
  | zero=>simp at hj;subst hj;exact ⟨_,rfl,h⟩
  | succ j=>simp at hj;obtain ⟨d,h1,h2⟩:=ih hj;exact ⟨d,by simpa using h1,h2⟩
theorem Vd3.at_ {σ τ:aa1} {l l':List (List D)} (h:Vd3 σ τ l l'):∀ {j:Nat} {d':List D},l'[j]?=some d'→∃ d,l[j]?=some d∧Vd2 σ τ d d':=by
 induction h with
 | nil=>intro j d' h;simp at h
 | cons h k ih=>
  intro j d' hj
  cases j with
  | zero=>simp at hj;subst hj;exact ⟨_,rfl,h⟩
  | succ j=>simp at hj;obtain ⟨d,h1,h2⟩:=ih hj;exact ⟨d,by simpa using h1,h2⟩
theorem Vd.sl {σ τ:aa1} (hs:∀ b,b∈ab2 τ→b∈ab2 σ) {k:Nat} {xs xs':List (List D)} (h:Vd3 σ τ xs xs'):Vd σ τ (.sl k xs) (.sl k xs'):=by
 intro w X u hst hr
 obtain ⟨a,cap,f,e1,hcap,hk,hc,hrr⟩:=hr.sl_inv
 rw [e1,← h.len]
 refine .sl k _ a cap f (by rw [h.len];exact hcap) (fun y hy=>?_) (fun i y hy=>?_) (fun i y hy j d hd=>?_)
 ·obtain ⟨i,hi⟩:=List.getElem?_of_mem hy
  obtain ⟨z,h1,h2⟩:=h.at_ hi
  rw [h2.len];exact hk z (List.mem_of_getElem? h1)
 ·obtain ⟨z,h1,h2⟩:=h.at_ hy
  obtain ⟨b,off,q1,q2,q3,q4⟩:=hc i z h1
  exact ⟨b,off,q1,fun ho=>q2 (ho.imp id (hs b)),q3,q4⟩
 ·obtain ⟨z,h1,h2⟩:=h.at_ hy
  obtain ⟨d0,h3,h4⟩:=h2.at_ hd
  exact h4 w X _ hst (hrr i z h1 j d0 h3)
theorem Vd.agg {σ τ:aa1} {l l':List D} (h:Vd2 σ τ l l'):Vd σ τ (.agg l) (.agg l'):=by
 intro w X u hst hr
 obtain ⟨vs,rfl,hv⟩:=hr.agg_inv
 refine .agg _ _ (by rw [h.len];exact hv.len) (fun j d u hd hu=>?_)
 obtain ⟨d0,h1,h2⟩:=h.at_ hd
 exact h2 w X u hst (hv.at_ j d0 u h1 hu)
theorem Vd.tup {σ τ:aa1} {l l':List D} (h:Vd2 σ τ l l'):Vd σ τ (.tup l) (.tup l'):=by
 intro w X u hst hr
 obtain ⟨vs,rfl,hv⟩:=hr.tup_inv
 refine .tup _ _ (by rw [h.len];exact hv.len) (fun j d u hd hu=>?_)
 obtain ⟨d0,h1,h2⟩:=h.at_ hd
 exact h2 w X u hst (hv.at_ j d0 u h1 hu)
theorem Vs.vd {σ τ:aa1} {d d':D} (hp:∃ ρ,σ.Perm (ρ ++ τ)) (h:Vd σ τ d d'):Vs σ d τ d':=by
 obtain ⟨ρ,hp⟩:=hp
 exact ⟨fun w X u hs hr=>⟨(hs.perm hp).sub (List.sublist_append_right _ _),h w X u hs hr⟩,fun b hb=>al5 hp b (by rw [ab9];exact List.mem_append_right _ hb)⟩
end
end
section
open Go Go.RowKit Go.Shelf
inductive LeR:List (List D)→List (List D)→Prop
 | nil:LeR [] []
 | cons {x y:List D} {xs ys:List (List D)} (h:LeL x y) (t:LeR xs ys):LeR (x :: xs) (y :: ys)
theorem LeL.refl:∀ l:List D,LeL l l
 | []=>.nil
 | d :: l=>.cons (Le.refl d) (LeL.refl l)
theorem LeR.refl:∀ l:List (List D),LeR l l
 | []=>.nil
 | d :: l=>.cons (LeL.refl d) (LeR.refl l)
theorem LeR.append {a b c d:List (List D)} (h:LeR a b) (k:LeR c d):LeR (a ++ c) (b ++ d):=by
 induction h with
 | nil=>exact k
 | cons h _ ih=>exact .cons h ih
theorem LeR.len {a b:List (List D)} (h:LeR a b):b.length=a.length:=by induction h with|nil=>rfl|cons _ _ ih=>simp [ih]
theorem LeL.vd {σ τ:aa1} (hs:∀ b,b∈ab2 τ→b∈ab2 σ) {a b:List D} (h:LeL a b):Vd2 σ τ a b:=by
 induction h with
 | nil=>exact .nil
 | cons h _ ih=>exact .cons (fun w X u _ hr=>h _ _ _ (ak5 hr hs)) ih
theorem LeR.vd {σ τ:aa1} (hs:∀ b,b∈ab2 τ→b∈ab2 σ) {a b:List (List D)} (h:LeR a b):Vd3 σ τ a b:=by
 induction h with
 | nil=>exact .nil
 | cons h _ ih=>exact .cons (h.vd hs) ih
theorem le_sl {k:Nat} {xs ys:List (List D)} (h:LeR xs ys):Le (.sl k xs) (.sl k ys):=by
 intro w O u hr
 obtain ⟨a,cap,f,e1,hcap,hk,hc,hrr⟩:=hr.sl_inv
 have hv:Vd3 [] [] xs ys:=h.vd (fun _ h=>h)
 have at2:∀ {i:Nat} {y:List D},ys[i]?=some y→∃ z,xs[i]?=some z∧LeL z y:=by
  clear hv hrr hc hk hcap e1 hr
  induction h with
  | nil=>intro i y hy;simp at hy
  | cons h _ ih=>
   intro i y hy
   cases i with
   | zero=>simp at hy;subst hy;exact ⟨_,rfl,h⟩
   | succ i=>simp at hy;obtain ⟨z,h1,h2⟩:=ih hy;exact ⟨z,by simpa using h1,h2⟩
 have atL:∀ {z y:List D},LeL z y→z.length=y.length∧∀ {j:Nat} {d':D},y[j]?=some d'→∃ d,z[j]?=some d∧Le d d':=by
  intro z y hl
  induction hl with
  | nil=>exact ⟨rfl,fun h=>by simp at h⟩
  | cons h _ ih=>
   refine ⟨by simp [ih.1],fun {j d'} hj=>?_⟩
   cases j with
   | zero=>simp at hj;subst hj;exact ⟨_,rfl,h⟩
   | succ j=>simp at hj;obtain ⟨d,h1,h2⟩:=ih.2 hj;exact ⟨d,by simpa using h1,h2⟩
 rw [e1,← h.len]
 refine .sl k _ a cap f (by rw [h.len];exact hcap) (fun y hy=>?_) (fun i y hy=>?_) (fun i y hy j d hd=>?_)
 ·obtain ⟨i,hi⟩:=List.getElem?_of_mem hy
  obtain ⟨z,h1,h2⟩:=at2 hi
  rw [← (atL h2).1];exact hk z (List.mem_of_getElem? h1)
 ·obtain ⟨z,h1,h2⟩:=at2 hy
  obtain ⟨b,off,q1,q2,q3,q4⟩:=hc i z h1
  exact ⟨b,off,q1,q2,q3,q4⟩
 ·obtain ⟨z,h1,h2⟩:=at2 hy
  obtain ⟨d0,h3,h4⟩:=(atL h2).2 hd
  exact h4 _ _ _ (hrr i z h1 j d0 h3)
theorem Pk.rowLe {σ τ:aa1} {e:TypeId} {k:Nat} {rs xs:List (List D)} {v:Value} {s:aa1} (h:RowIs e k rs v s) (hl:LeR rs xs) (hp:σ.Perm (s ++ τ)):Pk σ (.v v) (.sl k xs):=
 ⟨fun w X u hs hr=>by have:=hr.val rfl;subst this;exact le_sl hl _ _ _ (aJ7 h (hs.perm hp)).stable⟩
theorem Vd.rowLe {σ τ ρ:aa1} {e:TypeId} {k:Nat} {rs xs:List (List D)} {v:Value} {s:aa1} (h:RowIs e k rs v s) (hl:LeR rs xs) (hp:σ.Perm (s ++ ρ)) (hsub:∀ b,b∈ab2 τ→b∈ab2 ρ):Vd σ τ (.v v) (.sl k xs):=
 fun w X u hs hr=>le_sl hl _ _ _ (ak5 ((Vs.row h hp).run w X u hs hr).2 hsub)
structure Sc (σ τ:aa1):Prop where
 run:∀ (w:World) (X:Nat→Prop),StOK w X σ→StOK w X τ
 sub:∀ b,b∈ab2 τ→b∈ab2 σ
theorem Sc.trans {a b c:aa1} (h:Sc a b) (k:Sc b c):Sc a c:=⟨fun w X hs=>k.run w X (h.run w X hs),fun x hx=>h.sub x (k.sub x hx)⟩
theorem Sc.perm {a b:aa1} (h:a.Perm b):Sc a b:=⟨fun _ _ hs=>hs.perm h,fun x hx=>al5 h x hx⟩
theorem Sc.frz {b:Nat} {t e:TypeId} {cs:List D} {j k:Nat} {xs ys:List (List D)} {v:Value} {s τ:aa1} (hj:cs[j]?=some (.v v)) (h:RowIs e k xs v s) (hl:LeR xs ys):Sc ((b,.cells t cs) :: (s ++ τ)) ((b,.cells t (cs.set j (.sl k ys))) :: τ):=by
 have hsub:∀ x,x∈ab2 ((b,Blk.cells t (cs.set j (.sl k ys))) :: τ)→x∈ab2 ((b,Blk.cells t cs) :: (s ++ τ)):=fun x hx=>by
  simp only [ab2,List.map_cons,List.map_append,List.mem_cons,List.mem_append] at hx ⊢
  rcases hx with h|h
  ·exact .inl h
  ·exact .inr (.inr h)
 refine ⟨fun w X hs=>?_,hsub⟩
 have hO:∀ x,x<w.heap.size→¬ Own ((b,Blk.cells t cs) :: (s ++ τ)) X x→¬ Own ((b,Blk.cells t (cs.set j (.sl k ys))) :: τ) X x:=fun x _ hn ho=>hn (ho.imp id (hsub x))
 have hp:((b,Blk.cells t cs) :: (s ++ τ)).Perm (s ++ ((b,Blk.cells t cs) :: τ)):=List.perm_middle.symm
 have hrow:=aJ7 h (hs.perm hp)
 have hrow':Rd w (Own ((b,Blk.cells t (cs.set j (.sl k ys))) :: τ) X) (.sl k ys) v:=le_sl hl _ _ _ (by
  have e:Own ((b,Blk.cells t (cs.set j (.sl k ys))) :: τ) X=Own ((b,Blk.cells t cs) :: τ) X:=rfl
  rw [e];exact hrow)
 refine ⟨?_,fun x kk hm=>?_,hs.xlt,hs.gok.mono (fun x ho=>ho.imp id (hsub x))⟩
 ·have hnd:=hs.nodup
  simp only [ab2,List.map_cons,List.map_append,List.nodup_cons,List.mem_append,List.nodup_append] at hnd ⊢
  exact ⟨fun h=>hnd.1 (.inr h),hnd.2.2.1⟩
 ·rcases List.mem_cons.1 hm with e1|hm
  ·cases e1
   obtain ⟨h1,o,h2,vs,rfl,h3⟩:=hs.at_ b _ List.mem_cons_self
   refine ⟨h1,_,h2,vs,rfl,⟨by rw [List.length_set];exact h3.len,fun i d u hi hu=>?_⟩⟩
   by_cases e2:j=i
   ·subst e2
    rw [List.getElem?_set_self (List.getElem?_eq_some_iff.1 hj).1] at hi
    cases hi
    have:=(h3.at_ j _ u hj hu).val rfl
    rw [this];exact hrow'
   ·rw [List.getElem?_set_ne e2] at hi
    exact ak5 (h3.at_ i d u hi hu) hsub
  ·obtain ⟨h1,o,h2,h3⟩:=hs.at_ x kk (List.mem_cons_of_mem _ (List.mem_append_right _ hm))
   exact ⟨h1,o,h2,Blk.ok_keep (Nat.le_refl _) hO (fun _ _ _=>rfl) h3⟩
section
variable {P:Program} {r:Option Nat} {n:Nat} {df:Nat} {N:Nat} {σ:aa1} {f:Frm} {Q:Fst}
theorem aC3 {c:Code} {τ:aa1} (hp:Sc σ τ) (k:Lp P r n df N c Q f τ):Lp P r n df N c Q f σ:=
 ⟨fun a hs=>aM4 (fun w X fr h=>⟨h.fr.keep (Nat.le_refl _) (fun x _ hn ho=>hn (ho.imp id (hp.sub x))) (fun _ _ _=>rfl),hp.run w X h.st,h.df.keep (Nat.le_refl _) (fun x _ hn ho=>hn (ho.imp id (hp.sub x))) (fun _ _ _=>rfl)⟩) hp.sub (k.run a hs)⟩
theorem Sc.refl (σ:aa1):Sc σ σ:=⟨fun _ _ h=>h,fun _ h=>h⟩
theorem Sc.drop {τ ρ:aa1} (h:σ.Perm (τ ++ ρ)):Sc σ τ:=⟨fun _ _ hs=>(hs.perm h).sub (List.sublist_append_left _ _),fun x hx=>al5 h x (by rw [ab9];exact List.mem_append_left _ hx)⟩
theorem Sc.sl {τ:aa1} (h:τ.Sublist σ):Sc σ τ:=⟨fun _ _ hs=>hs.sub h,fun _ hx=>(h.map Prod.fst).subset hx⟩
theorem aH3 {c:Code} {a:List D} {Q1 Q2:Pst} (h:AWP P r n df c Q1 a σ) (k:∀ e a' σ',Q1 e a' σ'→∃ τ,Sc σ' τ∧Q2 e a' τ):AWP P r n df c Q2 a σ:=
 ⟨fun w X fr hs=>wpIn_mono (h.run w X fr hs) fun e fr' w' ⟨a',s',h1,h2,h3⟩=>by
  obtain ⟨τ,q1,q2⟩:=k e a' s' h1
  exact ⟨a',τ,q2,⟨h2.fr.keep (Nat.le_refl _) (fun x _ hn ho=>hn (ho.imp id (q1.sub x))) (fun _ _ _=>rfl),q1.run w' X h2.st,h2.df.keep (Nat.le_refl _) (fun x _ hn ho=>hn (ho.imp id (q1.sub x))) (fun _ _ _=>rfl)⟩,h3.fewer q1.sub⟩⟩
variable {T:TypeId→Option TI} {L:List Oper}
theorem ba0 (hm:P.follows .mixedOrders=true) (hT:∀ t i,T t=some i→tiOf P t=some i) {id:Nat} {O:Array Oper} (hO:O=L.toArray) (hs:List Nat) (fu:Nat) (t:Ord) {γ:Type} (ps:γ→Frm) (S:γ→aa1) (I:γ→Prop)
  (hB:(Nat.beq (hs.length+fu) L.length && mixOB .any L.toArray (loE hs) fu t hs (Array.replicate L.length false) && aq1 (loE hs) t)=true)
  (h:W (exHs P T N L (loE hs) σ hs (fun f1=>bb1 P T r n df N L (fun f' σ'=>∃ g,chkF f' (aq5 (.region id O true) f (ps g))∧Sc σ' (S g)∧I g) t f1 σ) f))
  (kk:∀ g,I g→W (aC6 (aq5 (.region id O true) f (ps g)) fun F=>Q .normal F (S g))):Lp P r n df N (.region id O true) Q f σ:=by
 subst hO
 simp only [Bool.and_eq_true] at hB
 refine ⟨fun a hs'=>?_⟩
 refine aH3 (aA8 (Q:=fun e a' σ'=>e = .normal∧∃ f',Sp N a' f'∧∃ g,chkF f' (aq5 (.region id L.toArray true) f (ps g))∧Sc σ' (S g)∧I g) (loE hs) hs fu t hm (Nat.eq_of_beq_eq_true hB.1.1) hB.1.2 (ax7 (fun a' σ' h'=>?_) (aA6 hT h.h hs'))) ?_
 ·obtain ⟨rfl,f',h1,h2⟩:=h'
  have:=av3 hT hB.2 h2 h1
  exact an4 (fun a σ h=>⟨rfl,h⟩) this
 ·rintro e a' σ' ⟨rfl,f',h1,g,h2,h4,h3⟩
  exact ⟨S g,h4,_,h1.sub h2,an5 (kk g h3).h⟩
def joinS {γ:Type} (F:γ→Frm) (S:γ→aa1) (I:γ→Prop) (Q:Fst):Fst
 | .normal,f',σ'=>∃ g,chkF f' (F g)∧Sc σ' (S g)∧I g
 | e,f',σ'=>Q e f' σ'
theorem aw1 (hm:P.follows .mixedOrders=true) (hT:∀ t i,T t=some i→tiOf P t=some i) {c:Code} {γ:Type} (ps:γ→Frm) (S:γ→aa1) (I:γ→Prop)
  (h:W (ar6 P T r n df N c (joinS (fun g=>aq5 c f (ps g)) S I Q) f σ))
  (kk:∀ g,I g→W (aC6 (aq5 c f (ps g)) fun F=>Q .normal F (S g))):Lp P r n df N c Q f σ:=by
 refine ⟨fun a hs=>aH3 (ar0 hm hT h.h hs) ?_⟩
 rintro e a' σ' ⟨f',h1,h2⟩
 cases e with
 | normal=>
  obtain ⟨g,h3,h5,h4⟩:=h2
  exact ⟨S g,h5,_,h1.sub h3,an5 (kk g h4).h⟩
 | _=>exact ⟨σ',Sc.refl _,f',h1,h2⟩
theorem ay8 (hm:P.follows .mixedOrders=true) (hT:∀ t i,T t=some i→tiOf P t=some i) {c:Code} {γ:Type} (ps:γ→Frm) (S:γ→aa1) (I:γ→Prop) (μ:γ→Nat) (g₀:γ)
  (h1:chkF f (aq5 c f (ps g₀))) (h2:Sc σ (S g₀)) (h3:I g₀)
  (h4:∀ g,I g→W (aC6 (aq5 c f (ps g)) fun F=>ar6 P T r n df N c (thenF (fun f' σ'=>∃ g',chkF f' (aq5 c f (ps g'))∧Sc σ' (S g')∧I g'∧μ g' < μ g) Q) F (S g))) :
  Lp P r n df N (.loop c) Q f σ:=by
 refine aC3 h2 ⟨fun a hs=>?_⟩
 refine bb9 (fun m a σ=>∃ g,μ g=m∧I g∧Sp N a (aq5 c f (ps g))∧σ=S g) (μ g₀) ⟨g₀,rfl,h3,hs.sub h1,rfl⟩ ?_
 rintro m a σ ⟨g,rfl,hI,hS,rfl⟩
 refine aH3 (ar0 hm hT (an5 (h4 g hI).h) hS) ?_
 rintro e a' σ' ⟨f',hs',h'⟩
 cases e with
 | normal=>obtain ⟨g',k1,k2,k3,k4⟩:=h';exact ⟨S g',k2,μ g',k4,g',rfl,k3,hs'.sub k1,rfl⟩
 | _=>exact ⟨σ',Sc.refl _,f',hs',h'⟩
end
end
section
open Go Go.RowKit Go.Shelf
section
variable {P:Program} {r:Option Nat} {n:Nat} {df:Nat} {N:Nat} {σ:aa1} {a:List D} {f:Frm} {T:TypeId→Option TI} {L:List Oper} {Q:Fst}
def isBsl (o:Oper):Bool:=match o.op with
 | .buildSlice _ (_+1) _=>true
 | _=>false
def an7 (P:Program) (T:TypeId→Option TI) (r:Option Nat) (n:Nat) (df:Nat) (N:Nat) (L:List Oper) (k:Nat) (K:Frm→aa1→Prop) (f:Frm) (σ:aa1):Prop:=match L[k]? with
 | none=>False
 | some o=>match isBsl o with
  | false=>aC7 P T r n df N L k K f σ
  | true=>exG L (cutF (o.looksAt L.toArray) f) o fun go=>match go with
   | true=>OtE P r n df L N o (cutF (o.looksAt L.toArray) f) σ (fun f' σ'=>match o.dst with
    | none=>K f σ'
    | some i=>match ao1 f' i with
     | none=>False
     | some d=>bif Nat.blt i N then K ((i,d) :: f) σ' else False)
   | false=>False
theorem ah3 (hT:∀ t i,T t=some i→tiOf P t=some i) {E:Nat→Bool} {k:Nat} {K:Frm→aa1→Prop} {G:List D→aa1→Prop} (hE:E k=true) (h:an7 P T r n df N L k K f σ) (hs:Sp N a f)
  (hk:∀ f' σ' a',K f' σ'→Sp N a' f'→G a' σ'):gOp P r n df L.toArray E k G a σ:=by
 unfold an7 at h
 split at h
 ·exact h.elim
 ·rename_i o ho
  split at h
  ·exact aq9 hT hE h hs hk
  ·have ho':L.toArray[k]?=some o:=by simpa using ho
   unfold gOp
   rw [ho']
   simp only [hE]
   obtain ⟨go,hw,h1⟩:=aV1 h (hs.cut _)
   cases go with
   | false=>exact h1.elim
   | true=>
    refine h1.run [] _ _ (hs.cut _) hw (fun f' σ' a' h' hs'=>aops_nil ⟨rfl,by rw [hs'.len,hs.len],?_⟩)
    cases hd:o.dst with
    | none=>
     rw [hd] at h'
     exact ⟨.any,(fun i hi=>by cases hi),hk _ _ _ h' hs⟩
    | some i=>
     rw [hd] at h'
     simp only at h'
     split at h'
     ·exact h'.elim
     ·rename_i d hf'
      obtain ⟨hi,h2⟩:=af5 h'
      rw [Nat.blt_eq] at hi
      have hia:i<a'.length:=by rw [hs'.len];exact hi
      refine ⟨a'[i],fun j hj _=>by cases hj;exact List.getElem?_eq_getElem hia,hk _ _ _ h2 ?_⟩
      refine ⟨by simp [putD,hs.len],fun j d' hj=>?_⟩
      simp only [ao1] at hj
      cases he:Nat.beq i j with
      | true=>
       rw [he] at hj
       simp only [cond_true,Option.some.injEq] at hj
       have:=Nat.eq_of_beq_eq_true he
       subst this hj
       rcases hs'.at_ i _ hf' with h3|h3
       ·exact .inl h3
       ·right
        rw [List.getElem?_eq_getElem hia] at h3
        simp only [Option.some.injEq] at h3
        simp [putD,hs.len,hi,h3]
      | false=>
       rw [he] at hj
       have hne:i≠j:=fun e=>by subst e;simp at he
       rcases hs.at_ j d' hj with h1|h1
       ·exact .inl h1
       ·exact .inr (by simp [putD,List.getElem?_set,hne,h1])
def aK7 (P:Program) (T:TypeId→Option TI) (r:Option Nat) (n:Nat) (df:Nat) (N:Nat) (L:List Oper) (K:Frm→aa1→Prop):Ord→Frm→aa1→Prop
 | .done,f,σ=>K f σ
 | .one i t,f,σ=>an7 P T r n df N L i (aK7 P T r n df N L K t) f σ
 | .two i t j u,f,σ=>an7 P T r n df N L i (aK7 P T r n df N L K t) f σ∧an7 P T r n df N L j (aK7 P T r n df N L K u) f σ
 | .three i t j u k v,f,σ=>an7 P T r n df N L i (aK7 P T r n df N L K t) f σ∧an7 P T r n df N L j (aK7 P T r n df N L K u) f σ∧an7 P T r n df N L k (aK7 P T r n df N L K v) f σ
theorem au1 (hT:∀ t i,T t=some i→tiOf P t=some i) {E:Nat→Bool}:∀ {t:Ord} {K:Frm→aa1→Prop} {f:Frm} {σ:aa1} {a:List D},aq1 E t=true→aK7 P T r n df N L K t f σ→Sp N a f→gOrd P r n df L.toArray E (fun a' σ'=>∃ f',Sp N a' f'∧K f' σ') t a σ
 | .done,K,f,σ,a,hE,h,hs=>⟨f,hs,h⟩
 | .one i t,K,f,σ,a,hE,h,hs=>by
  simp only [aq1,Bool.and_eq_true] at hE
  exact ah3 hT hE.1 h hs (fun f' σ' a' h2 hs'=>au1 hT hE.2 h2 hs')
 | .two i t j u,K,f,σ,a,hE,h,hs=>by
  simp only [aq1,Bool.and_eq_true] at hE
  exact ⟨ah3 hT hE.1 h.1 hs (fun f' σ' a' h2 hs'=>au1 hT hE.2.1 h2 hs'),ah3 hT hE.2.2.1 h.2 hs (fun f' σ' a' h2 hs'=>au1 hT hE.2.2.2 h2 hs')⟩
 | .three i t j u k v,K,f,σ,a,hE,h,hs=>by
  simp only [aq1,Bool.and_eq_true] at hE
  exact ⟨ah3 hT hE.1 h.1 hs (fun f' σ' a' h2 hs'=>au1 hT hE.2.1 h2 hs'),ah3 hT hE.2.2.1 h.2.1 hs (fun f' σ' a' h2 hs'=>au1 hT hE.2.2.2.1 h2 hs'),ah3 hT hE.2.2.2.2.1 h.2.2 hs (fun f' σ' a' h2 hs'=>au1 hT hE.2.2.2.2.2 h2 hs')⟩
theorem lp_ordB (hm:P.follows .mixedOrders=true) (hT:∀ t i,T t=some i→tiOf P t=some i) {id:Nat} {O:Array Oper} (hO:O=L.toArray) (hs:List Nat) (fu:Nat) (t:Ord) {γ:Type} (ps:γ→Frm) (S:γ→aa1) (I:γ→Prop)
  (hB:(Nat.beq (hs.length+fu) L.length && mixOB .any L.toArray (loE hs) fu t hs (Array.replicate L.length false) && aq1 (loE hs) t)=true)
  (h:W (exHs P T N L (loE hs) σ hs (fun f1=>aK7 P T r n df N L (fun f' σ'=>∃ g,chkF f' (aq5 (.region id O true) f (ps g))∧Sc σ' (S g)∧I g) t f1 σ) f))
  (kk:∀ g,I g→W (aC6 (aq5 (.region id O true) f (ps g)) fun F=>Q .normal F (S g))):Lp P r n df N (.region id O true) Q f σ:=by
 subst hO
 simp only [Bool.and_eq_true] at hB
 refine ⟨fun a hs'=>?_⟩
 refine aH3 (aA8 (Q:=fun e a' σ'=>e = .normal∧∃ f',Sp N a' f'∧∃ g,chkF f' (aq5 (.region id L.toArray true) f (ps g))∧Sc σ' (S g)∧I g) (loE hs) hs fu t hm (Nat.eq_of_beq_eq_true hB.1.1) hB.1.2 (ax7 (fun a' σ' h'=>?_) (aA6 hT h.h hs'))) ?_
 ·obtain ⟨rfl,f',h1,h2⟩:=h'
  have:=au1 hT hB.2 h2 h1
  exact an4 (fun a σ h=>⟨rfl,h⟩) this
 ·rintro e a' σ' ⟨rfl,f',h1,g,h2,h4,h3⟩
  exact ⟨S g,h4,_,h1.sub h2,an5 (kk g h3).h⟩
theorem OtE.bsl (hT:∀ t i,T t=some i→tiOf P t=some i) {o:Oper} {t e:TypeId} {ps:Array (Nat × Operand)} {i j:TI} {ag:Bool} {k by_ m:Nat} {out:List D} {K:Frm→aa1→Prop} (ho:o.op = .buildSlice t m ps) (ht:T t=some i) (hs:i.sl=some (e,ag,k,by_)) (he:T e=some j) (hz:j.zero.length=j.size) (hk:j.size=k) (hp:Nat.blt 0 k=true)
  (hm:Nat.ble (m*k) 1000=true) (h:fillD (fun q=>some (q*k,k)) (aM6 j.zero k m) (ps.toList.map fun p=>(p.1,evF f p.2))=some out) (hl:(out.length == m*k)=true) (h0:m*k≠0)
  (kk:∀ b,W (putK N o.dst (.v (.slice (some ⟨b,0,none⟩) m m)) f (fun f'=>K f' ((b,.cells e out) :: σ)))):OtE P r n df L N o f σ K:=by
 refine ⟨fun rest Q a hsp hw hkk=>?_⟩
 refine ag9 hw (by rw [ho];rfl) fun w X fr hst=>?_
 obtain ⟨dst,op,ty,pos,aft,g⟩:=o
 simp only at ho
 subst ho
 have hη:∀ x,Rd w (Own σ X) (evF f x) (fr.eval x):=fun x=>hsp.le x _ _ _ (hst.fr.eval x)
 have hp':0<k:=by simpa [Nat.blt_eq] using hp
 have hm':m*k≤1000:=by simpa [Nat.ble_eq] using hm
 have hl':out.length=m*k:=by simpa using hl
 obtain ⟨hu,hsz,_⟩:=ai0 (hT t i ht) hs
 have hsz':=(ao5 hsz w).2
 obtain ⟨z,g1,g2⟩:=ay0 (hT e j he) hz (by omega) w
 have hzl:z.cells.size=k:=by have:=congrArg List.length g2;simpa [hz,hk] using this
 have hzr:RdL w (Own σ X) (aM6 j.zero k m) ((Array.range (m*k)).map (z.cells[· % z.cells.size]!)).toList:=by
  refine ⟨by simp [aM6],fun q d u h1 h2=>?_⟩
  have hq:q<m*k:=by simpa [aM6] using (List.getElem?_eq_some_iff.1 h1).1
  simp only [aM6,List.getElem?_map,List.getElem?_range hq,Option.map_some,Option.some.injEq] at h1
  simp [hq,hzl] at h2
  subst h1 h2
  have hmod:q % k<k:=Nat.mod_lt _ hp'
  have:z.cells[q % k]! = zv (j.zero.getD (q % k) .bool):=by
   have h3:z.cells.toList[q % k]?=(j.zero.map zv)[q % k]?:=by rw [g2]
   have h4:q % k<j.zero.length:=by omega
   simp [h4,hzl,hmod] at h3
   simp [hzl,hmod,h4]
   exact h3
  rw [this]
  exact .v _
 obtain ⟨arr,k1,k2⟩:=bb0 ps.toList fr.eval _ _ out (fun p hm=>hη p.2) hzr h
 have hrun:(Instr.buildSlice t m (ps.map fun p=>(p.1,fr.eval p.2))).run P w = .ok (.slice (some ⟨w.heap.size,0,none⟩) m m) (w.alloc (.cells arr e)):=by
  have h24:¬ m*k > 2 ^ 24:=by omega
  have h0':¬ (m=0∨k=0):=fun h=>h0 (Nat.mul_eq_zero.2 h)
  simp only [Instr.buildSlice,Sem.run_bind,run_underlying hu,hsz',Result.andThen,if_neg h24,if_neg h0',if_neg h0,g1,Sem.run_pure,Array.toList_map,k1,newRow,newObj,Sem.run]
  rfl
 have e0:(execOp fr.eval ⟨dst,.buildSlice t m ps,ty,pos,aft,g⟩).run P w = .ok (.value (.slice (some ⟨w.heap.size,0,none⟩) m m)) (w.alloc (.cells arr e)):=by
  have e:(execOp fr.eval ⟨dst,.buildSlice t m ps,ty,pos,aft,g⟩)=(do pure (Next.value (← Instr.buildSlice t m (ps.map fun p=>(p.1,fr.eval p.2)))):Sem Next):=by
   unfold execOp
   rfl
  rw [e]
  simp only [Sem.run_bind,hrun,Result.andThen,Sem.run_pure]
 rw [e0]
 obtain ⟨q1,q2,q3⟩:=hst.st.new (.cells arr e) (.cells e out) ⟨arr.toList,by rw [Array.toArray_toList],k2⟩
 obtain ⟨f',hs',h4⟩:=ae0 (kk w.heap.size).h hsp
 exact ⟨_,_,q2,(hst.mv q2 q1).put (.v _) dst,hkk _ _ _ h4 hs'⟩
end
end
section
open Go Go.RowKit Go.Shelf
section
variable {P:Program} {r:Option Nat} {n:Nat} {df:Nat} {N:Nat} {σ:aa1} {a:List D} {f:Frm} {T:TypeId→Option TI} {L:List Oper} {Q:Fst} {ρ:Operand→D}
theorem yd_slend (hT:∀ t i,T t=some i→tiOf P t=some i) {o:Oper} {t:TypeId} {x y:Operand} {b off m c:Nat} {kk:IntKind} {i:TI} {p:Nat × Bool × Nat × Nat} (ho:o.op = .slice t x (some y) none none) (hx:ρ x = .v (.slice (some ⟨b,off,none⟩) m c)) (ht:T t=some i) (hs:i.sl=some p)
  (hy:ρ y = .v (.int kk (c:Int))) (hm:m=c):Yd P o ρ σ (.v (.slice (some ⟨b,off,none⟩) 0 0)):=by
 subst hm
 intro w X η hη hst
 obtain ⟨dst,op,ty,pos,aft,g⟩:=o
 simp only at ho
 subst ho
 obtain ⟨e,ag,k',by_⟩:=p
 obtain ⟨hu,hsz,_⟩:=ai0 (hT t i ht) hs
 have hz:=(ao5 hsz w).2
 have hxv:=(hη x (by simp [Op.operands])).val hx
 have hyv:=(hη y (by simp [Op.operands])).val hy
 refine ah4 (s:=Instr.sliceAt t (η x) (some (η y)) none none) (u:=.slice (some ⟨b,off,none⟩) 0 0) ?_ (Ex.refl w) (.v _)
 rw [hxv]
 have hb:(Instr.sliceBounds true m m (some (η y)) none none).run P w = .ok (m,m,m) w:=by
  simp [Instr.sliceBounds,Instr.sliceBound,Result.andThen,hyv,asIntOf]
 simp only [Instr.sliceAt,Sem.run_bind,run_underlying hu,Result.andThen,Instr.slice,hb,hz,Sem.run_pure,if_true,Nat.sub_self]
theorem OtE.apown (hT:∀ t i,T t=some i→tiOf P t=some i) {o:Oper} {p x:Operand} {t e:TypeId} {i j:TI} {ag:Bool} {k by_ b n0 cap o2 m c2:Nat} {cs new:List D} {τ:aa1} {K:Frm→aa1→Prop}
  (ho:o.op = .call { callee:=.builtin .append,args:=#[p,x],argTypes:=#[t,t] }) (hp:evF f p = .v (.slice (some ⟨b,0,none⟩) n0 cap)) (hx:evF f x = .v (.slice (some ⟨b,o2,none⟩) m c2)) (ht:T t=some i) (hs:i.sl=some (e,ag,k,by_)) (he:T e=some j) (hjs:j.size=k)
  (hb:σ.Perm ((b,.cells e cs) :: τ)) (hnew:new=(cs.drop o2).take (m*k)) (hl:new.length=m*k) (hroom:n0+m≤cap) (hfit:n0*k+m*k≤cs.length) (hone:new.all oneD=true)
  (kk:W (putK N o.dst (.v (.slice (some ⟨b,0,none⟩) (n0+m) cap)) f (fun f'=>K f' ((b,.cells e (spl cs (n0*k) new)) :: τ)))):OtE P r n df L N o f σ K:=by
 refine ⟨fun rest Q a hsp hw hk=>?_⟩
 refine ax9 hb ?_
 refine ag9 hw (by rw [ho];rfl) fun w X fr hst=>?_
 have hpv:=hsp.le p _ _ _ (hst.fr.eval p)
 rw [hp] at hpv
 have hpv:=hpv.val rfl
 have hxv:=hsp.le x _ _ _ (hst.fr.eval x)
 rw [hx] at hxv
 have hxv:=hxv.val rfl
 obtain ⟨hu,hsz,_⟩:=ai0 (hT t i ht) hs
 obtain ⟨inf,u,q1,_,_,q4,_⟩:=ar1 (hT e j he)
 obtain ⟨_,ob,hob,vs,rfl,hvs⟩:=hst.st.at_ b _ List.mem_cons_self
 have hr2:=(hvs.drop o2).take (m*k)
 rw [← hnew] at hr2
 have hsk:inf.size=k:=by rw [← hjs,← q4]
 have hrun:=run_append_room (P:=P) (w:=w) t o.type e inf hu q1 b n0 cap vs.toArray hob ⟨b,o2,none⟩ m c2 ((vs.drop o2).take (m*k)) (by rw [hr2.len,hl,hsk]) (fun j v hv=>by
  rw [List.getElem?_take] at hv
  split at hv
  ·rw [List.getElem?_drop] at hv
   have hlt:=(List.getElem?_eq_some_iff.1 hv).1
   rw [as3]
   simp [World.cell?,hob,hv]
  ·cases hv) (aX6 hr2 hone) hroom (by rw [hr2.len,hl,hsk];simp [hvs.len];omega)
 have ee:(execOp fr.eval o).run P w = .ok (.value (.slice (some ⟨b,0,none⟩) (n0+m) cap)) (w.setRow b (vs.take (n0*k) ++ (vs.drop o2).take (m*k) ++ vs.drop (n0*k+((vs.drop o2).take (m*k)).length)).toArray):=by
  rw [hsk] at hrun
  simp only [execOp,ho,resolve,invoke,builtin,Sem.run_bind,Sem.run_pure,Result.andThen,List.map_toArray,List.map_cons,List.map_nil,hpv,hxv,hrun]
 rw [ee]
 obtain ⟨q5,q6⟩:=aD7 (cur':=(vs.take (n0*k) ++ (vs.drop o2).take (m*k) ++ vs.drop (n0*k+((vs.drop o2).take (m*k)).length)).toArray) hob
 have hnw:RdL w (Own ((b,Blk.cells e cs) :: τ) X) (spl cs (n0*k) new) (vs.take (n0*k) ++ (vs.drop o2).take (m*k) ++ vs.drop (n0*k+((vs.drop o2).take (m*k)).length)):=by
  unfold spl
  rw [hr2.len]
  exact ((hvs.take (n0*k)).append hr2).append (hvs.drop _)
 obtain ⟨g1,g2,g3,g4⟩:=hst.st.upd (i:=0) rfl (k':=.cells e (spl cs (n0*k) new)) q6 q5 ⟨_,rfl,hnw⟩
 obtain ⟨f',hs',h4⟩:=ae0 kk.h hsp
 exact ⟨_,_,g2,(⟨hst.fr.keep q6.size g3 g4,g1,hst.df.keep q6.size g3 g4⟩:St _ X df a _ fr).put (.v _) o.dst,hk _ _ _ h4 hs'⟩
theorem Vs.sc {σ τ:aa1} (h:Sc σ τ) (d:D):Vs σ d τ d:=⟨fun w X _ hs hr=>⟨h.run w X hs,ak5 hr h.sub⟩,h.sub⟩
theorem Sc.any {b:Nat} {e:TypeId} {cs cs':List D} {τ:aa1} (hl:cs'.length=cs.length) (h:∀ (i:Nat) d',cs'[i]?=some d'→d' = .any∨cs[i]?=some d'):Sc ((b,.cells e cs) :: τ) ((b,.cells e cs') :: τ):=by
 refine ⟨fun w X hs=>⟨hs.nodup,fun x kk hm=>?_,hs.xlt,hs.gok⟩,fun b hb=>hb⟩
 rcases List.mem_cons.1 hm with e1|hm
 ·cases e1
  obtain ⟨h1,o,h2,vs,rfl,h3⟩:=hs.at_ b _ List.mem_cons_self
  exact ⟨h1,_,h2,vs,rfl,⟨by rw [h3.len,hl],fun i d u hi hu=>by
   rcases h i d hi with rfl|h'
   ·exact .any u
   ·exact h3.at_ i d u h' hu⟩⟩
 ·exact hs.at_ x kk (List.mem_cons_of_mem _ hm)
theorem RowIs.del {e:TypeId} {k:Nat} {xs:List (List D)} {b n0 cap:Nat} {cs:List D} (h:RowIs e k xs (.slice (some ⟨b,0,none⟩) n0 cap) [(b,.cells e cs)]) {i:Nat} (hi:i<xs.length) :
  (cs.drop ((i+1)*k)).take ((xs.length - (i+1))*k)=(xs.drop (i+1)).flatten∧(xs.drop (i+1)).flatten.length=(xs.length - (i+1))*k∧n0=xs.length∧xs.length≤cap∧cs.length=cap*k ∧
  ∃ cs',RowIs e k (xs.take i ++ xs.drop (i+1)) (.slice (some ⟨b,0,none⟩) (i+(xs.length - (i+1))) cap) [(b,.cells e cs')]∧∀ τ:aa1,Sc ((b,.cells e (spl cs (i*k) (xs.drop (i+1)).flatten)) :: τ) ((b,.cells e cs') :: τ):=by
 obtain ⟨b',cap',junk,e1,e2,q3,q4,q5,q6⟩:=h.block (fun h=>by subst h;simp at hi)
 cases e1
 have e3:cs=xs.flatten ++ junk:=by simpa using e2
 have hf1:(xs.take (i+1)).flatten.length=(i+1)*k:=by
  rw [an6 (k:=k) (fun y hy=>h.len y (List.mem_of_mem_take hy)),List.length_take,Nat.min_eq_left (by omega)]
 have hf0:(xs.take i).flatten.length=i*k:=by
  rw [an6 (k:=k) (fun y hy=>h.len y (List.mem_of_mem_take hy)),List.length_take,Nat.min_eq_left (by omega)]
 have hfd:(xs.drop (i+1)).flatten.length=(xs.length - (i+1))*k:=by
  rw [an6 (k:=k) (fun y hy=>h.len y (List.mem_of_mem_drop hy)),List.length_drop]
 have hfa:xs.flatten.length=xs.length*k:=an6 h.len
 have hs1:xs.flatten=(xs.take (i+1)).flatten ++ (xs.drop (i+1)).flatten:=by rw [← List.flatten_append,List.take_append_drop]
 have hs0:xs.flatten=(xs.take i).flatten ++ (xs.drop i).flatten:=by rw [← List.flatten_append,List.take_append_drop]
 have hcl:cs.length=cap*k:=by rw [e3,List.length_append,hfa];exact q5
 have hmul:(i+1)*k+(xs.length - (i+1))*k=xs.length*k:=by rw [← Nat.add_mul];congr 1;omega
 have hmul2:(i+1)*k=i*k+k:=Nat.succ_mul i k
 have hcap:xs.length*k≤cap*k:=Nat.mul_le_mul_right _ q3
 refine ⟨?_,hfd,rfl,q3,hcl,(xs.take i ++ xs.drop (i+1)).flatten ++ List.replicate (cap*k - (i*k+(xs.length - (i+1))*k)) .any,?_,?_⟩
 ·rw [e3,hs1,List.append_assoc,List.drop_left' hf1,List.take_left' hfd]
 ·refine ⟨fun y hy=>?_,.inr ⟨b,cap,_,?_,rfl,?_,q4,?_,fun d hd=>(List.mem_replicate.1 hd).2⟩⟩
  ·rcases List.mem_append.1 hy with hy|hy
   ·exact h.len y (List.mem_of_mem_take hy)
   ·exact h.len y (List.mem_of_mem_drop hy)
  ·rw [List.length_append,List.length_take,List.length_drop,Nat.min_eq_left (by omega)]
  ·rw [List.length_append,List.length_take,List.length_drop];omega
  ·rw [List.length_append,List.length_take,List.length_drop,Nat.min_eq_left (by omega),List.length_replicate,Nat.add_mul]
   omega
 ·intro τ
  have hsp:spl cs (i*k) (xs.drop (i+1)).flatten=(xs.take i ++ xs.drop (i+1)).flatten ++ cs.drop (i*k+(xs.length - (i+1))*k):=by
   unfold spl
   rw [hfd,List.flatten_append]
   congr 2
   rw [e3,hs0,List.append_assoc,List.take_left' hf0]
  have hl2:(xs.take i ++ xs.drop (i+1)).flatten.length=i*k+(xs.length - (i+1))*k:=by rw [List.flatten_append,List.length_append,hf0,hfd]
  rw [hsp]
  refine Sc.any (by rw [List.length_append,List.length_append,List.length_replicate,List.length_drop,hcl]) (fun q d hq=>?_)
  by_cases hlt:q<(xs.take i ++ xs.drop (i+1)).flatten.length
  ·rw [List.getElem?_append_left hlt] at hq ⊢
   exact .inr hq
  ·rw [List.getElem?_append_right (by omega)] at hq
   exact .inl (List.mem_replicate.1 (List.mem_of_getElem? hq)).2
end
end
end Go.Proofs.YtjbbmjjildhfbaaGreatDoor
