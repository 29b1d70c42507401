/- A part of the proof: Nt Mp Lo Jn Jp Bl Bp Tab TySpec Dat TyQ. -/
import Derived.Test.YtjbbmjjildhfbaaGreatDoorP07
import Derived.WideKeyEntry
import Derived.Laws.AppendOwn
import Derived.Test.YtjbbmjjildhfbaaGreatDoorProg
set_option maxRecDepth 100000
set_option maxHeartbeats 4000000
set_option linter.unusedVariables false
set_option linter.unusedSimpArgs false
namespace Go.Proofs.YtjbbmjjildhfbaaGreatDoor
section
open Go Go.RowKit Go.Shelf
section
variable {β:Type} {g:β→D}
abbrev RowR (e1:TypeId) (g:β→D):ORep (List β):=fun l v s=>RowIs e1 1 (l.map fun b=>[g b]) v s
theorem spl_one {cs:List D} {off:Nat} (h:off<cs.length) (d:D):spl cs off [d]=cs.set off d:=by
 unfold spl
 rw [List.set_eq_take_append_cons_drop,if_pos h]
 simp
theorem aW1 {e1:TypeId} {l:List β} {u:Value} {s:aa1} (h:RowR e1 g l u s) {i:Nat} {b:β} (hb:l[i]?=some b) :
  ∃ b1 cap1 cs1,u = .slice (some ⟨b1,0,none⟩) l.length cap1∧s=[(b1,.cells e1 cs1)]∧cs1[i]?=some (g b)∧∀ b',RowR e1 g (l.set i b') u [(b1,.cells e1 (cs1.set i (g b')))]:=by
 have hi:=(List.getElem?_eq_some_iff.1 hb).1
 obtain ⟨b1,cap1,cs1,e2,e3,e4⟩:=RowIs.get h (show (l.map fun b=>[g b])[i]?=some [g b] by rw [List.getElem?_map,hb];rfl)
 have h4:=e4 0 (by omega)
 simp only [Nat.mul_one,Nat.add_zero] at h4
 have h5:cs1[i]?=some (g b):=by rw [h4];rfl
 rw [List.length_map] at e2
 subst e2 e3
 refine ⟨b1,cap1,cs1,rfl,rfl,h5,fun b'=>?_⟩
 have:=RowIs.put h (i:=i) (x':=[g b']) (by simpa using hi) rfl
 rw [Nat.mul_one,spl_one (List.getElem?_eq_some_iff.1 h5).1] at this
 show RowIs e1 1 ((l.set i b').map fun b=>[g b]) _ _
 rw [List.map_set]
 exact this
theorem row_slice {e1:TypeId} {l:List β} {u:Value} {s:aa1} (h:RowR e1 g l u s):∃ a c,u = .slice a l.length c:=by
 obtain ⟨a,c,e⟩:=RowIs.slice h
 rw [List.length_map] at e
 exact ⟨a,c,e⟩
theorem aV9 {α:Type} {l:List α} {i:Nat} {a:α} (h:l[i]?=some a):l.set i a=l:=by
 apply List.ext_getElem?
 intro j
 rw [List.getElem?_set]
 split
 ·rename_i e;subst e
  rw [if_pos (List.getElem?_eq_some_iff.1 h).1,h]
 ·rfl
theorem bc3 {e e1:TypeId} {t:List (List β)} {v:Value} {σ:aa1} (h:RowsOf e (RowR e1 g) t v σ) {j:Nat} {l:List β} (hl:t[j]?=some l) :
  ∃ b0 cap0 cs0 a1 c1,v = .slice (some ⟨b0,0,none⟩) t.length cap0∧(b0,Blk.cells e cs0)∈σ∧cs0[j]?=some (.v (.slice a1 l.length c1)):=by
 obtain ⟨b0,cap0,cs0,u,tt,ρ,h1,h2,h3,h4,h5⟩:=h.at hl
 obtain ⟨a1,c1,rfl⟩:=row_slice h4
 exact ⟨b0,cap0,cs0,a1,c1,h1,h2.mem_iff.2 (by simp),h3⟩
theorem au3 {e e1:TypeId} {t:List (List β)} {v:Value} {σ:aa1} (h:RowsOf e (RowR e1 g) t v σ) {j i:Nat} {l:List β} {b:β} (hl:t[j]?=some l) (hb:l[i]?=some b) :
  ∃ b0 cap0 cs0 b1 cap1 cs1 ρ,v = .slice (some ⟨b0,0,none⟩) t.length cap0∧σ.Perm ((b0,.cells e cs0) :: (b1,.cells e1 cs1) :: ρ)∧cs0[j]?=some (.v (.slice (some ⟨b1,0,none⟩) l.length cap1))∧cs1[i]?=some (g b) ∧
   ∀ b',RowsOf e (RowR e1 g) (t.set j (l.set i b')) v ((b0,.cells e cs0) :: (b1,.cells e1 (cs1.set i (g b'))) :: ρ):=by
 obtain ⟨b0,cap0,cs0,u,tt,ρ,h1,h2,h3,h4,h5⟩:=h.at hl
 obtain ⟨b1,cap1,cs1,rfl,rfl,q3,q4⟩:=aW1 h4 hb
 refine ⟨b0,cap0,cs0,b1,cap1,cs1,ρ,h1,h2,h3,q3,fun b'=>h5 _ _ _ _ (q4 b') ?_⟩
 rw [aV9 h3]
 exact List.Perm.refl _
end
theorem ix1 (j:Nat):0+((j:Nat):Int).toNat*1=j:=by simp
end
section
open Go Go.RowKit Go.Shelf Go.Maps Go.MapKept
open Go.ChangeMaps (setBlock modify_eq_set heap_setBlock_same heap_setBlock_other)
/-! ### Permutations by counting -/
section
open Classical in
noncomputable local instance:DecidableEq (Nat × Blk):=fun _ _=>propDecidable _
noncomputable def ct (a:Nat × Blk) (l:aa1):Nat:=l.count a
noncomputable def ct1 (a x:Nat × Blk):Nat:=[x].count a
theorem ae6 (a:Nat × Blk):ct a []=0:=by simp [ct]
theorem ac4 (a x:Nat × Blk) (l:aa1):ct a (x :: l)=ct1 a x+ct a l:=by
 unfold ct ct1
 rw [show x :: l=[x] ++ l from rfl,List.count_append]
theorem ae4 (a:Nat × Blk) (l m:aa1):ct a (l ++ m)=ct a l+ct a m:=by simp [ct]
theorem aj8 {l m:aa1} (h:l.Perm m) (a:Nat × Blk):ct a l=ct a m:=by unfold ct;exact h.count_eq a
theorem ac3 {l m:aa1} (h:∀ a,ct a l=ct a m):l.Perm m:=List.perm_iff_count.2 h
end
def MapO (P:Program) (k:TypeId) (f:Value→Option Value) (o:Obj):Prop:=∃ es clock n,o = .map es clock∧Ents P k es clock n f
def MapS (P:Program) (k:TypeId) (f:Value→Option Value) (key stamp:Value) (o:Obj):Prop:=∃ es clock n,o = .map es clock∧Ents P k es clock n f∧∃ e∈es.toList,e.key=key∧stamp=goInt e.born
theorem MapS.is {P:Program} {k:TypeId} {f:Value→Option Value} {key stamp:Value} {o:Obj} (h:MapS P k f key stamp o):MapO P k f o:=by
 obtain ⟨es,c,n,h1,h2,_⟩:=h;exact ⟨es,c,n,h1,h2⟩
def KeyD (d:D) (kv:Value):Prop:=∀ (w:World) (O:Nat→Prop) (u:Value),Rd w O d u→u=kv
theorem KeyD.v (x:Value):KeyD (.v x) x:=fun _ _ _ h=>h.val rfl
theorem KeyD.agg2 (x y:Value):KeyD (.agg [.v x,.v y]) (.agg #[x,y]):=fun w O u h=>by
 obtain ⟨vs,rfl,h1⟩:=h.agg_inv
 have hl:=h1.len
 match vs,hl with
 | [a,b],_=>
  have q1:=(h1.at_ 0 _ _ rfl rfl).val rfl
  have q2:=(h1.at_ 1 _ _ rfl rfl).val rfl
  rw [q1,q2]
section
variable {P:Program} {r:Option Nat} {n:Nat} {df:Nat} {N:Nat} {σ τ:aa1} {ρ:Operand→D} {f:Frm} {L:List Oper} {k t e:TypeId} {F:Value→Option Value} {b:Nat} {kv z:Value} {kl:Lit}
theorem own_obj {w:World} {X:Nat→Prop} {ok:Obj→Prop} (hs:StOK w X σ) (hb:(b,Blk.obj ok)∈σ):∃ o,w.heap[b]?=some o∧ok o:=by
 obtain ⟨_,o,h1,h2⟩:=hs.at_ b _ hb
 exact ⟨o,h1,h2⟩
theorem yd_lookup {o:Oper} {m key:Operand} {ok:Obj→Prop} (ho:o.op = .lookup t m key false) (hm:ρ m = .v (.map (some b))) (hd:KeyD (ρ key) kv) (hb:(b,Blk.obj ok)∈σ) (hok:∀ o,ok o→MapO P k F o)
  (K:Keyed P k) (ht:P.underlying t=some (.map k e)) (hz:∀ w,(zeroValue e).run P w = .ok z w) (hkey:keyOf P k kv=some kl):Yd P o ρ σ (.v ((F kv).getD z)):=by
 intro w X η hη hst
 obtain ⟨dst,op,ty,pos,aft,g⟩:=o
 simp only at ho
 subst ho
 have h1:=(hη m (by simp [Op.operands])).val hm
 have h2:=hd _ _ _ (hη key (by simp [Op.operands]))
 obtain ⟨ob,q1,q2⟩:=own_obj hst hb
 obtain ⟨es,c,nn,rfl,q3⟩:=hok _ q2
 exact af8 (s:=Instr.lookup t (η m) (η key) false) (by rw [h1,h2];exact MapIs.look (n:=nn) ⟨es,c,q1,q3⟩ K ht (hz w) hkey) (Ex.refl w) (.v _)
theorem OtE.makeMap {o:Oper} {K:Frm→aa1→Prop} (ho:o.op = .makeMap t none) (kk:∀ b,W (putK N o.dst (.v (.map (some b))) f (fun f'=>K f' ((b,.obj (MapO P k fun _=>none)) :: σ)))):OtE P r n df L N o f σ K:=by
 refine ⟨fun rest Q a hsp hw hk=>?_⟩
 refine ah3 hw (by rw [ho];rfl) fun w X fr hst=>?_
 have e0:(execOp fr.eval o).run P w = .ok (.value (.map (some w.heap.size))) (w.alloc (.map #[] 0)):=by
  simp only [execOp,ho]
  rfl
 rw [e0]
 have hz:MapO P k (fun _=>none) (.map #[] 0):=⟨#[],0,0,rfl,⟨by simp,stamped_empty 0,by simp,by simp,by simp⟩⟩
 obtain ⟨g1,g2,g3⟩:=hst.st.new (.map #[] 0) (.obj (MapO P k fun _=>none)) hz
 obtain ⟨f',hs',h4⟩:=ad7 (kk w.heap.size).h hsp
 exact ⟨_,_,g2,(hst.mv g2 g1).put (.v _) o.dst,hk _ _ _ h4 hs'⟩
theorem mv_perm {w w':World} {s:aa1} (hp:σ.Perm τ) (h:Mv w τ w' s):Mv w σ w' s:=h.wider (fun b hb=>(ak0 hp b hb))
theorem OtE.obj {o:Oper} {K:Frm→aa1→Prop} {ok:Obj→Prop} (hn:ah2 o.op=true) (hb:σ.Perm ((b,Blk.obj ok) :: τ))
  (h:∀ (w:World) (fr:Act) (X:Nat→Prop) (ob:Obj),(∀ x,Rd w (Own σ X) (evF f x) (fr.eval x))→w.heap[b]?=some ob→ok ob →
   ∃ (d:D) (u:Value) (ok':Obj→Prop) (w':World) (ob':Obj),((execOp fr.eval o).run P w = .ok (.value u) w'∨((execOp fr.eval o).run P w = .ok .skip w'∧u=undef∧d = .v undef))∧(∀ w O,Rd w O d u)∧Keep (fun x=>x=b) w w'∧w'.heap[b]?=some ob'∧ok' ob'∧putK N o.dst d f (fun f'=>K f' ((b,.obj ok') :: τ))):OtE P r n df L N o f σ K:=by
 refine ⟨fun rest Q a hsp hw hk=>?_⟩
 refine ah3 hw hn fun w X fr hst=>?_
 have hst':=hst.perm hb
 obtain ⟨ob,q1,q2⟩:=own_obj hst'.st (List.mem_cons_self)
 obtain ⟨d,u,ok',w',ob',h1,h2,h3,h5,h6,h7⟩:=h w fr X ob (fun x=>hsp.le x _ _ _ (hst.fr.eval x)) q1 q2
 obtain ⟨g1,g2,g3,g4⟩:=hst'.st.upd (i:=0) (k':=.obj ok') rfl h3 h5 h6
 obtain ⟨f',hs',h8⟩:=ad7 h7 hsp
 have hst2:=(hst'.mv g2 g1).put (h2 w' _) o.dst
 rcases h1 with h1|⟨h1,rfl,rfl⟩
 ·rw [h1]
  exact ⟨d,_,mv_perm hb g2,hst2,hk _ _ _ h8 hs'⟩
 ·rw [h1]
  exact ⟨_,mv_perm hb g2,hst2,hk _ _ _ h8 hs'⟩
theorem OtE.mapUpdate {o:Oper} {m key x:Operand} {xv:Value} {K:Frm→aa1→Prop} (ho:o.op = .mapUpdate t m key x) (hm:evF f m = .v (.map (some b))) (hd:KeyD (evF f key) kv) (hx:evF f x = .v xv) (hb:σ.Perm ((b,Blk.obj (MapO P k F)) :: τ))
  (KK:Keyed P k) (ht:P.underlying t=some (.map k e)) (hkey:keyOf P k kv=some kl) (kk:W (putK N o.dst (.v undef) f (fun f'=>K f' ((b,.obj (MapO P k (updF F kv xv))) :: τ)))):OtE P r n df L N o f σ K:=by
 refine OtE.obj (by rw [ho];rfl) hb fun w fr X ob hη hob hok=>?_
 obtain ⟨es,c,nn,rfl,q3⟩:=hok
 obtain ⟨w',h1,⟨es',c',h2,h3⟩,h4⟩:=MapIs.update (v:=xv) (n:=nn) ⟨es,c,hob,q3⟩ KK ht hkey
 refine ⟨.v undef,undef,MapO P k (updF F kv xv),w',_,.inr ⟨?_,rfl,rfl⟩,fun _ _=>.v _,h4,h2,⟨es',c',_,rfl,h3⟩,kk.h⟩
 have p1:=(hη m).val hm
 have p2:=hd _ _ _ (hη key)
 have p3:=(hη x).val hx
 simp only [execOp,ho,p1,p2,p3]
 show (do let _ ← Instr.mapUpdate t (.map (some b)) kv xv;pure Next.skip).run P w=_
 simp only [Sem.run_bind,h1,Result.andThen,Sem.run_pure]
theorem OtE.mapEntry {o:Oper} {m key:Operand} {K:Frm→aa1→Prop} {ok:Obj→Prop} (ho:o.op = .mapEntry t m key) (hm:evF f m = .v (.map (some b))) (hd:KeyD (evF f key) kv) (hb:σ.Perm ((b,Blk.obj ok) :: τ)) (hok:∀ o,ok o→MapO P k F o)
  (KK:Keyed P k) (ht:P.underlying t=some (.map k e)) (hz:∀ w,(zeroValue e).run P w = .ok z w) (hkey:keyOf P k kv=some kl) (kk:∀ st,W (putK N o.dst (.tup [.v ((F kv).getD z),.v st]) f (fun f'=>K f' ((b,.obj (MapS P k (updF F kv ((F kv).getD z)) kv st)) :: τ)))):OtE P r n df L N o f σ K:=by
 refine OtE.obj (by rw [ho];rfl) hb fun w fr X ob hη hob hok'=>?_
 obtain ⟨es,c,nn,rfl,E⟩:=hok _ hok'
 have p1:=(hη m).val hm
 have p2:=hd _ _ _ (hη key)
 have tup:∀ (x y:Value) w O,Rd w O (.tup [.v x,.v y]) (.tuple #[x,y]):=fun x y w O=>by
  have h5:=RdL.cons (w:=w) (O:=O) (Rd.v x) (RdL.cons (Rd.v y) RdL.nil)
  exact Rd.tup [.v x,.v y] _ h5.len h5.at_
 rcases E.look KK hkey w with ⟨h1,h0,h2⟩|⟨j,e0,h1,h2,h3,h0⟩
 ·refine ⟨.tup [.v z,.v (goInt c)],.tuple #[z,goInt c],MapS P k (updF F kv z) kv (goInt c),setBlock w b (.map (es.push ⟨kv,z,c⟩) (c+1)),_,.inl ?_,fun w O=>tup _ _ w O,Keep.setBlock hob,heap_setBlock_same hob _,⟨_,_,nn+1,rfl,E.push hkey h2,⟨kv,z,c⟩,by simp,rfl,rfl⟩,?_⟩
  ·simp only [execOp,ho,p1,p2]
   show (do let v ← Instr.mapEntry t (.map (some b)) kv;pure (Next.value v)).run P w=_
   simp [Instr.mapEntry,run_underlying ht,MapKept.run_getObj_map hob,KK.check w false hkey,h1,hz,MapKept.run_setObj_map _ hob,Result.andThen,setBlock]
  ·have:=(kk (goInt c)).h
   rw [h0] at this
   exact this
 ·have hj:es[j]?=some e0:=by simpa using h2
  have E':=E.modify (v:=e0.val) hkey h2 h3 (fun e=>{ e with key:=kv }) (fun _=>rfl) rfl rfl
  refine ⟨.tup [.v e0.val,.v (goInt e0.born)],.tuple #[e0.val,goInt e0.born],MapS P k (updF F kv e0.val) kv (goInt e0.born),setBlock w b (.map (es.modify j fun e=>{ e with key:=kv }) c),_,.inl ?_,fun w O=>tup _ _ w O,Keep.setBlock hob,heap_setBlock_same hob _,⟨_,_,nn,rfl,E',{ e0 with key:=kv },?_,rfl,rfl⟩,?_⟩
  ·simp only [execOp,ho,p1,p2]
   show (do let v ← Instr.mapEntry t (.map (some b)) kv;pure (Next.value v)).run P w=_
   simp [Instr.mapEntry,run_underlying ht,MapKept.run_getObj_map hob,KK.check w false hkey,h1,hj,h3,KK.stays w hkey,MapKept.run_setObj_map _ hob,Result.andThen,setBlock]
  ·rw [Array.toList_modify,modify_eq_set _ _ _ _ h2]
   exact List.mem_set (List.getElem?_eq_some_iff.1 h2).1 _
  ·have:=(kk (goInt e0.born)).h
   rw [h0] at this
   exact this
theorem born_idx {es:Array MapEntry} {c nn:Nat} (E:Ents P k es c nn F) {e0:MapEntry} {j:Nat} (h:es.toList[j]?=some e0):es.findIdx? (fun e=>((e.born:Nat):Int) == ((e0.born:Nat):Int))=some j:=by
 rw [WideElems.findIdx_arr]
 exact WideElems.findIdx_born ((stamped_iff es c).1 E.stamped).2.1 h
theorem OtE.entryStore {o:Oper} {m st x:Operand} {xv sv:Value} {K:Frm→aa1→Prop} (ho:o.op = .entryStore t m st x) (hm:evF f m = .v (.map (some b))) (hs:evF f st = .v sv) (hx:evF f x = .v xv) (hb:σ.Perm ((b,Blk.obj (MapS P k F kv sv)) :: τ))
  (hkey:keyOf P k kv=some kl) (kk:W (putK N o.dst (.v undef) f (fun f'=>K f' ((b,.obj (MapO P k (updF F kv xv))) :: τ)))):OtE P r n df L N o f σ K:=by
 refine OtE.obj (by rw [ho];rfl) hb fun w fr X ob hη hob hok=>?_
 obtain ⟨es,c,nn,rfl,E,e0,he0,h3,rfl⟩:=hok
 obtain ⟨j,h2⟩:=List.getElem?_of_mem he0
 have E':=E.modify (v:=xv) hkey h2 h3 (fun e=>{ e with val:=xv }) (fun _=>rfl) h3 rfl
 refine ⟨.v undef,undef,MapO P k (updF F kv xv),setBlock w b (.map (es.modify j fun e=>{ e with val:=xv }) c),_,.inr ⟨?_,rfl,rfl⟩,fun _ _=>.v _,Keep.setBlock hob,heap_setBlock_same hob _,⟨_,_,nn,rfl,E'⟩,kk.h⟩
 have p1:=(hη m).val hm
 have p2:=(hη st).val hs
 have p3:=(hη x).val hx
 simp only [execOp,ho,p1,p2,p3]
 show (do let _ ← Instr.entryStore t (.map (some b)) (goInt e0.born) xv;pure Next.skip).run P w=_
 simp [Instr.entryStore,MapKept.run_getObj_map hob,asInt,asIntOf,goInt,born_idx E h2,MapKept.run_setObj_map _ hob,Result.andThen,setBlock]
end
end
section
open Go Go.RowKit Go.Shelf
section
variable {P:Program} {r:Option Nat} {n:Nat} {df:Nat} {N:Nat} {σ:aa1} {f:Frm} {L:List Oper} {T:TypeId→Option TI} {Q:Fst}
theorem aj0 {ρ:Operand→D} {k t e:TypeId} {F:Value→Option Value} {b:Nat} {kv z u:Value} {kl:Lit} {o:Oper} {m key:Operand} {ok:Obj→Prop} (ho:o.op = .lookup t m key false) (hm:ρ m = .v (.map (some b))) (hd:KeyD (ρ key) kv) (hb:(b,Blk.obj ok)∈σ) (hok:∀ o,ok o→MapO P k F o)
  (K:Maps.Keyed P k) (ht:P.underlying t=some (.map k e)) (hz:∀ w,(zeroValue e).run P w = .ok z w) (hkey:keyOf P k kv=some kl) (hv:(F kv).getD z=u):Yd P o ρ σ (.v u):=by
 subst hv;exact yd_lookup ho hm hd hb hok K ht hz hkey
theorem OtE.mapEntry2 {τ:aa1} {k t e:TypeId} {F:Value→Option Value} {b:Nat} {kv z u:Value} {kl:Lit} {o:Oper} {m key:Operand} {K:Frm→aa1→Prop} {ok:Obj→Prop} (ho:o.op = .mapEntry t m key) (hm:evF f m = .v (.map (some b))) (hd:KeyD (evF f key) kv) (hb:σ.Perm ((b,Blk.obj ok) :: τ)) (hok:∀ o,ok o→MapO P k F o)
  (KK:Maps.Keyed P k) (ht:P.underlying t=some (.map k e)) (hz:∀ w,(zeroValue e).run P w = .ok z w) (hkey:keyOf P k kv=some kl) (hv:(F kv).getD z=u) (kk:∀ st,W (putK N o.dst (.tup [.v u,.v st]) f (fun f'=>K f' ((b,.obj (MapS P k (updF F kv u) kv st)) :: τ)))):OtE P r n df L N o f σ K:=by
 subst hv;exact OtE.mapEntry ho hm hd hb hok KK ht hz hkey kk
theorem updF_at (F:Value→Option Value) (kv u z:Value):(updF F kv u kv).getD z=u:=by simp [updF]
def loE (hs:List Nat) (i:Nat):Bool:=!hs.any (Nat.beq i)
theorem ao7 {ops:Array Oper} {E:Nat→Bool} {L L':List D→aa1→Prop} (h:∀ a σ,L a σ→L' a σ):∀ {t:Ord} {a:List D} {σ:aa1},gOrd P r n df ops E L t a σ→gOrd P r n df ops E L' t a σ
 | .done,_,_,hh=>h _ _ hh
 | .one _ _,_,_,hh=>ac5 (fun _ _=>ao7 h) hh
 | .two _ _ _ _,_,_,hh=>⟨ac5 (fun _ _=>ao7 h) hh.1,ac5 (fun _ _=>ao7 h) hh.2⟩
 | .three _ _ _ _ _ _,_,_,hh=>⟨ac5 (fun _ _=>ao7 h) hh.1,ac5 (fun _ _=>ao7 h) hh.2.1,ac5 (fun _ _=>ao7 h) hh.2.2⟩
theorem ax6 (hm:P.follows .mixedOrders=true) (hT:∀ t i,T t=some i→tiOf P t=some i) {id:Nat} {O:Array Oper} (hO:O=L.toArray) (hs:List Nat) (fu:Nat) (t:Ord) {γ:Type} (ps:γ→Frm) (S:γ→aa1) (I:γ→Prop)
  (hB:(Nat.beq (hs.length+fu) L.length && mixOB .any L.toArray (loE hs) fu t hs (Array.replicate L.length false) && aw4 (loE hs) t)=true)
  (h:W (exHs P T N L (loE hs) σ hs (fun f1=>aZ5 P T r n df N L (fun f' σ'=>∃ g,chkF f' (ar0 (.region id O true) f (ps g))∧S g=σ'∧I g) t f1 σ) f))
  (kk:∀ g,I g→W (aE7 (ar0 (.region id O true) f (ps g)) fun F=>Q .normal F (S g))):Lp P r n df N (.region id O true) Q f σ:=by
 subst hO
 simp only [Bool.and_eq_true] at hB
 refine ⟨fun a hs'=>?_⟩
 refine as9 (aI7 (Q:=fun e a' σ'=>e = .normal∧∃ f',Sp N a' f'∧∃ g,chkF f' (ar0 (.region id L.toArray true) f (ps g))∧S g=σ'∧I g) (loE hs) hs fu t hm (Nat.eq_of_beq_eq_true hB.1.1) hB.1.2 (ay0 (fun a' σ' h'=>?_) (aB7 hT h.h hs'))) ?_
 ·obtain ⟨rfl,f',h1,h2⟩:=h'
  have:=as7 hT hB.2 h2 h1
  exact ao7 (fun a σ h=>⟨rfl,h⟩) this
 ·rintro e a' σ' ⟨rfl,f',h1,g,h2,rfl,h3⟩
  exact ⟨_,h1.sub h2,ao9 (kk g h3).h⟩
end
end
section
open Go Go.RowKit Go.Shelf
section
variable {P:Program} {r:Option Nat} {n:Nat} {df:Nat} {N:Nat} {σ:aa1} {f:Frm} {L:List Oper} {T:TypeId→Option TI} {Q:Fst}
theorem lp_perm {c:Code} {τ:aa1} (hp:σ.Perm τ) (k:Lp P r n df N c Q f τ):Lp P r n df N c Q f σ:=⟨fun a hs=>aK3 (fun w X fr h=>h.perm hp) (fun x hx=>ak0 hp x hx) (k.run a hs)⟩
theorem lp_frz {c:Code} {τ:aa1} {i:Nat} {d d':D} (hl:am8 f i=some d) (hd:d ≠ .any) (h:Vs σ d τ d') (k:Lp P r n df N c Q ((i,d') :: f) τ):Lp P r n df N c Q f σ:=by
 refine ⟨fun a hs=>?_⟩
 have hai:a[i]?=some d:=by
  rcases hs.at_ i d hl with h1|h1
  ·exact absurd h1 hd
  ·exact h1
 have hil:=(List.getElem?_eq_some_iff.1 hai).1
 refine aK3 (b:=a.set i d') (τ:=τ) (fun w X fr hst=>?_) h.sub (k.run (a.set i d') ⟨by rw [List.length_set];exact hs.len,fun j e hj=>?_⟩)
 ·obtain ⟨u,hu,hr⟩:=hst.fr.at_ i d hai
  obtain ⟨g1,g2⟩:=h.run w X u hst.st hr
  refine ⟨⟨by rw [List.length_set];exact hst.fr.size,fun j e hj=>?_⟩,g1,hst.df.keep (Nat.le_refl _) (fun x _ hn ho=>hn (ho.imp id (h.sub x))) (fun _ _ _=>rfl)⟩
  by_cases e1:i=j
  ·subst e1
   rw [List.getElem?_set_self hil] at hj
   cases hj
   exact ⟨u,hu,g2⟩
  ·rw [List.getElem?_set_ne e1] at hj
   obtain ⟨v,k1,k2⟩:=hst.fr.at_ j e hj
   exact ⟨v,k1,ah1 k2 h.sub⟩
 ·simp only [am8] at hj
  cases he:Nat.beq i j with
  | true=>
   rw [he] at hj
   have:=Nat.eq_of_beq_eq_true he
   subst this
   simp only [cond_true,Option.some.injEq] at hj
   subst hj
   exact .inr (List.getElem?_set_self hil)
  | false=>
   rw [he] at hj
   have hne:i≠j:=fun e=>by subst e;simp at he
   rcases hs.at_ j e hj with h1|h1
   ·exact .inl h1
   ·exact .inr (by rw [List.getElem?_set_ne hne];exact h1)
theorem OtE.box {o:Oper} {t:TypeId} {x:Operand} {cs:List D} {K:Frm→aa1→Prop} (ho:o.op = .box t x) (hx:evF f x = .agg cs) (kk:∀ b,W (putK N o.dst (.v (.pointer (some ⟨b,0,none⟩))) f (fun f'=>K f' ((b,.cells t cs) :: σ)))):OtE P r n df L N o f σ K:=by
 refine ⟨fun rest Q a hsp hw hk=>?_⟩
 refine ah3 hw (by rw [ho];rfl) fun w X fr hst=>?_
 have h1:=hsp.le x _ _ _ (hst.fr.eval x)
 rw [hx] at h1
 obtain ⟨vs,hv,hvs⟩:=h1.agg_inv
 have e0:(execOp fr.eval o).run P w = .ok (.value (.pointer (some ⟨w.heap.size,0,none⟩))) (w.alloc (.cells vs.toArray t)):=by
  simp only [execOp,ho,hv]
  rfl
 rw [e0]
 obtain ⟨g1,g2,g3⟩:=hst.st.new (.cells vs.toArray t) (.cells t cs) ⟨vs,rfl,hvs⟩
 obtain ⟨f',hs',h4⟩:=ad7 (kk w.heap.size).h hsp
 exact ⟨_,_,g2,(hst.mv g2 g1).put (.v _) o.dst,hk _ _ _ h4 hs'⟩
/-! ### What lies in a new slice is written no more -/
def Vd (σ τ:aa1) (d d':D):Prop:=∀ (w:World) (X:Nat→Prop) (u:Value),StOK w X σ→Rd w (Own σ X) d u→Rd w (Own τ X) d' u
theorem Vd.same {σ τ:aa1} (hs:∀ b,b∈ab2 τ→b∈ab2 σ) (d:D):Vd σ τ d d:=fun _ _ _ _ h=>ah1 h hs
theorem Vd.vs {σ τ:aa1} {d d':D} (h:Vs σ d τ d'):Vd σ τ d d':=fun w X u hs hr=>(h.run w X u hs hr).2
inductive Vd2 (σ τ:aa1):List D→List D→Prop
 | nil:Vd2 σ τ [] []
 | cons {d d':D} {l l':List D} (h:Vd σ τ d d') (k:Vd2 σ τ l l'):Vd2 σ τ (d :: l) (d' :: l')
inductive Vd3 (σ τ:aa1):List (List D)→List (List D)→Prop
 | nil:Vd3 σ τ [] []
 | cons {d d':List D} {l l':List (List D)} (h:Vd2 σ τ d d') (k:Vd3 σ τ l l'):Vd3 σ τ (d :: l) (d' :: l')
theorem Vd2.len {σ τ:aa1} {l l':List D} (h:Vd2 σ τ l l'):l'.length=l.length:=by induction h with|nil=>rfl|cons _ _ ih=>simp [ih]
theorem Vd3.len {σ τ:aa1} {l l':List (List D)} (h:Vd3 σ τ l l'):l'.length=l.length:=by induction h with|nil=>rfl|cons _ _ ih=>simp [ih]
theorem Vd2.same {σ τ:aa1} (hs:∀ b,b∈ab2 τ→b∈ab2 σ):∀ l:List D,Vd2 σ τ l l
 | []=>.nil
 | d :: l=>.cons (Vd.same hs d) (Vd2.same hs l)
theorem Vd3.same {σ τ:aa1} (hs:∀ b,b∈ab2 τ→b∈ab2 σ):∀ l:List (List D),Vd3 σ τ l l
 | []=>.nil
 | d :: l=>.cons (Vd2.same hs d) (Vd3.same hs l)
theorem Vd2.at_ {σ τ:aa1} {l l':List D} (h:Vd2 σ τ l l'):∀ {j:Nat} {d':D},l'[j]?=some d'→∃ d,l[j]?=some d∧Vd σ τ d d':=by
 induction h with
 | nil=>intro j d' h;simp at h
 | cons h k ih=>
  intro j d' hj
  cases j with
  | zero=>simp at hj;subst hj;exact ⟨_,rfl,h⟩
  | succ j=>simp at hj;obtain ⟨d,h1,h2⟩:=ih hj;exact ⟨d,by simpa using h1,h2⟩
theorem Vd3.at_ {σ τ:aa1} {l l':List (List D)} (h:Vd3 σ τ l l'):∀ {j:Nat} {d':List D},l'[j]?=some d'→∃ d,l[j]?=some d∧Vd2 σ τ d d':=by
 induction h with
 | nil=>intro j d' h;simp at h
 | cons h k ih=>
  intro j d' hj
  cases j with
  | zero=>simp at hj;subst hj;exact ⟨_,rfl,h⟩
  | succ j=>simp at hj;obtain ⟨d,h1,h2⟩:=ih hj;exact ⟨d,by simpa using h1,h2⟩
theorem Vd.sl {σ τ:aa1} (hs:∀ b,b∈ab2 τ→b∈ab2 σ) {k:Nat} {xs xs':List (List D)} (h:Vd3 σ τ xs xs'):Vd σ τ (.sl k xs) (.sl k xs'):=by
 intro w X u hst hr
 obtain ⟨a,cap,f,e1,hcap,hk,hc,hrr⟩:=hr.sl_inv
 rw [e1,← h.len]
 refine .sl k _ a cap f (by rw [h.len];exact hcap) (fun y hy=>?_) (fun i y hy=>?_) (fun i y hy j d hd=>?_)
 ·obtain ⟨i,hi⟩:=List.getElem?_of_mem hy
  obtain ⟨z,h1,h2⟩:=h.at_ hi
  rw [h2.len];exact hk z (List.mem_of_getElem? h1)
 ·obtain ⟨z,h1,h2⟩:=h.at_ hy
  obtain ⟨b,off,q1,q2,q3,q4⟩:=hc i z h1
  exact ⟨b,off,q1,fun ho=>q2 (ho.imp id (hs b)),q3,q4⟩
 ·obtain ⟨z,h1,h2⟩:=h.at_ hy
  obtain ⟨d0,h3,h4⟩:=h2.at_ hd
  exact h4 w X _ hst (hrr i z h1 j d0 h3)
theorem Vd.agg {σ τ:aa1} {l l':List D} (h:Vd2 σ τ l l'):Vd σ τ (.agg l) (.agg l'):=by
 intro w X u hst hr
 obtain ⟨vs,rfl,hv⟩:=hr.agg_inv
 refine .agg _ _ (by rw [h.len];exact hv.len) (fun j d u hd hu=>?_)
 obtain ⟨d0,h1,h2⟩:=h.at_ hd
 exact h2 w X u hst (hv.at_ j d0 u h1 hu)
theorem Vd.tup {σ τ:aa1} {l l':List D} (h:Vd2 σ τ l l'):Vd σ τ (.tup l) (.tup l'):=by
 intro w X u hst hr
 obtain ⟨vs,rfl,hv⟩:=hr.tup_inv
 refine .tup _ _ (by rw [h.len];exact hv.len) (fun j d u hd hu=>?_)
 obtain ⟨d0,h1,h2⟩:=h.at_ hd
 exact h2 w X u hst (hv.at_ j d0 u h1 hu)
theorem Vs.vd {σ τ:aa1} {d d':D} (hp:∃ ρ,σ.Perm (ρ ++ τ)) (h:Vd σ τ d d'):Vs σ d τ d':=by
 obtain ⟨ρ,hp⟩:=hp
 exact ⟨fun w X u hs hr=>⟨(hs.perm hp).sub (List.sublist_append_right _ _),h w X u hs hr⟩,fun b hb=>ak0 hp b (by rw [ac0];exact List.mem_append_right _ hb)⟩
end
end
section
open Go Go.RowKit Go.Shelf
inductive LeR:List (List D)→List (List D)→Prop
 | nil:LeR [] []
 | cons {x y:List D} {xs ys:List (List D)} (h:LeL x y) (t:LeR xs ys):LeR (x :: xs) (y :: ys)
theorem LeL.refl:∀ l:List D,LeL l l
 | []=>.nil
 | d :: l=>.cons (Le.refl d) (LeL.refl l)
theorem LeR.refl:∀ l:List (List D),LeR l l
 | []=>.nil
 | d :: l=>.cons (LeL.refl d) (LeR.refl l)
theorem LeR.append {a b c d:List (List D)} (h:LeR a b) (k:LeR c d):LeR (a ++ c) (b ++ d):=by
 induction h with
 | nil=>exact k
 | cons h _ ih=>exact .cons h ih
theorem LeR.len {a b:List (List D)} (h:LeR a b):b.length=a.length:=by induction h with|nil=>rfl|cons _ _ ih=>simp [ih]
theorem LeL.vd {σ τ:aa1} (hs:∀ b,b∈ab2 τ→b∈ab2 σ) {a b:List D} (h:LeL a b):Vd2 σ τ a b:=by
 induction h with
 | nil=>exact .nil
 | cons h _ ih=>exact .cons (fun w X u _ hr=>h _ _ _ (ah1 hr hs)) ih
theorem LeR.vd {σ τ:aa1} (hs:∀ b,b∈ab2 τ→b∈ab2 σ) {a b:List (List D)} (h:LeR a b):Vd3 σ τ a b:=by
 induction h with
 | nil=>exact .nil
 | cons h _ ih=>exact .cons (h.vd hs) ih
theorem le_sl {k:Nat} {xs ys:List (List D)} (h:LeR xs ys):Le (.sl k xs) (.sl k ys):=by
 intro w O u hr
 obtain ⟨a,cap,f,e1,hcap,hk,hc,hrr⟩:=hr.sl_inv
 have hv:Vd3 [] [] xs ys:=h.vd (fun _ h=>h)
 have at2:∀ {i:Nat} {y:List D},ys[i]?=some y→∃ z,xs[i]?=some z∧LeL z y:=by
  clear hv hrr hc hk hcap e1 hr
  induction h with
  | nil=>intro i y hy;simp at hy
  | cons h _ ih=>
   intro i y hy
   cases i with
   | zero=>simp at hy;subst hy;exact ⟨_,rfl,h⟩
   | succ i=>simp at hy;obtain ⟨z,h1,h2⟩:=ih hy;exact ⟨z,by simpa using h1,h2⟩
 have atL:∀ {z y:List D},LeL z y→z.length=y.length∧∀ {j:Nat} {d':D},y[j]?=some d'→∃ d,z[j]?=some d∧Le d d':=by
  intro z y hl
  induction hl with
  | nil=>exact ⟨rfl,fun h=>by simp at h⟩
  | cons h _ ih=>
   refine ⟨by simp [ih.1],fun {j d'} hj=>?_⟩
   cases j with
   | zero=>simp at hj;subst hj;exact ⟨_,rfl,h⟩
   | succ j=>simp at hj;obtain ⟨d,h1,h2⟩:=ih.2 hj;exact ⟨d,by simpa using h1,h2⟩
 rw [e1,← h.len]
 refine .sl k _ a cap f (by rw [h.len];exact hcap) (fun y hy=>?_) (fun i y hy=>?_) (fun i y hy j d hd=>?_)
 ·obtain ⟨i,hi⟩:=List.getElem?_of_mem hy
  obtain ⟨z,h1,h2⟩:=at2 hi
  rw [← (atL h2).1];exact hk z (List.mem_of_getElem? h1)
 ·obtain ⟨z,h1,h2⟩:=at2 hy
  obtain ⟨b,off,q1,q2,q3,q4⟩:=hc i z h1
  exact ⟨b,off,q1,q2,q3,q4⟩
 ·obtain ⟨z,h1,h2⟩:=at2 hy
  obtain ⟨d0,h3,h4⟩:=(atL h2).2 hd
  exact h4 _ _ _ (hrr i z h1 j d0 h3)
theorem Pk.rowLe {σ τ:aa1} {e:TypeId} {k:Nat} {rs xs:List (List D)} {v:Value} {s:aa1} (h:RowIs e k rs v s) (hl:LeR rs xs) (hp:σ.Perm (s ++ τ)):Pk σ (.v v) (.sl k xs):=
 ⟨fun w X u hs hr=>by have:=hr.val rfl;subst this;exact le_sl hl _ _ _ (aH5 h (hs.perm hp)).stable⟩
theorem Vd.rowLe {σ τ ρ:aa1} {e:TypeId} {k:Nat} {rs xs:List (List D)} {v:Value} {s:aa1} (h:RowIs e k rs v s) (hl:LeR rs xs) (hp:σ.Perm (s ++ ρ)) (hsub:∀ b,b∈ab2 τ→b∈ab2 ρ):Vd σ τ (.v v) (.sl k xs):=
 fun w X u hs hr=>le_sl hl _ _ _ (ah1 ((Vs.row h hp).run w X u hs hr).2 hsub)
structure Sc (σ τ:aa1):Prop where
 run:∀ (w:World) (X:Nat→Prop),StOK w X σ→StOK w X τ
 sub:∀ b,b∈ab2 τ→b∈ab2 σ
theorem Sc.trans {a b c:aa1} (h:Sc a b) (k:Sc b c):Sc a c:=⟨fun w X hs=>k.run w X (h.run w X hs),fun x hx=>h.sub x (k.sub x hx)⟩
theorem Sc.perm {a b:aa1} (h:a.Perm b):Sc a b:=⟨fun _ _ hs=>hs.perm h,fun x hx=>ak0 h x hx⟩
theorem Sc.frz {b:Nat} {t e:TypeId} {cs:List D} {j k:Nat} {xs ys:List (List D)} {v:Value} {s τ:aa1} (hj:cs[j]?=some (.v v)) (h:RowIs e k xs v s) (hl:LeR xs ys):Sc ((b,.cells t cs) :: (s ++ τ)) ((b,.cells t (cs.set j (.sl k ys))) :: τ):=by
 have hsub:∀ x,x∈ab2 ((b,Blk.cells t (cs.set j (.sl k ys))) :: τ)→x∈ab2 ((b,Blk.cells t cs) :: (s ++ τ)):=fun x hx=>by
  simp only [ab2,List.map_cons,List.map_append,List.mem_cons,List.mem_append] at hx ⊢
  rcases hx with h|h
  ·exact .inl h
  ·exact .inr (.inr h)
 refine ⟨fun w X hs=>?_,hsub⟩
 have hO:∀ x,x<w.heap.size→¬ Own ((b,Blk.cells t cs) :: (s ++ τ)) X x→¬ Own ((b,Blk.cells t (cs.set j (.sl k ys))) :: τ) X x:=fun x _ hn ho=>hn (ho.imp id (hsub x))
 have hp:((b,Blk.cells t cs) :: (s ++ τ)).Perm (s ++ ((b,Blk.cells t cs) :: τ)):=List.perm_middle.symm
 have hrow:=aH5 h (hs.perm hp)
 have hrow':Rd w (Own ((b,Blk.cells t (cs.set j (.sl k ys))) :: τ) X) (.sl k ys) v:=le_sl hl _ _ _ (by
  have e:Own ((b,Blk.cells t (cs.set j (.sl k ys))) :: τ) X=Own ((b,Blk.cells t cs) :: τ) X:=rfl
  rw [e];exact hrow)
 refine ⟨?_,fun x kk hm=>?_,hs.xlt,hs.gok.mono (fun x ho=>ho.imp id (hsub x))⟩
 ·have hnd:=hs.nodup
  simp only [ab2,List.map_cons,List.map_append,List.nodup_cons,List.mem_append,List.nodup_append] at hnd ⊢
  exact ⟨fun h=>hnd.1 (.inr h),hnd.2.2.1⟩
 ·rcases List.mem_cons.1 hm with e1|hm
  ·cases e1
   obtain ⟨h1,o,h2,vs,rfl,h3⟩:=hs.at_ b _ List.mem_cons_self
   refine ⟨h1,_,h2,vs,rfl,⟨by rw [List.length_set];exact h3.len,fun i d u hi hu=>?_⟩⟩
   by_cases e2:j=i
   ·subst e2
    rw [List.getElem?_set_self (List.getElem?_eq_some_iff.1 hj).1] at hi
    cases hi
    have:=(h3.at_ j _ u hj hu).val rfl
    rw [this];exact hrow'
   ·rw [List.getElem?_set_ne e2] at hi
    exact ah1 (h3.at_ i d u hi hu) hsub
  ·obtain ⟨h1,o,h2,h3⟩:=hs.at_ x kk (List.mem_cons_of_mem _ (List.mem_append_right _ hm))
   exact ⟨h1,o,h2,Blk.ok_keep (Nat.le_refl _) hO (fun _ _ _=>rfl) h3⟩
section
variable {P:Program} {r:Option Nat} {n:Nat} {df:Nat} {N:Nat} {σ:aa1} {f:Frm} {Q:Fst}
theorem lp_sto {c:Code} {τ:aa1} (hp:Sc σ τ) (k:Lp P r n df N c Q f τ):Lp P r n df N c Q f σ:=
 ⟨fun a hs=>aK3 (fun w X fr h=>⟨h.fr.keep (Nat.le_refl _) (fun x _ hn ho=>hn (ho.imp id (hp.sub x))) (fun _ _ _=>rfl),hp.run w X h.st,h.df.keep (Nat.le_refl _) (fun x _ hn ho=>hn (ho.imp id (hp.sub x))) (fun _ _ _=>rfl)⟩) hp.sub (k.run a hs)⟩
theorem Sc.refl (σ:aa1):Sc σ σ:=⟨fun _ _ h=>h,fun _ h=>h⟩
theorem Sc.drop {τ ρ:aa1} (h:σ.Perm (τ ++ ρ)):Sc σ τ:=⟨fun _ _ hs=>(hs.perm h).sub (List.sublist_append_left _ _),fun x hx=>ak0 h x (by rw [ac0];exact List.mem_append_left _ hx)⟩
theorem Sc.sl {τ:aa1} (h:τ.Sublist σ):Sc σ τ:=⟨fun _ _ hs=>hs.sub h,fun _ hx=>(h.map Prod.fst).subset hx⟩
theorem aK2 {c:Code} {a:List D} {Q1 Q2:Pst} (h:AWP P r n df c Q1 a σ) (k:∀ e a' σ',Q1 e a' σ'→∃ τ,Sc σ' τ∧Q2 e a' τ):AWP P r n df c Q2 a σ:=
 ⟨fun w X fr hs=>wpIn_mono (h.run w X fr hs) fun e fr' w' ⟨a',s',h1,h2,h3⟩=>by
  obtain ⟨τ,q1,q2⟩:=k e a' s' h1
  exact ⟨a',τ,q2,⟨h2.fr.keep (Nat.le_refl _) (fun x _ hn ho=>hn (ho.imp id (q1.sub x))) (fun _ _ _=>rfl),q1.run w' X h2.st,h2.df.keep (Nat.le_refl _) (fun x _ hn ho=>hn (ho.imp id (q1.sub x))) (fun _ _ _=>rfl)⟩,h3.fewer q1.sub⟩⟩
variable {T:TypeId→Option TI} {L:List Oper}
theorem lp_ordS (hm:P.follows .mixedOrders=true) (hT:∀ t i,T t=some i→tiOf P t=some i) {id:Nat} {O:Array Oper} (hO:O=L.toArray) (hs:List Nat) (fu:Nat) (t:Ord) {γ:Type} (ps:γ→Frm) (S:γ→aa1) (I:γ→Prop)
  (hB:(Nat.beq (hs.length+fu) L.length && mixOB .any L.toArray (loE hs) fu t hs (Array.replicate L.length false) && aw4 (loE hs) t)=true)
  (h:W (exHs P T N L (loE hs) σ hs (fun f1=>aZ5 P T r n df N L (fun f' σ'=>∃ g,chkF f' (ar0 (.region id O true) f (ps g))∧Sc σ' (S g)∧I g) t f1 σ) f))
  (kk:∀ g,I g→W (aE7 (ar0 (.region id O true) f (ps g)) fun F=>Q .normal F (S g))):Lp P r n df N (.region id O true) Q f σ:=by
 subst hO
 simp only [Bool.and_eq_true] at hB
 refine ⟨fun a hs'=>?_⟩
 refine aK2 (aI7 (Q:=fun e a' σ'=>e = .normal∧∃ f',Sp N a' f'∧∃ g,chkF f' (ar0 (.region id L.toArray true) f (ps g))∧Sc σ' (S g)∧I g) (loE hs) hs fu t hm (Nat.eq_of_beq_eq_true hB.1.1) hB.1.2 (ay0 (fun a' σ' h'=>?_) (aB7 hT h.h hs'))) ?_
 ·obtain ⟨rfl,f',h1,h2⟩:=h'
  have:=as7 hT hB.2 h2 h1
  exact ao7 (fun a σ h=>⟨rfl,h⟩) this
 ·rintro e a' σ' ⟨rfl,f',h1,g,h2,h4,h3⟩
  exact ⟨S g,h4,_,h1.sub h2,ao9 (kk g h3).h⟩
def joinS {γ:Type} (F:γ→Frm) (S:γ→aa1) (I:γ→Prop) (Q:Fst):Fst
 | .normal,f',σ'=>∃ g,chkF f' (F g)∧Sc σ' (S g)∧I g
 | e,f',σ'=>Q e f' σ'
theorem at6 (hm:P.follows .mixedOrders=true) (hT:∀ t i,T t=some i→tiOf P t=some i) {c:Code} {γ:Type} (ps:γ→Frm) (S:γ→aa1) (I:γ→Prop)
  (h:W (ar3 P T r n df N c (joinS (fun g=>ar0 c f (ps g)) S I Q) f σ))
  (kk:∀ g,I g→W (aE7 (ar0 c f (ps g)) fun F=>Q .normal F (S g))):Lp P r n df N c Q f σ:=by
 refine ⟨fun a hs=>aK2 (ar2 hm hT h.h hs) ?_⟩
 rintro e a' σ' ⟨f',h1,h2⟩
 cases e with
 | normal=>
  obtain ⟨g,h3,h5,h4⟩:=h2
  exact ⟨S g,h5,_,h1.sub h3,ao9 (kk g h4).h⟩
 | _=>exact ⟨σ',Sc.refl _,f',h1,h2⟩
theorem az6 (hm:P.follows .mixedOrders=true) (hT:∀ t i,T t=some i→tiOf P t=some i) {c:Code} {γ:Type} (ps:γ→Frm) (S:γ→aa1) (I:γ→Prop) (μ:γ→Nat) (g₀:γ)
  (h1:chkF f (ar0 c f (ps g₀))) (h2:Sc σ (S g₀)) (h3:I g₀)
  (h4:∀ g,I g→W (aE7 (ar0 c f (ps g)) fun F=>ar3 P T r n df N c (thenF (fun f' σ'=>∃ g',chkF f' (ar0 c f (ps g'))∧Sc σ' (S g')∧I g'∧μ g' < μ g) Q) F (S g))) :
  Lp P r n df N (.loop c) Q f σ:=by
 refine lp_sto h2 ⟨fun a hs=>?_⟩
 refine ba3 (fun m a σ=>∃ g,μ g=m∧I g∧Sp N a (ar0 c f (ps g))∧σ=S g) (μ g₀) ⟨g₀,rfl,h3,hs.sub h1,rfl⟩ ?_
 rintro m a σ ⟨g,rfl,hI,hS,rfl⟩
 refine aK2 (ar2 hm hT (ao9 (h4 g hI).h) hS) ?_
 rintro e a' σ' ⟨f',hs',h'⟩
 cases e with
 | normal=>obtain ⟨g',k1,k2,k3,k4⟩:=h';exact ⟨S g',k2,μ g',k4,g',rfl,k3,hs'.sub k1,rfl⟩
 | _=>exact ⟨σ',Sc.refl _,f',hs',h'⟩
end
end
section
open Go Go.RowKit Go.Shelf
section
variable {P:Program} {r:Option Nat} {n:Nat} {df:Nat} {N:Nat} {σ:aa1} {a:List D} {f:Frm} {T:TypeId→Option TI} {L:List Oper} {Q:Fst}
def isBsl (o:Oper):Bool:=match o.op with
 | .buildSlice _ (_+1) _=>true
 | _=>false
def ay2 (P:Program) (T:TypeId→Option TI) (r:Option Nat) (n:Nat) (df:Nat) (N:Nat) (L:List Oper) (k:Nat) (K:Frm→aa1→Prop) (f:Frm) (σ:aa1):Prop:=match L[k]? with
 | none=>False
 | some o=>match isBsl o with
  | false=>aA9 P T r n df N L k K f σ
  | true=>exG L (cutF (o.looksAt L.toArray) f) o fun go=>match go with
   | true=>OtE P r n df L N o (cutF (o.looksAt L.toArray) f) σ (fun f' σ'=>match o.dst with
    | none=>K f σ'
    | some i=>match am8 f' i with
     | none=>False
     | some d=>bif Nat.blt i N then K ((i,d) :: f) σ' else False)
   | false=>False
theorem aq1 (hT:∀ t i,T t=some i→tiOf P t=some i) {E:Nat→Bool} {k:Nat} {K:Frm→aa1→Prop} {G:List D→aa1→Prop} (hE:E k=true) (h:ay2 P T r n df N L k K f σ) (hs:Sp N a f)
  (hk:∀ f' σ' a',K f' σ'→Sp N a' f'→G a' σ'):gOp P r n df L.toArray E k G a σ:=by
 unfold ay2 at h
 split at h
 ·exact h.elim
 ·rename_i o ho
  split at h
  ·exact ap1 hT hE h hs hk
  ·have ho':L.toArray[k]?=some o:=by simpa using ho
   unfold gOp
   rw [ho']
   simp only [hE]
   obtain ⟨go,hw,h1⟩:=aU0 h (hs.cut _)
   cases go with
   | false=>exact h1.elim
   | true=>
    refine h1.run [] _ _ (hs.cut _) hw (fun f' σ' a' h' hs'=>aops_nil ⟨rfl,by rw [hs'.len,hs.len],?_⟩)
    cases hd:o.dst with
    | none=>
     rw [hd] at h'
     exact ⟨.any,(fun i hi=>by cases hi),hk _ _ _ h' hs⟩
    | some i=>
     rw [hd] at h'
     simp only at h'
     split at h'
     ·exact h'.elim
     ·rename_i d hf'
      obtain ⟨hi,h2⟩:=ae2 h'
      rw [Nat.blt_eq] at hi
      have hia:i<a'.length:=by rw [hs'.len];exact hi
      refine ⟨a'[i],fun j hj _=>by cases hj;exact List.getElem?_eq_getElem hia,hk _ _ _ h2 ?_⟩
      refine ⟨by simp [putD,hs.len],fun j d' hj=>?_⟩
      simp only [am8] at hj
      cases he:Nat.beq i j with
      | true=>
       rw [he] at hj
       simp only [cond_true,Option.some.injEq] at hj
       have:=Nat.eq_of_beq_eq_true he
       subst this hj
       rcases hs'.at_ i _ hf' with h3|h3
       ·exact .inl h3
       ·right
        rw [List.getElem?_eq_getElem hia] at h3
        simp only [Option.some.injEq] at h3
        simp [putD,hs.len,hi,h3]
      | false=>
       rw [he] at hj
       have hne:i≠j:=fun e=>by subst e;simp at he
       rcases hs.at_ j d' hj with h1|h1
       ·exact .inl h1
       ·exact .inr (by simp [putD,List.getElem?_set,hne,h1])
end
end
section
open Go Go.RowKit Go.Shelf
section
variable {P:Program} {r:Option Nat} {n:Nat} {df:Nat} {N:Nat} {σ:aa1} {a:List D} {f:Frm} {T:TypeId→Option TI} {L:List Oper} {Q:Fst} {ρ:Operand→D}
theorem Vs.sc {σ τ:aa1} (h:Sc σ τ) (d:D):Vs σ d τ d:=⟨fun w X _ hs hr=>⟨h.run w X hs,ah1 hr h.sub⟩,h.sub⟩
theorem Sc.any {b:Nat} {e:TypeId} {cs cs':List D} {τ:aa1} (hl:cs'.length=cs.length) (h:∀ (i:Nat) d',cs'[i]?=some d'→d' = .any∨cs[i]?=some d'):Sc ((b,.cells e cs) :: τ) ((b,.cells e cs') :: τ):=by
 refine ⟨fun w X hs=>⟨hs.nodup,fun x kk hm=>?_,hs.xlt,hs.gok⟩,fun b hb=>hb⟩
 rcases List.mem_cons.1 hm with e1|hm
 ·cases e1
  obtain ⟨h1,o,h2,vs,rfl,h3⟩:=hs.at_ b _ List.mem_cons_self
  exact ⟨h1,_,h2,vs,rfl,⟨by rw [h3.len,hl],fun i d u hi hu=>by
   rcases h i d hi with rfl|h'
   ·exact .any u
   ·exact h3.at_ i d u h' hu⟩⟩
 ·exact hs.at_ x kk (List.mem_cons_of_mem _ hm)
end
end
section
open Go
abbrev TO:=Option TI
theorem blt_no {t n:Nat} (h:¬ t<n):Nat.blt t n=false:=by
 rw [Bool.eq_false_iff];intro hb;rw [Nat.blt_eq] at hb;exact h hb
def tt0:TO:=some ⟨false,1,[],none,none,[],false⟩
def tt1:TO:=some ⟨false,1,[],none,none,[.fn],false⟩
def tt2:TO:=some ⟨false,1,[],none,none,[.int .i64],false⟩
def tt3:TO:=some ⟨false,1,[],none,none,[.bool],false⟩
def tt4:TO:=some ⟨false,1,[],none,none,[.int .u8],false⟩
def tt5:TO:=some ⟨true,4,[(0,false,1),(1,false,1),(2,false,1),(3,false,1)],none,none,[.int .i64,.int .i64,.bool,.int .u8],false⟩
def tt6:TO:=some ⟨false,1,[],none,none,[.str],true⟩
def tt7:TO:=some ⟨false,1,[],none,none,[.int .u64],false⟩
def tt8:TO:=some ⟨true,2,[(0,false,1),(1,false,1)],none,none,[.str,.int .u64],false⟩
def tt9:TO:=some ⟨false,1,[],none,none,[.ptr],false⟩
def tt10:TO:=some ⟨true,1,[(0,false,1)],none,none,[.ptr],false⟩
def tt11:TO:=some ⟨false,1,[],none,none,[.ifc],false⟩
def tt12:TO:=some ⟨false,1,[],none,none,[.int .i32],false⟩
def tt13:TO:=some ⟨false,1,[],some (3,false,1,8),none,[.sl],false⟩
def tt14:TO:=some ⟨false,1,[],some (43,true,4,80),none,[.sl],false⟩
def tt15:TO:=some ⟨false,1,[],some (30,false,1,24),none,[.sl],false⟩
def tt16:TO:=some ⟨false,1,[],some (34,false,1,24),none,[.sl],false⟩
def tt17:TO:=some ⟨false,1,[],some (75,false,1,24),none,[.sl],false⟩
def tt18:TO:=some ⟨true,2,[(0,false,1),(1,false,1)],none,none,[.int .i64,.int .i64],false⟩
def tt19:TO:=some ⟨false,1,[],some (62,false,1,24),none,[.sl],false⟩
def tt20:TO:=some ⟨false,1,[],some (97,true,4,56),none,[.sl],false⟩
def tt21:TO:=some ⟨false,1,[],some (102,true,3,64),none,[.sl],false⟩
def tt22:TO:=some ⟨false,1,[],some (105,true,5,72),none,[.sl],false⟩
def tt23:TO:=some ⟨true,4,[(0,false,1),(1,false,1),(2,false,1),(3,false,1)],none,none,[.int .i64,.sl,.sl,.sl],false⟩
def tt24:TO:=some ⟨false,1,[],some (33,true,2,16),none,[.sl],false⟩
def tt25:TO:=some ⟨false,1,[],some (4,false,1,1),none,[.sl],false⟩
def tt26:TO:=some ⟨false,1,[],some (22,false,1,24),none,[.sl],false⟩
def tt27:TO:=some ⟨true,2,[(0,false,1),(1,false,1)],none,none,[.sl,.int .i64],false⟩
def tt28:TO:=some ⟨false,1,[],some (111,true,8,120),none,[.sl],false⟩
def tt29:TO:=some ⟨true,4,[(0,false,1),(1,false,1),(2,false,1),(3,false,1)],none,none,[.str,.int .i64,.int .i64,.sl],false⟩
def tt30:TO:=some ⟨false,1,[],some (9,false,1,16),none,[.sl],false⟩
def tt31:TO:=some ⟨false,1,[],some (103,true,2,16),none,[.sl],false⟩
def tt32:TO:=some ⟨true,3,[(0,false,1),(1,false,1),(2,false,1)],none,none,[.str,.sl,.sl],false⟩
def tt33:TO:=some ⟨true,2,[],none,some (2,false,1),[.int .i64,.int .i64],false⟩
def tt34:TO:=some ⟨true,5,[(0,false,1),(1,false,1),(2,false,1),(3,false,1),(4,false,1)],none,none,[.str,.str,.str,.str,.int .i64],false⟩
def tt35:TO:=some ⟨true,8,[(0,false,1),(1,false,1),(2,false,1),(3,false,1),(4,false,1),(5,false,1),(6,false,1),(7,false,1)],none,none,[.str,.str,.str,.int .i64,.int .i64,.int .i64,.sl,.sl],false⟩
def tt36:TO:=some ⟨false,1,[],none,none,[.map],false⟩
def tt37:TO:=some ⟨false,1,[],some (121,true,4,32),none,[.sl],false⟩
def tt38:TO:=some ⟨true,4,[(0,false,1),(1,false,1),(2,false,1),(3,false,1)],none,none,[.int .i64,.int .i64,.int .i64,.int .i64],false⟩
def tt39:TO:=some ⟨false,1,[],some (125,true,4,32),none,[.sl],false⟩
def tt40:TO:=some ⟨true,4,[],none,some (4,false,1),[.int .i64,.int .i64,.int .i64,.int .i64],false⟩
def tt41:TO:=some ⟨false,1,[],some (150,true,4,32),none,[.sl],false⟩
def tt42:TO:=some ⟨true,4,[(0,false,1),(1,false,1),(2,false,1),(3,false,1)],none,none,[.sl,.sl,.sl,.map],false⟩
def tt43:TO:=some ⟨false,1,[],some (194,true,4,32),none,[.sl],false⟩
def tt44:TO:=some ⟨true,2,[(0,false,1),(1,false,1)],none,none,[.bool,.int .i64],false⟩
def tt45:TO:=some ⟨true,1,[(0,false,1)],none,none,[.fn],false⟩
def tt46:TO:=some ⟨true,14,[(0,true,4),(4,false,1),(5,false,1),(6,true,8)],none,none,[.int .i64,.sl,.sl,.sl,.int .i64,.int .i64,.str,.str,.str,.int .i64,.int .i64,.int .i64,.sl,.sl],false⟩
def tt47:TO:=some ⟨false,1,[],none,none,[.int .u32],false⟩
def tt48:TO:=some ⟨false,1,[],some (156,true,2,16),none,[.sl],false⟩
def tt49:TO:=some ⟨false,1,[],some (5,false,1,1),none,[.sl],false⟩
def tt50:TO:=some ⟨true,2,[(0,false,1),(1,false,1)],none,none,[.ptr,.sl],false⟩
def tt51:TO:=some ⟨false,1,[],some (20,false,1,16),none,[.sl],false⟩
def tt52:TO:=some ⟨true,9,[],none,some (9,false,1),[.str,.str,.str,.str,.str,.str,.str,.str,.str],false⟩
def tt53:TO:=some ⟨true,24,[],none,some (24,false,1),[.int .u8,.int .u8,.int .u8,.int .u8,.int .u8,.int .u8,.int .u8,.int .u8,.int .u8,.int .u8,.int .u8,.int .u8,.int .u8,.int .u8,.int .u8,.int .u8,.int .u8,.int .u8,.int .u8,.int .u8,.int .u8,.int .u8,.int .u8,.int .u8],false⟩
def tt54:TO:=some ⟨true,20,[],none,some (20,false,1),[.int .u64,.int .u64,.int .u64,.int .u64,.int .u64,.int .u64,.int .u64,.int .u64,.int .u64,.int .u64,.int .u64,.int .u64,.int .u64,.int .u64,.int .u64,.int .u64,.int .u64,.int .u64,.int .u64,.int .u64],false⟩
def tt55:TO:=some ⟨true,65,[],none,some (65,false,1),[.int .u8,.int .u8,.int .u8,.int .u8,.int .u8,.int .u8,.int .u8,.int .u8,.int .u8,.int .u8,.int .u8,.int .u8,.int .u8,.int .u8,.int .u8,.int .u8,.int .u8,.int .u8,.int .u8,.int .u8,.int .u8,.int .u8,.int .u8,.int .u8,.int .u8,.int .u8,.int .u8,.int .u8,.int .u8,.int .u8,.int .u8,.int .u8,.int .u8,.int .u8,.int .u8,.int .u8,.int .u8,.int .u8,.int .u8,.int .u8,.int .u8,.int .u8,.int .u8,.int .u8,.int .u8,.int .u8,.int .u8,.int .u8,.int .u8,.int .u8,.int .u8,.int .u8,.int .u8,.int .u8,.int .u8,.int .u8,.int .u8,.int .u8,.int .u8,.int .u8,.int .u8,.int .u8,.int .u8,.int .u8,.int .u8],false⟩
def tt56:TO:=some ⟨true,32,[],none,some (32,false,1),[.int .u8,.int .u8,.int .u8,.int .u8,.int .u8,.int .u8,.int .u8,.int .u8,.int .u8,.int .u8,.int .u8,.int .u8,.int .u8,.int .u8,.int .u8,.int .u8,.int .u8,.int .u8,.int .u8,.int .u8,.int .u8,.int .u8,.int .u8,.int .u8,.int .u8,.int .u8,.int .u8,.int .u8,.int .u8,.int .u8,.int .u8,.int .u8],false⟩
def tt57:TO:=some ⟨true,64,[],none,some (64,false,1),[.int .u8,.int .u8,.int .u8,.int .u8,.int .u8,.int .u8,.int .u8,.int .u8,.int .u8,.int .u8,.int .u8,.int .u8,.int .u8,.int .u8,.int .u8,.int .u8,.int .u8,.int .u8,.int .u8,.int .u8,.int .u8,.int .u8,.int .u8,.int .u8,.int .u8,.int .u8,.int .u8,.int .u8,.int .u8,.int .u8,.int .u8,.int .u8,.int .u8,.int .u8,.int .u8,.int .u8,.int .u8,.int .u8,.int .u8,.int .u8,.int .u8,.int .u8,.int .u8,.int .u8,.int .u8,.int .u8,.int .u8,.int .u8,.int .u8,.int .u8,.int .u8,.int .u8,.int .u8,.int .u8,.int .u8,.int .u8,.int .u8,.int .u8,.int .u8,.int .u8,.int .u8,.int .u8,.int .u8,.int .u8],false⟩
def tt58:TO:=some ⟨true,4,[(0,false,1),(1,false,1),(2,false,1),(3,false,1)],none,none,[.ptr,.ptr,.ptr,.str],false⟩
def tt59:TO:=some ⟨true,0,[],none,some (0,false,1),[],false⟩
def tt60:TO:=some ⟨true,0,[(0,true,0)],none,none,[],false⟩
def tt61:TO:=some ⟨true,11,[(0,false,1),(1,false,1),(2,false,1),(3,false,1),(4,false,1),(5,false,1),(6,false,1),(7,false,1),(8,false,1),(9,false,1),(10,false,1)],none,none,[.int .u64,.int .u64,.int .u32,.int .u8,.int .u8,.int .u8,.int .u8,.fn,.ptr,.int .i32,.int .i32],false⟩
def tget (t:Nat):TO:=bif Nat.blt t 268 then (bif Nat.blt t 134 then (bif Nat.blt t 67 then (bif Nat.blt t 33 then (bif Nat.blt t 16 then (bif Nat.blt t 8 then (bif Nat.blt t 4 then (bif Nat.blt t 2 then (bif Nat.blt t 1 then (tt0) else (tt1)) else (tt2)) else (bif Nat.blt t 6 then (bif Nat.blt t 5 then (tt3) else (tt4)) else (bif Nat.blt t 7 then (tt4) else (tt5)))) else (bif Nat.blt t 12 then (bif Nat.blt t 10 then (bif Nat.blt t 9 then (tt5) else (tt6)) else (tt6)) else (bif Nat.blt t 14 then (bif Nat.blt t 13 then (tt7) else (tt8)) else (bif Nat.blt t 15 then (tt8) else (tt9))))) else (bif Nat.blt t 24 then (bif Nat.blt t 20 then (bif Nat.blt t 18 then (tt9) else (tt10)) else (bif Nat.blt t 22 then (bif Nat.blt t 21 then (tt11) else (tt12)) else (bif Nat.blt t 23 then (tt13) else (tt14)))) else (bif Nat.blt t 28 then (bif Nat.blt t 26 then (bif Nat.blt t 25 then (tt15) else (tt0)) else (bif Nat.blt t 27 then (tt1) else (tt16))) else (bif Nat.blt t 30 then (bif Nat.blt t 29 then (tt1) else (tt17)) else (bif Nat.blt t 31 then (tt17) else (bif Nat.blt t 32 then (tt1) else (tt18))))))) else (bif Nat.blt t 50 then (bif Nat.blt t 41 then (bif Nat.blt t 37 then (bif Nat.blt t 35 then (bif Nat.blt t 34 then (tt18) else (tt19)) else (bif Nat.blt t 36 then (tt19) else (tt2))) else (bif Nat.blt t 39 then (bif Nat.blt t 38 then (tt0) else (tt1)) else (bif Nat.blt t 40 then (tt20) else (tt21)))) else (bif Nat.blt t 45 then (bif Nat.blt t 43 then (bif Nat.blt t 42 then (tt22) else (tt23)) else (bif Nat.blt t 44 then (tt23) else (tt0))) else (bif Nat.blt t 47 then (bif Nat.blt t 46 then (tt1) else (tt24)) else (bif Nat.blt t 48 then (tt0) else (tt1))))) else (bif Nat.blt t 58 then (tt1) else (bif Nat.blt t 62 then (tt1) else (bif Nat.blt t 64 then (bif Nat.blt t 63 then (tt25) else (tt1)) else (tt1)))))) else (bif Nat.blt t 100 then (bif Nat.blt t 83 then (bif Nat.blt t 75 then (bif Nat.blt t 71 then (bif Nat.blt t 69 then (tt1) else (bif Nat.blt t 70 then (tt1) else (tt0))) else (tt1)) else (bif Nat.blt t 79 then (bif Nat.blt t 77 then (bif Nat.blt t 76 then (tt26) else (tt1)) else (bif Nat.blt t 78 then (tt1) else (tt9))) else (tt1))) else (bif Nat.blt t 91 then (bif Nat.blt t 87 then (tt1) else (bif Nat.blt t 89 then (bif Nat.blt t 88 then (tt1) else (tt0)) else (tt1))) else (bif Nat.blt t 95 then (bif Nat.blt t 93 then (bif Nat.blt t 92 then (tt9) else (tt27)) else (bif Nat.blt t 94 then (tt27) else (tt1))) else (bif Nat.blt t 97 then (bif Nat.blt t 96 then (tt28) else (tt29)) else (bif Nat.blt t 98 then (tt29) else (bif Nat.blt t 99 then (tt1) else (tt30))))))) else (bif Nat.blt t 117 then (bif Nat.blt t 108 then (bif Nat.blt t 104 then (bif Nat.blt t 102 then (bif Nat.blt t 101 then (tt31) else (tt32)) else (bif Nat.blt t 103 then (tt32) else (tt33))) else (bif Nat.blt t 106 then (tt34) else (bif Nat.blt t 107 then (tt0) else (tt1)))) else (bif Nat.blt t 112 then (bif Nat.blt t 110 then (tt1) else (tt35)) else (bif Nat.blt t 114 then (tt1) else (bif Nat.blt t 115 then (tt1) else (bif Nat.blt t 116 then (tt1) else (tt36)))))) else (bif Nat.blt t 125 then (bif Nat.blt t 121 then (bif Nat.blt t 119 then (bif Nat.blt t 118 then (tt1) else (tt37)) else (bif Nat.blt t 120 then (tt1) else (tt38))) else (bif Nat.blt t 123 then (bif Nat.blt t 122 then (tt38) else (tt1)) else (bif Nat.blt t 124 then (tt39) else (tt1)))) else (bif Nat.blt t 129 then (bif Nat.blt t 127 then (bif Nat.blt t 126 then (tt40) else (tt1)) else (bif Nat.blt t 128 then (tt1) else (tt41))) else (bif Nat.blt t 131 then (tt1) else (bif Nat.blt t 132 then (tt1) else (bif Nat.blt t 133 then (tt36) else (tt42))))))))) else (bif Nat.blt t 201 then (bif Nat.blt t 167 then (bif Nat.blt t 150 then (bif Nat.blt t 142 then (bif Nat.blt t 138 then (bif Nat.blt t 136 then (bif Nat.blt t 135 then (tt42) else (tt43)) else (tt1)) else (tt1)) else (bif Nat.blt t 146 then (bif Nat.blt t 144 then (bif Nat.blt t 143 then (tt1) else (tt7)) else (bif Nat.blt t 145 then (tt0) else (tt1))) else (bif Nat.blt t 148 then (bif Nat.blt t 147 then (tt0) else (tt1)) else (bif Nat.blt t 149 then (tt1) else (tt38))))) else (bif Nat.blt t 158 then (bif Nat.blt t 154 then (bif Nat.blt t 152 then (bif Nat.blt t 151 then (tt38) else (tt1)) else (tt1)) else (bif Nat.blt t 156 then (bif Nat.blt t 155 then (tt1) else (tt44)) else (bif Nat.blt t 157 then (tt44) else (tt1)))) else (bif Nat.blt t 162 then (bif Nat.blt t 160 then (bif Nat.blt t 159 then (tt1) else (tt45)) else (bif Nat.blt t 161 then (tt0) else (tt36))) else (bif Nat.blt t 164 then (tt46) else (tt1))))) else (bif Nat.blt t 184 then (bif Nat.blt t 175 then (bif Nat.blt t 171 then (tt1) else (bif Nat.blt t 173 then (bif Nat.blt t 172 then (tt1) else (tt47)) else (bif Nat.blt t 174 then (tt0) else (tt1)))) else (bif Nat.blt t 179 then (bif Nat.blt t 177 then (bif Nat.blt t 176 then (tt7) else (tt0)) else (bif Nat.blt t 178 then (tt1) else (tt0))) else (bif Nat.blt t 181 then (bif Nat.blt t 180 then (tt1) else (tt0)) else (tt1)))) else (bif Nat.blt t 192 then (tt1) else (bif Nat.blt t 196 then (bif Nat.blt t 194 then (bif Nat.blt t 193 then (tt48) else (tt1)) else (bif Nat.blt t 195 then (tt38) else (tt1))) else (tt1))))) else (bif Nat.blt t 234 then (bif Nat.blt t 217 then (bif Nat.blt t 209 then (bif Nat.blt t 205 then (bif Nat.blt t 203 then (tt1) else (bif Nat.blt t 204 then (tt9) else (tt49))) else (bif Nat.blt t 207 then (tt50) else (tt11))) else (bif Nat.blt t 213 then (bif Nat.blt t 211 then (bif Nat.blt t 210 then (tt0) else (tt1)) else (tt1)) else (bif Nat.blt t 215 then (bif Nat.blt t 214 then (tt51) else (tt1)) else (tt1)))) else (bif Nat.blt t 225 then (bif Nat.blt t 221 then (bif Nat.blt t 219 then (tt1) else (bif Nat.blt t 220 then (tt0) else (tt1))) else (tt1)) else (bif Nat.blt t 229 then (bif Nat.blt t 227 then (tt1) else (bif Nat.blt t 228 then (tt1) else (tt52))) else (bif Nat.blt t 231 then (bif Nat.blt t 230 then (tt1) else (tt9)) else (bif Nat.blt t 232 then (tt0) else (tt1)))))) else (bif Nat.blt t 251 then (bif Nat.blt t 242 then (bif Nat.blt t 238 then (tt1) else (bif Nat.blt t 240 then (bif Nat.blt t 239 then (tt9) else (tt1)) else (bif Nat.blt t 241 then (tt1) else (tt53)))) else (bif Nat.blt t 246 then (bif Nat.blt t 244 then (tt1) else (bif Nat.blt t 245 then (tt0) else (tt1))) else (bif Nat.blt t 248 then (bif Nat.blt t 247 then (tt1) else (tt54)) else (bif Nat.blt t 249 then (tt55) else (tt1))))) else (bif Nat.blt t 259 then (bif Nat.blt t 255 then (bif Nat.blt t 253 then (bif Nat.blt t 252 then (tt1) else (tt56)) else (bif Nat.blt t 254 then (tt57) else (tt58))) else (bif Nat.blt t 257 then (bif Nat.blt t 256 then (tt58) else (tt59)) else (tt60))) else (bif Nat.blt t 263 then (bif Nat.blt t 261 then (bif Nat.blt t 260 then (tt1) else (tt4)) else (bif Nat.blt t 262 then (tt4) else (tt1))) else (bif Nat.blt t 265 then (tt12) else (bif Nat.blt t 266 then (tt61) else (bif Nat.blt t 267 then (tt61) else (tt1)))))))))) else none
theorem tab_all:((List.range 268).all fun t=>decide (tiOf Tryz.prog t=tget t))=true:=by kernel_rfl
theorem aa0 (t:TypeId) (i:TI) (h:tget t=some i):tiOf Tryz.prog t=some i:=by
 by_cases ht:t<268
 ·have:=List.all_eq_true.1 tab_all t (List.mem_range.2 ht)
  rw [of_decide_eq_true this];exact h
 ·unfold tget at h
  rw [blt_no ht] at h
  cases h
theorem mixed:Tryz.prog.follows .mixedOrders=true:=by kernel_rfl
end
section
open Go
def ab3 (x:Sch) (n:ByteArray):Int:=idx (fun k=>seq k.name n) x.kinds
def ab6 (k:Knd) (n:ByteArray):Int:=idx (fun f=>seq f.name n) k.fields
def ad9 (x:Sch) (i:Int):Option Knd:=if 0≤i then x.kinds[i.toNat]? else none
def fieldAt (x:Sch) (i j:Int):Option Fld:=match ad9 x i with|some k=>if 0≤j then k.fields[j.toNat]? else none|none=>none
def refUp (x:Sch) (i:Int) (f:Fld):Int:=if ab3 x f.of<i then ab3 x f.of else -1
def aD4 (u j:Int):Option Fld→Option Fld
 | some g=>if u<j∧g.kind=1 then some g else none
 | none=>none
def upField (x:Sch) (i j:Int) (f:Fld):Option Fld:=
 match ad9 x i with
 | none=>none
 | some k=>aD4 (ab6 k f.up) j (fieldAt x i (ab6 k f.up))
def au6 (x:Sch) (i:Int):Option Fld→Int
 | some g=>refUp x i g
 | none=>-1
def upIx (x:Sch) (i j:Int):Int:=
 match fieldAt x i j with
 | none=>-1
 | some f=>if f.kind=7∨f.kind=8 then au6 x i (upField x i j f) else if f.kind=1 then refUp x i f else -1
def ap7 (x:Sch) (i:Int) (f:Fld):List Int:=
 match ad9 x (ab3 x f.of) with
 | none=>[]
 | some k=>((List.range k.fields.length).filter fun (j:Nat)=>match k.fields[j]? with|some g=>decide (g.kind=7) && seq g.of f.name && decide (upIx x (ab3 x f.of) j=i)|none=>false).map (fun (j:Nat)=>(j:Int))
def aj4 (x:Sch) (i:Int) (f:Fld):Bool:=!decide (f.kind=6) || decide (ab3 x f.of≤i)
end
section
open Go
abbrev iD (n:Int):D:=.v (.int .i64 n)
abbrev bD (b:Bool):D:=.v (.bool b)
abbrev sD (s:ByteArray):D:=.v (.string s)
def slI (xs:List Int):D:=.sl 1 (xs.map fun x=>[iD x])
def slS (xs:List ByteArray):D:=.sl 1 (xs.map fun x=>[sD x])
def fldC (f:Fld):List D:=[sD f.name,sD f.of,sD f.up,iD f.kind,iD f.lo,iD f.hi,slS f.words,slI f.weights]
def slF (xs:List Fld):D:=.sl 8 (xs.map fldC)
def kndC (k:Knd):List D:=[sD k.name,iD k.lo,iD k.hi,slF k.fields]
def slK (xs:List Knd):D:=.sl 4 (xs.map kndC)
def movC (m:Int × Int):List D:=[iD m.1,iD m.2]
def lifC (x:Lif):List D:=[sD x.name,slS x.states,.sl 2 (x.moves.map movC)]
def slL (xs:List Lif):D:=.sl 3 (xs.map lifC)
def rulC (x:Rul):List D:=[sD x.name,sD x.kind,sD x.a,sD x.b,iD x.n]
def slR (xs:List Rul):D:=.sl 5 (xs.map rulC)
def schC (x:Sch):List D:=[iD x.version,slK x.kinds,slL x.lives,slR x.rules]
abbrev schD (x:Sch):D:=.agg (schC x)
abbrev kndD (x:Knd):D:=.agg (kndC x)
abbrev fldD (x:Fld):D:=.agg (fldC x)
abbrev lifD (x:Lif):D:=.agg (lifC x)
abbrev rulD (x:Rul):D:=.agg (rulC x)
end
section
open Go
def aq8 (x:Sch) (o i:Int) (f:Fld) (g:Fld) (j:Nat):Bool:=decide (g.kind=7) && seq g.of f.name && decide (upIx x o j=i)
def ai5 (x:Sch) (o i:Int) (f:Fld) (fs:List Fld) (n:Nat):List Int:=
 ((List.range n).filter fun (j:Nat)=>match fs[j]? with|some g=>aq8 x o i f g j|none=>false).map (fun (j:Nat)=>(j:Int))
theorem ap6 (x:Sch) (o i:Int) (f:Fld) (fs:List Fld) (n:Nat) (g:Fld) (h:fs[n]?=some g):ai5 x o i f fs (n+1)=ai5 x o i f fs n ++ (if aq8 x o i f g n then [(n:Int)] else []):=by
 simp only [ai5,List.range_succ,List.filter_append,List.map_append]
 congr 1
 simp only [List.filter_cons,h,List.filter_nil]
 split <;> simp_all
theorem aH1 (x:Sch) (o i:Int) (f:Fld) (fs:List Fld) (n:Nat):(ai5 x o i f fs n).length≤n:=by
 simp only [ai5,List.length_map]
 exact Nat.le_trans (List.length_filter_le _ _) (by simp)
theorem sharesOf_eq (x:Sch) (i:Int) (f:Fld) (k:Knd) (hk:ad9 x (ab3 x f.of)=some k):ap7 x i f=ai5 x (ab3 x f.of) i f k.fields k.fields.length:=by
 simp only [ap7,hk,ai5,aq8] <;> rfl
theorem bf0 (x:Sch) (n:ByteArray) (h:0≤ab3 x n):∃ (o:Nat) (k:Knd),ab3 x n=o∧x.kinds[o]?=some k∧seq k.name n=true:=by
 unfold ab3 idx at *
 split at h
 ·rename_i o ho
  obtain ⟨h1,h2,_⟩:=List.findIdx?_eq_some_iff_getElem.1 ho
  exact ⟨o,x.kinds[o],by simp [ho],List.getElem?_eq_getElem h1,h2⟩
 ·omega
theorem refUp_at (x:Sch) (i:Int) (f:Fld) (h:0≤refUp x i f):∃ (o:Nat) (k:Knd),refUp x i f=o∧x.kinds[o]?=some k:=by
 unfold refUp at *
 split at h
 ·obtain ⟨o,k,h1,h2,_⟩:=bf0 x f.of h
  exact ⟨o,k,by rw [if_pos (by assumption)];exact h1,h2⟩
 ·omega
theorem upIx_at (x:Sch) (i j:Int) (h:0≤upIx x i j):∃ (o:Nat) (k:Knd),upIx x i j=o∧x.kinds[o]?=some k:=by
 unfold upIx at *
 cases hf:fieldAt x i j with
 | none=>simp [hf] at h
 | some f=>
  simp only [hf] at h ⊢
  split at h
  ·rename_i h7
   simp only [h7,if_true]
   unfold au6 at *
   split at h
   ·rename_i g hg;exact refUp_at x i g h
   ·omega
  ·rename_i h7
   simp only [h7,if_false]
   split at h
   ·rename_i h1;simp only [h1,if_true];exact refUp_at x i f h
   ·omega
def topF (x:Sch) (i j:Int) (f:Fld):Option Fld:=
 if upIx x i j<0 then none else match ad9 x (upIx x i j) with|some k=>fieldAt x (upIx x i j) (ab6 k f.of)|none=>none
def aK5:Fld:=⟨⟨#[]⟩,⟨#[]⟩,⟨#[]⟩,0,0,0,[],[]⟩
def topR (x:Sch) (i j:Int) (f:Fld):Fld × Bool:=match topF x i j f with|some g=>(g,true)|none=>(aK5,false)
def atR (x:Sch) (i j:Int):Fld × Bool:=match fieldAt x i j with|some g=>(g,true)|none=>(aK5,false)
def am5:List (Bool × Int)→Int
 | []=>0
 | (true,c) :: _=>c
 | (false,_) :: l=>am5 l
def ae9 (x:Sch) (k:Knd) (o:Int) (n:ByteArray):Bool:=!isE n && !(atR x o (ab6 k n)).2
def ac7 (x:Sch) (k:Knd) (o:Int) (n:ByteArray):Bool:=!isE n && ((atR x o (ab6 k n)).1.kind != 2 && (atR x o (ab6 k n)).1.kind != 4)
def ae7 (x:Sch) (i:Nat) (r:Rul):Bool:=(x.rules.take i).any (fun s=>seq s.name r.name)
def aw6 (x:Sch) (i:Nat) (r:Rul):Int:=
 match ad9 x (ab3 x r.kind) with
 | none=>am5 [(ae7 x i r,7),(true,12),(false,13),(seq r.a r.b,1)]
 | some k=>am5 [(ae7 x i r,7),(ae9 x k (ab3 x r.kind) r.a || ae9 x k (ab3 x r.kind) r.b,12),(ac7 x k (ab3 x r.kind) r.a || ac7 x k (ab3 x r.kind) r.b,13),(seq r.a r.b,1)]
theorem aB6:∀ (fs:List (Bool × Int)) (n:Nat),(∀ (j:Nat) x,j<n→fs[j]?=some x→x.1=false)→am5 (fs.drop n)=am5 fs
 | fs,0,_=>by simp
 | [],n+1,_=>by simp
 | (b,c) :: l,n+1,h=>by
  have hb:b=false:=h 0 (b,c) (by omega) rfl
  subst hb
  have:=aB6 l n (fun j x hj hx=>h (j+1) x (by omega) (by simpa using hx))
  simpa [am5] using this
theorem firstC_at {fs:List (Bool × Int)} {n:Nat} {x:Bool × Int} (h:∀ (j:Nat) x,j<n→fs[j]?=some x→x.1=false) (hx:fs[n]?=some x) (hb:x.1=true):am5 fs=x.2:=by
 rw [← aB6 fs n h]
 have hlt:=(List.getElem?_eq_some_iff.1 hx).1
 have he:=(List.getElem?_eq_some_iff.1 hx).2
 rw [List.drop_eq_getElem_cons hlt,he]
 obtain ⟨b,c⟩:=x
 simp only at hb;subst hb;rfl
theorem firstC_none {fs:List (Bool × Int)} (h:∀ (j:Nat) x,fs[j]?=some x→x.1=false):am5 fs=0:=by
 rw [← aB6 fs fs.length (fun j x _ hx=>h j x hx),List.drop_length];rfl
end
end Go.Proofs.YtjbbmjjildhfbaaGreatDoor
