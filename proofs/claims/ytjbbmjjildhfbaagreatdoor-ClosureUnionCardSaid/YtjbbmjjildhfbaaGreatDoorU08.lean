/- A part of the proof: Ns Nt Mp Lo Jn Jp Bl Bp. -/
import Derived.Test.YtjbbmjjildhfbaaGreatDoorU07
import Derived.WideKeyEntry
import Derived.Laws.AppendOwn
set_option maxRecDepth 100000
set_option maxHeartbeats 4000000
set_option linter.unusedVariables false
set_option linter.unusedSimpArgs false
namespace Go.Proofs.YtjbbmjjildhfbaaGreatDoor
section
open Go Go.RowKit Go.Shelf
abbrev ORep (α : Type):=α → Value → Store → Prop
inductive All3 {α : Type} (R : ORep α) : List α → List Value → List Store → Prop
 | nil : All3 R [] [] []
 | cons {x : α} {u : Value} {t : Store} {xs : List α} {vs : List Value} {ts : List Store} (h : R x u t) (k : All3 R xs vs ts) : All3 R (x :: xs) (u :: vs) (t :: ts)
section
variable {α : Type} {R : ORep α}
theorem All3.len {xs : List α} {vs : List Value} {ts : List Store} (h : All3 R xs vs ts) : vs.length = xs.length ∧ ts.length = xs.length:=by
 induction h with
 | nil=>exact ⟨rfl,rfl⟩
 | cons h k ih=>simp [ih.1,ih.2]
theorem All3.at {xs : List α} {vs : List Value} {ts : List Store} (h : All3 R xs vs ts) : ∀ {i : Nat} {x : α},xs[i]? = some x → ∃ u t τ,vs[i]? = some u ∧ R x u t ∧ ts.flatten.Perm (t ++ τ) ∧
  ∀ x' u' t',R x' u' t' → ∃ ts',All3 R (xs.set i x') (vs.set i u') ts' ∧ ts'.flatten.Perm (t' ++ τ):=by
 induction h with
 | nil=>intro i x hx;simp at hx
 | @cons y u t xs vs ts h k ih=>
  intro i x hx
  cases i with
  | zero=>
   simp at hx
   subst hx
   exact ⟨u,t,ts.flatten,rfl,h,by simp,fun x' u' t' h'=>⟨t' :: ts,.cons h' k,by simp⟩⟩
  | succ i=>
   simp at hx
   obtain ⟨u2,t2,τ,h1,h2,h3,h4⟩:=ih hx
   refine ⟨u2,t2,t ++ τ,by simpa using h1,h2,?_,fun x' u' t' h'=>?_⟩
   ·rw [List.flatten_cons]
    refine (List.Perm.append_left t h3).trans ?_
    rw [← List.append_assoc,← List.append_assoc]
    exact List.perm_append_comm.append_right _
   ·obtain ⟨ts',k1,k2⟩:=h4 x' u' t' h'
    refine ⟨t :: ts',by simpa using All3.cons h k1,?_⟩
    rw [List.flatten_cons]
    refine (List.Perm.append_left t k2).trans ?_
    rw [← List.append_assoc,← List.append_assoc]
    exact List.perm_append_comm.append_right _
theorem All3.append {xs ys : List α} {vs us : List Value} {ts ss : List Store} (h : All3 R xs vs ts) (k : All3 R ys us ss) : All3 R (xs ++ ys) (vs ++ us) (ts ++ ss):=by
 induction h with
 | nil=>exact k
 | cons h _ ih=>exact .cons h ih
theorem All3.rep {x : α} {u : Value} {t : Store} (h : R x u t) : ∀ n,All3 R (List.replicate n x) (List.replicate n u) (List.replicate n t)
 | 0=>.nil
 | n + 1=>by rw [List.replicate_succ,List.replicate_succ,List.replicate_succ];exact .cons h (All3.rep h n)
structure RowsOf (e : TypeId) (R : ORep α) (xs : List α) (v : Value) (s : Store) : Prop where
 ex : ∃ (vs : List Value) (s0 : Store) (ts : List Store),RowIs e 1 (vs.map fun u=>[D.v u]) v s0 ∧ All3 R xs vs ts ∧ s.Perm (s0 ++ ts.flatten)
theorem RowsOf.perm {e : TypeId} {xs : List α} {v : Value} {s s' : Store} (h : RowsOf e R xs v s) (hp : s'.Perm s) : RowsOf e R xs v s':=by
 obtain ⟨vs,s0,ts,h1,h2,h3⟩:=h.ex
 exact ⟨vs,s0,ts,h1,h2,hp.trans h3⟩
theorem RowsOf.slice {e : TypeId} {xs : List α} {v : Value} {s : Store} (h : RowsOf e R xs v s) : ∃ a c,v = .slice a xs.length c:=by
 obtain ⟨vs,s0,ts,h1,h2,h3⟩:=h.ex
 obtain ⟨a,c,e⟩:=h1.slice
 rw [List.length_map,h2.len.1] at e
 exact ⟨a,c,e⟩
theorem flat1 (vs : List Value) : (vs.map fun u=>[D.v u]).flatten = vs.map D.v:=by
 induction vs with
 | nil=>rfl
 | cons v vs ih=>simp [ih]
theorem RowIs.block {e : TypeId} {k : Nat} {xs : List (List D)} {v : Value} {s : Store} (h : RowIs e k xs v s) (hne : xs ≠ []) : ∃ b cap junk,v = .slice (some ⟨b,0,none⟩) xs.length cap ∧ s = [(b,.cells e (xs.flatten ++ junk))] ∧ xs.length ≤ cap ∧ cap ≤ maxLen ∧ xs.length * k + junk.length = cap * k ∧ ∀ d ∈ junk,d = D.any:=by
 rcases h.is with ⟨_,h,_⟩ | h
 ·exact absurd h hne
 ·exact h
theorem RowsOf.at {e : TypeId} {xs : List α} {v : Value} {s : Store} (h : RowsOf e R xs v s) {i : Nat} {x : α} (hx : xs[i]? = some x) :
  ∃ b cap cs u t τ,v = .slice (some ⟨b,0,none⟩) xs.length cap ∧ s.Perm ((b,.cells e cs) :: (t ++ τ)) ∧ cs[i]? = some (.v u) ∧ R x u t ∧
   ∀ x' u' t' s',R x' u' t' → s'.Perm ((b,.cells e (cs.set i (.v u'))) :: (t' ++ τ)) → RowsOf e R (xs.set i x') v s':=by
 obtain ⟨vs,s0,ts,h1,h2,h3⟩:=h.ex
 obtain ⟨u,t,τ,g1,g2,g3,g4⟩:=h2.at hx
 have hil:=(List.getElem?_eq_some_iff.1 g1).1
 obtain ⟨b,cap,junk,rfl,rfl,q3,q4,q5,q6⟩:=h1.block (fun h=>by
  have:=congrArg List.length h;simp at this;subst this;simp at hil)
 rw [flat1] at h3
 refine ⟨b,cap,vs.map D.v ++ junk,u,t,τ,by rw [List.length_map,h2.len.1],?_,?_,g2,fun x' u' t' s' h' hp=>?_⟩
 ·exact h3.trans (List.Perm.cons _ g3)
 ·rw [List.getElem?_append_left (by simpa using hil),List.getElem?_map,g1];rfl
 ·obtain ⟨ts',k1,k2⟩:=g4 x' u' t' h'
  refine ⟨vs.set i u',[(b,.cells e ((vs.set i u').map D.v ++ junk))],ts',⟨fun y hy=>by obtain ⟨z,_,rfl⟩:=List.mem_map.1 hy;rfl,.inr ⟨b,cap,junk,by simp [h2.len.1],by rw [flat1],by simpa using q3,q4,by simpa using q5,q6⟩⟩,k1,?_⟩
  refine hp.trans ?_
  rw [List.set_append_left _ _ (by simpa using hil),List.map_set]
  exact List.Perm.cons _ k2.symm
def Frz (R : ORep α) (den : α → D) : Prop:=∀ x u t τ w X,R x u t → StOK w X (t ++ τ) → Rd w (Own τ X) (den x) u
theorem frz_row {β : Type} (e : TypeId) (k : Nat) (g : β → List D) : Frz (fun (l : List β) v s=>RowIs e k (l.map g) v s) (fun l=>.sl k (l.map g)):=fun _ _ _ _ _ _ h hs=>rd_row h hs
theorem rd_own_sub {w : World} {X : Nat → Prop} {s t : Store} {d : D} {u : Value} (h : Rd w (Own s X) d u) (hs : ∀ b,b ∈ keysS t → b ∈ keysS s) : Rd w (Own t X) d u:=
 h.keep (Nat.le_refl _) (fun b _ hn ho=>hn (ho.imp id (hs b))) (fun _ _ _=>rfl)
theorem frz_rows {e : TypeId} {den : α → D} (hf : Frz R den) : Frz (RowsOf e R) (fun xs=>.sl 1 (xs.map fun x=>[den x])):=by
 intro xs v s τ w X h hs
 obtain ⟨vs,s0,ts,h1,h2,h3⟩:=h.ex
 have hp : (s ++ τ).Perm (s0 ++ (ts.flatten ++ τ)):=by rw [← List.append_assoc];exact h3.append_right _
 have hs':=hs.perm hp
 have hrow:=rd_row h1 hs'
 obtain ⟨a,cap,f,e1,hcap,hk,hc,hr⟩:=hrow.sl_inv
 have hsub : ∀ b,b ∈ keysS τ → b ∈ keysS (ts.flatten ++ τ):=fun b hb=>by rw [keys_append];exact List.mem_append_right _ hb
 have hlen : vs.length = xs.length:=h2.len.1
 rw [e1,List.length_map,hlen,show xs.length = (xs.map fun x=>[den x]).length by simp]
 refine .sl 1 _ a cap f (by simpa [hlen] using hcap) (fun y hy=>by obtain ⟨z,_,rfl⟩:=List.mem_map.1 hy;rfl) (fun i y hy=>?_) (fun i y hy j d hd=>?_)
 ·have hi : i < vs.length:=by have:=(List.getElem?_eq_some_iff.1 hy).1;simpa [hlen] using this
  obtain ⟨b,off,q1,q2,q3,q4⟩:=hc i [.v vs[i]] (by rw [List.getElem?_map,List.getElem?_eq_getElem hi];rfl)
  exact ⟨b,off,q1,fun ho=>q2 (ho.imp id (hsub b)),q3,q4⟩
 ·rw [List.getElem?_map,Option.map_eq_some_iff] at hy
  obtain ⟨x,hx,rfl⟩:=hy
  cases j with
  | succ j=>simp at hd
  | zero=>
   simp at hd
   subst hd
   obtain ⟨u,t,τ',g1,g2,g3,g4⟩:=h2.at hx
   have hv:=(hr i [.v u] (by rw [List.getElem?_map,g1];rfl) 0 _ rfl).val rfl
   rw [hv]
   have hp2 : (s ++ τ).Perm (t ++ (s0 ++ τ' ++ τ)):=by
    refine hp.trans ?_
    refine (List.Perm.append_left s0 (g3.append_right τ)).trans ?_
    simp only [List.append_assoc]
    rw [← List.append_assoc s0 t,← List.append_assoc t s0]
    exact List.perm_append_comm.append_right _
   have:=hf x u t (s0 ++ τ' ++ τ) w X g2 (hs.perm hp2)
   exact rd_own_sub this (fun b hb=>by rw [keys_append];exact List.mem_append_right _ hb)
theorem Vs.frz {den : α → D} (hf : Frz R den) {x : α} {v : Value} {s σ τ : Store} (h : R x v s) (hp : σ.Perm (s ++ τ)) : Vs σ (.v v) τ (den x):=
 ⟨fun w X u hs hr=>by
  have:=hr.val rfl
  subst this
  exact ⟨(hs.perm hp).sub (List.sublist_append_right _ _),hf x _ s τ w X h (hs.perm hp)⟩,fun b hb=>perm_keys hp b (by rw [keys_append];exact List.mem_append_right _ hb)⟩
theorem RowsOf.made {e : TypeId} {x0 : α} (h0 : R x0 (.slice none 0 0) []) (m b : Nat) (hm : m ≤ maxLen) : RowsOf e R (List.replicate m x0) (.slice (some ⟨b,0,none⟩) m m) [(b,.cells e (List.replicate m (.v (.slice none 0 0))))]:=by
 refine ⟨List.replicate m (.slice none 0 0),[(b,.cells e (List.replicate m (.v (.slice none 0 0))))],List.replicate m [],⟨fun y hy=>by obtain ⟨z,_,rfl⟩:=List.mem_map.1 hy;rfl,.inr ⟨b,m,[],by simp,by rw [flat1];simp,by simp,hm,by simp,fun d hd=>by cases hd⟩⟩,All3.rep h0 m,by simp⟩
theorem RowsOf.nil (e : TypeId) (R : ORep α) : RowsOf e R [] (.slice none 0 0) []:=⟨[],[],[],RowIs.nil _ _,.nil,by simp⟩
theorem RowIs.put {e : TypeId} {k : Nat} {xs : List (List D)} {b n cap : Nat} {cs : List D} (h : RowIs e k xs (.slice (some ⟨b,0,none⟩) n cap) [(b,.cells e cs)]) {i : Nat} {x' : List D} (hi : i < xs.length) (hx : x'.length = k) : RowIs e k (xs.set i x') (.slice (some ⟨b,0,none⟩) n cap) [(b,.cells e (spl cs (i * k) x'))]:=by
 have hne : xs ≠ []:=fun e=>by subst e;simp at hi
 obtain ⟨b',cap',junk,e1,e2,q3,q4,q5,q6⟩:=h.block hne
 cases e1
 have e3 : cs = xs.flatten ++ junk:=by simpa using e2
 refine ⟨fun y hy=>?_,.inr ⟨b,cap,junk,by simp,?_,by simpa using q3,q4,by simpa using q5,q6⟩⟩
 ·rcases List.mem_or_eq_of_mem_set hy with h1 | rfl
  ·exact h.len y h1
  ·exact hx
 ·have hfl:=flat_len h.len
  have key : spl cs (i * k) x' = (xs.set i x').flatten ++ junk:=by
   rw [e3]
   have e4 : xs = xs.take i ++ xs[i] :: xs.drop (i + 1):=by rw [List.getElem_cons_drop,List.take_append_drop]
   have e5 : xs.set i x' = xs.take i ++ x' :: xs.drop (i + 1):=by rw [List.set_eq_take_append_cons_drop,if_pos hi]
   have ht : (xs.take i).flatten.length = i * k:=by
    rw [flat_len (k:=k) (fun y hy=>h.len y (List.mem_of_mem_take hy)),List.length_take,Nat.min_eq_left (by omega)]
   have hxi : xs[i].length = k:=h.len _ (List.getElem_mem hi)
   rw [e5]
   conv=>lhs;rw [e4]
   unfold spl
   simp only [List.flatten_append,List.flatten_cons,List.append_assoc]
   rw [← ht,List.take_left',List.drop_append,List.drop_of_length_le (by omega)]
   ·simp only [List.nil_append,List.append_assoc]
    congr 2
    rw [show (xs.take i).flatten.length + x'.length - (xs.take i).flatten.length = x'.length by omega,hx,← hxi,List.drop_left']
    rfl
   ·rfl
  rw [key]
theorem RowIs.get {e : TypeId} {k : Nat} {xs : List (List D)} {v : Value} {s : Store} (h : RowIs e k xs v s) {i : Nat} {x : List D} (hx : xs[i]? = some x) : ∃ b cap cs,v = .slice (some ⟨b,0,none⟩) xs.length cap ∧ s = [(b,.cells e cs)] ∧ ∀ j,j < k → cs[i * k + j]? = x[j]?:=by
 have hne : xs ≠ []:=fun e=>by subst e;simp at hx
 obtain ⟨b,cap,junk,e1,e2,q3,q4,q5,q6⟩:=h.block hne
 refine ⟨b,cap,_,e1,e2,fun j hj=>?_⟩
 have:=flat_get h.len hx hj
 have hjx : j < x.length:=by rw [h.len x (List.mem_of_getElem? hx)];exact hj
 rw [List.getElem?_append_left,this]
 exact (List.getElem?_eq_some_iff.1 (this.trans (List.getElem?_eq_getElem hjx))).1
end
/-! ### What is made new may stand beside what was only looked at -/
def flA : D → Bool
 | .v _=>true
 | .any=>true
 | _=>false
def Blk.flat : Blk → Prop
 | .cells _ cs=>∀ d ∈ cs,flA d = true
 | .obj _=>True
def FlS (s : Store) : Prop:=∀ p ∈ s,Blk.flat p.2
theorem flA_rd {w w' : World} {O O' : Nat → Prop} {d : D} {u : Value} (h : Rd w O d u) (hd : flA d = true) : Rd w' O' d u:=by
 cases d <;> first | (have:=h.val rfl;subst this;exact .v _) | exact .any u | cases hd
theorem FlS.append {s t : Store} (h : FlS s) (k : FlS t) : FlS (s ++ t):=fun p hp=>(List.mem_append.1 hp).elim (h p) (k p)
theorem FlS.perm {s t : Store} (h : FlS s) (hp : t.Perm s) : FlS t:=fun p hq=>h p (hp.mem_iff.1 hq)
theorem FlS.row {e : TypeId} {k : Nat} {xs : List (List D)} {v : Value} {s : Store} (h : RowIs e k xs v s) (hf : ∀ x ∈ xs,∀ d ∈ x,flA d = true) : FlS s:=by
 rcases h.is with ⟨_,_,rfl⟩ | ⟨b,cap,junk,_,rfl,_,_,_,hj⟩
 ·exact fun p hp=>by cases hp
 ·intro p hp
  rw [List.mem_singleton] at hp
  subst hp
  intro d hd
  rcases List.mem_append.1 hd with h1 | h1
  ·obtain ⟨x,hx,hdx⟩:=List.mem_flatten.1 h1
   exact hf x hx d hdx
  ·rw [hj d h1];rfl
theorem FlS.rows {α : Type} {R : ORep α} (hR : ∀ x u t,R x u t → FlS t) {e : TypeId} {xs : List α} {v : Value} {s : Store} (h : RowsOf e R xs v s) : FlS s:=by
 obtain ⟨vs,s0,ts,h1,h2,h3⟩:=h.ex
 refine FlS.perm (FlS.append (FlS.row h1 fun x hx d hd=>?_) ?_) h3
 ·obtain ⟨u,_,rfl⟩:=List.mem_map.1 hx
  rw [List.mem_singleton] at hd
  subst hd;rfl
 ·clear h3 h1 h
  induction h2 with
  | nil=>exact fun p hp=>by cases hp
  | cons h k ih=>rw [List.flatten_cons];exact (hR _ _ _ h).append ih
theorem ACall.peek {P : Program} {f : FuncId} {ds ds' : List D} {σ : Store} {R : D → Store → Prop} (hp : PkL σ ds ds') (hc : ACall P f ds' [] R) (hfl : ∀ d s,R d s → flatD d = true ∧ FlS s) :
  ACall P f ds σ (fun d σ'=>∃ s,σ' = s ++ σ ∧ R d s):=by
 refine ⟨hc.ent,fun w X vs hv hs=>?_⟩
 have hv':=hp.rd hs hv
 have hst0 : StOK w (fun _=>False) []:=⟨List.nodup_nil,fun b k hm=>(by cases hm),fun b hb=>hb.elim,hs.gok.mono (fun b hb=>by rcases hb with hb | hb;exact hb.elim;cases hb)⟩
 refine (hc.run w (fun _=>False) vs ⟨hv'.len,fun j d u g1 g2=>(hv'.at_ j d u g1 g2).keep (Nat.le_refl _) (fun b _ _ ho=>by rcases ho with ho | ho;exact ho.elim;cases ho) (fun _ _ _=>rfl)⟩ hst0).mono ?_
 rintro e w' ⟨u,d,s,g1,g2,g3,g4,g5⟩
 obtain ⟨f1,f2⟩:=hfl d s g2
 have hx : Ex w w':=⟨g5.keep.os,g5.keep.tape,g5.keep.output,g5.keep.size,fun b hb _=>g5.keep.block b hb (fun hk=>by cases hk)⟩
 have hnew : ∀ b,b ∈ keysS s → w.heap.size ≤ b:=fun b hb=>by
  rcases g5.new b hb with h | h
  ·cases h
  ·exact h
 have hO : ∀ b,b < w.heap.size → ¬ Own σ X b → ¬ Own (s ++ σ) X b:=fun b hb hn ho=>by
  rcases ho with ho | ho
  ·exact hn (.inl ho)
  ·rw [keys_append,List.mem_append] at ho
   rcases ho with ho | ho
   ·have:=hnew b ho;omega
   ·exact hn (.inr ho)
 refine ⟨u,d,s ++ σ,g1,⟨s,rfl,g2⟩,flat_rd g3 f1,⟨?_,fun b k hbk=>?_,fun b hb=>Nat.lt_of_lt_of_le (hs.xlt b hb) hx.size,?_⟩,⟨⟨hx.os,hx.tape,hx.output,hx.size,fun b hb _=>hx.block b hb⟩,fun b hb=>?_⟩⟩
 ·rw [keys_append,List.nodup_append]
  exact ⟨g4.nodup,hs.nodup,fun b h1 c h2 e=>by subst e;have:=hnew b h1;have:=hs.lt h2;omega⟩
 ·rcases List.mem_append.1 hbk with h | h
  ·obtain ⟨_,o,h2,h3⟩:=g4.at_ b k h
   refine ⟨fun hX=>by have:=hnew b (mem_keys h);have:=hs.xlt b hX;omega,o,h2,?_⟩
   have hfk:=f2 _ h
   cases k with
   | cells t cs=>
    obtain ⟨vs,q1,q2⟩:=h3
    exact ⟨vs,q1,q2.len,fun j d u r1 r2=>flA_rd (q2.at_ j d u r1 r2) (hfk d (List.mem_of_getElem? r1))⟩
   | obj ok=>exact h3
  ·obtain ⟨h1,o,h2,h3⟩:=hs.at_ b k h
   have hlt:=(Array.getElem?_eq_some_iff.1 h2).1
   exact ⟨h1,o,(hx.block b hlt).trans h2,Blk.ok_keep hx.size hO (fun b hb _=>hx.block b hb) h3⟩
 ·refine hs.gok.keep hx.size hO (fun b hb _=>hx.block b hb) (fun b hb=>?_)
  rcases hb with hb | hb
  ·exact Nat.lt_of_lt_of_le (hs.xlt b hb) hx.size
  ·rw [keys_append,List.mem_append] at hb
   rcases hb with hb | hb
   ·exact g4.lt hb
   ·exact Nat.lt_of_lt_of_le (hs.lt hb) hx.size
 ·rw [keys_append,List.mem_append] at hb
  rcases hb with hb | hb
  ·exact .inr (hnew b hb)
  ·exact .inl hb
theorem Pk.frz {α : Type} {R : ORep α} {den : α → D} (hf : Frz R den) {x : α} {v : Value} {s σ τ : Store} (h : R x v s) (hp : σ.Perm (s ++ τ)) : Pk σ (.v v) (den x):=
 ⟨fun w X u hs hr=>by have:=hr.val rfl;subst this;exact (hf x _ s τ w X h (hs.perm hp)).stable⟩
end
section
open Go Go.RowKit Go.Shelf
section
variable {β : Type} {g : β → D}
abbrev RowR (e1 : TypeId) (g : β → D) : ORep (List β):=fun l v s=>RowIs e1 1 (l.map fun b=>[g b]) v s
theorem spl_one {cs : List D} {off : Nat} (h : off < cs.length) (d : D) : spl cs off [d] = cs.set off d:=by
 unfold spl
 rw [List.set_eq_take_append_cons_drop,if_pos h]
 simp
theorem row_open {e1 : TypeId} {l : List β} {u : Value} {s : Store} (h : RowR e1 g l u s) {i : Nat} {b : β} (hb : l[i]? = some b) :
  ∃ b1 cap1 cs1,u = .slice (some ⟨b1,0,none⟩) l.length cap1 ∧ s = [(b1,.cells e1 cs1)] ∧ cs1[i]? = some (g b) ∧ ∀ b',RowR e1 g (l.set i b') u [(b1,.cells e1 (cs1.set i (g b')))]:=by
 have hi:=(List.getElem?_eq_some_iff.1 hb).1
 obtain ⟨b1,cap1,cs1,e2,e3,e4⟩:=RowIs.get h (show (l.map fun b=>[g b])[i]? = some [g b] by rw [List.getElem?_map,hb];rfl)
 have h4:=e4 0 (by omega)
 simp only [Nat.mul_one,Nat.add_zero] at h4
 have h5 : cs1[i]? = some (g b):=by rw [h4];rfl
 rw [List.length_map] at e2
 subst e2 e3
 refine ⟨b1,cap1,cs1,rfl,rfl,h5,fun b'=>?_⟩
 have:=RowIs.put h (i:=i) (x':=[g b']) (by simpa using hi) rfl
 rw [Nat.mul_one,spl_one (List.getElem?_eq_some_iff.1 h5).1] at this
 show RowIs e1 1 ((l.set i b').map fun b=>[g b]) _ _
 rw [List.map_set]
 exact this
theorem row_slice {e1 : TypeId} {l : List β} {u : Value} {s : Store} (h : RowR e1 g l u s) : ∃ a c,u = .slice a l.length c:=by
 obtain ⟨a,c,e⟩:=RowIs.slice h
 rw [List.length_map] at e
 exact ⟨a,c,e⟩
theorem set_get {α : Type} {l : List α} {i : Nat} {a : α} (h : l[i]? = some a) : l.set i a = l:=by
 apply List.ext_getElem?
 intro j
 rw [List.getElem?_set]
 split
 ·rename_i e;subst e
  rw [if_pos (List.getElem?_eq_some_iff.1 h).1,h]
 ·rfl
theorem rows_head {e e1 : TypeId} {t : List (List β)} {v : Value} {σ : Store} (h : RowsOf e (RowR e1 g) t v σ) {j : Nat} {l : List β} (hl : t[j]? = some l) :
  ∃ b0 cap0 cs0 a1 c1,v = .slice (some ⟨b0,0,none⟩) t.length cap0 ∧ (b0,Blk.cells e cs0) ∈ σ ∧ cs0[j]? = some (.v (.slice a1 l.length c1)):=by
 obtain ⟨b0,cap0,cs0,u,tt,ρ,h1,h2,h3,h4,h5⟩:=h.at hl
 obtain ⟨a1,c1,rfl⟩:=row_slice h4
 exact ⟨b0,cap0,cs0,a1,c1,h1,h2.mem_iff.2 (by simp),h3⟩
theorem rows_open {e e1 : TypeId} {t : List (List β)} {v : Value} {σ : Store} (h : RowsOf e (RowR e1 g) t v σ) {j i : Nat} {l : List β} {b : β} (hl : t[j]? = some l) (hb : l[i]? = some b) :
  ∃ b0 cap0 cs0 b1 cap1 cs1 ρ,v = .slice (some ⟨b0,0,none⟩) t.length cap0 ∧ σ.Perm ((b0,.cells e cs0) :: (b1,.cells e1 cs1) :: ρ) ∧ cs0[j]? = some (.v (.slice (some ⟨b1,0,none⟩) l.length cap1)) ∧ cs1[i]? = some (g b) ∧
   ∀ b',RowsOf e (RowR e1 g) (t.set j (l.set i b')) v ((b0,.cells e cs0) :: (b1,.cells e1 (cs1.set i (g b'))) :: ρ):=by
 obtain ⟨b0,cap0,cs0,u,tt,ρ,h1,h2,h3,h4,h5⟩:=h.at hl
 obtain ⟨b1,cap1,cs1,rfl,rfl,q3,q4⟩:=row_open h4 hb
 refine ⟨b0,cap0,cs0,b1,cap1,cs1,ρ,h1,h2,h3,q3,fun b'=>h5 _ _ _ _ (q4 b') ?_⟩
 rw [set_get h3]
 exact List.Perm.refl _
end
theorem ix1 (j : Nat) : 0 + ((j : Nat) : Int).toNat * 1 = j:=by simp
end
section
open Go Go.RowKit Go.Shelf Go.Maps Go.MapKept
open Go.ChangeMaps (setBlock modify_eq_set heap_setBlock_same heap_setBlock_other)
/-! ### Permutations by counting -/
section
open Classical in
noncomputable local instance : DecidableEq (Nat × Blk):=fun _ _=>propDecidable _
noncomputable def ct (a : Nat × Blk) (l : Store) : Nat:=l.count a
noncomputable def ct1 (a x : Nat × Blk) : Nat:=[x].count a
theorem ct_nil (a : Nat × Blk) : ct a [] = 0:=by simp [ct]
theorem ct_cons (a x : Nat × Blk) (l : Store) : ct a (x :: l) = ct1 a x + ct a l:=by
 unfold ct ct1
 rw [show x :: l = [x] ++ l from rfl,List.count_append]
theorem ct_app (a : Nat × Blk) (l m : Store) : ct a (l ++ m) = ct a l + ct a m:=by simp [ct]
theorem ct_perm {l m : Store} (h : l.Perm m) (a : Nat × Blk) : ct a l = ct a m:=by unfold ct;exact h.count_eq a
theorem perm_ct {l m : Store} (h : ∀ a,ct a l = ct a m) : l.Perm m:=List.perm_iff_count.2 h
end
def MapO (P : Program) (k : TypeId) (f : Value → Option Value) (o : Obj) : Prop:=∃ es clock n,o = .map es clock ∧ Ents P k es clock n f
def MapS (P : Program) (k : TypeId) (f : Value → Option Value) (key stamp : Value) (o : Obj) : Prop:=∃ es clock n,o = .map es clock ∧ Ents P k es clock n f ∧ ∃ e ∈ es.toList,e.key = key ∧ stamp = goInt e.born
theorem MapS.is {P : Program} {k : TypeId} {f : Value → Option Value} {key stamp : Value} {o : Obj} (h : MapS P k f key stamp o) : MapO P k f o:=by
 obtain ⟨es,c,n,h1,h2,_⟩:=h;exact ⟨es,c,n,h1,h2⟩
def KeyD (d : D) (kv : Value) : Prop:=∀ (w : World) (O : Nat → Prop) (u : Value),Rd w O d u → u = kv
theorem KeyD.v (x : Value) : KeyD (.v x) x:=fun _ _ _ h=>h.val rfl
theorem KeyD.agg2 (x y : Value) : KeyD (.agg [.v x,.v y]) (.agg #[x,y]):=fun w O u h=>by
 obtain ⟨vs,rfl,h1⟩:=h.agg_inv
 have hl:=h1.len
 match vs,hl with
 | [a,b],_=>
  have q1:=(h1.at_ 0 _ _ rfl rfl).val rfl
  have q2:=(h1.at_ 1 _ _ rfl rfl).val rfl
  rw [q1,q2]
section
variable {P : Program} {r : Option Nat} {n : Nat} {df : Nat} {N : Nat} {σ τ : Store} {ρ : Operand → D} {f : Frm} {L : List Oper} {k t e : TypeId} {F : Value → Option Value} {b : Nat} {kv z : Value} {kl : Lit}
theorem own_obj {w : World} {X : Nat → Prop} {ok : Obj → Prop} (hs : StOK w X σ) (hb : (b,Blk.obj ok) ∈ σ) : ∃ o,w.heap[b]? = some o ∧ ok o:=by
 obtain ⟨_,o,h1,h2⟩:=hs.at_ b _ hb
 exact ⟨o,h1,h2⟩
theorem yd_lookup {o : Oper} {m key : Operand} {ok : Obj → Prop} (ho : o.op = .lookup t m key false) (hm : ρ m = .v (.map (some b))) (hd : KeyD (ρ key) kv) (hb : (b,Blk.obj ok) ∈ σ) (hok : ∀ o,ok o → MapO P k F o)
  (K : Keyed P k) (ht : P.underlying t = some (.map k e)) (hz : ∀ w,(zeroValue e).run P w = .ok z w) (hkey : keyOf P k kv = some kl) : Yd P o ρ σ (.v ((F kv).getD z)):=by
 intro w X η hη hst
 obtain ⟨dst,op,ty,pos,aft,g⟩:=o
 simp only at ho
 subst ho
 have h1:=(hη m (by simp [Op.operands])).val hm
 have h2:=hd _ _ _ (hη key (by simp [Op.operands]))
 obtain ⟨ob,q1,q2⟩:=own_obj hst hb
 obtain ⟨es,c,nn,rfl,q3⟩:=hok _ q2
 exact yu_run (s:=Instr.lookup t (η m) (η key) false) (by rw [h1,h2];exact MapIs.look (n:=nn) ⟨es,c,q1,q3⟩ K ht (hz w) hkey) (Ex.refl w) (.v _)
theorem OtE.makeMap {o : Oper} {K : Frm → Store → Prop} (ho : o.op = .makeMap t none) (kk : ∀ b,W (putK N o.dst (.v (.map (some b))) f (fun f'=>K f' ((b,.obj (MapO P k fun _=>none)) :: σ)))) : OtE P r n df L N o f σ K:=by
 refine ⟨fun rest Q a hsp hw hk=>?_⟩
 refine aops_step hw (by rw [ho];rfl) fun w X fr hst=>?_
 have e0 : (execOp fr.eval o).run P w = .ok (.value (.map (some w.heap.size))) (w.alloc (.map #[] 0)):=by
  simp only [execOp,ho]
  rfl
 rw [e0]
 have hz : MapO P k (fun _=>none) (.map #[] 0):=⟨#[],0,0,rfl,⟨by simp,stamped_empty 0,by simp,by simp,by simp⟩⟩
 obtain ⟨g1,g2,g3⟩:=hst.st.new (.map #[] 0) (.obj (MapO P k fun _=>none)) hz
 obtain ⟨f',hs',h4⟩:=putK_ok (kk w.heap.size).h hsp
 exact ⟨_,_,g2,(hst.mv g2 g1).put (.v _) o.dst,hk _ _ _ h4 hs'⟩
theorem mv_perm {w w' : World} {s : Store} (hp : σ.Perm τ) (h : Mv w τ w' s) : Mv w σ w' s:=h.wider (fun b hb=>(perm_keys hp b hb))
theorem OtE.obj {o : Oper} {K : Frm → Store → Prop} {ok : Obj → Prop} (hn : noDefer o.op = true) (hb : σ.Perm ((b,Blk.obj ok) :: τ))
  (h : ∀ (w : World) (fr : Act) (X : Nat → Prop) (ob : Obj),(∀ x,Rd w (Own σ X) (evF f x) (fr.eval x)) → w.heap[b]? = some ob → ok ob →
   ∃ (d : D) (u : Value) (ok' : Obj → Prop) (w' : World) (ob' : Obj),((execOp fr.eval o).run P w = .ok (.value u) w' ∨ ((execOp fr.eval o).run P w = .ok .skip w' ∧ u = undef ∧ d = .v undef)) ∧ (∀ w O,Rd w O d u) ∧ Keep (fun x=>x = b) w w' ∧ w'.heap[b]? = some ob' ∧ ok' ob' ∧ putK N o.dst d f (fun f'=>K f' ((b,.obj ok') :: τ))) : OtE P r n df L N o f σ K:=by
 refine ⟨fun rest Q a hsp hw hk=>?_⟩
 refine aops_step hw hn fun w X fr hst=>?_
 have hst':=hst.perm hb
 obtain ⟨ob,q1,q2⟩:=own_obj hst'.st (List.mem_cons_self)
 obtain ⟨d,u,ok',w',ob',h1,h2,h3,h5,h6,h7⟩:=h w fr X ob (fun x=>hsp.le x _ _ _ (hst.fr.eval x)) q1 q2
 obtain ⟨g1,g2,g3,g4⟩:=hst'.st.upd (i:=0) (k':=.obj ok') rfl h3 h5 h6
 obtain ⟨f',hs',h8⟩:=putK_ok h7 hsp
 have hst2:=(hst'.mv g2 g1).put (h2 w' _) o.dst
 rcases h1 with h1 | ⟨h1,rfl,rfl⟩
 ·rw [h1]
  exact ⟨d,_,mv_perm hb g2,hst2,hk _ _ _ h8 hs'⟩
 ·rw [h1]
  exact ⟨_,mv_perm hb g2,hst2,hk _ _ _ h8 hs'⟩
theorem OtE.mapUpdate {o : Oper} {m key x : Operand} {xv : Value} {K : Frm → Store → Prop} (ho : o.op = .mapUpdate t m key x) (hm : evF f m = .v (.map (some b))) (hd : KeyD (evF f key) kv) (hx : evF f x = .v xv) (hb : σ.Perm ((b,Blk.obj (MapO P k F)) :: τ))
  (KK : Keyed P k) (ht : P.underlying t = some (.map k e)) (hkey : keyOf P k kv = some kl) (kk : W (putK N o.dst (.v undef) f (fun f'=>K f' ((b,.obj (MapO P k (updF F kv xv))) :: τ)))) : OtE P r n df L N o f σ K:=by
 refine OtE.obj (by rw [ho];rfl) hb fun w fr X ob hη hob hok=>?_
 obtain ⟨es,c,nn,rfl,q3⟩:=hok
 obtain ⟨w',h1,⟨es',c',h2,h3⟩,h4⟩:=MapIs.update (v:=xv) (n:=nn) ⟨es,c,hob,q3⟩ KK ht hkey
 refine ⟨.v undef,undef,MapO P k (updF F kv xv),w',_,.inr ⟨?_,rfl,rfl⟩,fun _ _=>.v _,h4,h2,⟨es',c',_,rfl,h3⟩,kk.h⟩
 have p1:=(hη m).val hm
 have p2:=hd _ _ _ (hη key)
 have p3:=(hη x).val hx
 simp only [execOp,ho,p1,p2,p3]
 show (do let _ ← Instr.mapUpdate t (.map (some b)) kv xv;pure Next.skip).run P w = _
 simp only [Sem.run_bind,h1,Result.andThen,Sem.run_pure]
theorem OtE.mapEntry {o : Oper} {m key : Operand} {K : Frm → Store → Prop} {ok : Obj → Prop} (ho : o.op = .mapEntry t m key) (hm : evF f m = .v (.map (some b))) (hd : KeyD (evF f key) kv) (hb : σ.Perm ((b,Blk.obj ok) :: τ)) (hok : ∀ o,ok o → MapO P k F o)
  (KK : Keyed P k) (ht : P.underlying t = some (.map k e)) (hz : ∀ w,(zeroValue e).run P w = .ok z w) (hkey : keyOf P k kv = some kl) (kk : ∀ st,W (putK N o.dst (.tup [.v ((F kv).getD z),.v st]) f (fun f'=>K f' ((b,.obj (MapS P k (updF F kv ((F kv).getD z)) kv st)) :: τ)))) : OtE P r n df L N o f σ K:=by
 refine OtE.obj (by rw [ho];rfl) hb fun w fr X ob hη hob hok'=>?_
 obtain ⟨es,c,nn,rfl,E⟩:=hok _ hok'
 have p1:=(hη m).val hm
 have p2:=hd _ _ _ (hη key)
 have tup : ∀ (x y : Value) w O,Rd w O (.tup [.v x,.v y]) (.tuple #[x,y]):=fun x y w O=>by
  have h5:=RdL.cons (w:=w) (O:=O) (Rd.v x) (RdL.cons (Rd.v y) RdL.nil)
  exact Rd.tup [.v x,.v y] _ h5.len h5.at_
 rcases E.look KK hkey w with ⟨h1,h0,h2⟩ | ⟨j,e0,h1,h2,h3,h0⟩
 ·refine ⟨.tup [.v z,.v (goInt c)],.tuple #[z,goInt c],MapS P k (updF F kv z) kv (goInt c),setBlock w b (.map (es.push ⟨kv,z,c⟩) (c + 1)),_,.inl ?_,fun w O=>tup _ _ w O,Keep.setBlock hob,heap_setBlock_same hob _,⟨_,_,nn + 1,rfl,E.push hkey h2,⟨kv,z,c⟩,by simp,rfl,rfl⟩,?_⟩
  ·simp only [execOp,ho,p1,p2]
   show (do let v ← Instr.mapEntry t (.map (some b)) kv;pure (Next.value v)).run P w = _
   simp [Instr.mapEntry,run_underlying ht,MapKept.run_getObj_map hob,KK.check w false hkey,h1,hz,MapKept.run_setObj_map _ hob,Result.andThen,setBlock]
  ·have:=(kk (goInt c)).h
   rw [h0] at this
   exact this
 ·have hj : es[j]? = some e0:=by simpa using h2
  have E':=E.modify (v:=e0.val) hkey h2 h3 (fun e=>{ e with key:=kv }) (fun _=>rfl) rfl rfl
  refine ⟨.tup [.v e0.val,.v (goInt e0.born)],.tuple #[e0.val,goInt e0.born],MapS P k (updF F kv e0.val) kv (goInt e0.born),setBlock w b (.map (es.modify j fun e=>{ e with key:=kv }) c),_,.inl ?_,fun w O=>tup _ _ w O,Keep.setBlock hob,heap_setBlock_same hob _,⟨_,_,nn,rfl,E',{ e0 with key:=kv },?_,rfl,rfl⟩,?_⟩
  ·simp only [execOp,ho,p1,p2]
   show (do let v ← Instr.mapEntry t (.map (some b)) kv;pure (Next.value v)).run P w = _
   simp [Instr.mapEntry,run_underlying ht,MapKept.run_getObj_map hob,KK.check w false hkey,h1,hj,h3,KK.stays w hkey,MapKept.run_setObj_map _ hob,Result.andThen,setBlock]
  ·rw [Array.toList_modify,modify_eq_set _ _ _ _ h2]
   exact List.mem_set (List.getElem?_eq_some_iff.1 h2).1 _
  ·have:=(kk (goInt e0.born)).h
   rw [h0] at this
   exact this
theorem born_idx {es : Array MapEntry} {c nn : Nat} (E : Ents P k es c nn F) {e0 : MapEntry} {j : Nat} (h : es.toList[j]? = some e0) : es.findIdx? (fun e=>((e.born : Nat) : Int) == ((e0.born : Nat) : Int)) = some j:=by
 rw [WideElems.findIdx_arr]
 exact WideElems.findIdx_born ((stamped_iff es c).1 E.stamped).2.1 h
theorem OtE.entryStore {o : Oper} {m st x : Operand} {xv sv : Value} {K : Frm → Store → Prop} (ho : o.op = .entryStore t m st x) (hm : evF f m = .v (.map (some b))) (hs : evF f st = .v sv) (hx : evF f x = .v xv) (hb : σ.Perm ((b,Blk.obj (MapS P k F kv sv)) :: τ))
  (hkey : keyOf P k kv = some kl) (kk : W (putK N o.dst (.v undef) f (fun f'=>K f' ((b,.obj (MapO P k (updF F kv xv))) :: τ)))) : OtE P r n df L N o f σ K:=by
 refine OtE.obj (by rw [ho];rfl) hb fun w fr X ob hη hob hok=>?_
 obtain ⟨es,c,nn,rfl,E,e0,he0,h3,rfl⟩:=hok
 obtain ⟨j,h2⟩:=List.getElem?_of_mem he0
 have E':=E.modify (v:=xv) hkey h2 h3 (fun e=>{ e with val:=xv }) (fun _=>rfl) h3 rfl
 refine ⟨.v undef,undef,MapO P k (updF F kv xv),setBlock w b (.map (es.modify j fun e=>{ e with val:=xv }) c),_,.inr ⟨?_,rfl,rfl⟩,fun _ _=>.v _,Keep.setBlock hob,heap_setBlock_same hob _,⟨_,_,nn,rfl,E'⟩,kk.h⟩
 have p1:=(hη m).val hm
 have p2:=(hη st).val hs
 have p3:=(hη x).val hx
 simp only [execOp,ho,p1,p2,p3]
 show (do let _ ← Instr.entryStore t (.map (some b)) (goInt e0.born) xv;pure Next.skip).run P w = _
 simp [Instr.entryStore,MapKept.run_getObj_map hob,asInt,asIntOf,goInt,born_idx E h2,MapKept.run_setObj_map _ hob,Result.andThen,setBlock]
end
end
section
open Go Go.RowKit Go.Shelf
section
variable {P : Program} {r : Option Nat} {n : Nat} {df : Nat} {N : Nat} {σ : Store} {f : Frm} {L : List Oper} {T : TypeId → Option TI} {Q : Fst}
theorem yd_lookup2 {ρ : Operand → D} {k t e : TypeId} {F : Value → Option Value} {b : Nat} {kv z u : Value} {kl : Lit} {o : Oper} {m key : Operand} {ok : Obj → Prop} (ho : o.op = .lookup t m key false) (hm : ρ m = .v (.map (some b))) (hd : KeyD (ρ key) kv) (hb : (b,Blk.obj ok) ∈ σ) (hok : ∀ o,ok o → MapO P k F o)
  (K : Maps.Keyed P k) (ht : P.underlying t = some (.map k e)) (hz : ∀ w,(zeroValue e).run P w = .ok z w) (hkey : keyOf P k kv = some kl) (hv : (F kv).getD z = u) : Yd P o ρ σ (.v u):=by
 subst hv;exact yd_lookup ho hm hd hb hok K ht hz hkey
theorem OtE.mapEntry2 {τ : Store} {k t e : TypeId} {F : Value → Option Value} {b : Nat} {kv z u : Value} {kl : Lit} {o : Oper} {m key : Operand} {K : Frm → Store → Prop} {ok : Obj → Prop} (ho : o.op = .mapEntry t m key) (hm : evF f m = .v (.map (some b))) (hd : KeyD (evF f key) kv) (hb : σ.Perm ((b,Blk.obj ok) :: τ)) (hok : ∀ o,ok o → MapO P k F o)
  (KK : Maps.Keyed P k) (ht : P.underlying t = some (.map k e)) (hz : ∀ w,(zeroValue e).run P w = .ok z w) (hkey : keyOf P k kv = some kl) (hv : (F kv).getD z = u) (kk : ∀ st,W (putK N o.dst (.tup [.v u,.v st]) f (fun f'=>K f' ((b,.obj (MapS P k (updF F kv u) kv st)) :: τ)))) : OtE P r n df L N o f σ K:=by
 subst hv;exact OtE.mapEntry ho hm hd hb hok KK ht hz hkey kk
theorem updF_at (F : Value → Option Value) (kv u z : Value) : (updF F kv u kv).getD z = u:=by simp [updF]
def loE (hs : List Nat) (i : Nat) : Bool:=!hs.any (Nat.beq i)
theorem gOrd_mono {ops : Array Oper} {E : Nat → Bool} {L L' : List D → Store → Prop} (h : ∀ a σ,L a σ → L' a σ) : ∀ {t : Ord} {a : List D} {σ : Store},gOrd P r n df ops E L t a σ → gOrd P r n df ops E L' t a σ
 | .done,_,_,hh=>h _ _ hh
 | .one _ _,_,_,hh=>gOp_mono (fun _ _=>gOrd_mono h) hh
 | .two _ _ _ _,_,_,hh=>⟨gOp_mono (fun _ _=>gOrd_mono h) hh.1,gOp_mono (fun _ _=>gOrd_mono h) hh.2⟩
 | .three _ _ _ _ _ _,_,_,hh=>⟨gOp_mono (fun _ _=>gOrd_mono h) hh.1,gOp_mono (fun _ _=>gOrd_mono h) hh.2.1,gOp_mono (fun _ _=>gOrd_mono h) hh.2.2⟩
theorem lp_ord (hm : P.follows .mixedOrders = true) (hT : ∀ t i,T t = some i → tiOf P t = some i) {id : Nat} {O : Array Oper} (hO : O = L.toArray) (hs : List Nat) (fu : Nat) (t : Ord) {γ : Type} (ps : γ → Frm) (S : γ → Store) (I : γ → Prop)
  (hB : (Nat.beq (hs.length + fu) L.length && mixOB .any L.toArray (loE hs) fu t hs (Array.replicate L.length false) && ordAll (loE hs) t) = true)
  (h : W (exHs P T N L (loE hs) σ hs (fun f1=>exOrd P T r n df N L (fun f' σ'=>∃ g,chkF f' (headF (.region id O true) f (ps g)) ∧ S g = σ' ∧ I g) t f1 σ) f))
  (kk : ∀ g,I g → W (forceF (headF (.region id O true) f (ps g)) fun F=>Q .normal F (S g))) : Lp P r n df N (.region id O true) Q f σ:=by
 subst hO
 simp only [Bool.and_eq_true] at hB
 refine ⟨fun a hs'=>?_⟩
 refine awp_mono (awp_draw_ord (Q:=fun e a' σ'=>e = .normal ∧ ∃ f',Sp N a' f' ∧ ∃ g,chkF f' (headF (.region id L.toArray true) f (ps g)) ∧ S g = σ' ∧ I g) (loE hs) hs fu t hm (Nat.eq_of_beq_eq_true hB.1.1) hB.1.2 (gLex_mono (fun a' σ' h'=>?_) (exHs_ok hT h.h hs'))) ?_
 ·obtain ⟨rfl,f',h1,h2⟩:=h'
  have:=exOrd_ok hT hB.2 h2 h1
  exact gOrd_mono (fun a σ h=>⟨rfl,h⟩) this
 ·rintro e a' σ' ⟨rfl,f',h1,g,h2,rfl,h3⟩
  exact ⟨_,h1.sub h2,forceF_ok (kk g h3).h⟩
end
end
section
open Go Go.RowKit Go.Shelf
section
variable {P : Program} {r : Option Nat} {n : Nat} {df : Nat} {N : Nat} {σ : Store} {f : Frm} {L : List Oper} {T : TypeId → Option TI} {Q : Fst}
theorem lp_perm {c : Code} {τ : Store} (hp : σ.Perm τ) (k : Lp P r n df N c Q f τ) : Lp P r n df N c Q f σ:=⟨fun a hs=>awp_conv (fun w X fr h=>h.perm hp) (fun x hx=>perm_keys hp x hx) (k.run a hs)⟩
theorem OtE.box {o : Oper} {t : TypeId} {x : Operand} {cs : List D} {K : Frm → Store → Prop} (ho : o.op = .box t x) (hx : evF f x = .agg cs) (kk : ∀ b,W (putK N o.dst (.v (.pointer (some ⟨b,0,none⟩))) f (fun f'=>K f' ((b,.cells t cs) :: σ)))) : OtE P r n df L N o f σ K:=by
 refine ⟨fun rest Q a hsp hw hk=>?_⟩
 refine aops_step hw (by rw [ho];rfl) fun w X fr hst=>?_
 have h1:=hsp.le x _ _ _ (hst.fr.eval x)
 rw [hx] at h1
 obtain ⟨vs,hv,hvs⟩:=h1.agg_inv
 have e0 : (execOp fr.eval o).run P w = .ok (.value (.pointer (some ⟨w.heap.size,0,none⟩))) (w.alloc (.cells vs.toArray t)):=by
  simp only [execOp,ho,hv]
  rfl
 rw [e0]
 obtain ⟨g1,g2,g3⟩:=hst.st.new (.cells vs.toArray t) (.cells t cs) ⟨vs,rfl,hvs⟩
 obtain ⟨f',hs',h4⟩:=putK_ok (kk w.heap.size).h hsp
 exact ⟨_,_,g2,(hst.mv g2 g1).put (.v _) o.dst,hk _ _ _ h4 hs'⟩
/-! ### What lies in a new slice is written no more -/
def Vd (σ τ : Store) (d d' : D) : Prop:=∀ (w : World) (X : Nat → Prop) (u : Value),StOK w X σ → Rd w (Own σ X) d u → Rd w (Own τ X) d' u
theorem Vd.same {σ τ : Store} (hs : ∀ b,b ∈ keysS τ → b ∈ keysS σ) (d : D) : Vd σ τ d d:=fun _ _ _ _ h=>rd_own_sub h hs
theorem Vd.vs {σ τ : Store} {d d' : D} (h : Vs σ d τ d') : Vd σ τ d d':=fun w X u hs hr=>(h.run w X u hs hr).2
inductive Vd2 (σ τ : Store) : List D → List D → Prop
 | nil : Vd2 σ τ [] []
 | cons {d d' : D} {l l' : List D} (h : Vd σ τ d d') (k : Vd2 σ τ l l') : Vd2 σ τ (d :: l) (d' :: l')
inductive Vd3 (σ τ : Store) : List (List D) → List (List D) → Prop
 | nil : Vd3 σ τ [] []
 | cons {d d' : List D} {l l' : List (List D)} (h : Vd2 σ τ d d') (k : Vd3 σ τ l l') : Vd3 σ τ (d :: l) (d' :: l')
theorem Vd2.len {σ τ : Store} {l l' : List D} (h : Vd2 σ τ l l') : l'.length = l.length:=by induction h with | nil=>rfl | cons _ _ ih=>simp [ih]
theorem Vd3.len {σ τ : Store} {l l' : List (List D)} (h : Vd3 σ τ l l') : l'.length = l.length:=by induction h with | nil=>rfl | cons _ _ ih=>simp [ih]
theorem Vd2.same {σ τ : Store} (hs : ∀ b,b ∈ keysS τ → b ∈ keysS σ) : ∀ l : List D,Vd2 σ τ l l
 | []=>.nil
 | d :: l=>.cons (Vd.same hs d) (Vd2.same hs l)
theorem Vd3.same {σ τ : Store} (hs : ∀ b,b ∈ keysS τ → b ∈ keysS σ) : ∀ l : List (List D),Vd3 σ τ l l
 | []=>.nil
 | d :: l=>.cons (Vd2.same hs d) (Vd3.same hs l)
theorem Vd2.at_ {σ τ : Store} {l l' : List D} (h : Vd2 σ τ l l') : ∀ {j : Nat} {d' : D},l'[j]? = some d' → ∃ d,l[j]? = some d ∧ Vd σ τ d d':=by
 induction h with
 | nil=>intro j d' h;simp at h
 | cons h k ih=>
  intro j d' hj
  cases j with
  | zero=>simp at hj;subst hj;exact ⟨_,rfl,h⟩
  | succ j=>simp at hj;obtain ⟨d,h1,h2⟩:=ih hj;exact ⟨d,by simpa using h1,h2⟩
theorem Vd3.at_ {σ τ : Store} {l l' : List (List D)} (h : Vd3 σ τ l l') : ∀ {j : Nat} {d' : List D},l'[j]? = some d' → ∃ d,l[j]? = some d ∧ Vd2 σ τ d d':=by
 induction h with
 | nil=>intro j d' h;simp at h
 | cons h k ih=>
  intro j d' hj
  cases j with
  | zero=>simp at hj;subst hj;exact ⟨_,rfl,h⟩
  | succ j=>simp at hj;obtain ⟨d,h1,h2⟩:=ih hj;exact ⟨d,by simpa using h1,h2⟩
theorem Vd.sl {σ τ : Store} (hs : ∀ b,b ∈ keysS τ → b ∈ keysS σ) {k : Nat} {xs xs' : List (List D)} (h : Vd3 σ τ xs xs') : Vd σ τ (.sl k xs) (.sl k xs'):=by
 intro w X u hst hr
 obtain ⟨a,cap,f,e1,hcap,hk,hc,hrr⟩:=hr.sl_inv
 rw [e1,← h.len]
 refine .sl k _ a cap f (by rw [h.len];exact hcap) (fun y hy=>?_) (fun i y hy=>?_) (fun i y hy j d hd=>?_)
 ·obtain ⟨i,hi⟩:=List.getElem?_of_mem hy
  obtain ⟨z,h1,h2⟩:=h.at_ hi
  rw [h2.len];exact hk z (List.mem_of_getElem? h1)
 ·obtain ⟨z,h1,h2⟩:=h.at_ hy
  obtain ⟨b,off,q1,q2,q3,q4⟩:=hc i z h1
  exact ⟨b,off,q1,fun ho=>q2 (ho.imp id (hs b)),q3,q4⟩
 ·obtain ⟨z,h1,h2⟩:=h.at_ hy
  obtain ⟨d0,h3,h4⟩:=h2.at_ hd
  exact h4 w X _ hst (hrr i z h1 j d0 h3)
theorem Vd.agg {σ τ : Store} {l l' : List D} (h : Vd2 σ τ l l') : Vd σ τ (.agg l) (.agg l'):=by
 intro w X u hst hr
 obtain ⟨vs,rfl,hv⟩:=hr.agg_inv
 refine .agg _ _ (by rw [h.len];exact hv.len) (fun j d u hd hu=>?_)
 obtain ⟨d0,h1,h2⟩:=h.at_ hd
 exact h2 w X u hst (hv.at_ j d0 u h1 hu)
theorem Vd.tup {σ τ : Store} {l l' : List D} (h : Vd2 σ τ l l') : Vd σ τ (.tup l) (.tup l'):=by
 intro w X u hst hr
 obtain ⟨vs,rfl,hv⟩:=hr.tup_inv
 refine .tup _ _ (by rw [h.len];exact hv.len) (fun j d u hd hu=>?_)
 obtain ⟨d0,h1,h2⟩:=h.at_ hd
 exact h2 w X u hst (hv.at_ j d0 u h1 hu)
theorem Vs.vd {σ τ : Store} {d d' : D} (hp : ∃ ρ,σ.Perm (ρ ++ τ)) (h : Vd σ τ d d') : Vs σ d τ d':=by
 obtain ⟨ρ,hp⟩:=hp
 exact ⟨fun w X u hs hr=>⟨(hs.perm hp).sub (List.sublist_append_right _ _),h w X u hs hr⟩,fun b hb=>perm_keys hp b (by rw [keys_append];exact List.mem_append_right _ hb)⟩
end
end
section
open Go Go.RowKit Go.Shelf
inductive LeR : List (List D) → List (List D) → Prop
 | nil : LeR [] []
 | cons {x y : List D} {xs ys : List (List D)} (h : LeL x y) (t : LeR xs ys) : LeR (x :: xs) (y :: ys)
theorem LeL.refl : ∀ l : List D,LeL l l
 | []=>.nil
 | d :: l=>.cons (Le.refl d) (LeL.refl l)
theorem LeR.refl : ∀ l : List (List D),LeR l l
 | []=>.nil
 | d :: l=>.cons (LeL.refl d) (LeR.refl l)
theorem LeR.append {a b c d : List (List D)} (h : LeR a b) (k : LeR c d) : LeR (a ++ c) (b ++ d):=by
 induction h with
 | nil=>exact k
 | cons h _ ih=>exact .cons h ih
theorem LeR.len {a b : List (List D)} (h : LeR a b) : b.length = a.length:=by induction h with | nil=>rfl | cons _ _ ih=>simp [ih]
theorem LeL.vd {σ τ : Store} (hs : ∀ b,b ∈ keysS τ → b ∈ keysS σ) {a b : List D} (h : LeL a b) : Vd2 σ τ a b:=by
 induction h with
 | nil=>exact .nil
 | cons h _ ih=>exact .cons (fun w X u _ hr=>h _ _ _ (rd_own_sub hr hs)) ih
theorem LeR.vd {σ τ : Store} (hs : ∀ b,b ∈ keysS τ → b ∈ keysS σ) {a b : List (List D)} (h : LeR a b) : Vd3 σ τ a b:=by
 induction h with
 | nil=>exact .nil
 | cons h _ ih=>exact .cons (h.vd hs) ih
theorem le_sl {k : Nat} {xs ys : List (List D)} (h : LeR xs ys) : Le (.sl k xs) (.sl k ys):=by
 intro w O u hr
 obtain ⟨a,cap,f,e1,hcap,hk,hc,hrr⟩:=hr.sl_inv
 have hv : Vd3 [] [] xs ys:=h.vd (fun _ h=>h)
 have at2 : ∀ {i : Nat} {y : List D},ys[i]? = some y → ∃ z,xs[i]? = some z ∧ LeL z y:=by
  clear hv hrr hc hk hcap e1 hr
  induction h with
  | nil=>intro i y hy;simp at hy
  | cons h _ ih=>
   intro i y hy
   cases i with
   | zero=>simp at hy;subst hy;exact ⟨_,rfl,h⟩
   | succ i=>simp at hy;obtain ⟨z,h1,h2⟩:=ih hy;exact ⟨z,by simpa using h1,h2⟩
 have atL : ∀ {z y : List D},LeL z y → z.length = y.length ∧ ∀ {j : Nat} {d' : D},y[j]? = some d' → ∃ d,z[j]? = some d ∧ Le d d':=by
  intro z y hl
  induction hl with
  | nil=>exact ⟨rfl,fun h=>by simp at h⟩
  | cons h _ ih=>
   refine ⟨by simp [ih.1],fun {j d'} hj=>?_⟩
   cases j with
   | zero=>simp at hj;subst hj;exact ⟨_,rfl,h⟩
   | succ j=>simp at hj;obtain ⟨d,h1,h2⟩:=ih.2 hj;exact ⟨d,by simpa using h1,h2⟩
 rw [e1,← h.len]
 refine .sl k _ a cap f (by rw [h.len];exact hcap) (fun y hy=>?_) (fun i y hy=>?_) (fun i y hy j d hd=>?_)
 ·obtain ⟨i,hi⟩:=List.getElem?_of_mem hy
  obtain ⟨z,h1,h2⟩:=at2 hi
  rw [← (atL h2).1];exact hk z (List.mem_of_getElem? h1)
 ·obtain ⟨z,h1,h2⟩:=at2 hy
  obtain ⟨b,off,q1,q2,q3,q4⟩:=hc i z h1
  exact ⟨b,off,q1,q2,q3,q4⟩
 ·obtain ⟨z,h1,h2⟩:=at2 hy
  obtain ⟨d0,h3,h4⟩:=(atL h2).2 hd
  exact h4 _ _ _ (hrr i z h1 j d0 h3)
theorem Pk.rowLe {σ τ : Store} {e : TypeId} {k : Nat} {rs xs : List (List D)} {v : Value} {s : Store} (h : RowIs e k rs v s) (hl : LeR rs xs) (hp : σ.Perm (s ++ τ)) : Pk σ (.v v) (.sl k xs):=
 ⟨fun w X u hs hr=>by have:=hr.val rfl;subst this;exact le_sl hl _ _ _ (rd_row h (hs.perm hp)).stable⟩
theorem Vd.rowLe {σ τ ρ : Store} {e : TypeId} {k : Nat} {rs xs : List (List D)} {v : Value} {s : Store} (h : RowIs e k rs v s) (hl : LeR rs xs) (hp : σ.Perm (s ++ ρ)) (hsub : ∀ b,b ∈ keysS τ → b ∈ keysS ρ) : Vd σ τ (.v v) (.sl k xs):=
 fun w X u hs hr=>le_sl hl _ _ _ (rd_own_sub ((Vs.row h hp).run w X u hs hr).2 hsub)
structure Sc (σ τ : Store) : Prop where
 run : ∀ (w : World) (X : Nat → Prop),StOK w X σ → StOK w X τ
 sub : ∀ b,b ∈ keysS τ → b ∈ keysS σ
theorem Sc.trans {a b c : Store} (h : Sc a b) (k : Sc b c) : Sc a c:=⟨fun w X hs=>k.run w X (h.run w X hs),fun x hx=>h.sub x (k.sub x hx)⟩
theorem Sc.perm {a b : Store} (h : a.Perm b) : Sc a b:=⟨fun _ _ hs=>hs.perm h,fun x hx=>perm_keys h x hx⟩
theorem Sc.frz {b : Nat} {t e : TypeId} {cs : List D} {j k : Nat} {xs ys : List (List D)} {v : Value} {s τ : Store} (hj : cs[j]? = some (.v v)) (h : RowIs e k xs v s) (hl : LeR xs ys) : Sc ((b,.cells t cs) :: (s ++ τ)) ((b,.cells t (cs.set j (.sl k ys))) :: τ):=by
 have hsub : ∀ x,x ∈ keysS ((b,Blk.cells t (cs.set j (.sl k ys))) :: τ) → x ∈ keysS ((b,Blk.cells t cs) :: (s ++ τ)):=fun x hx=>by
  simp only [keysS,List.map_cons,List.map_append,List.mem_cons,List.mem_append] at hx ⊢
  rcases hx with h | h
  ·exact .inl h
  ·exact .inr (.inr h)
 refine ⟨fun w X hs=>?_,hsub⟩
 have hO : ∀ x,x < w.heap.size → ¬ Own ((b,Blk.cells t cs) :: (s ++ τ)) X x → ¬ Own ((b,Blk.cells t (cs.set j (.sl k ys))) :: τ) X x:=fun x _ hn ho=>hn (ho.imp id (hsub x))
 have hp : ((b,Blk.cells t cs) :: (s ++ τ)).Perm (s ++ ((b,Blk.cells t cs) :: τ)):=List.perm_middle.symm
 have hrow:=rd_row h (hs.perm hp)
 have hrow' : Rd w (Own ((b,Blk.cells t (cs.set j (.sl k ys))) :: τ) X) (.sl k ys) v:=le_sl hl _ _ _ (by
  have e : Own ((b,Blk.cells t (cs.set j (.sl k ys))) :: τ) X = Own ((b,Blk.cells t cs) :: τ) X:=rfl
  rw [e];exact hrow)
 refine ⟨?_,fun x kk hm=>?_,hs.xlt,hs.gok.mono (fun x ho=>ho.imp id (hsub x))⟩
 ·have hnd:=hs.nodup
  simp only [keysS,List.map_cons,List.map_append,List.nodup_cons,List.mem_append,List.nodup_append] at hnd ⊢
  exact ⟨fun h=>hnd.1 (.inr h),hnd.2.2.1⟩
 ·rcases List.mem_cons.1 hm with e1 | hm
  ·cases e1
   obtain ⟨h1,o,h2,vs,rfl,h3⟩:=hs.at_ b _ List.mem_cons_self
   refine ⟨h1,_,h2,vs,rfl,⟨by rw [List.length_set];exact h3.len,fun i d u hi hu=>?_⟩⟩
   by_cases e2 : j = i
   ·subst e2
    rw [List.getElem?_set_self (List.getElem?_eq_some_iff.1 hj).1] at hi
    cases hi
    have:=(h3.at_ j _ u hj hu).val rfl
    rw [this];exact hrow'
   ·rw [List.getElem?_set_ne e2] at hi
    exact rd_own_sub (h3.at_ i d u hi hu) hsub
  ·obtain ⟨h1,o,h2,h3⟩:=hs.at_ x kk (List.mem_cons_of_mem _ (List.mem_append_right _ hm))
   exact ⟨h1,o,h2,Blk.ok_keep (Nat.le_refl _) hO (fun _ _ _=>rfl) h3⟩
section
variable {P : Program} {r : Option Nat} {n : Nat} {df : Nat} {N : Nat} {σ : Store} {f : Frm} {Q : Fst}
theorem lp_sto {c : Code} {τ : Store} (hp : Sc σ τ) (k : Lp P r n df N c Q f τ) : Lp P r n df N c Q f σ:=
 ⟨fun a hs=>awp_conv (fun w X fr h=>⟨h.fr.keep (Nat.le_refl _) (fun x _ hn ho=>hn (ho.imp id (hp.sub x))) (fun _ _ _=>rfl),hp.run w X h.st,h.df.keep (Nat.le_refl _) (fun x _ hn ho=>hn (ho.imp id (hp.sub x))) (fun _ _ _=>rfl)⟩) hp.sub (k.run a hs)⟩
theorem Sc.refl (σ : Store) : Sc σ σ:=⟨fun _ _ h=>h,fun _ h=>h⟩
theorem Sc.drop {τ ρ : Store} (h : σ.Perm (τ ++ ρ)) : Sc σ τ:=⟨fun _ _ hs=>(hs.perm h).sub (List.sublist_append_left _ _),fun x hx=>perm_keys h x (by rw [keys_append];exact List.mem_append_left _ hx)⟩
theorem Sc.sl {τ : Store} (h : τ.Sublist σ) : Sc σ τ:=⟨fun _ _ hs=>hs.sub h,fun _ hx=>(h.map Prod.fst).subset hx⟩
theorem awp_post {c : Code} {a : List D} {Q1 Q2 : Pst} (h : AWP P r n df c Q1 a σ) (k : ∀ e a' σ',Q1 e a' σ' → ∃ τ,Sc σ' τ ∧ Q2 e a' τ) : AWP P r n df c Q2 a σ:=
 ⟨fun w X fr hs=>wpIn_mono (h.run w X fr hs) fun e fr' w' ⟨a',s',h1,h2,h3⟩=>by
  obtain ⟨τ,q1,q2⟩:=k e a' s' h1
  exact ⟨a',τ,q2,⟨h2.fr.keep (Nat.le_refl _) (fun x _ hn ho=>hn (ho.imp id (q1.sub x))) (fun _ _ _=>rfl),q1.run w' X h2.st,h2.df.keep (Nat.le_refl _) (fun x _ hn ho=>hn (ho.imp id (q1.sub x))) (fun _ _ _=>rfl)⟩,h3.fewer q1.sub⟩⟩
variable {T : TypeId → Option TI} {L : List Oper}
theorem lp_ordS (hm : P.follows .mixedOrders = true) (hT : ∀ t i,T t = some i → tiOf P t = some i) {id : Nat} {O : Array Oper} (hO : O = L.toArray) (hs : List Nat) (fu : Nat) (t : Ord) {γ : Type} (ps : γ → Frm) (S : γ → Store) (I : γ → Prop)
  (hB : (Nat.beq (hs.length + fu) L.length && mixOB .any L.toArray (loE hs) fu t hs (Array.replicate L.length false) && ordAll (loE hs) t) = true)
  (h : W (exHs P T N L (loE hs) σ hs (fun f1=>exOrd P T r n df N L (fun f' σ'=>∃ g,chkF f' (headF (.region id O true) f (ps g)) ∧ Sc σ' (S g) ∧ I g) t f1 σ) f))
  (kk : ∀ g,I g → W (forceF (headF (.region id O true) f (ps g)) fun F=>Q .normal F (S g))) : Lp P r n df N (.region id O true) Q f σ:=by
 subst hO
 simp only [Bool.and_eq_true] at hB
 refine ⟨fun a hs'=>?_⟩
 refine awp_post (awp_draw_ord (Q:=fun e a' σ'=>e = .normal ∧ ∃ f',Sp N a' f' ∧ ∃ g,chkF f' (headF (.region id L.toArray true) f (ps g)) ∧ Sc σ' (S g) ∧ I g) (loE hs) hs fu t hm (Nat.eq_of_beq_eq_true hB.1.1) hB.1.2 (gLex_mono (fun a' σ' h'=>?_) (exHs_ok hT h.h hs'))) ?_
 ·obtain ⟨rfl,f',h1,h2⟩:=h'
  have:=exOrd_ok hT hB.2 h2 h1
  exact gOrd_mono (fun a σ h=>⟨rfl,h⟩) this
 ·rintro e a' σ' ⟨rfl,f',h1,g,h2,h4,h3⟩
  exact ⟨S g,h4,_,h1.sub h2,forceF_ok (kk g h3).h⟩
def joinS {γ : Type} (F : γ → Frm) (S : γ → Store) (I : γ → Prop) (Q : Fst) : Fst
 | .normal,f',σ'=>∃ g,chkF f' (F g) ∧ Sc σ' (S g) ∧ I g
 | e,f',σ'=>Q e f' σ'
theorem lp_anyS (hm : P.follows .mixedOrders = true) (hT : ∀ t i,T t = some i → tiOf P t = some i) {c : Code} {γ : Type} (ps : γ → Frm) (S : γ → Store) (I : γ → Prop)
  (h : W (exCode P T r n df N c (joinS (fun g=>headF c f (ps g)) S I Q) f σ))
  (kk : ∀ g,I g → W (forceF (headF c f (ps g)) fun F=>Q .normal F (S g))) : Lp P r n df N c Q f σ:=by
 refine ⟨fun a hs=>awp_post (exCode_ok hm hT h.h hs) ?_⟩
 rintro e a' σ' ⟨f',h1,h2⟩
 cases e with
 | normal=>
  obtain ⟨g,h3,h5,h4⟩:=h2
  exact ⟨S g,h5,_,h1.sub h3,forceF_ok (kk g h4).h⟩
 | _=>exact ⟨σ',Sc.refl _,f',h1,h2⟩
theorem lp_loopS (hm : P.follows .mixedOrders = true) (hT : ∀ t i,T t = some i → tiOf P t = some i) {c : Code} {γ : Type} (ps : γ → Frm) (S : γ → Store) (I : γ → Prop) (μ : γ → Nat) (g₀ : γ)
  (h1 : chkF f (headF c f (ps g₀))) (h2 : Sc σ (S g₀)) (h3 : I g₀)
  (h4 : ∀ g,I g → W (forceF (headF c f (ps g)) fun F=>exCode P T r n df N c (thenF (fun f' σ'=>∃ g',chkF f' (headF c f (ps g')) ∧ Sc σ' (S g') ∧ I g' ∧ μ g' < μ g) Q) F (S g))) :
  Lp P r n df N (.loop c) Q f σ:=by
 refine lp_sto h2 ⟨fun a hs=>?_⟩
 refine awp_loop (fun m a σ=>∃ g,μ g = m ∧ I g ∧ Sp N a (headF c f (ps g)) ∧ σ = S g) (μ g₀) ⟨g₀,rfl,h3,hs.sub h1,rfl⟩ ?_
 rintro m a σ ⟨g,rfl,hI,hS,rfl⟩
 refine awp_post (exCode_ok hm hT (forceF_ok (h4 g hI).h) hS) ?_
 rintro e a' σ' ⟨f',hs',h'⟩
 cases e with
 | normal=>obtain ⟨g',k1,k2,k3,k4⟩:=h';exact ⟨S g',k2,μ g',k4,g',rfl,k3,hs'.sub k1,rfl⟩
 | _=>exact ⟨σ',Sc.refl _,f',hs',h'⟩
end
end
section
open Go Go.RowKit Go.Shelf
section
variable {P : Program} {r : Option Nat} {n : Nat} {df : Nat} {N : Nat} {σ : Store} {a : List D} {f : Frm} {T : TypeId → Option TI} {L : List Oper} {Q : Fst}
def isBsl (o : Oper) : Bool:=match o.op with
 | .buildSlice _ (_ + 1) _=>true
 | _=>false
def exStepB (P : Program) (T : TypeId → Option TI) (r : Option Nat) (n : Nat) (df : Nat) (N : Nat) (L : List Oper) (k : Nat) (K : Frm → Store → Prop) (f : Frm) (σ : Store) : Prop:=match L[k]? with
 | none=>False
 | some o=>match isBsl o with
  | false=>exStep P T r n df N L k K f σ
  | true=>exG L (cutF (o.looksAt L.toArray) f) o fun go=>match go with
   | true=>OtE P r n df L N o (cutF (o.looksAt L.toArray) f) σ (fun f' σ'=>match o.dst with
    | none=>K f σ'
    | some i=>match lookF f' i with
     | none=>False
     | some d=>bif Nat.blt i N then K ((i,d) :: f) σ' else False)
   | false=>False
theorem exStepB_ok (hT : ∀ t i,T t = some i → tiOf P t = some i) {E : Nat → Bool} {k : Nat} {K : Frm → Store → Prop} {G : List D → Store → Prop} (hE : E k = true) (h : exStepB P T r n df N L k K f σ) (hs : Sp N a f)
  (hk : ∀ f' σ' a',K f' σ' → Sp N a' f' → G a' σ') : gOp P r n df L.toArray E k G a σ:=by
 unfold exStepB at h
 split at h
 ·exact h.elim
 ·rename_i o ho
  split at h
  ·exact exStep_ok hT hE h hs hk
  ·have ho' : L.toArray[k]? = some o:=by simpa using ho
   unfold gOp
   rw [ho']
   simp only [hE]
   obtain ⟨go,hw,h1⟩:=exG_ok h (hs.cut _)
   cases go with
   | false=>exact h1.elim
   | true=>
    refine h1.run [] _ _ (hs.cut _) hw (fun f' σ' a' h' hs'=>aops_nil ⟨rfl,by rw [hs'.len,hs.len],?_⟩)
    cases hd : o.dst with
    | none=>
     rw [hd] at h'
     exact ⟨.any,(fun i hi=>by cases hi),hk _ _ _ h' hs⟩
    | some i=>
     rw [hd] at h'
     simp only at h'
     split at h'
     ·exact h'.elim
     ·rename_i d hf'
      obtain ⟨hi,h2⟩:=cond_ok h'
      rw [Nat.blt_eq] at hi
      have hia : i < a'.length:=by rw [hs'.len];exact hi
      refine ⟨a'[i],fun j hj _=>by cases hj;exact List.getElem?_eq_getElem hia,hk _ _ _ h2 ?_⟩
      refine ⟨by simp [putD,hs.len],fun j d' hj=>?_⟩
      simp only [lookF] at hj
      cases he : Nat.beq i j with
      | true=>
       rw [he] at hj
       simp only [cond_true,Option.some.injEq] at hj
       have:=Nat.eq_of_beq_eq_true he
       subst this hj
       rcases hs'.at_ i _ hf' with h3 | h3
       ·exact .inl h3
       ·right
        rw [List.getElem?_eq_getElem hia] at h3
        simp only [Option.some.injEq] at h3
        simp [putD,hs.len,hi,h3]
      | false=>
       rw [he] at hj
       have hne : i ≠ j:=fun e=>by subst e;simp at he
       rcases hs.at_ j d' hj with h1 | h1
       ·exact .inl h1
       ·exact .inr (by simp [putD,List.getElem?_set,hne,h1])
end
end
section
open Go Go.RowKit Go.Shelf
section
variable {P : Program} {r : Option Nat} {n : Nat} {df : Nat} {N : Nat} {σ : Store} {a : List D} {f : Frm} {T : TypeId → Option TI} {L : List Oper} {Q : Fst} {ρ : Operand → D}
theorem Vs.sc {σ τ : Store} (h : Sc σ τ) (d : D) : Vs σ d τ d:=⟨fun w X _ hs hr=>⟨h.run w X hs,rd_own_sub hr h.sub⟩,h.sub⟩
theorem Sc.any {b : Nat} {e : TypeId} {cs cs' : List D} {τ : Store} (hl : cs'.length = cs.length) (h : ∀ (i : Nat) d',cs'[i]? = some d' → d' = .any ∨ cs[i]? = some d') : Sc ((b,.cells e cs) :: τ) ((b,.cells e cs') :: τ):=by
 refine ⟨fun w X hs=>⟨hs.nodup,fun x kk hm=>?_,hs.xlt,hs.gok⟩,fun b hb=>hb⟩
 rcases List.mem_cons.1 hm with e1 | hm
 ·cases e1
  obtain ⟨h1,o,h2,vs,rfl,h3⟩:=hs.at_ b _ List.mem_cons_self
  exact ⟨h1,_,h2,vs,rfl,⟨by rw [h3.len,hl],fun i d u hi hu=>by
   rcases h i d hi with rfl | h'
   ·exact .any u
   ·exact h3.at_ i d u h' hu⟩⟩
 ·exact hs.at_ x kk (List.mem_cons_of_mem _ hm)
end
end
end Go.Proofs.YtjbbmjjildhfbaaGreatDoor
