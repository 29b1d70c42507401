/- A part of the proof: Ha Hb Hc Hd Hk Jq. -/
import Derived.Test.YtjbbmjjildhfbaaGreatDoorA09
set_option maxRecDepth 100000
set_option maxHeartbeats 4000000
set_option linter.unusedVariables false
set_option linter.unusedSimpArgs false
namespace Go.Proofs.YtjbbmjjildhfbaaGreatDoor
section
open Go
def I64n (n : Int) : Prop:=-9223372036854775808 ≤ n ∧ n ≤ 9223372036854775807
def posN (a : Int) : Int:=if a < 0 then -(a + 1) else a
def arE (a n : Int) : Int:=if n < 1 then 0 else (posN a).tmod n
def atE (xs : List Int) (i n : Int) : Int:=if i < 0 ∨ xs.length ≤ i then 0 else arE (xs.getD i.toNat 0) n
theorem arE_in (a n : Int) : 0 ≤ arE a n ∧ (1 ≤ n → arE a n < n) ∧ (n < 1 → arE a n = 0):=by
 unfold arE
 have hp : 0 ≤ posN a:=by unfold posN;split <;> omega
 split
 ·exact ⟨by omega,fun h=>by omega,fun _=>rfl⟩
 ·refine ⟨Int.tmod_nonneg _ hp,fun h=>Int.tmod_lt_of_pos _ (by omega),fun h=>by omega⟩
theorem atE_in (xs : List Int) (i n : Int) : 0 ≤ atE xs i n ∧ (1 ≤ n → atE xs i n < n):=by
 unfold atE
 split
 ·exact ⟨by omega,fun h=>by omega⟩
 ·have:=arE_in (xs.getD i.toNat 0) n
  exact ⟨this.1,this.2.1⟩
theorem r01_around (a n : Int) (ha : I64n a) : APure Tryz.prog 11 [iD a,iD n] (iD (arE a n)):=by
 obtain ⟨h1,h2⟩:=ha
 refine APure.of_call (enterX mixed tget_ok Tryz.func11 (by kernel_rfl) rfl Tryz.ntmps11 rfl ?_);intro BB
 repeat' (first | refine sk2 ?_ | (intro b;conv=>whnf) | (with_reducible refine Br.d (fun hc=>?_) (fun hc=>?_)) | (with_reducible refine Br.b (fun hc=>?_) (fun hc=>?_)))
 all_goals
  refine Rt.pure (congrArg iD ?_)
  unfold arE posN
  simp [*]
def I64s (xs : List Int) : Prop:=(∀ x ∈ xs,I64n x) ∧ xs.length ≤ 140737488355328
theorem sk4 {A B : Prop} (k : B) (h : Hd7 B → A:=by intro hk7q;(first | refine sb0 ?_ | refine sb1 ?_ | ((with_reducible refine' Cp.by ?hc ?_);(case hc=>exact HA)) | ((with_reducible refine' CE.pure ?hc ?_);(case hc=>exact HA)));exact hk7q.run) : A:=h ⟨k⟩
theorem r01_at (xs : List Int) (hx : I64s xs) (i n : Int) : APure Tryz.prog 52 [slI xs,iD i,iD n] (iD (atE xs i n)):=by
 have hxl:=hx.2
 by_cases h0 : i < 0
 ·have HA:=True.intro
  refine APure.of_call (enterX mixed tget_ok Tryz.func52 (by kernel_rfl) rfl Tryz.ntmps52 rfl ?_);intro BB
  repeat' (first | refine sk4 ?_ | (intro b;conv=>whnf))
  refine Rt.pure (congrArg iD ?_)
  unfold atE;rw [if_pos (.inl h0)]
 ·by_cases h1 : i.toNat < xs.length
  ·obtain ⟨a,ha⟩ : ∃ a,xs[i.toNat]? = some a:=⟨_,List.getElem?_eq_getElem h1⟩
   have HA:=r01_around a n (hx.1 a (List.mem_of_getElem? ha))
   refine APure.of_call (enterX mixed tget_ok Tryz.func52 (by kernel_rfl) rfl Tryz.ntmps52 rfl ?_);intro BB
   repeat' (first | refine sk4 ?_ | (intro b;conv=>whnf))
   refine Rt.pure (congrArg iD ?_)
   unfold atE;rw [if_neg (by omega)]
   simp [List.getD_eq_getElem?_getD,ha]
  ·have HA:=True.intro
   refine APure.of_call (enterX mixed tget_ok Tryz.func52 (by kernel_rfl) rfl Tryz.ntmps52 rfl ?_);intro BB
   repeat' (first | refine sk4 ?_ | (intro b;conv=>whnf))
   refine Rt.pure (congrArg iD ?_)
   unfold atE;rw [if_pos (by omega)]
abbrev mkB (b : Nat) (xs : List Int) (pos : Int) : Nat × Blk:=(b,.cells 93 [slI xs,iD pos])
abbrev ptr (b : Nat) : D:=.v (.pointer (some ⟨b,0,none⟩))
theorem ACall.imp {P : Program} {f : FuncId} {args : List D} {σ : Store} {R R' : D → Store → Prop} (h : ACall P f args σ R) (k : ∀ d s,R d s → R' d s) : ACall P f args σ R':=
 ⟨h.ent,fun w X vs hv hs=>(h.run w X vs hv hs).mono fun e w' ⟨u,d,s,g1,g2,g3⟩=>⟨u,d,s,g1,k d s g2,g3⟩⟩
theorem r09_take0 (xs : List Int) (hx : I64s xs) (bm : Nat) (pos n : Int) (hp : 0 ≤ pos ∧ pos ≤ 1000000000) : ACall Tryz.prog 49 [ptr bm,iD n] [mkB bm xs pos] (fun d σ=>d = iD (atE xs pos n) ∧ σ = [mkB bm xs (pos + 1)]):=by
 have HA:=r01_at xs hx (pos + 1 - 1) n
 refine enterX mixed tget_ok Tryz.func49 (by kernel_rfl) rfl Tryz.ntmps49 rfl ?_;intro BB
 repeat' (first | refine sk4 ?_ | (intro b;conv=>whnf))
 refine Rt.same ⟨?_,rfl⟩
 rw [show pos + 1 - 1 = pos by omega]
theorem r09_take (xs : List Int) (hx : I64s xs) (bm : Nat) (pos n : Int) (hp : 0 ≤ pos ∧ pos ≤ 1000000000) : ACall Tryz.prog 49 [ptr bm,iD n] [mkB bm xs pos] (fun d σ=>∃ r,d = iD r ∧ (0 ≤ r ∧ (1 ≤ n → r < n)) ∧ σ = [mkB bm xs (pos + 1)]):=
 (r09_take0 xs hx bm pos n hp).imp fun d s ⟨h1,h2⟩=>⟨_,h1,atE_in xs pos n,h2⟩
end
section
open Go
def hasIx (l : List Fld) (nm : ByteArray) : Int:=idx (fun f=>seq f.name nm) l
def plainK (n : Int) : Bool:=!decide (n = 0) && !decide (n = 1) && !decide (n = 6) && !decide (n = 7)
def copyIx (k : Knd) : Int:=idx (fun f=>plainK f.kind) k.fields
theorem r09_has (l : List Fld) (nm : ByteArray) (hl : l.length ≤ 1000000) : APure Tryz.prog 71 [slF l,sD nm] (iD (hasIx l nm)):=by
 refine APure.of_call (enterX mixed tget_ok Tryz.func71 (by kernel_rfl) rfl Tryz.ntmps71 rfl ?_);intro BB
 repeat' (first | refine sk2 ?_ | (intro b;conv=>whnf) | refine IxM.mk fun y hy=>?_)
 refine lp_loop mixed tget_ok (γ:=Nat) (fun q=>[(5,iD q)]) (fun _=>[]) (fun q=>q ≤ l.length ∧ ∀ i y,i < q → l[i]? = some y → seq y.name nm = false) (fun q=>l.length - q) 0 rfl rfl ⟨by omega,by omega⟩ ?_
 rintro q ⟨hq,hno⟩
 repeat' (first | refine sk2 ?_ | (intro b;conv=>whnf) | refine IxM.mk fun y hy=>?_ | (with_reducible refine Br.d (fun hc=>?_) (fun hc=>?_)) | (with_reducible refine Br.b (fun hc=>?_) (fun hc=>?_)))
 ·refine Rt.pure (congrArg iD ?_)
  exact (idx_found hy ‹_› hno).symm
 ·exact ⟨q + 1,rfl,rfl,⟨by omega,fun i z hi hz=>by
   by_cases e : i = q
   ·subst e;rw [show ((i : Int)).toNat = i from rfl,hz] at hy;cases hy;assumption
   ·exact hno i z (by omega) hz⟩,by omega⟩
 ·refine Rt.pure (congrArg iD ?_)
  exact (idx_none fun i y hy=>hno i y (by have:=(List.getElem?_eq_some_iff.1 hy).1;omega) hy).symm
theorem cl2 {p : Prop} (h : p:=by repeat (first | exact Chk.nil | refine Chk.cons rfl ?_)) : p:=h
theorem cl3 {p : Prop} (h : p:=by repeat (first | exact List.Sublist.refl _ | exact List.nil_sublist _ | apply List.Sublist.cons)) : p:=h
theorem r09_copied (k : Knd) (hl : k.fields.length ≤ 1000000) : APure Tryz.prog 70 [kndD k] (iD (copyIx k)):=by
 refine APure.of_call (enterX mixed tget_ok Tryz.func70 (by kernel_rfl) rfl Tryz.ntmps70 rfl ?_);intro BB
 repeat' (first | refine sk2 ?_ | (intro b;conv=>whnf))
 refine lp_loopd mixed tget_ok (γ:=Nat) (fun q=>[(3,iD q)]) (fun _=>[]) (fun q=>q ≤ k.fields.length ∧ ∀ i y,i < q → k.fields[i]? = some y → plainK y.kind = false) (fun q=>k.fields.length - q) 0 (chk_of cl2) cl3 ⟨by omega,by omega⟩ ?_
 rintro q ⟨hq,hno⟩
 by_cases hql : q < k.fields.length
 ·obtain ⟨y,hy0⟩ : ∃ y,k.fields[q]? = some y:=⟨_,List.getElem?_eq_getElem hql⟩
  have hy : k.fields[((q : Nat) : Int).toNat]? = some y:=hy0
  have nxt : plainK y.kind = false → ∀ i z,i < q + 1 → k.fields[i]? = some z → plainK z.kind = false:=fun h i z hi hz=>by
   by_cases e : i = q
   ·subst e;cases hy0.symm.trans hz;exact h
   ·exact hno i z (by omega) hz
  by_cases h0 : y.kind = 0
  ·have hp : plainK y.kind = false:=by unfold plainK;simp [h0]
   repeat' (first | refine sk2 ?_ | (intro b;conv=>whnf))
   exact ⟨q + 1,(chk_of cl2),cl3,⟨by omega,nxt hp⟩,by omega⟩
  ·by_cases h1 : y.kind = 1
   ·have hp : plainK y.kind = false:=by unfold plainK;simp [h1]
    repeat' (first | refine sk2 ?_ | (intro b;conv=>whnf))
    exact ⟨q + 1,(chk_of cl2),cl3,⟨by omega,nxt hp⟩,by omega⟩
   ·by_cases h6 : y.kind = 6
    ·have hp : plainK y.kind = false:=by unfold plainK;simp [h6]
     repeat' (first | refine sk2 ?_ | (intro b;conv=>whnf))
     exact ⟨q + 1,(chk_of cl2),cl3,⟨by omega,nxt hp⟩,by omega⟩
    ·by_cases h7 : y.kind = 7
     ·have hp : plainK y.kind = false:=by unfold plainK;simp [h7]
      repeat' (first | refine sk2 ?_ | (intro b;conv=>whnf))
      exact ⟨q + 1,(chk_of cl2),cl3,⟨by omega,nxt hp⟩,by omega⟩
     ·have hp : plainK y.kind = true:=by unfold plainK;simp [h0,h1,h6,h7]
      repeat' (first | refine sk2 ?_ | (intro b;conv=>whnf))
      refine Rt.pure (congrArg iD ?_)
      exact (idx_found hy0 hp hno).symm
 ·obtain rfl : q = k.fields.length:=by omega
  repeat' (first | refine sk2 ?_ | (intro b;conv=>whnf))
  refine Rt.pure (congrArg iD ?_)
  exact (idx_none fun i y hy=>hno i y (List.getElem?_eq_some_iff.1 hy).1 hy).symm
end
section
open Go
abbrev nE : ByteArray:=⟨#[]⟩
abbrev nSize : ByteArray:=⟨#[115,105,122,101]⟩
abbrev nTag : ByteArray:=⟨#[116,97,103]⟩
abbrev nBorn : ByteArray:=⟨#[98,111,114,110]⟩
abbrev nLeft : ByteArray:=⟨#[108,101,102,116]⟩
abbrev nState : ByteArray:=⟨#[115,116,97,116,101]⟩
abbrev nLife : ByteArray:=⟨#[108,105,102,101]⟩
abbrev nLow : ByteArray:=⟨#[108,111,119]⟩
abbrev nHigh : ByteArray:=⟨#[104,105,103,104]⟩
abbrev nRed : ByteArray:=⟨#[114,101,100]⟩
abbrev nGreen : ByteArray:=⟨#[103,114,101,101,110]⟩
abbrev nBlue : ByteArray:=⟨#[98,108,117,101]⟩
inductive PlainF : List Fld → Prop
 | none : PlainF []
 | size (a b : Int) (ha : -5 ≤ a ∧ a ≤ 5) (hb : 0 ≤ b ∧ b < 20) : PlainF [⟨nSize,nE,nE,2,a,a + b,[],[]⟩]
 | tag (n : Nat) (ws : List Int) (hn : 1 ≤ n ∧ n ≤ 3) (hw : ws.length = n) (h0 : ∀ w ∈ ws,0 ≤ w ∧ w ≤ 4) (h1 : ∃ w ∈ ws,1 ≤ w) : PlainF [⟨nTag,nE,nE,3,0,0,[nRed,nGreen,nBlue].take n,ws⟩]
 | born (a b c d : Int) (ha : -200 ≤ a ∧ a < 200) (hb : 0 ≤ b ∧ b < 60) (hc : 0 ≤ c ∧ c < 3) (hd : 0 ≤ d ∧ d < 30) : PlainF [⟨nBorn,nE,nE,4,a,a + b,[],[]⟩,⟨nLeft,nBorn,nE,4,c,3 + d,[],[]⟩]
 | state (a b : Int) (ha : 0 ≤ a ∧ a < 3) (hb : 0 ≤ b ∧ b < 4) : PlainF [⟨nState,nLife,nE,5,a,a + b,[],[]⟩]
 | low (a b c d : Int) (ha : 0 ≤ a ∧ a < 5) (hb : 0 ≤ b ∧ b < 10) (hc : 0 ≤ c ∧ c < 5) (hd : 0 ≤ d ∧ d < 10) : PlainF [⟨nLow,nE,nE,2,a,5 + b,[],[]⟩,⟨nHigh,nE,nE,2,c,10 + d,[],[]⟩]
abbrev nilD : D:=.v (.slice .none 0 0)
abbrev fldR (f : Fld) (w g : D) : List D:=[sD f.name,sD f.of,sD f.up,iD f.kind,iD f.lo,iD f.hi,w,g]
theorem Vd.nil {σ τ : Store} (k : Nat) : Vd σ τ (.v (.slice .none 0 0)) (.sl k []):=fun w X u _ h=>by
 rw [h.val rfl]
 exact .sl k [] .none 0 (fun _ _=>undef) (by simp) (fun y hy=>by cases hy) (fun i y hy=>by simp at hy) (fun i y hy=>by simp at hy)
theorem Vd.row {σ τ ρ : Store} {e : TypeId} {k : Nat} {xs : List (List D)} {v : Value} {s : Store} (h : RowIs e k xs v s) (hp : σ.Perm (s ++ ρ)) (hsub : ∀ b,b ∈ keysS τ → b ∈ keysS ρ) : Vd σ τ (.v v) (.sl k xs):=
 fun w X u hs hr=>rd_own_sub ((Vs.row h hp).run w X u hs hr).2 hsub
theorem sb5 {A B : Prop} (k : B) (h : Hd7 B → A:=by intro hk7q;(first | (with_reducible refine Bc.l ?_) | (with_reducible refine Bx.l ?_) | fail | ((with_reducible refine Cb.go ?h ?_);(case h=>decide +kernel)));exact hk7q.run) : A:=h ⟨k⟩
theorem sk6 {A B : Prop} (k : B) (h : Hd7 B → A:=by intro hk7q;(first | refine sb0 ?_ | refine sb5 ?_ | ((with_reducible refine' Cp.by ?hc ?_);(case hc=>fail)) | ((with_reducible refine' CE.pure ?hc ?_);(case hc=>fail)));exact hk7q.run) : A:=h ⟨k⟩
theorem cl4 {p : Prop} (h : p:=by repeat' (first | exact Vd3.nil | exact Vd2.nil | refine Vd3.cons ?_ ?_ | refine Vd2.cons ?_ ?_ | exact Vd.nil _ | exact Vd.same (fun _ h=>h) _)) : p:=h
theorem cl5 {p : Prop} (h : p:=by (refine perm_ct fun a=>?_;simp only [List.append_eq,List.nil_append,ct_cons,ct_app,ct_nil,rfC,atC,iD,bD];omega)) : p:=h
theorem cl6 {p : Prop} (h : p:=by (refine perm_ct fun a=>?_;simp only [List.append_eq,List.nil_append,ct_cons,ct_app,ct_nil,rfC,atC,iD,bD];omega)) : p:=h
theorem cl7 {p : Prop} (h : p:=by repeat (first | exact Chk.nil | refine Chk.cons rfl ?_ | (refine Chk.cons (congrArg (fun n=>some (iD n)) ?h) ?_;(case h=>(first | omega | ((try simp only [List.length_map,List.length_take,List.length_append,List.length_cons,List.length_nil,List.length_replicate,Nat.reduceAdd]);omega)))))) : p:=h
theorem r09_plain (xs : List Int) (hx : I64s xs) (bm : Nat) (pos : Int) (hp : 0 ≤ pos ∧ pos ≤ 100000000) : ACall Tryz.prog 72 [ptr bm] [mkB bm xs pos] (fun d σ=>∃ pos' fs,(pos ≤ pos' ∧ pos' ≤ pos + 20) ∧ d = slF fs ∧ σ = [mkB bm xs pos'] ∧ PlainF fs):=by
 refine enterX mixed tget_ok Tryz.func72 (by kernel_rfl) rfl Tryz.ntmps72 rfl ?_;intro BB
 repeat' (first | refine sk6 ?_ | (intro b;conv=>whnf))
 (refine CE.own (r09_take xs hx bm _ _ ⟨by omega,by omega⟩) (List.Perm.refl ([mkB bm xs _] ++ _)) (fun s'=>s' ++ _) (fun s'=>List.Perm.refl _) ?_)
 rintro _ _ ⟨r,rfl,⟨hr,hr'⟩,rfl⟩
 have hr':=hr' (by omega)
 by_cases e0 : r = 0
 ·repeat' (first | refine sk6 ?_ | (intro b;conv=>whnf))
  (refine CE.own (r09_take xs hx bm _ _ ⟨by omega,by omega⟩) (List.Perm.refl ([mkB bm xs _] ++ _)) (fun s'=>s' ++ _) (fun s'=>List.Perm.refl _) ?_)
  rintro _ _ ⟨a,rfl,⟨ha,ha'⟩,rfl⟩
  have ha':=ha' (by omega)
  repeat' (first | refine sk6 ?_ | (intro b;conv=>whnf))
  (refine CE.own (r09_take xs hx bm _ _ ⟨by omega,by omega⟩) (List.Perm.refl ([mkB bm xs _] ++ _)) (fun s'=>s' ++ _) (fun s'=>List.Perm.refl _) ?_)
  rintro _ _ ⟨b,rfl,⟨hb,hb'⟩,rfl⟩
  have hb':=hb' (by omega)
  repeat' (first | refine sk6 ?_ | (intro b;conv=>whnf))
  exact Rt.by (Vs.vd ⟨[],List.Perm.refl _⟩ (Vd.sl (fun _ h=>h) cl4)) ⟨_,_,⟨by omega,by omega⟩,rfl,rfl,PlainF.size (a - 5) b ⟨by omega,by omega⟩ ⟨by omega,by omega⟩⟩
 by_cases e1 : r = 1
 ·repeat' (first | refine sk6 ?_ | (intro b;conv=>whnf))
  (refine CE.own (r09_take xs hx bm _ _ ⟨by omega,by omega⟩) (List.Perm.refl ([mkB bm xs _] ++ _)) (fun s'=>s' ++ _) (fun s'=>List.Perm.refl _) ?_)
  rintro _ _ ⟨c,rfl,⟨hc,hc'⟩,rfl⟩
  have hc':=hc' (by omega)
  obtain ⟨n,hn,rfl⟩ : ∃ n : Nat,n < 3 ∧ c = n:=⟨c.toNat,by omega,by omega⟩
  repeat' (first | refine sk6 ?_ | (intro b;conv=>whnf))
  generalize hW : (List.take (1 + (n : Int)).toNat [[D.v (Value.string nRed)],[D.v (Value.string nGreen)],[D.v (Value.string nBlue)]]) = Wd
  have hWl : Wd.length = n + 1:=by rw [← hW,List.length_take];simp;omega
  refine lp_perm (List.Perm.swap _ _ _) ?_
  refine lp_loopd mixed tget_ok (γ:=List Int × Value × Store) (fun g=>[(6,iD g.1.length)]) (fun g=>mkB bm xs (pos + 2 + g.1.length) :: (b,.cells 111 (fldR ⟨nTag,nE,nE,3,0,0,[],[]⟩ (.sl 1 Wd) (.v g.2.1))) :: g.2.2) (fun g=>g.1.length ≤ n + 1 ∧ (∀ z ∈ g.1,0 ≤ z ∧ z ≤ 4) ∧ RowIs 3 1 (g.1.map fun z=>[iD z]) g.2.1 g.2.2) (fun g=>n + 1 - g.1.length) ([],.slice none 0 0,[]) (chk_of cl2) (by simp only [List.length_nil];rw [show pos + 2 + ((0 : Nat) : Int) = pos + 1 + 1 by omega];exact cl3) ⟨Nat.zero_le _,(by simp),RowIs.nil _ _⟩ ?_
  ·rintro ⟨ws,v,s⟩ ⟨hwl,hw,hrow⟩
   simp only at hwl hw hrow ⊢
   by_cases hlt : ws.length < n + 1
   ·have hb:=atE_in xs (pos + 2 + ws.length) 5
    have hb':=hb.2 (by omega)
    repeat' (first | refine sk6 ?_ | (intro b;conv=>whnf))
    (refine Dr.r ?_;(((with_reducible refine W.mk ?_);(conv=>whnf)));refine Dm.r ?_;refine W.mk ?_)
    refine lp_ord mixed tget_ok rfl [0,2] 6 (.two 1 (.one 3 (.one 4 (.one 5 (.one 6 (.one 7 .done))))) 3 (.two 1 (.one 4 (.one 5 (.one 6 (.one 7 .done)))) 4 (.one 1 (.one 5 (.one 6 (.one 7 .done)))))) (γ:=Value × Store) (fun g=>[(39,.v v),(41,iD (atE xs (pos + 2 + ws.length) 5)),(42,.sl 1 [[iD (atE xs (pos + 2 + ws.length) 5)]]),(43,.v g.1),(44,.v (.pointer (some ⟨b,0 + 7,none⟩)))]) (fun g=>mkB bm xs (pos + 2 + ws.length + 1) :: (b,.cells 111 (fldR ⟨nTag,nE,nE,3,0,0,[],[]⟩ (.sl 1 Wd) (.v g.1))) :: g.2) (fun g=>RowIs 3 1 ((ws ++ [atE xs (pos + 2 + ws.length) 5]).map fun z=>[iD z]) g.1 g.2) (by decide +kernel) ?_ ?_
    ·repeat' (first | refine sk6 ?_ | (intro b;conv=>whnf))
     repeat' (first | refine sk6 ?_ | (intro b;conv=>whnf) | (refine And.intro ?_ ?_ <;> (conv=>whnf)) | ((refine CE.own (r09_take0 xs hx bm _ _ ⟨by omega,by omega⟩) (List.Perm.refl ([mkB bm xs _] ++ _)) (fun s'=>s' ++ _) (fun s'=>List.Perm.refl _) ?_);(rintro _ _ ⟨rfl,rfl⟩)) | ((refine CE.own (r09_take0 xs hx bm _ _ ⟨by omega,by omega⟩) (show List.Perm (_ :: mkB bm xs _ :: _) ([mkB bm xs _] ++ (_ :: _)) from List.Perm.swap _ _ _) (fun s'=>s' ++ (_ :: _)) (fun s'=>List.Perm.refl _) ?_);(rintro _ _ ⟨rfl,rfl⟩)) | (refine Ap.go rfl rfl rfl rfl hrow (τ:=[mkB bm xs (pos + 2 + ws.length + 1),(b,.cells 111 (fldR ⟨nTag,nE,nE,3,0,0,[],[]⟩ (.sl 1 Wd) (.v v)))]) cl5 rfl (zs:=(ws ++ [atE xs (pos + 2 + ws.length) 5]).map fun z=>[iD z]) (by simp) (by simp;omega) (by simp;omega) (fun s'=>mkB bm xs (pos + 2 + ws.length + 1) :: (b,.cells 111 (fldR ⟨nTag,nE,nE,3,0,0,[],[]⟩ (.sl 1 Wd) (.v v))) :: s') (fun s'=>cl6) (fun a2 c2 s2 hr2=>?_)))
     all_goals exact ⟨(_,s2),(chk_of cl2),rfl,hr2⟩
    ·rintro ⟨v2,s2⟩ hr2
     generalize atE xs (pos + 2 + ws.length) 5 = B at *
     simp only at hr2 ⊢
     repeat' (first | refine sk6 ?_ | (intro b;conv=>whnf))
     refine ⟨(ws ++ [B],v2,s2),?_,?_,⟨by simp;omega,fun z hz=>?_,hr2⟩,by simp only [List.length_append,List.length_cons,List.length_nil];omega⟩
     ·simp only [List.length_append,List.length_cons,List.length_nil];exact (chk_of cl7)
     ·simp only [List.length_append,List.length_cons,List.length_nil]
      rw [show pos + 2 + ((ws.length + (0 + 1) : Nat) : Int) = pos + 2 + ws.length + 1 by omega]
      exact cl3
     ·rcases List.mem_append.1 hz with h | h
      ·exact hw z h
      ·rw [List.mem_singleton] at h;subst h;exact ⟨hb.1,by omega⟩
   ·have hwn : ws.length = n + 1:=by omega
    rw [hwn]
    have hcn:=atE_in xs (pos + 2 + (n + 1 : Nat)) (Wd.length : Nat)
    have hcn':=hcn.2 (by omega)
    have hdn:=atE_in xs (pos + 2 + (n + 1 : Nat) + 1) 3
    have hdn':=hdn.2 (by omega)
    obtain ⟨c,hcc⟩ : ∃ c : Nat,atE xs (pos + 2 + (n + 1 : Nat)) (Wd.length : Nat) = c:=⟨(atE xs (pos + 2 + (n + 1 : Nat)) (Wd.length : Nat)).toNat,by omega⟩
    have hcl : c < ws.length:=by omega
    obtain ⟨z,hz⟩ : ∃ z,ws[c]? = some z:=⟨_,List.getElem?_eq_getElem hcl⟩
    obtain ⟨b1,cap1,cs1,rfl,rfl,hc1,hset⟩:=row_open (g:=iD) hrow hz
    have hc1l:=(List.getElem?_eq_some_iff.1 hc1).1
    repeat' (first | refine sk6 ?_ | (intro b;conv=>whnf))
    (refine Dr.r ?_;(((with_reducible refine W.mk ?_);(conv=>whnf)));refine Dm.r ?_;refine W.mk ?_)
    refine lp_ord mixed tget_ok rfl [0,2,3,4,6] 6 (.two 1 (.one 5 (.one 7 (.one 8 (.one 9 (.one 10 .done))))) 5 (.two 1 (.one 7 (.one 8 (.one 9 (.one 10 .done)))) 7 (.two 1 (.one 8 (.one 9 (.one 10 .done))) 8 (.one 1 (.one 9 (.one 10 .done)))))) (γ:=Unit) (fun _=>[(46,.v (.slice (some ⟨b1,0,none⟩) ws.length cap1)),(50,iD (atE xs (pos + 2 + (n + 1 : Nat)) (Wd.length : Nat))),(52,iD (atE xs (pos + 2 + (n + 1 : Nat) + 1) 3)),(53,iD (1 + atE xs (pos + 2 + (n + 1 : Nat) + 1) 3)),(54,.v (.pointer (some ⟨b1,0 + (atE xs (pos + 2 + (n + 1 : Nat)) (Wd.length : Nat)).toNat * 1,none⟩)))]) (fun _=>(b1,.cells 3 (cs1.set c (iD (1 + atE xs (pos + 2 + (n + 1 : Nat) + 1) 3)))) :: [mkB bm xs (pos + 2 + (n + 1 : Nat) + 1 + 1),(b,.cells 111 (fldR ⟨nTag,nE,nE,3,0,0,[],[]⟩ (.sl 1 Wd) (.v (.slice (some ⟨b1,0,none⟩) ws.length cap1))))]) (fun _=>True) (by decide +kernel) ?_ ?_
    ·repeat' (first | refine sk6 ?_ | (intro b;conv=>whnf))
     repeat' (first | refine sk6 ?_ | (intro b;conv=>whnf) | (refine And.intro ?_ ?_ <;> (conv=>whnf)) | ((refine CE.own (r09_take0 xs hx bm _ _ ⟨by omega,by omega⟩) (List.Perm.refl ([mkB bm xs _] ++ _)) (fun s'=>s' ++ _) (fun s'=>List.Perm.refl _) ?_);(rintro _ _ ⟨rfl,rfl⟩)) | ((refine CE.own (r09_take0 xs hx bm _ _ ⟨by omega,by omega⟩) (show List.Perm (_ :: mkB bm xs _ :: _) ([mkB bm xs _] ++ (_ :: _)) from List.Perm.swap _ _ _) (fun s'=>s' ++ (_ :: _)) (fun s'=>List.Perm.refl _) ?_);(rintro _ _ ⟨rfl,rfl⟩)) | (refine Sv.cellm (tb:=3) (cs:=cs1) (cs':=cs1.set c (iD (1 + atE xs (pos + 2 + (n + 1 : Nat) + 1) 3))) (τ:=[mkB bm xs (pos + 2 + (n + 1 : Nat) + 1 + 1),(b,.cells 111 (fldR ⟨nTag,nE,nE,3,0,0,[],[]⟩ (.sl 1 Wd) (.v (.slice (some ⟨b1,0,none⟩) ws.length cap1))))]) cl5 (by rw [hcc,ix1];exact hc1l) rfl (by rw [hcc,ix1]) ?_))
     all_goals exact ⟨(),(chk_of cl2),rfl,trivial⟩
    ·rintro - -
     have hrow2:=hset (1 + atE xs (pos + 2 + (n + 1 : Nat) + 1) 3)
     generalize atE xs (pos + 2 + (n + 1 : Nat) + 1) 3 = E at *
     have hWd : Wd = ([nRed,nGreen,nBlue].take (n + 1)).map fun x=>[sD x]:=by
      rw [← hW,show (1 + (n : Int)).toNat = n + 1 by omega,List.map_take];rfl
     repeat' (first | refine sk6 ?_ | (intro b;conv=>whnf))
     rw [hWd]
     have hs : ∀ x,x ∈ keysS [mkB bm xs (pos + 2 + (n + 1 : Nat) + 1 + 1)] → x ∈ keysS ((b1,Blk.cells 3 (cs1.set c (iD (1 + E)))) :: [mkB bm xs (pos + 2 + (n + 1 : Nat) + 1 + 1),(b,.cells 111 (fldR ⟨nTag,nE,nE,3,0,0,[],[]⟩ (.sl 1 (([nRed,nGreen,nBlue].take (n + 1)).map fun x=>[sD x])) (.v (.slice (some ⟨b1,0,none⟩) ws.length cap1))))]):=fun x h=>by simp [keysS] at h ⊢;exact .inr (.inl h)
     refine Rt.by (Vs.vd ⟨[(b1,Blk.cells 3 (cs1.set c (iD (1 + E)))),(b,.cells 111 (fldR ⟨nTag,nE,nE,3,0,0,[],[]⟩ (.sl 1 (([nRed,nGreen,nBlue].take (n + 1)).map fun x=>[sD x])) (.v (.slice (some ⟨b1,0,none⟩) ws.length cap1))))],by (refine perm_ct fun a=>?_;simp only [List.append_eq,List.nil_append,ct_cons,ct_app,ct_nil,rfC,atC,iD,bD];omega)⟩ (Vd.sl hs (.cons (.cons (Vd.same hs _) (.cons (Vd.same hs _) (.cons (Vd.same hs _) (.cons (Vd.same hs _) (.cons (Vd.same hs _) (.cons (Vd.same hs _) (.cons (Vd.same hs _) (.cons (Vd.row hrow2 (List.Perm.refl _) (fun x h=>by simp [keysS] at h ⊢;exact .inl h)) .nil)))))))) .nil))) ⟨_,_,⟨?_,?_⟩,rfl,rfl,PlainF.tag (n + 1) (ws.set c (1 + E)) ⟨by omega,by omega⟩ (by rw [List.length_set];omega) (fun z hz=>?_) ⟨1 + E,?_,by omega⟩⟩
     ·omega
     ·omega
     ·rcases List.mem_or_eq_of_mem_set hz with h | rfl
      ·exact hw z h
      ·omega
     ·exact List.mem_set hcl _
 by_cases e2 : r = 2
 ·repeat' (first | refine sk6 ?_ | (intro b;conv=>whnf))
  (refine CE.own (r09_take xs hx bm _ _ ⟨by omega,by omega⟩) (List.Perm.refl ([mkB bm xs _] ++ _)) (fun s'=>s' ++ _) (fun s'=>List.Perm.refl _) ?_)
  rintro _ _ ⟨a,rfl,⟨ha,ha'⟩,rfl⟩
  have ha':=ha' (by omega)
  repeat' (first | refine sk6 ?_ | (intro b;conv=>whnf))
  have hb:=atE_in xs (pos + 1 + 1) 60
  have hb':=hb.2 (by omega)
  (refine Dr.r ?_;(((with_reducible refine W.mk ?_);(conv=>whnf)));refine Dm.r ?_;refine W.mk ?_)
  refine lp_ord mixed tget_ok rfl [0,2] 5 (.two 1 (.one 3 (.one 4 (.one 5 (.one 6 .done)))) 3 (.one 1 (.one 4 (.one 5 (.one 6 .done))))) (γ:=Unit) (fun _=>[(64,iD (a - 200)),(66,iD (atE xs (pos + 1 + 1) 60)),(67,iD (a - 200 + atE xs (pos + 1 + 1) 60)),(68,.v (.pointer (some ⟨b,0 + 5,none⟩)))]) (fun _=>[mkB bm xs (pos + 1 + 1 + 1),(b,.cells 111 (fldR ⟨nBorn,nE,nE,4,a - 200,a - 200 + atE xs (pos + 1 + 1) 60,[],[]⟩ nilD nilD))]) (fun _=>True) (by decide +kernel) ?_ ?_
  ·repeat' (first | refine sk6 ?_ | (intro b;conv=>whnf))
   repeat' (first | refine sk6 ?_ | (intro b;conv=>whnf) | (refine And.intro ?_ ?_ <;> (conv=>whnf)) | ((refine CE.own (r09_take0 xs hx bm _ _ ⟨by omega,by omega⟩) (List.Perm.refl ([mkB bm xs _] ++ _)) (fun s'=>s' ++ _) (fun s'=>List.Perm.refl _) ?_);(rintro _ _ ⟨rfl,rfl⟩)) | ((refine CE.own (r09_take0 xs hx bm _ _ ⟨by omega,by omega⟩) (show List.Perm (_ :: mkB bm xs _ :: _) ([mkB bm xs _] ++ (_ :: _)) from List.Perm.swap _ _ _) (fun s'=>s' ++ (_ :: _)) (fun s'=>List.Perm.refl _) ?_);(rintro _ _ ⟨rfl,rfl⟩)))
   all_goals exact ⟨(),(chk_of cl2),rfl,trivial⟩
  ·rintro - -
   generalize atE xs (pos + 1 + 1) 60 = B at *
   have hc:=atE_in xs (pos + 1 + 1 + 1) 3
   have hc':=hc.2 (by omega)
   have hd:=atE_in xs (pos + 1 + 1 + 1 + 1) 30
   have hd':=hd.2 (by omega)
   repeat' (first | refine sk6 ?_ | (intro b;conv=>whnf))
   (refine Dr.r ?_;refine W.mk ?_)
   refine lp_ord mixed tget_ok rfl [1,3] 7 (.two 0 (.one 2 (.one 4 (.one 5 (.one 6 (.one 7 (.one 8 .done)))))) 2 (.two 0 (.one 4 (.one 5 (.one 6 (.one 7 (.one 8 .done))))) 4 (.two 0 (.one 5 (.one 6 (.one 7 (.one 8 .done)))) 5 (.two 0 (.one 6 (.one 7 (.one 8 .done))) 6 (.one 0 (.one 7 (.one 8 .done))))))) (γ:=Unit) (fun _=>[(2,.sl 8 [fldR ⟨nBorn,nE,nE,4,a - 200,a - 200 + B,[],[]⟩ nilD nilD,fldR ⟨nLeft,nBorn,nE,4,atE xs (pos + 1 + 1 + 1) 3,3 + atE xs (pos + 1 + 1 + 1 + 1) 30,[],[]⟩ nilD nilD])]) (fun _=>[mkB bm xs (pos + 1 + 1 + 1 + 1 + 1),(b,.cells 111 (fldR ⟨nBorn,nE,nE,4,a - 200,a - 200 + B,[],[]⟩ nilD nilD))]) (fun _=>True) (by decide +kernel) ?_ ?_
   ·repeat' (first | refine sk6 ?_ | (intro b;conv=>whnf))
    repeat' (first | refine sk6 ?_ | (intro b;conv=>whnf) | (refine And.intro ?_ ?_ <;> (conv=>whnf)) | ((refine CE.own (r09_take0 xs hx bm _ _ ⟨by omega,by omega⟩) (List.Perm.refl ([mkB bm xs _] ++ _)) (fun s'=>s' ++ _) (fun s'=>List.Perm.refl _) ?_);(rintro _ _ ⟨rfl,rfl⟩)) | ((refine CE.own (r09_take0 xs hx bm _ _ ⟨by omega,by omega⟩) (show List.Perm (_ :: mkB bm xs _ :: _) ([mkB bm xs _] ++ (_ :: _)) from List.Perm.swap _ _ _) (fun s'=>s' ++ (_ :: _)) (fun s'=>List.Perm.refl _) ?_);(rintro _ _ ⟨rfl,rfl⟩)))
    all_goals exact ⟨(),(chk_of cl2),rfl,trivial⟩
   ·rintro - -
    generalize atE xs (pos + 1 + 1 + 1) 3 = C at *
    generalize atE xs (pos + 1 + 1 + 1 + 1) 30 = E at *
    repeat' (first | refine sk6 ?_ | (intro b;conv=>whnf))
    have hs : ∀ x,x ∈ keysS [mkB bm xs (pos + 1 + 1 + 1 + 1 + 1)] → x ∈ keysS [mkB bm xs (pos + 1 + 1 + 1 + 1 + 1),(b,.cells 111 (fldR ⟨nBorn,nE,nE,4,a - 200,a - 200 + B,[],[]⟩ nilD nilD))]:=fun x h=>by simp [keysS] at h ⊢;exact .inl h
    exact Rt.by (Vs.vd ⟨[_],List.Perm.swap _ _ _⟩ (Vd.sl hs (by repeat' (first | exact Vd3.nil | exact Vd2.nil | refine Vd3.cons ?_ ?_ | refine Vd2.cons ?_ ?_ | exact Vd.nil _ | exact Vd.same hs _)))) ⟨_,_,⟨by omega,by omega⟩,rfl,rfl,PlainF.born (a - 200) B C E ⟨by omega,by omega⟩ ⟨by omega,by omega⟩ ⟨by omega,by omega⟩ ⟨by omega,by omega⟩⟩
 by_cases e3 : r = 3
 ·repeat' (first | refine sk6 ?_ | (intro b;conv=>whnf))
  (refine CE.own (r09_take xs hx bm _ _ ⟨by omega,by omega⟩) (List.Perm.refl ([mkB bm xs _] ++ _)) (fun s'=>s' ++ _) (fun s'=>List.Perm.refl _) ?_)
  rintro _ _ ⟨a,rfl,⟨ha,ha'⟩,rfl⟩
  have ha':=ha' (by omega)
  repeat' (first | refine sk6 ?_ | (intro b;conv=>whnf))
  (refine CE.own (r09_take xs hx bm _ _ ⟨by omega,by omega⟩) (List.Perm.refl ([mkB bm xs _] ++ _)) (fun s'=>s' ++ _) (fun s'=>List.Perm.refl _) ?_)
  rintro _ _ ⟨b,rfl,⟨hb,hb'⟩,rfl⟩
  have hb':=hb' (by omega)
  repeat' (first | refine sk6 ?_ | (intro b;conv=>whnf))
  exact Rt.by (Vs.vd ⟨[],List.Perm.refl _⟩ (Vd.sl (fun _ h=>h) cl4)) ⟨_,_,⟨by omega,by omega⟩,rfl,rfl,PlainF.state a b ⟨by omega,by omega⟩ ⟨by omega,by omega⟩⟩
 by_cases e4 : r = 4
 ·repeat' (first | refine sk6 ?_ | (intro b;conv=>whnf))
  (refine CE.own (r09_take xs hx bm _ _ ⟨by omega,by omega⟩) (List.Perm.refl ([mkB bm xs _] ++ _)) (fun s'=>s' ++ _) (fun s'=>List.Perm.refl _) ?_)
  rintro _ _ ⟨a,rfl,⟨ha,ha'⟩,rfl⟩
  have ha':=ha' (by omega)
  repeat' (first | refine sk6 ?_ | (intro b;conv=>whnf))
  (refine CE.own (r09_take xs hx bm _ _ ⟨by omega,by omega⟩) (List.Perm.refl ([mkB bm xs _] ++ _)) (fun s'=>s' ++ _) (fun s'=>List.Perm.refl _) ?_)
  rintro _ _ ⟨b,rfl,⟨hb,hb'⟩,rfl⟩
  have hb':=hb' (by omega)
  repeat' (first | refine sk6 ?_ | (intro b;conv=>whnf))
  (refine CE.own (r09_take xs hx bm _ _ ⟨by omega,by omega⟩) (List.Perm.refl ([mkB bm xs _] ++ _)) (fun s'=>s' ++ _) (fun s'=>List.Perm.refl _) ?_)
  rintro _ _ ⟨c,rfl,⟨hc,hc'⟩,rfl⟩
  have hc':=hc' (by omega)
  repeat' (first | refine sk6 ?_ | (intro b;conv=>whnf))
  (refine CE.own (r09_take xs hx bm _ _ ⟨by omega,by omega⟩) (List.Perm.refl ([mkB bm xs _] ++ _)) (fun s'=>s' ++ _) (fun s'=>List.Perm.refl _) ?_)
  rintro _ _ ⟨d,rfl,⟨hd,hd'⟩,rfl⟩
  have hd':=hd' (by omega)
  repeat' (first | refine sk6 ?_ | (intro b;conv=>whnf))
  exact Rt.by (Vs.vd ⟨[],List.Perm.refl _⟩ (Vd.sl (fun _ h=>h) cl4)) ⟨_,_,⟨by omega,by omega⟩,rfl,rfl,PlainF.low a b c d ⟨by omega,by omega⟩ ⟨by omega,by omega⟩ ⟨by omega,by omega⟩ ⟨by omega,by omega⟩⟩
 ·repeat' (first | refine sk6 ?_ | (intro b;conv=>whnf))
  exact Rt.by (Vs.vd ⟨[],List.Perm.refl _⟩ (Vd.nil 8)) ⟨_,_,⟨by omega,by omega⟩,rfl,rfl,PlainF.none⟩
end
section
open Go
abbrev nOrder : ByteArray:=⟨#[111,114,100,101,114]⟩
abbrev nMost : ByteArray:=⟨#[109,111,115,116]⟩
abbrev nLeast : ByteArray:=⟨#[108,101,97,115,116]⟩
inductive RuleF (k : Knd) : Rul → Prop
 | low (n : Int) (h : 0 ≤ hasIx k.fields nLow) (hn : 0 ≤ n ∧ n < 8) : RuleF k ⟨nOrder ++ k.name.extract 0 1,k.name,nLow,nHigh,n - 2⟩
 | most (f : Fld) (n : Int) (h : 0 ≤ hasIx k.fields nSize) (hf : k.fields[(hasIx k.fields nSize).toNat]? = some f) (hn : 0 ≤ n ∧ n < 12) : RuleF k ⟨nMost ++ k.name.extract 0 1,k.name,nSize,nE,f.lo + n⟩
 | least (f : Fld) (n : Int) (h : 0 ≤ hasIx k.fields nSize) (hf : k.fields[(hasIx k.fields nSize).toNat]? = some f) (hn : 0 ≤ n ∧ n < 12) : RuleF k ⟨nLeast ++ k.name.extract 0 1,k.name,nE,nSize,n - f.hi⟩
theorem sk7 {A B : Prop} (k : B) (h : Hd7 B → A:=by intro hk7q;(first | refine sb0 ?_ | refine sb5 ?_ | ((with_reducible refine' Cp.by ?hc ?_);(case hc=>exact r09_has _ _ hfl)) | ((with_reducible refine' CE.pure ?hc ?_);(case hc=>exact r09_has _ _ hfl)));exact hk7q.run) : A:=h ⟨k⟩
theorem r09_rule (xs : List Int) (hx : I64s xs) (bm : Nat) (pos : Int) (hp : 0 ≤ pos ∧ pos ≤ 100000000) (k : Knd) (hfl : k.fields.length ≤ 1000000) (hnm : 1 ≤ k.name.size ∧ k.name.size ≤ 12) (hsm : ∀ f ∈ k.fields,(-100000 ≤ f.lo ∧ f.lo ≤ 100000) ∧ (-100000 ≤ f.hi ∧ f.hi ≤ 100000)) :
  ACall Tryz.prog 51 [ptr bm,kndD k] [mkB bm xs pos] (fun d σ=>∃ pos' r ok,(pos ≤ pos' ∧ pos' ≤ pos + 20) ∧ d = .tup [rulD r,bD ok] ∧ σ = [mkB bm xs pos'] ∧ (ok = true → RuleF k r)):=by
 have hex : (k.name.extract 0 (1 : Int).toNat).size = 1:=by
  rw [show (1 : Int).toNat = 1 from rfl,ByteArray.size_extract];omega
 refine enterX mixed tget_ok Tryz.func51 (by kernel_rfl) rfl Tryz.ntmps51 rfl ?_;intro BB
 repeat' (first | refine sk7 ?_ | (intro b;conv=>whnf))
 generalize b = b4
 have fin : ∀ (pos' : Int) (r : Rul) (ok : Bool) (ρ : Store),[mkB bm xs pos'].Sublist ρ → (pos ≤ pos' ∧ pos' ≤ pos + 20) → (ok = true → RuleF k r) → Rt (fun d σ=>∃ pos' r ok,(pos ≤ pos' ∧ pos' ≤ pos + 20) ∧ d = .tup [rulD r,bD ok] ∧ σ = [mkB bm xs pos'] ∧ (ok = true → RuleF k r)) (.tup [rulD r,bD ok]) ρ:=fun pos' r ok ρ h0 h1 h2=>Rt.by (Vs.drop h0) ⟨_,_,_,h1,rfl,rfl,h2⟩
 by_cases hl : 0 ≤ hasIx k.fields nLow
 ·have ha:=atE_in xs pos 3
  have ha':=ha.2 (by omega)
  repeat' (first | refine sk7 ?_ | (intro b;conv=>whnf))
  ((refine CE.own (r09_take0 xs hx bm _ _ ⟨by omega,by omega⟩) (show List.Perm (_ :: mkB bm xs _ :: _) ([mkB bm xs _] ++ (_ :: _)) from List.Perm.swap _ _ _) (fun s'=>s' ++ (_ :: _)) (fun s'=>List.Perm.refl _) ?_);(rintro _ _ ⟨rfl,rfl⟩))
  by_cases hpos : 0 < atE xs pos 3
  ·have hb:=atE_in xs (pos + 1) 8
   have hb':=hb.2 (by omega)
   repeat' (first | refine sk7 ?_ | (intro b;conv=>whnf))
   (refine Dr.r ?_;(((with_reducible refine W.mk ?_);(conv=>whnf)));refine Dm.r ?_;refine W.mk ?_)
   refine lp_ord mixed tget_ok rfl [0,1,2,3,4,5,6] 5 (.one 7 (.one 8 (.one 9 (.one 10 (.one 11 .done))))) (γ:=Unit) (fun _=>[(5,bD true),(29,iD (atE xs (pos + 1) 8)),(30,iD (atE xs (pos + 1) 8 - 2)),(31,rulD ⟨nOrder ++ k.name.extract 0 1,k.name,nLow,nHigh,atE xs (pos + 1) 8 - 2⟩)]) (fun _=>[mkB bm xs (pos + 1 + 1),(b4,.cells 105 (rulC ⟨nOrder ++ k.name.extract 0 1,k.name,nLow,nHigh,atE xs (pos + 1) 8 - 2⟩))]) (fun _=>True) (by decide +kernel) ?_ ?_
   ·repeat' (first | refine sk7 ?_ | (intro b;conv=>whnf) | ((with_reducible refine Sd.go ?qs8 ?_);(case qs8=>(rw [hex];decide))) | (refine And.intro ?_ ?_ <;> (conv=>whnf)) | ((refine CE.own (r09_take0 xs hx bm _ _ ⟨by omega,by omega⟩) (List.Perm.refl ([mkB bm xs _] ++ _)) (fun s'=>s' ++ _) (fun s'=>List.Perm.refl _) ?_);(rintro _ _ ⟨rfl,rfl⟩)) | ((refine CE.own (r09_take0 xs hx bm _ _ ⟨by omega,by omega⟩) (show List.Perm (_ :: mkB bm xs _ :: _) ([mkB bm xs _] ++ (_ :: _)) from List.Perm.swap _ _ _) (fun s'=>s' ++ (_ :: _)) (fun s'=>List.Perm.refl _) ?_);(rintro _ _ ⟨rfl,rfl⟩)))
    all_goals exact ⟨(),(chk_of cl2),rfl,trivial⟩
   ·rintro - -
    repeat' (first | refine sk7 ?_ | (intro b;conv=>whnf))
    refine Rs.ct tget_ok (m:=1) rfl rfl rfl rfl rfl rfl rfl ?_
    repeat' (first | refine sk7 ?_ | (intro b;conv=>whnf))
    exact fin _ ⟨nOrder ++ k.name.extract 0 1,k.name,nLow,nHigh,atE xs (pos + 1) 8 - 2⟩ true _ (.cons_cons _ (List.nil_sublist _)) ⟨by omega,by omega⟩ (fun _=>RuleF.low _ hl ⟨by omega,by omega⟩)
  ·generalize hq : pos + 1 = q
   have hqb : pos ≤ q ∧ q ≤ pos + 1:=⟨by omega,by omega⟩
   clear hq
   by_cases hs : hasIx k.fields nSize < 0
   ·repeat' (first | refine sk7 ?_ | (intro b;conv=>whnf))
    first
     | refine Rs.ct tget_ok (m:=1) rfl rfl rfl rfl rfl rfl rfl ?_
     | refine Rs.ct tget_ok (m:=0) rfl rfl rfl rfl rfl rfl rfl ?_
    repeat' (first | refine sk7 ?_ | (intro b;conv=>whnf))
    refine fin q ⟨nE,nE,nE,nE,0⟩ false _ ?_ ⟨by omega,by omega⟩ (fun h=>by cases h)
    first
     | exact .cons_cons _ (List.nil_sublist _)
     | exact .cons _ (.cons_cons _ (List.nil_sublist _))
   ·have hlt : hasIx k.fields nSize < k.fields.length:=idx_lt _ _
    have h0l : 0 ≤ hasIx k.fields ⟨#[115,105,122,101]⟩:=Int.not_lt.1 hs
    obtain ⟨f,hf⟩ : ∃ f,k.fields[(hasIx k.fields nSize).toNat]? = some f:=⟨_,List.getElem?_eq_getElem (by omega)⟩
    obtain ⟨⟨hf1,hf2⟩,hf3,hf4⟩:=hsm f (List.mem_of_getElem? hf)
    have hc:=atE_in xs q 2
    have hd:=atE_in xs (q + 1) 12
    have hd':=hd.2 (by omega)
    repeat' (first | refine sk7 ?_ | (intro b;conv=>whnf))
    refine CE.own (t:=[(b,.cells 111 (fldC f)),(b4,.cells 105 [.v (zv ZV.str),.v (zv ZV.str),.v (zv ZV.str),.v (zv ZV.str),.v (zv (ZV.int IntKind.i64))])]) (r09_take0 xs hx bm q 2 ⟨by omega,by omega⟩) ?hpm (fun s'=>s' ++ [(b,.cells 111 (fldC f)),(b4,.cells 105 [.v (zv ZV.str),.v (zv ZV.str),.v (zv ZV.str),.v (zv ZV.str),.v (zv (ZV.int IntKind.i64))])]) (fun s'=>List.Perm.refl _) ?_
    case hpm=>
     first
      | exact List.Perm.swap _ _ _
      | exact (List.Perm.cons _ (List.Perm.swap _ _ _)).trans (List.Perm.swap _ _ _)
    rintro _ _ ⟨rfl,rfl⟩
    by_cases hz : atE xs q 2 = 0
    ·repeat' (first | refine sk7 ?_ | (intro b;conv=>whnf))
     (refine Dr.r ?_;(((with_reducible refine W.mk ?_);(conv=>whnf)));refine Dm.r ?_;refine W.mk ?_)
     refine lp_ord mixed tget_ok rfl [0,1,2,3,4,5,6,8] 6 (.two 7 (.one 9 (.one 10 (.one 11 (.one 12 (.one 13 .done))))) 9 (.one 7 (.one 10 (.one 11 (.one 12 (.one 13 .done)))))) (γ:=Unit) (fun _=>[(5,bD true),(50,iD f.lo),(52,iD (atE xs (q + 1) 12)),(53,iD (f.lo + atE xs (q + 1) 12)),(54,rulD ⟨nMost ++ k.name.extract 0 1,k.name,nSize,nE,f.lo + atE xs (q + 1) 12⟩)]) (fun _=>[mkB bm xs (q + 1 + 1),(b,.cells 111 (fldC f)),(b4,.cells 105 (rulC ⟨nMost ++ k.name.extract 0 1,k.name,nSize,nE,f.lo + atE xs (q + 1) 12⟩))]) (fun _=>True) (by decide +kernel) ?_ ?_
     ·repeat' (first | refine sk7 ?_ | (intro b;conv=>whnf) | ((with_reducible refine Sd.go ?qs8 ?_);(case qs8=>(rw [hex];decide))) | (refine And.intro ?_ ?_ <;> (conv=>whnf)) | ((refine CE.own (r09_take0 xs hx bm _ _ ⟨by omega,by omega⟩) (List.Perm.refl ([mkB bm xs _] ++ _)) (fun s'=>s' ++ _) (fun s'=>List.Perm.refl _) ?_);(rintro _ _ ⟨rfl,rfl⟩)) | ((refine CE.own (r09_take0 xs hx bm _ _ ⟨by omega,by omega⟩) (show List.Perm (_ :: mkB bm xs _ :: _) ([mkB bm xs _] ++ (_ :: _)) from List.Perm.swap _ _ _) (fun s'=>s' ++ (_ :: _)) (fun s'=>List.Perm.refl _) ?_);(rintro _ _ ⟨rfl,rfl⟩)))
      all_goals exact ⟨(),(chk_of cl2),rfl,trivial⟩
     ·rintro - -
      repeat' (first | refine sk7 ?_ | (intro b;conv=>whnf))
      refine Rs.ct tget_ok (m:=2) rfl rfl rfl rfl rfl rfl rfl ?_
      repeat' (first | refine sk7 ?_ | (intro b;conv=>whnf))
      exact fin _ ⟨nMost ++ k.name.extract 0 1,k.name,nSize,nE,f.lo + atE xs (q + 1) 12⟩ true _ (.cons_cons _ (List.nil_sublist _)) ⟨by omega,by omega⟩ (fun _=>RuleF.most f _ (by omega) hf ⟨by omega,by omega⟩)
    ·repeat' (first | refine sk7 ?_ | (intro b;conv=>whnf))
     (refine Dr.r ?_;(((with_reducible refine W.mk ?_);(conv=>whnf)));refine Dm.r ?_;refine W.mk ?_)
     refine lp_ord mixed tget_ok rfl [0,1,2,3,4,5,6,8] 6 (.two 7 (.one 9 (.one 10 (.one 11 (.one 12 (.one 13 .done))))) 9 (.one 7 (.one 10 (.one 11 (.one 12 (.one 13 .done)))))) (γ:=Unit) (fun _=>[(5,bD true),(64,iD f.hi),(62,iD (atE xs (q + 1) 12)),(65,iD (atE xs (q + 1) 12 - f.hi)),(66,rulD ⟨nLeast ++ k.name.extract 0 1,k.name,nE,nSize,atE xs (q + 1) 12 - f.hi⟩)]) (fun _=>[mkB bm xs (q + 1 + 1),(b,.cells 111 (fldC f)),(b4,.cells 105 (rulC ⟨nLeast ++ k.name.extract 0 1,k.name,nE,nSize,atE xs (q + 1) 12 - f.hi⟩))]) (fun _=>True) (by decide +kernel) ?_ ?_
     ·repeat' (first | refine sk7 ?_ | (intro b;conv=>whnf) | ((with_reducible refine Sd.go ?qs8 ?_);(case qs8=>(rw [hex];decide))) | (refine And.intro ?_ ?_ <;> (conv=>whnf)) | ((refine CE.own (r09_take0 xs hx bm _ _ ⟨by omega,by omega⟩) (List.Perm.refl ([mkB bm xs _] ++ _)) (fun s'=>s' ++ _) (fun s'=>List.Perm.refl _) ?_);(rintro _ _ ⟨rfl,rfl⟩)) | ((refine CE.own (r09_take0 xs hx bm _ _ ⟨by omega,by omega⟩) (show List.Perm (_ :: mkB bm xs _ :: _) ([mkB bm xs _] ++ (_ :: _)) from List.Perm.swap _ _ _) (fun s'=>s' ++ (_ :: _)) (fun s'=>List.Perm.refl _) ?_);(rintro _ _ ⟨rfl,rfl⟩)))
      all_goals exact ⟨(),(chk_of cl2),rfl,trivial⟩
     ·rintro - -
      repeat' (first | refine sk7 ?_ | (intro b;conv=>whnf))
      refine Rs.ct tget_ok (m:=2) rfl rfl rfl rfl rfl rfl rfl ?_
      repeat' (first | refine sk7 ?_ | (intro b;conv=>whnf))
      exact fin _ ⟨nLeast ++ k.name.extract 0 1,k.name,nE,nSize,atE xs (q + 1) 12 - f.hi⟩ true _ (.cons_cons _ (List.nil_sublist _)) ⟨by omega,by omega⟩ (fun _=>RuleF.least f _ (by omega) hf ⟨by omega,by omega⟩)
 ·skip
  by_cases hs : hasIx k.fields nSize < 0
  ·repeat' (first | refine sk7 ?_ | (intro b;conv=>whnf))
   first
    | refine Rs.ct tget_ok (m:=1) rfl rfl rfl rfl rfl rfl rfl ?_
    | refine Rs.ct tget_ok (m:=0) rfl rfl rfl rfl rfl rfl rfl ?_
   repeat' (first | refine sk7 ?_ | (intro b;conv=>whnf))
   refine fin pos ⟨nE,nE,nE,nE,0⟩ false _ ?_ ⟨by omega,by omega⟩ (fun h=>by cases h)
   first
    | exact .cons_cons _ (List.nil_sublist _)
    | exact .cons _ (.cons_cons _ (List.nil_sublist _))
  ·have hlt : hasIx k.fields nSize < k.fields.length:=idx_lt _ _
   have h0l : 0 ≤ hasIx k.fields ⟨#[115,105,122,101]⟩:=Int.not_lt.1 hs
   obtain ⟨f,hf⟩ : ∃ f,k.fields[(hasIx k.fields nSize).toNat]? = some f:=⟨_,List.getElem?_eq_getElem (by omega)⟩
   obtain ⟨⟨hf1,hf2⟩,hf3,hf4⟩:=hsm f (List.mem_of_getElem? hf)
   have hc:=atE_in xs pos 2
   have hd:=atE_in xs (pos + 1) 12
   have hd':=hd.2 (by omega)
   repeat' (first | refine sk7 ?_ | (intro b;conv=>whnf))
   refine CE.own (t:=[(b,.cells 111 (fldC f)),(b4,.cells 105 [.v (zv ZV.str),.v (zv ZV.str),.v (zv ZV.str),.v (zv ZV.str),.v (zv (ZV.int IntKind.i64))])]) (r09_take0 xs hx bm pos 2 ⟨by omega,by omega⟩) ?hpm (fun s'=>s' ++ [(b,.cells 111 (fldC f)),(b4,.cells 105 [.v (zv ZV.str),.v (zv ZV.str),.v (zv ZV.str),.v (zv ZV.str),.v (zv (ZV.int IntKind.i64))])]) (fun s'=>List.Perm.refl _) ?_
   case hpm=>
    first
     | exact List.Perm.swap _ _ _
     | exact (List.Perm.cons _ (List.Perm.swap _ _ _)).trans (List.Perm.swap _ _ _)
   rintro _ _ ⟨rfl,rfl⟩
   by_cases hz : atE xs pos 2 = 0
   ·repeat' (first | refine sk7 ?_ | (intro b;conv=>whnf))
    (refine Dr.r ?_;(((with_reducible refine W.mk ?_);(conv=>whnf)));refine Dm.r ?_;refine W.mk ?_)
    refine lp_ord mixed tget_ok rfl [0,1,2,3,4,5,6,8] 6 (.two 7 (.one 9 (.one 10 (.one 11 (.one 12 (.one 13 .done))))) 9 (.one 7 (.one 10 (.one 11 (.one 12 (.one 13 .done)))))) (γ:=Unit) (fun _=>[(5,bD true),(50,iD f.lo),(52,iD (atE xs (pos + 1) 12)),(53,iD (f.lo + atE xs (pos + 1) 12)),(54,rulD ⟨nMost ++ k.name.extract 0 1,k.name,nSize,nE,f.lo + atE xs (pos + 1) 12⟩)]) (fun _=>[mkB bm xs (pos + 1 + 1),(b,.cells 111 (fldC f)),(b4,.cells 105 (rulC ⟨nMost ++ k.name.extract 0 1,k.name,nSize,nE,f.lo + atE xs (pos + 1) 12⟩))]) (fun _=>True) (by decide +kernel) ?_ ?_
    ·repeat' (first | refine sk7 ?_ | (intro b;conv=>whnf) | ((with_reducible refine Sd.go ?qs8 ?_);(case qs8=>(rw [hex];decide))) | (refine And.intro ?_ ?_ <;> (conv=>whnf)) | ((refine CE.own (r09_take0 xs hx bm _ _ ⟨by omega,by omega⟩) (List.Perm.refl ([mkB bm xs _] ++ _)) (fun s'=>s' ++ _) (fun s'=>List.Perm.refl _) ?_);(rintro _ _ ⟨rfl,rfl⟩)) | ((refine CE.own (r09_take0 xs hx bm _ _ ⟨by omega,by omega⟩) (show List.Perm (_ :: mkB bm xs _ :: _) ([mkB bm xs _] ++ (_ :: _)) from List.Perm.swap _ _ _) (fun s'=>s' ++ (_ :: _)) (fun s'=>List.Perm.refl _) ?_);(rintro _ _ ⟨rfl,rfl⟩)))
     all_goals exact ⟨(),(chk_of cl2),rfl,trivial⟩
    ·rintro - -
     repeat' (first | refine sk7 ?_ | (intro b;conv=>whnf))
     refine Rs.ct tget_ok (m:=2) rfl rfl rfl rfl rfl rfl rfl ?_
     repeat' (first | refine sk7 ?_ | (intro b;conv=>whnf))
     exact fin _ ⟨nMost ++ k.name.extract 0 1,k.name,nSize,nE,f.lo + atE xs (pos + 1) 12⟩ true _ (.cons_cons _ (List.nil_sublist _)) ⟨by omega,by omega⟩ (fun _=>RuleF.most f _ (by omega) hf ⟨by omega,by omega⟩)
   ·repeat' (first | refine sk7 ?_ | (intro b;conv=>whnf))
    (refine Dr.r ?_;(((with_reducible refine W.mk ?_);(conv=>whnf)));refine Dm.r ?_;refine W.mk ?_)
    refine lp_ord mixed tget_ok rfl [0,1,2,3,4,5,6,8] 6 (.two 7 (.one 9 (.one 10 (.one 11 (.one 12 (.one 13 .done))))) 9 (.one 7 (.one 10 (.one 11 (.one 12 (.one 13 .done)))))) (γ:=Unit) (fun _=>[(5,bD true),(64,iD f.hi),(62,iD (atE xs (pos + 1) 12)),(65,iD (atE xs (pos + 1) 12 - f.hi)),(66,rulD ⟨nLeast ++ k.name.extract 0 1,k.name,nE,nSize,atE xs (pos + 1) 12 - f.hi⟩)]) (fun _=>[mkB bm xs (pos + 1 + 1),(b,.cells 111 (fldC f)),(b4,.cells 105 (rulC ⟨nLeast ++ k.name.extract 0 1,k.name,nE,nSize,atE xs (pos + 1) 12 - f.hi⟩))]) (fun _=>True) (by decide +kernel) ?_ ?_
    ·repeat' (first | refine sk7 ?_ | (intro b;conv=>whnf) | ((with_reducible refine Sd.go ?qs8 ?_);(case qs8=>(rw [hex];decide))) | (refine And.intro ?_ ?_ <;> (conv=>whnf)) | ((refine CE.own (r09_take0 xs hx bm _ _ ⟨by omega,by omega⟩) (List.Perm.refl ([mkB bm xs _] ++ _)) (fun s'=>s' ++ _) (fun s'=>List.Perm.refl _) ?_);(rintro _ _ ⟨rfl,rfl⟩)) | ((refine CE.own (r09_take0 xs hx bm _ _ ⟨by omega,by omega⟩) (show List.Perm (_ :: mkB bm xs _ :: _) ([mkB bm xs _] ++ (_ :: _)) from List.Perm.swap _ _ _) (fun s'=>s' ++ (_ :: _)) (fun s'=>List.Perm.refl _) ?_);(rintro _ _ ⟨rfl,rfl⟩)))
     all_goals exact ⟨(),(chk_of cl2),rfl,trivial⟩
    ·rintro - -
     repeat' (first | refine sk7 ?_ | (intro b;conv=>whnf))
     refine Rs.ct tget_ok (m:=2) rfl rfl rfl rfl rfl rfl rfl ?_
     repeat' (first | refine sk7 ?_ | (intro b;conv=>whnf))
     exact fin _ ⟨nLeast ++ k.name.extract 0 1,k.name,nE,nSize,atE xs (pos + 1) 12 - f.hi⟩ true _ (.cons_cons _ (List.nil_sublist _)) ⟨by omega,by omega⟩ (fun _=>RuleF.least f _ (by omega) hf ⟨by omega,by omega⟩)
end
section
open Go
abbrev nId : ByteArray:=⟨#[105,100]⟩
abbrev nOf : ByteArray:=⟨#[111,102]⟩
abbrev nSame : ByteArray:=⟨#[115,97,109,101]⟩
abbrev nPart : ByteArray:=⟨#[112,97,114,116]⟩
abbrev nTotal : ByteArray:=⟨#[116,111,116,97,108]⟩
abbrev nBy : ByteArray:=⟨#[98,121]⟩
abbrev nPerson : ByteArray:=⟨#[112,101,114,115,111,110]⟩
abbrev nItem : ByteArray:=⟨#[105,116,101,109]⟩
def knm (n : Nat) : ByteArray:=[nPerson,nOrder,nItem].getD n nE
def idF (lo : Int) : Fld:=⟨nId,nE,nE,0,lo,0,[],[]⟩
def ofF (k : Knd) (lo hi : Int) : Fld:=⟨nOf,k.name,nE,1,lo,hi,[],[]⟩
def sameF (nm : ByteArray) : Fld:=⟨nSame,nm,nOf,8,0,0,[],[]⟩
def partF (a b : Int) : Fld:=⟨nPart,nTotal,nOf,7,a,a + b,[],[]⟩
def totF (nm : ByteArray) : Fld:=⟨nTotal,nm,nE,6,0,0,[],[]⟩
def byF (k : Knd) : Fld:=⟨nBy,k.name,nE,1,0,8,[],[]⟩
inductive RefP (ks : List Knd) (nm : ByteArray) : List Fld → List Knd → Prop
 | none (h : ks = []) : RefP ks nm [] ks
 | of (to : Nat) (y : Knd) (lo hi : Int) (sm : List Fld) (hy : ks[to]? = some y) (hl : lo = 0 ∨ lo = 1) (hh : hi ∈ [4,3,8,2]) (hs : sm = [] ∨ ∃ g,0 ≤ copyIx y ∧ y.fields[(copyIx y).toNat]? = some g ∧ sm = [sameF g.name]) : RefP ks nm (ofF y lo hi :: sm) ks
 | part (to : Nat) (y : Knd) (lo hi a b : Int) (sm : List Fld) (hy : ks[to]? = some y) (hl : lo = 0 ∨ lo = 1) (hh : hi ∈ [4,3,8,2]) (hs : sm = [] ∨ ∃ g,0 ≤ copyIx y ∧ y.fields[(copyIx y).toNat]? = some g ∧ sm = [sameF g.name])
   (ht : hasIx y.fields nTotal < 0) (ha : 0 ≤ a ∧ a < 3) (hb : 0 ≤ b ∧ b < 8) : RefP ks nm (ofF y lo hi :: (sm ++ [partF a b])) (ks.set to ⟨y.name,y.lo,y.hi,y.fields ++ [totF nm]⟩)
structure KMade (ks : List Knd) (k : Knd) (ks' : List Knd) : Prop where
 ex : ∃ lo r idl f1 f2 p1 p2,lo ∈ [(0 : Int),1,2,4,1,2] ∧ (0 ≤ r ∧ r < 5) ∧ idl ∈ [(0 : Int),1,100,-3] ∧ k = ⟨knm ks.length,lo,lo + r,idF idl :: (f1 ++ (f2 ++ (p1 ++ p2)))⟩ ∧ RefP ks (knm ks.length) f1 ks' ∧
  (f2 = [] ∨ ∃ y,ks[0]? = some y ∧ 1 < ks.length ∧ f2 = [byF y]) ∧ PlainF p1 ∧ PlainF p2 ∧ (p2 = [] ∨ ∃ g gs,p2 = g :: gs ∧ hasIx (idF idl :: (f1 ++ (f2 ++ p1))) g.name < 0)
end
section
open Go Go.RowKit Go.Shelf
theorem spl_set1 {cs x : List D} {off m : Nat} {d : D} (h : ∀ j,j < x.length → cs[off + j]? = x[j]?) (hm : m < x.length) : spl cs off (x.set m d) = cs.set (off + m) d:=by
 have hl : off + x.length ≤ cs.length:=by
  have:=h (x.length - 1) (by omega)
  rw [List.getElem?_eq_getElem (by omega : x.length - 1 < x.length)] at this
  have:=(List.getElem?_eq_some_iff.1 this).1
  omega
 unfold spl
 apply List.ext_getElem?
 intro i
 rw [List.getElem?_set,List.length_set]
 rcases Nat.lt_or_ge i off with h1 | h1
 ·rw [List.append_assoc,List.getElem?_append_left (by rw [List.length_take];omega),List.getElem?_take,if_pos h1,if_neg (by omega)]
 ·rcases Nat.lt_or_ge i (off + x.length) with h2 | h2
  ·rw [List.append_assoc,List.getElem?_append_right (by rw [List.length_take];omega),List.length_take,Nat.min_eq_left (by omega),List.getElem?_append_left (by rw [List.length_set];omega),List.getElem?_set]
   by_cases e : off + m = i
   ·rw [if_pos e,if_pos (by omega),if_pos (by omega),if_pos (by omega)]
   ·rw [if_neg e,if_neg (by omega),← h (i - off) (by omega),show off + (i - off) = i by omega]
  ·rw [List.getElem?_append_right (by rw [List.length_append,List.length_take,List.length_set];omega),List.length_append,List.length_take,List.length_set,Nat.min_eq_left (by omega),List.getElem?_drop,if_neg (by omega),show off + x.length + (i - (off + x.length)) = i by omega]
theorem RowIs.put1 {e : TypeId} {k : Nat} {xs : List (List D)} {b n cap : Nat} {cs : List D} (h : RowIs e k xs (.slice (some ⟨b,0,none⟩) n cap) [(b,.cells e cs)]) {i m : Nat} {x : List D} {d : D} (hx : xs[i]? = some x) (hm : m < k) : RowIs e k (xs.set i (x.set m d)) (.slice (some ⟨b,0,none⟩) n cap) [(b,.cells e (cs.set (i * k + m) d))]:=by
 have hil:=(List.getElem?_eq_some_iff.1 hx).1
 have hxk:=h.len x (List.mem_of_getElem? hx)
 obtain ⟨b',cap',cs',e1,e2,h3⟩:=h.get hx
 cases e1
 have e3 : cs' = cs:=by
  have:=List.cons.inj e2
  simpa using this.1.symm
 subst e3
 have:=h.put hil (x':=x.set m d) (by rw [List.length_set];exact hxk)
 rw [spl_set1 (by rw [hxk];exact h3) (by omega)] at this
 exact this
end
end Go.Proofs.YtjbbmjjildhfbaaGreatDoor
