/- A part of the proof: Bt Ls Jp Bl Ea Eb Ya Yb Ys. -/
import Derived.Test.YtlcfiilejnnlnaaGreatDoorB05
import Derived.Scope
set_option maxRecDepth 100000
set_option maxHeartbeats 20000000
set_option linter.unusedVariables false
set_option linter.unusedSimpArgs false
namespace Go.Proofs.YtlcfiilejnnlnaaGreatDoor
section
open Go
section
variable {P:Program} {σ:aa1} {ρ:Operand→D}
theorem aa3 {o:Oper} {b:BinOp} {t t':TypeId} {x y:Operand} {u v r:Value} (ho:o.op = .binOp b t x y t') (hx:ρ x = .v u) (hy:ρ y = .v v)
  (h:∀ w:World,(do eqGuard b t x y u v;binOp b t u v).run P w = .ok r w):Yd P o ρ σ (.v r):=by
 intro w X η hη hst
 obtain ⟨dst,op,ty,pos,aft,g⟩:=o
 simp only at ho
 subst ho
 have h1:=(hη x (by simp [Op.operands])).val hx
 have h2:=(hη y (by simp [Op.operands])).val hy
 have:=h w
 rw [← h1,← h2] at this
 exact ac8 this (Ex.refl w) (.v _)
theorem bm0 {o:Oper} {b:UnOp} {t:TypeId} {x:Operand} {u r:Value} (ho:o.op = .unOp b t x) (hx:ρ x = .v u)
  (h:∀ w:World,(Op.unary b u).run P w = .ok r w):Yd P o ρ σ (.v r):=by
 intro w X η hη hst
 obtain ⟨dst,op,ty,pos,aft,g⟩:=o
 simp only at ho
 subst ho
 have h1:=(hη x (by simp [Op.operands])).val hx
 have:=h w
 rw [← h1] at this
 exact ac8 this (Ex.refl w) (.v _)
end
abbrev W32:=BitVec 32
abbrev wV (x:W32):Value:=.int .u32 ((x.toNat:Nat):Int)
abbrev wD (x:W32):D:=.v (wV x)
theorem aD7 (n:Nat) (x:BitVec n):BitVec.ofInt n ((x.toNat:Nat):Int)=x:=by
 rw [BitVec.ofInt_natCast];simp
theorem bp9 (x:W32):IntKind.u32.wrap ((x.toNat:Nat):Int)=((x.toNat:Nat):Int):=by
 have:=x.isLt
 rw [IntKind.wrap_u32];omega
section
variable {P:Program} {t:TypeId} {p q:Operand} {w:World}
theorem aj7 (x y:W32):(do eqGuard .xor t p q (wV x) (wV y);binOp .xor t (wV x) (wV y)).run P w = .ok (wV (x ^^^ y)) w:=by
 show Result.ok (Value.int .u32 (IntKind.u32.wrap (((BitVec.ofInt 32 ((x.toNat:Nat):Int) ^^^ BitVec.ofInt 32 ((y.toNat:Nat):Int)).toNat:Nat):Int))) w=_
 rw [aD7,aD7,bp9]
theorem ay2 (x y:W32):(do eqGuard .and t p q (wV x) (wV y);binOp .and t (wV x) (wV y)).run P w = .ok (wV (x &&& y)) w:=by
 show Result.ok (Value.int .u32 (IntKind.u32.wrap (((BitVec.ofInt 32 ((x.toNat:Nat):Int) &&& BitVec.ofInt 32 ((y.toNat:Nat):Int)).toNat:Nat):Int))) w=_
 rw [aD7,aD7,bp9]
theorem bm6 (x y:W32):(do eqGuard .or t p q (wV x) (wV y);binOp .or t (wV x) (wV y)).run P w = .ok (wV (x ||| y)) w:=by
 show Result.ok (Value.int .u32 (IntKind.u32.wrap (((BitVec.ofInt 32 ((x.toNat:Nat):Int) ||| BitVec.ofInt 32 ((y.toNat:Nat):Int)).toNat:Nat):Int))) w=_
 rw [aD7,aD7,bp9]
theorem ae5 (x y:W32):(do eqGuard .add t p q (wV x) (wV y);binOp .add t (wV x) (wV y)).run P w = .ok (wV (x+y)) w:=by
 have h:IntKind.u32.wrap (((x.toNat:Nat):Int)+((y.toNat:Nat):Int))=(((x+y).toNat:Nat):Int):=by
  rw [IntKind.wrap_u32,BitVec.toNat_add];omega
 show Result.ok (Value.int .u32 (IntKind.u32.wrap _)) w=_
 rw [h]
theorem bI6 (a n:Nat):((a:Nat):Int).fdiv (2 ^ n)=((a / 2 ^ n:Nat):Int):=by
 rw [Int.fdiv_eq_ediv_of_nonneg _ (by exact Int.pow_nonneg (by decide))]
 simp
theorem ap0 (kk:IntKind) (a:Nat) (k:IntKind) (n:Nat) (hn:n≤kk.bits):(do eqGuard .shr t p q (.int kk (a:Int)) (.int k (n:Int));binOp .shr t (.int kk (a:Int)) (.int k (n:Int))).run P w = .ok (.int kk ((a / 2 ^ n:Nat):Int)) w:=by
 have hm:min n kk.bits=n:=by omega
 show (Op.shift .shr kk (a:Int) k (n:Int)).run P w=_
 unfold Op.shift
 rw [if_neg (by omega),Int.toNat_natCast,hm]
 show Result.ok (Value.int kk ((a:Int).fdiv (2 ^ n))) w=_
 rw [bI6]
theorem bS0 (kk:IntKind) (a:Nat) (k:IntKind) (n:Nat) (hn:n≤kk.bits) (h:kk.wrap ((a*2 ^ n:Nat):Int)=((a*2 ^ n:Nat):Int)):(do eqGuard .shl t p q (.int kk (a:Int)) (.int k (n:Int));binOp .shl t (.int kk (a:Int)) (.int k (n:Int))).run P w = .ok (.int kk ((a*2 ^ n:Nat):Int)) w:=by
 have hm:min n kk.bits=n:=by omega
 show (Op.shift .shl kk (a:Int) k (n:Int)).run P w=_
 unfold Op.shift
 rw [if_neg (by omega),Int.toNat_natCast,hm]
 show Result.ok (Value.int kk (kk.wrap ((a:Int)*2 ^ n))) w=_
 have e:(a:Int)*2 ^ n=((a*2 ^ n:Nat):Int):=by simp
 rw [e,h]
theorem aN8 (x:W32) (k:IntKind) (n:Nat) (hn:n≤32):(do eqGuard .shl t p q (wV x) (.int k (n:Int));binOp .shl t (wV x) (.int k (n:Int))).run P w = .ok (wV (x <<< n)) w:=by
 have hm:min n IntKind.u32.bits=n:=by show min n 32=n;omega
 show (Op.shift .shl .u32 _ k (n:Int)).run P w=_
 unfold Op.shift
 rw [if_neg (by omega),Int.toNat_natCast,hm]
 show Result.ok (Value.int .u32 (IntKind.u32.wrap (((x.toNat:Nat):Int)*2 ^ n))) w=_
 have e:((x.toNat:Nat):Int)*2 ^ n=((x.toNat*2 ^ n:Nat):Int):=by simp
 rw [e,IntKind.wrap_u32]
 have h:(x <<< n).toNat=x.toNat*2 ^ n % 4294967296:=by rw [BitVec.toNat_shiftLeft,Nat.shiftLeft_eq]
 unfold wV
 rw [h]
 congr 2
theorem aN7 (x:W32) (k:IntKind) (n:Nat) (hn:n≤32):(do eqGuard .shr t p q (wV x) (.int k (n:Int));binOp .shr t (wV x) (.int k (n:Int))).run P w = .ok (wV (x >>> n)) w:=by
 have h:=ap0 (P:=P) (t:=t) (p:=p) (q:=q) (w:=w) .u32 x.toNat k n hn
 rw [← Nat.shiftRight_eq_div_pow,← BitVec.toNat_ushiftRight] at h
 exact h
theorem aG7 (kk:IntKind) (b:BinOp) (f:Nat→Nat→Nat) (hb:(b = .xor∧f=fun x y=>x ^^^ y)∨(b = .or∧f=fun x y=>x ||| y)∨(b = .and∧f=fun x y=>x &&& y)) (hu:kk.signed=false) (x y:Nat) (hx:x<2 ^ kk.bits) (hy:y<2 ^ kk.bits) :
  (do eqGuard b t p q (.int kk (x:Int)) (.int kk (y:Int));binOp b t (.int kk (x:Int)) (.int kk (y:Int))).run P w = .ok (.int kk ((f x y:Nat):Int)) w:=by
 have hw:∀ z:Nat,z<2 ^ kk.bits→kk.wrap (z:Int)=z:=by
  intro z hz
  unfold IntKind.wrap
  rw [hu]
  simp only [Bool.false_and,Bool.false_eq_true,if_false]
  rw [Int.emod_eq_of_lt (by omega) (by exact_mod_cast hz)]
 have h1:∀ z:Nat,BitVec.ofInt kk.bits (z:Int)=BitVec.ofNat kk.bits z:=fun z=>BitVec.ofInt_natCast ..
 rcases hb with ⟨rfl,rfl⟩|⟨rfl,rfl⟩|⟨rfl,rfl⟩
 ·have:=hw (x ^^^ y) (Nat.xor_lt_two_pow hx hy)
  simp [eqGuard,binOp,Op.intBits,h1,Nat.mod_eq_of_lt hx,Nat.mod_eq_of_lt hy,this]
 ·have:=hw (x ||| y) (Nat.or_lt_two_pow hx hy)
  simp [eqGuard,binOp,Op.intBits,h1,Nat.mod_eq_of_lt hx,Nat.mod_eq_of_lt hy,this]
 ·have:=hw (x &&& y) (Nat.and_lt_two_pow x hy)
  simp [eqGuard,binOp,Op.intBits,h1,Nat.mod_eq_of_lt hx,Nat.mod_eq_of_lt hy,this]
theorem bd5 (kk:IntKind) (hu:kk.signed=false) (x:Nat) (hx:x<2 ^ kk.bits):(Op.unary .xor (.int kk (x:Int))).run P w = .ok (.int kk ((2 ^ kk.bits - 1 - x:Nat):Int)) w:=by
 have hw:∀ z:Nat,z<2 ^ kk.bits→kk.wrap (z:Int)=z:=by
  intro z hz
  unfold IntKind.wrap
  rw [hu]
  simp only [Bool.false_and,Bool.false_eq_true,if_false]
  rw [Int.emod_eq_of_lt (by omega) (by exact_mod_cast hz)]
 have h1:∀ z:Nat,BitVec.ofInt kk.bits (z:Int)=BitVec.ofNat kk.bits z:=fun z=>BitVec.ofInt_natCast ..
 have h2:kk.max=((2 ^ kk.bits - 1:Nat):Int):=by
  unfold IntKind.max
  rw [hu]
  have:0<2 ^ kk.bits:=Nat.pow_pos (by decide)
  simp only [Bool.false_eq_true,if_false]
  rw [Int.ofNat_sub (by omega)]
  simp
 have h3:(BitVec.ofNat kk.bits (2 ^ kk.bits - 1) ^^^ BitVec.ofNat kk.bits x).toNat=2 ^ kk.bits - 1 - x:=by
  have e1:BitVec.ofNat kk.bits (2 ^ kk.bits - 1)=BitVec.allOnes kk.bits:=by
   apply BitVec.eq_of_toNat_eq
   simp
  rw [e1,BitVec.allOnes_xor,BitVec.toNat_not,BitVec.toNat_ofNat,Nat.mod_eq_of_lt hx]
 simp only [Op.unary,hu,Bool.false_eq_true,if_false,Op.intBits,h2,h1,h3]
 rw [hw _ (by have:0<2 ^ kk.bits:=Nat.pow_pos (by decide);omega)]
 rfl
theorem ce2 (x:W32):(Op.unary .xor (wV x)).run P w = .ok (wV (~~~x)) w:=by
 rw [bd5 .u32 rfl _ x.isLt,wV,BitVec.toNat_not]
 rfl
end
end
namespace Go
section
variable {P:Program} {b:Frame} {a:Act} {k:List Item} {cs:List Frame} {w:World} {F:Fence} {n:Nat} {Q:Exit→Act→World→Prop}
theorem ak8 {c:Code}:step P (lone (b.atR a (.code (.scope c) :: k)) cs w) = .next (lone (b.atR a (.code c :: .inScope c :: k)) cs w):=
 step_lone_go (by simp [stepG,stepG.exec,Frame.atR])
theorem aM6 {c:Code}:step P (lone (b.atR a (.inScope c :: k)) cs w) = .next (lone (b.atR a k) cs w):=
 step_lone_go (by simp [stepG,stepG.exec,Frame.atR])
theorem bc2 {c:Code} (h:c.wpIn F n P (Exit.noGoto Q) a w):(Code.scope c).wpIn F n P Q a w:=by
 intro b k cs hro hb hr
 have h0:(lone (b.atR a (.code (.scope c) :: k)) cs w).fenced P F:=fenced_calm hb hr rfl
 obtain ⟨e,a₁,w₁,hq,harr⟩:=h b (.inScope c :: k) cs hro hb hr
 cases e with
 | normal=>exact ⟨.normal,a₁,w₁,hq,.head h0 ak8 (StepsIn.trans harr (.one (fenced_calm hb hr rfl) aM6))⟩
 | exit id=>
  have hx:exitTo id (.inScope c :: k)=exitTo id k:=by simp [exitTo]
  exact ⟨.exit id,a₁,w₁,hq,fun k' hk=>.head h0 ak8 (harr.1 k' (by rw [hx];exact hk)),
   fun hr' hk=>let ⟨k₁,h1,h2⟩:=harr.2 hr' (by rw [hx];exact hk);⟨k₁,h1,.head h0 ak8 h2⟩⟩
 | goto l=>exact hq.elim
 | ret=>exact ⟨_,a₁,w₁,hq,.of_steps (.one h0 ak8) harr⟩
 | panic ch=>exact ⟨_,a₁,w₁,hq,.of_steps (.one h0 ak8) harr⟩
 | outgrown=>exact ⟨_,a₁,w₁,hq,.of_steps (.one h0 ak8) harr⟩
end
end Go
section
open Go Go.RowKit Go.Shelf
section
variable {P:Program} {r:Option Nat} {n:Nat} {df:Nat} {N:Nat} {σ:aa1} {f:Frm} {a:List D} {T:TypeId→Option TI} {Q:Fst}
def bU0 (Q:Pst):Pst
 | .goto _,_,_=>False
 | e,a,σ=>Q e a σ
def bT9 (Q:Fst):Fst
 | .goto _,_,_=>False
 | e,f,σ=>Q e f σ
theorem bA7 {c:Code} {Q:Pst} (h:AWP P r n df c (bU0 Q) a σ):AWP P r n df (.scope c) Q a σ:=by
 refine ⟨fun w X fr hs=>bc2 (wpIn_mono (h.run w X fr hs) ?_)⟩
 rintro e fr' w' ⟨a',σ',h1,h2,h3⟩
 cases e with
 | goto l=>exact h1.elim
 | _=>exact ⟨a',σ',h1,h2,h3⟩
theorem bA9 {l:Nat} {Q:Pst} (h:Q .normal a σ):AWP P r n df (.label l) Q a σ:=⟨fun w X fr hs=>wpIn_label ⟨a,σ,h,hs,Mv.refl _ _⟩⟩
theorem ab1 (hm:P.follows .mixedOrders=true) (hT:∀ t i,T t=some i→tiOf P t=some i) {c:Code} (h:W (am1 P T r n df N c (bT9 Q) f σ)):Lp P r n df N (.scope c) Q f σ:=by
 refine ⟨fun a hs=>bA7 (ap6 (am0 hm hT h.h hs) ?_)⟩
 rintro e a' σ' ⟨f',h1,h2⟩
 cases e with
 | goto l=>exact h2.elim
 | _=>exact ⟨f',h1,h2⟩
theorem ab2 {l:Nat} (h:W (Q .normal f σ)):Lp P r n df N (.label l) Q f σ:=⟨fun a hs=>bA9 ⟨f,hs,h.h⟩⟩
end
end
section
open Go Go.RowKit Go.Shelf
inductive LeR:List (List D)→List (List D)→Prop
 | nil:LeR [] []
 | cons {x y:List D} {xs ys:List (List D)} (h:LeL x y) (t:LeR xs ys):LeR (x :: xs) (y :: ys)
theorem LeL.refl:∀ l:List D,LeL l l
 | []=>.nil
 | d :: l=>.cons (Le.refl d) (LeL.refl l)
theorem LeR.refl:∀ l:List (List D),LeR l l
 | []=>.nil
 | d :: l=>.cons (LeL.refl d) (LeR.refl l)
theorem LeR.append {a b c d:List (List D)} (h:LeR a b) (k:LeR c d):LeR (a ++ c) (b ++ d):=by
 induction h with
 | nil=>exact k
 | cons h _ ih=>exact .cons h ih
theorem LeR.len {a b:List (List D)} (h:LeR a b):b.length=a.length:=by induction h with|nil=>rfl|cons _ _ ih=>simp [ih]
theorem LeL.vd {σ τ:aa1} (hs:∀ b,b∈ab4 τ→b∈ab4 σ) {a b:List D} (h:LeL a b):Vd2 σ τ a b:=by
 induction h with
 | nil=>exact .nil
 | cons h _ ih=>exact .cons (fun w X u _ hr=>h _ _ _ (ak9 hr hs)) ih
theorem LeR.vd {σ τ:aa1} (hs:∀ b,b∈ab4 τ→b∈ab4 σ) {a b:List (List D)} (h:LeR a b):Vd3 σ τ a b:=by
 induction h with
 | nil=>exact .nil
 | cons h _ ih=>exact .cons (h.vd hs) ih
theorem bH2 {k:Nat} {xs ys:List (List D)} (h:LeR xs ys):Le (.sl k xs) (.sl k ys):=by
 intro w O u hr
 obtain ⟨a,cap,f,e1,hcap,hk,hc,hrr⟩:=hr.sl_inv
 have hv:Vd3 [] [] xs ys:=h.vd (fun _ h=>h)
 have at2:∀ {i:Nat} {y:List D},ys[i]?=some y→∃ z,xs[i]?=some z∧LeL z y:=by
  clear hv hrr hc hk hcap e1 hr
  induction h with
  | nil=>intro i y hy;simp at hy
  | cons h _ ih=>
   intro i y hy
   cases i with
   | zero=>simp at hy;subst hy;exact ⟨_,rfl,h⟩
   | succ i=>simp at hy;obtain ⟨z,h1,h2⟩:=ih hy;exact ⟨z,by simpa using h1,h2⟩
 have atL:∀ {z y:List D},LeL z y→z.length=y.length∧∀ {j:Nat} {d':D},y[j]?=some d'→∃ d,z[j]?=some d∧Le d d':=by
  intro z y hl
  induction hl with
  | nil=>exact ⟨rfl,fun h=>by simp at h⟩
  | cons h _ ih=>
   refine ⟨by simp [ih.1],fun {j d'} hj=>?_⟩
   cases j with
   | zero=>simp at hj;subst hj;exact ⟨_,rfl,h⟩
   | succ j=>simp at hj;obtain ⟨d,h1,h2⟩:=ih.2 hj;exact ⟨d,by simpa using h1,h2⟩
 rw [e1,← h.len]
 refine .sl k _ a cap f (by rw [h.len];exact hcap) (fun y hy=>?_) (fun i y hy=>?_) (fun i y hy j d hd=>?_)
 ·obtain ⟨i,hi⟩:=List.getElem?_of_mem hy
  obtain ⟨z,h1,h2⟩:=at2 hi
  rw [← (atL h2).1];exact hk z (List.mem_of_getElem? h1)
 ·obtain ⟨z,h1,h2⟩:=at2 hy
  obtain ⟨b,off,q1,q2,q3,q4⟩:=hc i z h1
  exact ⟨b,off,q1,q2,q3,q4⟩
 ·obtain ⟨z,h1,h2⟩:=at2 hy
  obtain ⟨d0,h3,h4⟩:=(atL h2).2 hd
  exact h4 _ _ _ (hrr i z h1 j d0 h3)
theorem Pk.rowLe {σ τ:aa1} {e:TypeId} {k:Nat} {rs xs:List (List D)} {v:Value} {s:aa1} (h:RowIs e k rs v s) (hl:LeR rs xs) (hp:σ.Perm (s ++ τ)):Pk σ (.v v) (.sl k xs):=
 ⟨fun w X u hs hr=>by have:=hr.val rfl;subst this;exact bH2 hl _ _ _ (ay3 h (hs.perm hp)).stable⟩
theorem Vd.rowLe {σ τ ρ:aa1} {e:TypeId} {k:Nat} {rs xs:List (List D)} {v:Value} {s:aa1} (h:RowIs e k rs v s) (hl:LeR rs xs) (hp:σ.Perm (s ++ ρ)) (hsub:∀ b,b∈ab4 τ→b∈ab4 ρ):Vd σ τ (.v v) (.sl k xs):=
 fun w X u hs hr=>bH2 hl _ _ _ (ak9 ((Vs.row h hp).run w X u hs hr).2 hsub)
structure Sc (σ τ:aa1):Prop where
 run:∀ (w:World) (X:Nat→Prop),StOK w X σ→StOK w X τ
 sub:∀ b,b∈ab4 τ→b∈ab4 σ
theorem Sc.trans {a b c:aa1} (h:Sc a b) (k:Sc b c):Sc a c:=⟨fun w X hs=>k.run w X (h.run w X hs),fun x hx=>h.sub x (k.sub x hx)⟩
theorem Sc.perm {a b:aa1} (h:a.Perm b):Sc a b:=⟨fun _ _ hs=>hs.perm h,fun x hx=>ag6 h x hx⟩
theorem Sc.frz {b:Nat} {t e:TypeId} {cs:List D} {j k:Nat} {xs ys:List (List D)} {v:Value} {s τ:aa1} (hj:cs[j]?=some (.v v)) (h:RowIs e k xs v s) (hl:LeR xs ys):Sc ((b,.cells t cs) :: (s ++ τ)) ((b,.cells t (cs.set j (.sl k ys))) :: τ):=by
 have hsub:∀ x,x∈ab4 ((b,Blk.cells t (cs.set j (.sl k ys))) :: τ)→x∈ab4 ((b,Blk.cells t cs) :: (s ++ τ)):=fun x hx=>by
  simp only [ab4,List.map_cons,List.map_append,List.mem_cons,List.mem_append] at hx ⊢
  rcases hx with h|h
  ·exact .inl h
  ·exact .inr (.inr h)
 refine ⟨fun w X hs=>?_,hsub⟩
 have hO:∀ x,x<w.heap.size→¬ Own ((b,Blk.cells t cs) :: (s ++ τ)) X x→¬ Own ((b,Blk.cells t (cs.set j (.sl k ys))) :: τ) X x:=fun x _ hn ho=>hn (ho.imp id (hsub x))
 have hp:((b,Blk.cells t cs) :: (s ++ τ)).Perm (s ++ ((b,Blk.cells t cs) :: τ)):=List.perm_middle.symm
 have hrow:=ay3 h (hs.perm hp)
 have hrow':Rd w (Own ((b,Blk.cells t (cs.set j (.sl k ys))) :: τ) X) (.sl k ys) v:=bH2 hl _ _ _ (by
  have e:Own ((b,Blk.cells t (cs.set j (.sl k ys))) :: τ) X=Own ((b,Blk.cells t cs) :: τ) X:=rfl
  rw [e];exact hrow)
 refine ⟨?_,fun x kk hm=>?_,hs.xlt,hs.gok.mono (fun x ho=>ho.imp id (hsub x))⟩
 ·have hnd:=hs.nodup
  simp only [ab4,List.map_cons,List.map_append,List.nodup_cons,List.mem_append,List.nodup_append] at hnd ⊢
  exact ⟨fun h=>hnd.1 (.inr h),hnd.2.2.1⟩
 ·rcases List.mem_cons.1 hm with e1|hm
  ·cases e1
   obtain ⟨h1,o,h2,vs,rfl,h3⟩:=hs.at_ b _ List.mem_cons_self
   refine ⟨h1,_,h2,vs,rfl,⟨by rw [List.length_set];exact h3.len,fun i d u hi hu=>?_⟩⟩
   by_cases e2:j=i
   ·subst e2
    rw [List.getElem?_set_self (List.getElem?_eq_some_iff.1 hj).1] at hi
    cases hi
    have:=(h3.at_ j _ u hj hu).val rfl
    rw [this];exact hrow'
   ·rw [List.getElem?_set_ne e2] at hi
    exact ak9 (h3.at_ i d u hi hu) hsub
  ·obtain ⟨h1,o,h2,h3⟩:=hs.at_ x kk (List.mem_cons_of_mem _ (List.mem_append_right _ hm))
   exact ⟨h1,o,h2,Blk.ok_keep (Nat.le_refl _) hO (fun _ _ _=>rfl) h3⟩
section
variable {P:Program} {r:Option Nat} {n:Nat} {df:Nat} {N:Nat} {σ:aa1} {f:Frm} {Q:Fst}
theorem bN3 {c:Code} {τ:aa1} (hp:Sc σ τ) (k:Lp P r n df N c Q f τ):Lp P r n df N c Q f σ:=
 ⟨fun a hs=>aH8 (fun w X fr h=>⟨h.fr.keep (Nat.le_refl _) (fun x _ hn ho=>hn (ho.imp id (hp.sub x))) (fun _ _ _=>rfl),hp.run w X h.st,h.df.keep (Nat.le_refl _) (fun x _ hn ho=>hn (ho.imp id (hp.sub x))) (fun _ _ _=>rfl)⟩) hp.sub (k.run a hs)⟩
theorem Sc.refl (σ:aa1):Sc σ σ:=⟨fun _ _ h=>h,fun _ h=>h⟩
theorem Sc.drop {τ ρ:aa1} (h:σ.Perm (τ ++ ρ)):Sc σ τ:=⟨fun _ _ hs=>(hs.perm h).sub (List.sublist_append_left _ _),fun x hx=>ag6 h x (by rw [aa4];exact List.mem_append_left _ hx)⟩
theorem Sc.sl {τ:aa1} (h:τ.Sublist σ):Sc σ τ:=⟨fun _ _ hs=>hs.sub h,fun _ hx=>(h.map Prod.fst).subset hx⟩
theorem aH7 {c:Code} {a:List D} {Q1 Q2:Pst} (h:AWP P r n df c Q1 a σ) (k:∀ e a' σ',Q1 e a' σ'→∃ τ,Sc σ' τ∧Q2 e a' τ):AWP P r n df c Q2 a σ:=
 ⟨fun w X fr hs=>wpIn_mono (h.run w X fr hs) fun e fr' w' ⟨a',s',h1,h2,h3⟩=>by
  obtain ⟨τ,q1,q2⟩:=k e a' s' h1
  exact ⟨a',τ,q2,⟨h2.fr.keep (Nat.le_refl _) (fun x _ hn ho=>hn (ho.imp id (q1.sub x))) (fun _ _ _=>rfl),q1.run w' X h2.st,h2.df.keep (Nat.le_refl _) (fun x _ hn ho=>hn (ho.imp id (q1.sub x))) (fun _ _ _=>rfl)⟩,h3.fewer q1.sub⟩⟩
variable {T:TypeId→Option TI} {L:List Oper}
theorem bw1 (hm:P.follows .mixedOrders=true) (hT:∀ t i,T t=some i→tiOf P t=some i) {id:Nat} {O:Array Oper} (hO:O=L.toArray) (hs:List Nat) (fu:Nat) (t:Ord) {γ:Type} (ps:γ→Frm) (S:γ→aa1) (I:γ→Prop)
  (hB:(Nat.beq (hs.length+fu) L.length && bn6 .any L.toArray (loE hs) fu t hs (Array.replicate L.length false) && av4 (loE hs) t)=true)
  (h:W (exHs P T N L (loE hs) σ hs (fun f1=>aU4 P T r n df N L (fun f' σ'=>∃ g,chkF f' (aq3 (.region id O true) f (ps g))∧Sc σ' (S g)∧I g) t f1 σ) f))
  (kk:∀ g,I g→W (aC1 (aq3 (.region id O true) f (ps g)) fun F=>Q .normal F (S g))):Lp P r n df N (.region id O true) Q f σ:=by
 subst hO
 simp only [Bool.and_eq_true] at hB
 refine ⟨fun a hs'=>?_⟩
 refine aH7 (aF8 (Q:=fun e a' σ'=>e = .normal∧∃ f',Sp N a' f'∧∃ g,chkF f' (aq3 (.region id L.toArray true) f (ps g))∧Sc σ' (S g)∧I g) (loE hs) hs fu t hm (Nat.eq_of_beq_eq_true hB.1.1) hB.1.2 (aw9 (fun a' σ' h'=>?_) (az4 hT h.h hs'))) ?_
 ·obtain ⟨rfl,f',h1,h2⟩:=h'
  have:=as1 hT hB.2 h2 h1
  exact ao4 (fun a σ h=>⟨rfl,h⟩) this
 ·rintro e a' σ' ⟨rfl,f',h1,g,h2,h4,h3⟩
  exact ⟨S g,h4,_,h1.sub h2,ao5 (kk g h3).h⟩
def co4 {γ:Type} (F:γ→Frm) (S:γ→aa1) (I:γ→Prop) (Q:Fst):Fst
 | .normal,f',σ'=>∃ g,chkF f' (F g)∧Sc σ' (S g)∧I g
 | e,f',σ'=>Q e f' σ'
theorem as7 (hm:P.follows .mixedOrders=true) (hT:∀ t i,T t=some i→tiOf P t=some i) {c:Code} {γ:Type} (ps:γ→Frm) (S:γ→aa1) (I:γ→Prop)
  (h:W (am1 P T r n df N c (co4 (fun g=>aq3 c f (ps g)) S I Q) f σ))
  (kk:∀ g,I g→W (aC1 (aq3 c f (ps g)) fun F=>Q .normal F (S g))):Lp P r n df N c Q f σ:=by
 refine ⟨fun a hs=>aH7 (am0 hm hT h.h hs) ?_⟩
 rintro e a' σ' ⟨f',h1,h2⟩
 cases e with
 | normal=>
  obtain ⟨g,h3,h5,h4⟩:=h2
  exact ⟨S g,h5,_,h1.sub h3,ao5 (kk g h4).h⟩
 | _=>exact ⟨σ',Sc.refl _,f',h1,h2⟩
theorem aa5 (hm:P.follows .mixedOrders=true) (hT:∀ t i,T t=some i→tiOf P t=some i) {c:Code} {γ:Type} (ps:γ→Frm) (S:γ→aa1) (I:γ→Prop) (μ:γ→Nat) (g₀:γ)
  (h1:chkF f (aq3 c f (ps g₀))) (h2:Sc σ (S g₀)) (h3:I g₀)
  (h4:∀ g,I g→W (aC1 (aq3 c f (ps g)) fun F=>am1 P T r n df N c (bs7 (fun f' σ'=>∃ g',chkF f' (aq3 c f (ps g'))∧Sc σ' (S g')∧I g'∧μ g' < μ g) Q) F (S g))) :
  Lp P r n df N (.loop c) Q f σ:=by
 refine bN3 h2 ⟨fun a hs=>?_⟩
 refine aU9 (fun m a σ=>∃ g,μ g=m∧I g∧Sp N a (aq3 c f (ps g))∧σ=S g) (μ g₀) ⟨g₀,rfl,h3,hs.sub h1,rfl⟩ ?_
 rintro m a σ ⟨g,rfl,hI,hS,rfl⟩
 refine aH7 (am0 hm hT (ao5 (h4 g hI).h) hS) ?_
 rintro e a' σ' ⟨f',hs',h'⟩
 cases e with
 | normal=>obtain ⟨g',k1,k2,k3,k4⟩:=h';exact ⟨S g',k2,μ g',k4,g',rfl,k3,hs'.sub k1,rfl⟩
 | _=>exact ⟨σ',Sc.refl _,f',hs',h'⟩
end
end
section
open Go Go.RowKit Go.Shelf
section
variable {P:Program} {r:Option Nat} {n:Nat} {df:Nat} {N:Nat} {σ:aa1} {a:List D} {f:Frm} {T:TypeId→Option TI} {L:List Oper} {Q:Fst}
def co5 (o:Oper):Bool:=match o.op with
 | .buildSlice _ (_+1) _=>true
 | _=>false
def ap2 (P:Program) (T:TypeId→Option TI) (r:Option Nat) (n:Nat) (df:Nat) (N:Nat) (L:List Oper) (k:Nat) (K:Frm→aa1→Prop) (f:Frm) (σ:aa1):Prop:=match L[k]? with
 | none=>False
 | some o=>match co5 o with
  | false=>ay6 P T r n df N L k K f σ
  | true=>exG L (cutF (o.looksAt L.toArray) f) o fun go=>match go with
   | true=>OtE P r n df L N o (cutF (o.looksAt L.toArray) f) σ (fun f' σ'=>match o.dst with
    | none=>K f σ'
    | some i=>match am5 f' i with
     | none=>False
     | some d=>bif Nat.blt i N then K ((i,d) :: f) σ' else False)
   | false=>False
theorem ah9 (hT:∀ t i,T t=some i→tiOf P t=some i) {E:Nat→Bool} {k:Nat} {K:Frm→aa1→Prop} {G:List D→aa1→Prop} (hE:E k=true) (h:ap2 P T r n df N L k K f σ) (hs:Sp N a f)
  (hk:∀ f' σ' a',K f' σ'→Sp N a' f'→G a' σ'):gOp P r n df L.toArray E k G a σ:=by
 unfold ap2 at h
 split at h
 ·exact h.elim
 ·rename_i o ho
  split at h
  ·exact ao8 hT hE h hs hk
  ·have ho':L.toArray[k]?=some o:=by simpa using ho
   unfold gOp
   rw [ho']
   simp only [hE]
   obtain ⟨go,hw,h1⟩:=aP2 h (hs.cut _)
   cases go with
   | false=>exact h1.elim
   | true=>
    refine h1.run [] _ _ (hs.cut _) hw (fun f' σ' a' h' hs'=>bl9 ⟨rfl,by rw [hs'.len,hs.len],?_⟩)
    cases hd:o.dst with
    | none=>
     rw [hd] at h'
     exact ⟨.any,(fun i hi=>by cases hi),hk _ _ _ h' hs⟩
    | some i=>
     rw [hd] at h'
     simp only at h'
     split at h'
     ·exact h'.elim
     ·rename_i d hf'
      obtain ⟨hi,h2⟩:=af0 h'
      rw [Nat.blt_eq] at hi
      have hia:i<a'.length:=by rw [hs'.len];exact hi
      refine ⟨a'[i],fun j hj _=>by cases hj;exact List.getElem?_eq_getElem hia,hk _ _ _ h2 ?_⟩
      refine ⟨by simp [putD,hs.len],fun j d' hj=>?_⟩
      simp only [am5] at hj
      cases he:Nat.beq i j with
      | true=>
       rw [he] at hj
       simp only [cond_true,Option.some.injEq] at hj
       have:=Nat.eq_of_beq_eq_true he
       subst this hj
       rcases hs'.at_ i _ hf' with h3|h3
       ·exact .inl h3
       ·right
        rw [List.getElem?_eq_getElem hia] at h3
        simp only [Option.some.injEq] at h3
        simp [putD,hs.len,hi,h3]
      | false=>
       rw [he] at hj
       have hne:i≠j:=fun e=>by subst e;simp at he
       rcases hs.at_ j d' hj with h1|h1
       ·exact .inl h1
       ·exact .inr (by simp [putD,List.getElem?_set,hne,h1])
theorem OtE.bsl (hT:∀ t i,T t=some i→tiOf P t=some i) {o:Oper} {t e:TypeId} {ps:Array (Nat × Operand)} {i j:TI} {ag:Bool} {k by_ m:Nat} {out:List D} {K:Frm→aa1→Prop} (ho:o.op = .buildSlice t m ps) (ht:T t=some i) (hs:i.sl=some (e,ag,k,by_)) (he:T e=some j) (hz:j.zero.length=j.size) (hk:j.size=k) (hp:Nat.blt 0 k=true)
  (hm:Nat.ble (m*k) 1000=true) (h:aZ5 (fun q=>some (q*k,k)) (aI0 j.zero k m) (ps.toList.map fun p=>(p.1,evF f p.2))=some out) (hl:(out.length == m*k)=true) (h0:m*k≠0)
  (kk:∀ b,W (putK N o.dst (.v (.slice (some ⟨b,0,none⟩) m m)) f (fun f'=>K f' ((b,.cells e out) :: σ)))):OtE P r n df L N o f σ K:=by
 refine ⟨fun rest Q a hsp hw hkk=>?_⟩
 refine ad7 hw (by rw [ho];rfl) fun w X fr hst=>?_
 obtain ⟨dst,op,ty,pos,aft,g⟩:=o
 simp only at ho
 subst ho
 have hη:∀ x,Rd w (Own σ X) (evF f x) (fr.eval x):=fun x=>hsp.le x _ _ _ (hst.fr.eval x)
 have hp':0<k:=by simpa [Nat.blt_eq] using hp
 have hm':m*k≤1000:=by simpa [Nat.ble_eq] using hm
 have hl':out.length=m*k:=by simpa using hl
 obtain ⟨hu,hsz,_⟩:=ag3 (hT t i ht) hs
 have hsz':=(ai7 hsz w).2
 obtain ⟨z,g1,g2⟩:=au0 (hT e j he) hz (by omega) w
 have hzl:z.cells.size=k:=by have:=congrArg List.length g2;simpa [hz,hk] using this
 have hzr:RdL w (Own σ X) (aI0 j.zero k m) ((Array.range (m*k)).map (z.cells[· % z.cells.size]!)).toList:=by
  refine ⟨by simp [aI0],fun q d u h1 h2=>?_⟩
  have hq:q<m*k:=by simpa [aI0] using (List.getElem?_eq_some_iff.1 h1).1
  simp only [aI0,List.getElem?_map,List.getElem?_range hq,Option.map_some,Option.some.injEq] at h1
  simp [hq,hzl] at h2
  subst h1 h2
  have hmod:q % k<k:=Nat.mod_lt _ hp'
  have:z.cells[q % k]! = zv (j.zero.getD (q % k) .bool):=by
   have h3:z.cells.toList[q % k]?=(j.zero.map zv)[q % k]?:=by rw [g2]
   have h4:q % k<j.zero.length:=by omega
   simp [h4,hzl,hmod] at h3
   simp [hzl,hmod,h4]
   exact h3
  rw [this]
  exact .v _
 obtain ⟨arr,k1,k2⟩:=aU3 ps.toList fr.eval _ _ out (fun p hm=>hη p.2) hzr h
 have hrun:(Instr.buildSlice t m (ps.map fun p=>(p.1,fr.eval p.2))).run P w = .ok (.slice (some ⟨w.heap.size,0,none⟩) m m) (w.alloc (.cells arr e)):=by
  have h24:¬ m*k > 2 ^ 24:=by omega
  have h0':¬ (m=0∨k=0):=fun h=>h0 (Nat.mul_eq_zero.2 h)
  simp only [Instr.buildSlice,Sem.run_bind,run_underlying hu,hsz',Result.andThen,if_neg h24,if_neg h0',if_neg h0,g1,Sem.run_pure,Array.toList_map,k1,newRow,newObj,Sem.run]
  rfl
 have e0:(execOp fr.eval ⟨dst,.buildSlice t m ps,ty,pos,aft,g⟩).run P w = .ok (.value (.slice (some ⟨w.heap.size,0,none⟩) m m)) (w.alloc (.cells arr e)):=by
  have e:(execOp fr.eval ⟨dst,.buildSlice t m ps,ty,pos,aft,g⟩)=(do pure (Next.value (← Instr.buildSlice t m (ps.map fun p=>(p.1,fr.eval p.2)))):Sem Next):=by
   unfold execOp
   rfl
  rw [e]
  simp only [Sem.run_bind,hrun,Result.andThen,Sem.run_pure]
 rw [e0]
 obtain ⟨q1,q2,q3⟩:=hst.st.new (.cells arr e) (.cells e out) ⟨arr.toList,by rw [Array.toArray_toList],k2⟩
 obtain ⟨f',hs',h4⟩:=ac7 (kk w.heap.size).h hsp
 exact ⟨_,_,q2,(hst.mv q2 q1).put (.v _) dst,hkk _ _ _ h4 hs'⟩
end
end
section
open Go
def nb (m:Nat):Nat:=if h:m=0 then 0 else nb (m / 256)+1
termination_by m
decreasing_by exact Nat.div_lt_self (Nat.pos_of_ne_zero h) (by decide)
theorem aK0:nb 0=0:=by rw [nb];simp
theorem bv0 {m:Nat} (h:m≠0):nb m=nb (m / 256)+1:=by rw [nb];simp [h]
theorem bv1:∀ (m:Nat),m<256 ^ nb m
 | m=>by
  by_cases h:m=0
  ·subst h;rw [aK0];decide
  ·rw [bv0 h,Nat.pow_succ]
   have h1:=bv1 (m / 256)
   omega
termination_by m=>m
decreasing_by exact Nat.div_lt_self (Nat.pos_of_ne_zero h) (by decide)
theorem bU2:∀ (m:Nat),m≠0→256 ^ (nb m - 1)≤m
 | m,h=>by
  rw [bv0 h,Nat.add_sub_cancel]
  by_cases h0:m / 256=0
  ·rw [h0,aK0];omega
  ·have h1:=bU2 (m / 256) h0
   have h2:nb (m / 256)=nb (m / 256) - 1+1:=by rw [bv0 h0];simp
   rw [h2,Nat.pow_succ]
   omega
termination_by m=>m
decreasing_by exact Nat.div_lt_self (Nat.pos_of_ne_zero h) (by decide)
theorem cn9 {m k:Nat} (h1:m<256 ^ k) (h2:k=0∨256 ^ (k - 1)≤m):nb m=k:=by
 by_cases h0:m=0
 ·subst h0
  rw [aK0]
  rcases h2 with h2|h2
  ·exact h2.symm
  ·have:0<256 ^ (k - 1):=Nat.pow_pos (by decide)
   omega
 ·have a1:=bv1 m
  have a2:=bU2 m h0
  rcases Nat.lt_trichotomy (nb m) k with h|h|h
  ·exfalso
   have h3:256 ^ nb m≤256 ^ (k - 1):=Nat.pow_le_pow_right (by decide) (by omega)
   rcases h2 with h2|h2 <;> omega
  ·exact h
  ·exfalso
   have h3:256 ^ k≤256 ^ (nb m - 1):=Nat.pow_le_pow_right (by decide) (by omega)
   omega
theorem aX8 (m j:Nat):m / 256 ^ j=0↔nb m≤j:=by
 constructor
 ·intro h
  by_cases h0:m=0
  ·subst h0;rw [aK0];omega
  ·have a2:=bU2 m h0
   have h1:m<256 ^ j:=by
    have:=(Nat.div_eq_zero_iff).1 h
    have hp:0<256 ^ j:=Nat.pow_pos (by decide)
    omega
   rcases Nat.lt_or_ge j (nb m) with h3|h3
   ·have:256 ^ j≤256 ^ (nb m - 1):=Nat.pow_le_pow_right (by decide) (by omega)
    omega
   ·exact h3
 ·intro h
  have a1:=bv1 m
  have:256 ^ nb m≤256 ^ j:=Nat.pow_le_pow_right (by decide) h
  exact Nat.div_eq_of_lt (by omega)
theorem aB2 {m:Nat} (h:m<9223372036854775808):nb m≤8:=by
 rw [← aX8]
 exact Nat.div_eq_of_lt (by omega)
def dig:Nat→Nat→List Nat
 | 0,_=>[]
 | k+1,m=>dig k (m / 256) ++ [m % 256]
theorem af2:∀ (k m:Nat),(dig k m).length=k
 | 0,_=>rfl
 | k+1,m=>by rw [dig,List.length_append,af2 k];rfl
theorem aZ8:∀ (k m:Nat) (d:Nat),d∈dig k m→d<256
 | 0,_,d,h=>by cases h
 | k+1,m,d,h=>by
  rw [dig] at h
  rcases List.mem_append.1 h with h|h
  ·exact aZ8 k _ d h
  ·rw [List.mem_singleton] at h;omega
theorem av2:∀ (k m q:Nat),q<k→(dig k m)[q]?=some (m / 256 ^ (k - 1 - q) % 256)
 | 0,_,q,h=>by omega
 | k+1,m,q,h=>by
  rw [dig]
  by_cases hq:q<k
  ·rw [List.getElem?_append_left (by rw [af2];exact hq),av2 k _ q hq,Nat.div_div_eq_div_mul,show k+1 - 1 - q=(k - 1 - q)+1 by omega,Nat.pow_succ,Nat.mul_comm 256]
  ·obtain rfl:q=k:=by omega
   rw [List.getElem?_append_right (by rw [af2];exact Nat.le_refl _),af2,Nat.sub_self,show q+1 - 1 - q=0 by omega]
   simp
def aa8 (ds:List Nat):Nat:=ds.foldl (fun m d=>256*m+d) 0
theorem bL9 (l:List Nat):∀ a:Nat,l.foldl (fun m d=>256*m+d) a=a*256 ^ l.length+aa8 l:=by
 induction l with
 | nil=>intro a;simp [aa8]
 | cons d l ih=>
  intro a
  unfold aa8
  rw [List.foldl_cons,List.foldl_cons,ih,ih (256*0+d),List.length_cons,Nat.pow_succ]
  generalize 256 ^ l.length=p
  rw [Nat.mul_zero,Nat.zero_add,Nat.add_mul,← Nat.add_assoc,Nat.mul_comm 256 a,Nat.mul_assoc,Nat.mul_comm 256 p]
theorem br1 (d:Nat) (l:List Nat):aa8 (d :: l)=d*256 ^ l.length+aa8 l:=by
 have:=bL9 l d
 unfold aa8
 rw [List.foldl_cons,Nat.mul_zero,Nat.zero_add]
 exact this
theorem bc5 (l:List Nat) (d:Nat):aa8 (l ++ [d])=256*aa8 l+d:=by
 unfold aa8
 rw [List.foldl_append]
 rfl
theorem aI6:∀ {l:List Nat},(∀ d∈l,d<256)→aa8 l<256 ^ l.length
 | [],_=>by decide
 | d :: l,h=>by
  have h1:=aI6 (l:=l) (fun x hx=>h x (List.mem_cons_of_mem _ hx))
  have h2:=h d (List.mem_cons_self ..)
  rw [br1,List.length_cons,Nat.pow_succ]
  have h3:d*256 ^ l.length≤255*256 ^ l.length:=Nat.mul_le_mul_right _ (by omega)
  omega
theorem br0:∀ (k m:Nat),aa8 (dig k m)=m % 256 ^ k
 | 0,m=>by rw [dig,Nat.pow_zero,Nat.mod_one];rfl
 | k+1,m=>by
  rw [dig,bc5,br0 k,Nat.pow_succ,Nat.mul_comm (256 ^ k) 256,Nat.mod_mul]
  omega
theorem ck0 (l:List Nat) (h:∀ d∈l,d<256):dig l.length (aa8 l)=l:=by
 generalize hr:l.reverse=r
 induction r generalizing l with
 | nil=>rw [List.reverse_eq_nil_iff] at hr;subst hr;rfl
 | cons d r ih=>
  have hl:l=r.reverse ++ [d]:=by rw [← List.reverse_reverse l,hr];simp
  subst hl
  have hd:d<256:=h d (by simp)
  rw [List.length_append,List.length_singleton,dig,bc5,show (256*aa8 r.reverse+d) / 256=aa8 r.reverse by omega,show (256*aa8 r.reverse+d) % 256=d by omega,ih r.reverse (fun x hx=>h x (by simp at hx ⊢;exact .inl hx)) (by simp)]
theorem ch2 {l:List Nat} (h:∀ d∈l,d<256):nb (aa8 l)=l.length↔l.head?≠some 0:=by
 cases l with
 | nil=>simp [aa8,aK0]
 | cons d l=>
  have h1:=aI6 h
  have h2:=aI6 (l:=l) (fun x hx=>h x (List.mem_cons_of_mem _ hx))
  have hc:=br1 d l
  constructor
  ·intro he hd
   simp only [List.head?_cons,Option.some.injEq] at hd
   subst hd
   rw [Nat.zero_mul,Nat.zero_add] at hc
   rw [hc] at he
   have:=(aX8 (aa8 l) l.length).1 (Nat.div_eq_of_lt h2)
   rw [he,List.length_cons] at this
   omega
  ·intro hd
   refine cn9 h1 (.inr ?_)
   rw [List.length_cons,Nat.add_sub_cancel,hc]
   have:d≠0:=fun e=>hd (by rw [e];rfl)
   have h3:1*256 ^ l.length≤d*256 ^ l.length:=Nat.mul_le_mul_right _ (by omega)
   omega
theorem bJ0 {m:Nat}:(dig (nb m) m).head?≠some 0:=by
 rw [← ch2 (aZ8 _ _),br0,af2,Nat.mod_eq_of_lt (bv1 m)]
def aa7 (neg:Bool) (d:Nat):Nat:=if neg then 255 - d else d
theorem aj1 {neg:Bool} {d:Nat} (h:d<256):aa7 neg d<256:=by unfold aa7;split <;> omega
theorem by4 {neg:Bool} {d:Nat} (h:d<256):aa7 neg (aa7 neg d)=d:=by unfold aa7;split <;> omega
theorem aU2 {neg:Bool} {l:List Nat} (h:∀ d∈l,d<256):(l.map (aa7 neg)).map (aa7 neg)=l:=by
 rw [List.map_map]
 exact (List.map_congr_left (g:=id) fun d hd=>by4 (h d hd)).trans (List.map_id _)
def ai5 (n:Int):Nat:=if n<0 then (-1 - n).toNat else n.toNat
def encI (n:Int):List Nat:=aa7 (decide (n<0)) (128+nb (ai5 n)) :: (dig (nb (ai5 n)) (ai5 n)).map (aa7 (decide (n<0)))
def encL (l:List Int):List Nat:=encI l.length ++ l.flatMap encI
theorem aK3 {n:Int} (h:InR n):ai5 n<9223372036854775808:=by
 have h1:=h.lo
 have h2:=h.hi
 unfold ai5
 split <;> omega
theorem as2 (n:Int):(encI n).length=nb (ai5 n)+1:=by unfold encI;rw [List.length_cons,List.length_map,af2]
theorem ac5 {n:Int} (h:InR n):(encI n).length≤9:=by have:=aB2 (aK3 h);rw [as2];omega
theorem aE1 {n:Int} (h:InR n):∀ d∈encI n,d<256:=by
 intro d hd
 have:=aB2 (aK3 h)
 unfold encI at hd
 rcases List.mem_cons.1 hd with h1|h1
 ·rw [h1];exact aj1 (by omega)
 ·obtain ⟨e,h2,h3⟩:=List.mem_map.1 h1
  rw [← h3]
  exact aj1 (aZ8 _ _ _ h2)
def getI (b:List Nat):Int × Nat × Int:=
 match b with
 | []=>(0,0,3)
 | h :: t=>
  if 8<(if h<128 then 127 - h else h - 128) then (0,0,2)
  else if t.length<(if h<128 then 127 - h else h - 128) then (0,0,3)
  else if ((t.take (if h<128 then 127 - h else h - 128)).map (aa7 (decide (h<128)))).head?=some 0 then (0,0,2)
  else if 9223372036854775808≤aa8 ((t.take (if h<128 then 127 - h else h - 128)).map (aa7 (decide (h<128)))) then (0,0,2)
  else (if h<128 then -1 - (aa8 ((t.take (if h<128 then 127 - h else h - 128)).map (aa7 (decide (h<128)))):Int) else (aa8 ((t.take (if h<128 then 127 - h else h - 128)).map (aa7 (decide (h<128)))):Int),(if h<128 then 127 - h else h - 128)+1,0)
theorem aH4 {n:Int} (hn:InR n) (t:List Nat):getI (encI n ++ t)=(n,(encI n).length,0):=by
 have hk:=aB2 (aK3 hn)
 have hm:=aK3 hn
 have hv:aa8 (dig (nb (ai5 n)) (ai5 n))=ai5 n:=by rw [br0,Nat.mod_eq_of_lt (bv1 _)]
 have hd:=bJ0 (m:=ai5 n)
 have hl:=af2 (nb (ai5 n)) (ai5 n)
 have hlt:=aZ8 (nb (ai5 n)) (ai5 n)
 rw [as2]
 unfold encI
 rw [List.cons_append]
 generalize hds:dig (nb (ai5 n)) (ai5 n)=ds at *
 generalize hkk:nb (ai5 n)=k at *
 by_cases h0:n<0
 ·have e1:aa7 (decide (n<0)) (128+k)=127 - k:=by simp [aa7,h0];omega
  have e2:ai5 n=(-1 - n).toNat:=by simp [ai5,h0]
  rw [e1]
  unfold getI
  simp only [show 127 - k<128 by omega,if_true,show 127 - (127 - k)=k by omega,decide_true]
  rw [show decide (n<0)=true by simpa using h0,List.take_left' (by simpa using hl),aU2 hlt,hv]
  rw [if_neg (by omega),if_neg (by simp [hl]),if_neg hd,if_neg (by omega)]
  simp only [Prod.mk.injEq,and_true,true_and]
  omega
 ·have e1:aa7 (decide (n<0)) (128+k)=128+k:=by simp [aa7,h0]
  have e2:ai5 n=n.toNat:=by simp [ai5,h0]
  rw [e1]
  unfold getI
  simp only [show ¬ 128+k<128 by omega,if_false,show 128+k - 128=k by omega,decide_false]
  rw [show decide (n<0)=false by simpa using h0,List.take_left' (by simpa using hl),aU2 hlt,hv]
  rw [if_neg (by omega),if_neg (by simp [hl]),if_neg hd,if_neg (by omega)]
  simp only [Prod.mk.injEq,and_true,true_and]
  omega
theorem aD9 {b:List Nat} {n:Int} {k:Nat} (hb:∀ d∈b,d<256) (h:getI b=(n,k,0)):InR n∧b.take k=encI n∧k=(encI n).length:=by
 unfold getI at h
 split at h
 ·cases h
 ·rename_i h0 t
  have hh:=hb h0 (List.mem_cons_self ..)
  have ht:∀ d∈t,d<256:=fun d hd=>hb d (List.mem_cons_of_mem _ hd)
  generalize hk:(if h0<128 then 127 - h0 else h0 - 128)=kk at h
  generalize hds:(t.take kk).map (aa7 (decide (h0<128)))=ds at h
  have hlt:∀ d∈ds,d<256:=by
   intro d hd
   rw [← hds] at hd
   obtain ⟨e,h1,h2⟩:=List.mem_map.1 hd
   rw [← h2]
   exact aj1 (ht e (List.mem_of_mem_take h1))
  split at h
  ·cases h
  split at h
  ·cases h
  split at h
  ·cases h
  split at h
  ·cases h
  rename_i c1 c2 c3 c4
  cases h
  have hl:ds.length=kk:=by rw [← hds,List.length_map,List.length_take];omega
  have hnb:=(ch2 hlt).2 c3
  have hback:ds.map (aa7 (decide (h0<128)))=t.take kk:=by rw [← hds,aU2 (fun d hd=>ht d (List.mem_of_mem_take hd))]
  have hv:=ck0 ds hlt
  by_cases hc:h0<128
  ·simp only [hc,if_true,decide_true] at hk hback ⊢
   have hm:ai5 (-1 - (aa8 ds:Int))=aa8 ds:=by unfold ai5;rw [if_pos (by omega)];omega
   have hneg:decide (-1 - (aa8 ds:Int)<0)=true:=by simp;omega
   refine ⟨⟨by omega,by omega⟩,?_,by rw [as2,hm,hnb,hl]⟩
   unfold encI
   have e1:aa7 true (128+kk)=h0:=by unfold aa7;rw [if_pos rfl];omega
   rw [hm,hneg,hnb,hv,hback,List.take_succ_cons,hl,e1]
  ·simp only [hc,if_false,decide_false] at hk hback ⊢
   have hm:ai5 (aa8 ds:Int)=aa8 ds:=by unfold ai5;rw [if_neg (by omega)];omega
   have hneg:decide ((aa8 ds:Int)<0)=false:=by simp
   refine ⟨⟨by omega,by omega⟩,?_,by rw [as2,hm,hnb,hl]⟩
   unfold encI
   have e1:aa7 false (128+kk)=h0:=by unfold aa7;rw [if_neg (by decide)];omega
   rw [hm,hneg,hnb,hv,hback,List.take_succ_cons,hl,e1]
def Mono {α:Type} (f:List Nat→α × Nat × Int):Prop:=∀ p x k,(∀ d∈p,d<256)→f p=(x,k,0)→k≤p.length∧∀ t,f (p ++ t)=(x,k,0)
theorem ac6:Mono getI:=by
 intro p x k hp h
 obtain ⟨h1,h2,h3⟩:=aD9 hp h
 have hl:k≤p.length:=by
  have:=congrArg List.length h2
  rw [List.length_take,← h3] at this
  omega
 refine ⟨hl,fun t=>?_⟩
 have:=aH4 h1 (p.drop k ++ t)
 rw [← h2,← List.append_assoc,List.take_append_drop,h2,← h3] at this
 exact this
end
section
open Go
section
variable {α β:Type}
def many (f:List Nat→α × Nat × Int):Nat→List Nat→List α × Nat × Int
 | 0,_=>([],0,0)
 | n+1,b=>if (f b).2.2≠0 then ([],0,(f b).2.2)
  else if (many f n (b.drop (f b).2.1)).2.2≠0 then ([],0,(many f n (b.drop (f b).2.1)).2.2)
  else ((f b).1 :: (many f n (b.drop (f b).2.1)).1,(f b).2.1+(many f n (b.drop (f b).2.1)).2.1,0)
theorem aT4 {f:List Nat→α × Nat × Int} {n:Nat} {b:List Nat} {l:List α} {j:Nat} (h:many f (n+1) b=(l,j,0)) :
  ∃ x k l' j',f b=(x,k,0)∧many f n (b.drop k)=(l',j',0)∧l=x :: l'∧j=k+j':=by
 rw [many] at h
 split at h
 ·rename_i h1;exact absurd (congrArg (fun z=>z.2.2) h) h1
 split at h
 ·rename_i h1;exact absurd (congrArg (fun z=>z.2.2) h) h1
 rename_i h1 h2
 simp only [Classical.not_not] at h1 h2
 cases h
 exact ⟨_,_,_,_,Prod.ext rfl (Prod.ext rfl h1),Prod.ext rfl (Prod.ext rfl h2),rfl,rfl⟩
theorem be4 {f:List Nat→α × Nat × Int} {n:Nat} {b:List Nat} {x:α} {k:Nat} {l:List α} {j:Nat} (h1:f b=(x,k,0)) (h2:many f n (b.drop k)=(l,j,0)):many f (n+1) b=(x :: l,k+j,0):=by
 rw [many]
 simp only [h1,h2]
 simp
theorem af4 {p:List Nat} (h:∀ d∈p,d<256) (k:Nat):∀ d∈p.drop k,d<256:=fun d hd=>h d (List.mem_of_mem_drop hd)
theorem ao1 {f:List Nat→α × Nat × Int} (hf:Mono f):∀ n,Mono (many f n)
 | 0=>fun p x k _ h=>by cases h;exact ⟨Nat.zero_le _,fun t=>rfl⟩
 | n+1=>fun p l j hp h=>by
  obtain ⟨x,k,l',j',h1,h2,rfl,rfl⟩:=aT4 h
  obtain ⟨a1,a2⟩:=hf p x k hp h1
  obtain ⟨b1,b2⟩:=ao1 hf n _ _ _ (af4 hp k) h2
  rw [List.length_drop] at b1
  refine ⟨by omega,fun t=>be4 (a2 t) ?_⟩
  rw [List.drop_append_of_le_length a1]
  exact b2 t
def Trip (f:List Nat→α × Nat × Int) (enc:α→List Nat) (x:α):Prop:=∀ t,f (enc x ++ t)=(x,(enc x).length,0)
theorem aY1 {f:List Nat→α × Nat × Int} {enc:α→List Nat}:∀ {l:List α},(∀ x∈l,Trip f enc x)→∀ t,many f l.length (l.flatMap enc ++ t)=(l,(l.flatMap enc).length,0)
 | [],_,t=>rfl
 | x :: l,h,t=>by
  rw [List.flatMap_cons,List.append_assoc,List.length_cons,List.length_append]
  refine be4 (h x (List.mem_cons_self ..) _) ?_
  rw [List.drop_left]
  exact aY1 (fun y hy=>h y (List.mem_cons_of_mem _ hy)) t
end
def cntE (c:Int) (b:List Nat):Int × Nat × Int:=
 if (getI b).2.2≠0 then (0,0,(getI b).2.2) else if (getI b).1<0 then (0,0,2) else if (b.length:Int) - (getI b).2.1<(getI b).1 then (0,0,c) else getI b
def al1 {α:Type} (c:Int) (f:List Nat→α × Nat × Int) (b:List Nat):List α × Nat × Int:=
 if (cntE c b).2.2≠0 then ([],0,(cntE c b).2.2)
 else if (many f (cntE c b).1.toNat (b.drop (cntE c b).2.1)).2.2≠0 then ([],0,(many f (cntE c b).1.toNat (b.drop (cntE c b).2.1)).2.2)
 else ((many f (cntE c b).1.toNat (b.drop (cntE c b).2.1)).1,(cntE c b).2.1+(many f (cntE c b).1.toNat (b.drop (cntE c b).2.1)).2.1,0)
def getL:List Nat→List Int × Nat × Int:=al1 3 getI
def getK:List Nat→List (List Int) × Nat × Int:=al1 2 getL
def decW:List Nat→List (List (List Int)) × Nat × Int:=al1 2 getK
def encK (l:List (List Int)):List Nat:=encI l.length ++ l.flatMap encL
def encW (w:List (List (List Int))):List Nat:=encI w.length ++ w.flatMap encK
section
variable {α:Type} {f:List Nat→α × Nat × Int} {c:Int}
theorem aF7 (hc:c≠0) {b:List Nat} {n:Int} {k:Nat} (h:cntE c b=(n,k,0)):getI b=(n,k,0)∧0≤n∧n≤(b.length:Int) - k:=by
 unfold cntE at h
 split at h
 ·rename_i h1;exact absurd (congrArg (fun z=>z.2.2) h) h1
 split at h
 ·have:=congrArg (fun z=>z.2.2) h;simp at this
 split at h
 ·exact absurd (congrArg (fun z=>z.2.2) h) hc
 rename_i h1 h2 h3
 rw [h] at h2 h3
 exact ⟨h,by simpa using h2,by simpa using h3⟩
theorem bO4 {b:List Nat} {n:Int} {k:Nat} (h:getI b=(n,k,0)) (h1:0≤n) (h2:n≤(b.length:Int) - k):cntE c b=(n,k,0):=by
 unfold cntE
 rw [h]
 simp only
 rw [if_neg (by simp),if_neg (by omega),if_neg (by omega)]
theorem bw3 (hc:c≠0) {b:List Nat} {l:List α} {j:Nat} (h:al1 c f b=(l,j,0)):∃ n k j',cntE c b=(n,k,0)∧many f n.toNat (b.drop k)=(l,j',0)∧j=k+j':=by
 unfold al1 at h
 split at h
 ·rename_i h1;exact absurd (congrArg (fun z=>z.2.2) h) h1
 split at h
 ·rename_i h1;exact absurd (congrArg (fun z=>z.2.2) h) h1
 rename_i h1 h2
 simp only [Classical.not_not] at h1 h2
 cases h
 exact ⟨_,_,_,Prod.ext rfl (Prod.ext rfl h1),Prod.ext rfl (Prod.ext rfl h2),rfl⟩
theorem be5 {b:List Nat} {n:Int} {k:Nat} {l:List α} {j:Nat} (h1:cntE c b=(n,k,0)) (h2:many f n.toNat (b.drop k)=(l,j,0)):al1 c f b=(l,k+j,0):=by
 unfold al1
 simp only [h1,h2]
 simp
theorem ai8 (hc:c≠0) (hf:Mono f):Mono (al1 c f):=by
 intro p l j hp h
 obtain ⟨n,k,j',h1,h2,rfl⟩:=bw3 hc h
 obtain ⟨g1,g2,g3⟩:=aF7 hc h1
 obtain ⟨a1,a2⟩:=ac6 p n k hp g1
 obtain ⟨b1,b2⟩:=ao1 hf _ _ _ _ (af4 hp k) h2
 rw [List.length_drop] at b1
 refine ⟨by omega,fun t=>be5 (bO4 (a2 t) g2 (by rw [List.length_append];omega)) ?_⟩
 rw [List.drop_append_of_le_length a1]
 exact b2 t
theorem aK6 {enc:α→List Nat} {l:List α} (h:∀ x∈l,Trip f enc x) (h1:∀ x∈l,1≤(enc x).length) (hn:InR l.length):Trip (al1 c f) (fun l=>encI l.length ++ l.flatMap enc) l:=by
 intro t
 simp only
 rw [List.append_assoc,List.length_append]
 have hl:l.length≤(l.flatMap enc).length:=by
  clear hn h
  induction l with
  | nil=>simp
  | cons x l ih=>
   have:=h1 x (List.mem_cons_self ..)
   have:=ih (fun y hy=>h1 y (List.mem_cons_of_mem _ hy))
   rw [List.flatMap_cons,List.length_append,List.length_cons]
   omega
 refine be5 (bO4 (aH4 hn _) (by omega) (by simp only [List.length_append];omega)) ?_
 rw [List.drop_left,Int.toNat_natCast]
 exact aY1 h t
end
theorem bY3 (l:List Int):1≤(encL l).length:=by unfold encL;rw [List.length_append,as2];omega
theorem bY6 (l:List (List Int)):1≤(encK l).length:=by unfold encK;rw [List.length_append,as2];omega
theorem bY2 (l:List (List (List Int))):1≤(encW l).length:=by unfold encW;rw [List.length_append,as2];omega
structure WdR (w:List (List (List Int))):Prop where
 k:InR w.length
 n:∀ l∈w,InR l.length
 f:∀ l∈w,∀ r∈l,InR r.length
 v:∀ l∈w,∀ r∈l,∀ v∈r,InR v
theorem by2 {l:List Int} (hn:InR l.length) (h:∀ v∈l,InR v):Trip getL encL l:=aK6 (fun x hx t=>aH4 (h x hx) t) (fun x _=>by rw [as2];omega) hn
theorem ba0 {w:List (List (List Int))} (h:WdR w):Trip decW encW w:=
 aK6 (fun l hl=>aK6 (fun r hr=>by2 (h.f l hl r hr) (h.v l hl r hr)) (fun r _=>bY3 r) (h.n l hl)) (fun l _=>bY6 l) h.k
theorem bz5:Mono decW:=ai8 (by decide) (ai8 (by decide) (ai8 (by decide) ac6))
theorem bz6 {w:List (List (List Int))} (h:WdR w) (hb:∀ d∈encW w,d<256) {k:Nat} (hk:k<(encW w).length):(decW ((encW w).take k)).2.2≠0:=by
 intro he
 obtain ⟨a1,a2⟩:=bz5 _ _ _ (fun d hd=>hb d (List.mem_of_mem_take hd)) (Prod.ext rfl (Prod.ext rfl he):decW ((encW w).take k)=(_,_,0))
 have h1:=a2 ((encW w).drop k)
 rw [List.take_append_drop] at h1
 have h2:=ba0 h []
 rw [List.append_nil] at h2
 rw [h2] at h1
 have:=congrArg (fun z=>z.2.1) h1
 simp only at this
 rw [List.length_take] at a1
 omega
theorem bY4 {l:List Int} (hn:InR l.length) (h:∀ v∈l,InR v):∀ d∈encL l,d<256:=by
 intro d hd
 unfold encL at hd
 rcases List.mem_append.1 hd with h1|h1
 ·exact aE1 hn d h1
 ·obtain ⟨v,h2,h3⟩:=List.mem_flatMap.1 h1
  exact aE1 (h v h2) d h3
theorem bf7 {w:List (List (List Int))} (h:WdR w):∀ d∈encW w,d<256:=by
 intro d hd
 unfold encW at hd
 rcases List.mem_append.1 hd with h1|h1
 ·exact aE1 h.k d h1
 ·obtain ⟨l,h2,h3⟩:=List.mem_flatMap.1 h1
  unfold encK at h3
  rcases List.mem_append.1 h3 with h4|h4
  ·exact aE1 (h.n l h2) d h4
  ·obtain ⟨r,h5,h6⟩:=List.mem_flatMap.1 h4
   exact bY4 (h.f l h2 r h5) (h.v l h2 r h5) d h6
end
section
open Go
abbrev yD (b:Nat):D:=.v (.int .u8 (b:Int))
abbrev yC (b:Nat):List D:=[yD b]
abbrev slY (l:List Nat):D:=.sl 1 (l.map yC)
abbrev RY:ORep (List Nat):=fun l v s=>RowIs 5 1 (l.map yC) v s
theorem aD6 (l:List Nat):((l.map yC).all fun y=>y.all oneD)=true:=by rw [List.all_eq_true];intro y hy;obtain ⟨b,_,rfl⟩:=List.mem_map.1 hy;rfl
section
variable {P:Program} {σ:aa1} {ρ:Operand→D}
theorem ab5 {o:Oper} {s d:TypeId} {x:Operand} {k k':IntKind} {n m:Int} (ho:o.op = .convert s d x) (hx:ρ x = .v (.int k n)) {ds:TypeDesc} (h1:P.underlying s=some ds) (h2:P.underlying d=some (.int k')) (hn:k'.wrap n=m):Yd P o ρ σ (.v (.int k' m)):=by
 intro w X η hη hst
 obtain ⟨dst,op,ty,pos,aft,g⟩:=o
 simp only at ho
 subst ho
 have h:=(hη x (by simp [Op.operands])).val hx
 refine ac8 (s:=convert s d (η x)) (u:=.int k' m) ?_ (Ex.refl w) (.v _)
 rw [h]
 cases ds <;> simp [convert,run_underlying h1,run_underlying h2,Conv.intToInt,hn]
end
theorem aJ8 (j:Nat):2 ^ (8*j)=256 ^ j:=by rw [Nat.pow_mul]
theorem cc1 {d:Nat} (h:d<256):d ^^^ 255=255 - d:=by
 have h1:d ^^^ 255=(BitVec.ofNat 8 d ^^^ BitVec.allOnes 8).toNat:=by
  rw [BitVec.toNat_xor,BitVec.toNat_ofNat,BitVec.toNat_allOnes,Nat.mod_eq_of_lt (by simpa using h)]
 rw [h1,BitVec.xor_allOnes,BitVec.toNat_not,BitVec.toNat_ofNat,Nat.mod_eq_of_lt (by simpa using h)]
theorem bQ7 {n:Int} (h:InR n) (h0:n<0):IntKind.u64.wrap n=((18446744073709551615 - ai5 n:Nat):Int):=by
 have h1:=h.lo
 have h2:=aK3 h
 have e:ai5 n=(-1 - n).toNat:=by unfold ai5;rw [if_pos h0]
 rw [IntKind.wrap_u64]
 omega
theorem bQ6 {n:Int} (h:InR n) (h0:¬ n<0):IntKind.u64.wrap n=((ai5 n:Nat):Int):=by
 have h1:=h.hi
 have e:ai5 n=n.toNat:=by unfold ai5;rw [if_neg h0]
 rw [IntKind.wrap_u64]
 omega
theorem bv2 {m k:Nat} (h:nb m≤k+1) (h0:¬ 0<m / 2 ^ (8*k)):nb m≤k:=by
 rw [← aX8,← aJ8];exact Nat.eq_zero_of_not_pos h0
theorem ch3 {m k:Nat} (h:nb m≤k+1) (h0:0<m / 2 ^ (8*k)):nb m=k+1:=by
 have:¬ nb m≤k:=fun h1=>by rw [← aX8,← aJ8] at h1;rw [h1] at h0;exact absurd h0 (by decide)
 omega
theorem aD4 {e:TypeId} {k:Nat} {xs:List (List D)} (b:Nat) (h:∀ x∈xs,x.length=k) (hm:xs.length≤maxLen):RowIs e k xs (.slice (some ⟨b,0,none⟩) xs.length xs.length) [(b,.cells e xs.flatten)]:=
 ⟨h,.inr ⟨b,xs.length,[],rfl,by simp,Nat.le_refl _,hm,by simp,fun d hd=>by cases hd⟩⟩
section
variable {P:Program} {t:TypeId} {p q:Operand} {w:World}
theorem x255 {d:Nat} (h:d<256):(do eqGuard .xor t p q (.int .u8 (d:Int)) (.int .u8 255);binOp .xor t (.int .u8 (d:Int)) (.int .u8 255)).run P w = .ok (.int .u8 ((aa7 true d:Nat):Int)) w:=by
 have h1:=aG7 (P:=P) (t:=t) (p:=p) (q:=q) (w:=w) .u8 .xor (fun x y=>x ^^^ y) (.inl ⟨rfl,rfl⟩) rfl d 255 h (by decide)
 rw [cc1 h] at h1
 exact h1
theorem x0 {d:Nat} (h:d<256):(do eqGuard .xor t p q (.int .u8 (d:Int)) (.int .u8 0);binOp .xor t (.int .u8 (d:Int)) (.int .u8 0)).run P w = .ok (.int .u8 ((aa7 false d:Nat):Int)) w:=by
 have h1:=aG7 (P:=P) (t:=t) (p:=p) (q:=q) (w:=w) .u8 .xor (fun x y=>x ^^^ y) (.inl ⟨rfl,rfl⟩) rfl d 0 h (by decide)
 rw [Nat.xor_zero] at h1
 exact h1
theorem cn8 {m:Nat} (h:m<9223372036854775808):(Op.unary .xor (.int .u64 ((18446744073709551615 - m:Nat):Int))).run P w = .ok (.int .u64 (m:Int)) w:=by
 have h1:=bd5 (P:=P) (w:=w) .u64 rfl (18446744073709551615 - m) (by show _<18446744073709551616;omega)
 rw [show 2 ^ IntKind.u64.bits - 1 - (18446744073709551615 - m)=m from by show 18446744073709551616 - 1 - (18446744073709551615 - m)=m;omega] at h1
 exact h1
end
theorem sb6 {A B:Prop} (k:B) (h:Hd7 B→A:=by intro hk7q;(first|(with_reducible refine Bc.l ?_)|fail|((with_reducible refine Dr.l ?h ?_);(case h=>decide +kernel))|(with_reducible refine Dr.r ?_)|((with_reducible refine Dm.l ?h ?_);(case h=>decide +kernel))|((with_reducible refine Cb.go ?h ?_);(case h=>decide +kernel)));exact hk7q.run):A:=h ⟨k⟩
theorem sk7 {A B:Prop} (k:B) (h:Hd7 B→A:=by intro hk7q;(first|refine sb0 ?_|refine sb6 ?_|((with_reducible refine' Cp.by ?hc ?_);(case hc=>fail))|((with_reducible refine' CE.pure ?hc ?_);(case hc=>fail)));exact hk7q.run):A:=h ⟨k⟩
theorem cl2 {p:Prop} (h:p:=by repeat (first|exact Chk.nil|refine Chk.cons rfl ?_|(refine Chk.cons (congrArg (fun n=>some (iD n)) ?h) ?_;(case h=>(first|omega|((try simp only [List.length_map,List.length_take,List.length_append,List.length_cons,List.length_nil,List.length_replicate,Nat.reduceAdd]);omega)))))):p:=h
theorem cl3 {p:Prop} (h:p:=by intro x hx;rw [List.mem_singleton] at hx;subst hx;rfl):p:=h
theorem cl4 {p:Prop} (h:p:=by rw [List.take_add_one,hd];simp only [Option.toList_some,List.map_append,List.map_cons,List.map_nil,List.cons_append]):p:=h
theorem bh2 (n:Int) (hn:InR n):ACall Tryz.prog 37 [iD n] [] (fun d s=>∃ v,d = .v v∧RY (encI n) v s):=by
 have h1:=hn.lo
 have h2:=hn.hi
 have hm:=aK3 hn
 have hk8:=aB2 hm
 obtain ⟨m,hmm⟩:∃ m,m=ai5 n:=⟨_,rfl⟩
 rw [← hmm] at hm hk8
 by_cases h0:n<0
 ·obtain ⟨neg,hneg⟩:∃ b,b=true:=⟨_,rfl⟩
  have hE:encI n=aa7 neg (128+nb m) :: (dig (nb m) m).map (aa7 neg):=by unfold encI;rw [hmm,hneg,decide_eq_true h0]
  rw [hE]
  have hx:∀ {d:Nat} {t p q} {w:World},d<256→(do eqGuard .xor t p q (.int .u8 (d:Int)) (.int .u8 255);binOp .xor t (.int .u8 (d:Int)) (.int .u8 255)).run Tryz.prog w = .ok (.int .u8 ((aa7 neg d:Nat):Int)) w:=fun h=>by rw [hneg];exact x255 h
  refine eC7 Tryz.func37 Tryz.ntmps37 fun BB=>?_
  repeat' first|refine sk2 ?_|(intro b;conv=>whnf)|(with_reducible refine ab1 mixed aa0 ?_)|(with_reducible refine ab2 ?_)
  refine Ot.yd (ab5 (m:=((18446744073709551615 - m:Nat):Int)) rfl rfl Tryz.underlying3 Tryz.underlying167 (by rw [hmm];exact bQ7 hn h0)) ?_
  repeat' first|refine sk2 ?_|(intro b;conv=>whnf)|(with_reducible refine ab1 mixed aa0 ?_)|(with_reducible refine ab2 ?_)
  refine Ot.yd (bm0 (r:=.int .u64 (m:Int)) rfl rfl (fun w=>cn8 hm)) ?_
  repeat' first|refine sk2 ?_|(intro b;conv=>whnf)|(with_reducible refine ab1 mixed aa0 ?_)|(with_reducible refine ab2 ?_)
  refine ad5 mixed aa0 (γ:=Nat) (fun k=>[(5,iD k)]) (fun _=>[]) (fun k=>k≤8∧nb m≤k) (fun k=>k) 8 rfl rfl ⟨Nat.le_refl _,hk8⟩ ?_
  rintro k ⟨hk1,hk2⟩
  by_cases hk0:k=0
  ·have hk3:nb m=0:=by omega
   obtain rfl:k=nb m:=by omega
   clear hk0
   repeat' first|refine sk2 ?_|(intro b;conv=>whnf)|(with_reducible refine ab1 mixed aa0 ?_)|(with_reducible refine ab2 ?_)
   refine Ot.yd (ab5 (m:=((128+nb m:Nat):Int)) rfl rfl Tryz.underlying3 Tryz.underlying5 (by rw [IntKind.wrap_u8];omega)) ?_
   repeat' first|refine sk2 ?_|(intro b;conv=>whnf)|(with_reducible refine ab1 mixed aa0 ?_)|(with_reducible refine ab2 ?_)
   refine Ot.yd (aa3 (r:=.int .u8 ((aa7 neg (128+nb m):Nat):Int)) rfl rfl rfl (fun w=>hx (by omega))) ?_
   repeat' first|refine sk7 ?_|(intro b;conv=>whnf)|(with_reducible refine ab1 mixed aa0 ?_)|(with_reducible refine ab2 ?_)
   refine Bx.r ?_
   refine OtE.bsl aa0 rfl rfl rfl rfl rfl rfl rfl rfl rfl rfl (by decide) (fun bo=>?_)
   repeat' first|refine sk2 ?_|(intro b;conv=>whnf)|(with_reducible refine ab1 mixed aa0 ?_)|(with_reducible refine ab2 ?_)
   refine aa5 mixed aa0 (γ:=Nat × Value × aa1) (fun g=>[(6,.v g.2.1),(7,iD ((nb m:Int) - 1 - g.1))]) (fun g=>g.2.2) (fun g=>g.1≤nb m∧RY (aa7 neg (128+nb m) :: ((dig (nb m) m).take g.1).map (aa7 neg)) g.2.1 g.2.2) (fun g=>nb m - g.1) (0,.slice (some ⟨bo,0,none⟩) 1 1,[(bo,.cells 5 (yC (aa7 neg (128+nb m))))]) (aa2 cl2) (Sc.refl _) ⟨Nat.zero_le _,aD4 (xs:=[yC (aa7 neg (128+nb m))]) bo cl3 (by show 1≤maxLen;decide)⟩ ?_
   rintro ⟨j,v,s⟩ ⟨hj,hrow⟩
   simp only at hj hrow ⊢
   by_cases hjl:j<nb m
   ·have hd:=av2 (nb m) m j hjl
    obtain ⟨i,hi⟩:∃ i:Nat,nb m - 1 - j=i:=⟨_,rfl⟩
    have hi2:(nb m:Int) - 1 - j=(i:Int):=by omega
    rw [hi] at hd
    rw [hi2]
    have hdl:(dig (nb m) m).length=nb m:=af2 _ _
    repeat' first|refine sk2 ?_|(intro b;conv=>whnf)|(with_reducible refine ab1 mixed aa0 ?_)|(with_reducible refine ab2 ?_)
    refine Ot.yd (aa3 (r:=.int .u64 ((m / 2 ^ (8*i):Nat):Int)) rfl rfl rfl (fun w=>by rw [show (8:Int)*(i:Int)=((8*i:Nat):Int) by omega];exact ap0 .u64 m .i64 (8*i) (by show 8*i≤64;omega))) ?_
    repeat' first|refine sk2 ?_|(intro b;conv=>whnf)|(with_reducible refine ab1 mixed aa0 ?_)|(with_reducible refine ab2 ?_)
    refine Ot.yd (ab5 (m:=((m / 256 ^ i % 256:Nat):Int)) rfl rfl Tryz.underlying167 Tryz.underlying5 (by rw [IntKind.wrap_u8,aJ8];omega)) ?_
    repeat' first|refine sk2 ?_|(intro b;conv=>whnf)|(with_reducible refine ab1 mixed aa0 ?_)|(with_reducible refine ab2 ?_)
    refine Ot.yd (aa3 (r:=.int .u8 ((aa7 neg (m / 256 ^ i % 256):Nat):Int)) rfl rfl rfl (fun w=>hx (Nat.mod_lt _ (by decide)))) ?_
    repeat' first|refine sk2 ?_|(intro b;conv=>whnf)|(with_reducible refine ab1 mixed aa0 ?_)|(with_reducible refine ab2 ?_)
    have hrow2:RowIs 5 1 ((aa7 neg (128+nb m) :: ((dig (nb m) m).take j).map (aa7 neg)).map yC) v s:=hrow
    refine Ap.go rfl rfl rfl rfl hrow2 (by simp:s.Perm (s ++ [])) rfl (zs:=(aa7 neg (128+nb m) :: ((dig (nb m) m).take (j+1)).map (aa7 neg)).map yC) cl4 (by simp;omega) (by simp;omega) (fun s'=>s') (fun s'=>by simp) (fun a' c' s' hr'=>?_)
    repeat' first|refine sk2 ?_|(intro b;conv=>whnf)|(with_reducible refine ab1 mixed aa0 ?_)|(with_reducible refine ab2 ?_)
    exact ⟨(j+1,_,s'),(aa2 cl2),Sc.refl _,⟨by simp only;omega,hr'⟩,by simp only;omega⟩
   ·obtain rfl:j=nb m:=by omega
    repeat' first|refine sk2 ?_|(intro b;conv=>whnf)|(with_reducible refine ab1 mixed aa0 ?_)|(with_reducible refine ab2 ?_)
    rw [List.take_of_length_le (by rw [af2];exact Nat.le_refl _)] at hrow
    exact Rt.same ⟨_,rfl,hrow⟩
  ·obtain ⟨k,rfl⟩:∃ j,k=j+1:=⟨k - 1,by omega⟩
   repeat' first|refine sk2 ?_|(intro b;conv=>whnf)|(with_reducible refine ab1 mixed aa0 ?_)|(with_reducible refine ab2 ?_)
   refine Ot.yd (aa3 (r:=.int .u64 ((m / 2 ^ (8*k):Nat):Int)) rfl rfl rfl (fun w=>by rw [show (8:Int)*(((k+1:Nat):Int) - 1)=((8*k:Nat):Int) by omega];exact ap0 .u64 m .i64 (8*k) (by show 8*k≤64;omega))) ?_
   by_cases hq:0<m / 2 ^ (8*k)
   ·have hk0:=ch3 hk2 hq
    generalize m / 2 ^ (8*k)=g at *
    repeat' first|refine sk2 ?_|(intro b;conv=>whnf)|(with_reducible refine ab1 mixed aa0 ?_)|(with_reducible refine ab2 ?_)
    rw [← hk0]
    repeat' first|refine sk2 ?_|(intro b;conv=>whnf)|(with_reducible refine ab1 mixed aa0 ?_)|(with_reducible refine ab2 ?_)
    refine Ot.yd (ab5 (m:=((128+nb m:Nat):Int)) rfl rfl Tryz.underlying3 Tryz.underlying5 (by rw [IntKind.wrap_u8];omega)) ?_
    repeat' first|refine sk2 ?_|(intro b;conv=>whnf)|(with_reducible refine ab1 mixed aa0 ?_)|(with_reducible refine ab2 ?_)
    refine Ot.yd (aa3 (r:=.int .u8 ((aa7 neg (128+nb m):Nat):Int)) rfl rfl rfl (fun w=>hx (by omega))) ?_
    repeat' first|refine sk7 ?_|(intro b;conv=>whnf)|(with_reducible refine ab1 mixed aa0 ?_)|(with_reducible refine ab2 ?_)
    refine Bx.r ?_
    refine OtE.bsl aa0 rfl rfl rfl rfl rfl rfl rfl rfl rfl rfl (by decide) (fun bo=>?_)
    repeat' first|refine sk2 ?_|(intro b;conv=>whnf)|(with_reducible refine ab1 mixed aa0 ?_)|(with_reducible refine ab2 ?_)
    refine aa5 mixed aa0 (γ:=Nat × Value × aa1) (fun g=>[(6,.v g.2.1),(7,iD ((nb m:Int) - 1 - g.1))]) (fun g=>g.2.2) (fun g=>g.1≤nb m∧RY (aa7 neg (128+nb m) :: ((dig (nb m) m).take g.1).map (aa7 neg)) g.2.1 g.2.2) (fun g=>nb m - g.1) (0,.slice (some ⟨bo,0,none⟩) 1 1,[(bo,.cells 5 (yC (aa7 neg (128+nb m))))]) (aa2 cl2) (Sc.refl _) ⟨Nat.zero_le _,aD4 (xs:=[yC (aa7 neg (128+nb m))]) bo cl3 (by show 1≤maxLen;decide)⟩ ?_
    rintro ⟨j,v,s⟩ ⟨hj,hrow⟩
    simp only at hj hrow ⊢
    by_cases hjl:j<nb m
    ·have hd:=av2 (nb m) m j hjl
     obtain ⟨i,hi⟩:∃ i:Nat,nb m - 1 - j=i:=⟨_,rfl⟩
     have hi2:(nb m:Int) - 1 - j=(i:Int):=by omega
     rw [hi] at hd
     rw [hi2]
     have hdl:(dig (nb m) m).length=nb m:=af2 _ _
     repeat' first|refine sk2 ?_|(intro b;conv=>whnf)|(with_reducible refine ab1 mixed aa0 ?_)|(with_reducible refine ab2 ?_)
     refine Ot.yd (aa3 (r:=.int .u64 ((m / 2 ^ (8*i):Nat):Int)) rfl rfl rfl (fun w=>by rw [show (8:Int)*(i:Int)=((8*i:Nat):Int) by omega];exact ap0 .u64 m .i64 (8*i) (by show 8*i≤64;omega))) ?_
     repeat' first|refine sk2 ?_|(intro b;conv=>whnf)|(with_reducible refine ab1 mixed aa0 ?_)|(with_reducible refine ab2 ?_)
     refine Ot.yd (ab5 (m:=((m / 256 ^ i % 256:Nat):Int)) rfl rfl Tryz.underlying167 Tryz.underlying5 (by rw [IntKind.wrap_u8,aJ8];omega)) ?_
     repeat' first|refine sk2 ?_|(intro b;conv=>whnf)|(with_reducible refine ab1 mixed aa0 ?_)|(with_reducible refine ab2 ?_)
     refine Ot.yd (aa3 (r:=.int .u8 ((aa7 neg (m / 256 ^ i % 256):Nat):Int)) rfl rfl rfl (fun w=>hx (Nat.mod_lt _ (by decide)))) ?_
     repeat' first|refine sk2 ?_|(intro b;conv=>whnf)|(with_reducible refine ab1 mixed aa0 ?_)|(with_reducible refine ab2 ?_)
     have hrow2:RowIs 5 1 ((aa7 neg (128+nb m) :: ((dig (nb m) m).take j).map (aa7 neg)).map yC) v s:=hrow
     refine Ap.go rfl rfl rfl rfl hrow2 (by simp:s.Perm (s ++ [])) rfl (zs:=(aa7 neg (128+nb m) :: ((dig (nb m) m).take (j+1)).map (aa7 neg)).map yC) cl4 (by simp;omega) (by simp;omega) (fun s'=>s') (fun s'=>by simp) (fun a' c' s' hr'=>?_)
     repeat' first|refine sk2 ?_|(intro b;conv=>whnf)|(with_reducible refine ab1 mixed aa0 ?_)|(with_reducible refine ab2 ?_)
     exact ⟨(j+1,_,s'),(aa2 cl2),Sc.refl _,⟨by simp only;omega,hr'⟩,by simp only;omega⟩
    ·obtain rfl:j=nb m:=by omega
     repeat' first|refine sk2 ?_|(intro b;conv=>whnf)|(with_reducible refine ab1 mixed aa0 ?_)|(with_reducible refine ab2 ?_)
     rw [List.take_of_length_le (by rw [af2];exact Nat.le_refl _)] at hrow
     exact Rt.same ⟨_,rfl,hrow⟩
   ·have hk0:=bv2 hk2 hq
    generalize m / 2 ^ (8*k)=g at *
    repeat' first|refine sk2 ?_|(intro b;conv=>whnf)|(with_reducible refine ab1 mixed aa0 ?_)|(with_reducible refine ab2 ?_)
    exact ⟨k,(aa2 cl2),rfl,⟨by omega,hk0⟩,by omega⟩
 ·obtain ⟨neg,hneg⟩:∃ b,b=false:=⟨_,rfl⟩
  have hE:encI n=aa7 neg (128+nb m) :: (dig (nb m) m).map (aa7 neg):=by unfold encI;rw [hmm,hneg,decide_eq_false h0]
  rw [hE]
  have hx:∀ {d:Nat} {t p q} {w:World},d<256→(do eqGuard .xor t p q (.int .u8 (d:Int)) (.int .u8 0);binOp .xor t (.int .u8 (d:Int)) (.int .u8 0)).run Tryz.prog w = .ok (.int .u8 ((aa7 neg d:Nat):Int)) w:=fun h=>by rw [hneg];exact x0 h
  refine eC7 Tryz.func37 Tryz.ntmps37 fun BB=>?_
  repeat' first|refine sk2 ?_|(intro b;conv=>whnf)|(with_reducible refine ab1 mixed aa0 ?_)|(with_reducible refine ab2 ?_)
  refine Ot.yd (ab5 (m:=((m:Nat):Int)) rfl rfl Tryz.underlying3 Tryz.underlying167 (by rw [hmm];exact bQ6 hn h0)) ?_
  repeat' first|refine sk2 ?_|(intro b;conv=>whnf)|(with_reducible refine ab1 mixed aa0 ?_)|(with_reducible refine ab2 ?_)
  refine ad5 mixed aa0 (γ:=Nat) (fun k=>[(5,iD k)]) (fun _=>[]) (fun k=>k≤8∧nb m≤k) (fun k=>k) 8 rfl rfl ⟨Nat.le_refl _,hk8⟩ ?_
  rintro k ⟨hk1,hk2⟩
  by_cases hk0:k=0
  ·have hk3:nb m=0:=by omega
   obtain rfl:k=nb m:=by omega
   clear hk0
   repeat' first|refine sk2 ?_|(intro b;conv=>whnf)|(with_reducible refine ab1 mixed aa0 ?_)|(with_reducible refine ab2 ?_)
   refine Ot.yd (ab5 (m:=((128+nb m:Nat):Int)) rfl rfl Tryz.underlying3 Tryz.underlying5 (by rw [IntKind.wrap_u8];omega)) ?_
   repeat' first|refine sk2 ?_|(intro b;conv=>whnf)|(with_reducible refine ab1 mixed aa0 ?_)|(with_reducible refine ab2 ?_)
   refine Ot.yd (aa3 (r:=.int .u8 ((aa7 neg (128+nb m):Nat):Int)) rfl rfl rfl (fun w=>hx (by omega))) ?_
   repeat' first|refine sk7 ?_|(intro b;conv=>whnf)|(with_reducible refine ab1 mixed aa0 ?_)|(with_reducible refine ab2 ?_)
   refine Bx.r ?_
   refine OtE.bsl aa0 rfl rfl rfl rfl rfl rfl rfl rfl rfl rfl (by decide) (fun bo=>?_)
   repeat' first|refine sk2 ?_|(intro b;conv=>whnf)|(with_reducible refine ab1 mixed aa0 ?_)|(with_reducible refine ab2 ?_)
   refine aa5 mixed aa0 (γ:=Nat × Value × aa1) (fun g=>[(6,.v g.2.1),(7,iD ((nb m:Int) - 1 - g.1))]) (fun g=>g.2.2) (fun g=>g.1≤nb m∧RY (aa7 neg (128+nb m) :: ((dig (nb m) m).take g.1).map (aa7 neg)) g.2.1 g.2.2) (fun g=>nb m - g.1) (0,.slice (some ⟨bo,0,none⟩) 1 1,[(bo,.cells 5 (yC (aa7 neg (128+nb m))))]) (aa2 cl2) (Sc.refl _) ⟨Nat.zero_le _,aD4 (xs:=[yC (aa7 neg (128+nb m))]) bo cl3 (by show 1≤maxLen;decide)⟩ ?_
   rintro ⟨j,v,s⟩ ⟨hj,hrow⟩
   simp only at hj hrow ⊢
   by_cases hjl:j<nb m
   ·have hd:=av2 (nb m) m j hjl
    obtain ⟨i,hi⟩:∃ i:Nat,nb m - 1 - j=i:=⟨_,rfl⟩
    have hi2:(nb m:Int) - 1 - j=(i:Int):=by omega
    rw [hi] at hd
    rw [hi2]
    have hdl:(dig (nb m) m).length=nb m:=af2 _ _
    repeat' first|refine sk2 ?_|(intro b;conv=>whnf)|(with_reducible refine ab1 mixed aa0 ?_)|(with_reducible refine ab2 ?_)
    refine Ot.yd (aa3 (r:=.int .u64 ((m / 2 ^ (8*i):Nat):Int)) rfl rfl rfl (fun w=>by rw [show (8:Int)*(i:Int)=((8*i:Nat):Int) by omega];exact ap0 .u64 m .i64 (8*i) (by show 8*i≤64;omega))) ?_
    repeat' first|refine sk2 ?_|(intro b;conv=>whnf)|(with_reducible refine ab1 mixed aa0 ?_)|(with_reducible refine ab2 ?_)
    refine Ot.yd (ab5 (m:=((m / 256 ^ i % 256:Nat):Int)) rfl rfl Tryz.underlying167 Tryz.underlying5 (by rw [IntKind.wrap_u8,aJ8];omega)) ?_
    repeat' first|refine sk2 ?_|(intro b;conv=>whnf)|(with_reducible refine ab1 mixed aa0 ?_)|(with_reducible refine ab2 ?_)
    refine Ot.yd (aa3 (r:=.int .u8 ((aa7 neg (m / 256 ^ i % 256):Nat):Int)) rfl rfl rfl (fun w=>hx (Nat.mod_lt _ (by decide)))) ?_
    repeat' first|refine sk2 ?_|(intro b;conv=>whnf)|(with_reducible refine ab1 mixed aa0 ?_)|(with_reducible refine ab2 ?_)
    have hrow2:RowIs 5 1 ((aa7 neg (128+nb m) :: ((dig (nb m) m).take j).map (aa7 neg)).map yC) v s:=hrow
    refine Ap.go rfl rfl rfl rfl hrow2 (by simp:s.Perm (s ++ [])) rfl (zs:=(aa7 neg (128+nb m) :: ((dig (nb m) m).take (j+1)).map (aa7 neg)).map yC) cl4 (by simp;omega) (by simp;omega) (fun s'=>s') (fun s'=>by simp) (fun a' c' s' hr'=>?_)
    repeat' first|refine sk2 ?_|(intro b;conv=>whnf)|(with_reducible refine ab1 mixed aa0 ?_)|(with_reducible refine ab2 ?_)
    exact ⟨(j+1,_,s'),(aa2 cl2),Sc.refl _,⟨by simp only;omega,hr'⟩,by simp only;omega⟩
   ·obtain rfl:j=nb m:=by omega
    repeat' first|refine sk2 ?_|(intro b;conv=>whnf)|(with_reducible refine ab1 mixed aa0 ?_)|(with_reducible refine ab2 ?_)
    rw [List.take_of_length_le (by rw [af2];exact Nat.le_refl _)] at hrow
    exact Rt.same ⟨_,rfl,hrow⟩
  ·obtain ⟨k,rfl⟩:∃ j,k=j+1:=⟨k - 1,by omega⟩
   repeat' first|refine sk2 ?_|(intro b;conv=>whnf)|(with_reducible refine ab1 mixed aa0 ?_)|(with_reducible refine ab2 ?_)
   refine Ot.yd (aa3 (r:=.int .u64 ((m / 2 ^ (8*k):Nat):Int)) rfl rfl rfl (fun w=>by rw [show (8:Int)*(((k+1:Nat):Int) - 1)=((8*k:Nat):Int) by omega];exact ap0 .u64 m .i64 (8*k) (by show 8*k≤64;omega))) ?_
   by_cases hq:0<m / 2 ^ (8*k)
   ·have hk0:=ch3 hk2 hq
    generalize m / 2 ^ (8*k)=g at *
    repeat' first|refine sk2 ?_|(intro b;conv=>whnf)|(with_reducible refine ab1 mixed aa0 ?_)|(with_reducible refine ab2 ?_)
    rw [← hk0]
    repeat' first|refine sk2 ?_|(intro b;conv=>whnf)|(with_reducible refine ab1 mixed aa0 ?_)|(with_reducible refine ab2 ?_)
    refine Ot.yd (ab5 (m:=((128+nb m:Nat):Int)) rfl rfl Tryz.underlying3 Tryz.underlying5 (by rw [IntKind.wrap_u8];omega)) ?_
    repeat' first|refine sk2 ?_|(intro b;conv=>whnf)|(with_reducible refine ab1 mixed aa0 ?_)|(with_reducible refine ab2 ?_)
    refine Ot.yd (aa3 (r:=.int .u8 ((aa7 neg (128+nb m):Nat):Int)) rfl rfl rfl (fun w=>hx (by omega))) ?_
    repeat' first|refine sk7 ?_|(intro b;conv=>whnf)|(with_reducible refine ab1 mixed aa0 ?_)|(with_reducible refine ab2 ?_)
    refine Bx.r ?_
    refine OtE.bsl aa0 rfl rfl rfl rfl rfl rfl rfl rfl rfl rfl (by decide) (fun bo=>?_)
    repeat' first|refine sk2 ?_|(intro b;conv=>whnf)|(with_reducible refine ab1 mixed aa0 ?_)|(with_reducible refine ab2 ?_)
    refine aa5 mixed aa0 (γ:=Nat × Value × aa1) (fun g=>[(6,.v g.2.1),(7,iD ((nb m:Int) - 1 - g.1))]) (fun g=>g.2.2) (fun g=>g.1≤nb m∧RY (aa7 neg (128+nb m) :: ((dig (nb m) m).take g.1).map (aa7 neg)) g.2.1 g.2.2) (fun g=>nb m - g.1) (0,.slice (some ⟨bo,0,none⟩) 1 1,[(bo,.cells 5 (yC (aa7 neg (128+nb m))))]) (aa2 cl2) (Sc.refl _) ⟨Nat.zero_le _,aD4 (xs:=[yC (aa7 neg (128+nb m))]) bo cl3 (by show 1≤maxLen;decide)⟩ ?_
    rintro ⟨j,v,s⟩ ⟨hj,hrow⟩
    simp only at hj hrow ⊢
    by_cases hjl:j<nb m
    ·have hd:=av2 (nb m) m j hjl
     obtain ⟨i,hi⟩:∃ i:Nat,nb m - 1 - j=i:=⟨_,rfl⟩
     have hi2:(nb m:Int) - 1 - j=(i:Int):=by omega
     rw [hi] at hd
     rw [hi2]
     have hdl:(dig (nb m) m).length=nb m:=af2 _ _
     repeat' first|refine sk2 ?_|(intro b;conv=>whnf)|(with_reducible refine ab1 mixed aa0 ?_)|(with_reducible refine ab2 ?_)
     refine Ot.yd (aa3 (r:=.int .u64 ((m / 2 ^ (8*i):Nat):Int)) rfl rfl rfl (fun w=>by rw [show (8:Int)*(i:Int)=((8*i:Nat):Int) by omega];exact ap0 .u64 m .i64 (8*i) (by show 8*i≤64;omega))) ?_
     repeat' first|refine sk2 ?_|(intro b;conv=>whnf)|(with_reducible refine ab1 mixed aa0 ?_)|(with_reducible refine ab2 ?_)
     refine Ot.yd (ab5 (m:=((m / 256 ^ i % 256:Nat):Int)) rfl rfl Tryz.underlying167 Tryz.underlying5 (by rw [IntKind.wrap_u8,aJ8];omega)) ?_
     repeat' first|refine sk2 ?_|(intro b;conv=>whnf)|(with_reducible refine ab1 mixed aa0 ?_)|(with_reducible refine ab2 ?_)
     refine Ot.yd (aa3 (r:=.int .u8 ((aa7 neg (m / 256 ^ i % 256):Nat):Int)) rfl rfl rfl (fun w=>hx (Nat.mod_lt _ (by decide)))) ?_
     repeat' first|refine sk2 ?_|(intro b;conv=>whnf)|(with_reducible refine ab1 mixed aa0 ?_)|(with_reducible refine ab2 ?_)
     have hrow2:RowIs 5 1 ((aa7 neg (128+nb m) :: ((dig (nb m) m).take j).map (aa7 neg)).map yC) v s:=hrow
     refine Ap.go rfl rfl rfl rfl hrow2 (by simp:s.Perm (s ++ [])) rfl (zs:=(aa7 neg (128+nb m) :: ((dig (nb m) m).take (j+1)).map (aa7 neg)).map yC) cl4 (by simp;omega) (by simp;omega) (fun s'=>s') (fun s'=>by simp) (fun a' c' s' hr'=>?_)
     repeat' first|refine sk2 ?_|(intro b;conv=>whnf)|(with_reducible refine ab1 mixed aa0 ?_)|(with_reducible refine ab2 ?_)
     exact ⟨(j+1,_,s'),(aa2 cl2),Sc.refl _,⟨by simp only;omega,hr'⟩,by simp only;omega⟩
    ·obtain rfl:j=nb m:=by omega
     repeat' first|refine sk2 ?_|(intro b;conv=>whnf)|(with_reducible refine ab1 mixed aa0 ?_)|(with_reducible refine ab2 ?_)
     rw [List.take_of_length_le (by rw [af2];exact Nat.le_refl _)] at hrow
     exact Rt.same ⟨_,rfl,hrow⟩
   ·have hk0:=bv2 hk2 hq
    generalize m / 2 ^ (8*k)=g at *
    repeat' first|refine sk2 ?_|(intro b;conv=>whnf)|(with_reducible refine ab1 mixed aa0 ?_)|(with_reducible refine ab2 ?_)
    exact ⟨k,(aa2 cl2),rfl,⟨by omega,hk0⟩,by omega⟩
end
section
open Go
def rdig (m:Nat):List Nat:=(dig (nb m) m).reverse
theorem aG8 (m:Nat):(rdig m).length=nb m:=by unfold rdig;rw [List.length_reverse,af2]
theorem aG9 {m i:Nat} (h:i<nb m):(rdig m)[i]?=some (m / 256 ^ i % 256):=by
 unfold rdig
 rw [List.getElem?_reverse (by rw [af2];exact h),af2,av2 _ _ _ (by omega)]
 congr 3
 congr 1
 omega
theorem ay0 {m q:Nat}:0<m / 256 ^ q↔q<nb m:=by
 rw [Nat.pos_iff_ne_zero,Ne,aX8]
 omega
section
variable {P:Program} {t:TypeId} {p q:Operand} {w:World}
theorem s255 {d:Nat} (h:d<256):(do eqGuard .sub t p q (.int .u8 255) (.int .u8 (d:Int));binOp .sub t (.int .u8 255) (.int .u8 (d:Int))).run P w = .ok (.int .u8 ((aa7 true d:Nat):Int)) w:=by
 show Result.ok (Value.int .u8 (IntKind.u8.wrap _)) w=_
 have e:IntKind.u8.wrap (255 - (d:Int))=((aa7 true d:Nat):Int):=by
  rw [IntKind.wrap_u8];unfold aa7;rw [if_pos rfl];omega
 rw [e]
end
theorem cl5 {p:Prop} (h:p:=by rw [Nat.pow_zero,Nat.div_one];exact (aa2 (by repeat (first|exact Chk.nil|refine Chk.cons rfl ?_|(refine Chk.cons (congrArg (fun n=>some (iD n)) ?h) ?_;(case h=>(first|omega|((try simp only [List.length_map,List.length_take,List.length_append,List.length_cons,List.length_nil,List.length_replicate,Nat.reduceAdd]);omega)))))))):p:=h
theorem cl6 {p:Prop} (h:p:=by rw [List.take_add_one,hrg];simp only [Option.toList_some,List.map_append,List.map_cons,List.map_nil]):p:=h
theorem cl7 {p:Prop} (h:p:=by repeat (first|exact Chk.nil|refine Chk.cons rfl ?_)):p:=h
theorem cl8 {p:Prop} (h:p:=by rw [List.take_add_one,hd];simp only [Option.toList_some,List.map_append,List.map_cons,List.map_nil,List.cons_append];try simp only [hfl hneg]):p:=h
theorem bj6 (n:Int) (hn:InR n):ACall Tryz.prog 39 [iD n] [] (fun d s=>∃ v,d = .v v∧RY (encI n) v s):=by
 have h1:=hn.lo
 have h2:=hn.hi
 have hm:=aK3 hn
 have hk8:=aB2 hm
 by_cases h0:n<0
 ·obtain ⟨m,hmm⟩:∃ m,m=ai5 n:=⟨_,rfl⟩
  rw [← hmm] at hm hk8
  obtain ⟨neg,hneg⟩:∃ b,b=true:=⟨_,rfl⟩
  have hE:encI n=aa7 neg (128+nb m) :: (dig (nb m) m).map (aa7 neg):=by unfold encI;rw [hmm,hneg,decide_eq_true h0]
  have hnm:-1 - n=(m:Int):=by rw [hmm];unfold ai5;rw [if_pos h0];omega
  rw [hE]
  refine eC7 Tryz.func39 Tryz.ntmps39 fun BB=>?_
  repeat' first|refine sk2 ?_|(intro b;conv=>whnf)
  rw [hnm]
  refine aa5 mixed aa0 (γ:=Nat × Value × aa1) (fun g=>[(3,iD ((m / 256 ^ g.1:Nat):Int)),(4,.v g.2.1)]) (fun g=>g.2.2) (fun g=>g.1≤nb m∧RY ((rdig m).take g.1) g.2.1 g.2.2) (fun g=>nb m - g.1) (0,.slice none 0 0,[]) cl5 (Sc.refl _) ⟨Nat.zero_le _,RowIs.nil _ _⟩ ?_
  rintro ⟨j,v,s⟩ ⟨hj,hrow⟩
  simp only at hj hrow ⊢
  have hrl:=aG8 m
  by_cases hjl:j<nb m
  ·have hg:=ay0.2 hjl
   have hrg:=aG9 (m:=m) hjl
   have hnx:m / 256 ^ (j+1)=m / 256 ^ j / 256:=by rw [Nat.pow_succ,Nat.div_div_eq_div_mul]
   have hlt:m / 256 ^ j≤m:=Nat.div_le_self _ _
   have hrow2:RowIs 5 1 (((rdig m).take j).map yC) v s:=hrow
   generalize m / 256 ^ j=g at *
   repeat' first|refine sk2 ?_|(intro b;conv=>whnf)
   refine Ot.yd (ab5 (m:=((g % 256:Nat):Int)) rfl rfl Tryz.underlying3 Tryz.underlying5 (by rw [IntKind.wrap_u8,Int.tmod_eq_emod_of_nonneg (by omega)];omega)) ?_
   repeat' first|refine sk2 ?_|(intro b;conv=>whnf)
   refine Ap.go rfl rfl rfl rfl hrow2 (by simp:s.Perm (s ++ [])) rfl (zs:=((rdig m).take (j+1)).map yC) cl6 (by simp;omega) (by simp;omega) (fun s'=>s') (fun s'=>by simp) (fun a' c' s' hr'=>?_)
   have htd:((g:Int)).tdiv 256=((g / 256:Nat):Int):=by rw [Int.tdiv_eq_ediv_of_nonneg (by omega)];omega
   repeat' first|refine sk2 ?_|(intro b;conv=>whnf)
   refine Sd.go ⟨by decide,by rw [htd];exact ⟨by omega,by omega⟩⟩ ?_
   rw [htd]
   repeat' first|refine sk2 ?_|(intro b;conv=>whnf)
   exact ⟨(j+1,_,s'),(by simp only [hnx];exact (aa2 cl7)),Sc.refl _,⟨by simp only;omega,hr'⟩,by simp only;omega⟩
  ·obtain rfl:j=nb m:=by omega
   have hg:¬ 0<m / 256 ^ nb m:=fun h=>by have:=ay0.1 h;omega
   have hg0:m / 256 ^ nb m=0:=Nat.eq_zero_of_not_pos hg
   rw [hg0]
   rw [List.take_of_length_le (by omega)] at hrow
   have hrd:RowIs 5 1 ((rdig m).map yC) v s:=hrow
   obtain ⟨a0,c0,rfl⟩:=hrd.slice
   rw [List.length_map,hrl] at hrd ⊢
   repeat' first|refine sk2 ?_|(intro b;conv=>whnf)
   refine Ot.yd (ab5 (m:=((aa7 neg (128+nb m):Nat):Int)) rfl rfl Tryz.underlying3 Tryz.underlying5 (by rw [IntKind.wrap_u8,hneg];unfold aa7;simp;omega)) ?_
   repeat' first|refine sk2 ?_|(intro b;conv=>whnf)
   refine Ap.go rfl rfl rfl rfl (RowIs.nil 5 1) (τ:=s) (List.Perm.refl s) rfl (zs:=[yC (aa7 neg (128+nb m))]) rfl (by simp) (by simp) (fun s'=>s' ++ s) (fun s'=>List.Perm.refl _) (fun a' c' so hro=>?_)
   repeat' first|refine sk2 ?_|(intro b;conv=>whnf)
   refine aB6 (i:=4) (d':=slY (rdig m)) (τ:=so) rfl (fun h=>by cases h) (Vs.row hrd List.perm_append_comm) ?_
   refine aa5 mixed aa0 (γ:=Nat × Value × aa1) (fun g=>[(6,.v g.2.1),(7,iD ((nb m:Int) - 1 - g.1))]) (fun g=>g.2.2) (fun g=>g.1≤nb m∧RY (aa7 neg (128+nb m) :: ((dig (nb m) m).take g.1).map (aa7 neg)) g.2.1 g.2.2) (fun g=>nb m - g.1) (0,_,so) (aa2 cl2) (Sc.refl _) ⟨Nat.zero_le _,hro⟩ ?_
   clear hro hrd
   rintro ⟨j,v,s⟩ ⟨hj,hrow⟩
   simp only at hj hrow ⊢
   have hdl:(dig (nb m) m).length=nb m:=af2 _ _
   by_cases hjl:j<nb m
   ·have hd:=av2 (nb m) m j hjl
    obtain ⟨i,hi⟩:∃ i:Nat,nb m - 1 - j=i:=⟨_,rfl⟩
    have hi2:(nb m:Int) - 1 - j=(i:Int):=by omega
    rw [hi] at hd
    rw [hi2]
    have hrg:=aG9 (m:=m) (i:=i) (by omega)
    have hrg':(rdig m)[((i:Nat):Int).toNat]?=some (m / 256 ^ i % 256):=hrg
    have hrl:=aG8 m
    have hrow2:RowIs 5 1 ((aa7 neg (128+nb m) :: ((dig (nb m) m).take j).map (aa7 neg)).map yC) v s:=hrow
    have hlt:m / 256 ^ i % 256<256:=Nat.mod_lt _ (by decide)
    generalize m / 256 ^ i % 256=d at *
    have hfl:neg=false→aa7 neg d=d:=fun h=>by rw [h];rfl
    repeat' first|refine sk2 ?_|(intro b;conv=>whnf)
    first|(refine Ot.yd (aa3 (r:=.int .u8 ((aa7 neg d:Nat):Int)) rfl rfl rfl (fun w=>by rw [hneg];exact s255 hlt)) ?_;repeat' (first|refine sk2 ?_|(intro b;conv=>whnf)))|skip
    refine Ap.go rfl rfl rfl rfl hrow2 (by simp:s.Perm (s ++ [])) rfl (zs:=(aa7 neg (128+nb m) :: ((dig (nb m) m).take (j+1)).map (aa7 neg)).map yC) cl8 (by simp;omega) (by simp;omega) (fun s'=>s') (fun s'=>by simp) (fun a' c' s' hr'=>?_)
    repeat' first|refine sk2 ?_|(intro b;conv=>whnf)
    exact ⟨(j+1,_,s'),(aa2 cl2),Sc.refl _,⟨by simp only;omega,hr'⟩,by simp only;omega⟩
   ·obtain rfl:j=nb m:=by omega
    repeat' first|refine sk2 ?_|(intro b;conv=>whnf)
    rw [List.take_of_length_le (by rw [af2];exact Nat.le_refl _)] at hrow
    exact Rt.same ⟨_,rfl,hrow⟩
 ·obtain ⟨m,hmm⟩:∃ m,m=ai5 n:=⟨_,rfl⟩
  rw [← hmm] at hm hk8
  obtain ⟨neg,hneg⟩:∃ b,b=false:=⟨_,rfl⟩
  have hE:encI n=aa7 neg (128+nb m) :: (dig (nb m) m).map (aa7 neg):=by unfold encI;rw [hmm,hneg,decide_eq_false h0]
  have hnm:n=(m:Int):=by rw [hmm];unfold ai5;rw [if_neg h0];omega
  rw [hE]
  clear hmm hE
  subst hnm
  refine eC7 Tryz.func39 Tryz.ntmps39 fun BB=>?_
  repeat' first|refine sk2 ?_|(intro b;conv=>whnf)
  refine aa5 mixed aa0 (γ:=Nat × Value × aa1) (fun g=>[(3,iD ((m / 256 ^ g.1:Nat):Int)),(4,.v g.2.1)]) (fun g=>g.2.2) (fun g=>g.1≤nb m∧RY ((rdig m).take g.1) g.2.1 g.2.2) (fun g=>nb m - g.1) (0,.slice none 0 0,[]) cl5 (Sc.refl _) ⟨Nat.zero_le _,RowIs.nil _ _⟩ ?_
  rintro ⟨j,v,s⟩ ⟨hj,hrow⟩
  simp only at hj hrow ⊢
  have hrl:=aG8 m
  by_cases hjl:j<nb m
  ·have hg:=ay0.2 hjl
   have hrg:=aG9 (m:=m) hjl
   have hnx:m / 256 ^ (j+1)=m / 256 ^ j / 256:=by rw [Nat.pow_succ,Nat.div_div_eq_div_mul]
   have hlt:m / 256 ^ j≤m:=Nat.div_le_self _ _
   have hrow2:RowIs 5 1 (((rdig m).take j).map yC) v s:=hrow
   generalize m / 256 ^ j=g at *
   repeat' first|refine sk2 ?_|(intro b;conv=>whnf)
   refine Ot.yd (ab5 (m:=((g % 256:Nat):Int)) rfl rfl Tryz.underlying3 Tryz.underlying5 (by rw [IntKind.wrap_u8,Int.tmod_eq_emod_of_nonneg (by omega)];omega)) ?_
   repeat' first|refine sk2 ?_|(intro b;conv=>whnf)
   refine Ap.go rfl rfl rfl rfl hrow2 (by simp:s.Perm (s ++ [])) rfl (zs:=((rdig m).take (j+1)).map yC) cl6 (by simp;omega) (by simp;omega) (fun s'=>s') (fun s'=>by simp) (fun a' c' s' hr'=>?_)
   have htd:((g:Int)).tdiv 256=((g / 256:Nat):Int):=by rw [Int.tdiv_eq_ediv_of_nonneg (by omega)];omega
   repeat' first|refine sk2 ?_|(intro b;conv=>whnf)
   refine Sd.go ⟨by decide,by rw [htd];exact ⟨by omega,by omega⟩⟩ ?_
   rw [htd]
   repeat' first|refine sk2 ?_|(intro b;conv=>whnf)
   exact ⟨(j+1,_,s'),(by simp only [hnx];exact (aa2 cl7)),Sc.refl _,⟨by simp only;omega,hr'⟩,by simp only;omega⟩
  ·obtain rfl:j=nb m:=by omega
   have hg:¬ 0<m / 256 ^ nb m:=fun h=>by have:=ay0.1 h;omega
   have hg0:m / 256 ^ nb m=0:=Nat.eq_zero_of_not_pos hg
   rw [hg0]
   rw [List.take_of_length_le (by omega)] at hrow
   have hrd:RowIs 5 1 ((rdig m).map yC) v s:=hrow
   obtain ⟨a0,c0,rfl⟩:=hrd.slice
   rw [List.length_map,hrl] at hrd ⊢
   repeat' first|refine sk2 ?_|(intro b;conv=>whnf)
   refine Ot.yd (ab5 (m:=((aa7 neg (128+nb m):Nat):Int)) rfl rfl Tryz.underlying3 Tryz.underlying5 (by rw [IntKind.wrap_u8,hneg];unfold aa7;simp;omega)) ?_
   repeat' first|refine sk2 ?_|(intro b;conv=>whnf)
   refine Ap.go rfl rfl rfl rfl (RowIs.nil 5 1) (τ:=s) (List.Perm.refl s) rfl (zs:=[yC (aa7 neg (128+nb m))]) rfl (by simp) (by simp) (fun s'=>s' ++ s) (fun s'=>List.Perm.refl _) (fun a' c' so hro=>?_)
   repeat' first|refine sk2 ?_|(intro b;conv=>whnf)
   refine aB6 (i:=4) (d':=slY (rdig m)) (τ:=so) rfl (fun h=>by cases h) (Vs.row hrd List.perm_append_comm) ?_
   refine aa5 mixed aa0 (γ:=Nat × Value × aa1) (fun g=>[(6,.v g.2.1),(7,iD ((nb m:Int) - 1 - g.1))]) (fun g=>g.2.2) (fun g=>g.1≤nb m∧RY (aa7 neg (128+nb m) :: ((dig (nb m) m).take g.1).map (aa7 neg)) g.2.1 g.2.2) (fun g=>nb m - g.1) (0,_,so) (aa2 cl2) (Sc.refl _) ⟨Nat.zero_le _,hro⟩ ?_
   clear hro hrd
   rintro ⟨j,v,s⟩ ⟨hj,hrow⟩
   simp only at hj hrow ⊢
   have hdl:(dig (nb m) m).length=nb m:=af2 _ _
   by_cases hjl:j<nb m
   ·have hd:=av2 (nb m) m j hjl
    obtain ⟨i,hi⟩:∃ i:Nat,nb m - 1 - j=i:=⟨_,rfl⟩
    have hi2:(nb m:Int) - 1 - j=(i:Int):=by omega
    rw [hi] at hd
    rw [hi2]
    have hrg:=aG9 (m:=m) (i:=i) (by omega)
    have hrg':(rdig m)[((i:Nat):Int).toNat]?=some (m / 256 ^ i % 256):=hrg
    have hrl:=aG8 m
    have hrow2:RowIs 5 1 ((aa7 neg (128+nb m) :: ((dig (nb m) m).take j).map (aa7 neg)).map yC) v s:=hrow
    have hlt:m / 256 ^ i % 256<256:=Nat.mod_lt _ (by decide)
    generalize m / 256 ^ i % 256=d at *
    have hfl:neg=false→aa7 neg d=d:=fun h=>by rw [h];rfl
    repeat' first|refine sk2 ?_|(intro b;conv=>whnf)
    first|(refine Ot.yd (aa3 (r:=.int .u8 ((aa7 neg d:Nat):Int)) rfl rfl rfl (fun w=>by rw [hneg];exact s255 hlt)) ?_;repeat' (first|refine sk2 ?_|(intro b;conv=>whnf)))|skip
    refine Ap.go rfl rfl rfl rfl hrow2 (by simp:s.Perm (s ++ [])) rfl (zs:=(aa7 neg (128+nb m) :: ((dig (nb m) m).take (j+1)).map (aa7 neg)).map yC) cl8 (by simp;omega) (by simp;omega) (fun s'=>s') (fun s'=>by simp) (fun a' c' s' hr'=>?_)
    repeat' first|refine sk2 ?_|(intro b;conv=>whnf)
    exact ⟨(j+1,_,s'),(aa2 cl2),Sc.refl _,⟨by simp only;omega,hr'⟩,by simp only;omega⟩
   ·obtain rfl:j=nb m:=by omega
    repeat' first|refine sk2 ?_|(intro b;conv=>whnf)
    rw [List.take_of_length_le (by rw [af2];exact Nat.le_refl _)] at hrow
    exact Rt.same ⟨_,rfl,hrow⟩
end
section
open Go Go.RowKit Go.Shelf
section
variable {P:Program} {σ:aa1} {ρ:Operand→D} {T:TypeId→Option TI}
theorem aj4 (hT:∀ t i,T t=some i→tiOf P t=some i) {o:Oper} {t:TypeId} {x:Operand} {lo hi:Option Operand} {k:Nat} {xs ys:List (List D)} {l h:Nat} {i:TI} {p:Nat × Bool × Nat × Nat} (ho:o.op = .slice t x lo hi none) (hx:ρ x = .sl k xs) (ht:T t=some i) (hs:i.sl=some p) (hpk:p.2.2.1=k)
  (hlo:(lo=none∧l=0)∨∃ y kk n,lo=some y∧ρ y = .v (.int kk n)∧n=(l:Int)) (hhi:(hi=none∧h=xs.length)∨∃ y kk n,hi=some y∧ρ y = .v (.int kk n)∧n=(h:Int)) (h1:l≤h) (h2:h≤xs.length) (hys:(xs.take h).drop l=ys):Yd P o ρ σ (.sl k ys):=by
 subst hys
 intro w X η hη hst
 obtain ⟨dst,op,ty,pos,aft,g⟩:=o
 simp only at ho
 subst ho
 obtain ⟨e,ag,k',by_⟩:=p
 simp only at hpk
 subst hpk
 have hxr:=hη x (by simp [Op.operands])
 rw [hx] at hxr
 obtain ⟨hu,hsz,_⟩:=ag3 (hT t i ht) hs
 have hz:=(ai7 hsz w).2
 obtain ⟨ad,cap,vs,hv,hcap,hk,hc,hr⟩:=hxr.sl_inv
 have hb:(Instr.sliceBounds true xs.length cap (lo.map η) (hi.map η) none).run P w = .ok (l,h,cap) w:=by
  have hh:((h:Int)).toNat=h:=rfl
  have hl:((l:Int)).toNat=l:=rfl
  have h3:h≤cap:=by omega
  rcases hlo with ⟨rfl,rfl⟩|⟨yl,kl,nl,rfl,hyl,rfl⟩ <;> rcases hhi with ⟨rfl,rfl⟩|⟨yh,kh,nh,rfl,hyh,rfl⟩
  ·simp [Instr.sliceBounds,Result.andThen]
  ·have:=(hη yh (by simp [Op.operands])).val hyh
   simp [Instr.sliceBounds,Instr.sliceBound,Result.andThen,this,asIntOf,h3]
  ·have:=(hη yl (by simp [Op.operands])).val hyl
   simp [Instr.sliceBounds,Instr.sliceBound,Result.andThen,this,asIntOf,h1]
  ·have q1:=(hη yl (by simp [Op.operands])).val hyl
   have q2:=(hη yh (by simp [Op.operands])).val hyh
   simp [Instr.sliceBounds,Instr.sliceBound,Result.andThen,q1,q2,asIntOf,h1,h3]
 have hlen:((xs.take h).drop l).length=h - l:=by rw [List.length_drop,List.length_take];omega
 have hmem:∀ (q:Nat) y,((xs.take h).drop l)[q]?=some y→xs[l+q]?=some y:=fun q y hq=>by
  rw [List.getElem?_drop,List.getElem?_take] at hq
  split at hq
  ·exact hq
  ·cases hq
 refine ac8 (s:=Instr.sliceAt t (η x) (lo.map η) (hi.map η) ((none:Option Operand).map η)) (u:=.slice (if cap=l then ad else ad.map (·.add (l*k'))) (h - l) (cap - l)) ?_ (Ex.refl w) ?_
 ·rw [hv]
  simp only [Instr.sliceAt,Sem.run_bind,run_underlying hu,Result.andThen,Instr.slice,Option.map_none,hb,hz,Sem.run_pure]
 ·have:=Rd.sl (w:=w) (O:=Own σ X) k' ((xs.take h).drop l) (if cap=l then ad else ad.map (·.add (l*k'))) (cap - l) (fun q j=>vs (l+q) j) (by omega) (fun y hy=>hk y (List.mem_of_mem_take (List.mem_of_mem_drop hy)))
   (fun q y hq=>by
    have hq2:=hmem q y hq
    obtain ⟨b,off,ha,g1,g2,g3⟩:=hc (l+q) y hq2
    have hlt:=(List.getElem?_eq_some_iff.1 hq2).1
    rw [if_neg (by omega),ha]
    refine ⟨b,off+l*k',by simp [ah4],g1,g2,fun j hj=>?_⟩
    have:=g3 j hj
    rw [show off+l*k' + q*k' + j=off+(l+q)*k' + j by rw [Nat.add_mul];omega]
    exact this) (fun q y hq=>hr (l+q) y (hmem q y hq))
  rw [hlen] at this
  exact this
end
end
end Go.Proofs.YtlcfiilejnnlnaaGreatDoor
