/- A part of the proof: Jn Jp Jq Qb Ha Qc Ix R10e Ta Tb Tc Td. -/
import Derived.Test.YtlcfiilejnnlnaaGreatDoorK06
set_option maxRecDepth 100000
set_option maxHeartbeats 20000000
set_option linter.all false
namespace Go.Proofs.YtlcfiilejnnlnaaGreatDoor
open Tryz
section
open Go Go.RowKit Go.Shelf
section
variable {P:Program} {r:Option Nat} {n:Nat} {df:Nat} {N:Nat} {σ:aa1} {f:Frm} {L:List Oper} {T:TypeId->Option TI} {Q:Fst}
theorem ar5 (hm:P.follows .mixedOrders=true) (hT:∀ t i,T t=some i->tiOf P t=some i) {c:Code} (h:W (ao9 P T r n df N c Q f σ)):Lp P r n df N c Q f σ:=⟨fun a hs=>ao8 hm hT h.h hs⟩
theorem bF0 {c:Code} {τ:aa1} (hp:σ.Perm τ) (k:Lp P r n df N c Q f τ):Lp P r n df N c Q f σ:=⟨fun a hs=>aM2 (fun w X fr h=>h.perm hp) (fun x hx=>ai9 hp x hx) (k.run a hs)⟩
def xI:=@List.getElem?_set_self
def wN:=@List.getElem?_set_ne
theorem aj5 {c:Code} {τ:aa1} {i:Nat} {d d':D} (hl:ap4 f i=some d) (hd:d ≠ .any) (h:Vs σ d τ d') (k:Lp P r n df N c Q ((i,d')::f) τ):Lp P r n df N c Q f σ:=by
 refine⟨fun a hs=>?_⟩;have hai:a[i]?=some d:=by
  rcases hs.at_ i d hl with h1|h1
  ·exact absurd h1 hd
  ·exact h1
 have hil:=(zE.1 hai).1;refine aM2 (b:=a.set i d') (τ:=τ) (fun w X fr hst=>?_) h.sub (k.run (a.set i d') ⟨by rw [yR];exact hs.len,fun j e hj=>?_⟩)
 ·obtain⟨u,hu,hr⟩:=hst.fr.at_ i d hai;obtain⟨g1,g2⟩:=h.run w X u hst.st hr;refine⟨⟨by rw [yR];exact hst.fr.size,fun j e hj=>?_⟩,g1,hst.df.keep (zT _) (fun x _ hn ho=>hn (ho.imp id (h.sub x))) (fun _ _ _=>rfl)⟩;by_cases e1:i=j
  ·subst e1;rw [xI hil] at hj
   cases hj
   exact⟨u,hu,g2⟩
  ·rw [wN e1] at hj;obtain⟨v,k1,k2⟩:=hst.fr.at_ j e hj;exact⟨v,k1,am0 k2 h.sub⟩
 ·simp only [ap4] at hj
  cases he:Nat.beq i j with
  | true=>
   rw [he] at hj;have:=yH he;subst this;simp only [cond_true,xB] at hj;subst hj;exact .inr (xI hil)
  | false=>
   rw [he] at hj;have hne:i≠j:=fun e=>by subst e;simp at he
   rcases hs.at_ j e hj with h1|h1
   ·exact .inl h1
   ·exact .inr (by rw [wN hne];exact h1)
theorem OtE.box {o:Oper} {t:TypeId} {x:Operand} {cs:List D} {K:Frm->aa1->Prop} (ho:o.op = .box t x) (hx:evF f x = .agg cs) (kk:∀ b,W (putK N o.dst (.v (.pointer (some ⟨b,0,none⟩))) f (fun f'=>K f' ((b,.cells t cs)::σ)))):OtE P r n df L N o f σ K:=by
 refine⟨fun rest Q a hsp hw hk=>?_⟩;refine ah3 hw (by rw [ho];rfl) fun w X fr hst=>?_;have h1:=hsp.le x _ _ _ (hst.fr.eval x);rw [hx] at h1;obtain⟨vs,hv,hvs⟩:=h1.agg_inv;have e0:(execOp fr.eval o).run P w = .ok (.value (.pointer (some ⟨w.heap.size,0,none⟩))) (w.alloc (.cells vs.toArray t)):=by
  simp only [execOp,ho,hv]
  rfl
 rw [e0];obtain⟨g1,g2,g3⟩:=hst.st.new (.cells vs.toArray t) (.cells t cs) ⟨vs,rfl,hvs⟩;obtain⟨f',hs',h4⟩:=ae5 (kk w.heap.size).h hsp;exact⟨_,_,g2,(hst.mv g2 g1).put (.v _) o.dst,hk _ _ _ h4 hs'⟩
def Vd (σ τ:aa1) (d d':D):Prop:=∀ (w:World) (X:Nat->Prop) (u:Value),StOK w X σ->Rd w (Own σ X) d u->Rd w (Own τ X) d' u
theorem Vd.same {σ τ:aa1} (hs:∀ b,b∈aa6 τ->b∈aa6 σ) (d:D):Vd σ τ d d:=fun _ _ _ _ h=>am0 h hs
theorem Vd.vs {σ τ:aa1} {d d':D} (h:Vs σ d τ d'):Vd σ τ d d':=fun w X u hs hr=>(h.run w X u hs hr).2
inductive Vd2 (σ τ:aa1):List D->List D->Prop
 | nil:Vd2 σ τ [] []
 | cons {d d':D} {l l':List D} (h:Vd σ τ d d') (k:Vd2 σ τ l l'):Vd2 σ τ (d::l) (d'::l')
inductive Vd3 (σ τ:aa1):List (List D)->List (List D)->Prop
 | nil:Vd3 σ τ [] []
 | cons {d d':List D} {l l':List (List D)} (h:Vd2 σ τ d d') (k:Vd3 σ τ l l'):Vd3 σ τ (d::l) (d'::l')
theorem Vd2.len {σ τ:aa1} {l l':List D} (h:Vd2 σ τ l l'):l'.length=l.length:=by induction h with|nil=>rfl|cons _ _ ih=>simp [ih]
theorem Vd3.len {σ τ:aa1} {l l':List (List D)} (h:Vd3 σ τ l l'):l'.length=l.length:=by induction h with|nil=>rfl|cons _ _ ih=>simp [ih]
theorem Vd2.same {σ τ:aa1} (hs:∀ b,b∈aa6 τ->b∈aa6 σ):∀ l:List D,Vd2 σ τ l l
 | []=>.nil
 | d::l=>.cons (Vd.same hs d) (Vd2.same hs l)
theorem Vd3.same {σ τ:aa1} (hs:∀ b,b∈aa6 τ->b∈aa6 σ):∀ l:List (List D),Vd3 σ τ l l
 | []=>.nil
 | d::l=>.cons (Vd2.same hs d) (Vd3.same hs l)
theorem Vd2.at_ {σ τ:aa1} {l l':List D} (h:Vd2 σ τ l l'):∀ {j:Nat} {d':D},l'[j]?=some d'->∃ d,l[j]?=some d/\Vd σ τ d d':=by
 induction h with
 | nil=>intro j d' h;simp at h
 | cons h k ih=>
  intro j d' hj
  cases j with
  | zero=>simp at hj;subst hj;exact⟨_,rfl,h⟩
  | succ j=>simp at hj;obtain⟨d,h1,h2⟩:=ih hj;exact⟨d,by simpa using h1,h2⟩
theorem Vd3.at_ {σ τ:aa1} {l l':List (List D)} (h:Vd3 σ τ l l'):∀ {j:Nat} {d':List D},l'[j]?=some d'->∃ d,l[j]?=some d/\Vd2 σ τ d d':=by
 induction h with
 | nil=>intro j d' h;simp at h
 | cons h k ih=>
  intro j d' hj
  cases j with
  | zero=>simp at hj;subst hj;exact⟨_,rfl,h⟩
  | succ j=>simp at hj;obtain⟨d,h1,h2⟩:=ih hj;exact⟨d,by simpa using h1,h2⟩
theorem Vd.sl {σ τ:aa1} (hs:∀ b,b∈aa6 τ->b∈aa6 σ) {k:Nat} {xs xs':List (List D)} (h:Vd3 σ τ xs xs'):Vd σ τ (.sl k xs) (.sl k xs'):=by
 intro w X u hst hr;obtain⟨a,cap,f,e1,hcap,hk,hc,hrr⟩:=hr.sl_inv;rw [e1,← h.len];refine .sl k _ a cap f (by rw [h.len];exact hcap) (fun y hy=>?_) (fun i y hy=>?_) (fun i y hy j d hd=>?_)
 ·obtain⟨i,hi⟩:=yO hy;obtain⟨z,h1,h2⟩:=h.at_ hi;rw [h2.len];exact hk z (zG h1)
 ·obtain⟨z,h1,h2⟩:=h.at_ hy;obtain⟨b,off,q1,q2,q3,q4⟩:=hc i z h1;exact⟨b,off,q1,fun ho=>q2 (ho.imp id (hs b)),q3,q4⟩
 ·obtain⟨z,h1,h2⟩:=h.at_ hy;obtain⟨d0,h3,h4⟩:=h2.at_ hd;exact h4 w X _ hst (hrr i z h1 j d0 h3)
theorem Vd.agg {σ τ:aa1} {l l':List D} (h:Vd2 σ τ l l'):Vd σ τ (.agg l) (.agg l'):=by
 intro w X u hst hr;obtain⟨vs,rfl,hv⟩:=hr.agg_inv;refine .agg _ _ (by rw [h.len];exact hv.len) (fun j d u hd hu=>?_);obtain⟨d0,h1,h2⟩:=h.at_ hd;exact h2 w X u hst (hv.at_ j d0 u h1 hu)
theorem Vd.tup {σ τ:aa1} {l l':List D} (h:Vd2 σ τ l l'):Vd σ τ (.tup l) (.tup l'):=by
 intro w X u hst hr;obtain⟨vs,rfl,hv⟩:=hr.tup_inv;refine .tup _ _ (by rw [h.len];exact hv.len) (fun j d u hd hu=>?_);obtain⟨d0,h1,h2⟩:=h.at_ hd;exact h2 w X u hst (hv.at_ j d0 u h1 hu)
theorem Vs.vd {σ τ:aa1} {d d':D} (hp:∃ ρ,σ.Perm (ρ++τ)) (h:Vd σ τ d d'):Vs σ d τ d':=by
 obtain⟨ρ,hp⟩:=hp;exact⟨fun w X u hs hr=>⟨(hs.perm hp).sub (wI _ _),h w X u hs hr⟩,fun b hb=>ai9 hp b (by rw [ab1];exact yW _ hb)⟩
end
end
section
open Go Go.RowKit Go.Shelf
inductive LeR:List (List D)->List (List D)->Prop
 | nil:LeR [] []
 | cons {x y:List D} {xs ys:List (List D)} (h:LeL x y) (t:LeR xs ys):LeR (x::xs) (y::ys)
theorem LeL.refl:∀ l:List D,LeL l l
 | []=>.nil
 | d::l=>.cons (Le.refl d) (LeL.refl l)
theorem LeR.refl:∀ l:List (List D),LeR l l
 | []=>.nil
 | d::l=>.cons (LeL.refl d) (LeR.refl l)
theorem LeR.append {a b c d:List (List D)} (h:LeR a b) (k:LeR c d):LeR (a++c) (b++d):=by
 induction h with
 | nil=>exact k
 | cons h _ ih=>exact .cons h ih
theorem LeR.len {a b:List (List D)} (h:LeR a b):b.length=a.length:=by induction h with|nil=>rfl|cons _ _ ih=>simp [ih]
theorem LeL.vd {σ τ:aa1} (hs:∀ b,b∈aa6 τ->b∈aa6 σ) {a b:List D} (h:LeL a b):Vd2 σ τ a b:=by
 induction h with
 | nil=>exact .nil
 | cons h _ ih=>exact .cons (fun w X u _ hr=>h _ _ _ (am0 hr hs)) ih
theorem LeR.vd {σ τ:aa1} (hs:∀ b,b∈aa6 τ->b∈aa6 σ) {a b:List (List D)} (h:LeR a b):Vd3 σ τ a b:=by
 induction h with
 | nil=>exact .nil
 | cons h _ ih=>exact .cons (h.vd hs) ih
theorem bO7 {k:Nat} {xs ys:List (List D)} (h:LeR xs ys):Le (.sl k xs) (.sl k ys):=by
 intro w O u hr;obtain⟨a,cap,f,e1,hcap,hk,hc,hrr⟩:=hr.sl_inv;have hv:Vd3 [] [] xs ys:=h.vd (fun _ h=>h);have at2:∀ {i:Nat} {y:List D},ys[i]?=some y->∃ z,xs[i]?=some z/\LeL z y:=by
  clear hv hrr hc hk hcap e1 hr
  induction h with
  | nil=>intro i y hy;simp at hy
  | cons h _ ih=>
   intro i y hy
   cases i with
   | zero=>simp at hy;subst hy;exact⟨_,rfl,h⟩
   | succ i=>simp at hy;obtain⟨z,h1,h2⟩:=ih hy;exact⟨z,by simpa using h1,h2⟩
 have atL:∀ {z y:List D},LeL z y->z.length=y.length/\∀ {j:Nat} {d':D},y[j]?=some d'->∃ d,z[j]?=some d/\Le d d':=by
  intro z y hl
  induction hl with
  | nil=>exact⟨rfl,fun h=>by simp at h⟩
  | cons h _ ih=>
   refine⟨by simp [ih.1],fun {j d'} hj=>?_⟩
   cases j with
   | zero=>simp at hj;subst hj;exact⟨_,rfl,h⟩
   | succ j=>simp at hj;obtain⟨d,h1,h2⟩:=ih.2 hj;exact⟨d,by simpa using h1,h2⟩
 rw [e1,← h.len];refine .sl k _ a cap f (by rw [h.len];exact hcap) (fun y hy=>?_) (fun i y hy=>?_) (fun i y hy j d hd=>?_)
 ·obtain⟨i,hi⟩:=yO hy;obtain⟨z,h1,h2⟩:=at2 hi;rw [← (atL h2).1];exact hk z (zG h1)
 ·obtain⟨z,h1,h2⟩:=at2 hy;obtain⟨b,off,q1,q2,q3,q4⟩:=hc i z h1;exact⟨b,off,q1,q2,q3,q4⟩
 ·obtain⟨z,h1,h2⟩:=at2 hy;obtain⟨d0,h3,h4⟩:=(atL h2).2 hd;exact h4 _ _ _ (hrr i z h1 j d0 h3)
theorem Pk.rowLe {σ τ:aa1} {e:TypeId} {k:Nat} {rs xs:List (List D)} {v:Value} {s:aa1} (h:RowIs e k rs v s) (hl:LeR rs xs) (hp:σ.Perm (s++τ)):Pk σ (.v v) (.sl k xs):=
 ⟨fun w X u hs hr=>by have:=hr.val rfl;subst this;exact bO7 hl _ _ _ (aJ1 h (hs.perm hp)).stable⟩
theorem Vd.rowLe {σ τ ρ:aa1} {e:TypeId} {k:Nat} {rs xs:List (List D)} {v:Value} {s:aa1} (h:RowIs e k rs v s) (hl:LeR rs xs) (hp:σ.Perm (s++ρ)) (hsub:∀ b,b∈aa6 τ->b∈aa6 ρ):Vd σ τ (.v v) (.sl k xs):=
 fun w X u hs hr=>bO7 hl _ _ _ (am0 ((Vs.row h hp).run w X u hs hr).2 hsub)
structure Sc (σ τ:aa1):Prop where
 run:∀ (w:World) (X:Nat->Prop),StOK w X σ->StOK w X τ
 sub:∀ b,b∈aa6 τ->b∈aa6 σ
theorem Sc.trans {a b c:aa1} (h:Sc a b) (k:Sc b c):Sc a c:=⟨fun w X hs=>k.run w X (h.run w X hs),fun x hx=>h.sub x (k.sub x hx)⟩
theorem Sc.perm {a b:aa1} (h:a.Perm b):Sc a b:=⟨fun _ _ hs=>hs.perm h,fun x hx=>ai9 h x hx⟩
theorem Sc.frz {b:Nat} {t e:TypeId} {cs:List D} {j k:Nat} {xs ys:List (List D)} {v:Value} {s τ:aa1} (hj:cs[j]?=some (.v v)) (h:RowIs e k xs v s) (hl:LeR xs ys):Sc ((b,.cells t cs)::(s++τ)) ((b,.cells t (cs.set j (.sl k ys)))::τ):=by
 have hsub:∀ x,x∈aa6 ((b,Blk.cells t (cs.set j (.sl k ys)))::τ)->x∈aa6 ((b,Blk.cells t cs)::(s++τ)):=fun x hx=>by
  simp only [aa6,List.map_cons,yB,zU,zO] at hx ⊢;rcases hx with h|h
  ·exact .inl h
  ·exact .inr (.inr h)
 refine⟨fun w X hs=>?_,hsub⟩;have hO:∀ x,x<w.heap.size->¬ Own ((b,Blk.cells t cs)::(s++τ)) X x->¬ Own ((b,Blk.cells t (cs.set j (.sl k ys)))::τ) X x:=fun x _ hn ho=>hn (ho.imp id (hsub x));have hp:((b,Blk.cells t cs)::(s++τ)).Perm (s++((b,Blk.cells t cs)::τ)):=List.perm_middle.symm;have hrow:=aJ1 h (hs.perm hp);have hrow':Rd w (Own ((b,Blk.cells t (cs.set j (.sl k ys)))::τ) X) (.sl k ys) v:=bO7 hl _ _ _ (by
  have e:Own ((b,Blk.cells t (cs.set j (.sl k ys)))::τ) X=Own ((b,Blk.cells t cs)::τ) X:=rfl;rw [e];exact hrow)
 refine⟨?_,fun x kk hm=>?_,hs.xlt,hs.gok.mono (fun x ho=>ho.imp id (hsub x))⟩
 ·have hnd:=hs.nodup;simp only [aa6,List.map_cons,yB,wZ,zO,wR] at hnd ⊢;exact⟨fun h=>hnd.1 (.inr h),hnd.2.2.1⟩
 ·rcases zU.1 hm with e1|hm
  ·cases e1
   obtain⟨h1,o,h2,vs,rfl,h3⟩:=hs.at_ b _ yN;refine⟨h1,_,h2,vs,rfl,⟨by rw [yR];exact h3.len,fun i d u hi hu=>?_⟩⟩;by_cases e2:j=i
   ·subst e2;rw [xI (zE.1 hj).1] at hi
    cases hi
    have:=(h3.at_ j _ u hj hu).val rfl;rw [this];exact hrow'
   ·rw [wN e2] at hi;exact am0 (h3.at_ i d u hi hu) hsub
  ·obtain⟨h1,o,h2,h3⟩:=hs.at_ x kk (yQ _ (yW _ hm));exact⟨h1,o,h2,pA4 (zT _) hO (fun _ _ _=>rfl) h3⟩
section
variable {P:Program} {r:Option Nat} {n:Nat} {df:Nat} {N:Nat} {σ:aa1} {f:Frm} {Q:Fst}
theorem ay2 {c:Code} {τ:aa1} (hp:Sc σ τ) (k:Lp P r n df N c Q f τ):Lp P r n df N c Q f σ:=
 ⟨fun a hs=>aM2 (fun w X fr h=>⟨h.fr.keep (zT _) (fun x _ hn ho=>hn (ho.imp id (hp.sub x))) (fun _ _ _=>rfl),hp.run w X h.st,h.df.keep (zT _) (fun x _ hn ho=>hn (ho.imp id (hp.sub x))) (fun _ _ _=>rfl)⟩) hp.sub (k.run a hs)⟩
theorem Sc.refl (σ:aa1):Sc σ σ:=⟨fun _ _ h=>h,fun _ h=>h⟩
def xU:=@List.sublist_append_left
theorem Sc.drop {τ ρ:aa1} (h:σ.Perm (τ++ρ)):Sc σ τ:=⟨fun _ _ hs=>(hs.perm h).sub (xU _ _),fun x hx=>ai9 h x (by rw [ab1];exact xK _ hx)⟩
theorem Sc.sl {τ:aa1} (h:τ.Sublist σ):Sc σ τ:=⟨fun _ _ hs=>hs.sub h,fun _ hx=>(h.map Prod.fst).subset hx⟩
theorem aM1 {c:Code} {a:List D} {Q1 Q2:Pst} (h:AWP P r n df c Q1 a σ) (k:∀ e a' σ',Q1 e a' σ'->∃ τ,Sc σ' τ/\Q2 e a' τ):AWP P r n df c Q2 a σ:=
 ⟨fun w X fr hs=>wpIn_mono (h.run w X fr hs) fun e fr' w' ⟨a',s',h1,h2,h3⟩=>by
  obtain⟨τ,q1,q2⟩:=k e a' s' h1;exact⟨a',τ,q2,⟨h2.fr.keep (zT _) (fun x _ hn ho=>hn (ho.imp id (q1.sub x))) (fun _ _ _=>rfl),q1.run w' X h2.st,h2.df.keep (zT _) (fun x _ hn ho=>hn (ho.imp id (q1.sub x))) (fun _ _ _=>rfl)⟩,h3.fewer q1.sub⟩⟩
variable {T:TypeId->Option TI} {L:List Oper}
theorem bF1 (hm:P.follows .mixedOrders=true) (hT:∀ t i,T t=some i->tiOf P t=some i) {id:Nat} {O:Array Oper} (hO:O=L.toArray) (hs:List Nat) (fu:Nat) (t:Ord) {γ:Type} (ps:γ->Frm) (S:γ->aa1) (I:γ->Prop)
  (hB:(Nat.beq (hs.length+fu) L.length&&bw8 .any L.toArray (loE hs) fu t hs (Array.replicate L.length false)&&ay1 (loE hs) t)=true)
  (h:W (exHs P T N L (loE hs) σ hs (fun f1=>bb0 P T r n df N L (fun f' σ'=>∃ g,chkF f' (at6 (.region id O true) f (ps g))/\Sc σ' (S g)/\I g) t f1 σ) f))
  (kk:∀ g,I g->W (aF5 (at6 (.region id O true) f (ps g)) fun F=>Q .normal F (S g))):Lp P r n df N (.region id O true) Q f σ:=by
 subst hO;simp only [zJ] at hB;refine⟨fun a hs'=>?_⟩;refine aM1 (aJ9 (Q:=fun e a' σ'=>e = .normal/\∃ f',Sp N a' f'/\∃ g,chkF f' (at6 (.region id L.toArray true) f (ps g))/\Sc σ' (S g)/\I g) (loE hs) hs fu t hm (yH hB.1.1) hB.1.2 (az6 (fun a' σ' h'=>?_) (aD3 hT h.h hs'))) ?_
 ·obtain⟨rfl,f',h1,h2⟩:=h';have:=au5 hT hB.2 h2 h1;exact ar1 (fun a σ h=>⟨rfl,h⟩) this
 ·rintro e a' σ' ⟨rfl,f',h1,g,h2,h4,h3⟩;exact⟨S g,h4,_,h1.sub h2,ar2 (kk g h3).h⟩
def cw6 {γ:Type} (F:γ->Frm) (S:γ->aa1) (I:γ->Prop) (Q:Fst):Fst
 | .normal,f',σ'=>∃ g,chkF f' (F g)/\Sc σ' (S g)/\I g
 | e,f',σ'=>Q e f' σ'
theorem av2 (hm:P.follows .mixedOrders=true) (hT:∀ t i,T t=some i->tiOf P t=some i) {c:Code} {γ:Type} (ps:γ->Frm) (S:γ->aa1) (I:γ->Prop)
  (h:W (ao9 P T r n df N c (cw6 (fun g=>at6 c f (ps g)) S I Q) f σ))
  (kk:∀ g,I g->W (aF5 (at6 c f (ps g)) fun F=>Q .normal F (S g))):Lp P r n df N c Q f σ:=by
 refine⟨fun a hs=>aM1 (ao8 hm hT h.h hs) ?_⟩;rintro e a' σ' ⟨f',h1,h2⟩
 cases e with
 | normal=>
  obtain⟨g,h3,h5,h4⟩:=h2;exact⟨S g,h5,_,h1.sub h3,ar2 (kk g h4).h⟩
 | _=>exact⟨σ',Sc.refl _,f',h1,h2⟩
theorem aa5 (hm:P.follows .mixedOrders=true) (hT:∀ t i,T t=some i->tiOf P t=some i) {c:Code} {γ:Type} (ps:γ->Frm) (S:γ->aa1) (I:γ->Prop) (μ:γ->Nat) (g₀:γ)
  (h1:chkF f (at6 c f (ps g₀))) (h2:Sc σ (S g₀)) (h3:I g₀)
  (h4:∀ g,I g->W (aF5 (at6 c f (ps g)) fun F=>ao9 P T r n df N c (bB0 (fun f' σ'=>∃ g',chkF f' (at6 c f (ps g'))/\Sc σ' (S g')/\I g'/\μ g' < μ g) Q) F (S g))) :
  Lp P r n df N (.loop c) Q f σ:=by
 refine ay2 h2 ⟨fun a hs=>?_⟩;refine bb5 (fun m a σ=>∃ g,μ g=m/\I g/\Sp N a (at6 c f (ps g))/\σ=S g) (μ g₀) ⟨g₀,rfl,h3,hs.sub h1,rfl⟩ ?_;rintro m a σ ⟨g,rfl,hI,hS,rfl⟩;refine aM1 (ao8 hm hT (ar2 (h4 g hI).h) hS) ?_;rintro e a' σ' ⟨f',hs',h'⟩
 cases e with
 | normal=>obtain⟨g',k1,k2,k3,k4⟩:=h';exact⟨S g',k2,μ g',k4,g',rfl,k3,hs'.sub k1,rfl⟩
 | _=>exact⟨σ',Sc.refl _,f',hs',h'⟩
end
end
section
open Go Go.RowKit Go.Shelf
def wU:=@Nat.lt_or_ge
theorem bL1 {cs x:List D} {off m:Nat} {d:D} (h:∀ j,j<x.length->cs[off+j]?=x[j]?) (hm:m<x.length):spl cs off (x.set m d)=cs.set (off+m) d:=by
 have hl:off+x.length<=cs.length:=by
  have:=h (x.length-1) (by omega);rw [zD (by omega:x.length-1<x.length)] at this;have:=(zE.1 this).1;omega
 unfold spl;apply xY;intro i;rw [xP,yR];rcases wU i off with h1|h1
 ·rw [zV,yP (by rw [zR];omega),yX,if_pos h1,if_neg (by omega)]
 ·rcases wU i (off+x.length) with h2|h2
  ·rw [zV,yK (by rw [zR];omega),zR,vH (by omega),yP (by rw [yR];omega),xP];by_cases e:off+m=i
   ·rw [if_pos e,if_pos (by omega),if_pos (by omega),if_pos (by omega)]
   ·rw [if_neg e,if_neg (by omega),← h (i-off) (by omega),show off+(i-off)=i by omega]
  ·rw [yK (by rw [zI,zR,yR];omega),zI,zR,yR,vH (by omega),xR,if_neg (by omega),show off+x.length+(i-(off+x.length))=i by omega]
theorem pA7 {e:TypeId} {k:Nat} {xs:List (List D)} {b n cap:Nat} {cs:List D} (h:RowIs e k xs (.slice (some ⟨b,0,none⟩) n cap) [(b,.cells e cs)]) {i m:Nat} {x:List D} {d:D} (hx:xs[i]?=some x) (hm:m<k):RowIs e k (xs.set i (x.set m d)) (.slice (some ⟨b,0,none⟩) n cap) [(b,.cells e (cs.set (i*k+m) d))]:=by
 have hil:=(zE.1 hx).1;have hxk:=h.len x (zG hx);obtain⟨b',cap',cs',e1,e2,h3⟩:=h.get hx
 cases e1
 have e3:cs'=cs:=by
  have:=List.cons.inj e2
  simpa using this.1.symm
 subst e3;have:=h.put hil (x':=x.set m d) (by rw [yR];exact hxk);rw [bL1 (by rw [hxk];exact h3) (by omega)] at this;exact this
end
section
open Go
def aD1:Cnd->List (List D)
 | .c0 ..=>[]
 | .c1 _ _ _ _ a=>[[iD a.op,.sl 5 (aD1 a),slS a.path,slS a.other,iD a.n]]
 | .c2 _ _ _ _ a b=>[[iD a.op,.sl 5 (aD1 a),slS a.path,slS a.other,iD a.n],[iD b.op,.sl 5 (aD1 b),slS b.path,slS b.other,iD b.n]]
def cndC (c:Cnd):List D:=[iD c.op,.sl 5 (aD1 c),slS c.path,slS c.other,iD c.n]
abbrev cndD (c:Cnd):D:=.agg (cndC c)
theorem am9 (c:Cnd):aD1 c=c.kids.map cndC:=by cases c<;>rfl
def slC (l:List Cnd):D:=.sl 5 (l.map cndC)
def qryC (q:Qry):List D:=[iD q.op,sD q.kind,slS q.path,iD q.cond.op,.sl 5 (aD1 q.cond),slS q.cond.path,slS q.cond.other,iD q.cond.n]
abbrev qryD (q:Qry):D:=.agg (qryC q)
theorem bp8 (s:ByteArray):APure prog 156 [sD s] (bD (isNm s)):=by
 refine eP7 func156 ntmps156 fun BB=>?_;by_cases hs:1<=s.size/\s.size<=12
 ·have hw:aa3 s.size 1 12=true:=by simp [aa3];omega
  have h0:0<(bytes s).length:=by rw [as6];omega
  obtain⟨c,hc0⟩:∃ c,(bytes s)[(0:Int).toNat]?=some c:=⟨_,zD h0⟩
  have hN:isNm s=(ap9 c&&(bytes s).all alnum):=by
   unfold isNm;rw [hw];have hc1:(bytes s)[0]?=some c:=hc0
   cases hb:bytes s with
   | nil=>rw [hb] at h0;simp at h0
   | cons d r=>rw [hb] at hc1;simp at hc1;subst hc1;simp
  by_cases hl:(c.toNat:Int)<97
  ·have hlet:ap9 c=false:=by unfold ap9;simp;omega
   repeat' first|refine sk2 ?_|intro b;conv=>whnf|with_reducible refine Br.d (fun hc=>?_) (fun hc=>?_)|with_reducible refine Br.b (fun hc=>?_) (fun hc=>?_)
   all_goals (refine Rt.pure (zM bD ?_);rw [hN,hlet];rfl)
  ·repeat' first|refine sk2 ?_|intro b;conv=>whnf|with_reducible refine Br.d (fun hc=>?_) (fun hc=>?_)|with_reducible refine Br.b (fun hc=>?_) (fun hc=>?_)
   refine ac6 mixed aa0 (γ:=Nat) (fun g=>[(20,iD g)]) (fun _=>[]) (fun q=>q<=s.size/\∀ (m:Nat) y,m<q->(bytes s)[m]?=some y->alnum y=true) (fun q=>s.size-q) 0 rfl rfl ⟨by omega,fun m y hm=>by omega⟩ ?_;rintro q ⟨hq,hno⟩;by_cases hql:q<s.size
   ·obtain⟨y,hy0⟩:∃ y,(bytes s)[q]?=some y:=⟨_,zD (by rw [as6];omega)⟩
    have hy:(bytes s)[((q:Nat):Int).toNat]?=some y:=hy0
    cases ha:alnum y with
    | true=>
     have h2:=ao1 hno hy0 ha
     repeat' first|refine sk2 ?_|intro b;conv=>whnf|with_reducible refine Br.d (fun hc=>?_) (fun hc=>?_)|with_reducible refine Br.b (fun hc=>?_) (fun hc=>?_)
     all_goals first
      | exact⟨q+1,rfl,rfl,⟨by omega,h2⟩,by omega⟩
      | (exfalso;simp [alnum,ap9,bb2] at ha;omega)
    | false=>
     repeat' first|refine sk2 ?_|intro b;conv=>whnf|with_reducible refine Br.d (fun hc=>?_) (fun hc=>?_)|with_reducible refine Br.b (fun hc=>?_) (fun hc=>?_)
     all_goals first
      | (refine Rt.pure (zM bD ?_);rw [hN,af9 hy0 ha,wW])
      | (exfalso;simp [alnum,ap9,bb2] at ha;omega)
   ·obtain rfl:q=s.size:=by omega
    repeat' first|refine sk2 ?_|intro b;conv=>whnf|with_reducible refine Br.d (fun hc=>?_) (fun hc=>?_)|with_reducible refine Br.b (fun hc=>?_) (fun hc=>?_)
    refine Rt.pure (zM bD ?_);have hall:(bytes s).all alnum=true:=ak1 fun m y hm hy=>hno m y (by rw [as6] at hm;omega) hy;have hc2:alnum c=true:=yA.1 hall c (zG hc0);have hlet:ap9 c=true:=by
     simp [alnum,ap9,bb2] at hc2 ⊢;omega
    rw [hN,hall,hlet];rfl
 ·have hw:aa3 s.size 1 12=false:=by simp [aa3];omega
  have hN:isNm s=false:=by unfold isNm;rw [hw];rfl
  repeat' first|refine sk2 ?_|intro b;conv=>whnf|with_reducible refine Br.d (fun hc=>?_) (fun hc=>?_)|with_reducible refine Br.b (fun hc=>?_) (fun hc=>?_)
  all_goals (refine Rt.pure (zM bD ?_);rw [hN])
theorem sk22 {A B:Prop} (k:B) (h:Hd7 B->A:=by intro q7;(first|refine sb0 ?_|refine sb1 ?_|(refine' cp7x ?hc ?_;(case hc=>exact hp _ (zG hy))));exact q7.1):A:=h ⟨k⟩
theorem bF7 {f:FuncId} (l:List ByteArray) (p:ByteArray->Bool) (hl:l.length<=1000000) (hp:∀ y∈l,APure prog f [sD y] (bD (p y))):APure prog 238 [slS l,.v (.func (.func f) #[] #[])] (iD (idx p l)):=by
 refine eP7 func238 ntmps238 fun BB=>?_
 repeat' first|refine sk22 ?_|intro b;conv=>whnf
 refine ac6 mixed aa0 (γ:=Nat) (fun k=>[(8,iD k)]) (fun _=>[]) (fun k=>k<=l.length/\∀ i y,i<k->l[i]?=some y->p y=false) (fun k=>l.length-k) 0 rfl rfl ⟨by omega,by omega⟩ ?_;rintro k ⟨hk,hno⟩;by_cases hlt:k<l.length
 ·obtain⟨y,hy⟩:∃ y,l[(k:Int).toNat]?=some y:=⟨_,zD hlt⟩
  repeat' first|refine sk22 ?_|intro b;conv=>whnf|with_reducible refine Br.d (fun hc=>?_) (fun hc=>?_)|with_reducible refine Br.b (fun hc=>?_) (fun hc=>?_)
  ·refine Rt.pure (zM iD ?_);exact (ad3 hy ‹_› hno).symm
  ·exact⟨k+1,rfl,rfl,⟨by omega,fun i z hi hz=>by
    by_cases e:i=k
    ·subst e;rw [show ((i:Int)).toNat=i from rfl,hz] at hy;cases hy;assumption
    ·exact hno i z (by omega) hz⟩,by omega⟩
 ·repeat' first|refine sk22 ?_|intro b;conv=>whnf
  refine Rt.pure (zM iD ?_);exact (ai8 fun i y hy=>hno i y (by have:=(zE.1 hy).1;omega) hy).symm
theorem sk23 {A B:Prop} (k:B) (h:Hd7 B->A:=by intro q7;(first|refine sb0 ?_|refine sb1 ?_|(refine' cp7x ?hc ?_;(case hc=>exact bF7 l p hl hp)));exact q7.1):A:=h ⟨k⟩
theorem bt5 {f:FuncId} (l:List ByteArray) (p:ByteArray->Bool) (hl:l.length<=1000000) (hp:∀ y∈l,APure prog f [sD y] (bD (p y))):APure prog 200 [slS l,.v (.func (.func f) #[] #[])] (bD (l.any p)):=by
 refine eP7 func200 ntmps200 fun BB=>?_
 repeat' first|refine sk23 ?_|intro b;conv=>whnf
 refine Rt.pure (zM bD ?_);exact al6 p l
theorem sk24 {A B:Prop} (k:B) (h:Hd7 B->A:=by intro q7;(first|refine sb0 ?_|refine sb1 ?_|(refine' cp7x ?hc ?_;(case hc=>exact bp8 _)));exact q7.1):A:=h ⟨k⟩
theorem bD4 (s:ByteArray):APure prog 201 [sD s] (bD (!isNm s)):=by
 refine eP7 func201 ntmps201 fun BB=>?_
 repeat' first|refine sk24 ?_|intro b;conv=>whnf
 refine Rt.pure (zM bD ?_);rfl
def vJ:=@List.all_eq_not_any_not
theorem ch6 {α:Type} (p:α->Bool) (l:List α):(!l.any fun a=>!p a)=l.all p:=by rw [vJ]
theorem sk25 {A B:Prop} (k:B) (h:Hd7 B->A:=by intro q7;(first|refine sb0 ?_|refine sb1 ?_|(refine' cp7x ?hc ?_;(case hc=>exact bt5 _ _ (by omega) (fun y _=>bD4 y))));exact q7.1):A:=h ⟨k⟩
def xF:=@decide_eq_false_iff_not
theorem bp6 (l:List ByteArray) (hl:l.length<=1000000):APure prog 155 [slS l] (bD (am2 l)):=by
 refine eP7 func155 ntmps155 fun BB=>?_;by_cases h:1<=l.length/\l.length<=4
 ·repeat' first|refine sk25 ?_|intro b;conv=>whnf|with_reducible refine Br.d (fun hc=>?_) (fun hc=>?_)|with_reducible refine Br.b (fun hc=>?_) (fun hc=>?_)
  refine Rt.pure (zM bD ?_);unfold am2;rw [ch6,yJ h.1,yJ h.2];rfl
 ·have hN:am2 l=false:=by unfold am2;simp only [Bool.and_eq_false_iff,xF];omega
  repeat' first|refine sk25 ?_|intro b;conv=>whnf|with_reducible refine Br.d (fun hc=>?_) (fun hc=>?_)|with_reducible refine Br.b (fun hc=>?_) (fun hc=>?_)
  all_goals (refine Rt.pure (zM bD ?_);rw [hN])
theorem bp7 (n:Int):APure prog 203 [iD n] (bD (aa3 n (-1048576) 1048576)):=by
 refine eP7 func203 ntmps203 fun BB=>?_
 repeat' first|refine sk25 ?_|intro b;conv=>whnf|with_reducible refine Br.d (fun hc=>?_) (fun hc=>?_)|with_reducible refine Br.b (fun hc=>?_) (fun hc=>?_)
 all_goals (refine Rt.pure (zM bD ?_);first|(simp [aa3, *];done)|(simp [aa3];omega))
theorem aA4 {c:Cnd} (h:c.size<=1000000):c.deep<=1000000:=xH c.deep_le h
def aH7 (l:List Cnd):Nat:=(l.map Cnd.size).sum
def bk5 (l:List Cnd):Nat:=l.foldl (fun m c=>max m c.deep) 0
theorem aU5 {l:List Cnd} {j:Nat} {y:Cnd} (h:l[j]?=some y):aH7 (l.take (j+1))=aH7 (l.take j)+y.size:=by
 unfold aH7;rw [xC,h];simp
theorem aU6 {l:List Cnd} {j:Nat} {y:Cnd} (h:l[j]?=some y):bk5 (l.take (j+1))=max (bk5 (l.take j)) y.deep:=by
 unfold bk5;rw [xC,h];simp
theorem br3 (l:List Cnd) (j:Nat):aH7 (l.take j)<=aH7 l:=by
 have h:aH7 l=aH7 (l.take j)+aH7 (l.drop j):=by unfold aH7;rw [← vO,← yB,vF]
 omega
theorem ai1 (c:Cnd):c.size=1+aH7 c.kids:=by cases c<;>simp [Cnd.size,Cnd.kids,aH7];omega
theorem bg1 (c:Cnd):c.deep=bk5 c.kids+1:=by cases c<;>simp [Cnd.deep,Cnd.kids,bk5]
theorem sk26 {A B:Prop} (k:B) (h:Hd7 B->A:=by intro q7;(first|refine sb0 ?_|refine sb1 ?_|(refine' cp7x ?hc ?_;(case hc=>exact HI)));exact q7.1):A:=h ⟨k⟩
theorem cl4 {p:Prop} (h:p:=by repeat (first|exact Chk.nil|refine Chk.cons rfl ?_|(refine Chk.cons (zM (fun n=>some (iD n)) ?h) ?_;(case h=>(first|omega|((try simp only [zL,zR,zI,List.length_cons,List.length_nil,zY,Nat.reduceAdd]);omega)))))):p:=h
theorem bD2:∀ (m:Nat) (c:Cnd),c.size<=m->m<=1000000->APure prog 154 [cndD c] (.tup [iD c.size,iD c.deep])
 | 0,c,h,_=>by rw [ai1] at h;omega
 | m+1,c,h,hm=>by
  have hk:=c.kids_len;have hs:=ai1 c;have hd:=bg1 c;have hdb:=aA4 (c:=c) (by omega);unfold cndD cndC;rw [am9 c];refine eP7 func154 ntmps154 fun BB=>?_
  repeat' first|refine sk26 ?_|intro b;conv=>whnf
  refine ac2 mixed aa0 (γ:=Nat) (fun i=>[(4,iD ((1+aH7 (c.kids.take i):Nat):Int)),(5,iD ((bk5 (c.kids.take i):Nat):Int)),(13,iD i)]) (fun _=>[]) (fun i=>i<=c.kids.length) (fun i=>c.kids.length-i) 0 (aa2 cl2) cl3 (zW _) ?_;intro i hi;by_cases hil:i<c.kids.length
  ·obtain⟨y,hy0⟩:∃ y,c.kids[i]?=some y:=⟨_,zD hil⟩
   have hy:c.kids[((i:Nat):Int).toNat]?=some y:=hy0;have hyl:=Cnd.kid_size (zG hy0);have HI:=bD2 m y (by omega) (by omega);have e1:=aU5 hy0;have e2:=aU6 hy0;have hb:=aA4 (c:=y) (by omega);have hb2:=br3 c.kids i
   repeat' first|refine sk26 ?_|intro b;conv=>whnf
   exact⟨i+1,(aa2 cl4),cl3,by omega,by omega⟩
  ·obtain rfl:i=c.kids.length:=by omega
   rw [yM]
   repeat' first|refine sk26 ?_|intro b;conv=>whnf
   refine Rt.pure ?_;rw [hs,hd];rfl
end
section
open Go
def I64n (n:Int):Prop:=-9223372036854775808<=n/\n<=9223372036854775807
def posN (a:Int):Int:=if a<0 then -(a+1) else a
def arE (a n:Int):Int:=if n<1 then 0 else (posN a).tmod n
def atE (xs:List Int) (i n:Int):Int:=if i<0\/xs.length<=i then 0 else arE (xs.getD i.toNat 0) n
theorem ah6 (a n:Int):0<=arE a n/\(1<=n->arE a n<n)/\(n<1->arE a n=0):=by
 unfold arE;have hp:0<=posN a:=by unfold posN;split<;>omega
 split
 ·exact⟨by omega,fun h=>by omega,fun _=>rfl⟩
 ·refine⟨Int.tmod_nonneg _ hp,fun h=>Int.tmod_lt_of_pos _ (by omega),fun h=>by omega⟩
theorem ac8 (xs:List Int) (i n:Int):0<=atE xs i n/\(1<=n->atE xs i n<n):=by
 unfold atE;split
 ·exact⟨by omega,fun h=>by omega⟩
 ·have:=ah6 (xs.getD i.toNat 0) n;exact⟨this.1,this.2.1⟩
theorem ab0 (a n:Int) (ha:I64n a):APure prog 17 [iD a,iD n] (iD (arE a n)):=by
 obtain⟨h1,h2⟩:=ha;refine eP7 func17 ntmps17 fun BB=>?_
 repeat' first|refine sk2 ?_|intro b;conv=>whnf|with_reducible refine Br.d (fun hc=>?_) (fun hc=>?_)|with_reducible refine Br.b (fun hc=>?_) (fun hc=>?_)
 all_goals
  refine Rt.pure (zM iD ?_);unfold arE posN;simp [*]
def I64s (xs:List Int):Prop:=(∀ x∈xs,I64n x)/\xs.length<=140737488355328
theorem sk27 {A B:Prop} (k:B) (h:Hd7 B->A:=by intro q7;(first|refine sb0 ?_|refine sb1 ?_|(refine' cp7x ?hc ?_;(case hc=>exact HA)));exact q7.1):A:=h ⟨k⟩
theorem bp5 (xs:List Int) (hx:I64s xs) (i n:Int):APure prog 35 [slI xs,iD i,iD n] (iD (atE xs i n)):=by
 have hxl:=hx.2;by_cases h0:i<0
 ·have HA:=True.intro;refine eP7 func35 ntmps35 fun BB=>?_
  repeat' first|refine sk27 ?_|intro b;conv=>whnf
  refine Rt.pure (zM iD ?_);unfold atE;rw [if_pos (.inl h0)]
 ·by_cases h1:i.toNat<xs.length
  ·obtain⟨a,ha⟩:∃ a,xs[i.toNat]?=some a:=⟨_,zD h1⟩
   have HA:=ab0 a n (hx.1 a (zG ha));refine eP7 func35 ntmps35 fun BB=>?_
   repeat' first|refine sk27 ?_|intro b;conv=>whnf
   refine Rt.pure (zM iD ?_);unfold atE;rw [if_neg (by omega)];simp [List.getD_eq_getElem?_getD,ha]
  ·have HA:=True.intro;refine eP7 func35 ntmps35 fun BB=>?_
   repeat' first|refine sk27 ?_|intro b;conv=>whnf
   refine Rt.pure (zM iD ?_);unfold atE;rw [if_pos (by omega)]
abbrev mkB (b:Nat) (xs:List Int) (pos:Int):Nat × Blk:=(b,.cells 81 [slI xs,iD pos])
abbrev ptr (b:Nat):D:=.v (.pointer (some ⟨b,0,none⟩))
theorem ACall.imp {P:Program} {f:FuncId} {args:List D} {σ:aa1} {R R':D->aa1->Prop} (h:ACall P f args σ R) (k:∀ d s,R d s->R' d s):ACall P f args σ R':=
 ⟨h.ent,fun w X vs hv hs=>(h.run w X vs hv hs).mono fun e w' ⟨u,d,s,g1,g2,g3⟩=>⟨u,d,s,g1,k d s g2,g3⟩⟩
theorem aa7 (xs:List Int) (hx:I64s xs) (bm:Nat) (pos n:Int) (hp:0<=pos/\pos<=1000000000):ACall prog 32 [ptr bm,iD n] [mkB bm xs pos] (fun d σ=>d=iD (atE xs pos n)/\σ=[mkB bm xs (pos+1)]):=by
 have HA:=bp5 xs hx (pos+1-1) n;refine eC7 func32 ntmps32 fun BB=>?_
 repeat' first|refine sk27 ?_|intro b;conv=>whnf
 refine Rt.same ⟨?_,rfl⟩;rw [show pos+1-1=pos by omega]
theorem ao4 (xs:List Int) (hx:I64s xs) (bm:Nat) (pos n:Int) (hp:0<=pos/\pos<=1000000000):ACall prog 32 [ptr bm,iD n] [mkB bm xs pos] (fun d σ=>∃ r,d=iD r/\(0<=r/\(1<=n->r<n))/\σ=[mkB bm xs (pos+1)]):=
 (aa7 xs hx bm pos n hp).imp fun d s ⟨h1,h2⟩=>⟨_,h1,ac8 xs pos n,h2⟩
end
section
open Go Go.Maps Go.MapKept
section
variable {P:Program} {r:Option Nat} {n:Nat} {df:Nat} {N:Nat} {σ τ:aa1} {ρ:Operand->D} {f:Frm} {L:List Oper} {k t e:TypeId} {F:Value->Option Value} {b:Nat} {kv z:Value} {kl:Lit}
theorem pA8 {o:Oper} {m key x:Operand} {xv:Value} {K:Frm->aa1->Prop} (ho:o.op = .insert t m key x) (hm:evF f m = .v (.map (some b))) (hd:KeyD (evF f key) kv) (hx:evF f x = .v xv) (hb:σ.Perm ((b,Blk.obj (MapO P k F))::τ))
  (KK:Keyed P k) (ht:P.underlying t=some (.map k e)) (hkey:keyOf P k kv=some kl) (kk:W (putK N o.dst (.v undef) f (fun f'=>K f' ((b,.obj (MapO P k (updF F kv xv)))::τ)))):OtE P r n df L N o f σ K:=by
 refine OtE.obj (by rw [ho];rfl) hb fun w fr X ob hη hob hok=>?_;obtain⟨es,c,nn,rfl,q3⟩:=hok;obtain⟨w',h1,⟨es',c',h2,h3⟩,h4⟩:=pA1 (v:=xv) (n:=nn) ⟨es,c,hob,q3⟩ KK ht hkey;refine⟨.v undef,undef,MapO P k (updF F kv xv),w',_,.inr ⟨?_,rfl,rfl⟩,fun _ _=>.v _,h4,h2,⟨es',c',_,rfl,h3⟩,kk.h⟩;have p1:=(hη m).val hm;have p2:=hd _ _ _ (hη key);have p3:=(hη x).val hx;simp only [execOp,ho,p1,p2,p3]
 show (do let _ ← Instr.mapUpdate t (.map (some b)) kv xv;pure Next.skip).run P w=_;simp only [Sem.run_bind,h1,Result.andThen,Sem.run_pure]
end
theorem bF8 {f:FuncId} (l:List Cnd) (p:Cnd->Bool) (hl:l.length<=1000000) (hp:∀ y∈l,APure prog f [cndD y] (bD (p y))):APure prog 204 [slC l,.v (.func (.func f) #[] #[])] (iD (idx p l)):=by
 refine eP7 func204 ntmps204 fun BB=>?_
 repeat' first|refine sk22 ?_|intro b;conv=>whnf
 refine ac6 mixed aa0 (γ:=Nat) (fun k=>[(8,iD k)]) (fun _=>[]) (fun k=>k<=l.length/\∀ i y,i<k->l[i]?=some y->p y=false) (fun k=>l.length-k) 0 rfl rfl ⟨by omega,by omega⟩ ?_;rintro k ⟨hk,hno⟩;by_cases hlt:k<l.length
 ·obtain⟨y,hy⟩:∃ y,l[(k:Int).toNat]?=some y:=⟨_,zD hlt⟩
  repeat' first|refine sk22 ?_|intro b;conv=>whnf|with_reducible refine Br.d (fun hc=>?_) (fun hc=>?_)|with_reducible refine Br.b (fun hc=>?_) (fun hc=>?_)
  ·refine Rt.pure (zM iD ?_);exact (ad3 hy ‹_› hno).symm
  ·exact⟨k+1,rfl,rfl,⟨by omega,fun i z hi hz=>by
    by_cases e:i=k
    ·subst e;rw [show ((i:Int)).toNat=i from rfl,hz] at hy;cases hy;assumption
    ·exact hno i z (by omega) hz⟩,by omega⟩
 ·repeat' first|refine sk22 ?_|intro b;conv=>whnf
  refine Rt.pure (zM iD ?_);exact (ai8 fun i y hy=>hno i y (by have:=(zE.1 hy).1;omega) hy).symm
theorem sk28 {A B:Prop} (k:B) (h:Hd7 B->A:=by intro q7;(first|refine sb0 ?_|refine sb1 ?_|(refine' cp7x ?hc ?_;(case hc=>exact bF8 l p hl hp)));exact q7.1):A:=h ⟨k⟩
theorem bS3 {f:FuncId} (l:List Cnd) (p:Cnd->Bool) (hl:l.length<=1000000) (hp:∀ y∈l,APure prog f [cndD y] (bD (p y))):APure prog 158 [slC l,.v (.func (.func f) #[] #[])] (bD (l.any p)):=by
 refine eP7 func158 ntmps158 fun BB=>?_
 repeat' first|refine sk28 ?_|intro b;conv=>whnf
 refine Rt.pure (zM bD ?_);exact al6 p l
theorem bX4 {f:FuncId} {c1 c2:List D} (l:List Cnd) (p:Cnd->Bool) (hl:l.length<=1000000) (hp:∀ y∈l,APure prog f [cndD y,.ro c1,.ro c2] (bD (p y))):APure prog 204 [slC l,.clo f [.ro c1,.ro c2]] (iD (idx p l)):=by
 refine eP7 func204 ntmps204 fun BB=>?_
 repeat' first|refine sk22 ?_|intro b;conv=>whnf
 refine ac6 mixed aa0 (γ:=Nat) (fun k=>[(8,iD k)]) (fun _=>[]) (fun k=>k<=l.length/\∀ i y,i<k->l[i]?=some y->p y=false) (fun k=>l.length-k) 0 rfl rfl ⟨by omega,by omega⟩ ?_;rintro k ⟨hk,hno⟩;by_cases hlt:k<l.length
 ·obtain⟨y,hy⟩:∃ y,l[(k:Int).toNat]?=some y:=⟨_,zD hlt⟩
  repeat' first|refine sk22 ?_|intro b;conv=>whnf|with_reducible refine Br.d (fun hc=>?_) (fun hc=>?_)|with_reducible refine Br.b (fun hc=>?_) (fun hc=>?_)
  ·refine Rt.pure (zM iD ?_);exact (ad3 hy ‹_› hno).symm
  ·exact⟨k+1,rfl,rfl,⟨by omega,fun i z hi hz=>by
    by_cases e:i=k
    ·subst e;rw [show ((i:Int)).toNat=i from rfl,hz] at hy;cases hy;assumption
    ·exact hno i z (by omega) hz⟩,by omega⟩
 ·repeat' first|refine sk22 ?_|intro b;conv=>whnf
  refine Rt.pure (zM iD ?_);exact (ai8 fun i y hy=>hno i y (by have:=(zE.1 hy).1;omega) hy).symm
theorem sk29 {A B:Prop} (k:B) (h:Hd7 B->A:=by intro q7;(first|refine sb0 ?_|refine sb1 ?_|(refine' cp7x ?hc ?_;(case hc=>exact bX4 l p hl hp)));exact q7.1):A:=h ⟨k⟩
theorem ch8 {f:FuncId} {c1 c2:List D} (l:List Cnd) (p:Cnd->Bool) (hl:l.length<=1000000) (hp:∀ y∈l,APure prog f [cndD y,.ro c1,.ro c2] (bD (p y))):APure prog 158 [slC l,.clo f [.ro c1,.ro c2]] (bD (l.any p)):=by
 refine eP7 func158 ntmps158 fun BB=>?_
 repeat' first|refine sk29 ?_|intro b;conv=>whnf
 refine Rt.pure (zM bD ?_);exact al6 p l
def CndS (c:Cnd):Prop:=I64n c.op/\c.path.length<=1000/\c.other.length<=1000
noncomputable def kidF:Value->Option Value:=updF (updF (updF (fun _=>none) (.int .i64 3) (.int .i64 1)) (.int .i64 4) (.int .i64 2)) (.int .i64 5) (.int .i64 2)
theorem bP1 (o:Int):((kidF (.int .i64 o)).getD (.int .i64 0)) = .int .i64 (az5 o):=by
 unfold kidF updF az5;simp only [Value.int.injEq,true_and];by_cases h5:o=5
 ·subst h5;rfl
 ·by_cases h4:o=4
  ·subst h4;rfl
  ·by_cases h3:o=3
   ·subst h3;rfl
   ·rw [if_neg h5,if_neg h4,if_neg h3,if_neg h3,if_neg (by omega)];rfl
theorem bK0 {α:Type} (l:List α) (p:α->Bool):(l.any fun a=>!p a)=!l.all p:=by rw [vJ,Bool.not_not]
theorem bb1 {α:Type} (l:List α):l.isEmpty=decide ((l.length:Int)=0):=by cases l<;>simp;omega
theorem bD6 (c:Cnd) (HI:APure prog 157 [cndD c] (bD (formedB c))):APure prog 202 [cndD c] (bD (!formedB c)):=by
 refine eP7 func202 ntmps202 fun BB=>?_
 repeat' first|refine sk26 ?_|intro b;conv=>whnf
 refine Rt.pure (zM bD ?_);rfl
theorem sk30 {A B:Prop} (k:B) (h:Hd7 B->A:=by intro q7;(first|refine sb0 ?_|refine sb1 ?_|(refine' cp7x ?hc ?_;(case hc=>first|exact HK|exact bp6 _ (by omega)|exact bp7 _)));exact q7.1):A:=h ⟨k⟩
theorem aZ7:∀ (m:Nat) (c:Cnd),c.size<=m->c.All CndS->APure prog 157 [cndD c] (bD (formedB c))
 | 0,c,h,_=>by rw [ai1] at h;omega
 | m+1,c,h,hA=>by
  have hk:=c.kids_len;have hF:=aw3 c;obtain⟨⟨ho1,ho2⟩,hp,hq⟩:=hA.one;have HK:APure prog 158 [slC c.kids,.v (.func (.func 202) #[] #[])] (bD (!c.kids.all formedB)):=bK0 c.kids formedB ▸ bS3 _ _ (by omega) fun y hy=>bD6 y (aZ7 m y (by have:=Cnd.kid_size hy;omega) (hA.kid hy));unfold cndD cndC;rw [am9 c];unfold aK5 at hF;have hkn:az5 c.op=if c.op=3 then 1 else if c.op=4\/c.op=5 then 2 else 0:=rfl
  refine eP7 func157 ntmps157 fun BB=>?_
  repeat' first|refine sk30 ?_|intro b;conv=>whnf
  refine OtE.makeMap (k:=3) rfl (fun bm=>?_)
  repeat' first|refine sk30 ?_|intro b;conv=>whnf
  (refine pA8 (k:=3) (e:=3) rfl rfl (KeyD.v _) rfl (zH _) as7 underlying305 (aH8 (wf64 (by decide) (by decide))) ?_)
  repeat' first|refine sk30 ?_|intro b;conv=>whnf
  (refine pA8 (k:=3) (e:=3) rfl rfl (KeyD.v _) rfl (zH _) as7 underlying305 (aH8 (wf64 (by decide) (by decide))) ?_)
  repeat' first|refine sk30 ?_|intro b;conv=>whnf
  (refine pA8 (k:=3) (e:=3) rfl rfl (KeyD.v _) rfl (zH _) as7 underlying305 (aH8 (wf64 (by decide) (by decide))) ?_)
  repeat' first|refine sk30 ?_|intro b;conv=>whnf
  refine OtE.yd rfl (aG6 (kv:=.int .i64 c.op) (u:=.int .i64 (az5 c.op)) rfl rfl (KeyD.v _) yN (fun _ h=>h) as7 underlying305 bK4 (aH8 (wf64 ho1 ho2)) (bP1 _)) ?_
  repeat' first|refine sk30 ?_|intro b;conv=>whnf|with_reducible refine Br.d (fun hc=>?_) (fun hc=>?_)|with_reducible refine Br.b (fun hc=>?_) (fun hc=>?_)
  all_goals (refine Rt.pure (zM bD ?_);rw [hF];clear hF hA HK;simp only [aK6,bb1,aa3];first|(simp [*];done)|(simp_all;done)|(simp [*];omega)|(simp_all;omega))
theorem sk31 {A B:Prop} (k:B) (h:Hd7 B->A:=by intro q7;(first|refine sb0 ?_|refine sb1 ?_|(refine' cp7x ?hc ?_;(case hc=>exact bD2 c.size c (zT _) hs)));exact q7.1):A:=h ⟨k⟩
theorem cc4 (c:Cnd) (hs:c.size<=1000000):APure prog 104 [cndD c] (bD (av7 c)):=by
 have hd:=aA4 hs;by_cases h1:c.size<=64
 ·have hN:av7 c=decide ((c.deep:Int)<=8):=by unfold av7;rw [yJ h1,Bool.true_and];exact decide_eq_decide.2 (by omega)
  refine eP7 func104 ntmps104 fun BB=>?_
  repeat' first|refine sk31 ?_|intro b;conv=>whnf
  refine Rt.pure (zM bD ?_);rw [hN]
 ·have hN:av7 c=false:=by unfold av7;rw [yE h1];rfl
  refine eP7 func104 ntmps104 fun BB=>?_
  repeat' first|refine sk31 ?_|intro b;conv=>whnf
  refine Rt.pure (zM bD ?_);rw [hN]
theorem sk32 {A B:Prop} (k:B) (h:Hd7 B->A:=by intro q7;(first|refine sb0 ?_|refine sb1 ?_|(refine' cp7x ?hc ?_;(case hc=>first|exact bp8 _|exact bp6 _ (by assumption)|exact aZ7 q.cond.size q.cond (zT _) hA)));exact q7.1):A:=h ⟨k⟩
theorem bD3 (q:Qry) (hl:q.path.length<=1000000) (hA:q.cond.All CndS):APure prog 105 [qryD q] (bD (as1 q)):=by
 unfold as1;refine eP7 func105 ntmps105 fun BB=>?_
 repeat' first|refine sk32 ?_|intro b;conv=>whnf|with_reducible refine Br.d (fun hc=>?_) (fun hc=>?_)|with_reducible refine Br.b (fun hc=>?_) (fun hc=>?_)
 all_goals (refine Rt.pure (zM bD ?_);simp only [bb1,aa3];clear hA;first|(simp [*];done)|(simp_all;done)|(simp [*];omega)|(simp_all;omega))
end
section
open Go
theorem br5 {f:FuncId} {cs:List D} (l:List Knd) (p:Knd->Bool) (hl:l.length<=1000000) (hp:∀ y∈l,APure prog f [kndD y,.ro cs] (bD (p y))):APure prog 108 [slK l,.clo f [.ro cs]] (iD (idx p l)):=by
 refine eP7 func108 ntmps108 fun BB=>?_
 repeat' first|refine sk22 ?_|intro b;conv=>whnf
 refine ac6 mixed aa0 (γ:=Nat) (fun k=>[(8,iD k)]) (fun _=>[]) (fun k=>k<=l.length/\∀ i y,i<k->l[i]?=some y->p y=false) (fun k=>l.length-k) 0 rfl rfl ⟨by omega,by omega⟩ ?_;rintro k ⟨hk,hno⟩;by_cases hlt:k<l.length
 ·obtain⟨y,hy⟩:∃ y,l[(k:Int).toNat]?=some y:=⟨_,zD hlt⟩
  repeat' first|refine sk22 ?_|intro b;conv=>whnf|with_reducible refine Br.d (fun hc=>?_) (fun hc=>?_)|with_reducible refine Br.b (fun hc=>?_) (fun hc=>?_)
  ·refine Rt.pure (zM iD ?_);exact (ad3 hy ‹_› hno).symm
  ·exact⟨k+1,rfl,rfl,⟨by omega,fun i z hi hz=>by
    by_cases e:i=k
    ·subst e;rw [show ((i:Int)).toNat=i from rfl,hz] at hy;cases hy;assumption
    ·exact hno i z (by omega) hz⟩,by omega⟩
 ·repeat' first|refine sk22 ?_|intro b;conv=>whnf
  refine Rt.pure (zM iD ?_);exact (ai8 fun i y hy=>hno i y (by have:=(zE.1 hy).1;omega) hy).symm
theorem sk33 {A B:Prop} (k:B) (h:Hd7 B->A:=by intro q7;(first|refine sb0 ?_|refine sb1 ?_|(refine' cp7x ?hc ?_;(case hc=>exact br5 l p hl hp)));exact q7.1):A:=h ⟨k⟩
theorem bX3 {f:FuncId} {cs:List D} (l:List Fld) (p:Fld->Bool) (hl:l.length<=1000000) (hp:∀ y∈l,APure prog f [fldD y,.ro cs] (bD (p y))):APure prog 165 [slF l,.clo f [.ro cs]] (iD (idx p l)):=by
 refine eP7 func165 ntmps165 fun BB=>?_
 repeat' first|refine sk22 ?_|intro b;conv=>whnf
 refine ac6 mixed aa0 (γ:=Nat) (fun k=>[(8,iD k)]) (fun _=>[]) (fun k=>k<=l.length/\∀ i y,i<k->l[i]?=some y->p y=false) (fun k=>l.length-k) 0 rfl rfl ⟨by omega,by omega⟩ ?_;rintro k ⟨hk,hno⟩;by_cases hlt:k<l.length
 ·obtain⟨y,hy⟩:∃ y,l[(k:Int).toNat]?=some y:=⟨_,zD hlt⟩
  repeat' first|refine sk22 ?_|intro b;conv=>whnf|with_reducible refine Br.d (fun hc=>?_) (fun hc=>?_)|with_reducible refine Br.b (fun hc=>?_) (fun hc=>?_)
  ·refine Rt.pure (zM iD ?_);exact (ad3 hy ‹_› hno).symm
  ·exact⟨k+1,rfl,rfl,⟨by omega,fun i z hi hz=>by
    by_cases e:i=k
    ·subst e;rw [show ((i:Int)).toNat=i from rfl,hz] at hy;cases hy;assumption
    ·exact hno i z (by omega) hz⟩,by omega⟩
 ·repeat' first|refine sk22 ?_|intro b;conv=>whnf
  refine Rt.pure (zM iD ?_);exact (ai8 fun i y hy=>hno i y (by have:=(zE.1 hy).1;omega) hy).symm
theorem bX1 {f:FuncId} {cs:List D} (l:List Lif) (p:Lif->Bool) (hl:l.length<=1000000) (hp:∀ y∈l,APure prog f [lifD y,.ro cs] (bD (p y))):APure prog 197 [slL l,.clo f [.ro cs]] (iD (idx p l)):=by
 refine eP7 func197 ntmps197 fun BB=>?_
 repeat' first|refine sk22 ?_|intro b;conv=>whnf
 refine ac6 mixed aa0 (γ:=Nat) (fun k=>[(8,iD k)]) (fun _=>[]) (fun k=>k<=l.length/\∀ i y,i<k->l[i]?=some y->p y=false) (fun k=>l.length-k) 0 rfl rfl ⟨by omega,by omega⟩ ?_;rintro k ⟨hk,hno⟩;by_cases hlt:k<l.length
 ·obtain⟨y,hy⟩:∃ y,l[(k:Int).toNat]?=some y:=⟨_,zD hlt⟩
  repeat' first|refine sk22 ?_|intro b;conv=>whnf|with_reducible refine Br.d (fun hc=>?_) (fun hc=>?_)|with_reducible refine Br.b (fun hc=>?_) (fun hc=>?_)
  ·refine Rt.pure (zM iD ?_);exact (ad3 hy ‹_› hno).symm
  ·exact⟨k+1,rfl,rfl,⟨by omega,fun i z hi hz=>by
    by_cases e:i=k
    ·subst e;rw [show ((i:Int)).toNat=i from rfl,hz] at hy;cases hy;assumption
    ·exact hno i z (by omega) hz⟩,by omega⟩
 ·repeat' first|refine sk22 ?_|intro b;conv=>whnf
  refine Rt.pure (zM iD ?_);exact (ai8 fun i y hy=>hno i y (by have:=(zE.1 hy).1;omega) hy).symm
theorem sk34 {A B:Prop} (k:B) (h:Hd7 B->A:=by intro q7;(first|refine sb0 ?_|refine sb1 ?_|(refine' cp7x ?hc ?_;(case hc=>exact bX1 l p hl hp)));exact q7.1):A:=h ⟨k⟩
theorem bm1 {f:FuncId} {cs:List D} (l:List Lif) (p:Lif->Bool) (hl:l.length<=1000000) (hp:∀ y∈l,APure prog f [lifD y,.ro cs] (bD (p y))):APure prog 145 [slL l,.clo f [.ro cs]] (bD (l.any p)):=by
 refine eP7 func145 ntmps145 fun BB=>?_
 repeat' first|refine sk34 ?_|intro b;conv=>whnf
 refine Rt.pure (zM bD ?_);exact al6 p l
theorem bW9 {f:FuncId} {cs:List D} (l:List Rul) (p:Rul->Bool) (hl:l.length<=1000000) (hp:∀ y∈l,APure prog f [rulD y,.ro cs] (bD (p y))):APure prog 237 [slR l,.clo f [.ro cs]] (iD (idx p l)):=by
 refine eP7 func237 ntmps237 fun BB=>?_
 repeat' first|refine sk22 ?_|intro b;conv=>whnf
 refine ac6 mixed aa0 (γ:=Nat) (fun k=>[(8,iD k)]) (fun _=>[]) (fun k=>k<=l.length/\∀ i y,i<k->l[i]?=some y->p y=false) (fun k=>l.length-k) 0 rfl rfl ⟨by omega,by omega⟩ ?_;rintro k ⟨hk,hno⟩;by_cases hlt:k<l.length
 ·obtain⟨y,hy⟩:∃ y,l[(k:Int).toNat]?=some y:=⟨_,zD hlt⟩
  repeat' first|refine sk22 ?_|intro b;conv=>whnf|with_reducible refine Br.d (fun hc=>?_) (fun hc=>?_)|with_reducible refine Br.b (fun hc=>?_) (fun hc=>?_)
  ·refine Rt.pure (zM iD ?_);exact (ad3 hy ‹_› hno).symm
  ·exact⟨k+1,rfl,rfl,⟨by omega,fun i z hi hz=>by
    by_cases e:i=k
    ·subst e;rw [show ((i:Int)).toNat=i from rfl,hz] at hy;cases hy;assumption
    ·exact hno i z (by omega) hz⟩,by omega⟩
 ·repeat' first|refine sk22 ?_|intro b;conv=>whnf
  refine Rt.pure (zM iD ?_);exact (ai8 fun i y hy=>hno i y (by have:=(zE.1 hy).1;omega) hy).symm
theorem sk35 {A B:Prop} (k:B) (h:Hd7 B->A:=by intro q7;(first|refine sb0 ?_|refine sb1 ?_|(refine' cp7x ?hc ?_;(case hc=>exact bW9 l p hl hp)));exact q7.1):A:=h ⟨k⟩
theorem bJ7 {f:FuncId} {cs:List D} (l:List Rul) (p:Rul->Bool) (hl:l.length<=1000000) (hp:∀ y∈l,APure prog f [rulD y,.ro cs] (bD (p y))):APure prog 198 [slR l,.clo f [.ro cs]] (bD (l.any p)):=by
 refine eP7 func198 ntmps198 fun BB=>?_
 repeat' first|refine sk35 ?_|intro b;conv=>whnf
 refine Rt.pure (zM bD ?_);exact al6 p l
end
section
open Go
theorem sk36 {A B:Prop} (k:B) (h:Hd7 B->A:=by intro q7;(first|refine sb0 ?_|refine sb1 ?_|(refine' cp7x ?hc ?_;(case hc=>first|exact ai7 _ _ (by assumption)|exact ag9 _ _ (by assumption))));exact q7.1):A:=h ⟨k⟩
theorem bd1 (fs:List Fld):APure prog 129 [slF fs] (bD (aU7 fs)):=by
 refine eP7 func129 ntmps129 fun BB=>?_
 cases fs with
 | nil=>
  repeat' first|refine sk36 ?_|intro b;conv=>whnf|with_reducible refine Br.d (fun hc=>?_) (fun hc=>?_)|with_reducible refine Br.b (fun hc=>?_) (fun hc=>?_)
  refine Rt.pure (zM bD ?_);rfl
 | cons f r=>
  repeat' first|refine sk36 ?_|intro b;conv=>whnf|with_reducible refine Br.d (fun hc=>?_) (fun hc=>?_)|with_reducible refine Br.b (fun hc=>?_) (fun hc=>?_)
  all_goals (refine Rt.pure (zM bD ?_);simp_all [aU7])
def prbC (p:Prb):List D:=[iD p.1,iD p.2.1,iD p.2.2.1,iD p.2.2.2]
theorem at0 (l:List Prb) (v:Value) (s:aa1) (k f r e:Int) (hr:RowIs 151 4 (l.map prbC) v s) (hl:l.length<=1000000) :
  ACall prog 128 [.v v,iD k,iD f,iD r,iD e] s (fun d s'=>∃ v',d = .v v'/\RowIs 151 4 ((l++one k f r e).map prbC) v' s'):=by
 refine eC7 func128 ntmps128 fun BB=>?_
 repeat' first|refine sk36 ?_|intro b;conv=>whnf|with_reducible refine Br.d (fun hc=>?_) (fun hc=>?_)|with_reducible refine Br.b (fun hc=>?_) (fun hc=>?_)
 ·refine Rt.same ⟨v,rfl,?_⟩;unfold one;rw [if_pos (by omega)];simpa using hr
 ·refine Ap.go rfl rfl rfl rfl hr (aw9 _) rfl (zs:=(l++one k f r e).map prbC) (by unfold one;rw [if_neg (by omega)];simp [prbC]) (by simp [one];split<;>simp<;>omega) (by simp [one];split<;>simp<;>omega) (fun s'=>s') at1 (fun a c s' hr=>?_)
  repeat' first|refine sk36 ?_|intro b;conv=>whnf
  exact Rt.same ⟨_,rfl,hr⟩
theorem aX9 {x:Sch} {i m:Nat} {r s:Rul} (hm:m<i) (hs:x.rules[m]?=some s) (h:seq s.name r.name=true):ah2 x i r=true:=by
 unfold ah2;rw [wC];exact⟨s,zG (i:=m) (by rw [yX,if_pos hm];exact hs),h⟩
theorem aJ0 {x:Sch} {i:Nat} {r:Rul} (h:∀ (m:Nat) y,m<i->x.rules[m]?=some y->seq y.name r.name=false):ah2 x i r=false:=by
 unfold ah2;rw [List.any_eq_false];intro s hs;obtain⟨m,hm⟩:=yO hs;rw [yX] at hm;split at hm
 ·rename_i hlt;simp [h m s hlt hm]
 ·cases hm
theorem bj2 {x:Sch} {i:Nat} {r:Rul} (h:ah2 x i r=true):aw7 x i r=7:=by
 unfold aw7;split<;>rw [h]<;>rfl
theorem bc5 {x:Sch} {i:Nat} {r:Rul} (h:ah2 x i r=false) (hk:af6 x (aa9 x r.kind)=none):aw7 x i r=12:=by
 simp only [aw7,hk,h];rfl
theorem bu5 {x:Sch} {i:Nat} {r:Rul} {k:Knd} (h:ah2 x i r=false) (hk:af6 x (aa9 x r.kind)=some k) :
  aw7 x i r=if ah5 x k (aa9 x r.kind) r.a=true\/ah5 x k (aa9 x r.kind) r.b=true then 12 else if ad7 x k (aa9 x r.kind) r.a=true\/ad7 x k (aa9 x r.kind) r.b=true then 13 else if seq r.a r.b=true then 1 else 0:=by
 simp only [aw7,hk,h]
 cases ah5 x k (aa9 x r.kind) r.a<;>cases ah5 x k (aa9 x r.kind) r.b<;>cases ad7 x k (aa9 x r.kind) r.a<;>cases ad7 x k (aa9 x r.kind) r.b<;>cases seq r.a r.b<;>rfl
theorem bb7 {x:Sch} {i j:Int} {k:Knd} {g:Fld} (h0:0<=i) (hk:x.kz[i.toNat]?=some k) (hj:0<=j) (hg:k.fields[j.toNat]?=some g):atR x i j=(g,true):=by
 unfold atR;rw [af8 h0 hj hk,hg]
theorem bt3 {x:Sch} {i j:Int} (hj:j<0):atR x i j=(aM4,false):=by
 unfold atR;rw [am5 (by omega)]
theorem nm_E (x:Sch) (k:Knd) (o:Int) {n:ByteArray} (h:(n.toList==({ data:=#[] }:ByteArray).toList)=true):ah5 x k o n=false/\ad7 x k o n=false:=by rw [eqE] at h;simp [ah5,ad7,h]
theorem co9 (x:Sch) (k:Knd) (o:Int) {n:ByteArray} (h:(n.toList==({ data:=#[] }:ByteArray).toList)=false) (hi:aa4 k n<0):ah5 x k o n=true:=by rw [eqE] at h;simp [ah5,h,bt3 hi]
theorem co8 {x:Sch} {k:Knd} {o:Int} {n:ByteArray} {g:Fld} (h:(n.toList==({ data:=#[] }:ByteArray).toList)=false) (h0:0<=o) (hk:x.kz[o.toNat]?=some k) (hj:0<=aa4 k n) (hg:k.fields[(aa4 k n).toNat]?=some g) :
  ah5 x k o n=false/\ad7 x k o n=(!decide (g.kind=2) && !decide (g.kind=4)):=by
 rw [eqE] at h;simp only [ah5,ad7,h,bb7 h0 hk hj hg];refine⟨rfl,?_⟩;by_cases h2:g.kind=2<;>by_cases h4:g.kind=4<;>simp [h2,h4]
def twoI (x:Sch) (k:Knd) (o:Int) (r:Rul) (g:Nat × Bool):Prop:=(g.1=0/\g.2=false)\/(g.1=1/\ah5 x k o r.a=false/\g.2=ad7 x k o r.a)\/(g.1=2/\ah5 x k o r.a=false/\ah5 x k o r.b=false/\g.2=(ad7 x k o r.a||ad7 x k o r.b))
theorem bc9 (x:Sch) (i:Nat) (r:Rul) (hl:x.kz.length<=1000000) (hf:∀ k∈x.kz,k.fields.length<=1000000) (hrl:x.rules.length<=1000000) (hr:x.rules[i]?=some r):APure prog 131 [schD x,iD i] (iD (aw7 x i r)):=by
 refine eP7 func131 ntmps131 fun BB=>?_
 repeat' first|refine sk36 ?_|intro b;conv=>whnf|refine IxM.mk fun y hy=>?_|with_reducible refine Br.d (fun hc=>?_) (fun hc=>?_)|with_reducible refine Br.b (fun hc=>?_) (fun hc=>?_)
 refine ac6 mixed aa0 (γ:=Nat) (fun q=>[(6,iD q)]) (fun _=>[(b,.cells 92 (rulC r))]) (fun q=>q<=i/\∀ (m:Nat) y,m<q->x.rules[m]?=some y->seq y.name r.name=false) (fun q=>i-q) 0 rfl rfl ⟨by omega,fun m y hm=>by omega⟩ ?_;rintro q ⟨hq,hno⟩;have hil:=(zE.1 hr).1;have hkl:=aP9 x r.kind
 repeat' first|refine sk36 ?_|intro b;conv=>whnf|refine IxM.mk fun y hy=>?_|with_reducible refine Br.d (fun hc=>?_) (fun hc=>?_)|with_reducible refine Br.b (fun hc=>?_) (fun hc=>?_)
 ·refine Rt.pure (zM iD ?_);exact (bj2 (aX9 (m:=q) (by omega) hy (by assumption))).symm
 ·exact⟨q+1,rfl,rfl,⟨by omega,fun m z hm hz=>by
   by_cases e:m=q
   ·subst e;rw [show ((m:Int)).toNat=m from rfl,hz] at hy;cases hy;assumption
   ·exact hno m z (by omega) hz⟩,by omega⟩
 ·obtain rfl:q=i:=by omega
  refine Rt.pure (zM iD ?_);exact (bc5 (aJ0 hno) (by unfold af6;rw [if_neg (by omega)])).symm
 ·obtain rfl:q=i:=by omega
  obtain⟨k,hk⟩:∃ k,x.kz[(aa9 x r.kind).toNat]?=some k:=⟨_,zD (by omega)⟩
  have hka:af6 x (aa9 x r.kind)=some k:=by unfold af6;rw [if_pos (by omega)];exact hk
  have hE:=bu5 (aJ0 hno) hka;have hfk:=hf k (zG hk);have hfa:=as8 k r.a;have hfb:=as8 k r.b;refine ac6 mixed aa0 (γ:=Nat × Bool) (fun g=>[(9,bD g.2),(10,iD g.1)]) (fun _=>[(b,.cells 92 (rulC r))]) (twoI x k (aa9 x r.kind) r) (fun g=>2-g.1) (0,false) rfl rfl (.inl ⟨rfl,rfl⟩) ?_;rintro⟨j,w⟩ (⟨rfl,rfl⟩|⟨rfl,ha,rfl⟩|⟨rfl,ha,hb,rfl⟩)
  ·repeat' first|refine sk36 ?_|intro b;conv=>whnf|refine IxM.mk fun y hy=>?_|with_reducible refine Br.d (fun hc=>?_) (fun hc=>?_)|with_reducible refine Br.b (fun hc=>?_) (fun hc=>?_)
   ·exact⟨(1,false),rfl,rfl,.inr (.inl ⟨rfl,(nm_E x k _ ‹_›).1,(nm_E x k _ ‹_›).2.symm⟩),by simp⟩
   ·refine Rt.pure (zM iD ?_);rw [hE,if_pos (.inl (co9 x k _ ‹_› (by omega)))]
   all_goals
    have hh:=co8 (x:=x) (k:=k) (o:=aa9 x r.kind) (n:=r.a) ‹_› (by omega) hk (by omega) hy
    first
    | exact⟨(1,!decide (y.kind=4)),rfl,rfl,.inr (.inl ⟨rfl,hh.1,by rw [hh.2];simp [*]⟩),by simp⟩
    | exact⟨(1,false),rfl,rfl,.inr (.inl ⟨rfl,hh.1,by rw [hh.2];simp [*]⟩),by simp⟩
  ·generalize hw:ad7 x k (aa9 x r.kind) r.a=w
   repeat' first|refine sk36 ?_|intro b;conv=>whnf|refine IxM.mk fun y hy=>?_|with_reducible refine Br.d (fun hc=>?_) (fun hc=>?_)|with_reducible refine Br.b (fun hc=>?_) (fun hc=>?_)
   ·exact⟨(2,w),rfl,rfl,.inr (.inr ⟨rfl,ha,(nm_E x k _ ‹_›).1,by rw [(nm_E x k _ (n:=r.b) ‹_›).2,hw];simp⟩),by simp⟩
   ·refine Rt.pure (zM iD ?_);rw [hE,if_pos (.inr (co9 x k _ ‹_› (by omega)))]
   all_goals
    have hh:=co8 (x:=x) (k:=k) (o:=aa9 x r.kind) (n:=r.b) ‹_› (by omega) hk (by omega) hy
    first
    | exact⟨(2,true),rfl,rfl,.inr (.inr ⟨rfl,ha,hh.1,by rw [hh.2,hw];simp [*]⟩),by simp⟩
    | exact⟨(2,!decide (y.kind=4)),rfl,rfl,.inr (.inr ⟨rfl,ha,hh.1,by rw [hh.2,hw];simp [*]⟩),by simp⟩
    | exact⟨(2,false),rfl,rfl,.inr (.inr ⟨rfl,ha,hh.1,by rw [hh.2,hw];simp [*]⟩),by simp⟩
  ·generalize hw:(ad7 x k (aa9 x r.kind) r.a||ad7 x k (aa9 x r.kind) r.b)=w;rw [if_neg (by simp [ha,hb])] at hE;simp only [← xO,hw] at hE
   repeat' first|refine sk36 ?_|intro b;conv=>whnf|refine IxM.mk fun y hy=>?_|with_reducible refine Br.d (fun hc=>?_) (fun hc=>?_)|with_reducible refine Br.b (fun hc=>?_) (fun hc=>?_)
   all_goals (refine Rt.pure (zM iD ?_);rw [hE];simp [*,seq])
end
section
open Go
theorem bn6 (y:Knd) (nm:ByteArray):APure prog 109 [kndD y,.ro [sD nm]] (bD (seq y.name nm)):=by
 refine eP7 func109 ntmps109 fun BB=>?_
 repeat' first|refine sk2 ?_|intro b;conv=>whnf
 refine Rt.pure (zM bD ?_);rfl
theorem bc1 (y:Fld) (nm:ByteArray):APure prog 166 [fldD y,.ro [sD nm]] (bD (seq y.name nm)):=by
 refine eP7 func166 ntmps166 fun BB=>?_
 repeat' first|refine sk2 ?_|intro b;conv=>whnf
 refine Rt.pure (zM bD ?_);rfl
theorem sk37 {A B:Prop} (k:B) (h:Hd7 B->A:=by intro q7;(first|refine sb0 ?_|refine sb1 ?_|(refine' cp7x ?hc ?_;(case hc=>exact br5 x.kz (fun y=>seq y.name nm) hl (fun y _=>bn6 y nm))));exact q7.1):A:=h ⟨k⟩
theorem aj7 (x:Sch) (nm:ByteArray) (hl:x.kz.length<=1000000):APure prog 60 [schD x,sD nm] (iD (aa9 x nm)):=by
 refine eP7 func60 ntmps60 fun BB=>?_
 repeat' first|refine sk37 ?_|intro b;conv=>whnf
 refine Rt.pure (zM iD ?_);rfl
theorem sk38 {A B:Prop} (k:B) (h:Hd7 B->A:=by intro q7;(first|refine sb0 ?_|refine sb1 ?_|(refine' cp7x ?hc ?_;(case hc=>exact bX3 k.fields (fun y=>seq y.name nm) hl (fun y _=>bc1 y nm))));exact q7.1):A:=h ⟨k⟩
theorem ah0 (k:Knd) (nm:ByteArray) (hl:k.fields.length<=1000000):APure prog 119 [kndD k,sD nm] (iD (aa4 k nm)):=by
 refine eP7 func119 ntmps119 fun BB=>?_
 repeat' first|refine sk38 ?_|intro b;conv=>whnf
 refine Rt.pure (zM iD ?_);rfl
theorem bi5 (x:Sch) (i j:Int):APure prog 150 [schD x,iD i,iD j] (.tup [fldD (atR x i j).1,bD (atR x i j).2]):=by
 refine eP7 func150 ntmps150 fun BB=>?_
 repeat' first|refine sk2 ?_|intro b;conv=>whnf|refine IxM.mk fun y hy=>?_|with_reducible refine Br.d (fun hc=>?_) (fun hc=>?_)|with_reducible refine Br.b (fun hc=>?_) (fun hc=>?_)
 all_goals first
  | (have hr:atR x i j=(aM4,false):=(by unfold atR;rw [am5 (by omega)]);rw [hr];exact Rt.vs (Vs.tup (VsL.cons ((Vs.le aF1).trans (Vs.drop (yV _))) (VsL.cons (Vs.refl _ _) (VsL.nil _)))))
  | (have hr:atR x i j=(aM4,false):=(by unfold atR;rw [af8 (by omega) (by omega) hy,List.getElem?_eq_none (by omega)]);rw [hr];exact Rt.vs (Vs.tup (VsL.cons ((Vs.le aF1).trans (Vs.drop (yV _))) (VsL.cons (Vs.refl _ _) (VsL.nil _)))))
  | (have hr:=bb7 (x:=x) (i:=i) (j:=j) (by omega) ‹x.kz[i.toNat]?=some _› (by omega) hy;rw [hr];exact Rt.vs (Vs.refl _ _))
theorem bJ2 {x:Sch} {i j:Int} {f:Fld} (h:fieldAt x i j=some f):atR x i j=(f,true):=by unfold atR;rw [h]
theorem bY5 {x:Sch} {i j:Int} (h:fieldAt x i j=none):atR x i j=(aM4,false):=by unfold atR;rw [h]
theorem sk39 {A B:Prop} (k:B) (h:Hd7 B->A:=by intro q7;(first|refine sb0 ?_|refine sb1 ?_|(refine' cp7x ?hc ?_;(case hc=>first|exact HA|exact aj7 _ _ (by assumption)|exact ah0 _ _ (by assumption))));exact q7.1):A:=h ⟨k⟩
theorem ck6 (x:Sch) (i j:Int) (f:Fld) (hl:x.kz.length<=1000000) (hfa:fieldAt x i j=some f) (hk:f.kind=1):APure prog 98 [schD x,iD i,iD j] (iD (refUp x i f)):=by
 have HA:=bi5 x i j;rw [bJ2 hfa] at HA;refine eP7 func98 ntmps98 fun BB=>?_
 repeat' first|refine sk39 ?_|intro b;conv=>whnf|with_reducible refine Br.d (fun hc=>?_) (fun hc=>?_)|with_reducible refine Br.b (fun hc=>?_) (fun hc=>?_)
 all_goals (refine Rt.pure (zM iD ?_);unfold refUp;first|rw [if_pos (by assumption)]|rw [if_neg (by assumption)])
theorem sk40 {A B:Prop} (k:B) (h:Hd7 B->A:=by intro q7;(first|refine sb0 ?_|refine sb1 ?_|(refine' cp7x ?hc ?_;(case hc=>first|exact HA|exact HB|exact HU|exact aj7 _ _ (by assumption)|exact ah0 _ _ (by assumption))));exact q7.1):A:=h ⟨k⟩
theorem ay8 (x:Sch) (i j:Int) (hl:x.kz.length<=1000000) (hf:∀ k∈x.kz,k.fields.length<=1000000):APure prog 98 [schD x,iD i,iD j] (iD (upIx x i j)):=by
 have HA:=bi5 x i j
 cases hfa:fieldAt x i j with
 | none=>
  rw [bY5 hfa] at HA;refine eP7 func98 ntmps98 fun BB=>?_
  repeat' first|refine sk40 ?_|intro b;conv=>whnf|with_reducible refine Br.d (fun hc=>?_) (fun hc=>?_)|with_reducible refine Br.b (fun hc=>?_) (fun hc=>?_)
  refine Rt.pure (zM iD ?_);simp [upIx,hfa]
 | some f=>
  rw [bJ2 hfa] at HA;obtain⟨h0,h1,k,hk,hkf⟩:=ak0 hfa;have hfk:=hf k (zG hk);have hka:af6 x i=some k:=by simp [af6,h0,hk]
  have hkl:=(zE.1 hk).1;have hU:=aW4 hfa hka;have HB:=bi5 x i (aa4 k f.up)
  cases hg:fieldAt x i (aa4 k f.up) with
  | none=>
   rw [bY5 hg] at HB;simp only [hg,aO8,aB8] at hU;refine eP7 func98 ntmps98 fun BB=>?_
   repeat' first|refine sk40 ?_|intro b;conv=>whnf|with_reducible refine Br.d (fun hc=>?_) (fun hc=>?_)|with_reducible refine Br.b (fun hc=>?_) (fun hc=>?_)
   all_goals (refine Rt.pure (zM iD ?_);rw [hU];unfold refUp;(repeat' split)<;>first|rfl|omega)
  | some g=>
   rw [bJ2 hg] at HB;simp only [hg,aO8] at hU;by_cases hg1:g.kind=1
   ·have HU:=ck6 x i (aa4 k f.up) g hl hg hg1;refine eP7 func98 ntmps98 fun BB=>?_
    repeat' first|refine sk40 ?_|intro b;conv=>whnf|with_reducible refine Br.d (fun hc=>?_) (fun hc=>?_)|with_reducible refine Br.b (fun hc=>?_) (fun hc=>?_)
    all_goals (refine Rt.pure (zM iD ?_);rw [hU];(repeat' split)<;>first|rfl|omega|(unfold refUp;(repeat' split)<;>first|rfl|omega)|(unfold aB8;simp only;unfold refUp;(repeat' split)<;>first|rfl|omega))
   ·refine eP7 func98 ntmps98 fun BB=>?_
    repeat' first|refine sk40 ?_|intro b;conv=>whnf|with_reducible refine Br.d (fun hc=>?_) (fun hc=>?_)|with_reducible refine Br.b (fun hc=>?_) (fun hc=>?_)
    all_goals (refine Rt.pure (zM iD ?_);rw [hU];(repeat' split)<;>first|rfl|omega|(unfold refUp;(repeat' split)<;>first|rfl|omega)|(unfold aB8;simp only;unfold refUp;(repeat' split)<;>first|rfl|omega))
end
section
open Go
theorem sk41 {A B:Prop} (k:B) (h:Hd7 B->A:=by intro q7;(first|refine sb0 ?_|refine sb1 ?_|(refine' cp7x ?hc ?_;(case hc=>first|exact aj7 _ _ (by assumption)|exact ay8 _ _ _ (by assumption) (by assumption))));exact q7.1):A:=h ⟨k⟩
theorem aS9 (x:Sch) (i:Int) (f:Fld) (hi:0<=i) (hl:x.kz.length<=1000000) (hf:∀ k∈x.kz,k.fields.length<=1000000):APure prog 209 [schD x,iD i,fldD f] (.tup [iD (au7 x i f).1,slI (au7 x i f).2]):=by
 refine eP7 func209 ntmps209 fun BB=>?_;have hkl:=aP9 x f.of;have hno:f.kind≠6\/aa9 x f.of<=i->au7 x i f=(-1,[]):=fun h=>by unfold au7;rw [aI8 h];rfl
 repeat' first|refine sk41 ?_|intro b;conv=>whnf|refine IxM.mk fun y hy=>?_|with_reducible refine Br.d (fun hc=>?_) (fun hc=>?_)|with_reducible refine Br.b (fun hc=>?_) (fun hc=>?_)
 ·rw [hno (by omega)];exact Rt.vs (Vs.tup (VsL.cons (Vs.refl _ _) (VsL.cons (bn0 _ _) (VsL.nil _))))
 ·obtain⟨ko,rfl⟩:∃ ko,ko=y:=⟨_,rfl⟩
  have hko:=hy;clear hy;have h6:f.kind=6:=by omega
  have hno':=aI9 (x:=x) (i:=i) h6 (by omega);obtain⟨o,ho⟩:=Int.eq_ofNat_of_zero_le (show 0<=aa9 x f.of by omega);rw [ho] at hko;have hko:x.kz[o]?=some ko:=hko;have hS:au7 x i f=((o:Int),al1 x o i f ko.fields ko.fields.length):=by
   unfold au7;rw [hno',aN5 x i f o ko ho hko,ho];rfl
  have hfk:=hf ko (zG hko);rw [ho];refine ac2 mixed aa0 (γ:=Nat × Value × aa1) (fun g=>[(9,.v g.2.1),(31,iD g.1)]) (fun g=>g.2.2) (fun g=>g.1<=ko.fields.length/\RowIs 3 1 (slN (al1 x o i f ko.fields g.1)) g.2.1 g.2.2) (fun g=>ko.fields.length-g.1) (0,.slice none 0 0,[]) rfl cl3 ⟨zW _,RowIs.nil _ _⟩ ?_;rintro⟨q,v,s⟩ ⟨hq,hrow⟩;simp only at hq hrow ⊢
  repeat' first|refine sk41 ?_|intro b;conv=>whnf|refine IxM.mk fun y hy=>?_|with_reducible refine Br.d (fun hc=>?_) (fun hc=>?_)|with_reducible refine Br.b (fun hc=>?_) (fun hc=>?_)
  ·have hsh:at4 x o i f y q=true:=by simp [at4,seq, *]
   have Hs:=as2 x o i f ko.fields q y hy;rw [hsh,if_pos rfl] at Hs;have hlen:=aI7 x o i f ko.fields (q+1);refine Ap.go rfl rfl rfl rfl hrow (bj7 _ _) rfl (zs:=slN (al1 x o i f ko.fields (q+1))) (by rw [Hs];simp only [slN,yB];rfl) (by simp [slN];omega) (by simp [slN];omega) (fun s'=>_::s') (aU3 _) (fun a c s' hr=>?_)
   repeat' first|refine sk41 ?_|intro b;conv=>whnf|refine IxM.mk fun y hy=>?_
   exact⟨(q+1,_,s'),rfl,List.Sublist.cons _ (xQ _),⟨by simp only;omega,hr⟩,by simp only;omega⟩
  iterate 3
   have hsh:at4 x o i f y q=false:=by simp [at4,seq, *]
   have Hs:=as2 x o i f ko.fields q y hy;rw [hsh,if_neg (by simp),zZ] at Hs;exact⟨(q+1,v,s),rfl,List.Sublist.cons _ (xQ _),⟨by simp only;omega,by simp only;rw [Hs];exact hrow⟩,by simp only;omega⟩
  ·obtain rfl:q=ko.fields.length:=by omega
   rw [hS];exact Rt.vs (Vs.tup (VsL.cons (Vs.refl _ _) (VsL.cons (Vs.row hrow (aw9 _)) (VsL.nil _))))
 ·rw [hno (by omega)];exact Rt.vs (Vs.tup (VsL.cons (Vs.refl _ _) (VsL.cons (bn0 _ _) (VsL.nil _))))
theorem sk42 {A B:Prop} (k:B) (h:Hd7 B->A:=by intro q7;(first|refine sb0 ?_|refine sb1 ?_|(refine' cp7x ?hc ?_;(case hc=>first|exact HA|exact HS)));exact q7.1):A:=h ⟨k⟩
end
section
open Go
theorem aW6 (fs:List (Bool × Int)) (hl:fs.length<=1000):APure prog 147 [.sl 2 (fs.map fun p=>[bD p.1,iD p.2])] (iD (ao7 fs)):=by
 refine eP7 func147 ntmps147 fun BB=>?_
 repeat' first|refine sk2 ?_|intro b;conv=>whnf|refine IxM.mk fun y hy=>?_
 refine ac2 mixed aa0 (γ:=Nat) (fun q=>[(7,iD q)]) (fun _=>[]) (fun q=>q<=fs.length/\∀ (m:Nat) y,m<q->fs[m]?=some y->y.1=false) (fun q=>fs.length-q) 0 rfl cl3 ⟨by omega,fun m y hm=>by omega⟩ ?_;rintro q ⟨hq,hno⟩
 repeat' first|refine sk2 ?_|intro b;conv=>whnf|refine IxM.mk fun y hy=>?_|with_reducible refine Br.d (fun hc=>?_) (fun hc=>?_)|with_reducible refine Br.b (fun hc=>?_) (fun hc=>?_)
 ·refine Rt.pure (zM iD ?_);exact (bH1 hno hy (by assumption)).symm
 ·exact⟨q+1,rfl,cl3,⟨by omega,fun m z hm hz=>by
   by_cases e:m=q
   ·subst e;rw [show ((m:Int)).toNat=m from rfl,hz] at hy;cases hy;assumption
   ·exact hno m z (by omega) hz⟩,by omega⟩
 ·refine Rt.pure (zM iD ?_);exact (bl4 (fun m y hy=>hno m y (by have:=(zE.1 hy).1;omega) hy)).symm
theorem ad9 (b:Bool) (c:Int):APure prog 147 [.sl 2 [[bD b,iD c]]] (iD (ao7 [(b,c)])):=aW6 [(b,c)] (by simp)
theorem ad8 (b:Bool) (c:Int) (b':Bool) (c':Int):APure prog 147 [.sl 2 [[bD b,iD c],[bD b',iD c']]] (iD (ao7 [(b,c),(b',c')])):=aW6 [(b,c),(b',c')] (by simp)
theorem aq8 (b1 b2 b3 b4:Bool) (c1 c2 c3 c4:Int):APure prog 147 [.sl 2 [[bD b1,iD c1],[bD b2,iD c2],[bD b3,iD c3],[bD b4,iD c4]]] (iD (ao7 [(b1,c1),(b2,c2),(b3,c3),(b4,c4)])):=aW6 [(b1,c1),(b2,c2),(b3,c3),(b4,c4)] (by simp)
def cm0 (x:Sch) (i j:Int) (f:Fld):List D:=[iD x.vz,slK x.kz,slL x.lz,slR x.rules,iD i,iD j,sD f.name,sD f.of,sD f.up,iD f.kind,iD f.lo,iD f.hi,slS f.words,slI f.wz]
abbrev aX1 (x:Sch) (i j:Int) (f:Fld):D:=.agg (cm0 x i j f)
theorem sk43 {A B:Prop} (k:B) (h:Hd7 B->A:=by intro q7;(first|refine sb0 ?_|refine sb1 ?_|(refine' cp7x ?hc ?_;(case hc=>exact ay8 x _ _ hl hf)));exact q7.1):A:=h ⟨k⟩
theorem aW5 (x:Sch) (i j:Int) (f:Fld) (hl:x.kz.length<=1000000) (hf:∀ k∈x.kz,k.fields.length<=1000000):APure prog 294 [aX1 x i j f] (bD (decide (upIx x i j<0))):=by
 refine eP7 func294 ntmps294 fun BB=>?_
 repeat' first|refine sk43 ?_|intro b;conv=>whnf
 refine Rt.pure (zM bD ?_);rfl
theorem sk44 {A B:Prop} (k:B) (h:Hd7 B->A:=by intro q7;(first|refine sb0 ?_|refine sb1 ?_|(refine' cp7x ?hc ?_;(case hc=>first|exact ay8 x _ _ hl hf|exact HA|exact ah0 _ _ (by assumption))));exact q7.1):A:=h ⟨k⟩
theorem bU4 (x:Sch) (i j:Int) (f:Fld) (hl:x.kz.length<=1000000) (hf:∀ k∈x.kz,k.fields.length<=1000000):APure prog 304 [aX1 x i j f] (.tup [fldD (topR x i j f).1,bD (topR x i j f).2]):=by
 have hul:=bz8 x i j;refine eP7 func304 ntmps304 fun BB=>?_;by_cases hu:upIx x i j<0
 ·have ht:topR x i j f=(aM4,false):=by unfold topR;rw [bA6 hu]
  repeat' first|refine sk44 ?_|intro b;conv=>whnf|with_reducible refine Br.d (fun hc=>?_) (fun hc=>?_)|with_reducible refine Br.b (fun hc=>?_) (fun hc=>?_)
  rw [ht];exact Rt.vs (Vs.tup (VsL.cons (Vs.le aF1) (VsL.cons (Vs.refl _ _) (VsL.nil _))))
 ·obtain⟨ko,hko⟩:∃ ko,x.kz[(upIx x i j).toNat]?=some ko:=⟨_,zD (by omega)⟩
  have hfk:=hf ko (zG hko);have htf:=bA7 (f:=f) hu hko;have HA:=bi5 x (upIx x i j) (aa4 ko f.of);have ht:topR x i j f=atR x (upIx x i j) (aa4 ko f.of):=by unfold topR atR;rw [htf]
  repeat' first|refine sk44 ?_|intro b;conv=>whnf|with_reducible refine Br.d (fun hc=>?_) (fun hc=>?_)|with_reducible refine Br.b (fun hc=>?_) (fun hc=>?_)
  rw [ht];exact Rt.vs (Vs.refl _ _)
end
section
open Go
theorem ar3 (b:Bool) (c:Int):ao7 [(b,c)]=if b=true then c else 0:=by cases b<;>rfl
theorem at7 (b b':Bool) (c c':Int):ao7 [(b,c),(b',c')]=if b=true then c else if b'=true then c' else 0:=by cases b<;>cases b'<;>rfl
theorem cq8 {x:Sch} {i j:Int} {f:Fld} (hk:f.kind=0):ac9 x i j f=if 0<j then 13 else 0:=by
 unfold ac9;by_cases h:0<j<;>simp [hk,h]
theorem cq7 {x:Sch} {i j:Int} {f:Fld} (hk:f.kind=1):ac9 x i j f=if upIx x i j<0 then 12 else 0:=by simp [ac9,hk]
theorem cq6 {x:Sch} {i j:Int} {f:Fld} (hk:f.kind=4):ac9 x i j f=dayE x i j f:=by simp [ac9,hk]
theorem cq5 {x:Sch} {i j:Int} {f:Fld} (hk:f.kind=5):ac9 x i j f=if x.lz.any (fun l=>seq l.name f.of) then 0 else 12:=by simp only [ac9,hk];simp
theorem cq4 {x:Sch} {i j:Int} {f:Fld} (hk:f.kind=6):ac9 x i j f=if (au7 x i f).1<0 then 12 else if (au7 x i f).2.length=1 then 0 else 11:=by simp [ac9,hk]
theorem cq3 {x:Sch} {i j:Int} {f:Fld} (hk:f.kind=7):ac9 x i j f=if upIx x i j<0 then 12 else if (abvR x i j f).1=6/\aa9 x (abvR x i j f).2.of=i then 0 else 13:=by simp [ac9,aR5,hk]
theorem cq2 {x:Sch} {i j:Int} {f:Fld} (hk:f.kind=8):ac9 x i j f=if upIx x i j<0 then 12 else if (abvR x i j f).1<0\/(abvR x i j f).1=0\/(abvR x i j f).1=1\/(abvR x i j f).1=6\/(abvR x i j f).1=7 then 13 else 0:=by simp [ac9,aR5,hk]
theorem sk45 {A B:Prop} (k:B) (h:Hd7 B->A:=by intro q7;(first|refine sb0 ?_|refine sb1 ?_|(refine' cp7x ?hc ?_;(case hc=>first|exact ad9 _ _|exact ad8 _ _ _ _)));exact q7.1):A:=h ⟨k⟩
theorem bA5 (x:Sch) (i j:Int) (f:Fld) (hk:f.kind=0):APure prog 297 [aX1 x i j f] (iD (ac9 x i j f)):=by
 refine eP7 func297 ntmps297 fun BB=>?_
 repeat' first|refine sk45 ?_|intro b;conv=>whnf
 refine Rt.pure (zM iD ?_);rw [ar3,cq8 hk];simp
theorem sk46 {A B:Prop} (k:B) (h:Hd7 B->A:=by intro q7;(first|refine sb0 ?_|refine sb1 ?_|(refine' cp7x ?hc ?_;(case hc=>first|exact ad9 _ _|exact ad8 _ _ _ _|exact aW5 x i j f hl hf)));exact q7.1):A:=h ⟨k⟩
theorem bA4 (x:Sch) (i j:Int) (f:Fld) (hl:x.kz.length<=1000000) (hf:∀ k∈x.kz,k.fields.length<=1000000) (hk:f.kind=1):APure prog 298 [aX1 x i j f] (iD (ac9 x i j f)):=by
 refine eP7 func298 ntmps298 fun BB=>?_
 repeat' first|refine sk46 ?_|intro b;conv=>whnf
 refine Rt.pure (zM iD ?_);rw [ar3,cq7 hk];simp
theorem sk47 {A B:Prop} (k:B) (h:Hd7 B->A:=by intro q7;(first|refine sb0 ?_|refine sb1 ?_|(refine' cp7x ?hc ?_;(case hc=>first|exact ad9 _ _|exact ad8 _ _ _ _|exact HA|exact ah0 _ _ (by assumption))));exact q7.1):A:=h ⟨k⟩
theorem bA3 (x:Sch) (i j:Int) (f:Fld) (hl:x.kz.length<=1000000) (hf:∀ k∈x.kz,k.fields.length<=1000000) (hfa:fieldAt x i j=some f) (hk:f.kind=4):APure prog 299 [aX1 x i j f] (iD (ac9 x i j f)):=by
 obtain⟨h0,h1,k,hk0,hkf⟩:=ak0 hfa;have hfk:=hf k (zG hk0);have hka:af6 x i=some k:=by simp [af6,h0,hk0]
 have hfl:=as8 k f.of;rw [cq6 hk];simp only [dayE,hka];have HA:=bi5 x i (aa4 k f.of);by_cases hn:aa4 k f.of<0
 ·rw [bt3 hn] at HA;refine eP7 func299 ntmps299 fun BB=>?_
  repeat' first|refine sk47 ?_|intro b;conv=>whnf|with_reducible refine Br.d (fun hc=>?_) (fun hc=>?_)|with_reducible refine Br.b (fun hc=>?_) (fun hc=>?_)
  all_goals (refine Rt.pure (zM iD ?_);rw [ar3,← eqE];generalize (f.of.toList==({ data:=#[] }:ByteArray).toList)=e at *;simp [*])
 ·obtain⟨g,hg⟩:∃ g,k.fields[(aa4 k f.of).toNat]?=some g:=⟨_,zD (by omega)⟩
  rw [bb7 h0 hk0 (by omega) hg] at HA;rw [hg];refine eP7 func299 ntmps299 fun BB=>?_
  repeat' first|refine sk47 ?_|intro b;conv=>whnf|with_reducible refine Br.d (fun hc=>?_) (fun hc=>?_)|with_reducible refine Br.b (fun hc=>?_) (fun hc=>?_)
  all_goals (refine Rt.pure (zM iD ?_);rw [ar3,← eqE];generalize (f.of.toList==({ data:=#[] }:ByteArray).toList)=e at *;simp [*])
theorem aT0 (x:Sch) (i j:Int) (f:Fld) (y:Lif):APure prog 301 [lifD y,.ro (cm0 x i j f)] (bD (seq y.name f.of)):=by
 refine eP7 func301 ntmps301 fun BB=>?_
 repeat' first|refine sk2 ?_|intro b;conv=>whnf
 refine Rt.pure (zM bD ?_);rfl
theorem sk48 {A B:Prop} (k:B) (h:Hd7 B->A:=by intro q7;(first|refine sb0 ?_|refine sb1 ?_|(refine' cp7x ?hc ?_;(case hc=>first|exact ad9 _ _|exact ad8 _ _ _ _|exact bm1 x.lz (fun y=>seq y.name f.of) hll (fun y _=>aT0 x i j f y))));exact q7.1):A:=h ⟨k⟩
theorem bA2 (x:Sch) (i j:Int) (f:Fld) (hll:x.lz.length<=1000000) (hk:f.kind=5):APure prog 300 [aX1 x i j f] (iD (ac9 x i j f)):=by
 refine eP7 func300 ntmps300 fun BB=>?_
 repeat' first|refine sk48 ?_|intro b;conv=>whnf
 refine Rt.pure (zM iD ?_);rw [ar3,cq5 hk]
 cases x.lz.any (fun l=>seq l.name f.of)<;>rfl
theorem sk49 {A B:Prop} (k:B) (h:Hd7 B->A:=by intro q7;(first|refine sb0 ?_|refine sb1 ?_|(refine' cp7x ?hc ?_;(case hc=>first|exact ad9 _ _|exact ad8 _ _ _ _|exact aS9 x i f h0 hl hf)));exact q7.1):A:=h ⟨k⟩
theorem bA1 (x:Sch) (i j:Int) (f:Fld) (h0:0<=i) (hl:x.kz.length<=1000000) (hf:∀ k∈x.kz,k.fields.length<=1000000) (hk:f.kind=6):APure prog 302 [aX1 x i j f] (iD (ac9 x i j f)):=by
 refine eP7 func302 ntmps302 fun BB=>?_
 repeat' first|refine sk49 ?_|intro b;conv=>whnf
 refine Rt.pure (zM iD ?_);rw [at7,cq4 hk];simp only [zL];by_cases h1:(au7 x i f).1<0<;>by_cases h2:(au7 x i f).2.length=1<;>simp [h1,h2]<;>omega
theorem bm3 {x:Sch} {i j:Int} {f:Fld}:(abvR x i j f).1=(if (topR x i j f).2=true then (topR x i j f).1.kind else -1)/\(abvR x i j f).2=(topR x i j f).1:=by
 unfold abvR topR;cases topF x i j f<;>simp
theorem ch1 {k u:Int} (B:Bool) (p:Bool) (h:0<=k/\k<=8) (hB:B=true↔(k=0\/k=1\/k=6\/k=7)) {_hp:p=decide (u<0)} :
  (if p=true then (12:Int) else if B=true then 13 else 0)=if u<0 then 12 else if (if true=true then k else -1)<0\/(if true=true then k else -1)=0\/(if true=true then k else -1)=1\/(if true=true then k else -1)=6\/(if true=true then k else -1)=7 then 13 else 0:=by
 subst _hp;simp only [if_true,zQ];by_cases hu:u<0
 ·rw [if_pos hu,if_pos hu]
 ·rw [if_neg hu,if_neg hu];by_cases hb:B=true
  ·rw [if_pos hb,if_pos (by have:=hB.1 hb;omega)]
  ·rw [if_neg hb,if_neg (by intro h';exact hb (hB.2 (by omega)))]
theorem sk50 {A B:Prop} (k:B) (h:Hd7 B->A:=by intro q7;(first|refine sb0 ?_|refine sb1 ?_|(refine' cp7x ?hc ?_;(case hc=>first|exact ad9 _ _|exact ad8 _ _ _ _|exact aW5 x i j f hl hf|exact HT|exact aj7 _ _ (by assumption))));exact q7.1):A:=h ⟨k⟩
theorem bA0 (x:Sch) (i j:Int) (f:Fld) (hl:x.kz.length<=1000000) (hf:∀ k∈x.kz,k.fields.length<=1000000) (hk:f.kind=7):APure prog 303 [aX1 x i j f] (iD (ac9 x i j f)):=by
 rw [cq3 hk,bm3.1,bm3.2];have HT:=bU4 x i j f hl hf;rcases ht:topR x i j f with ⟨g,b⟩
 rw [ht] at HT;simp only at HT ⊢;refine eP7 func303 ntmps303 fun BB=>?_
 cases b
 ·repeat' first|refine sk50 ?_|intro b;conv=>whnf|with_reducible refine Br.d (fun hc=>?_) (fun hc=>?_)|with_reducible refine Br.b (fun hc=>?_) (fun hc=>?_)
  all_goals (refine Rt.pure (zM iD ?_);rw [at7];simp [*])
 ·repeat' first|refine sk50 ?_|intro b;conv=>whnf|with_reducible refine Br.d (fun hc=>?_) (fun hc=>?_)|with_reducible refine Br.b (fun hc=>?_) (fun hc=>?_)
  all_goals (refine Rt.pure (zM iD ?_);rw [at7];simp [*])
def wG:=@Bool.false_eq_true
theorem bz9 (x:Sch) (i j:Int) (f:Fld) (hl:x.kz.length<=1000000) (hf:∀ k∈x.kz,k.fields.length<=1000000) (hg:∀ k∈x.kz,∀ g∈k.fields,0<=g.kind/\g.kind<=8) (hk:f.kind=8):APure prog 305 [aX1 x i j f] (iD (ac9 x i j f)):=by
 rw [cq2 hk,bm3.1];have HT:=bU4 x i j f hl hf;have hgk:(topR x i j f).2=true->0<=(topR x i j f).1.kind/\(topR x i j f).1.kind<=8:=by
  unfold topR
  cases ht:topF x i j f with
  | none=>intro h;cases h
  | some g=>
   intro _;unfold topF at ht;split at ht
   ·cases ht
   ·split at ht
    ·obtain⟨_,_,k',hk',hkf⟩:=ak0 ht;exact hg k' (zG hk') g (zG hkf)
    ·cases ht
 rcases ht:topR x i j f with ⟨g,b⟩
 rw [ht] at HT hgk;simp only at HT hgk ⊢;refine eP7 func305 ntmps305 fun BB=>?_
 cases b
 ·repeat' first|refine sk50 ?_|intro b;conv=>whnf|with_reducible refine Br.d (fun hc=>?_) (fun hc=>?_)|with_reducible refine Br.b (fun hc=>?_) (fun hc=>?_)
  all_goals (refine Rt.pure (zM iD ?_);rw [at7];simp [*])
 ·have hgk:=hgk rfl
  repeat' first|refine sk50 ?_|intro b;conv=>whnf|with_reducible refine Br.d (fun hc=>?_) (fun hc=>?_)|with_reducible refine Br.b (fun hc=>?_) (fun hc=>?_)
  all_goals (clear HT;refine Rt.pure (zM iD ?_);rw [at7];refine ch1 _ _ hgk ?_ (_hp:=rfl);first|(simp;omega)|(simp only [wG,false_iff];omega)|(simp only [true_iff];omega))
end
end Go.Proofs.YtlcfiilejnnlnaaGreatDoor
