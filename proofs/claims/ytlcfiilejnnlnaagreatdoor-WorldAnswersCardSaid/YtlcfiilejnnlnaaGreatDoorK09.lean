/- A part of the proof: Bl O2 Xg Hb Hc Qd Ua. -/
import Derived.Test.YtlcfiilejnnlnaaGreatDoorK08
import Derived.StringKeys
set_option maxRecDepth 100000
set_option maxHeartbeats 20000000
set_option linter.all false
namespace Go.Proofs.YtlcfiilejnnlnaaGreatDoor
open Tryz
section
open Go Go.RowKit Go.Shelf
section
variable {P:Program} {r:Option Nat} {n:Nat} {df:Nat} {N:Nat} {σ:aa1} {a:List D} {f:Frm} {T:TypeId->Option TI} {L:List Oper} {Q:Fst}
def cw7 (o:Oper):Bool:=match o.op with
 | .buildSlice _ (_+1) _=>true
 | _=>false
def ar7 (P:Program) (T:TypeId->Option TI) (r:Option Nat) (n:Nat) (df:Nat) (N:Nat) (L:List Oper) (k:Nat) (K:Frm->aa1->Prop) (f:Frm) (σ:aa1):Prop:=match L[k]? with
 | none=>False
 | some o=>match cw7 o with
  | false=>aC0 P T r n df N L k K f σ
  | true=>exG L (cutF (o.looksAt L.toArray) f) o fun go=>match go with
   | true=>OtE P r n df L N o (cutF (o.looksAt L.toArray) f) σ (fun f' σ'=>match o.dst with
    | none=>K f σ'
    | some i=>match ap4 f' i with
     | none=>False
     | some d=>bif Nat.blt i N then K ((i,d)::f) σ' else False)
   | false=>False
theorem ak8 (hT:∀ t i,T t=some i->tiOf P t=some i) {E:Nat->Bool} {k:Nat} {K:Frm->aa1->Prop} {G:List D->aa1->Prop} (hE:E k=true) (h:ar7 P T r n df N L k K f σ) (hs:Sp N a f)
  (hk:∀ f' σ' a',K f' σ'->Sp N a' f'->G a' σ'):gOp P r n df L.toArray E k G a σ:=by
 unfold ar7 at h;split at h
 ·exact h.elim
 ·rename_i o ho;split at h
  ·exact ar4 hT hE h hs hk
  ·have ho':L.toArray[k]?=some o:=by simpa using ho
   unfold gOp;rw [ho'];simp only [hE];obtain⟨go,hw,h1⟩:=aV2 h (hs.cut _)
   cases go with
   | false=>exact h1.elim
   | true=>
    refine h1.run [] _ _ (hs.cut _) hw (fun f' σ' a' h' hs'=>bt4 ⟨rfl,by rw [hs'.len,hs.len],?_⟩)
    cases hd:o.dst with
    | none=>
     rw [hd] at h';exact⟨.any,(fun i hi=>by cases hi),hk _ _ _ h' hs⟩
    | some i=>
     rw [hd] at h';simp only at h';split at h'
     ·exact h'.elim
     ·rename_i d hf';obtain⟨hi,h2⟩:=ag7 h';rw [wT] at hi;have hia:i<a'.length:=by rw [hs'.len];exact hi
      refine⟨a'[i],fun j hj _=>by cases hj;exact zD hia,hk _ _ _ h2 ?_⟩;refine⟨by simp [putD,hs.len],fun j d' hj=>?_⟩;simp only [ap4] at hj
      cases he:Nat.beq i j with
      | true=>
       rw [he] at hj;simp only [cond_true,xB] at hj;have:=yH he;subst this hj;rcases hs'.at_ i _ hf' with h3|h3
       ·exact .inl h3
       ·right;rw [zD hia] at h3;simp only [xB] at h3;simp [putD,hs.len,hi,h3]
      | false=>
       rw [he] at hj;have hne:i≠j:=fun e=>by subst e;simp at he
       rcases hs.at_ j d' hj with h1|h1
       ·exact .inl h1
       ·exact .inr (by simp [putD,xP,hne,h1])
theorem pA9 (hT:∀ t i,T t=some i->tiOf P t=some i) {o:Oper} {t e:TypeId} {ps:Array (Nat × Operand)} {i j:TI} {ag:Bool} {k by_ m:Nat} {out:List D} {K:Frm->aa1->Prop} (ho:o.op = .buildSlice t m ps) (ht:T t=some i) (hs:i.sl=some (e,ag,k,by_)) (he:T e=some j) (hz:j.zero.length=j.size) (hk:j.size=k) (hp:Nat.blt 0 k=true)
  (hm:Nat.ble (m*k) 1000=true) (h:aS3 (fun q=>some (q*k,k)) (aG3 j.zero k m) (ps.toList.map fun p=>(p.1,evF f p.2))=some out) (hl:(out.length==m*k)=true) (h0:m*k≠0)
  (kk:∀ b,W (putK N o.dst (.v (.slice (some ⟨b,0,none⟩) m m)) f (fun f'=>K f' ((b,.cells e out)::σ)))):OtE P r n df L N o f σ K:=by
 refine⟨fun rest Q a hsp hw hkk=>?_⟩;refine ah3 hw (by rw [ho];rfl) fun w X fr hst=>?_;obtain⟨dst,op,ty,pos,aft,g⟩:=o;simp only at ho;subst ho;have hη:∀ x,Rd w (Own σ X) (evF f x) (fr.eval x):=fun x=>hsp.le x _ _ _ (hst.fr.eval x);have hp':0<k:=by simpa [wT] using hp
 have hm':m*k<=1000:=by simpa [vL] using hm
 have hl':out.length=m*k:=by simpa using hl
 obtain⟨hu,hsz,_⟩:=al0 (hT t i ht) hs;have hsz':=(aq0 hsz w).2;obtain⟨z,g1,g2⟩:=aw5 (hT e j he) hz (by omega) w;have hzl:z.cells.size=k:=by have:=zM List.length g2;simpa [hz,hk] using this
 have hzr:RdL w (Own σ X) (aG3 j.zero k m) ((Array.range (m*k)).map (z.cells[· % z.cells.size]!)).toList:=by
  refine⟨by simp [aG3],fun q d u h1 h2=>?_⟩;have hq:q<m*k:=by simpa [aG3] using (zE.1 h1).1
  simp only [aG3,zP,xV hq,Option.map_some,xB] at h1;simp [hq,hzl] at h2;subst h1 h2;have hmod:q%k<k:=vM _ hp';have:z.cells[q%k]! = zv (j.zero.getD (q%k) .bool):=by
   have h3:z.cells.toList[q%k]?=(j.zero.map zv)[q%k]?:=by rw [g2]
   have h4:q%k<j.zero.length:=by omega
   simp [h4,hzl,hmod] at h3;simp [hzl,hmod,h4];exact h3
  rw [this];exact .v _
 obtain⟨arr,k1,k2⟩:=ba9 ps.toList fr.eval _ _ out (fun p hm=>hη p.2) hzr h;have hrun:(Instr.buildSlice t m (ps.map fun p=>(p.1,fr.eval p.2))).run P w = .ok (.slice (some ⟨w.heap.size,0,none⟩) m m) (w.alloc (.cells arr e)):=by
  have h24:¬ m*k > 2 ^ 24:=by omega
  have h0':¬ (m=0\/k=0):=fun h=>h0 (Nat.mul_eq_zero.2 h);simp only [Instr.buildSlice,Sem.run_bind,run_underlying hu,hsz',Result.andThen,if_neg h24,if_neg h0',if_neg h0,g1,Sem.run_pure,Array.toList_map,k1,newRow,newObj,Sem.run]
  rfl
 have e0:(execOp fr.eval ⟨dst,.buildSlice t m ps,ty,pos,aft,g⟩).run P w = .ok (.value (.slice (some ⟨w.heap.size,0,none⟩) m m)) (w.alloc (.cells arr e)):=by
  have e:(execOp fr.eval ⟨dst,.buildSlice t m ps,ty,pos,aft,g⟩)=(do pure (Next.value (← Instr.buildSlice t m (ps.map fun p=>(p.1,fr.eval p.2)))):Sem Next):=by
   unfold execOp
   rfl
  rw [e];simp only [Sem.run_bind,hrun,Result.andThen,Sem.run_pure]
 rw [e0];obtain⟨q1,q2,q3⟩:=hst.st.new (.cells arr e) (.cells e out) ⟨arr.toList,by rw [Array.toArray_toList],k2⟩;obtain⟨f',hs',h4⟩:=ae5 (kk w.heap.size).h hsp;exact⟨_,_,q2,(hst.mv q2 q1).put (.v _) dst,hkk _ _ _ h4 hs'⟩
end
end
section
open Go Go.RowKit Go.Shelf
section
variable {P:Program} {r:Option Nat} {n:Nat} {df:Nat} {ops:Array Oper} {Q:Pst} {a:List D} {σ:aa1} {md:Region.Mode}
def inE (l:List Nat) (i:Nat):Bool:=l.any (Nat.beq i)
inductive Or2 where
 | done
 | one (i:Nat) (t:Or2)
 | two (i:Nat) (t:Or2) (j:Nat) (u:Or2)
 | three (i:Nat) (t:Or2) (j:Nat) (u:Or2) (k:Nat) (v:Or2)
 | four (i:Nat) (t:Or2) (j:Nat) (u:Or2) (k:Nat) (v:Or2) (l:Nat) (w:Or2)
 | fst (i:Nat) (t:Or2)
def or2B (md:Region.Mode) (ops:Array Oper) (E:Nat->Bool):Nat->Or2->Array Bool->Bool
 | 0,.done,listed=>(Region.ready md ops listed).isEmpty
 | f+1,.one i t,listed=>decide (Region.ready md ops listed=[i])&&(E i&&or2B md ops E f t (listed.setIfInBounds i true))
 | f+1,.two i t j u,listed=>decide (Region.ready md ops listed=[i,j])&&(E i&&E j&&(or2B md ops E f t (listed.setIfInBounds i true)&&or2B md ops E f u (listed.setIfInBounds j true)))
 | f+1,.three i t j u k v,listed=>decide (Region.ready md ops listed=[i,j,k])&&(E i&&E j&&E k&&(or2B md ops E f t (listed.setIfInBounds i true)&&(or2B md ops E f u (listed.setIfInBounds j true)&&or2B md ops E f v (listed.setIfInBounds k true))))
 | f+1,.four i t j u k v l w,listed=>decide (Region.ready md ops listed=[i,j,k,l])&&(E i&&E j&&E k&&E l&&(or2B md ops E f t (listed.setIfInBounds i true)&&(or2B md ops E f u (listed.setIfInBounds j true)&&(or2B md ops E f v (listed.setIfInBounds k true)&&or2B md ops E f w (listed.setIfInBounds l true)))))
 | f+1,.fst i t,listed=>(Region.ready md ops listed).contains i&&Region.free md ops listed i && !E i&&or2B md ops E f t (listed.setIfInBounds i true)
 | _,_,_=>false
def gOr2 (P:Program) (r:Option Nat) (n:Nat) (df:Nat) (ops:Array Oper) (E:Nat->Bool) (L:List D->aa1->Prop):Or2->List D->aa1->Prop
 | .done,a,σ=>L a σ
 | .one i t,a,σ=>gOp P r n df ops E i (gOr2 P r n df ops E L t) a σ
 | .two i t j u,a,σ=>gOp P r n df ops E i (gOr2 P r n df ops E L t) a σ/\gOp P r n df ops E j (gOr2 P r n df ops E L u) a σ
 | .three i t j u k v,a,σ=>gOp P r n df ops E i (gOr2 P r n df ops E L t) a σ/\gOp P r n df ops E j (gOr2 P r n df ops E L u) a σ/\gOp P r n df ops E k (gOr2 P r n df ops E L v) a σ
 | .four i t j u k v l w,a,σ=>gOp P r n df ops E i (gOr2 P r n df ops E L t) a σ/\gOp P r n df ops E j (gOr2 P r n df ops E L u) a σ/\gOp P r n df ops E k (gOr2 P r n df ops E L v) a σ/\gOp P r n df ops E l (gOr2 P r n df ops E L w) a σ
 | .fst i t,a,σ=>∃ o d,ops[i]?=some o/\YsIn none P ops [] o d a/\gOr2 P r n df ops E L t (putD a o.dst d) σ
theorem ag6 {E:Nat->Bool} {L:List D->aa1->Prop}:∀ (f:Nat) (t:Or2) (listed:Array Bool) (a:List D) (σ:aa1),HeadInv md ops ops.size listed->or2B md ops E f t listed=true->gOr2 P r n df ops E L t a σ->gAny P r n df md ops E L f listed a σ
 | 0,.done,listed,a,σ,_,hB,h=>⟨by simpa [or2B] using hB,h⟩
 | f+1,.one i t,listed,a,σ,inv,hB,h=>by
  simp only [or2B,zJ,zQ] at hB;refine⟨fun h1=>(by rw [hB.1] at h1;cases h1),fun k hk=>?_⟩;have hk2:=hk;rw [hB.1] at hk;have:k=i:=by simpa using hk
  subst this;obtain⟨_,o,ho,_⟩:=mem_ready.1 hk2;exact ac1 (fun a' σ' h'=>ag6 f t _ a' σ' (inv.set hk2 (zX.1 ho).1) hB.2.2 h') h
 | f+1,.two i t j u,listed,a,σ,inv,hB,h=>by
  simp only [or2B,zJ,zQ] at hB;refine⟨fun h1=>(by rw [hB.1] at h1;cases h1),fun k hk=>?_⟩;have hk2:=hk;rw [hB.1] at hk;obtain⟨_,o,ho,_⟩:=mem_ready.1 hk2;have inv':=inv.set hk2 (zX.1 ho).1;have:k=i\/k=j:=by simpa using hk
  rcases this with rfl|rfl
  ·exact ac1 (fun a' σ' h'=>ag6 f t _ a' σ' inv' hB.2.2.1 h') h.1
  ·exact ac1 (fun a' σ' h'=>ag6 f u _ a' σ' inv' hB.2.2.2 h') h.2
 | f+1,.three i t j u l v,listed,a,σ,inv,hB,h=>by
  simp only [or2B,zJ,zQ] at hB;refine⟨fun h1=>(by rw [hB.1] at h1;cases h1),fun k hk=>?_⟩;have hk2:=hk;rw [hB.1] at hk;obtain⟨_,o,ho,_⟩:=mem_ready.1 hk2;have inv':=inv.set hk2 (zX.1 ho).1;have:k=i\/k=j\/k=l:=by simpa using hk
  rcases this with rfl|rfl|rfl
  ·exact ac1 (fun a' σ' h'=>ag6 f t _ a' σ' inv' hB.2.2.1 h') h.1
  ·exact ac1 (fun a' σ' h'=>ag6 f u _ a' σ' inv' hB.2.2.2.1 h') h.2.1
  ·exact ac1 (fun a' σ' h'=>ag6 f v _ a' σ' inv' hB.2.2.2.2 h') h.2.2
 | f+1,.four i t j u l v m w,listed,a,σ,inv,hB,h=>by
  simp only [or2B,zJ,zQ] at hB;refine⟨fun h1=>(by rw [hB.1] at h1;cases h1),fun k hk=>?_⟩;have hk2:=hk;rw [hB.1] at hk;obtain⟨_,o,ho,_⟩:=mem_ready.1 hk2;have inv':=inv.set hk2 (zX.1 ho).1;have:k=i\/k=j\/k=l\/k=m:=by simpa using hk
  rcases this with rfl|rfl|rfl|rfl
  ·exact ac1 (fun a' σ' h'=>ag6 f t _ a' σ' inv' hB.2.2.1 h') h.1
  ·exact ac1 (fun a' σ' h'=>ag6 f u _ a' σ' inv' hB.2.2.2.1 h') h.2.1
  ·exact ac1 (fun a' σ' h'=>ag6 f v _ a' σ' inv' hB.2.2.2.2.1 h') h.2.2.1
  ·exact ac1 (fun a' σ' h'=>ag6 f w _ a' σ' inv' hB.2.2.2.2.2 h') h.2.2.2
 | f+1,.fst i t,listed,a,σ,inv,hB,h=>by
  simp only [or2B,zJ,xJ] at hB;obtain⟨⟨⟨hr,hf⟩,hE⟩,hB'⟩:=hB;obtain⟨o,d,ho,hy,hk⟩:=h;have hr':i∈Region.ready md ops listed:=by simpa using hr
  have hin:i<ops.size:=(zX.1 ho).1;have H:=ag6 f t _ _ _ (inv.set hr' hin) hB' hk;exact aq4 (S:=fun _=>True) ho hE (fun _ _ _ _ _ _ _=>trivial) f listed a σ inv (Region.free_spec ho hf) hr' trivial (fun s _=>hy.free s) H
 | 0,.one _ _,_,_,_,_,hB,_=>by cases hB
 | 0,.three _ _ _ _ _ _,_,_,_,_,hB,_=>by cases hB
 | 0,.four _ _ _ _ _ _ _ _,_,_,_,_,hB,_=>by cases hB
 | 0,.two _ _ _ _,_,_,_,_,hB,_=>by cases hB
 | 0,.fst _ _,_,_,_,_,hB,_=>by cases hB
 | _+1,.done,_,_,_,_,hB,_=>by cases hB
def bE8 (md:Region.Mode) (ops:Array Oper) (E:Nat->Bool) (f:Nat) (t:Or2):List Nat->Array Bool->Bool
 | [],listed=>or2B md ops E f t listed
 | i::hs,listed=>(Region.ready md ops listed).contains i&&Region.free md ops listed i && !E i&&bE8 md ops E f t hs (listed.setIfInBounds i true)
theorem aJ7 {E:Nat->Bool} {L:List D->aa1->Prop} {f:Nat} {t:Or2}:∀ (hs:List Nat) (listed:Array Bool) (a:List D) (σ:aa1),HeadInv md ops ops.size listed->bE8 md ops E f t hs listed=true ->
  gLex P md ops E (gOr2 P r n df ops E L t) hs a σ->gAny P r n df md ops E L (hs.length+f) listed a σ
 | [],listed,a,σ,inv,hB,h=>by
  rw [show ([]:List Nat).length+f=f by simp];exact ag6 f t listed a σ inv hB h
 | i::hs,listed,a,σ,inv,hB,h=>by
  simp only [bE8,zJ,xJ] at hB;obtain⟨⟨⟨hr,hf⟩,hE⟩,hB'⟩:=hB;obtain⟨o,d,ho,hy,hk⟩:=h;have hr':i∈Region.ready md ops listed:=by simpa using hr
  have hin:i<ops.size:=(zX.1 ho).1;have H:=aJ7 hs _ _ _ (inv.set hr' hin) hB' hk;rw [show (i::hs).length+f=(hs.length+f)+1 by simp;omega];rcases hy with ⟨hb,hy⟩|hy
  ·exact aq4 (S:=fun s=>s=σ) ho hE (fun ls i1 i2 j hj e=>by rw [bl9 hb ls i1 i2 j hj] at e;cases e) _ listed a σ inv (Region.free_spec ho hf) hr' rfl (fun s e=>by subst e;exact hy) H
  ·exact aq4 (S:=fun _=>True) ho hE (fun _ _ _ _ _ _ _=>trivial) _ listed a σ inv (Region.free_spec ho hf) hr' trivial (fun s _=>hy.free s) H
theorem bh2 {id:Nat} {l:List Oper} (E:Nat->Bool) (hs:List Nat) (f:Nat) (t:Or2) (hm:P.follows .mixedOrders=true) (hl:hs.length+f=l.length) (hB:bE8 .any l.toArray E f t hs (Array.replicate l.length false)=true)
  (h:gLex P .any l.toArray E (gOr2 P r n df l.toArray E (fun a σ=>Q .normal a σ) t) hs a σ):AWP P r n df (.region id l.toArray true) Q a σ:=by
 refine⟨fun w X fr hst=>?_⟩;have inv0:HeadInv .any l.toArray l.toArray.size (Array.replicate l.length false):=
  ⟨by simp,fun j oj _ hl=>(by rw [getD_replicate_false] at hl;cases hl),fun t ht ht'=>by omega⟩
 refine wpIn_region_any hm ?_;have hx0:=aB1 w;have:=an7 (w0:=w) (σ0:=σ) (X:=X) _ _ _ _ fr { w with drawn:=w.drawn+1 } (pA2 hx0) (hst.ex hx0) (aJ7 hs _ a σ inv0 hB h);rw [hl] at this;have e:l.toArray.size=l.length:=by simp
 rw [e];exact this
theorem ak4 {E:Nat->Bool} {L L':List D->aa1->Prop} (h:∀ a σ,L a σ->L' a σ):∀ {t:Or2} {a:List D} {σ:aa1},gOr2 P r n df ops E L t a σ->gOr2 P r n df ops E L' t a σ
 | .done,_,_,hh=>h _ _ hh
 | .one _ _,_,_,hh=>ac1 (fun _ _=>ak4 h) hh
 | .two _ _ _ _,_,_,hh=>⟨ac1 (fun _ _=>ak4 h) hh.1,ac1 (fun _ _=>ak4 h) hh.2⟩
 | .three _ _ _ _ _ _,_,_,hh=>⟨ac1 (fun _ _=>ak4 h) hh.1,ac1 (fun _ _=>ak4 h) hh.2.1,ac1 (fun _ _=>ak4 h) hh.2.2⟩
 | .four _ _ _ _ _ _ _ _,_,_,hh=>⟨ac1 (fun _ _=>ak4 h) hh.1,ac1 (fun _ _=>ak4 h) hh.2.1,ac1 (fun _ _=>ak4 h) hh.2.2.1,ac1 (fun _ _=>ak4 h) hh.2.2.2⟩
 | .fst _ _,_,_,hh=>let ⟨o,d,h1,h2,h3⟩:=hh;⟨o,d,h1,h2,ak4 h h3⟩
end
section
variable {P:Program} {r:Option Nat} {n:Nat} {df:Nat} {N:Nat} {σ:aa1} {a:List D} {f:Frm} {T:TypeId->Option TI} {L:List Oper} {Q:Fst}
def cg8 (P:Program) (T:TypeId->Option TI) (N:Nat) (L:List Oper) (i:Nat) (K:Frm->Prop) (f:Frm):Prop:=match L[i]? with
 | none=>False
 | some o=>exG L f o fun go=>match go with
  | true=>bif aj0 o.op then exY P T o f [] (fun d=>putK N o.dst d f K) else False
  | false=>putK N o.dst (.v undef) f K
def aF9 (P:Program) (T:TypeId->Option TI) (r:Option Nat) (n:Nat) (df:Nat) (N:Nat) (L:List Oper) (K:Frm->aa1->Prop):Or2->Frm->aa1->Prop
 | .done,f,σ=>K f σ
 | .one i t,f,σ=>ar7 P T r n df N L i (aF9 P T r n df N L K t) f σ
 | .two i t j u,f,σ=>ar7 P T r n df N L i (aF9 P T r n df N L K t) f σ/\ar7 P T r n df N L j (aF9 P T r n df N L K u) f σ
 | .three i t j u k v,f,σ=>ar7 P T r n df N L i (aF9 P T r n df N L K t) f σ/\ar7 P T r n df N L j (aF9 P T r n df N L K u) f σ/\ar7 P T r n df N L k (aF9 P T r n df N L K v) f σ
 | .four i t j u k v l w,f,σ=>ar7 P T r n df N L i (aF9 P T r n df N L K t) f σ/\ar7 P T r n df N L j (aF9 P T r n df N L K u) f σ/\ar7 P T r n df N L k (aF9 P T r n df N L K v) f σ/\ar7 P T r n df N L l (aF9 P T r n df N L K w) f σ
 | .fst i t,f,σ=>cg8 P T N L i (fun f'=>aF9 P T r n df N L K t f' σ) f
theorem bQ8 (hT:∀ t i,T t=some i->tiOf P t=some i) {i:Nat} {K:Frm->Prop} (h:cg8 P T N L i K f) (hs:Sp N a f):∃ o d,L.toArray[i]?=some o/\YsIn none P L.toArray [] o d a/\∃ f',Sp N (putD a o.dst d) f'/\K f':=by
 unfold cg8 at h;split at h
 ·exact h.elim
 ·rename_i o ho;have ho':L.toArray[i]?=some o:=by simpa using ho
  obtain⟨go,hw,h1⟩:=aV2 (K:=fun go=>match go with
   | true=>bif aj0 o.op then exY P T o f [] (fun d=>putK N o.dst d f K) else False
   | false=>putK N o.dst (.v undef) f K) h hs
  cases go with
  | true=>
   obtain⟨hn,h2⟩:=ag7 h1;obtain⟨d,hy,h3⟩:=aV1 hT h2;obtain⟨f',hs',h4⟩:=ae5 h3 hs;exact⟨o,d,ho',.inl ⟨hw,hn,.of (hy.le hs.le)⟩,f',hs',h4⟩
  | false=>
   obtain⟨f',hs',h4⟩:=ae5 h1 hs;exact⟨o,_,ho',.inr ⟨hw,rfl⟩,f',hs',h4⟩
def ap8 (p:Nat->Bool):Or2->Bool
 | .done=>true
 | .one i t=>p i&&ap8 p t
 | .two i t j u=>p i&&(ap8 p t&&(p j&&ap8 p u))
 | .three i t j u k v=>p i&&(ap8 p t&&(p j&&(ap8 p u&&(p k&&ap8 p v))))
 | .four i t j u k v l w=>p i&&(ap8 p t&&(p j&&(ap8 p u&&(p k&&(ap8 p v&&(p l&&ap8 p w))))))
 | .fst _ t=>ap8 p t
theorem an1 (hT:∀ t i,T t=some i->tiOf P t=some i) {E:Nat->Bool}:∀ {t:Or2} {K:Frm->aa1->Prop} {f:Frm} {σ:aa1} {a:List D},ap8 E t=true->aF9 P T r n df N L K t f σ->Sp N a f->gOr2 P r n df L.toArray E (fun a' σ'=>∃ f',Sp N a' f'/\K f' σ') t a σ
 | .done,K,f,σ,a,hE,h,hs=>⟨f,hs,h⟩
 | .one i t,K,f,σ,a,hE,h,hs=>by
  simp only [ap8,zJ] at hE;exact ak8 hT hE.1 h hs (fun f' σ' a' h2 hs'=>an1 hT hE.2 h2 hs')
 | .two i t j u,K,f,σ,a,hE,h,hs=>by
  simp only [ap8,zJ] at hE;exact⟨ak8 hT hE.1 h.1 hs (fun f' σ' a' h2 hs'=>an1 hT hE.2.1 h2 hs'),ak8 hT hE.2.2.1 h.2 hs (fun f' σ' a' h2 hs'=>an1 hT hE.2.2.2 h2 hs')⟩
 | .three i t j u k v,K,f,σ,a,hE,h,hs=>by
  simp only [ap8,zJ] at hE;exact⟨ak8 hT hE.1 h.1 hs (fun f' σ' a' h2 hs'=>an1 hT hE.2.1 h2 hs'),ak8 hT hE.2.2.1 h.2.1 hs (fun f' σ' a' h2 hs'=>an1 hT hE.2.2.2.1 h2 hs'),ak8 hT hE.2.2.2.2.1 h.2.2 hs (fun f' σ' a' h2 hs'=>an1 hT hE.2.2.2.2.2 h2 hs')⟩
 | .four i t j u k v l w,K,f,σ,a,hE,h,hs=>by
  simp only [ap8,zJ] at hE;exact⟨ak8 hT hE.1 h.1 hs (fun f' σ' a' h2 hs'=>an1 hT hE.2.1 h2 hs'),ak8 hT hE.2.2.1 h.2.1 hs (fun f' σ' a' h2 hs'=>an1 hT hE.2.2.2.1 h2 hs'),ak8 hT hE.2.2.2.2.1 h.2.2.1 hs (fun f' σ' a' h2 hs'=>an1 hT hE.2.2.2.2.2.1 h2 hs'),ak8 hT hE.2.2.2.2.2.2.1 h.2.2.2 hs (fun f' σ' a' h2 hs'=>an1 hT hE.2.2.2.2.2.2.2 h2 hs')⟩
 | .fst i t,K,f,σ,a,hE,h,hs=>by
  simp only [ap8] at hE;obtain⟨o,d,h1,h2,f',h3,h4⟩:=bQ8 (K:=fun f'=>aF9 P T r n df N L K t f' σ) hT h hs;exact⟨o,d,h1,h2,an1 hT hE h4 h3⟩
theorem ak3 (hm:P.follows .mixedOrders=true) (hT:∀ t i,T t=some i->tiOf P t=some i) {id:Nat} {O:Array Oper} (hO:O=L.toArray) (hs:List Nat) (fu:Nat) (E:Nat->Bool) (t:Or2) {γ:Type} (ps:γ->Frm) (S:γ->aa1) (I:γ->Prop)
  (hB:(Nat.beq (hs.length+fu) L.length&&bE8 .any L.toArray E fu t hs (Array.replicate L.length false)&&ap8 E t)=true)
  (h:W (exHs P T N L E σ hs (fun f1=>aF9 P T r n df N L (fun f' σ'=>∃ g,chkF f' (at6 (.region id O true) f (ps g))/\Sc σ' (S g)/\I g) t f1 σ) f))
  (kk:∀ g,I g->W (aF5 (at6 (.region id O true) f (ps g)) fun F=>Q .normal F (S g))):Lp P r n df N (.region id O true) Q f σ:=by
 subst hO;simp only [zJ] at hB;refine⟨fun a hs'=>?_⟩;refine aM1 (bh2 (Q:=fun e a' σ'=>e = .normal/\∃ f',Sp N a' f'/\∃ g,chkF f' (at6 (.region id L.toArray true) f (ps g))/\Sc σ' (S g)/\I g) E hs fu t hm (yH hB.1.1) hB.1.2 (az6 (fun a' σ' h'=>?_) (aD3 hT h.h hs'))) ?_
 ·obtain⟨rfl,f',h1,h2⟩:=h';have:=an1 hT hB.2 h2 h1;exact ak4 (fun a σ h=>⟨rfl,h⟩) this
 ·rintro e a' σ' ⟨rfl,f',h1,g,h2,h4,h3⟩;exact⟨S g,h4,_,h1.sub h2,ar2 (kk g h3).h⟩
end
end
section
open Go Go.Maps Go.MapKept
theorem bH6 {α:Type} {l:List α} {i:Nat} {a:α} (h:l[i]?=some a):l.drop i=a::l.drop (i+1):=by
 obtain⟨h1,rfl⟩:=zE.1 h;exact vG h1
theorem bs5 {x:Sch} {w:Wd} (h:w.length≠x.kz.length):fitW x w=false:=by simp [fitW,h]
theorem bs3 {x:Sch} {w:Wd} {k:Nat} {l:List (List Int)} (hk:w[k]?=some l) (h:ap5 x k l=false):fitW x w=false:=by
 unfold fitW;have:(List.range w.length).all (fun k=>ap5 x k (w.getD k []))=false:=by
  rw [vT];exact⟨k,xT.2 (zE.1 hk).1,by rw [aa8 hk,h];simp⟩
 rw [this];simp
theorem bs4 {x:Sch} {w:Wd} {r:Rf} (hr:r∈ab8 x) {l:List (List Int)} (hl:w[r.kind]?=some l) {y:List Int} (hy:y∈l) (h:refOk w r y=false):fitW x w=false:=by
 unfold fitW;have:(ab8 x).all (fun r=>(w.getD r.kind []).all (refOk w r))=false:=by
  rw [vT];refine⟨r,hr,?_⟩;rw [aa8 hl,Bool.not_eq_true,vT];exact⟨y,hy,by rw [h];simp⟩
 rw [this];simp
theorem bQ4 {x:Sch} {w:Wd} (h1:w.length=x.kz.length) (h2:∀ (k:Nat) l,w[k]?=some l->ap5 x k l=true) (h3:∀ r∈ab8 x,∀ l,w[r.kind]?=some l->∀ y∈l,refOk w r y=true):fitW x w=true:=by
 unfold fitW;simp only [zJ,zQ,yA];refine⟨⟨h1,fun k hk=>?_⟩,fun r hr y hy=>?_⟩
 ·obtain⟨l,hl⟩:∃ l,w[k]?=some l:=⟨_,zD (xT.1 hk)⟩
  rw [aa8 hl];exact h2 k l hl
 ·cases hl:w[r.kind]? with
  | none=>rw [List.getD_eq_getElem?_getD,hl] at hy;cases hy
  | some l=>rw [aa8 hl] at hy;exact h3 r hr l hl y hy
theorem ao3 {x:Sch} {k:Nat} {l:List (List Int)} (h:ap5 x k l=true):l.length<=512/\∀ y∈l,recOk x k y=true:=by
 unfold ap5 at h;simp only [zJ,zQ,yA] at h;exact h
def wA:=@Bool.or_eq_false_iff
theorem av0 {x:Sch} {k:Nat} {kd:Knd} {y:List Int} (hk:x.kz[k]?=some kd) (h:recOk x k y=true):y.length=kd.fields.length/\∀ n∈y,-1099511627776<=n/\n<=1099511627776:=by
 unfold recOk bO6 at h;rw [hk] at h;simp only [zJ,zQ,yA] at h;refine⟨h.1,fun n hn=>?_⟩;have:=h.2 n hn;unfold numOk at this;simp only [xJ,wA,xF] at this;omega
def ckL (x:Sch) (w:Wd) (d:D) (rm lm:Nat):List D:=[iD x.vz,slK x.kz,slL x.lz,slR x.rules,slW w,d,.v (.map (some rm)),.v (.map (some lm)),.v (.slice none 0 0)]
theorem cu1 (x:Sch) (w:Wd) (L:List Rf) (rm lm:Nat):ckL x w (slLn L) rm lm=ckC x w L rm lm (.slice none 0 0):=rfl
def NewS (x:Sch) (w:Wd) (d:D) (σ:aa1):Prop:=∃ (c rm lm:Nat) (F:Value->Option Value) (sa:aa1),d = .tup [.v (.pointer (some ⟨c,0,none⟩)),iD 0]/\σ=(c,.cells 145 (ckC x w (ab8 x) rm lm (.slice none 0 0)))::(rm,.obj (MapO prog 147 F))::(lm,.mp prog 9 (lvG x.lz))::sa/\AdjS w F (ab8 x) sa
def NewR (x:Sch) (w:Wd) (d:D) (σ:aa1):Prop:=(fitW x w=false/\d = .tup [.v (.pointer none),iD 2]/\σ=[])\/(fitW x w=true/\NewS x w d σ)
theorem sk63 {A B:Prop} (k:B) (h:Hd7 B->A:=by intro q7;(first|refine sb0 ?_|refine sb1 ?_|(refine' cp7x ?hc ?_;(case hc=>first|exact HC)));exact q7.1):A:=h ⟨k⟩
theorem bO1 (x:Sch) (w:Wd) (p:Prb) (ps:List Prb) (hp:aj9 x=p::ps) (HV:APure prog 143 [schD x] (iD (ad4 x))):APure prog 58 [schD x,slW w] (.tup [.v (.pointer none),iD p.2.2.2]):=by
 have HC:=aW7 x HV;rw [hp] at HC;refine eP7 func58 ntmps58 fun BB=>?_
 repeat' first|refine sk63 ?_|intro b;conv=>whnf
 exact Rt.pure rfl
theorem cn4 (a b c d e:Nat × Blk) (s:aa1):(a::b::c::d::e::s).Perm (s++[a,b,c,d,e]):=yT (l₁:=[a,b,c,d,e]) (l₂:=s)
theorem cn3 (a b c d e:Nat × Blk) (s:aa1):(s++[a,b,c,d,e]).Perm (a::b::c::d::e::s):=(cn4 a b c d e s).symm
theorem bI6 {l:List Lif} {y:List D} (h:y∈bh1 l):y.length=2:=by
 obtain⟨k,hk⟩:=yO h;obtain⟨j,z,_,_,rfl⟩:=aR4 hk
 rfl
theorem bF3 {l:Lif} (h:ag2 l=true):l.name.size<=1000:=by
 simp only [ag2,zJ] at h;have:=h.1.1.1.1;simp only [isNm,aa3,zJ,zQ] at this;omega
theorem sk64 {A B:Prop} (k:B) (h:Hd7 B->A:=by intro q7;(first|refine sb0 ?_|refine sb1 ?_|(refine' cp7x ?hc ?_;(case hc=>first|exact HC|exact ay8 _ _ _ (by assumption) (by assumption)|exact HB)));exact q7.1):A:=h ⟨k⟩
theorem sb65 {A B:Prop} (k:B) (h:Hd7 B->A:=by intro q7;(first|(with_reducible refine Bc.l ?_)|fail|refine u6x ?_|refine u4x ?_);exact q7.1):A:=h ⟨k⟩
theorem sk66 {A B:Prop} (k:B) (h:Hd7 B->A:=by intro q7;(first|refine sb0 ?_|refine sb65 ?_|(refine' cp7x ?hc ?_;(case hc=>first|exact HC|exact ay8 _ _ _ (by assumption) (by assumption)|exact HB)));exact q7.1):A:=h ⟨k⟩
theorem cl5 {p:Prop} (h:p:=by refine ac3 fun a=>?_;simp only [List.append_eq,List.nil_append,ac4,af0,ae9];omega):p:=h
def vB:=@Go.WideMaps.keyOf_string_mk
theorem bW4 (x:Sch) (w:Wd) (hw:Ws w) (hp:aj9 x=[]) (HV:APure prog 143 [schD x] (iD (ad4 x))):ACall prog 58 [schD x,slW w] [] (NewR x w):=by
 have HC:=aW7 x HV;rw [hp] at HC;have hS:=aN2 hp;have hV:=hS.vld;have hnk:=hV.nk;have hnf:=hV.nf;have hwl:=hw.nk;have hl6:x.kz.length<=1000000:=by omega
 have hf6:∀ k∈x.kz,k.fields.length<=1000000:=fun k hk=>by have:=hnf k hk;omega
 have hrl:=bo3 hV;refine eC7 func58 ntmps58 fun BB=>?_
 repeat' first|refine sk64 ?_|intro b;conv=>whnf
 refine OtE.makeMap (k:=147) rfl (fun rm=>?_)
 repeat' first|refine sk64 ?_|intro b;conv=>whnf
 refine OtE.makeMapM (k:=9) rfl (fun lm=>?_)
 repeat' first|refine sk66 ?_|intro b;conv=>whnf
 refine Bx.r ?_;refine OtE.box (t:=145) rfl rfl (fun c=>?_);by_cases hlen:w.length=x.kz.length
 ·repeat' first|refine sk64 ?_|intro b;conv=>whnf
  refine aj5 (i:=7) (d:=.v (.pointer (some ⟨b,0,none⟩))) (d':=.ro [.v (.pointer (some ⟨c,0,none⟩))]) (τ:=[(c,.cells 145 (ckL x w (.v (.slice none 0 0)) rm lm)),(lm,.mp prog 9 fun _=>none),(rm,.obj (MapO prog 147 fun _=>none))]) rfl (fun h=>by cases h) (Vs.ptr (tb:=121) (zH _)) ?_;refine aa5 mixed aa0 (γ:=Nat × Value × aa1) (fun g=>[(45,iD g.1)]) (fun g=>(c,.cells 145 (ckL x w (.v g.2.1) rm lm))::(lm,.mp prog 9 fun _=>none)::(rm,.obj (MapO prog 147 fun _=>none))::g.2.2) (fun g=>g.1<=x.kz.length/\RowIs 147 3 ((upTo g.1 (refK x)).map lnC) g.2.1 g.2.2) (fun g=>x.kz.length-g.1) (0,.slice none 0 0,[]) (aa2 cl2) (Sc.refl _) ⟨zW _,RowIs.nil _ _⟩ ?_;rintro⟨k,v,s⟩ ⟨hk,hrow⟩;simp only at hk hrow ⊢;by_cases hkl:k<x.kz.length
  ·obtain⟨kd,hkd⟩:∃ y,x.kz[k]?=some y:=⟨_,zD hkl⟩
   have hkd':x.kz[((k:Nat):Int).toNat]?=some kd:=hkd;have hfl:=hnf kd (zG hkd);have hSK:=ad5 k (refK x);have hRK:refK x k=upTo kd.fields.length (refF x k kd):=by unfold refK;rw [hkd]
   repeat' first|refine sk64 ?_|intro b;conv=>whnf
   refine aa5 mixed aa0 (γ:=Nat × Value × aa1) (fun g=>[(53,iD g.1)]) (fun g=>(b,.cells 85 (kndC kd))::(c,.cells 145 (ckL x w (.v g.2.1) rm lm))::(lm,.mp prog 9 fun _=>none)::(rm,.obj (MapO prog 147 fun _=>none))::g.2.2) (fun g=>g.1<=kd.fields.length/\RowIs 147 3 ((upTo k (refK x)++upTo g.1 (refF x k kd)).map lnC) g.2.1 g.2.2) (fun g=>kd.fields.length-g.1) (0,v,s) (aa2 cl2) (Sc.refl _) ⟨zW _,by simpa [upTo] using hrow⟩ ?_;clear hrow;rintro⟨f,v,s⟩ ⟨hf,hrow⟩;simp only at hf hrow ⊢;by_cases hfl2:f<kd.fields.length
   ·obtain⟨g,hg⟩:∃ y,kd.fields[f]?=some y:=⟨_,zD hfl2⟩
    have hg':kd.fields[((f:Nat):Int).toNat]?=some g:=hg;have hSF:=ad5 f (refF x k kd);have hlen1:=ad2 (fun k=>bo5 x k (fun k hk=>by have:=hnf k hk;omega)) k;have hlen2:=ad2 (bo6 x k kd) f;by_cases h1:g.kind=1
    ·have hRF:refF x k kd f=[⟨k,f,upIx x k f,g.lo⟩]:=by unfold refF;rw [hg];simp [h1]
     rw [hRF] at hSF
     repeat' first|refine sk64 ?_|intro b;conv=>whnf
     refine Ap.go rfl rfl rfl rfl hrow (cn4 _ _ _ _ _ _) rfl (zs:=(upTo k (refK x)++upTo (f+1) (refF x k kd)).map lnC) (by rw [hSF];simp only [yB,List.map_cons,List.map_nil,zV];rfl) (by rw [hSF];simp;omega) (by rw [hSF];simp;omega) (fun s'=>_::_::_::_::_::s') (cn3 _ _ _ _ _) (fun a' c' s' hr'=>?_)
     repeat' first|refine sk64 ?_|intro b;conv=>whnf
     exact⟨(f+1,_,s'),(aa2 cl2),Sc.sl (yG _ _),⟨by simp only;omega,hr'⟩,by simp only;omega⟩
    ·have hRF:refF x k kd f=[]:=by unfold refF;rw [hg];simp [h1]
     rw [hRF,zZ] at hSF
     repeat' first|refine sk64 ?_|intro b;conv=>whnf
     exact⟨(f+1,v,s),(aa2 cl2),Sc.sl (yG _ _),⟨by simp only;omega,by rw [hSF];exact hrow⟩,by simp only;omega⟩
   ·obtain rfl:f=kd.fields.length:=by omega
    repeat' first|refine sk64 ?_|intro b;conv=>whnf
    exact⟨(k+1,v,s),(aa2 cl2),Sc.sl (yG _ _),⟨by simp only;omega,by rw [hSK,hRK];exact hrow⟩,by simp only;omega⟩
  ·obtain rfl:k=x.kz.length:=by omega
   change RowIs 147 3 ((ab8 x).map lnC) v s at hrow
   repeat' first|refine sk64 ?_|intro b;conv=>whnf
   refine ay2 (τ:=(c,.cells 145 (ckL x w (slLn (ab8 x)) rm lm))::(lm,.mp prog 9 fun _=>none)::(rm,.obj (MapO prog 147 fun _=>none))::[]) ((Sc.perm (List.Perm.cons _ (yT (l₁:=[_,_]) (l₂:=s)))).trans (Sc.frz (j:=5) rfl hrow (LeR.refl _))) ?_;clear hrow;refine aa5 mixed aa0 (γ:=Nat) (fun g=>[(81,iD g)]) (fun _=>(c,.cells 145 (ckL x w (slLn (ab8 x)) rm lm))::(lm,.mp prog 9 fun _=>none)::(rm,.obj (MapO prog 147 fun _=>none))::[]) (fun g=>g<=w.length/\∀ (k:Nat) l,k<g->w[k]?=some l->ap5 x k l=true) (fun g=>w.length-g) 0 (aa2 cl2) (Sc.refl _) ⟨zW _,fun k l h=>by omega⟩ ?_;rintro k ⟨hk,hno⟩;by_cases hkl:k<w.length
   ·obtain⟨l,hl⟩:∃ l,w[k]?=some l:=⟨_,zD hkl⟩
    have hl':w[((k:Nat):Int).toNat]?=some l:=hl;obtain⟨kd,hkd⟩:∃ y,x.kz[k]?=some y:=⟨_,zD (by omega)⟩
    have hll:=hw.nr l (zG hl);have hlf:=hw.nf l (zG hl);have HR:APure prog 99 [slW1 l,.clo 100 [.ro (schC x),.ro [iD k]]] (bD (l.any fun r=>!recOk x k r)):=cu6 l _ (by omega) (fun y hy=>cp0 x k kd y hkd hl6 (by have:=hlf y hy;omega));have hany:(l.any fun r=>!recOk x k r)=!(l.all (recOk x k)):=by rw [vJ];simp
    by_cases h5:512<l.length
    ·have hb:ap5 x k l=false:=by unfold ap5;rw [yE (by omega)];rfl
     repeat' first|refine sk64 ?_|intro b;conv=>whnf
     exact Rt.by (Vs.drop (yV _)) (.inl ⟨bs3 hl hb,rfl,rfl⟩)
    ·repeat' first|refine sk64 ?_|intro b;conv=>whnf
     refine CE.pk (APk.peek (.cons (Pk.same _) (.cons (Pk.clo (.cons (Pk.same _) (.cons (Pk.ptr (j:=0) rfl (PkL.refl _)) .nil))) .nil)) HR rfl) ?_;clear HR;rw [hany];have hro:ap5 x k l=l.all (recOk x k):=by unfold ap5;rw [yJ (by omega)];rfl
     cases hall:l.all (recOk x k) with
     | true=>
      repeat' first|refine sk64 ?_|intro b;conv=>whnf
      refine⟨k+1,(aa2 cl2),Sc.sl (yG _ _),⟨by omega,fun k' l' hk' hl2=>?_⟩,by omega⟩;by_cases e:k'=k
      ·subst e;cases hl.symm.trans hl2;rw [hro];exact hall
      ·exact hno k' l' (by omega) hl2
     | false=>
      repeat' first|refine sk64 ?_|intro b;conv=>whnf
      exact Rt.by (Vs.drop (yV _)) (.inl ⟨bs3 hl (hro.trans hall),rfl,rfl⟩)
   ·obtain rfl:k=w.length:=by omega
    have hrows:∀ (k:Nat) l,w[k]?=some l->ap5 x k l=true:=fun k l h=>hno k l (zE.1 h).1 h;clear hno
    repeat' first|refine sk64 ?_|intro b;conv=>whnf
    refine aa5 mixed aa0 (γ:=Nat × (Value->Option Value) × aa1) (fun g=>[(100,iD g.1)]) (fun g=>(c,.cells 145 (ckL x w (slLn (ab8 x)) rm lm))::(lm,.mp prog 9 fun _=>none)::(rm,.obj (MapO prog 147 g.2.1))::g.2.2) (fun g=>g.1<=(ab8 x).length/\AdjS w g.2.1 ((ab8 x).take g.1) g.2.2/\∀ (q:Nat) r l,q<g.1->(ab8 x)[q]?=some r->w[r.kind]?=some l->∀ y∈l,refOk w r y=true) (fun g=>(ab8 x).length-g.1) (0,(fun _=>none),[]) (aa2 cl2) (Sc.refl _) ⟨zW _,AdjS.nil _ _,fun q r l h=>by simp at h⟩ ?_;rintro⟨q,F,sa⟩ ⟨hq,hA,hno⟩;simp only at hq hA hno ⊢;by_cases hql:q<(ab8 x).length
    ·obtain⟨r,hr⟩:∃ r,(ab8 x)[q]?=some r:=⟨_,zD hql⟩
     have hr':(ab8 x)[((q:Nat):Int).toNat]?=some r:=hr;have hrm:=zG hr;obtain⟨u1,u2,u3⟩:=hS.up r hrm;obtain⟨l,hl⟩:∃ l,w[r.kind]?=some l:=⟨_,zD (by omega)⟩
     obtain⟨lu,hlu'⟩:∃ l,w[r.up.toNat]?=some l:=⟨_,zD (by omega)⟩
     have hl':w[((r.kind:Nat):Int).toNat]?=some l:=hl;have hll:=hw.nr l (zG hl);have hlul:=hw.nr lu (zG hlu');obtain⟨kd,fd,hkd,hfd,_⟩:=aL4 hrm;have hrr:=ao3 (hrows _ _ hl);have hadj:adjR w r=adjL l r.field lu.length:=by unfold adjR;rw [aa8 hl,aa8 hlu']
     repeat' first|refine sk64 ?_|intro b;conv=>whnf
     refine Mk.go lu.length rfl rfl rfl rfl rfl (by simp) (by omega) (by omega) (fun bo=>?_)
     repeat' first|refine sk64 ?_|intro b;conv=>whnf
     have hR0:RW1 (adjL (l.take 0) r.field lu.length) (.slice (some ⟨bo,0,none⟩) lu.length lu.length) [(bo,.cells 22 (List.replicate lu.length (.v (.slice none 0 0))))]:=by
      rw [List.take_zero,bT3];exact RowsOf.made (R:=RI) (x0:=[]) (RowIs.nil _ _) _ bo (by unfold maxLen;omega)
     refine aj5 (i:=15) (d:=.v (.pointer (some ⟨b,0,none⟩))) (d':=.ro (lnC r)) (τ:=(bo,.cells 22 (List.replicate lu.length (.v (.slice none 0 0))))::(c,.cells 145 (ckL x w (slLn (ab8 x)) rm lm))::(lm,.mp prog 9 fun _=>none)::(rm,.obj (MapO prog 147 F))::sa) rfl (fun h=>by cases h) (Vs.ptr (tb:=147) (List.Perm.swap _ _ _)) ?_;refine aa5 mixed aa0 (γ:=Nat × aa1) (fun g=>[(117,iD g.1)]) (fun g=>g.2++((c,.cells 145 (ckL x w (slLn (ab8 x)) rm lm))::(lm,.mp prog 9 fun _=>none)::(rm,.obj (MapO prog 147 F))::sa)) (fun g=>g.1<=l.length/\RW1 (adjL (l.take g.1) r.field lu.length) (.slice (some ⟨bo,0,none⟩) lu.length lu.length) g.2/\∀ (i:Nat) y,i<g.1->l[i]?=some y->refOk w r y=true) (fun g=>l.length-g.1) (0,[(bo,.cells 22 (List.replicate lu.length (.v (.slice none 0 0))))]) (aa2 cl2) (Sc.refl _) ⟨zW _,hR0,fun i y h=>by simp at h⟩ ?_;clear hR0;rintro⟨i,sr⟩ ⟨hi,hR,hno3⟩;simp only at hi hR hno3 ⊢;by_cases hil:i<l.length
     ·obtain⟨y,hy⟩:∃ y,l[i]?=some y:=⟨_,zD hil⟩
      have hy':l[((i:Nat):Int).toNat]?=some y:=hy;have hym:=zG hy;have hyl:=(av0 hkd (hrr.2 y hym)).1;have hyl2:=hw.nf l (zG hl) y hym;have hfl:=(zE.1 hfd).1;obtain⟨z,hz⟩:∃ z,y[r.field]?=some z:=⟨_,zD (by omega)⟩
      have hz':y[((r.field:Nat):Int).toNat]?=some z:=hz;have hrok:refOk w r y=!(decide (z<0)||decide ((lu.length:Int)<=z)):=by unfold refOk;rw [aa8 hz,aa8 hlu']
      by_cases hz0:z<0
      ·have hbad:refOk w r y=false:=by rw [hrok,yJ hz0];rfl
       repeat' first|refine sk64 ?_|intro b;conv=>whnf
       exact Rt.by (Vs.drop (yV _)) (.inl ⟨bs4 hrm hl hym hbad,rfl,rfl⟩)
      ·by_cases hz1:(lu.length:Int)<=z
       ·have hbad:refOk w r y=false:=by rw [hrok,yJ hz1,Bool.or_true];rfl
        repeat' first|refine sk64 ?_|intro b;conv=>whnf
        exact Rt.by (Vs.drop (yV _)) (.inl ⟨bs4 hrm hl hym hbad,rfl,rfl⟩)
       ·have hgood:refOk w r y=true:=by rw [hrok,yE hz0,yE hz1];rfl
        obtain⟨v,rfl⟩:∃ v:Nat,z=v:=⟨z.toNat,by omega⟩
        obtain⟨b0,cap0,cs0,u,t,τ,e0,p0,c0,hu,upo⟩:=RowsOf.at hR (aG1 (f:=r.field) (l.take i) (show v<lu.length by omega));rw [ay0] at e0
        cases e0
        obtain⟨a1,ca1,rfl⟩:=RowIs.slice hu;have hil2:(idxs (l.take i) r.field v).length<=1000:=by
         rw [br6];have:=List.countP_le_length (p:=fun r':List Int=>decide (r'.getD r.field 0=(v:Int))) (l:=l.take i);rw [zR] at this;omega
        repeat' first|refine sk64 ?_|intro b;conv=>whnf
        refine Ld.cellm (tb:=22) (cs:=cs0) (xK _ (p0.mem_iff.2 yN)) (by rw [ix1];exact c0) ?_
        repeat' first|refine sk64 ?_|intro b;conv=>whnf
        refine Ap.go rfl rfl rfl rfl hu (τ:=(bo,.cells 22 cs0)::(τ++((c,.cells 145 (ckL x w (slLn (ab8 x)) rm lm))::(lm,.mp prog 9 fun _=>none)::(rm,.obj (MapO prog 147 F))::sa))) (by refine ac3 fun a=>?_;have e1:=aQ6 p0 a;simp only [List.append_eq,List.nil_append,ac4,af0,ae9] at e1 ⊢;omega) rfl (zs:=(idxs (l.take i) r.field v++[(i:Int)]).map fun n=>[iD n]) (by rw [yB];rfl) (by simp;omega) (by simp;omega) (fun s2=>s2++((bo,.cells 22 cs0)::(τ++((c,.cells 145 (ckL x w (slLn (ab8 x)) rm lm))::(lm,.mp prog 9 fun _=>none)::(rm,.obj (MapO prog 147 F))::sa)))) (fun s2=>zH _) (fun a9 c9 s9 hr9=>?_)
        repeat' first|refine sk64 ?_|intro b;conv=>whnf
        refine Sv.cellm (tb:=22) (cs:=cs0) (cs':=cs0.set v (.v (.slice a9 ((idxs (l.take i) r.field v++[(i:Int)]).map fun n=>[iD n]).length c9))) (τ:=s9++(τ++((c,.cells 145 (ckL x w (slLn (ab8 x)) rm lm))::(lm,.mp prog 9 fun _=>none)::(rm,.obj (MapO prog 147 F))::sa))) cl5 (by rw [ix1];exact (zE.1 c0).1) rfl (by rw [ix1]) ?_
        repeat' first|refine sk64 ?_|intro b;conv=>whnf
        have h8:=upo _ _ s9 ((bo,.cells 22 (cs0.set v (.v (.slice a9 ((idxs (l.take i) r.field v++[(i:Int)]).map fun n=>[iD n]).length c9))))::(s9++τ)) hr9 (zH _);have hlt:(l.take i).length=i:=by rw [zR];omega
        have hsn:=bK2 (rows:=l.take i) (r:=y) (f:=r.field) (n:=lu.length) (v:=v) (aa8 hz 0);rw [hlt,← af7 hy] at hsn;rw [← hsn] at h8;refine⟨(i+1,(bo,.cells 22 (cs0.set v (.v (.slice a9 ((idxs (l.take i) r.field v++[(i:Int)]).map fun n=>[iD n]).length c9))))::(s9++τ)),(aa2 cl2),Sc.perm cl5,⟨by simp only;omega,h8,fun i' y' hi' hy2=>?_⟩,by simp only;omega⟩;by_cases e:i'=i
        ·subst e;cases hy.symm.trans hy2;exact hgood
        ·exact hno3 i' y' (by omega) hy2
     ·obtain rfl:i=l.length:=by omega
      rw [yM,← hadj] at hR;have hfl:=(zE.1 hfd).1;have hfl2:=hnf kd (zG hkd);obtain⟨kl,hkl⟩:=bW7 (show (Lit.int .i64 (r.kind:Int)).wf=true from wf64 (by omega) (by omega)) (show (Lit.int .i64 (r.field:Int)).wf=true from wf64 (by omega) (by omega)) (show (Lit.int .i64 r.up).wf=true from wf64 (by omega) (by omega))
      repeat' first|refine sk64 ?_|intro b;conv=>whnf
      refine Ld.cellm (yW _ yN) rfl ?_
      repeat' first|refine sk64 ?_|intro b;conv=>whnf
      refine OtE.mapUpdate (b:=rm) (F:=F) (k:=147) (e:=62) (kv:=lnV r) (kl:=kl) (τ:=sr++((c,.cells 145 (ckL x w (slLn (ab8 x)) rm lm))::(lm,.mp prog 9 fun _=>none)::sa)) rfl rfl (KeyD.agg3 _ _ _) rfl cl5 bq8 underlying142 hkl ?_
      repeat' first|refine sk64 ?_|intro b;conv=>whnf
      refine⟨(q+1,updF F (lnV r) (.slice (some ⟨bo,0,none⟩) lu.length lu.length),sa++sr),(aa2 cl2),Sc.perm cl5,⟨by simp only;omega,?_,fun q' r' l' hq' hr2 hl2 y hy=>?_⟩,by simp only;omega⟩
      ·rw [af7 hr];refine hA.push hR fun r' hr2=>?_;obtain⟨q',hq'⟩:=yO hr2;have hq2:=(zE.1 hq').1;rw [zR] at hq2;rw [yX,if_pos (by omega)] at hq';exact cb6 hq' hr (by omega)
      ·by_cases e:q'=q
       ·subst e
        cases hr.symm.trans hr2
        cases hl.symm.trans hl2
        obtain⟨i,hi⟩:=yO hy;exact hno3 i y (zE.1 hi).1 hi
       ·exact hno q' r' l' (by omega) hr2 hl2 y hy
    ·obtain rfl:q=(ab8 x).length:=by omega
     rw [yM] at hA;have hfit:fitW x w=true:=bQ4 hlen hrows fun r hr l hl y hy=>by
      obtain⟨q,hq⟩:=yO hr;exact hno q r l (zE.1 hq).1 hq hl y hy
     clear hno hrows;have HB:=cd6 x.lz;have hll:=hV.nl
     repeat' first|refine sk64 ?_|intro b;conv=>whnf
     refine bF0 (List.Perm.swap _ _ _) ?_;refine bO3 mixed aa0 rfl (bI5 x.lz (by omega)) (fun y hy=>bI6 hy) rfl (γ:=Unit) (fun m _=>(lm,.mp prog 9 (lvG (x.lz.drop (x.lz.length-m))))::(c,.cells 145 (ckL x w (slLn (ab8 x)) rm lm))::(rm,.obj (MapO prog 147 F))::sa) (fun _ _=>True) () (by rw [show lvG (x.lz.drop (x.lz.length-0))=fun _=>none by rw [Nat.sub_zero,List.drop_length,cd9]];exact cl3) trivial ?_ ?_
     ·rintro lb m _ y hy -;obtain⟨j,lf,h1,h2,rfl⟩:=aR4 hy;have hnm:=bF3 (hV.lz lf (zG h2));rw [show x.lz.length-m=j+1 by omega]
      repeat' first|refine sk64 ?_|intro b;conv=>whnf
      refine OtE.mapUpdateM (d:=lifD lf) (b:=lm) (k:=9) (e:=89) (kv:=.string lf.name) (τ:=(b,.cells 89 (lifC lf))::(c,.cells 145 (ckL x w (slLn (ab8 x)) rm lm))::(rm,.obj (MapO prog 147 F))::sa) rfl rfl (KeyD.v _) rfl (List.Perm.swap _ _ _) (string_keyed underlying9) underlying143 (vB underlying9 (by unfold maxLen;omega)) ?_
      repeat' first|refine sk64 ?_|intro b;conv=>whnf
      rw [bO2,← bH6 h2];exact⟨(),by rw [show x.lz.length-(m+1)=j by omega];exact List.Sublist.cons_cons _ (yG _ _),trivial⟩
     ·rintro _ -;rw [show x.lz.length-(bh1 x.lz).length=0 by rw [aR3];omega,List.drop_zero]
      repeat' first|refine sk64 ?_|intro b;conv=>whnf
      exact Rt.by (Vs.perm (τ:=(c,.cells 145 (ckC x w (ab8 x) rm lm (.slice none 0 0)))::(rm,.obj (MapO prog 147 F))::(lm,.mp prog 9 (lvG x.lz))::sa) (by refine ac3 fun a=>?_;simp only [ac4,cu1];omega)) (.inr ⟨hfit,c,rm,lm,F,sa,rfl,rfl,hA⟩)
 ·repeat' first|refine sk64 ?_|intro b;conv=>whnf
  exact Rt.by (Vs.drop (yV _)) (.inl ⟨bs5 hlen,rfl,rfl⟩)
end
section
open Go
def ao6 (l:List Fld) (nm:ByteArray):Int:=idx (fun f=>seq f.name nm) l
def aq9 (n:Int):Bool:=!decide (n=0) && !decide (n=1) && !decide (n=6) && !decide (n=7)
def as0 (k:Knd):Int:=idx (fun f=>aq9 f.kind) k.fields
theorem aO7 (l:List Fld) (nm:ByteArray) (hl:l.length<=1000000):APure prog 77 [slF l,sD nm] (iD (ao6 l nm)):=by
 refine eP7 func77 ntmps77 fun BB=>?_
 repeat' first|refine sk2 ?_|intro b;conv=>whnf|refine IxM.mk fun y hy=>?_
 refine ac6 mixed aa0 (γ:=Nat) (fun q=>[(5,iD q)]) (fun _=>[]) (fun q=>q<=l.length/\∀ i y,i<q->l[i]?=some y->seq y.name nm=false) (fun q=>l.length-q) 0 rfl rfl ⟨by omega,by omega⟩ ?_;rintro q ⟨hq,hno⟩
 repeat' first|refine sk2 ?_|intro b;conv=>whnf|refine IxM.mk fun y hy=>?_|with_reducible refine Br.d (fun hc=>?_) (fun hc=>?_)|with_reducible refine Br.b (fun hc=>?_) (fun hc=>?_)
 ·refine Rt.pure (zM iD ?_);exact (ad3 hy ‹_› hno).symm
 ·exact⟨q+1,rfl,rfl,⟨by omega,fun i z hi hz=>by
   by_cases e:i=q
   ·subst e;rw [show ((i:Int)).toNat=i from rfl,hz] at hy;cases hy;assumption
   ·exact hno i z (by omega) hz⟩,by omega⟩
 ·refine Rt.pure (zM iD ?_);exact (ai8 fun i y hy=>hno i y (by have:=(zE.1 hy).1;omega) hy).symm
theorem bw2 (k:Knd) (hl:k.fields.length<=1000000):APure prog 76 [kndD k] (iD (as0 k)):=by
 refine eP7 func76 ntmps76 fun BB=>?_
 repeat' first|refine sk2 ?_|intro b;conv=>whnf
 refine ac2 mixed aa0 (γ:=Nat) (fun q=>[(3,iD q)]) (fun _=>[]) (fun q=>q<=k.fields.length/\∀ i y,i<q->k.fields[i]?=some y->aq9 y.kind=false) (fun q=>k.fields.length-q) 0 (aa2 cl2) cl3 ⟨by omega,by omega⟩ ?_;rintro q ⟨hq,hno⟩;by_cases hql:q<k.fields.length
 ·obtain⟨y,hy0⟩:∃ y,k.fields[q]?=some y:=⟨_,zD hql⟩
  have hy:k.fields[((q:Nat):Int).toNat]?=some y:=hy0;have nxt:aq9 y.kind=false->∀ i z,i<q+1->k.fields[i]?=some z->aq9 z.kind=false:=fun h i z hi hz=>by
   by_cases e:i=q
   ·subst e;cases hy0.symm.trans hz;exact h
   ·exact hno i z (by omega) hz
  by_cases h0:y.kind=0
  ·have hp:aq9 y.kind=false:=by unfold aq9;simp [h0]
   repeat' first|refine sk2 ?_|intro b;conv=>whnf
   exact⟨q+1,(aa2 cl2),cl3,⟨by omega,nxt hp⟩,by omega⟩
  ·by_cases h1:y.kind=1
   ·have hp:aq9 y.kind=false:=by unfold aq9;simp [h1]
    repeat' first|refine sk2 ?_|intro b;conv=>whnf
    exact⟨q+1,(aa2 cl2),cl3,⟨by omega,nxt hp⟩,by omega⟩
   ·by_cases h6:y.kind=6
    ·have hp:aq9 y.kind=false:=by unfold aq9;simp [h6]
     repeat' first|refine sk2 ?_|intro b;conv=>whnf
     exact⟨q+1,(aa2 cl2),cl3,⟨by omega,nxt hp⟩,by omega⟩
    ·by_cases h7:y.kind=7
     ·have hp:aq9 y.kind=false:=by unfold aq9;simp [h7]
      repeat' first|refine sk2 ?_|intro b;conv=>whnf
      exact⟨q+1,(aa2 cl2),cl3,⟨by omega,nxt hp⟩,by omega⟩
     ·have hp:aq9 y.kind=true:=by unfold aq9;simp [h0,h1,h6,h7]
      repeat' first|refine sk2 ?_|intro b;conv=>whnf
      refine Rt.pure (zM iD ?_);exact (ad3 hy0 hp hno).symm
 ·obtain rfl:q=k.fields.length:=by omega
  repeat' first|refine sk2 ?_|intro b;conv=>whnf
  refine Rt.pure (zM iD ?_);exact (ai8 fun i y hy=>hno i y (zE.1 hy).1 hy).symm
end
section
open Go
abbrev nE:ByteArray:=⟨#[]⟩
abbrev nSize:ByteArray:=⟨#[115,105,122,101]⟩
abbrev nTag:ByteArray:=⟨#[116,97,103]⟩
abbrev aK2:ByteArray:=⟨#[98,111,114,110]⟩
abbrev cd7:ByteArray:=⟨#[108,101,102,116]⟩
abbrev cp4:ByteArray:=⟨#[115,116,97,116,101]⟩
abbrev nLife:ByteArray:=⟨#[108,105,102,101]⟩
abbrev nLow:ByteArray:=⟨#[108,111,119]⟩
abbrev nHigh:ByteArray:=⟨#[104,105,103,104]⟩
abbrev nRed:ByteArray:=⟨#[114,101,100]⟩
abbrev aP4:ByteArray:=⟨#[103,114,101,101,110]⟩
abbrev bk0:ByteArray:=⟨#[98,108,117,101]⟩
inductive PlainF:List Fld->Prop
 | none:PlainF []
 | size (a b:Int) (ha:-5<=a/\a<=5) (hb:0<=b/\b<20):PlainF [⟨nSize,nE,nE,2,a,a+b,[],[]⟩]
 | tag (n:Nat) (ws:List Int) (hn:1<=n/\n<=3) (hw:ws.length=n) (h0:∀ w∈ws,0<=w/\w<=4) (h1:∃ w∈ws,1<=w):PlainF [⟨nTag,nE,nE,3,0,0,[nRed,aP4,bk0].take n,ws⟩]
 | born (a b c d:Int) (ha:-200<=a/\a<200) (hb:0<=b/\b<60) (hc:0<=c/\c<3) (hd:0<=d/\d<30):PlainF [⟨aK2,nE,nE,4,a,a+b,[],[]⟩,⟨cd7,aK2,nE,4,c,3+d,[],[]⟩]
 | state (a b:Int) (ha:0<=a/\a<3) (hb:0<=b/\b<4):PlainF [⟨cp4,nLife,nE,5,a,a+b,[],[]⟩]
 | low (a b c d:Int) (ha:0<=a/\a<5) (hb:0<=b/\b<10) (hc:0<=c/\c<5) (hd:0<=d/\d<10):PlainF [⟨nLow,nE,nE,2,a,5+b,[],[]⟩,⟨nHigh,nE,nE,2,c,10+d,[],[]⟩]
abbrev nilD:D:=.v (.slice .none 0 0)
abbrev fldR (f:Fld) (w g:D):List D:=[sD f.name,sD f.of,sD f.up,iD f.kind,iD f.lo,iD f.hi,w,g]
theorem Vd.nil {σ τ:aa1} (k:Nat):Vd σ τ (.v (.slice .none 0 0)) (.sl k []):=fun w X u _ h=>by
 rw [h.val rfl];exact .sl k [] .none 0 (fun _ _=>undef) (by simp) (fun y hy=>by cases hy) (fun i y hy=>by simp at hy) (fun i y hy=>by simp at hy)
theorem Vd.row {σ τ ρ:aa1} {e:TypeId} {k:Nat} {xs:List (List D)} {v:Value} {s:aa1} (h:RowIs e k xs v s) (hp:σ.Perm (s++ρ)) (hsub:∀ b,b∈aa6 τ->b∈aa6 ρ):Vd σ τ (.v v) (.sl k xs):=
 fun w X u hs hr=>am0 ((Vs.row h hp).run w X u hs hr).2 hsub
theorem u9x {A B:Prop} (k:B) (h:Hd7 B->A:=by intro q7;(first|((with_reducible refine Cb.go ?h ?_);(case h=>decide +kernel)));exact q7.1):A:=h ⟨k⟩
theorem sb67 {A B:Prop} (k:B) (h:Hd7 B->A:=by intro q7;(first|refine u7x ?_|fail|refine u9x ?_);exact q7.1):A:=h ⟨k⟩
theorem sk68 {A B:Prop} (k:B) (h:Hd7 B->A:=by intro q7;(first|refine sb0 ?_|refine sb67 ?_|(refine' cp7x ?hc ?_;(case hc=>fail)));exact q7.1):A:=h ⟨k⟩
theorem cl6 {p:Prop} (h:p:=by repeat' (first|exact Vd3.nil|exact Vd2.nil|refine Vd3.cons ?_ ?_|refine Vd2.cons ?_ ?_|exact Vd.nil _|exact Vd.same (fun _ h=>h) _)):p:=h
theorem cl7 {p:Prop} (h:p:=by (refine ac3 fun a=>?_;simp only [List.append_eq,List.nil_append,ac4,af0,ae9,rfC,atC,iD,bD];omega)):p:=h
theorem cl8 {p:Prop} (h:p:=by (refine ac3 fun a=>?_;simp only [List.append_eq,List.nil_append,ac4,af0,ae9,rfC,atC,iD,bD];omega)):p:=h
theorem aE1 (xs:List Int) (hx:I64s xs) (bm:Nat) (pos:Int) (hp:0<=pos/\pos<=100000000):ACall prog 78 [ptr bm] [mkB bm xs pos] (fun d σ=>∃ pos' fs,(pos<=pos'/\pos'<=pos+20)/\d=slF fs/\σ=[mkB bm xs pos']/\PlainF fs):=by
 refine eC7 func78 ntmps78 fun BB=>?_
 repeat' first|refine sk68 ?_|intro b;conv=>whnf
 (refine pA6 (ao4 xs hx bm _ _ ⟨by omega,by omega⟩) (zH ([mkB bm xs _]++_)) (fun s'=>s'++_) (fun s'=>zH _) ?_)
 rintro _ _ ⟨r,rfl,⟨hr,hr'⟩,rfl⟩;have hr':=hr' (by omega);by_cases e0:r=0
 ·repeat' first|refine sk68 ?_|intro b;conv=>whnf
  (refine pA6 (ao4 xs hx bm _ _ ⟨by omega,by omega⟩) (zH ([mkB bm xs _]++_)) (fun s'=>s'++_) (fun s'=>zH _) ?_)
  rintro _ _ ⟨a,rfl,⟨ha,ha'⟩,rfl⟩;have ha':=ha' (by omega)
  repeat' first|refine sk68 ?_|intro b;conv=>whnf
  (refine pA6 (ao4 xs hx bm _ _ ⟨by omega,by omega⟩) (zH ([mkB bm xs _]++_)) (fun s'=>s'++_) (fun s'=>zH _) ?_)
  rintro _ _ ⟨b,rfl,⟨hb,hb'⟩,rfl⟩;have hb':=hb' (by omega)
  repeat' first|refine sk68 ?_|intro b;conv=>whnf
  exact Rt.by (Vs.vd ⟨[],zH _⟩ (Vd.sl (fun _ h=>h) cl6)) ⟨_,_,⟨by omega,by omega⟩,rfl,rfl,PlainF.size (a-5) b ⟨by omega,by omega⟩ ⟨by omega,by omega⟩⟩
 by_cases e1:r=1
 ·repeat' first|refine sk68 ?_|intro b;conv=>whnf
  (refine pA6 (ao4 xs hx bm _ _ ⟨by omega,by omega⟩) (zH ([mkB bm xs _]++_)) (fun s'=>s'++_) (fun s'=>zH _) ?_)
  rintro _ _ ⟨c,rfl,⟨hc,hc'⟩,rfl⟩;have hc':=hc' (by omega);obtain⟨n,hn,rfl⟩:∃ n:Nat,n<3/\c=n:=⟨c.toNat,by omega,by omega⟩
  repeat' first|refine sk68 ?_|intro b;conv=>whnf
  generalize hW:(List.take (1+(n:Int)).toNat [[D.v (Value.string nRed)],[D.v (Value.string aP4)],[D.v (Value.string bk0)]])=Wd;have hWl:Wd.length=n+1:=by rw [← hW,zR];simp;omega
  refine bF0 (List.Perm.swap _ _ _) ?_;refine ac2 mixed aa0 (γ:=List Int × Value × aa1) (fun g=>[(6,iD g.1.length)]) (fun g=>mkB bm xs (pos+2+g.1.length)::(b,.cells 97 (fldR ⟨nTag,nE,nE,3,0,0,[],[]⟩ (.sl 1 Wd) (.v g.2.1)))::g.2.2) (fun g=>g.1.length<=n+1/\(∀ z∈g.1,0<=z/\z<=4)/\RowIs 3 1 (g.1.map fun z=>[iD z]) g.2.1 g.2.2) (fun g=>n+1-g.1.length) ([],.slice none 0 0,[]) (aa2 cl2) (by simp only [List.length_nil];rw [show pos+2+((0:Nat):Int)=pos+1+1 by omega];exact cl3) ⟨zW _,(by simp),RowIs.nil _ _⟩ ?_
  ·rintro⟨ws,v,s⟩ ⟨hwl,hw,hrow⟩;simp only at hwl hw hrow ⊢;by_cases hlt:ws.length<n+1
   ·have hb:=ac8 xs (pos+2+ws.length) 5;have hb':=hb.2 (by omega)
    repeat' first|refine sk68 ?_|intro b;conv=>whnf
    refine dr7 ?_;refine aE7 mixed aa0 rfl [0,2] 6 (.two 1 (.one 3 (.one 4 (.one 5 (.one 6 (.one 7 .done))))) 3 (.two 1 (.one 4 (.one 5 (.one 6 (.one 7 .done)))) 4 (.one 1 (.one 5 (.one 6 (.one 7 .done)))))) (γ:=Value × aa1) (fun g=>[(39,.v v),(41,iD (atE xs (pos+2+ws.length) 5)),(42,.sl 1 [[iD (atE xs (pos+2+ws.length) 5)]]),(43,.v g.1),(44,.v (.pointer (some ⟨b,0+7,none⟩)))]) (fun g=>mkB bm xs (pos+2+ws.length+1)::(b,.cells 97 (fldR ⟨nTag,nE,nE,3,0,0,[],[]⟩ (.sl 1 Wd) (.v g.1)))::g.2) (fun g=>RowIs 3 1 ((ws++[atE xs (pos+2+ws.length) 5]).map fun z=>[iD z]) g.1 g.2) (by decide +kernel) ?_ ?_
    ·repeat' first|refine sk68 ?_|intro b;conv=>whnf
     repeat' first|refine sk68 ?_|intro b;conv=>whnf|(refine And.intro ?_ ?_<;>(conv=>whnf))|((refine pA6 (aa7 xs hx bm _ _ ⟨by omega,by omega⟩) (zH ([mkB bm xs _]++_)) (fun s'=>s'++_) (fun s'=>zH _) ?_);(rintro _ _ ⟨rfl,rfl⟩))|((refine pA6 (aa7 xs hx bm _ _ ⟨by omega,by omega⟩) (show List.Perm (_::mkB bm xs _::_) ([mkB bm xs _]++(_::_)) from List.Perm.swap _ _ _) (fun s'=>s'++(_::_)) (fun s'=>zH _) ?_);(rintro _ _ ⟨rfl,rfl⟩))|(refine Ap.go rfl rfl rfl rfl hrow (τ:=[mkB bm xs (pos+2+ws.length+1),(b,.cells 97 (fldR ⟨nTag,nE,nE,3,0,0,[],[]⟩ (.sl 1 Wd) (.v v)))]) cl7 rfl (zs:=(ws++[atE xs (pos+2+ws.length) 5]).map fun z=>[iD z]) (by simp) (by simp;omega) (by simp;omega) (fun s'=>mkB bm xs (pos+2+ws.length+1)::(b,.cells 97 (fldR ⟨nTag,nE,nE,3,0,0,[],[]⟩ (.sl 1 Wd) (.v v)))::s') (fun s'=>cl8) (fun a2 c2 s2 hr2=>?_))
     all_goals exact⟨(_,s2),(aa2 cl2),rfl,hr2⟩
    ·rintro⟨v2,s2⟩ hr2;generalize atE xs (pos+2+ws.length) 5=B at *;simp only at hr2 ⊢
     repeat' first|refine sk68 ?_|intro b;conv=>whnf
     refine⟨(ws++[B],v2,s2),?_,?_,⟨by simp;omega,fun z hz=>?_,hr2⟩,by simp only [zI,List.length_cons,List.length_nil];omega⟩
     ·simp only [zI,List.length_cons,List.length_nil];exact (aa2 cl4)
     ·simp only [zI,List.length_cons,List.length_nil];rw [show pos+2+((ws.length+(0+1):Nat):Int)=pos+2+ws.length+1 by omega];exact cl3
     ·rcases zO.1 hz with h|h
      ·exact hw z h
      ·rw [zN] at h;subst h;exact⟨hb.1,by omega⟩
   ·have hwn:ws.length=n+1:=by omega
    rw [hwn];have hcn:=ac8 xs (pos+2+(n+1:Nat)) (Wd.length:Nat);have hcn':=hcn.2 (by omega);have hdn:=ac8 xs (pos+2+(n+1:Nat)+1) 3;have hdn':=hdn.2 (by omega);obtain⟨c,hcc⟩:∃ c:Nat,atE xs (pos+2+(n+1:Nat)) (Wd.length:Nat)=c:=⟨(atE xs (pos+2+(n+1:Nat)) (Wd.length:Nat)).toNat,by omega⟩
    have hcl:c<ws.length:=by omega
    obtain⟨z,hz⟩:∃ z,ws[c]?=some z:=⟨_,zD hcl⟩
    obtain⟨b1,cap1,cs1,rfl,rfl,hc1,hset⟩:=al9 (g:=iD) hrow hz;have hc1l:=(zE.1 hc1).1
    repeat' first|refine sk68 ?_|intro b;conv=>whnf
    refine dr7 ?_;refine aE7 mixed aa0 rfl [0,2,3,4,6] 6 (.two 1 (.one 5 (.one 7 (.one 8 (.one 9 (.one 10 .done))))) 5 (.two 1 (.one 7 (.one 8 (.one 9 (.one 10 .done)))) 7 (.two 1 (.one 8 (.one 9 (.one 10 .done))) 8 (.one 1 (.one 9 (.one 10 .done)))))) (γ:=Unit) (fun _=>[(46,.v (.slice (some ⟨b1,0,none⟩) ws.length cap1)),(50,iD (atE xs (pos+2+(n+1:Nat)) (Wd.length:Nat))),(52,iD (atE xs (pos+2+(n+1:Nat)+1) 3)),(53,iD (1+atE xs (pos+2+(n+1:Nat)+1) 3)),(54,.v (.pointer (some ⟨b1,0+(atE xs (pos+2+(n+1:Nat)) (Wd.length:Nat)).toNat*1,none⟩)))]) (fun _=>(b1,.cells 3 (cs1.set c (iD (1+atE xs (pos+2+(n+1:Nat)+1) 3))))::[mkB bm xs (pos+2+(n+1:Nat)+1+1),(b,.cells 97 (fldR ⟨nTag,nE,nE,3,0,0,[],[]⟩ (.sl 1 Wd) (.v (.slice (some ⟨b1,0,none⟩) ws.length cap1))))]) (fun _=>True) (by decide +kernel) ?_ ?_
    ·repeat' first|refine sk68 ?_|intro b;conv=>whnf
     repeat' first|refine sk68 ?_|intro b;conv=>whnf|(refine And.intro ?_ ?_<;>(conv=>whnf))|((refine pA6 (aa7 xs hx bm _ _ ⟨by omega,by omega⟩) (zH ([mkB bm xs _]++_)) (fun s'=>s'++_) (fun s'=>zH _) ?_);(rintro _ _ ⟨rfl,rfl⟩))|((refine pA6 (aa7 xs hx bm _ _ ⟨by omega,by omega⟩) (show List.Perm (_::mkB bm xs _::_) ([mkB bm xs _]++(_::_)) from List.Perm.swap _ _ _) (fun s'=>s'++(_::_)) (fun s'=>zH _) ?_);(rintro _ _ ⟨rfl,rfl⟩))|(refine Sv.cellm (tb:=3) (cs:=cs1) (cs':=cs1.set c (iD (1+atE xs (pos+2+(n+1:Nat)+1) 3))) (τ:=[mkB bm xs (pos+2+(n+1:Nat)+1+1),(b,.cells 97 (fldR ⟨nTag,nE,nE,3,0,0,[],[]⟩ (.sl 1 Wd) (.v (.slice (some ⟨b1,0,none⟩) ws.length cap1))))]) cl7 (by rw [hcc,ix1];exact hc1l) rfl (by rw [hcc,ix1]) ?_)
     all_goals exact⟨(),(aa2 cl2),rfl,trivial⟩
    ·rintro - -;have hrow2:=hset (1+atE xs (pos+2+(n+1:Nat)+1) 3);generalize atE xs (pos+2+(n+1:Nat)+1) 3=E at *;have hWd:Wd=([nRed,aP4,bk0].take (n+1)).map fun x=>[sD x]:=by
      rw [← hW,show (1+(n:Int)).toNat=n+1 by omega,vR];rfl
     repeat' first|refine sk68 ?_|intro b;conv=>whnf
     rw [hWd];have hs:∀ x,x∈aa6 [mkB bm xs (pos+2+(n+1:Nat)+1+1)]->x∈aa6 ((b1,Blk.cells 3 (cs1.set c (iD (1+E))))::[mkB bm xs (pos+2+(n+1:Nat)+1+1),(b,.cells 97 (fldR ⟨nTag,nE,nE,3,0,0,[],[]⟩ (.sl 1 (([nRed,aP4,bk0].take (n+1)).map fun x=>[sD x])) (.v (.slice (some ⟨b1,0,none⟩) ws.length cap1))))]):=fun x h=>by simp [aa6] at h ⊢;exact .inr (.inl h)
     refine Rt.by (Vs.vd ⟨[(b1,Blk.cells 3 (cs1.set c (iD (1+E)))),(b,.cells 97 (fldR ⟨nTag,nE,nE,3,0,0,[],[]⟩ (.sl 1 (([nRed,aP4,bk0].take (n+1)).map fun x=>[sD x])) (.v (.slice (some ⟨b1,0,none⟩) ws.length cap1))))],by (refine ac3 fun a=>?_;simp only [List.append_eq,List.nil_append,ac4,af0,ae9,rfC,atC,iD,bD];omega)⟩ (Vd.sl hs (.cons (.cons (Vd.same hs _) (.cons (Vd.same hs _) (.cons (Vd.same hs _) (.cons (Vd.same hs _) (.cons (Vd.same hs _) (.cons (Vd.same hs _) (.cons (Vd.same hs _) (.cons (Vd.row hrow2 (zH _) (fun x h=>by simp [aa6] at h ⊢;exact .inl h)) .nil)))))))) .nil))) ⟨_,_,⟨?_,?_⟩,rfl,rfl,PlainF.tag (n+1) (ws.set c (1+E)) ⟨by omega,by omega⟩ (by rw [yR];omega) (fun z hz=>?_) ⟨1+E,?_,by omega⟩⟩
     ·omega
     ·omega
     ·rcases yZ hz with h|rfl
      ·exact hw z h
      ·omega
     ·exact List.mem_set hcl _
 by_cases e2:r=2
 ·repeat' first|refine sk68 ?_|intro b;conv=>whnf
  (refine pA6 (ao4 xs hx bm _ _ ⟨by omega,by omega⟩) (zH ([mkB bm xs _]++_)) (fun s'=>s'++_) (fun s'=>zH _) ?_)
  rintro _ _ ⟨a,rfl,⟨ha,ha'⟩,rfl⟩;have ha':=ha' (by omega)
  repeat' first|refine sk68 ?_|intro b;conv=>whnf
  have hb:=ac8 xs (pos+1+1) 60;have hb':=hb.2 (by omega);refine dr7 ?_;refine aE7 mixed aa0 rfl [0,2] 5 (.two 1 (.one 3 (.one 4 (.one 5 (.one 6 .done)))) 3 (.one 1 (.one 4 (.one 5 (.one 6 .done))))) (γ:=Unit) (fun _=>[(64,iD (a-200)),(66,iD (atE xs (pos+1+1) 60)),(67,iD (a-200+atE xs (pos+1+1) 60)),(68,.v (.pointer (some ⟨b,0+5,none⟩)))]) (fun _=>[mkB bm xs (pos+1+1+1),(b,.cells 97 (fldR ⟨aK2,nE,nE,4,a-200,a-200+atE xs (pos+1+1) 60,[],[]⟩ nilD nilD))]) (fun _=>True) (by decide +kernel) ?_ ?_
  ·repeat' first|refine sk68 ?_|intro b;conv=>whnf
   repeat' first|refine sk68 ?_|intro b;conv=>whnf|(refine And.intro ?_ ?_<;>(conv=>whnf))|((refine pA6 (aa7 xs hx bm _ _ ⟨by omega,by omega⟩) (zH ([mkB bm xs _]++_)) (fun s'=>s'++_) (fun s'=>zH _) ?_);(rintro _ _ ⟨rfl,rfl⟩))|((refine pA6 (aa7 xs hx bm _ _ ⟨by omega,by omega⟩) (show List.Perm (_::mkB bm xs _::_) ([mkB bm xs _]++(_::_)) from List.Perm.swap _ _ _) (fun s'=>s'++(_::_)) (fun s'=>zH _) ?_);(rintro _ _ ⟨rfl,rfl⟩))
   all_goals exact⟨(),(aa2 cl2),rfl,trivial⟩
  ·rintro - -;generalize atE xs (pos+1+1) 60=B at *;have hc:=ac8 xs (pos+1+1+1) 3;have hc':=hc.2 (by omega);have hd:=ac8 xs (pos+1+1+1+1) 30;have hd':=hd.2 (by omega)
   repeat' first|refine sk68 ?_|intro b;conv=>whnf
   (refine Dr.r ?_;refine W.mk ?_)
   refine aE7 mixed aa0 rfl [1,3] 7 (.two 0 (.one 2 (.one 4 (.one 5 (.one 6 (.one 7 (.one 8 .done)))))) 2 (.two 0 (.one 4 (.one 5 (.one 6 (.one 7 (.one 8 .done))))) 4 (.two 0 (.one 5 (.one 6 (.one 7 (.one 8 .done)))) 5 (.two 0 (.one 6 (.one 7 (.one 8 .done))) 6 (.one 0 (.one 7 (.one 8 .done))))))) (γ:=Unit) (fun _=>[(2,.sl 8 [fldR ⟨aK2,nE,nE,4,a-200,a-200+B,[],[]⟩ nilD nilD,fldR ⟨cd7,aK2,nE,4,atE xs (pos+1+1+1) 3,3+atE xs (pos+1+1+1+1) 30,[],[]⟩ nilD nilD])]) (fun _=>[mkB bm xs (pos+1+1+1+1+1),(b,.cells 97 (fldR ⟨aK2,nE,nE,4,a-200,a-200+B,[],[]⟩ nilD nilD))]) (fun _=>True) (by decide +kernel) ?_ ?_
   ·repeat' first|refine sk68 ?_|intro b;conv=>whnf
    repeat' first|refine sk68 ?_|intro b;conv=>whnf|(refine And.intro ?_ ?_<;>(conv=>whnf))|((refine pA6 (aa7 xs hx bm _ _ ⟨by omega,by omega⟩) (zH ([mkB bm xs _]++_)) (fun s'=>s'++_) (fun s'=>zH _) ?_);(rintro _ _ ⟨rfl,rfl⟩))|((refine pA6 (aa7 xs hx bm _ _ ⟨by omega,by omega⟩) (show List.Perm (_::mkB bm xs _::_) ([mkB bm xs _]++(_::_)) from List.Perm.swap _ _ _) (fun s'=>s'++(_::_)) (fun s'=>zH _) ?_);(rintro _ _ ⟨rfl,rfl⟩))
    all_goals exact⟨(),(aa2 cl2),rfl,trivial⟩
   ·rintro - -;generalize atE xs (pos+1+1+1) 3=C at *;generalize atE xs (pos+1+1+1+1) 30=E at *
    repeat' first|refine sk68 ?_|intro b;conv=>whnf
    have hs:∀ x,x∈aa6 [mkB bm xs (pos+1+1+1+1+1)]->x∈aa6 [mkB bm xs (pos+1+1+1+1+1),(b,.cells 97 (fldR ⟨aK2,nE,nE,4,a-200,a-200+B,[],[]⟩ nilD nilD))]:=fun x h=>by simp [aa6] at h ⊢;exact .inl h
    exact Rt.by (Vs.vd ⟨[_],List.Perm.swap _ _ _⟩ (Vd.sl hs (by repeat' (first|exact Vd3.nil|exact Vd2.nil|refine Vd3.cons ?_ ?_|refine Vd2.cons ?_ ?_|exact Vd.nil _|exact Vd.same hs _)))) ⟨_,_,⟨by omega,by omega⟩,rfl,rfl,PlainF.born (a-200) B C E ⟨by omega,by omega⟩ ⟨by omega,by omega⟩ ⟨by omega,by omega⟩ ⟨by omega,by omega⟩⟩
 by_cases e3:r=3
 ·repeat' first|refine sk68 ?_|intro b;conv=>whnf
  (refine pA6 (ao4 xs hx bm _ _ ⟨by omega,by omega⟩) (zH ([mkB bm xs _]++_)) (fun s'=>s'++_) (fun s'=>zH _) ?_)
  rintro _ _ ⟨a,rfl,⟨ha,ha'⟩,rfl⟩;have ha':=ha' (by omega)
  repeat' first|refine sk68 ?_|intro b;conv=>whnf
  (refine pA6 (ao4 xs hx bm _ _ ⟨by omega,by omega⟩) (zH ([mkB bm xs _]++_)) (fun s'=>s'++_) (fun s'=>zH _) ?_)
  rintro _ _ ⟨b,rfl,⟨hb,hb'⟩,rfl⟩;have hb':=hb' (by omega)
  repeat' first|refine sk68 ?_|intro b;conv=>whnf
  exact Rt.by (Vs.vd ⟨[],zH _⟩ (Vd.sl (fun _ h=>h) cl6)) ⟨_,_,⟨by omega,by omega⟩,rfl,rfl,PlainF.state a b ⟨by omega,by omega⟩ ⟨by omega,by omega⟩⟩
 by_cases e4:r=4
 ·repeat' first|refine sk68 ?_|intro b;conv=>whnf
  (refine pA6 (ao4 xs hx bm _ _ ⟨by omega,by omega⟩) (zH ([mkB bm xs _]++_)) (fun s'=>s'++_) (fun s'=>zH _) ?_)
  rintro _ _ ⟨a,rfl,⟨ha,ha'⟩,rfl⟩;have ha':=ha' (by omega)
  repeat' first|refine sk68 ?_|intro b;conv=>whnf
  (refine pA6 (ao4 xs hx bm _ _ ⟨by omega,by omega⟩) (zH ([mkB bm xs _]++_)) (fun s'=>s'++_) (fun s'=>zH _) ?_)
  rintro _ _ ⟨b,rfl,⟨hb,hb'⟩,rfl⟩;have hb':=hb' (by omega)
  repeat' first|refine sk68 ?_|intro b;conv=>whnf
  (refine pA6 (ao4 xs hx bm _ _ ⟨by omega,by omega⟩) (zH ([mkB bm xs _]++_)) (fun s'=>s'++_) (fun s'=>zH _) ?_)
  rintro _ _ ⟨c,rfl,⟨hc,hc'⟩,rfl⟩;have hc':=hc' (by omega)
  repeat' first|refine sk68 ?_|intro b;conv=>whnf
  (refine pA6 (ao4 xs hx bm _ _ ⟨by omega,by omega⟩) (zH ([mkB bm xs _]++_)) (fun s'=>s'++_) (fun s'=>zH _) ?_)
  rintro _ _ ⟨d,rfl,⟨hd,hd'⟩,rfl⟩;have hd':=hd' (by omega)
  repeat' first|refine sk68 ?_|intro b;conv=>whnf
  exact Rt.by (Vs.vd ⟨[],zH _⟩ (Vd.sl (fun _ h=>h) cl6)) ⟨_,_,⟨by omega,by omega⟩,rfl,rfl,PlainF.low a b c d ⟨by omega,by omega⟩ ⟨by omega,by omega⟩ ⟨by omega,by omega⟩ ⟨by omega,by omega⟩⟩
 ·repeat' first|refine sk68 ?_|intro b;conv=>whnf
  exact Rt.by (Vs.vd ⟨[],zH _⟩ (Vd.nil 8)) ⟨_,_,⟨by omega,by omega⟩,rfl,rfl,PlainF.none⟩
end
section
open Go Go.Maps Go.MapKept
theorem ax6 {x:Sch} {k:Nat} {kd:Knd} (h:x.kz[k]?=some kd):kdOf x k=kd:=by unfold kdOf;rw [h];rfl
theorem aw0 {x:Sch} {k f:Nat} {kd:Knd} {g:Fld} {s:ByteArray} (hk:x.kz[k]?=some kd) (hf:aa4 kd s=(f:Int)) (hg:kd.fields[f]?=some g):ak2 x k s=if g.kind=1 then upIx x k f else -1:=by
 unfold ak2;rw [ax6 hk,hf,if_pos (by omega),Int.toNat_natCast,hg]
theorem aH5 {x:Sch} {k:Nat} {kd:Knd} {s:ByteArray} (hk:x.kz[k]?=some kd) (hf:aa4 kd s<0):ak2 x k s = -1:=by
 unfold ak2;rw [ax6 hk,if_neg (by omega)]
theorem aL3 {x:Sch} {k:Nat} {s:ByteArray} (h:0<=ak2 x k s):ak2 x k s<k:=by
 unfold ak2 at *;split at h
 ·split at h
  ·rename_i g hg hk;simp only [hk,if_true];exact aA3 x k _ h
  ·omega
 ·omega
theorem ax9 {kd:Knd} {s:ByteArray} (h:¬ aa4 kd s<0):∃ (f:Nat) (g:Fld),aa4 kd s=(f:Int)/\kd.fields[f]?=some g:=by
 have h1:aa4 kd s<kd.fields.length:=ay3 _ _;refine⟨(aa4 kd s).toNat,_,by omega,zD (by omega)⟩
abbrev stC (p:Int × Int):List D:=[iD p.1,iD p.2]
def slSt (l:List (Int × Int)):D:=.sl 2 (l.map stC)
theorem aT2 (x:Sch):∀ (k:Nat) (l:List ByteArray),(ar8 x k l).length=l.length
 | _,[]=>rfl
 | _,[_]=>rfl
 | k,s::t::l=>by simp [ar8,aT2 x _ (t::l)]
theorem aU4 {x:Sch} {k:Nat} {s:ByteArray} {l:List ByteArray} (h:l≠[]):af4 x k (s::l)=(decide (0<=ak2 x k s)&&af4 x (ak2 x k s).toNat l):=by
 cases l with
 | nil=>exact absurd rfl h
 | cons t l=>rfl
theorem bi8 {x:Sch} {k:Nat} {s:ByteArray} {l:List ByteArray} (h:l≠[]):ar8 x k (s::l)=(aa4 (kdOf x k) s,ak2 x k s)::ar8 x (ak2 x k s).toNat l:=by
 cases l with
 | nil=>exact absurd rfl h
 | cons t l=>rfl
theorem sk69 {A B:Prop} (k:B) (h:Hd7 B->A:=by intro q7;(first|refine sb0 ?_|refine sb1 ?_|(refine' cp7x ?hc ?_;(case hc=>first|exact ah0 _ _ (by omega)|exact ay8 _ _ _ (by omega) hnf)));exact q7.1):A:=h ⟨k⟩
def xX:=@Int.toNat_of_nonneg
theorem aZ6 (x:Sch) (k:Nat) (l:List ByteArray) (hk:k<x.kz.length) (hl:l.length<=1000000) (hnk:x.kz.length<=1000000) (hnf:∀ k∈x.kz,k.fields.length<=1000000) :
  APure prog 106 [schD x,iD k,slS l] (if af4 x k l then .tup [slSt (ar8 x k l),bD true] else .tup [.v (.slice none 0 0),bD false]):=by
 have hne:∀ k0:Nat,k0<x.kz.length->x.kz[k0]?=some (kdOf x k0):=fun k0 h=>by
  obtain⟨kd,hkd⟩:∃ kd,x.kz[k0]?=some kd:=⟨_,zD h⟩
  rw [ax6 hkd];exact hkd
 refine eP7 func106 ntmps106 fun BB=>?_
 repeat' first|refine sk69 ?_|intro b;conv=>whnf
 refine aa5 mixed aa0 (γ:=Nat × Nat × List (Int × Int) × Value × aa1) (fun g=>[(1,iD g.2.1),(8,.v g.2.2.2.1),(15,iD g.1)]) (fun g=>g.2.2.2.2) (fun g=>g.1<=l.length/\g.2.1<x.kz.length/\g.2.2.1.length=g.1/\RowIs 234 2 (g.2.2.1.map stC) g.2.2.2.1 g.2.2.2.2/\af4 x k l=af4 x g.2.1 (l.drop g.1)/\(af4 x k l=true->ar8 x k l=g.2.2.1++ar8 x g.2.1 (l.drop g.1))) (fun g=>l.length-g.1) (0,k,[],.slice none 0 0,[]) (aa2 cl2) (Sc.refl _) ⟨zW _,hk,rfl,RowIs.nil _ _,by simp,by simp⟩ ?_;rintro⟨i,q,acc,v,s⟩ ⟨hi,hq,hal,hrow,hlead,hsteps⟩;simp only at hi hq hal hrow hlead hsteps ⊢;by_cases hil:i<l.length
 ·obtain⟨nm,hnm⟩:∃ y,l[i]?=some y:=⟨_,zD hil⟩
  have hnm':l[((i:Nat):Int).toNat]?=some nm:=hnm;have hkd:=hne q hq;have hkd':x.kz[((q:Nat):Int).toNat]?=some (kdOf x q):=hkd;have hfl:=hnf _ (zG hkd);generalize hkk:kdOf x q=kd at hkd hkd' hfl;rw [bH6 hnm] at hlead hsteps;by_cases hf:aa4 kd nm<0
  ·have hle:af4 x k l=false:=by
    rw [hlead];by_cases hn:l.drop (i+1)=[]
    ·rw [hn];simp only [af4];rw [hkk];exact yE (by omega)
    ·rw [aU4 hn,aH5 hkd hf];rfl
   rw [hle]
   repeat' first|refine sk69 ?_|intro b;conv=>whnf
   exact Rt.pure rfl
  ·obtain⟨f,g,hfx,hg⟩:=ax9 hf;have hg':kd.fields[(aa4 kd nm).toNat]?=some g:=by rw [hfx,Int.toNat_natCast];exact hg
   have hfl2:=(zE.1 hg).1;by_cases hlast:i+1=l.length
   ·have hn:l.drop (i+1)=[]:=List.drop_eq_nil_of_le (by omega);rw [hn] at hlead hsteps;simp only [af4,ar8,hkk] at hlead hsteps;have hle:af4 x k l=true:=by rw [hlead];exact yJ (by omega)
    have hs:=hsteps hle;rw [hle,hs]
    repeat' first|refine sk69 ?_|intro b;conv=>whnf
    refine Ap.go rfl rfl rfl rfl hrow (by simp:s.Perm (s++[])) rfl (zs:=(acc++[(aa4 kd nm,(-1:Int))]).map stC) (by simp) (by simp;omega) (by simp;omega) (fun s'=>s') (fun s'=>by simp) (fun a' c' s' hr'=>?_)
    repeat' first|refine sk69 ?_|intro b;conv=>whnf
    exact Rt.vs (Vs.vd (τ:=[]) ⟨s',by rw [zZ]⟩ (Vd.tup (.cons (Vd.row (ρ:=[]) hr' (by simp) (fun b hb=>by cases hb)) (.cons (Vd.same (fun b hb=>by cases hb) _) .nil))))
   ·have hn:l.drop (i+1)≠[]:=by intro e;have:=zM List.length e;simp at this;omega
    rw [aU4 hn] at hlead;rw [bi8 hn,hkk] at hsteps;have hnx:=aw0 hkd hfx hg;have hlt:=aL3 (x:=x) (k:=q) (s:=nm);rw [← hfx] at hnx;by_cases hg1:g.kind=1
    ·rw [if_pos hg1] at hnx;by_cases hup:upIx x q (aa4 kd nm)<0
     ·have hle:af4 x k l=false:=by rw [hlead,hnx,yE (by omega)];rfl
      rw [hle]
      repeat' first|refine sk69 ?_|intro b;conv=>whnf
      exact Rt.pure rfl
     ·obtain⟨u,hu⟩:∃ u:Nat,upIx x q (aa4 kd nm)=u:=⟨_,(xX (by omega)).symm⟩
      rw [hnx] at hlt hlead hsteps;have hlt2:=hlt (by omega);rw [hu,Int.toNat_natCast,yJ (by omega),Bool.true_and] at hlead;rw [hu,Int.toNat_natCast] at hsteps
      repeat' first|refine sk69 ?_|intro b;conv=>whnf
      refine Ap.go rfl rfl rfl rfl hrow (by simp:s.Perm (s++[])) rfl (zs:=(acc++[(aa4 kd nm,(u:Int))]).map stC) (by rw [hu];simp) (by simp;omega) (by simp;omega) (fun s'=>s') (fun s'=>by simp) (fun a' c' s' hr'=>?_)
      repeat' first|refine sk69 ?_|intro b;conv=>whnf
      exact⟨(i+1,u,acc++[(aa4 kd nm,(u:Int))],_,s'),(aa2 cl4),Sc.refl _,⟨by simp only;omega,by simp only;omega,by simp;omega,hr',hlead,fun h=>by rw [hsteps h];simp⟩,by simp only;omega⟩
    ·rw [if_neg hg1] at hnx;have hle:af4 x k l=false:=by rw [hlead,hnx];rfl
     rw [hle]
     repeat' first|refine sk69 ?_|intro b;conv=>whnf
     exact Rt.pure rfl
 ·obtain rfl:i=l.length:=by omega
  rw [List.drop_length] at hlead hsteps;simp only [af4,ar8,zZ] at hlead hsteps;rw [hlead,hsteps hlead]
  repeat' first|refine sk69 ?_|intro b;conv=>whnf
  have hr':=hrow;exact Rt.vs (Vs.vd (τ:=[]) ⟨s,by rw [zZ]⟩ (Vd.tup (.cons (Vd.row (ρ:=[]) hr' (by simp) (fun b hb=>by cases hb)) (.cons (Vd.same (fun b hb=>by cases hb) _) .nil))))
theorem bM8 (x:Sch) (k:Nat) (c:Cnd) (HI:APure prog 107 [schD x,iD k,cndD c] (bD (leadsB x k c))):APure prog 159 [cndD c,.ro (schC x),.ro [iD k]] (bD (!leadsB x k c)):=by
 refine eP7 func159 ntmps159 fun BB=>?_
 repeat' first|refine sk26 ?_|intro b;conv=>whnf
 refine Rt.pure (zM bD ?_);rfl
theorem sk70 {A B:Prop} (k:B) (h:Hd7 B->A:=by intro q7;(first|refine sb0 ?_|refine sb1 ?_|(refine' cp7x ?hc ?_;(case hc=>first|exact HP|exact HQ|exact HK)));exact q7.1):A:=h ⟨k⟩
theorem bD5 (x:Sch) (k:Nat) (hk:k<x.kz.length) (hnk:x.kz.length<=1000000) (hnf:∀ k∈x.kz,k.fields.length<=1000000):∀ (m:Nat) (c:Cnd),c.size<=m->c.All CndS->APure prog 107 [schD x,iD k,cndD c] (bD (leadsB x k c))
 | 0,c,h,_=>by rw [ai1] at h;omega
 | m+1,c,h,hA=>by
  have hkl:=c.kids_len;have hF:=aF0 x k c;obtain⟨⟨ho1,ho2⟩,hp,hq⟩:=hA.one;have HK:APure prog 158 [slC c.kids,.clo 159 [.ro (schC x),.ro [iD k]]] (bD (!c.kids.all (leadsB x k))):=bK0 c.kids (leadsB x k) ▸ ch8 _ _ (by omega) fun y hy=>bM8 x k y (bD5 x k hk hnk hnf m y (by have:=Cnd.kid_size hy;omega) (hA.kid hy));have HP:=aZ6 x k c.path hk (by omega) hnk hnf;have HQ:=aZ6 x k c.other hk (by omega) hnk hnf;unfold cndD cndC;rw [am9 c];refine eP7 func107 ntmps107 fun BB=>?_
  repeat' first|refine sk70 ?_|intro b;conv=>whnf
  refine ac2 mixed aa0 (γ:=Nat) (fun j=>[(17,iD j)]) (fun _=>[]) (fun j=>j<=2/\(1<=j->af4 x k c.path=true)/\(2<=j->af4 x k c.other=true)) (fun j=>2-j) 0 (aa2 cl2) cl3 ⟨by decide,fun h=>by omega,fun h=>by omega⟩ ?_;rintro j ⟨hj,h1,h2⟩;by_cases e0:j=0
  ·subst e0
   cases hl:af4 x k c.path with
   | true=>
    rw [hl] at HP
    repeat' first|refine sk70 ?_|intro b;conv=>whnf
    exact⟨1,(aa2 cl2),cl3,⟨by decide,fun _=>rfl,fun h=>by omega⟩,by decide⟩
   | false=>
    rw [hl] at HP hF
    repeat' first|refine sk70 ?_|intro b;conv=>whnf
    refine Rt.pure (zM bD ?_);rw [hF];rfl
  ·by_cases e1:j=1
   ·subst e1;have hl0:=h1 (by decide)
    cases hl:af4 x k c.other with
    | true=>
     rw [hl] at HQ
     repeat' first|refine sk70 ?_|intro b;conv=>whnf
     exact⟨2,(aa2 cl2),cl3,⟨by decide,fun _=>hl0,fun _=>rfl⟩,by decide⟩
    | false=>
     rw [hl,hl0] at hF;rw [hl] at HQ
     repeat' first|refine sk70 ?_|intro b;conv=>whnf
     refine Rt.pure (zM bD ?_);rw [hF];rfl
   ·obtain rfl:j=2:=by omega
    rw [h1 (by decide),h2 (by decide)] at hF
    repeat' first|refine sk70 ?_|intro b;conv=>whnf
    refine Rt.pure (zM bD ?_);rw [hF];simp
theorem sk71 {A B:Prop} (k:B) (h:Hd7 B->A:=by intro q7;(first|refine sb0 ?_|refine sb1 ?_|(refine' cp7x ?hc ?_;(case hc=>first|exact HC|exact HS|exact HP|exact HL|exact HF|exact aj7 _ _ (by assumption))));exact q7.1):A:=h ⟨k⟩
theorem sk72 {A B:Prop} (k:B) (h:Hd7 B->A:=by intro q7;(first|refine sb0 ?_|refine sb1 ?_|(refine' cp7x ?hc ?_;(case hc=>first|exact HC|exact HS|exact HP|exact HL|exact HF|exact HK)));exact q7.1):A:=h ⟨k⟩
theorem bD1 (x:Sch) (q:Qry) (hp:aj9 x=[]) (hnk:x.kz.length<=1000000) (hnf:∀ k∈x.kz,k.fields.length<=1000000) (hs:q.cond.size<=1000000) (hl:q.path.length<=1000000) (hA:q.cond.All CndS) (HV:APure prog 143 [schD x] (iD (ad4 x))) :
  APure prog 59 [schD x,qryD q] (iD (ap6 x q)):=by
 have HC:=aW7 x HV;rw [hp] at HC;have HS:=cc4 q.cond hs;have HF:=bD3 q hl hA;have hki:aa9 x q.kind<x.kz.length:=ay3 _ _;unfold ap6
 cases h1:av7 q.cond with
 | false=>
  rw [h1] at HS;refine eP7 func59 ntmps59 fun BB=>?_
  repeat' first|refine sk71 ?_|intro b;conv=>whnf
  exact Rt.pure rfl
 | true=>
  rw [h1] at HS;rw [if_neg (by decide)]
  cases h2:as1 q with
  | false=>
   rw [h2] at HF;refine eP7 func59 ntmps59 fun BB=>?_
   repeat' first|refine sk71 ?_|intro b;conv=>whnf
   exact Rt.pure rfl
  | true=>
   rw [h2] at HF;rw [if_neg (by decide)];by_cases h3:aa9 x q.kind<0
   ·rw [if_pos h3];refine eP7 func59 ntmps59 fun BB=>?_
    repeat' first|refine sk71 ?_|intro b;conv=>whnf
    exact Rt.pure rfl
   ·rw [if_neg h3];obtain⟨k,hk⟩:∃ k:Nat,aa9 x q.kind=k:=⟨_,(xX (by omega)).symm⟩
    have HK:=aj7 x q.kind hnk;rw [hk] at HK hki ⊢;rw [Int.toNat_natCast];have HP:=aZ6 x k q.path (by omega) hl hnk hnf;have HL:=bD5 x k (by omega) hnk hnf q.cond.size q.cond (zT _) hA
    cases h4:af4 x k q.path with
    | false=>
     rw [h4] at HP;refine eP7 func59 ntmps59 fun BB=>?_
     repeat' first|refine sk72 ?_|intro b;conv=>whnf
     exact Rt.pure rfl
    | true=>
     rw [h4] at HP
     cases h5:leadsB x k q.cond with
     | false=>
      rw [h5] at HL;refine eP7 func59 ntmps59 fun BB=>?_
      repeat' first|refine sk72 ?_|intro b;conv=>whnf
      exact Rt.pure rfl
     | true=>
      rw [h5] at HL;refine eP7 func59 ntmps59 fun BB=>?_
      repeat' first|refine sk72 ?_|intro b;conv=>whnf
      exact Rt.pure rfl
end
section
open Go
theorem aE0 (op:Int):APure prog 96 [iD op] (iD (az5 op)):=by
 refine eP7 func96 ntmps96 fun BB=>?_
 repeat' first|refine sk2 ?_|intro b;conv=>whnf|with_reducible refine Br.d (fun hc=>?_) (fun hc=>?_)|with_reducible refine Br.b (fun hc=>?_) (fun hc=>?_)
 all_goals (refine Rt.pure (zM iD ?_);unfold az5;simp [*])
theorem sk73 {A B:Prop} (k:B) (h:Hd7 B->A:=by intro q7;(first|refine sb0 ?_|refine sb1 ?_|(refine' cp7x ?hc ?_;(case hc=>first|exact HA|exact HB)));exact q7.1):A:=h ⟨k⟩
theorem aY3 (x:Sch) (k:Nat) (s:ByteArray) (hk:k<x.kz.length) (hnk:x.kz.length<=1000000) (hnf:∀ k∈x.kz,k.fields.length<=1000000):APure prog 95 [schD x,iD k,sD s] (iD (ak2 x k s)):=by
 obtain⟨kd,hkd⟩:∃ kd,x.kz[k]?=some kd:=⟨_,zD hk⟩
 have hkd':x.kz[((k:Nat):Int).toNat]?=some kd:=hkd;have HA:=ag9 kd s (hnf kd (zG hkd));by_cases h:aa4 kd s<0
 ·have HB:=True.intro;refine eP7 func95 ntmps95 fun BB=>?_
  repeat' first|refine sk73 ?_|intro b;conv=>whnf
  refine Rt.pure (zM iD ?_);exact (aH5 hkd h).symm
 ·obtain⟨f,g,hf,hg⟩:=ax9 h;rw [hf] at HA;have hg':kd.fields[((f:Nat):Int).toNat]?=some g:=hg;have HB:=aB6 x k f hnk hnf;have e:=aw0 hkd hf hg;by_cases h1:g.kind=1
  ·rw [if_pos h1] at e;rw [e];refine eP7 func95 ntmps95 fun BB=>?_
   repeat' first|refine sk73 ?_|intro b;conv=>whnf
   refine Rt.pure (zM iD ?_)
   rfl
  ·rw [if_neg h1] at e;rw [e];refine eP7 func95 ntmps95 fun BB=>?_
   repeat' first|refine sk73 ?_|intro b;conv=>whnf
   refine Rt.pure (zM iD ?_)
   rfl
abbrev tkB (b:Nat) (xs:List Int) (pos:Int):Nat × Blk:=(b,.cells 118 [slI xs,iD pos])
theorem am1 (xs:List Int) (hx:I64s xs) (bm:Nat) (pos n:Int) (hp:0<=pos/\pos<=1000000000):ACall prog 55 [ptr bm,iD n] [tkB bm xs pos] (fun d σ=>d=iD (atE xs pos n)/\σ=[tkB bm xs (pos+1)]):=by
 have HA:=bp5 xs hx pos n;refine eC7 func55 ntmps55 fun BB=>?_
 repeat' first|refine sk27 ?_|intro b;conv=>whnf
 exact Rt.same ⟨rfl,rfl⟩
end
end Go.Proofs.YtlcfiilejnnlnaaGreatDoor
