/- A part of the proof: Ey Ez Ew R09. -/
import Derived.Test.YtlcfiilejnnlnaaGreatDoorK03
set_option maxRecDepth 100000
set_option maxHeartbeats 20000000
set_option linter.all false
namespace Go.Proofs.YtlcfiilejnnlnaaGreatDoor
open Tryz
section
open Go Go.RowKit Go.Shelf
def exG (L:List Oper) (f:Frm) (o:Oper) (K:Bool->Prop):Prop:=
 match o.guard with
 | none=>K true
 | some (j,want)=>match L[j]? with
  | none=>False
  | some o'=>match o'.dst with
   | none=>False
   | some t=>match ap4 f t with
    | some (.v x)=>match x with
     | .bool b=>(match want with|true=>Br b (K true) (K false)|false=>Br b (K false) (K true))
     | .tuple _=>K false
     | _=>False
    | _=>False
def aF8 (P:Program) (T:TypeId->Option TI) (N:Nat) (L:List Oper) (σ:aa1):List Oper->(Frm->Prop)->Frm->Prop
 | [],K,f=>K f
 | o::rest,K,f=>exG L f o fun go=>match go with
  | true=>bif aj0 o.op then exY P T o f σ (fun d=>putK N o.dst d f (aF8 P T N L σ rest K)) else False
  | false=>putK N o.dst (.v undef) f (aF8 P T N L σ rest K)
def az7 (P:Program) (T:TypeId->Option TI) (N:Nat) (L:List Oper) (σ:aa1) (s:Nat) (t0:TypeId):List Oper->(Frm->Prop)->Frm->Prop
 | [],K,f=>K f
 | o::rest,K,f=>exG L f o fun go=>match go with
  | true=>bif aj0 o.op then
    (bif isAl (some (s,t0)) o then (match o.op with
     | .alloc t=>bif Nat.beq t t0 then putK N o.dst .any f (az7 P T N L σ s t0 rest K) else False
     | _=>False)
    else exY P T o f σ (fun d=>putK N o.dst d f (az7 P T N L σ s t0 rest K))) else False
  | false=>putK N o.dst (.v undef) f (az7 P T N L σ s t0 rest K)
def bn2 (s idx:Nat):List Oper->Nat->Bool
 | [],_=>true
 | o::l,cur=>(match o.dst with|some i=>bif Nat.beq i s then Nat.beq cur idx else true|none=>true)&&bn2 s idx l (cur+1)
def bY2 (d:D) (K:List D->Prop):Prop:=match d with
 | .any=>False
 | .agg cs=>au4 cs K
 | .v x=>match x with
  | .agg vs=>au4 (vs.toList.map .v) K
  | y=>K [.v y]
 | d=>K [d]
structure Sv (σ:aa1) (b off:Nat) (new:List D) (sz:Nat) (K:aa1->Prop):Prop where
 run:∃ (j:Nat) (tb:TypeId) (cs:List D) (σ':aa1),σ[j]?=some (b,.cells tb cs)/\new.length=sz/\off+sz<=cs.length/\new.all oneD=true/\(σ.set j (b,.cells tb (spl cs off new))).Perm σ'/\K σ'
structure CE (P:Program) (g:FuncId) (args:List D) (σ:aa1) (K:D->aa1->Prop):Prop where
 run:∃ (s t:aa1) (R:D->aa1->Prop),σ.Perm (s++t)/\ACall P g args s R/\∀ d s',R d s'->∃ σ',(s'++t).Perm σ'/\K d σ'
structure Ap (P:Program) (T:TypeId->Option TI) (σ:aa1) (p x:D) (t:TypeId) (K:D->aa1->Prop):Prop where
 run:∃ (e:TypeId) (i j:TI) (ag:Bool) (k by_:Nat) (xs ys:List (List D)) (v:Value) (s s2 τ:aa1),T t=some i/\i.sl=some (e,ag,k,by_)/\T e=some j/\j.zero.length=j.size/\0<k/\j.size=k /\
  p = .v v/\((x = .sl k ys/\s2=[])\/∃ v2,x = .v v2/\RowIs e k ys v2 s2)/\RowIs e k xs v s/\σ.Perm (s++(s2++τ))/\(∀ y∈ys,y.all oneD=true)/\(xs.length+ys.length)*by_<=140737488355328/\xs.length+ys.length<=1000000000 /\
  ((∀ v' s',RowIs e k (xs++ys) v' s'->∃ σ',(s'++τ).Perm σ'/\K (.v v') σ')\/K (.sl k (xs++ys)) τ)
structure Mk (T:TypeId->Option TI) (σ:aa1) (t:TypeId) (x y:D) (K:D->aa1->Prop):Prop where
 run:∃ (e:TypeId) (i j:TI) (ag:Bool) (by_ m:Nat) (z:ZV),T t=some i/\i.sl=some (e,ag,1,by_)/\T e=some j/\j.zero=[z]/\j.size=1/\x = .v (.int .i64 m)/\y = .v (.int .i64 m)/\by_*m<=281474976710656/\m<=1000000000 /\
  ∀ b,K (.v (.slice (some ⟨b,0,none⟩) m m)) ((b,.cells e (List.replicate m (.v (zv z))))::σ)
structure OtE (P:Program) (r:Option Nat) (n:Nat) (df:Nat) (L:List Oper) (N:Nat) (o:Oper) (f:Frm) (σ:aa1) (K:Frm->aa1->Prop):Prop where
 run:∀ (rest:List Oper) (Q:Pst) (a:List D),Sp N a f->ap1 L.toArray a o=some true->(∀ f' σ' a',K f' σ'->Sp N a' f'->AOps P r n df L.toArray Q rest a' σ')->AOps P r n df L.toArray Q (o::rest) a σ
def exOp (P:Program) (T:TypeId->Option TI) (r:Option Nat) (n:Nat) (df:Nat) (N:Nat) (L:List Oper) (o:Oper) (f:Frm) (σ:aa1) (K:Frm->aa1->Prop):Prop:=
 match o.op with
 | .alloc t=>match T t with
  | none=>False
  | some i=>bif Nat.beq i.zero.length i.size&&Nat.blt 0 i.size then au4 (i.zero.map fun z=>.v (zv z)) fun cs=>∀ b,putK N o.dst (.v (.pointer (some ⟨b,0,none⟩))) f (fun f'=>K f' ((b,.cells t cs)::σ)) else False
 | .store t p x=>match T t with
  | none=>False
  | some i=>match evF f p with
   | .v (.pointer (some ⟨b,off,none⟩))=>bY2 (evF f x) fun new=>Sv σ b off new i.size fun σ'=>putK N o.dst (.v undef) f (fun f'=>K f' σ')
   | _=>False
 | .makeSlice t x y=>ab7 (evF f x) fun dx=>ab7 (evF f y) fun dy=>Mk T σ t dx dy fun d σ'=>putK N o.dst d f (fun f'=>K f' σ')
 | .call c=>match c.callee with
  | .builtin .append=>match c.args.toList,c.argTypes.toList with
   | [p,x],[t,t']=>bif Nat.beq t t' then Bx (ab7 (evF f p) fun dp=>ab7 (evF f x) fun dx=>Ap P T σ dp dx t fun d σ'=>putK N o.dst d f (fun f'=>K f' σ')) (OtE P r n df L N o f σ K) else OtE P r n df L N o f σ K
   | _,_=>False
  | .builtin .copy=>OtE P r n df L N o f σ K
  | .value _=>match bx9 o.op (evF f) with
   | some (g,ds)=>au4 ds fun ds=>CE P g ds σ fun d σ'=>ab7 d fun d=>putK N o.dst d f (fun f'=>K f' σ')
   | none=>False
  | _=>exY P T o f σ (fun d=>putK N o.dst d f (fun f'=>K f' σ))
 | .buildSlice t m ps=>match m with
  | 0=>match T t with
   | none=>False
   | some i=>match i.sl with
    | none=>False
    | some (e,_,k,_)=>match T e with
     | none=>False
     | some j=>bif Nat.beq j.zero.length j.size&&Nat.beq j.size k&&Nat.blt 0 k&&ps.toList.isEmpty then ∀ b,putK N o.dst (.v (.slice (some ⟨b,0,none⟩) 0 0)) f (fun f'=>K f' σ) else False
  | _=>Bx (exY P T o f σ (fun d=>putK N o.dst d f (fun f'=>K f' σ))) (OtE P r n df L N o f σ K)
 | .binOp b _ _ y _=>match b with
  | .eql=>match evF f y with
   | .v (.slice none 0 0)=>OtE P r n df L N o f σ K
   | _=>exY P T o f σ (fun d=>putK N o.dst d f (fun f'=>K f' σ))
  | _=>exY P T o f σ (fun d=>putK N o.dst d f (fun f'=>K f' σ))
 | .makeMap _ _=>OtE P r n df L N o f σ K
 | .mapUpdate _ _ _ _=>OtE P r n df L N o f σ K
 | .mapEntry _ _ _=>OtE P r n df L N o f σ K
 | .entryStore _ _ _ _=>OtE P r n df L N o f σ K
 | .insert _ _ _ _=>OtE P r n df L N o f σ K
 | .lookup _ _ _ _=>OtE P r n df L N o f σ K
 | .box _ _=>Bx (exY P T o f σ (fun d=>putK N o.dst d f (fun f'=>K f' σ))) (OtE P r n df L N o f σ K)
 | _=>exY P T o f σ (fun d=>putK N o.dst d f (fun f'=>K f' σ))
def aI1 (P:Program) (T:TypeId->Option TI) (r:Option Nat) (n:Nat) (df:Nat) (N:Nat) (L:List Oper):List Oper->(Frm->aa1->Prop)->Frm->aa1->Prop
 | [],K,f,σ=>K f σ
 | o::rest,K,f,σ=>exG L f o fun go=>match go with
  | true=>bif aj0 o.op then exOp P T r n df N L o f σ (aI1 P T r n df N L rest K) else False
  | false=>putK N o.dst (.v undef) f (fun f'=>aI1 P T r n df N L rest K f' σ)
abbrev Fst:=Exit->Frm->aa1->Prop
def bO5 (N:Nat) (Q:Fst):Pst:=fun e a σ=>∃ f,Sp N a f/\Q e f σ
def bB0 (next:Frm->aa1->Prop) (Q:Fst):Fst
 | .normal,f,σ=>next f σ
 | e,f,σ=>Q e f σ
def bY3 (id:Nat) (Q:Fst):Fst
 | .exit id',f,σ=>bif Nat.beq id' id then Q .normal f σ else Q (.exit id') f σ
 | e,f,σ=>Q e f σ
structure Lp (P:Program) (r:Option Nat) (n:Nat) (df:Nat) (N:Nat) (c:Code) (Q:Fst) (f:Frm) (σ:aa1):Prop where
 run:∀ a,Sp N a f->AWP P r n df c (bO5 N Q) a σ
structure Dr (b:Bool) (A B:Prop):Prop where
 run:(b=true/\A)\/B
def cp6:List Oper->Nat->List Nat->List Nat
 | [],_,acc=>acc
 | o::l,i,acc=>cp6 l (i+1) (bif effO o.op||o.after.toList.any (fun e=>Region.binds .any e&&acc.any (Nat.beq e.on)) then i::acc else acc)
def be5 (L:List Oper):List Nat:=(cp6 L 0 []).reverse
def mxE (L:List Oper) (i:Nat):Bool:=(be5 L).any (Nat.beq i)
def mxHs (L:List Oper):List Nat:=(List.range L.length).filter fun i=>!mxE L i
def mxB (L:List Oper):Bool:=Nat.beq ((mxHs L).length+(be5 L).length) L.length&&mixB .any L.toArray (mxE L) (be5 L) (mxHs L) (Array.replicate L.length false)
def cutF (L:List Tmp):Frm->Frm
 | []=>[]
 | (i,d)::f=>bif L.any (Nat.beq i) then (i,d)::cutF L f else cutF L f
def cn5 (o:Oper) (f:Frm):Bool:=match o.op with
 | .load _ p=>match evF f p with | .v _=>true | _=>false
 | .lookup _ _ _ _=>true
 | _=>false
structure Cb (b:Bool) (A:Prop):Prop where
 s:b=true
 k:A
def exHs (P:Program) (T:TypeId->Option TI) (N:Nat) (L:List Oper) (E:Nat->Bool) (σ:aa1):List Nat->(Frm->Prop)->Frm->Prop
 | [],K,f=>K f
 | i::hs,K,f=>match L[i]? with
  | none=>False
  | some o=>exG L f o fun go=>match go with
   | true=>bif aj0 o.op then
     (match cn5 o f with
     | true=>Cb (barB .any L.toArray E i) (exY P T o f σ (fun d=>putK N o.dst d f (exHs P T N L E σ hs K)))
     | false=>exY P T o f [] (fun d=>putK N o.dst d f (exHs P T N L E σ hs K))) else False
   | false=>putK N o.dst (.v undef) f (exHs P T N L E σ hs K)
def bg0 (P:Program) (T:TypeId->Option TI) (r:Option Nat) (n:Nat) (df:Nat) (N:Nat) (L:List Oper):List Nat->(Frm->aa1->Prop)->Frm->aa1->Prop
 | [],K,f,σ=>K f σ
 | k::l,K,f,σ=>match L[k]? with
  | none=>False
  | some o=>aI1 P T r n df N L [o] (fun f' σ'=>match o.dst with
    | none=>bg0 P T r n df N L l K f σ'
    | some i=>match ap4 f' i with
     | none=>False
     | some d=>bif Nat.blt i N then bg0 P T r n df N L l K ((i,d)::f) σ' else False) (cutF (o.looksAt L.toArray) f) σ
structure Dm (b:Bool) (A B:Prop):Prop where
 run:(b=true/\A)\/B
def bH3 (P:Program) (T:TypeId->Option TI) (r:Option Nat) (n:Nat) (df:Nat) (N:Nat) (L:List Oper) (K:Frm->aa1->Prop) (B:Prop) (f:Frm) (σ:aa1):Prop:=
 Dm (mxB L) (exHs P T N L (mxE L) σ (mxHs L) (fun f'=>bg0 P T r n df N L (be5 L) K f' σ) f) B
def aC0 (P:Program) (T:TypeId->Option TI) (r:Option Nat) (n:Nat) (df:Nat) (N:Nat) (L:List Oper) (k:Nat) (K:Frm->aa1->Prop) (f:Frm) (σ:aa1):Prop:=match L[k]? with
  | none=>False
  | some o=>aI1 P T r n df N L [o] (fun f' σ'=>match o.dst with
    | none=>K f σ'
    | some i=>match ap4 f' i with
     | none=>False
     | some d=>bif Nat.blt i N then K ((i,d)::f) σ' else False) (cutF (o.looksAt L.toArray) f) σ
def bb0 (P:Program) (T:TypeId->Option TI) (r:Option Nat) (n:Nat) (df:Nat) (N:Nat) (L:List Oper) (K:Frm->aa1->Prop):Ord->Frm->aa1->Prop
 | .done,f,σ=>K f σ
 | .one i t,f,σ=>aC0 P T r n df N L i (bb0 P T r n df N L K t) f σ
 | .two i t j u,f,σ=>aC0 P T r n df N L i (bb0 P T r n df N L K t) f σ/\aC0 P T r n df N L j (bb0 P T r n df N L K u) f σ
 | .three i t j u k v,f,σ=>aC0 P T r n df N L i (bb0 P T r n df N L K t) f σ/\aC0 P T r n df N L j (bb0 P T r n df N L K u) f σ/\aC0 P T r n df N L k (bb0 P T r n df N L K v) f σ
def ao9 (P:Program) (T:TypeId->Option TI) (r:Option Nat) (n:Nat) (df:Nat) (N:Nat):Code->Fst->Frm->aa1->Prop
 | .skip,Q,f,σ=>Q .normal f σ
 | .ret,Q,f,σ=>Q .ret f σ
 | .exit id,Q,f,σ=>Q (.exit id) f σ
 | .seq x y,Q,f,σ=>ao9 P T r n df N x (bB0 (ao9 P T r n df N y Q) Q) f σ
 | .cond c x y,Q,f,σ=>match evF f c with
  | .v (.bool t)=>Bc t (ao9 P T r n df N x Q f σ) (ao9 P T r n df N y Q f σ) (Lp P r n df N (.cond c x y) Q f σ)
  | _=>False
 | .block id b,Q,f,σ=>ao9 P T r n df N b (bY3 id Q) f σ
 | .region id ops draw,Q,f,σ=>match draw with
  | false=>aI1 P T r n df N ops.toList ops.toList (Q .normal) f σ
  | true=>match ch0 ops.toList with
   | none=>Dr (Region.lexB .any ops) (aF8 P T N ops.toList σ ops.toList (fun f'=>Q .normal f' σ) f) (Lp P r n df N (.region id ops true) Q f σ)
   | some m=>match ops.toList[m]? with
    | none=>False
    | some o0=>match o0.op with
     | .alloc t0=>(match ch0 (ops.toList.drop (m+1)) with
      | none=>Dr (Region.lexTailB .any ops m) (aF8 P T N ops.toList σ (ops.toList.take m) (fun f'=>aI1 P T r n df N ops.toList (ops.toList.drop m) (Q .normal) f' σ) f) (bH3 P T r n df N ops.toList (Q .normal) (Lp P r n df N (.region id ops true) Q f σ) f σ)
      | some m2=>match o0.dst with
       | none=>False
       | some s=>match T t0 with
        | none=>False
        | some ti=>bif Nat.beq ti.zero.length ti.size&&Nat.blt 0 ti.size&&Nat.blt s N&&bn2 s m ops.toList 0&&o0.guard.isNone then
          Dr (Region.lexTailB .any ops (m+1+m2)) (az7 P T N ops.toList σ s t0 (ops.toList.take (m+1+m2)) (fun f'=>au4 (ti.zero.map fun z=>.v (zv z)) fun cs=>∀ b,aI1 P T r n df N ops.toList (ops.toList.drop (m+1+m2)) (Q .normal) ((s,.v (.pointer (some ⟨b,0,none⟩)))::f') ((b,.cells t0 cs)::σ)) f) (bH3 P T r n df N ops.toList (Q .normal) (Lp P r n df N (.region id ops true) Q f σ) f σ)
         else False)
     | _=>Dr (Region.lexTailB .any ops m) (aF8 P T N ops.toList σ (ops.toList.take m) (fun f'=>aI1 P T r n df N ops.toList (ops.toList.drop m) (Q .normal) f' σ) f) (bH3 P T r n df N ops.toList (Q .normal) (Lp P r n df N (.region id ops true) Q f σ) f σ)
 | .loop b,Q,f,σ=>Lp P r n df N (.loop b) Q f σ
 | c,Q,f,σ=>Lp P r n df N c Q f σ
section
variable {P:Program} {r:Option Nat} {n:Nat} {df:Nat} {N:Nat} {σ:aa1} {a:List D} {f:Frm} {T:TypeId->Option TI} {L:List Oper}
theorem aI5 {Lq Lq':List D->Prop} {ops:Array Oper} (h:∀ a,Lq a->Lq' a):∀ {l:List Oper} {a:List D},aD4 none P ops σ Lq l a->aD4 none P ops σ Lq' l a
 | [],a,hh=>h _ hh
 | o::l,a,hh=>by
  rcases hh with ⟨h1,h2,d,h3,h4⟩|⟨h1,h2⟩
  ·exact .inl ⟨h1,h2,d,h3,aI5 h h4⟩
  ·exact .inr ⟨h1,aI5 h h2⟩
theorem bh7 {Lq Lq':List D->Prop} {ops:Array Oper} {l:List Oper} (hh:aD4 none P ops σ Lq l a) (h:∀ a,Lq a->Lq' a):ALex P ops σ Lq' l a:=⟨aI5 h hh⟩
theorem bm0 {ops:Array Oper} {Q:Pst} {s t:aa1} {o:Oper} {rest:List Oper} {g:FuncId} {ds:List D} {R:D->aa1->Prop} {ρ:Operand->D} (hw:ap1 ops a o=some true) (hn:aj0 o.op=true) (hle:∀ x,Le (evD a x) (ρ x)) (h:bx9 o.op ρ=some (g,ds)) (hc:ACall P g ds s R)
  (k:∀ d s',R d s'->AOps P r n df ops Q rest (putD a o.dst d) (s'++t)):AOps P r n df ops Q (o::rest) a (s++t):=by
 refine ah3 hw hn fun w X fr hs=>?_;obtain⟨vs,h1,h2⟩:=bt0 (P:=P) (w:=w) (ρ:=ρ) h hc.ent (fun x _=>hle x _ _ _ (hs.fr.eval x));rw [h2];refine⟨rfl,(hc.run w _ vs ⟨h1.len,fun j d u g1 g2=>bC5 (h1.at_ j d u g1 g2)⟩ hs.st.left).mono ?_⟩;rintro e w' ⟨u,d,s',g1,g2,g3,g4,g5⟩;obtain⟨q1,q2,q3,q4⟩:=stays hs.st g4 g5;exact⟨u,g1,d,s'++t,q2,(⟨hs.fr.keep g5.keep.size q3 q4,q1,hs.df.keep g5.keep.size q3 q4⟩:St w' X df a (s'++t) fr).put (cc0 g3) o.dst,k d s' g2⟩
theorem bJ6 (hT:∀ t i,T t=some i->tiOf P t=some i) {ops:Array Oper} {Q:Pst} {o:Oper} {rest:List Oper} {t e:TypeId} {i j:TI} {ag:Bool} {k by_:Nat} (hw:ap1 ops a o=some true) (ho:o.op = .buildSlice t 0 #[]) (ht:T t=some i) (hi:i.sl=some (e,ag,k,by_)) (he:T e=some j)
  (hz:j.zero.length=j.size) (hk:j.size=k) (hp:0<k) (kk:∀ b,AOps P r n df ops Q rest (putD a o.dst (.v (.slice (some ⟨b,0,none⟩) 0 0))) σ):AOps P r n df ops Q (o::rest) a σ:=by
 refine ah3 hw (by rw [ho];rfl) fun w X fr hs=>?_;obtain⟨hu,hsz,_⟩:=al0 (hT t i ht) hi;have hsz':=(aq0 hsz w).2;obtain⟨z,g1,g2⟩:=aw5 (hT e j he) hz (by omega) w;have hr0:(Array.range 0:Array Nat) = #[]:=rfl;have e0:(execOp fr.eval o).run P w = .ok (.value (.slice (some ⟨w.heap.size,0,none⟩) 0 0)) (w.alloc (.cells #[] e)):=by
  simp only [execOp,ho];simp [Instr.buildSlice,run_underlying hu,hsz',Result.andThen,newRow,newObj,Sem.run,hr0,Instr.fill]
 rw [e0];have hx:Ex w (w.alloc (.cells #[] e)):=(Ex.refl w).alloc;exact⟨_,σ,pA2 hx,(hs.ex hx).put (.v _) o.dst,kk _⟩
theorem Mv.wider {w w':World} {s t u:aa1} (h:Mv w s w' u) (hk:∀ b,b∈aa6 s->b∈aa6 t):Mv w t w' u:=
 ⟨h.keep.mono (fun b _ hb=>hk b hb),fun b hb=>(h.new b hb).imp (hk b) id⟩
theorem Mv.fewer {w w':World} {s t u:aa1} (h:Mv w s w' u) (hk:∀ b,b∈aa6 t->b∈aa6 u):Mv w s w' t:=
 ⟨h.keep,fun b hb=>h.new b (hk b hb)⟩
def xQ:=@List.Sublist.refl
def zV:=@List.append_assoc
def yT:=@List.perm_append_comm
theorem bh6 (hT:∀ t i,T t=some i->tiOf P t=some i) {ops:Array Oper} {Q:Pst} {s s2 τ:aa1} {o:Oper} {rest:List Oper} {p x:Operand} {t e:TypeId} {i j:TI} {ag:Bool} {k by_:Nat} {xs ys:List (List D)} {v:Value} (hw:ap1 ops a o=some true)
  (ho:o.op = .call { callee:=.builtin .append,args:=#[p,x],argTypes:=#[t,t] }) (ht:T t=some i) (hi:i.sl=some (e,ag,k,by_)) (he:T e=some j) (hz:j.zero.length=j.size) (hp:0<k) (hk:j.size=k)
  (hpv:evD a p = .v v) (hx:(evD a x = .sl k ys/\s2=[])\/∃ v2,evD a x = .v v2/\RowIs e k ys v2 s2) (hr:RowIs e k xs v s) (h1:∀ y∈ys,y.all oneD=true) (hb:(xs.length+ys.length)*by_<=140737488355328) (hm:xs.length+ys.length<=1000000000)
  (kk:(∀ v' s',RowIs e k (xs++ys) v' s'->AOps P r n df ops Q rest (putD a o.dst (.v v')) (s'++τ))\/AOps P r n df ops Q rest (putD a o.dst (.sl k (xs++ys))) τ):AOps P r n df ops Q (o::rest) a (s++(s2++τ)):=by
 refine ah3 hw (by rw [ho];rfl) fun w X fr hs=>?_;have hv:=(hs.fr.eval p).val hpv;have hsub:(s++τ).Sublist (s++(s2++τ)):=(xQ s).append (wI _ _);have hkey:∀ b,b∈aa6 (s++τ)->b∈aa6 (s++(s2++τ)):=fun b hb=>(hsub.map Prod.fst).subset hb;have hst:StOK w X (s++τ):=hs.st.sub hsub;have hu:Rd w (Own (s++τ) X) (.sl k ys) (fr.eval x):=by
  have h0:=hs.fr.eval x;rcases hx with ⟨hx,rfl⟩|⟨v2,hx,hr2⟩
  ·rw [hx] at h0;exact h0
  ·rw [hx] at h0;have h0:=h0.val rfl;rw [h0];refine aJ1 hr2 (hs.st.perm ?_);rw [← zV,← zV];exact yT.append_right _
 obtain⟨v',w',s',g1,g2,g3,g4⟩:=by1 (ty:=o.type) (hT t i ht) hi (hT e j he) hz hp hk hr hst.left (bC5 hu) h1 hb (by unfold maxLen;omega);have ee:(execOp fr.eval o).run P w = .ok (.value v') w':=by
  simp only [execOp,ho,resolve,invoke,builtin,Sem.run_bind,Sem.run_pure,Result.andThen,vD,List.map_cons,List.map_nil,hv,g1]
 rw [ee];obtain⟨q1,q2,q3,q4⟩:=stays hst g3 g4;have hO:∀ b,b<w.heap.size->¬ Own (s++(s2++τ)) X b->¬ Own (s'++τ) X b:=fun b hb hn=>q3 b hb (an4 hsub b hn);have hH:∀ b,b<w.heap.size->¬ Own (s++(s2++τ)) X b->w'.heap[b]?=w.heap[b]?:=fun b hb hn=>q4 b hb (an4 hsub b hn);rcases kk with kk|kk
 ·exact⟨_,_,q2.wider hkey,(⟨hs.fr.keep g4.keep.size hO hH,q1,hs.df.keep g4.keep.size hO hH⟩:St w' X df a (s'++τ) fr).put (.v _) o.dst,kk v' s' g2⟩
 ·have hsub2:τ.Sublist (s'++τ):=wI _ _;refine⟨_,_,(q2.wider hkey).fewer (fun b hb=>(hsub2.map Prod.fst).subset hb),?_,kk⟩;exact (⟨hs.fr.keep g4.keep.size (fun b hb hn=>an4 hsub2 b (hO b hb hn)) hH,q1.sub hsub2,hs.df.keep g4.keep.size (fun b hb hn=>an4 hsub2 b (hO b hb hn)) hH⟩:St w' X df a τ fr).put (aJ1 g2 q1) o.dst
theorem aV2 {o:Oper} {K:Bool->Prop} (h:exG L f o K) (hs:Sp N a f):∃ go,ap1 L.toArray a o=some go/\K go:=by
 unfold exG at h;split at h
 ·rename_i hg;exact⟨true,by simp only [ap1,hg],h⟩
 ·rename_i j want hg;split at h
  ·exact h.elim
  ·rename_i o' ho;split at h
   ·exact h.elim
   ·rename_i t ht;have hb:(L.toArray[j]?).bind (·.dst)=some t:=by simp [ho,ht]
    split at h
    ·rename_i x hx;have ha:a[t]?=some (.v x):=by
      rcases hs.at_ t _ hx with h1|h1
      ·cases h1
      ·exact h1
     split at h
     ·rename_i b;have hw:ap1 L.toArray a o=some (b==want):=by simp only [ap1,hg,hb,ha]
      split at h<;>cases b
      ·exact⟨false,hw,h.no rfl⟩
      ·exact⟨true,hw,h.yes rfl⟩
      ·exact⟨true,hw,h.no rfl⟩
      ·exact⟨false,hw,h.yes rfl⟩
     ·exact⟨false,by simp only [ap1,hg,hb,ha],h⟩
     ·exact h.elim
    ·exact h.elim
theorem aF7 (hT:∀ t i,T t=some i->tiOf P t=some i):∀ {l:List Oper} {K:Frm->Prop} {f:Frm} {a:List D},aF8 P T N L σ l K f->Sp N a f->aD4 none P L.toArray σ (fun a'=>∃ f',Sp N a' f'/\K f') l a
 | [],K,f,a,h,hs=>⟨f,hs,h⟩
 | o::rest,K,f,a,h,hs=>by
  obtain⟨go,hw,h1⟩:=aV2 (K:=fun go=>match go with
   | true=>bif aj0 o.op then exY P T o f σ (fun d=>putK N o.dst d f (aF8 P T N L σ rest K)) else False
   | false=>putK N o.dst (.v undef) f (aF8 P T N L σ rest K)) h hs
  cases go with
  | true=>
   obtain⟨hn,h2⟩:=ag7 h1;obtain⟨d,hy,h3⟩:=aV1 hT h2;obtain⟨f',hs',h4⟩:=ae5 h3 hs;exact .inl ⟨hw,hn,d,.of (hy.le hs.le),aF7 hT h4 hs'⟩
  | false=>
   obtain⟨f',hs',h4⟩:=ae5 h1 hs;exact .inr ⟨hw,aF7 hT h4 hs'⟩
theorem aB2 (hT:∀ t i,T t=some i->tiOf P t=some i) {s:Nat} {t0:TypeId}:∀ {l:List Oper} {K:Frm->Prop} {f:Frm} {a:List D},az7 P T N L σ s t0 l K f->Sp N a f->aD4 (some (s,t0)) P L.toArray σ (fun a'=>∃ f',Sp N a' f'/\K f') l a
 | [],K,f,a,h,hs=>⟨f,hs,h⟩
 | o::rest,K,f,a,h,hs=>by
  obtain⟨go,hw,h1⟩:=aV2 (K:=fun go=>match go with
   | true=>bif aj0 o.op then
     (bif isAl (some (s,t0)) o then (match o.op with
      | .alloc t=>bif Nat.beq t t0 then putK N o.dst .any f (az7 P T N L σ s t0 rest K) else False
      | _=>False)
     else exY P T o f σ (fun d=>putK N o.dst d f (az7 P T N L σ s t0 rest K))) else False
   | false=>putK N o.dst (.v undef) f (az7 P T N L σ s t0 rest K)) h hs
  cases go with
  | true=>
   obtain⟨hn,h2⟩:=ag7 h1
   cases hal:isAl (some (s,t0)) o with
   | true=>
    rw [hal] at h2;simp only [cond_true] at h2;split at h2
    ·rename_i t hop;obtain⟨ht,h3⟩:=ag7 h2;have:=yH ht;subst this;obtain⟨f',hs',h4⟩:=ae5 h3 hs;have hdst:o.dst=some s:=by
      unfold isAl at hal;simp only at hal;split at hal
      ·rename_i i hi;have:=yH hal;subst this;exact hi
      ·cases hal
     exact .inl ⟨hw,hn,.any,.inr ⟨hal,⟨s,t,rfl,hop,hdst⟩,rfl⟩,aB2 hT h4 hs'⟩
    ·exact h2.elim
   | false=>
    rw [hal] at h2;simp only [cond_false] at h2;obtain⟨d,hy,h3⟩:=aV1 hT h2;obtain⟨f',hs',h4⟩:=ae5 h3 hs;exact .inl ⟨hw,hn,d,.inl ⟨hal,hy.le hs.le⟩,aB2 hT h4 hs'⟩
  | false=>
   obtain⟨f',hs',h4⟩:=ae5 h1 hs;exact .inr ⟨hw,aB2 hT h4 hs'⟩
theorem bc0 {s idx:Nat}:∀ {l:List Oper} {cur:Nat},bn2 s idx l cur=true->∀ (j:Nat) o,l[j]?=some o->o.dst=some s->cur+j=idx
 | [],cur,_,j,o,h,_=>by simp at h
 | x::l,cur,hu,j,o,h,hd=>by
  simp only [bn2,zJ] at hu
  cases j with
  | zero=>
   simp at h;subst h;rw [hd] at hu;have h1:=hu.1;simp only [Nat.beq_refl,cond_true] at h1;exact yH h1
  | succ j=>
   have:=bc0 hu.2 j o (by simpa using h) hd;omega
theorem aA1 {al:Option (Nat × TypeId)} {Lq Lq':List D->Prop} {ops:Array Oper} (h:∀ a,Lq a->Lq' a):∀ {l:List Oper} {a:List D},aD4 al P ops σ Lq l a->aD4 al P ops σ Lq' l a
 | [],a,hh=>h _ hh
 | o::l,a,hh=>by
  rcases hh with ⟨h1,h2,d,h3,h4⟩|⟨h1,h2⟩
  ·exact .inl ⟨h1,h2,d,h3,aA1 h h4⟩
  ·exact .inr ⟨h1,aA1 h h2⟩
theorem Sp.set (h:Sp N a f) {s:Nat} {d:D} (hs:s<N):Sp N (a.set s d) ((s,d)::f):=by
 have:=ae5 (dst:=some s) (d:=d) (K:=fun f'=>f'=(s,d)::f) (by simp [putK,hs]) h;obtain⟨f',h1,rfl⟩:=this;exact h1
theorem bI1 {d:D} {K:List D->Prop} (h:bY2 d K):be2 d=true/\d ≠ .any/\K (ag3 d):=by
 cases d with
 | any=>exact h.elim
 | agg cs=>exact⟨rfl,(fun h=>by cases h),ak5 h⟩
 | v x=>
  refine⟨rfl,(fun h=>by cases h),?_⟩
  cases x<;>first|exact ak5 h|exact h
 | sl k xs=>exact⟨rfl,(fun h=>by cases h),h⟩
 | ro cs=>exact⟨rfl,(fun h=>by cases h),h⟩
 | tup ds=>exact⟨rfl,(fun h=>by cases h),h⟩
 | clo g cs=>exact⟨rfl,(fun h=>by cases h),h⟩
 | gl g=>exact⟨rfl,(fun h=>by cases h),h⟩
 | ifc t d=>exact⟨rfl,(fun h=>by cases h),h⟩
theorem cg7 (hT:∀ t i,T t=some i->tiOf P t=some i) {o:Oper} {K:Frm->aa1->Prop} {rest:List Oper} {Q:Pst} (hn:aj0 o.op=true) (h:exOp P T r n df N L o f σ K) (hs:Sp N a f) (hw:ap1 L.toArray a o=some true)
  (hk:∀ f' σ' a',K f' σ'->Sp N a' f'->AOps P r n df L.toArray Q rest a' σ'):AOps P r n df L.toArray Q (o::rest) a σ:=by
 have yy:exY P T o f σ (fun d=>putK N o.dst d f (fun f'=>K f' σ))->AOps P r n df L.toArray Q (o::rest) a σ:=fun h=>by
  obtain⟨d,hy,h3⟩:=aV1 hT h;obtain⟨f',hs',h4⟩:=ae5 h3 hs;exact bJ3 hw hn (hy.le hs.le) (hk _ _ _ h4 hs')
 have oo:OtE P r n df L N o f σ K->AOps P r n df L.toArray Q (o::rest) a σ:=fun h=>h.run rest Q a hs hw hk;have eqv:∀ {x:Operand} {v:Value},evF f x = .v v->evD a x = .v v:=fun h=>hs.eq h (fun h=>by cases h);unfold exOp at h;split at h
 ·rename_i t ho;split at h
  ·exact h.elim
  ·rename_i i hi;obtain⟨h1,h2⟩:=ag7 h;simp only [zJ,wT] at h1;have h3:=ak5 (K:=fun cs=>∀ b,putK N o.dst (.v (.pointer (some ⟨b,0,none⟩))) f (fun f'=>K f' ((b,.cells t cs)::σ))) h2;refine by4 hT hw ho hi (yH h1.1) h1.2 (fun b=>?_);obtain⟨f',hs',h4⟩:=ae5 (h3 b) hs;exact hk _ _ _ h4 hs'
 ·rename_i t p x ho;split at h
  ·exact h.elim
  ·rename_i i hi;split at h
   ·rename_i b off hp;obtain⟨g1,g2,g3⟩:=bI1 h;obtain⟨j,tb,cs,σ',k1,k2,k3,k4,kp,k5⟩:=g3.run;obtain⟨f',hs',h4⟩:=ae5 k5 hs;have hx:=hs.eq (x:=x) rfl g2;exact by3 hT hw ho hi (eqv hp) hx k1 g1 k2 rfl (by omega) k4 (aA0 kp (hk _ _ _ h4 hs'))
   ·exact h.elim
 ·rename_i t x y ho;obtain⟨e,i,j,ag,by_,m,z,h1,h2,h3,h4,h5,h6,h7,h8,h9,h10⟩:=(ae8 (K:=fun dy=>Mk T σ t (evF f x) dy fun d σ'=>putK N o.dst d f (fun f'=>K f' σ')) (ae8 (K:=fun dx=>ab7 (evF f y) fun dy=>Mk T σ t dx dy fun d σ'=>putK N o.dst d f (fun f'=>K f' σ')) h)).run;refine bJ5 hT hw ho (eqv h6) (eqv h7) h1 h2 h3 h4 h5 h8 h9 (fun b=>?_);obtain⟨f',hs',h11⟩:=ae5 (h10 b) hs;exact hk _ _ _ h11 hs'
 ·rename_i c ho;split at h
  ·rename_i hc;split at h
   ·rename_i p x t t' e2 e3
    cases htt:Nat.beq t t' with
    | false=>rw [htt] at h;exact oo h
    | true=>
    rw [htt] at h;have hap:Bx _ _:=h;rcases hap.run.symm with hap|hap
    ·exact oo hap
    have hap:=ae8 (K:=fun dx=>Ap P T σ (evF f p) dx t fun d σ'=>putK N o.dst d f (fun f'=>K f' σ')) (ae8 (K:=fun dp=>ab7 (evF f x) fun dx=>Ap P T σ dp dx t fun d σ'=>putK N o.dst d f (fun f'=>K f' σ')) hap);have:=yH htt;subst this;obtain⟨e,i,j,ag,k,by_,xs,ys,v,s,s2,τ,h1,h2,h3,h4,h5,h6,h7,h8,h9,h10,h11,h12,h13,h14⟩:=hap.run;have ho':o.op = .call { callee:=.builtin .append,args:=#[p,x],argTypes:=#[t,t] }:=by
     obtain⟨callee,args,ats⟩:=c;simp only at hc e2 e3;have g2:args = #[p,x]:=by apply wJ;simpa using e2
     have g3:ats = #[t,t]:=by apply wJ;simpa using e3
     rw [ho,hc,g2,g3]
    refine aA0 h10 (bh6 hT hw ho' h1 h2 h3 h4 h5 h6 (eqv h7) ?_ h9 h11 h12 h13 ?_)
    ·rcases h8 with ⟨h8,h8'⟩|⟨v2,h8,h8'⟩
     ·exact .inl ⟨hs.eq h8 (fun h=>by cases h),h8'⟩
     ·exact .inr ⟨v2,eqv h8,h8'⟩
    ·rcases h14 with h14|h14
     ·refine .inl (fun v' s' hr=>?_);obtain⟨σ',hpm,h14⟩:=h14 v' s' hr;obtain⟨f',hs',h15⟩:=ae5 h14 hs;exact aA0 hpm (hk _ _ _ h15 hs')
     ·obtain⟨f',hs',h15⟩:=ae5 h14 hs;exact .inr (hk _ _ _ h15 hs')
   ·exact h.elim
  ·exact oo h
  ·split at h
   ·rename_i g ds hc;have h:=ak5 (K:=fun ds=>CE P g ds σ fun d σ'=>ab7 d fun d=>putK N o.dst d f (fun f'=>K f' σ')) h;obtain⟨s,t,R,h1,h2,h3⟩:=h.run;refine aA0 h1 (bm0 hw hn hs.le hc h2 (fun d s' hr=>?_));obtain⟨σ',hpm,h3⟩:=h3 d s' hr;obtain⟨f',hs',h4⟩:=ae5 (ae8 h3) hs;exact aA0 hpm (hk _ _ _ h4 hs')
   ·exact h.elim
  ·exact yy h
 ·rename_i t m ps ho;split at h
  ·split at h
   ·exact h.elim
   ·rename_i i hi;split at h
    ·exact h.elim
    ·rename_i e ag k by_ hsl;split at h
     ·exact h.elim
     ·rename_i j hj;obtain⟨h1,h2⟩:=ag7 h;simp only [zJ] at h1;have hps:ps = #[]:=by have:=h1.2;apply wJ;simpa using this
      subst hps;refine bJ6 hT hw ho hi hsl hj (yH h1.1.1.1) (yH h1.1.1.2) (by simpa [wT] using h1.1.2) (fun b=>?_);obtain⟨f',hs',h4⟩:=ae5 (h2 b) hs;exact hk _ _ _ h4 hs'
  ·exact h.run.elim yy oo
 ·split at h
  ·split at h
   ·exact oo h
   ·exact yy h
  ·exact yy h
 ·exact oo h
 ·exact oo h
 ·exact oo h
 ·exact oo h
 ·exact oo h
 ·exact oo h
 ·exact h.run.elim yy oo
 ·exact yy h
theorem aB3 (hT:∀ t i,T t=some i->tiOf P t=some i) {Q:Pst}:∀ {l:List Oper} {K:Frm->aa1->Prop} {f:Frm} {σ:aa1} {a:List D},aI1 P T r n df N L l K f σ->Sp N a f->(∀ f' σ' a',K f' σ'->Sp N a' f'->Q .normal a' σ')->AOps P r n df L.toArray Q l a σ
 | [],K,f,σ,a,h,hs,hk=>bt4 (hk f σ a h hs)
 | o::rest,K,f,σ,a,h,hs,hk=>by
  obtain⟨go,hw,h1⟩:=aV2 (K:=fun go=>match go with
   | true=>bif aj0 o.op then exOp P T r n df N L o f σ (aI1 P T r n df N L rest K) else False
   | false=>putK N o.dst (.v undef) f (fun f'=>aI1 P T r n df N L rest K f' σ)) h hs
  cases go with
  | true=>
   obtain⟨hn,h2⟩:=ag7 h1;exact cg7 hT hn h2 hs hw (fun f' σ' a' h3 hs'=>aB3 hT h3 hs' hk)
  | false=>
   obtain⟨f',hs',h4⟩:=ae5 h1 hs;exact bJ4 hw (aB3 hT h4 hs' hk)
theorem aQ5 {Ls:List Tmp}:∀ {f:Frm} {i:Nat} {d:D},ap4 (cutF Ls f) i=some d->ap4 f i=some d/\i∈Ls
 | [],i,d,h=>by simp [cutF,ap4] at h
 | (j,e)::f,i,d,h=>by
  simp only [cutF] at h
  cases hb:Ls.any (Nat.beq j) with
  | true=>
   rw [hb] at h;simp only [cond_true,ap4] at h ⊢
   cases hj:Nat.beq j i with
   | true=>
    rw [hj] at h;simp only [cond_true,xB] at h;have:=yH hj;subst this h;obtain⟨k,hk,hk2⟩:=wC.1 hb;have:=yH hk2;subst this;exact⟨rfl,hk⟩
   | false=>
    rw [hj] at h;exact aQ5 h
  | false=>
   rw [hb] at h;simp only [cond_false] at h;obtain⟨h1,h2⟩:=aQ5 h;simp only [ap4]
   cases hj:Nat.beq j i with
   | true=>
    have:=yH hj;subst this;have:Ls.any (Nat.beq j)=true:=wC.2 ⟨j,h2,by simp⟩;rw [hb] at this;cases this
   | false=>exact⟨h1,h2⟩
theorem Sp.cut (h:Sp N a f) (Ls:List Tmp):Sp N (only Ls a) (cutF Ls f):=by
 refine⟨by rw [bq3];exact h.len,fun i d hd=>?_⟩;obtain⟨h1,h2⟩:=aQ5 hd;rcases h.at_ i d h1 with h3|h3
 ·exact .inl h3
 ·exact .inr (by simp [only,List.getElem?_mapIdx,h3,h2])
theorem aD3 (hT:∀ t i,T t=some i->tiOf P t=some i):∀ {hs:List Nat} {E:Nat->Bool} {K:Frm->Prop} {f:Frm} {a:List D},exHs P T N L E σ hs K f->Sp N a f->gLex P .any L.toArray E (fun a' σ'=>σ'=σ/\∃ f',Sp N a' f'/\K f') hs a σ
 | [],E,K,f,a,h,hs=>⟨rfl,f,hs,h⟩
 | i::il,E,K,f,a,h,hs=>by
  unfold exHs at h;split at h
  ·exact h.elim
  ·rename_i o ho;have ho':L.toArray[i]?=some o:=by simpa using ho
   obtain⟨go,hw,h1⟩:=aV2 (K:=fun go=>match go with
    | true=>bif aj0 o.op then
      (match cn5 o f with
      | true=>Cb (barB .any L.toArray E i) (exY P T o f σ (fun d=>putK N o.dst d f (exHs P T N L E σ il K)))
      | false=>exY P T o f [] (fun d=>putK N o.dst d f (exHs P T N L E σ il K))) else False
    | false=>putK N o.dst (.v undef) f (exHs P T N L E σ il K)) h hs
   cases go with
   | true=>
    obtain⟨hn,h2⟩:=ag7 h1;split at h2
    ·obtain⟨d,hy,h3⟩:=aV1 hT h2.k;obtain⟨f',hs',h4⟩:=ae5 h3 hs;exact⟨o,d,ho',.inl ⟨h2.s,.inl ⟨hw,hn,.of (hy.le hs.le)⟩⟩,aD3 hT h4 hs'⟩
    ·obtain⟨d,hy,h3⟩:=aV1 hT h2;obtain⟨f',hs',h4⟩:=ae5 h3 hs;exact⟨o,d,ho',.inr (.inl ⟨hw,hn,.of (hy.le hs.le)⟩),aD3 hT h4 hs'⟩
   | false=>
    obtain⟨f',hs',h4⟩:=ae5 h1 hs;exact⟨o,_,ho',.inr (.inr ⟨hw,rfl⟩),aD3 hT h4 hs'⟩
theorem ar4 (hT:∀ t i,T t=some i->tiOf P t=some i) {E:Nat->Bool} {k:Nat} {K:Frm->aa1->Prop} {G:List D->aa1->Prop} (hE:E k=true) (h:aC0 P T r n df N L k K f σ) (hs:Sp N a f)
  (hk:∀ f' σ' a',K f' σ'->Sp N a' f'->G a' σ'):gOp P r n df L.toArray E k G a σ:=by
 unfold aC0 at h;split at h
 ·exact h.elim
 ·rename_i o ho;have ho':L.toArray[k]?=some o:=by simpa using ho
  unfold gOp;rw [ho'];simp only [hE];refine aB3 hT h (hs.cut _) (fun f' σ' a' h' hs'=>⟨rfl,by rw [hs'.len,hs.len],?_⟩)
  cases hd:o.dst with
  | none=>
   rw [hd] at h';exact⟨.any,(fun i hi=>by cases hi),hk _ _ _ h' hs⟩
  | some i=>
   rw [hd] at h';simp only at h';split at h'
   ·exact h'.elim
   ·rename_i d hf';obtain⟨hi,h2⟩:=ag7 h';rw [wT] at hi;have hia:i<a'.length:=by rw [hs'.len];exact hi
    refine⟨a'[i],fun j hj _=>by cases hj;exact zD hia,hk _ _ _ h2 ?_⟩;refine⟨by simp [putD,hs.len],fun j d' hj=>?_⟩;simp only [ap4] at hj
    cases he:Nat.beq i j with
    | true=>
     rw [he] at hj;simp only [cond_true,xB] at hj;have:=yH he;subst this hj;rcases hs'.at_ i _ hf' with h3|h3
     ·exact .inl h3
     ·right;rw [zD hia] at h3;simp only [xB] at h3;simp [putD,hs.len,hi,h3]
    | false=>
     rw [he] at hj;have hne:i≠j:=fun e=>by subst e;simp at he
     rcases hs.at_ j d' hj with h1|h1
     ·exact .inl h1
     ·exact .inr (by simp [putD,xP,hne,h1])
theorem bf9 (hT:∀ t i,T t=some i->tiOf P t=some i):∀ {l:List Nat} {K:Frm->aa1->Prop} {f:Frm} {σ:aa1} {a:List D},(∀ k∈l,mxE L k=true)->bg0 P T r n df N L l K f σ->Sp N a f->gSeq P r n df L.toArray (mxE L) (fun a' σ'=>∃ f',Sp N a' f'/\K f' σ') l a σ
 | [],K,f,σ,a,hE,h,hs=>⟨f,hs,h⟩
 | k::l,K,f,σ,a,hE,h,hs=>by
  have h':aC0 P T r n df N L k (bg0 P T r n df N L l K) f σ:=h;exact ar4 hT (hE k (by simp)) h' hs (fun f' σ' a' h2 hs'=>bf9 hT (fun k hk=>hE k (by simp [hk])) h2 hs')
def ay1 (p:Nat->Bool):Ord->Bool
 | .done=>true
 | .one i t=>p i&&ay1 p t
 | .two i t j u=>p i&&(ay1 p t&&(p j&&ay1 p u))
 | .three i t j u k v=>p i&&(ay1 p t&&(p j&&(ay1 p u&&(p k&&ay1 p v))))
theorem au5 (hT:∀ t i,T t=some i->tiOf P t=some i) {E:Nat->Bool}:∀ {t:Ord} {K:Frm->aa1->Prop} {f:Frm} {σ:aa1} {a:List D},ay1 E t=true->bb0 P T r n df N L K t f σ->Sp N a f->gOrd P r n df L.toArray E (fun a' σ'=>∃ f',Sp N a' f'/\K f' σ') t a σ
 | .done,K,f,σ,a,hE,h,hs=>⟨f,hs,h⟩
 | .one i t,K,f,σ,a,hE,h,hs=>by
  simp only [ay1,zJ] at hE;exact ar4 hT hE.1 h hs (fun f' σ' a' h2 hs'=>au5 hT hE.2 h2 hs')
 | .two i t j u,K,f,σ,a,hE,h,hs=>by
  simp only [ay1,zJ] at hE;exact⟨ar4 hT hE.1 h.1 hs (fun f' σ' a' h2 hs'=>au5 hT hE.2.1 h2 hs'),ar4 hT hE.2.2.1 h.2 hs (fun f' σ' a' h2 hs'=>au5 hT hE.2.2.2 h2 hs')⟩
 | .three i t j u k v,K,f,σ,a,hE,h,hs=>by
  simp only [ay1,zJ] at hE;exact⟨ar4 hT hE.1 h.1 hs (fun f' σ' a' h2 hs'=>au5 hT hE.2.1 h2 hs'),ar4 hT hE.2.2.1 h.2.1 hs (fun f' σ' a' h2 hs'=>au5 hT hE.2.2.2.1 h2 hs'),ar4 hT hE.2.2.2.2.1 h.2.2 hs (fun f' σ' a' h2 hs'=>au5 hT hE.2.2.2.2.2 h2 hs')⟩
theorem az6 {E:Nat->Bool} {ops:Array Oper} {K K':List D->aa1->Prop} (h:∀ a σ,K a σ->K' a σ):∀ {hs:List Nat} {a:List D},gLex P .any ops E K hs a σ->gLex P .any ops E K' hs a σ
 | [],a,hh=>h _ _ hh
 | i::hs,a,hh=>let ⟨o,d,h1,h2,h3⟩:=hh;⟨o,d,h1,h2,az6 h h3⟩
theorem bs8 (hm:P.follows .mixedOrders=true) (hT:∀ t i,T t=some i->tiOf P t=some i) {id:Nat} {Q:Fst} (h:bH3 P T r n df N L (Q .normal) (Lp P r n df N (.region id L.toArray true) Q f σ) f σ) (hs:Sp N a f):AWP P r n df (.region id L.toArray true) (bO5 N Q) a σ:=by
 rcases h.run with ⟨hb,hk⟩|h
 ·unfold mxB at hb;rw [zJ] at hb;refine bh4 (mxE L) (mxHs L) (be5 L) hm (yH hb.1) hb.2 (az6 (fun a' σ' h'=>?_) (aD3 hT hk hs));obtain⟨rfl,f',hs',h'⟩:=h';exact bf9 hT (fun k hk=>wC.2 ⟨k,hk,by simp⟩) h' hs'
 ·exact h.run a hs
theorem ao8 (hm:P.follows .mixedOrders=true) (hT:∀ t i,T t=some i->tiOf P t=some i):∀ {c:Code} {Q:Fst} {f:Frm} {σ:aa1} {a:List D},ao9 P T r n df N c Q f σ->Sp N a f->AWP P r n df c (bO5 N Q) a σ:=by
 intro c
 induction c with
 | skip=>intro Q f σ a h hs;exact bR8 ⟨f,hs,h⟩
 | ret=>intro Q f σ a h hs;exact ch4 ⟨f,hs,h⟩
 | exit id=>intro Q f σ a h hs;exact bR9 ⟨f,hs,h⟩
 | seq x y ihx ihy=>
  intro Q f σ a h hs;refine ch3 (as4 (ihx h hs) ?_);rintro e a' σ' ⟨f',hs',h'⟩
  cases e<;>first|exact ihy h' hs' | exact⟨f',hs',h'⟩
 | cond c x y ihx ihy=>
  intro Q f σ a h hs;simp only [ao9] at h;split at h
  ·rename_i t ht;rcases h.run with h|h
   ·exact bI7 (hs.eq ht (fun h=>by cases h)) (fun e=>ihx (h.yes e) hs) (fun e=>ihy (h.no e) hs)
   ·exact h.run a hs
  ·exact h.elim
 | block id b ih=>
  intro Q f σ a h hs;refine bJ1 (as4 (ih h hs) ?_);rintro e a' σ' ⟨f',hs',h'⟩
  cases e with
  | exit id'=>
   simp only [bY3] at h';simp only [bI3]
   cases hb:Nat.beq id' id with
   | true=>rw [hb] at h';rw [if_pos (yH hb)];exact⟨f',hs',h'⟩
   | false=>rw [hb] at h';rw [if_neg (fun e=>by subst e;simp at hb)];exact⟨f',hs',h'⟩
  | _=>exact⟨f',hs',h'⟩
 | region id ops draw=>
  intro Q f σ a h hs;obtain⟨l⟩:=ops;simp only [ao9] at h
  cases draw with
  | false=>exact by0 (aB3 (L:=l) hT h hs (fun f' σ' a' h' hs'=>⟨f',hs',h'⟩))
  | true=>
   simp only at h;split at h
   ·rcases h.run with ⟨hb,hk⟩|h
    ·exact bS1 hm hb (bh7 (aF7 (L:=l) hT hk hs) (fun a' ⟨f',hs',h'⟩=>⟨f',hs',h'⟩))
    ·exact h.run a hs
   ·rename_i m he;have old:Dr (Region.lexTailB .any l.toArray m) (aF8 P T N l σ (l.take m) (fun f'=>aI1 P T r n df N l (l.drop m) (Q .normal) f' σ) f) (bH3 P T r n df N l (Q .normal) (Lp P r n df N (.region id l.toArray true) Q f σ) f σ)->AWP P r n df (.region id l.toArray true) (bO5 N Q) a σ:=fun h=>by
     rcases h.run with ⟨hb,hk⟩|hmx
     ·refine bb6 m hm hb (bh7 (aF7 (L:=l) hT hk hs) (fun a' ⟨f',hs',h'⟩=>?_));exact aB3 (L:=l) hT h' hs' (fun f' σ' a' h' hs'=>⟨f',hs',h'⟩)
     ·exact bs8 hm hT hmx hs
    split at h
    ·exact h.elim
    ·rename_i o0 ho0;split at h
     ·rename_i t0 hop;split at h
      ·exact old h
      ·rename_i m2 he2;split at h
       ·exact h.elim
       ·rename_i s hd0;split at h
        ·exact h.elim
        ·rename_i ti hti;obtain⟨hc,hk⟩:=ag7 h;simp only [zJ,wT] at hc;obtain⟨⟨⟨⟨c1,c2⟩,c3⟩,c4⟩,c5⟩:=hc;rcases hk.run with ⟨hkb,hk⟩|hmx
         ·refine bh3 (m+1+m2) m s t0 o0 hT hti (yH c1) c2 hm hkb ho0 (by omega) hop hd0 (by simpa using c5) (fun j o hj hd=>by have:=bc0 c4 j o hj hd;omega) (by rw [hs.len];exact c3)
           (aA1 (fun a' ⟨f',hs',h'⟩=>⟨by rw [hs'.len,hs.len],fun b=>?_⟩) (aB2 (L:=l) hT hk hs))
          have h2:=ak5 (K:=fun cs=>∀ b,aI1 P T r n df N l (l.drop (m+1+m2)) (Q .normal) ((s,.v (.pointer (some ⟨b,0,none⟩)))::f') ((b,.cells t0 cs)::σ)) h' b;exact aB3 (L:=l) hT h2 (hs'.set c3) (fun f' σ' a' h' hs'=>⟨f',hs',h'⟩)
         ·exact bs8 hm hT hmx hs
     ·exact old h
 | loop b ih=>intro Q f σ a h hs;exact h.run a hs
 | rangeFunc x p s b ih1 ih2=>intro Q f σ a h hs;exact h.run a hs
 | scope b ih=>intro Q f σ a h hs;exact h.run a hs
 | label l=>intro Q f σ a h hs;exact h.run a hs
 | goto l=>intro Q f σ a h hs;exact h.run a hs
 | refuse w=>intro Q f σ a h hs;exact h.run a hs
end
end
section
open Go Go.RowKit Go.Shelf
structure W (p:Prop):Prop where
 h:p
def memN:Nat->List Nat->Bool
 | _,[]=>false
 | i,j::l=>bif Nat.beq i j then true else memN i l
def bH9:List Nat->Frm->Frm
 | _,[]=>[]
 | js,(i,d)::f=>bif memN i js then bH9 js f else (i,d)::bH9 (i::js) f
def asg:Code->List Nat
 | .region _ ops _=>ops.toList.filterMap (·.dst)
 | .seq x y=>asg x++asg y
 | .cond _ x y=>asg x++asg y
 | .block _ b=>asg b
 | .loop b=>asg b
 | .rangeFunc _ ps x y=>ps.toList++(asg x++asg y)
 | .scope b=>asg b
 | _=>[]
def at6 (c:Code) (f:Frm) (ps:Frm):Frm:=ps++bH9 (ps.map Prod.fst++asg c) f
def chkF (f' F:Frm):Prop:=F.map (fun p=>ap4 f' p.1)=F.map (fun p=>some p.2)
def aF5:Frm->(Frm->Prop)->Prop
 | [],K=>K []
 | (i,d)::f,K=>aF5 f fun f=>K ((i,d)::f)
theorem ar2:∀ {f:Frm} {K:Frm->Prop},aF5 f K->K f
 | [],_,h=>h
 | (i,d)::f,K,h=>ar2 (K:=fun f=>K ((i,d)::f)) h
def yQ:=@List.mem_cons_of_mem
theorem aP7:∀ {f:Frm} {i:Nat} {d:D},ap4 f i=some d->(i,d)∈f
 | [],i,d,h=>by simp [ap4] at h
 | (j,e)::f,i,d,h=>by
  simp only [ap4] at h
  cases hb:Nat.beq j i with
  | true=>rw [hb] at h;simp at h;have:=yH hb;subst this h;simp
  | false=>rw [hb] at h;exact yQ _ (aP7 h)
theorem bR5 {f' F:Frm} (h:chkF f' F) {i:Nat} {d:D} (hl:ap4 F i=some d):ap4 f' i=some d:=by
 have hm:=aP7 hl;unfold chkF at h;obtain⟨j,hj⟩:=yO hm;have h1:(F.map (fun p=>ap4 f' p.1))[j]?=(F.map (fun p=>some p.2))[j]?:=by rw [h]
 simp [hj] at h1;exact h1
theorem Sp.sub {N:Nat} {a:List D} {f' F:Frm} (hs:Sp N a f') (h:chkF f' F):Sp N a F:=
 ⟨hs.len,fun i d hd=>hs.at_ i d (bR5 h hd)⟩
section
variable {P:Program} {r:Option Nat} {n:Nat} {df:Nat} {N:Nat} {σ:aa1} {a:List D} {f:Frm} {T:TypeId->Option TI} {Q:Fst}
theorem ac6 (hm:P.follows .mixedOrders=true) (hT:∀ t i,T t=some i->tiOf P t=some i) {c:Code} {γ:Type} (ps:γ->Frm) (S:γ->aa1) (I:γ->Prop) (μ:γ->Nat) (g₀:γ)
  (h1:chkF f (at6 c f (ps g₀))) (h2:σ=S g₀) (h3:I g₀)
  (h4:∀ g,I g->W (aF5 (at6 c f (ps g)) fun F=>ao9 P T r n df N c (bB0 (fun f' σ'=>∃ g',chkF f' (at6 c f (ps g'))/\σ'=S g'/\I g'/\μ g' < μ g) Q) F (S g))) :
  Lp P r n df N (.loop c) Q f σ:=by
 refine⟨fun a hs=>?_⟩;refine bb5 (fun m a σ=>∃ g,μ g=m/\I g/\Sp N a (at6 c f (ps g))/\σ=S g) (μ g₀) ⟨g₀,rfl,h3,hs.sub h1,h2⟩ ?_;rintro m a σ ⟨g,rfl,hI,hS,rfl⟩;refine as4 (ao8 hm hT (ar2 (h4 g hI).h) hS) ?_;rintro e a' σ' ⟨f',hs',h'⟩
 cases e with
 | normal=>obtain⟨g',k1,k2,k3,k4⟩:=h';exact⟨μ g',k4,g',rfl,k3,hs'.sub k1,k2⟩
 | _=>exact⟨f',hs',h'⟩
structure Vs (σ:aa1) (d:D) (σ':aa1) (d':D):Prop where
 run:∀ (w:World) (X:Nat->Prop) (u:Value),StOK w X σ->Rd w (Own σ X) d u->StOK w X σ'/\Rd w (Own σ' X) d' u
 sub:∀ b,b∈aa6 σ'->b∈aa6 σ
theorem Vs.refl (σ:aa1) (d:D):Vs σ d σ d:=⟨fun _ _ _ h1 h2=>⟨h1,h2⟩,fun _ h=>h⟩
theorem Vs.le {σ:aa1} {d d':D} (h:Le d d'):Vs σ d σ d':=⟨fun _ _ _ h1 h2=>⟨h1,h _ _ _ h2⟩,fun _ h=>h⟩
theorem Vs.trans {σ σ' σ'':aa1} {d d' d'':D} (h:Vs σ d σ' d') (k:Vs σ' d' σ'' d''):Vs σ d σ'' d'':=
 ⟨fun w X u h1 h2=>let ⟨g1,g2⟩:=h.run w X u h1 h2;k.run w X u g1 g2,fun b hb=>h.sub b (k.sub b hb)⟩
structure Rt (R:D->aa1->Prop) (d:D) (σ:aa1):Prop where
 run:∃ d' σ',Vs σ d σ' d'/\R d' σ'
theorem ACall.vs {P:Program} {g:FuncId} {args:List D} {σ:aa1} {R:D->aa1->Prop} (h:ACall P g args σ (fun d σ'=>Rt R d σ')):ACall P g args σ R:=
 ⟨h.ent,fun w X vs hv hs=>(h.run w X vs hv hs).mono fun e w' ⟨u,d,σ',h1,⟨d',σ'',h2,h3⟩,h4,h5,h6⟩=>
  let ⟨g1,g2⟩:=h2.run w' X u h5 h4;⟨u,d',σ'',h1,h3,g2,g1,h6.keep,fun b hb=>h6.new b (h2.sub b hb)⟩⟩
structure Rs (P:Program) (N:Nat) (fn:Func) (f:Frm) (σ:aa1) (K:D->Prop):Prop where
 run:∃ d,(∀ a,Sp N a f->ResOK P fn a σ d)/\K d
def bQ7 (P:Program) (N:Nat) (fn:Func) (f:Frm) (σ:aa1) (K:D->Prop):Prop:=
 match fn.results.toList with
 | []=>K (.v (.tuple #[]))
 | [.tmp i]=>ab7 (evF f (.tmp i)) K
 | [.tmp i,.tmp j]=>ab7 (evF f (.tmp i)) fun d=>ab7 (evF f (.tmp j)) fun e=>K (.tup [d,e])
 | [.tmp i,.tmp j,.tmp k]=>ab7 (evF f (.tmp i)) fun d=>ab7 (evF f (.tmp j)) fun e=>ab7 (evF f (.tmp k)) fun g=>K (.tup [d,e,g])
 | [.tmp i1,.tmp i2,.tmp i3,.tmp i4,.tmp i5]=>ab7 (evF f (.tmp i1)) fun d1=>ab7 (evF f (.tmp i2)) fun d2=>ab7 (evF f (.tmp i3)) fun d3=>ab7 (evF f (.tmp i4)) fun d4=>ab7 (evF f (.tmp i5)) fun d5=>K (.tup [d1,d2,d3,d4,d5])
 | _=>Rs P N fn f σ K
def retF (P:Program) (N:Nat) (fn:Func) (R:D->aa1->Prop):Fst
 | .ret,f,σ=>bQ7 P N fn f σ fun d=>Rt R d σ
 | .normal,f,σ=>bQ7 P N fn f σ fun d=>Rt R d σ
 | _,_,_=>False
theorem ResOK.le {fn:Func} {d d':D} (h:ResOK P fn a σ d) (hl:Le d d'):ResOK P fn a σ d':=fun w X t hf hs=>let ⟨u,h1,h2⟩:=h w X t hf hs;⟨u,h1,hl _ _ _ h2⟩
theorem aq3 (hs:Sp N a f) (i:Nat):Le (a.getD i (.v undef)) (evF f (.tmp i)):=hs.le (.tmp i)
theorem aU9 {d:D} {K:D->Prop}:ab7 d K=K d:=by cases d<;>rfl
theorem bL8 {fn:Func} {i1 i2 i3:Tmp} (h:fn.results = #[.tmp i1,.tmp i2,.tmp i3]) :
  ResOK P fn a σ (.tup [a.getD i1 (.v undef),a.getD i2 (.v undef),a.getD i3 (.v undef)]):=fun w X t hf _=>by
 refine⟨.tuple #[t.getD i1 undef,t.getD i2 undef,t.getD i3 undef],by simp [results,h],?_⟩;have:=RdL.cons (al7 hf i1) (RdL.cons (al7 hf i2) (RdL.cons (al7 hf i3) RdL.nil));exact .tup _ _ this.len this.at_
theorem bs7 {fn:Func} {K:D->Prop} (h:bQ7 P N fn f σ K) (hs:Sp N a f):∃ d,ResOK P fn a σ d/\K d:=by
 unfold bQ7 at h;split at h
 ·rename_i e;exact⟨_,bM0 (by apply wJ;simpa using e),h⟩
 ·rename_i i e;exact⟨_,(cb5 (i:=i) (by apply wJ;simpa using e)).le (aq3 hs i),ae8 h⟩
 ·rename_i i j e;refine⟨_,(bL9 (i:=i) (j:=j) (by apply wJ;simpa using e)).le (br1 (.cons (aq3 hs i) (.cons (aq3 hs j) .nil))),?_⟩;exact ae8 (K:=fun e=>K (.tup [_,e])) (ae8 (K:=fun d=>ab7 (evF f (.tmp j)) fun e=>K (.tup [d,e])) h)
 ·rename_i i j k e;simp only [aU9] at h;exact⟨_,(bL8 (i1:=i) (i2:=j) (i3:=k) (by apply wJ;simpa using e)).le (br1 (.cons (aq3 hs i) (.cons (aq3 hs j) (.cons (aq3 hs k) .nil)))),h⟩
 ·rename_i i1 i2 i3 i4 i5 e;simp only [aU9] at h;exact⟨_,(bL7 (i1:=i1) (i2:=i2) (i3:=i3) (i4:=i4) (i5:=i5) (by apply wJ;simpa using e)).le (br1 (.cons (aq3 hs i1) (.cons (aq3 hs i2) (.cons (aq3 hs i3) (.cons (aq3 hs i4) (.cons (aq3 hs i5) .nil)))))),h⟩
 ·obtain⟨d,h1,h2⟩:=h.run;exact⟨d,h1 a hs,h2⟩
def argF:List D->Frm
 | []=>[]
 | [a]=>[(0,a)]
 | [a,b]=>[(0,a),(1,b)]
 | [a,b,c]=>[(0,a),(1,b),(2,c)]
 | [a,b,c,d]=>[(0,a),(1,b),(2,c),(3,d)]
 | [a,b,c,d,e]=>[(0,a),(1,b),(2,c),(3,d),(4,e)]
 | [a,b,c,d,e,g]=>[(0,a),(1,b),(2,c),(3,d),(4,e),(5,g)]
 | [a,b,c,d,e,g,h]=>[(0,a),(1,b),(2,c),(3,d),(4,e),(5,g),(6,h)]
 | [a,b,c,d,e,g,h,i]=>[(0,a),(1,b),(2,c),(3,d),(4,e),(5,g),(6,h),(7,i)]
 | _=>[]
theorem ch5 (l m:List D):∀ i d,ap4 (argF l) i=some d->d = .any\/(l++m)[i]?=some d:=by
 intro i d h;right;have key:∀ p∈argF l,(l++m)[p.1]?=some p.2:=by
  unfold argF;split<;>simp
 exact key _ (aP7 h)
theorem bY1 (hm:P.follows .mixedOrders=true) (hT:∀ t i,T t=some i->tiOf P t=some i) {g:FuncId} {fn:Func} {c:Code} {args:List D} {R:D->aa1->Prop} (hf:P.funcs[g]?=some fn) (hname:(fn.name == "runtime.NumGoroutine")=false) (hb:fn.body=some c) (hN:fn.ntmps=N) (hl:Nat.ble args.length N=true)
  (h:∀ B,W (ao9 P T none 9 B N c (retF P N fn R) (argF args) σ)):ACall P g args σ R:=by
 refine ACall.vs (bh8 hf hname hb fun B=>(as4 (ao8 hm hT (h B).h ⟨by rw [vL] at hl;simp [hN];omega,ch5 _ _⟩) ?_));rintro e a' σ' ⟨f',hs',h'⟩
 cases e with
 | ret=>exact bs7 (K:=fun d=>Rt R d σ') h' hs'
 | normal=>exact bs7 (K:=fun d=>Rt R d σ') h' hs'
 | _=>exact h'.elim
end
section
variable {P:Program} {σ:aa1} {A B:Prop} {T:TypeId->Option TI}
theorem Bc.l {t:Bool} {C:Prop} (h:Br t A B):Bc t A B C:=⟨.inl h⟩
theorem Bc.j {t:Bool} {C:Prop} (h:C):Bc t A B C:=⟨.inr h⟩
theorem Bx.l (h:W A):Bx A B:=⟨.inl h.h⟩
theorem Bx.r (h:B):Bx A B:=⟨.inr h⟩
theorem Br.tt (h:W A):Br true A B:=⟨fun _=>h.h,(fun e=>by cases e)⟩
theorem Br.ff (h:W B):Br false A B:=⟨(fun e=>by cases e),fun _=>h.h⟩
theorem Br.t {t:Bool} (e:t=true) (h:W A):Br t A B:=by subst e;exact Br.tt h
theorem Br.f {t:Bool} (e:t=false) (h:W B):Br t A B:=by subst e;exact Br.ff h
def yJ:=@decide_eq_true
theorem pA5 {p:Prop} [Decidable p] (e:p) (h:W A):Br (decide p) A B:=Br.t (yJ e) h
def yE:=@decide_eq_false
theorem Br.df {p:Prop} [Decidable p] (e:¬ p) (h:W B):Br (decide p) A B:=Br.f (yE e) h
theorem Br.d {p:Prop} [Decidable p] (h:p->W A) (k:¬ p->W B):Br (decide p) A B:=⟨fun e=>(h (wY e)).h,fun e=>(k (of_decide_eq_false e)).h⟩
theorem Br.n {t:Bool} (h:Br t B A):Br (!t) A B:=⟨fun e=>h.no (by simpa using e),fun e=>h.yes (by simpa using e)⟩
theorem Br.b {t:Bool} (h:t=true->W A) (k:t=false->W B):Br t A B:=⟨fun e=>(h e).h,fun e=>(k e).h⟩
theorem Br.eq {t t':Bool} (e:t=t') (h:Br t' A B):Br t A B:=by subst e;exact h
theorem Sd.eq {s s':Prop} (e:s=s') (h:Sd s' A):Sd s A:=by subst e;exact h
theorem Sd.go {s:Prop} (h:s) (k:W A):Sd s A:=⟨h,k.h⟩
theorem Ck.go {b:Bool} (h:b=true) (k:W A):Ck b A:=⟨h,k.h⟩
theorem Dm.l {b:Bool} (h:b=true) (k:W A):Dm b A B:=⟨.inl ⟨h,k.h⟩⟩
theorem Dm.r {b:Bool} (k:W B):Dm b A B:=⟨.inr k.h⟩
theorem Cb.go {b:Bool} (h:b=true) (k:W A):Cb b A:=⟨h,k.h⟩
theorem Dr.l {b:Bool} (h:b=true) (k:W A):Dr b A B:=⟨.inl ⟨h,k.h⟩⟩
theorem Dr.r {b:Bool} (k:W B):Dr b A B:=⟨.inr k.h⟩
theorem Ix.map {α:Type} {g:α->List D} {l:List α} {j:Int} {K:List D->Prop} (h0:0<=j/\j<l.length) (h:∀ y,l[j.toNat]?=some y->W (K (g y))):Ix (l.map g) j K:=by
 have hlt:j.toNat<l.length:=by omega
 exact⟨h0.1,_,by rw [zP,zD hlt];rfl,(h _ (zD hlt)).h⟩
structure IxM (p:Prop):Prop where
 run:p
theorem Ix.mapM {α:Type} {g:α->List D} {l:List α} {j:Int} {K:List D->Prop} (h0:0<=j/\j<l.length) (h:IxM (∀ y,l[j.toNat]?=some y->W (K (g y)))):Ix (l.map g) j K:=Ix.map h0 h.run
theorem Ix.mapAt {α:Type} {g:α->List D} {l:List α} {j:Int} {y:α} {K:List D->Prop} (hy:l[j.toNat]?=some y) (h0:0<=j) (h:W (K (g y))):Ix (l.map g) j K:=
 ⟨h0,_,by rw [zP,hy];rfl,h.h⟩
theorem Ix.at {xs:List (List D)} {j:Int} {cs:List D} {K:List D->Prop} (hy:xs[j.toNat]?=some cs) (h0:0<=j) (h:W (K cs)):Ix xs j K:=⟨h0,cs,hy,h.h⟩
theorem Ld.at {o:Oper} {ρ:Operand->D} {b off:Nat} {ag:Bool} {sz:Nat} {K:D->Prop} (j:Nat) {tb:TypeId} {cs:List D} {d:D} (h1:σ[j]?=some (b,.cells tb cs)) (h2:Nat.ble (off+sz) cs.length=true) (h3:mkD ag ((cs.drop off).take sz)=d) (h:W (K d)):Ld P o ρ σ b off ag sz K:=
 ⟨.inl ⟨j,tb,cs,h1,by rwa [vL] at h2,by rw [h3];exact h.h⟩⟩
theorem Ld.yd {b off:Nat} {ag:Bool} {sz:Nat} {K:D->Prop} {o:Oper} {ρ:Operand->D} {d:D} (h:Yd P o ρ σ d) (k:W (K d)):Ld P o ρ σ b off ag sz K:=⟨.inr ⟨d,h,k.h⟩⟩
def xA:=@List.Perm.of_eq
theorem Sv.at {b off:Nat} {new:List D} {sz:Nat} {K:aa1->Prop} (j:Nat) {tb:TypeId} {cs:List D} {σ':aa1} (h1:σ[j]?=some (b,.cells tb cs)) (h2:new.length=sz) (h3:Nat.ble (off+sz) cs.length=true) (h4:new.all oneD=true) (h5:σ.set j (b,.cells tb (spl cs off new))=σ') (h:W (K σ')):Sv σ b off new sz K:=
 ⟨j,tb,cs,σ',h1,h2,by rwa [vL] at h3,h4,xA h5,h.h⟩
def yN:=@List.mem_cons_self
def xW:=@List.set_eq_take_append_cons_drop
theorem Sv.perm {b off:Nat} {new:List D} {sz:Nat} {K:aa1->Prop} {tb:TypeId} {cs cs':List D} {τ:aa1} (h1:σ.Perm ((b,.cells tb cs)::τ)) (h2:new.length=sz) (h3:off+sz<=cs.length) (h4:new.all oneD=true) (h5:spl cs off new=cs') (h:W (K ((b,.cells tb cs')::τ))):Sv σ b off new sz K:=by
 obtain⟨j,hj⟩:=yO (h1.mem_iff.2 (yN (a:=(b,Blk.cells tb cs))));obtain⟨hl,he⟩:=zE.1 hj;refine⟨j,tb,cs,_,hj,h2,h3,h4,?_,h.h⟩;rw [h5];have e1:σ=σ.take j++(b,Blk.cells tb cs)::σ.drop (j+1):=by
  rw [← he,List.getElem_cons_drop,vF]
 have e2:σ.set j (b,Blk.cells tb cs')=σ.take j++(b,Blk.cells tb cs')::σ.drop (j+1):=by
  rw [xW,if_pos hl]
 have h6:σ.Perm ((b,Blk.cells tb cs)::(σ.take j++σ.drop (j+1))):=by
  refine (xA e1).trans List.perm_middle
 have h7:τ.Perm (σ.take j++σ.drop (j+1)):=(List.perm_cons _).1 (h1.symm.trans h6);rw [e2];exact List.perm_middle.trans (List.Perm.cons _ h7.symm)
theorem Ld.mem {b off:Nat} {ag:Bool} {sz:Nat} {K:D->Prop} {o:Oper} {ρ:Operand->D} {tb:TypeId} {cs:List D} {d:D} (h1:(b,Blk.cells tb cs)∈σ) (h2:off+sz<=cs.length) (h3:mkD ag ((cs.drop off).take sz)=d) (h:W (K d)):Ld P o ρ σ b off ag sz K:=by
 obtain⟨j,hj⟩:=yO h1;exact⟨.inl ⟨j,tb,cs,hj,h2,by rw [h3];exact h.h⟩⟩
theorem Ot.yd {o:Oper} {ρ:Operand->D} {K:D->Prop} {d:D} (h:Yd P o ρ σ d) (k:W (K d)):Ot P o ρ σ K:=⟨d,h,k.h⟩
theorem Cp.by {g:FuncId} {args:List D} {K:D->Prop} {d:D} (h:APure P g args d) (k:W (K d)):Cp P g args σ K:=⟨d,h.pk,k.h⟩
theorem Cp.pk {g:FuncId} {args:List D} {K:D->Prop} {d:D} (h:APk P g args σ d) (k:W (K d)):Cp P g args σ K:=⟨d,h,k.h⟩
theorem APure.call {g:FuncId} {args:List D} {d:D} (h:APure P g args d):ACall P g args [] (fun d' s'=>d'=d/\s'=[]):=
 ⟨h.ent,fun w X vs hv hs=>(h.run w (Own [] X) vs hv hs.gok).mono fun e w' ⟨u,h1,h2,h3⟩=>⟨u,d,[],h1,⟨rfl,rfl⟩,h2,hs.ex h3,pA2 h3⟩⟩
theorem ASome.call {g:FuncId} {args:List D} {R:D->Prop} (h:ASome P g args R):ACall P g args [] (fun d' s'=>R d'/\s'=[]):=
 ⟨h.ent,fun w X vs hv hs=>(h.run w (Own [] X) vs hv hs.gok).mono fun e w' ⟨u,d,h1,h2,h3,h4⟩=>⟨u,d,[],h1,⟨h2,rfl⟩,h3,hs.ex h4,pA2 h4⟩⟩
def zH:=@List.Perm.refl
theorem CE.pure {g:FuncId} {args:List D} {K:D->aa1->Prop} {d:D} (h:APure P g args d) (k:W (K d σ)):CE P g args σ K:=
 ⟨[],σ,_,zH _,h.call,fun d' s' ⟨h1,h2⟩=>by subst h1 h2;exact⟨σ,zH _,k.h⟩⟩
theorem CE.some {g:FuncId} {args:List D} {K:D->aa1->Prop} {R:D->Prop} (h:ASome P g args R) (k:∀ d,R d->W (K d σ)):CE P g args σ K:=
 ⟨[],σ,_,zH _,h.call,fun d' s' ⟨h1,h2⟩=>by subst h2;exact⟨σ,zH _,(k _ h1).h⟩⟩
theorem APk.call {g:FuncId} {args:List D} {d:D} (h:APk P g args σ d):ACall P g args σ (fun d' s'=>d'=d/\s'=σ):=
 ⟨h.ent,fun w X vs hv hs=>(h.run w X vs hv hs).mono fun e w' ⟨u,h1,h2,h3⟩=>⟨u,d,σ,h1,⟨rfl,rfl⟩,h2,hs.ex h3,pA2 h3⟩⟩
theorem CE.pk {g:FuncId} {args:List D} {K:D->aa1->Prop} {d:D} (h:APk P g args σ d) (k:W (K d σ)):CE P g args σ K:=
 ⟨σ,[],_,by simp,h.call,fun d' s' ⟨h1,h2⟩=>by subst h1 h2;exact⟨_,by simp,k.h⟩⟩
theorem pA6 {g:FuncId} {args:List D} {s t:aa1} {K:D->aa1->Prop} {R:D->aa1->Prop} (h:ACall P g args s R) (hp:σ.Perm (s++t)) (fs:aa1->aa1) (hq:∀ s',(s'++t).Perm (fs s')) (k:∀ d s',R d s'->W (K d (fs s'))):CE P g args σ K:=⟨s,t,R,hp,h,fun d s' hr=>⟨_,hq s',(k d s' hr).h⟩⟩
theorem Rt.by {R:D->aa1->Prop} {d d':D} {σ':aa1} (h:Vs σ d σ' d') (k:R d' σ'):Rt R d σ:=⟨d',σ',h,k⟩
theorem Rt.same {R:D->aa1->Prop} {d:D} (k:R d σ):Rt R d σ:=⟨d,σ,Vs.refl _ _,k⟩
theorem Rt.pure {d d':D} (h:d=d'):Rt (fun x _=>x=d') d σ:=⟨d',σ,by rw [h];exact Vs.refl _ _,rfl⟩
theorem Rt.le {d d':D} (h:Le d d'):Rt (fun x _=>x=d') d σ:=⟨d',σ,Vs.le h,rfl⟩
theorem Rt.vs {d d':D} {σ':aa1} (h:Vs σ d σ' d'):Rt (fun x _=>x=d') d σ:=⟨d',σ',h,rfl⟩
end
end
section
open Go Go.RowKit Go.Shelf
section
variable {P:Program} {σ τ:aa1} {T:TypeId->Option TI} {w:World}
theorem Rd.stable {O:Nat->Prop} {d:D} {u:Value} (h:Rd w O d u):Rd w (fun _=>False) d u:=
 h.keep (zT _) (fun _ _ _ h=>h) (fun _ _ _=>rfl)
theorem RdL.stable {O:Nat->Prop} {d:List D} {u:List Value} (h:RdL w O d u):RdL w (fun _=>False) d u:=
 h.keep (zT _) (fun _ _ _ h=>h) (fun _ _ _=>rfl)
structure Pk (σ:aa1) (d d':D):Prop where
 run:∀ (w:World) (X:Nat->Prop) (u:Value),StOK w X σ->Rd w (Own σ X) d u->Rd w (fun _=>False) d' u
inductive PkL (σ:aa1):List D->List D->Prop
 | nil:PkL σ [] []
 | cons {d d':D} {ds ds':List D} (h:Pk σ d d') (t:PkL σ ds ds'):PkL σ (d::ds) (d'::ds')
theorem Pk.same (d:D):Pk σ d d:=⟨fun _ _ _ _ h=>h.stable⟩
theorem Pk.le {d d':D} (h:Le d d'):Pk σ d d':=⟨fun _ _ _ _ k=>h _ _ _ k.stable⟩
theorem Pk.row {e:TypeId} {k:Nat} {xs:List (List D)} {v:Value} {s:aa1} (h:RowIs e k xs v s) (hp:σ.Perm (s++τ)):Pk σ (.v v) (.sl k xs):=
 ⟨fun w X u hs hr=>by have:=hr.val rfl;subst this;exact (aJ1 h (hs.perm hp)).stable⟩
theorem PkL.rd {ds ds':List D} (h:PkL σ ds ds') {X:Nat->Prop} (hs:StOK w X σ):∀ {us:List Value},RdL w (Own σ X) ds us->RdL w (fun _=>False) ds' us:=by
 induction h with
 | nil=>exact fun h=>⟨h.len,fun j d u h1=>by simp at h1⟩
 | cons h t ih=>
  intro vs hv
  cases vs with
  | nil=>have:=hv.len;simp at this
  | cons v vs=>
   exact .cons (h.run _ _ _ hs (hv.at_ 0 _ _ rfl rfl)) (ih ⟨by have:=hv.len;simpa using this,fun j d u h1 h2=>hv.at_ (j+1) d u (by simpa using h1) (by simpa using h2)⟩)
theorem Pk.agg {ds ds':List D} (h:PkL σ ds ds'):Pk σ (.agg ds) (.agg ds'):=⟨fun w X u hs hr=>by
 obtain⟨vs,rfl,h1⟩:=hr.agg_inv;have:=h.rd hs h1;exact .agg _ _ this.len this.at_⟩
theorem Pk.clo {f:FuncId} {ds ds':List D} (h:PkL σ ds ds'):Pk σ (.clo f ds) (.clo f ds'):=⟨fun w X u hs hr=>by
 obtain⟨vs,rfl,h1⟩:=hr.clo_inv;have:=h.rd hs h1;exact .clo _ _ _ this.len this.at_⟩
theorem PkL.refl:∀ ds:List D,PkL σ ds ds
 | []=>.nil
 | d::ds=>.cons (Pk.same d) (PkL.refl ds)
theorem Pk.ptr {j b:Nat} {tb:TypeId} {cs cs':List D} (hb:σ[j]?=some (b,.cells tb cs)) (h:PkL σ cs cs'):Pk σ (.v (.pointer (some ⟨b,0,none⟩))) (.ro cs'):=⟨fun w X u hs hr=>by
 have:=hr.val rfl;subst this;obtain⟨_,ob,hob,vs,rfl,hvs⟩:=hs.at_ b _ (zG hb);have hr:=h.rd hs hvs;refine .ro _ _ _ (fun m=>vs.getD m undef) (fun h=>h) (zX.1 hob).1 (fun m hm=>?_) (fun m d hd=>?_)
 ·have:m<vs.length:=by rw [hr.len];exact hm
  simp [World.cell?,hob,this]
 ·obtain⟨u,k1,k2⟩:=hr.get hd
  simpa [List.getD_eq_getElem?_getD,k1] using k2⟩
def isV:D->Bool
 | .v _=>true
 | _=>false
def bQ3:D->Bool
 | .v _=>true
 | .tup ds=>ds.all isV
 | .agg ds=>ds.all isV
 | _=>false
theorem bG0 {O O':Nat->Prop} {w':World} {d:D} {u:Value} (h:Rd w O d u) (hd:isV d=true):Rd w' O' d u:=by
 cases d<;>first|(have:=h.val rfl;subst this;exact .v _)|cases hd
theorem bl3 {O O':Nat->Prop} {d:D} {u:Value} (h:Rd w O d u) (hd:bQ3 d=true):Rd w O' d u:=by
 cases d with
 | v x=>exact bG0 h rfl
 | tup ds=>
  obtain⟨vs,rfl,h1⟩:=h.tup_inv;exact .tup _ _ h1.len fun j d u g1 g2=>bG0 (h1.at_ j d u g1 g2) (yA.1 hd _ (zG g1))
 | agg ds=>
  obtain⟨vs,rfl,h1⟩:=h.agg_inv;exact .agg _ _ h1.len fun j d u g1 g2=>bG0 (h1.at_ j d u g1 g2) (yA.1 hd _ (zG g1))
 | _=>cases hd
theorem APk.peek {g:FuncId} {args args':List D} {d:D} (hp:PkL σ args args') (h:APure P g args' d) (hf:bQ3 d=true):APk P g args σ d:=
 ⟨h.ent,fun w X vs hv hs=>(h.run w (fun _=>False) vs (hp.rd hs hv) (hs.gok.mono (fun b hb=>hb.elim))).mono fun e w' ⟨u,h1,h2,h3⟩=>⟨u,h1,bl3 h2 hf,h3⟩⟩
theorem APk.le {g:FuncId} {args args':List D} {d:D} (hl:LeL args args') (h:APure P g args' d):APk P g args σ d:=
 ⟨h.ent,fun w X vs hv hs=>h.run w _ vs (hl.rd hv) hs.gok⟩
structure VsL (σ:aa1) (ds:List D) (σ':aa1) (ds':List D):Prop where
 run:∀ (w:World) (X:Nat->Prop) (us:List Value),StOK w X σ->RdL w (Own σ X) ds us->StOK w X σ'/\RdL w (Own σ' X) ds' us
 sub:∀ b,b∈aa6 σ'->b∈aa6 σ
theorem aZ9 {σ':aa1} {X:Nat->Prop} (h:∀ b,b∈aa6 σ'->b∈aa6 σ) (b:Nat) (hn:¬ Own σ X b):¬ Own σ' X b:=fun ho=>hn (ho.imp id (h b))
theorem VsL.nil (σ:aa1):VsL σ [] σ []:=⟨fun _ _ _ h1 h2=>⟨h1,h2⟩,fun _ h=>h⟩
theorem VsL.cons {σ' σ'':aa1} {d d':D} {ds ds':List D} (h:Vs σ d σ' d') (t:VsL σ' ds σ'' ds'):VsL σ (d::ds) σ'' (d'::ds'):=
 ⟨fun w X us hs hr=>by
  cases us with
  | nil=>have:=hr.len;simp at this
  | cons v vs=>
   obtain⟨g1,g2⟩:=h.run w X v hs (hr.at_ 0 _ _ rfl rfl);have htl:RdL w (Own σ X) ds vs:=⟨by have:=hr.len;simpa using this,fun j d u h1 h2=>hr.at_ (j+1) d u (by simpa using h1) (by simpa using h2)⟩
   obtain⟨k1,k2⟩:=t.run w X vs g1 (htl.keep (zT _) (fun b _ hn=>aZ9 h.sub b hn) (fun _ _ _=>rfl));exact⟨k1,.cons (g2.keep (zT _) (fun b _ hn=>aZ9 t.sub b hn) (fun _ _ _=>rfl)) k2⟩,fun b hb=>h.sub b (t.sub b hb)⟩
theorem Vs.tup {σ':aa1} {ds ds':List D} (h:VsL σ ds σ' ds'):Vs σ (.tup ds) σ' (.tup ds'):=⟨fun w X u hs hr=>by
 obtain⟨vs,rfl,h1⟩:=hr.tup_inv;obtain⟨g1,g2⟩:=h.run w X vs hs h1;exact⟨g1,.tup _ _ g2.len g2.at_⟩,h.sub⟩
theorem Vs.agg {σ':aa1} {ds ds':List D} (h:VsL σ ds σ' ds'):Vs σ (.agg ds) σ' (.agg ds'):=⟨fun w X u hs hr=>by
 obtain⟨vs,rfl,h1⟩:=hr.agg_inv;obtain⟨g1,g2⟩:=h.run w X vs hs h1;exact⟨g1,.agg _ _ g2.len g2.at_⟩,h.sub⟩
theorem ai9 {σ':aa1} (h:σ.Perm σ') (b:Nat) (hb:b∈aa6 σ'):b∈aa6 σ:=(h.map Prod.fst).mem_iff.2 hb
theorem Vs.row {e:TypeId} {k:Nat} {xs:List (List D)} {v:Value} {s:aa1} (h:RowIs e k xs v s) (hp:σ.Perm (s++τ)):Vs σ (.v v) τ (.sl k xs):=
 ⟨fun w X u hs hr=>by
  have:=hr.val rfl;subst this;exact⟨(hs.perm hp).sub (wI _ _),aJ1 h (hs.perm hp)⟩,fun b hb=>ai9 hp b (by rw [ab1];exact yW _ hb)⟩
theorem Vs.drop {d:D} (hs:τ.Sublist σ):Vs σ d τ d:=
 ⟨fun w X u h1 h2=>⟨h1.sub hs,h2.keep (zT _) (fun b _ hn=>an4 hs b hn) (fun _ _ _=>rfl)⟩,fun b hb=>(hs.map Prod.fst).subset hb⟩
theorem Vs.perm {d:D} (hp:σ.Perm τ):Vs σ d τ d:=
 ⟨fun w X u h1 h2=>⟨h1.perm hp,h2.keep (zT _) (fun b _ hn=>aZ9 (ai9 hp) b hn) (fun _ _ _=>rfl)⟩,ai9 hp⟩
def yG:=@List.sublist_cons_self
theorem Vs.ptr {b:Nat} {tb:TypeId} {cs:List D} (hp:σ.Perm ((b,.cells tb cs)::τ)):Vs σ (.v (.pointer (some ⟨b,0,none⟩))) τ (.ro cs):=
 ⟨fun w X u hs hr=>by
  have:=hr.val rfl;subst this;have hs':=hs.perm hp;have hsub:τ.Sublist ((b,Blk.cells tb cs)::τ):=yG _ _;obtain⟨hX,ob,hob,vs,rfl,hvs⟩:=hs'.at_ b _ yN;have hnO:¬ Own τ X b:=by
   rintro (h|h)
   ·exact hX h
   ·have hnd:=hs'.nodup;simp only [aa6,List.map_cons,wZ] at hnd;exact hnd.1 h
  refine⟨hs'.sub hsub,.ro _ _ _ (fun m=>vs.getD m undef) hnO (zX.1 hob).1 (fun m hm=>?_) (fun m d hd=>?_)⟩
  ·have:m<vs.length:=by rw [hvs.len];exact hm
   simp [World.cell?,hob,this]
  ·obtain⟨u,k1,k2⟩:=hvs.get hd;have:Rd w (Own τ X) d u:=k2.keep (zT _) (fun b _ hn=>an4 hsub b hn) (fun _ _ _=>rfl)
   simpa [List.getD_eq_getElem?_getD,k1] using this,fun b hb=>ai9 hp b (yQ _ hb)⟩
inductive Chk (f':Frm):Frm->Prop
 | nil:Chk f' []
 | cons {i:Nat} {d:D} {F:Frm} (h:ap4 f' i=some d) (t:Chk f' F):Chk f' ((i,d)::F)
theorem aa2 {f' F:Frm} (h:Chk f' F):chkF f' F:=by
 induction h with
 | nil=>rfl
 | cons h t ih=>unfold chkF at *;simp only [List.map_cons,h,ih]
theorem OtE.yd {P:Program} {r:Option Nat} {n df N:Nat} {L:List Oper} {o:Oper} {f:Frm} {K:Frm->aa1->Prop} {d:D} (hn:aj0 o.op=true) (h:Yd P o (evF f) σ d) (k:W (putK N o.dst d f (fun f'=>K f' σ))):OtE P r n df L N o f σ K:=
 ⟨fun rest Q a hs hw hk=>by obtain⟨f',hs',h4⟩:=ae5 k.h hs;exact bJ3 hw hn (h.le hs.le) (hk _ _ _ h4 hs')⟩
theorem ac2 (hm:P.follows .mixedOrders=true) (hT:∀ t i,T t=some i->tiOf P t=some i) {r:Option Nat} {n:Nat} {df:Nat} {N:Nat} {f:Frm} {Q:Fst} {c:Code} {γ:Type} (ps:γ->Frm) (S:γ->aa1) (I:γ->Prop) (μ:γ->Nat) (g₀:γ)
  (h1:chkF f (at6 c f (ps g₀))) (h2:(S g₀).Sublist σ) (h3:I g₀)
  (h4:∀ g,I g->W (aF5 (at6 c f (ps g)) fun F=>ao9 P T r n df N c (bB0 (fun f' σ'=>∃ g',chkF f' (at6 c f (ps g'))/\(S g').Sublist σ'/\I g'/\μ g' < μ g) Q) F (S g))) :
  Lp P r n df N (.loop c) Q f σ:=by
 refine⟨fun a hs=>?_⟩;refine bb5 (fun m a σ=>∃ g,μ g=m/\I g/\Sp N a (at6 c f (ps g))/\(S g).Sublist σ) (μ g₀) ⟨g₀,rfl,h3,hs.sub h1,h2⟩ ?_;rintro m a σ ⟨g,rfl,hI,hS,hsub⟩;refine bS0 hsub (as4 (ao8 hm hT (ar2 (h4 g hI).h) hS) ?_);rintro e a' σ' ⟨f',hs',h'⟩
 cases e with
 | normal=>obtain⟨g',k1,k2,k3,k4⟩:=h';exact⟨μ g',k4,g',rfl,k3,hs'.sub k1,k2⟩
 | _=>exact⟨f',hs',h'⟩
theorem Ap.go {t e:TypeId} {i j:TI} {ag:Bool} {k by_:Nat} {xs ys zs:List (List D)} {v:Value} {s:aa1} {K:D->aa1->Prop} (h1:T t=some i) (h2:i.sl=some (e,ag,k,by_)) (h3:T e=some j) (h4:(Nat.beq j.zero.length j.size&&Nat.blt 0 k&&Nat.beq j.size k)=true)
  (hr:RowIs e k xs v s) (hp:σ.Perm (s++τ)) (ho:(ys.all fun y=>y.all oneD)=true) (hz:xs++ys=zs) (hb:zs.length*by_<=140737488355328) (hm:zs.length<=1000000000) (fs:aa1->aa1) (hq:∀ s',(s'++τ).Perm (fs s'))
  (kk:∀ a c s',RowIs e k zs (.slice a zs.length c) s'->W (K (.v (.slice a zs.length c)) (fs s'))):Ap P T σ (.v v) (.sl k ys) t K:=by
 subst hz;simp only [zJ] at h4;rw [zI] at hb hm;refine⟨e,i,j,ag,k,by_,xs,ys,v,s,[],τ,h1,h2,h3,yH h4.1.1,by simpa [wT] using h4.1.2,yH h4.2,rfl,.inl ⟨rfl,rfl⟩,hr,hp,fun y hy=>yA.1 ho y hy,hb,hm,.inl fun v' s' hr'=>?_⟩;obtain⟨a,c,rfl⟩:=hr'.slice;exact⟨_,hq s',(kk a c s' hr').h⟩
theorem aw9 (s:aa1):s.Perm (s++[]):=by simp
theorem at1 (s:aa1):(s++[]).Perm s:=by simp
theorem bj7 (x:Nat × Blk) (s:aa1):(x::s).Perm (s++[x]):=(List.perm_append_singleton x s).symm
theorem aU3 (x:Nat × Blk) (s:aa1):(s++[x]).Perm (x::s):=List.perm_append_singleton x s
theorem Ap.frz {t e:TypeId} {i j:TI} {ag:Bool} {k by_:Nat} {xs ys zs:List (List D)} {v:Value} {s:aa1} {K:D->aa1->Prop} (h1:T t=some i) (h2:i.sl=some (e,ag,k,by_)) (h3:T e=some j) (h4:(Nat.beq j.zero.length j.size&&Nat.blt 0 k&&Nat.beq j.size k)=true)
  (hr:RowIs e k xs v s) (hp:σ.Perm (s++τ)) (ho:(ys.all fun y=>y.all oneD)=true) (hz:xs++ys=zs) (hb:zs.length*by_<=140737488355328) (hm:zs.length<=1000000000)
  (kk:W (K (.sl k zs) τ)):Ap P T σ (.v v) (.sl k ys) t K:=by
 subst hz;simp only [zJ] at h4;rw [zI] at hb hm;exact⟨e,i,j,ag,k,by_,xs,ys,v,s,[],τ,h1,h2,h3,yH h4.1.1,by simpa [wT] using h4.1.2,yH h4.2,rfl,.inl ⟨rfl,rfl⟩,hr,hp,fun y hy=>yA.1 ho y hy,hb,hm,.inr kk.h⟩
def vG:=@List.drop_eq_getElem_cons
theorem Ld.cell {o:Oper} {ρ:Operand->D} {b off:Nat} {K:D->Prop} (j:Nat) {tb:TypeId} {cs:List D} {d:D} (h1:σ[j]?=some (b,.cells tb cs)) (h2:cs[off]?=some d) (h:W (K d)):Ld P o ρ σ b off false 1 K:=by
 have hlt:=(zE.1 h2).1;refine⟨.inl ⟨j,tb,cs,h1,by omega,?_⟩⟩;have:(cs.drop off).take 1=[d]:=by
  rw [vG hlt];simp [(zE.1 h2).2]
 rw [this];exact h.h
theorem Sv.cell {b off:Nat} {d:D} {K:aa1->Prop} (j:Nat) {tb:TypeId} {cs cs':List D} (h1:σ[j]?=some (b,.cells tb cs)) (h2:off<cs.length) (h3:oneD d=true) (h4:cs.set off d=cs') (h:W (K (σ.set j (b,.cells tb cs')))):Sv σ b off [d] 1 K:=by
 subst h4;refine⟨j,tb,cs,_,h1,rfl,h2,by simp [h3],xA ?_,h.h⟩
 congr 3
 unfold spl;rw [xW,if_pos h2];simp
theorem aC7 {b:Nat} {t tb:TypeId} {cs:List D} {ti:TI} {X:Nat->Prop} (hT:∀ t i,T t=some i->tiOf P t=some i) (hst:StOK w X σ) {m:Nat} (hb:σ[m]?=some (b,.cells tb cs)) (ht:T t=some ti) (hag:ti.agg=true) (hs:ti.size=cs.length) :
  ∃ vs:List Value,(loadVar t ⟨b,0,none⟩).run P w = .ok (.agg vs.toArray) w/\RdL w (Own σ X) cs vs:=by
 obtain⟨_,ob,hob,vs,rfl,hvs⟩:=hst.at_ b _ (zG hb);obtain⟨g1,g2⟩:=aT1 (hT t ti ht) w;rw [hag] at g1;have hcell:∀ q,q<cs.length->w.cell? ⟨b,0+q,none⟩=some (vs.getD q undef):=by
  intro q hq;have:q<vs.length:=by rw [hvs.len];exact hq
  simp [World.cell?,hob,this]
 have hl:=az0 (P:=P) (w:=w) (f:=fun q=>vs.getD q undef) g1 g2 (fun q hq=>hcell q (by omega));have hmap:(List.range ti.size).map (fun q=>vs.getD q undef)=vs:=by
  apply xY;intro q;by_cases hq:q<ti.size
  ·have:q<vs.length:=by rw [hvs.len];omega
   simp [hq,this]
  ·have:vs.length<=q:=by rw [hvs.len];omega
   simp [hq,this]
 rw [hmap] at hl;refine⟨vs,?_,hvs⟩;have:=hl;simp only [Instr.loadAt,Instr.sureAddr,Sem.run_bind,Sem.run_pure,Result.andThen] at this;exact this
variable {N:Nat} {f:Frm} {fn:Func}
theorem Rs.c (hT:∀ t i,T t=some i->tiOf P t=some i) {j m b:Nat} {t tb:TypeId} {cs:List D} {ti:TI} {K:D->Prop} (h:fn.results = #[.cell j t]) (hj:evF f (.tmp j) = .v (.pointer (some ⟨b,0,none⟩))) (hb:σ[m]?=some (b,.cells tb cs)) (ht:T t=some ti) (hag:ti.agg=true) (hs:ti.size=cs.length)
  (k:W (K (.agg cs))):Rs P N fn f σ K:=by
 refine⟨_,fun a ha=>?_,k.h⟩;intro w X tm hf hst;obtain⟨vs,h1,h2⟩:=aC7 hT hst hb ht hag hs;have hp:=(al7 hf j).val (ha.eq hj (fun h=>by cases h));exact⟨.agg vs.toArray,by simp [results,h,hp,asAddr,h1,Result.andThen,-Array.getD_eq_getD_getElem?],.agg _ _ h2.len h2.at_⟩
theorem Rs.tc (hT:∀ t i,T t=some i->tiOf P t=some i) {i j m b:Nat} {t tb:TypeId} {cs:List D} {ti:TI} {d:D} {K:D->Prop} (h:fn.results = #[.tmp i,.cell j t]) (hi:evF f (.tmp i)=d) (hj:evF f (.tmp j) = .v (.pointer (some ⟨b,0,none⟩))) (hb:σ[m]?=some (b,.cells tb cs)) (ht:T t=some ti) (hag:ti.agg=true) (hs:ti.size=cs.length)
  (k:W (K (.tup [d,.agg cs]))):Rs P N fn f σ K:=by
 subst hi;refine⟨_,fun a ha=>?_,k.h⟩;intro w X tm hf hst;obtain⟨vs,h1,h2⟩:=aC7 hT hst hb ht hag hs;have hp:=(al7 hf j).val (ha.eq hj (fun h=>by cases h));refine⟨.tuple #[tm.getD i undef,.agg vs.toArray],by simp [results,h,hp,asAddr,h1,Result.andThen,-Array.getD_eq_getD_getElem?],?_⟩;have:=RdL.cons (aq3 ha i _ _ _ (al7 hf i)) (RdL.cons (Rd.agg (w:=w) (O:=Own σ X) cs vs h2.len h2.at_) RdL.nil);exact .tup _ _ this.len this.at_
theorem Rs.ct (hT:∀ t i,T t=some i->tiOf P t=some i) {i j m b:Nat} {t tb:TypeId} {cs:List D} {ti:TI} {d:D} {K:D->Prop} (h:fn.results = #[.cell j t,.tmp i]) (hi:evF f (.tmp i)=d) (hj:evF f (.tmp j) = .v (.pointer (some ⟨b,0,none⟩))) (hb:σ[m]?=some (b,.cells tb cs)) (ht:T t=some ti) (hag:ti.agg=true) (hs:ti.size=cs.length)
  (k:W (K (.tup [.agg cs,d]))):Rs P N fn f σ K:=by
 subst hi;refine⟨_,fun a ha=>?_,k.h⟩;intro w X tm hf hst;obtain⟨vs,h1,h2⟩:=aC7 hT hst hb ht hag hs;have hp:=(al7 hf j).val (ha.eq hj (fun h=>by cases h));refine⟨.tuple #[.agg vs.toArray,tm.getD i undef],by simp [results,h,hp,asAddr,h1,Result.andThen,-Array.getD_eq_getD_getElem?],?_⟩;have:=RdL.cons (Rd.agg (w:=w) (O:=Own σ X) cs vs h2.len h2.at_) (RdL.cons (aq3 ha i _ _ _ (al7 hf i)) RdL.nil);exact .tup _ _ this.len this.at_
end
end
section
open Go
theorem eC7 {N:Nat} {σ:aa1} {g:FuncId} {fn:Func} {c:Code} {args:List D} {R:D->aa1->Prop} (hf:prog.funcs[g]?=some fn) (hN:fn.ntmps=N) (h:∀ B,W (ao9 prog tget none 9 B N c (retF prog N fn R) (argF args) σ)) (hname:(fn.name == "runtime.NumGoroutine")=false:=by kernel_rfl) (hb:fn.body=some c:=by exact rfl) (hl:Nat.ble args.length N=true:=by exact rfl):ACall prog g args σ R:=bY1 mixed aa0 hf hname hb hN hl h
theorem eP7 {N:Nat} {g:FuncId} {fn:Func} {c:Code} {args:List D} {d:D} (hf:prog.funcs[g]?=some fn) (hN:fn.ntmps=N) (h:∀ B,W (ao9 prog tget none 9 B N c (retF prog N fn fun d' _=>d'=d) (argF args) [])) (hname:(fn.name == "runtime.NumGoroutine")=false:=by kernel_rfl) (hb:fn.body=some c:=by exact rfl) (hl:Nat.ble args.length N=true:=by exact rfl):APure prog g args d:=APure.of_call (bY1 mixed aa0 hf hname hb hN hl h)
theorem dr7 {A B:Prop} (k:B) (h:Hd7 B->A:=by intro q7;(refine Dr.r ?_;(((with_reducible refine W.mk ?_);(conv=>whnf)));refine Dm.r ?_;refine W.mk ?_);exact q7.1):A:=h ⟨k⟩
theorem u3x {A B:Prop} (k:B) (h:Hd7 B->A:=by intro q7;(first|((with_reducible refine W.mk ?_);(conv=>whnf))|(with_reducible refine Br.tt ?_)|(with_reducible refine Br.ff ?_)|(with_reducible refine Br.n ?_));exact q7.1):A:=h ⟨k⟩
def zL:=@List.length_map
def zY:=@List.length_replicate
theorem u1x {A B:Prop} (k:B) (h:Hd7 B->A:=by intro q7;(first|((with_reducible refine' Br.eq ?h ?_);(case h=>(simp only [zL,zR,zI,List.length_cons,List.length_nil,zY,Nat.reduceAdd];exact rfl)))|((with_reducible refine Sd.go ?qs7 ?_);(case qs7=>first|trivial|(constructor<;>omega)|omega|assumption|((try simp only [zL,zR,zI,List.length_cons,List.length_nil,zY,Nat.reduceAdd] at *);first|(constructor<;>omega)|omega))));exact q7.1):A:=h ⟨k⟩
theorem u0x {A B:Prop} (k:B) (h:Hd7 B->A:=by intro q7;(first|((with_reducible refine Ck.go ?qs7 ?_);(case qs7=>kernel_rfl))|((with_reducible refine' Ix.mapAt ?hy ?h0 ?_);(case hy=>assumption);(case h0=>omega))|((with_reducible refine' Ix.at ?hy ?h0 ?_);(case hy=>exact rfl);(case h0=>omega))|((with_reducible refine Ix.mapM ?h0 ?_);(case h0=>first|omega|(simp only [zL,zR,zI,List.length_cons,List.length_nil,zY,Nat.reduceAdd] at *;omega)))|((with_reducible refine' Ld.at 0 ?h1 ?h2 ?h3 ?_);(case h1=>exact rfl);(case h2=>exact rfl);(case h3=>exact rfl))|((with_reducible refine' Ld.at 1 ?h1 ?h2 ?h3 ?_);(case h1=>exact rfl);(case h2=>exact rfl);(case h3=>exact rfl))|((with_reducible refine' Ld.at 2 ?h1 ?h2 ?h3 ?_);(case h1=>exact rfl);(case h2=>exact rfl);(case h3=>exact rfl))|((with_reducible refine' Sv.at 0 ?h1 ?h2 ?h3 ?h4 ?h5 ?_);(case h1=>exact rfl);(case h2=>exact rfl);(case h3=>exact rfl);(case h4=>exact rfl);(case h5=>exact (by first|(simp only [List.set_cons_succ,List.set_cons_zero,spl,ag3,mkD,List.take_succ_cons,List.take_zero,List.drop_succ_cons,List.drop_zero,List.length_cons,List.length_nil,List.nil_append,List.cons_append,Nat.reduceAdd,xD,zZ,List.map_cons,List.map_nil];rfl)|rfl)))|((with_reducible refine' Sv.at 1 ?h1 ?h2 ?h3 ?h4 ?h5 ?_);(case h1=>exact rfl);(case h2=>exact rfl);(case h3=>exact rfl);(case h4=>exact rfl);(case h5=>exact (by first|(simp only [List.set_cons_succ,List.set_cons_zero,spl,ag3,mkD,List.take_succ_cons,List.take_zero,List.drop_succ_cons,List.drop_zero,List.length_cons,List.length_nil,List.nil_append,List.cons_append,Nat.reduceAdd,xD,zZ,List.map_cons,List.map_nil];rfl)|rfl)))|((with_reducible refine' Sv.at 2 ?h1 ?h2 ?h3 ?h4 ?h5 ?_);(case h1=>exact rfl);(case h2=>exact rfl);(case h3=>exact rfl);(case h4=>exact rfl);(case h5=>exact (by first|(simp only [List.set_cons_succ,List.set_cons_zero,spl,ag3,mkD,List.take_succ_cons,List.take_zero,List.drop_succ_cons,List.drop_zero,List.length_cons,List.length_nil,List.nil_append,List.cons_append,Nat.reduceAdd,xD,zZ,List.map_cons,List.map_nil];rfl)|rfl)))|((with_reducible refine' Ot.yd ?hyd ?_);(case hyd=>first|(refine' aG5 aa0 rfl rfl rfl rfl rfl ?hc ?h0;(case hc=>assumption);(case h0=>omega))|(refine aG4 aa0 rfl rfl rfl rfl rfl ?_;first|omega|(simp only [zL,zR,zI,List.length_cons,List.length_nil,zY,Nat.reduceAdd];omega))|(refine aA2 aa0 rfl rfl rfl rfl rfl ?_;omega)|exact yd_bne rfl rfl rfl underlying4|exact aS7 rfl rfl rfl|exact aS8 rfl rfl rfl))|((with_reducible refine' Rs.tc aa0 (m:=0) ?h ?hi ?hj ?hb ?ht ?hag ?hs ?_);(case h=>exact rfl);(case hi=>exact rfl);(case hj=>exact rfl);(case hb=>exact rfl);(case ht=>exact rfl);(case hag=>exact rfl);(case hs=>exact rfl))|((with_reducible refine' Rs.ct aa0 (m:=0) ?h ?hi ?hj ?hb ?ht ?hag ?hs ?_);(case h=>exact rfl);(case hi=>exact rfl);(case hj=>exact rfl);(case hb=>exact rfl);(case ht=>exact rfl);(case hag=>exact rfl);(case hs=>exact rfl))|((with_reducible refine' Rs.c aa0 (m:=0) ?h ?hj ?hb ?ht ?hag ?hs ?_);(case h=>exact rfl);(case hj=>exact rfl);(case hb=>exact rfl);(case ht=>exact rfl);(case hag=>exact rfl);(case hs=>exact rfl))|((with_reducible refine pA5 ?h ?_);(case h=>omega))|((with_reducible refine Br.df ?h ?_);(case h=>omega))|((with_reducible refine Br.t ?h ?_);(case h=>assumption))|((with_reducible refine Br.f ?h ?_);(case h=>assumption))|((with_reducible refine Br.t ?h ?_);(case h=>(refine yJ ?_;omega)))|((with_reducible refine Br.f ?h ?_);(case h=>(refine yE ?_;omega))));exact q7.1):A:=h ⟨k⟩
theorem sb0 {A B:Prop} (k:B) (h:Hd7 B->A:=by intro q7;(first|refine u3x ?_|refine u1x ?_|refine u0x ?_);exact q7.1):A:=h ⟨k⟩
theorem u7x {A B:Prop} (k:B) (h:Hd7 B->A:=by intro q7;(first|(with_reducible refine Bc.l ?_)|(with_reducible refine Bx.l ?_));exact q7.1):A:=h ⟨k⟩
theorem u6x {A B:Prop} (k:B) (h:Hd7 B->A:=by intro q7;(first|((with_reducible refine Dr.l ?h ?_);(case h=>decide +kernel))|(with_reducible refine Dr.r ?_));exact q7.1):A:=h ⟨k⟩
theorem u4x {A B:Prop} (k:B) (h:Hd7 B->A:=by intro q7;(first|((with_reducible refine Dm.l ?h ?_);(case h=>decide +kernel))|((with_reducible refine Cb.go ?h ?_);(case h=>decide +kernel)));exact q7.1):A:=h ⟨k⟩
theorem sb1 {A B:Prop} (k:B) (h:Hd7 B->A:=by intro q7;(first|refine u7x ?_|refine u6x ?_|refine u4x ?_);exact q7.1):A:=h ⟨k⟩
theorem cp7x {A:Prop} {H B:D->Prop} {d:D} (a:H d) (k:B d) (h:∀ d,Hd7 (H d)->Hd7 (B d)->A:=by intro d p7 q7;(first|(with_reducible refine' Cp.by (d:=d) ?_ ?_)|(with_reducible refine' CE.pure (d:=d) ?_ ?_));exact p7.1;exact q7.1):A:=h d ⟨a⟩ ⟨k⟩
theorem sk2 {A B:Prop} (k:B) (h:Hd7 B->A:=by intro q7;(first|refine sb0 ?_|refine sb1 ?_|(refine' cp7x ?hc ?_;(case hc=>fail)));exact q7.1):A:=h ⟨k⟩
theorem ah8 (n a b:Int):APure prog 173 [iD n,iD a,iD b] (bD (aa3 n a b)):=by
 refine eP7 func173 ntmps173 fun BB=>?_
 repeat' first|refine sk2 ?_|intro b;conv=>whnf|with_reducible refine Br.d (fun hc=>?_) (fun hc=>?_)|with_reducible refine Br.b (fun hc=>?_) (fun hc=>?_)
 all_goals (refine Rt.pure (zM bD ?_);first|(simp [aa3, *];done)|(simp [aa3];omega))
theorem aA7 (lo hi a b:Int):APure prog 211 [iD lo,iD hi,iD a,iD b] (bD (ap2 lo hi a b)):=by
 refine eP7 func211 ntmps211 fun BB=>?_
 repeat' first|refine sk2 ?_|intro b;conv=>whnf|with_reducible refine Br.d (fun hc=>?_) (fun hc=>?_)|with_reducible refine Br.b (fun hc=>?_) (fun hc=>?_)
 all_goals (refine Rt.pure (zM bD ?_);first|(simp [ap2, *];done)|(simp [ap2];omega))
theorem aT8 (c:UInt8):APure prog 242 [.v (.int .u8 c.toNat)] (bD (ap9 c)):=by
 refine eP7 func242 ntmps242 fun BB=>?_
 repeat' first|refine sk2 ?_|intro b;conv=>whnf|with_reducible refine Br.d (fun hc=>?_) (fun hc=>?_)|with_reducible refine Br.b (fun hc=>?_) (fun hc=>?_)
 all_goals (refine Rt.pure (zM bD ?_);first|(simp [ap9, *];done)|(simp [ap9];omega))
theorem bd7 (c:UInt8):APure prog 243 [.v (.int .u8 c.toNat)] (bD (bb2 c)):=by
 refine eP7 func243 ntmps243 fun BB=>?_
 repeat' first|refine sk2 ?_|intro b;conv=>whnf|with_reducible refine Br.d (fun hc=>?_) (fun hc=>?_)|with_reducible refine Br.b (fun hc=>?_) (fun hc=>?_)
 all_goals (refine Rt.pure (zM bD ?_);first|(simp [bb2, *];done)|(simp [bb2];omega))
def vT:=@List.all_eq_false
theorem af9 {α:Type} {p:α->Bool} {l:List α} {q:Nat} {y:α} (hy:l[q]?=some y) (h:p y=false):l.all p=false:=by
 rw [vT];exact⟨y,zG hy,by simp [h]⟩
theorem ak1 {α:Type} {p:α->Bool} {l:List α} (h:∀ (m:Nat) y,m<l.length->l[m]?=some y->p y=true):l.all p=true:=by
 rw [yA];intro y hy;obtain⟨m,hm⟩:=yO hy;exact h m y (zE.1 hm).1 hm
theorem ao1 {α:Type} {p:α->Bool} {l:List α} {q:Nat} {y:α} (hno:∀ (m:Nat) y,m<q->l[m]?=some y->p y=true) (hy:l[q]?=some y) (h:p y=true):∀ (m:Nat) y,m<q+1->l[m]?=some y->p y=true:=by
 intro m z hm hz;by_cases e:m=q
 ·subst e;rw [hy] at hz;cases hz;exact h
 ·exact hno m z (by omega) hz
theorem as6 (s:ByteArray):(bytes s).length=s.size:=by unfold bytes;simp
theorem sk3 {A B:Prop} (k:B) (h:Hd7 B->A:=by intro q7;(first|refine sb0 ?_|refine sb1 ?_|(refine' cp7x ?hc ?_;(case hc=>first|exact aT8 _|exact bd7 _|exact ah8 _ _ _|exact aA7 _ _ _ _)));exact q7.1):A:=h ⟨k⟩
def wW:=@Bool.and_false
theorem ak7 (s:ByteArray):APure prog 210 [sD s] (bD (isNm s)):=by
 refine eP7 func210 ntmps210 fun BB=>?_;by_cases hs:1<=s.size/\s.size<=12
 ·have hw:aa3 s.size 1 12=true:=by simp [aa3];omega
  have h0:0<(bytes s).length:=by rw [as6];omega
  obtain⟨c,hc0⟩:∃ c,(bytes s)[(0:Int).toNat]?=some c:=⟨_,zD h0⟩
  have hN:isNm s=(ap9 c&&(bytes s).all alnum):=by
   unfold isNm;rw [hw];have hc1:(bytes s)[0]?=some c:=hc0
   cases hb:bytes s with
   | nil=>rw [hb] at h0;simp at h0
   | cons d r=>rw [hb] at hc1;simp at hc1;subst hc1;simp
  cases hlet:ap9 c with
  | false=>
   repeat' first|refine sk3 ?_|intro b;conv=>whnf|with_reducible refine Br.d (fun hc=>?_) (fun hc=>?_)|with_reducible refine Br.b (fun hc=>?_) (fun hc=>?_)
   all_goals (refine Rt.pure (zM bD ?_);rw [hN,hlet];rfl)
  | true=>
   repeat' first|refine sk3 ?_|intro b;conv=>whnf|with_reducible refine Br.d (fun hc=>?_) (fun hc=>?_)|with_reducible refine Br.b (fun hc=>?_) (fun hc=>?_)
   refine ac6 mixed aa0 (γ:=Nat) (fun g=>[(3,iD g)]) (fun _=>[]) (fun q=>q<=s.size/\∀ (m:Nat) y,m<q->(bytes s)[m]?=some y->alnum y=true) (fun q=>s.size-q) 0 rfl rfl ⟨by omega,fun m y hm=>by omega⟩ ?_;rintro q ⟨hq,hno⟩;by_cases hlt:q<s.size
   ·obtain⟨y,hy⟩:∃ y,(bytes s)[(q:Int).toNat]?=some y:=⟨_,zD (by rw [as6];simpa using hlt)⟩
    have hy':(bytes s)[q]?=some y:=hy
    repeat' first|refine sk3 ?_|intro b;conv=>whnf|with_reducible refine Br.d (fun hc=>?_) (fun hc=>?_)|with_reducible refine Br.b (fun hc=>?_) (fun hc=>?_)
    all_goals first
     | exact⟨q+1,rfl,rfl,⟨by omega,ao1 hno hy' (by simp [alnum, *])⟩,by omega⟩
     | (refine Rt.pure (zM bD ?_);rw [hN,af9 hy' (by simp [alnum, *]),wW])
   ·repeat' first|refine sk3 ?_|intro b;conv=>whnf|with_reducible refine Br.d (fun hc=>?_) (fun hc=>?_)|with_reducible refine Br.b (fun hc=>?_) (fun hc=>?_)
    refine Rt.pure (zM bD ?_);rw [hN,hlet,ak1 (fun m y hm hy=>hno m y (by rw [as6] at hm;omega) hy)];rfl
 ·have hN:isNm s=false:=by
   have hw:aa3 s.size 1 12=false:=by simp [aa3];omega
   unfold isNm;rw [hw];simp
  repeat' first|refine sk3 ?_|intro b;conv=>whnf|with_reducible refine Br.d (fun hc=>?_) (fun hc=>?_)|with_reducible refine Br.b (fun hc=>?_) (fun hc=>?_)
  all_goals first|(exfalso;omega)|(refine Rt.pure (zM bD ?_);exact hN.symm)
theorem sk4 {A B:Prop} (k:B) (h:Hd7 B->A:=by intro q7;(first|refine sb0 ?_|refine sb1 ?_|(refine' cp7x ?hc ?_;(case hc=>exact ak7 _)));exact q7.1):A:=h ⟨k⟩
theorem aE2 (l:List ByteArray) (hl:l.length<=1000000):APure prog 213 [slS l] (bD (l.all isNm)):=by
 refine eP7 func213 ntmps213 fun BB=>?_
 repeat' first|refine sk4 ?_|intro b;conv=>whnf|refine IxM.mk fun y hy=>?_
 refine ac6 mixed aa0 (γ:=Nat) (fun g=>[(3,iD g)]) (fun _=>[]) (fun q=>q<=l.length/\∀ (m:Nat) y,m<q->l[m]?=some y->isNm y=true) (fun q=>l.length-q) 0 rfl rfl ⟨by omega,fun m y hm=>by omega⟩ ?_;rintro q ⟨hq,hno⟩
 repeat' first|refine sk4 ?_|intro b;conv=>whnf|refine IxM.mk fun y hy=>?_|with_reducible refine Br.d (fun hc=>?_) (fun hc=>?_)|with_reducible refine Br.b (fun hc=>?_) (fun hc=>?_)
 ·exact⟨q+1,rfl,rfl,⟨by omega,ao1 hno hy (by assumption)⟩,by omega⟩
 ·refine Rt.pure (zM bD ?_);rw [af9 hy (by assumption)]
 ·refine Rt.pure (zM bD ?_);rw [ak1 (fun m y hm hy=>hno m y (by omega) hy)]
def bZ8 (k:Int):D:=.tup [bD (ae1 k),bD (ae0 k),bD (ae3 k),bD (ae2 k),bD (ac5 k)]
theorem ah1 (k:Int):APure prog 244 [iD k] (bZ8 k):=by
 refine eP7 func244 ntmps244 fun BB=>?_;by_cases h:k=0\/k=1\/k=2\/k=3\/k=4\/k=5\/k=6\/k=7\/k=8
 ·rcases h with h|h|h|h|h|h|h|h|h
  all_goals
   repeat' first|refine sk4 ?_|intro b;conv=>whnf
   refine Rt.pure ?_;subst h;rfl
 ·have n0:¬ k=0:=by omega
  have n1:¬ k=1:=by omega
  have n2:¬ k=2:=by omega
  have n3:¬ k=3:=by omega
  have n4:¬ k=4:=by omega
  have n5:¬ k=5:=by omega
  have n6:¬ k=6:=by omega
  have n7:¬ k=7:=by omega
  have n8:¬ k=8:=by omega
  repeat' first|refine sk4 ?_|intro b;conv=>whnf
  refine Rt.pure ?_
  show D.tup [bD (decide (k=8)),bD (decide (k=8)),bD (decide (k=0)),bD (decide (k=7)),bD (decide (k=3))]=_;simp [bZ8,ae1,ae0,ae3,ae2,ac5,n0,n1,n2,n3,n4,n5,n6,n7,n8]
theorem sk5 {A B:Prop} (k:B) (h:Hd7 B->A:=by intro q7;(first|refine sb0 ?_|refine sb1 ?_|(refine' cp7x ?hc ?_;(case hc=>first|exact ah8 _ _ _|exact aE2 _ (by assumption))));exact q7.1):A:=h ⟨k⟩
def xC:=@List.take_add_one
theorem aU0 (f:Fld) (hw:f.words.length<=1000000) (hg:f.wz.length<=1000000):APure prog 245 [fldD f] (bD (ag1 f.words f.wz)):=by
 refine eP7 func245 ntmps245 fun BB=>?_
 repeat' first|refine sk5 ?_|intro b;conv=>whnf
 refine ac6 mixed aa0 (γ:=Nat × Int) (fun g=>[(3,iD g.2),(4,iD g.1)]) (fun _=>[]) (fun g=>g.1<=f.wz.length/\g.2=(f.wz.take g.1).sum/\(∀ (m:Nat) y,m<g.1->f.wz[m]?=some y->aa3 y 0 1048576=true)/\0<=g.2/\g.2<=1048576*g.1) (fun g=>f.wz.length-g.1) (0,0) rfl rfl ⟨by omega,by simp,fun m y hm=>by omega,by simp,by simp⟩ ?_;rintro⟨q,u⟩ ⟨hq,hu,hno,hs0,hs1⟩;simp only at hq hu hno hs0 hs1 ⊢;by_cases hlt:q<f.wz.length
 ·obtain⟨y,hy⟩:∃ y,f.wz[q]?=some y:=⟨_,zD hlt⟩
  have hsum:(f.wz.take (q+1)).sum=(f.wz.take q).sum+y:=by
   rw [xC,hy];simp
  cases h1:aa3 y 0 1048576 with
  | true=>
   have hy1:0<=y/\y<=1048576:=by simpa [aa3] using h1
   repeat' first|refine sk5 ?_|intro b;conv=>whnf|with_reducible refine Br.d (fun hc=>?_) (fun hc=>?_)|with_reducible refine Br.b (fun hc=>?_) (fun hc=>?_)
   exact⟨(q+1,u+y),rfl,rfl,⟨by simp only;omega,by simp only;omega,ao1 hno hy h1,by simp only;omega,by simp only;omega⟩,by simp only;omega⟩
  | false=>
   repeat' first|refine sk5 ?_|intro b;conv=>whnf|with_reducible refine Br.d (fun hc=>?_) (fun hc=>?_)|with_reducible refine Br.b (fun hc=>?_) (fun hc=>?_)
   all_goals (refine Rt.pure (zM bD ?_);simp only [ag1,af9 (p:=fun n=>aa3 n 0 1048576) hy h1];simp)
 ·obtain rfl:q=f.wz.length:=by omega
  have hall:f.wz.all (fun n=>aa3 n 0 1048576)=true:=ak1 hno;rw [yM] at hu;have hB:ag1 f.words f.wz=(aa3 f.words.length 1 12&&decide (f.words.length=f.wz.length)&&decide (0<f.wz.sum)&&f.words.all isNm):=by simp [ag1,hall]
  rw [← hu] at hB;clear hu hno hs0 hs1 hall hq hlt;by_cases e2:f.words.length=f.wz.length
  ·by_cases e3:0<u
   ·repeat' first|refine sk5 ?_|intro b;conv=>whnf|with_reducible refine Br.d (fun hc=>?_) (fun hc=>?_)|with_reducible refine Br.b (fun hc=>?_) (fun hc=>?_)
    all_goals (refine Rt.pure (zM bD ?_);rw [hB];simp_all)
   ·rw [yE e3] at hB
    repeat' first|refine sk5 ?_|intro b;conv=>whnf|with_reducible refine Br.d (fun hc=>?_) (fun hc=>?_)|with_reducible refine Br.b (fun hc=>?_) (fun hc=>?_)
    all_goals (refine Rt.pure (zM bD ?_);rw [hB];simp)
  ·repeat' first|refine sk5 ?_|intro b;conv=>whnf|with_reducible refine Br.d (fun hc=>?_) (fun hc=>?_)|with_reducible refine Br.b (fun hc=>?_) (fun hc=>?_)
   all_goals (refine Rt.pure (zM bD ?_);rw [hB,yE e2];simp)
end
end Go.Proofs.YtlcfiilejnnlnaaGreatDoor
