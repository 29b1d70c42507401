/- A part of the proof: Ey Ez Ew Rg. -/
import Derived.Test.YtlcfiilejnnlnaaGreatDoorO03
set_option maxRecDepth 100000
set_option maxHeartbeats 20000000
set_option linter.unusedVariables false
set_option linter.unusedSimpArgs false
namespace Go.Proofs.YtlcfiilejnnlnaaGreatDoor
section
open Go Go.RowKit Go.Shelf
def exG (L:List Oper) (f:Frm) (o:Oper) (K:Bool→Prop):Prop:=
 match o.guard with
 | none=>K true
 | some (j,want)=>match L[j]? with
  | none=>False
  | some o'=>match o'.dst with
   | none=>False
   | some t=>match an2 f t with
    | some (.v x)=>match x with
     | .bool b=>(match want with|true=>Br b (K true) (K false)|false=>Br b (K false) (K true))
     | .tuple _=>K false
     | _=>False
    | _=>False
def aD0 (P:Program) (T:TypeId→Option TI) (N:Nat) (L:List Oper) (σ:aa1):List Oper→(Frm→Prop)→Frm→Prop
 | [],K,f=>K f
 | o :: rest,K,f=>exG L f o fun go=>match go with
  | true=>bif ah1 o.op then exY P T o f σ (fun d=>putK N o.dst d f (aD0 P T N L σ rest K)) else False
  | false=>putK N o.dst (.v undef) f (aD0 P T N L σ rest K)
def ax6 (P:Program) (T:TypeId→Option TI) (N:Nat) (L:List Oper) (σ:aa1) (s:Nat) (t0:TypeId):List Oper→(Frm→Prop)→Frm→Prop
 | [],K,f=>K f
 | o :: rest,K,f=>exG L f o fun go=>match go with
  | true=>bif ah1 o.op then
    (bif isAl (some (s,t0)) o then (match o.op with
     | .alloc t=>bif Nat.beq t t0 then putK N o.dst .any f (ax6 P T N L σ s t0 rest K) else False
     | _=>False)
    else exY P T o f σ (fun d=>putK N o.dst d f (ax6 P T N L σ s t0 rest K))) else False
  | false=>putK N o.dst (.v undef) f (ax6 P T N L σ s t0 rest K)
def bk1 (s idx:Nat):List Oper→Nat→Bool
 | [],_=>true
 | o :: l,cur=>(match o.dst with|some i=>bif Nat.beq i s then Nat.beq cur idx else true|none=>true) && bk1 s idx l (cur+1)
def bW9 (d:D) (K:List D→Prop):Prop:=match d with
 | .any=>False
 | .agg cs=>as9 cs K
 | .v x=>match x with
  | .agg vs=>as9 (vs.toList.map .v) K
  | y=>K [.v y]
 | d=>K [d]
structure Sv (σ:aa1) (b off:Nat) (new:List D) (sz:Nat) (K:aa1→Prop):Prop where
 run:∃ (j:Nat) (tb:TypeId) (cs:List D) (σ':aa1),σ[j]?=some (b,.cells tb cs)∧new.length=sz∧off+sz≤cs.length∧new.all oneD=true∧(σ.set j (b,.cells tb (spl cs off new))).Perm σ'∧K σ'
structure CE (P:Program) (g:FuncId) (args:List D) (σ:aa1) (K:D→aa1→Prop):Prop where
 run:∃ (s t:aa1) (R:D→aa1→Prop),σ.Perm (s ++ t)∧ACall P g args s R∧∀ d s',R d s'→∃ σ',(s' ++ t).Perm σ'∧K d σ'
structure Ap (P:Program) (T:TypeId→Option TI) (σ:aa1) (p x:D) (t:TypeId) (K:D→aa1→Prop):Prop where
 run:∃ (e:TypeId) (i j:TI) (ag:Bool) (k by_:Nat) (xs ys:List (List D)) (v:Value) (s s2 τ:aa1),T t=some i∧i.sl=some (e,ag,k,by_)∧T e=some j∧j.zero.length=j.size∧0<k∧j.size=k ∧
  p = .v v∧((x = .sl k ys∧s2=[])∨∃ v2,x = .v v2∧RowIs e k ys v2 s2)∧RowIs e k xs v s∧σ.Perm (s ++ (s2 ++ τ))∧(∀ y∈ys,y.all oneD=true)∧(xs.length+ys.length)*by_≤140737488355328∧xs.length+ys.length≤1000000000 ∧
  ((∀ v' s',RowIs e k (xs ++ ys) v' s'→∃ σ',(s' ++ τ).Perm σ'∧K (.v v') σ')∨K (.sl k (xs ++ ys)) τ)
structure Mk (T:TypeId→Option TI) (σ:aa1) (t:TypeId) (x y:D) (K:D→aa1→Prop):Prop where
 run:∃ (e:TypeId) (i j:TI) (ag:Bool) (by_ m:Nat) (z:ZV),T t=some i∧i.sl=some (e,ag,1,by_)∧T e=some j∧j.zero=[z]∧j.size=1∧x = .v (.int .i64 m)∧y = .v (.int .i64 m)∧by_*m≤281474976710656∧m≤1000000000 ∧
  ∀ b,K (.v (.slice (some ⟨b,0,none⟩) m m)) ((b,.cells e (List.replicate m (.v (zv z)))) :: σ)
structure OtE (P:Program) (r:Option Nat) (n:Nat) (df:Nat) (L:List Oper) (N:Nat) (o:Oper) (f:Frm) (σ:aa1) (K:Frm→aa1→Prop):Prop where
 run:∀ (rest:List Oper) (Q:Pst) (a:List D),Sp N a f→an1 L.toArray a o=some true→(∀ f' σ' a',K f' σ'→Sp N a' f'→AOps P r n df L.toArray Q rest a' σ')→AOps P r n df L.toArray Q (o :: rest) a σ
def exOp (P:Program) (T:TypeId→Option TI) (r:Option Nat) (n:Nat) (df:Nat) (N:Nat) (L:List Oper) (o:Oper) (f:Frm) (σ:aa1) (K:Frm→aa1→Prop):Prop:=
 match o.op with
 | .alloc t=>match T t with
  | none=>False
  | some i=>bif Nat.beq i.zero.length i.size && Nat.blt 0 i.size then as9 (i.zero.map fun z=>.v (zv z)) fun cs=>∀ b,putK N o.dst (.v (.pointer (some ⟨b,0,none⟩))) f (fun f'=>K f' ((b,.cells t cs) :: σ)) else False
 | .store t p x=>match T t with
  | none=>False
  | some i=>match evF f p with
   | .v (.pointer (some ⟨b,off,none⟩))=>bW9 (evF f x) fun new=>Sv σ b off new i.size fun σ'=>putK N o.dst (.v undef) f (fun f'=>K f' σ')
   | _=>False
 | .makeSlice t x y=>ab7 (evF f x) fun dx=>ab7 (evF f y) fun dy=>Mk T σ t dx dy fun d σ'=>putK N o.dst d f (fun f'=>K f' σ')
 | .call c=>match c.callee with
  | .builtin .append=>match c.args.toList,c.argTypes.toList with
   | [p,x],[t,t']=>bif Nat.beq t t' then Bx (ab7 (evF f p) fun dp=>ab7 (evF f x) fun dx=>Ap P T σ dp dx t fun d σ'=>putK N o.dst d f (fun f'=>K f' σ')) (OtE P r n df L N o f σ K) else OtE P r n df L N o f σ K
   | _,_=>False
  | .builtin .copy=>OtE P r n df L N o f σ K
  | .value _=>match bt7 o.op (evF f) with
   | some (g,ds)=>as9 ds fun ds=>CE P g ds σ fun d σ'=>ab7 d fun d=>putK N o.dst d f (fun f'=>K f' σ')
   | none=>False
  | _=>exY P T o f σ (fun d=>putK N o.dst d f (fun f'=>K f' σ))
 | .buildSlice t m ps=>match m with
  | 0=>match T t with
   | none=>False
   | some i=>match i.sl with
    | none=>False
    | some (e,_,k,_)=>match T e with
     | none=>False
     | some j=>bif Nat.beq j.zero.length j.size && Nat.beq j.size k && Nat.blt 0 k && ps.toList.isEmpty then ∀ b,putK N o.dst (.v (.slice (some ⟨b,0,none⟩) 0 0)) f (fun f'=>K f' σ) else False
  | _=>Bx (exY P T o f σ (fun d=>putK N o.dst d f (fun f'=>K f' σ))) (OtE P r n df L N o f σ K)
 | .binOp b _ _ y _=>match b with
  | .eql=>match evF f y with
   | .v (.slice none 0 0)=>OtE P r n df L N o f σ K
   | _=>exY P T o f σ (fun d=>putK N o.dst d f (fun f'=>K f' σ))
  | _=>exY P T o f σ (fun d=>putK N o.dst d f (fun f'=>K f' σ))
 | .makeMap _ _=>OtE P r n df L N o f σ K
 | .mapUpdate _ _ _ _=>OtE P r n df L N o f σ K
 | .mapEntry _ _ _=>OtE P r n df L N o f σ K
 | .entryStore _ _ _ _=>OtE P r n df L N o f σ K
 | .insert _ _ _ _=>OtE P r n df L N o f σ K
 | .lookup _ _ _ _=>OtE P r n df L N o f σ K
 | .box _ _=>Bx (exY P T o f σ (fun d=>putK N o.dst d f (fun f'=>K f' σ))) (OtE P r n df L N o f σ K)
 | _=>exY P T o f σ (fun d=>putK N o.dst d f (fun f'=>K f' σ))
def aE3 (P:Program) (T:TypeId→Option TI) (r:Option Nat) (n:Nat) (df:Nat) (N:Nat) (L:List Oper):List Oper→(Frm→aa1→Prop)→Frm→aa1→Prop
 | [],K,f,σ=>K f σ
 | o :: rest,K,f,σ=>exG L f o fun go=>match go with
  | true=>bif ah1 o.op then exOp P T r n df N L o f σ (aE3 P T r n df N L rest K) else False
  | false=>putK N o.dst (.v undef) f (fun f'=>aE3 P T r n df N L rest K f' σ)
abbrev Fst:=Exit→Frm→aa1→Prop
def bN3 (N:Nat) (Q:Fst):Pst:=fun e a σ=>∃ f,Sp N a f∧Q e f σ
def bw7 (next:Frm→aa1→Prop) (Q:Fst):Fst
 | .normal,f,σ=>next f σ
 | e,f,σ=>Q e f σ
def bX0 (id:Nat) (Q:Fst):Fst
 | .exit id',f,σ=>bif Nat.beq id' id then Q .normal f σ else Q (.exit id') f σ
 | e,f,σ=>Q e f σ
structure Lp (P:Program) (r:Option Nat) (n:Nat) (df:Nat) (N:Nat) (c:Code) (Q:Fst) (f:Frm) (σ:aa1):Prop where
 run:∀ a,Sp N a f→AWP P r n df c (bN3 N Q) a σ
structure Dr (b:Bool) (A B:Prop):Prop where
 run:(b=true∧A)∨B
def cp9:List Oper→Nat→List Nat→List Nat
 | [],_,acc=>acc
 | o :: l,i,acc=>cp9 l (i+1) (bif effO o.op || o.after.toList.any (fun e=>Region.binds .any e && acc.any (Nat.beq e.on)) then i :: acc else acc)
def bb3 (L:List Oper):List Nat:=(cp9 L 0 []).reverse
def mxE (L:List Oper) (i:Nat):Bool:=(bb3 L).any (Nat.beq i)
def mxHs (L:List Oper):List Nat:=(List.range L.length).filter fun i=>!mxE L i
def mxB (L:List Oper):Bool:=Nat.beq ((mxHs L).length+(bb3 L).length) L.length && mixB .any L.toArray (mxE L) (bb3 L) (mxHs L) (Array.replicate L.length false)
def cutF (L:List Tmp):Frm→Frm
 | []=>[]
 | (i,d) :: f=>bif L.any (Nat.beq i) then (i,d) :: cutF L f else cutF L f
def cn6 (o:Oper) (f:Frm):Bool:=match o.op with
 | .load _ p=>match evF f p with | .v _=>true | _=>false
 | .lookup _ _ _ _=>true
 | _=>false
structure Cb (b:Bool) (A:Prop):Prop where
 s:b=true
 k:A
def exHs (P:Program) (T:TypeId→Option TI) (N:Nat) (L:List Oper) (E:Nat→Bool) (σ:aa1):List Nat→(Frm→Prop)→Frm→Prop
 | [],K,f=>K f
 | i :: hs,K,f=>match L[i]? with
  | none=>False
  | some o=>exG L f o fun go=>match go with
   | true=>bif ah1 o.op then
     (match cn6 o f with
     | true=>Cb (barB .any L.toArray E i) (exY P T o f σ (fun d=>putK N o.dst d f (exHs P T N L E σ hs K)))
     | false=>exY P T o f [] (fun d=>putK N o.dst d f (exHs P T N L E σ hs K))) else False
   | false=>putK N o.dst (.v undef) f (exHs P T N L E σ hs K)
def bd0 (P:Program) (T:TypeId→Option TI) (r:Option Nat) (n:Nat) (df:Nat) (N:Nat) (L:List Oper):List Nat→(Frm→aa1→Prop)→Frm→aa1→Prop
 | [],K,f,σ=>K f σ
 | k :: l,K,f,σ=>match L[k]? with
  | none=>False
  | some o=>aE3 P T r n df N L [o] (fun f' σ'=>match o.dst with
    | none=>bd0 P T r n df N L l K f σ'
    | some i=>match an2 f' i with
     | none=>False
     | some d=>bif Nat.blt i N then bd0 P T r n df N L l K ((i,d) :: f) σ' else False) (cutF (o.looksAt L.toArray) f) σ
structure Dm (b:Bool) (A B:Prop):Prop where
 run:(b=true∧A)∨B
def bE8 (P:Program) (T:TypeId→Option TI) (r:Option Nat) (n:Nat) (df:Nat) (N:Nat) (L:List Oper) (K:Frm→aa1→Prop) (B:Prop) (f:Frm) (σ:aa1):Prop:=
 Dm (mxB L) (exHs P T N L (mxE L) σ (mxHs L) (fun f'=>bd0 P T r n df N L (bb3 L) K f' σ) f) B
def az5 (P:Program) (T:TypeId→Option TI) (r:Option Nat) (n:Nat) (df:Nat) (N:Nat) (L:List Oper) (k:Nat) (K:Frm→aa1→Prop) (f:Frm) (σ:aa1):Prop:=match L[k]? with
  | none=>False
  | some o=>aE3 P T r n df N L [o] (fun f' σ'=>match o.dst with
    | none=>K f σ'
    | some i=>match an2 f' i with
     | none=>False
     | some d=>bif Nat.blt i N then K ((i,d) :: f) σ' else False) (cutF (o.looksAt L.toArray) f) σ
def aW9 (P:Program) (T:TypeId→Option TI) (r:Option Nat) (n:Nat) (df:Nat) (N:Nat) (L:List Oper) (K:Frm→aa1→Prop):Ord→Frm→aa1→Prop
 | .done,f,σ=>K f σ
 | .one i t,f,σ=>az5 P T r n df N L i (aW9 P T r n df N L K t) f σ
 | .two i t j u,f,σ=>az5 P T r n df N L i (aW9 P T r n df N L K t) f σ∧az5 P T r n df N L j (aW9 P T r n df N L K u) f σ
 | .three i t j u k v,f,σ=>az5 P T r n df N L i (aW9 P T r n df N L K t) f σ∧az5 P T r n df N L j (aW9 P T r n df N L K u) f σ∧az5 P T r n df N L k (aW9 P T r n df N L K v) f σ
def am9 (P:Program) (T:TypeId→Option TI) (r:Option Nat) (n:Nat) (df:Nat) (N:Nat):Code→Fst→Frm→aa1→Prop
 | .skip,Q,f,σ=>Q .normal f σ
 | .ret,Q,f,σ=>Q .ret f σ
 | .exit id,Q,f,σ=>Q (.exit id) f σ
 | .seq x y,Q,f,σ=>am9 P T r n df N x (bw7 (am9 P T r n df N y Q) Q) f σ
 | .cond c x y,Q,f,σ=>match evF f c with
  | .v (.bool t)=>Bc t (am9 P T r n df N x Q f σ) (am9 P T r n df N y Q f σ) (Lp P r n df N (.cond c x y) Q f σ)
  | _=>False
 | .block id b,Q,f,σ=>am9 P T r n df N b (bX0 id Q) f σ
 | .region id ops draw,Q,f,σ=>match draw with
  | false=>aE3 P T r n df N ops.toList ops.toList (Q .normal) f σ
  | true=>match cg3 ops.toList with
   | none=>Dr (Region.lexB .any ops) (aD0 P T N ops.toList σ ops.toList (fun f'=>Q .normal f' σ) f) (Lp P r n df N (.region id ops true) Q f σ)
   | some m=>match ops.toList[m]? with
    | none=>False
    | some o0=>match o0.op with
     | .alloc t0=>(match cg3 (ops.toList.drop (m+1)) with
      | none=>Dr (Region.lexTailB .any ops m) (aD0 P T N ops.toList σ (ops.toList.take m) (fun f'=>aE3 P T r n df N ops.toList (ops.toList.drop m) (Q .normal) f' σ) f) (bE8 P T r n df N ops.toList (Q .normal) (Lp P r n df N (.region id ops true) Q f σ) f σ)
      | some m2=>match o0.dst with
       | none=>False
       | some s=>match T t0 with
        | none=>False
        | some ti=>bif Nat.beq ti.zero.length ti.size && Nat.blt 0 ti.size && Nat.blt s N && bk1 s m ops.toList 0 && o0.guard.isNone then
          Dr (Region.lexTailB .any ops (m+1+m2)) (ax6 P T N ops.toList σ s t0 (ops.toList.take (m+1+m2)) (fun f'=>as9 (ti.zero.map fun z=>.v (zv z)) fun cs=>∀ b,aE3 P T r n df N ops.toList (ops.toList.drop (m+1+m2)) (Q .normal) ((s,.v (.pointer (some ⟨b,0,none⟩))) :: f') ((b,.cells t0 cs) :: σ)) f) (bE8 P T r n df N ops.toList (Q .normal) (Lp P r n df N (.region id ops true) Q f σ) f σ)
         else False)
     | _=>Dr (Region.lexTailB .any ops m) (aD0 P T N ops.toList σ (ops.toList.take m) (fun f'=>aE3 P T r n df N ops.toList (ops.toList.drop m) (Q .normal) f' σ) f) (bE8 P T r n df N ops.toList (Q .normal) (Lp P r n df N (.region id ops true) Q f σ) f σ)
 | .loop b,Q,f,σ=>Lp P r n df N (.loop b) Q f σ
 | c,Q,f,σ=>Lp P r n df N c Q f σ
section
variable {P:Program} {r:Option Nat} {n:Nat} {df:Nat} {N:Nat} {σ:aa1} {a:List D} {f:Frm} {T:TypeId→Option TI} {L:List Oper}
theorem aE7 {Lq Lq':List D→Prop} {ops:Array Oper} (h:∀ a,Lq a→Lq' a):∀ {l:List Oper} {a:List D},aA5 none P ops σ Lq l a→aA5 none P ops σ Lq' l a
 | [],a,hh=>h _ hh
 | o :: l,a,hh=>by
  rcases hh with ⟨h1,h2,d,h3,h4⟩|⟨h1,h2⟩
  ·exact .inl ⟨h1,h2,d,h3,aE7 h h4⟩
  ·exact .inr ⟨h1,aE7 h h2⟩
theorem be8 {Lq Lq':List D→Prop} {ops:Array Oper} {l:List Oper} (hh:aA5 none P ops σ Lq l a) (h:∀ a,Lq a→Lq' a):ALex P ops σ Lq' l a:=⟨aE7 h hh⟩
theorem bi6 {ops:Array Oper} {Q:Pst} {s t:aa1} {o:Oper} {rest:List Oper} {g:FuncId} {ds:List D} {R:D→aa1→Prop} {ρ:Operand→D} (hw:an1 ops a o=some true) (hn:ah1 o.op=true) (hle:∀ x,Le (evD a x) (ρ x)) (h:bt7 o.op ρ=some (g,ds)) (hc:ACall P g ds s R)
  (k:∀ d s',R d s'→AOps P r n df ops Q rest (putD a o.dst d) (s' ++ t)):AOps P r n df ops Q (o :: rest) a (s ++ t):=by
 refine ae8 hw hn fun w X fr hs=>?_
 obtain ⟨vs,h1,h2⟩:=bp4 (P:=P) (w:=w) (ρ:=ρ) h hc.ent (fun x _=>hle x _ _ _ (hs.fr.eval x))
 rw [h2]
 refine ⟨rfl,(hc.run w _ vs ⟨h1.len,fun j d u g1 g2=>by5 (h1.at_ j d u g1 g2)⟩ hs.st.left).mono ?_⟩
 rintro e w' ⟨u,d,s',g1,g2,g3,g4,g5⟩
 obtain ⟨q1,q2,q3,q4⟩:=stays hs.st g4 g5
 exact ⟨u,g1,d,s' ++ t,q2,(⟨hs.fr.keep g5.keep.size q3 q4,q1,hs.df.keep g5.keep.size q3 q4⟩:St w' X df a (s' ++ t) fr).put (cb0 g3) o.dst,k d s' g2⟩
theorem bH6 (hT:∀ t i,T t=some i→tiOf P t=some i) {ops:Array Oper} {Q:Pst} {o:Oper} {rest:List Oper} {t e:TypeId} {i j:TI} {ag:Bool} {k by_:Nat} (hw:an1 ops a o=some true) (ho:o.op = .buildSlice t 0 #[]) (ht:T t=some i) (hi:i.sl=some (e,ag,k,by_)) (he:T e=some j)
  (hz:j.zero.length=j.size) (hk:j.size=k) (hp:0<k) (kk:∀ b,AOps P r n df ops Q rest (putD a o.dst (.v (.slice (some ⟨b,0,none⟩) 0 0))) σ):AOps P r n df ops Q (o :: rest) a σ:=by
 refine ae8 hw (by rw [ho];rfl) fun w X fr hs=>?_
 obtain ⟨hu,hsz,_⟩:=ai9 (hT t i ht) hi
 have hsz':=(am3 hsz w).2
 obtain ⟨z,g1,g2⟩:=au9 (hT e j he) hz (by omega) w
 have hr0:(Array.range 0:Array Nat) = #[]:=rfl
 have e0:(execOp fr.eval o).run P w = .ok (.value (.slice (some ⟨w.heap.size,0,none⟩) 0 0)) (w.alloc (.cells #[] e)):=by
  simp only [execOp,ho]
  simp [Instr.buildSlice,run_underlying hu,hsz',Result.andThen,newRow,newObj,Sem.run,hr0,Instr.fill]
 rw [e0]
 have hx:Ex w (w.alloc (.cells #[] e)):=(Ex.refl w).alloc
 exact ⟨_,σ,Mv.of_ex hx,(hs.ex hx).put (.v _) o.dst,kk _⟩
theorem Mv.wider {w w':World} {s t u:aa1} (h:Mv w s w' u) (hk:∀ b,b∈aa9 s→b∈aa9 t):Mv w t w' u:=
 ⟨h.keep.mono (fun b _ hb=>hk b hb),fun b hb=>(h.new b hb).imp (hk b) id⟩
theorem Mv.fewer {w w':World} {s t u:aa1} (h:Mv w s w' u) (hk:∀ b,b∈aa9 t→b∈aa9 u):Mv w s w' t:=
 ⟨h.keep,fun b hb=>h.new b (hk b hb)⟩
theorem be7 (hT:∀ t i,T t=some i→tiOf P t=some i) {ops:Array Oper} {Q:Pst} {s s2 τ:aa1} {o:Oper} {rest:List Oper} {p x:Operand} {t e:TypeId} {i j:TI} {ag:Bool} {k by_:Nat} {xs ys:List (List D)} {v:Value} (hw:an1 ops a o=some true)
  (ho:o.op = .call { callee:=.builtin .append,args:=#[p,x],argTypes:=#[t,t] }) (ht:T t=some i) (hi:i.sl=some (e,ag,k,by_)) (he:T e=some j) (hz:j.zero.length=j.size) (hp:0<k) (hk:j.size=k)
  (hpv:evD a p = .v v) (hx:(evD a x = .sl k ys∧s2=[])∨∃ v2,evD a x = .v v2∧RowIs e k ys v2 s2) (hr:RowIs e k xs v s) (h1:∀ y∈ys,y.all oneD=true) (hb:(xs.length+ys.length)*by_≤140737488355328) (hm:xs.length+ys.length≤1000000000)
  (kk:(∀ v' s',RowIs e k (xs ++ ys) v' s'→AOps P r n df ops Q rest (putD a o.dst (.v v')) (s' ++ τ))∨AOps P r n df ops Q rest (putD a o.dst (.sl k (xs ++ ys))) τ):AOps P r n df ops Q (o :: rest) a (s ++ (s2 ++ τ)):=by
 refine ae8 hw (by rw [ho];rfl) fun w X fr hs=>?_
 have hv:=(hs.fr.eval p).val hpv
 have hsub:(s ++ τ).Sublist (s ++ (s2 ++ τ)):=(List.Sublist.refl s).append (List.sublist_append_right _ _)
 have hkey:∀ b,b∈aa9 (s ++ τ)→b∈aa9 (s ++ (s2 ++ τ)):=fun b hb=>(hsub.map Prod.fst).subset hb
 have hst:StOK w X (s ++ τ):=hs.st.sub hsub
 have hu:Rd w (Own (s ++ τ) X) (.sl k ys) (fr.eval x):=by
  have h0:=hs.fr.eval x
  rcases hx with ⟨hx,rfl⟩|⟨v2,hx,hr2⟩
  ·rw [hx] at h0;exact h0
  ·rw [hx] at h0
   have h0:=h0.val rfl
   rw [h0]
   refine aF5 hr2 (hs.st.perm ?_)
   rw [← List.append_assoc,← List.append_assoc]
   exact List.perm_append_comm.append_right _
 obtain ⟨v',w',s',g1,g2,g3,g4⟩:=bt9 (ty:=o.type) (hT t i ht) hi (hT e j he) hz hp hk hr hst.left (by5 hu) h1 hb (by unfold maxLen;omega)
 have ee:(execOp fr.eval o).run P w = .ok (.value v') w':=by
  simp only [execOp,ho,resolve,invoke,builtin,Sem.run_bind,Sem.run_pure,Result.andThen,List.map_toArray,List.map_cons,List.map_nil,hv,g1]
 rw [ee]
 obtain ⟨q1,q2,q3,q4⟩:=stays hst g3 g4
 have hO:∀ b,b<w.heap.size→¬ Own (s ++ (s2 ++ τ)) X b→¬ Own (s' ++ τ) X b:=fun b hb hn=>q3 b hb (al2 hsub b hn)
 have hH:∀ b,b<w.heap.size→¬ Own (s ++ (s2 ++ τ)) X b→w'.heap[b]?=w.heap[b]?:=fun b hb hn=>q4 b hb (al2 hsub b hn)
 rcases kk with kk|kk
 ·exact ⟨_,_,q2.wider hkey,(⟨hs.fr.keep g4.keep.size hO hH,q1,hs.df.keep g4.keep.size hO hH⟩:St w' X df a (s' ++ τ) fr).put (.v _) o.dst,kk v' s' g2⟩
 ·have hsub2:τ.Sublist (s' ++ τ):=List.sublist_append_right _ _
  refine ⟨_,_,(q2.wider hkey).fewer (fun b hb=>(hsub2.map Prod.fst).subset hb),?_,kk⟩
  exact (⟨hs.fr.keep g4.keep.size (fun b hb hn=>al2 hsub2 b (hO b hb hn)) hH,q1.sub hsub2,hs.df.keep g4.keep.size (fun b hb hn=>al2 hsub2 b (hO b hb hn)) hH⟩:St w' X df a τ fr).put (aF5 g2 q1) o.dst
theorem aR4 {o:Oper} {K:Bool→Prop} (h:exG L f o K) (hs:Sp N a f):∃ go,an1 L.toArray a o=some go∧K go:=by
 unfold exG at h
 split at h
 ·rename_i hg;exact ⟨true,by simp only [an1,hg],h⟩
 ·rename_i j want hg
  split at h
  ·exact h.elim
  ·rename_i o' ho
   split at h
   ·exact h.elim
   ·rename_i t ht
    have hb:(L.toArray[j]?).bind (·.dst)=some t:=by simp [ho,ht]
    split at h
    ·rename_i x hx
     have ha:a[t]?=some (.v x):=by
      rcases hs.at_ t _ hx with h1|h1
      ·cases h1
      ·exact h1
     split at h
     ·rename_i b
      have hw:an1 L.toArray a o=some (b == want):=by simp only [an1,hg,hb,ha]
      split at h <;> cases b
      ·exact ⟨false,hw,h.no rfl⟩
      ·exact ⟨true,hw,h.yes rfl⟩
      ·exact ⟨true,hw,h.no rfl⟩
      ·exact ⟨false,hw,h.yes rfl⟩
     ·exact ⟨false,by simp only [an1,hg,hb,ha],h⟩
     ·exact h.elim
    ·exact h.elim
theorem aC9 (hT:∀ t i,T t=some i→tiOf P t=some i):∀ {l:List Oper} {K:Frm→Prop} {f:Frm} {a:List D},aD0 P T N L σ l K f→Sp N a f→aA5 none P L.toArray σ (fun a'=>∃ f',Sp N a' f'∧K f') l a
 | [],K,f,a,h,hs=>⟨f,hs,h⟩
 | o :: rest,K,f,a,h,hs=>by
  obtain ⟨go,hw,h1⟩:=aR4 (K:=fun go=>match go with
   | true=>bif ah1 o.op then exY P T o f σ (fun d=>putK N o.dst d f (aD0 P T N L σ rest K)) else False
   | false=>putK N o.dst (.v undef) f (aD0 P T N L σ rest K)) h hs
  cases go with
  | true=>
   obtain ⟨hn,h2⟩:=ae6 h1
   obtain ⟨d,hy,h3⟩:=aR3 hT h2
   obtain ⟨f',hs',h4⟩:=ad4 h3 hs
   exact .inl ⟨hw,hn,d,.of (hy.le hs.le),aC9 hT h4 hs'⟩
  | false=>
   obtain ⟨f',hs',h4⟩:=ad4 h1 hs
   exact .inr ⟨hw,aC9 hT h4 hs'⟩
theorem ay9 (hT:∀ t i,T t=some i→tiOf P t=some i) {s:Nat} {t0:TypeId}:∀ {l:List Oper} {K:Frm→Prop} {f:Frm} {a:List D},ax6 P T N L σ s t0 l K f→Sp N a f→aA5 (some (s,t0)) P L.toArray σ (fun a'=>∃ f',Sp N a' f'∧K f') l a
 | [],K,f,a,h,hs=>⟨f,hs,h⟩
 | o :: rest,K,f,a,h,hs=>by
  obtain ⟨go,hw,h1⟩:=aR4 (K:=fun go=>match go with
   | true=>bif ah1 o.op then
     (bif isAl (some (s,t0)) o then (match o.op with
      | .alloc t=>bif Nat.beq t t0 then putK N o.dst .any f (ax6 P T N L σ s t0 rest K) else False
      | _=>False)
     else exY P T o f σ (fun d=>putK N o.dst d f (ax6 P T N L σ s t0 rest K))) else False
   | false=>putK N o.dst (.v undef) f (ax6 P T N L σ s t0 rest K)) h hs
  cases go with
  | true=>
   obtain ⟨hn,h2⟩:=ae6 h1
   cases hal:isAl (some (s,t0)) o with
   | true=>
    rw [hal] at h2
    simp only [cond_true] at h2
    split at h2
    ·rename_i t hop
     obtain ⟨ht,h3⟩:=ae6 h2
     have:=Nat.eq_of_beq_eq_true ht
     subst this
     obtain ⟨f',hs',h4⟩:=ad4 h3 hs
     have hdst:o.dst=some s:=by
      unfold isAl at hal
      simp only at hal
      split at hal
      ·rename_i i hi;have:=Nat.eq_of_beq_eq_true hal;subst this;exact hi
      ·cases hal
     exact .inl ⟨hw,hn,.any,.inr ⟨hal,⟨s,t,rfl,hop,hdst⟩,rfl⟩,ay9 hT h4 hs'⟩
    ·exact h2.elim
   | false=>
    rw [hal] at h2
    simp only [cond_false] at h2
    obtain ⟨d,hy,h3⟩:=aR3 hT h2
    obtain ⟨f',hs',h4⟩:=ad4 h3 hs
    exact .inl ⟨hw,hn,d,.inl ⟨hal,hy.le hs.le⟩,ay9 hT h4 hs'⟩
  | false=>
   obtain ⟨f',hs',h4⟩:=ad4 h1 hs
   exact .inr ⟨hw,ay9 hT h4 hs'⟩
theorem aY3 {s idx:Nat}:∀ {l:List Oper} {cur:Nat},bk1 s idx l cur=true→∀ (j:Nat) o,l[j]?=some o→o.dst=some s→cur+j=idx
 | [],cur,_,j,o,h,_=>by simp at h
 | x :: l,cur,hu,j,o,h,hd=>by
  simp only [bk1,Bool.and_eq_true] at hu
  cases j with
  | zero=>
   simp at h;subst h
   rw [hd] at hu
   have h1:=hu.1
   simp only [Nat.beq_refl,cond_true] at h1
   exact Nat.eq_of_beq_eq_true h1
  | succ j=>
   have:=aY3 hu.2 j o (by simpa using h) hd
   omega
theorem ay2 {al:Option (Nat × TypeId)} {Lq Lq':List D→Prop} {ops:Array Oper} (h:∀ a,Lq a→Lq' a):∀ {l:List Oper} {a:List D},aA5 al P ops σ Lq l a→aA5 al P ops σ Lq' l a
 | [],a,hh=>h _ hh
 | o :: l,a,hh=>by
  rcases hh with ⟨h1,h2,d,h3,h4⟩|⟨h1,h2⟩
  ·exact .inl ⟨h1,h2,d,h3,ay2 h h4⟩
  ·exact .inr ⟨h1,ay2 h h2⟩
theorem Sp.set (h:Sp N a f) {s:Nat} {d:D} (hs:s<N):Sp N (a.set s d) ((s,d) :: f):=by
 have:=ad4 (dst:=some s) (d:=d) (K:=fun f'=>f'=(s,d) :: f) (by simp [putK,hs]) h
 obtain ⟨f',h1,rfl⟩:=this
 exact h1
theorem bG1 {d:D} {K:List D→Prop} (h:bW9 d K):bb0 d=true∧d ≠ .any∧K (af8 d):=by
 cases d with
 | any=>exact h.elim
 | agg cs=>exact ⟨rfl,(fun h=>by cases h),ai6 h⟩
 | v x=>
  refine ⟨rfl,(fun h=>by cases h),?_⟩
  cases x <;> first|exact ai6 h|exact h
 | sl k xs=>exact ⟨rfl,(fun h=>by cases h),h⟩
 | ro cs=>exact ⟨rfl,(fun h=>by cases h),h⟩
 | tup ds=>exact ⟨rfl,(fun h=>by cases h),h⟩
 | clo g cs=>exact ⟨rfl,(fun h=>by cases h),h⟩
 | gl g=>exact ⟨rfl,(fun h=>by cases h),h⟩
theorem cg0 (hT:∀ t i,T t=some i→tiOf P t=some i) {o:Oper} {K:Frm→aa1→Prop} {rest:List Oper} {Q:Pst} (hn:ah1 o.op=true) (h:exOp P T r n df N L o f σ K) (hs:Sp N a f) (hw:an1 L.toArray a o=some true)
  (hk:∀ f' σ' a',K f' σ'→Sp N a' f'→AOps P r n df L.toArray Q rest a' σ'):AOps P r n df L.toArray Q (o :: rest) a σ:=by
 have yy:exY P T o f σ (fun d=>putK N o.dst d f (fun f'=>K f' σ))→AOps P r n df L.toArray Q (o :: rest) a σ:=fun h=>by
  obtain ⟨d,hy,h3⟩:=aR3 hT h
  obtain ⟨f',hs',h4⟩:=ad4 h3 hs
  exact bH3 hw hn (hy.le hs.le) (hk _ _ _ h4 hs')
 have oo:OtE P r n df L N o f σ K→AOps P r n df L.toArray Q (o :: rest) a σ:=fun h=>h.run rest Q a hs hw hk
 have eqv:∀ {x:Operand} {v:Value},evF f x = .v v→evD a x = .v v:=fun h=>hs.eq h (fun h=>by cases h)
 unfold exOp at h
 split at h
 ·rename_i t ho
  split at h
  ·exact h.elim
  ·rename_i i hi
   obtain ⟨h1,h2⟩:=ae6 h
   simp only [Bool.and_eq_true,Nat.blt_eq] at h1
   have h3:=ai6 (K:=fun cs=>∀ b,putK N o.dst (.v (.pointer (some ⟨b,0,none⟩))) f (fun f'=>K f' ((b,.cells t cs) :: σ))) h2
   refine bu2 hT hw ho hi (Nat.eq_of_beq_eq_true h1.1) h1.2 (fun b=>?_)
   obtain ⟨f',hs',h4⟩:=ad4 (h3 b) hs
   exact hk _ _ _ h4 hs'
 ·rename_i t p x ho
  split at h
  ·exact h.elim
  ·rename_i i hi
   split at h
   ·rename_i b off hp
    obtain ⟨g1,g2,g3⟩:=bG1 h
    obtain ⟨j,tb,cs,σ',k1,k2,k3,k4,kp,k5⟩:=g3.run
    obtain ⟨f',hs',h4⟩:=ad4 k5 hs
    have hx:=hs.eq (x:=x) rfl g2
    exact bu1 hT hw ho hi (eqv hp) hx k1 g1 k2 rfl (by omega) k4 (ay0 kp (hk _ _ _ h4 hs'))
   ·exact h.elim
 ·rename_i t x y ho
  obtain ⟨e,i,j,ag,by_,m,z,h1,h2,h3,h4,h5,h6,h7,h8,h9,h10⟩:=(ad6 (K:=fun dy=>Mk T σ t (evF f x) dy fun d σ'=>putK N o.dst d f (fun f'=>K f' σ')) (ad6 (K:=fun dx=>ab7 (evF f y) fun dy=>Mk T σ t dx dy fun d σ'=>putK N o.dst d f (fun f'=>K f' σ')) h)).run
  refine bH5 hT hw ho (eqv h6) (eqv h7) h1 h2 h3 h4 h5 h8 h9 (fun b=>?_)
  obtain ⟨f',hs',h11⟩:=ad4 (h10 b) hs
  exact hk _ _ _ h11 hs'
 ·rename_i c ho
  split at h
  ·rename_i hc
   split at h
   ·rename_i p x t t' e2 e3
    cases htt:Nat.beq t t' with
    | false=>rw [htt] at h;exact oo h
    | true=>
    rw [htt] at h
    have hap:Bx _ _:=h
    rcases hap.run.symm with hap|hap
    ·exact oo hap
    have hap:=ad6 (K:=fun dx=>Ap P T σ (evF f p) dx t fun d σ'=>putK N o.dst d f (fun f'=>K f' σ')) (ad6 (K:=fun dp=>ab7 (evF f x) fun dx=>Ap P T σ dp dx t fun d σ'=>putK N o.dst d f (fun f'=>K f' σ')) hap)
    have:=Nat.eq_of_beq_eq_true htt
    subst this
    obtain ⟨e,i,j,ag,k,by_,xs,ys,v,s,s2,τ,h1,h2,h3,h4,h5,h6,h7,h8,h9,h10,h11,h12,h13,h14⟩:=hap.run
    have ho':o.op = .call { callee:=.builtin .append,args:=#[p,x],argTypes:=#[t,t] }:=by
     obtain ⟨callee,args,ats⟩:=c
     simp only at hc e2 e3
     have g2:args = #[p,x]:=by apply Array.ext';simpa using e2
     have g3:ats = #[t,t]:=by apply Array.ext';simpa using e3
     rw [ho,hc,g2,g3]
    refine ay0 h10 (be7 hT hw ho' h1 h2 h3 h4 h5 h6 (eqv h7) ?_ h9 h11 h12 h13 ?_)
    ·rcases h8 with ⟨h8,h8'⟩|⟨v2,h8,h8'⟩
     ·exact .inl ⟨hs.eq h8 (fun h=>by cases h),h8'⟩
     ·exact .inr ⟨v2,eqv h8,h8'⟩
    ·rcases h14 with h14|h14
     ·refine .inl (fun v' s' hr=>?_)
      obtain ⟨σ',hpm,h14⟩:=h14 v' s' hr
      obtain ⟨f',hs',h15⟩:=ad4 h14 hs
      exact ay0 hpm (hk _ _ _ h15 hs')
     ·obtain ⟨f',hs',h15⟩:=ad4 h14 hs
      exact .inr (hk _ _ _ h15 hs')
   ·exact h.elim
  ·exact oo h
  ·split at h
   ·rename_i g ds hc
    have h:=ai6 (K:=fun ds=>CE P g ds σ fun d σ'=>ab7 d fun d=>putK N o.dst d f (fun f'=>K f' σ')) h
    obtain ⟨s,t,R,h1,h2,h3⟩:=h.run
    refine ay0 h1 (bi6 hw hn hs.le hc h2 (fun d s' hr=>?_))
    obtain ⟨σ',hpm,h3⟩:=h3 d s' hr
    obtain ⟨f',hs',h4⟩:=ad4 (ad6 h3) hs
    exact ay0 hpm (hk _ _ _ h4 hs')
   ·exact h.elim
  ·exact yy h
 ·rename_i t m ps ho
  split at h
  ·split at h
   ·exact h.elim
   ·rename_i i hi
    split at h
    ·exact h.elim
    ·rename_i e ag k by_ hsl
     split at h
     ·exact h.elim
     ·rename_i j hj
      obtain ⟨h1,h2⟩:=ae6 h
      simp only [Bool.and_eq_true] at h1
      have hps:ps = #[]:=by have:=h1.2;apply Array.ext';simpa using this
      subst hps
      refine bH6 hT hw ho hi hsl hj (Nat.eq_of_beq_eq_true h1.1.1.1) (Nat.eq_of_beq_eq_true h1.1.1.2) (by simpa [Nat.blt_eq] using h1.1.2) (fun b=>?_)
      obtain ⟨f',hs',h4⟩:=ad4 (h2 b) hs
      exact hk _ _ _ h4 hs'
  ·exact h.run.elim yy oo
 ·split at h
  ·split at h
   ·exact oo h
   ·exact yy h
  ·exact yy h
 ·exact oo h
 ·exact oo h
 ·exact oo h
 ·exact oo h
 ·exact oo h
 ·exact oo h
 ·exact h.run.elim yy oo
 ·exact yy h
theorem az0 (hT:∀ t i,T t=some i→tiOf P t=some i) {Q:Pst}:∀ {l:List Oper} {K:Frm→aa1→Prop} {f:Frm} {σ:aa1} {a:List D},aE3 P T r n df N L l K f σ→Sp N a f→(∀ f' σ' a',K f' σ'→Sp N a' f'→Q .normal a' σ')→AOps P r n df L.toArray Q l a σ
 | [],K,f,σ,a,h,hs,hk=>bp9 (hk f σ a h hs)
 | o :: rest,K,f,σ,a,h,hs,hk=>by
  obtain ⟨go,hw,h1⟩:=aR4 (K:=fun go=>match go with
   | true=>bif ah1 o.op then exOp P T r n df N L o f σ (aE3 P T r n df N L rest K) else False
   | false=>putK N o.dst (.v undef) f (fun f'=>aE3 P T r n df N L rest K f' σ)) h hs
  cases go with
  | true=>
   obtain ⟨hn,h2⟩:=ae6 h1
   exact cg0 hT hn h2 hs hw (fun f' σ' a' h3 hs'=>az0 hT h3 hs' hk)
  | false=>
   obtain ⟨f',hs',h4⟩:=ad4 h1 hs
   exact bH4 hw (az0 hT h4 hs' hk)
theorem aN1 {Ls:List Tmp}:∀ {f:Frm} {i:Nat} {d:D},an2 (cutF Ls f) i=some d→an2 f i=some d∧i∈Ls
 | [],i,d,h=>by simp [cutF,an2] at h
 | (j,e) :: f,i,d,h=>by
  simp only [cutF] at h
  cases hb:Ls.any (Nat.beq j) with
  | true=>
   rw [hb] at h
   simp only [cond_true,an2] at h ⊢
   cases hj:Nat.beq j i with
   | true=>
    rw [hj] at h
    simp only [cond_true,Option.some.injEq] at h
    have:=Nat.eq_of_beq_eq_true hj
    subst this h
    obtain ⟨k,hk,hk2⟩:=List.any_eq_true.1 hb
    have:=Nat.eq_of_beq_eq_true hk2
    subst this
    exact ⟨rfl,hk⟩
   | false=>
    rw [hj] at h
    exact aN1 h
  | false=>
   rw [hb] at h
   simp only [cond_false] at h
   obtain ⟨h1,h2⟩:=aN1 h
   simp only [an2]
   cases hj:Nat.beq j i with
   | true=>
    have:=Nat.eq_of_beq_eq_true hj
    subst this
    have:Ls.any (Nat.beq j)=true:=List.any_eq_true.2 ⟨j,h2,by simp⟩
    rw [hb] at this;cases this
   | false=>exact ⟨h1,h2⟩
theorem Sp.cut (h:Sp N a f) (Ls:List Tmp):Sp N (only Ls a) (cutF Ls f):=by
 refine ⟨by rw [bn1];exact h.len,fun i d hd=>?_⟩
 obtain ⟨h1,h2⟩:=aN1 hd
 rcases h.at_ i d h1 with h3|h3
 ·exact .inl h3
 ·exact .inr (by simp [only,List.getElem?_mapIdx,h3,h2])
theorem aA4 (hT:∀ t i,T t=some i→tiOf P t=some i):∀ {hs:List Nat} {E:Nat→Bool} {K:Frm→Prop} {f:Frm} {a:List D},exHs P T N L E σ hs K f→Sp N a f→gLex P .any L.toArray E (fun a' σ'=>σ'=σ∧∃ f',Sp N a' f'∧K f') hs a σ
 | [],E,K,f,a,h,hs=>⟨rfl,f,hs,h⟩
 | i :: il,E,K,f,a,h,hs=>by
  unfold exHs at h
  split at h
  ·exact h.elim
  ·rename_i o ho
   have ho':L.toArray[i]?=some o:=by simpa using ho
   obtain ⟨go,hw,h1⟩:=aR4 (K:=fun go=>match go with
    | true=>bif ah1 o.op then
      (match cn6 o f with
      | true=>Cb (barB .any L.toArray E i) (exY P T o f σ (fun d=>putK N o.dst d f (exHs P T N L E σ il K)))
      | false=>exY P T o f [] (fun d=>putK N o.dst d f (exHs P T N L E σ il K))) else False
    | false=>putK N o.dst (.v undef) f (exHs P T N L E σ il K)) h hs
   cases go with
   | true=>
    obtain ⟨hn,h2⟩:=ae6 h1
    split at h2
    ·obtain ⟨d,hy,h3⟩:=aR3 hT h2.k
     obtain ⟨f',hs',h4⟩:=ad4 h3 hs
     exact ⟨o,d,ho',.inl ⟨h2.s,.inl ⟨hw,hn,.of (hy.le hs.le)⟩⟩,aA4 hT h4 hs'⟩
    ·obtain ⟨d,hy,h3⟩:=aR3 hT h2
     obtain ⟨f',hs',h4⟩:=ad4 h3 hs
     exact ⟨o,d,ho',.inr (.inl ⟨hw,hn,.of (hy.le hs.le)⟩),aA4 hT h4 hs'⟩
   | false=>
    obtain ⟨f',hs',h4⟩:=ad4 h1 hs
    exact ⟨o,_,ho',.inr (.inr ⟨hw,rfl⟩),aA4 hT h4 hs'⟩
theorem aq1 (hT:∀ t i,T t=some i→tiOf P t=some i) {E:Nat→Bool} {k:Nat} {K:Frm→aa1→Prop} {G:List D→aa1→Prop} (hE:E k=true) (h:az5 P T r n df N L k K f σ) (hs:Sp N a f)
  (hk:∀ f' σ' a',K f' σ'→Sp N a' f'→G a' σ'):gOp P r n df L.toArray E k G a σ:=by
 unfold az5 at h
 split at h
 ·exact h.elim
 ·rename_i o ho
  have ho':L.toArray[k]?=some o:=by simpa using ho
  unfold gOp
  rw [ho']
  simp only [hE]
  refine az0 hT h (hs.cut _) (fun f' σ' a' h' hs'=>⟨rfl,by rw [hs'.len,hs.len],?_⟩)
  cases hd:o.dst with
  | none=>
   rw [hd] at h'
   exact ⟨.any,(fun i hi=>by cases hi),hk _ _ _ h' hs⟩
  | some i=>
   rw [hd] at h'
   simp only at h'
   split at h'
   ·exact h'.elim
   ·rename_i d hf'
    obtain ⟨hi,h2⟩:=ae6 h'
    rw [Nat.blt_eq] at hi
    have hia:i<a'.length:=by rw [hs'.len];exact hi
    refine ⟨a'[i],fun j hj _=>by cases hj;exact List.getElem?_eq_getElem hia,hk _ _ _ h2 ?_⟩
    refine ⟨by simp [putD,hs.len],fun j d' hj=>?_⟩
    simp only [an2] at hj
    cases he:Nat.beq i j with
    | true=>
     rw [he] at hj
     simp only [cond_true,Option.some.injEq] at hj
     have:=Nat.eq_of_beq_eq_true he
     subst this hj
     rcases hs'.at_ i _ hf' with h3|h3
     ·exact .inl h3
     ·right
      rw [List.getElem?_eq_getElem hia] at h3
      simp only [Option.some.injEq] at h3
      simp [putD,hs.len,hi,h3]
    | false=>
     rw [he] at hj
     have hne:i≠j:=fun e=>by subst e;simp at he
     rcases hs.at_ j d' hj with h1|h1
     ·exact .inl h1
     ·exact .inr (by simp [putD,List.getElem?_set,hne,h1])
theorem bc9 (hT:∀ t i,T t=some i→tiOf P t=some i):∀ {l:List Nat} {K:Frm→aa1→Prop} {f:Frm} {σ:aa1} {a:List D},(∀ k∈l,mxE L k=true)→bd0 P T r n df N L l K f σ→Sp N a f→gSeq P r n df L.toArray (mxE L) (fun a' σ'=>∃ f',Sp N a' f'∧K f' σ') l a σ
 | [],K,f,σ,a,hE,h,hs=>⟨f,hs,h⟩
 | k :: l,K,f,σ,a,hE,h,hs=>by
  have h':az5 P T r n df N L k (bd0 P T r n df N L l K) f σ:=h
  exact aq1 hT (hE k (by simp)) h' hs (fun f' σ' a' h2 hs'=>bc9 hT (fun k hk=>hE k (by simp [hk])) h2 hs')
def aw3 (p:Nat→Bool):Ord→Bool
 | .done=>true
 | .one i t=>p i && aw3 p t
 | .two i t j u=>p i && (aw3 p t && (p j && aw3 p u))
 | .three i t j u k v=>p i && (aw3 p t && (p j && (aw3 p u && (p k && aw3 p v))))
theorem at0 (hT:∀ t i,T t=some i→tiOf P t=some i) {E:Nat→Bool}:∀ {t:Ord} {K:Frm→aa1→Prop} {f:Frm} {σ:aa1} {a:List D},aw3 E t=true→aW9 P T r n df N L K t f σ→Sp N a f→gOrd P r n df L.toArray E (fun a' σ'=>∃ f',Sp N a' f'∧K f' σ') t a σ
 | .done,K,f,σ,a,hE,h,hs=>⟨f,hs,h⟩
 | .one i t,K,f,σ,a,hE,h,hs=>by
  simp only [aw3,Bool.and_eq_true] at hE
  exact aq1 hT hE.1 h hs (fun f' σ' a' h2 hs'=>at0 hT hE.2 h2 hs')
 | .two i t j u,K,f,σ,a,hE,h,hs=>by
  simp only [aw3,Bool.and_eq_true] at hE
  exact ⟨aq1 hT hE.1 h.1 hs (fun f' σ' a' h2 hs'=>at0 hT hE.2.1 h2 hs'),aq1 hT hE.2.2.1 h.2 hs (fun f' σ' a' h2 hs'=>at0 hT hE.2.2.2 h2 hs')⟩
 | .three i t j u k v,K,f,σ,a,hE,h,hs=>by
  simp only [aw3,Bool.and_eq_true] at hE
  exact ⟨aq1 hT hE.1 h.1 hs (fun f' σ' a' h2 hs'=>at0 hT hE.2.1 h2 hs'),aq1 hT hE.2.2.1 h.2.1 hs (fun f' σ' a' h2 hs'=>at0 hT hE.2.2.2.1 h2 hs'),aq1 hT hE.2.2.2.2.1 h.2.2 hs (fun f' σ' a' h2 hs'=>at0 hT hE.2.2.2.2.2 h2 hs')⟩
theorem ax5 {E:Nat→Bool} {ops:Array Oper} {K K':List D→aa1→Prop} (h:∀ a σ,K a σ→K' a σ):∀ {hs:List Nat} {a:List D},gLex P .any ops E K hs a σ→gLex P .any ops E K' hs a σ
 | [],a,hh=>h _ _ hh
 | i :: hs,a,hh=>let ⟨o,d,h1,h2,h3⟩:=hh;⟨o,d,h1,h2,ax5 h h3⟩
theorem bp2 (hm:P.follows .mixedOrders=true) (hT:∀ t i,T t=some i→tiOf P t=some i) {id:Nat} {Q:Fst} (h:bE8 P T r n df N L (Q .normal) (Lp P r n df N (.region id L.toArray true) Q f σ) f σ) (hs:Sp N a f):AWP P r n df (.region id L.toArray true) (bN3 N Q) a σ:=by
 rcases h.run with ⟨hb,hk⟩|h
 ·unfold mxB at hb
  rw [Bool.and_eq_true] at hb
  refine be4 (mxE L) (mxHs L) (bb3 L) hm (Nat.eq_of_beq_eq_true hb.1) hb.2 (ax5 (fun a' σ' h'=>?_) (aA4 hT hk hs))
  obtain ⟨rfl,f',hs',h'⟩:=h'
  exact bc9 hT (fun k hk=>List.any_eq_true.2 ⟨k,hk,by simp⟩) h' hs'
 ·exact h.run a hs
theorem am8 (hm:P.follows .mixedOrders=true) (hT:∀ t i,T t=some i→tiOf P t=some i):∀ {c:Code} {Q:Fst} {f:Frm} {σ:aa1} {a:List D},am9 P T r n df N c Q f σ→Sp N a f→AWP P r n df c (bN3 N Q) a σ:=by
 intro c
 induction c with
 | skip=>intro Q f σ a h hs;exact bR0 ⟨f,hs,h⟩
 | ret=>intro Q f σ a h hs;exact cg7 ⟨f,hs,h⟩
 | exit id=>intro Q f σ a h hs;exact bR1 ⟨f,hs,h⟩
 | seq x y ihx ihy=>
  intro Q f σ a h hs
  refine cg6 (ar1 (ihx h hs) ?_)
  rintro e a' σ' ⟨f',hs',h'⟩
  cases e <;> first|exact ihy h' hs' | exact ⟨f',hs',h'⟩
 | cond c x y ihx ihy=>
  intro Q f σ a h hs
  simp only [am9] at h
  split at h
  ·rename_i t ht
   rcases h.run with h|h
   ·exact bG7 (hs.eq ht (fun h=>by cases h)) (fun e=>ihx (h.yes e) hs) (fun e=>ihy (h.no e) hs)
   ·exact h.run a hs
  ·exact h.elim
 | block id b ih=>
  intro Q f σ a h hs
  refine bH1 (ar1 (ih h hs) ?_)
  rintro e a' σ' ⟨f',hs',h'⟩
  cases e with
  | exit id'=>
   simp only [bX0] at h'
   simp only [bG3]
   cases hb:Nat.beq id' id with
   | true=>rw [hb] at h';rw [if_pos (Nat.eq_of_beq_eq_true hb)];exact ⟨f',hs',h'⟩
   | false=>rw [hb] at h';rw [if_neg (fun e=>by subst e;simp at hb)];exact ⟨f',hs',h'⟩
  | _=>exact ⟨f',hs',h'⟩
 | region id ops draw=>
  intro Q f σ a h hs
  obtain ⟨l⟩:=ops
  simp only [am9] at h
  cases draw with
  | false=>exact bt8 (az0 (L:=l) hT h hs (fun f' σ' a' h' hs'=>⟨f',hs',h'⟩))
  | true=>
   simp only at h
   split at h
   ·rcases h.run with ⟨hb,hk⟩|h
    ·exact bR3 hm hb (be8 (aC9 (L:=l) hT hk hs) (fun a' ⟨f',hs',h'⟩=>⟨f',hs',h'⟩))
    ·exact h.run a hs
   ·rename_i m he
    have old:Dr (Region.lexTailB .any l.toArray m) (aD0 P T N l σ (l.take m) (fun f'=>aE3 P T r n df N l (l.drop m) (Q .normal) f' σ) f) (bE8 P T r n df N l (Q .normal) (Lp P r n df N (.region id l.toArray true) Q f σ) f σ)→AWP P r n df (.region id l.toArray true) (bN3 N Q) a σ:=fun h=>by
     rcases h.run with ⟨hb,hk⟩|hmx
     ·refine aX8 m hm hb (be8 (aC9 (L:=l) hT hk hs) (fun a' ⟨f',hs',h'⟩=>?_))
      exact az0 (L:=l) hT h' hs' (fun f' σ' a' h' hs'=>⟨f',hs',h'⟩)
     ·exact bp2 hm hT hmx hs
    split at h
    ·exact h.elim
    ·rename_i o0 ho0
     split at h
     ·rename_i t0 hop
      split at h
      ·exact old h
      ·rename_i m2 he2
       split at h
       ·exact h.elim
       ·rename_i s hd0
        split at h
        ·exact h.elim
        ·rename_i ti hti
         obtain ⟨hc,hk⟩:=ae6 h
         simp only [Bool.and_eq_true,Nat.blt_eq] at hc
         obtain ⟨⟨⟨⟨c1,c2⟩,c3⟩,c4⟩,c5⟩:=hc
         rcases hk.run with ⟨hkb,hk⟩|hmx
         ·refine be3 (m+1+m2) m s t0 o0 hT hti (Nat.eq_of_beq_eq_true c1) c2 hm hkb ho0 (by omega) hop hd0 (by simpa using c5) (fun j o hj hd=>by have:=aY3 c4 j o hj hd;omega) (by rw [hs.len];exact c3)
           (ay2 (fun a' ⟨f',hs',h'⟩=>⟨by rw [hs'.len,hs.len],fun b=>?_⟩) (ay9 (L:=l) hT hk hs))
          have h2:=ai6 (K:=fun cs=>∀ b,aE3 P T r n df N l (l.drop (m+1+m2)) (Q .normal) ((s,.v (.pointer (some ⟨b,0,none⟩))) :: f') ((b,.cells t0 cs) :: σ)) h' b
          exact az0 (L:=l) hT h2 (hs'.set c3) (fun f' σ' a' h' hs'=>⟨f',hs',h'⟩)
         ·exact bp2 hm hT hmx hs
     ·exact old h
 | loop b ih=>intro Q f σ a h hs;exact h.run a hs
 | rangeFunc x p s b ih1 ih2=>intro Q f σ a h hs;exact h.run a hs
 | scope b ih=>intro Q f σ a h hs;exact h.run a hs
 | label l=>intro Q f σ a h hs;exact h.run a hs
 | goto l=>intro Q f σ a h hs;exact h.run a hs
 | refuse w=>intro Q f σ a h hs;exact h.run a hs
end
end
section
open Go Go.RowKit Go.Shelf
structure W (p:Prop):Prop where
 h:p
def memN:Nat→List Nat→Bool
 | _,[]=>false
 | i,j :: l=>bif Nat.beq i j then true else memN i l
def bF8:List Nat→Frm→Frm
 | _,[]=>[]
 | js,(i,d) :: f=>bif memN i js then bF8 js f else (i,d) :: bF8 (i :: js) f
def asg:Code→List Nat
 | .region _ ops _=>ops.toList.filterMap (·.dst)
 | .seq x y=>asg x ++ asg y
 | .cond _ x y=>asg x ++ asg y
 | .block _ b=>asg b
 | .loop b=>asg b
 | .rangeFunc _ ps x y=>ps.toList ++ (asg x ++ asg y)
 | .scope b=>asg b
 | _=>[]
def ar9 (c:Code) (f:Frm) (ps:Frm):Frm:=ps ++ bF8 (ps.map Prod.fst ++ asg c) f
def chkF (f' F:Frm):Prop:=F.map (fun p=>an2 f' p.1)=F.map (fun p=>some p.2)
def aC6:Frm→(Frm→Prop)→Prop
 | [],K=>K []
 | (i,d) :: f,K=>aC6 f fun f=>K ((i,d) :: f)
theorem ap9:∀ {f:Frm} {K:Frm→Prop},aC6 f K→K f
 | [],_,h=>h
 | (i,d) :: f,K,h=>ap9 (K:=fun f=>K ((i,d) :: f)) h
theorem aM0:∀ {f:Frm} {i:Nat} {d:D},an2 f i=some d→(i,d)∈f
 | [],i,d,h=>by simp [an2] at h
 | (j,e) :: f,i,d,h=>by
  simp only [an2] at h
  cases hb:Nat.beq j i with
  | true=>rw [hb] at h;simp at h;have:=Nat.eq_of_beq_eq_true hb;subst this h;simp
  | false=>rw [hb] at h;exact List.mem_cons_of_mem _ (aM0 h)
theorem bQ7 {f' F:Frm} (h:chkF f' F) {i:Nat} {d:D} (hl:an2 F i=some d):an2 f' i=some d:=by
 have hm:=aM0 hl
 unfold chkF at h
 obtain ⟨j,hj⟩:=List.getElem?_of_mem hm
 have h1:(F.map (fun p=>an2 f' p.1))[j]?=(F.map (fun p=>some p.2))[j]?:=by rw [h]
 simp [hj] at h1
 exact h1
theorem Sp.sub {N:Nat} {a:List D} {f' F:Frm} (hs:Sp N a f') (h:chkF f' F):Sp N a F:=
 ⟨hs.len,fun i d hd=>hs.at_ i d (bQ7 h hd)⟩
section
variable {P:Program} {r:Option Nat} {n:Nat} {df:Nat} {N:Nat} {σ:aa1} {a:List D} {f:Frm} {T:TypeId→Option TI} {Q:Fst}
theorem ae2 (hm:P.follows .mixedOrders=true) (hT:∀ t i,T t=some i→tiOf P t=some i) {c:Code} {γ:Type} (ps:γ→Frm) (S:γ→aa1) (I:γ→Prop) (μ:γ→Nat) (g₀:γ)
  (h1:chkF f (ar9 c f (ps g₀))) (h2:σ=S g₀) (h3:I g₀)
  (h4:∀ g,I g→W (aC6 (ar9 c f (ps g)) fun F=>am9 P T r n df N c (bw7 (fun f' σ'=>∃ g',chkF f' (ar9 c f (ps g'))∧σ'=S g'∧I g'∧μ g' < μ g) Q) F (S g))) :
  Lp P r n df N (.loop c) Q f σ:=by
 refine ⟨fun a hs=>?_⟩
 refine aX7 (fun m a σ=>∃ g,μ g=m∧I g∧Sp N a (ar9 c f (ps g))∧σ=S g) (μ g₀) ⟨g₀,rfl,h3,hs.sub h1,h2⟩ ?_
 rintro m a σ ⟨g,rfl,hI,hS,rfl⟩
 refine ar1 (am8 hm hT (ap9 (h4 g hI).h) hS) ?_
 rintro e a' σ' ⟨f',hs',h'⟩
 cases e with
 | normal=>obtain ⟨g',k1,k2,k3,k4⟩:=h';exact ⟨μ g',k4,g',rfl,k3,hs'.sub k1,k2⟩
 | _=>exact ⟨f',hs',h'⟩
structure Vs (σ:aa1) (d:D) (σ':aa1) (d':D):Prop where
 run:∀ (w:World) (X:Nat→Prop) (u:Value),StOK w X σ→Rd w (Own σ X) d u→StOK w X σ'∧Rd w (Own σ' X) d' u
 sub:∀ b,b∈aa9 σ'→b∈aa9 σ
theorem Vs.refl (σ:aa1) (d:D):Vs σ d σ d:=⟨fun _ _ _ h1 h2=>⟨h1,h2⟩,fun _ h=>h⟩
theorem Vs.le {σ:aa1} {d d':D} (h:Le d d'):Vs σ d σ d':=⟨fun _ _ _ h1 h2=>⟨h1,h _ _ _ h2⟩,fun _ h=>h⟩
theorem Vs.trans {σ σ' σ'':aa1} {d d' d'':D} (h:Vs σ d σ' d') (k:Vs σ' d' σ'' d''):Vs σ d σ'' d'':=
 ⟨fun w X u h1 h2=>let ⟨g1,g2⟩:=h.run w X u h1 h2;k.run w X u g1 g2,fun b hb=>h.sub b (k.sub b hb)⟩
structure Rt (R:D→aa1→Prop) (d:D) (σ:aa1):Prop where
 run:∃ d' σ',Vs σ d σ' d'∧R d' σ'
theorem ACall.vs {P:Program} {g:FuncId} {args:List D} {σ:aa1} {R:D→aa1→Prop} (h:ACall P g args σ (fun d σ'=>Rt R d σ')):ACall P g args σ R:=
 ⟨h.ent,fun w X vs hv hs=>(h.run w X vs hv hs).mono fun e w' ⟨u,d,σ',h1,⟨d',σ'',h2,h3⟩,h4,h5,h6⟩=>
  let ⟨g1,g2⟩:=h2.run w' X u h5 h4;⟨u,d',σ'',h1,h3,g2,g1,h6.keep,fun b hb=>h6.new b (h2.sub b hb)⟩⟩
structure Rs (P:Program) (N:Nat) (fn:Func) (f:Frm) (σ:aa1) (K:D→Prop):Prop where
 run:∃ d,(∀ a,Sp N a f→ResOK P fn a σ d)∧K d
def bP9 (P:Program) (N:Nat) (fn:Func) (f:Frm) (σ:aa1) (K:D→Prop):Prop:=
 match fn.results.toList with
 | []=>K (.v (.tuple #[]))
 | [.tmp i]=>ab7 (evF f (.tmp i)) K
 | [.tmp i,.tmp j]=>ab7 (evF f (.tmp i)) fun d=>ab7 (evF f (.tmp j)) fun e=>K (.tup [d,e])
 | [.tmp i,.tmp j,.tmp k]=>ab7 (evF f (.tmp i)) fun d=>ab7 (evF f (.tmp j)) fun e=>ab7 (evF f (.tmp k)) fun g=>K (.tup [d,e,g])
 | [.tmp i1,.tmp i2,.tmp i3,.tmp i4,.tmp i5]=>ab7 (evF f (.tmp i1)) fun d1=>ab7 (evF f (.tmp i2)) fun d2=>ab7 (evF f (.tmp i3)) fun d3=>ab7 (evF f (.tmp i4)) fun d4=>ab7 (evF f (.tmp i5)) fun d5=>K (.tup [d1,d2,d3,d4,d5])
 | _=>Rs P N fn f σ K
def retF (P:Program) (N:Nat) (fn:Func) (R:D→aa1→Prop):Fst
 | .ret,f,σ=>bP9 P N fn f σ fun d=>Rt R d σ
 | .normal,f,σ=>bP9 P N fn f σ fun d=>Rt R d σ
 | _,_,_=>False
theorem ResOK.le {fn:Func} {d d':D} (h:ResOK P fn a σ d) (hl:Le d d'):ResOK P fn a σ d':=fun w X t hf hs=>let ⟨u,h1,h2⟩:=h w X t hf hs;⟨u,h1,hl _ _ _ h2⟩
theorem ao5 (hs:Sp N a f) (i:Nat):Le (a.getD i (.v undef)) (evF f (.tmp i)):=hs.le (.tmp i)
theorem aQ9 {d:D} {K:D→Prop}:ab7 d K=K d:=by cases d <;> rfl
theorem bK6 {fn:Func} {i1 i2 i3:Tmp} (h:fn.results = #[.tmp i1,.tmp i2,.tmp i3]) :
  ResOK P fn a σ (.tup [a.getD i1 (.v undef),a.getD i2 (.v undef),a.getD i3 (.v undef)]):=fun w X t hf _=>by
 refine ⟨.tuple #[t.getD i1 undef,t.getD i2 undef,t.getD i3 undef],by simp [results,h],?_⟩
 have:=RdL.cons (aj4 hf i1) (RdL.cons (aj4 hf i2) (RdL.cons (aj4 hf i3) RdL.nil))
 exact .tup _ _ this.len this.at_
theorem bp1 {fn:Func} {K:D→Prop} (h:bP9 P N fn f σ K) (hs:Sp N a f):∃ d,ResOK P fn a σ d∧K d:=by
 unfold bP9 at h
 split at h
 ·rename_i e;exact ⟨_,bK8 (by apply Array.ext';simpa using e),h⟩
 ·rename_i i e
  exact ⟨_,(ca5 (i:=i) (by apply Array.ext';simpa using e)).le (ao5 hs i),ad6 h⟩
 ·rename_i i j e
  refine ⟨_,(bK7 (i:=i) (j:=j) (by apply Array.ext';simpa using e)).le (bn7 (.cons (ao5 hs i) (.cons (ao5 hs j) .nil))),?_⟩
  exact ad6 (K:=fun e=>K (.tup [_,e])) (ad6 (K:=fun d=>ab7 (evF f (.tmp j)) fun e=>K (.tup [d,e])) h)
 ·rename_i i j k e
  simp only [aQ9] at h
  exact ⟨_,(bK6 (i1:=i) (i2:=j) (i3:=k) (by apply Array.ext';simpa using e)).le (bn7 (.cons (ao5 hs i) (.cons (ao5 hs j) (.cons (ao5 hs k) .nil)))),h⟩
 ·rename_i i1 i2 i3 i4 i5 e
  simp only [aQ9] at h
  exact ⟨_,(bK5 (i1:=i1) (i2:=i2) (i3:=i3) (i4:=i4) (i5:=i5) (by apply Array.ext';simpa using e)).le (bn7 (.cons (ao5 hs i1) (.cons (ao5 hs i2) (.cons (ao5 hs i3) (.cons (ao5 hs i4) (.cons (ao5 hs i5) .nil)))))),h⟩
 ·obtain ⟨d,h1,h2⟩:=h.run;exact ⟨d,h1 a hs,h2⟩
def argF:List D→Frm
 | []=>[]
 | [a]=>[(0,a)]
 | [a,b]=>[(0,a),(1,b)]
 | [a,b,c]=>[(0,a),(1,b),(2,c)]
 | [a,b,c,d]=>[(0,a),(1,b),(2,c),(3,d)]
 | [a,b,c,d,e]=>[(0,a),(1,b),(2,c),(3,d),(4,e)]
 | [a,b,c,d,e,g]=>[(0,a),(1,b),(2,c),(3,d),(4,e),(5,g)]
 | [a,b,c,d,e,g,h]=>[(0,a),(1,b),(2,c),(3,d),(4,e),(5,g),(6,h)]
 | [a,b,c,d,e,g,h,i]=>[(0,a),(1,b),(2,c),(3,d),(4,e),(5,g),(6,h),(7,i)]
 | _=>[]
theorem cg8 (l m:List D):∀ i d,an2 (argF l) i=some d→d = .any∨(l ++ m)[i]?=some d:=by
 intro i d h
 right
 have key:∀ p∈argF l,(l ++ m)[p.1]?=some p.2:=by
  unfold argF
  split <;> simp
 exact key _ (aM0 h)
theorem bW8 (hm:P.follows .mixedOrders=true) (hT:∀ t i,T t=some i→tiOf P t=some i) {g:FuncId} {fn:Func} {c:Code} {args:List D} {R:D→aa1→Prop} (hf:P.funcs[g]?=some fn) (hname:(fn.name == "runtime.NumGoroutine")=false) (hb:fn.body=some c) (hN:fn.ntmps=N) (hl:Nat.ble args.length N=true)
  (h:∀ B,W (am9 P T none 9 B N c (retF P N fn R) (argF args) σ)):ACall P g args σ R:=by
 refine ACall.vs (be9 hf hname hb fun B=>(ar1 (am8 hm hT (h B).h ⟨by rw [Nat.ble_eq] at hl;simp [hN];omega,cg8 _ _⟩) ?_))
 rintro e a' σ' ⟨f',hs',h'⟩
 cases e with
 | ret=>exact bp1 (K:=fun d=>Rt R d σ') h' hs'
 | normal=>exact bp1 (K:=fun d=>Rt R d σ') h' hs'
 | _=>exact h'.elim
end
/-! ### What to say where the executor stops -/
section
variable {P:Program} {σ:aa1} {A B:Prop} {T:TypeId→Option TI}
theorem Bc.l {t:Bool} {C:Prop} (h:Br t A B):Bc t A B C:=⟨.inl h⟩
theorem Bc.j {t:Bool} {C:Prop} (h:C):Bc t A B C:=⟨.inr h⟩
theorem Bx.l (h:W A):Bx A B:=⟨.inl h.h⟩
theorem Bx.r (h:B):Bx A B:=⟨.inr h⟩
theorem Br.tt (h:W A):Br true A B:=⟨fun _=>h.h,(fun e=>by cases e)⟩
theorem Br.ff (h:W B):Br false A B:=⟨(fun e=>by cases e),fun _=>h.h⟩
theorem Br.t {t:Bool} (e:t=true) (h:W A):Br t A B:=by subst e;exact Br.tt h
theorem Br.f {t:Bool} (e:t=false) (h:W B):Br t A B:=by subst e;exact Br.ff h
theorem Br.dt {p:Prop} [Decidable p] (e:p) (h:W A):Br (decide p) A B:=Br.t (decide_eq_true e) h
theorem Br.df {p:Prop} [Decidable p] (e:¬ p) (h:W B):Br (decide p) A B:=Br.f (decide_eq_false e) h
theorem Br.d {p:Prop} [Decidable p] (h:p→W A) (k:¬ p→W B):Br (decide p) A B:=⟨fun e=>(h (of_decide_eq_true e)).h,fun e=>(k (of_decide_eq_false e)).h⟩
theorem Br.n {t:Bool} (h:Br t B A):Br (!t) A B:=⟨fun e=>h.no (by simpa using e),fun e=>h.yes (by simpa using e)⟩
theorem Br.b {t:Bool} (h:t=true→W A) (k:t=false→W B):Br t A B:=⟨fun e=>(h e).h,fun e=>(k e).h⟩
theorem Br.eq {t t':Bool} (e:t=t') (h:Br t' A B):Br t A B:=by subst e;exact h
theorem Sd.eq {s s':Prop} (e:s=s') (h:Sd s' A):Sd s A:=by subst e;exact h
theorem Sd.go {s:Prop} (h:s) (k:W A):Sd s A:=⟨h,k.h⟩
theorem Ck.go {b:Bool} (h:b=true) (k:W A):Ck b A:=⟨h,k.h⟩
theorem Dm.l {b:Bool} (h:b=true) (k:W A):Dm b A B:=⟨.inl ⟨h,k.h⟩⟩
theorem Dm.r {b:Bool} (k:W B):Dm b A B:=⟨.inr k.h⟩
theorem Cb.go {b:Bool} (h:b=true) (k:W A):Cb b A:=⟨h,k.h⟩
theorem Dr.l {b:Bool} (h:b=true) (k:W A):Dr b A B:=⟨.inl ⟨h,k.h⟩⟩
theorem Dr.r {b:Bool} (k:W B):Dr b A B:=⟨.inr k.h⟩
theorem Ix.map {α:Type} {g:α→List D} {l:List α} {j:Int} {K:List D→Prop} (h0:0≤j∧j<l.length) (h:∀ y,l[j.toNat]?=some y→W (K (g y))):Ix (l.map g) j K:=by
 have hlt:j.toNat<l.length:=by omega
 exact ⟨h0.1,_,by rw [List.getElem?_map,List.getElem?_eq_getElem hlt];rfl,(h _ (List.getElem?_eq_getElem hlt)).h⟩
structure IxM (p:Prop):Prop where
 run:p
theorem Ix.mapM {α:Type} {g:α→List D} {l:List α} {j:Int} {K:List D→Prop} (h0:0≤j∧j<l.length) (h:IxM (∀ y,l[j.toNat]?=some y→W (K (g y)))):Ix (l.map g) j K:=Ix.map h0 h.run
theorem Ix.mapAt {α:Type} {g:α→List D} {l:List α} {j:Int} {y:α} {K:List D→Prop} (hy:l[j.toNat]?=some y) (h0:0≤j) (h:W (K (g y))):Ix (l.map g) j K:=
 ⟨h0,_,by rw [List.getElem?_map,hy];rfl,h.h⟩
theorem Ix.at {xs:List (List D)} {j:Int} {cs:List D} {K:List D→Prop} (hy:xs[j.toNat]?=some cs) (h0:0≤j) (h:W (K cs)):Ix xs j K:=⟨h0,cs,hy,h.h⟩
theorem Ld.at {o:Oper} {ρ:Operand→D} {b off:Nat} {ag:Bool} {sz:Nat} {K:D→Prop} (j:Nat) {tb:TypeId} {cs:List D} {d:D} (h1:σ[j]?=some (b,.cells tb cs)) (h2:Nat.ble (off+sz) cs.length=true) (h3:mkD ag ((cs.drop off).take sz)=d) (h:W (K d)):Ld P o ρ σ b off ag sz K:=
 ⟨.inl ⟨j,tb,cs,h1,by rwa [Nat.ble_eq] at h2,by rw [h3];exact h.h⟩⟩
theorem Ld.yd {b off:Nat} {ag:Bool} {sz:Nat} {K:D→Prop} {o:Oper} {ρ:Operand→D} {d:D} (h:Yd P o ρ σ d) (k:W (K d)):Ld P o ρ σ b off ag sz K:=⟨.inr ⟨d,h,k.h⟩⟩
theorem Sv.at {b off:Nat} {new:List D} {sz:Nat} {K:aa1→Prop} (j:Nat) {tb:TypeId} {cs:List D} {σ':aa1} (h1:σ[j]?=some (b,.cells tb cs)) (h2:new.length=sz) (h3:Nat.ble (off+sz) cs.length=true) (h4:new.all oneD=true) (h5:σ.set j (b,.cells tb (spl cs off new))=σ') (h:W (K σ')):Sv σ b off new sz K:=
 ⟨j,tb,cs,σ',h1,h2,by rwa [Nat.ble_eq] at h3,h4,List.Perm.of_eq h5,h.h⟩
theorem Sv.perm {b off:Nat} {new:List D} {sz:Nat} {K:aa1→Prop} {tb:TypeId} {cs cs':List D} {τ:aa1} (h1:σ.Perm ((b,.cells tb cs) :: τ)) (h2:new.length=sz) (h3:off+sz≤cs.length) (h4:new.all oneD=true) (h5:spl cs off new=cs') (h:W (K ((b,.cells tb cs') :: τ))):Sv σ b off new sz K:=by
 obtain ⟨j,hj⟩:=List.getElem?_of_mem (h1.mem_iff.2 (List.mem_cons_self (a:=(b,Blk.cells tb cs))))
 obtain ⟨hl,he⟩:=List.getElem?_eq_some_iff.1 hj
 refine ⟨j,tb,cs,_,hj,h2,h3,h4,?_,h.h⟩
 rw [h5]
 have e1:σ=σ.take j ++ (b,Blk.cells tb cs) :: σ.drop (j+1):=by
  rw [← he,List.getElem_cons_drop,List.take_append_drop]
 have e2:σ.set j (b,Blk.cells tb cs')=σ.take j ++ (b,Blk.cells tb cs') :: σ.drop (j+1):=by
  rw [List.set_eq_take_append_cons_drop,if_pos hl]
 have h6:σ.Perm ((b,Blk.cells tb cs) :: (σ.take j ++ σ.drop (j+1))):=by
  refine (List.Perm.of_eq e1).trans List.perm_middle
 have h7:τ.Perm (σ.take j ++ σ.drop (j+1)):=(List.perm_cons _).1 (h1.symm.trans h6)
 rw [e2]
 exact List.perm_middle.trans (List.Perm.cons _ h7.symm)
theorem Ld.mem {b off:Nat} {ag:Bool} {sz:Nat} {K:D→Prop} {o:Oper} {ρ:Operand→D} {tb:TypeId} {cs:List D} {d:D} (h1:(b,Blk.cells tb cs)∈σ) (h2:off+sz≤cs.length) (h3:mkD ag ((cs.drop off).take sz)=d) (h:W (K d)):Ld P o ρ σ b off ag sz K:=by
 obtain ⟨j,hj⟩:=List.getElem?_of_mem h1
 exact ⟨.inl ⟨j,tb,cs,hj,h2,by rw [h3];exact h.h⟩⟩
theorem Ot.yd {o:Oper} {ρ:Operand→D} {K:D→Prop} {d:D} (h:Yd P o ρ σ d) (k:W (K d)):Ot P o ρ σ K:=⟨d,h,k.h⟩
theorem Cp.by {g:FuncId} {args:List D} {K:D→Prop} {d:D} (h:APure P g args d) (k:W (K d)):Cp P g args σ K:=⟨d,h.pk,k.h⟩
theorem Cp.pk {g:FuncId} {args:List D} {K:D→Prop} {d:D} (h:APk P g args σ d) (k:W (K d)):Cp P g args σ K:=⟨d,h,k.h⟩
theorem APure.call {g:FuncId} {args:List D} {d:D} (h:APure P g args d):ACall P g args [] (fun d' s'=>d'=d∧s'=[]):=
 ⟨h.ent,fun w X vs hv hs=>(h.run w (Own [] X) vs hv hs.gok).mono fun e w' ⟨u,h1,h2,h3⟩=>⟨u,d,[],h1,⟨rfl,rfl⟩,h2,hs.ex h3,Mv.of_ex h3⟩⟩
theorem ASome.call {g:FuncId} {args:List D} {R:D→Prop} (h:ASome P g args R):ACall P g args [] (fun d' s'=>R d'∧s'=[]):=
 ⟨h.ent,fun w X vs hv hs=>(h.run w (Own [] X) vs hv hs.gok).mono fun e w' ⟨u,d,h1,h2,h3,h4⟩=>⟨u,d,[],h1,⟨h2,rfl⟩,h3,hs.ex h4,Mv.of_ex h4⟩⟩
theorem CE.pure {g:FuncId} {args:List D} {K:D→aa1→Prop} {d:D} (h:APure P g args d) (k:W (K d σ)):CE P g args σ K:=
 ⟨[],σ,_,List.Perm.refl _,h.call,fun d' s' ⟨h1,h2⟩=>by subst h1 h2;exact ⟨σ,List.Perm.refl _,k.h⟩⟩
theorem CE.some {g:FuncId} {args:List D} {K:D→aa1→Prop} {R:D→Prop} (h:ASome P g args R) (k:∀ d,R d→W (K d σ)):CE P g args σ K:=
 ⟨[],σ,_,List.Perm.refl _,h.call,fun d' s' ⟨h1,h2⟩=>by subst h2;exact ⟨σ,List.Perm.refl _,(k _ h1).h⟩⟩
theorem APk.call {g:FuncId} {args:List D} {d:D} (h:APk P g args σ d):ACall P g args σ (fun d' s'=>d'=d∧s'=σ):=
 ⟨h.ent,fun w X vs hv hs=>(h.run w X vs hv hs).mono fun e w' ⟨u,h1,h2,h3⟩=>⟨u,d,σ,h1,⟨rfl,rfl⟩,h2,hs.ex h3,Mv.of_ex h3⟩⟩
theorem CE.pk {g:FuncId} {args:List D} {K:D→aa1→Prop} {d:D} (h:APk P g args σ d) (k:W (K d σ)):CE P g args σ K:=
 ⟨σ,[],_,by simp,h.call,fun d' s' ⟨h1,h2⟩=>by subst h1 h2;exact ⟨_,by simp,k.h⟩⟩
theorem CE.own {g:FuncId} {args:List D} {s t:aa1} {K:D→aa1→Prop} {R:D→aa1→Prop} (h:ACall P g args s R) (hp:σ.Perm (s ++ t)) (fs:aa1→aa1) (hq:∀ s',(s' ++ t).Perm (fs s')) (k:∀ d s',R d s'→W (K d (fs s'))):CE P g args σ K:=⟨s,t,R,hp,h,fun d s' hr=>⟨_,hq s',(k d s' hr).h⟩⟩
theorem Rt.by {R:D→aa1→Prop} {d d':D} {σ':aa1} (h:Vs σ d σ' d') (k:R d' σ'):Rt R d σ:=⟨d',σ',h,k⟩
theorem Rt.same {R:D→aa1→Prop} {d:D} (k:R d σ):Rt R d σ:=⟨d,σ,Vs.refl _ _,k⟩
theorem Rt.pure {d d':D} (h:d=d'):Rt (fun x _=>x=d') d σ:=⟨d',σ,by rw [h];exact Vs.refl _ _,rfl⟩
theorem Rt.le {d d':D} (h:Le d d'):Rt (fun x _=>x=d') d σ:=⟨d',σ,Vs.le h,rfl⟩
theorem Rt.vs {d d':D} {σ':aa1} (h:Vs σ d σ' d'):Rt (fun x _=>x=d') d σ:=⟨d',σ',h,rfl⟩
end
end
section
open Go Go.RowKit Go.Shelf
section
variable {P:Program} {σ τ:aa1} {T:TypeId→Option TI} {w:World}
theorem Rd.stable {O:Nat→Prop} {d:D} {u:Value} (h:Rd w O d u):Rd w (fun _=>False) d u:=
 h.keep (Nat.le_refl _) (fun _ _ _ h=>h) (fun _ _ _=>rfl)
theorem RdL.stable {O:Nat→Prop} {d:List D} {u:List Value} (h:RdL w O d u):RdL w (fun _=>False) d u:=
 h.keep (Nat.le_refl _) (fun _ _ _ h=>h) (fun _ _ _=>rfl)
structure Pk (σ:aa1) (d d':D):Prop where
 run:∀ (w:World) (X:Nat→Prop) (u:Value),StOK w X σ→Rd w (Own σ X) d u→Rd w (fun _=>False) d' u
inductive PkL (σ:aa1):List D→List D→Prop
 | nil:PkL σ [] []
 | cons {d d':D} {ds ds':List D} (h:Pk σ d d') (t:PkL σ ds ds'):PkL σ (d :: ds) (d' :: ds')
theorem Pk.same (d:D):Pk σ d d:=⟨fun _ _ _ _ h=>h.stable⟩
theorem Pk.le {d d':D} (h:Le d d'):Pk σ d d':=⟨fun _ _ _ _ k=>h _ _ _ k.stable⟩
theorem Pk.row {e:TypeId} {k:Nat} {xs:List (List D)} {v:Value} {s:aa1} (h:RowIs e k xs v s) (hp:σ.Perm (s ++ τ)):Pk σ (.v v) (.sl k xs):=
 ⟨fun w X u hs hr=>by have:=hr.val rfl;subst this;exact (aF5 h (hs.perm hp)).stable⟩
theorem PkL.rd {ds ds':List D} (h:PkL σ ds ds') {X:Nat→Prop} (hs:StOK w X σ):∀ {us:List Value},RdL w (Own σ X) ds us→RdL w (fun _=>False) ds' us:=by
 induction h with
 | nil=>exact fun h=>⟨h.len,fun j d u h1=>by simp at h1⟩
 | cons h t ih=>
  intro vs hv
  cases vs with
  | nil=>have:=hv.len;simp at this
  | cons v vs=>
   exact .cons (h.run _ _ _ hs (hv.at_ 0 _ _ rfl rfl)) (ih ⟨by have:=hv.len;simpa using this,fun j d u h1 h2=>hv.at_ (j+1) d u (by simpa using h1) (by simpa using h2)⟩)
theorem Pk.agg {ds ds':List D} (h:PkL σ ds ds'):Pk σ (.agg ds) (.agg ds'):=⟨fun w X u hs hr=>by
 obtain ⟨vs,rfl,h1⟩:=hr.agg_inv
 have:=h.rd hs h1
 exact .agg _ _ this.len this.at_⟩
theorem Pk.clo {f:FuncId} {ds ds':List D} (h:PkL σ ds ds'):Pk σ (.clo f ds) (.clo f ds'):=⟨fun w X u hs hr=>by
 obtain ⟨vs,rfl,h1⟩:=hr.clo_inv
 have:=h.rd hs h1
 exact .clo _ _ _ this.len this.at_⟩
theorem PkL.refl:∀ ds:List D,PkL σ ds ds
 | []=>.nil
 | d :: ds=>.cons (Pk.same d) (PkL.refl ds)
theorem Pk.ptr {j b:Nat} {tb:TypeId} {cs cs':List D} (hb:σ[j]?=some (b,.cells tb cs)) (h:PkL σ cs cs'):Pk σ (.v (.pointer (some ⟨b,0,none⟩))) (.ro cs'):=⟨fun w X u hs hr=>by
 have:=hr.val rfl
 subst this
 obtain ⟨_,ob,hob,vs,rfl,hvs⟩:=hs.at_ b _ (List.mem_of_getElem? hb)
 have hr:=h.rd hs hvs
 refine .ro _ _ _ (fun m=>vs.getD m undef) (fun h=>h) (Array.getElem?_eq_some_iff.1 hob).1 (fun m hm=>?_) (fun m d hd=>?_)
 ·have:m<vs.length:=by rw [hr.len];exact hm
  simp [World.cell?,hob,this]
 ·obtain ⟨u,k1,k2⟩:=hr.get hd
  simpa [List.getD_eq_getElem?_getD,k1] using k2⟩
def isV:D→Bool
 | .v _=>true
 | _=>false
def bP4:D→Bool
 | .v _=>true
 | .tup ds=>ds.all isV
 | .agg ds=>ds.all isV
 | _=>false
theorem bD5 {O O':Nat→Prop} {w':World} {d:D} {u:Value} (h:Rd w O d u) (hd:isV d=true):Rd w' O' d u:=by
 cases d <;> first|(have:=h.val rfl;subst this;exact .v _)|cases hd
theorem bi0 {O O':Nat→Prop} {d:D} {u:Value} (h:Rd w O d u) (hd:bP4 d=true):Rd w O' d u:=by
 cases d with
 | v x=>exact bD5 h rfl
 | tup ds=>
  obtain ⟨vs,rfl,h1⟩:=h.tup_inv
  exact .tup _ _ h1.len fun j d u g1 g2=>bD5 (h1.at_ j d u g1 g2) (List.all_eq_true.1 hd _ (List.mem_of_getElem? g1))
 | agg ds=>
  obtain ⟨vs,rfl,h1⟩:=h.agg_inv
  exact .agg _ _ h1.len fun j d u g1 g2=>bD5 (h1.at_ j d u g1 g2) (List.all_eq_true.1 hd _ (List.mem_of_getElem? g1))
 | _=>cases hd
theorem APk.peek {g:FuncId} {args args':List D} {d:D} (hp:PkL σ args args') (h:APure P g args' d) (hf:bP4 d=true):APk P g args σ d:=
 ⟨h.ent,fun w X vs hv hs=>(h.run w (fun _=>False) vs (hp.rd hs hv) (hs.gok.mono (fun b hb=>hb.elim))).mono fun e w' ⟨u,h1,h2,h3⟩=>⟨u,h1,bi0 h2 hf,h3⟩⟩
theorem APk.le {g:FuncId} {args args':List D} {d:D} (hl:LeL args args') (h:APure P g args' d):APk P g args σ d:=
 ⟨h.ent,fun w X vs hv hs=>h.run w _ vs (hl.rd hv) hs.gok⟩
/-! ### What is handed back -/
structure VsL (σ:aa1) (ds:List D) (σ':aa1) (ds':List D):Prop where
 run:∀ (w:World) (X:Nat→Prop) (us:List Value),StOK w X σ→RdL w (Own σ X) ds us→StOK w X σ'∧RdL w (Own σ' X) ds' us
 sub:∀ b,b∈aa9 σ'→b∈aa9 σ
theorem aV7 {σ':aa1} {X:Nat→Prop} (h:∀ b,b∈aa9 σ'→b∈aa9 σ) (b:Nat) (hn:¬ Own σ X b):¬ Own σ' X b:=fun ho=>hn (ho.imp id (h b))
theorem VsL.nil (σ:aa1):VsL σ [] σ []:=⟨fun _ _ _ h1 h2=>⟨h1,h2⟩,fun _ h=>h⟩
theorem VsL.cons {σ' σ'':aa1} {d d':D} {ds ds':List D} (h:Vs σ d σ' d') (t:VsL σ' ds σ'' ds'):VsL σ (d :: ds) σ'' (d' :: ds'):=
 ⟨fun w X us hs hr=>by
  cases us with
  | nil=>have:=hr.len;simp at this
  | cons v vs=>
   obtain ⟨g1,g2⟩:=h.run w X v hs (hr.at_ 0 _ _ rfl rfl)
   have htl:RdL w (Own σ X) ds vs:=⟨by have:=hr.len;simpa using this,fun j d u h1 h2=>hr.at_ (j+1) d u (by simpa using h1) (by simpa using h2)⟩
   obtain ⟨k1,k2⟩:=t.run w X vs g1 (htl.keep (Nat.le_refl _) (fun b _ hn=>aV7 h.sub b hn) (fun _ _ _=>rfl))
   exact ⟨k1,.cons (g2.keep (Nat.le_refl _) (fun b _ hn=>aV7 t.sub b hn) (fun _ _ _=>rfl)) k2⟩,fun b hb=>h.sub b (t.sub b hb)⟩
theorem Vs.tup {σ':aa1} {ds ds':List D} (h:VsL σ ds σ' ds'):Vs σ (.tup ds) σ' (.tup ds'):=⟨fun w X u hs hr=>by
 obtain ⟨vs,rfl,h1⟩:=hr.tup_inv
 obtain ⟨g1,g2⟩:=h.run w X vs hs h1
 exact ⟨g1,.tup _ _ g2.len g2.at_⟩,h.sub⟩
theorem Vs.agg {σ':aa1} {ds ds':List D} (h:VsL σ ds σ' ds'):Vs σ (.agg ds) σ' (.agg ds'):=⟨fun w X u hs hr=>by
 obtain ⟨vs,rfl,h1⟩:=hr.agg_inv
 obtain ⟨g1,g2⟩:=h.run w X vs hs h1
 exact ⟨g1,.agg _ _ g2.len g2.at_⟩,h.sub⟩
theorem ah0 {σ':aa1} (h:σ.Perm σ') (b:Nat) (hb:b∈aa9 σ'):b∈aa9 σ:=(h.map Prod.fst).mem_iff.2 hb
theorem Vs.row {e:TypeId} {k:Nat} {xs:List (List D)} {v:Value} {s:aa1} (h:RowIs e k xs v s) (hp:σ.Perm (s ++ τ)):Vs σ (.v v) τ (.sl k xs):=
 ⟨fun w X u hs hr=>by
  have:=hr.val rfl
  subst this
  exact ⟨(hs.perm hp).sub (List.sublist_append_right _ _),aF5 h (hs.perm hp)⟩,fun b hb=>ah0 hp b (by rw [ab0];exact List.mem_append_right _ hb)⟩
theorem Vs.drop {d:D} (hs:τ.Sublist σ):Vs σ d τ d:=
 ⟨fun w X u h1 h2=>⟨h1.sub hs,h2.keep (Nat.le_refl _) (fun b _ hn=>al2 hs b hn) (fun _ _ _=>rfl)⟩,fun b hb=>(hs.map Prod.fst).subset hb⟩
theorem Vs.perm {d:D} (hp:σ.Perm τ):Vs σ d τ d:=
 ⟨fun w X u h1 h2=>⟨h1.perm hp,h2.keep (Nat.le_refl _) (fun b _ hn=>aV7 (ah0 hp) b hn) (fun _ _ _=>rfl)⟩,ah0 hp⟩
theorem Vs.ptr {b:Nat} {tb:TypeId} {cs:List D} (hp:σ.Perm ((b,.cells tb cs) :: τ)):Vs σ (.v (.pointer (some ⟨b,0,none⟩))) τ (.ro cs):=
 ⟨fun w X u hs hr=>by
  have:=hr.val rfl
  subst this
  have hs':=hs.perm hp
  have hsub:τ.Sublist ((b,Blk.cells tb cs) :: τ):=List.sublist_cons_self _ _
  obtain ⟨hX,ob,hob,vs,rfl,hvs⟩:=hs'.at_ b _ List.mem_cons_self
  have hnO:¬ Own τ X b:=by
   rintro (h|h)
   ·exact hX h
   ·have hnd:=hs'.nodup
    simp only [aa9,List.map_cons,List.nodup_cons] at hnd
    exact hnd.1 h
  refine ⟨hs'.sub hsub,.ro _ _ _ (fun m=>vs.getD m undef) hnO (Array.getElem?_eq_some_iff.1 hob).1 (fun m hm=>?_) (fun m d hd=>?_)⟩
  ·have:m<vs.length:=by rw [hvs.len];exact hm
   simp [World.cell?,hob,this]
  ·obtain ⟨u,k1,k2⟩:=hvs.get hd
   have:Rd w (Own τ X) d u:=k2.keep (Nat.le_refl _) (fun b _ hn=>al2 hsub b hn) (fun _ _ _=>rfl)
   simpa [List.getD_eq_getElem?_getD,k1] using this,fun b hb=>ah0 hp b (List.mem_cons_of_mem _ hb)⟩
inductive Chk (f':Frm):Frm→Prop
 | nil:Chk f' []
 | cons {i:Nat} {d:D} {F:Frm} (h:an2 f' i=some d) (t:Chk f' F):Chk f' ((i,d) :: F)
theorem aa2 {f' F:Frm} (h:Chk f' F):chkF f' F:=by
 induction h with
 | nil=>rfl
 | cons h t ih=>unfold chkF at *;simp only [List.map_cons,h,ih]
theorem OtE.yd {P:Program} {r:Option Nat} {n df N:Nat} {L:List Oper} {o:Oper} {f:Frm} {K:Frm→aa1→Prop} {d:D} (hn:ah1 o.op=true) (h:Yd P o (evF f) σ d) (k:W (putK N o.dst d f (fun f'=>K f' σ))):OtE P r n df L N o f σ K:=
 ⟨fun rest Q a hs hw hk=>by obtain ⟨f',hs',h4⟩:=ad4 k.h hs;exact bH3 hw hn (h.le hs.le) (hk _ _ _ h4 hs')⟩
theorem af0 (hm:P.follows .mixedOrders=true) (hT:∀ t i,T t=some i→tiOf P t=some i) {r:Option Nat} {n:Nat} {df:Nat} {N:Nat} {f:Frm} {Q:Fst} {c:Code} {γ:Type} (ps:γ→Frm) (S:γ→aa1) (I:γ→Prop) (μ:γ→Nat) (g₀:γ)
  (h1:chkF f (ar9 c f (ps g₀))) (h2:(S g₀).Sublist σ) (h3:I g₀)
  (h4:∀ g,I g→W (aC6 (ar9 c f (ps g)) fun F=>am9 P T r n df N c (bw7 (fun f' σ'=>∃ g',chkF f' (ar9 c f (ps g'))∧(S g').Sublist σ'∧I g'∧μ g' < μ g) Q) F (S g))) :
  Lp P r n df N (.loop c) Q f σ:=by
 refine ⟨fun a hs=>?_⟩
 refine aX7 (fun m a σ=>∃ g,μ g=m∧I g∧Sp N a (ar9 c f (ps g))∧(S g).Sublist σ) (μ g₀) ⟨g₀,rfl,h3,hs.sub h1,h2⟩ ?_
 rintro m a σ ⟨g,rfl,hI,hS,hsub⟩
 refine bR2 hsub (ar1 (am8 hm hT (ap9 (h4 g hI).h) hS) ?_)
 rintro e a' σ' ⟨f',hs',h'⟩
 cases e with
 | normal=>obtain ⟨g',k1,k2,k3,k4⟩:=h';exact ⟨μ g',k4,g',rfl,k3,hs'.sub k1,k2⟩
 | _=>exact ⟨f',hs',h'⟩
/-! ### append,at the stops -/
theorem Ap.go {t e:TypeId} {i j:TI} {ag:Bool} {k by_:Nat} {xs ys zs:List (List D)} {v:Value} {s:aa1} {K:D→aa1→Prop} (h1:T t=some i) (h2:i.sl=some (e,ag,k,by_)) (h3:T e=some j) (h4:(Nat.beq j.zero.length j.size && Nat.blt 0 k && Nat.beq j.size k)=true)
  (hr:RowIs e k xs v s) (hp:σ.Perm (s ++ τ)) (ho:(ys.all fun y=>y.all oneD)=true) (hz:xs ++ ys=zs) (hb:zs.length*by_≤140737488355328) (hm:zs.length≤1000000000) (fs:aa1→aa1) (hq:∀ s',(s' ++ τ).Perm (fs s'))
  (kk:∀ a c s',RowIs e k zs (.slice a zs.length c) s'→W (K (.v (.slice a zs.length c)) (fs s'))):Ap P T σ (.v v) (.sl k ys) t K:=by
 subst hz
 simp only [Bool.and_eq_true] at h4
 rw [List.length_append] at hb hm
 refine ⟨e,i,j,ag,k,by_,xs,ys,v,s,[],τ,h1,h2,h3,Nat.eq_of_beq_eq_true h4.1.1,by simpa [Nat.blt_eq] using h4.1.2,Nat.eq_of_beq_eq_true h4.2,rfl,.inl ⟨rfl,rfl⟩,hr,hp,fun y hy=>List.all_eq_true.1 ho y hy,hb,hm,.inl fun v' s' hr'=>?_⟩
 obtain ⟨a,c,rfl⟩:=hr'.slice
 exact ⟨_,hq s',(kk a c s' hr').h⟩
theorem bz9 (s:aa1):s.Perm (s ++ []):=by simp
theorem bz8 (s:aa1):(s ++ []).Perm s:=by simp
theorem ba7 (x:Nat × Blk) (s:aa1):(x :: s).Perm (s ++ [x]):=(List.perm_append_singleton x s).symm
theorem aL4 (x:Nat × Blk) (s:aa1):(s ++ [x]).Perm (x :: s):=List.perm_append_singleton x s
theorem Ap.frz {t e:TypeId} {i j:TI} {ag:Bool} {k by_:Nat} {xs ys zs:List (List D)} {v:Value} {s:aa1} {K:D→aa1→Prop} (h1:T t=some i) (h2:i.sl=some (e,ag,k,by_)) (h3:T e=some j) (h4:(Nat.beq j.zero.length j.size && Nat.blt 0 k && Nat.beq j.size k)=true)
  (hr:RowIs e k xs v s) (hp:σ.Perm (s ++ τ)) (ho:(ys.all fun y=>y.all oneD)=true) (hz:xs ++ ys=zs) (hb:zs.length*by_≤140737488355328) (hm:zs.length≤1000000000)
  (kk:W (K (.sl k zs) τ)):Ap P T σ (.v v) (.sl k ys) t K:=by
 subst hz
 simp only [Bool.and_eq_true] at h4
 rw [List.length_append] at hb hm
 exact ⟨e,i,j,ag,k,by_,xs,ys,v,s,[],τ,h1,h2,h3,Nat.eq_of_beq_eq_true h4.1.1,by simpa [Nat.blt_eq] using h4.1.2,Nat.eq_of_beq_eq_true h4.2,rfl,.inl ⟨rfl,rfl⟩,hr,hp,fun y hy=>List.all_eq_true.1 ho y hy,hb,hm,.inr kk.h⟩
theorem Ld.cell {o:Oper} {ρ:Operand→D} {b off:Nat} {K:D→Prop} (j:Nat) {tb:TypeId} {cs:List D} {d:D} (h1:σ[j]?=some (b,.cells tb cs)) (h2:cs[off]?=some d) (h:W (K d)):Ld P o ρ σ b off false 1 K:=by
 have hlt:=(List.getElem?_eq_some_iff.1 h2).1
 refine ⟨.inl ⟨j,tb,cs,h1,by omega,?_⟩⟩
 have:(cs.drop off).take 1=[d]:=by
  rw [List.drop_eq_getElem_cons hlt]
  simp [(List.getElem?_eq_some_iff.1 h2).2]
 rw [this]
 exact h.h
theorem Sv.cell {b off:Nat} {d:D} {K:aa1→Prop} (j:Nat) {tb:TypeId} {cs cs':List D} (h1:σ[j]?=some (b,.cells tb cs)) (h2:off<cs.length) (h3:oneD d=true) (h4:cs.set off d=cs') (h:W (K (σ.set j (b,.cells tb cs')))):Sv σ b off [d] 1 K:=by
 subst h4
 refine ⟨j,tb,cs,_,h1,rfl,h2,by simp [h3],List.Perm.of_eq ?_,h.h⟩
 congr 3
 unfold spl
 rw [List.set_eq_take_append_cons_drop,if_pos h2]
 simp
/-! ### Results that lie in memory -/
theorem aA0 {b:Nat} {t tb:TypeId} {cs:List D} {ti:TI} {X:Nat→Prop} (hT:∀ t i,T t=some i→tiOf P t=some i) (hst:StOK w X σ) {m:Nat} (hb:σ[m]?=some (b,.cells tb cs)) (ht:T t=some ti) (hag:ti.agg=true) (hs:ti.size=cs.length) :
  ∃ vs:List Value,(loadVar t ⟨b,0,none⟩).run P w = .ok (.agg vs.toArray) w∧RdL w (Own σ X) cs vs:=by
 obtain ⟨_,ob,hob,vs,rfl,hvs⟩:=hst.at_ b _ (List.mem_of_getElem? hb)
 obtain ⟨g1,g2⟩:=aP4 (hT t ti ht) w
 rw [hag] at g1
 have hcell:∀ q,q<cs.length→w.cell? ⟨b,0+q,none⟩=some (vs.getD q undef):=by
  intro q hq
  have:q<vs.length:=by rw [hvs.len];exact hq
  simp [World.cell?,hob,this]
 have hl:=ax0 (P:=P) (w:=w) (f:=fun q=>vs.getD q undef) g1 g2 (fun q hq=>hcell q (by omega))
 have hmap:(List.range ti.size).map (fun q=>vs.getD q undef)=vs:=by
  apply List.ext_getElem?
  intro q
  by_cases hq:q<ti.size
  ·have:q<vs.length:=by rw [hvs.len];omega
   simp [hq,this]
  ·have:vs.length≤q:=by rw [hvs.len];omega
   simp [hq,this]
 rw [hmap] at hl
 refine ⟨vs,?_,hvs⟩
 have:=hl
 simp only [Instr.loadAt,Instr.sureAddr,Sem.run_bind,Sem.run_pure,Result.andThen] at this
 exact this
variable {N:Nat} {f:Frm} {fn:Func}
theorem Rs.c (hT:∀ t i,T t=some i→tiOf P t=some i) {j m b:Nat} {t tb:TypeId} {cs:List D} {ti:TI} {K:D→Prop} (h:fn.results = #[.cell j t]) (hj:evF f (.tmp j) = .v (.pointer (some ⟨b,0,none⟩))) (hb:σ[m]?=some (b,.cells tb cs)) (ht:T t=some ti) (hag:ti.agg=true) (hs:ti.size=cs.length)
  (k:W (K (.agg cs))):Rs P N fn f σ K:=by
 refine ⟨_,fun a ha=>?_,k.h⟩
 intro w X tm hf hst
 obtain ⟨vs,h1,h2⟩:=aA0 hT hst hb ht hag hs
 have hp:=(aj4 hf j).val (ha.eq hj (fun h=>by cases h))
 exact ⟨.agg vs.toArray,by simp [results,h,hp,asAddr,h1,Result.andThen,-Array.getD_eq_getD_getElem?],.agg _ _ h2.len h2.at_⟩
theorem Rs.tc (hT:∀ t i,T t=some i→tiOf P t=some i) {i j m b:Nat} {t tb:TypeId} {cs:List D} {ti:TI} {d:D} {K:D→Prop} (h:fn.results = #[.tmp i,.cell j t]) (hi:evF f (.tmp i)=d) (hj:evF f (.tmp j) = .v (.pointer (some ⟨b,0,none⟩))) (hb:σ[m]?=some (b,.cells tb cs)) (ht:T t=some ti) (hag:ti.agg=true) (hs:ti.size=cs.length)
  (k:W (K (.tup [d,.agg cs]))):Rs P N fn f σ K:=by
 subst hi
 refine ⟨_,fun a ha=>?_,k.h⟩
 intro w X tm hf hst
 obtain ⟨vs,h1,h2⟩:=aA0 hT hst hb ht hag hs
 have hp:=(aj4 hf j).val (ha.eq hj (fun h=>by cases h))
 refine ⟨.tuple #[tm.getD i undef,.agg vs.toArray],by simp [results,h,hp,asAddr,h1,Result.andThen,-Array.getD_eq_getD_getElem?],?_⟩
 have:=RdL.cons (ao5 ha i _ _ _ (aj4 hf i)) (RdL.cons (Rd.agg (w:=w) (O:=Own σ X) cs vs h2.len h2.at_) RdL.nil)
 exact .tup _ _ this.len this.at_
theorem Rs.ct (hT:∀ t i,T t=some i→tiOf P t=some i) {i j m b:Nat} {t tb:TypeId} {cs:List D} {ti:TI} {d:D} {K:D→Prop} (h:fn.results = #[.cell j t,.tmp i]) (hi:evF f (.tmp i)=d) (hj:evF f (.tmp j) = .v (.pointer (some ⟨b,0,none⟩))) (hb:σ[m]?=some (b,.cells tb cs)) (ht:T t=some ti) (hag:ti.agg=true) (hs:ti.size=cs.length)
  (k:W (K (.tup [.agg cs,d]))):Rs P N fn f σ K:=by
 subst hi
 refine ⟨_,fun a ha=>?_,k.h⟩
 intro w X tm hf hst
 obtain ⟨vs,h1,h2⟩:=aA0 hT hst hb ht hag hs
 have hp:=(aj4 hf j).val (ha.eq hj (fun h=>by cases h))
 refine ⟨.tuple #[.agg vs.toArray,tm.getD i undef],by simp [results,h,hp,asAddr,h1,Result.andThen,-Array.getD_eq_getD_getElem?],?_⟩
 have:=RdL.cons (Rd.agg (w:=w) (O:=Own σ X) cs vs h2.len h2.at_) (RdL.cons (ao5 ha i _ _ _ (aj4 hf i)) RdL.nil)
 exact .tup _ _ this.len this.at_
end
end
section
open Go Go.RowKit Go.Shelf
structure ci5 (P:Program) (gf:FuncId) (caps:List D) (its:List (List D)):Prop where
 ent:Enters P gf
 run:∀ (O:Nat→Prop) (W:World) (lb:List Value),RdL W O caps lb→∃ vsl:List (List Value),vsl.length=its.length∧(∀ (k:Nat) x vs,its[k]?=some x→vsl[k]?=some vs→RdL W O x vs) ∧
  ∀ (l:Nat) (J Jx:Nat→World→Prop),(∀ k A B,J k A→Ex A B→J k B)→(∀ k A B,Jx k A→Ex A B→Jx k B) →
   (∀ (k:Nat) vs W1,vsl[k]?=some vs→J k W1→YieldAt Fence.wide 7 P l vs.toArray W1 fun e W'=>
    (e = .returned (.bool true)∧J (k+1) W'∧W1.heap.size≤W'.heap.size∧∀ b,b<W.heap.size→¬ O b→W'.heap[b]?=W1.heap[b]?)∨(e = .returned (.bool false)∧Jx (k+1) W')) →
   J 0 W→CallsIn Fence.wide 8 P gf (#[.func (.yield l) #[] #[]] ++ lb.toArray) W fun e W'=>∃ v,e = .returned v∧(J its.length W'∨∃ k,Jx k W')
section
variable {P:Program} {r:Option Nat} {n:Nat} {df:Nat} {Q:Pst} {a:List D} {σ σ':aa1} {w w':World} {X:Nat→Prop}
theorem St.mv {fr:Act} (h:St w X df a σ fr) (hm:Mv w σ w' σ') (hs:StOK w' X σ'):St w' X df a σ' fr:=by
 have hO:∀ b,b<w.heap.size→¬ Own σ X b→¬ Own σ' X b:=fun b hb hn ho=>by
  rcases ho with ho|ho
  ·exact hn (.inl ho)
  ·rcases hm.new b ho with h1|h1
   ·exact hn (.inr h1)
   ·omega
 have hS:∀ b,b<w.heap.size→¬ Own σ X b→w'.heap[b]?=w.heap[b]?:=fun b hb hn=>hm.keep.block b hb (fun hk=>hn (.inr hk))
 exact ⟨h.fr.keep hm.keep.size hO hS,hs,h.df.keep hm.keep.size hO hS⟩
theorem St.turn {fr:Act} (h:St w X df a σ fr) {D:Nat} {o o':Obj} (h5:8≤D) (hO:¬ Own σ X D) (hD:w.heap[D]?=some o) (ho:o.isCells=false) (hm:∀ es c,o ≠ .map es c) (hd:∀ d,o ≠ .deferred d):St (w.putObj D o') X df a σ fr:=by
 refine ⟨h.fr.of_cells (Nat.le_of_eq (al1 _ _).symm) (aD8 hD ho),h.st.turn h5 hO hD ho hm,?_⟩
 obtain ⟨h0,bs,h1,h2,h3⟩:=h.df
 refine ⟨by rw [al1];exact h0,bs,h1,h2,fun b hb=>?_⟩
 obtain ⟨k1,k2,k3⟩:=h3 b hb
 exact ⟨k1,k2,(World.putObj_heap_other (fun e=>by subst e;rw [hD] at k3;cases k3;exact hd _ rfl)).trans k3⟩
theorem Mv.turn (h:Mv w σ w' σ') {l:Nat} (hl:w.heap.size≤l) (o:Obj):Mv w σ (w'.putObj l o) σ':=
 ⟨⟨h.keep.os,h.keep.tape,h.keep.output,by rw [al1];exact h.keep.size,fun b hb hn=>(World.putObj_heap_other (fun e=>by omega)).trans (h.keep.block b hb hn)⟩,h.new⟩
def aO5 (a:List D) (ps:List Tmp) (x:List D):List D:=(ps.zip x).foldl (fun a p=>a.set p.1 p.2) a
theorem ct5 {O:Nat→Prop} {t:Array Value} (h:FR w O a t) {d:D} {u:Value} (hd:Rd w O d u) (i:Nat):FR w O (a.set i d) (t.setIfInBounds i u):=by
 have:=FR.put (fr:=⟨t,[]⟩) h hd (some i)
 exact this
theorem bo6 {O:Nat→Prop}:∀ (ps:List Tmp) {x:List D} {vs:List Value} {a:List D} {t:Array Value},FR w O a t→RdL w O x vs→FR w O (aO5 a ps x) ((ps.zip vs).foldl (fun t (p,v)=>t.setIfInBounds p v) t)
 | [],x,vs,a,t,h,_=>by simpa [aO5] using h
 | p :: ps,[],vs,a,t,h,hr=>by
  have:vs=[]:=by have:=hr.len;simpa using this
  subst this
  simpa [aO5] using h
 | p :: ps,d :: x,[],a,t,h,hr=>by have:=hr.len;simp at this
 | p :: ps,d :: x,v :: vs,a,t,h,hr=>by
  have htl:RdL w O x vs:=⟨by have:=hr.len;simpa using this,fun j d u h1 h2=>hr.at_ (j+1) d u (by simpa using h1) (by simpa using h2)⟩
  have:=bo6 ps (ct5 h (hr.at_ 0 d v rfl rfl) p) htl
  simpa [aO5] using this
def bU5 (Q:Pst) (a:List D) {γ:Type} (S:γ→aa1) (I:γ→Prop):Pst
 | .normal,_,σ'=>∃ g,(S g).Sublist σ'∧I g
 | .ret,_,σ'=>Q .ret a σ'
 | .exit id,_,σ'=>Q (.exit id) a σ'
 | _,_,_=>False
theorem bA1 (hm:Mv w σ w' σ') {b:Nat} (hb:b<w.heap.size) (hn:¬ Own σ X b):¬ Own σ' X b:=fun ho=>by
 rcases ho with ho|ho
 ·exact hn (.inl ho)
 ·rcases hm.new b ho with h1|h1
  ·exact hn (.inr h1)
  ·omega
theorem bG9 {g:Operand} {ps:Array Tmp} {assign body:Code} {gf:FuncId} {caps:List D} {its:List (List D)} (hit:ci5 P gf caps its) (hg:evD a g = .clo gf caps) (hps:∀ x∈its,x.length=ps.size)
  {γ:Type} (S:Nat→γ→aa1) (I:Nat→γ→Prop) (g₀:γ) (hσ:(S 0 g₀).Sublist σ) (h0:I 0 g₀)
  (round:∀ (l:Nat) (k:Nat) gk x,its[k]?=some x→I k gk→AWP P (some l) 7 0 assign (bZ0 (AWP P (some l) 7 0 body (bU5 Q a (S (k+1)) (I (k+1)))) (fun _ _ _=>False)) (aO5 a ps.toList x) (S k gk))
  (done:∀ gk,I its.length gk→Q .normal a (S its.length gk)):AWP P none 9 df (.rangeFunc g ps assign body) Q a σ:=by
 refine ⟨fun w X fr hs=>?_⟩
 have hv:=hs.fr.eval g
 rw [hg] at hv
 obtain ⟨lb,hgv,hlb⟩:=hv.clo_inv
 refine wpIn_rangeFunc ?_
 intro fn hfn
 rw [show (FW none).round=none from rfl]
 obtain ⟨rec,hrec⟩:∃ rec:LoopState→Option Code→Loop,rec=fun st pe=>{ state:=st,pending:=pe,fn,tmps:=fr.tmps,params:=ps,assign,body,defers:=w.heap.size }:=⟨_,rfl⟩
 obtain ⟨W1,hW1⟩:∃ W1,(w.alloc (.deferred (some []))).alloc (.loop (rec .ready none))=W1:=⟨_,rfl⟩
 have hL1:W1.heap[w.heap.size+1]?=some (.loop (rec .ready none)):=by
  rw [← hW1];have:=World.alloc_heap_new (w.alloc (.deferred (some []))) (.loop (rec .ready none));rwa [World.size_alloc] at this
 have hx1:Ex w W1:=by rw [← hW1];exact ((Ex.refl w).alloc).alloc
 have hK1:W1.heap[w.heap.size]?=some (.deferred (some [])):=by
  rw [← hW1];exact (Below.heap_alloc _ _ _ (by simp)).trans (World.alloc_heap_new w _)
 have hz1:W1.heap.size=w.heap.size+2:=by rw [← hW1];simp
 have h5:8≤w.heap.size:=hs.st.gok.sz
 obtain ⟨fr',hfr'⟩:∃ fr':Act,fr'={ fr with defers:=mrk w.heap.size :: fr.defers }:=⟨_,rfl⟩
 have hnD:¬ Own σ X w.heap.size:=aL6 hs.st (Nat.le_refl _)
 have hnl:¬ Own σ X (w.heap.size+1):=aL6 hs.st (Nat.le_succ _)
 have hs1:St W1 X df a σ fr':=by
  have:=hs.ex hx1
  refine ⟨by rw [hfr'];exact this.fr,this.st,?_⟩
  obtain ⟨k0,bs,k1,k2,k3⟩:=this.df
  have k0':=hs.df.1
  refine ⟨k0,w.heap.size :: bs,by rw [hfr',k1];rfl,List.nodup_cons.2 ⟨fun hm=>?_,k2⟩,fun b hb=>?_⟩
  ·obtain ⟨_,bs0,q1,_,q3⟩:=hs.df
   have e:bs0.map mrk=bs.map mrk:=q1.symm.trans k1
   have hinj:bs0=bs:=by
    have:=congrArg (List.map (fun d:Deferred=>match d.target with | .collected b=>b | _=>0)) e
    simpa [mrk,List.map_map,Function.comp_def] using this
   rw [← hinj] at hm
   have:=(Array.getElem?_eq_some_iff.1 (q3 _ hm).2.2).1
   omega
  ·rcases List.mem_cons.1 hb with rfl|hb
   ·exact ⟨k0',hnD,hK1⟩
   ·exact k3 b hb
 refine ⟨w.heap.size+1,[{ target:=.collected w.heap.size,args:=#[] }],W1,{ target:=.fn (.func gf) lb.toArray,args:=#[.func (.yield (w.heap.size+1)) #[] #[]] },W1,gf,
  #[.func (.yield (w.heap.size+1)) #[] #[]] ++ lb.toArray,W1,?_,?_,?_,?_,(fun hd=>by simp [FW,Fence.wide] at hd),?_⟩
 ·rw [← hW1,hrec];exact run_enterLoop_outer _ _ _ _ _
 ·simp only [resolve,hgv]
  simp [go_sem]
 ·intro f' hf';simp [Target.leads] at hf';trivial
 ·simp only [invoke];exact hit.ent _ _
 ·obtain ⟨O,hO⟩:∃ O:Nat→Prop,O=fun b=>Own σ X b∨b=w.heap.size∨b=w.heap.size+1:=⟨_,rfl⟩
  have hnO:∀ {b:Nat},¬ O b→¬ Own σ X b∧b≠w.heap.size∧b≠w.heap.size+1:=fun {b} h=>by
   rw [hO] at h;exact ⟨fun h1=>h (.inl h1),fun h1=>h (.inr (.inl h1)),fun h1=>h (.inr (.inr h1))⟩
  obtain ⟨vsl,hvl,hvr,hrun⟩:=hit.run O W1 lb (hlb.keep hx1.size (fun b hb hn=>by
   rw [hO];rintro (h|h|h)
   ·exact hn h
   ·omega
   ·omega) (fun b hb _=>hx1.block b hb))
  have hcall:=hrun (w.heap.size+1)
   (fun k W=>∃ gk,I k gk∧St W X df a (S k gk) fr'∧Mv w σ W (S k gk)∧W1.heap.size≤W.heap.size∧W.heap[w.heap.size+1]?=some (.loop (rec .ready none))∧¬ Own (S k gk) X (w.heap.size+1))
   (fun _ W=>∃ τ e c,(e = .ret∧c = .ret∨∃ id,e = .exit id∧c = .exit id)∧Q e a τ∧St W X df a τ fr'∧Mv w σ W τ∧W.heap[w.heap.size+1]?=some (.loop (rec .done (some c)))∧¬ Own τ X (w.heap.size+1))
   (fun k A B ⟨gk,q1,q2,q3,q4,q5,q6⟩ hx=>⟨gk,q1,q2.ex hx,q3.trans (Mv.of_ex hx),Nat.le_trans q4 hx.size,(hx.block _ (Array.getElem?_eq_some_iff.1 q5).1).trans q5,q6⟩)
   (fun k A B ⟨τ,e,c,q1,q2,q3,q4,q5,q6⟩ hx=>⟨τ,e,c,q1,q2,q3.ex hx,q4.trans (Mv.of_ex hx),(hx.block _ (Array.getElem?_eq_some_iff.1 q5).1).trans q5,q6⟩)
   ?_ ⟨g₀,h0,⟨hs1.fr.keep (Nat.le_refl _) (fun x _ hn=>al2 hσ x hn) (fun _ _ _=>rfl),hs1.st.sub hσ,hs1.df.keep (Nat.le_refl _) (fun x _ hn=>al2 hσ x hn) (fun _ _ _=>rfl)⟩,
    (Mv.of_ex hx1).fewer (fun b hb=>(hσ.map Prod.fst).subset hb),Nat.le_refl _,hL1,al2 hσ _ hnl⟩
  ·refine hcall.mono ?_
   rintro e W2 ⟨v,rfl,(⟨gk,q1,q2,q3,q4,q5,q6⟩|⟨_,τ,e,c,q1,q2,q3,q4,q5,q6⟩)⟩
   ·refine ⟨none,_,by have:=run_endLoop (P:=P) q5 (by rw [hrec];simp);rw [hrec] at this;exact this,?_⟩
    refine ⟨a,S its.length gk,done gk q1,?_,q3.turn (Nat.le_succ _) _⟩
    have:=q2.turn (o':=.loop { rec .ready none with state:=.exhausted }) (by omega) q6 q5 rfl (fun _ _ h=>by cases h) (fun _ h=>by cases h)
    rw [hfr',hrec] at this
    exact this
   ·refine ⟨some c,_,by have:=run_endLoop (P:=P) q5 (by rw [hrec];simp);rw [hrec] at this;exact this,?_⟩
    have hst:=q3.turn (o':=.loop { rec .done (some c) with state:=.exhausted }) (by omega) q6 q5 rfl (fun _ _ h=>by cases h) (fun _ h=>by cases h)
    rw [hfr',hrec] at hst
    have hmv:=q4.turn (Nat.le_succ _) (.loop { rec .done (some c) with state:=.exhausted })
    rw [hrec] at hmv
    rcases q1 with ⟨rfl,rfl⟩|⟨id,rfl,rfl⟩
    ·exact wpIn_ret ⟨a,τ,q2,hst,hmv⟩
    ·exact wpIn_exit ⟨a,τ,q2,hst,hmv⟩
  ·-- one round
   rintro k vs Wc hvk ⟨gk,q1,q2,q3,q4,q5,q6⟩
   have hkl:k<its.length:=by rw [← hvl];exact (List.getElem?_eq_some_iff.1 hvk).1
   obtain ⟨x,hx⟩:∃ x,its[k]?=some x:=⟨_,List.getElem?_eq_getElem hkl⟩
   have hlc:w.heap.size+1<Wc.heap.size:=(Array.getElem?_eq_some_iff.1 q5).1
   have hkeep1:∀ b,b<W1.heap.size→¬ O b→¬ Own (S k gk) X b∧Wc.heap[b]?=W1.heap[b]?:=fun b hb hn=>by
    obtain ⟨n1,n2,n3⟩:=hnO hn
    have hbw:b<w.heap.size:=by omega
    exact ⟨bA1 q3 hbw n1,(q3.keep.block b hbw (fun h=>n1 (.inr h))).trans (hx1.block b hbw).symm⟩
   have hxv:RdL Wc (Own (S k gk) X) x vs:=(hvr k x vs hx hvk).keep q4 (fun b hb hn=>(hkeep1 b hb hn).1) (fun b hb hn=>(hkeep1 b hb hn).2)
   have hsz:vs.toArray.size=ps.size:=by simp [hxv.len,hps x (List.mem_of_getElem? hx)]
   have hy:=run_yield (P:=P) (args:=vs.toArray) q5 (by rw [hrec];exact hsz)
   rw [hrec] at hy
   refine ⟨fn,_,assign,body,hy,?_⟩
   have hzip:((ps.zip vs.toArray).foldl (fun t (p:Tmp × Value)=>t.setIfInBounds p.1 p.2) fr.tmps)=((ps.toList.zip vs).foldl (fun t (p:Tmp × Value)=>t.setIfInBounds p.1 p.2) fr.tmps):=by
    rw [← Array.foldl_toList];simp
   have hfr0:FR Wc (Own (S k gk) X) a fr.tmps:=by have:=q2.fr;rw [hfr'] at this;exact this
   have hst0:St Wc X 0 (aO5 a ps.toList x) (S k gk) { tmps:=(ps.zip vs.toArray).foldl (fun t (p:Tmp × Value)=>t.setIfInBounds p.1 p.2) fr.tmps,defers:=[] }:=
    ⟨by rw [hzip];exact bo6 ps.toList hfr0 hxv,q2.st,Mks.nil (Nat.zero_le _)⟩
   refine roundIn_of_wpIn hfn (wpIn_mono ((round (w.heap.size+1) k gk x hx q1).run Wc X _ hst0) ?_)
   rintro e a1 w1 ⟨a1',σ1,hA,hst1,hmv1⟩
   cases e with
   | normal=>
    have hl1:w1.heap[w.heap.size+1]?=some (.loop (rec .ready none)):=(hmv1.keep.block _ hlc (fun h=>q6 (.inr h))).trans q5
    have hn1:¬ Own σ1 X (w.heap.size+1):=bA1 hmv1 hlc q6
    refine ⟨_,run_beginRound hl1 (by rw [hrec]),?_⟩
    have hl1s:=(Array.getElem?_eq_some_iff.1 hl1).1
    have hl2:(w1.putObj (w.heap.size+1) (.loop { rec .ready none with state:=.busy })).heap[w.heap.size+1]?=some (.loop { rec .ready none with state:=.busy }):=World.putObj_heap_same hl1s
    have hst2:=hst1.turn (o':=.loop { rec .ready none with state:=.busy }) (by omega) hn1 hl1 rfl (fun _ _ h=>by cases h) (fun _ h=>by cases h)
    have hout1:St w1 X df a σ1 fr':=q2.mv hmv1 hst1.st
    have hout2:=hout1.turn (o':=.loop { rec .ready none with state:=.busy }) (by omega) hn1 hl1 rfl (fun _ _ h=>by cases h) (fun _ h=>by cases h)
    have hmv2:Mv w σ (w1.putObj (w.heap.size+1) (.loop { rec .ready none with state:=.busy })) σ1:=(q3.trans hmv1).turn (Nat.le_succ _) _
    have hA:AWP P (some (w.heap.size+1)) 7 0 body (bU5 Q a (S (k+1)) (I (k+1))) a1' σ1:=hA
    refine wpIn_mono (hA.run _ X a1 hst2) ?_
    rintro e3 a3 W3 ⟨a3',σ3,hQ3,hst3,hmv3⟩
    have hl2s:w.heap.size+1<(w1.putObj (w.heap.size+1) (.loop { rec .ready none with state:=.busy })).heap.size:=by rw [al1];exact hl1s
    have hl3:W3.heap[w.heap.size+1]?=some (.loop { rec .ready none with state:=.busy }):=(hmv3.keep.block _ hl2s (fun h=>hn1 (.inr h))).trans hl2
    have hn3:¬ Own σ3 X (w.heap.size+1):=bA1 hmv3 hl2s hn1
    have hl3s:=(Array.getElem?_eq_some_iff.1 hl3).1
    have hout3:St W3 X df a σ3 fr':=hout2.mv hmv3 hst3.st
    have hmv3':Mv w σ W3 σ3:=hmv2.trans hmv3
    have fin:∀ (jump:Option Code),(Instr.endRound (w.heap.size+1) jump).run P W3 = .ok (.bool jump.isNone) (W3.putObj (w.heap.size+1) (.loop (rec (if jump.isNone then .ready else .done) jump))) ∧
      (W3.putObj (w.heap.size+1) (.loop (rec (if jump.isNone then .ready else .done) jump))).heap[w.heap.size+1]?=some (.loop (rec (if jump.isNone then .ready else .done) jump)) ∧
      St (W3.putObj (w.heap.size+1) (.loop (rec (if jump.isNone then .ready else .done) jump))) X df a σ3 fr':=fun jump=>by
     have:=run_endRound (P:=P) jump hl3
     refine ⟨by rw [hrec] at this ⊢;exact this,World.putObj_heap_same hl3s,hout3.turn (by omega) hn3 hl3 rfl (fun _ _ h=>by cases h) (fun _ h=>by cases h)⟩
    have hkp:∀ (o:Obj) (b:Nat),b<W1.heap.size→¬ O b→(W3.putObj (w.heap.size+1) o).heap[b]?=Wc.heap[b]?:=fun o b hb hn=>by
     obtain ⟨n1,n2,n3⟩:=hnO hn
     have hbw:b<w.heap.size:=by omega
     have h1:=hmv3'.keep.block b hbw (fun h=>n1 (.inr h))
     have h2:=q3.keep.block b hbw (fun h=>n1 (.inr h))
     exact (World.putObj_heap_other n3).trans (h1.trans h2.symm)
    have hzz:∀ o:Obj,Wc.heap.size≤(W3.putObj (w.heap.size+1) o).heap.size:=fun o=>by
     have h1:=hmv1.keep.size
     have h2:=hmv3.keep.size
     rw [al1] at h2 ⊢
     omega
    have pend:∀ (e0:Exit) (c:Code),(e0 = .ret∧c = .ret∨∃ id,e0 = .exit id∧c = .exit id)→Q e0 a σ3→∃ v w',(Instr.endRound (w.heap.size+1) (some c)).run P W3 = .ok v w' ∧
      ((Ending.returned v = .returned (.bool true)∧(∃ gk,I (k+1) gk∧St w' X df a (S (k+1) gk) fr'∧Mv w σ w' (S (k+1) gk)∧W1.heap.size≤w'.heap.size∧w'.heap[w.heap.size+1]?=some (.loop (rec .ready none))∧¬ Own (S (k+1) gk) X (w.heap.size+1))∧Wc.heap.size≤w'.heap.size∧∀ b,b<W1.heap.size→¬ O b→w'.heap[b]?=Wc.heap[b]?) ∨
       (Ending.returned v = .returned (.bool false)∧∃ τ e c,(e = .ret∧c = .ret∨∃ id,e = .exit id∧c = .exit id)∧Q e a τ∧St w' X df a τ fr'∧Mv w σ w' τ∧w'.heap[w.heap.size+1]?=some (.loop (rec .done (some c)))∧¬ Own τ X (w.heap.size+1))):=fun e0 c hec hq=>by
     obtain ⟨f1,f2,f3⟩:=fin (some c)
     exact ⟨_,_,f1,.inr ⟨rfl,σ3,e0,c,hec,hq,f3,hmv3'.turn (Nat.le_succ _) _,f2,hn3⟩⟩
    cases e3 with
    | normal=>
     obtain ⟨g',hsub,hI'⟩:=hQ3
     obtain ⟨f1,f2,f3⟩:=fin none
     refine ⟨_,_,f1,.inl ⟨rfl,⟨g',hI',?_,?_,Nat.le_trans q4 (hzz _),f2,al2 hsub _ hn3⟩,hzz _,hkp _⟩⟩
     ·exact ⟨f3.fr.keep (Nat.le_refl _) (fun x _ hn=>al2 hsub x hn) (fun _ _ _=>rfl),f3.st.sub hsub,f3.df.keep (Nat.le_refl _) (fun x _ hn=>al2 hsub x hn) (fun _ _ _=>rfl)⟩
     ·exact (hmv3'.turn (Nat.le_succ _) _).fewer (fun b hb=>(hsub.map Prod.fst).subset hb)
    | ret=>exact pend .ret .ret (.inl ⟨rfl,rfl⟩) hQ3
    | exit id=>exact pend (.exit id) (.exit id) (.inr ⟨id,rfl,rfl⟩) hQ3
    | goto t=>exact hQ3.elim
    | panic c=>exact hQ3.elim
    | outgrown=>exact hQ3.elim
   | exit id=>exact hA.elim
   | goto t=>exact hA.elim
   | ret=>exact hA.elim
   | panic c=>exact hA.elim
   | outgrown=>exact hA.elim
end
/-! ### .. by the executor -/
section
variable {P:Program} {df:Nat} {N:Nat} {σ:aa1} {a:List D} {f:Frm} {T:TypeId→Option TI} {Q:Fst}
def cm4 (Q:Fst) (f:Frm) {γ:Type} (S:γ→aa1) (I:γ→Prop):Fst
 | .normal,_,σ'=>∃ g,(S g).Sublist σ'∧I g
 | .ret,_,σ'=>Q .ret f σ'
 | .exit id,_,σ'=>Q (.exit id) f σ'
 | _,_,_=>False
def zipF:List Tmp→List D→Frm→Frm
 | p :: ps,d :: x,f=>zipF ps x ((p,d) :: f)
 | _,_,f=>f
theorem bu3:∀ {ps:List Tmp} {x:List D} {a:List D} {f:Frm},(ps.all fun p=>Nat.blt p N)=true→Sp N a f→Sp N (aO5 a ps x) (zipF ps x f)
 | [],x,a,f,_,h=>by simpa [aO5,zipF] using h
 | p :: ps,[],a,f,_,h=>by simpa [aO5,zipF] using h
 | p :: ps,d :: x,a,f,hp,h=>by
  simp only [List.all_cons,Bool.and_eq_true,Nat.blt_eq] at hp
  have:=bu3 (x:=x) hp.2 (h.set (d:=d) hp.1)
  simpa [aO5,zipF] using this
theorem bN0 (hm:P.follows .mixedOrders=true) (hT:∀ t i,T t=some i→tiOf P t=some i) {g:Operand} {ps:Array Tmp} {assign body:Code} {gf:FuncId} {caps:List D} {its:List (List D)} (hg:evF f g = .clo gf caps) (hit:ci5 P gf caps its) (hps:∀ x∈its,x.length=ps.size) (hpN:(ps.toList.all fun p=>Nat.blt p N)=true)
  {γ:Type} (S:Nat→γ→aa1) (I:Nat→γ→Prop) (g₀:γ) (hσ:(S 0 g₀).Sublist σ) (h0:I 0 g₀)
  (round:∀ (l k:Nat) gk x,its[k]?=some x→I k gk→W (am9 P T (some l) 7 0 N assign (bw7 (am9 P T (some l) 7 0 N body (cm4 Q f (S (k+1)) (I (k+1)))) (fun _ _ _=>False)) (zipF ps.toList x f) (S k gk)))
  (done:∀ gk,I its.length gk→W (Q .normal f (S its.length gk))):Lp P none 9 df N (.rangeFunc g ps assign body) Q f σ:=by
 refine ⟨fun a hs=>?_⟩
 refine bG9 hit (hs.eq hg (fun h=>by cases h)) hps S I g₀ hσ h0 (fun l k gk x hx hI=>?_) (fun gk hI=>⟨f,hs,(done gk hI).h⟩)
 refine ar1 (am8 hm hT (round l k gk x hx hI).h (bu3 hpN hs)) ?_
 rintro e a1 σ1 ⟨f1,hs1,h1⟩
 cases e with
 | normal=>
  refine ar1 (am8 hm hT h1 hs1) ?_
  rintro e a2 σ2 ⟨f2,hs2,h2⟩
  cases e with
  | normal=>exact h2
  | ret=>exact ⟨f,hs,h2⟩
  | exit id=>exact ⟨f,hs,h2⟩
  | goto t=>exact h2.elim
  | panic c=>exact h2.elim
  | outgrown=>exact h2.elim
 | exit id=>exact h1.elim
 | goto t=>exact h1.elim
 | ret=>exact h1.elim
 | panic c=>exact h1.elim
 | outgrown=>exact h1.elim
end
end
end Go.Proofs.YtlcfiilejnnlnaaGreatDoor
