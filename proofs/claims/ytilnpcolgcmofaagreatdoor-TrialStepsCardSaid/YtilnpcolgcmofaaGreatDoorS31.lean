/- A part of the proof: Mb Bc Be Mc. -/
import Derived.Test.YtilnpcolgcmofaaGreatDoorS30
set_option maxRecDepth 100000
set_option maxHeartbeats 20000000
set_option linter.all false
namespace Go.Proofs.YtilnpcolgcmofaaGreatDoor
open Tryz
section
open Go
theorem aS1(s:ByteArray):bx ((bytes s).map UInt8.toNat)=s:=by
 unfold bx bytes;rw[vA];have:(UInt8.ofNat ∘ UInt8.toNat)=id:=by funext c;simp
 rw[this,List.map_id]
theorem yl{P:Program}{σ:af}{ρ:Operand->D}{o:Oper}{s d e:TypeId}{x:Operand}{b:ByteArray}(a:o.op= .convert s d x)(hx:ρ x=sD b)(j:P.underlying s=some .string)(i:P.underlying d=some (.slice e))(g:P.underlying e=some (.int .u8)):Yd P o ρ σ (.sl 1 ((bytes b).map λc=>[cD c])):=by
 have h:=yk (P:=P) (ρ:=ρ) (σ:=σ) (l:=(bytes b).map UInt8.toNat) a (hx.trans (zM (λz=>D.v (.string z)) (aS1 b).symm)) (λc f=>by obtain⟨u,_,rfl⟩:=xM.1 f;exact u.toNat_lt) j i g;rw[vA]at h;exact h
theorem K1{p:Prop}(h:p:=by
 induction l with
 |nil=>rfl
 |cons a l ih=>rw[List.any_cons,List.all_cons,ih,Bool.not_and]):p:=h
theorem wr(l:List UInt8):(l.any λc=>!eQ c)=!(l.all eQ):=K1
theorem Kv{A B:Prop}(k:B)(h:ar B->A:=by intro q7;(first|refine bA ?_|refine aA ?_|(refine' ah ?hc ?_;(case hc=>first|exact Mh _ _ _|exact aC9 _|exact HA)));exact q7.1):A:=h ⟨k⟩
theorem PF(s:ByteArray):APure prog 210 [sD s] (bD (aY s)):=by
 refine ao func210 ntmps210 λb=>?_;by_cases hs:1<=s.size/\s.size<=12
 .have hw:cz s.size 1 12=true:=by simp[cz];omega
  have h0:0<(bytes s).length:=by rw[Y5];omega
  obtain⟨c,hc0⟩:∃c,(bytes s)[(0:Int).toNat]?=some c:=⟨_,zD h0⟩
  have a:aY s=(I2 c&&(bytes s).all eQ):=Xw;have HA:=JB (bytes s) (λc=>!eQ c) (by rw[Y5];omega) (λy _=>AI y);rw[wr]at HA
  repeat' first|refine Kv ?_|((with_reducible refine' Ot.yd ?hydn ?_);(case hydn=>exact yl rfl rfl underlying9 underlying147 underlying5))|with_reducible refine Br.b (λhc=>?_) (λhc=>?_)
  all_goals(refine Rt.pure (zM bD ?_);rw[a];simp[*])
 .have hw:cz s.size 1 12=false:=by simp[cz];omega
  have a:aY s=false:=by unfold aY;rw[hw];simp
  have HA:=True.intro
  repeat' first|refine Kv ?_|((with_reducible refine' Ot.yd ?hydn ?_);(case hydn=>exact yl rfl rfl underlying9 underlying147 underlying5))|with_reducible refine Br.b (λhc=>?_) (λhc=>?_)
  all_goals first|(refine Rt.pure (zM bD ?_);exact a.symm)|(simp[hw]at *)
end
section
open Go Go.RowKit Go.Shelf Go.Sort
section
variable {P:Program} {ρ:Operand->D} {σ:af}
theorem jp{o:Oper}{x:Operand}{a b t:TypeId}{u r:Value}(d:o.op= .typeAssert x a b true)(hx:ρ x= .v (.iface t u))(h:∀w:World,(Instr.typeAssert (.iface t u) a b true).run P w= .ok r w):Yd P o ρ σ (.v r):=by
 intro w X η c e;obtain⟨dst,p,y,pos,i,g⟩:=o;simp only at d;subst d;have f:=(c x (by simp[Op.operands])).val hx;have:=h w;rw[←f]at this;exact dC this (Ex.refl w) (.v _)
theorem bT{o:Oper}{t:TypeId}{x:Operand}{v:Value}{u:TypeDesc}(a:o.op= .makeInterface t x)(hx:ρ x= .v v)(b:P.underlying t=some u)(n:∀m,u ≠ .interface m):Yd P o ρ σ (.v (.iface t v)):=by
 intro w X η h c;obtain⟨dst,p,y,pos,e,g⟩:=o;simp only at a;subst a;have d:=(h x (by simp[Op.operands])).val hx;refine dC (s:=Instr.makeInterface t (η x)) (u:=.iface t v) ?_ (Ex.refl w) (.v _);unfold Instr.makeInterface;rw[Sem.run_bind,run_underlying b,d];simp only[Result.andThen];exact Sem.run_pure ..
end
theorem vf(n:Int)(a:-9223372036854775808<=n)(h:n<=9223372036854775807):(Lib.itoa n).length<=bu n:=by
 unfold bu;split
 .by_cases hneg:n<0
  .obtain⟨u,rfl⟩:∃u:Nat,n= -(u:Int):=⟨n.natAbs,by omega⟩
   rw[Lib.itoa_neg u (by omega),List.length_cons,Lib.decDigits_length];have:=aP0 u (by omega);omega
  .obtain⟨u,rfl⟩:∃u:Nat,n=u:=⟨n.toNat,by omega⟩
   rw[Lib.itoa_nonneg,Lib.decDigits_length];have:=aP0 u (by omega);omega
 .exact Lib.itoa_length_le n a h
theorem GQ(n:Int)(h:cA n):cb prog 260 [iD n] (λd=>∃s:ByteArray,d=sD s/\s.size<=bu n):=by
 refine⟨enters_of func260 (by kernel_rfl) rfl,λw O vs a g=>?_⟩;obtain⟨u,l,rfl,i,f⟩:=PU a;rw[Zs f,i.val rfl];refine(strconv_Itoa n h.lo h.hi w g.pow).mono ?_;rintro e j ⟨rfl,k,o,rfl⟩;exact⟨_,_,rfl,⟨_,rfl,by have:=vf n h.lo h.hi;simpa [ByteArray.size]using this⟩,.v _,⟨rfl,rfl,rfl,by simp[grow,Array.size_append],λb c _=>by
  show(w.heap++o)[b]?=_;rw[vV c]⟩⟩
def Fc:Int⊕ByteArray->List D
 |.inl n=>[.v (.iface 3 (.int .i64 n))]
 |.inr s=>[.v (.iface 9 (.string s))]
def gD:Int⊕ByteArray->Nat
 |.inl n=>1+bu n
 |.inr s=>1+s.size
def dP(l:List (Int⊕ByteArray)):Nat:=(l.map gD).sum
theorem ni(l:List (Int⊕ByteArray))(j:Nat)(x:Int⊕ByteArray)(h:l[j]?=some x):dP (l.take (j+1))=dP (l.take j)+gD x:=by
 simp[dP,xC,h,vO]
theorem bg4(l:List (Int⊕ByteArray)):∀j,dP (l.take j)<=dP l:=by
 induction l with
 |nil=>intro j;simp[dP]
 |cons x l i=>
  intro j
  cases j with
  |zero=>simp[dP]
  |succ j=>have:=i j;simp only[dP,List.take_succ_cons,List.map_cons,List.sum_cons]at *;omega
theorem aH4(l m:List (Int⊕ByteArray)):dP (l++m)=dP l+dP m:=by simp[dP]
theorem CE.gsome{P:Program}{g:FuncId}{args b:List D}{σ τ:af}{K:D->af->Prop}{R:D->Prop}(v:eX σ args τ b)(h:cb P g b R)(k:∀e,R e->W (K e τ)):CE P g args σ K:=
 ⟨σ,[],λa i=>R a/\i=τ,by simp,⟨h.ent,λw X vs s m=>by
  obtain⟨l,o⟩:=v.run w X vs m s;exact(h.run w (ay τ X) _ o l.gok).mono λe p⟨u,d,f,c,n,j⟩=>⟨u,d,_,f,⟨c,rfl⟩,n,l.ex j,(jx j).wider v.sub⟩⟩,
  λa i⟨f,c⟩=>by subst c;exact⟨_,by simp,(k a f).h⟩⟩
def bZ(l:List (Int⊕ByteArray)):Prop:=∀n,Sum.inl n∈l->cA n
theorem Kn(q:Int)(w:World):(Instr.typeAssert (.iface 3 (.int .i64 q)) 20 3 true).run prog w= .ok (.tuple #[.int .i64 q,.bool true]) w:=by kernel_rfl
theorem Km(q:ByteArray)(w:World):(Instr.typeAssert (.iface 9 (.string q)) 20 3 true).run prog w= .ok (.tuple #[.int .i64 0,.bool false]) w:=by kernel_rfl
theorem Kl(q:ByteArray)(w:World):(Instr.typeAssert (.iface 9 (.string q)) 20 9 true).run prog w= .ok (.tuple #[.string q,.bool true]) w:=by kernel_rfl
theorem LR(b n:Nat)(σ:af)(h:lW b n σ)(s:ByteArray)(f:n+s.size<=1000000000):az prog 219 [.v (pB b),sD s] σ (λd σ'=>d= .any/\lW b (n+s.size) σ'):=by
 have e:=aS1 s;have l:=jT ((bytes s).map UInt8.toNat);rw[e]at l;have:=Pd b n σ h ((bytes s).map UInt8.toNat) (λd a=>by obtain⟨c,_,rfl⟩:=xM.1 a;exact c.toNat_lt) (by omega);rw[←l]at this;rw[show cW ((bytes s).map UInt8.toNat)=sD s by rw[show cW ((bytes s).map UInt8.toNat)= .v (.string (bx ((bytes s).map UInt8.toNat))) from rfl,e]]at this;exact this
theorem XE{p:Prop}(h:p:=by
 rintro _ s2 ⟨rfl,hB2⟩
 repeat' first|refine aN ?_|intro b;conv=>whnf
 exact⟨(j+1,_,s2),(aj aw),Sc.refl _,⟨by simp only;omega,by simp only;omega,hB2⟩,by simp only;omega⟩):p:=h
theorem x3(w:ByteArray)(i:List (Int⊕ByteArray))(hi:bZ i)(hl:i.length<=2000000)(y:w.size+dP i<=100000000) :
  cb prog 220 [sD w,.sl 1 (i.map Fc)] (λd=>∃s:ByteArray,d=sD s/\s.size<=w.size+dP i+1):=by
 refine cb.of_call ?_;refine cU func220 ntmps220 λz=>?_
 repeat' first|refine aN ?_|intro b;conv=>whnf
 refine ba (LR b 0 _ (lW.new b) w (by omega)) (bR _) (λa=>a) cZ ?_;rintro _ s ⟨rfl,f⟩
 repeat' first|refine aN ?_|intro b;conv=>whnf
 refine aV mixed ai (γ:=Nat×Nat×af) (λg=>[(14,iD g.1)]) (λg=>g.2.2) (λg=>g.1<=i.length/\g.2.1<=w.size+dP (i.take g.1)/\lW b g.2.1 g.2.2) (λg=>i.length-g.1) (0,_,s) (aj aw) (Sc.refl _) ⟨zW _,by simp,f⟩ ?_;clear f;rintro⟨j,n,s⟩ ⟨hj,l,f⟩;simp only at hj l f⊢;have v:=bg4 i j;by_cases hlt:j<i.length
 .obtain⟨x,hx⟩:∃x,i[j]?=some x:=⟨_,zD hlt⟩
  have r:i[((j:Nat):Int).toNat]?=some x:=hx;have hs:=ni i j x hx;have o:=bg4 i (j+1)
  cases x with
  |inl q=>
   have u:=hi q (zG hx);simp only[gD]at hs
   repeat' first|refine aN ?_|intro b;conv=>whnf
   (refine ba (td b n s f 32 (by decide) (by omega)) (bR _) (λa=>a) cZ ?_;(rintro _ k ⟨rfl,e⟩))
   repeat' first|refine aN ?_|intro b;conv=>whnf|((with_reducible refine' Ot.yd ?hydt ?_);(case hydt=>first|exact jp rfl rfl (Kn _)|exact jp rfl rfl (Km _)|exact jp rfl rfl (Kl _)))
   refine CE.some (GQ q u) ?_;rintro _ ⟨t,rfl,ht⟩
   repeat' first|refine aN ?_|intro b;conv=>whnf
   refine ba (LR b (n+1) k e t (by omega)) (bR _) (λa=>a) cZ ?_;exact XE
  |inr q=>
   simp only[gD]at hs
   repeat' first|refine aN ?_|intro b;conv=>whnf
   (refine ba (td b n s f 32 (by decide) (by omega)) (bR _) (λa=>a) cZ ?_;(rintro _ k ⟨rfl,e⟩))
   repeat' first|refine aN ?_|intro b;conv=>whnf|((with_reducible refine' Ot.yd ?hydt ?_);(case hydt=>first|exact jp rfl rfl (Kn _)|exact jp rfl rfl (Km _)|exact jp rfl rfl (Kl _)))
   refine ba (LR b (n+1) k e q (by omega)) (bR _) (λa=>a) cZ ?_;exact XE
 .obtain rfl:j=i.length:=by omega
  rw[yM]at l
  repeat' first|refine aN ?_|intro b;conv=>whnf
  refine ba (bh6 b n s f) (bR _) (λa=>a) cZ ?_;rintro _ _ ⟨t,rfl,ht,rfl⟩
  repeat' first|refine aN ?_|intro b;conv=>whnf
  refine Sd.go (show t.size+1<=_ by omega) ?_
  repeat' first|refine aN ?_|intro b;conv=>whnf
  exact Rt.same ⟨_,rfl,by rw[yU,ht];show n+1<=_;omega⟩
theorem OZ(s t:ByteArray):cb prog 261 [gA [s,t]] (λd=>∃r,d=sD r/\r.size<=s.size+t.size):=by
 refine cb.of_call ?_;refine cU func261 ntmps261 λb=>?_
 repeat refine aN ?_
 refine aV mixed ai (γ:=Nat) (λj=>[(8,iD j)]) (λ_=>[]) (λj=>j<=2) (λj=>2-j) 0 (aj aw) (Sc.refl _) (zW _) ?_;rintro j hj;by_cases h2:j<2
 .obtain⟨x,hx,a⟩:∃x,[s,t][((j:Nat):Int).toNat]?=some x/\x.size<=s.size+t.size:=by
   rcases(by omega:j=0\/j=1)with rfl|rfl
   .exact⟨s,rfl,by omega⟩
   .exact⟨t,rfl,by omega⟩
  repeat' first|refine aN ?_|(refine aT ?_;constructor<;>intro hc)
  .exact⟨j+1,(aj aw),Sc.refl _,by omega,by omega⟩
  .exact Rt.same ⟨x,rfl,a⟩
 .obtain rfl:j=2:=by omega
  repeat refine aN ?_
  exact Rt.same ⟨⟨#[]⟩,rfl,zW _⟩
theorem aC8(s:ByteArray):cb prog 222 [sD s] (λd=>∃t:ByteArray,d=sD t/\t.size<=s.size+1):=by
 refine cb.of_call ?_;refine cU func222 ntmps222 λa=>?_
 repeat refine aN ?_
 refine CE.some (OZ s ⟨#[45]⟩) ?_;rintro _ ⟨t,rfl,ht⟩
 repeat refine aN ?_
 exact Rt.same ⟨t,rfl,ht⟩
def lv:List ByteArray->List Int->List (Int⊕ByteArray)
 |s::ws,n::g=>.inr s::.inl n::lv ws g
 |_,_=>[]
theorem aI7:∀(ws:List ByteArray)(g:List Int)(j:Nat)(s:ByteArray)(n:Int),ws[j]?=some s->g[j]?=some n->lv (ws.take (j+1)) (g.take (j+1))=lv (ws.take j) (g.take j)++[.inr s,.inl n]
 |[],_,_,_,_,h,_=>by simp at h
 |_::_,[],_,_,_,_,h=>by simp at h
 |s::ws,n::g,0,b,c,h,a=>by simp at h a;subst h a;simp[lv]
 |s::ws,n::g,j+1,b,c,h,a=>by
  have:=aI7 ws g j b c (by simpa using h) (by simpa using a);simp only[List.take_succ_cons,lv,this,List.cons_append]
theorem av0:∀(ws:List ByteArray)(g:List Int),ws.length=g.length->(lv ws g).length=2*ws.length
 |[],[],_=>rfl
 |_::ws,_::g,h=>by have:=av0 ws g (by simpa using h);simp only[lv,List.length_cons,this];omega
theorem bf3:∀(ws:List ByteArray)(g:List Int),ws.length=g.length->dP (lv ws g)=(ws.map λs=>1+s.size).sum+(g.map λn=>1+bu n).sum
 |[],[],_=>rfl
 |_::ws,_::g,h=>by
  have:=bf3 ws g (by simpa using h);simp only[dP,lv,List.map_cons,List.sum_cons,gD]at this⊢;omega
theorem aT5:∀(ws:List ByteArray)(s:List Int),(∀n∈s,cA n)->bZ (lv ws s)
 |[],_,_,_,h=>by simp[lv]at h
 |_::_,[],_,_,h=>by simp[lv]at h
 |_::ws,g::s,a,n,h=>by
  simp only[lv,zU,reduceCtorEq,Sum.inl.injEq,false_or]at h;rcases h with rfl|h
  .exact a _ (by simp)
  .exact aT5 ws s (λm b=>a m (by simp[b])) n h
section
variable {ρ:Operand->D} {σ:af}
theorem JX{o:Oper}{x:Operand}{m:Nat}{s:ByteArray}(b:o.op= .load 9 x)(hx:ρ x= .v (.pointer (some ⟨1,m,none⟩)))(h:∀w,lC w->w.cell? ⟨1,m,none⟩=some (.string s)):Yd prog o ρ σ (sD s):=by
 intro w X η a t;obtain⟨dst,e,y,pos,d,g⟩:=o;simp only at b;subst b;have p:=(a x (by simp[Op.operands])).val hx;obtain⟨c,f⟩:=Mr (ai 9 _ rfl) w;refine dC (s:=Instr.loadAt 9 (η x)) (u:=.string s) ?_ (Ex.refl w) (.v _);rw[p];exact QB c (h w t.gok.words)
end
theorem ne{f:am}(h:fJ f=true):0<=f.kind/\f.kind<=8:=by
 unfold fJ at h
 repeat' split at h
 all_goals first|omega|simp at h
theorem BM{ws:List ByteArray}{gs:List Int}(h:oc ws gs=true):ws.length=gs.length/\ws.length<=12:=by
 simp only[oc,zJ,cz,zQ]at h;omega
theorem bZ.nil:bZ []:=λn h=>by cases h
theorem bZ.s{x:ByteArray}{l:List (Int⊕ByteArray)}(h:bZ l):bZ (.inr x::l):=λn a=>(zU.1 a).elim (λe=>by cases e) (h n)
theorem bZ.i{x:Int}{l:List (Int⊕ByteArray)}(hx:cA x)(h:bZ l):bZ (.inl x::l):=λn a=>(zU.1 a).elim (λe=>by cases e;exact hx) (h n)
theorem bZ.app{l m:List (Int⊕ByteArray)}(h:bZ l)(k:bZ m):bZ (l++m):=λn a=>(zO.1 a).elim (h n) (k n)
def xv(n:ByteArray)(ws:List ByteArray)(gs:List Int)(j:Nat):List (Int⊕ByteArray):=[.inr n,.inl (ws.length:Int)]++lv (ws.take j) (gs.take j)
theorem sE(l:List (Int⊕ByteArray)):∀y∈l.map Fc,y.length=1:=λy h=>by obtain⟨x,_,rfl⟩:=xM.1 h;cases x<;>rfl
theorem jM(a:Array UInt8):(ByteArray.mk a).size=a.size:=rfl
theorem cG{A B:Prop}(k:B)(h:ar B->A:=by intro q7;(first|refine bQ ?_|refine ir ?_|(refine' ah ?hc ?_;(case hc=>fail)));exact q7.1):A:=h ⟨k⟩
theorem vu{p:Prop}(h:p:=by repeat(first|exact bZ.nil|apply bZ.s|exact bZ.i hlo (bZ.i hhi bZ.nil)|exact bZ.i hlo bZ.nil)):p:=h
theorem vt{p:Prop}(h:p:=by unfold fM at hb;(simp only[dP,gD,List.map_cons,List.map_nil,List.sum_cons,List.sum_nil,jM,List.size_toArray,List.length_cons,List.length_nil]at hb⊢);omega):p:=h
theorem OV{p:Prop}(h:p:=by
 repeat' first|refine cG ?_|((with_reducible refine' Ot.yd ?hydn ?_);(case hydn=>first|exact bT rfl rfl underlying9 (λm h=>by cases h)|exact bT rfl rfl underlying3 (λm h=>by cases h)))|(refine And.intro ?_ ?_<;>(conv=>whnf))|(refine CE.some (aC8 o) ?_;(rintro _ ⟨o2,rfl,ho2⟩))|(refine CE.some (x3 _ [.inr n,.inr o2,.inl lo,.inl hi] vu (by simp) vt) ?_;(rintro _ ⟨t,rfl,ht⟩))
 exact⟨t,(aj aP),Sc.refl _,by unfold fM;(simp only[dP,gD,List.map_cons,List.map_nil,List.sum_cons,List.sum_nil,jM,List.size_toArray,List.length_cons,List.length_nil]at ht ho2⊢);omega⟩):p:=h
theorem AJ(f:am)(hlo:cA f.lo)(hhi:cA f.hi)(G:dE f=true)(K:∀n∈f.wz,cA n)(hb:fM f<=10000000):cb prog 221 [.agg (aH f)] (λd=>∃s:ByteArray,d=sD s/\s.size<=fM f):=by
 refine cb.of_call ?_;have J:fJ f=true:=by simp only[dE,zJ]at G;exact G.2
 have r:=ne J;obtain⟨n,o,u,k,lo,hi,ws,b⟩:=f;simp only at hlo hhi K r;have h:k=3\/k=0\/k=1\/k=2\/k=4\/k=5\/k=6\/k=7\/k=8:=by omega
 rcases h with rfl|rfl|rfl|rfl|rfl|rfl|rfl|rfl|rfl
 .obtain⟨hl,Q⟩:=BM (ws:=ws) (gs:=b) (by simpa [fJ]using J);have z:=bf3 ws b hl;refine cU func221 ntmps221 λe=>?_
  repeat refine Ak ?_
  refine Bx.l ?_
  repeat' first|refine Ak ?_|((with_reducible refine' Ot.yd ?hydn ?_);(case hydn=>first|exact bT rfl rfl underlying9 (λm h=>by cases h)|exact bT rfl rfl underlying3 (λm h=>by cases h)))|((with_reducible refine' Ot.yd ?hydw ?_);(case hydw=>exact bN ai (m:=3) rfl rfl rfl rfl rfl rfl (by decide)))|((with_reducible refine' Ld.yd ?hydw ?_);(case hydw=>exact JX (m:=3) rfl rfl (λw h=>h 3 _ rfl)))
  refine Bx.r ?_;refine KN ai (out:=[.v (.iface 9 (.string n)),.v (.iface 3 (.int .i64 ((ws.map λx=>[sD x]).length:Nat)))]) rfl rfl rfl rfl rfl rfl rfl rfl rfl rfl (by decide) (λC=>?_)
  repeat refine aN ?_
  have l:ae 20 1 ((xv n ws b 0).map Fc) (.slice (some ⟨C,0,none⟩) 2 2) [(C,.cells 20 [.v (.iface 9 (.string n)),.v (.iface 3 (.int .i64 ((ws.map λx=>[sD x]).length:Nat)))])]:=
   ⟨sE _,.inr ⟨C,2,[],by simp[xv,lv],by simp[xv,lv,Fc],by simp[xv,lv],by decide,by simp[xv,lv],λd O=>by cases O⟩⟩
  refine aV mixed ai (γ:=Nat×Value×af) (λg=>[(51,iD g.1),(4,.v g.2.1)]) (λg=>g.2.2) (λg=>g.1<=ws.length/\ae 20 1 ((xv n ws b g.1).map Fc) g.2.1 g.2.2) (λg=>ws.length-g.1) (0,_,[(C,.cells 20 [.v (.iface 9 (.string n)),.v (.iface 3 (.int .i64 ((ws.map λx=>[sD x]).length:Nat)))])]) (aj aw) (Sc.refl _) ⟨zW _,l⟩ ?_;clear l;rintro⟨j,v,s⟩ ⟨hj,r⟩;simp only at hj r⊢;by_cases hlt:j<ws.length
  .obtain⟨a,L⟩:∃x,ws[j]?=some x:=⟨_,zD hlt⟩
   obtain⟨q,I⟩:∃x,b[j]?=some x:=⟨_,zD (by omega)⟩
   have P:ws[((j:Nat):Int).toNat]?=some a:=L;have M:b[((j:Nat):Int).toNat]?=some q:=I;have F:=aI7 ws b j a q L I;have y:=av0 (ws.take (j+1)) (b.take (j+1)) (by rw[zR,zR,hl]);rw[zR]at y
   repeat' first|refine aN ?_|((with_reducible refine' Ot.yd ?hydn ?_);(case hydn=>first|exact bT rfl rfl underlying9 (λm h=>by cases h)|exact bT rfl rfl underlying3 (λm h=>by cases h)))
   have R:(xv n ws b (j+1)).length<=100:=by unfold xv;rw[zI,y];show 2+_<=_;omega
   refine Ap.go rfl rfl rfl rfl r (bR _) rfl (zs:=(xv n ws b (j+1)).map Fc) (by unfold xv;rw[F,←zV,yB (l₂:=[_,_])];rfl) (by rw[zL];omega) (by rw[zL];omega) (λD=>D) cZ (λT S D E=>?_)
   repeat refine aN ?_
   exact⟨(j+1,_,D),(aj aw),Sc.refl _,⟨by simp only;omega,E⟩,by simp only;omega⟩
  .obtain rfl:j=ws.length:=by omega
   rw[show xv n ws b ws.length=[.inr n,.inl (ws.length:Int)]++lv ws b by unfold xv;rw[yM,hl,yM]]at r
   repeat refine aN ?_
   refine CE.gsome (.cons (Vs.refl _ _) (.cons (Vs.row r (bR _)) (.nil _))) (x3 _ _ (bZ.app (.s (.i (cA.mk (by omega) (by omega)) .nil)) (aT5 ws b K)) (by rw[zI,av0 ws b hl];show 2+_<=_;omega) (by unfold fM at hb;rw[aH4,z];(simp only[dP,gD,List.map_cons,List.map_nil,List.sum_cons,List.sum_nil,jM,List.size_toArray,List.length_cons,List.length_nil]at hb⊢);omega)) ?_;rintro _ ⟨t,rfl,ht⟩;rw[aH4,z]at ht
   repeat refine aN ?_
   exact Rt.same ⟨t,rfl,by unfold fM;(simp only[dP,gD,List.map_cons,List.map_nil,List.sum_cons,List.sum_nil,jM,List.size_toArray,List.length_cons,List.length_nil]at ht⊢);omega⟩
 .refine cU func221 ntmps221 λe=>?_
  repeat' first|refine aN ?_|((with_reducible refine' Ot.yd ?hydn ?_);(case hydn=>first|exact bT rfl rfl underlying9 (λm h=>by cases h)|exact bT rfl rfl underlying3 (λm h=>by cases h)))|((with_reducible refine' Ot.yd ?hydw ?_);(case hydw=>exact bN ai (m:=0) rfl rfl rfl rfl rfl rfl (by decide)))|((with_reducible refine' Ld.yd ?hydw ?_);(case hydw=>exact JX (m:=0) rfl rfl (λw h=>h 0 _ rfl)))|(refine CE.some (x3 _ [.inr n,.inl lo] vu (by simp) vt) ?_;(rintro _ ⟨t,rfl,ht⟩))
  exact Rt.same ⟨t,rfl,by unfold fM;(simp only[dP,gD,List.map_cons,List.map_nil,List.sum_cons,List.sum_nil,jM,List.size_toArray,List.length_cons,List.length_nil]at ht⊢);omega⟩
 .refine cU func221 ntmps221 λe=>?_
  repeat' first|refine cG ?_|((with_reducible refine' Ot.yd ?hydn ?_);(case hydn=>first|exact bT rfl rfl underlying9 (λm h=>by cases h)|exact bT rfl rfl underlying3 (λm h=>by cases h)))|((with_reducible refine' Ot.yd ?hydw ?_);(case hydw=>exact bN ai (m:=1) rfl rfl rfl rfl rfl rfl (by decide)))|((with_reducible refine' Ld.yd ?hydw ?_);(case hydw=>exact JX (m:=1) rfl rfl (λw h=>h 1 _ rfl))) 
  ((refine Dr.r ?_;refine W.mk ?_);refine lu mixed ai rfl [0,1,2,3,4,5,8,9,10,11,12,13] 5 (jE [6,15]) (.one 6 (.fst 7 (.fst 14 (.one 15 (.fst 16 .done))))) (γ:=ByteArray) (λs=>[(2,sD s)]) (λ_=>[]) (λs=>s.size<=fM ⟨n,o,u,1,lo,hi,ws,b⟩) (by decide +kernel) ?_ ?_)
  .exact OV
  .intro t ht
   repeat refine cG ?_
   exact Rt.same ⟨t,rfl,ht⟩
 .refine cU func221 ntmps221 λe=>?_
  repeat' first|refine cG ?_|((with_reducible refine' Ot.yd ?hydn ?_);(case hydn=>first|exact bT rfl rfl underlying9 (λm h=>by cases h)|exact bT rfl rfl underlying3 (λm h=>by cases h)))|((with_reducible refine' Ot.yd ?hydw ?_);(case hydw=>exact bN ai (m:=2) rfl rfl rfl rfl rfl rfl (by decide)))|((with_reducible refine' Ld.yd ?hydw ?_);(case hydw=>exact JX (m:=2) rfl rfl (λw h=>h 2 _ rfl)))|(refine CE.some (x3 _ [.inr n,.inl lo,.inl hi] vu (by simp) vt) ?_;(rintro _ ⟨t,rfl,ht⟩))
  exact Rt.same ⟨t,rfl,by unfold fM;(simp only[dP,gD,List.map_cons,List.map_nil,List.sum_cons,List.sum_nil,jM,List.size_toArray,List.length_cons,List.length_nil]at ht⊢);omega⟩
 .refine cU func221 ntmps221 λe=>?_
  repeat' first|refine cG ?_|((with_reducible refine' Ot.yd ?hydn ?_);(case hydn=>first|exact bT rfl rfl underlying9 (λm h=>by cases h)|exact bT rfl rfl underlying3 (λm h=>by cases h)))|((with_reducible refine' Ot.yd ?hydw ?_);(case hydw=>exact bN ai (m:=4) rfl rfl rfl rfl rfl rfl (by decide)))|((with_reducible refine' Ld.yd ?hydw ?_);(case hydw=>exact JX (m:=4) rfl rfl (λw h=>h 4 _ rfl))) 
  ((refine Dr.r ?_;refine W.mk ?_);refine lu mixed ai rfl [0,1,2,3,4,5,8,9,10,11,12,13] 5 (jE [6,15]) (.one 6 (.fst 7 (.fst 14 (.one 15 (.fst 16 .done))))) (γ:=ByteArray) (λs=>[(2,sD s)]) (λ_=>[]) (λs=>s.size<=fM ⟨n,o,u,4,lo,hi,ws,b⟩) (by decide +kernel) ?_ ?_)
  .exact OV
  .intro t ht
   repeat refine cG ?_
   exact Rt.same ⟨t,rfl,ht⟩
 .refine cU func221 ntmps221 λe=>?_
  repeat' first|refine cG ?_|((with_reducible refine' Ot.yd ?hydn ?_);(case hydn=>first|exact bT rfl rfl underlying9 (λm h=>by cases h)|exact bT rfl rfl underlying3 (λm h=>by cases h)))|((with_reducible refine' Ot.yd ?hydw ?_);(case hydw=>exact bN ai (m:=5) rfl rfl rfl rfl rfl rfl (by decide)))|((with_reducible refine' Ld.yd ?hydw ?_);(case hydw=>exact JX (m:=5) rfl rfl (λw h=>h 5 _ rfl))) 
  ((refine Dr.r ?_;refine W.mk ?_);refine lu mixed ai rfl [0,1,2,3,4,5,8,9,10,11,12,13] 5 (jE [6,15]) (.one 6 (.fst 7 (.fst 14 (.one 15 (.fst 16 .done))))) (γ:=ByteArray) (λs=>[(2,sD s)]) (λ_=>[]) (λs=>s.size<=fM ⟨n,o,u,5,lo,hi,ws,b⟩) (by decide +kernel) ?_ ?_)
  .exact OV
  .intro t ht
   repeat refine cG ?_
   exact Rt.same ⟨t,rfl,ht⟩
 .refine cU func221 ntmps221 λe=>?_
  repeat' first|refine cG ?_|((with_reducible refine' Ot.yd ?hydn ?_);(case hydn=>first|exact bT rfl rfl underlying9 (λm h=>by cases h)|exact bT rfl rfl underlying3 (λm h=>by cases h)))|((with_reducible refine' Ot.yd ?hydw ?_);(case hydw=>exact bN ai (m:=6) rfl rfl rfl rfl rfl rfl (by decide)))|((with_reducible refine' Ld.yd ?hydw ?_);(case hydw=>exact JX (m:=6) rfl rfl (λw h=>h 6 _ rfl)))|(refine CE.some (x3 _ [.inr n,.inr o] vu (by simp) vt) ?_;(rintro _ ⟨t,rfl,ht⟩))
  exact Rt.same ⟨t,rfl,by unfold fM;(simp only[dP,gD,List.map_cons,List.map_nil,List.sum_cons,List.sum_nil,jM,List.size_toArray,List.length_cons,List.length_nil]at ht⊢);omega⟩
 .refine cU func221 ntmps221 λe=>?_
  repeat' first|refine cG ?_|((with_reducible refine' Ot.yd ?hydn ?_);(case hydn=>first|exact bT rfl rfl underlying9 (λm h=>by cases h)|exact bT rfl rfl underlying3 (λm h=>by cases h)))|((with_reducible refine' Ot.yd ?hydw ?_);(case hydw=>exact bN ai (m:=7) rfl rfl rfl rfl rfl rfl (by decide)))|((with_reducible refine' Ld.yd ?hydw ?_);(case hydw=>exact JX (m:=7) rfl rfl (λw h=>h 7 _ rfl)))|(refine CE.some (x3 _ [.inr n,.inr u,.inr o,.inl lo,.inl hi] vu (by simp) vt) ?_;(rintro _ ⟨t,rfl,ht⟩))
  exact Rt.same ⟨t,rfl,by unfold fM;(simp only[dP,gD,List.map_cons,List.map_nil,List.sum_cons,List.sum_nil,jM,List.size_toArray,List.length_cons,List.length_nil]at ht⊢);omega⟩
 .refine cU func221 ntmps221 λe=>?_
  repeat' first|refine cG ?_|((with_reducible refine' Ot.yd ?hydn ?_);(case hydn=>first|exact bT rfl rfl underlying9 (λm h=>by cases h)|exact bT rfl rfl underlying3 (λm h=>by cases h)))|((with_reducible refine' Ot.yd ?hydw ?_);(case hydw=>exact bN ai (m:=8) rfl rfl rfl rfl rfl rfl (by decide)))|((with_reducible refine' Ld.yd ?hydw ?_);(case hydw=>exact JX (m:=8) rfl rfl (λw h=>h 8 _ rfl)))|(refine CE.some (x3 _ [.inr n,.inr u,.inr o] vu (by simp) vt) ?_;(rintro _ ⟨t,rfl,ht⟩))
  exact Rt.same ⟨t,rfl,by unfold fM;(simp only[dP,gD,List.map_cons,List.map_nil,List.sum_cons,List.sum_nil,jM,List.size_toArray,List.length_cons,List.length_nil]at ht⊢);omega⟩
end
section
open Go Go.RowKit
def tp(nm:ByteArray)(s:List ByteArray)(j:Nat):List (Int⊕ByteArray):=[.inr nm,.inl (s.length:Int)]++(s.take j).map .inr
theorem Ia(nm:ByteArray)(a:List ByteArray):dP (tp nm a a.length)=2+nm.size+bu a.length+aX (λs=>1+s.size) a:=by
 unfold tp;rw[aH4,yM];have:dP (a.map Sum.inr)=aX (λs=>1+s.size) a:=by simp[dP,aX,gD,vA,Function.comp_def]
 rw[this];simp only[dP,gD,List.map_cons,List.map_nil,List.sum_cons,List.sum_nil,jM,List.size_toArray,List.length_cons,List.length_nil];omega
theorem cA.of{n:Int}(h:-9223372036854775807<=n/\n<=9223372036854775807):cA n:=⟨by omega,by omega⟩
theorem pc1(a:Nat×aE)(s:af):(a::s).Perm (s++[a]):=yT (l₁:=[a])
theorem S0(a:Nat×aE)(s:af):(s++[a]).Perm (a::s):=yT (l₂:=[a])
theorem pc2(a b:Nat×aE)(s:af):(a::b::s).Perm (s++[a,b]):=yT (l₁:=[a,b])
theorem br9(a b:Nat×aE)(s:af):(s++[a,b]).Perm (a::b::s):=yT (l₂:=[a,b])
theorem cq8{p:Prop}(h:p:=by
 repeat' first|refine aN ?_|intro b;conv=>whnf|((with_reducible refine' Ot.yd ?hydn ?_);(case hydn=>first|exact bT rfl rfl underlying9 (λm h=>by cases h)|exact bT rfl rfl underlying3 (λm h=>by cases h)))|((with_reducible refine' Ot.yd ?hydw ?_);(case hydw=>first|exact bN ai (m:=0) rfl rfl rfl rfl rfl rfl (by decide)|exact bN ai (m:=1) rfl rfl rfl rfl rfl rfl (by decide)))|fail
 (refine ba (LR b0 _ s hB t (by omega)) (pc2 _ _ _) (λs'=>_::_::s') (λs'=>br9 _ _ _) ?_;rintro _ s1 ⟨rfl,hB1⟩)
 repeat' first|refine aN ?_|intro b;conv=>whnf|((with_reducible refine' Ot.yd ?hydn ?_);(case hydn=>first|exact bT rfl rfl underlying9 (λm h=>by cases h)|exact bT rfl rfl underlying3 (λm h=>by cases h)))|((with_reducible refine' Ot.yd ?hydw ?_);(case hydw=>first|exact bN ai (m:=0) rfl rfl rfl rfl rfl rfl (by decide)|exact bN ai (m:=1) rfl rfl rfl rfl rfl rfl (by decide)))|fail
 exact⟨(i+1,_,s1),(aj aw),Sc.sl (yG _ _),⟨by simp only;omega,by simp only;omega,hB1⟩,by simp only;omega⟩):p:=h
theorem X8{p:Prop}(h:p:=by
 rw[yM]at hn
 repeat' first|refine aN ?_|intro b;conv=>whnf|((with_reducible refine' Ot.yd ?hydn ?_);(case hydn=>first|exact bT rfl rfl underlying9 (λm h=>by cases h)|exact bT rfl rfl underlying3 (λm h=>by cases h)))|((with_reducible refine' Ot.yd ?hydw ?_);(case hydw=>first|exact bN ai (m:=0) rfl rfl rfl rfl rfl rfl (by decide)|exact bN ai (m:=1) rfl rfl rfl rfl rfl rfl (by decide)))|fail
 exact⟨(j+1,n,s),(aj aw),Sc.sl (yG _ _),⟨by simp only;omega,by simp only;omega,hB⟩,by simp only;omega⟩):p:=h
theorem ui(x:ak)(g:ES x)(R:hQ x=true):cb prog 165 [ax x] (λd=>∃s:ByteArray,d=sD s/\s.size<=e' x):=by
 refine cb.of_call ?_;have hb:=g.src R;have hx:=g.sm;have hver:=cA.of g.ver;have hlk:=hx.nkinds;have hll:=hx.nlives;have hlr:=hx.nrules;have Q:=aZ9 x.vz;simp only[hQ,zJ,yA]at R;unfold e' at hb⊢;refine cU func165 ntmps165 λBB=>?_
 repeat' first|refine aN ?_|intro b;conv=>whnf|((with_reducible refine' Ot.yd ?hydn ?_);(case hydn=>first|exact bT rfl rfl underlying9 (λm h=>by cases h)|exact bT rfl rfl underlying3 (λm h=>by cases h)))|((with_reducible refine' Ot.yd ?hydw ?_);(case hydw=>first|exact bN ai (m:=0) rfl rfl rfl rfl rfl rfl (by decide)|exact bN ai (m:=1) rfl rfl rfl rfl rfl rfl (by decide)))|fail
 (refine CE.some (x3 _ [.inl x.vz] ?hqo1 ?hqo2 ?hqo3) ?_;(case hqo1=>repeat(first|exact bZ.nil|apply bZ.s|refine bZ.i (by assumption) ?_));(case hqo2=>simp);(case hqo3=>((simp only[dP,gD,List.map_cons,List.map_nil,List.sum_cons,List.sum_nil,jM,List.size_toArray,List.length_cons,List.length_nil]);omega));(rintro _ ⟨t,rfl,ht⟩);(simp only[dP,gD,List.map_cons,List.map_nil,List.sum_cons,List.sum_nil,jM,List.size_toArray,List.length_cons,List.length_nil]at ht))
 obtain⟨b0,rfl⟩:∃O,O=b:=⟨_,rfl⟩
 repeat' first|refine aN ?_|intro b;conv=>whnf|((with_reducible refine' Ot.yd ?hydn ?_);(case hydn=>first|exact bT rfl rfl underlying9 (λm h=>by cases h)|exact bT rfl rfl underlying3 (λm h=>by cases h)))|((with_reducible refine' Ot.yd ?hydw ?_);(case hydw=>first|exact bN ai (m:=0) rfl rfl rfl rfl rfl rfl (by decide)|exact bN ai (m:=1) rfl rfl rfl rfl rfl rfl (by decide)))|fail
 refine ba (LR b0 0 _ (lW.new b0) t (by omega)) (bR _) (λs'=>s') cZ ?_;rintro _ s ⟨rfl,hB⟩
 repeat' first|refine aN ?_|intro b;conv=>whnf|((with_reducible refine' Ot.yd ?hydn ?_);(case hydn=>first|exact bT rfl rfl underlying9 (λm h=>by cases h)|exact bT rfl rfl underlying3 (λm h=>by cases h)))|((with_reducible refine' Ot.yd ?hydw ?_);(case hydw=>first|exact bN ai (m:=0) rfl rfl rfl rfl rfl rfl (by decide)|exact bN ai (m:=1) rfl rfl rfl rfl rfl rfl (by decide)))|fail
 refine aV mixed ai (γ:=Nat×Nat×af) (λg=>[(26,iD g.1)]) (λg=>g.2.2) (λg=>g.1<=x.kz.length/\g.2.1<=29+aX dk (x.kz.take g.1)/\lW b0 g.2.1 g.2.2) (λg=>x.kz.length-g.1) (0,_,s) (aj aw) (Sc.refl _) ⟨zW _,by simp only;omega,hB⟩ ?_;clear hB ht;rintro⟨j,n,s⟩ ⟨hj,hn,hB⟩;simp only at hj hn hB⊢;have q:=iI dk x.kz j;by_cases hlt:j<x.kz.length
 .obtain⟨k,V⟩:∃y,x.kz[j]?=some y:=⟨_,zD hlt⟩
  have hk':x.kz[((j:Nat):Int).toNat]?=some k:=V;have e:=zG V;have E:=Eu dk x.kz j k V;have z:=iI dk x.kz (j+1);have hkb:dk k=8+k.name.size+bu k.lo+bu k.hi+aX fM k.fields:=rfl;have hklo:=cA.of (g.ksane k e).1;have hkhi:=cA.of (g.ksane k e).2;have hkf:=(hx.kz k e).nfields;have X:∀f∈k.fields,dE f=true:=by have h1:=R.1.1.2 k e;simp only[ji,zJ,yA]at h1;exact h1.2
  repeat' first|refine aN ?_|intro b;conv=>whnf|((with_reducible refine' Ot.yd ?hydn ?_);(case hydn=>first|exact bT rfl rfl underlying9 (λm h=>by cases h)|exact bT rfl rfl underlying3 (λm h=>by cases h)))|((with_reducible refine' Ot.yd ?hydw ?_);(case hydw=>first|exact bN ai (m:=0) rfl rfl rfl rfl rfl rfl (by decide)|exact bN ai (m:=1) rfl rfl rfl rfl rfl rfl (by decide)))|fail
  (refine CE.some (x3 _ [.inr k.name,.inl k.lo,.inl k.hi] ?hqo1 ?hqo2 ?hqo3) ?_;(case hqo1=>repeat(first|exact bZ.nil|apply bZ.s|refine bZ.i (by assumption) ?_));(case hqo2=>simp);(case hqo3=>((simp only[dP,gD,List.map_cons,List.map_nil,List.sum_cons,List.sum_nil,jM,List.size_toArray,List.length_cons,List.length_nil]);omega));(rintro _ ⟨t,rfl,ht⟩);(simp only[dP,gD,List.map_cons,List.map_nil,List.sum_cons,List.sum_nil,jM,List.size_toArray,List.length_cons,List.length_nil]at ht))
  obtain⟨b5,rfl⟩:∃O,O=b:=⟨_,rfl⟩
  repeat' first|refine aN ?_|intro b;conv=>whnf|((with_reducible refine' Ot.yd ?hydn ?_);(case hydn=>first|exact bT rfl rfl underlying9 (λm h=>by cases h)|exact bT rfl rfl underlying3 (λm h=>by cases h)))|((with_reducible refine' Ot.yd ?hydw ?_);(case hydw=>first|exact bN ai (m:=0) rfl rfl rfl rfl rfl rfl (by decide)|exact bN ai (m:=1) rfl rfl rfl rfl rfl rfl (by decide)))|fail
  (refine ba (LR b0 _ s hB t (by omega)) (pc1 _ _) (λs'=>_::s') (λs'=>S0 _ _) ?_;rintro _ s1 ⟨rfl,hB1⟩)
  repeat' first|refine aN ?_|intro b;conv=>whnf|((with_reducible refine' Ot.yd ?hydn ?_);(case hydn=>first|exact bT rfl rfl underlying9 (λm h=>by cases h)|exact bT rfl rfl underlying3 (λm h=>by cases h)))|((with_reducible refine' Ot.yd ?hydw ?_);(case hydw=>first|exact bN ai (m:=0) rfl rfl rfl rfl rfl rfl (by decide)|exact bN ai (m:=1) rfl rfl rfl rfl rfl rfl (by decide)))|fail
  refine aV mixed ai (γ:=Nat×Nat×af) (λg=>[(45,iD g.1)]) (λg=>(b5,.cells 78 (bv k))::g.2.2) (λg=>g.1<=k.fields.length/\g.2.1<=29+aX dk (x.kz.take j)+(8+k.name.size+bu k.lo+bu k.hi+aX fM (k.fields.take g.1))/\lW b0 g.2.1 g.2.2) (λg=>k.fields.length-g.1) (0,_,s1) (aj aw) (Sc.refl _) ⟨zW _,by simp only;omega,hB1⟩ ?_;clear hB hB1 ht hn;rintro⟨i,n,s⟩ ⟨hi,hn,hB⟩;simp only at hi hn hB⊢;have K:=iI fM k.fields i;by_cases u:i<k.fields.length
  .obtain⟨f,Y⟩:∃y,k.fields[i]?=some y:=⟨_,zD u⟩
   have hf':k.fields[((i:Nat):Int).toNat]?=some f:=Y;have L:=zG Y;have D:=Eu fM k.fields i f Y;have J:=iI fM k.fields (i+1);have C:=(g.fsane k e f L).1
   repeat' first|refine aN ?_|intro b;conv=>whnf|((with_reducible refine' Ot.yd ?hydn ?_);(case hydn=>first|exact bT rfl rfl underlying9 (λm h=>by cases h)|exact bT rfl rfl underlying3 (λm h=>by cases h)))|((with_reducible refine' Ot.yd ?hydw ?_);(case hydw=>first|exact bN ai (m:=0) rfl rfl rfl rfl rfl rfl (by decide)|exact bN ai (m:=1) rfl rfl rfl rfl rfl rfl (by decide)))|fail
   refine CE.some (AJ f (.of C.lo) (.of C.hi) (X f L) (λn hn=>.of (C.ws n hn)) (by omega)) ?_;rintro _ ⟨t,rfl,ht⟩;exact cq8
  .obtain rfl:i=k.fields.length:=by omega
   exact X8
 .obtain rfl:j=x.kz.length:=by omega
  rw[yM]at hn;clear q hlt
  repeat' first|refine aN ?_|intro b;conv=>whnf|((with_reducible refine' Ot.yd ?hydn ?_);(case hydn=>first|exact bT rfl rfl underlying9 (λm h=>by cases h)|exact bT rfl rfl underlying3 (λm h=>by cases h)))|((with_reducible refine' Ot.yd ?hydw ?_);(case hydw=>first|exact bN ai (m:=0) rfl rfl rfl rfl rfl rfl (by decide)|exact bN ai (m:=1) rfl rfl rfl rfl rfl rfl (by decide)))|fail
  refine aV mixed ai (γ:=Nat×Nat×af) (λg=>[(57,iD g.1)]) (λg=>g.2.2) (λg=>g.1<=x.lz.length/\g.2.1<=29+aX dk x.kz+aX dJ (x.lz.take g.1)/\lW b0 g.2.1 g.2.2) (λg=>x.lz.length-g.1) (0,n,s) (aj aw) (Sc.refl _) ⟨zW _,by simp only;omega,hB⟩ ?_;clear hB hn;rintro⟨j,n,s⟩ ⟨hj,hn,hB⟩;simp only at hj hn hB⊢;have q:=iI dJ x.lz j;by_cases hlt:j<x.lz.length
  .obtain⟨l,hl⟩:∃y,x.lz[j]?=some y:=⟨_,zD hlt⟩
   have hl':x.lz[((j:Nat):Int).toNat]?=some l:=hl;have o:=zG hl;have E:=Eu dJ x.lz j l hl;have z:=iI dJ x.lz (j+1);have hlb:dJ l=7+l.name.size+bu l.tz.length+aX (λs=>1+s.size) l.tz+aX fw l.mz:=rfl;have hls:=(hx.lz l o).nstates;have hlv:=(hx.lz l o).nmoves;have u:=Ia l.name l.tz
   repeat' first|refine Ak ?_|intro b;conv=>whnf|((with_reducible refine' Ot.yd ?hydn ?_);(case hydn=>first|exact bT rfl rfl underlying9 (λm h=>by cases h)|exact bT rfl rfl underlying3 (λm h=>by cases h)))|((with_reducible refine' Ot.yd ?hydw ?_);(case hydw=>first|exact bN ai (m:=0) rfl rfl rfl rfl rfl rfl (by decide)|exact bN ai (m:=1) rfl rfl rfl rfl rfl rfl (by decide)))|fail
   refine Bx.r ?_;refine KN ai (out:=[.v (.iface 9 (.string l.name)),.v (.iface 3 (.int .i64 ((l.tz.map λx=>[sD x]).length:Nat)))]) rfl rfl rfl rfl rfl rfl rfl rfl rfl rfl (by decide) (λP=>?_)
   repeat' first|refine aN ?_|intro b;conv=>whnf|((with_reducible refine' Ot.yd ?hydn ?_);(case hydn=>first|exact bT rfl rfl underlying9 (λm h=>by cases h)|exact bT rfl rfl underlying3 (λm h=>by cases h)))|((with_reducible refine' Ot.yd ?hydw ?_);(case hydw=>first|exact bN ai (m:=0) rfl rfl rfl rfl rfl rfl (by decide)|exact bN ai (m:=1) rfl rfl rfl rfl rfl rfl (by decide)))|fail
   obtain⟨b9,rfl⟩:∃O,O=b:=⟨_,rfl⟩
   have F:ae 20 1 ((tp l.name l.tz 0).map Fc) (.slice (some ⟨P,0,none⟩) 2 2) [(P,.cells 20 [.v (.iface 9 (.string l.name)),.v (.iface 3 (.int .i64 ((l.tz.map λx=>[sD x]).length:Nat)))])]:=
    ⟨sE _,.inr ⟨P,2,[],by simp[tp],by simp[tp,Fc],by simp[tp],by decide,by simp[tp],λd hd=>by cases hd⟩⟩
   refine aV mixed ai (γ:=Nat×Value×af) (λg=>[(72,iD g.1),(10,.v g.2.1)]) (λg=>g.2.2++((b9,.cells 93 (dT l))::s)) (λg=>g.1<=l.tz.length/\ae 20 1 ((tp l.name l.tz g.1).map Fc) g.2.1 g.2.2) (λg=>l.tz.length-g.1) (0,_,[(P,.cells 20 [.v (.iface 9 (.string l.name)),.v (.iface 3 (.int .i64 ((l.tz.map λx=>[sD x]).length:Nat)))])]) (aj aw) (Sc.refl _) ⟨zW _,F⟩ ?_;clear F;rintro⟨i,v,Z⟩ ⟨hi,w⟩;simp only at hi w⊢;by_cases hii:i<l.tz.length
   .obtain⟨a,ha⟩:∃y,l.tz[i]?=some y:=⟨_,zD hii⟩
    have ha':l.tz[((i:Nat):Int).toNat]?=some a:=ha
    repeat' first|refine aN ?_|intro b;conv=>whnf|((with_reducible refine' Ot.yd ?hydn ?_);(case hydn=>first|exact bT rfl rfl underlying9 (λm h=>by cases h)|exact bT rfl rfl underlying3 (λm h=>by cases h)))|((with_reducible refine' Ot.yd ?hydw ?_);(case hydw=>first|exact bN ai (m:=0) rfl rfl rfl rfl rfl rfl (by decide)|exact bN ai (m:=1) rfl rfl rfl rfl rfl rfl (by decide)))|fail
    have hz:(tp l.name l.tz (i+1)).length<=1000100:=by unfold tp;rw[zI,zL,zR];show 2+_<=_;omega
    refine Ap.go rfl rfl rfl rfl w (by exact zH _) rfl (zs:=(tp l.name l.tz (i+1)).map Fc) (by unfold tp;rw[xC,ha,yB,yB (f:=Sum.inr),←zV,yB (l₂:=List.map _ _)];rfl) (by rw[zL];omega) (by rw[zL];omega) (λs'=>s'++_) (λs'=>zH _) (λa' c' s' G=>?_)
    repeat' first|refine aN ?_|intro b;conv=>whnf|((with_reducible refine' Ot.yd ?hydn ?_);(case hydn=>first|exact bT rfl rfl underlying9 (λm h=>by cases h)|exact bT rfl rfl underlying3 (λm h=>by cases h)))|((with_reducible refine' Ot.yd ?hydw ?_);(case hydw=>first|exact bN ai (m:=0) rfl rfl rfl rfl rfl rfl (by decide)|exact bN ai (m:=1) rfl rfl rfl rfl rfl rfl (by decide)))|fail
    exact⟨(i+1,_,s'),(aj aw),Sc.refl _,⟨by simp only;omega,G⟩,by simp only;omega⟩
   .obtain rfl:i=l.tz.length:=by omega
    repeat' first|refine aN ?_|intro b;conv=>whnf|((with_reducible refine' Ot.yd ?hydn ?_);(case hydn=>first|exact bT rfl rfl underlying9 (λm h=>by cases h)|exact bT rfl rfl underlying3 (λm h=>by cases h)))|((with_reducible refine' Ot.yd ?hydw ?_);(case hydw=>first|exact bN ai (m:=0) rfl rfl rfl rfl rfl rfl (by decide)|exact bN ai (m:=1) rfl rfl rfl rfl rfl rfl (by decide)))|fail
    refine CE.gsome (.cons (Vs.refl _ _) (.cons (Vs.row w (zH _)) (.nil _))) (x3 _ _ (λn hn=>?_) ?_ ?_) ?_
    .unfold tp at hn;simp only[List.cons_append,List.nil_append,zU,reduceCtorEq,Sum.inl.injEq,false_or,xM,and_false,exists_false,xE]at hn;subst hn;exact⟨by omega,by omega⟩
    .unfold tp;rw[zI,zL,zR];show 2+_<=_;omega
    .rw[u];(simp only[dP,gD,List.map_cons,List.map_nil,List.sum_cons,List.sum_nil,jM,List.size_toArray,List.length_cons,List.length_nil]);omega
    rintro _ ⟨t,rfl,ht⟩;rw[u]at ht;simp only[dP,gD,List.map_cons,List.map_nil,List.sum_cons,List.sum_nil,jM,List.size_toArray,List.length_cons,List.length_nil]at ht
    repeat' first|refine aN ?_|intro b;conv=>whnf|((with_reducible refine' Ot.yd ?hydn ?_);(case hydn=>first|exact bT rfl rfl underlying9 (λm h=>by cases h)|exact bT rfl rfl underlying3 (λm h=>by cases h)))|((with_reducible refine' Ot.yd ?hydw ?_);(case hydw=>first|exact bN ai (m:=0) rfl rfl rfl rfl rfl rfl (by decide)|exact bN ai (m:=1) rfl rfl rfl rfl rfl rfl (by decide)))|fail
    (refine ba (LR b0 _ s hB t (by omega)) (pc1 _ _) (λs'=>_::s') (λs'=>S0 _ _) ?_;rintro _ s1 ⟨rfl,hB1⟩)
    repeat' first|refine aN ?_|intro b;conv=>whnf|((with_reducible refine' Ot.yd ?hydn ?_);(case hydn=>first|exact bT rfl rfl underlying9 (λm h=>by cases h)|exact bT rfl rfl underlying3 (λm h=>by cases h)))|((with_reducible refine' Ot.yd ?hydw ?_);(case hydw=>first|exact bN ai (m:=0) rfl rfl rfl rfl rfl rfl (by decide)|exact bN ai (m:=1) rfl rfl rfl rfl rfl rfl (by decide)))|fail
    refine aV mixed ai (γ:=Nat×Nat×af) (λg=>[(88,iD g.1)]) (λg=>(b9,.cells 93 (dT l))::g.2.2) (λg=>g.1<=l.mz.length/\g.2.1<=29+aX dk x.kz+aX dJ (x.lz.take j)+(7+l.name.size+bu l.tz.length+aX (λs=>1+s.size) l.tz+aX fw (l.mz.take g.1))/\lW b0 g.2.1 g.2.2) (λg=>l.mz.length-g.1) (0,_,s1) (aj aw) (Sc.refl _) ⟨zW _,by simp only;omega,hB1⟩ ?_;clear hB hB1 ht hn w;rintro⟨i,n,s⟩ ⟨hi,hn,hB⟩;simp only at hi hn hB⊢;have K:=iI fw l.mz i;by_cases hii:i<l.mz.length
    .obtain⟨m,U⟩:∃y,l.mz[i]?=some y:=⟨_,zD hii⟩
     have hm':l.mz[((i:Nat):Int).toNat]?=some m:=U;have I:=zG U;have D:=Eu fw l.mz i m U;have J:=iI fw l.mz (i+1);have hmb:fw m=7+bu m.1+bu m.2:=rfl;have hm1:=cA.of (g.msane l o m I).1;have hm2:=cA.of (g.msane l o m I).2
     repeat' first|refine aN ?_|intro b;conv=>whnf|((with_reducible refine' Ot.yd ?hydn ?_);(case hydn=>first|exact bT rfl rfl underlying9 (λm h=>by cases h)|exact bT rfl rfl underlying3 (λm h=>by cases h)))|((with_reducible refine' Ot.yd ?hydw ?_);(case hydw=>first|exact bN ai (m:=0) rfl rfl rfl rfl rfl rfl (by decide)|exact bN ai (m:=1) rfl rfl rfl rfl rfl rfl (by decide)))|fail
     (refine CE.some (x3 _ [.inl m.1,.inl m.2] ?hqo1 ?hqo2 ?hqo3) ?_;(case hqo1=>repeat(first|exact bZ.nil|apply bZ.s|refine bZ.i (by assumption) ?_));(case hqo2=>simp);(case hqo3=>((simp only[dP,gD,List.map_cons,List.map_nil,List.sum_cons,List.sum_nil,jM,List.size_toArray,List.length_cons,List.length_nil]);omega));(rintro _ ⟨t,rfl,ht⟩);(simp only[dP,gD,List.map_cons,List.map_nil,List.sum_cons,List.sum_nil,jM,List.size_toArray,List.length_cons,List.length_nil]at ht))
     exact cq8
    .obtain rfl:i=l.mz.length:=by omega
     exact X8
  .obtain rfl:j=x.lz.length:=by omega
   rw[yM]at hn;clear q hlt
   repeat' first|refine aN ?_|intro b;conv=>whnf|((with_reducible refine' Ot.yd ?hydn ?_);(case hydn=>first|exact bT rfl rfl underlying9 (λm h=>by cases h)|exact bT rfl rfl underlying3 (λm h=>by cases h)))|((with_reducible refine' Ot.yd ?hydw ?_);(case hydw=>first|exact bN ai (m:=0) rfl rfl rfl rfl rfl rfl (by decide)|exact bN ai (m:=1) rfl rfl rfl rfl rfl rfl (by decide)))|fail
   refine aV mixed ai (γ:=Nat×Nat×af) (λg=>[(106,iD g.1)]) (λg=>g.2.2) (λg=>g.1<=x.rules.length/\g.2.1<=29+aX dk x.kz+aX dJ x.lz+aX fu (x.rules.take g.1)/\lW b0 g.2.1 g.2.2) (λg=>x.rules.length-g.1) (0,n,s) (aj aw) (Sc.refl _) ⟨zW _,by simp only;omega,hB⟩ ?_;clear hB hn;rintro⟨j,n,s⟩ ⟨hj,hn,hB⟩;simp only at hj hn hB⊢;have q:=iI fu x.rules j;by_cases hlt:j<x.rules.length
   .obtain⟨r,w⟩:∃y,x.rules[j]?=some y:=⟨_,zD hlt⟩
    have G:x.rules[((j:Nat):Int).toNat]?=some r:=w;have S:=zG w;have E:=Eu fu x.rules j r w;have z:=iI fu x.rules (j+1);have hrb:fu r=12+r.name.size+r.kind.size+r.a.size+r.b.size+bu r.n:=rfl;have hrn:=cA.of (g.rsane r S)
    repeat' first|refine cG ?_|intro b;conv=>whnf|((with_reducible refine' Ot.yd ?hydn ?_);(case hydn=>first|exact bT rfl rfl underlying9 (λm h=>by cases h)|exact bT rfl rfl underlying3 (λm h=>by cases h)))|((with_reducible refine' Ot.yd ?hydw ?_);(case hydw=>first|exact bN ai (m:=0) rfl rfl rfl rfl rfl rfl (by decide)|exact bN ai (m:=1) rfl rfl rfl rfl rfl rfl (by decide)))|fail
    (refine Dr.r ?_;refine W.mk ?_)
    refine xz (i:=16) (d':=.ro (dG r)) (τ:=s) rfl (λh=>by cases h) (Vs.ptr (zH _)) ?_;refine lu mixed ai rfl [0,1,2,3,4,5,6,7,10,11,14,15,16] 7 (jE [8,12,18,19]) (.one 8 (.fst 9 (.one 12 (.fst 13 (.fst 17 (.one 18 (.one 19 .done))))))) (γ:=Nat×af) (λ_=>[]) (λg=>g.2) (λg=>g.1<=n+fu r/\lW b0 g.1 g.2) (by decide +kernel) ?_ ?_
    .repeat' first|refine cG ?_|intro b;conv=>whnf|((with_reducible refine' Ot.yd ?hydn ?_);(case hydn=>first|exact bT rfl rfl underlying9 (λm h=>by cases h)|exact bT rfl rfl underlying3 (λm h=>by cases h)))|(refine And.intro ?_ ?_<;>(conv=>whnf))|(refine CE.some (aC8 r.a) ?_;(rintro _ ⟨a2,rfl,ha2⟩))|(refine CE.some (aC8 r.b) ?_;(rintro _ ⟨b2,rfl,hb2⟩))|(refine CE.some (x3 _ [.inr r.name,.inr r.kind,.inr a2,.inr b2,.inl r.n] ?hqo1 ?hqo2 ?hqo3) ?_;(case hqo1=>repeat(first|exact bZ.nil|apply bZ.s|refine bZ.i (by assumption) ?_));(case hqo2=>simp);(case hqo3=>((simp only[dP,gD,List.map_cons,List.map_nil,List.sum_cons,List.sum_nil,jM,List.size_toArray,List.length_cons,List.length_nil]);omega));(rintro _ ⟨t,rfl,ht⟩);(simp only[dP,gD,List.map_cons,List.map_nil,List.sum_cons,List.sum_nil,jM,List.size_toArray,List.length_cons,List.length_nil]at ht))|fail
     refine ba (LR b0 _ s hB t (by omega)) (bR _) (λs'=>s') cZ ?_;rintro _ s1 ⟨rfl,hB1⟩
     repeat' first|refine cG ?_|intro b;conv=>whnf|((with_reducible refine' Ot.yd ?hydn ?_);(case hydn=>first|exact bT rfl rfl underlying9 (λm h=>by cases h)|exact bT rfl rfl underlying3 (λm h=>by cases h)))|((with_reducible refine' Ot.yd ?hydw ?_);(case hydw=>first|exact bN ai (m:=0) rfl rfl rfl rfl rfl rfl (by decide)|exact bN ai (m:=1) rfl rfl rfl rfl rfl rfl (by decide)))|fail
     exact⟨(_,s1),(aj aP),Sc.refl _,by simp only;omega,hB1⟩
    .rintro⟨n2,Z⟩ ⟨T,M⟩;simp only at T M⊢
     repeat' first|refine cG ?_|intro b;conv=>whnf|((with_reducible refine' Ot.yd ?hydn ?_);(case hydn=>first|exact bT rfl rfl underlying9 (λm h=>by cases h)|exact bT rfl rfl underlying3 (λm h=>by cases h)))|((with_reducible refine' Ot.yd ?hydw ?_);(case hydw=>first|exact bN ai (m:=0) rfl rfl rfl rfl rfl rfl (by decide)|exact bN ai (m:=1) rfl rfl rfl rfl rfl rfl (by decide)))|fail
     exact⟨(j+1,n2,Z),(aj aw),Sc.refl _,⟨by simp only;omega,by simp only;omega,M⟩,by simp only;omega⟩
   .obtain rfl:j=x.rules.length:=by omega
    rw[yM]at hn
    repeat' first|refine cG ?_|intro b;conv=>whnf|((with_reducible refine' Ot.yd ?hydn ?_);(case hydn=>first|exact bT rfl rfl underlying9 (λm h=>by cases h)|exact bT rfl rfl underlying3 (λm h=>by cases h)))|((with_reducible refine' Ot.yd ?hydw ?_);(case hydw=>first|exact bN ai (m:=0) rfl rfl rfl rfl rfl rfl (by decide)|exact bN ai (m:=1) rfl rfl rfl rfl rfl rfl (by decide)))|fail
    refine ba (bh6 b0 n s hB) (bR _) (λs'=>s') cZ ?_;rintro _ _ ⟨t,rfl,ht,rfl⟩
    repeat' first|refine cG ?_|intro b;conv=>whnf|((with_reducible refine' Ot.yd ?hydn ?_);(case hydn=>first|exact bT rfl rfl underlying9 (λm h=>by cases h)|exact bT rfl rfl underlying3 (λm h=>by cases h)))|((with_reducible refine' Ot.yd ?hydw ?_);(case hydw=>first|exact bN ai (m:=0) rfl rfl rfl rfl rfl rfl (by decide)|exact bN ai (m:=1) rfl rfl rfl rfl rfl rfl (by decide)))|fail
    exact Rt.same ⟨t,rfl,by omega⟩
end
section
open Go
theorem aA2{α:Type}(l:List α)(p:α->Bool):(l.any λc=>!p c)=!(l.all p):=K1
theorem Ou{f:FuncId}{cs:List D}(l:List ByteArray)(p:ByteArray->Bool)(hl:l.length<=1000000)(hp:∀y∈l,APure prog f [sD y,.ro cs] (bD (p y))):APure prog 269 [gA l,.clo f [.ro cs]] (iD (idx p l)):=by
 refine ao func269 ntmps269 λa=>?_;exact nP
theorem Il{f:FuncId}{cs:List D}(l:List (Int×Int))(p:Int×Int->Bool)(hl:l.length<=1000000)(hp:∀y∈l,APure prog f [.agg (dt y),.ro cs] (bD (p y))):APure prog 225 [.sl 2 (l.map dt),.clo f [.ro cs]] (iD (idx p l)):=Yr
theorem R0{A B:Prop}(k:B)(h:ar B->A:=by intro q7;(first|refine bA ?_|refine aA ?_|(refine' ah ?hc ?_;(case hc=>exact Ou l p hl hp)));exact q7.1):A:=h ⟨k⟩
theorem Ju{f:FuncId}{cs:List D}(l:List ByteArray)(p:ByteArray->Bool)(hl:l.length<=1000000)(hp:∀y∈l,APure prog f [sD y,.ro cs] (bD (p y))):APure prog 255 [gA l,.clo f [.ro cs]] (bD (l.any p)):=by
 refine ao func255 ntmps255 λa=>?_
 repeat refine R0 ?_
 refine Rt.pure (zM bD ?_);exact qM p l
theorem RZ{A B:Prop}(k:B)(h:ar B->A:=by intro q7;(first|refine bA ?_|refine aA ?_|(refine' ah ?hc ?_;(case hc=>exact Il l p hl hp)));exact q7.1):A:=h ⟨k⟩
theorem En{f:FuncId}{cs:List D}(l:List (Int×Int))(p:Int×Int->Bool)(hl:l.length<=1000000)(hp:∀y∈l,APure prog f [.agg (dt y),.ro cs] (bD (p y))):APure prog 169 [.sl 2 (l.map dt),.clo f [.ro cs]] (bD (l.any p)):=by
 refine ao func169 ntmps169 λa=>?_
 repeat refine RZ ?_
 refine Rt.pure (zM bD ?_);exact qM p l
theorem RX{A B:Prop}(k:B)(h:ar B->A:=by intro q7;(first|refine bA ?_|refine aA ?_|(refine' ah ?hc ?_;(case hc=>exact CG l p hl hp)));exact q7.1):A:=h ⟨k⟩
theorem JA{f:FuncId}{cs:List D}(l:List am)(p:am->Bool)(hl:l.length<=1000000)(hp:∀y∈l,APure prog f [bM y,.ro cs] (bD (p y))):APure prog 250 [xn l,.clo f [.ro cs]] (bD (l.any p)):=by
 refine ao func250 ntmps250 λa=>?_
 repeat refine RX ?_
 refine Rt.pure (zM bD ?_);exact qM p l
theorem js{A B:Prop}(k:B)(h:ar B->A:=by intro q7;(first|refine bA ?_|refine aA ?_|(refine' ah ?hc ?_;(case hc=>exact hp)));exact q7.1):A:=h ⟨k⟩
theorem JE{f:FuncId}(y:ByteArray)(b:Bool)(hp:APure prog f [sD y] (bD b)):APure prog 256 [sD y,.ro [xr f]] (bD (!b)):=by
 refine ao func256 ntmps256 λa=>?_
 repeat refine js ?_
 exact Rt.pure rfl
theorem JG{f:FuncId}{cs:List D}(y:Int×Int)(b:Bool)(hp:APure prog f [.agg (dt y),.ro cs] (bD b)):APure prog 257 [.agg (dt y),.ro [.clo f [.ro cs]]] (bD (!b)):=by
 refine ao func257 ntmps257 λa=>?_
 repeat refine js ?_
 exact Rt.pure rfl
theorem JJ{f:FuncId}(y:am)(b:Bool)(hp:APure prog f [bM y] (bD b)):APure prog 251 [bM y,.ro [xr f]] (bD (!b)):=by
 refine ao func251 ntmps251 λa=>?_
 repeat refine js ?_
 exact Rt.pure rfl
theorem JI{f:FuncId}(y:au)(b:Bool)(hp:APure prog f [fz y] (bD b)):APure prog 209 [fz y,.ro [xr f]] (bD (!b)):=by
 refine ao func209 ntmps209 λa=>?_
 repeat refine js ?_
 exact Rt.pure rfl
theorem JH{f:FuncId}(y:bW)(b:Bool)(hp:APure prog f [dj y] (bD b)):APure prog 214 [dj y,.ro [xr f]] (bD (!b)):=by
 refine ao func214 ntmps214 λa=>?_
 repeat refine js ?_
 exact Rt.pure rfl
theorem JF{f:FuncId}(y:cF)(b:Bool)(hp:APure prog f [eH y] (bD b)):APure prog 218 [eH y,.ro [xr f]] (bD (!b)):=by
 refine ao func218 ntmps218 λa=>?_
 repeat refine js ?_
 exact Rt.pure rfl
theorem jJ{p:Prop}(h:p:=by
 rw[aA2]at HA
 repeat refine As ?_
 refine Rt.pure (zM bD ?_);simp):p:=h
theorem Et{f:FuncId}(l:List ByteArray)(p:ByteArray->Bool)(hl:l.length<=1000000)(a:∀y∈l,APure prog f [sD y] (bD (p y))):APure prog 215 [gA l,xr f] (bD (l.all p)):=by
 refine ao func215 ntmps215 λb=>?_;have h:=λy hy=>JE (f:=f) y (p y) (a y hy);have HA:=Ju l (λy=>!p y) hl h;exact jJ
theorem PB{f:FuncId}{cs:List D}(l:List (Int×Int))(p:Int×Int->Bool)(hl:l.length<=1000000)(a:∀y∈l,APure prog f [.agg (dt y),.ro cs] (bD (p y))):APure prog 216 [.sl 2 (l.map dt),.clo f [.ro cs]] (bD (l.all p)):=by
 refine ao func216 ntmps216 λb=>?_;have h:=λy hy=>JG (f:=f) y (p y) (a y hy);have HA:=En l (λy=>!p y) hl h;exact jJ
theorem PE{f:FuncId}(l:List am)(p:am->Bool)(hl:l.length<=1000000)(a:∀y∈l,APure prog f [bM y] (bD (p y))):APure prog 212 [xn l,xr f] (bD (l.all p)):=by
 refine ao func212 ntmps212 λb=>?_;have h:=λy hy=>JJ (f:=f) y (p y) (a y hy);have HA:=JA l (λy=>!p y) hl h;exact jJ
theorem PD{f:FuncId}(l:List au)(p:au->Bool)(hl:l.length<=1000000)(a:∀y∈l,APure prog f [fz y] (bD (p y))):APure prog 159 [Nb l,xr f] (bD (l.all p)):=by
 refine ao func159 ntmps159 λb=>?_;have h:=λy hy=>JI (f:=f) y (p y) (a y hy);have HA:=Jw l (λy=>!p y) hl h;exact jJ
theorem PC{f:FuncId}(l:List bW)(p:bW->Bool)(hl:l.length<=1000000)(a:∀y∈l,APure prog f [dj y] (bD (p y))):APure prog 161 [EX l,xr f] (bD (l.all p)):=by
 refine ao func161 ntmps161 λb=>?_;have h:=λy hy=>JH (f:=f) y (p y) (a y hy);have HA:=bb7 l (λy=>!p y) hl h;exact jJ
theorem PA{f:FuncId}(l:List cF)(p:cF->Bool)(hl:l.length<=1000000)(a:∀y∈l,APure prog f [eH y] (bD (p y))):APure prog 163 [M' l,xr f] (bD (l.all p)):=by
 refine ao func163 ntmps163 λb=>?_;have h:=λy hy=>JF (f:=f) y (p y) (a y hy);have HA:=tf l (λy=>!p y) hl h;exact jJ
end
end Go.Proofs.YtilnpcolgcmofaaGreatDoor
