/- A part of the proof: Bc Be Mc. -/
import Derived.Test.YtilnpcolgcmofaaGreatDoorA25
set_option maxRecDepth 100000
set_option maxHeartbeats 20000000
set_option linter.all false
namespace Go.Proofs.YtilnpcolgcmofaaGreatDoor
open Tryz
section
open Go Go.RowKit Go.Shelf Go.Sort
section
variable {P:Program} {ρ:Operand->D} {σ:af}
theorem jB{o:Oper}{x:Operand}{a b t:TypeId}{u r:Value}(d:o.op= .typeAssert x a b true)(hx:ρ x= .v (.iface t u))(h:∀w:World,(Instr.typeAssert (.iface t u) a b true).run P w= .ok r w):Yd P o ρ σ (.v r):=by
 intro w X η c e;obtain⟨dst,p,y,pos,i,g⟩:=o;simp only at d;subst d;have f:=(c x (by simp[Op.operands])).val hx;have:=h w;rw[←f]at this;exact dE this (Ex.refl w) (.v _)
theorem bU{o:Oper}{t:TypeId}{x:Operand}{v:Value}{u:TypeDesc}(a:o.op= .makeInterface t x)(hx:ρ x= .v v)(b:P.underlying t=some u)(n:∀m,u ≠ .interface m):Yd P o ρ σ (.v (.iface t v)):=by
 intro w X η h c;obtain⟨dst,p,y,pos,e,g⟩:=o;simp only at a;subst a;have d:=(h x (by simp[Op.operands])).val hx;refine dE (s:=Instr.makeInterface t (η x)) (u:=.iface t v) ?_ (Ex.refl w) (.v _);unfold Instr.makeInterface;rw[Sem.run_bind,run_underlying b,d];simp only[Result.andThen];exact Sem.run_pure ..
end
theorem wg(n:Int)(a:-9223372036854775808<=n)(h:n<=9223372036854775807):(Lib.itoa n).length<=bw n:=by
 unfold bw;split
 .by_cases hneg:n<0
  .obtain⟨u,rfl⟩:∃u:Nat,n= -(u:Int):=⟨n.natAbs,by omega⟩
   rw[Lib.itoa_neg u (by omega),List.length_cons,Lib.decDigits_length];have:=aP3 u (by omega);omega
  .obtain⟨u,rfl⟩:∃u:Nat,n=u:=⟨n.toNat,by omega⟩
   rw[Lib.itoa_nonneg,Lib.decDigits_length];have:=aP3 u (by omega);omega
 .exact Lib.itoa_length_le n a h
theorem Hf(n:Int)(h:cB n):cd prog 260 [iD n] (λd=>∃s:ByteArray,d=sD s/\s.size<=bw n):=by
 refine⟨enters_of func260 (by kernel_rfl) rfl,λw O vs a g=>?_⟩;obtain⟨u,l,rfl,i,f⟩:=Qi a;rw[ZT f,i.val rfl];refine(strconv_Itoa n h.lo h.hi w g.pow).mono ?_;rintro e j ⟨rfl,k,o,rfl⟩;exact⟨_,_,rfl,⟨_,rfl,by have:=wg n h.lo h.hi;simpa [ByteArray.size]using this⟩,.v _,⟨rfl,rfl,rfl,by simp[grow,Array.size_append],λb c _=>by
  show(w.heap++o)[b]?=_;rw[vV c]⟩⟩
def FC:Int⊕ByteArray->List D
 |.inl n=>[.v (.iface 3 (.int .i64 n))]
 |.inr s=>[.v (.iface 9 (.string s))]
def gM:Int⊕ByteArray->Nat
 |.inl n=>1+bw n
 |.inr s=>1+s.size
def dR(l:List (Int⊕ByteArray)):Nat:=(l.map gM).sum
theorem nJ(l:List (Int⊕ByteArray))(j:Nat)(x:Int⊕ByteArray)(h:l[j]?=some x):dR (l.take (j+1))=dR (l.take j)+gM x:=by
 simp[dR,xC,h,vO]
theorem bh0(l:List (Int⊕ByteArray)):∀j,dR (l.take j)<=dR l:=by
 induction l with
 |nil=>intro j;simp[dR]
 |cons x l i=>
  intro j
  cases j with
  |zero=>simp[dR]
  |succ j=>have:=i j;simp only[dR,List.take_succ_cons,List.map_cons,List.sum_cons]at *;omega
theorem aH8(l m:List (Int⊕ByteArray)):dR (l++m)=dR l+dR m:=by simp[dR]
theorem CE.gsome{P:Program}{g:FuncId}{args b:List D}{σ τ:af}{K:D->af->Prop}{R:D->Prop}(v:fc σ args τ b)(h:cd P g b R)(k:∀e,R e->W (K e τ)):CE P g args σ K:=
 ⟨σ,[],λa i=>R a/\i=τ,by simp,⟨h.ent,λw X vs s m=>by
  obtain⟨l,o⟩:=v.run w X vs m s;exact(h.run w (ay τ X) _ o l.gok).mono λe p⟨u,d,f,c,n,j⟩=>⟨u,d,_,f,⟨c,rfl⟩,n,l.ex j,(jJ j).wider v.sub⟩⟩,
  λa i⟨f,c⟩=>by subst c;exact⟨_,by simp,(k a f).h⟩⟩
def b8(l:List (Int⊕ByteArray)):Prop:=∀n,Sum.inl n∈l->cB n
theorem KO(q:Int)(w:World):(Instr.typeAssert (.iface 3 (.int .i64 q)) 20 3 true).run prog w= .ok (.tuple #[.int .i64 q,.bool true]) w:=by kernel_rfl
theorem KN(q:ByteArray)(w:World):(Instr.typeAssert (.iface 9 (.string q)) 20 3 true).run prog w= .ok (.tuple #[.int .i64 0,.bool false]) w:=by kernel_rfl
theorem KM(q:ByteArray)(w:World):(Instr.typeAssert (.iface 9 (.string q)) 20 9 true).run prog w= .ok (.tuple #[.string q,.bool true]) w:=by kernel_rfl
theorem Mu(b n:Nat)(σ:af)(h:me b n σ)(s:ByteArray)(f:n+s.size<=1000000000):az prog 219 [.v (pB b),sD s] σ (λd σ'=>d= .any/\me b (n+s.size) σ'):=by
 have e:=aS5 s;have l:=j8 ((bytes s).map UInt8.toNat);rw[e]at l;have:=PG b n σ h ((bytes s).map UInt8.toNat) (λd a=>by obtain⟨c,_,rfl⟩:=xM.1 a;exact c.toNat_lt) (by omega);rw[←l]at this;rw[show cX ((bytes s).map UInt8.toNat)=sD s by rw[show cX ((bytes s).map UInt8.toNat)= .v (.string (bB ((bytes s).map UInt8.toNat))) from rfl,e]]at this;exact this
theorem X6{p:Prop}(h:p:=by
 rintro _ s2 ⟨rfl,hB2⟩
 repeat' first|refine aO ?_|intro b;conv=>whnf
 exact⟨(j+1,_,s2),(aj av),Sc.refl _,⟨by simp only;omega,by simp only;omega,hB2⟩,by simp only;omega⟩):p:=h
theorem yz(w:ByteArray)(i:List (Int⊕ByteArray))(hi:b8 i)(hl:i.length<=2000000)(y:w.size+dR i<=100000000) :
  cd prog 220 [sD w,.sl 1 (i.map FC)] (λd=>∃s:ByteArray,d=sD s/\s.size<=w.size+dR i+1):=by
 refine cd.of_call ?_;refine cP func220 ntmps220 λz=>?_
 repeat' first|refine aO ?_|intro b;conv=>whnf
 refine bc (Mu b 0 _ (me.new b) w (by omega)) (bS _) (λa=>a) da ?_;rintro _ s ⟨rfl,f⟩
 repeat' first|refine aO ?_|intro b;conv=>whnf
 refine aR mixed ai (γ:=Nat×Nat×af) (λg=>[(14,iD g.1)]) (λg=>g.2.2) (λg=>g.1<=i.length/\g.2.1<=w.size+dR (i.take g.1)/\me b g.2.1 g.2.2) (λg=>i.length-g.1) (0,_,s) (aj av) (Sc.refl _) ⟨zW _,by simp,f⟩ ?_;clear f;rintro⟨j,n,s⟩ ⟨hj,l,f⟩;simp only at hj l f⊢;have v:=bh0 i j;by_cases hlt:j<i.length
 .obtain⟨x,hx⟩:∃x,i[j]?=some x:=⟨_,zD hlt⟩
  have r:i[((j:Nat):Int).toNat]?=some x:=hx;have hs:=nJ i j x hx;have o:=bh0 i (j+1)
  cases x with
  |inl q=>
   have u:=hi q (zG hx);simp only[gM]at hs
   repeat' first|refine aO ?_|intro b;conv=>whnf
   (refine bc (tB b n s f 32 (by decide) (by omega)) (bS _) (λa=>a) da ?_;(rintro _ k ⟨rfl,e⟩))
   repeat' first|refine aO ?_|intro b;conv=>whnf|((with_reducible refine' Ot.yd ?hydt ?_);(case hydt=>first|exact jB rfl rfl (KO _)|exact jB rfl rfl (KN _)|exact jB rfl rfl (KM _)))
   refine CE.some (Hf q u) ?_;rintro _ ⟨t,rfl,ht⟩
   repeat' first|refine aO ?_|intro b;conv=>whnf
   refine bc (Mu b (n+1) k e t (by omega)) (bS _) (λa=>a) da ?_;exact X6
  |inr q=>
   simp only[gM]at hs
   repeat' first|refine aO ?_|intro b;conv=>whnf
   (refine bc (tB b n s f 32 (by decide) (by omega)) (bS _) (λa=>a) da ?_;(rintro _ k ⟨rfl,e⟩))
   repeat' first|refine aO ?_|intro b;conv=>whnf|((with_reducible refine' Ot.yd ?hydt ?_);(case hydt=>first|exact jB rfl rfl (KO _)|exact jB rfl rfl (KN _)|exact jB rfl rfl (KM _)))
   refine bc (Mu b (n+1) k e q (by omega)) (bS _) (λa=>a) da ?_;exact X6
 .obtain rfl:j=i.length:=by omega
  rw[yM]at l
  repeat' first|refine aO ?_|intro b;conv=>whnf
  refine bc (bi2 b n s f) (bS _) (λa=>a) da ?_;rintro _ _ ⟨t,rfl,ht,rfl⟩
  repeat' first|refine aO ?_|intro b;conv=>whnf
  refine Sd.go (show t.size+1<=_ by omega) ?_
  repeat' first|refine aO ?_|intro b;conv=>whnf
  exact Rt.same ⟨_,rfl,by rw[yU,ht];show n+1<=_;omega⟩
theorem Po(s t:ByteArray):cd prog 261 [gI [s,t]] (λd=>∃r,d=sD r/\r.size<=s.size+t.size):=by
 refine cd.of_call ?_;refine cP func261 ntmps261 λb=>?_
 repeat refine aO ?_
 refine aR mixed ai (γ:=Nat) (λj=>[(8,iD j)]) (λ_=>[]) (λj=>j<=2) (λj=>2-j) 0 (aj av) (Sc.refl _) (zW _) ?_;rintro j hj;by_cases h2:j<2
 .obtain⟨x,hx,a⟩:∃x,[s,t][((j:Nat):Int).toNat]?=some x/\x.size<=s.size+t.size:=by
   rcases(by omega:j=0\/j=1)with rfl|rfl
   .exact⟨s,rfl,by omega⟩
   .exact⟨t,rfl,by omega⟩
  repeat' first|refine aO ?_|(refine aV ?_;constructor<;>intro hc)
  .exact⟨j+1,(aj av),Sc.refl _,by omega,by omega⟩
  .exact Rt.same ⟨x,rfl,a⟩
 .obtain rfl:j=2:=by omega
  repeat refine aO ?_
  exact Rt.same ⟨⟨#[]⟩,rfl,zW _⟩
theorem aD1(s:ByteArray):cd prog 222 [sD s] (λd=>∃t:ByteArray,d=sD t/\t.size<=s.size+1):=by
 refine cd.of_call ?_;refine cP func222 ntmps222 λa=>?_
 repeat refine aO ?_
 refine CE.some (Po s ⟨#[45]⟩) ?_;rintro _ ⟨t,rfl,ht⟩
 repeat refine aO ?_
 exact Rt.same ⟨t,rfl,ht⟩
def lJ:List ByteArray->List Int->List (Int⊕ByteArray)
 |s::ws,n::g=>.inr s::.inl n::lJ ws g
 |_,_=>[]
theorem aJ2:∀(ws:List ByteArray)(g:List Int)(j:Nat)(s:ByteArray)(n:Int),ws[j]?=some s->g[j]?=some n->lJ (ws.take (j+1)) (g.take (j+1))=lJ (ws.take j) (g.take j)++[.inr s,.inl n]
 |[],_,_,_,_,h,_=>by simp at h
 |_::_,[],_,_,_,_,h=>by simp at h
 |s::ws,n::g,0,b,c,h,a=>by simp at h a;subst h a;simp[lJ]
 |s::ws,n::g,j+1,b,c,h,a=>by
  have:=aJ2 ws g j b c (by simpa using h) (by simpa using a);simp only[List.take_succ_cons,lJ,this,List.cons_append]
theorem av2:∀(ws:List ByteArray)(g:List Int),ws.length=g.length->(lJ ws g).length=2*ws.length
 |[],[],_=>rfl
 |_::ws,_::g,h=>by have:=av2 ws g (by simpa using h);simp only[lJ,List.length_cons,this];omega
theorem bf9:∀(ws:List ByteArray)(g:List Int),ws.length=g.length->dR (lJ ws g)=(ws.map λs=>1+s.size).sum+(g.map λn=>1+bw n).sum
 |[],[],_=>rfl
 |_::ws,_::g,h=>by
  have:=bf9 ws g (by simpa using h);simp only[dR,lJ,List.map_cons,List.sum_cons,gM]at this⊢;omega
theorem aT9:∀(ws:List ByteArray)(s:List Int),(∀n∈s,cB n)->b8 (lJ ws s)
 |[],_,_,_,h=>by simp[lJ]at h
 |_::_,[],_,_,h=>by simp[lJ]at h
 |_::ws,g::s,a,n,h=>by
  simp only[lJ,zU,reduceCtorEq,Sum.inl.injEq,false_or]at h;rcases h with rfl|h
  .exact a _ (by simp)
  .exact aT9 ws s (λm b=>a m (by simp[b])) n h
section
variable {ρ:Operand->D} {σ:af}
theorem Ki{o:Oper}{x:Operand}{m:Nat}{s:ByteArray}(b:o.op= .load 9 x)(hx:ρ x= .v (.pointer (some ⟨1,m,none⟩)))(h:∀w,lP w->w.cell? ⟨1,m,none⟩=some (.string s)):Yd prog o ρ σ (sD s):=by
 intro w X η a t;obtain⟨dst,e,y,pos,d,g⟩:=o;simp only at b;subst b;have p:=(a x (by simp[Op.operands])).val hx;obtain⟨c,f⟩:=MQ (ai 9 _ rfl) w;refine dE (s:=Instr.loadAt 9 (η x)) (u:=.string s) ?_ (Ex.refl w) (.v _);rw[p];exact QZ c (h w t.gok.words)
end
theorem nI{f:am}(h:fP f=true):0<=f.kind/\f.kind<=8:=by
 unfold fP at h
 repeat' split at h
 all_goals first|omega|simp at h
theorem B9{ws:List ByteArray}{gs:List Int}(h:oB ws gs=true):ws.length=gs.length/\ws.length<=12:=by
 simp only[oB,zJ,cA,zQ]at h;omega
theorem b8.nil:b8 []:=λn h=>by cases h
theorem b8.s{x:ByteArray}{l:List (Int⊕ByteArray)}(h:b8 l):b8 (.inr x::l):=λn a=>(zU.1 a).elim (λe=>by cases e) (h n)
theorem b8.i{x:Int}{l:List (Int⊕ByteArray)}(hx:cB x)(h:b8 l):b8 (.inl x::l):=λn a=>(zU.1 a).elim (λe=>by cases e;exact hx) (h n)
theorem b8.app{l m:List (Int⊕ByteArray)}(h:b8 l)(k:b8 m):b8 (l++m):=λn a=>(zO.1 a).elim (h n) (k n)
def yr(n:ByteArray)(ws:List ByteArray)(gs:List Int)(j:Nat):List (Int⊕ByteArray):=[.inr n,.inl (ws.length:Int)]++lJ (ws.take j) (gs.take j)
theorem sU(l:List (Int⊕ByteArray)):∀y∈l.map FC,y.length=1:=λy h=>by obtain⟨x,_,rfl⟩:=xM.1 h;cases x<;>rfl
theorem jW(a:Array UInt8):(ByteArray.mk a).size=a.size:=rfl
theorem cJ{A B:Prop}(k:B)(h:ar B->A:=by intro q7;(first|refine bO ?_|refine gX ?_|(refine' ah ?hc ?_;(case hc=>fail)));exact q7.1):A:=h ⟨k⟩
theorem wx{p:Prop}(h:p:=by repeat(first|exact b8.nil|apply b8.s|exact b8.i hlo (b8.i hhi b8.nil)|exact b8.i hlo b8.nil)):p:=h
theorem ww{p:Prop}(h:p:=by unfold fS at hb;(simp only[dR,gM,List.map_cons,List.map_nil,List.sum_cons,List.sum_nil,jW,List.size_toArray,List.length_cons,List.length_nil]at hb⊢);omega):p:=h
theorem Ph{p:Prop}(h:p:=by
 repeat' first|refine cJ ?_|((with_reducible refine' Ot.yd ?hydn ?_);(case hydn=>first|exact bU rfl rfl underlying9 (λm h=>by cases h)|exact bU rfl rfl underlying3 (λm h=>by cases h)))|(refine And.intro ?_ ?_<;>(conv=>whnf))|(refine CE.some (aD1 o) ?_;(rintro _ ⟨o2,rfl,ho2⟩))|(refine CE.some (yz _ [.inr n,.inr o2,.inl lo,.inl hi] wx (by simp) ww) ?_;(rintro _ ⟨t,rfl,ht⟩))
 exact⟨t,(aj aQ),Sc.refl _,by unfold fS;(simp only[dR,gM,List.map_cons,List.map_nil,List.sum_cons,List.sum_nil,jW,List.size_toArray,List.length_cons,List.length_nil]at ht ho2⊢);omega⟩):p:=h
theorem A7(f:am)(hlo:cB f.lo)(hhi:cB f.hi)(G:dF f=true)(K:∀n∈f.wz,cB n)(hb:fS f<=10000000):cd prog 221 [.agg (aH f)] (λd=>∃s:ByteArray,d=sD s/\s.size<=fS f):=by
 refine cd.of_call ?_;have J:fP f=true:=by simp only[dF,zJ]at G;exact G.2
 have r:=nI J;obtain⟨n,o,u,k,lo,hi,ws,b⟩:=f;simp only at hlo hhi K r;have h:k=3\/k=0\/k=1\/k=2\/k=4\/k=5\/k=6\/k=7\/k=8:=by omega
 rcases h with rfl|rfl|rfl|rfl|rfl|rfl|rfl|rfl|rfl
 .obtain⟨hl,Q⟩:=B9 (ws:=ws) (gs:=b) (by simpa [fP]using J);have z:=bf9 ws b hl;refine cP func221 ntmps221 λe=>?_
  repeat refine AK ?_
  refine Bx.l ?_
  repeat' first|refine AK ?_|((with_reducible refine' Ot.yd ?hydn ?_);(case hydn=>first|exact bU rfl rfl underlying9 (λm h=>by cases h)|exact bU rfl rfl underlying3 (λm h=>by cases h)))|((with_reducible refine' Ot.yd ?hydw ?_);(case hydw=>exact bQ ai (m:=3) rfl rfl rfl rfl rfl rfl (by decide)))|((with_reducible refine' Ld.yd ?hydw ?_);(case hydw=>exact Ki (m:=3) rfl rfl (λw h=>h 3 _ rfl)))
  refine Bx.r ?_;refine La ai (out:=[.v (.iface 9 (.string n)),.v (.iface 3 (.int .i64 ((ws.map λx=>[sD x]).length:Nat)))]) rfl rfl rfl rfl rfl rfl rfl rfl rfl rfl (by decide) (λC=>?_)
  repeat refine aO ?_
  have l:ae 20 1 ((yr n ws b 0).map FC) (.slice (some ⟨C,0,none⟩) 2 2) [(C,.cells 20 [.v (.iface 9 (.string n)),.v (.iface 3 (.int .i64 ((ws.map λx=>[sD x]).length:Nat)))])]:=
   ⟨sU _,.inr ⟨C,2,[],by simp[yr,lJ],by simp[yr,lJ,FC],by simp[yr,lJ],by decide,by simp[yr,lJ],λd O=>by cases O⟩⟩
  refine aR mixed ai (γ:=Nat×Value×af) (λg=>[(51,iD g.1),(4,.v g.2.1)]) (λg=>g.2.2) (λg=>g.1<=ws.length/\ae 20 1 ((yr n ws b g.1).map FC) g.2.1 g.2.2) (λg=>ws.length-g.1) (0,_,[(C,.cells 20 [.v (.iface 9 (.string n)),.v (.iface 3 (.int .i64 ((ws.map λx=>[sD x]).length:Nat)))])]) (aj av) (Sc.refl _) ⟨zW _,l⟩ ?_;clear l;rintro⟨j,v,s⟩ ⟨hj,r⟩;simp only at hj r⊢;by_cases hlt:j<ws.length
  .obtain⟨a,L⟩:∃x,ws[j]?=some x:=⟨_,zD hlt⟩
   obtain⟨q,I⟩:∃x,b[j]?=some x:=⟨_,zD (by omega)⟩
   have P:ws[((j:Nat):Int).toNat]?=some a:=L;have M:b[((j:Nat):Int).toNat]?=some q:=I;have F:=aJ2 ws b j a q L I;have y:=av2 (ws.take (j+1)) (b.take (j+1)) (by rw[zR,zR,hl]);rw[zR]at y
   repeat' first|refine aO ?_|((with_reducible refine' Ot.yd ?hydn ?_);(case hydn=>first|exact bU rfl rfl underlying9 (λm h=>by cases h)|exact bU rfl rfl underlying3 (λm h=>by cases h)))
   have R:(yr n ws b (j+1)).length<=100:=by unfold yr;rw[zI,y];show 2+_<=_;omega
   refine Ap.go rfl rfl rfl rfl r (bS _) rfl (zs:=(yr n ws b (j+1)).map FC) (by unfold yr;rw[F,←zV,yB (l₂:=[_,_])];rfl) (by rw[zL];omega) (by rw[zL];omega) (λD=>D) da (λT S D E=>?_)
   repeat refine aO ?_
   exact⟨(j+1,_,D),(aj av),Sc.refl _,⟨by simp only;omega,E⟩,by simp only;omega⟩
  .obtain rfl:j=ws.length:=by omega
   rw[show yr n ws b ws.length=[.inr n,.inl (ws.length:Int)]++lJ ws b by unfold yr;rw[yM,hl,yM]]at r
   repeat refine aO ?_
   refine CE.gsome (.cons (Vs.refl _ _) (.cons (Vs.row r (bS _)) (.nil _))) (yz _ _ (b8.app (.s (.i (cB.mk (by omega) (by omega)) .nil)) (aT9 ws b K)) (by rw[zI,av2 ws b hl];show 2+_<=_;omega) (by unfold fS at hb;rw[aH8,z];(simp only[dR,gM,List.map_cons,List.map_nil,List.sum_cons,List.sum_nil,jW,List.size_toArray,List.length_cons,List.length_nil]at hb⊢);omega)) ?_;rintro _ ⟨t,rfl,ht⟩;rw[aH8,z]at ht
   repeat refine aO ?_
   exact Rt.same ⟨t,rfl,by unfold fS;(simp only[dR,gM,List.map_cons,List.map_nil,List.sum_cons,List.sum_nil,jW,List.size_toArray,List.length_cons,List.length_nil]at ht⊢);omega⟩
 .refine cP func221 ntmps221 λe=>?_
  repeat' first|refine aO ?_|((with_reducible refine' Ot.yd ?hydn ?_);(case hydn=>first|exact bU rfl rfl underlying9 (λm h=>by cases h)|exact bU rfl rfl underlying3 (λm h=>by cases h)))|((with_reducible refine' Ot.yd ?hydw ?_);(case hydw=>exact bQ ai (m:=0) rfl rfl rfl rfl rfl rfl (by decide)))|((with_reducible refine' Ld.yd ?hydw ?_);(case hydw=>exact Ki (m:=0) rfl rfl (λw h=>h 0 _ rfl)))|(refine CE.some (yz _ [.inr n,.inl lo] wx (by simp) ww) ?_;(rintro _ ⟨t,rfl,ht⟩))
  exact Rt.same ⟨t,rfl,by unfold fS;(simp only[dR,gM,List.map_cons,List.map_nil,List.sum_cons,List.sum_nil,jW,List.size_toArray,List.length_cons,List.length_nil]at ht⊢);omega⟩
 .refine cP func221 ntmps221 λe=>?_
  repeat' first|refine cJ ?_|((with_reducible refine' Ot.yd ?hydn ?_);(case hydn=>first|exact bU rfl rfl underlying9 (λm h=>by cases h)|exact bU rfl rfl underlying3 (λm h=>by cases h)))|((with_reducible refine' Ot.yd ?hydw ?_);(case hydw=>exact bQ ai (m:=1) rfl rfl rfl rfl rfl rfl (by decide)))|((with_reducible refine' Ld.yd ?hydw ?_);(case hydw=>exact Ki (m:=1) rfl rfl (λw h=>h 1 _ rfl))) 
  ((refine Dr.r ?_;refine W.mk ?_);refine jt mixed ai rfl [0,1,2,3,4,5,8,9,10,11,12,13] 5 (i8 [6,15]) (.one 6 (.fst 7 (.fst 14 (.one 15 (.fst 16 .done))))) (γ:=ByteArray) (λs=>[(2,sD s)]) (λ_=>[]) (λs=>s.size<=fS ⟨n,o,u,1,lo,hi,ws,b⟩) (by decide +kernel) ?_ ?_)
  .exact Ph
  .intro t ht
   repeat refine cJ ?_
   exact Rt.same ⟨t,rfl,ht⟩
 .refine cP func221 ntmps221 λe=>?_
  repeat' first|refine cJ ?_|((with_reducible refine' Ot.yd ?hydn ?_);(case hydn=>first|exact bU rfl rfl underlying9 (λm h=>by cases h)|exact bU rfl rfl underlying3 (λm h=>by cases h)))|((with_reducible refine' Ot.yd ?hydw ?_);(case hydw=>exact bQ ai (m:=2) rfl rfl rfl rfl rfl rfl (by decide)))|((with_reducible refine' Ld.yd ?hydw ?_);(case hydw=>exact Ki (m:=2) rfl rfl (λw h=>h 2 _ rfl)))|(refine CE.some (yz _ [.inr n,.inl lo,.inl hi] wx (by simp) ww) ?_;(rintro _ ⟨t,rfl,ht⟩))
  exact Rt.same ⟨t,rfl,by unfold fS;(simp only[dR,gM,List.map_cons,List.map_nil,List.sum_cons,List.sum_nil,jW,List.size_toArray,List.length_cons,List.length_nil]at ht⊢);omega⟩
 .refine cP func221 ntmps221 λe=>?_
  repeat' first|refine cJ ?_|((with_reducible refine' Ot.yd ?hydn ?_);(case hydn=>first|exact bU rfl rfl underlying9 (λm h=>by cases h)|exact bU rfl rfl underlying3 (λm h=>by cases h)))|((with_reducible refine' Ot.yd ?hydw ?_);(case hydw=>exact bQ ai (m:=4) rfl rfl rfl rfl rfl rfl (by decide)))|((with_reducible refine' Ld.yd ?hydw ?_);(case hydw=>exact Ki (m:=4) rfl rfl (λw h=>h 4 _ rfl))) 
  ((refine Dr.r ?_;refine W.mk ?_);refine jt mixed ai rfl [0,1,2,3,4,5,8,9,10,11,12,13] 5 (i8 [6,15]) (.one 6 (.fst 7 (.fst 14 (.one 15 (.fst 16 .done))))) (γ:=ByteArray) (λs=>[(2,sD s)]) (λ_=>[]) (λs=>s.size<=fS ⟨n,o,u,4,lo,hi,ws,b⟩) (by decide +kernel) ?_ ?_)
  .exact Ph
  .intro t ht
   repeat refine cJ ?_
   exact Rt.same ⟨t,rfl,ht⟩
 .refine cP func221 ntmps221 λe=>?_
  repeat' first|refine cJ ?_|((with_reducible refine' Ot.yd ?hydn ?_);(case hydn=>first|exact bU rfl rfl underlying9 (λm h=>by cases h)|exact bU rfl rfl underlying3 (λm h=>by cases h)))|((with_reducible refine' Ot.yd ?hydw ?_);(case hydw=>exact bQ ai (m:=5) rfl rfl rfl rfl rfl rfl (by decide)))|((with_reducible refine' Ld.yd ?hydw ?_);(case hydw=>exact Ki (m:=5) rfl rfl (λw h=>h 5 _ rfl))) 
  ((refine Dr.r ?_;refine W.mk ?_);refine jt mixed ai rfl [0,1,2,3,4,5,8,9,10,11,12,13] 5 (i8 [6,15]) (.one 6 (.fst 7 (.fst 14 (.one 15 (.fst 16 .done))))) (γ:=ByteArray) (λs=>[(2,sD s)]) (λ_=>[]) (λs=>s.size<=fS ⟨n,o,u,5,lo,hi,ws,b⟩) (by decide +kernel) ?_ ?_)
  .exact Ph
  .intro t ht
   repeat refine cJ ?_
   exact Rt.same ⟨t,rfl,ht⟩
 .refine cP func221 ntmps221 λe=>?_
  repeat' first|refine cJ ?_|((with_reducible refine' Ot.yd ?hydn ?_);(case hydn=>first|exact bU rfl rfl underlying9 (λm h=>by cases h)|exact bU rfl rfl underlying3 (λm h=>by cases h)))|((with_reducible refine' Ot.yd ?hydw ?_);(case hydw=>exact bQ ai (m:=6) rfl rfl rfl rfl rfl rfl (by decide)))|((with_reducible refine' Ld.yd ?hydw ?_);(case hydw=>exact Ki (m:=6) rfl rfl (λw h=>h 6 _ rfl)))|(refine CE.some (yz _ [.inr n,.inr o] wx (by simp) ww) ?_;(rintro _ ⟨t,rfl,ht⟩))
  exact Rt.same ⟨t,rfl,by unfold fS;(simp only[dR,gM,List.map_cons,List.map_nil,List.sum_cons,List.sum_nil,jW,List.size_toArray,List.length_cons,List.length_nil]at ht⊢);omega⟩
 .refine cP func221 ntmps221 λe=>?_
  repeat' first|refine cJ ?_|((with_reducible refine' Ot.yd ?hydn ?_);(case hydn=>first|exact bU rfl rfl underlying9 (λm h=>by cases h)|exact bU rfl rfl underlying3 (λm h=>by cases h)))|((with_reducible refine' Ot.yd ?hydw ?_);(case hydw=>exact bQ ai (m:=7) rfl rfl rfl rfl rfl rfl (by decide)))|((with_reducible refine' Ld.yd ?hydw ?_);(case hydw=>exact Ki (m:=7) rfl rfl (λw h=>h 7 _ rfl)))|(refine CE.some (yz _ [.inr n,.inr u,.inr o,.inl lo,.inl hi] wx (by simp) ww) ?_;(rintro _ ⟨t,rfl,ht⟩))
  exact Rt.same ⟨t,rfl,by unfold fS;(simp only[dR,gM,List.map_cons,List.map_nil,List.sum_cons,List.sum_nil,jW,List.size_toArray,List.length_cons,List.length_nil]at ht⊢);omega⟩
 .refine cP func221 ntmps221 λe=>?_
  repeat' first|refine cJ ?_|((with_reducible refine' Ot.yd ?hydn ?_);(case hydn=>first|exact bU rfl rfl underlying9 (λm h=>by cases h)|exact bU rfl rfl underlying3 (λm h=>by cases h)))|((with_reducible refine' Ot.yd ?hydw ?_);(case hydw=>exact bQ ai (m:=8) rfl rfl rfl rfl rfl rfl (by decide)))|((with_reducible refine' Ld.yd ?hydw ?_);(case hydw=>exact Ki (m:=8) rfl rfl (λw h=>h 8 _ rfl)))|(refine CE.some (yz _ [.inr n,.inr u,.inr o] wx (by simp) ww) ?_;(rintro _ ⟨t,rfl,ht⟩))
  exact Rt.same ⟨t,rfl,by unfold fS;(simp only[dR,gM,List.map_cons,List.map_nil,List.sum_cons,List.sum_nil,jW,List.size_toArray,List.length_cons,List.length_nil]at ht⊢);omega⟩
end
section
open Go Go.RowKit
def tM(nm:ByteArray)(s:List ByteArray)(j:Nat):List (Int⊕ByteArray):=[.inr nm,.inl (s.length:Int)]++(s.take j).map .inr
theorem Iz(nm:ByteArray)(a:List ByteArray):dR (tM nm a a.length)=2+nm.size+bw a.length+aY (λs=>1+s.size) a:=by
 unfold tM;rw[aH8,yM];have:dR (a.map Sum.inr)=aY (λs=>1+s.size) a:=by simp[dR,aY,gM,vA,Function.comp_def]
 rw[this];simp only[dR,gM,List.map_cons,List.map_nil,List.sum_cons,List.sum_nil,jW,List.size_toArray,List.length_cons,List.length_nil];omega
theorem cB.of{n:Int}(h:-9223372036854775807<=n/\n<=9223372036854775807):cB n:=⟨by omega,by omega⟩
theorem pc1(a:Nat×aB)(s:af):(a::s).Perm (s++[a]):=yT (l₁:=[a])
theorem TB(a:Nat×aB)(s:af):(s++[a]).Perm (a::s):=yT (l₂:=[a])
theorem pc2(a b:Nat×aB)(s:af):(a::b::s).Perm (s++[a,b]):=yT (l₁:=[a,b])
theorem bs3(a b:Nat×aB)(s:af):(s++[a,b]).Perm (a::b::s):=yT (l₂:=[a,b])
theorem cq8{p:Prop}(h:p:=by
 repeat' first|refine aO ?_|intro b;conv=>whnf|((with_reducible refine' Ot.yd ?hydn ?_);(case hydn=>first|exact bU rfl rfl underlying9 (λm h=>by cases h)|exact bU rfl rfl underlying3 (λm h=>by cases h)))|((with_reducible refine' Ot.yd ?hydw ?_);(case hydw=>first|exact bQ ai (m:=0) rfl rfl rfl rfl rfl rfl (by decide)|exact bQ ai (m:=1) rfl rfl rfl rfl rfl rfl (by decide)))|fail
 (refine bc (Mu b0 _ s hB t (by omega)) (pc2 _ _ _) (λs'=>_::_::s') (λs'=>bs3 _ _ _) ?_;rintro _ s1 ⟨rfl,hB1⟩)
 repeat' first|refine aO ?_|intro b;conv=>whnf|((with_reducible refine' Ot.yd ?hydn ?_);(case hydn=>first|exact bU rfl rfl underlying9 (λm h=>by cases h)|exact bU rfl rfl underlying3 (λm h=>by cases h)))|((with_reducible refine' Ot.yd ?hydw ?_);(case hydw=>first|exact bQ ai (m:=0) rfl rfl rfl rfl rfl rfl (by decide)|exact bQ ai (m:=1) rfl rfl rfl rfl rfl rfl (by decide)))|fail
 exact⟨(i+1,_,s1),(aj av),Sc.sl (yG _ _),⟨by simp only;omega,by simp only;omega,hB1⟩,by simp only;omega⟩):p:=h
theorem YO{p:Prop}(h:p:=by
 rw[yM]at hn
 repeat' first|refine aO ?_|intro b;conv=>whnf|((with_reducible refine' Ot.yd ?hydn ?_);(case hydn=>first|exact bU rfl rfl underlying9 (λm h=>by cases h)|exact bU rfl rfl underlying3 (λm h=>by cases h)))|((with_reducible refine' Ot.yd ?hydw ?_);(case hydw=>first|exact bQ ai (m:=0) rfl rfl rfl rfl rfl rfl (by decide)|exact bQ ai (m:=1) rfl rfl rfl rfl rfl rfl (by decide)))|fail
 exact⟨(j+1,n,s),(aj av),Sc.sl (yG _ _),⟨by simp only;omega,by simp only;omega,hB⟩,by simp only;omega⟩):p:=h
theorem uI(x:ak)(g:Fe x)(R:ik x=true):cd prog 165 [ax x] (λd=>∃s:ByteArray,d=sD s/\s.size<=fg x):=by
 refine cd.of_call ?_;have hb:=g.src R;have hx:=g.sm;have hver:=cB.of g.ver;have hlk:=hx.nkinds;have hll:=hx.nlives;have hlr:=hx.nrules;have Q:=ba4 x.vz;simp only[ik,zJ,yA]at R;unfold fg at hb⊢;refine cP func165 ntmps165 λBB=>?_
 repeat' first|refine aO ?_|intro b;conv=>whnf|((with_reducible refine' Ot.yd ?hydn ?_);(case hydn=>first|exact bU rfl rfl underlying9 (λm h=>by cases h)|exact bU rfl rfl underlying3 (λm h=>by cases h)))|((with_reducible refine' Ot.yd ?hydw ?_);(case hydw=>first|exact bQ ai (m:=0) rfl rfl rfl rfl rfl rfl (by decide)|exact bQ ai (m:=1) rfl rfl rfl rfl rfl rfl (by decide)))|fail
 (refine CE.some (yz _ [.inl x.vz] ?hqo1 ?hqo2 ?hqo3) ?_;(case hqo1=>repeat(first|exact b8.nil|apply b8.s|refine b8.i (by assumption) ?_));(case hqo2=>simp);(case hqo3=>((simp only[dR,gM,List.map_cons,List.map_nil,List.sum_cons,List.sum_nil,jW,List.size_toArray,List.length_cons,List.length_nil]);omega));(rintro _ ⟨t,rfl,ht⟩);(simp only[dR,gM,List.map_cons,List.map_nil,List.sum_cons,List.sum_nil,jW,List.size_toArray,List.length_cons,List.length_nil]at ht))
 obtain⟨b0,rfl⟩:∃O,O=b:=⟨_,rfl⟩
 repeat' first|refine aO ?_|intro b;conv=>whnf|((with_reducible refine' Ot.yd ?hydn ?_);(case hydn=>first|exact bU rfl rfl underlying9 (λm h=>by cases h)|exact bU rfl rfl underlying3 (λm h=>by cases h)))|((with_reducible refine' Ot.yd ?hydw ?_);(case hydw=>first|exact bQ ai (m:=0) rfl rfl rfl rfl rfl rfl (by decide)|exact bQ ai (m:=1) rfl rfl rfl rfl rfl rfl (by decide)))|fail
 refine bc (Mu b0 0 _ (me.new b0) t (by omega)) (bS _) (λs'=>s') da ?_;rintro _ s ⟨rfl,hB⟩
 repeat' first|refine aO ?_|intro b;conv=>whnf|((with_reducible refine' Ot.yd ?hydn ?_);(case hydn=>first|exact bU rfl rfl underlying9 (λm h=>by cases h)|exact bU rfl rfl underlying3 (λm h=>by cases h)))|((with_reducible refine' Ot.yd ?hydw ?_);(case hydw=>first|exact bQ ai (m:=0) rfl rfl rfl rfl rfl rfl (by decide)|exact bQ ai (m:=1) rfl rfl rfl rfl rfl rfl (by decide)))|fail
 refine aR mixed ai (γ:=Nat×Nat×af) (λg=>[(26,iD g.1)]) (λg=>g.2.2) (λg=>g.1<=x.kz.length/\g.2.1<=29+aY dm (x.kz.take g.1)/\me b0 g.2.1 g.2.2) (λg=>x.kz.length-g.1) (0,_,s) (aj av) (Sc.refl _) ⟨zW _,by simp only;omega,hB⟩ ?_;clear hB ht;rintro⟨j,n,s⟩ ⟨hj,hn,hB⟩;simp only at hj hn hB⊢;have q:=iT dm x.kz j;by_cases hlt:j<x.kz.length
 .obtain⟨k,V⟩:∃y,x.kz[j]?=some y:=⟨_,zD hlt⟩
  have hk':x.kz[((j:Nat):Int).toNat]?=some k:=V;have e:=zG V;have E:=EV dm x.kz j k V;have z:=iT dm x.kz (j+1);have hkb:dm k=8+k.name.size+bw k.lo+bw k.hi+aY fS k.fields:=rfl;have hklo:=cB.of (g.ksane k e).1;have hkhi:=cB.of (g.ksane k e).2;have hkf:=(hx.kz k e).nfields;have X:∀f∈k.fields,dF f=true:=by have h1:=R.1.1.2 k e;simp only[jv,zJ,yA]at h1;exact h1.2
  repeat' first|refine aO ?_|intro b;conv=>whnf|((with_reducible refine' Ot.yd ?hydn ?_);(case hydn=>first|exact bU rfl rfl underlying9 (λm h=>by cases h)|exact bU rfl rfl underlying3 (λm h=>by cases h)))|((with_reducible refine' Ot.yd ?hydw ?_);(case hydw=>first|exact bQ ai (m:=0) rfl rfl rfl rfl rfl rfl (by decide)|exact bQ ai (m:=1) rfl rfl rfl rfl rfl rfl (by decide)))|fail
  (refine CE.some (yz _ [.inr k.name,.inl k.lo,.inl k.hi] ?hqo1 ?hqo2 ?hqo3) ?_;(case hqo1=>repeat(first|exact b8.nil|apply b8.s|refine b8.i (by assumption) ?_));(case hqo2=>simp);(case hqo3=>((simp only[dR,gM,List.map_cons,List.map_nil,List.sum_cons,List.sum_nil,jW,List.size_toArray,List.length_cons,List.length_nil]);omega));(rintro _ ⟨t,rfl,ht⟩);(simp only[dR,gM,List.map_cons,List.map_nil,List.sum_cons,List.sum_nil,jW,List.size_toArray,List.length_cons,List.length_nil]at ht))
  obtain⟨b5,rfl⟩:∃O,O=b:=⟨_,rfl⟩
  repeat' first|refine aO ?_|intro b;conv=>whnf|((with_reducible refine' Ot.yd ?hydn ?_);(case hydn=>first|exact bU rfl rfl underlying9 (λm h=>by cases h)|exact bU rfl rfl underlying3 (λm h=>by cases h)))|((with_reducible refine' Ot.yd ?hydw ?_);(case hydw=>first|exact bQ ai (m:=0) rfl rfl rfl rfl rfl rfl (by decide)|exact bQ ai (m:=1) rfl rfl rfl rfl rfl rfl (by decide)))|fail
  (refine bc (Mu b0 _ s hB t (by omega)) (pc1 _ _) (λs'=>_::s') (λs'=>TB _ _) ?_;rintro _ s1 ⟨rfl,hB1⟩)
  repeat' first|refine aO ?_|intro b;conv=>whnf|((with_reducible refine' Ot.yd ?hydn ?_);(case hydn=>first|exact bU rfl rfl underlying9 (λm h=>by cases h)|exact bU rfl rfl underlying3 (λm h=>by cases h)))|((with_reducible refine' Ot.yd ?hydw ?_);(case hydw=>first|exact bQ ai (m:=0) rfl rfl rfl rfl rfl rfl (by decide)|exact bQ ai (m:=1) rfl rfl rfl rfl rfl rfl (by decide)))|fail
  refine aR mixed ai (γ:=Nat×Nat×af) (λg=>[(45,iD g.1)]) (λg=>(b5,.cells 78 (bA k))::g.2.2) (λg=>g.1<=k.fields.length/\g.2.1<=29+aY dm (x.kz.take j)+(8+k.name.size+bw k.lo+bw k.hi+aY fS (k.fields.take g.1))/\me b0 g.2.1 g.2.2) (λg=>k.fields.length-g.1) (0,_,s1) (aj av) (Sc.refl _) ⟨zW _,by simp only;omega,hB1⟩ ?_;clear hB hB1 ht hn;rintro⟨i,n,s⟩ ⟨hi,hn,hB⟩;simp only at hi hn hB⊢;have K:=iT fS k.fields i;by_cases u:i<k.fields.length
  .obtain⟨f,Y⟩:∃y,k.fields[i]?=some y:=⟨_,zD u⟩
   have hf':k.fields[((i:Nat):Int).toNat]?=some f:=Y;have L:=zG Y;have D:=EV fS k.fields i f Y;have J:=iT fS k.fields (i+1);have C:=(g.fsane k e f L).1
   repeat' first|refine aO ?_|intro b;conv=>whnf|((with_reducible refine' Ot.yd ?hydn ?_);(case hydn=>first|exact bU rfl rfl underlying9 (λm h=>by cases h)|exact bU rfl rfl underlying3 (λm h=>by cases h)))|((with_reducible refine' Ot.yd ?hydw ?_);(case hydw=>first|exact bQ ai (m:=0) rfl rfl rfl rfl rfl rfl (by decide)|exact bQ ai (m:=1) rfl rfl rfl rfl rfl rfl (by decide)))|fail
   refine CE.some (A7 f (.of C.lo) (.of C.hi) (X f L) (λn hn=>.of (C.ws n hn)) (by omega)) ?_;rintro _ ⟨t,rfl,ht⟩;exact cq8
  .obtain rfl:i=k.fields.length:=by omega
   exact YO
 .obtain rfl:j=x.kz.length:=by omega
  rw[yM]at hn;clear q hlt
  repeat' first|refine aO ?_|intro b;conv=>whnf|((with_reducible refine' Ot.yd ?hydn ?_);(case hydn=>first|exact bU rfl rfl underlying9 (λm h=>by cases h)|exact bU rfl rfl underlying3 (λm h=>by cases h)))|((with_reducible refine' Ot.yd ?hydw ?_);(case hydw=>first|exact bQ ai (m:=0) rfl rfl rfl rfl rfl rfl (by decide)|exact bQ ai (m:=1) rfl rfl rfl rfl rfl rfl (by decide)))|fail
  refine aR mixed ai (γ:=Nat×Nat×af) (λg=>[(57,iD g.1)]) (λg=>g.2.2) (λg=>g.1<=x.lz.length/\g.2.1<=29+aY dm x.kz+aY dL (x.lz.take g.1)/\me b0 g.2.1 g.2.2) (λg=>x.lz.length-g.1) (0,n,s) (aj av) (Sc.refl _) ⟨zW _,by simp only;omega,hB⟩ ?_;clear hB hn;rintro⟨j,n,s⟩ ⟨hj,hn,hB⟩;simp only at hj hn hB⊢;have q:=iT dL x.lz j;by_cases hlt:j<x.lz.length
  .obtain⟨l,hl⟩:∃y,x.lz[j]?=some y:=⟨_,zD hlt⟩
   have hl':x.lz[((j:Nat):Int).toNat]?=some l:=hl;have o:=zG hl;have E:=EV dL x.lz j l hl;have z:=iT dL x.lz (j+1);have hlb:dL l=7+l.name.size+bw l.tz.length+aY (λs=>1+s.size) l.tz+aY fC l.mz:=rfl;have hls:=(hx.lz l o).nstates;have hlv:=(hx.lz l o).nmoves;have u:=Iz l.name l.tz
   repeat' first|refine AK ?_|intro b;conv=>whnf|((with_reducible refine' Ot.yd ?hydn ?_);(case hydn=>first|exact bU rfl rfl underlying9 (λm h=>by cases h)|exact bU rfl rfl underlying3 (λm h=>by cases h)))|((with_reducible refine' Ot.yd ?hydw ?_);(case hydw=>first|exact bQ ai (m:=0) rfl rfl rfl rfl rfl rfl (by decide)|exact bQ ai (m:=1) rfl rfl rfl rfl rfl rfl (by decide)))|fail
   refine Bx.r ?_;refine La ai (out:=[.v (.iface 9 (.string l.name)),.v (.iface 3 (.int .i64 ((l.tz.map λx=>[sD x]).length:Nat)))]) rfl rfl rfl rfl rfl rfl rfl rfl rfl rfl (by decide) (λP=>?_)
   repeat' first|refine aO ?_|intro b;conv=>whnf|((with_reducible refine' Ot.yd ?hydn ?_);(case hydn=>first|exact bU rfl rfl underlying9 (λm h=>by cases h)|exact bU rfl rfl underlying3 (λm h=>by cases h)))|((with_reducible refine' Ot.yd ?hydw ?_);(case hydw=>first|exact bQ ai (m:=0) rfl rfl rfl rfl rfl rfl (by decide)|exact bQ ai (m:=1) rfl rfl rfl rfl rfl rfl (by decide)))|fail
   obtain⟨b9,rfl⟩:∃O,O=b:=⟨_,rfl⟩
   have F:ae 20 1 ((tM l.name l.tz 0).map FC) (.slice (some ⟨P,0,none⟩) 2 2) [(P,.cells 20 [.v (.iface 9 (.string l.name)),.v (.iface 3 (.int .i64 ((l.tz.map λx=>[sD x]).length:Nat)))])]:=
    ⟨sU _,.inr ⟨P,2,[],by simp[tM],by simp[tM,FC],by simp[tM],by decide,by simp[tM],λd hd=>by cases hd⟩⟩
   refine aR mixed ai (γ:=Nat×Value×af) (λg=>[(72,iD g.1),(10,.v g.2.1)]) (λg=>g.2.2++((b9,.cells 93 (dV l))::s)) (λg=>g.1<=l.tz.length/\ae 20 1 ((tM l.name l.tz g.1).map FC) g.2.1 g.2.2) (λg=>l.tz.length-g.1) (0,_,[(P,.cells 20 [.v (.iface 9 (.string l.name)),.v (.iface 3 (.int .i64 ((l.tz.map λx=>[sD x]).length:Nat)))])]) (aj av) (Sc.refl _) ⟨zW _,F⟩ ?_;clear F;rintro⟨i,v,Z⟩ ⟨hi,w⟩;simp only at hi w⊢;by_cases hii:i<l.tz.length
   .obtain⟨a,ha⟩:∃y,l.tz[i]?=some y:=⟨_,zD hii⟩
    have ha':l.tz[((i:Nat):Int).toNat]?=some a:=ha
    repeat' first|refine aO ?_|intro b;conv=>whnf|((with_reducible refine' Ot.yd ?hydn ?_);(case hydn=>first|exact bU rfl rfl underlying9 (λm h=>by cases h)|exact bU rfl rfl underlying3 (λm h=>by cases h)))|((with_reducible refine' Ot.yd ?hydw ?_);(case hydw=>first|exact bQ ai (m:=0) rfl rfl rfl rfl rfl rfl (by decide)|exact bQ ai (m:=1) rfl rfl rfl rfl rfl rfl (by decide)))|fail
    have hz:(tM l.name l.tz (i+1)).length<=1000100:=by unfold tM;rw[zI,zL,zR];show 2+_<=_;omega
    refine Ap.go rfl rfl rfl rfl w (by exact zH _) rfl (zs:=(tM l.name l.tz (i+1)).map FC) (by unfold tM;rw[xC,ha,yB,yB (f:=Sum.inr),←zV,yB (l₂:=List.map _ _)];rfl) (by rw[zL];omega) (by rw[zL];omega) (λs'=>s'++_) (λs'=>zH _) (λa' c' s' G=>?_)
    repeat' first|refine aO ?_|intro b;conv=>whnf|((with_reducible refine' Ot.yd ?hydn ?_);(case hydn=>first|exact bU rfl rfl underlying9 (λm h=>by cases h)|exact bU rfl rfl underlying3 (λm h=>by cases h)))|((with_reducible refine' Ot.yd ?hydw ?_);(case hydw=>first|exact bQ ai (m:=0) rfl rfl rfl rfl rfl rfl (by decide)|exact bQ ai (m:=1) rfl rfl rfl rfl rfl rfl (by decide)))|fail
    exact⟨(i+1,_,s'),(aj av),Sc.refl _,⟨by simp only;omega,G⟩,by simp only;omega⟩
   .obtain rfl:i=l.tz.length:=by omega
    repeat' first|refine aO ?_|intro b;conv=>whnf|((with_reducible refine' Ot.yd ?hydn ?_);(case hydn=>first|exact bU rfl rfl underlying9 (λm h=>by cases h)|exact bU rfl rfl underlying3 (λm h=>by cases h)))|((with_reducible refine' Ot.yd ?hydw ?_);(case hydw=>first|exact bQ ai (m:=0) rfl rfl rfl rfl rfl rfl (by decide)|exact bQ ai (m:=1) rfl rfl rfl rfl rfl rfl (by decide)))|fail
    refine CE.gsome (.cons (Vs.refl _ _) (.cons (Vs.row w (zH _)) (.nil _))) (yz _ _ (λn hn=>?_) ?_ ?_) ?_
    .unfold tM at hn;simp only[List.cons_append,List.nil_append,zU,reduceCtorEq,Sum.inl.injEq,false_or,xM,and_false,exists_false,xE]at hn;subst hn;exact⟨by omega,by omega⟩
    .unfold tM;rw[zI,zL,zR];show 2+_<=_;omega
    .rw[u];(simp only[dR,gM,List.map_cons,List.map_nil,List.sum_cons,List.sum_nil,jW,List.size_toArray,List.length_cons,List.length_nil]);omega
    rintro _ ⟨t,rfl,ht⟩;rw[u]at ht;simp only[dR,gM,List.map_cons,List.map_nil,List.sum_cons,List.sum_nil,jW,List.size_toArray,List.length_cons,List.length_nil]at ht
    repeat' first|refine aO ?_|intro b;conv=>whnf|((with_reducible refine' Ot.yd ?hydn ?_);(case hydn=>first|exact bU rfl rfl underlying9 (λm h=>by cases h)|exact bU rfl rfl underlying3 (λm h=>by cases h)))|((with_reducible refine' Ot.yd ?hydw ?_);(case hydw=>first|exact bQ ai (m:=0) rfl rfl rfl rfl rfl rfl (by decide)|exact bQ ai (m:=1) rfl rfl rfl rfl rfl rfl (by decide)))|fail
    (refine bc (Mu b0 _ s hB t (by omega)) (pc1 _ _) (λs'=>_::s') (λs'=>TB _ _) ?_;rintro _ s1 ⟨rfl,hB1⟩)
    repeat' first|refine aO ?_|intro b;conv=>whnf|((with_reducible refine' Ot.yd ?hydn ?_);(case hydn=>first|exact bU rfl rfl underlying9 (λm h=>by cases h)|exact bU rfl rfl underlying3 (λm h=>by cases h)))|((with_reducible refine' Ot.yd ?hydw ?_);(case hydw=>first|exact bQ ai (m:=0) rfl rfl rfl rfl rfl rfl (by decide)|exact bQ ai (m:=1) rfl rfl rfl rfl rfl rfl (by decide)))|fail
    refine aR mixed ai (γ:=Nat×Nat×af) (λg=>[(88,iD g.1)]) (λg=>(b9,.cells 93 (dV l))::g.2.2) (λg=>g.1<=l.mz.length/\g.2.1<=29+aY dm x.kz+aY dL (x.lz.take j)+(7+l.name.size+bw l.tz.length+aY (λs=>1+s.size) l.tz+aY fC (l.mz.take g.1))/\me b0 g.2.1 g.2.2) (λg=>l.mz.length-g.1) (0,_,s1) (aj av) (Sc.refl _) ⟨zW _,by simp only;omega,hB1⟩ ?_;clear hB hB1 ht hn w;rintro⟨i,n,s⟩ ⟨hi,hn,hB⟩;simp only at hi hn hB⊢;have K:=iT fC l.mz i;by_cases hii:i<l.mz.length
    .obtain⟨m,U⟩:∃y,l.mz[i]?=some y:=⟨_,zD hii⟩
     have hm':l.mz[((i:Nat):Int).toNat]?=some m:=U;have I:=zG U;have D:=EV fC l.mz i m U;have J:=iT fC l.mz (i+1);have hmb:fC m=7+bw m.1+bw m.2:=rfl;have hm1:=cB.of (g.msane l o m I).1;have hm2:=cB.of (g.msane l o m I).2
     repeat' first|refine aO ?_|intro b;conv=>whnf|((with_reducible refine' Ot.yd ?hydn ?_);(case hydn=>first|exact bU rfl rfl underlying9 (λm h=>by cases h)|exact bU rfl rfl underlying3 (λm h=>by cases h)))|((with_reducible refine' Ot.yd ?hydw ?_);(case hydw=>first|exact bQ ai (m:=0) rfl rfl rfl rfl rfl rfl (by decide)|exact bQ ai (m:=1) rfl rfl rfl rfl rfl rfl (by decide)))|fail
     (refine CE.some (yz _ [.inl m.1,.inl m.2] ?hqo1 ?hqo2 ?hqo3) ?_;(case hqo1=>repeat(first|exact b8.nil|apply b8.s|refine b8.i (by assumption) ?_));(case hqo2=>simp);(case hqo3=>((simp only[dR,gM,List.map_cons,List.map_nil,List.sum_cons,List.sum_nil,jW,List.size_toArray,List.length_cons,List.length_nil]);omega));(rintro _ ⟨t,rfl,ht⟩);(simp only[dR,gM,List.map_cons,List.map_nil,List.sum_cons,List.sum_nil,jW,List.size_toArray,List.length_cons,List.length_nil]at ht))
     exact cq8
    .obtain rfl:i=l.mz.length:=by omega
     exact YO
  .obtain rfl:j=x.lz.length:=by omega
   rw[yM]at hn;clear q hlt
   repeat' first|refine aO ?_|intro b;conv=>whnf|((with_reducible refine' Ot.yd ?hydn ?_);(case hydn=>first|exact bU rfl rfl underlying9 (λm h=>by cases h)|exact bU rfl rfl underlying3 (λm h=>by cases h)))|((with_reducible refine' Ot.yd ?hydw ?_);(case hydw=>first|exact bQ ai (m:=0) rfl rfl rfl rfl rfl rfl (by decide)|exact bQ ai (m:=1) rfl rfl rfl rfl rfl rfl (by decide)))|fail
   refine aR mixed ai (γ:=Nat×Nat×af) (λg=>[(106,iD g.1)]) (λg=>g.2.2) (λg=>g.1<=x.rules.length/\g.2.1<=29+aY dm x.kz+aY dL x.lz+aY fA (x.rules.take g.1)/\me b0 g.2.1 g.2.2) (λg=>x.rules.length-g.1) (0,n,s) (aj av) (Sc.refl _) ⟨zW _,by simp only;omega,hB⟩ ?_;clear hB hn;rintro⟨j,n,s⟩ ⟨hj,hn,hB⟩;simp only at hj hn hB⊢;have q:=iT fA x.rules j;by_cases hlt:j<x.rules.length
   .obtain⟨r,w⟩:∃y,x.rules[j]?=some y:=⟨_,zD hlt⟩
    have G:x.rules[((j:Nat):Int).toNat]?=some r:=w;have S:=zG w;have E:=EV fA x.rules j r w;have z:=iT fA x.rules (j+1);have hrb:fA r=12+r.name.size+r.kind.size+r.a.size+r.b.size+bw r.n:=rfl;have hrn:=cB.of (g.rsane r S)
    repeat' first|refine cJ ?_|intro b;conv=>whnf|((with_reducible refine' Ot.yd ?hydn ?_);(case hydn=>first|exact bU rfl rfl underlying9 (λm h=>by cases h)|exact bU rfl rfl underlying3 (λm h=>by cases h)))|((with_reducible refine' Ot.yd ?hydw ?_);(case hydw=>first|exact bQ ai (m:=0) rfl rfl rfl rfl rfl rfl (by decide)|exact bQ ai (m:=1) rfl rfl rfl rfl rfl rfl (by decide)))|fail
    (refine Dr.r ?_;refine W.mk ?_)
    refine xg (i:=16) (d':=.ro (dI r)) (τ:=s) rfl (λh=>by cases h) (Vs.ptr (zH _)) ?_;refine jt mixed ai rfl [0,1,2,3,4,5,6,7,10,11,14,15,16] 7 (i8 [8,12,18,19]) (.one 8 (.fst 9 (.one 12 (.fst 13 (.fst 17 (.one 18 (.one 19 .done))))))) (γ:=Nat×af) (λ_=>[]) (λg=>g.2) (λg=>g.1<=n+fA r/\me b0 g.1 g.2) (by decide +kernel) ?_ ?_
    .repeat' first|refine cJ ?_|intro b;conv=>whnf|((with_reducible refine' Ot.yd ?hydn ?_);(case hydn=>first|exact bU rfl rfl underlying9 (λm h=>by cases h)|exact bU rfl rfl underlying3 (λm h=>by cases h)))|(refine And.intro ?_ ?_<;>(conv=>whnf))|(refine CE.some (aD1 r.a) ?_;(rintro _ ⟨a2,rfl,ha2⟩))|(refine CE.some (aD1 r.b) ?_;(rintro _ ⟨b2,rfl,hb2⟩))|(refine CE.some (yz _ [.inr r.name,.inr r.kind,.inr a2,.inr b2,.inl r.n] ?hqo1 ?hqo2 ?hqo3) ?_;(case hqo1=>repeat(first|exact b8.nil|apply b8.s|refine b8.i (by assumption) ?_));(case hqo2=>simp);(case hqo3=>((simp only[dR,gM,List.map_cons,List.map_nil,List.sum_cons,List.sum_nil,jW,List.size_toArray,List.length_cons,List.length_nil]);omega));(rintro _ ⟨t,rfl,ht⟩);(simp only[dR,gM,List.map_cons,List.map_nil,List.sum_cons,List.sum_nil,jW,List.size_toArray,List.length_cons,List.length_nil]at ht))|fail
     refine bc (Mu b0 _ s hB t (by omega)) (bS _) (λs'=>s') da ?_;rintro _ s1 ⟨rfl,hB1⟩
     repeat' first|refine cJ ?_|intro b;conv=>whnf|((with_reducible refine' Ot.yd ?hydn ?_);(case hydn=>first|exact bU rfl rfl underlying9 (λm h=>by cases h)|exact bU rfl rfl underlying3 (λm h=>by cases h)))|((with_reducible refine' Ot.yd ?hydw ?_);(case hydw=>first|exact bQ ai (m:=0) rfl rfl rfl rfl rfl rfl (by decide)|exact bQ ai (m:=1) rfl rfl rfl rfl rfl rfl (by decide)))|fail
     exact⟨(_,s1),(aj aQ),Sc.refl _,by simp only;omega,hB1⟩
    .rintro⟨n2,Z⟩ ⟨T,M⟩;simp only at T M⊢
     repeat' first|refine cJ ?_|intro b;conv=>whnf|((with_reducible refine' Ot.yd ?hydn ?_);(case hydn=>first|exact bU rfl rfl underlying9 (λm h=>by cases h)|exact bU rfl rfl underlying3 (λm h=>by cases h)))|((with_reducible refine' Ot.yd ?hydw ?_);(case hydw=>first|exact bQ ai (m:=0) rfl rfl rfl rfl rfl rfl (by decide)|exact bQ ai (m:=1) rfl rfl rfl rfl rfl rfl (by decide)))|fail
     exact⟨(j+1,n2,Z),(aj av),Sc.refl _,⟨by simp only;omega,by simp only;omega,M⟩,by simp only;omega⟩
   .obtain rfl:j=x.rules.length:=by omega
    rw[yM]at hn
    repeat' first|refine cJ ?_|intro b;conv=>whnf|((with_reducible refine' Ot.yd ?hydn ?_);(case hydn=>first|exact bU rfl rfl underlying9 (λm h=>by cases h)|exact bU rfl rfl underlying3 (λm h=>by cases h)))|((with_reducible refine' Ot.yd ?hydw ?_);(case hydw=>first|exact bQ ai (m:=0) rfl rfl rfl rfl rfl rfl (by decide)|exact bQ ai (m:=1) rfl rfl rfl rfl rfl rfl (by decide)))|fail
    refine bc (bi2 b0 n s hB) (bS _) (λs'=>s') da ?_;rintro _ _ ⟨t,rfl,ht,rfl⟩
    repeat' first|refine cJ ?_|intro b;conv=>whnf|((with_reducible refine' Ot.yd ?hydn ?_);(case hydn=>first|exact bU rfl rfl underlying9 (λm h=>by cases h)|exact bU rfl rfl underlying3 (λm h=>by cases h)))|((with_reducible refine' Ot.yd ?hydw ?_);(case hydw=>first|exact bQ ai (m:=0) rfl rfl rfl rfl rfl rfl (by decide)|exact bQ ai (m:=1) rfl rfl rfl rfl rfl rfl (by decide)))|fail
    exact Rt.same ⟨t,rfl,by omega⟩
end
section
open Go
theorem aA5{α:Type}(l:List α)(p:α->Bool):(l.any λc=>!p c)=!(l.all p):=LC
theorem OR{f:FuncId}{cs:List D}(l:List ByteArray)(p:ByteArray->Bool)(hl:l.length<=1000000)(hp:∀y∈l,APure prog f [sD y,.ro cs] (bD (p y))):APure prog 269 [gI l,.clo f [.ro cs]] (iD (idx p l)):=by
 refine ap func269 ntmps269 λa=>?_;exact n9
theorem IK{f:FuncId}{cs:List D}(l:List (Int×Int))(p:Int×Int->Bool)(hl:l.length<=1000000)(hp:∀y∈l,APure prog f [.agg (du y),.ro cs] (bD (p y))):APure prog 225 [.sl 2 (l.map du),.clo f [.ro cs]] (iD (idx p l)):=YV
theorem SI{A B:Prop}(k:B)(h:ar B->A:=by intro q7;(first|refine bC ?_|refine aA ?_|(refine' ah ?hc ?_;(case hc=>exact OR l p hl hp)));exact q7.1):A:=h ⟨k⟩
theorem JR{f:FuncId}{cs:List D}(l:List ByteArray)(p:ByteArray->Bool)(hl:l.length<=1000000)(hp:∀y∈l,APure prog f [sD y,.ro cs] (bD (p y))):APure prog 255 [gI l,.clo f [.ro cs]] (bD (l.any p)):=by
 refine ap func255 ntmps255 λa=>?_
 repeat refine SI ?_
 refine Rt.pure (zM bD ?_);exact rh p l
theorem SH{A B:Prop}(k:B)(h:ar B->A:=by intro q7;(first|refine bC ?_|refine aA ?_|(refine' ah ?hc ?_;(case hc=>exact IK l p hl hp)));exact q7.1):A:=h ⟨k⟩
theorem EP{f:FuncId}{cs:List D}(l:List (Int×Int))(p:Int×Int->Bool)(hl:l.length<=1000000)(hp:∀y∈l,APure prog f [.agg (du y),.ro cs] (bD (p y))):APure prog 169 [.sl 2 (l.map du),.clo f [.ro cs]] (bD (l.any p)):=by
 refine ap func169 ntmps169 λa=>?_
 repeat refine SH ?_
 refine Rt.pure (zM bD ?_);exact rh p l
theorem SG{A B:Prop}(k:B)(h:ar B->A:=by intro q7;(first|refine bC ?_|refine aA ?_|(refine' ah ?hc ?_;(case hc=>exact C7 l p hl hp)));exact q7.1):A:=h ⟨k⟩
theorem JW{f:FuncId}{cs:List D}(l:List am)(p:am->Bool)(hl:l.length<=1000000)(hp:∀y∈l,APure prog f [bP y,.ro cs] (bD (p y))):APure prog 250 [yj l,.clo f [.ro cs]] (bD (l.any p)):=by
 refine ap func250 ntmps250 λa=>?_
 repeat refine SG ?_
 refine Rt.pure (zM bD ?_);exact rh p l
theorem jH{A B:Prop}(k:B)(h:ar B->A:=by intro q7;(first|refine bC ?_|refine aA ?_|(refine' ah ?hc ?_;(case hc=>exact hp)));exact q7.1):A:=h ⟨k⟩
theorem J1{f:FuncId}(y:ByteArray)(b:Bool)(hp:APure prog f [sD y] (bD b)):APure prog 256 [sD y,.ro [yo f]] (bD (!b)):=by
 refine ap func256 ntmps256 λa=>?_
 repeat refine jH ?_
 exact Rt.pure rfl
theorem J3{f:FuncId}{cs:List D}(y:Int×Int)(b:Bool)(hp:APure prog f [.agg (du y),.ro cs] (bD b)):APure prog 257 [.agg (du y),.ro [.clo f [.ro cs]]] (bD (!b)):=by
 refine ap func257 ntmps257 λa=>?_
 repeat refine jH ?_
 exact Rt.pure rfl
theorem J6{f:FuncId}(y:am)(b:Bool)(hp:APure prog f [bP y] (bD b)):APure prog 251 [bP y,.ro [yo f]] (bD (!b)):=by
 refine ap func251 ntmps251 λa=>?_
 repeat refine jH ?_
 exact Rt.pure rfl
theorem J5{f:FuncId}(y:au)(b:Bool)(hp:APure prog f [fF y] (bD b)):APure prog 209 [fF y,.ro [yo f]] (bD (!b)):=by
 refine ap func209 ntmps209 λa=>?_
 repeat refine jH ?_
 exact Rt.pure rfl
theorem J4{f:FuncId}(y:bX)(b:Bool)(hp:APure prog f [dl y] (bD b)):APure prog 214 [dl y,.ro [yo f]] (bD (!b)):=by
 refine ap func214 ntmps214 λa=>?_
 repeat refine jH ?_
 exact Rt.pure rfl
theorem J2{f:FuncId}(y:cI)(b:Bool)(hp:APure prog f [eM y] (bD b)):APure prog 218 [eM y,.ro [yo f]] (bD (!b)):=by
 refine ap func218 ntmps218 λa=>?_
 repeat refine jH ?_
 exact Rt.pure rfl
theorem jT{p:Prop}(h:p:=by
 rw[aA5]at HA
 repeat refine AQ ?_
 refine Rt.pure (zM bD ?_);simp):p:=h
theorem EU{f:FuncId}(l:List ByteArray)(p:ByteArray->Bool)(hl:l.length<=1000000)(a:∀y∈l,APure prog f [sD y] (bD (p y))):APure prog 215 [gI l,yo f] (bD (l.all p)):=by
 refine ap func215 ntmps215 λb=>?_;have h:=λy hy=>J1 (f:=f) y (p y) (a y hy);have HA:=JR l (λy=>!p y) hl h;exact jT
theorem P0{f:FuncId}{cs:List D}(l:List (Int×Int))(p:Int×Int->Bool)(hl:l.length<=1000000)(a:∀y∈l,APure prog f [.agg (du y),.ro cs] (bD (p y))):APure prog 216 [.sl 2 (l.map du),.clo f [.ro cs]] (bD (l.all p)):=by
 refine ap func216 ntmps216 λb=>?_;have h:=λy hy=>J3 (f:=f) y (p y) (a y hy);have HA:=EP l (λy=>!p y) hl h;exact jT
theorem P3{f:FuncId}(l:List am)(p:am->Bool)(hl:l.length<=1000000)(a:∀y∈l,APure prog f [bP y] (bD (p y))):APure prog 212 [yj l,yo f] (bD (l.all p)):=by
 refine ap func212 ntmps212 λb=>?_;have h:=λy hy=>J6 (f:=f) y (p y) (a y hy);have HA:=JW l (λy=>!p y) hl h;exact jT
theorem P2{f:FuncId}(l:List au)(p:au->Bool)(hl:l.length<=1000000)(a:∀y∈l,APure prog f [fF y] (bD (p y))):APure prog 159 [NC l,yo f] (bD (l.all p)):=by
 refine ap func159 ntmps159 λb=>?_;have h:=λy hy=>J5 (f:=f) y (p y) (a y hy);have HA:=JT l (λy=>!p y) hl h;exact jT
theorem P1{f:FuncId}(l:List bX)(p:bX->Bool)(hl:l.length<=1000000)(a:∀y∈l,APure prog f [dl y] (bD (p y))):APure prog 161 [Fj l,yo f] (bD (l.all p)):=by
 refine ap func161 ntmps161 λb=>?_;have h:=λy hy=>J4 (f:=f) y (p y) (a y hy);have HA:=bc4 l (λy=>!p y) hl h;exact jT
theorem PZ{f:FuncId}(l:List cI)(p:cI->Bool)(hl:l.length<=1000000)(a:∀y∈l,APure prog f [eM y] (bD (p y))):APure prog 163 [NA l,yo f] (bD (l.all p)):=by
 refine ap func163 ntmps163 λb=>?_;have h:=λy hy=>J2 (f:=f) y (p y) (a y hy);have HA:=tD l (λy=>!p y) hl h;exact jT
end
end Go.Proofs.YtilnpcolgcmofaaGreatDoor
