/- A part of the proof. -/
import Derived.Test.YtilnpcolgcmofaaGreatDoorC19
set_option maxRecDepth 100000
set_option maxHeartbeats 20000000
set_option linter.all false
namespace Go.Proofs.YtilnpcolgcmofaaGreatDoor
open Tryz
section
open Go
variable{α:Type}{i:Nat}{l:List α}{y:α}
def FL{p:α->Bool}(h:l[i]?=some y)(a:p y=false):l.all p=false:=by
 rw[vT];exact⟨y,zG h,by rw[a];simp⟩
def y2{p:α->Bool}(h:l[i]?=some y):(l.take (i+1)).all p=((l.take i).all p&&p y):=by
 rw[xC,h];simp
def Im{A B:Prop}(k:B)(h:ar B->A:=by intro q7;(first|refine bc ?_|refine aE ?_|(refine' aj ?hc ?_;(case hc=>exact HH)));exact q7.1):A:=h ⟨k⟩
def IV(ls:List ij)(cs:List Int)(hl:cs.length<=1000)(s:ls.length<=1000):APure prog 99 [Bi ls,bv cs] (bD (ls.all λl=>jU l cs)):=by
 refine ap func99 ntmps99 λf=>?_
 repeat refine Im ?_
 refine aO mixed ai (γ:=Nat) (λi=>[(5,iD i)]) (λ_=>[]) (λi=>i<=ls.length/\(ls.take i).all (λl=>jU l cs)=true) (λi=>ls.length-i) 0 (ah av) (Sc.refl _) ⟨zW _,rfl⟩ ?_;rintro i ⟨hi,e⟩;by_cases hil:i<ls.length
 .obtain⟨y,a⟩:∃y,ls[i]?=some y:=⟨_,zD hil⟩
  have hy:ls[((i:Nat):Int).toNat]?=some y:=a;have HH:=w9 y cs hl
  cases b:jU y cs with
  |true=>
   rw[b]at HH
   repeat refine Im ?_
   exact⟨i+1,(ah av),Sc.refl _,⟨by omega,by rw[y2 a,e,b];rfl⟩,by omega⟩
  |false=>
   rw[b]at HH
   repeat refine Im ?_
   refine Rt.pure (zM bD ?_);rw[FL (p:=λl=>jU l cs) a b]
 .obtain rfl:i=ls.length:=by omega
  rw[yM]at e
  repeat refine Im ?_
  refine Rt.pure (zM bD ?_);rw[e]
structure LmS(ls:List ij)(n:Nat):Prop where
 l:ls.length<=200
 v:∀l∈ls,(0<=l.a/\l.a<n)/\(-1<=l.b/\l.b<n)/\(0<=l.mul/\l.mul<=65536)
def ft(n:Nat):List ij->List Bool
 |[]=>List.replicate n false
 |l::s=>if 0<=l.b then(ft n s).set l.b.toNat true else ft n s
def aF9(n:Nat):∀s,(ft n s).length=n
 |[]=>by simp[ft]
 |l::s=>by
  rw[ft];split
  .rw[yR,aF9 n s]
  .exact aF9 n s
def rJ(f:α->D)(l:List α):(l.map λb=>[f b]).flatten=l.map f:=by
 induction l with
 |nil=>rfl
 |cons a l i=>simp[i]
variable{p:Prop}
def M0(h:p:=by
 repeat' first|refine au ?_|intro b;conv=>whnf
 exact⟨i+1,(ah av),Sc.refl _,by omega,by omega⟩):p:=h
def w8(ls:List ij)(n:Nat)(j:n<=100)(h:LmS ls n):APure prog 142 [iD n,Bi ls] (.sl 1 ((ft n ls.reverse).map λb=>[bD b])):=by
 have s:=h.l;refine ap func142 ntmps142 λl=>?_
 repeat' first|refine au ?_|intro b;conv=>whnf
 refine Mk.go n rfl rfl rfl rfl rfl (by simp) (by omega) (by omega) (λo=>?_)
 repeat' first|refine au ?_|intro b;conv=>whnf
 refine aO mixed ai (γ:=Nat) (λi=>[(6,iD i)]) (λi=>[(o,.cells 4 ((ft n (ls.take i).reverse).map bD))]) (λi=>i<=ls.length) (λi=>ls.length-i) 0 (ah av) (Sc.perm (by simp[ft,List.map_replicate];exact .inr rfl)) (zW _) ?_;intro i hi;by_cases hil:i<ls.length
 .obtain⟨y,a⟩:∃y,ls[i]?=some y:=⟨_,zD hil⟩
  have hy:ls[((i:Nat):Int).toNat]?=some y:=a;have v:=(h.v y (zG a)).2.1;have g:(ls.take (i+1)).reverse=y::(ls.take i).reverse:=by rw[xC,a,List.reverse_append];rfl
  have f:=aF9 n (ls.take i).reverse;by_cases hb:0<=y.b
  .have t:ft n (ls.take (i+1)).reverse=(ft n (ls.take i).reverse).set y.b.toNat true:=by rw[g,ft,if_pos hb]
   repeat' first|refine au ?_|intro b;conv=>whnf
   refine Sv.cellm (tb:=4) (cs':=(ft n (ls.take (i+1)).reverse).map bD) (τ:=[]) (zH _) (by rw[zL,f];omega) rfl (by rw[t,wL];simp) ?_;exact M0
  .have t:ft n (ls.take (i+1)).reverse=ft n (ls.take i).reverse:=by rw[g,ft,if_neg hb]
   repeat' first|refine au ?_|intro b;conv=>whnf
   exact⟨i+1,(ah av),(by rw[t];exact Sc.refl _),by omega,by omega⟩
 .obtain rfl:i=ls.length:=by omega
  rw[yM];have f:=aF9 n ls.reverse;generalize ft n ls.reverse=L at *;subst f
  repeat' first|refine au ?_|intro b;conv=>whnf
  have r:=Rm (e:=4) (k:=1) (xs:=L.map λb=>[bD b]) o (λy hy=>by obtain⟨_,_,rfl⟩:=xM.1 hy;rfl) (by rw[zL];unfold maxLen;omega);rw[rJ,zL]at r;exact Rt.vs (Vs.row r (bR _))
def bt(now:List Int):List ij->Int×Int
 |[]=>(0,65536)
 |l::s=>if l.a≠now.length\/(now.length:Int)<=l.b then bt now s else if l.least then(max (bt now s).1 (eF l now),(bt now s).2)else((bt now s).1,min (bt now s).2 (eF l now))
structure cT(cs:List Int):Prop where
 l:cs.length<=100
 v:∀c∈cs,0<=c/\c<=65536
def Fp{l:ij}{now:List Int}(h:0<=l.mul/\l.mul<=65536)(n:cT now):0<=eF l now/\eF l now<=4294967296:=by
 unfold eF;split
 .have:0<=now.getD l.b.toNat 0/\now.getD l.b.toNat 0<=65536:=by
   rw[List.getD_eq_getElem?_getD]
   cases hx:now[l.b.toNat]? with
   |none=>simp
   |some c=>exact n.v c (zG hx)
  exact⟨Int.mul_nonneg h.1 this.1,Int.mul_le_mul (c:=65536) (d:=65536) h.2 this.2 this.1 (by decide)⟩
 .omega
def lM{now:List Int}(n:cT now):∀{s:List ij},(∀l∈s,0<=l.mul/\l.mul<=65536)->(0<=(bt now s).1/\(bt now s).1<=4294967296)/\(0<=(bt now s).2/\(bt now s).2<=65536)
 |[],_=>by simp[bt]
 |l::s,h=>by
  have i:=lM n (s:=s) λz a=>h z (yQ _ a);have b:=Fp (h l yN) n;rw[bt];split
  .exact i
  .split<;>simp only<;>omega
def YV(h:p:=by
 have e3:(bt now (ls.take (i+1)).reverse).2=(bt now (ls.take i).reverse).2:=by rw[e1]
 repeat refine au ?_
 exact⟨i+1,(ah av),Sc.refl _,by omega,by omega⟩):p:=h
def YT(h:p:=by
 have e3:(bt now (ls.take (i+1)).reverse).1=(bt now (ls.take i).reverse).1:=by rw[e1]
 repeat refine au ?_
 exact⟨i+1,(ah av),Sc.refl _,by omega,by omega⟩):p:=h
def hZ(h:p:=by
 repeat refine au ?_
 exact⟨i+1,(ah av),Sc.refl _,by omega,by omega⟩):p:=h
def Cx(ls:List ij)(now:List Int)(k:cT now)(n:Nat)(h:LmS ls n):APure prog 187 [Bi ls,bv now] (.tup [iD (bt now ls.reverse).1,iD (bt now ls.reverse).2]):=by
 have s:=h.l;have r:=k.l;refine ap func187 ntmps187 λw=>?_
 repeat refine au ?_
 refine aO mixed ai (γ:=Nat) (λi=>[(7,iD (bt now (ls.take i).reverse).1),(8,iD (bt now (ls.take i).reverse).2),(9,iD i)]) (λi=>[]) (λi=>i<=ls.length) (λi=>ls.length-i) 0 (ah av) (Sc.refl _) (zW _) ?_;intro i hi;by_cases hil:i<ls.length
 .obtain⟨y,a⟩:∃y,ls[i]?=some y:=⟨_,zD hil⟩
  have hy:ls[((i:Nat):Int).toNat]?=some y:=a;have v:=h.v y (zG a);have b:(ls.take (i+1)).reverse=y::(ls.take i).reverse:=by rw[xC,a,List.reverse_append];rfl
  have q:=lM k (s:=(ls.take i).reverse) λz o=>(h.v z (xG (List.mem_reverse.1 o))).2.2;have f:=Fp v.2.2 k;by_cases hc:y.a≠now.length\/(now.length:Int)<=y.b
  .have e1:bt now (ls.take (i+1)).reverse=bt now (ls.take i).reverse:=by rw[b,bt,if_pos hc]
   have g:(bt now (ls.take (i+1)).reverse).1=(bt now (ls.take i).reverse).1:=by rw[e1]
   have e3:(bt now (ls.take (i+1)).reverse).2=(bt now (ls.take i).reverse).2:=by rw[e1]
   by_cases hca:y.a=now.length
   .have t:(now.length:Int)<=y.b:=hc.resolve_left (by omega);exact hZ
   .exact hZ
  .have u:y.a=now.length:=by omega
   have hb:y.b<now.length:=by omega
   have e1:bt now (ls.take (i+1)).reverse=if y.least then(max (bt now (ls.take i).reverse).1 (eF y now),(bt now (ls.take i).reverse).2)else((bt now (ls.take i).reverse).1,min (bt now (ls.take i).reverse).2 (eF y now)):=by rw[b,bt,if_neg hc]
   by_cases hy1:0<=y.b
   .obtain⟨z,j⟩:∃z,now[y.b.toNat]?=some z:=⟨_,zD (by omega)⟩
    have l:eF y now=y.mul*z:=by unfold eF;rw[if_pos hy1,List.getD_eq_getElem?_getD,j];rfl
    rw[l]at e1 f
    cases e:y.least with
    |true=>
     rw[e,if_pos rfl]at e1;have g:(bt now (ls.take (i+1)).reverse).1=if(bt now (ls.take i).reverse).1<y.mul*z then y.mul*z else(bt now (ls.take i).reverse).1:=by rw[e1,D9]
     exact YV
    |false=>
     rw[e,if_neg (by decide)]at e1;have g:(bt now (ls.take (i+1)).reverse).2=if y.mul*z<(bt now (ls.take i).reverse).2 then y.mul*z else(bt now (ls.take i).reverse).2:=by rw[e1,ug]
     exact YT
   .have l:eF y now=y.mul:=by unfold eF;rw[if_neg hy1]
    rw[l]at e1 f
    cases e:y.least with
    |true=>
     rw[e,if_pos rfl]at e1;have g:(bt now (ls.take (i+1)).reverse).1=if(bt now (ls.take i).reverse).1<y.mul then y.mul else(bt now (ls.take i).reverse).1:=by rw[e1,D9]
     exact YV
    |false=>
     rw[e,if_neg (by decide)]at e1;have g:(bt now (ls.take (i+1)).reverse).2=if y.mul<(bt now (ls.take i).reverse).2 then y.mul else(bt now (ls.take i).reverse).2:=by rw[e1,ug]
     exact YT
 .obtain rfl:i=ls.length:=by omega
  rw[yM]
  repeat refine au ?_
  exact Rt.pure rfl
end
section
open Go
def jv(a b:List Int):Nat->Int
 |0=>0
 |k+1=>jv a b k+(if a.getD k 0-b.getD k 0<b.getD k 0-a.getD k 0 then b.getD k 0-a.getD k 0 else a.getD k 0-b.getD k 0)
def dst(a b:List Int):Int:=jv a b (min a.length b.length)
variable{cs:List Int}
def cT.at_(h:cT cs)(k:Nat):0<=cs.getD k 0/\cs.getD k 0<=65536:=by
 rw[List.getD_eq_getElem?_getD]
 cases hx:cs[k]? with
 |none=>simp
 |some c=>exact h.v c (zG hx)
def EO{a b:List Int}(c:cT a)(h:cT b):∀k,0<=jv a b k/\jv a b k<=65536*(k:Int)
 |0=>by simp[jv]
 |k+1=>by
  have i:=EO c h k;have e:=c.at_ k;have d:=h.at_ k;rw[jv];split<;>omega
def oh(a b:List Int)(g:cT a)(hb:cT b):APure prog 233 [bv a,bv b] (iD (dst a b)):=by
 have q:=g.l;have l:=hb.l;refine ap func233 ntmps233 λt=>?_
 repeat refine au ?_
 refine aO mixed ai (γ:=Nat) (λi=>[(5,iD (jv a b i)),(6,iD i)]) (λi=>[]) (λi=>i<=a.length/\i<=b.length) (λi=>a.length-i) 0 (ah av) (Sc.refl _) ⟨zW _,zW _⟩ ?_;rintro i ⟨hi,hj⟩;have o:=EO g hb i;by_cases hil:i<a.length
 .by_cases hjl:i<b.length
  .obtain⟨y,f⟩:∃y,a[i]?=some y:=⟨_,zD hil⟩
   obtain⟨z,e⟩:∃z,b[i]?=some z:=⟨_,zD hjl⟩
   have hy:a[((i:Nat):Int).toNat]?=some y:=f;have r:b[((i:Nat):Int).toNat]?=some z:=e;have j:=g.v y (zG f);have v:=hb.v z (zG e);have s:jv a b (i+1)=jv a b i+(if y-z<z-y then z-y else y-z):=by
    rw[jv,List.getD_eq_getElem?_getD,List.getD_eq_getElem?_getD,f,e];rfl
   have k:cp (jv a b i+(if y-z<z-y then z-y else y-z)):=by split<;>(constructor<;>omega)
   repeat refine au ?_
   exact⟨i+1,(ah av),Sc.refl _,⟨by omega,by omega⟩,by omega⟩
  .obtain rfl:i=b.length:=by omega
   repeat refine au ?_
   refine Rt.pure (zM iD ?_);unfold dst;rw[Nat.min_eq_right (by omega)]
 .obtain rfl:i=a.length:=by omega
  repeat refine au ?_
  refine Rt.pure (zM iD ?_);unfold dst;rw[vH (by omega)]
def mu:List Int->List Int->Bool
 |x::a,y::s=>if x=y then mu a s else decide (x<y)
 |_,_=>false
def o3{α:Type}{l:List α}{i:Nat}{y:α}(h:l[i]?=some y):l.drop i=y::l.drop (i+1):=by
 obtain⟨b,a⟩:=zE.1 h;rw[vG b,a]
def qJ(a b:List Int)(k:cT a)(hb:cT b):APure prog 234 [bv a,bv b] (bD (mu a b)):=by
 have j:=k.l;have l:=hb.l;refine ap func234 ntmps234 λq=>?_
 repeat refine au ?_
 refine aO mixed ai (γ:=Nat) (λi=>[(5,iD i)]) (λi=>[]) (λi=>(i<=a.length/\i<=b.length)/\mu a b=mu (a.drop i) (b.drop i)) (λi=>a.length-i) 0 (ah av) (Sc.refl _) ⟨⟨zW _,zW _⟩,rfl⟩ ?_;rintro i ⟨⟨hi,hj⟩,e⟩;by_cases hil:i<a.length
 .by_cases hjl:i<b.length
  .obtain⟨y,g⟩:∃y,a[i]?=some y:=⟨_,zD hil⟩
   obtain⟨z,f⟩:∃z,b[i]?=some z:=⟨_,zD hjl⟩
   have hy:a[((i:Nat):Int).toNat]?=some y:=g;have o:b[((i:Nat):Int).toNat]?=some z:=f;rw[o3 g,o3 f,mu]at e;by_cases hyz:y=z
   .rw[if_pos hyz]at e
    repeat refine au ?_
    exact⟨i+1,(ah av),Sc.refl _,⟨⟨by omega,by omega⟩,e⟩,by omega⟩
   .rw[if_neg hyz]at e
    repeat refine au ?_
    refine Rt.pure (zM bD ?_);rw[e]
  .obtain rfl:i=b.length:=by omega
   have:mu (a.drop b.length) (b.drop b.length)=false:=by rw[List.drop_length];cases a.drop b.length<;>rfl
   repeat refine au ?_
   refine Rt.pure (zM bD ?_);rw[e,this]
 .obtain rfl:i=a.length:=by omega
  have:mu (a.drop a.length) (b.drop a.length)=false:=by rw[List.drop_length];rfl
  repeat refine au ?_
  refine Rt.pure (zM bD ?_);rw[e,this]
def rY(want a b:List Int):List Int:=if a.length=0 then b else if b.length=0 then a else if dst want a=dst want b then(if mu b a then b else a)else if dst want a<dst want b then a else b
def QG(want a b:List Int):rY want a b=a\/rY want a b=b:=by
 unfold rY
 repeat' split
 all_goals first|exact .inl rfl|exact .inr rfl
def S5{A B:Prop}(k:B)(h:ar B->A:=by intro q7;(first|refine bc ?_|refine aE ?_|(refine' aj ?hc ?_;(case hc=>first|exact H1|exact H2|exact H3)));exact q7.1):A:=h ⟨k⟩
variable{p:Prop}
def M1(h:p:=by
 rw[h4]at H3;refine ap func188 ntmps188 λBB=>?_
 repeat refine S5 ?_
 exact Rt.pure rfl):p:=h
def uD(h:p:=by
 refine ap func188 ntmps188 λBB=>?_
 repeat refine S5 ?_
 exact Rt.pure rfl):p:=h
def qI(want a b:List Int)(w:cT want)(e:cT a)(hb:cT b):APure prog 188 [bv want,bv a,bv b] (bv (rY want a b)):=by
 have f:=e.l;have l:=hb.l;have H1:=oh want a w e;have H2:=oh want b w hb;have H3:=qJ b a hb e;unfold rY;by_cases h1:a.length=0
 .rw[if_pos h1];exact uD
 rw[if_neg h1];by_cases h2:b.length=0
 .rw[if_pos h2];exact uD
 rw[if_neg h2];generalize dst want a=d1 at *;generalize dst want b=d2 at *;by_cases h3:d1=d2
 .rw[if_pos h3]
  cases h4:mu b a with
  |true=>exact M1
  |false=>exact M1
 .rw[if_neg h3];by_cases h4:d1<d2
  .rw[if_pos h4];exact uD
  .rw[if_neg h4];exact uD
def Fg(w lo h:Int):Int:=if h<(if w<lo then lo else w)then h else(if w<lo then lo else w)
def ph(want:List Int)(g:Int->List Int)(lo:Int):Nat->List Int
 |0=>[]
 |m+1=>rY want (ph want g lo m) (g (lo+m))
def uV(ls:List ij)(lead:List Bool)(want:List Int):Nat->List Int->List Int
 |0,w=>w
 |f+1,w=>if(bt w ls.reverse).2<(bt w ls.reverse).1 then[]else if lead.getD w.length false then ph want (λn=>uV ls lead want f (w++[n])) (bt w ls.reverse).1 ((bt w ls.reverse).2+1-(bt w ls.reverse).1).toNat
  else uV ls lead want f (w++[Fg (want.getD w.length 0) (bt w ls.reverse).1 (bt w ls.reverse).2])
def LI(n:Nat)(cs:List Int):Prop:=cT cs/\(cs=[]\/cs.length=n)
def cT.snoc(h:cT cs)(l:cs.length<100){n:Int}(b:0<=n/\n<=65536):cT (cs++[n]):=
 ⟨by rw[zI,List.length_singleton];omega,λc a=>by
  rcases zO.1 a with a|a
  .exact h.v c a
  .rw[zN]at a;subst a;exact b⟩
def oz(n:Nat):LI n []:=⟨⟨by simp,by simp⟩,.inl rfl⟩
def mq{want:List Int}{g:Int->List Int}{lo:Int}{n:Nat}:∀m:Nat,(∀q:Nat,q<m->LI n (g (lo+q)))->LI n (ph want g lo m)
 |0,_=>oz n
 |m+1,h=>by
  have i:=mq (want:=want) m λq a=>h q (by omega);rw[ph];rcases QG want (ph want g lo m) (g (lo+m))with e|e<;>rw[e]
  .exact i
  .exact h m (by omega)
def Kh(h:p:=by rw[zI,List.length_singleton];omega):p:=h
def aN4{ls:List ij}{lead:List Bool}{want:List Int}(m:∀l∈ls,0<=l.mul/\l.mul<=65536)(w:want.length<=90):∀(f:Nat)(n:List Int),cT n->n.length+f=want.length->LI want.length (uV ls lead want f n)
 |0,n,a,e=>⟨a,.inr (by rw[uV];omega)⟩
 |f+1,n,a,e=>by
  have r:=lM a (s:=ls.reverse) λz b=>m z (List.mem_reverse.1 b);rw[uV];split
  .exact oz _
  rename_i c;split
  .refine mq _ λq d=>aN4 m w f _ (a.snoc (by omega) (by omega)) Kh
  .refine aN4 m w f _ (a.snoc (by omega) ?_) Kh;unfold Fg;split<;>(try split)<;>omega
def ja{A B:Prop}(k:B)(h:ar B->A:=by intro q7;(first|refine bc ?_|refine aE ?_|(refine' aj ?hc ?_;(case hc=>first|exact HR|exact HN|exact HB)));exact q7.1):A:=h ⟨k⟩
def aQ5(ls:List ij)(lead:List Bool)(want:List Int)(L:LmS ls want.length)(J:cT want)(k:want.length<=90)(D:lead.length=want.length):∀(f:Nat)(w:List Int),cT w->w.length+f=want.length->APure prog 144 [Bi ls,.sl 1 (lead.map λb=>[bD b]),bv want,bv w] (bv (uV ls lead want f w))
 |0,w,x,U=>by
  rw[uV];refine ap func144 ntmps144 λG=>?_
  repeat' first|refine ja ?_|intro b;conv=>whnf
  (refine Ap.go rfl rfl rfl rfl (ab.e0 _ _ (some ⟨b,0,none⟩)) (bR _) (FY w) (zs:=w.map λn=>[iD n]) rfl (by simp;omega) (by simp;omega) (λs=>s) dF (λP M I a=>?_))
  repeat' first|refine ja ?_|intro b;conv=>whnf
  exact Rt.vs (Vs.row a (bR _))
 |f+1,w,x,U=>by
  have K:∀l∈ls,0<=l.mul/\l.mul<=65536:=λl hl=>(L.v l hl).2.2;have HR:=Cx ls w x want.length L;have S:=lM x (s:=ls.reverse) λz Q=>K z (List.mem_reverse.1 Q);have t:=λn(h:0<=n/\n<=65536)=>aQ5 ls lead want L J k D f (w++[n]) (x.snoc (by omega) h) Kh;have u:=λn(h:0<=n/\n<=65536)=>aN4 (lead:=lead) K k f (w++[n]) (x.snoc (by omega) h) Kh;rw[uV];generalize bt w ls.reverse=r at *;obtain⟨o,hi⟩:=r;simp only at *;by_cases hlh:hi<o
  .rw[if_pos hlh];refine ap func144 ntmps144 λG=>?_
   repeat' first|refine ja ?_|intro b;conv=>whnf
   exact Rt.vs (Vs.row (ab.nil 3 1) (bR _))
  rw[if_neg hlh];obtain⟨O,j⟩:∃y,lead[w.length]?=some y:=⟨_,zD (by omega)⟩
  have V:lead[(((w.map λn=>[iD n]).length:Nat):Int).toNat]?=some O:=by rw[zL];exact j
  rw[List.getD_eq_getElem?_getD,j,Option.getD_some]
  cases O with
  |false=>
   rw[if_neg (by decide)];obtain⟨C,e⟩:∃y,want[w.length]?=some y:=⟨_,zD (by omega)⟩
   have R:want[(((w.map λn=>[iD n]).length:Nat):Int).toNat]?=some C:=by rw[zL];exact e
   rw[List.getD_eq_getElem?_getD,e,Option.getD_some];have HN:=t (Fg C o hi) (by unfold Fg;split<;>(try split)<;>omega);refine ap func144 ntmps144 λG=>?_
   repeat' first|refine ja ?_|intro b;conv=>whnf
   (refine Ap.go rfl rfl rfl rfl (ab.e0 _ _ (some ⟨b,0,none⟩)) (bR _) (FY w) (zs:=w.map λn=>[iD n]) rfl (by simp;omega) (by simp;omega) (λs=>s) dF (λP M I a=>?_))
   repeat' first|refine ja ?_|intro b;conv=>whnf
   refine Ap.frz rfl rfl rfl rfl a (bR _) rfl (zs:=(w++[Fg C o hi]).map λn=>[iD n]) (by rw[yB];rfl) (by simp;omega) (by simp;omega) ?_
   repeat' first|refine ja ?_|intro b;conv=>whnf
   exact Rt.pure rfl
  |true=>
   rw[if_pos rfl];refine ap func144 ntmps144 λG=>?_
   repeat' first|refine ja ?_|intro b;conv=>whnf
   refine pW (i:=12) (d:=.v (.slice none 0 0)) (d':=bv []) (τ:=[]) rfl (λh=>by cases h) (Vs.row (ab.nil 3 1) (bR _)) ?_;refine aO mixed ai (γ:=Nat) (λm=>[(12,bv (ph want (λn=>uV ls lead want f (w++[n])) o m)),(13,iD (o+(m:Int)))]) (λ_=>[]) (λm=>m<=(hi+1-o).toNat) (λm=>(hi+1-o).toNat-m) 0 (ah av) (Sc.refl _) (zW _) ?_;intro m T;by_cases hml:m<(hi+1-o).toNat
   .have F:=mq (want:=want) (lo:=o) (n:=want.length) (g:=λn=>uV ls lead want f (w++[n])) m λq X=>u (o+q) (by omega);have E:=u (o+m) (by omega);have HN:=t (o+m) (by omega);have HB:=qI want _ _ J F.1 E.1;have Y:ph want (λn=>uV ls lead want f (w++[n])) o (m+1)=rY want (ph want (λn=>uV ls lead want f (w++[n])) o m) (uV ls lead want f (w++[o+(m:Int)])):=rfl
    repeat' first|refine ja ?_|intro b;conv=>whnf
    (refine Ap.go rfl rfl rfl rfl (ab.e0 _ _ (some ⟨b,0,none⟩)) (bR _) (FY w) (zs:=w.map λn=>[iD n]) rfl (by simp;omega) (by simp;omega) (λs=>s) dF (λP M I a=>?_))
    repeat' first|refine ja ?_|intro b;conv=>whnf
    refine Ap.frz rfl rfl rfl rfl a (bR _) rfl (zs:=(w++[o+(m:Int)]).map λn=>[iD n]) (by rw[yB];rfl) (by simp;omega) (by simp;omega) ?_
    repeat' first|refine ja ?_|intro b;conv=>whnf
    exact⟨m+1,(ah av),Sc.refl _,by omega,by omega⟩
   .obtain rfl:m=(hi+1-o).toNat:=by omega
    repeat' first|refine ja ?_|intro b;conv=>whnf
    exact Rt.pure rfl
end
section
open Go
def lF{A B:Prop}(k:B)(h:ar B->A:=by intro q7;(first|refine bh ?_|refine aE ?_|(refine' aj ?hc ?_;(case hc=>first|exact An _ _ (by assumption)|exact nd _ _ (by assumption))));exact q7.1):A:=h ⟨k⟩
def bh2(s:List an):APure prog 85 [mV s] (bD (l3 s)):=by
 refine ap func85 ntmps85 λa=>?_
 cases s with
 |nil=>
  repeat' first|refine lF ?_|(refine aZ ?_;constructor<;>intro hc)
  refine Rt.pure (zM bD ?_);rfl
 |cons f r=>
  repeat' first|refine lF ?_|(refine aZ ?_;constructor<;>intro hc)
  all_goals(refine Rt.pure (zM bD ?_);simp_all[l3])
def aS(p:eZ):List D:=[iD p.1,iD p.2.1,iD p.2.2.1,iD p.2.2.2]
def QO(l:List eZ)(v:Value)(s:ae)(k f r e:Int)(g:ab 128 4 (l.map aS) v s)(hl:l.length<=1000000) :
  az prog 84 [.v v,iD k,iD f,iD r,iD e] s (λd b=>∃i,d= .v i/\ab 128 4 ((l++one k f r e).map aS) i b):=by
 refine dB func84 ntmps84 λj=>?_
 repeat' first|refine lF ?_|(refine aZ ?_;constructor<;>intro hc)
 .refine Rt.same ⟨v,rfl,?_⟩;unfold one;rw[if_pos (by omega)];simpa using g
 .refine Ap.go rfl rfl rfl rfl g (bR _) rfl (zs:=(l++one k f r e).map aS) (by unfold one;rw[if_neg (by omega)];simp[aS]) (by simp[one];split<;>simp<;>omega) (by simp[one];split<;>simp<;>omega) (λb=>b) dF (λa c b g=>?_)
  repeat refine lF ?_
  exact Rt.same ⟨_,rfl,g⟩
variable{p:Prop}
def Nb(h:p:=by
 rw[wC];exact⟨s,zG (i:=m) (by rw[yX,if_pos hm];exact hs),h⟩):p:=h
variable{i:Nat}{x:ak}{r:cH}
def aY8{m:Nat}{s:cH}(hm:m<i)(hs:x.rules[m]?=some s)(h:seq s.name r.name=true):pI x i r=true:=by
 unfold pI;exact Nb
def YR(h:p:=by
 rw[List.any_eq_false];intro s hs;obtain⟨m,hm⟩:=yO hs;rw[yX]at hm;split at hm
 .rename_i hlt;simp[h m s hlt hm]
 .cases hm):p:=h
def aK1(h:∀(m:Nat)y,m<i->x.rules[m]?=some y->seq y.name r.name=false):pI x i r=false:=by
 unfold pI;exact YR
def nZ(h:pI x i r=true):j5 x i r=7:=by
 unfold j5;split<;>rw[h]<;>rfl
def bg1(h:pI x i r=false)(k:dN x (bi x r.kind)=none):j5 x i r=12:=by
 simp only[j5,k,h];rfl
variable{k:aq}
def qu(h:pI x i r=false)(a:dN x (bi x r.kind)=some k) :
  j5 x i r=if fC x k (bi x r.kind) r.a=true\/fC x k (bi x r.kind) r.b=true then 12 else if gm x k (bi x r.kind) r.a=true\/gm x k (bi x r.kind) r.b=true then 13 else if seq r.a r.b=true then 1 else 0:=by
 simp only[j5,a,h]
 cases fC x k (bi x r.kind) r.a<;>cases fC x k (bi x r.kind) r.b<;>cases gm x k (bi x r.kind) r.a<;>cases gm x k (bi x r.kind) r.b<;>cases seq r.a r.b<;>rfl
variable{g:an}
def be1{i j:Int}(c:0<=i)(h:x.kz[i.toNat]?=some k)(a:0<=j)(b:k.fields[j.toNat]?=some g):iC x i j=(g,true):=by
 unfold iC;rw[K9 c a h,b]
def po{i j:Int}(h:j<0):iC x i j=(zf,false):=by
 unfold iC;rw[am8 (by omega)]
def Jj(x:ak)(k:aq)(o:Int){n:ByteArray}(h:(n.toList==({ data:=#[] }:ByteArray).toList)=true):fC x k o n=false/\gm x k o n=false:=by rw[pU]at h;simp[fC,gm,h]
def MC(x:ak)(k:aq)(o:Int){n:ByteArray}(h:(n.toList==({ data:=#[] }:ByteArray).toList)=false)(i:bb k n<0):fC x k o n=true:=by rw[pU]at h;simp[fC,h,po i]
def MB{o:Int}{n:ByteArray}(h:(n.toList==({ data:=#[] }:ByteArray).toList)=false)(c:0<=o)(a:x.kz[o.toNat]?=some k)(j:0<=bb k n)(b:k.fields[(bb k n).toNat]?=some g) :
  fC x k o n=false/\gm x k o n=(!decide (g.kind=2) && !decide (g.kind=4)):=by
 rw[pU]at h;simp only[fC,gm,h,be1 c a j b];refine⟨rfl,?_⟩;by_cases h2:g.kind=2<;>by_cases h4:g.kind=4<;>simp[h2,h4]
def bk5(x:ak)(k:aq)(o:Int)(r:cH)(g:Nat×Bool):Prop:=(g.1=0/\g.2=false)\/(g.1=1/\fC x k o r.a=false/\g.2=gm x k o r.a)\/(g.1=2/\fC x k o r.a=false/\fC x k o r.b=false/\g.2=(gm x k o r.a||gm x k o r.b))
def bh0(x:ak)(i:Nat)(r:cH)(hl:x.kz.length<=1000000)(J:∀k∈x.kz,k.fields.length<=1000000)(u:x.rules.length<=1000000)(v:x.rules[i]?=some r):APure prog 87 [aw x,iD i] (iD (j5 x i r)):=by
 refine ap func87 ntmps87 λL=>?_
 repeat' first|refine lF ?_|intro b;conv=>whnf|refine bg.mk λy hy=>?_|(refine aZ ?_;constructor<;>intro hc)
 refine gD mixed ai (γ:=Nat) (λq=>[(6,iD q)]) (λ_=>[(b,.cells 96 (cX r))]) (λq=>q<=i/\∀(m:Nat)y,m<q->x.rules[m]?=some y->seq y.name r.name=false) (λq=>i-q) 0 rfl rfl ⟨by omega,λm y hm=>by omega⟩ ?_;rintro q ⟨K,hno⟩;have D:=(zE.1 v).1;have C:=az4 x r.kind
 repeat' first|refine lF ?_|intro b;conv=>whnf|refine bg.mk λy hy=>?_|(refine aZ ?_;constructor<;>intro hc)
 .refine Rt.pure (zM iD ?_);exact(nZ (aY8 (m:=q) (by omega) hy (by assumption))).symm
 .exact Y2
 .obtain rfl:q=i:=by omega
  refine Rt.pure (zM iD ?_);exact(bg1 (aK1 hno) (by unfold dN;rw[if_neg (by omega)])).symm
 .obtain rfl:q=i:=by omega
  obtain⟨k,s⟩:∃k,x.kz[(bi x r.kind).toNat]?=some k:=⟨_,zD (by omega)⟩
  have t:dN x (bi x r.kind)=some k:=by unfold dN;rw[if_pos (by omega)];exact s
  have E:=qu (aK1 hno) t;have F:=J k (zG s);have I:=KW k r.a;have G:=KW k r.b;refine gD mixed ai (γ:=Nat×Bool) (λg=>[(9,bD g.2),(10,iD g.1)]) (λ_=>[(b,.cells 96 (cX r))]) (bk5 x k (bi x r.kind) r) (λg=>2-g.1) (0,false) rfl rfl (.inl ⟨rfl,rfl⟩) ?_;rintro⟨j,w⟩ (⟨rfl,rfl⟩|⟨rfl,l,rfl⟩|⟨rfl,l,hb,rfl⟩)
  .repeat' first|refine lF ?_|intro b;conv=>whnf|refine bg.mk λy hy=>?_|(refine aZ ?_;constructor<;>intro hc)
   .exact⟨(1,false),rfl,rfl,.inr (.inl ⟨rfl,(Jj x k _ ‹_›).1,(Jj x k _ ‹_›).2.symm⟩),by simp⟩
   .refine Rt.pure (zM iD ?_);rw[E,if_pos (.inl (MC x k _ ‹_› (by omega)))]
   all_goals
    have a:=MB (x:=x) (k:=k) (o:=bi x r.kind) (n:=r.a) ‹_› (by omega) s (by omega) hy
    first
    |exact⟨(1,!decide (y.kind=4)),rfl,rfl,.inr (.inl ⟨rfl,a.1,by rw[a.2];simp[*]⟩),by simp⟩
    |exact⟨(1,false),rfl,rfl,.inr (.inl ⟨rfl,a.1,by rw[a.2];simp[*]⟩),by simp⟩
  .generalize f:gm x k (bi x r.kind) r.a=w
   repeat' first|refine lF ?_|intro b;conv=>whnf|refine bg.mk λy hy=>?_|(refine aZ ?_;constructor<;>intro hc)
   .exact⟨(2,w),rfl,rfl,.inr (.inr ⟨rfl,l,(Jj x k _ ‹_›).1,by rw[(Jj x k _ (n:=r.b) ‹_›).2,f];simp⟩),by simp⟩
   .refine Rt.pure (zM iD ?_);rw[E,if_pos (.inr (MC x k _ ‹_› (by omega)))]
   all_goals
    have a:=MB (x:=x) (k:=k) (o:=bi x r.kind) (n:=r.b) ‹_› (by omega) s (by omega) hy
    first
    |exact⟨(2,true),rfl,rfl,.inr (.inr ⟨rfl,l,a.1,by rw[a.2,f];simp[*]⟩),by simp⟩
    |exact⟨(2,!decide (y.kind=4)),rfl,rfl,.inr (.inr ⟨rfl,l,a.1,by rw[a.2,f];simp[*]⟩),by simp⟩
    |exact⟨(2,false),rfl,rfl,.inr (.inr ⟨rfl,l,a.1,by rw[a.2,f];simp[*]⟩),by simp⟩
  .generalize f:(gm x k (bi x r.kind) r.a||gm x k (bi x r.kind) r.b)=w;rw[if_neg (by simp[l,hb])]at E;simp only[←xO,f]at E
   repeat' first|refine lF ?_|intro b;conv=>whnf|refine bg.mk λy hy=>?_|(refine aZ ?_;constructor<;>intro hc)
   all_goals(refine Rt.pure (zM iD ?_);rw[E];simp[*,seq])
end
section
open Go
variable{i:Nat}{x:ak}
def bc0{m:Nat}{l s:bG}(hm:m<i)(hs:x.lz[m]?=some s)(h:seq s.name l.name=true):KO x i l=true:=by
 unfold KO;exact Nb
def lX{l:bG}(h:∀(m:Nat)y,m<i->x.lz[m]?=some y->seq y.name l.name=false):KO x i l=false:=by
 unfold KO;exact YR
def ez{A B:Prop}(k:B)(h:ar B->A:=by intro q7;(first|refine bh ?_|refine aE ?_|(refine' aj ?hc ?_;(case hc=>first|exact HV|exact bh2 _|exact An _ _ (by assumption)|exact nd _ _ (by assumption)|exact bh1 _ _ _ _ (by assumption) (by assumption) (by assumption) (by assumption)|exact bh0 _ _ _ (by assumption) (by assumption) (by assumption) (by assumption))));exact q7.1):A:=h ⟨k⟩
variable{p:Prop}
def cq6(h:p:=by
 have hyf:=hnf y (zG hy);have hyl:y.fields.length<=1000000:=by omega
 have ho1:=Ad q (-1) (-1) (fz x q y);have hy:x.kz[q]?=some y:=hy;have hSK:=gE q (eu x);rw[show eu x q=one q (-1) (-1) (fz x q y)++am y.fields.length (fU x q y) by simp only[eu,hy]]at hSK;refine bu (QO (L++am q (eu x)) _ _ _ _ _ _ (by assumption) (by(try simp only[zI]);omega)) (bR _) (λs'=>s') dF ?_;rintro _ s' ⟨v',rfl,hr'⟩
 repeat' first|refine ez ?_|refine bg.mk λy hy=>?_
 have hrow1:ab 128 4 ((L++am q (eu x)++one q (-1) (-1) (fz x q y)).map aS) v' s':=by rw[hE];exact hr'
 refine gD mixed ai (γ:=Nat×Value×ae) (λg=>[(4,.v g.2.1),(9,iD g.1)]) (λg=>g.2.2) (λg=>g.1<=y.fields.length/\ab 128 4 ((L++am q (eu x)++one q (-1) (-1) (fz x q y)++am g.1 (fU x q y)).map aS) g.2.1 g.2.2) (λg=>y.fields.length-g.1) (0,v',s') rfl rfl ⟨zW _,by simpa [am]using hrow1⟩ ?_;rintro⟨j,v,s⟩ ⟨hj,hrow2⟩;simp only at hj hrow2⊢;have hlen3:=fa (ax0 x q y) j;have hS:=gE j (fU x q y);by_cases hjl:j<y.fields.length
 .obtain⟨f,hf0⟩:∃f,y.fields[j]?=some f:=⟨_,zD hjl⟩
  have hfa:fieldAt x q j=some f:=by rw[K9 (by omega) (by omega) hy];exact hf0
  rw[show fU x q y j=one q j (-1) (m' x q y j f) by simp only[fU,hf0]]at hS
  repeat' first|refine ez ?_|refine bg.mk λy hy=>?_|(refine aZ ?_;constructor<;>intro hc)
  .rw[show m' x q y j f=7 by unfold m';rw[if_pos (by assumption)]]at hS;refine bu (QO (L++am q (eu x)++one q (-1) (-1) (fz x q y)++am j (fU x q y)) _ _ _ _ _ _ (by assumption) (by(try simp only[zI]);omega)) (bR _) (λs'=>s') dF ?_;rintro _ s' ⟨v',rfl,hr'⟩
   repeat' first|refine ez ?_|refine bg.mk λy hy=>?_
   exact⟨(j+1,v',s'),rfl,rfl,⟨by simp only;omega,by simp only;rw[hS,←zV];exact hr'⟩,by simp only;omega⟩
  .rw[show m' x q y j f=cP x q j f by unfold m';rw[if_neg (by assumption)]]at hS;refine bu (QO (L++am q (eu x)++one q (-1) (-1) (fz x q y)++am j (fU x q y)) _ _ _ _ _ _ (by assumption) (by(try simp only[zI]);omega)) (bR _) (λs'=>s') dF ?_;rintro _ s' ⟨v',rfl,hr'⟩
   repeat' first|refine ez ?_|refine bg.mk λy hy=>?_
   exact⟨(j+1,v',s'),rfl,rfl,⟨by simp only;omega,by simp only;rw[hS,←zV];exact hr'⟩,by simp only;omega⟩
 .obtain rfl:j=y.fields.length:=by omega
  repeat' first|refine ez ?_|refine bg.mk λy hy=>?_|(refine aZ ?_;constructor<;>intro hc)
  exact⟨(q+1,v,s),rfl,rfl,⟨by simp only;omega,by simp only;rw[hSK];simp only[zV]at hrow2⊢;exact hrow2⟩,by simp only;omega⟩):p:=h
def ZA(h:p:=by
 refine bu (QO (L++am q (eu x)++one q (-1) (-1) (fz x q y)++am j (fU x q y)) _ _ _ _ _ _ (by assumption) (by(try simp only[zI]);omega)) (bR _) (λs'=>s') dF ?_;rintro _ s' ⟨v',rfl,hr'⟩
 repeat' first|refine ez ?_|refine bg.mk λy hy=>?_
 exact⟨(j+1,v',s'),rfl,rfl,⟨by simp only;omega,by simp only;rw[hS,←zV];exact hr'⟩,by simp only;omega⟩):p:=h
def bh3(x:ak)(HV:APure prog 83 [aw x] (iD (fD x))):APure prog 44 [aw x] (.sl 4 ((dJ x).map aS)):=by
 refine ap func44 ntmps44 λX=>?_
 repeat' first|refine ez ?_|refine bg.mk λy hy=>?_
 by_cases hv:fD x=0
 .have V:=lB hv;have hl:x.kz.length<=1000000:=by have:=V.nk;omega
  have S:∀k∈x.kz,k.fields.length<=1000000:=λk Q=>by have:=V.nf k Q;omega
  have O:x.lz.length<=1000000:=by have:=V.nl;omega
  have F:x.rules.length<=1000000:=by have:=V.nr;omega
  have P:dJ x=am x.lz.length (my x)++am x.kz.length (eu x)++am x.rules.length (mZ x):=by unfold dJ;rw[if_pos hv]
  have J:=V.nk;have I:=V.nl;have G:=V.nr;have hnf:=V.nf;clear HV V
  repeat' first|refine ez ?_|refine bg.mk λy hy=>?_
  refine gD mixed ai (γ:=Nat×Value×ae) (λg=>[(4,.v g.2.1),(5,iD g.1)]) (λg=>g.2.2) (λg=>g.1<=x.lz.length/\ab 128 4 ((am g.1 (my x)).map aS) g.2.1 g.2.2) (λg=>x.lz.length-g.1) (0,.slice none 0 0,[]) rfl rfl ⟨zW _,ab.nil _ _⟩ ?_;rintro⟨q,v,s⟩ ⟨a,w⟩;simp only at a w⊢
  repeat' first|refine ez ?_|refine bg.mk λy hy=>?_|(refine aZ ?_;constructor<;>intro hc)
  .obtain⟨l,t⟩:∃l,x.lz[q]?=some l:=⟨_,zD (by omega)⟩
   have hS:=gE q (my x);have E:=fa (aF5 x) q;rw[show my x q=one (-1) q (-1) (if KO x q l then 7 else 0) by simp only[my,t]]at hS;refine gD mixed ai (γ:=Nat) (λm=>[(6,iD m),(4,.v v),(5,iD q)]) (λ_=>s) (λm=>m<=q/\∀(n:Nat)y,n<m->x.lz[n]?=some y->seq y.name l.name=false) (λm=>q-m) 0 rfl rfl ⟨by omega,λn y K=>by omega⟩ ?_;rintro m ⟨R,o⟩
   repeat' first|refine ez ?_|refine bg.mk λy hy=>?_|(refine aZ ?_;constructor<;>intro hc)
   .have ht:=bc0 (x:=x) (i:=q) (l:=l) (m:=m) (by omega) hy ‹_›;rw[ht]at hS;refine bu (QO (am q (my x)) _ _ _ _ _ _ (by assumption) (by(try simp only[zI]);omega)) (bR _) (λs'=>s') dF ?_;rintro _ s' ⟨v',rfl,hr'⟩
    repeat' first|refine ez ?_|refine bg.mk λy hy=>?_
    exact⟨(q+1,v',s'),rfl,rfl,⟨by simp only;omega,by simp only;rw[hS];exact hr'⟩,by simp only;omega⟩
   .exact⟨m+1,rfl,rfl,⟨by omega,λn z K D=>by
     by_cases e:n=m
     .subst e;rw[show((n:Int)).toNat=n from rfl,D]at hy;cases hy;assumption
     .exact o n z (by omega) D⟩,by omega⟩
   .obtain rfl:m=q:=by omega
    rw[lX o]at hS;simp only[wG,uC,jl,zZ]at hS;exact⟨(m+1,v,s),rfl,rfl,⟨by simp only;omega,by simp only;rw[hS];exact w⟩,by simp only;omega⟩
  .obtain rfl:q=x.lz.length:=by omega
   have C:=fa (aF5 x) x.lz.length;generalize U:am x.lz.length (my x)=L at *;refine gD mixed ai (γ:=Nat×Value×ae) (λg=>[(4,.v g.2.1),(7,iD g.1)]) (λg=>g.2.2) (λg=>g.1<=x.kz.length/\ab 128 4 ((L++am g.1 (eu x)).map aS) g.2.1 g.2.2) (λg=>x.kz.length-g.1) (0,v,s) rfl rfl ⟨zW _,by simpa [am]using w⟩ ?_;rintro⟨q,v,s⟩ ⟨a,w⟩;simp only at a w⊢;have u:=fa (λi=>kM x i hnf) q
   repeat' first|refine ez ?_|refine bg.mk λy hy=>?_|(refine aZ ?_;constructor<;>intro hc)
   .have hE:fz x q y=7:=by unfold fz;rw[if_pos (by assumption)]
    exact cq6
   .have hE:fz x q y=0:=by unfold fz;rw[if_neg (by assumption),if_pos (by assumption)]
    have hyf:=hnf y (zG hy);have hyl:y.fields.length<=1000000:=by omega
    have ho1:=Ad q (-1) (-1) (fz x q y);have hy:x.kz[q]?=some y:=hy;have hSK:=gE q (eu x);rw[show eu x q=one q (-1) (-1) (fz x q y)++am y.fields.length (fU x q y) by simp only[eu,hy]]at hSK;have hrow1:ab 128 4 ((L++am q (eu x)++one q (-1) (-1) (fz x q y)).map aS) v s:=by rw[hE,jl,zZ];exact w
    refine gD mixed ai (γ:=Nat×Value×ae) (λg=>[(4,.v g.2.1),(9,iD g.1)]) (λg=>g.2.2) (λg=>g.1<=y.fields.length/\ab 128 4 ((L++am q (eu x)++one q (-1) (-1) (fz x q y)++am g.1 (fU x q y)).map aS) g.2.1 g.2.2) (λg=>y.fields.length-g.1) (0,v,s) rfl rfl ⟨zW _,by simpa [am]using hrow1⟩ ?_;rintro⟨j,v,s⟩ ⟨hj,hrow2⟩;simp only at hj hrow2⊢;have hlen3:=fa (ax0 x q y) j;have hS:=gE j (fU x q y);by_cases hjl:j<y.fields.length
    .obtain⟨f,hf0⟩:∃f,y.fields[j]?=some f:=⟨_,zD hjl⟩
     have hfa:fieldAt x q j=some f:=by rw[K9 (by omega) (by omega) hy];exact hf0
     rw[show fU x q y j=one q j (-1) (m' x q y j f) by simp only[fU,hf0]]at hS
     repeat' first|refine ez ?_|refine bg.mk λy hy=>?_|(refine aZ ?_;constructor<;>intro hc)
     .rw[show m' x q y j f=7 by unfold m';rw[if_pos (by assumption)]]at hS;exact ZA
     .rw[show m' x q y j f=cP x q j f by unfold m';rw[if_neg (by assumption)]]at hS;exact ZA
    .obtain rfl:j=y.fields.length:=by omega
     repeat' first|refine ez ?_|refine bg.mk λy hy=>?_|(refine aZ ?_;constructor<;>intro hc)
     exact⟨(q+1,v,s),rfl,rfl,⟨by simp only;omega,by simp only;rw[hSK];simp only[zV]at hrow2⊢;exact hrow2⟩,by simp only;omega⟩
   .have hE:fz x q y=11:=by unfold fz;rw[if_neg (by assumption),if_neg (by simp[*])]
    exact cq6
   .obtain rfl:q=x.kz.length:=by omega
    generalize T:am x.kz.length (eu x)=M at *;refine gD mixed ai (γ:=Nat×Value×ae) (λg=>[(4,.v g.2.1),(10,iD g.1)]) (λg=>g.2.2) (λg=>g.1<=x.rules.length/\ab 128 4 ((L++M++am g.1 (mZ x)).map aS) g.2.1 g.2.2) (λg=>x.rules.length-g.1) (0,v,s) rfl rfl ⟨zW _,by simpa [am]using w⟩ ?_;rintro⟨q,v,s⟩ ⟨a,hrow2⟩;simp only at a hrow2⊢;have hlen3:=fa (bg0 x) q;have hS:=gE q (mZ x);by_cases hql:q<x.rules.length
    .obtain⟨r,b⟩:∃r,x.rules[q]?=some r:=⟨_,zD hql⟩
     rw[show mZ x q=one (-1) (-1) q (j5 x q r) by simp only[mZ,b]]at hS
     repeat' first|refine ez ?_|refine bg.mk λy hy=>?_|(refine aZ ?_;constructor<;>intro hc)
     refine bu (QO (L++M++am q (mZ x)) _ _ _ _ _ _ (by assumption) (by(try simp only[zI]);omega)) (bR _) (λs'=>s') dF ?_;rintro _ s' ⟨v',rfl,hr'⟩
     repeat' first|refine ez ?_|refine bg.mk λy hy=>?_
     exact⟨(q+1,v',s'),rfl,rfl,⟨by simp only;omega,by simp only;rw[hS,←zV];exact hr'⟩,by simp only;omega⟩
    .obtain rfl:q=x.rules.length:=by omega
     rw[P]
     repeat' first|refine ez ?_|refine bg.mk λy hy=>?_|(refine aZ ?_;constructor<;>intro hc)
     exact Rt.vs (Vs.row hrow2 (bR _))
 .have P:dJ x=[(-1,-1,-1,fD x)]:=by unfold dJ;rw[if_neg hv]
  rw[P]
  repeat' first|refine ez ?_|refine bg.mk λy hy=>?_|(refine aZ ?_;constructor<;>intro hc)
  refine bu (QO [] _ _ _ _ _ _ (ab.nil _ _) (by simp)) (bR _) (λs'=>s') dF ?_;rintro _ s' ⟨v',rfl,hr'⟩
  repeat' first|refine ez ?_|refine bg.mk λy hy=>?_
  refine Rt.vs (Vs.row (e:=128) (s:=s') (k:=4) (τ:=[]) ?_ (bR _))
  simpa [one,hv]using hr'
end
section
open Go
def fq(x:ak)(i:Nat)(f:an):List ij:=if f.kind=1 then[⟨i,bi x f.of,f.lo,true⟩,⟨i,bi x f.of,f.hi,false⟩]else[]
abbrev PJ(i:Nat)(k:aq):List ij:=[⟨i,-1,k.lo,true⟩,⟨i,-1,k.hi,false⟩]
def DQ(x:ak)(i:Nat)(k:aq):List ij:=PJ i k++k.fields.flatMap (fq x i)
def fp(x:ak):List ij:=(List.range x.kz.length).flatMap λi=>match x.kz[i]? with|some k=>DQ x i k|none=>[]
def Au(x:ak)(q:Nat):List ij:=(List.range q).flatMap λi=>match x.kz[i]? with|some k=>DQ x i k|none=>[]
variable{x:ak}{k:aq}
def kL{q:Nat}(h:x.kz[q]?=some k):Au x (q+1)=Au x q++DQ x q k:=by
 unfold Au;rw[List.range_succ,List.flatMap_append,List.flatMap_singleton,h]
def DS(x:ak)(i:Nat)(f:an):(fq x i f).length<=2:=by unfold fq;split<;>simp
def oH{i:Nat}(h:k.fields.length<=10)(q:Nat):(PJ i k++(k.fields.take q).flatMap (fq x i)).length<=22:=by
 have a:=NL (f:=fq x i) (l:=k.fields.take q) (c:=2) (λf _=>DS x i f);rw[zR]at a;rw[zI];simp only[List.length_cons,List.length_nil];omega
structure p9(x:ak):Prop where
 nk:1<=x.kz.length/\x.kz.length<=3
 nf:∀k∈x.kz,k.fields.length<=10
 nm:∀k∈x.kz,k.name.size<=1000/\∀f∈k.fields,f.name.size<=1000
 nr:x.rules.length<=16
def aR6{x:ak}(h:p9 x):∀q,q<=x.kz.length->(Au x q).length<=22*q
 |0,_=>by simp[Au]
 |q+1,d=>by
  have c:=aR6 h q (by omega);obtain⟨k,a⟩:∃k,x.kz[q]?=some k:=⟨_,zD (by omega)⟩
  have b:=oH (x:=x) (i:=q) (h.nf k (zG a)) k.fields.length;rw[yM]at b;rw[kL a,zI];unfold DQ;omega
abbrev RNs:dZ (List ByteArray):=λl v s=>ab 9 1 (l.map λs=>[sD s]) v s
def br4{A B:Prop}(k:B)(h:ar B->A:=by intro q7;(first|refine Hu ?_|(with_reducible refine Uz trivial ?_)|(with_reducible refine Br.t (wP _) ?_)|refine Hv ?_|((with_reducible refine Sd.go ?qs7 ?_);(case qs7=>first|trivial|(constructor<;>omega)|omega|assumption|((try simp only[yU]);omega)|((try simp only[zL,zR,zI,List.length_cons,List.length_nil,zY,Nat.reduceAdd]at *);first|(constructor<;>omega)|omega)))|refine sN ?_|refine Gl ?_|refine AP ?_);exact q7.1):A:=h ⟨k⟩
def jO{A B:Prop}(k:B)(h:ar B->A:=by intro q7;(first|refine br4 ?_|refine aE ?_|(refine' aj ?hc ?_;(case hc=>first|exact HC|exact HK)));exact q7.1):A:=h ⟨k⟩
def aV3(x:ak)(h:p9 x)(HC:APure prog 44 [aw x] (.sl 4 [])):APure prog 97 [aw x] (.tup [Bi (fp x),.any,iD 0]):=by
 have P:=h.nk;have c6:(⟨#[32,108,101,97,115,116]⟩:ByteArray).size=6:=rfl;have c5:(⟨#[32,109,111,115,116]⟩:ByteArray).size=5:=rfl;have c1:(⟨#[46]⟩:ByteArray).size=1:=rfl;refine ap func97 ntmps97 λBB=>?_
 repeat' first|refine jO ?_|intro b;conv=>whnf
 refine aO mixed ai (γ:=Nat×List ByteArray×Value×Value×ae×ae) (λg=>[(8,iD g.1),(6,.v g.2.2.1),(7,.v g.2.2.2.1)]) (λg=>g.2.2.2.2.1++g.2.2.2.2.2) (λg=>g.1<=x.kz.length/\g.2.1.length<=22*g.1/\ab 250 4 ((Au x g.1).map PI) g.2.2.1 g.2.2.2.2.1/\RNs g.2.1 g.2.2.2.1 g.2.2.2.2.2) (λg=>x.kz.length-g.1) (0,[],.slice none 0 0,.slice none 0 0,[],[]) (ah av) (Sc.refl _) ⟨zW _,zW _,ab.nil _ _,ab.nil _ _⟩ ?_;rintro⟨i,nm,I,J,w,l⟩ ⟨hi,D,e,f⟩;simp only at hi D e f⊢;by_cases hil:i<x.kz.length
 .obtain⟨kd,u⟩:∃k,x.kz[i]?=some k:=⟨_,zD hil⟩
  have S:x.kz[((i:Nat):Int).toNat]?=some kd:=u;have F:=zG u;have Q:=(h.nm kd F).1;have M:=h.nf kd F;have O:=aR6 h i hi;have L:(Au x i++PJ i kd).length<=22*i+2:=by rw[zI];simp;omega
  repeat' first|refine jO ?_|intro b;conv=>whnf
  obtain⟨q,rfl⟩:∃c,c=b:=⟨_,rfl⟩
  refine Ap.go rfl rfl rfl rfl e (show List.Perm ((q,ax.cells 78 (aD kd))::(w++l)) (w++((q,ax.cells 78 (aD kd))::l)) by(refine cV λa=>?_;simp only[List.append_eq,List.nil_append,cU,dn,de,IF,KJ,iD,bD];omega)) rfl (zs:=(Au x i++PJ i kd).map PI) (by rw[yB];rfl) (by rw[zL];omega) (by rw[zL];omega) (λt=>(q,ax.cells 78 (aD kd))::(t++l)) (λt=>ya) (λY V t6 o=>?_)
  repeat' first|refine jO ?_|intro b;conv=>whnf
  refine Ap.go rfl rfl rfl rfl f (show List.Perm ((q,ax.cells 78 (aD kd))::(t6++l)) (l++((q,ax.cells 78 (aD kd))::t6)) by(refine cV λa=>?_;simp only[List.append_eq,List.nil_append,cU,dn,de,IF,KJ,iD,bD];omega)) rfl (zs:=(nm++[kd.name++⟨#[32,108,101,97,115,116]⟩,kd.name++⟨#[32,109,111,115,116]⟩]).map λs=>[sD s]) (by rw[yB];rfl) (by simp;omega) (by simp;omega) (λt=>(q,ax.cells 78 (aD kd))::(t6++t)) (λt=>ya) (λX U t7 y=>?_)
  repeat' first|refine jO ?_|intro b;conv=>whnf
  refine aO mixed ai (γ:=Nat×List ByteArray×Value×Value×ae×ae) (λg=>[(10,iD g.1),(6,.v g.2.2.1),(7,.v g.2.2.2.1)]) (λg=>(q,ax.cells 78 (aD kd))::(g.2.2.2.2.1++g.2.2.2.2.2)) (λg=>g.1<=kd.fields.length/\g.2.1.length<=22*i+2+2*g.1/\ab 250 4 ((Au x i++(PJ i kd++(kd.fields.take g.1).flatMap (fq x i))).map PI) g.2.2.1 g.2.2.2.2.1/\RNs g.2.1 g.2.2.2.1 g.2.2.2.2.2) (λg=>kd.fields.length-g.1) (0,_,_,_,t6,t7) (ah av) (Sc.refl _) ⟨zW _,by simp;omega,by simpa using o,y⟩ ?_;clear o y e f L;rintro⟨j,nm,I,J,w,l⟩ ⟨hj,D,e,f⟩;simp only at hj D e f⊢;by_cases hjl:j<kd.fields.length
  .obtain⟨d,G⟩:∃k,kd.fields[j]?=some k:=⟨_,zD hjl⟩
   have Z:kd.fields[((j:Nat):Int).toNat]?=some d:=G;have T:=(h.nm kd F).2 d (zG G);have C:(kd.fields.take (j+1)).flatMap (fq x i)=(kd.fields.take j).flatMap (fq x i)++fq x i d:=aG2 G;have R:=oH (x:=x) (i:=i) M (j+1);by_cases hd1:d.kind=1
   .have HK:=An x d.of (by omega);have E:fq x i d=[⟨i,bi x d.of,d.lo,true⟩,⟨i,bi x d.of,d.hi,false⟩]:=by unfold fq;rw[if_pos hd1]
    repeat' first|refine jO ?_|intro b;conv=>whnf
    obtain⟨r,rfl⟩:∃c,c=b:=⟨_,rfl⟩
    refine Ap.go rfl rfl rfl rfl e (show List.Perm ((r,ax.cells 81 (aA d))::(q,ax.cells 78 (aD kd))::(w++l)) (w++((r,ax.cells 81 (aA d))::(q,ax.cells 78 (aD kd))::l)) by(refine cV λa=>?_;simp only[List.append_eq,List.nil_append,cU,dn,de,IF,KJ,iD,bD];omega)) rfl (zs:=(Au x i++(PJ i kd++(kd.fields.take (j+1)).flatMap (fq x i))).map PI) (by rw[C,E];simp only[yB,zV];rfl) (by rw[zL,zI];omega) (by rw[zL,zI];omega) (λt=>(r,ax.cells 81 (aA d))::(q,ax.cells 78 (aD kd))::(t++l)) (λt=>ya) (λY V t6 o=>?_)
    repeat' first|refine jO ?_|intro b;conv=>whnf
    refine Ap.go rfl rfl rfl rfl f (show List.Perm ((r,ax.cells 81 (aA d))::(q,ax.cells 78 (aD kd))::(t6++l)) (l++((r,ax.cells 81 (aA d))::(q,ax.cells 78 (aD kd))::t6)) by(refine cV λa=>?_;simp only[List.append_eq,List.nil_append,cU,dn,de,IF,KJ,iD,bD];omega)) rfl (zs:=(nm++[kd.name++⟨#[46]⟩++d.name++⟨#[32,108,101,97,115,116]⟩,kd.name++⟨#[46]⟩++d.name++⟨#[32,109,111,115,116]⟩]).map λs=>[sD s]) (by rw[yB];rfl) (by simp;omega) (by simp;omega) (λt=>(r,ax.cells 81 (aA d))::(q,ax.cells 78 (aD kd))::(t6++t)) (λt=>ya) (λX U t7 y=>?_)
    repeat' first|refine jO ?_|intro b;conv=>whnf
    exact⟨(j+1,_,_,_,t6,t7),(ah av),Sc.sl (yG _ _),⟨by simp only;omega,by simp;omega,o,y⟩,by simp only;omega⟩
   .have E:fq x i d=[]:=by unfold fq;rw[if_neg hd1]
    rw[E,zZ]at C;rw[←C]at e
    repeat' first|refine jO ?_|intro b;conv=>whnf
    exact⟨(j+1,nm,I,J,w,l),(ah av),Sc.sl (yG _ _),⟨by simp only;omega,by simp only;omega,e,f⟩,by simp only;omega⟩
  .obtain rfl:j=kd.fields.length:=by omega
   have o:ab 250 4 ((Au x (i+1)).map PI) I w:=by
    rw[yM]at e;rw[kL u];exact e
   repeat' first|refine jO ?_|intro b;conv=>whnf
   exact⟨(i+1,nm,I,J,w,l),(ah av),Sc.sl (yG _ _),⟨by simp only;omega,by simp only;omega,o,f⟩,by simp only;omega⟩
 .obtain rfl:i=x.kz.length:=by omega
  repeat' first|refine jO ?_|intro b;conv=>whnf
  refine Rt.vs (Vs.vd (τ:=[]) ⟨w++l,by simp⟩ (Vd.tup (.cons (Vd.row (ρ:=l) e (zH _) (λz K=>by cases K)) (.cons (λ_ _ _ _ _=>.any _) (.cons (Vd.same (λz K=>by cases K) _) .nil)))))
end
end Go.Proofs.YtilnpcolgcmofaaGreatDoor
