/- A part of the proof: Sc Gx Gp Gq Gr. -/
import Derived.Test.YtilnpcolgcmofaaGreatDoorS17
set_option maxRecDepth 100000
set_option maxHeartbeats 20000000
set_option linter.all false
namespace Go.Proofs.YtilnpcolgcmofaaGreatDoor
open Tryz
section
open Go Go.RowKit Go.Shelf
inductive cR:List au->Prop
 |nil:cR []
 |step {ks ks':List au} {k:au} (h:cR ks) (m:iO ks k ks') (l:ks'.length=ks.length):cR (ks'++[k])
inductive cQ(ks:List au):Nat->List cF->Prop
 |nil:cQ ks 0 []
 |skip {i:Nat} {rs:List cF} (h:cQ ks i rs):cQ ks (i+1) rs
 |take {i:Nat} {rs:List cF} {k:au} {r:cF} (h:cQ ks i rs) (hk:ks[i]?=some k) (hr:cu k r):cQ ks (i+1) (rs++[r])
theorem cR.ck{s:List au}(h:cR s)(b:s.length<=3):∀k∈s,QX k:=by
 induction h with
 |nil=>simp
 |step h m l i=>
  rw[zI,List.length_singleton]at b;obtain⟨d,e,c⟩:=m.cls (by omega) (i (by omega));intro k a;rcases zO.1 a with a|a
  .exact c k a
  .rw[zN]at a;subst a;exact d
abbrev fq:List ByteArray:=[⟨#[110,101,119]⟩,⟨#[111,112,101,110]⟩,⟨#[100,111,110,101]⟩,⟨#[115,104,117,116]⟩]
def IJ(mv:List (Int×Int))(s:Int):Nat:=(mv.filter λp=>decide (p.1=s)).length
structure Kd(n:Nat)(c:Int->Nat)(mv:List (Int×Int)):Prop where
 q:∀q∈mv,(0<=q.1/\q.1<(n:Int))/\(0<=q.2/\q.2<(n:Int))
 c:∀s,IJ mv s<=c s
theorem Kd.le{n:Nat}{c c':Int->Nat}{mv:List (Int×Int)}(h:Kd n c mv)(a:∀s,c s<=c' s):Kd n c' mv:=⟨h.q,λs=>xH (h.c s) (a s)⟩
theorem Kd.snoc{n:Nat}{c c':Int->Nat}{mv:List (Int×Int)}(h:Kd n c mv){a b:Int}(k:0<=a/\a<(n:Int))(j:0<=b/\b<(n:Int))(i:∀s,c s+(if a=s then 1 else 0)<=c' s):Kd n c' (mv++[(a,b)]):=by
 refine⟨λq g=>?_,λs=>?_⟩
 .rcases zO.1 g with d|d
  .exact h.q q d
  .rw[zN]at d;subst d;exact⟨k,j⟩
 .have d:=h.c s;have f:=i s;unfold IJ at *;rw[vZ,zI];by_cases e:a=s
  .rw[if_pos e]at f;have:([(a,b)].filter λp=>decide (p.1=s)).length<=1:=List.length_filter_le _ _;omega
  .rw[if_neg e]at f;have:([(a,b)].filter λp=>decide (p.1=s))=[]:=by simp[e]
   rw[this];simp only[List.length_nil];omega
structure bJ(x:ak):Prop where
 ver:0<=x.vz/\x.vz<4
 nk:1<=x.kz.length/\x.kz.length<=3
 ks:cR x.kz
 ls:∃(m:Nat)(mv:List (Int×Int)),2<=m/\m<=4/\x.lz=[⟨bn,fq.take m,mv⟩]/\mv.length<=5/\∀p∈mv,(0<=p.1/\p.1<m)/\(0<=p.2/\p.2<m)
 nr:x.rules.length<=2
 rs:∃i,i<=x.kz.length/\cQ x.kz i x.rules
 mc:∀l∈x.lz,∀z,IJ l.mz z<=2
abbrev ed(b:Nat)(r:Int)(kv l a:Value):Nat×aE:=(b,.cells 27 [iD r,.v kv,.v l,.v a])
abbrev zS:List D:=[.v (zv (ZV.int IntKind.i64)),.v (zv ZV.sl),.v (zv ZV.sl),.v (zv ZV.sl)]
theorem bq1{A B:Prop}(k:B)(h:ar B->A:=by intro q7;(first|(with_reducible refine Bc.l ?_)|fail|fail|((with_reducible refine Cb.go ?h ?_);(case h=>decide +kernel)));exact q7.1):A:=h ⟨k⟩
theorem RJ{A B:Prop}(k:B)(h:ar B->A:=by intro q7;(first|refine bA ?_|refine bq1 ?_|(refine' ah ?hc ?_;(case hc=>fail)));exact q7.1):A:=h ⟨k⟩
theorem O1{p:Prop}(h:p:=by first|exact zH _|exact List.Perm.swap _ _ _):p:=h
theorem fA{p:Prop}(h:p:=by(refine iT λa=>?_;simp only[dB,aB,ed,List.append_eq,List.nil_append,iS,jP,jh,sD,iD,bD];omega)):p:=h
theorem nS{p:Prop}(h:p:=by(refine iT λa=>?_;simp only[dB,aB,ed,List.append_eq,List.nil_append,iS,jP,jh,sD,iD,bD];omega)):p:=h
theorem IN{p:Prop}(h:p:=by first|exact zH _|((refine iT λa=>?_;simp only[dB,aB,ed,List.append_eq,List.nil_append,iS,jP,jh,sD,iD,bD];omega))):p:=h
theorem cq5{p:Prop}(h:p:=by
 repeat' first|refine bt ?_|intro b;conv=>whnf
 refine Rs.c ai (m:=2) rfl rfl rfl rfl rfl rfl ?_
 repeat' first|refine bt ?_|intro b;conv=>whnf
 exact Rt.by (σ':=[]) (d':=ax ⟨av xs 0 4,ks,[⟨bn,fq.take (2+n2),mv⟩],rs⟩) (Vs.vd ⟨aB bm xs p2::ed b4 (av xs 0 4) (.slice a ks.length c) (.slice a11 1 c11) (.slice a12 rs.length c12)::ed b2 (av xs 0 4) (.slice a ks.length c) (.slice a11 1 c11) (.slice a12 rs.length c12)::(s++(s11++sk)),by rw[zZ]⟩ (Vd.agg (.cons (Vd.same (λz hz=>by cases hz) _) (.cons (Vd.row (ρ:=aB bm xs p2::ed b4 (av xs 0 4) (.slice a ks.length c) (.slice a11 1 c11) (.slice a12 rs.length c12)::ed b2 (av xs 0 4) (.slice a ks.length c) (.slice a11 1 c11) (.slice a12 rs.length c12)::(s++s11)) hkr fA (λz hz=>by cases hz)) (.cons (Vd.row (ρ:=aB bm xs p2::ed b4 (av xs 0 4) (.slice a ks.length c) (.slice a11 1 c11) (.slice a12 rs.length c12)::ed b2 (av xs 0 4) (.slice a ks.length c) (.slice a11 1 c11) (.slice a12 rs.length c12)::(s++sk)) hr11 fA (λz hz=>by cases hz)) (.cons (Vd.row (ρ:=aB bm xs p2::ed b4 (av xs 0 4) (.slice a ks.length c) (.slice a11 1 c11) (.slice a12 rs.length c12)::ed b2 (av xs 0 4) (.slice a ks.length c) (.slice a11 1 c11) (.slice a12 rs.length c12)::(s11++sk)) hrr fA (λz hz=>by cases hz)) .nil)))))) ⟨_,rfl,rfl,⟨⟨h0.1,h0'⟩,⟨by show 1<=ks.length;omega,by show ks.length<=3;omega⟩,hch,⟨2+n2,mv,by omega,by omega,rfl,hml,hmq.q⟩,hrl,⟨_,hi5,hrc⟩,λl hl z=>by rw[zN]at hl;subst hl;exact hmq.c z⟩⟩):p:=h
theorem pD(l:List Int)(hl:eB l):az prog 7 [bi l] [] (λd σ=>∃x,d=ax x/\σ=[]/\bJ x):=by
 have hll:=hl.2;have hx:eB (l.take 200):=⟨λz hz=>hl.1 z (xG hz),by have:=List.length_take_le 200 l;omega⟩
 generalize hxs:l.take 200=xs at hx;have e0:List.take (if(200:Int)<((l.map λx=>[iD x]).length:Int)then 200 else((l.map λx=>[iD x]).length:Int)).toNat (l.map λx=>[iD x])=xs.map λx=>[iD x]:=by
  rw[zL,←hxs,vR];split
  .rfl
  .rw[yL (by rw[zL];omega),yL (by rw[zL];omega)]
 refine cU func7 ntmps7 λBB=>?_
 repeat' first|refine RJ ?_|intro b;conv=>whnf
 generalize b=b2;rw[e0];refine Bx.r (ci.box rfl rfl (λbm=>?_));have h0:=dl xs 0 4;have h0':=h0.2 (by omega);have h1:=dl xs (0+1) 3;have h1':=h1.2 (by omega);obtain⟨Y,hn1⟩:∃n:Nat,av xs (0+1) 3=n:=⟨(av xs (0+1) 3).toNat,by omega⟩
 repeat' first|refine RJ ?_|intro b;conv=>whnf|((refine ba (ek xs hx bm _ _ ⟨by omega,by omega⟩) (zH ([aB bm xs _]++_)) (λo=>o++_) (λo=>zH _) ?_);(rintro _ _ ⟨rfl,rfl⟩))|((refine ba (ek xs hx bm _ _ ⟨by omega,by omega⟩) (show List.Perm (_::aB bm xs _::_) ([aB bm xs _]++(_::_)) from List.Perm.swap _ _ _) (λo=>o++(_::_)) (λo=>zH _) ?_);(rintro _ _ ⟨rfl,rfl⟩))
 rw[hn1]
 repeat' first|refine bt ?_|intro b;conv=>whnf
 generalize b=b4;refine aV mixed ai (γ:=Nat×Int×List au×Value×af) (λg=>[(6,iD g.1)]) (λg=>aB bm xs g.2.1::ed b4 (av xs 0 4) g.2.2.2.1 (.slice none 0 0) (.slice none 0 0)::(b2,.cells 27 zS)::g.2.2.2.2) (λg=>g.1<=1+Y/\(2<=g.2.1/\g.2.1<=2+g.1*100)/\g.2.2.1.length=g.1/\cR g.2.2.1/\ae 78 4 (g.2.2.1.map bv) g.2.2.2.1 g.2.2.2.2) (λg=>1+Y-g.1) (0,2,[],.slice none 0 0,[]) (aj aP) (Sc.perm O1) ⟨zW _,⟨by simp,by simp⟩,rfl,cR.nil,ae.nil _ _⟩ ?_;rintro⟨i,q,ks,v,sk⟩ ⟨hi,⟨hp1,Q⟩,hkl,hch,hkr⟩;simp only at hi hp1 Q hkl hch hkr⊢;obtain⟨a,c,e⟩:=hkr.slice;rw[zL]at e;subst e;by_cases hin:i<1+Y
 .have F:=hch.ck (by omega);have HK:=BA xs hx bm q ⟨by omega,by omega⟩ ks (by omega) (λk R=>by have:=(F k R).ck.nf;omega) a c sk hkr
  repeat' first|refine bt ?_|intro b;conv=>whnf
  refine jI ?_;refine sw mixed ai rfl [0,2,3] 7 (.two 1 (.one 4 (.one 5 (.one 6 (.one 7 (.one 8 (.one 9 .done)))))) 4 (.two 1 (.one 5 (.one 6 (.one 7 (.one 8 (.one 9 .done))))) 5 (.two 1 (.one 6 (.one 7 (.one 8 (.one 9 .done)))) 6 (.one 1 (.one 7 (.one 8 (.one 9 .done))))))) (γ:=Int×List au×au×Value×af) (λ_=>[]) (λg=>aB bm xs g.1::ed b4 (av xs 0 4) g.2.2.2.1 (.slice none 0 0) (.slice none 0 0)::(b2,.cells 27 zS)::g.2.2.2.2) (λg=>(q<=g.1/\g.1<=q+100)/\iO ks g.2.2.1 g.2.1/\ae 78 4 ((g.2.1++[g.2.2.1]).map bv) g.2.2.2.1 g.2.2.2.2) (by decide +kernel) ?_ ?_
  .repeat' first|refine bt ?_|intro b;conv=>whnf|(refine And.intro ?_ ?_<;>(conv=>whnf))|((refine ba (t:=[ed b4 (av xs 0 4) (.slice a ks.length c) (.slice none 0 0) (.slice none 0 0),(b2,.cells 27 zS)]) HK fA (λo=>ed b4 (av xs 0 4) (.slice a ks.length c) (.slice none 0 0) (.slice none 0 0)::(b2,.cells 27 zS)::o) (λo=>nS) ?_);(rintro _ _ ⟨p2,k,I,s2,E,rfl,rfl,y,M⟩);(have hml:=(M.cls (by omega) F).2.1))|(refine Ap.go rfl rfl rfl rfl y (τ:=ed b4 (av xs 0 4) (.slice a ks.length c) (.slice none 0 0) (.slice none 0 0)::(b2,.cells 27 zS)::[aB bm xs p2]) fA rfl (zs:=(I++[k]).map bv) (by rw[yB];rfl) (by rw[zL,zI,hml];simp only[List.length_singleton];omega) (by rw[zL,zI,hml];simp only[List.length_singleton];omega) (λo=>ed b4 (av xs 0 4) (.slice a ks.length c) (.slice none 0 0) (.slice none 0 0)::(b2,.cells 27 zS)::aB bm xs p2::o) (λo=>nS) (λa3 c3 s3 hr3=>?_))
   all_goals exact⟨(p2,I,k,_,s3),(aj aP),Sc.perm fA,E,M,hr3⟩
  .rintro⟨p2,I,k,v2,s2⟩ ⟨⟨E,C⟩,M,y⟩;simp only at E C M y⊢;have hml:=(M.cls (by omega) F).2.1
   repeat' first|refine bt ?_|intro b;conv=>whnf
   exact⟨(i+1,p2,I++[k],v2,s2),(aj aw),Sc.perm IN,⟨by simp only;omega,⟨by simp only;omega,by simp only;omega⟩,by simp only[zI,List.length_singleton];omega,hch.step M hml,y⟩,by simp only;omega⟩
 .obtain rfl:i=1+Y:=by omega
  have h2:=dl xs q 3;have h2':=h2.2 (by omega);obtain⟨n2,hn2⟩:∃n:Nat,av xs q 3=n:=⟨(av xs q 3).toNat,by omega⟩
  have hst:List.take (2+(n2:Int)).toNat [[D.v (Value.string ⟨#[110,101,119]⟩)],[D.v (Value.string ⟨#[111,112,101,110]⟩)],[D.v (Value.string ⟨#[100,111,110,101]⟩)],[D.v (Value.string ⟨#[115,104,117,116]⟩)]]=(fq.take (2+n2)).map λs=>[sD s]:=by
   rw[show(2+(n2:Int)).toNat=2+n2 by omega,vR];rfl
  have hsl:(fq.take (2+n2)).length=2+n2:=by rw[zR];simp;omega
  repeat' first|refine bt ?_|intro b;conv=>whnf
  ((refine ba (ek xs hx bm _ _ ⟨by omega,by omega⟩) (zH ([aB bm xs _]++_)) (λo=>o++_) (λo=>zH _) ?_);(rintro _ _ ⟨rfl,rfl⟩))
  rw[hn2]
  repeat' first|refine bt ?_|intro b;conv=>whnf
  rw[hst]
  repeat' first|refine bt ?_|intro b;conv=>whnf
  generalize b=w;refine aV mixed ai (γ:=Nat×List (Int×Int)×Value×af) (λg=>[(9,iD g.1)]) (λg=>(w,.cells 93 [sD bn,gA (fq.take (2+n2)),.v g.2.2.1])::aB bm xs (q+1)::ed b4 (av xs 0 4) (.slice a ks.length c) (.slice none 0 0) (.slice none 0 0)::(b2,.cells 27 zS)::(g.2.2.2++sk)) (λg=>g.1<=1+n2/\g.2.1.length=g.1/\Kd (2+n2) (λs=>if 0<=s/\s<g.1 then 1 else 0) g.2.1/\ae 94 2 (g.2.1.map dt) g.2.2.1 g.2.2.2) (λg=>1+n2-g.1) (0,[],.slice none 0 0,[]) (aj aP) (Sc.perm O1) ⟨zW _,rfl,⟨by simp,λ_=>zW _⟩,ae.nil _ _⟩ ?_;rintro⟨i,mv,v,s⟩ ⟨hi2,hml,hmq,u⟩;simp only at hi2 hml hmq u⊢;have hle:((fq.take (2+n2)).map λs=>[sD s]).length=2+n2:=by rw[zL];exact hsl
  by_cases hin2:i<1+n2
  .repeat' first|refine bt ?_|intro b;conv=>whnf
   refine Ap.go rfl rfl rfl rfl u (τ:=(w,.cells 93 [sD bn,gA (fq.take (2+n2)),.v v])::aB bm xs (q+1)::ed b4 (av xs 0 4) (.slice a ks.length c) (.slice none 0 0) (.slice none 0 0)::(b2,.cells 27 zS)::sk) fA rfl (zs:=(mv++[((i:Int),(i:Int)+1)]).map dt) (by rw[yB];rfl) (by simp;omega) (by simp;omega) (λo=>(w,.cells 93 [sD bn,gA (fq.take (2+n2)),.v v])::aB bm xs (q+1)::ed b4 (av xs 0 4) (.slice a ks.length c) (.slice none 0 0) (.slice none 0 0)::(b2,.cells 27 zS)::(o++sk)) (λo=>nS) (λa5 c5 s5 L=>?_)
   repeat' first|refine bt ?_|intro b;conv=>whnf
   refine⟨(i+1,mv++[((i:Int),(i:Int)+1)],_,s5),(aj aw),Sc.refl _,⟨by simp only;omega,by simp only[zI,List.length_singleton];omega,hmq.snoc ⟨by omega,by omega⟩ ⟨by omega,by omega⟩ (λz=>by(try simp only);split<;>split<;>split<;>omega),L⟩,by simp only;omega⟩
  .obtain rfl:i=1+n2:=by omega
   have h3:=dl xs (q+1) 2
   repeat' first|refine aC ?_|intro b;conv=>whnf
   refine Bc.l ?_
   repeat' first|refine aC ?_|intro b;conv=>whnf
   ((refine ba (t:=(w,.cells 93 [sD bn,gA (fq.take (2+n2)),.v v])::ed b4 (av xs 0 4) (.slice a ks.length c) (.slice none 0 0) (.slice none 0 0)::(b2,.cells 27 zS)::(s++sk)) (ek xs hx bm (q+1) _ ⟨by omega,by omega⟩) fA (λo=>(w,.cells 93 [sD bn,gA (fq.take (2+n2)),.v v])::(o++(ed b4 (av xs 0 4) (.slice a ks.length c) (.slice none 0 0) (.slice none 0 0)::(b2,.cells 27 zS)::(s++sk)))) (λo=>nS) ?_);(rintro _ _ ⟨rfl,rfl⟩))
   repeat' first|refine aC ?_|intro b;conv=>whnf
   refine Bc.j ?_;refine I7 mixed ai (γ:=List (Int×Int)×Value×af) (λ_=>[]) (λg=>(w,.cells 93 [sD bn,gA (fq.take (2+n2)),.v g.2.1])::aB bm xs (q+1+1)::ed b4 (av xs 0 4) (.slice a ks.length c) (.slice none 0 0) (.slice none 0 0)::(b2,.cells 27 zS)::(g.2.2++sk)) (λg=>g.1.length<=4/\Kd (2+n2) (λs=>1+if s=1 then 1 else 0) g.1/\ae 94 2 (g.1.map dt) g.2.1 g.2.2) ?_ ?_
   ·(((with_reducible refine W.mk ?_);(conv=>whnf)))
    refine Bc.l ?_;by_cases hz3:av xs (q+1) 2=0
    .repeat' first|refine aC ?_|intro b;conv=>whnf
     refine Ap.go rfl rfl rfl rfl u (τ:=(w,.cells 93 [sD bn,gA (fq.take (2+n2)),.v v])::aB bm xs (q+1+1)::ed b4 (av xs 0 4) (.slice a ks.length c) (.slice none 0 0) (.slice none 0 0)::(b2,.cells 27 zS)::sk) fA rfl (zs:=(mv++[((1:Int),(0:Int))]).map dt) (by rw[yB];rfl) (by simp;omega) (by simp;omega) (λo=>(w,.cells 93 [sD bn,gA (fq.take (2+n2)),.v v])::aB bm xs (q+1+1)::ed b4 (av xs 0 4) (.slice a ks.length c) (.slice none 0 0) (.slice none 0 0)::(b2,.cells 27 zS)::(o++sk)) (λo=>nS) (λa5 c5 s5 L=>?_)
     repeat' first|refine aC ?_|intro b;conv=>whnf
     refine⟨(mv++[((1:Int),(0:Int))],_,s5),(aj aP),Sc.refl _,⟨by simp only[zI,List.length_singleton];omega,hmq.snoc ⟨by omega,by omega⟩ ⟨by omega,by omega⟩ (λz=>by(try simp only);split<;>split<;>split<;>omega),L⟩⟩
    .repeat' first|refine aC ?_|intro b;conv=>whnf
     exact⟨(mv,v,s),(aj aP),Sc.perm IN,by simp only;omega,hmq.le (λz=>by(try simp only);split<;>split<;>omega),u⟩
   .clear hmq u hml;rintro⟨mv,v,s⟩ ⟨hml,hmq,u⟩;simp only at hml hmq u⊢;obtain⟨Z,c8,e8⟩:=u.slice;rw[zL]at e8;subst e8;have h4:=dl xs (q+1+1) 3
    repeat' first|refine aC ?_|intro b;conv=>whnf
    ((refine ba (t:=(w,.cells 93 [sD bn,gA (fq.take (2+n2)),.v (.slice Z mv.length c8)])::ed b4 (av xs 0 4) (.slice a ks.length c) (.slice none 0 0) (.slice none 0 0)::(b2,.cells 27 zS)::(s++sk)) (ek xs hx bm (q+1+1) _ ⟨by omega,by omega⟩) fA (λo=>(w,.cells 93 [sD bn,gA (fq.take (2+n2)),.v (.slice Z mv.length c8)])::(o++(ed b4 (av xs 0 4) (.slice a ks.length c) (.slice none 0 0) (.slice none 0 0)::(b2,.cells 27 zS)::(s++sk)))) (λo=>nS) ?_);(rintro _ _ ⟨rfl,rfl⟩))
    repeat' first|refine aC ?_|intro b;conv=>whnf
    refine Bc.j ?_;refine I7 mixed ai (γ:=List (Int×Int)) (λ_=>[]) (λg=>(w,.cells 93 (dT ⟨bn,fq.take (2+n2),g⟩))::aB bm xs (q+1+1+1)::ed b4 (av xs 0 4) (.slice a ks.length c) (.slice none 0 0) (.slice none 0 0)::(b2,.cells 27 zS)::sk) (λg=>g.length<=5/\Kd (2+n2) (λ_=>2) g) ?_ ?_
    ·(((with_reducible refine W.mk ?_);(conv=>whnf)))
     refine Bc.l ?_;have S:∀(v:Value)(m:List (Int×Int))(s:af),ae 94 2 (m.map dt) v s->Sc ((w,.cells 93 [sD bn,gA (fq.take (2+n2)),.v v])::aB bm xs (q+1+1+1)::ed b4 (av xs 0 4) (.slice a ks.length c) (.slice none 0 0) (.slice none 0 0)::(b2,.cells 27 zS)::(s++sk)) ((w,.cells 93 (dT ⟨bn,fq.take (2+n2),m⟩))::aB bm xs (q+1+1+1)::ed b4 (av xs 0 4) (.slice a ks.length c) (.slice none 0 0) (.slice none 0 0)::(b2,.cells 27 zS)::sk):=λv m s hr=>
      (Sc.perm fA).trans (Sc.frz (cs:=[sD bn,gA (fq.take (2+n2)),.v v]) (j:=2) (s:=s) (τ:=aB bm xs (q+1+1+1)::ed b4 (av xs 0 4) (.slice a ks.length c) (.slice none 0 0) (.slice none 0 0)::(b2,.cells 27 zS)::sk) rfl hr (dM.refl _))
     by_cases hz4:av xs (q+1+1) 3=0
     .repeat' first|refine aC ?_|intro b;conv=>whnf
      rw[hle]
      repeat' first|refine aC ?_|intro b;conv=>whnf
      refine Ap.go rfl rfl rfl rfl u (τ:=(w,.cells 93 [sD bn,gA (fq.take (2+n2)),.v (.slice Z mv.length c8)])::aB bm xs (q+1+1+1)::ed b4 (av xs 0 4) (.slice a ks.length c) (.slice none 0 0) (.slice none 0 0)::(b2,.cells 27 zS)::sk) fA rfl (zs:=(mv++[((0:Int),((2+n2:Nat):Int)-1)]).map dt) (by rw[yB];rfl) (by simp;omega) (by simp;omega) (λo=>(w,.cells 93 [sD bn,gA (fq.take (2+n2)),.v (.slice Z mv.length c8)])::aB bm xs (q+1+1+1)::ed b4 (av xs 0 4) (.slice a ks.length c) (.slice none 0 0) (.slice none 0 0)::(b2,.cells 27 zS)::(o++sk)) (λo=>nS) (λa10 c10 s10 P=>?_)
      repeat' first|refine aC ?_|intro b;conv=>whnf
      refine⟨mv++[((0:Int),((2+n2:Nat):Int)-1)],(aj aP),S _ _ s10 P,by simp only[zI,List.length_singleton];omega,hmq.snoc ⟨by omega,by omega⟩ ⟨by omega,by omega⟩ (λz=>by(try simp only);split<;>split<;>omega)⟩
     .repeat' first|refine aC ?_|intro b;conv=>whnf
      exact⟨mv,(aj aP),(Sc.perm IN).trans (S _ mv s u),by omega,hmq.le (λz=>by(try simp only);split<;>omega)⟩
    .clear hmq u hml;rintro mv ⟨hml,hmq⟩;have F:=hch.ck (by omega)
     repeat' first|refine bt ?_|intro b;conv=>whnf
     refine Ap.go rfl rfl rfl rfl (ae.nil 93 3) (zH ([]++_)) rfl (zs:=[dT ⟨bn,fq.take (2+n2),mv⟩]) rfl (by simp) (by simp) (λo=>o++_) (λo=>zH _) (λa11 c11 s11 hr11=>?_)
     repeat' first|refine bt ?_|intro b;conv=>whnf
     refine Sv.cellm (tb:=27) (cs:=[iD (av xs 0 4),.v (.slice a ks.length c),.v (.slice none 0 0),.v (.slice none 0 0)]) (cs':=[iD (av xs 0 4),.v (.slice a ks.length c),.v (.slice a11 1 c11),.v (.slice none 0 0)]) (τ:=(w,.cells 93 (dT ⟨bn,fq.take (2+n2),mv⟩))::aB bm xs (q+1+1+1)::(b2,.cells 27 zS)::(s11++sk)) fA (by simp) rfl rfl ?_
     repeat' first|refine bt ?_|intro b;conv=>whnf
     refine aV mixed ai (γ:=Nat×Int×List cF×Value×af) (λg=>[(10,iD g.1)]) (λg=>aB bm xs g.2.1::ed b4 (av xs 0 4) (.slice a ks.length c) (.slice a11 1 c11) g.2.2.2.1::(b2,.cells 27 zS)::(g.2.2.2.2++(s11++sk))) (λg=>g.1<=ks.length/\(q+3<=g.2.1/\g.2.1<=q+3+g.1*20)/\g.2.2.1.length<=2/\cQ ks g.1 g.2.2.1/\ae 96 5 (g.2.2.1.map dG) g.2.2.2.1 g.2.2.2.2) (λg=>ks.length-g.1) (0,q+1+1+1,[],.slice none 0 0,[]) (aj aP) (Sc.drop (ρ:=[(w,.cells 93 (dT ⟨bn,fq.take (2+n2),mv⟩))]) fA) ⟨zW _,⟨by simp only;omega,by simp only;omega⟩,by simp,cQ.nil,ae.nil _ _⟩ ?_;rintro⟨i,p2,rs,rv,s⟩ ⟨hi5,⟨E,C⟩,hrl,hrc,hrr⟩;simp only at hi5 E C hrl hrc hrr⊢;obtain⟨a12,c12,U⟩:=hrr.slice;rw[zL]at U;subst U;by_cases hin5:i<ks.length
     .by_cases hr2:rs.length<2
      .obtain⟨k,R⟩:∃k,ks[i]?=some k:=⟨_,zD hin5⟩
       have J:=(F k (zG R)).ck;obtain⟨K,cap9,G,e9,e9s,T⟩:=ae.get hkr (show(ks.map bv)[i]?=some (bv k) by rw[qA,R];rfl);rw[zL]at e9
       cases e9
       subst e9s;have HR:=By xs hx bm p2 ⟨by omega,by omega⟩ k (by have:=J.nf;omega) J.nm (λf hf=>by have h1:=(J.fs f hf).lo;have h2:=(J.fs f hf).hi;omega)
       repeat' first|refine bt ?_|intro b;conv=>whnf
       refine Ld.rowm (tb:=78) (cs:=G) (x:=bv k) (by simp) rfl (by decide) (λj hj=>by rw[show 0+((i:Nat):Int).toNat*4+j=i*4+j by simp];exact T j hj) ?_
       repeat' first|refine bt ?_|intro b;conv=>whnf
       refine ba (t:=ed b4 (av xs 0 4) (.slice (some ⟨K,0,none⟩) ks.length c) (.slice a11 1 c11) (.slice a12 rs.length c12)::(b2,.cells 27 zS)::(s++(s11++[(K,.cells 78 G)]))) HR IN (λo=>o++(ed b4 (av xs 0 4) (.slice (some ⟨K,0,none⟩) ks.length c) (.slice a11 1 c11) (.slice a12 rs.length c12)::(b2,.cells 27 zS)::(s++(s11++[(K,.cells 78 G)])))) (λo=>zH _) ?_;rintro _ _ ⟨X,r,ok,⟨hp3,hp3'⟩,rfl,rfl,hok⟩
       cases ok with
       |false=>
        repeat' first|refine bt ?_|intro b;conv=>whnf
        exact⟨(i+1,X,rs,.slice a12 rs.length c12,s),(aj aw),Sc.sl (yG _ _),⟨by simp only;omega,⟨by simp only;omega,by simp only;omega⟩,hrl,hrc.skip,hrr⟩,by simp only;omega⟩
       |true=>
        repeat' first|refine bt ?_|intro b;conv=>whnf
        generalize b=V;refine Ap.go rfl rfl rfl rfl hrr (τ:=(V,.cells 96 [sD r.name,sD r.kind,sD r.a,sD r.b,iD r.n])::aB bm xs X::ed b4 (av xs 0 4) (.slice (some ⟨K,0,none⟩) ks.length c) (.slice a11 1 c11) (.slice a12 rs.length c12)::(b2,.cells 27 zS)::(s11++[(K,.cells 78 G)])) fA rfl (zs:=(rs++[r]).map dG) (by rw[yB];rfl) (by simp;omega) (by simp;omega) (λo=>(V,.cells 96 [sD r.name,sD r.kind,sD r.a,sD r.b,iD r.n])::aB bm xs X::ed b4 (av xs 0 4) (.slice (some ⟨K,0,none⟩) ks.length c) (.slice a11 1 c11) (.slice a12 rs.length c12)::(b2,.cells 27 zS)::(o++(s11++[(K,.cells 78 G)]))) (λo=>nS) (λa13 c13 s13 O=>?_)
        repeat' first|refine bt ?_|intro b;conv=>whnf
        exact⟨(i+1,X,rs++[r],_,s13),(aj aw),Sc.sl (yG _ _),⟨by simp only;omega,⟨by simp only;omega,by simp only;omega⟩,by simp only[zI,List.length_singleton];omega,hrc.take R (hok rfl),O⟩,by simp only;omega⟩
      .exact cq5
     .obtain rfl:i=ks.length:=by omega
      exact cq5
end
section
open Go
theorem cu.cr{k:au}{r:cF}(h:cu k r)(b:CK k):CR r:=by
 have hx:(k.name.extract 0 1).size<=1:=by rw[ByteArray.size_extract];omega
 have p:∀a:ByteArray,a.size<=5->(a++k.name.extract 0 1).size<=12:=λa e=>by rw[yU];omega
 cases h with
 |low n h d=>exact⟨p _ (by decide),b.nm.2,by show gh.size<=12;decide,by show eL.size<=12;decide,by show -2000<=n-2/\n-2<=2000;omega⟩
 |most f n h c d=>
  have:=(b.fs f (zG c)).lo;exact⟨p _ (by decide),b.nm.2,by show bj.size<=12;decide,by show nE.size<=12;decide,by show -2000<=f.lo+n/\f.lo+n<=2000;omega⟩
 |least f n h c d=>
  have:=(b.fs f (zG c)).hi;exact⟨p _ (by decide),b.nm.2,by show nE.size<=12;decide,by show bj.size<=12;decide,by show -2000<=n-f.hi/\n-f.hi<=2000;omega⟩
theorem cQ.cr{c:List au}{i:Nat}{s:List cF}(h:cQ c i s)(e:∀k∈c,CK k):∀r∈s,CR r:=by
 induction h with
 |nil=>simp
 |skip h a=>exact a
 |take h b d a=>
  intro r m;rcases zO.1 m with m|m
  .exact a r m
  .rw[zN]at m;subst m;exact d.cr (e _ (zG b))
theorem bJ.cls{x:ak}(h:bJ x):QW x:=by
 have b:∀k∈x.kz,CK k:=λk b=>(h.ks.ck h.nk.2 k b).ck;obtain⟨m,mv,n,j,e,d,c⟩:=h.ls;obtain⟨i,_,r⟩:=h.rs;refine⟨by have:=h.ver;omega,h.nk.2,b,by rw[e];simp,λl a=>?_,by have:=h.nr;omega,r.cr b⟩;rw[e,zN]at a;subst a;refine⟨by show bn.size<=12;decide,by show(fq.take m).length<=4;rw[zR];simp;omega,λs f=>?_,d,λq g=>by have:=c q g;omega⟩;have:=xG f;simp only[fq,zU,yF,xE]at this;rcases this with rfl|rfl|rfl|rfl<;>decide
end
section
open Go
theorem xt{k:au}(N:(k.fields.map am.name).Nodup){j:Nat}{f:am}(h:k.fields[j]?=some f):aZ k f.name=j:=
 JP h (Pl _) λi y b a=>by
  cases s:seq y.name f.name with
  |false=>rfl
  |true=>
   exfalso;have e:=(Ek _ _).1 s;have t:i<(k.fields.map am.name).length:=by rw[zL];exact(zE.1 a).1
   have:=(List.getElem?_inj (j:=j) t N).1 (by rw[qA,qA,a,h];simp[e]);omega
theorem Y6{F:List am}(N:(F.map am.name).Nodup){j n:Nat}{f g:am}(h:F[j]?=some f)(a:F[n]?=some g)(e:f.name=g.name):j=n:=
 (List.getElem?_inj (by rw[zL];exact(zE.1 h).1) N).1 (by rw[qA,qA,h,a];simp[e])
theorem CN{α:Type}{p:α->Bool}{xs:List α}{a:α}(h:0<=idx p xs)(b:xs[(idx p xs).toNat]?=some a):p a=true:=by
 unfold idx at *;split at h
 .rename_i o c;obtain⟨e,d,_⟩:=wB.1 c;simp only[c,Int.toNat_natCast]at b;rw[zD e]at b
  cases b;exact d
 .omega
theorem kR{l:List am}{n:ByteArray}(h:gE l n<0):∀f∈l,f.name≠n:=by
 intro f a e;have:=qM (λf:am=>seq f.name n) l;have b:l.any (λf:am=>seq f.name n)=true:=wC.2 ⟨f,a,(Ek _ _).2 e⟩;rw[b]at this;have:=wY this;unfold gE at h;omega
theorem QK{l:List am}{n:ByteArray}(h:0<=gE l n):∃f∈l,f.name=n:=by
 have:=qM (λf:am=>seq f.name n) l;unfold gE at h;rw[yJ h]at this;obtain⟨f,a,e⟩:=wC.1 this.symm;exact⟨f,a,(Ek _ _).1 e⟩
def gR(t:Nat)(lo h:Int):am:=⟨xp,br t,nE,1,lo,h,[],[]⟩
def v6:am:=⟨KT,br 0,nE,1,0,8,[],[]⟩
def gv(k:au)(i:Nat):Prop:=∃n l h a b,k.fields[1]?=some (gR i l h)/\1<n/\k.fields[n]?=some (fp a b)/\∀(c:Nat)(g:am),k.fields[c]?=some g->g.kind=7->c=n
def ZE(k:List au)(t:Nat)(sm:List am):Prop:=sm=[]\/∃(y:au)(n:Nat)(g:am),k[t]?=some y/\y.fields[n]?=some g/\nZ g.kind=true/\sm=[hI g.name]
def PtQ(k:List au)(t i:Nat)(p:List am):Prop:=p=[]\/∃(a b:Int)(y:au)(n:Nat),(0<=a/\a<3)/\(0<=b/\b<8)/\k[t]?=some y/\y.fields[n]?=some (bf (br i))/\p=[fp a b]
def xf(k:List au)(i:Nat)(f1:List am):Prop:=f1=[]\/∃(t:Nat)(l h:Int)(sm p:List am),t<i/\(l=0\/l=1)/\h∈[(4:Int),3,8,2]/\ZE k t sm/\PtQ k t i p/\f1=gR t l h::(sm++p)
def xd(s:List au)(i:Nat)(t:List am):Prop:=t=[]\/∃(j:Nat)(k:au),i<j/\s[j]?=some k/\gv k i/\t=[bf (br j)]
def dm(s:List au)(i:Nat)(k:au):Prop:=∃o r l f1 f2 a p t,o∈[(0:Int),1,2,4,1,2]/\(0<=r/\r<5)/\l∈[(0:Int),1,100,-3]/\k=⟨br i,o,o+r,cT l::(f1++(f2++(a++(p++t))))⟩/\xf s i f1 /\
 (f2=[]\/(0<i/\f2=[v6]))/\aG a/\aG p/\(p=[]\/∃g b,p=g::b/\gE (cT l::(f1++(f2++a))) g.name<0)/\xd s i t
def P'(s k:List au):Prop:=∀(i:Nat)(y:au),s[i]?=some y->∃a,k[i]?=some a/\∃t,a.fields=y.fields++t/\∀g∈t,g.kind≠7
theorem Z3{y a:au}{t:List am}(h:a.fields=y.fields++t){n:Nat}{g:am}(b:y.fields[n]?=some g):a.fields[n]?=some g:=by
 rw[h,yP (zE.1 b).1];exact b
theorem gv.ext{y d:au}{t:List am}{i:Nat}(h:gv y i)(e:d.fields=y.fields++t)(j:∀g∈t,g.kind≠7):gv d i:=by
 obtain⟨n,l,m,a,b,r,q,p,o⟩:=h;refine⟨n,l,m,a,b,Z3 e r,q,Z3 e p,λf g c k=>?_⟩;rw[e]at c;by_cases hl:f < y.fields.length
 .rw[yP hl]at c;exact o f g c k
 .rw[yK (by omega)]at c;exact absurd k (j g (zG c))
theorem ZE.ext{s k:List au}{t:Nat}{sm:List am}(h:ZE s t sm)(e:P' s k):ZE k t sm:=by
 rcases h with rfl|⟨y,n,g,f,d,c,b⟩
 .exact .inl rfl
 .obtain⟨a,j,_,i,_⟩:=e t y f;exact .inr ⟨a,n,g,j,Z3 i d,c,b⟩
theorem PtQ.ext{s k:List au}{t i:Nat}{sm:List am}(h:PtQ s t i sm)(e:P' s k):PtQ k t i sm:=by
 rcases h with rfl|⟨a,b,y,n,f,d,l,j,g⟩
 .exact .inl rfl
 .obtain⟨c,o,_,m,_⟩:=e t y l;exact .inr ⟨a,b,c,n,f,d,o,Z3 m j,g⟩
theorem xf.ext{s k:List au}{i:Nat}{f1:List am}(h:xf s i f1)(e:P' s k):xf k i f1:=by
 rcases h with rfl|⟨t,l,a,sm,p,j,g,f,d,c,b⟩
 .exact .inl rfl
 .exact .inr ⟨t,l,a,sm,p,j,g,f,d.ext e,c.ext e,b⟩
theorem xd.ext{s k:List au}{i:Nat}{t:List am}(h:xd s i t)(e:P' s k):xd k i t:=by
 rcases h with rfl|⟨j,a,f,d,c,b⟩
 .exact .inl rfl
 .obtain⟨y,m,_,l,g⟩:=e j a d;exact .inr ⟨j,y,f,m,c.ext l g,b⟩
theorem dm.ext{s a:List au}{i:Nat}{k:au}(h:dm s i k)(e:P' s a):dm a i k:=by
 obtain⟨o,r,l,f1,f2,c,p,t,v,u,q,n,m,j,g,f,d,b⟩:=h;exact⟨o,r,l,f1,f2,c,p,t,v,u,q,n,m.ext e,j,g,f,d,b.ext e⟩
theorem dm.name{s:List au}{i:Nat}{k:au}(h:dm s i k):k.name=br i:=by
 obtain⟨o,r,l,f1,f2,b,p,t,e,d,c,a,_⟩:=h;rw[a]
theorem aG.kd{s:List am}(h:aG s):∀f∈s,f.kind=2\/f.kind=3\/f.kind=4\/f.kind=5:=by
 cases h<;>simp
theorem Q5{A B:List am}{c:am}(d:∀g∈A,g.kind≠7)(b:∀g∈B,g.kind≠7){n:Nat}{g:am}(h:(A++c::B)[n]?=some g)(k:g.kind=7):n=A.length:=by
 by_cases h1:n<A.length
 .rw[yP h1]at h;exact absurd k (d g (zG h))
 .rw[yK (by omega)]at h;by_cases h2:n-A.length=0
  .omega
  .obtain⟨m,a⟩:∃m,n-A.length=m+1:=⟨n-A.length-1,by omega⟩
   rw[a,List.getElem?_cons_succ]at h;exact absurd k (b g (zG h))
theorem nC(s:List au)(k:au):P' s (s++[k]):=λi y h=>⟨y,by rw[yP (zE.1 h).1];exact h,[],by simp,by simp⟩
theorem Ir(s:List au)(t:Nat)(y:au)(k:au)(nm:ByteArray)(b:s[t]?=some y):P' s (s.set t ⟨y.name,y.lo,y.hi,y.fields++[bf nm]⟩++[k]):=λi z h=>by
 have l:=(zE.1 h).1;rw[yP (by rw[yR];exact l)];by_cases e:i=t
 .subst e;rw[b]at h;cases h
  exact⟨_,xI l,[bf nm],rfl,λg a=>by rw[zN]at a;subst a;show(6:Int)≠7;decide⟩
 .rw[wN (Ne.symm e)];exact⟨z,h,[],by simp,by simp⟩
theorem Aa{k:List au}{t:Nat}{y:au}{sm:List am}(a:k[t]?=some y)(s:sm=[]\/∃g,0<=oH y/\y.fields[(oH y).toNat]?=some g/\sm=[hI g.name]):ZE k t sm:=by
 rcases s with rfl|⟨g,c,h,b⟩
 .exact .inl rfl
 .exact .inr ⟨y,_,g,a,h,CN (p:=λf:am=>nZ f.kind) c h,b⟩
theorem cR.form{s:List au}(h:cR s):∀(i:Nat)k,s[i]?=some k->dm s i k:=by
 induction h with
 |nil=>intro i k h;simp at h
 | @step s ks' k h m l J=>
  obtain⟨v,r,d,f1,f2,D,C,G,P,hid,rfl,hR,R,A,z,w⟩:=m.ex;have u:f2=[]\/(0<s.length/\f2=[v6]):=by
   rcases R with rfl|⟨y,q,hl,rfl⟩
   .exact .inl rfl
   .exact .inr ⟨by omega,by rw[IU,v6,(J 0 y q).name]⟩
  have E:∀{t:Nat}{y:au}(v p:Int),s[t]?=some y->hG y v p=gR t v p:=λv p q=>by rw[hG,gR,(J _ _ q).name]
  cases hR with
  |none Q=>
   subst Q;intro i k f;have p:i=0:=by have:=(zE.1 f).1;simp at this;omega
   subst p;rw[List.nil_append,List.getElem?_cons_zero]at f
   cases f
   exact⟨v,r,d,[],f2,D,C,[],G,P,hid,by simp,.inl rfl,u,A,z,w,.inl rfl⟩
  |of B y n o sm q H I M=>
   intro i k f;by_cases p:i<s.length
   .rw[yP p]at f;exact(J i k f).ext (nC _ _)
   .have p:i=s.length:=by have:=(zE.1 f).1;rw[zI,List.length_singleton]at this;omega
    subst p;rw[yK (zT _),wH,List.getElem?_cons_zero]at f
    cases f
    refine⟨v,r,d,_,f2,D,C,[],G,P,hid,by simp,.inr ⟨B,n,o,sm,[],(zE.1 q).1,H,I,(Aa q M).ext (nC _ _),.inl rfl,by rw[E _ _ q];simp⟩,u,A,z,w,.inl rfl⟩
  |part B y n o a b sm q H I M ht ha hb=>
   have F:=(zE.1 q).1;have T:=Ir s B y ⟨br s.length,v,v+r,cT d::(hG y n o::(sm++[fp a b])++(f2++(D++C)))⟩ (br s.length) q;have L:∀g∈sm,g.kind≠7:=by
    rcases M with rfl|⟨g,_,_,rfl⟩
    .simp
    .intro g c;rw[zN]at c;subst c;show(8:Int)≠7;decide
   have x:∀g∈f2++(D++C),g.kind≠7:=by
    intro g c;rcases zO.1 c with c|c
    .rcases u with rfl|⟨_,rfl⟩
     .cases c
     .rw[zN]at c;subst c;show(1:Int)≠7;decide
    .rcases zO.1 c with c|c
     .have:=A.kd g c;omega
     .have:=z.kd g c;omega
   have hP:gv ⟨br s.length,v,v+r,cT d::(hG y n o::(sm++[fp a b])++(f2++(D++C)))⟩ B:=by
    have S:cT d::(hG y n o::(sm++[fp a b])++(f2++(D++C)))=(cT d::gR B n o::sm)++fp a b::(f2++(D++C)):=by rw[E _ _ q];simp
    refine⟨(cT d::gR B n o::sm).length,n,o,a,b,by rw[S];rfl,by simp,by show(cT d::_)[_]?=_;rw[S,yK (zT _),wH];rfl,λn' g c f=>?_⟩;change(cT d::_)[n']?=_ at c;rw[S]at c;refine Q5 (λg c=>?_) x c f;rcases zU.1 c with rfl|c
    .show(0:Int)≠7;decide
    .rcases zU.1 c with rfl|c
     .show(1:Int)≠7;decide
     .exact L g c
   intro i k f;by_cases p:i<s.length
   .have hk':=f;rw[yP (by rw[yR];exact p)]at f;by_cases e:i=B
    .subst e;rw[xI p]at f
     cases f
     obtain⟨N,X,K,g1,g2,Z,Y,W,h1,h2,h3,V,h5,h6,h7,h8,h9,U⟩:=J i y q;have O:W=[]:=by
      rcases U with rfl|⟨j,kj,_,_,_,rfl⟩
      .rfl
      .exact absurd rfl (kR ht (bf (br j)) (by rw[V];simp))
     subst O;refine⟨N,X,K,g1,g2,Z,Y,[bf (br s.length)],h1,h2,h3,by rw[V];simp,h5.ext T,h6,h7,h8,h9,.inr ⟨s.length,_,p,by rw[yK (by rw[yR];exact zT _),yR,wH];rfl,hP,rfl⟩⟩
    .rw[wN (Ne.symm e)]at f;exact(J i k f).ext T
   .have p:i=s.length:=by have:=(zE.1 f).1;rw[zI,yR,List.length_singleton]at this;omega
    subst p;rw[yK (by rw[yR];exact zT _),yR,wH,List.getElem?_cons_zero]at f
    cases f
    refine⟨v,r,d,_,f2,D,C,[],G,P,hid,by simp,.inr ⟨B,n,o,sm,[fp a b],F,H,I,(Aa q M).ext T,.inr ⟨a,b,⟨y.name,y.lo,y.hi,y.fields++[bf (br s.length)]⟩,y.fields.length,ha,hb,?_,?_,rfl⟩,by rw[E _ _ q]⟩,u,A,z,w,.inl rfl⟩
    .rw[yP (by rw[yR];exact F)];exact xI F
    .show(y.fields++[_])[_]?=_;rw[yK (zT _),wH];rfl
end
section
open Go
theorem xf.nms{k:List au}{i:Nat}{f1:List am}(h:xf k i f1):(f1.map am.name).Sublist [xp,jA,jB]:=by
 rcases h with rfl|⟨t,l,f,sm,d,_,_,_,s,p,rfl⟩
 .simp
 .rcases s with rfl|⟨y,n,g,_,_,_,rfl⟩<;>rcases p with rfl|⟨a,b,c,e,_,_,_,_,rfl⟩<;>simp[gR,hI,fp]
theorem xd.nms{k:List au}{i:Nat}{t:List am}(h:xd k i t):(t.map am.name).Sublist [oJ]:=by
 rcases h with rfl|⟨j,a,_,_,_,rfl⟩<;>simp[bf]
theorem dm.nodup{m:List au}{i:Nat}{k:au}(h:dm m i k):(k.fields.map am.name).Nodup:=by
 obtain⟨A,r,n,f1,f2,a,p,t,E,C,B,rfl,x,w,v,u,b,c⟩:=h;have l:=x.nms;have j:(f2.map am.name).Sublist [KT]:=by rcases w with rfl|⟨_,rfl⟩<;>simp[v6]
 have d:=c.nms;have S:(([N']++(f1.map am.name++(f2.map am.name++(a.map am.name++(p.map am.name++t.map am.name)))))).Sublist ([N']++([xp,jA,jB]++([KT]++(a.map am.name++(p.map am.name++[oJ]))))):=
  (xQ _).append (l.append (j.append ((xQ _).append ((xQ _).append d))))
 have Q:∀f∈a,∀g s,p=g::s->f.name≠g.name:=by
  intro f q g s e;rcases b with b|⟨F,y,z,o⟩
  .rw[b]at e;cases e
  .rw[z]at e;cases e
   exact kR o f (by simp[q])
 have D:([N']++([xp,jA,jB]++([KT]++(a.map am.name++(p.map am.name++[oJ]))))).Nodup:=by
  cases v<;>cases u<;>first|(simp only[List.map_cons,List.map_nil];decide)|exact(Q _ yN _ _ rfl rfl).elim
 refine List.Sublist.nodup (l₁:=_) ?_ D
 simpa [cT]using S
structure HX(x:ak):Prop where
 nk:x.kz.length<=3
 form:∀(i:Nat)k,x.kz[i]?=some k->dm x.kz i k
 kd:∀k∈x.kz,∀f∈k.fields,0<=f.kind
 life:x.lz.any (λl=>seq l.name bn)=true
theorem Oo{i t:Nat}(h:i<t)(a:t<=2):seq (br i) (br t)=false:=by
 obtain rfl|rfl:t=1\/t=2:=by omega
 .obtain rfl:i=0:=by omega
  decide +kernel
 .obtain rfl|rfl:i=0\/i=1:=by omega
  .decide +kernel
  .decide +kernel
variable {x:ak} (H:HX x)
include H
theorem HX.kix{t:Nat}{y:au}(h:x.kz[t]?=some y):bc x (br t)=t:=
 JP h (by rw[(H.form t y h).name];exact Pl _) λi z b a=>by
  rw[(H.form i z a).name];exact Oo b (by have:=(zE.1 h).1;have:=H.nk;omega)
omit H in
theorem ve{i:Nat}{k:au}(hk:x.kz[i]?=some k):dv x i=some k:=by simp[dv,hk]
omit H in
theorem KZ{i:Nat}{k:au}(hk:x.kz[i]?=some k)(j:Nat):fieldAt x i j=k.fields[j]?:=by simp[fieldAt,dv,hk]
theorem HX.refUp{i t:Nat}{y:au}{f:am}(h:x.kz[t]?=some y)(a:t<i)(o:f.of=br t):refUp x i f=t:=by
 rw[Go.Proofs.YtilnpcolgcmofaaGreatDoor.refUp,o,H.kix h,if_pos (by omega)]
theorem HX.up1{i t j:Nat}{k y:au}{f:am}(a:x.kz[i]?=some k)(d:k.fields[j]?=some f)(c:x.kz[t]?=some y)(h:t<i)(b:f.kind=1)(o:f.of=br t):aI x i j=t:=by
 rw[Zv ((KZ a j).trans d) (ve a),if_neg (by rw[b];decide),if_pos b,H.refUp c h o]
theorem HX.up7{i t j:Nat}{k y:au}{f:am}{lo d:Int}(h:x.kz[i]?=some k)(e:k.fields[j]?=some f)(c:x.kz[t]?=some y)(a:t<i)(g:f.kind=7\/f.kind=8)(o:f.up=xp)(b:k.fields[1]?=some (gR t lo d))(m:1<j):aI x i j=t:=by
 have l:aZ k f.up=((1:Nat):Int):=by rw[o];exact xt (H.form i k h).nodup b
 rw[Zv ((KZ h j).trans e) (ve h),if_pos g,l,KZ h 1,b,D',if_pos ⟨by omega,rfl⟩,wk,H.refUp c a rfl]
omit H in
theorem HX.below{i t:Nat}{k:au}(hk:x.kz[i]?=some k)(hti:t<i):∃y,x.kz[t]?=some y:=⟨_,zD (by have:=(zE.1 hk).1;omega)⟩
omit H in
theorem No{l:List Nat}{c:Nat}(hn:l.Nodup)(h1:∀a∈l,a=c)(h2:c∈l):l.length=1:=by
 match l,hn,h1,h2 with
 |[a],_,_,_=>rfl
 |a::b::r,hn,h1,_=>
  have e1:=h1 a (by simp);have e2:=h1 b (by simp);simp[e1,e2]at hn
omit H in
theorem Lx{p:Prop}(h:p:=by
 simp only[zJ,zQ];exact⟨⟨rfl,Pl _⟩,H.up7 hkj g3 hk hij (.inl rfl) rfl g1 g2⟩):p:=h
theorem HX.shares{i j:Nat}{k d:au}(hk:x.kz[i]?=some k)(hij:i<j)(hkj:x.kz[j]?=some d)(P:gv d i):(x6 x i (bf (br j))).length=1:=by
 obtain⟨n,r,s,a,b,g1,g2,g3,o⟩:=P;have e:bc x (bf (br j)).of=j:=H.kix hkj;rw[x6,e,ve hkj];simp only[zL];refine No (c:=n) (List.Pairwise.filter _ List.nodup_range) (λm l=>?_) ?_
 .obtain⟨_,q⟩:=vP.1 l
  cases f:d.fields[m]? with
  |none=>rw[f]at q;cases q
  |some g=>
   rw[f]at q;simp only[zJ,zQ]at q;exact o m g f q.1.1
 .refine vP.2 ⟨xT.2 (zE.1 g3).1,?_⟩;rw[g3];exact Lx
omit H in
theorem li{F:List am}(hN:(F.map am.name).Nodup){A B:List am}{c:am}(hF:F=A++c::B){j:Nat}{f:am}(hf:F[j]?=some f)(e:f.name=c.name):j=A.length/\f=c:=by
 have hc:F[A.length]?=some c:=by rw[hF,yK (zT _),wH];rfl
 have:=Y6 hN hf hc e;subst this;rw[hf]at hc;cases hc
 exact⟨rfl,rfl⟩
theorem HX.plain{i j:Nat}{k:au}{A p B:List am}{f:am}(g:x.kz[i]?=some k)(m:aG p)(F:k.fields=A++(p++B))(o:k.fields[j]?=some f)(h:f∈p):cJ x i j f=0:=by
 have N:=(H.form i k g).nodup
 cases m with
 |none=>cases h
 |size a b l e=>rw[zN]at h;subst h;simp[cJ]
 |tag n ws t w v u=>rw[zN]at h;subst h;simp[cJ]
 |low a b c d l e r q=>
  simp only[zU,yF,xE]at h;rcases h with rfl|rfl<;>simp[cJ]
 |state a b l e=>
  rw[zN]at h;subst h;simp only[cJ];rw[if_neg (by simp),if_neg (by simp),if_neg (by simp),if_neg (by simp),if_pos trivial,if_pos H.life]
 |born a b c d l e r q=>
  simp only[zU,yF,xE]at h;rcases h with rfl|rfl
  .simp only[cJ];rw[if_neg (by simp),if_neg (by simp),if_neg (by simp),if_pos trivial,qq,ve g];simp only;rw[if_pos (by decide +kernel)]
  .obtain⟨rfl,_⟩:=li N (A:=A++[⟨oN,nE,nE,4,a,a+b,[],[]⟩]) (B:=B) (c:=⟨su,oN,nE,4,c,3+d,[],[]⟩) (by rw[F];simp) o rfl;have e:k.fields[A.length]?=some ⟨oN,nE,nE,4,a,a+b,[],[]⟩:=by rw[F,yK (zT _),wH];rfl
   have s:aZ k oN=A.length:=xt N e;simp only[cJ];rw[if_neg (by simp),if_neg (by simp),if_neg (by simp),if_pos trivial,qq,ve g];simp only;rw[if_neg (by decide +kernel),s,if_neg (by simp;omega),Int.toNat_natCast,e]
   rfl
omit H in
theorem K5{p:Prop}(h:p:=by
 rcases hp with rfl|⟨_,_,_,_,_,_,_,_,rfl⟩
 .cases hm
 .rw[zN]at hm;cases hm):p:=h
omit H in
theorem K3{p:Prop}(h:p:=by
 rcases hs with rfl|⟨_,_,_,_,_,_,rfl⟩
 .cases hm
 .rw[zN]at hm;cases hm):p:=h
def xF:=@decide_eq_false_iff_not
theorem HX.leads{i j:Nat}{k:au}{f:am}(l:x.kz[i]?=some k)(m:k.fields[j]?=some f):cJ x i j f=0:=by
 have hN:=(H.form i k l).nodup;have hF:=H.form i k l;have L:=zG m;obtain⟨lo,r,q,f1,f2,S,R,E,h1,h2,h3,h4,h5,h6,h7,h8,h9,P⟩:=hF;have K:k.fields=cT q::(f1++(f2++(S++(R++E)))):=by rw[h4]
 have u:=L;rw[K]at u;rcases zU.1 u with rfl|hm
 .obtain⟨rfl,_⟩:=li hN (A:=[]) (c:=cT q) K m rfl;simp[cJ,cT]
 rcases zO.1 hm with hm|hm
 .rcases h5 with rfl|⟨t,F,N,sm,pt,s,W,X,hs,hp,rfl⟩
  .cases hm
  obtain⟨y,d⟩:=HX.below l s;have v:k.fields[1]?=some (gR t F N):=by rw[K];rfl
  rcases zU.1 hm with rfl|hm
  .simp only[cJ];rw[H.up1 l m d s rfl rfl,if_neg (by simp[gR]),if_neg (by simp[gR]),if_pos (by simp[gR]),if_neg (by omega)]
  have T:1<j:=by
   refine Nat.lt_of_not_le λV=>?_;have Q:j=0\/j=1:=by omega
   rcases Q with rfl|rfl
   .rw[K]at m;cases m
    rcases zO.1 hm with hm|hm
    .exact K3
    .exact K5
   .rw[v]at m;cases m
    rcases zO.1 hm with hm|hm
    .exact K3
    .exact K5
  rcases zO.1 hm with hm|hm
  .rcases hs with rfl|⟨U,n,g,o,w,I,rfl⟩
   .cases hm
   rw[d]at o;cases o
   rw[zN]at hm;subst hm;have z:=H.up7 l m d s (.inr rfl) rfl v T;have Y:=H.kd y (zG d) g (zG w);have hx:aZ y g.name=n:=xt (H.form t y d).nodup w;simp only[nZ,zJ,xJ,xF]at I;have O:cp x i j (hI g.name)=(g.kind,g):=by
    unfold cp gL;rw[z,if_neg (by omega),ve d];simp only[hI];rw[hx,KZ d,w]
   simp only[cJ];rw[if_neg (by simp[hI]),if_neg (by simp[hI]),if_neg (by simp[hI]),if_neg (by simp[hI]),if_neg (by simp[hI]),if_neg (by simp[hI]),z,Fg,if_neg (by omega),if_neg (by simp[hI]),O,if_neg (by simp only;omega)]
  .rcases hp with rfl|⟨a,b,U,n,_,_,o,w,rfl⟩
   .cases hm
   rw[d]at o;cases o
   rw[zN]at hm;subst hm;have z:=H.up7 l m d s (.inl rfl) rfl v T;have hx:aZ y oJ=n:=xt (f:=bf (br i)) (H.form t y d).nodup w;have O:cp x i j (fp a b)=(6,bf (br i)):=by
    unfold cp gL;rw[z,if_neg (by omega),ve d];simp only[fp];rw[hx,KZ d,w]
    rfl
   simp only[cJ];rw[if_neg (by simp[fp]),if_neg (by simp[fp]),if_neg (by simp[fp]),if_neg (by simp[fp]),if_neg (by simp[fp]),if_neg (by simp[fp]),z,Fg,if_neg (by omega),if_pos (by simp[fp]),O,if_pos ⟨rfl,H.kix l⟩]
 rcases zO.1 hm with hm|hm
 .rcases h6 with rfl|⟨D,rfl⟩
  .cases hm
  rw[zN]at hm;subst hm;obtain⟨y,d⟩:=HX.below l D;simp only[cJ];rw[H.up1 l m d D rfl rfl,if_neg (by simp[v6]),if_neg (by simp[v6]),if_pos (by simp[v6]),if_neg (by omega)]
 rcases zO.1 hm with hm|hm
 .exact H.plain l h7 (A:=cT q::(f1++f2)) (B:=R++E) (by rw[K];simp) m hm
 rcases zO.1 hm with hm|hm
 .exact H.plain l h8 (A:=cT q::(f1++(f2++S))) (B:=E) (by rw[K];simp) m hm
 .rcases P with rfl|⟨G,kj,M,C,Z,rfl⟩
  .cases hm
  rw[zN]at hm;subst hm;have e:bc x (bf (br G)).of=G:=H.kix C;have J:I9 x i (bf (br G))=false:=by
   rw[I9,e];simp[bf];omega
  simp only[cJ];rw[if_neg (by simp[bf]),if_neg (by simp[bf]),if_neg (by simp[bf]),if_neg (by simp[bf]),if_neg (by simp[bf]),if_pos (by simp[bf]),ga,J];simp only[wG,uC];rw[e,if_neg (by omega),if_pos (H.shares l M C Z)]
end
section
open Go
theorem bJ.hx{x:ak}(h:bJ x):HX x where
 nk:=h.nk.2
 form:=h.ks.form
 kd:=λk a f b=>((h.cls.ks k a).fs f b).kd.1
 life:=by
  obtain⟨m,mv,_,_,l,_⟩:=h.ls;rw[l];simp[Pl]
theorem QE{t:Nat}(h:t<=2):aY (br t)=true:=by
 obtain rfl|rfl|rfl:t=0\/t=1\/t=2:=by omega
 all_goals decide +kernel
theorem sP:dF nE=true:=by decide +kernel
theorem OM{p:Prop}(h:p:=by
 (simp only[dE,zJ];refine⟨⟨by decide +kernel,?_⟩,?_⟩)
 ·(simp[lR,hZ,ia,iJ,hY,ej,sP])
 .simp[fJ,ln];omega):p:=h
theorem aG.ok{p:List am}(h:aG p):∀f∈p,dE f=true:=by
 cases h with
 |none=>simp
 |size a b t s=>
  intro f e;rw[zN]at e;subst e;exact OM
 |tag n ws E g k B=>
  intro f e;rw[zN]at e;subst e
  (simp only[dE,zJ];refine⟨⟨by decide +kernel,?_⟩,?_⟩)
  ·(simp[lR,hZ,ia,iJ,hY,ej,sP])
  .have D:0<ws.sum:=by
    obtain⟨w,i,v⟩:=B;clear g
    induction ws with
    |nil=>cases i
    |cons z u m=>
     have C:=k z (by simp);have r:∀l:List Int,(∀w∈l,0<=w/\w<=4)->0<=l.sum:=λl=>by
      induction l with
      |nil=>simp
      |cons q l m=>intro j;have:=j q (by simp);have:=m λw g=>j w (by simp[g]);simp;omega
     rw[List.sum_cons];rcases zU.1 i with rfl|i
     .have:=r u λw g=>k w (by simp[g]);omega
     .have:=m (λw g=>k w (by simp[g])) i;omega
   have x:ws.all (λn=>cz n 0 1048576)=true:=by
    rw[yA];intro w g;have:=k w g;simp[cz];omega
   have o:([p8,PI,iw].take n).all aY=true:=by
    rw[yA];intro w g;have:=xG g;simp only[zU,yF,xE]at this;rcases this with rfl|rfl|rfl<;>decide +kernel
   have j:([p8,PI,iw].take n).length=n:=by rw[zR];simp;omega
   simp only[fJ];rw[if_neg (by simp),if_neg (by simp),if_neg (by simp),if_pos trivial,oc,x,o,j,g];simp[cz];omega
 |born a b c d t s A y=>
  intro f e;simp only[zU,yF,xE]at e;rcases e with rfl|rfl
  ·(simp only[dE,zJ];refine⟨⟨by decide +kernel,?_⟩,?_⟩)
   ·(simp[lR,hZ,ia,iJ,hY,ej,sP])
   .simp[fJ,ln,sP];omega
  ·(simp only[dE,zJ];refine⟨⟨by decide +kernel,?_⟩,?_⟩)
   ·(simp[lR,hZ,ia,iJ,hY,ej,sP])
   .have:aY oN=true:=by decide +kernel
    simp[fJ,ln,this];omega
 |state a b t s=>
  intro f e;rw[zN]at e;subst e
  (simp only[dE,zJ];refine⟨⟨by decide +kernel,?_⟩,?_⟩)
  ·(simp[lR,hZ,ia,iJ,hY,ej,sP])
  .have:aY bn=true:=by decide +kernel
   simp[fJ,ln,this];omega
 |low a b c d t s A y=>
  intro f e;simp only[zU,yF,xE]at e;rcases e with rfl|rfl
  .exact OM
  .exact OM
theorem aG.nm{p:List am}(h:aG p):∀f∈p,aY f.name=true:=λf a=>by
 have:=h.ok f a;simp only[dE,zJ]at this;exact this.1.1
def vX:=@List.mem_map_of_mem
theorem dm.nms{s:List au}{i:Nat}{k:au}(h:dm s i k):∀f∈k.fields,aY f.name=true:=by
 obtain⟨o,r,l,f1,f2,m,p,t,v,u,q,rfl,j,g,d,c,n,b⟩:=h;intro f a;rcases zU.1 a with rfl|a
 .show aY N'=true;decide +kernel
 rcases zO.1 a with a|a
 .have:=(j.nms).subset (vX (f:=am.name) a);simp only[zU,yF,xE]at this;rcases this with e|e|e<;>rw[e]<;>decide +kernel
 rcases zO.1 a with a|a
 .rcases g with rfl|⟨_,rfl⟩
  .cases a
  .rw[zN]at a;subst a;show aY KT=true;decide +kernel
 rcases zO.1 a with a|a
 .exact d.nm f a
 rcases zO.1 a with a|a
 .exact c.nm f a
 .have:=(b.nms).subset (vX (f:=am.name) a);simp only[zU,yF,xE]at this;rw[this];decide +kernel
theorem HX.field{x:ak}(H:HX x){i:Nat}{k:au}(u:x.kz[i]?=some k):∀f∈k.fields,dE f=true:=by
 have F:=H.form i k u;have G:i<=2:=by have:=(zE.1 u).1;have:=H.nk;omega
 have m:=F.nms;obtain⟨S,r,A,f1,f2,R,Q,O,Z,Y,w,rfl,N,M,L,K,X,p⟩:=F;intro f h;have c:=m f h;rcases zU.1 h with rfl|h
 .simp only[dE,c,Bool.true_and,zJ];refine⟨by simp[lR,hZ,ia,iJ,hY,ej,sP,cT],?_⟩;simp only[zU,yF,xE]at w;rcases w with rfl|rfl|rfl|rfl<;>simp[fJ,cT,cz]
 rcases zO.1 h with h|h
 .rcases N with rfl|⟨t,z,J,sm,P,B,l,d,C,E,rfl⟩
  .cases h
  rcases zU.1 h with rfl|h
  .simp only[dE,c,Bool.true_and,zJ];refine⟨by simp[lR,hZ,ia,iJ,hY,ej,sP,gR],?_⟩;have:=QE (t:=t) (by omega);simp only[zU,yF,xE]at d;rcases l with rfl|rfl<;>rcases d with rfl|rfl|rfl|rfl<;>simp[fJ,gR,this,ln]
  have e:aY xp=true:=by decide +kernel
  have q:aY oJ=true:=by decide +kernel
  rcases zO.1 h with h|h
  .rcases C with rfl|⟨y,n,g,s,v,D,rfl⟩
   .cases h
   rw[zN]at h;subst h;have:=(H.form t y s).nms g (zG v);simp only[dE,c,Bool.true_and,zJ];exact⟨by simp[lR,hZ,ia,iJ,hY,ej,sP,hI],by simp[fJ,hI,this,e]⟩
  .rcases E with rfl|⟨a,b,y,n,V,U,s,v,rfl⟩
   .cases h
   rw[zN]at h;subst h;simp only[dE,c,Bool.true_and,zJ];exact⟨by simp[lR,hZ,ia,iJ,hY,ej,sP,fp],by simp[fJ,fp,q,e,ln];exact⟨yJ (by omega),yJ (by omega),yJ (by omega)⟩⟩
 rcases zO.1 h with h|h
 .rcases M with rfl|⟨_,rfl⟩
  .cases h
  .rw[zN]at h;subst h;have:=QE (t:=0) (by omega);simp only[dE,c,Bool.true_and,zJ];exact⟨by simp[lR,hZ,ia,iJ,hY,ej,sP,v6],by simp[fJ,v6,this,ln]⟩
 rcases zO.1 h with h|h
 .exact L.ok f h
 rcases zO.1 h with h|h
 .exact K.ok f h
 .rcases p with rfl|⟨j,T,I,o,W,rfl⟩
  .cases h
  .rw[zN]at h;subst h;have:=QE (t:=j) (by have:=(zE.1 o).1;have:=H.nk;omega);simp only[dE,c,Bool.true_and,zJ];exact⟨by simp[lR,hZ,ia,iJ,hY,ej,sP,bf],by simp[fJ,bf,this]⟩
def tv(n:ByteArray)(t:Nat):Prop:=n=PJ++(br t).extract 0 1\/n=LN++(br t).extract 0 1\/n=Mm++(br t).extract 0 1
theorem AV{a b:ByteArray}{s t:Nat}(c:s<t)(d:t<=2)(h:tv a s)(k:tv b t):a≠b:=by
 obtain⟨rfl,rfl⟩|⟨rfl,rfl⟩|⟨rfl,rfl⟩:(s=0/\t=1)\/(s=0/\t=2)\/(s=1/\t=2):=by omega
 all_goals rcases h with rfl|rfl|rfl<;>rcases k with rfl|rfl|rfl<;>decide +kernel
theorem AU{a:ByteArray}{t:Nat}(b:t<=2)(h:tv a t):aY a=true:=by
 obtain rfl|rfl|rfl:t=0\/t=1\/t=2:=by omega
 all_goals rcases h with rfl|rfl|rfl<;>decide +kernel
theorem cu.rn{k:au}{r:cF}{t:Nat}(h:cu k r)(b:k.name=br t):tv r.name t:=by
 cases h with
 |low n h a=>exact .inl (by rw[b])
 |most f n h c a=>exact .inr (.inl (by rw[b]))
 |least f n h c a=>exact .inr (.inr (by rw[b]))
theorem cQ.facts{f:List au}{i:Nat}{s:List cF}(h:cQ f i s)(N:∀(t:Nat)y,f[t]?=some y->y.name=br t)(u:f.length<=3) :
  s.Pairwise (λa b=>a.name≠b.name)/\∀r∈s,∃t k,t<i/\f[t]?=some k/\cu k r:=by
 induction h with
 |nil=>simp
 |skip h c=>exact⟨c.1,λr g=>by obtain⟨t,k,m,e⟩:=c.2 r g;exact⟨t,k,by omega,e⟩⟩
 | @take i s k r h l g c=>
  refine⟨List.pairwise_append.2 ⟨c.1,by simp,λa o b n=>?_⟩,λq d=>?_⟩
  .rw[zN]at n;subst n;obtain⟨t,j,m,e,p⟩:=c.2 a o;exact AV m (by have:=(zE.1 l).1;omega) (p.rn (N t j e)) (g.rn (N i k l))
  .rcases zO.1 d with d|d
   .obtain⟨t,j,m,e⟩:=c.2 q d;exact⟨t,j,by omega,e⟩
   .rw[zN]at d;subst d;exact⟨i,k,by omega,l,g⟩
def EQ(F:List am)(f:am):Prop:=(f.name=gh->f.kind=2/\∃g∈F,g.name=eL/\g.kind=2)/\(f.name=bj->f.kind=2)
theorem aG.low_ok{p:List am}(h:aG p){F:List am}(s:∀f∈p,f∈F):∀f∈p,EQ F f:=by
 cases h with
 |none=>simp
 |low a b c d k j i g=>
  intro f e;simp only[zU,yF,xE]at e;rcases e with rfl|rfl
  .exact⟨λ_=>⟨rfl,⟨eL,nE,nE,2,c,10+d,[],[]⟩,s _ (by simp),rfl,rfl⟩,λ_=>rfl⟩
  .exact⟨λh=>absurd h (by show ¬eL=gh;decide +kernel),λ_=>rfl⟩
 |_=>
  intro f e;simp only[zU,yF,xE]at e;rcases e with rfl|rfl<;>refine⟨λh=>?_,λh=>?_⟩<;>first|rfl|(exfalso;simp only at h;revert h;decide +kernel)
end
end Go.Proofs.YtilnpcolgcmofaaGreatDoor
