/- A part of the proof. -/
import Derived.Test.YtilnpcolgcmofaaGreatDoorC11
set_option maxRecDepth 100000
set_option maxHeartbeats 20000000
set_option linter.all false
namespace Go.Proofs.YtilnpcolgcmofaaGreatDoor
open Tryz
section
open Go
abbrev nE:ByteArray:=⟨#[]⟩
abbrev bw:ByteArray:=⟨#[115,105,122,101]⟩
abbrev jS:ByteArray:=⟨#[116,97,103]⟩
abbrev pY:ByteArray:=⟨#[98,111,114,110]⟩
abbrev tT:ByteArray:=⟨#[108,101,102,116]⟩
abbrev PE:ByteArray:=⟨#[115,116,97,116,101]⟩
abbrev bz:ByteArray:=⟨#[108,105,102,101]⟩
abbrev gP:ByteArray:=⟨#[108,111,119]⟩
abbrev fo:ByteArray:=⟨#[104,105,103,104]⟩
abbrev rt:ByteArray:=⟨#[114,101,100]⟩
abbrev Q4:ByteArray:=⟨#[103,114,101,101,110]⟩
abbrev jm:ByteArray:=⟨#[98,108,117,101]⟩
inductive aM:List an->Prop
 |none:aM []
 |size (a b:Int) (ha:-5<=a/\a<=5) (hb:0<=b/\b<20):aM [⟨bw,nE,nE,2,a,a+b,[],[]⟩]
 |tag (n:Nat) (ws:List Int) (hn:1<=n/\n<=3) (hw:ws.length=n) (h0:∀w∈ws,0<=w/\w<=4) (h1:∃w∈ws,1<=w):aM [⟨jS,nE,nE,3,0,0,[rt,Q4,jm].take n,ws⟩]
 |born (a b c d:Int) (ha:-200<=a/\a<200) (hb:0<=b/\b<60) (hc:0<=c/\c<3) (hd:0<=d/\d<30):aM [⟨pY,nE,nE,4,a,a+b,[],[]⟩,⟨tT,pY,nE,4,c,3+d,[],[]⟩]
 |state (a b:Int) (ha:0<=a/\a<3) (hb:0<=b/\b<4):aM [⟨PE,bz,nE,5,a,a+b,[],[]⟩]
 |low (a b c d:Int) (ha:0<=a/\a<5) (hb:0<=b/\b<10) (hc:0<=c/\c<5) (hd:0<=d/\d<10):aM [⟨gP,nE,nE,2,a,5+b,[],[]⟩,⟨fo,nE,nE,2,c,10+d,[],[]⟩]
abbrev aU:D:=.v (.slice .none 0 0)
abbrev bQ(f:an)(w g:D):List D:=[sD f.name,sD f.of,sD f.up,iD f.kind,iD f.lo,iD f.hi,w,g]
def Vd.nil{σ τ:ae}(k:Nat):Vd σ τ (.v (.slice .none 0 0)) (.sl k []):=λw X u _ h=>by
 rw[h.val rfl];exact .sl k [] .none 0 (λ_ _=>undef) (by simp) (λy a=>by cases a) (λi y a=>by simp at a) (λi y a=>by simp at a)
def Vd.row{σ τ ρ:ae}{e:TypeId}{k:Nat}{xs:List (List D)}{v:Value}{s:ae}(h:ab e k xs v s)(p:σ.Perm (s++ρ))(a:∀b,b∈aT τ->b∈aT ρ):Vd σ τ (.v v) (.sl k xs):=
 λw X u c r=>NU ((Vs.row h p).run w X u c r).2 a
def BO{A B:Prop}(k:B)(h:ar B->A:=by intro q7;(first|refine vl ?_|fail|((with_reducible refine Cb.go ?h ?_);(case h=>decide +kernel)));exact q7.1):A:=h ⟨k⟩
def bB{A B:Prop}(k:B)(h:ar B->A:=by intro q7;(first|refine bh ?_|refine BO ?_|(refine' aj ?hc ?_;(case hc=>fail)));exact q7.1):A:=h ⟨k⟩
variable{p:Prop}
def Qu(h:p:=by repeat'(first|exact pK.nil|exact lu.nil|refine pK.cons ?_ ?_|refine lu.cons ?_ ?_|exact Vd.nil _|exact Vd.same (λ_ h=>h) _)):p:=h
def Kj(h:p:=by(refine cV λa=>?_;simp only[List.append_eq,List.nil_append,cU,dn,de,IF,KJ,iD,bD];omega)):p:=h
def ZN(h:p:=by
 repeat' first|refine bB ?_|intro b;conv=>whnf
 repeat' first|refine bB ?_|intro b;conv=>whnf|(refine And.intro ?_ ?_<;>(conv=>whnf))|((refine bu (eP xs hx bm _ _ ⟨by omega,by omega⟩) (zH ([aF bm xs _]++_)) (λs'=>s'++_) (λs'=>zH _) ?_);(rintro _ _ ⟨rfl,rfl⟩))|((refine bu (eP xs hx bm _ _ ⟨by omega,by omega⟩) (show List.Perm (_::aF bm xs _::_) ([aF bm xs _]++(_::_)) from List.Perm.swap _ _ _) (λs'=>s'++(_::_)) (λs'=>zH _) ?_);(rintro _ _ ⟨rfl,rfl⟩))
 all_goals exact⟨(),(ah aJ),rfl,trivial⟩):p:=h
def aF0(xs:List Int)(hx:eH xs)(bm:Nat)(pos:Int)(hp:0<=pos/\pos<=100000000):az prog 57 [ptr bm] [aF bm xs pos] (λd σ=>∃k fs,(pos<=k/\k<=pos+20)/\d=mV fs/\σ=[aF bm xs k]/\aM fs):=by
 refine dB func57 ntmps57 λBB=>?_
 repeat' first|refine bB ?_|intro b;conv=>whnf
 (refine bu (FF xs hx bm _ _ ⟨by omega,by omega⟩) (zH ([aF bm xs _]++_)) (λs'=>s'++_) (λs'=>zH _) ?_)
 rintro _ _ ⟨r,rfl,⟨hr,G⟩,rfl⟩;have G:=G (by omega);by_cases e0:r=0
 .repeat' first|refine bB ?_|intro b;conv=>whnf
  (refine bu (FF xs hx bm _ _ ⟨by omega,by omega⟩) (zH ([aF bm xs _]++_)) (λs'=>s'++_) (λs'=>zH _) ?_)
  rintro _ _ ⟨a,rfl,⟨T,e⟩,rfl⟩;have e:=e (by omega)
  repeat' first|refine bB ?_|intro b;conv=>whnf
  (refine bu (FF xs hx bm _ _ ⟨by omega,by omega⟩) (zH ([aF bm xs _]++_)) (λs'=>s'++_) (λs'=>zH _) ?_)
  rintro _ _ ⟨b,rfl,⟨hb,f⟩,rfl⟩;have f:=f (by omega)
  repeat' first|refine bB ?_|intro b;conv=>whnf
  exact Rt.by (Vs.vd ⟨[],zH _⟩ (Vd.sl (λ_ h=>h) Qu)) ⟨_,_,⟨by omega,by omega⟩,rfl,rfl,aM.size (a-5) b ⟨by omega,by omega⟩ ⟨by omega,by omega⟩⟩
 by_cases e1:r=1
 .repeat' first|refine bB ?_|intro b;conv=>whnf
  (refine bu (FF xs hx bm _ _ ⟨by omega,by omega⟩) (zH ([aF bm xs _]++_)) (λs'=>s'++_) (λs'=>zH _) ?_)
  rintro _ _ ⟨c,rfl,⟨hc,j⟩,rfl⟩;have j:=j (by omega);obtain⟨n,hn,rfl⟩:∃n:Nat,n<3/\c=n:=⟨c.toNat,by omega,by omega⟩
  repeat' first|refine bB ?_|intro b;conv=>whnf
  generalize Z:(List.take (1+(n:Int)).toNat [[D.v (Value.string rt)],[D.v (Value.string Q4)],[D.v (Value.string jm)]])=Wd;have hWl:Wd.length=n+1:=by rw[←Z,zR];simp;omega
  refine tU (List.Perm.swap _ _ _) ?_;refine jN mixed ai (γ:=List Int×Value×ae) (λg=>[(6,iD g.1.length)]) (λg=>aF bm xs (pos+2+g.1.length)::(b,.cells 81 (bQ ⟨jS,nE,nE,3,0,0,[],[]⟩ (.sl 1 Wd) (.v g.2.1)))::g.2.2) (λg=>g.1.length<=n+1/\(∀z∈g.1,0<=z/\z<=4)/\ab 3 1 (g.1.map λz=>[iD z]) g.2.1 g.2.2) (λg=>n+1-g.1.length) ([],.slice none 0 0,[]) (ah aJ) (by simp only[List.length_nil];rw[show pos+2+((0:Nat):Int)=pos+1+1 by omega];exact bE) ⟨zW _,(by simp),ab.nil _ _⟩ ?_
  .rintro⟨ws,v,s⟩ ⟨O,P,w⟩;simp only at O P w⊢;by_cases hlt:ws.length<n+1
   .have hb:=ek xs (pos+2+ws.length) 5;have f:=hb.2 (by omega)
    repeat' first|refine bB ?_|intro b;conv=>whnf
    refine gS ?_;refine Lz mixed ai rfl [0,2] 6 (.two 1 (.one 3 (.one 4 (.one 5 (.one 6 (.one 7 .done))))) 3 (.two 1 (.one 4 (.one 5 (.one 6 (.one 7 .done)))) 4 (.one 1 (.one 5 (.one 6 (.one 7 .done)))))) (γ:=Value×ae) (λg=>[(39,.v v),(41,iD (aB xs (pos+2+ws.length) 5)),(42,.sl 1 [[iD (aB xs (pos+2+ws.length) 5)]]),(43,.v g.1),(44,.v (.pointer (some ⟨b,0+7,none⟩)))]) (λg=>aF bm xs (pos+2+ws.length+1)::(b,.cells 81 (bQ ⟨jS,nE,nE,3,0,0,[],[]⟩ (.sl 1 Wd) (.v g.1)))::g.2) (λg=>ab 3 1 ((ws++[aB xs (pos+2+ws.length) 5]).map λz=>[iD z]) g.1 g.2) (by decide +kernel) ?_ ?_
    .repeat' first|refine bB ?_|intro b;conv=>whnf
     repeat' first|refine bB ?_|intro b;conv=>whnf|(refine And.intro ?_ ?_<;>(conv=>whnf))|((refine bu (eP xs hx bm _ _ ⟨by omega,by omega⟩) (zH ([aF bm xs _]++_)) (λs'=>s'++_) (λs'=>zH _) ?_);(rintro _ _ ⟨rfl,rfl⟩))|((refine bu (eP xs hx bm _ _ ⟨by omega,by omega⟩) (show List.Perm (_::aF bm xs _::_) ([aF bm xs _]++(_::_)) from List.Perm.swap _ _ _) (λs'=>s'++(_::_)) (λs'=>zH _) ?_);(rintro _ _ ⟨rfl,rfl⟩))|(refine Ap.go rfl rfl rfl rfl w (τ:=[aF bm xs (pos+2+ws.length+1),(b,.cells 81 (bQ ⟨jS,nE,nE,3,0,0,[],[]⟩ (.sl 1 Wd) (.v v)))]) Kj rfl (zs:=(ws++[aB xs (pos+2+ws.length) 5]).map λz=>[iD z]) (by simp) (by simp;omega) (by simp;omega) (λs'=>aF bm xs (pos+2+ws.length+1)::(b,.cells 81 (bQ ⟨jS,nE,nE,3,0,0,[],[]⟩ (.sl 1 Wd) (.v v)))::s') (λs'=>ya) (λa2 c2 L o=>?_))
     all_goals exact⟨(_,L),(ah aJ),rfl,o⟩
    .rintro⟨v2,L⟩ o;generalize aB xs (pos+2+ws.length) 5=B at *;simp only at o⊢
     repeat' first|refine bB ?_|intro b;conv=>whnf
     refine⟨(ws++[B],v2,L),?_,?_,⟨by simp;omega,λz y=>?_,o⟩,by simp only[zI,List.length_cons,List.length_nil];omega⟩
     .simp only[zI,List.length_cons,List.length_nil];exact(ah av)
     .simp only[zI,List.length_cons,List.length_nil];rw[show pos+2+((ws.length+(0+1):Nat):Int)=pos+2+ws.length+1 by omega];exact bE
     .rcases zO.1 y with h|h
      .exact P z h
      .rw[zN]at h;subst h;exact⟨hb.1,by omega⟩
   .have M:ws.length=n+1:=by omega
    rw[M];have R:=ek xs (pos+2+(n+1:Nat)) (Wd.length:Nat);have Y:=R.2 (by omega);have Q:=ek xs (pos+2+(n+1:Nat)+1) 3;have V:=Q.2 (by omega);obtain⟨c,J⟩:∃c:Nat,aB xs (pos+2+(n+1:Nat)) (Wd.length:Nat)=c:=⟨(aB xs (pos+2+(n+1:Nat)) (Wd.length:Nat)).toNat,by omega⟩
    have I:c<ws.length:=by omega
    obtain⟨z,y⟩:∃z,ws[c]?=some z:=⟨_,zD I⟩
    obtain⟨q,i,l,rfl,rfl,S,F⟩:=aZ0 (g:=iD) w y;have K:=(zE.1 S).1
    repeat' first|refine bB ?_|intro b;conv=>whnf
    refine gS ?_;refine Lz mixed ai rfl [0,2,3,4,6] 6 (.two 1 (.one 5 (.one 7 (.one 8 (.one 9 (.one 10 .done))))) 5 (.two 1 (.one 7 (.one 8 (.one 9 (.one 10 .done)))) 7 (.two 1 (.one 8 (.one 9 (.one 10 .done))) 8 (.one 1 (.one 9 (.one 10 .done)))))) (γ:=Unit) (λ_=>[(46,.v (.slice (some ⟨q,0,none⟩) ws.length i)),(50,iD (aB xs (pos+2+(n+1:Nat)) (Wd.length:Nat))),(52,iD (aB xs (pos+2+(n+1:Nat)+1) 3)),(53,iD (1+aB xs (pos+2+(n+1:Nat)+1) 3)),(54,.v (.pointer (some ⟨q,0+(aB xs (pos+2+(n+1:Nat)) (Wd.length:Nat)).toNat*1,none⟩)))]) (λ_=>(q,.cells 3 (l.set c (iD (1+aB xs (pos+2+(n+1:Nat)+1) 3))))::[aF bm xs (pos+2+(n+1:Nat)+1+1),(b,.cells 81 (bQ ⟨jS,nE,nE,3,0,0,[],[]⟩ (.sl 1 Wd) (.v (.slice (some ⟨q,0,none⟩) ws.length i))))]) (λ_=>True) (by decide +kernel) ?_ ?_
    .repeat' first|refine bB ?_|intro b;conv=>whnf
     repeat' first|refine bB ?_|intro b;conv=>whnf|(refine And.intro ?_ ?_<;>(conv=>whnf))|((refine bu (eP xs hx bm _ _ ⟨by omega,by omega⟩) (zH ([aF bm xs _]++_)) (λs'=>s'++_) (λs'=>zH _) ?_);(rintro _ _ ⟨rfl,rfl⟩))|((refine bu (eP xs hx bm _ _ ⟨by omega,by omega⟩) (show List.Perm (_::aF bm xs _::_) ([aF bm xs _]++(_::_)) from List.Perm.swap _ _ _) (λs'=>s'++(_::_)) (λs'=>zH _) ?_);(rintro _ _ ⟨rfl,rfl⟩))|(refine Sv.cellm (tb:=3) (cs:=l) (cs':=l.set c (iD (1+aB xs (pos+2+(n+1:Nat)+1) 3))) (τ:=[aF bm xs (pos+2+(n+1:Nat)+1+1),(b,.cells 81 (bQ ⟨jS,nE,nE,3,0,0,[],[]⟩ (.sl 1 Wd) (.v (.slice (some ⟨q,0,none⟩) ws.length i))))]) Kj (by rw[J,aR];exact K) rfl (by rw[J,aR]) ?_)
     all_goals exact⟨(),(ah aJ),rfl,trivial⟩
    .rintro - -;have t:=F (1+aB xs (pos+2+(n+1:Nat)+1) 3);generalize aB xs (pos+2+(n+1:Nat)+1) 3=E at *;have U:Wd=([rt,Q4,jm].take (n+1)).map λx=>[sD x]:=by
      rw[←Z,show(1+(n:Int)).toNat=n+1 by omega,vR];rfl
     repeat' first|refine bB ?_|intro b;conv=>whnf
     rw[U];have hs:∀x,x∈aT [aF bm xs (pos+2+(n+1:Nat)+1+1)]->x∈aT ((q,ax.cells 3 (l.set c (iD (1+E))))::[aF bm xs (pos+2+(n+1:Nat)+1+1),(b,.cells 81 (bQ ⟨jS,nE,nE,3,0,0,[],[]⟩ (.sl 1 (([rt,Q4,jm].take (n+1)).map λx=>[sD x])) (.v (.slice (some ⟨q,0,none⟩) ws.length i))))]):=λx h=>by simp[aT]at h⊢;exact .inr (.inl h)
     refine Rt.by (Vs.vd ⟨[(q,ax.cells 3 (l.set c (iD (1+E)))),(b,.cells 81 (bQ ⟨jS,nE,nE,3,0,0,[],[]⟩ (.sl 1 (([rt,Q4,jm].take (n+1)).map λx=>[sD x])) (.v (.slice (some ⟨q,0,none⟩) ws.length i))))],by(refine cV λa=>?_;simp only[List.append_eq,List.nil_append,cU,dn,de,IF,KJ,iD,bD];omega)⟩ (Vd.sl hs (.cons (.cons (Vd.same hs _) (.cons (Vd.same hs _) (.cons (Vd.same hs _) (.cons (Vd.same hs _) (.cons (Vd.same hs _) (.cons (Vd.same hs _) (.cons (Vd.same hs _) (.cons (Vd.row t (zH _) (λx h=>by simp[aT]at h⊢;exact .inl h)) .nil)))))))) .nil))) ⟨_,_,⟨?_,?_⟩,rfl,rfl,aM.tag (n+1) (ws.set c (1+E)) ⟨by omega,by omega⟩ (by rw[yR];omega) (λz y=>?_) ⟨1+E,?_,by omega⟩⟩
     .omega
     .omega
     .rcases yZ y with h|rfl
      .exact P z h
      .omega
     .exact List.mem_set I _
 by_cases e2:r=2
 .repeat' first|refine bB ?_|intro b;conv=>whnf
  (refine bu (FF xs hx bm _ _ ⟨by omega,by omega⟩) (zH ([aF bm xs _]++_)) (λs'=>s'++_) (λs'=>zH _) ?_)
  rintro _ _ ⟨a,rfl,⟨T,e⟩,rfl⟩;have e:=e (by omega)
  repeat' first|refine bB ?_|intro b;conv=>whnf
  have hb:=ek xs (pos+1+1) 60;have f:=hb.2 (by omega);refine gS ?_;refine Lz mixed ai rfl [0,2] 5 (.two 1 (.one 3 (.one 4 (.one 5 (.one 6 .done)))) 3 (.one 1 (.one 4 (.one 5 (.one 6 .done))))) (γ:=Unit) (λ_=>[(64,iD (a-200)),(66,iD (aB xs (pos+1+1) 60)),(67,iD (a-200+aB xs (pos+1+1) 60)),(68,.v (.pointer (some ⟨b,0+5,none⟩)))]) (λ_=>[aF bm xs (pos+1+1+1),(b,.cells 81 (bQ ⟨pY,nE,nE,4,a-200,a-200+aB xs (pos+1+1) 60,[],[]⟩ aU aU))]) (λ_=>True) (by decide +kernel) ?_ ?_
  .exact ZN
  .rintro - -;generalize aB xs (pos+1+1) 60=B at *;have hc:=ek xs (pos+1+1+1) 3;have j:=hc.2 (by omega);have X:=ek xs (pos+1+1+1+1) 30;have u:=X.2 (by omega)
   repeat' first|refine bB ?_|intro b;conv=>whnf
   (refine Dr.r ?_;refine W.mk ?_)
   refine Lz mixed ai rfl [1,3] 7 (.two 0 (.one 2 (.one 4 (.one 5 (.one 6 (.one 7 (.one 8 .done)))))) 2 (.two 0 (.one 4 (.one 5 (.one 6 (.one 7 (.one 8 .done))))) 4 (.two 0 (.one 5 (.one 6 (.one 7 (.one 8 .done)))) 5 (.two 0 (.one 6 (.one 7 (.one 8 .done))) 6 (.one 0 (.one 7 (.one 8 .done))))))) (γ:=Unit) (λ_=>[(2,.sl 8 [bQ ⟨pY,nE,nE,4,a-200,a-200+B,[],[]⟩ aU aU,bQ ⟨tT,pY,nE,4,aB xs (pos+1+1+1) 3,3+aB xs (pos+1+1+1+1) 30,[],[]⟩ aU aU])]) (λ_=>[aF bm xs (pos+1+1+1+1+1),(b,.cells 81 (bQ ⟨pY,nE,nE,4,a-200,a-200+B,[],[]⟩ aU aU))]) (λ_=>True) (by decide +kernel) ?_ ?_
   .exact ZN
   .rintro - -;generalize aB xs (pos+1+1+1) 3=C at *;generalize aB xs (pos+1+1+1+1) 30=E at *
    repeat' first|refine bB ?_|intro b;conv=>whnf
    have hs:∀x,x∈aT [aF bm xs (pos+1+1+1+1+1)]->x∈aT [aF bm xs (pos+1+1+1+1+1),(b,.cells 81 (bQ ⟨pY,nE,nE,4,a-200,a-200+B,[],[]⟩ aU aU))]:=λx h=>by simp[aT]at h⊢;exact .inl h
    exact Rt.by (Vs.vd ⟨[_],List.Perm.swap _ _ _⟩ (Vd.sl hs (by repeat'(first|exact pK.nil|exact lu.nil|refine pK.cons ?_ ?_|refine lu.cons ?_ ?_|exact Vd.nil _|exact Vd.same hs _)))) ⟨_,_,⟨by omega,by omega⟩,rfl,rfl,aM.born (a-200) B C E ⟨by omega,by omega⟩ ⟨by omega,by omega⟩ ⟨by omega,by omega⟩ ⟨by omega,by omega⟩⟩
 by_cases e3:r=3
 .repeat' first|refine bB ?_|intro b;conv=>whnf
  (refine bu (FF xs hx bm _ _ ⟨by omega,by omega⟩) (zH ([aF bm xs _]++_)) (λs'=>s'++_) (λs'=>zH _) ?_)
  rintro _ _ ⟨a,rfl,⟨T,e⟩,rfl⟩;have e:=e (by omega)
  repeat' first|refine bB ?_|intro b;conv=>whnf
  (refine bu (FF xs hx bm _ _ ⟨by omega,by omega⟩) (zH ([aF bm xs _]++_)) (λs'=>s'++_) (λs'=>zH _) ?_)
  rintro _ _ ⟨b,rfl,⟨hb,f⟩,rfl⟩;have f:=f (by omega)
  repeat' first|refine bB ?_|intro b;conv=>whnf
  exact Rt.by (Vs.vd ⟨[],zH _⟩ (Vd.sl (λ_ h=>h) Qu)) ⟨_,_,⟨by omega,by omega⟩,rfl,rfl,aM.state a b ⟨by omega,by omega⟩ ⟨by omega,by omega⟩⟩
 by_cases e4:r=4
 .repeat' first|refine bB ?_|intro b;conv=>whnf
  (refine bu (FF xs hx bm _ _ ⟨by omega,by omega⟩) (zH ([aF bm xs _]++_)) (λs'=>s'++_) (λs'=>zH _) ?_)
  rintro _ _ ⟨a,rfl,⟨T,e⟩,rfl⟩;have e:=e (by omega)
  repeat' first|refine bB ?_|intro b;conv=>whnf
  (refine bu (FF xs hx bm _ _ ⟨by omega,by omega⟩) (zH ([aF bm xs _]++_)) (λs'=>s'++_) (λs'=>zH _) ?_)
  rintro _ _ ⟨b,rfl,⟨hb,f⟩,rfl⟩;have f:=f (by omega)
  repeat' first|refine bB ?_|intro b;conv=>whnf
  (refine bu (FF xs hx bm _ _ ⟨by omega,by omega⟩) (zH ([aF bm xs _]++_)) (λs'=>s'++_) (λs'=>zH _) ?_)
  rintro _ _ ⟨c,rfl,⟨hc,j⟩,rfl⟩;have j:=j (by omega)
  repeat' first|refine bB ?_|intro b;conv=>whnf
  (refine bu (FF xs hx bm _ _ ⟨by omega,by omega⟩) (zH ([aF bm xs _]++_)) (λs'=>s'++_) (λs'=>zH _) ?_)
  rintro _ _ ⟨d,rfl,⟨X,u⟩,rfl⟩;have u:=u (by omega)
  repeat' first|refine bB ?_|intro b;conv=>whnf
  exact Rt.by (Vs.vd ⟨[],zH _⟩ (Vd.sl (λ_ h=>h) Qu)) ⟨_,_,⟨by omega,by omega⟩,rfl,rfl,aM.low a b c d ⟨by omega,by omega⟩ ⟨by omega,by omega⟩ ⟨by omega,by omega⟩ ⟨by omega,by omega⟩⟩
 .repeat' first|refine bB ?_|intro b;conv=>whnf
  exact Rt.by (Vs.vd ⟨[],zH _⟩ (Vd.nil 8)) ⟨_,_,⟨by omega,by omega⟩,rfl,rfl,aM.none⟩
end
section
open Go
abbrev Q5:ByteArray:=⟨#[111,114,100,101,114]⟩
abbrev hI:ByteArray:=⟨#[109,111,115,116]⟩
abbrev N3:ByteArray:=⟨#[108,101,97,115,116]⟩
inductive cB(k:aq):cH->Prop
 |low (n:Int) (h:0<=ii k.fields gP) (hn:0<=n/\n<8):cB k ⟨Q5++k.name.extract 0 1,k.name,gP,fo,n-2⟩
 |most (f:an) (n:Int) (h:0<=ii k.fields bw) (hf:k.fields[(ii k.fields bw).toNat]?=some f) (hn:0<=n/\n<12):cB k ⟨hI++k.name.extract 0 1,k.name,bw,nE,f.lo+n⟩
 |least (f:an) (n:Int) (h:0<=ii k.fields bw) (hf:k.fields[(ii k.fields bw).toNat]?=some f) (hn:0<=n/\n<12):cB k ⟨N3++k.name.extract 0 1,k.name,nE,bw,n-f.hi⟩
def dt{A B:Prop}(k:B)(h:ar B->A:=by intro q7;(first|refine bh ?_|refine BO ?_|(refine' aj ?hc ?_;(case hc=>exact aQ8 _ _ hfl)));exact q7.1):A:=h ⟨k⟩
def ET{p:Prop}(h:p:=by
 repeat' first|refine dt ?_|intro b;conv=>whnf|((with_reducible refine Sd.go ?qs8 ?_);(case qs8=>(rw[hex];decide)))|(refine And.intro ?_ ?_<;>(conv=>whnf))|((refine bu (eP xs hx bm _ _ ⟨by omega,by omega⟩) (zH ([aF bm xs _]++_)) (λs'=>s'++_) (λs'=>zH _) ?_);(rintro _ _ ⟨rfl,rfl⟩))|((refine bu (eP xs hx bm _ _ ⟨by omega,by omega⟩) (show List.Perm (_::aF bm xs _::_) ([aF bm xs _]++(_::_)) from List.Perm.swap _ _ _) (λs'=>s'++(_::_)) (λs'=>zH _) ?_);(rintro _ _ ⟨rfl,rfl⟩))
 all_goals exact⟨(),(ah aJ),rfl,trivial⟩):p:=h
def CA(xs:List Int)(hx:eH xs)(bm:Nat)(pos:Int)(G:0<=pos/\pos<=100000000)(k:aq)(hfl:k.fields.length<=1000000)(C:1<=k.name.size/\k.name.size<=12)(i:∀f∈k.fields,(-100000<=f.lo/\f.lo<=100000)/\(-100000<=f.hi/\f.hi<=100000)) :
  az prog 32 [ptr bm,fP k] [aF bm xs pos] (λd σ=>∃a r ok,(pos<=a/\a<=pos+20)/\d= .tup [eR r,bD ok]/\σ=[aF bm xs a]/\(ok=true->cB k r)):=by
 have hex:(k.name.extract 0 (1:Int).toNat).size=1:=by
  rw[show(1:Int).toNat=1 from rfl,ByteArray.size_extract];omega
 refine dB func32 ntmps32 λI=>?_
 repeat' first|refine dt ?_|intro b;conv=>whnf
 generalize b=e;have fin:∀(a:Int)(r:cH)(ok:Bool)(ρ:ae),[aF bm xs a].Sublist ρ->(pos<=a/\a<=pos+20)->(ok=true->cB k r)->Rt (λd σ=>∃a r ok,(pos<=a/\a<=pos+20)/\d= .tup [eR r,bD ok]/\σ=[aF bm xs a]/\(ok=true->cB k r)) (.tup [eR r,bD ok]) ρ:=λa r ok ρ h0 h1 h2=>Rt.by (Vs.drop h0) ⟨_,_,_,h1,rfl,rfl,h2⟩
 by_cases hl:0<=ii k.fields gP
 .have F:=ek xs pos 3;have E:=F.2 (by omega)
  repeat' first|refine dt ?_|intro b;conv=>whnf
  ((refine bu (eP xs hx bm _ _ ⟨by omega,by omega⟩) (show List.Perm (_::aF bm xs _::_) ([aF bm xs _]++(_::_)) from List.Perm.swap _ _ _) (λs'=>s'++(_::_)) (λs'=>zH _) ?_);(rintro _ _ ⟨rfl,rfl⟩))
  by_cases hpos:0<aB xs pos 3
  .have hb:=ek xs (pos+1) 8;have D:=hb.2 (by omega)
   repeat' first|refine dt ?_|intro b;conv=>whnf
   refine gS ?_;refine Lz mixed ai rfl [0,1,2,3,4,5,6] 5 (.one 7 (.one 8 (.one 9 (.one 10 (.one 11 .done))))) (γ:=Unit) (λ_=>[(5,bD true),(29,iD (aB xs (pos+1) 8)),(30,iD (aB xs (pos+1) 8-2)),(31,eR ⟨Q5++k.name.extract 0 1,k.name,gP,fo,aB xs (pos+1) 8-2⟩)]) (λ_=>[aF bm xs (pos+1+1),(e,.cells 96 (cX ⟨Q5++k.name.extract 0 1,k.name,gP,fo,aB xs (pos+1) 8-2⟩))]) (λ_=>True) (by decide +kernel) ?_ ?_
   .exact ET
   .rintro - -
    repeat' first|refine dt ?_|intro b;conv=>whnf
    refine zy ai (m:=1) rfl rfl rfl rfl rfl rfl rfl ?_
    repeat' first|refine dt ?_|intro b;conv=>whnf
    exact fin _ ⟨Q5++k.name.extract 0 1,k.name,gP,fo,aB xs (pos+1) 8-2⟩ true _ (.cons_cons _ (yV _)) ⟨by omega,by omega⟩ (λ_=>cB.low _ hl ⟨by omega,by omega⟩)
  .generalize z:pos+1=q;have y:pos<=q/\q<=pos+1:=⟨by omega,by omega⟩
   clear z;by_cases hs:ii k.fields bw<0
   .repeat' first|refine dt ?_|intro b;conv=>whnf
    first
     |refine zy ai (m:=1) rfl rfl rfl rfl rfl rfl rfl ?_
     |refine zy ai (m:=0) rfl rfl rfl rfl rfl rfl rfl ?_
    repeat' first|refine dt ?_|intro b;conv=>whnf
    refine fin q ⟨nE,nE,nE,nE,0⟩ false _ ?_ ⟨by omega,by omega⟩ (λh=>by cases h)
    first
     |exact .cons_cons _ (yV _)
     |exact .cons _ (.cons_cons _ (yV _))
   .have j:ii k.fields bw<k.fields.length:=GU _ _;have x:0<=ii k.fields ⟨#[115,105,122,101]⟩:=Int.not_lt.1 hs;obtain⟨f,g⟩:∃f,k.fields[(ii k.fields bw).toNat]?=some f:=⟨_,zD (by omega)⟩
    obtain⟨⟨s,o⟩,n,l⟩:=i f (zG g);have hc:=ek xs q 2;have w:=ek xs (q+1) 12;have u:=w.2 (by omega)
    repeat' first|refine dt ?_|intro b;conv=>whnf
    refine bu (t:=[(b,.cells 81 (aA f)),(e,.cells 96 [.v (zv ZV.str),.v (zv ZV.str),.v (zv ZV.str),.v (zv ZV.str),.v (zv (ZV.int IntKind.i64))])]) (eP xs hx bm q 2 ⟨by omega,by omega⟩) ?hpm (λs'=>s'++[(b,.cells 81 (aA f)),(e,.cells 96 [.v (zv ZV.str),.v (zv ZV.str),.v (zv ZV.str),.v (zv ZV.str),.v (zv (ZV.int IntKind.i64))])]) (λs'=>zH _) ?_
    case hpm=>
     first
      |exact List.Perm.swap _ _ _
      |exact(List.Perm.cons _ (List.Perm.swap _ _ _)).trans (List.Perm.swap _ _ _)
    rintro _ _ ⟨rfl,rfl⟩;by_cases hz:aB xs q 2=0
    .repeat' first|refine dt ?_|intro b;conv=>whnf
     refine gS ?_;refine Lz mixed ai rfl [0,1,2,3,4,5,6,8] 6 (.two 7 (.one 9 (.one 10 (.one 11 (.one 12 (.one 13 .done))))) 9 (.one 7 (.one 10 (.one 11 (.one 12 (.one 13 .done)))))) (γ:=Unit) (λ_=>[(5,bD true),(50,iD f.lo),(52,iD (aB xs (q+1) 12)),(53,iD (f.lo+aB xs (q+1) 12)),(54,eR ⟨hI++k.name.extract 0 1,k.name,bw,nE,f.lo+aB xs (q+1) 12⟩)]) (λ_=>[aF bm xs (q+1+1),(b,.cells 81 (aA f)),(e,.cells 96 (cX ⟨hI++k.name.extract 0 1,k.name,bw,nE,f.lo+aB xs (q+1) 12⟩))]) (λ_=>True) (by decide +kernel) ?_ ?_
     .exact ET
     .rintro - -
      repeat' first|refine dt ?_|intro b;conv=>whnf
      refine zy ai (m:=2) rfl rfl rfl rfl rfl rfl rfl ?_
      repeat' first|refine dt ?_|intro b;conv=>whnf
      exact fin _ ⟨hI++k.name.extract 0 1,k.name,bw,nE,f.lo+aB xs (q+1) 12⟩ true _ (.cons_cons _ (yV _)) ⟨by omega,by omega⟩ (λ_=>cB.most f _ (by omega) g ⟨by omega,by omega⟩)
    .repeat' first|refine dt ?_|intro b;conv=>whnf
     refine gS ?_;refine Lz mixed ai rfl [0,1,2,3,4,5,6,8] 6 (.two 7 (.one 9 (.one 10 (.one 11 (.one 12 (.one 13 .done))))) 9 (.one 7 (.one 10 (.one 11 (.one 12 (.one 13 .done)))))) (γ:=Unit) (λ_=>[(5,bD true),(64,iD f.hi),(62,iD (aB xs (q+1) 12)),(65,iD (aB xs (q+1) 12-f.hi)),(66,eR ⟨N3++k.name.extract 0 1,k.name,nE,bw,aB xs (q+1) 12-f.hi⟩)]) (λ_=>[aF bm xs (q+1+1),(b,.cells 81 (aA f)),(e,.cells 96 (cX ⟨N3++k.name.extract 0 1,k.name,nE,bw,aB xs (q+1) 12-f.hi⟩))]) (λ_=>True) (by decide +kernel) ?_ ?_
     .exact ET
     .rintro - -
      repeat' first|refine dt ?_|intro b;conv=>whnf
      refine zy ai (m:=2) rfl rfl rfl rfl rfl rfl rfl ?_
      repeat' first|refine dt ?_|intro b;conv=>whnf
      exact fin _ ⟨N3++k.name.extract 0 1,k.name,nE,bw,aB xs (q+1) 12-f.hi⟩ true _ (.cons_cons _ (yV _)) ⟨by omega,by omega⟩ (λ_=>cB.least f _ (by omega) g ⟨by omega,by omega⟩)
 .skip
  by_cases hs:ii k.fields bw<0
  .repeat' first|refine dt ?_|intro b;conv=>whnf
   first
    |refine zy ai (m:=1) rfl rfl rfl rfl rfl rfl rfl ?_
    |refine zy ai (m:=0) rfl rfl rfl rfl rfl rfl rfl ?_
   repeat' first|refine dt ?_|intro b;conv=>whnf
   refine fin pos ⟨nE,nE,nE,nE,0⟩ false _ ?_ ⟨by omega,by omega⟩ (λh=>by cases h)
   first
    |exact .cons_cons _ (yV _)
    |exact .cons _ (.cons_cons _ (yV _))
  .have j:ii k.fields bw<k.fields.length:=GU _ _;have x:0<=ii k.fields ⟨#[115,105,122,101]⟩:=Int.not_lt.1 hs;obtain⟨f,g⟩:∃f,k.fields[(ii k.fields bw).toNat]?=some f:=⟨_,zD (by omega)⟩
   obtain⟨⟨s,o⟩,n,l⟩:=i f (zG g);have hc:=ek xs pos 2;have w:=ek xs (pos+1) 12;have u:=w.2 (by omega)
   repeat' first|refine dt ?_|intro b;conv=>whnf
   refine bu (t:=[(b,.cells 81 (aA f)),(e,.cells 96 [.v (zv ZV.str),.v (zv ZV.str),.v (zv ZV.str),.v (zv ZV.str),.v (zv (ZV.int IntKind.i64))])]) (eP xs hx bm pos 2 ⟨by omega,by omega⟩) ?hpm (λs'=>s'++[(b,.cells 81 (aA f)),(e,.cells 96 [.v (zv ZV.str),.v (zv ZV.str),.v (zv ZV.str),.v (zv ZV.str),.v (zv (ZV.int IntKind.i64))])]) (λs'=>zH _) ?_
   case hpm=>
    first
     |exact List.Perm.swap _ _ _
     |exact(List.Perm.cons _ (List.Perm.swap _ _ _)).trans (List.Perm.swap _ _ _)
   rintro _ _ ⟨rfl,rfl⟩;by_cases hz:aB xs pos 2=0
   .repeat' first|refine dt ?_|intro b;conv=>whnf
    refine gS ?_;refine Lz mixed ai rfl [0,1,2,3,4,5,6,8] 6 (.two 7 (.one 9 (.one 10 (.one 11 (.one 12 (.one 13 .done))))) 9 (.one 7 (.one 10 (.one 11 (.one 12 (.one 13 .done)))))) (γ:=Unit) (λ_=>[(5,bD true),(50,iD f.lo),(52,iD (aB xs (pos+1) 12)),(53,iD (f.lo+aB xs (pos+1) 12)),(54,eR ⟨hI++k.name.extract 0 1,k.name,bw,nE,f.lo+aB xs (pos+1) 12⟩)]) (λ_=>[aF bm xs (pos+1+1),(b,.cells 81 (aA f)),(e,.cells 96 (cX ⟨hI++k.name.extract 0 1,k.name,bw,nE,f.lo+aB xs (pos+1) 12⟩))]) (λ_=>True) (by decide +kernel) ?_ ?_
    .exact ET
    .rintro - -
     repeat' first|refine dt ?_|intro b;conv=>whnf
     refine zy ai (m:=2) rfl rfl rfl rfl rfl rfl rfl ?_
     repeat' first|refine dt ?_|intro b;conv=>whnf
     exact fin _ ⟨hI++k.name.extract 0 1,k.name,bw,nE,f.lo+aB xs (pos+1) 12⟩ true _ (.cons_cons _ (yV _)) ⟨by omega,by omega⟩ (λ_=>cB.most f _ (by omega) g ⟨by omega,by omega⟩)
   .repeat' first|refine dt ?_|intro b;conv=>whnf
    refine gS ?_;refine Lz mixed ai rfl [0,1,2,3,4,5,6,8] 6 (.two 7 (.one 9 (.one 10 (.one 11 (.one 12 (.one 13 .done))))) 9 (.one 7 (.one 10 (.one 11 (.one 12 (.one 13 .done)))))) (γ:=Unit) (λ_=>[(5,bD true),(64,iD f.hi),(62,iD (aB xs (pos+1) 12)),(65,iD (aB xs (pos+1) 12-f.hi)),(66,eR ⟨N3++k.name.extract 0 1,k.name,nE,bw,aB xs (pos+1) 12-f.hi⟩)]) (λ_=>[aF bm xs (pos+1+1),(b,.cells 81 (aA f)),(e,.cells 96 (cX ⟨N3++k.name.extract 0 1,k.name,nE,bw,aB xs (pos+1) 12-f.hi⟩))]) (λ_=>True) (by decide +kernel) ?_ ?_
    .exact ET
    .rintro - -
     repeat' first|refine dt ?_|intro b;conv=>whnf
     refine zy ai (m:=2) rfl rfl rfl rfl rfl rfl rfl ?_
     repeat' first|refine dt ?_|intro b;conv=>whnf
     exact fin _ ⟨N3++k.name.extract 0 1,k.name,nE,bw,aB xs (pos+1) 12-f.hi⟩ true _ (.cons_cons _ (yV _)) ⟨by omega,by omega⟩ (λ_=>cB.least f _ (by omega) g ⟨by omega,by omega⟩)
end
section
open Go
abbrev PF:ByteArray:=⟨#[105,100]⟩
abbrev zz:ByteArray:=⟨#[111,102]⟩
abbrev kH:ByteArray:=⟨#[115,97,109,101]⟩
abbrev kI:ByteArray:=⟨#[112,97,114,116]⟩
abbrev pX:ByteArray:=⟨#[116,111,116,97,108]⟩
abbrev ME:ByteArray:=⟨#[98,121]⟩
abbrev tS:ByteArray:=⟨#[112,101,114,115,111,110]⟩
abbrev MD:ByteArray:=⟨#[105,116,101,109]⟩
def bA(n:Nat):ByteArray:=[tS,Q5,MD].getD n nE
def dm(lo:Int):an:=⟨PF,nE,nE,0,lo,0,[],[]⟩
def iN(k:aq)(lo h:Int):an:=⟨zz,k.name,nE,1,lo,h,[],[]⟩
def iP(nm:ByteArray):an:=⟨kH,nm,zz,8,0,0,[],[]⟩
def fY(a b:Int):an:=⟨kI,pX,zz,7,a,a+b,[],[]⟩
def br(nm:ByteArray):an:=⟨pX,nm,nE,6,0,0,[],[]⟩
def Kp(k:aq):an:=⟨ME,k.name,nE,1,0,8,[],[]⟩
inductive gZ(ks:List aq)(nm:ByteArray):List an->List aq->Prop
 |none (h:ks=[]):gZ ks nm [] ks
 |of (tw0:Nat) (y:aq) (lo hi:Int) (sm:List an) (hy:ks[tw0]?=some y) (hl:lo=0\/lo=1) (hh:hi∈[4,3,8,2]) (hs:sm=[]\/∃g,0<=pV y/\y.fields[(pV y).toNat]?=some g/\sm=[iP g.name]):gZ ks nm (iN y lo hi::sm) ks
 |part (tw0:Nat) (y:aq) (lo hi a b:Int) (sm:List an) (hy:ks[tw0]?=some y) (hl:lo=0\/lo=1) (hh:hi∈[4,3,8,2]) (hs:sm=[]\/∃g,0<=pV y/\y.fields[(pV y).toNat]?=some g/\sm=[iP g.name])
   (ht:ii y.fields pX<0) (ha:0<=a/\a<3) (hb:0<=b/\b<8):gZ ks nm (iN y lo hi::(sm++[fY a b])) (ks.set tw0 ⟨y.name,y.lo,y.hi,y.fields++[br nm]⟩)
structure jG(ks:List aq)(k:aq)(ks':List aq):Prop where
 ex:∃lo r idl f1 f2 p1 p2,lo∈[(0:Int),1,2,4,1,2]/\(0<=r/\r<5)/\idl∈[(0:Int),1,100,-3]/\k=⟨bA ks.length,lo,lo+r,dm idl::(f1++(f2++(p1++p2)))⟩/\gZ ks (bA ks.length) f1 ks' /\
  (f2=[]\/∃y,ks[0]?=some y/\1<ks.length/\f2=[Kp y])/\aM p1/\aM p2/\(p2=[]\/∃g gs,p2=g::gs/\ii (dm idl::(f1++(f2++p1))) g.name<0)
end
section
open Go Go.RowKit Go.Shelf
variable{cs x:List D}{d:D}
def A8{o m:Nat}(h:∀j,j<x.length->cs[o+j]?=x[j]?)(c:m<x.length):dQ cs o (x.set m d)=cs.set (o+m) d:=by
 have l:o+x.length<=cs.length:=by
  have:=h (x.length-1) (by omega);rw[zD (by omega:x.length-1<x.length)]at this;have:=(zE.1 this).1;omega
 unfold dQ;apply xY;intro i;rw[xP,yR];rcases Nat.lt_or_ge i o with a|a
 .rw[zV,yP (by rw[zR];omega),yX,if_pos a,if_neg (by omega)]
 .rcases Nat.lt_or_ge i (o+x.length)with b|b
  .rw[zV,yK (by rw[zR];omega),zR,vH (by omega),yP (by rw[yR];omega),xP];by_cases e:o+m=i
   .rw[if_pos e,if_pos (by omega),if_pos (by omega),if_pos (by omega)]
   .rw[if_neg e,if_neg (by omega),←h (i-o) (by omega),show o+(i-o)=i by omega]
  .rw[yK (by rw[zI,zR,yR];omega),zI,zR,yR,vH (by omega),xR,if_neg (by omega),show o+x.length+(i-(o+x.length))=i by omega]
def Mx{e:TypeId}{k:Nat}{xs:List (List D)}{b n cap:Nat}(h:ab e k xs (.slice (some ⟨b,0,none⟩) n cap) [(b,.cells e cs)]){i m:Nat}(hx:xs[i]?=some x)(q:m<k):ab e k (xs.set i (x.set m d)) (.slice (some ⟨b,0,none⟩) n cap) [(b,.cells e (cs.set (i*k+m) d))]:=by
 have l:=(zE.1 hx).1;have a:=h.len x (zG hx);obtain⟨r,f,c,p,o,g⟩:=h.get hx
 cases p
 have j:c=cs:=by
  have:=List.cons.inj o
  simpa using this.1.symm
 subst j;have:=h.put l (x':=x.set m d) (by rw[yR];exact a);rw[A8 (by rw[a];exact g) (by omega)]at this;exact this
end
end Go.Proofs.YtilnpcolgcmofaaGreatDoor
