/- A part of the proof. -/
import Derived.Test.YtilnpcolgcmofaaGreatDoorC14
set_option maxRecDepth 100000
set_option maxHeartbeats 20000000
set_option linter.all false
namespace Go.Proofs.YtilnpcolgcmofaaGreatDoor
open Tryz
section
open Go
structure CF(f:an):Prop where
 nm:f.name.size<=12
 of:f.of.size<=12
 up:f.up.size<=12
 nw:f.words.length<=3
 wd:∀s∈f.words,s.size<=12
 ng:f.wz.length<=3
 wt:∀n∈f.wz,-1000<=n/\n<=1000
 kd:0<=f.kind/\f.kind<=8
 lo:-1000<=f.lo/\f.lo<=1000
 hi:-1000<=f.hi/\f.hi<=1000
structure CK(k:aq):Prop where
 nm:1<=k.name.size/\k.name.size<=12
 lo:-1000<=k.lo/\k.lo<=1000
 hi:-1000<=k.hi/\k.hi<=1000
 nf:k.fields.length<=10
 fs:∀f∈k.fields,CF f
structure CL(l:bG):Prop where
 nm:l.name.size<=12
 ns:l.tz.length<=4
 st:∀s∈l.tz,s.size<=12
 nv:l.mz.length<=5
 mv:∀m∈l.mz,(-1000<=m.1/\m.1<=1000)/\(-1000<=m.2/\m.2<=1000)
structure CR(r:cH):Prop where
 nm:r.name.size<=12
 kd:r.kind.size<=12
 a:r.a.size<=12
 b:r.b.size<=12
 n:-2000<=r.n/\r.n<=2000
structure LL(x:ak):Prop where
 ver:-1000<=x.vz/\x.vz<=1000
 nk:x.kz.length<=3
 ks:∀k∈x.kz,CK k
 nl:x.lz.length<=1
 ls:∀l∈x.lz,CL l
 nr:x.rules.length<=3
 rs:∀r∈x.rules,CR r
def KX{α:Type}{f:α->Nat}{c:Nat}:∀{l:List α},(∀x∈l,f x<=c)->be f l<=l.length*c
 |[],_=>by simp[be]
 |x::l,h=>by
  have d:=h x (by simp);have b:=KX (l:=l) λy a=>h y (by simp[a]);simp only[be,List.map_cons,List.sum_cons,List.length_cons,Nat.succ_mul]at *;omega
def GG{n:Int}(h:-9999999<=n/\n<=9999999):bC n=8:=by unfold bC;rw[if_pos h]
variable{p:Prop}
def ZH(h:p:=by
 have e1:=GG (n:=f.lo) (by have:=h.lo;omega);have e2:=GG (n:=f.hi) (by have:=h.hi;omega);have e3:=GG (n:=f.words.length) (by have:=h.nw;omega);have s1:(f.words.map λs=>1+s.size).sum<=f.words.length*13:=KX (f:=λs:ByteArray=>1+s.size) λs hs=>by have:=h.wd s hs;omega
 have s2:(f.wz.map λn=>1+bC n).sum<=f.wz.length*9:=KX (f:=λn=>1+bC n) λn hn=>by have:=GG (n:=n) (by have:=h.wt n hn;omega);omega
 have h1:=h.nm;have h2:=h.of;have h3:=h.up;have h4:=h.nw;have h5:=h.ng;unfold gk;omega):p:=h
variable{f:an}
def CF.bd(h:CF f):gk f<=200:=ZH
def Y5(h:p:=by
 have e1:=GG (n:=k.lo) (by have:=h.lo;omega);have e2:=GG (n:=k.hi) (by have:=h.hi;omega);have s1:=KX (f:=gk) (c:=200) λf hf=>(h.fs f hf).bd;have h1:=h.nm;have h2:=h.nf;unfold dw;omega):p:=h
def CK.bd{k:aq}(h:CK k):dw k<=2100:=Y5
def Zw(h:p:=by
 have e1:=GG (n:=l.tz.length) (by have:=h.ns;omega);have s1:=KX (f:=λs:ByteArray=>1+s.size) (c:=13) λs hs=>by have:=h.st s hs;show 1+s.size<=13;omega
 have s2:=KX (f:=gd) (c:=23) λm hm=>by
  have:=h.mv m hm;unfold gd;rw[GG (by omega),GG (by omega)];omega
 have h1:=h.nm;have h2:=h.ns;have h3:=h.nv;unfold dY;omega):p:=h
def CL.bd{l:bG}(h:CL l):dY l<=300:=Zw
def Nc(h:p:=by
 have e1:=GG (n:=r.n) (by have:=h.n;omega);have h1:=h.nm;have h2:=h.kd;have h3:=h.a;have h4:=h.b;unfold fK;omega):p:=h
def CR.bd{r:cH}(h:CR r):fK r<=100:=Nc
def Y7(h:p:=by
 have s1:=KX (f:=dw) λk hk=>(h.ks k hk).bd;have s2:=KX (f:=dY) λk hk=>(h.ls k hk).bd;have s3:=KX (f:=fK) λk hk=>(h.rs k hk).bd;have h1:=h.nk;have h2:=h.nl;have h3:=h.nr;unfold fe;omega):p:=h
def LL.src{x:ak}(h:LL x):fe x<=8192:=Y7
def CF.sm(h:CF f):SmF f:=⟨by have:=h.nm;unfold eY;omega,by have:=h.of;unfold eY;omega,by have:=h.up;unfold eY;omega,λs a=>by have:=h.wd s a;unfold eY;omega,by have:=h.nw;omega,by have:=h.ng;omega⟩
def LL.good{x:ak}(h:LL x):zr x where
 ver:=by have:=h.ver;omega
 fsane:=λk a f d=>by
  have:=(h.ks k a).fs f d;exact⟨⟨by have:=this.lo;omega,by have:=this.hi;omega,λn g=>by have:=this.wt n g;omega⟩,by have:=this.kd;omega⟩
 ksane:=λk a=>by have:=h.ks k a;have o:=this.lo;have j:=this.hi;omega
 msane:=λl b m i=>by have:=(h.ls l b).mv m i;omega
 rsane:=λr c=>by have:=(h.rs r c).n;omega
 sm:={
  kz:=λk a=>⟨by have:=(h.ks k a).nm;unfold eY;omega,λf d=>((h.ks k a).fs f d).sm,by have:=(h.ks k a).nf;omega⟩
  lz:=λl b=>⟨by have:=(h.ls l b).nm;unfold eY;omega,λs e=>by have:=(h.ls l b).st s e;unfold eY;omega,by have:=(h.ls l b).ns;omega,by have:=(h.ls l b).nv;omega⟩
  rules:=λr c=>by have:=h.rs r c;exact⟨by have:=this.nm;unfold eY;omega,by have:=this.kd;unfold eY;omega,by have:=this.a;unfold eY;omega,by have:=this.b;unfold eY;omega⟩
  nkinds:=by have:=h.nk;omega
  nlives:=by have:=h.nl;omega
  nrules:=by have:=h.nr;omega }
 src:=λ_=>h.src
end
section
open Go
variable{nm:ByteArray}
def CF.e0{of up:ByteArray}{kd lo h:Int}(f:nm.size<=12)(e:of.size<=12)(d:up.size<=12)(c:0<=kd/\kd<=8)(b:-1000<=lo/\lo<=1000)(a:-1000<=h/\h<=1000):CF ⟨nm,of,up,kd,lo,h,[],[]⟩:=
 ⟨f,e,d,by simp,by simp,by simp,by simp,c,b,a⟩
def yF:=@List.not_mem_nil
def xE:=@or_false
variable{p:Prop}
def Zu(h:p:=by
 refine⟨by simp,λf hf=>?_⟩;simp only[zU,yF,xE]at hf;rcases hf with rfl|rfl
 .exact .e0 (by decide) (by decide) (by decide) (by omega) (by omega) (by omega)
 .exact .e0 (by decide) (by decide) (by decide) (by omega) (by omega) (by omega)):p:=h
def aM.cf{i:List an}(h:aM i):i.length<=2/\∀f∈i,CF f:=by
 cases h with
 |none=>exact⟨by simp,by simp⟩
 |size a b g e=>exact⟨by simp,λf hf=>by rw[zN]at hf;subst hf;exact .e0 (by decide) (by decide) (by decide) (by omega) (by omega) (by omega)⟩
 |tag n ws q w o r=>
  refine⟨by simp,λf hf=>?_⟩;rw[zN]at hf;subst hf;refine⟨show jS.size<=12 by decide,show nE.size<=12 by decide,show nE.size<=12 by decide,?_,λs k=>?_,by show ws.length<=3;omega,λz j=>?_,show(0:Int)<=3/\(3:Int)<=8 by decide,show(-1000:Int)<=0/\(0:Int)<=1000 by decide,show(-1000:Int)<=0/\(0:Int)<=1000 by decide⟩
  .show(List.take n _).length<=3;rw[zR];simp;omega
  .have:=xG k;simp only[zU,yF,xE]at this;rcases this with rfl|rfl|rfl<;>decide
  .have:=o z j;omega
 |born a b c d g e m l=>exact Zu
 |state a b g e=>exact⟨by simp,λf hf=>by rw[zN]at hf;subst hf;exact .e0 (by decide) (by decide) (by decide) (by omega) (by omega) (by omega)⟩
 |low a b c d g e m l=>exact Zu
structure Sy(k:aq):Prop where
 ck:CK k
 one:k.fields.length<=9\/0<=ii k.fields pX
def PT(n:Nat)(h:n<=2):1<=(bA n).size/\(bA n).size<=12:=by
 rcases n with _|_|_|n
 .decide
 .decide
 .decide
 .omega
def NC(h:p:=by
 exact⟨by simp,λf hf=>by rw[zN]at hf;subst hf;exact .e0 (by decide) (by omega) (by decide) (by decide) (by decide) (by decide)⟩):p:=h
def gZ.cf{i d:List aq}{f1:List an}(h:gZ i nm f1 d)(x:nm.size<=12)(e:∀k∈i,Sy k):(f1.length<=3/\∀f∈f1,CF f)/\d.length=i.length/\∀k∈d,Sy k:=by
 have o:∀{t:Nat}{y:aq}{l u:Int},i[t]?=some y->(l=0\/l=1)->u∈[(4:Int),3,8,2]->CF (iN y l u):=λc r m=>by
  have:=(e _ (zG c)).ck.nm;simp only[zU,yF,xE]at m;exact .e0 (by decide) (by omega) (by decide) (by decide) (by omega) (by omega)
 have s:∀{t:Nat}{y:aq}{sm:List an},i[t]?=some y->(sm=[]\/∃g,0<=pV y/\y.fields[(pV y).toNat]?=some g/\sm=[iP g.name])->sm.length<=1/\∀f∈sm,CF f:=λc j=>by
  rcases j with rfl|⟨g,_,z,rfl⟩
  .exact⟨by simp,by simp⟩
  .have:=((e _ (zG c)).ck.fs g (zG z)).nm;exact NC
 cases h with
 |none h=>exact⟨⟨by simp,by simp⟩,rfl,e⟩
 |of t y l u sm c r m j=>
  have w:=o c r m;have q:=s c j;exact⟨⟨by have:=q.1;simp only[List.length_cons];omega,λf hf=>by
   rcases zU.1 hf with rfl|hf
   .exact w
   .exact q.2 f hf⟩,rfl,e⟩
 |part t y l u a b sm c r m j A C B=>
  have w:=o c r m;have q:=s c j;have n:=e _ (zG c);refine⟨⟨by have:=q.1;simp only[List.length_cons,zI,List.length_nil];omega,λf hf=>?_⟩,yR ..,λk v=>?_⟩
  .rcases zU.1 hf with rfl|hf
   .exact w
   .rcases zO.1 hf with hf|hf
    .exact q.2 f hf
    .rw[zN]at hf;subst hf;exact .e0 (by decide) (by decide) (by decide) (by decide) (by omega) (by omega)
  .rcases yZ v with h|rfl
   .exact e k h
   .refine⟨⟨n.ck.nm,n.ck.lo,n.ck.hi,?_,λf hf=>?_⟩,.inr ?_⟩
    .show(y.fields++[br nm]).length<=10;rw[zI];have:=n.one;simp only[List.length_cons,List.length_nil];omega
    .rcases zO.1 hf with hf|hf
     .exact n.ck.fs f hf
     .rw[zN]at hf;subst hf;exact .e0 (by decide) x (by decide) (by decide) (by decide) (by decide)
    .have:=uK (λf:an=>seq f.name pX) (y.fields++[br nm]);rw[List.any_append,show List.any [br nm] (λf=>seq f.name pX)=true by simp[br,QM],Bool.or_true]at this;exact wY this
def jG.cls{s a:List aq}{k:aq}(h:jG s k a)(v:s.length<=2)(e:∀k∈s,Sy k):Sy k/\a.length=s.length/\∀k∈a,Sy k:=by
 obtain⟨l,r,i,f1,f2,c,b,C,E,B,rfl,A,z,x,w,_⟩:=h.ex;have d:=PT s.length v;obtain⟨⟨D,t⟩,o,m⟩:=A.cf d.2 e;have j:=x.cf;have g:=w.cf;have q:f2.length<=1/\∀f∈f2,CF f:=by
  rcases z with rfl|⟨y,u,_,rfl⟩
  .exact⟨by simp,by simp⟩
  .have:=(e _ (zG u)).ck.nm;exact NC
 have n:(dm i::(f1++(f2++(c++b)))).length<=9:=by
  simp only[List.length_cons,zI];omega
 simp only[zU,yF,xE]at C B;refine⟨⟨⟨d,by show -1000<=l/\l<=1000;omega,by show -1000<=l+r/\l+r<=1000;omega,by show List.length (dm i::(f1++(f2++(c++b))))<=10;omega,λf hf=>?_⟩,.inl n⟩,o,m⟩;rcases zU.1 hf with rfl|hf
 .exact .e0 (by decide) (by decide) (by decide) (by decide) (by omega) (by decide)
 .rcases zO.1 hf with hf|hf
  .exact t f hf
  .rcases zO.1 hf with hf|hf
   .exact q.2 f hf
   .rcases zO.1 hf with hf|hf
    .exact j.2 f hf
    .exact g.2 f hf
end
section
open Go Go.RowKit Go.Shelf
inductive di:List aq->Prop
 |nil:di []
 |step {ks ks':List aq} {k:aq} (h:di ks) (m:jG ks k ks') (l:ks'.length=ks.length):di (ks'++[k])
inductive dh(ks:List aq):Nat->List cH->Prop
 |nil:dh ks 0 []
 |skip {i:Nat} {rs:List cH} (h:dh ks i rs):dh ks (i+1) rs
 |take {i:Nat} {rs:List cH} {k:aq} {r:cH} (h:dh ks i rs) (hk:ks[i]?=some k) (hr:cB k r):dh ks (i+1) (rs++[r])
def di.ck{s:List aq}(h:di s)(b:s.length<=3):∀k∈s,Sy k:=by
 induction h with
 |nil=>simp
 |step h m l i=>
  rw[zI,List.length_singleton]at b;obtain⟨d,e,c⟩:=m.cls (by omega) (i (by omega));intro k a;rcases zO.1 a with a|a
  .exact c k a
  .rw[zN]at a;subst a;exact d
abbrev fZ:List ByteArray:=[⟨#[110,101,119]⟩,⟨#[111,112,101,110]⟩,⟨#[100,111,110,101]⟩,⟨#[115,104,117,116]⟩]
def Ke(mv:List (Int×Int))(s:Int):Nat:=(mv.filter λp=>decide (p.1=s)).length
structure LJ(n:Nat)(c:Int->Nat)(mv:List (Int×Int)):Prop where
 q:∀q∈mv,(0<=q.1/\q.1<(n:Int))/\(0<=q.2/\q.2<(n:Int))
 c:∀s,Ke mv s<=c s
variable{mv:List (Int×Int)}
def LJ.le{n:Nat}{c c':Int->Nat}(h:LJ n c mv)(a:∀s,c s<=c' s):LJ n c' mv:=⟨h.q,λs=>xH (h.c s) (a s)⟩
def LJ.snoc{n:Nat}{c c':Int->Nat}(h:LJ n c mv){a b:Int}(k:0<=a/\a<(n:Int))(j:0<=b/\b<(n:Int))(i:∀s,c s+(if a=s then 1 else 0)<=c' s):LJ n c' (mv++[(a,b)]):=by
 refine⟨λq g=>?_,λs=>?_⟩
 .rcases zO.1 g with d|d
  .exact h.q q d
  .rw[zN]at d;subst d;exact⟨k,j⟩
 .have d:=h.c s;have f:=i s;unfold Ke at *;rw[vZ,zI];by_cases e:a=s
  .rw[if_pos e]at f;have:([(a,b)].filter λp=>decide (p.1=s)).length<=1:=List.length_filter_le _ _;omega
  .rw[if_neg e]at f;have:([(a,b)].filter λp=>decide (p.1=s))=[]:=by simp[e]
   rw[this];simp only[List.length_nil];omega
structure cg(x:ak):Prop where
 ver:0<=x.vz/\x.vz<4
 nk:1<=x.kz.length/\x.kz.length<=3
 ks:di x.kz
 ls:∃(m:Nat)(mv:List (Int×Int)),2<=m/\m<=4/\x.lz=[⟨bz,fZ.take m,mv⟩]/\mv.length<=5/\∀p∈mv,(0<=p.1/\p.1<m)/\(0<=p.2/\p.2<m)
 nr:x.rules.length<=2
 rs:∃i,i<=x.kz.length/\dh x.kz i x.rules
 mc:∀l∈x.lz,∀z,Ke l.mz z<=2
abbrev eL(b:Nat)(r:Int)(kv l a:Value):Nat×ax:=(b,.cells 27 [iD r,.v kv,.v l,.v a])
abbrev zS:List D:=[.v (zv (ZV.int IntKind.i64)),.v (zv ZV.sl),.v (zv ZV.sl),.v (zv ZV.sl)]
def bs3{A B:Prop}(k:B)(h:ar B->A:=by intro q7;(first|(with_reducible refine Bc.l ?_)|fail|fail|((with_reducible refine Cb.go ?h ?_);(case h=>decide +kernel)));exact q7.1):A:=h ⟨k⟩
def Tj{A B:Prop}(k:B)(h:ar B->A:=by intro q7;(first|refine bh ?_|refine bs3 ?_|(refine' aj ?hc ?_;(case hc=>fail)));exact q7.1):A:=h ⟨k⟩
variable{p:Prop}
def Qs(h:p:=by first|exact zH _|exact List.Perm.swap _ _ _):p:=h
def gi(h:p:=by(refine cV λa=>?_;simp only[dU,aF,eL,List.append_eq,List.nil_append,cU,dn,de,sD,iD,bD];omega)):p:=h
def pc(h:p:=by(refine cV λa=>?_;simp only[dU,aF,eL,List.append_eq,List.nil_append,cU,dn,de,sD,iD,bD];omega)):p:=h
def Ki(h:p:=by first|exact zH _|((refine cV λa=>?_;simp only[dU,aF,eL,List.append_eq,List.nil_append,cU,dn,de,sD,iD,bD];omega))):p:=h
def Z7(h:p:=by
 repeat' first|refine bB ?_|intro b;conv=>whnf
 refine Rs.c ai (m:=2) rfl rfl rfl rfl rfl rfl ?_
 repeat' first|refine bB ?_|intro b;conv=>whnf
 exact Rt.by (σ':=[]) (d':=aw ⟨aB xs 0 4,ks,[⟨bz,fZ.take (2+n2),mv⟩],rs⟩) (Vs.vd ⟨aF bm xs p2::eL b4 (aB xs 0 4) (.slice a ks.length c) (.slice a11 1 c11) (.slice a12 rs.length c12)::eL b2 (aB xs 0 4) (.slice a ks.length c) (.slice a11 1 c11) (.slice a12 rs.length c12)::(s++(s11++sk)),by rw[zZ]⟩ (Vd.agg (.cons (Vd.same (λz hz=>by cases hz) _) (.cons (Vd.row (ρ:=aF bm xs p2::eL b4 (aB xs 0 4) (.slice a ks.length c) (.slice a11 1 c11) (.slice a12 rs.length c12)::eL b2 (aB xs 0 4) (.slice a ks.length c) (.slice a11 1 c11) (.slice a12 rs.length c12)::(s++s11)) hkr gi (λz hz=>by cases hz)) (.cons (Vd.row (ρ:=aF bm xs p2::eL b4 (aB xs 0 4) (.slice a ks.length c) (.slice a11 1 c11) (.slice a12 rs.length c12)::eL b2 (aB xs 0 4) (.slice a ks.length c) (.slice a11 1 c11) (.slice a12 rs.length c12)::(s++sk)) hr11 gi (λz hz=>by cases hz)) (.cons (Vd.row (ρ:=aF bm xs p2::eL b4 (aB xs 0 4) (.slice a ks.length c) (.slice a11 1 c11) (.slice a12 rs.length c12)::eL b2 (aB xs 0 4) (.slice a ks.length c) (.slice a11 1 c11) (.slice a12 rs.length c12)::(s11++sk)) hrr gi (λz hz=>by cases hz)) .nil)))))) ⟨_,rfl,rfl,⟨⟨h0.1,h0'⟩,⟨by show 1<=ks.length;omega,by show ks.length<=3;omega⟩,hch,⟨2+n2,mv,by omega,by omega,rfl,hml,hmq.q⟩,hrl,⟨_,hi5,hrc⟩,λl hl z=>by rw[zN]at hl;subst hl;exact hmq.c z⟩⟩):p:=h
def qM(l:List Int)(hl:eH l):az prog 7 [bv l] [] (λd σ=>∃x,d=aw x/\σ=[]/\cg x):=by
 have hll:=hl.2;have hx:eH (l.take 200):=⟨λz hz=>hl.1 z (xG hz),by have:=List.length_take_le 200 l;omega⟩
 generalize hxs:l.take 200=xs at hx;have e0:List.take (if(200:Int)<((l.map λx=>[iD x]).length:Int)then 200 else((l.map λx=>[iD x]).length:Int)).toNat (l.map λx=>[iD x])=xs.map λx=>[iD x]:=by
  rw[zL,←hxs,vR];split
  .rfl
  .rw[yL (by rw[zL];omega),yL (by rw[zL];omega)]
 refine dB func7 ntmps7 λBB=>?_
 repeat' first|refine Tj ?_|intro b;conv=>whnf
 generalize b=b2;rw[e0];refine Bx.r (ce.box rfl rfl (λbm=>?_));have h0:=ek xs 0 4;have h0':=h0.2 (by omega);have h1:=ek xs (0+1) 3;have h1':=h1.2 (by omega);obtain⟨Y,hn1⟩:∃n:Nat,aB xs (0+1) 3=n:=⟨(aB xs (0+1) 3).toNat,by omega⟩
 repeat' first|refine Tj ?_|intro b;conv=>whnf|((refine bu (eP xs hx bm _ _ ⟨by omega,by omega⟩) (zH ([aF bm xs _]++_)) (λo=>o++_) (λo=>zH _) ?_);(rintro _ _ ⟨rfl,rfl⟩))|((refine bu (eP xs hx bm _ _ ⟨by omega,by omega⟩) (show List.Perm (_::aF bm xs _::_) ([aF bm xs _]++(_::_)) from List.Perm.swap _ _ _) (λo=>o++(_::_)) (λo=>zH _) ?_);(rintro _ _ ⟨rfl,rfl⟩))
 rw[hn1]
 repeat' first|refine bB ?_|intro b;conv=>whnf
 generalize b=b4;refine aO mixed ai (γ:=Nat×Int×List aq×Value×ae) (λg=>[(6,iD g.1)]) (λg=>aF bm xs g.2.1::eL b4 (aB xs 0 4) g.2.2.2.1 (.slice none 0 0) (.slice none 0 0)::(b2,.cells 27 zS)::g.2.2.2.2) (λg=>g.1<=1+Y/\(2<=g.2.1/\g.2.1<=2+g.1*100)/\g.2.2.1.length=g.1/\di g.2.2.1/\ab 78 4 (g.2.2.1.map aD) g.2.2.2.1 g.2.2.2.2) (λg=>1+Y-g.1) (0,2,[],.slice none 0 0,[]) (ah aJ) (Sc.perm Qs) ⟨zW _,⟨by simp,by simp⟩,rfl,di.nil,ab.nil _ _⟩ ?_;rintro⟨i,q,ks,v,sk⟩ ⟨hi,⟨hp1,Q⟩,hkl,hch,hkr⟩;simp only at hi hp1 Q hkl hch hkr⊢;obtain⟨a,c,e⟩:=hkr.slice;rw[zL]at e;subst e;by_cases hin:i<1+Y
 .have F:=hch.ck (by omega);have HK:=CC xs hx bm q ⟨by omega,by omega⟩ ks (by omega) (λk R=>by have:=(F k R).ck.nf;omega) a c sk hkr
  repeat' first|refine bB ?_|intro b;conv=>whnf
  refine gS ?_;refine tV mixed ai rfl [0,2,3] 7 (.two 1 (.one 4 (.one 5 (.one 6 (.one 7 (.one 8 (.one 9 .done)))))) 4 (.two 1 (.one 5 (.one 6 (.one 7 (.one 8 (.one 9 .done))))) 5 (.two 1 (.one 6 (.one 7 (.one 8 (.one 9 .done)))) 6 (.one 1 (.one 7 (.one 8 (.one 9 .done))))))) (γ:=Int×List aq×aq×Value×ae) (λ_=>[]) (λg=>aF bm xs g.1::eL b4 (aB xs 0 4) g.2.2.2.1 (.slice none 0 0) (.slice none 0 0)::(b2,.cells 27 zS)::g.2.2.2.2) (λg=>(q<=g.1/\g.1<=q+100)/\jG ks g.2.2.1 g.2.1/\ab 78 4 ((g.2.1++[g.2.2.1]).map aD) g.2.2.2.1 g.2.2.2.2) (by decide +kernel) ?_ ?_
  .repeat' first|refine bB ?_|intro b;conv=>whnf|(refine And.intro ?_ ?_<;>(conv=>whnf))|((refine bu (t:=[eL b4 (aB xs 0 4) (.slice a ks.length c) (.slice none 0 0) (.slice none 0 0),(b2,.cells 27 zS)]) HK gi (λo=>eL b4 (aB xs 0 4) (.slice a ks.length c) (.slice none 0 0) (.slice none 0 0)::(b2,.cells 27 zS)::o) (λo=>pc) ?_);(rintro _ _ ⟨p2,k,I,s2,E,rfl,rfl,y,M⟩);(have hml:=(M.cls (by omega) F).2.1))|(refine Ap.go rfl rfl rfl rfl y (τ:=eL b4 (aB xs 0 4) (.slice a ks.length c) (.slice none 0 0) (.slice none 0 0)::(b2,.cells 27 zS)::[aF bm xs p2]) gi rfl (zs:=(I++[k]).map aD) (by rw[yB];rfl) (by rw[zL,zI,hml];simp only[List.length_singleton];omega) (by rw[zL,zI,hml];simp only[List.length_singleton];omega) (λo=>eL b4 (aB xs 0 4) (.slice a ks.length c) (.slice none 0 0) (.slice none 0 0)::(b2,.cells 27 zS)::aF bm xs p2::o) (λo=>pc) (λa3 c3 s3 hr3=>?_))
   all_goals exact⟨(p2,I,k,_,s3),(ah aJ),Sc.perm gi,E,M,hr3⟩
  .rintro⟨p2,I,k,v2,s2⟩ ⟨⟨E,C⟩,M,y⟩;simp only at E C M y⊢;have hml:=(M.cls (by omega) F).2.1
   repeat' first|refine bB ?_|intro b;conv=>whnf
   exact⟨(i+1,p2,I++[k],v2,s2),(ah av),Sc.perm Ki,⟨by simp only;omega,⟨by simp only;omega,by simp only;omega⟩,by simp only[zI,List.length_singleton];omega,hch.step M hml,y⟩,by simp only;omega⟩
 .obtain rfl:i=1+Y:=by omega
  have h2:=ek xs q 3;have h2':=h2.2 (by omega);obtain⟨n2,hn2⟩:∃n:Nat,aB xs q 3=n:=⟨(aB xs q 3).toNat,by omega⟩
  have hst:List.take (2+(n2:Int)).toNat [[D.v (Value.string ⟨#[110,101,119]⟩)],[D.v (Value.string ⟨#[111,112,101,110]⟩)],[D.v (Value.string ⟨#[100,111,110,101]⟩)],[D.v (Value.string ⟨#[115,104,117,116]⟩)]]=(fZ.take (2+n2)).map λs=>[sD s]:=by
   rw[show(2+(n2:Int)).toNat=2+n2 by omega,vR];rfl
  have hsl:(fZ.take (2+n2)).length=2+n2:=by rw[zR];simp;omega
  repeat' first|refine bB ?_|intro b;conv=>whnf
  ((refine bu (eP xs hx bm _ _ ⟨by omega,by omega⟩) (zH ([aF bm xs _]++_)) (λo=>o++_) (λo=>zH _) ?_);(rintro _ _ ⟨rfl,rfl⟩))
  rw[hn2]
  repeat' first|refine bB ?_|intro b;conv=>whnf
  rw[hst]
  repeat' first|refine bB ?_|intro b;conv=>whnf
  generalize b=w;refine aO mixed ai (γ:=Nat×List (Int×Int)×Value×ae) (λg=>[(9,iD g.1)]) (λg=>(w,.cells 93 [sD bz,gr (fZ.take (2+n2)),.v g.2.2.1])::aF bm xs (q+1)::eL b4 (aB xs 0 4) (.slice a ks.length c) (.slice none 0 0) (.slice none 0 0)::(b2,.cells 27 zS)::(g.2.2.2++sk)) (λg=>g.1<=1+n2/\g.2.1.length=g.1/\LJ (2+n2) (λs=>if 0<=s/\s<g.1 then 1 else 0) g.2.1/\ab 94 2 (g.2.1.map cE) g.2.2.1 g.2.2.2) (λg=>1+n2-g.1) (0,[],.slice none 0 0,[]) (ah aJ) (Sc.perm Qs) ⟨zW _,rfl,⟨by simp,λ_=>zW _⟩,ab.nil _ _⟩ ?_;rintro⟨i,mv,v,s⟩ ⟨hi2,hml,hmq,u⟩;simp only at hi2 hml hmq u⊢;have hle:((fZ.take (2+n2)).map λs=>[sD s]).length=2+n2:=by rw[zL];exact hsl
  by_cases hin2:i<1+n2
  .repeat' first|refine bB ?_|intro b;conv=>whnf
   refine Ap.go rfl rfl rfl rfl u (τ:=(w,.cells 93 [sD bz,gr (fZ.take (2+n2)),.v v])::aF bm xs (q+1)::eL b4 (aB xs 0 4) (.slice a ks.length c) (.slice none 0 0) (.slice none 0 0)::(b2,.cells 27 zS)::sk) gi rfl (zs:=(mv++[((i:Int),(i:Int)+1)]).map cE) (by rw[yB];rfl) (by simp;omega) (by simp;omega) (λo=>(w,.cells 93 [sD bz,gr (fZ.take (2+n2)),.v v])::aF bm xs (q+1)::eL b4 (aB xs 0 4) (.slice a ks.length c) (.slice none 0 0) (.slice none 0 0)::(b2,.cells 27 zS)::(o++sk)) (λo=>pc) (λa5 c5 s5 L=>?_)
   repeat' first|refine bB ?_|intro b;conv=>whnf
   refine⟨(i+1,mv++[((i:Int),(i:Int)+1)],_,s5),(ah av),Sc.refl _,⟨by simp only;omega,by simp only[zI,List.length_singleton];omega,hmq.snoc ⟨by omega,by omega⟩ ⟨by omega,by omega⟩ (λz=>by(try simp only);split<;>split<;>split<;>omega),L⟩,by simp only;omega⟩
  .obtain rfl:i=1+n2:=by omega
   have h3:=ek xs (q+1) 2
   repeat' first|refine aI ?_|intro b;conv=>whnf
   refine Bc.l ?_
   repeat' first|refine aI ?_|intro b;conv=>whnf
   ((refine bu (t:=(w,.cells 93 [sD bz,gr (fZ.take (2+n2)),.v v])::eL b4 (aB xs 0 4) (.slice a ks.length c) (.slice none 0 0) (.slice none 0 0)::(b2,.cells 27 zS)::(s++sk)) (eP xs hx bm (q+1) _ ⟨by omega,by omega⟩) gi (λo=>(w,.cells 93 [sD bz,gr (fZ.take (2+n2)),.v v])::(o++(eL b4 (aB xs 0 4) (.slice a ks.length c) (.slice none 0 0) (.slice none 0 0)::(b2,.cells 27 zS)::(s++sk)))) (λo=>pc) ?_);(rintro _ _ ⟨rfl,rfl⟩))
   repeat' first|refine aI ?_|intro b;conv=>whnf
   refine Bc.j ?_;refine KH mixed ai (γ:=List (Int×Int)×Value×ae) (λ_=>[]) (λg=>(w,.cells 93 [sD bz,gr (fZ.take (2+n2)),.v g.2.1])::aF bm xs (q+1+1)::eL b4 (aB xs 0 4) (.slice a ks.length c) (.slice none 0 0) (.slice none 0 0)::(b2,.cells 27 zS)::(g.2.2++sk)) (λg=>g.1.length<=4/\LJ (2+n2) (λs=>1+if s=1 then 1 else 0) g.1/\ab 94 2 (g.1.map cE) g.2.1 g.2.2) ?_ ?_
   ·(((with_reducible refine W.mk ?_);(conv=>whnf)))
    refine Bc.l ?_;by_cases hz3:aB xs (q+1) 2=0
    .repeat' first|refine aI ?_|intro b;conv=>whnf
     refine Ap.go rfl rfl rfl rfl u (τ:=(w,.cells 93 [sD bz,gr (fZ.take (2+n2)),.v v])::aF bm xs (q+1+1)::eL b4 (aB xs 0 4) (.slice a ks.length c) (.slice none 0 0) (.slice none 0 0)::(b2,.cells 27 zS)::sk) gi rfl (zs:=(mv++[((1:Int),(0:Int))]).map cE) (by rw[yB];rfl) (by simp;omega) (by simp;omega) (λo=>(w,.cells 93 [sD bz,gr (fZ.take (2+n2)),.v v])::aF bm xs (q+1+1)::eL b4 (aB xs 0 4) (.slice a ks.length c) (.slice none 0 0) (.slice none 0 0)::(b2,.cells 27 zS)::(o++sk)) (λo=>pc) (λa5 c5 s5 L=>?_)
     repeat' first|refine aI ?_|intro b;conv=>whnf
     refine⟨(mv++[((1:Int),(0:Int))],_,s5),(ah aJ),Sc.refl _,⟨by simp only[zI,List.length_singleton];omega,hmq.snoc ⟨by omega,by omega⟩ ⟨by omega,by omega⟩ (λz=>by(try simp only);split<;>split<;>split<;>omega),L⟩⟩
    .repeat' first|refine aI ?_|intro b;conv=>whnf
     exact⟨(mv,v,s),(ah aJ),Sc.perm Ki,by simp only;omega,hmq.le (λz=>by(try simp only);split<;>split<;>omega),u⟩
   .clear hmq u hml;rintro⟨mv,v,s⟩ ⟨hml,hmq,u⟩;simp only at hml hmq u⊢;obtain⟨Z,c8,e8⟩:=u.slice;rw[zL]at e8;subst e8;have h4:=ek xs (q+1+1) 3
    repeat' first|refine aI ?_|intro b;conv=>whnf
    ((refine bu (t:=(w,.cells 93 [sD bz,gr (fZ.take (2+n2)),.v (.slice Z mv.length c8)])::eL b4 (aB xs 0 4) (.slice a ks.length c) (.slice none 0 0) (.slice none 0 0)::(b2,.cells 27 zS)::(s++sk)) (eP xs hx bm (q+1+1) _ ⟨by omega,by omega⟩) gi (λo=>(w,.cells 93 [sD bz,gr (fZ.take (2+n2)),.v (.slice Z mv.length c8)])::(o++(eL b4 (aB xs 0 4) (.slice a ks.length c) (.slice none 0 0) (.slice none 0 0)::(b2,.cells 27 zS)::(s++sk)))) (λo=>pc) ?_);(rintro _ _ ⟨rfl,rfl⟩))
    repeat' first|refine aI ?_|intro b;conv=>whnf
    refine Bc.j ?_;refine KH mixed ai (γ:=List (Int×Int)) (λ_=>[]) (λg=>(w,.cells 93 (bX ⟨bz,fZ.take (2+n2),g⟩))::aF bm xs (q+1+1+1)::eL b4 (aB xs 0 4) (.slice a ks.length c) (.slice none 0 0) (.slice none 0 0)::(b2,.cells 27 zS)::sk) (λg=>g.length<=5/\LJ (2+n2) (λ_=>2) g) ?_ ?_
    ·(((with_reducible refine W.mk ?_);(conv=>whnf)))
     refine Bc.l ?_;have S:∀(v:Value)(m:List (Int×Int))(s:ae),ab 94 2 (m.map cE) v s->Sc ((w,.cells 93 [sD bz,gr (fZ.take (2+n2)),.v v])::aF bm xs (q+1+1+1)::eL b4 (aB xs 0 4) (.slice a ks.length c) (.slice none 0 0) (.slice none 0 0)::(b2,.cells 27 zS)::(s++sk)) ((w,.cells 93 (bX ⟨bz,fZ.take (2+n2),m⟩))::aF bm xs (q+1+1+1)::eL b4 (aB xs 0 4) (.slice a ks.length c) (.slice none 0 0) (.slice none 0 0)::(b2,.cells 27 zS)::sk):=λv m s hr=>
      (Sc.perm gi).trans (Sc.frz (cs:=[sD bz,gr (fZ.take (2+n2)),.v v]) (j:=2) (s:=s) (τ:=aF bm xs (q+1+1+1)::eL b4 (aB xs 0 4) (.slice a ks.length c) (.slice none 0 0) (.slice none 0 0)::(b2,.cells 27 zS)::sk) rfl hr (ec.refl _))
     by_cases hz4:aB xs (q+1+1) 3=0
     .repeat' first|refine aI ?_|intro b;conv=>whnf
      rw[hle]
      repeat' first|refine aI ?_|intro b;conv=>whnf
      refine Ap.go rfl rfl rfl rfl u (τ:=(w,.cells 93 [sD bz,gr (fZ.take (2+n2)),.v (.slice Z mv.length c8)])::aF bm xs (q+1+1+1)::eL b4 (aB xs 0 4) (.slice a ks.length c) (.slice none 0 0) (.slice none 0 0)::(b2,.cells 27 zS)::sk) gi rfl (zs:=(mv++[((0:Int),((2+n2:Nat):Int)-1)]).map cE) (by rw[yB];rfl) (by simp;omega) (by simp;omega) (λo=>(w,.cells 93 [sD bz,gr (fZ.take (2+n2)),.v (.slice Z mv.length c8)])::aF bm xs (q+1+1+1)::eL b4 (aB xs 0 4) (.slice a ks.length c) (.slice none 0 0) (.slice none 0 0)::(b2,.cells 27 zS)::(o++sk)) (λo=>pc) (λa10 c10 s10 P=>?_)
      repeat' first|refine aI ?_|intro b;conv=>whnf
      refine⟨mv++[((0:Int),((2+n2:Nat):Int)-1)],(ah aJ),S _ _ s10 P,by simp only[zI,List.length_singleton];omega,hmq.snoc ⟨by omega,by omega⟩ ⟨by omega,by omega⟩ (λz=>by(try simp only);split<;>split<;>omega)⟩
     .repeat' first|refine aI ?_|intro b;conv=>whnf
      exact⟨mv,(ah aJ),(Sc.perm Ki).trans (S _ mv s u),by omega,hmq.le (λz=>by(try simp only);split<;>omega)⟩
    .clear hmq u hml;rintro mv ⟨hml,hmq⟩;have F:=hch.ck (by omega)
     repeat' first|refine bB ?_|intro b;conv=>whnf
     refine Ap.go rfl rfl rfl rfl (ab.nil 93 3) (zH ([]++_)) rfl (zs:=[bX ⟨bz,fZ.take (2+n2),mv⟩]) rfl (by simp) (by simp) (λo=>o++_) (λo=>zH _) (λa11 c11 s11 hr11=>?_)
     repeat' first|refine bB ?_|intro b;conv=>whnf
     refine Sv.cellm (tb:=27) (cs:=[iD (aB xs 0 4),.v (.slice a ks.length c),.v (.slice none 0 0),.v (.slice none 0 0)]) (cs':=[iD (aB xs 0 4),.v (.slice a ks.length c),.v (.slice a11 1 c11),.v (.slice none 0 0)]) (τ:=(w,.cells 93 (bX ⟨bz,fZ.take (2+n2),mv⟩))::aF bm xs (q+1+1+1)::(b2,.cells 27 zS)::(s11++sk)) gi (by simp) rfl rfl ?_
     repeat' first|refine bB ?_|intro b;conv=>whnf
     refine aO mixed ai (γ:=Nat×Int×List cH×Value×ae) (λg=>[(10,iD g.1)]) (λg=>aF bm xs g.2.1::eL b4 (aB xs 0 4) (.slice a ks.length c) (.slice a11 1 c11) g.2.2.2.1::(b2,.cells 27 zS)::(g.2.2.2.2++(s11++sk))) (λg=>g.1<=ks.length/\(q+3<=g.2.1/\g.2.1<=q+3+g.1*20)/\g.2.2.1.length<=2/\dh ks g.1 g.2.2.1/\ab 96 5 (g.2.2.1.map cX) g.2.2.2.1 g.2.2.2.2) (λg=>ks.length-g.1) (0,q+1+1+1,[],.slice none 0 0,[]) (ah aJ) (Sc.drop (ρ:=[(w,.cells 93 (bX ⟨bz,fZ.take (2+n2),mv⟩))]) gi) ⟨zW _,⟨by simp only;omega,by simp only;omega⟩,by simp,dh.nil,ab.nil _ _⟩ ?_;rintro⟨i,p2,rs,rv,s⟩ ⟨hi5,⟨E,C⟩,hrl,hrc,hrr⟩;simp only at hi5 E C hrl hrc hrr⊢;obtain⟨a12,c12,U⟩:=hrr.slice;rw[zL]at U;subst U;by_cases hin5:i<ks.length
     .by_cases hr2:rs.length<2
      .obtain⟨k,R⟩:∃k,ks[i]?=some k:=⟨_,zD hin5⟩
       have J:=(F k (zG R)).ck;obtain⟨K,cap9,G,e9,e9s,T⟩:=ab.get hkr (show(ks.map aD)[i]?=some (aD k) by rw[qA,R];rfl);rw[zL]at e9
       cases e9
       subst e9s;have HR:=CA xs hx bm p2 ⟨by omega,by omega⟩ k (by have:=J.nf;omega) J.nm (λf hf=>by have h1:=(J.fs f hf).lo;have h2:=(J.fs f hf).hi;omega)
       repeat' first|refine bB ?_|intro b;conv=>whnf
       refine pB3 (tb:=78) (cs:=G) (x:=aD k) (by simp) rfl (by decide) (λj hj=>by rw[show 0+((i:Nat):Int).toNat*4+j=i*4+j by simp];exact T j hj) ?_
       repeat' first|refine bB ?_|intro b;conv=>whnf
       refine bu (t:=eL b4 (aB xs 0 4) (.slice (some ⟨K,0,none⟩) ks.length c) (.slice a11 1 c11) (.slice a12 rs.length c12)::(b2,.cells 27 zS)::(s++(s11++[(K,.cells 78 G)]))) HR Ki (λo=>o++(eL b4 (aB xs 0 4) (.slice (some ⟨K,0,none⟩) ks.length c) (.slice a11 1 c11) (.slice a12 rs.length c12)::(b2,.cells 27 zS)::(s++(s11++[(K,.cells 78 G)])))) (λo=>zH _) ?_;rintro _ _ ⟨X,r,ok,⟨hp3,hp3'⟩,rfl,rfl,hok⟩
       cases ok with
       |false=>
        repeat' first|refine bB ?_|intro b;conv=>whnf
        exact⟨(i+1,X,rs,.slice a12 rs.length c12,s),(ah av),Sc.sl (yG _ _),⟨by simp only;omega,⟨by simp only;omega,by simp only;omega⟩,hrl,hrc.skip,hrr⟩,by simp only;omega⟩
       |true=>
        repeat' first|refine bB ?_|intro b;conv=>whnf
        generalize b=V;refine Ap.go rfl rfl rfl rfl hrr (τ:=(V,.cells 96 [sD r.name,sD r.kind,sD r.a,sD r.b,iD r.n])::aF bm xs X::eL b4 (aB xs 0 4) (.slice (some ⟨K,0,none⟩) ks.length c) (.slice a11 1 c11) (.slice a12 rs.length c12)::(b2,.cells 27 zS)::(s11++[(K,.cells 78 G)])) gi rfl (zs:=(rs++[r]).map cX) (by rw[yB];rfl) (by simp;omega) (by simp;omega) (λo=>(V,.cells 96 [sD r.name,sD r.kind,sD r.a,sD r.b,iD r.n])::aF bm xs X::eL b4 (aB xs 0 4) (.slice (some ⟨K,0,none⟩) ks.length c) (.slice a11 1 c11) (.slice a12 rs.length c12)::(b2,.cells 27 zS)::(o++(s11++[(K,.cells 78 G)]))) (λo=>pc) (λa13 c13 s13 O=>?_)
        repeat' first|refine bB ?_|intro b;conv=>whnf
        exact⟨(i+1,X,rs++[r],_,s13),(ah av),Sc.sl (yG _ _),⟨by simp only;omega,⟨by simp only;omega,by simp only;omega⟩,by simp only[zI,List.length_singleton];omega,hrc.take R (hok rfl),O⟩,by simp only;omega⟩
      .exact Z7
     .obtain rfl:i=ks.length:=by omega
      exact Z7
end
section
open Go
def cB.cr{k:aq}{r:cH}(h:cB k r)(b:CK k):CR r:=by
 have hx:(k.name.extract 0 1).size<=1:=by rw[ByteArray.size_extract];omega
 have p:∀a:ByteArray,a.size<=5->(a++k.name.extract 0 1).size<=12:=λa e=>by rw[yU];omega
 cases h with
 |low n h d=>exact⟨p _ (by decide),b.nm.2,by show gP.size<=12;decide,by show fo.size<=12;decide,by show -2000<=n-2/\n-2<=2000;omega⟩
 |most f n h c d=>
  have:=(b.fs f (zG c)).lo;exact⟨p _ (by decide),b.nm.2,by show bw.size<=12;decide,by show nE.size<=12;decide,by show -2000<=f.lo+n/\f.lo+n<=2000;omega⟩
 |least f n h c d=>
  have:=(b.fs f (zG c)).hi;exact⟨p _ (by decide),b.nm.2,by show nE.size<=12;decide,by show bw.size<=12;decide,by show -2000<=n-f.hi/\n-f.hi<=2000;omega⟩
def dh.cr{c:List aq}{i:Nat}{s:List cH}(h:dh c i s)(e:∀k∈c,CK k):∀r∈s,CR r:=by
 induction h with
 |nil=>simp
 |skip h a=>exact a
 |take h b d a=>
  intro r m;rcases zO.1 m with m|m
  .exact a r m
  .rw[zN]at m;subst m;exact d.cr (e _ (zG b))
def cg.cls{x:ak}(h:cg x):LL x:=by
 have b:∀k∈x.kz,CK k:=λk b=>(h.ks.ck h.nk.2 k b).ck;obtain⟨m,mv,n,j,e,d,c⟩:=h.ls;obtain⟨i,_,r⟩:=h.rs;refine⟨by have:=h.ver;omega,h.nk.2,b,by rw[e];simp,λl a=>?_,by have:=h.nr;omega,r.cr b⟩;rw[e,zN]at a;subst a;refine⟨by show bz.size<=12;decide,by show(fZ.take m).length<=4;rw[zR];simp;omega,λs f=>?_,d,λq g=>by have:=c q g;omega⟩;have:=xG f;simp only[fZ,zU,yF,xE]at this;rcases this with rfl|rfl|rfl|rfl<;>decide
end
section
open Go
variable{j:Nat}
def z7{k:aq}(N:(k.fields.map an.name).Nodup){f:an}(h:k.fields[j]?=some f):bb k f.name=j:=
 K' h (QM _) λi y b a=>by
  cases s:seq y.name f.name with
  |false=>rfl
  |true=>
   exfalso;have e:=(FD _ _).1 s;have t:i<(k.fields.map an.name).length:=by rw[zL];exact(zE.1 a).1
   have:=(List.getElem?_inj (j:=j) t N).1 (by rw[qA,qA,a,h];simp[e]);omega
variable{g:an}
def bi8{F:List an}(N:(F.map an.name).Nodup){n:Nat}{f:an}(h:F[j]?=some f)(a:F[n]?=some g)(e:f.name=g.name):j=n:=
 (List.getElem?_inj (by rw[zL];exact(zE.1 h).1) N).1 (by rw[qA,qA,h,a];simp[e])
def Ed{α:Type}{p:α->Bool}{xs:List α}{a:α}(h:0<=idx p xs)(b:xs[(idx p xs).toNat]?=some a):p a=true:=by
 unfold idx at *;split at h
 .rename_i o c;obtain⟨e,d,_⟩:=wB.1 c;simp only[c,Int.toNat_natCast]at b;rw[zD e]at b
  cases b;exact d
 .omega
variable{l:List an}
def l5{n:ByteArray}(h:ii l n<0):∀f∈l,f.name≠n:=by
 intro f a e;have:=uK (λf:an=>seq f.name n) l;have b:l.any (λf:an=>seq f.name n)=true:=wC.2 ⟨f,a,(FD _ _).2 e⟩;rw[b]at this;have:=wY this;unfold ii at h;omega
def Sa{n:ByteArray}(h:0<=ii l n):∃f∈l,f.name=n:=by
 have:=uK (λf:an=>seq f.name n) l;unfold ii at h;rw[yJ h]at this;obtain⟨f,a,e⟩:=wC.1 this.symm;exact⟨f,a,(FD _ _).1 e⟩
def it(t:Nat)(lo h:Int):an:=⟨zz,bA t,nE,1,lo,h,[],[]⟩
def yi:an:=⟨ME,bA 0,nE,1,0,8,[],[]⟩
def g6(k:aq)(i:Nat):Prop:=∃n l h a b,k.fields[1]?=some (it i l h)/\1<n/\k.fields[n]?=some (fY a b)/\∀(c:Nat)(g:an),k.fields[c]?=some g->g.kind=7->c=n
def SmQ(k:List aq)(t:Nat)(sm:List an):Prop:=sm=[]\/∃(y:aq)(n:Nat)(g:an),k[t]?=some y/\y.fields[n]?=some g/\pp g.kind=true/\sm=[iP g.name]
def PtQ(k:List aq)(t i:Nat)(p:List an):Prop:=p=[]\/∃(a b:Int)(y:aq)(n:Nat),(0<=a/\a<3)/\(0<=b/\b<8)/\k[t]?=some y/\y.fields[n]?=some (br (bA i))/\p=[fY a b]
def zl(k:List aq)(i:Nat)(f1:List an):Prop:=f1=[]\/∃(t:Nat)(l h:Int)(sm p:List an),t<i/\(l=0\/l=1)/\h∈[(4:Int),3,8,2]/\SmQ k t sm/\PtQ k t i p/\f1=it t l h::(sm++p)
def zj(s:List aq)(i:Nat)(t:List an):Prop:=t=[]\/∃(j:Nat)(k:aq),i<j/\s[j]?=some k/\g6 k i/\t=[br (bA j)]
def dG(s:List aq)(i:Nat)(k:aq):Prop:=∃o r l f1 f2 a p t,o∈[(0:Int),1,2,4,1,2]/\(0<=r/\r<5)/\l∈[(0:Int),1,100,-3]/\k=⟨bA i,o,o+r,dm l::(f1++(f2++(a++(p++t))))⟩/\zl s i f1 /\
 (f2=[]\/(0<i/\f2=[yi]))/\aM a/\aM p/\(p=[]\/∃g b,p=g::b/\ii (dm l::(f1++(f2++a))) g.name<0)/\zj s i t
def RC(s k:List aq):Prop:=∀(i:Nat)(y:aq),s[i]?=some y->∃a,k[i]?=some a/\∃t,a.fields=y.fields++t/\∀g∈t,g.kind≠7
variable{y:aq}{t:List an}
def bc5{a:aq}(h:a.fields=y.fields++t){n:Nat}(b:y.fields[n]?=some g):a.fields[n]?=some g:=by
 rw[h,yP (zE.1 b).1];exact b
variable{i:Nat}
def g6.ext{d:aq}(h:g6 y i)(e:d.fields=y.fields++t)(j:∀g∈t,g.kind≠7):g6 d i:=by
 obtain⟨n,l,m,a,b,r,q,p,o⟩:=h;refine⟨n,l,m,a,b,bc5 e r,q,bc5 e p,λf g c k=>?_⟩;rw[e]at c;by_cases hl:f < y.fields.length
 .rw[yP hl]at c;exact o f g c k
 .rw[yK (by omega)]at c;exact absurd k (j g (zG c))
variable{k s:List aq}{sm:List an}
def SmQ.ext{t:Nat}(h:SmQ s t sm)(e:RC s k):SmQ k t sm:=by
 rcases h with rfl|⟨y,n,g,f,d,c,b⟩
 .exact .inl rfl
 .obtain⟨a,j,_,i,_⟩:=e t y f;exact .inr ⟨a,n,g,j,bc5 i d,c,b⟩
def PtQ.ext{t:Nat}(h:PtQ s t i sm)(e:RC s k):PtQ k t i sm:=by
 rcases h with rfl|⟨a,b,y,n,f,d,l,j,g⟩
 .exact .inl rfl
 .obtain⟨c,o,_,m,_⟩:=e t y l;exact .inr ⟨a,b,c,n,f,d,o,bc5 m j,g⟩
def zl.ext{f1:List an}(h:zl s i f1)(e:RC s k):zl k i f1:=by
 rcases h with rfl|⟨t,l,a,sm,p,j,g,f,d,c,b⟩
 .exact .inl rfl
 .exact .inr ⟨t,l,a,sm,p,j,g,f,d.ext e,c.ext e,b⟩
def zj.ext(h:zj s i t)(e:RC s k):zj k i t:=by
 rcases h with rfl|⟨j,a,f,d,c,b⟩
 .exact .inl rfl
 .obtain⟨y,m,_,l,g⟩:=e j a d;exact .inr ⟨j,y,f,m,c.ext l g,b⟩
def dG.ext{a:List aq}{k:aq}(h:dG s i k)(e:RC s a):dG a i k:=by
 obtain⟨o,r,l,f1,f2,c,p,t,v,u,q,n,m,j,g,f,d,b⟩:=h;exact⟨o,r,l,f1,f2,c,p,t,v,u,q,n,m.ext e,j,g,f,d,b.ext e⟩
def dG.name{k:aq}(h:dG s i k):k.name=bA i:=by
 obtain⟨o,r,l,f1,f2,b,p,t,e,d,c,a,_⟩:=h;rw[a]
def aM.kd{s:List an}(h:aM s):∀f∈s,f.kind=2\/f.kind=3\/f.kind=4\/f.kind=5:=by
 cases h<;>simp
def SF{A B:List an}{c:an}(d:∀g∈A,g.kind≠7)(b:∀g∈B,g.kind≠7){n:Nat}(h:(A++c::B)[n]?=some g)(k:g.kind=7):n=A.length:=by
 by_cases h1:n<A.length
 .rw[yP h1]at h;exact absurd k (d g (zG h))
 .rw[yK (by omega)]at h;by_cases h2:n-A.length=0
  .omega
  .obtain⟨m,a⟩:∃m,n-A.length=m+1:=⟨n-A.length-1,by omega⟩
   rw[a,List.getElem?_cons_succ]at h;exact absurd k (b g (zG h))
def oW(s:List aq)(k:aq):RC s (s++[k]):=λi y h=>⟨y,by rw[yP (zE.1 h).1];exact h,[],by simp,by simp⟩
def J3(s:List aq)(t:Nat)(y:aq)(k:aq)(nm:ByteArray)(b:s[t]?=some y):RC s (s.set t ⟨y.name,y.lo,y.hi,y.fields++[br nm]⟩++[k]):=λi z h=>by
 have l:=(zE.1 h).1;rw[yP (by rw[yR];exact l)];by_cases e:i=t
 .subst e;rw[b]at h;cases h
  exact⟨_,xI l,[br nm],rfl,λg a=>by rw[zN]at a;subst a;show(6:Int)≠7;decide⟩
 .rw[wN (Ne.symm e)];exact⟨z,h,[],by simp,by simp⟩
def A'{t:Nat}(a:k[t]?=some y)(s:sm=[]\/∃g,0<=pV y/\y.fields[(pV y).toNat]?=some g/\sm=[iP g.name]):SmQ k t sm:=by
 rcases s with rfl|⟨g,c,h,b⟩
 .exact .inl rfl
 .exact .inr ⟨y,_,g,a,h,Ed (p:=λf:an=>pp f.kind) c h,b⟩
def di.form(h:di s):∀(i:Nat)k,s[i]?=some k->dG s i k:=by
 induction h with
 |nil=>intro i k h;simp at h
 | @step s ks' k h m l J=>
  obtain⟨v,r,d,f1,f2,D,C,G,P,hid,rfl,hR,R,A,z,w⟩:=m.ex;have u:f2=[]\/(0<s.length/\f2=[yi]):=by
   rcases R with rfl|⟨y,q,hl,rfl⟩
   .exact .inl rfl
   .exact .inr ⟨by omega,by rw[Kp,yi,(J 0 y q).name]⟩
  have E:∀{t:Nat}{y:aq}(v p:Int),s[t]?=some y->iN y v p=it t v p:=λv p q=>by rw[iN,it,(J _ _ q).name]
  cases hR with
  |none Q=>
   subst Q;intro i k f;have p:i=0:=by have:=(zE.1 f).1;simp at this;omega
   subst p;rw[List.nil_append,List.getElem?_cons_zero]at f
   cases f
   exact⟨v,r,d,[],f2,D,C,[],G,P,hid,by simp,.inl rfl,u,A,z,w,.inl rfl⟩
  |of B y n o sm q H I M=>
   intro i k f;by_cases p:i<s.length
   .rw[yP p]at f;exact(J i k f).ext (oW _ _)
   .have p:i=s.length:=by have:=(zE.1 f).1;rw[zI,List.length_singleton]at this;omega
    subst p;rw[yK (zT _),wH,List.getElem?_cons_zero]at f
    cases f
    refine⟨v,r,d,_,f2,D,C,[],G,P,hid,by simp,.inr ⟨B,n,o,sm,[],(zE.1 q).1,H,I,(A' q M).ext (oW _ _),.inl rfl,by rw[E _ _ q];simp⟩,u,A,z,w,.inl rfl⟩
  |part B y n o a b sm q H I M ht ha hb=>
   have F:=(zE.1 q).1;have T:=J3 s B y ⟨bA s.length,v,v+r,dm d::(iN y n o::(sm++[fY a b])++(f2++(D++C)))⟩ (bA s.length) q;have L:∀g∈sm,g.kind≠7:=by
    rcases M with rfl|⟨g,_,_,rfl⟩
    .simp
    .intro g c;rw[zN]at c;subst c;show(8:Int)≠7;decide
   have x:∀g∈f2++(D++C),g.kind≠7:=by
    intro g c;rcases zO.1 c with c|c
    .rcases u with rfl|⟨_,rfl⟩
     .cases c
     .rw[zN]at c;subst c;show(1:Int)≠7;decide
    .rcases zO.1 c with c|c
     .have:=A.kd g c;omega
     .have:=z.kd g c;omega
   have hP:g6 ⟨bA s.length,v,v+r,dm d::(iN y n o::(sm++[fY a b])++(f2++(D++C)))⟩ B:=by
    have S:dm d::(iN y n o::(sm++[fY a b])++(f2++(D++C)))=(dm d::it B n o::sm)++fY a b::(f2++(D++C)):=by rw[E _ _ q];simp
    refine⟨(dm d::it B n o::sm).length,n,o,a,b,by rw[S];rfl,by simp,by show(dm d::_)[_]?=_;rw[S,yK (zT _),wH];rfl,λn' g c f=>?_⟩;change(dm d::_)[n']?=_ at c;rw[S]at c;refine SF (λg c=>?_) x c f;rcases zU.1 c with rfl|c
    .show(0:Int)≠7;decide
    .rcases zU.1 c with rfl|c
     .show(1:Int)≠7;decide
     .exact L g c
   intro i k f;by_cases p:i<s.length
   .have hk':=f;rw[yP (by rw[yR];exact p)]at f;by_cases e:i=B
    .subst e;rw[xI p]at f
     cases f
     obtain⟨N,X,K,g1,g2,Z,Y,W,h1,h2,h3,V,h5,h6,h7,h8,h9,U⟩:=J i y q;have O:W=[]:=by
      rcases U with rfl|⟨j,kj,_,_,_,rfl⟩
      .rfl
      .exact absurd rfl (l5 ht (br (bA j)) (by rw[V];simp))
     subst O;refine⟨N,X,K,g1,g2,Z,Y,[br (bA s.length)],h1,h2,h3,by rw[V];simp,h5.ext T,h6,h7,h8,h9,.inr ⟨s.length,_,p,by rw[yK (by rw[yR];exact zT _),yR,wH];rfl,hP,rfl⟩⟩
    .rw[wN (Ne.symm e)]at f;exact(J i k f).ext T
   .have p:i=s.length:=by have:=(zE.1 f).1;rw[zI,yR,List.length_singleton]at this;omega
    subst p;rw[yK (by rw[yR];exact zT _),yR,wH,List.getElem?_cons_zero]at f
    cases f
    refine⟨v,r,d,_,f2,D,C,[],G,P,hid,by simp,.inr ⟨B,n,o,sm,[fY a b],F,H,I,(A' q M).ext T,.inr ⟨a,b,⟨y.name,y.lo,y.hi,y.fields++[br (bA s.length)]⟩,y.fields.length,ha,hb,?_,?_,rfl⟩,by rw[E _ _ q]⟩,u,A,z,w,.inl rfl⟩
    .rw[yP (by rw[yR];exact F)];exact xI F
    .show(y.fields++[_])[_]?=_;rw[yK (zT _),wH];rfl
end
section
open Go
variable{k:List aq}{i:Nat}
def zl.nms{f1:List an}(h:zl k i f1):(f1.map an.name).Sublist [zz,kH,kI]:=by
 rcases h with rfl|⟨t,l,f,sm,d,_,_,_,s,p,rfl⟩
 .simp
 .rcases s with rfl|⟨y,n,g,_,_,_,rfl⟩<;>rcases p with rfl|⟨a,b,c,e,_,_,_,_,rfl⟩<;>simp[it,iP,fY]
def zj.nms{t:List an}(h:zj k i t):(t.map an.name).Sublist [pX]:=by
 rcases h with rfl|⟨j,a,_,_,_,rfl⟩<;>simp[br]
variable{k:aq}
def dG.nodup{m:List aq}(h:dG m i k):(k.fields.map an.name).Nodup:=by
 obtain⟨A,r,n,f1,f2,a,p,t,E,C,B,rfl,x,w,v,u,b,c⟩:=h;have l:=x.nms;have j:(f2.map an.name).Sublist [ME]:=by rcases w with rfl|⟨_,rfl⟩<;>simp[yi]
 have d:=c.nms;have S:(([PF]++(f1.map an.name++(f2.map an.name++(a.map an.name++(p.map an.name++t.map an.name)))))).Sublist ([PF]++([zz,kH,kI]++([ME]++(a.map an.name++(p.map an.name++[pX]))))):=
  (xQ _).append (l.append (j.append ((xQ _).append ((xQ _).append d))))
 have Q:∀f∈a,∀g s,p=g::s->f.name≠g.name:=by
  intro f q g s e;rcases b with b|⟨F,y,z,o⟩
  .rw[b]at e;cases e
  .rw[z]at e;cases e
   exact l5 o f (by simp[q])
 have D:([PF]++([zz,kH,kI]++([ME]++(a.map an.name++(p.map an.name++[pX]))))).Nodup:=by
  cases v<;>cases u<;>first|(simp only[List.map_cons,List.map_nil];decide)|exact(Q _ yN _ _ rfl rfl).elim
 refine List.Sublist.nodup (l₁:=_) ?_ D
 simpa [dm]using S
structure HX(x:ak):Prop where
 nk:x.kz.length<=3
 form:∀(i:Nat)k,x.kz[i]?=some k->dG x.kz i k
 kd:∀k∈x.kz,∀f∈k.fields,0<=f.kind
 life:x.lz.any (λl=>seq l.name bz)=true
variable{t:Nat}
def PU(h:i<t)(a:t<=2):seq (bA i) (bA t)=false:=by
 obtain rfl|rfl:t=1\/t=2:=by omega
 .obtain rfl:i=0:=by omega
  decide +kernel
 .obtain rfl|rfl:i=0\/i=1:=by omega
  .decide +kernel
  .decide +kernel
variable {x:ak} (H:HX x)
include H
variable{y:aq}
def HX.kix(h:x.kz[t]?=some y):bi x (bA t)=t:=
 K' h (by rw[(H.form t y h).name];exact QM _) λi z b a=>by
  rw[(H.form i z a).name];exact PU b (by have:=(zE.1 h).1;have:=H.nk;omega)
omit H in
def xv(hk:x.kz[i]?=some k):dN x i=some k:=by simp[dN,hk]
omit H in
def MQ(hk:x.kz[i]?=some k)(j:Nat):fieldAt x i j=k.fields[j]?:=by simp[fieldAt,dN,hk]
variable{f:an}
def HX.refUp(h:x.kz[t]?=some y)(a:t<i)(o:f.of=bA t):refUp x i f=t:=by
 rw[Go.Proofs.YtilnpcolgcmofaaGreatDoor.refUp,o,H.kix h,if_pos (by omega)]
variable{j:Nat}
def HX.up1(a:x.kz[i]?=some k)(d:k.fields[j]?=some f)(c:x.kz[t]?=some y)(h:t<i)(b:f.kind=1)(o:f.of=bA t):aG x i j=t:=by
 rw[aH5 ((MQ a j).trans d) (xv a),if_neg (by rw[b];decide),if_pos b,H.refUp c h o]
def HX.up7{lo d:Int}(h:x.kz[i]?=some k)(e:k.fields[j]?=some f)(c:x.kz[t]?=some y)(a:t<i)(g:f.kind=7\/f.kind=8)(o:f.up=zz)(b:k.fields[1]?=some (it t lo d))(m:1<j):aG x i j=t:=by
 have l:bb k f.up=((1:Nat):Int):=by rw[o];exact z7 (H.form i k h).nodup b
 rw[aH5 ((MQ h j).trans e) (xv h),if_pos g,l,MQ h 1,b,Fs,if_pos ⟨by omega,rfl⟩,yt,H.refUp c a rfl]
omit H in
def HX.below(hk:x.kz[i]?=some k)(hti:t<i):∃y,x.kz[t]?=some y:=⟨_,zD (by have:=(zE.1 hk).1;omega)⟩
omit H in
def OW{l:List Nat}{c:Nat}(hn:l.Nodup)(h1:∀a∈l,a=c)(h2:c∈l):l.length=1:=by
 match l,hn,h1,h2 with
 |[a],_,_,_=>rfl
 |a::b::r,hn,h1,_=>
  have e1:=h1 a (by simp);have e2:=h1 b (by simp);simp[e1,e2]at hn
variable{p:Prop}
omit H in
def Ni(h:p:=by
 simp only[zJ,zQ];exact⟨⟨rfl,QM _⟩,H.up7 hkj g3 hk hij (.inl rfl) rfl g1 g2⟩):p:=h
def vP:=@List.mem_filter
def HX.shares{d:aq}(hk:x.kz[i]?=some k)(hij:i<j)(hkj:x.kz[j]?=some d)(P:g6 d i):(Ai x i (br (bA j))).length=1:=by
 obtain⟨n,r,s,a,b,g1,g2,g3,o⟩:=P;have e:bi x (br (bA j)).of=j:=H.kix hkj;rw[Ai,e,xv hkj];simp only[zL];refine OW (c:=n) (List.Pairwise.filter _ List.nodup_range) (λm l=>?_) ?_
 .obtain⟨_,q⟩:=vP.1 l
  cases f:d.fields[m]? with
  |none=>rw[f]at q;cases q
  |some g=>
   rw[f]at q;simp only[zJ,zQ]at q;exact o m g f q.1.1
 .refine vP.2 ⟨xT.2 (zE.1 g3).1,?_⟩;rw[g3];exact Ni
omit H in
def mD{F:List an}(hN:(F.map an.name).Nodup){A B:List an}{c:an}(hF:F=A++c::B)(hf:F[j]?=some f)(e:f.name=c.name):j=A.length/\f=c:=by
 have hc:F[A.length]?=some c:=by rw[hF,yK (zT _),wH];rfl
 have:=bi8 hN hf hc e;subst this;rw[hf]at hc;cases hc
 exact⟨rfl,rfl⟩
def HX.plain{A p B:List an}(g:x.kz[i]?=some k)(m:aM p)(F:k.fields=A++(p++B))(o:k.fields[j]?=some f)(h:f∈p):cP x i j f=0:=by
 have N:=(H.form i k g).nodup
 cases m with
 |none=>cases h
 |size a b l e=>rw[zN]at h;subst h;simp[cP]
 |tag n ws t w v u=>rw[zN]at h;subst h;simp[cP]
 |low a b c d l e r q=>
  simp only[zU,yF,xE]at h;rcases h with rfl|rfl<;>simp[cP]
 |state a b l e=>
  rw[zN]at h;subst h;simp only[cP];rw[if_neg (by simp),if_neg (by simp),if_neg (by simp),if_neg (by simp),if_pos trivial,if_pos H.life]
 |born a b c d l e r q=>
  simp only[zU,yF,xE]at h;rcases h with rfl|rfl
  .simp only[cP];rw[if_neg (by simp),if_neg (by simp),if_neg (by simp),if_pos trivial,rN,xv g];simp only;rw[if_pos (by decide +kernel)]
  .obtain⟨rfl,_⟩:=mD N (A:=A++[⟨pY,nE,nE,4,a,a+b,[],[]⟩]) (B:=B) (c:=⟨tT,pY,nE,4,c,3+d,[],[]⟩) (by rw[F];simp) o rfl;have e:k.fields[A.length]?=some ⟨pY,nE,nE,4,a,a+b,[],[]⟩:=by rw[F,yK (zT _),wH];rfl
   have s:bb k pY=A.length:=z7 N e;simp only[cP];rw[if_neg (by simp),if_neg (by simp),if_neg (by simp),if_pos trivial,rN,xv g];simp only;rw[if_neg (by decide +kernel),s,if_neg (by simp;omega),Int.toNat_natCast,e]
   rfl
omit H in
def MW(h:p:=by
 rcases hp with rfl|⟨_,_,_,_,_,_,_,_,rfl⟩
 .cases hm
 .rw[zN]at hm;cases hm):p:=h
omit H in
def MT(h:p:=by
 rcases hs with rfl|⟨_,_,_,_,_,_,rfl⟩
 .cases hm
 .rw[zN]at hm;cases hm):p:=h
def xF:=@decide_eq_false_iff_not
def HX.leads(l:x.kz[i]?=some k)(m:k.fields[j]?=some f):cP x i j f=0:=by
 have hN:=(H.form i k l).nodup;have hF:=H.form i k l;have L:=zG m;obtain⟨lo,r,q,f1,f2,S,R,E,h1,h2,h3,h4,h5,h6,h7,h8,h9,P⟩:=hF;have K:k.fields=dm q::(f1++(f2++(S++(R++E)))):=by rw[h4]
 have u:=L;rw[K]at u;rcases zU.1 u with rfl|hm
 .obtain⟨rfl,_⟩:=mD hN (A:=[]) (c:=dm q) K m rfl;simp[cP,dm]
 rcases zO.1 hm with hm|hm
 .rcases h5 with rfl|⟨t,F,N,sm,pt,s,W,X,hs,hp,rfl⟩
  .cases hm
  obtain⟨y,d⟩:=HX.below l s;have v:k.fields[1]?=some (it t F N):=by rw[K];rfl
  rcases zU.1 hm with rfl|hm
  .simp only[cP];rw[H.up1 l m d s rfl rfl,if_neg (by simp[it]),if_neg (by simp[it]),if_pos (by simp[it]),if_neg (by omega)]
  have T:1<j:=by
   refine Nat.lt_of_not_le λV=>?_;have Q:j=0\/j=1:=by omega
   rcases Q with rfl|rfl
   .rw[K]at m;cases m
    rcases zO.1 hm with hm|hm
    .exact MT
    .exact MW
   .rw[v]at m;cases m
    rcases zO.1 hm with hm|hm
    .exact MT
    .exact MW
  rcases zO.1 hm with hm|hm
  .rcases hs with rfl|⟨U,n,g,o,w,I,rfl⟩
   .cases hm
   rw[d]at o;cases o
   rw[zN]at hm;subst hm;have z:=H.up7 l m d s (.inr rfl) rfl v T;have Y:=H.kd y (zG d) g (zG w);have hx:bb y g.name=n:=z7 (H.form t y d).nodup w;simp only[pp,zJ,xJ,xF]at I;have O:cz x i j (iP g.name)=(g.kind,g):=by
    unfold cz im;rw[z,if_neg (by omega),xv d];simp only[iP];rw[hx,MQ d,w]
   simp only[cP];rw[if_neg (by simp[iP]),if_neg (by simp[iP]),if_neg (by simp[iP]),if_neg (by simp[iP]),if_neg (by simp[iP]),if_neg (by simp[iP]),z,GQ,if_neg (by omega),if_neg (by simp[iP]),O,if_neg (by simp only;omega)]
  .rcases hp with rfl|⟨a,b,U,n,_,_,o,w,rfl⟩
   .cases hm
   rw[d]at o;cases o
   rw[zN]at hm;subst hm;have z:=H.up7 l m d s (.inl rfl) rfl v T;have hx:bb y pX=n:=z7 (f:=br (bA i)) (H.form t y d).nodup w;have O:cz x i j (fY a b)=(6,br (bA i)):=by
    unfold cz im;rw[z,if_neg (by omega),xv d];simp only[fY];rw[hx,MQ d,w]
    rfl
   simp only[cP];rw[if_neg (by simp[fY]),if_neg (by simp[fY]),if_neg (by simp[fY]),if_neg (by simp[fY]),if_neg (by simp[fY]),if_neg (by simp[fY]),z,GQ,if_neg (by omega),if_pos (by simp[fY]),O,if_pos ⟨rfl,H.kix l⟩]
 rcases zO.1 hm with hm|hm
 .rcases h6 with rfl|⟨D,rfl⟩
  .cases hm
  rw[zN]at hm;subst hm;obtain⟨y,d⟩:=HX.below l D;simp only[cP];rw[H.up1 l m d D rfl rfl,if_neg (by simp[yi]),if_neg (by simp[yi]),if_pos (by simp[yi]),if_neg (by omega)]
 rcases zO.1 hm with hm|hm
 .exact H.plain l h7 (A:=dm q::(f1++f2)) (B:=R++E) (by rw[K];simp) m hm
 rcases zO.1 hm with hm|hm
 .exact H.plain l h8 (A:=dm q::(f1++(f2++S))) (B:=E) (by rw[K];simp) m hm
 .rcases P with rfl|⟨G,kj,M,C,Z,rfl⟩
  .cases hm
  rw[zN]at hm;subst hm;have e:bi x (br (bA G)).of=G:=H.kix C;have J:KM x i (br (bA G))=false:=by
   rw[KM,e];simp[br];omega
  simp only[cP];rw[if_neg (by simp[br]),if_neg (by simp[br]),if_neg (by simp[br]),if_neg (by simp[br]),if_neg (by simp[br]),if_pos (by simp[br]),gJ,J];simp only[wG,uC];rw[e,if_neg (by omega),if_pos (H.shares l M C Z)]
end
end Go.Proofs.YtilnpcolgcmofaaGreatDoor
