/- A part of the proof: Gw Io Ip Ir Bp. -/
import Derived.Test.YtlcfiilejnnlnaaGreatDoorK11
import Derived.Laws.AppendOwn
set_option maxRecDepth 100000
set_option maxHeartbeats 20000000
set_option linter.all false
namespace Go.Proofs.YtlcfiilejnnlnaaGreatDoor
open Tryz
section
open Go
theorem ACall.vs3 {P:Program} {f:FuncId} {args:List D} {σ:aa1} {R R':D->aa1->Prop} (h:ACall P f args σ R) (k:∀ d s,R d s->∃ d' s',Vs s d s' d'/\R' d' s'):ACall P f args σ R':=
 ⟨h.ent,fun w X vs hv hs=>(h.run w X vs hv hs).mono fun e w' ⟨u,d,s,g1,g2,g3,g4,g5⟩=>by
  obtain⟨d',s',q1,q2⟩:=k d s g2;obtain⟨q3,q4⟩:=q1.run w' X u g4 g3;exact⟨u,d',s',g1,q2,q4,q3,g5.fewer q1.sub⟩⟩
theorem bU9 {cs:List Int} {v:Value} {s:aa1} (h:RI cs v s) (hne:cs≠[]):∃ b cap cells,v = .slice (some ⟨b,0,none⟩) cs.length cap/\s=[(b,.cells 3 cells)]/\(∀ (i:Nat) c,cs[i]?=some c->cells[i]?=some (iD c))/\∀ (i:Nat) c',i<cs.length->RI (cs.set i c') v [(b,.cells 3 (cells.set i (iD c')))]:=by
 have h0:RowIs 3 1 (cs.map fun n=>[iD n]) v s:=h;obtain⟨b,cap,junk,rfl,rfl,h1,h2,h3,h4⟩:=h0.block (by intro e;exact hne (List.map_eq_nil_iff.1 e));have hf:(cs.map fun n=>[iD n]).flatten=cs.map fun n=>iD n:=by
  clear h0 h h1 h3 hne
  induction cs with
  | nil=>rfl
  | cons c cs ih=>rw [List.map_cons,List.flatten_cons,ih];rfl
 refine⟨b,cap,_,by rw [zL],rfl,fun i c hc=>?_,fun i c' hi=>?_⟩
 ·have:=(zE.1 hc).1;rw [hf,yP (by simpa using this),zP,hc];rfl
 ·have:=h0.put (i:=i) (x':=[iD c']) (by simpa using hi) rfl;have e:spl ((cs.map fun n=>[iD n]).flatten++junk) (i*1) [iD c']=((cs.map fun n=>[iD n]).flatten++junk).set i (iD c'):=by
   unfold spl;rw [Nat.mul_one,xW,if_pos (by rw [hf];simp;omega)];simp
  rw [e] at this
  show RowIs _ 1 ((cs.set i c').map _) _ _;rw [wL];exact this
theorem bU2 {cs:List Int} {v:Value} {s:aa1} (h:RI cs v s):∃ a c,v = .slice a cs.length c:=by
 obtain⟨a,c,e⟩:=RowIs.slice h;rw [zL] at e;exact⟨a,c,e⟩
structure Tn (z:Int):Prop where
 lo:-1000<=z
 hi:z<=1000
structure WTiny (w:Wd):Prop where
 k:w.length<=10
 n:∀ l∈w,l.length<=10
 f:∀ l∈w,∀ r∈l,r.length<=50
 v:∀ l∈w,∀ r∈l,∀ v∈r,Tn v
theorem WTiny.sm {w:Wd} (h:WTiny w):WSm w:=
 ⟨by have:=h.k;omega,fun l hl=>by have:=h.n l hl;omega,fun l hl r hr=>by have:=h.f l hl r hr;omega,fun l hl r hr v hv=>⟨by have:=(h.v l hl r hr v hv).lo;omega,by have:=(h.v l hl r hr v hv).hi;omega⟩⟩
def Cnt (cs:List Int):Prop:=∀ c∈cs,0<=c/\c<=4
theorem sk94 {A B:Prop} (k:B) (h:Hd7 B->A:=by intro q7;(first|refine sb0 ?_|refine sb1 ?_|(refine' cp7x ?hc ?_;(case hc=>first|exact HAt|exact HUp|exact HA _ _|exact HU _ _)));exact q7.1):A:=h ⟨k⟩
theorem bC7 (x:Sch) (hK:x.kz.length<=10) (hF:∀ k∈x.kz,k.fields.length<=50) (p:List Int) (hp:I64s p):ASome prog 7 [schD x,slI p,bD false] (fun d=>∃ w,d=slW w/\WTiny w):=by
 have HA:=fun i n=>bp5 p hp i n;have HU:=fun i j=>aB6 x i j (by omega) (fun k hk=>by have:=hF k hk;omega);refine ASome.of_call (ACall.vs3 (R:=fun d s=>∃ v w,d = .v v/\RW w v s/\WTiny w) ?_ fun d σ ⟨v,w,e,hr,hw⟩=>by subst e;exact⟨_,[],Vs.frz ct3 hr (by simp),w,rfl,hw⟩);refine eC7 func7 ntmps7 fun BB=>?_
 repeat' first|refine sk94 ?_|intro b;conv=>whnf
 refine aa5 mixed aa0 (γ:=Nat × List Int × Value × aa1) (fun g=>[(8,iD g.1),(7,.v g.2.2.1)]) (fun g=>g.2.2.2) (fun g=>g.1<=x.kz.length/\g.2.1.length=g.1/\Cnt g.2.1/\RI g.2.1 g.2.2.1 g.2.2.2) (fun g=>x.kz.length-g.1) (0,[],.slice none 0 0,[]) (aa2 cl4) (Sc.refl _) ⟨zW _,rfl,fun c hc=>by (cases hc),RowIs.nil _ _⟩ ?_;rintro⟨k,cs,v,s⟩ ⟨hk,hcl,hcs,hrow⟩;simp only at hk hcl hcs hrow ⊢;by_cases hkl:k<x.kz.length
 ·have hc:=ac8 p k 5;have hc2:=hc.2 (by decide);have hcs2:Cnt (cs++[atE p k 5]):=fun c h=>by
   rcases zO.1 h with h|h
   ·exact hcs c h
   ·rw [zN] at h;subst h;omega
  have HAt:=HA k 5;generalize atE p k 5=c0 at *
  repeat' first|refine sk94 ?_|intro b;conv=>whnf
  refine Ap.go rfl rfl rfl rfl hrow (by simp:s.Perm (s++[])) rfl (zs:=(cs++[c0]).map fun n=>[iD n]) (by rw [yB];rfl) (sz_i (c:=1000) (by simp;omega) (by decide)) (by simp;omega) (fun s'=>s') (fun s'=>by simp) (fun a1 c1 s1 hr1=>?_);have hr2:RI (cs++[c0]) (.slice a1 ((cs++[c0]).map fun n=>[iD n]).length c1) s1:=hr1;obtain⟨b1,cap1,cells,e1,rfl,hck,hset⟩:=bU9 hr2 (by simp);by_cases hk0:k=0
  ·subst hk0
   repeat' first|refine sk94 ?_|intro b;conv=>whnf
   exact⟨(1,cs++[c0],_,_),(aa2 cl4),Sc.refl _,⟨by simp only;omega,by simp only [zI,List.length_singleton];omega,hcs2,hr2⟩,by simp only;omega⟩
  ·obtain⟨c2,hc2⟩:∃ c,(cs++[c0])[k-1]?=some c:=⟨_,zD (by simp;omega)⟩
   rw [e1] at hr2 hset ⊢;have hkc:=(zE.1 (hck k c0 (by rw [yK (by omega),hcl,wH];rfl))).1;have hlen:(cs++[c0]).length=k+1:=by rw [zI,hcl];rfl
   repeat' first|refine sk94 ?_|intro b;conv=>whnf
   refine Ld.cellm (List.Mem.head _) (by rw [show 0+((k:Int)-1).toNat*1=k-1 by omega];exact hck _ _ hc2) ?_;by_cases h20:c2=0
   ·repeat' first|refine sk94 ?_|intro b;conv=>whnf
    refine Sv.cellm (cs':=cells.set k (iD 0)) (zH _) (by rw [show 0+((k:Nat):Int).toNat*1=k by simp];exact hkc) rfl (by rw [show 0+((k:Nat):Int).toNat*1=k by simp]) ?_
    repeat' first|refine sk94 ?_|intro b;conv=>whnf
    exact⟨(k+1,(cs++[c0]).set k 0,_,_),(aa2 cl4),Sc.refl _,⟨by simp only;omega,by simp only [yR];exact hlen,fun c h=>by
     rcases yZ h with h|h
     ·exact hcs2 c h
     ·omega,by simp only [yR];exact hset k 0 (by omega)⟩,by simp only;omega⟩
   ·repeat' first|refine sk94 ?_|intro b;conv=>whnf
    exact⟨(k+1,cs++[c0],_,_),(aa2 cl4),Sc.refl _,⟨by simp only;omega,hlen,hcs2,hr2⟩,by simp only;omega⟩
 ·obtain rfl:k=x.kz.length:=by omega
  clear hkl hk
  repeat' first|refine sk94 ?_|intro b;conv=>whnf
  refine aj5 (i:=7) (d':=slI cs) (τ:=[]) rfl (fun h=>by cases h) (Vs.row hrow (by simp)) ?_;refine aa5 mixed aa0 (γ:=Nat × Nat × Wd × Value × aa1) (fun g=>[(11,iD g.1),(10,iD g.2.1),(9,.v g.2.2.2.1)]) (fun g=>g.2.2.2.2) (fun g=>g.1<=x.kz.length/\g.2.1<=6+g.1*2000/\g.2.2.1.length=g.1/\WTiny g.2.2.1/\RW g.2.2.1 g.2.2.2.1 g.2.2.2.2) (fun g=>x.kz.length-g.1) (0,6,[],.slice none 0 0,[]) (aa2 cl4) (Sc.refl _) ⟨zW _,by decide,rfl,⟨by decide,by simp,by simp,by simp⟩,RowsOf.nil _ _⟩ ?_;clear hrow;rintro⟨k,a0,w,v,s⟩ ⟨hk,ha0,hwl,hw,hrow⟩;simp only at hk ha0 hwl hw hrow ⊢;by_cases hkl:k<x.kz.length
  ·obtain⟨kd,hkd⟩:∃ y,x.kz[k]?=some y:=⟨_,zD hkl⟩
   have hkd':x.kz[((k:Nat):Int).toNat]?=some kd:=hkd;have hfl:=hF kd (zG hkd);obtain⟨ck,hck⟩:∃ y,cs[k]?=some y:=⟨_,zD (by omega)⟩
   have hck':cs[((k:Nat):Int).toNat]?=some ck:=hck;have hc4:=hcs ck (zG hck);obtain⟨n,rfl⟩:∃ n:Nat,ck=n:=⟨ck.toNat,by omega⟩
   repeat' first|refine sk94 ?_|intro b;conv=>whnf
   refine aa5 mixed aa0 (γ:=Nat × Nat × List (List Int) × Value × aa1) (fun g=>[(13,iD g.1),(10,iD g.2.1),(12,.v g.2.2.2.1)]) (fun g=>g.2.2.2.2++s) (fun g=>g.1<=n/\g.2.1<=a0+g.1*400/\g.2.2.1.length=g.1/\(∀ r∈g.2.2.1,r.length<=50/\∀ v∈r,Tn v)/\RW1 g.2.2.1 g.2.2.2.1 g.2.2.2.2) (fun g=>n-g.1) (0,a0,[],.slice none 0 0,[]) (aa2 cl4) (Sc.refl _) ⟨zW _,by simp only;omega,rfl,by simp,RowsOf.nil _ _⟩ ?_;rintro⟨i,a1,l,v1,s1⟩ ⟨hi,ha1,hll,hlr,hrow1⟩;simp only at hi ha1 hll hlr hrow1 ⊢;by_cases hin:i<n
   ·repeat' first|refine sk94 ?_|intro b;conv=>whnf
    refine aa5 mixed aa0 (γ:=Nat × Nat × List Int × Value × aa1) (fun g=>[(15,iD g.1),(10,iD g.2.1),(14,.v g.2.2.2.1)]) (fun g=>g.2.2.2.2++(s1++s)) (fun g=>g.1<=kd.fields.length/\g.2.1<=a1+g.1/\g.2.2.1.length=g.1/\(∀ v∈g.2.2.1,Tn v)/\RI g.2.2.1 g.2.2.2.1 g.2.2.2.2) (fun g=>kd.fields.length-g.1) (0,a1,[],.slice none 0 0,[]) (aa2 cl4) (Sc.refl _) ⟨zW _,by simp only;omega,rfl,by simp,RowIs.nil _ _⟩ ?_;rintro⟨j,a2,r,v2,s2⟩ ⟨hj,ha2,hrl,hrv,hrow2⟩;simp only at hj ha2 hrl hrv hrow2 ⊢;by_cases hjl:j<kd.fields.length
    ·obtain⟨f,hf⟩:∃ y,kd.fields[j]?=some y:=⟨_,zD hjl⟩
     have hf':kd.fields[((j:Nat):Int).toNat]?=some f:=hf;have hq12:=ac8 p ((a2:Int).tmod (if ((p.map fun n=>[iD n]).length:Int)<1 then (1:Int) else ((p.map fun n=>[iD n]).length:Int))) 12;have hv12:Tn (atE p ((a2:Int).tmod (if ((p.map fun n=>[iD n]).length:Int)<1 then (1:Int) else ((p.map fun n=>[iD n]).length:Int))) 12-2):=⟨by omega,by omega⟩
     have hul:=aA3 x k j;have HUp:=HU k j;by_cases hk1:f.kind=1
     ·generalize upIx x k j=u at *;by_cases hu:0<=u
      ·have hu2:=hul hu;obtain⟨o,rfl⟩:∃ o:Nat,u=o:=⟨u.toNat,by omega⟩
       obtain⟨co,hco⟩:∃ y,cs[((o:Nat):Int).toNat]?=some y:=⟨_,zD (by simp;omega)⟩
       have hco4:=hcs co (zG hco);have hq:=ac8 p ((a2:Int).tmod (if ((p.map fun n=>[iD n]).length:Int)<1 then (1:Int) else ((p.map fun n=>[iD n]).length:Int))) (if co<1 then 1 else co);have hq2:Tn (atE p ((a2:Int).tmod (if ((p.map fun n=>[iD n]).length:Int)<1 then (1:Int) else ((p.map fun n=>[iD n]).length:Int))) (if co<1 then 1 else co)):=⟨by omega,by have:=hq.2 (by split<;>omega);split at this<;>omega⟩
       repeat' first|refine sk94 ?_|intro b;conv=>whnf
       generalize atE p ((a2:Int).tmod (if ((p.map fun n=>[iD n]).length:Int)<1 then (1:Int) else ((p.map fun n=>[iD n]).length:Int))) (if co<1 then 1 else co)=z at *;have hz:=hq2;refine Ap.go rfl rfl rfl rfl hrow2 (zH _) rfl (zs:=(r++[z]).map fun n=>[iD n]) (by rw [yB];rfl) (sz_i (c:=1000) (by simp;omega) (by decide)) (by simp;omega) (fun s'=>s'++(s1++s)) (fun s'=>zH _) (fun a3 c3 s3 hr3=>?_)
       repeat' first|refine sk94 ?_|intro b;conv=>whnf
       exact⟨(j+1,a2+1,r++[z],_,s3),(aa2 cl4),Sc.refl _,⟨by simp only;omega,by simp only;omega,by simp only [zI,List.length_singleton];omega,fun v h=>(zO.1 h).elim (hrv v) (fun h=>by rw [zN] at h;rw [h];exact hz),hr3⟩,by simp only;omega⟩
      ·repeat' first|refine sk94 ?_|intro b;conv=>whnf
       generalize atE p ((a2:Int).tmod (if ((p.map fun n=>[iD n]).length:Int)<1 then (1:Int) else ((p.map fun n=>[iD n]).length:Int))) 12-2=z at *;have hz:=hv12;refine Ap.go rfl rfl rfl rfl hrow2 (zH _) rfl (zs:=(r++[z]).map fun n=>[iD n]) (by rw [yB];rfl) (sz_i (c:=1000) (by simp;omega) (by decide)) (by simp;omega) (fun s'=>s'++(s1++s)) (fun s'=>zH _) (fun a3 c3 s3 hr3=>?_)
       repeat' first|refine sk94 ?_|intro b;conv=>whnf
       exact⟨(j+1,a2+1,r++[z],_,s3),(aa2 cl4),Sc.refl _,⟨by simp only;omega,by simp only;omega,by simp only [zI,List.length_singleton];omega,fun v h=>(zO.1 h).elim (hrv v) (fun h=>by rw [zN] at h;rw [h];exact hz),hr3⟩,by simp only;omega⟩
     ·repeat' first|refine sk94 ?_|intro b;conv=>whnf
      generalize atE p ((a2:Int).tmod (if ((p.map fun n=>[iD n]).length:Int)<1 then (1:Int) else ((p.map fun n=>[iD n]).length:Int))) 12-2=z at *;have hz:=hv12;refine Ap.go rfl rfl rfl rfl hrow2 (zH _) rfl (zs:=(r++[z]).map fun n=>[iD n]) (by rw [yB];rfl) (sz_i (c:=1000) (by simp;omega) (by decide)) (by simp;omega) (fun s'=>s'++(s1++s)) (fun s'=>zH _) (fun a3 c3 s3 hr3=>?_)
      repeat' first|refine sk94 ?_|intro b;conv=>whnf
      exact⟨(j+1,a2+1,r++[z],_,s3),(aa2 cl4),Sc.refl _,⟨by simp only;omega,by simp only;omega,by simp only [zI,List.length_singleton];omega,fun v h=>(zO.1 h).elim (hrv v) (fun h=>by rw [zN] at h;rw [h];exact hz),hr3⟩,by simp only;omega⟩
    ·obtain rfl:j=kd.fields.length:=by omega
     obtain⟨vs,s0,ts,g1,g2,g3⟩:=hrow1.ex;have hvl:=g2.len.1;obtain⟨a4,c4,rfl⟩:=bU2 hrow2;have hfew:i<4:=by omega
     repeat' first|refine sk94 ?_|intro b;conv=>whnf
     refine Ap.go rfl rfl rfl rfl g1 (show (s2++(s1++s)).Perm (s0++(ts.flatten++(s2++s))) by (refine ac3 fun a=>?_;have e1:=aQ6 g3 a;simp only [List.append_eq,List.nil_append,ac4,af0,ae9,rfC,atC,iD,bD] at e1 ⊢;omega)) rfl (zs:=vs.map (fun u=>[D.v u])++[[D.v (.slice a4 r.length c4)]]) rfl (sz_2 (c:=1000) (by omega) (by decide)) (by simp;omega) (fun s3=>s3++(ts.flatten++s2)++s) (fun s3=>cl8) (fun a3 c3 s3 hr3=>?_)
     repeat' first|refine sk94 ?_|intro b;conv=>whnf
     exact⟨(i+1,a2,l++[r],_,s3++(ts.flatten++s2)),(aa2 cl4),Sc.refl _,⟨by simp only;omega,by simp only;omega,by simp only [zI,List.length_singleton];omega,fun y h=>(zO.1 h).elim (hlr y) (fun h=>by rw [zN] at h;rw [h];exact⟨by omega,hrv⟩),aD7 g2 hr3 hrow2 (zH _)⟩,by simp only;omega⟩
   ·obtain rfl:i=n:=by omega
    obtain⟨vs,s0,ts,g1,g2,g3⟩:=hrow.ex;have hvl:=g2.len.1;obtain⟨a4,c4,rfl⟩:=RowsOf.slice hrow1
    repeat' first|refine sk94 ?_|intro b;conv=>whnf
    refine Ap.go rfl rfl rfl rfl g1 (show (s1++s).Perm (s0++(ts.flatten++s1)) by (refine ac3 fun a=>?_;have e1:=aQ6 g3 a;simp only [List.append_eq,List.nil_append,ac4,af0,ae9,rfC,atC,iD,bD] at e1 ⊢;omega)) rfl (zs:=vs.map (fun u=>[D.v u])++[[D.v (.slice a4 l.length c4)]]) rfl (sz_2 (c:=1000) (by omega) (by decide)) (by simp;omega) (fun s3=>s3++(ts.flatten++s1)) (fun s3=>zH _) (fun a3 c3 s3 hr3=>?_)
    repeat' first|refine sk94 ?_|intro b;conv=>whnf
    exact⟨(k+1,a1,w++[l],_,s3++(ts.flatten++s1)),(aa2 cl4),Sc.refl _,⟨by simp only;omega,by simp only;omega,by simp only [zI,List.length_singleton];omega,⟨by simp only [zI,List.length_singleton];omega,fun y h=>(zO.1 h).elim (hw.n y) (fun h=>by rw [zN] at h;rw [h];omega),fun y h=>(zO.1 h).elim (hw.f y) (fun h=>by rw [zN] at h;rw [h];exact fun z hz=>(hlr z hz).1),fun y h=>(zO.1 h).elim (hw.v y) (fun h=>by rw [zN] at h;rw [h];exact fun z hz=>(hlr z hz).2)⟩,aD7 g2 hr3 hrow1 (zH _)⟩,by simp only;omega⟩
  ·obtain rfl:k=x.kz.length:=by omega
   repeat' first|refine sk94 ?_|intro b;conv=>whnf
   exact Rt.same ⟨_,_,rfl,hrow,hw⟩
end
section
open Go
theorem bu7 (x:Sch) (hK:x.kz.length<=10) (hF:∀ k∈x.kz,k.fields.length<=50) (p:List Int) (hp:I64s p):ASome prog 7 [schD x,slI p,bD true] (fun d=>∃ w,d=slW w/\WTiny w):=by
 have HA:=fun i n=>bp5 p hp i n;have HU:=fun i j=>aB6 x i j (by omega) (fun k hk=>by have:=hF k hk;omega);refine ASome.of_call (ACall.vs3 (R:=fun d s=>∃ v w,d = .v v/\RW w v s/\WTiny w) ?_ fun d σ ⟨v,w,e,hr,hw⟩=>by subst e;exact⟨_,[],Vs.frz ct3 hr (by simp),w,rfl,hw⟩);refine eC7 func7 ntmps7 fun BB=>?_
 repeat' first|refine sk94 ?_|intro b;conv=>whnf
 refine aa5 mixed aa0 (γ:=Nat × List Int × Value × aa1) (fun g=>[(8,iD g.1),(7,.v g.2.2.1)]) (fun g=>g.2.2.2) (fun g=>g.1<=x.kz.length/\g.2.1.length=g.1/\Cnt g.2.1/\RI g.2.1 g.2.2.1 g.2.2.2) (fun g=>x.kz.length-g.1) (0,[],.slice none 0 0,[]) (aa2 cl4) (Sc.refl _) ⟨zW _,rfl,fun c hc=>by (cases hc),RowIs.nil _ _⟩ ?_;rintro⟨k,cs,v,s⟩ ⟨hk,hcl,hcs,hrow⟩;simp only at hk hcl hcs hrow ⊢;by_cases hkl:k<x.kz.length
 ·have hc:=ac8 p k 5;have hc2:=hc.2 (by decide);have hcs2:Cnt (cs++[atE p k 5]):=fun c h=>by
   rcases zO.1 h with h|h
   ·exact hcs c h
   ·rw [zN] at h;subst h;omega
  have HAt:=HA k 5;generalize atE p k 5=c0 at *
  repeat' first|refine sk94 ?_|intro b;conv=>whnf
  refine Ap.go rfl rfl rfl rfl hrow (by simp:s.Perm (s++[])) rfl (zs:=(cs++[c0]).map fun n=>[iD n]) (by rw [yB];rfl) (sz_i (c:=1000) (by simp;omega) (by decide)) (by simp;omega) (fun s'=>s') (fun s'=>by simp) (fun a1 c1 s1 hr1=>?_);have hr2:RI (cs++[c0]) (.slice a1 ((cs++[c0]).map fun n=>[iD n]).length c1) s1:=hr1;obtain⟨b1,cap1,cells,e1,rfl,hck,hset⟩:=bU9 hr2 (by simp);by_cases hk0:k=0
  ·subst hk0
   repeat' first|refine sk94 ?_|intro b;conv=>whnf
   exact⟨(1,cs++[c0],_,_),(aa2 cl4),Sc.refl _,⟨by simp only;omega,by simp only [zI,List.length_singleton];omega,hcs2,hr2⟩,by simp only;omega⟩
  ·obtain⟨c2,hc2⟩:∃ c,(cs++[c0])[k-1]?=some c:=⟨_,zD (by simp;omega)⟩
   rw [e1] at hr2 hset ⊢;have hkc:=(zE.1 (hck k c0 (by rw [yK (by omega),hcl,wH];rfl))).1;have hlen:(cs++[c0]).length=k+1:=by rw [zI,hcl];rfl
   repeat' first|refine sk94 ?_|intro b;conv=>whnf
   refine Ld.cellm (List.Mem.head _) (by rw [show 0+((k:Int)-1).toNat*1=k-1 by omega];exact hck _ _ hc2) ?_;by_cases h20:c2=0
   ·repeat' first|refine sk94 ?_|intro b;conv=>whnf
    refine Sv.cellm (cs':=cells.set k (iD 0)) (zH _) (by rw [show 0+((k:Nat):Int).toNat*1=k by simp];exact hkc) rfl (by rw [show 0+((k:Nat):Int).toNat*1=k by simp]) ?_
    repeat' first|refine sk94 ?_|intro b;conv=>whnf
    exact⟨(k+1,(cs++[c0]).set k 0,_,_),(aa2 cl4),Sc.refl _,⟨by simp only;omega,by simp only [yR];exact hlen,fun c h=>by
     rcases yZ h with h|h
     ·exact hcs2 c h
     ·omega,by simp only [yR];exact hset k 0 (by omega)⟩,by simp only;omega⟩
   ·repeat' first|refine sk94 ?_|intro b;conv=>whnf
    exact⟨(k+1,cs++[c0],_,_),(aa2 cl4),Sc.refl _,⟨by simp only;omega,hlen,hcs2,hr2⟩,by simp only;omega⟩
 ·obtain rfl:k=x.kz.length:=by omega
  clear hkl hk
  repeat' first|refine sk94 ?_|intro b;conv=>whnf
  refine aj5 (i:=7) (d':=slI cs) (τ:=[]) rfl (fun h=>by cases h) (Vs.row hrow (by simp)) ?_;refine aa5 mixed aa0 (γ:=Nat × Nat × Wd × Value × aa1) (fun g=>[(11,iD g.1),(10,iD g.2.1),(9,.v g.2.2.2.1)]) (fun g=>g.2.2.2.2) (fun g=>g.1<=x.kz.length/\g.2.1<=6+g.1*2000/\g.2.2.1.length=g.1/\WTiny g.2.2.1/\RW g.2.2.1 g.2.2.2.1 g.2.2.2.2) (fun g=>x.kz.length-g.1) (0,6,[],.slice none 0 0,[]) (aa2 cl4) (Sc.refl _) ⟨zW _,by decide,rfl,⟨by decide,by simp,by simp,by simp⟩,RowsOf.nil _ _⟩ ?_;clear hrow;rintro⟨k,a0,w,v,s⟩ ⟨hk,ha0,hwl,hw,hrow⟩;simp only at hk ha0 hwl hw hrow ⊢;by_cases hkl:k<x.kz.length
  ·obtain⟨kd,hkd⟩:∃ y,x.kz[k]?=some y:=⟨_,zD hkl⟩
   have hkd':x.kz[((k:Nat):Int).toNat]?=some kd:=hkd;have hfl:=hF kd (zG hkd);obtain⟨ck,hck⟩:∃ y,cs[k]?=some y:=⟨_,zD (by omega)⟩
   have hck':cs[((k:Nat):Int).toNat]?=some ck:=hck;have hc4:=hcs ck (zG hck);obtain⟨n,rfl⟩:∃ n:Nat,ck=n:=⟨ck.toNat,by omega⟩
   repeat' first|refine sk94 ?_|intro b;conv=>whnf
   refine aa5 mixed aa0 (γ:=Nat × Nat × List (List Int) × Value × aa1) (fun g=>[(13,iD g.1),(10,iD g.2.1),(12,.v g.2.2.2.1)]) (fun g=>g.2.2.2.2++s) (fun g=>g.1<=n/\g.2.1<=a0+g.1*400/\g.2.2.1.length=g.1/\(∀ r∈g.2.2.1,r.length<=50/\∀ v∈r,Tn v)/\RW1 g.2.2.1 g.2.2.2.1 g.2.2.2.2) (fun g=>n-g.1) (0,a0,[],.slice none 0 0,[]) (aa2 cl4) (Sc.refl _) ⟨zW _,by simp only;omega,rfl,by simp,RowsOf.nil _ _⟩ ?_;rintro⟨i,a1,l,v1,s1⟩ ⟨hi,ha1,hll,hlr,hrow1⟩;simp only at hi ha1 hll hlr hrow1 ⊢;by_cases hin:i<n
   ·repeat' first|refine sk94 ?_|intro b;conv=>whnf
    refine aa5 mixed aa0 (γ:=Nat × Nat × List Int × Value × aa1) (fun g=>[(15,iD g.1),(10,iD g.2.1),(14,.v g.2.2.2.1)]) (fun g=>g.2.2.2.2++(s1++s)) (fun g=>g.1<=kd.fields.length/\g.2.1<=a1+g.1/\g.2.2.1.length=g.1/\(∀ v∈g.2.2.1,Tn v)/\RI g.2.2.1 g.2.2.2.1 g.2.2.2.2) (fun g=>kd.fields.length-g.1) (0,a1,[],.slice none 0 0,[]) (aa2 cl4) (Sc.refl _) ⟨zW _,by simp only;omega,rfl,by simp,RowIs.nil _ _⟩ ?_;rintro⟨j,a2,r,v2,s2⟩ ⟨hj,ha2,hrl,hrv,hrow2⟩;simp only at hj ha2 hrl hrv hrow2 ⊢;by_cases hjl:j<kd.fields.length
    ·obtain⟨f,hf⟩:∃ y,kd.fields[j]?=some y:=⟨_,zD hjl⟩
     have hf':kd.fields[((j:Nat):Int).toNat]?=some f:=hf;have hq12:=ac8 p ((a2:Int).tmod (if ((p.map fun n=>[iD n]).length:Int)<1 then (1:Int) else ((p.map fun n=>[iD n]).length:Int))) 12;have hv12:Tn (atE p ((a2:Int).tmod (if ((p.map fun n=>[iD n]).length:Int)<1 then (1:Int) else ((p.map fun n=>[iD n]).length:Int))) 12-2):=⟨by omega,by omega⟩
     have hul:=aA3 x k j;have HUp:=HU k j;by_cases hk1:f.kind=1
     ·generalize upIx x k j=u at *;by_cases hu:0<=u
      ·have hu2:=hul hu;obtain⟨o,rfl⟩:∃ o:Nat,u=o:=⟨u.toNat,by omega⟩
       obtain⟨co,hco⟩:∃ y,cs[((o:Nat):Int).toNat]?=some y:=⟨_,zD (by simp;omega)⟩
       have hco4:=hcs co (zG hco);have hq:=ac8 p ((a2:Int).tmod (if ((p.map fun n=>[iD n]).length:Int)<1 then (1:Int) else ((p.map fun n=>[iD n]).length:Int))) (if co<1 then 1 else co);have hq2:Tn (atE p ((a2:Int).tmod (if ((p.map fun n=>[iD n]).length:Int)<1 then (1:Int) else ((p.map fun n=>[iD n]).length:Int))) (if co<1 then 1 else co)):=⟨by omega,by have:=hq.2 (by split<;>omega);split at this<;>omega⟩
       have hkm:0<=(k:Int).tmod 2/\(k:Int).tmod 2<2:=⟨Int.tmod_nonneg _ (by omega),Int.tmod_lt_of_pos _ (by decide)⟩
       have hjm:0<=(j:Int).tmod 2/\(j:Int).tmod 2<2:=⟨Int.tmod_nonneg _ (by omega),Int.tmod_lt_of_pos _ (by decide)⟩
       by_cases h31:atE p ((a2:Int).tmod (if (p.length:Int)<1 then (1:Int) else (p.length:Int))) 31=0
       ·repeat' first|refine sk94 ?_|intro b;conv=>whnf
        generalize hzd:co+(k:Int).tmod 2*9-9*(j:Int).tmod 2=z at *;have hz:Tn z:=⟨by omega,by omega⟩
        refine Ap.go rfl rfl rfl rfl hrow2 (zH _) rfl (zs:=(r++[z]).map fun n=>[iD n]) (by rw [yB];rfl) (sz_i (c:=1000) (by simp;omega) (by decide)) (by simp;omega) (fun s'=>s'++(s1++s)) (fun s'=>zH _) (fun a3 c3 s3 hr3=>?_)
        repeat' first|refine sk94 ?_|intro b;conv=>whnf
        exact⟨(j+1,a2+1,r++[z],_,s3),(aa2 cl4),Sc.refl _,⟨by simp only;omega,by simp only;omega,by simp only [zI,List.length_singleton];omega,fun v h=>(zO.1 h).elim (hrv v) (fun h=>by rw [zN] at h;rw [h];exact hz),hr3⟩,by simp only;omega⟩
       ·repeat' first|refine sk94 ?_|intro b;conv=>whnf
        generalize atE p ((a2:Int).tmod (if ((p.map fun n=>[iD n]).length:Int)<1 then (1:Int) else ((p.map fun n=>[iD n]).length:Int))) (if co<1 then 1 else co)=z at *;have hz:=hq2;refine Ap.go rfl rfl rfl rfl hrow2 (zH _) rfl (zs:=(r++[z]).map fun n=>[iD n]) (by rw [yB];rfl) (sz_i (c:=1000) (by simp;omega) (by decide)) (by simp;omega) (fun s'=>s'++(s1++s)) (fun s'=>zH _) (fun a3 c3 s3 hr3=>?_)
        repeat' first|refine sk94 ?_|intro b;conv=>whnf
        exact⟨(j+1,a2+1,r++[z],_,s3),(aa2 cl4),Sc.refl _,⟨by simp only;omega,by simp only;omega,by simp only [zI,List.length_singleton];omega,fun v h=>(zO.1 h).elim (hrv v) (fun h=>by rw [zN] at h;rw [h];exact hz),hr3⟩,by simp only;omega⟩
      ·repeat' first|refine sk94 ?_|intro b;conv=>whnf
       generalize atE p ((a2:Int).tmod (if ((p.map fun n=>[iD n]).length:Int)<1 then (1:Int) else ((p.map fun n=>[iD n]).length:Int))) 12-2=z at *;have hz:=hv12;refine Ap.go rfl rfl rfl rfl hrow2 (zH _) rfl (zs:=(r++[z]).map fun n=>[iD n]) (by rw [yB];rfl) (sz_i (c:=1000) (by simp;omega) (by decide)) (by simp;omega) (fun s'=>s'++(s1++s)) (fun s'=>zH _) (fun a3 c3 s3 hr3=>?_)
       repeat' first|refine sk94 ?_|intro b;conv=>whnf
       exact⟨(j+1,a2+1,r++[z],_,s3),(aa2 cl4),Sc.refl _,⟨by simp only;omega,by simp only;omega,by simp only [zI,List.length_singleton];omega,fun v h=>(zO.1 h).elim (hrv v) (fun h=>by rw [zN] at h;rw [h];exact hz),hr3⟩,by simp only;omega⟩
     ·repeat' first|refine sk94 ?_|intro b;conv=>whnf
      generalize atE p ((a2:Int).tmod (if ((p.map fun n=>[iD n]).length:Int)<1 then (1:Int) else ((p.map fun n=>[iD n]).length:Int))) 12-2=z at *;have hz:=hv12;refine Ap.go rfl rfl rfl rfl hrow2 (zH _) rfl (zs:=(r++[z]).map fun n=>[iD n]) (by rw [yB];rfl) (sz_i (c:=1000) (by simp;omega) (by decide)) (by simp;omega) (fun s'=>s'++(s1++s)) (fun s'=>zH _) (fun a3 c3 s3 hr3=>?_)
      repeat' first|refine sk94 ?_|intro b;conv=>whnf
      exact⟨(j+1,a2+1,r++[z],_,s3),(aa2 cl4),Sc.refl _,⟨by simp only;omega,by simp only;omega,by simp only [zI,List.length_singleton];omega,fun v h=>(zO.1 h).elim (hrv v) (fun h=>by rw [zN] at h;rw [h];exact hz),hr3⟩,by simp only;omega⟩
    ·obtain rfl:j=kd.fields.length:=by omega
     obtain⟨vs,s0,ts,g1,g2,g3⟩:=hrow1.ex;have hvl:=g2.len.1;obtain⟨a4,c4,rfl⟩:=bU2 hrow2;have hfew:i<4:=by omega
     repeat' first|refine sk94 ?_|intro b;conv=>whnf
     refine Ap.go rfl rfl rfl rfl g1 (show (s2++(s1++s)).Perm (s0++(ts.flatten++(s2++s))) by (refine ac3 fun a=>?_;have e1:=aQ6 g3 a;simp only [List.append_eq,List.nil_append,ac4,af0,ae9,rfC,atC,iD,bD] at e1 ⊢;omega)) rfl (zs:=vs.map (fun u=>[D.v u])++[[D.v (.slice a4 r.length c4)]]) rfl (sz_2 (c:=1000) (by omega) (by decide)) (by simp;omega) (fun s3=>s3++(ts.flatten++s2)++s) (fun s3=>cl8) (fun a3 c3 s3 hr3=>?_)
     repeat' first|refine sk94 ?_|intro b;conv=>whnf
     exact⟨(i+1,a2,l++[r],_,s3++(ts.flatten++s2)),(aa2 cl4),Sc.refl _,⟨by simp only;omega,by simp only;omega,by simp only [zI,List.length_singleton];omega,fun y h=>(zO.1 h).elim (hlr y) (fun h=>by rw [zN] at h;rw [h];exact⟨by omega,hrv⟩),aD7 g2 hr3 hrow2 (zH _)⟩,by simp only;omega⟩
   ·obtain rfl:i=n:=by omega
    obtain⟨vs,s0,ts,g1,g2,g3⟩:=hrow.ex;have hvl:=g2.len.1;obtain⟨a4,c4,rfl⟩:=RowsOf.slice hrow1
    repeat' first|refine sk94 ?_|intro b;conv=>whnf
    refine Ap.go rfl rfl rfl rfl g1 (show (s1++s).Perm (s0++(ts.flatten++s1)) by (refine ac3 fun a=>?_;have e1:=aQ6 g3 a;simp only [List.append_eq,List.nil_append,ac4,af0,ae9,rfC,atC,iD,bD] at e1 ⊢;omega)) rfl (zs:=vs.map (fun u=>[D.v u])++[[D.v (.slice a4 l.length c4)]]) rfl (sz_2 (c:=1000) (by omega) (by decide)) (by simp;omega) (fun s3=>s3++(ts.flatten++s1)) (fun s3=>zH _) (fun a3 c3 s3 hr3=>?_)
    repeat' first|refine sk94 ?_|intro b;conv=>whnf
    exact⟨(k+1,a1,w++[l],_,s3++(ts.flatten++s1)),(aa2 cl4),Sc.refl _,⟨by simp only;omega,by simp only;omega,by simp only [zI,List.length_singleton];omega,⟨by simp only [zI,List.length_singleton];omega,fun y h=>(zO.1 h).elim (hw.n y) (fun h=>by rw [zN] at h;rw [h];omega),fun y h=>(zO.1 h).elim (hw.f y) (fun h=>by rw [zN] at h;rw [h];exact fun z hz=>(hlr z hz).1),fun y h=>(zO.1 h).elim (hw.v y) (fun h=>by rw [zN] at h;rw [h];exact fun z hz=>(hlr z hz).2)⟩,aD7 g2 hr3 hrow1 (zH _)⟩,by simp only;omega⟩
  ·obtain rfl:k=x.kz.length:=by omega
   repeat' first|refine sk94 ?_|intro b;conv=>whnf
   exact Rt.same ⟨_,_,rfl,hrow,hw⟩
end
section
open Go
def Cnd.re (c:Cnd) (o:Int) (r:List ByteArray) (n:Int):Cnd:=match c with
 | .c0 _ p _ _=>.c0 o p r n
 | .c1 _ p _ _ a=>.c1 o p r n a
 | .c2 _ p _ _ a b=>.c2 o p r n a b
theorem cm6 (c:Cnd) (o:Int) (r:List ByteArray) (n:Int):(c.re o r n).op=o:=by cases c<;>rfl
theorem re_n (c:Cnd) (o:Int) (r:List ByteArray) (n:Int):(c.re o r n).n=n:=by cases c<;>rfl
theorem bC3 (c:Cnd) (o:Int) (r:List ByteArray) (n:Int):(c.re o r n).path=c.path:=by cases c<;>rfl
theorem bo8 (c:Cnd) (o:Int) (r:List ByteArray) (n:Int):(c.re o r n).other=r:=by cases c<;>rfl
theorem cb7 (c:Cnd) (o:Int) (r:List ByteArray) (n:Int):(c.re o r n).kids=c.kids:=by cases c<;>rfl
theorem bM1 (c:Cnd) (o:Int) (r:List ByteArray) (n:Int):aD1 (c.re o r n)=aD1 c:=by cases c<;>rfl
theorem bj3 (c:Cnd) (o:Int) (r:List ByteArray) (n:Int):(c.re o r n).size=c.size:=by cases c<;>rfl
theorem bC4 {c:Cnd} (h:c.All CndS) {o:Int} {r:List ByteArray} (n:Int) (ho:I64n o) (hr:r.length<=1000):(c.re o r n).All CndS:=
 .mk ⟨by rw [cm6];exact ho,by rw [bC3];exact h.one.2.1,by rw [bo8];exact hr⟩ (fun a ha=>by rw [cb7] at ha;exact h.kid ha)
def ksL (k:ByteArray):List ByteArray:=[⟨#[]⟩,⟨#[110,111,110,101]⟩,⟨#[65]⟩,⟨#[97,49,50,51,52,53,54,55,56,57,48]⟩,⟨#[97,49,50,51,52,53,54,55,56,57,48,49]⟩,⟨#[97,49,50,51,52,53,54,55,56,57,48,49,50]⟩,k,⟨#[55]⟩]
def nsL:List Int:=[1048576,1048577,-1048576,-1048577,0,1,-1,7]
def osL:List ByteArray:=[⟨#[105,100]⟩,⟨#[]⟩,⟨#[110,111,110,101]⟩]
structure QryB (q:Qry):Prop where
 size:q.cond.size<=1000000
 path:q.path.length<=1000
 all:q.cond.All CndS
theorem bt8 {P:Program} {T:TypeId->Option TI} {f:Frm} {σ:aa1} {o:Oper} {t e:TypeId} {m k by_:Nat} {ps:Array (Nat × Operand)} {i j:TI} {ag:Bool} {out:List D} {L:List (List D)} {K:D->Prop} (ho:o.op = .buildSlice t m ps) (ht:T t=some i) (hs:i.sl=some (e,ag,k,by_)) (he:T e=some j)
  (hc:(Nat.beq j.zero.length j.size&&Nat.beq j.size k&&Nat.blt 0 k&&Nat.ble (m*k) 1000)=true) (hF:aS3 (fun q=>some (q*k,k)) (aG3 j.zero k m) (ps.toList.map fun p=>(p.1,evF f p.2))=some out) (hl:(out.length==m*k)=true) (hL:aQ9 k m out=L) (h:W (aH9 L fun l=>K (.sl k l))):W (exY P T o f σ K):=by
 obtain⟨dst,op,ty,pos,aft,g⟩:=o;simp only at ho;subst ho;subst hL;refine⟨?_⟩;simp only [exY,ht,hs,he,hc,hF,hl,cond_true];exact h.h
theorem bW2 (l:List ByteArray):((l.map fun a=>[sD a]).all fun y=>y.all oneD)=true:=by
 rw [yA];intro y hy;obtain⟨c,_,rfl⟩:=xM.1 hy;rfl
def psL:List ByteArray:=[⟨#[105,100]⟩,⟨#[120]⟩,⟨#[]⟩,⟨#[65,46,98]⟩,⟨#[110,111,110,101]⟩,⟨#[97,49]⟩,⟨#[122]⟩,⟨#[107,101,121]⟩]
theorem sk95 {A B:Prop} (k:B) (h:Hd7 B->A:=by intro q7;(first|refine sb0 ?_|refine sb65 ?_|(refine' cp7x ?hc ?_;(case hc=>first|exact HA|exact HH)));exact q7.1):A:=h ⟨k⟩
theorem sk96 {A B:Prop} (k:B) (h:Hd7 B->A:=by intro q7;(first|refine sb0 ?_|refine sb1 ?_|(refine' cp7x ?hc ?_;(case hc=>first|exact HA|exact HH)));exact q7.1):A:=h ⟨k⟩
theorem sk97 {A B:Prop} (k:B) (h:Hd7 B->A:=by intro q7;(first|refine sb0 ?_|refine sb67 ?_|(refine' cp7x ?hc ?_;(case hc=>first|exact HA|exact HH)));exact q7.1):A:=h ⟨k⟩
theorem sb98 {A B:Prop} (k:B) (h:Hd7 B->A:=by intro q7;(first|refine u7x ?_|refine u6x ?_|refine u9x ?_);exact q7.1):A:=h ⟨k⟩
theorem sk99 {A B:Prop} (k:B) (h:Hd7 B->A:=by intro q7;(first|refine sb0 ?_|refine sb98 ?_|(refine' cp7x ?hc ?_;(case hc=>first|exact HA|exact HH)));exact q7.1):A:=h ⟨k⟩
theorem sb100 {A B:Prop} (k:B) (h:Hd7 B->A:=by intro q7;(first|(with_reducible refine Bc.l ?_)|fail|refine u6x ?_|refine u9x ?_);exact q7.1):A:=h ⟨k⟩
theorem sk101 {A B:Prop} (k:B) (h:Hd7 B->A:=by intro q7;(first|refine sb0 ?_|refine sb100 ?_|(refine' cp7x ?hc ?_;(case hc=>first|exact HA|exact HH)));exact q7.1):A:=h ⟨k⟩
theorem sk102 {A B:Prop} (k:B) (h:Hd7 B->A:=by intro q7;(first|refine sb0 ?_|refine sb98 ?_|(refine' cp7x ?hc ?_;(case hc=>first|exact HA|exact HH|exact H4)));exact q7.1):A:=h ⟨k⟩
theorem cl21 {p:Prop} (h:p:=by first|exact Vd.same hs0 _|exact Vd.row (ρ:=[_,_]) hr6 (yT (l₁:=[_,_])) (fun z hz=>by cases hz)|exact Vd.nil _|(simp only [cm6,re_n,bC3,bo8,bM1];exact Vd.same hs0 _)):p:=h
theorem bM4 (q:Qry) (hq:QryS q) (how by_:Int) (hhow:I64n how) (hby:I64n by_):ASome prog 28 [qryD q,iD how,iD by_] (fun r=>∃ q',r=qryD q'/\QryB q'):=by
 refine ASome.of_call ?_;have HA:=ab0 by_ 8 hby;have HH:=ab0 how 9 hhow;obtain⟨hj1,hj2,_⟩:=ah6 by_ 8;have hj2:=hj2 (by decide);obtain⟨hh1,hh2,_⟩:=ah6 how 9;have hh2:=hh2 (by decide);generalize arE by_ 8=j at *;generalize arE how 9=h at *;have hqs:=hq.size;have hqp:=hq.path;have hqo:=hq.all.one;refine eC7 func28 ntmps28 fun BB=>?_
 repeat' first|refine sk95 ?_|intro b;conv=>whnf
 refine Bx.r (OtE.box rfl rfl (fun b3=>?_));have hs0:∀ {σ:aa1} (z:Nat),z∈aa6 ([]:aa1)->z∈aa6 σ:=fun z h=>by cases h
 rcases (by omega:h=0\/h=1\/h=2\/h=3\/h=4\/h=5\/h=6\/h=7\/h=8) with e|e|e|e|e|e|e|e|e
 ·repeat' first|refine sk96 ?_|intro b;conv=>whnf
  (refine Rt.by (σ':=[]) (d':=qryD ⟨j-1,q.kind,q.path,q.cond⟩) (Vs.vd (τ:=[]) ⟨_,xA (zZ _).symm⟩ (Vd.agg (.cons cl21 (.cons cl21 (.cons cl21 (.cons cl21 (.cons cl21 (.cons cl21 (.cons cl21 (.cons cl21 .nil)))))))))) ?_)
  exact⟨_,rfl,⟨by simp only;omega,by simp only;omega,hq.all⟩⟩
 ·have h9:=hqs
  repeat' first|refine sk95 ?_|intro b;conv=>whnf
  refine Bx.l ?_
  repeat' first|refine sk95 ?_|intro b;conv=>whnf
  refine aJ8 (out:=(ksL q.kind).map sD) (L:=(ksL q.kind).map fun z=>[sD z]) rfl rfl rfl rfl (by kernel_rfl) (by kernel_rfl) rfl rfl ?_
  repeat' first|refine sk96 ?_|intro b;conv=>whnf
  refine Ix.at (aK3 (ksL q.kind) (j:=j-1+1) ⟨by omega,by simp only [ksL,List.length_cons,List.length_nil];omega⟩ nE) (by omega) ?_
  repeat' first|refine sk96 ?_|intro b;conv=>whnf
  (refine Rt.by (σ':=[]) (d':=qryD ⟨q.op,(ksL q.kind).getD (j-1+1).toNat nE,q.path,q.cond⟩) (Vs.vd (τ:=[]) ⟨_,xA (zZ _).symm⟩ (Vd.agg (.cons cl21 (.cons cl21 (.cons cl21 (.cons cl21 (.cons cl21 (.cons cl21 (.cons cl21 (.cons cl21 .nil)))))))))) ?_)
  exact⟨_,rfl,⟨by simp only;omega,by simp only;omega,hq.all⟩⟩
 ·have h9:=hqs
  repeat' first|refine sk97 ?_|intro b;conv=>whnf
  obtain⟨b6,rfl⟩:∃ c,c=b:=⟨_,rfl⟩
  have hz:=aK3 psL (j:=j-1+1) ⟨by omega,by simp only [psL,List.length_cons,List.length_nil];omega⟩ nE;generalize psL.getD (j-1+1).toNat nE=z at hz;refine dr7 ?_;refine ak3 mixed aa0 rfl [1,4,5,6,7,8,9] 6 (inE [0,2,3,10,12]) (.two 0 (.one 2 (.one 3 (.one 10 (.fst 11 (.one 12 .done))))) 2 (.one 0 (.one 3 (.one 10 (.fst 11 (.one 12 .done)))))) (γ:=Value × aa1) (fun _=>[]) (fun g=>(b6,.cells 59 [.v (zv (ZV.int IntKind.i64)),.v (zv ZV.str),.v (zv ZV.sl),.v (zv (ZV.int IntKind.i64)),.v (zv ZV.sl),.v (zv ZV.sl),.v (zv ZV.sl),.v (zv (ZV.int IntKind.i64))])::(b3,.cells 59 [iD q.op,sD q.kind,.v g.1,iD q.cond.op,.sl 5 (aD1 q.cond),slS q.cond.path,slS q.cond.other,iD q.cond.n])::g.2) (fun g=>RowIs 9 1 ((q.path++[z]).map fun a=>[sD a]) g.1 g.2) (by decide +kernel) ?_ ?_
  ·repeat' first|(refine Cb.go (by decide +kernel) (bt8 (out:=psL.map sD) (L:=psL.map fun z=>[sD z]) rfl rfl rfl rfl (by kernel_rfl) (by kernel_rfl) rfl rfl ?_))|refine sk97 ?_|intro b;conv=>whnf|(refine And.intro ?_ ?_<;>(conv=>whnf))|(refine Ix.at hz (by omega) ?_)|(refine Ap.go rfl rfl rfl rfl hr5 (τ:=[(b6,.cells 59 [.v (zv (ZV.int IntKind.i64)),.v (zv ZV.str),.v (zv ZV.sl),.v (zv (ZV.int IntKind.i64)),.v (zv ZV.sl),.v (zv ZV.sl),.v (zv ZV.sl),.v (zv (ZV.int IntKind.i64))]),(b3,.cells 59 (qryC q))]) (zH _) rfl (zs:=(q.path++[z]).map fun a=>[sD a]) (by rw [yB];rfl) (by simp;omega) (by simp;omega) (fun s'=>(b6,.cells 59 [.v (zv (ZV.int IntKind.i64)),.v (zv ZV.str),.v (zv ZV.sl),.v (zv (ZV.int IntKind.i64)),.v (zv ZV.sl),.v (zv ZV.sl),.v (zv ZV.sl),.v (zv (ZV.int IntKind.i64))])::(b3,.cells 59 (qryC q))::s') (fun s'=>yT (l₂:=[_,_])) (fun a6 c6 s6 hr6=>?_))|(refine Ap.go rfl rfl rfl rfl (RowIs.e0 9 1 (some ⟨b,0,none⟩)) (zH ([]++_)) (bW2 _) (zs:=q.path.map fun a=>[sD a]) rfl (by simp;omega) (by simp;omega) (fun s'=>s'++_) (fun s'=>zH _) (fun a5 c5 s5 hr5=>?_))
   all_goals exact⟨(_,s6),(aa2 cl2),Sc.refl _,hr6⟩
  ·rintro⟨v,s⟩ hr6;simp only at hr6 ⊢;obtain⟨a6,c6,rfl⟩:=hr6.slice
   repeat' first|refine sk99 ?_|intro b;conv=>whnf
   (refine Rt.by (σ':=[]) (d':=qryD ⟨q.op,q.kind,q.path++[z],q.cond⟩) (Vs.vd (τ:=[]) ⟨_,xA (zZ _).symm⟩ (Vd.agg (.cons cl21 (.cons cl21 (.cons cl21 (.cons cl21 (.cons cl21 (.cons cl21 (.cons cl21 (.cons cl21 .nil)))))))))) ?_)
   exact⟨_,rfl,⟨by simp only;omega,by simp only [zI,List.length_singleton];omega,hq.all⟩⟩
 ·repeat' first|refine sk99 ?_|intro b;conv=>whnf
  (refine Rt.by (σ':=[]) (d':=qryD ⟨q.op,q.kind,[],q.cond⟩) (Vs.vd (τ:=[]) ⟨_,xA (zZ _).symm⟩ (Vd.agg (.cons cl21 (.cons cl21 (.cons cl21 (.cons cl21 (.cons cl21 (.cons cl21 (.cons cl21 (.cons cl21 .nil)))))))))) ?_)
  exact⟨_,rfl,⟨by simp only;omega,by simp,hq.all⟩⟩
 ·repeat' first|refine sk99 ?_|intro b;conv=>whnf
  (refine Rt.by (σ':=[]) (d':=qryD ⟨q.op,q.kind,q.path,.c1 3 [] [] 0 q.cond⟩) (Vs.vd (τ:=[]) ⟨_,xA (zZ _).symm⟩ (Vd.agg (.cons cl21 (.cons cl21 (.cons cl21 (.cons cl21 (.cons cl21 (.cons cl21 (.cons cl21 (.cons cl21 .nil)))))))))) ?_)
  exact⟨_,rfl,⟨by simp only [Cnd.size];omega,by simp only;omega,.mk ⟨(⟨by decide,by decide⟩:I64n 3),by simp [Cnd.path],by simp [Cnd.other]⟩ (fun a ha=>by rw [Cnd.kids,zN] at ha;subst ha;exact hq.all)⟩⟩
 ·repeat' first|refine sk99 ?_|intro b;conv=>whnf
  (refine Rt.by (σ':=[]) (d':=qryD ⟨q.op,q.kind,q.path,q.cond.re (j-1) q.cond.other q.cond.n⟩) (Vs.vd (τ:=[]) ⟨_,xA (zZ _).symm⟩ (Vd.agg (.cons cl21 (.cons cl21 (.cons cl21 (.cons cl21 (.cons cl21 (.cons cl21 (.cons cl21 (.cons cl21 .nil)))))))))) ?_)
  exact⟨_,rfl,⟨by simp only [bj3];omega,by simp only;omega,bC4 hq.all _ ⟨by omega,by omega⟩ hqo.2.2⟩⟩
 ·have h9:=hqs
  repeat' first|refine sk101 ?_|intro b;conv=>whnf
  refine Bx.l ?_
  repeat' first|refine sk101 ?_|intro b;conv=>whnf
  refine aJ8 (out:=nsL.map iD) (L:=nsL.map fun z=>[iD z]) rfl rfl rfl rfl (by kernel_rfl) (by kernel_rfl) rfl rfl ?_
  repeat' first|refine sk99 ?_|intro b;conv=>whnf
  refine Ix.at (cp9 nsL (j:=j-1+1) ⟨by omega,by simp only [nsL,List.length_cons,List.length_nil];omega⟩) (by omega) ?_
  repeat' first|refine sk99 ?_|intro b;conv=>whnf
  (refine Rt.by (σ':=[]) (d':=qryD ⟨q.op,q.kind,q.path,q.cond.re q.cond.op q.cond.other (nsL.getD (j-1+1).toNat 0)⟩) (Vs.vd (τ:=[]) ⟨_,xA (zZ _).symm⟩ (Vd.agg (.cons cl21 (.cons cl21 (.cons cl21 (.cons cl21 (.cons cl21 (.cons cl21 (.cons cl21 (.cons cl21 .nil)))))))))) ?_)
  exact⟨_,rfl,⟨by simp only [bj3];omega,by simp only;omega,bC4 hq.all _ hqo.1 hqo.2.2⟩⟩
 ·obtain⟨J,hJ⟩:∃ J:Nat,j=J:=⟨j.toNat,by omega⟩
  subst hJ
  repeat' first|refine sk99 ?_|intro b;conv=>whnf
  refine aa5 mixed aa0 (γ:=Nat × Cnd) (fun g=>[(8,iD g.1)]) (fun g=>[(b,.cells 59 [.v (zv (ZV.int IntKind.i64)),.v (zv ZV.str),.v (zv ZV.sl),.v (zv (ZV.int IntKind.i64)),.v (zv ZV.sl),.v (zv ZV.sl),.v (zv ZV.sl),.v (zv (ZV.int IntKind.i64))]),(b3,.cells 59 (qryC ⟨q.op,q.kind,q.path,g.2⟩))]) (fun g=>g.1<=J/\g.2.All CndS/\g.2.size+1<=1001*2 ^ g.1) (fun g=>J-g.1) (0,q.cond) (aa2 cl2) (Sc.refl _) ⟨zW _,hq.all,by simp;omega⟩ ?_;rintro⟨i,c⟩ ⟨hi,hca,hcs⟩;simp only at hi hca hcs ⊢;have hp8:2 ^ i<=2 ^ 8:=Nat.pow_le_pow_right (by decide) (by omega);by_cases hil:i<J
  ·repeat' first|refine sk99 ?_|intro b;conv=>whnf
   have f1:=Sc.frz (b:=b3) (t:=59) (cs:=[iD q.op,sD q.kind,slS q.path,iD 4,.sl 5 [cndC c,cndC c],nilD,nilD,iD 0]) (j:=5) (τ:=[(b,Blk.cells 59 [.v (zv (ZV.int IntKind.i64)),.v (zv ZV.str),.v (zv ZV.sl),.v (zv (ZV.int IntKind.i64)),.v (zv ZV.sl),.v (zv ZV.sl),.v (zv ZV.sl),.v (zv (ZV.int IntKind.i64))])]) rfl (RowIs.nil 9 1) (LeR.refl _);have f2:=Sc.frz (b:=b3) (t:=59) (cs:=[iD q.op,sD q.kind,slS q.path,iD 4,.sl 5 [cndC c,cndC c],.sl 1 [],nilD,iD 0]) (j:=6) (τ:=[(b,Blk.cells 59 [.v (zv (ZV.int IntKind.i64)),.v (zv ZV.str),.v (zv ZV.sl),.v (zv (ZV.int IntKind.i64)),.v (zv ZV.sl),.v (zv ZV.sl),.v (zv ZV.sl),.v (zv (ZV.int IntKind.i64))])]) rfl (RowIs.nil 9 1) (LeR.refl _);exact⟨(i+1,.c2 4 [] [] 0 c c),(aa2 cl4),(Sc.perm (List.Perm.swap _ _ _)).trans (f1.trans (f2.trans (Sc.perm (List.Perm.swap _ _ _)))),⟨by simp only;omega,.mk ⟨(⟨by decide,by decide⟩:I64n 4),by simp [Cnd.path],by simp [Cnd.other]⟩ (fun a ha=>by
    rw [Cnd.kids,zU,zN] at ha;rcases ha with rfl|rfl<;>exact hca),by simp only [Cnd.size];rw [Nat.pow_succ];omega⟩,by simp only;omega⟩
  ·obtain rfl:i=J:=by omega
   repeat' first|refine sk99 ?_|intro b;conv=>whnf
   (refine Rt.by (σ':=[]) (d':=qryD ⟨q.op,q.kind,q.path,c⟩) (Vs.vd (τ:=[]) ⟨_,xA (zZ _).symm⟩ (Vd.agg (.cons cl21 (.cons cl21 (.cons cl21 (.cons cl21 (.cons cl21 (.cons cl21 (.cons cl21 (.cons cl21 .nil)))))))))) ?_)
   exact⟨_,rfl,⟨by simp only;omega,by simp only;omega,hca⟩⟩
 ·have H4:=ab0 by_ 4 hby;obtain⟨hk1,hk2,_⟩:=ah6 by_ 4;have hk2:=hk2 (by decide);generalize arE by_ 4=j4 at *
  repeat' first|refine sk102 ?_|intro b;conv=>whnf
  have ht:D.sl 1 (List.take j4.toNat [[sD ⟨#[105,100]⟩],[sD ⟨#[]⟩],[sD ⟨#[110,111,110,101]⟩]])=slS (osL.take j4.toNat):=by unfold slS;rw [vR];rfl
  rw [show D.sl 1 (List.take j4.toNat [[D.v (Value.string ⟨#[105,100]⟩)],[D.v (Value.string ⟨#[]⟩)],[D.v (Value.string ⟨#[110,111,110,101]⟩)]])=slS (osL.take j4.toNat) from ht]
  (refine Rt.by (σ':=[]) (d':=qryD ⟨q.op,q.kind,q.path,q.cond.re q.cond.op (osL.take j4.toNat) q.cond.n⟩) (Vs.vd (τ:=[]) ⟨_,xA (zZ _).symm⟩ (Vd.agg (.cons cl21 (.cons cl21 (.cons cl21 (.cons cl21 (.cons cl21 (.cons cl21 (.cons cl21 (.cons cl21 .nil)))))))))) ?_)
  exact⟨_,rfl,⟨by simp only [bj3];omega,by simp only;omega,bC4 hq.all _ hqo.1 (by rw [zR];simp [osL];omega)⟩⟩
end
section
open Go
def fnL:List ByteArray:=[⟨#[]⟩,⟨#[105,100]⟩,⟨#[111,102]⟩,⟨#[111,116,104,101,114]⟩,⟨#[85,112,112,101,114]⟩,⟨#[49,97]⟩,⟨#[116,104,105,114,116,101,101,110,98,121,116,101,115]⟩,⟨#[97,45,98]⟩]
def foL:List ByteArray:=[⟨#[]⟩,⟨#[105,100]⟩,⟨#[111,102]⟩,⟨#[112,101,114,115,111,110]⟩,⟨#[111,114,100,101,114]⟩,⟨#[108,105,102,101]⟩,⟨#[116,111,116,97,108]⟩,⟨#[98,111,114,110]⟩,⟨#[115,105,122,101]⟩]
def fuL:List ByteArray:=[⟨#[]⟩,⟨#[111,102]⟩,⟨#[98,121]⟩,⟨#[105,100]⟩,⟨#[63]⟩]
theorem aE9 (l:List ByteArray) {j:Int} (h:0<=j/\j<l.length) (e:ByteArray):l.getD j.toNat e∈l:=by
 have hl:j.toNat<l.length:=by omega
 simp only [List.getD_eq_getElem?_getD,zD hl,Option.getD_some];exact wE hl
theorem ct6 {R:D->aa1->Prop} {f:Fld} {σ ρ sw sg:aa1} {ws:List ByteArray} {gs:List Int} {v1 v2:Value} (hw:RowIs 9 1 (ws.map fun s=>[sD s]) v1 sw) (hg:RowIs 3 1 (gs.map fun n=>[iD n]) v2 sg) (hp:σ.Perm (sw++(sg++ρ))) (k:R (.agg (fldC ⟨f.name,f.of,f.up,f.kind,f.lo,f.hi,ws,gs⟩)) []):Rt R (.agg [sD f.name,sD f.of,sD f.up,iD f.kind,iD f.lo,iD f.hi,.v v1,.v v2]) σ:=
 have h0:∀ (z:Nat),z∈aa6 ([]:aa1)->z∈aa6 σ:=fun z h=>by cases h
 Rt.by (σ':=[]) (d':=.agg (fldC ⟨f.name,f.of,f.up,f.kind,f.lo,f.hi,ws,gs⟩)) (Vs.vd (τ:=[]) ⟨_,xA (zZ _).symm⟩ (Vd.agg (.cons (Vd.same h0 _) (.cons (Vd.same h0 _) (.cons (Vd.same h0 _) (.cons (Vd.same h0 _) (.cons (Vd.same h0 _) (.cons (Vd.same h0 _) (.cons (Vd.row hw hp (fun z hz=>by cases hz)) (.cons (Vd.row (ρ:=sw++ρ) hg (hp.trans (by rw [← zV,← zV];exact yT.append_right _)) (fun z hz=>by cases hz)) .nil)))))))))) k
theorem aG9 {a:Int} (h:I64n a) (k:Int) (hk:1<=k):I64n (a.tdiv k):=by
 have h1:=Int.natAbs_tdiv_le_natAbs a k;obtain⟨h2,h3⟩:=h;unfold I64n;have h4:(-a).tdiv k = -(a.tdiv k):=Int.neg_tdiv a k;by_cases h0:0<=a
 ·have:=Int.tdiv_nonneg h0 (show 0<=k by omega);omega
 ·have:=Int.tdiv_nonneg (show 0 <= -a by omega) (show 0<=k by omega);omega
theorem mk0 (b m:Nat) (h:m<=4):RowIs 3 1 ((List.replicate m (0:Int)).map fun n=>[iD n]) (.slice (some ⟨b,0,none⟩) m m) [(b,.cells 3 (List.replicate m (D.v (zv (.int .i64)))))]:=
 ⟨fun y hy=>by obtain⟨z,_,rfl⟩:=xM.1 hy;rfl,.inr ⟨b,m,[],by simp,by
  have:∀ m,((List.replicate m (0:Int)).map fun n=>[iD n]).flatten=List.replicate m (D.v (zv (.int .i64))):=fun m=>by
   induction m with
   | zero=>rfl
   | succ m ih=>rw [List.replicate_succ,List.map_cons,List.flatten_cons,ih];rfl
  rw [this,zZ],by simp,by unfold maxLen;omega,by simp,fun d hd=>by cases hd⟩⟩
theorem pm2 (x y:Nat × Blk) (s t:aa1):(x::y::(s++t)).Perm (t++(s++[x,y])):=by
 refine ac3 fun a=>?_;simp only [List.cons_append,List.append_eq,List.nil_append,ac4,af0,ae9]<;>omega
def moL:List ByteArray:=[⟨#[109,111,114,101]⟩,⟨#[114,101,100]⟩,⟨#[]⟩]
def weL:List Int:=[1,0,-1,1048576,1048577]
theorem cp8 (l:List Int) {j:Int} (h:0<=j/\j<l.length):l.getD j.toNat 0∈l:=by
 have hl:j.toNat<l.length:=by omega
 simp only [List.getD_eq_getElem?_getD,zD hl,Option.getD_some];exact wE hl
theorem sk103 {A B:Prop} (k:B) (h:Hd7 B->A:=by intro q7;(first|refine sb0 ?_|refine sb65 ?_|(refine' cp7x ?hc ?_;(case hc=>first|exact HH|exact HB _)));exact q7.1):A:=h ⟨k⟩
theorem sk104 {A B:Prop} (k:B) (h:Hd7 B->A:=by intro q7;(first|refine sb0 ?_|refine sb1 ?_|(refine' cp7x ?hc ?_;(case hc=>first|exact HH|exact HB _)));exact q7.1):A:=h ⟨k⟩
theorem sk105 {A B:Prop} (k:B) (h:Hd7 B->A:=by intro q7;(first|refine sb0 ?_|refine sb1 ?_|(refine' cp7x ?hc ?_;(case hc=>first|exact HH|exact HB _|exact H5)));exact q7.1):A:=h ⟨k⟩
theorem sk106 {A B:Prop} (k:B) (h:Hd7 B->A:=by intro q7;(first|refine sb0 ?_|refine sb65 ?_|(refine' cp7x ?hc ?_;(case hc=>first|exact HH|exact HB _|exact H5)));exact q7.1):A:=h ⟨k⟩
theorem aO5 (f:Fld) (hf:CF f) (how by_:Int) (hhow:I64n how) (hby:I64n by_):ASome prog 75 [.agg (fldC f),iD how,iD by_] (fun r=>∃ f',r = .agg (fldC f')/\DF f'):=by
 refine ASome.of_call ?_;have HB:=fun m=>ab0 by_ m hby;have HH:=ab0 how 8 hhow;obtain⟨hh1,hh2,_⟩:=ah6 how 8;have hh2:=hh2 (by decide);generalize arE how 8=h at *;have hd:=hf.df;have hs0:∀ {σ:aa1} (z:Nat),z∈aa6 ([]:aa1)->z∈aa6 σ:=fun z h=>by cases h
 refine eC7 func75 ntmps75 fun BB=>?_
 repeat' first|refine sk103 ?_|intro b;conv=>whnf
 refine Bx.r (OtE.box rfl rfl (fun b3=>?_));rcases (by omega:h=0\/h=1\/h=2\/h=3\/h=4\/h=5\/h=6\/h=7) with e|e|e|e|e|e|e|e
 ·obtain⟨q1,q2,_⟩:=ah6 by_ 11;have q2:=q2 (by decide)
  repeat' first|refine sk104 ?_|intro b;conv=>whnf
  (refine Rt.by (σ':=[]) (d':=.agg (fldC ⟨f.name,f.of,f.up,arE by_ 11-1,f.lo,f.hi,f.words,f.wz⟩)) (Vs.vd (τ:=[]) ⟨_,xA (zZ _).symm⟩ (Vd.agg (.cons (by first|exact Vd.same hs0 _|exact Vd.nil _) (.cons (by first|exact Vd.same hs0 _|exact Vd.nil _) (.cons (by first|exact Vd.same hs0 _|exact Vd.nil _) (.cons (by first|exact Vd.same hs0 _|exact Vd.nil _) (.cons (by first|exact Vd.same hs0 _|exact Vd.nil _) (.cons (by first|exact Vd.same hs0 _|exact Vd.nil _) (.cons (by first|exact Vd.same hs0 _|exact Vd.nil _) (.cons (by first|exact Vd.same hs0 _|exact Vd.nil _) .nil)))))))))) ?_)
  exact⟨_,rfl,⟨hd.nm,hd.of,hd.up,hd.nw,hd.wd,hd.ng,hd.wt,by simp only;omega,hd.lo,hd.hi⟩⟩
 ·have hee:=e;obtain⟨q1,q2,_⟩:=ah6 by_ 8;have q2:=q2 (by decide);have hli:=aK3 fnL (j:=arE by_ 8) ⟨by omega,by simp only [fnL,List.length_cons,List.length_nil];omega⟩ nE;have hm:=aE9 fnL (j:=arE by_ 8) ⟨by omega,by simp only [fnL,List.length_cons,List.length_nil];omega⟩ nE;generalize List.getD fnL (arE by_ 8).toNat nE=z at hli hm
  repeat' first|refine sk103 ?_|intro b;conv=>whnf
  refine aJ8 (out:=List.map sD fnL) (L:=List.map (fun z=>[sD z]) fnL) rfl rfl rfl rfl (by kernel_rfl) (by kernel_rfl) rfl rfl ?_
  repeat' first|refine sk104 ?_|intro b;conv=>whnf
  refine Ix.at hli (by omega) ?_
  repeat' first|refine sk104 ?_|intro b;conv=>whnf
  (refine Rt.by (σ':=[]) (d':=.agg (fldC ⟨z,f.of,f.up,f.kind,f.lo,f.hi,f.words,f.wz⟩)) (Vs.vd (τ:=[]) ⟨_,xA (zZ _).symm⟩ (Vd.agg (.cons (by first|exact Vd.same hs0 _|exact Vd.nil _) (.cons (by first|exact Vd.same hs0 _|exact Vd.nil _) (.cons (by first|exact Vd.same hs0 _|exact Vd.nil _) (.cons (by first|exact Vd.same hs0 _|exact Vd.nil _) (.cons (by first|exact Vd.same hs0 _|exact Vd.nil _) (.cons (by first|exact Vd.same hs0 _|exact Vd.nil _) (.cons (by first|exact Vd.same hs0 _|exact Vd.nil _) (.cons (by first|exact Vd.same hs0 _|exact Vd.nil _) .nil)))))))))) ?_)
  exact⟨_,rfl,⟨by revert hm;simp only [fnL,zU,yF,xE];rintro (rfl|rfl|rfl|rfl|rfl|rfl|rfl|rfl)<;>decide,hd.of,hd.up,hd.nw,hd.wd,hd.ng,hd.wt,hd.kd,hd.lo,hd.hi⟩⟩
 ·have hee:=e;obtain⟨q1,q2,_⟩:=ah6 by_ 9;have q2:=q2 (by decide);have hli:=aK3 foL (j:=arE by_ 9) ⟨by omega,by simp only [foL,List.length_cons,List.length_nil];omega⟩ nE;have hm:=aE9 foL (j:=arE by_ 9) ⟨by omega,by simp only [foL,List.length_cons,List.length_nil];omega⟩ nE;generalize List.getD foL (arE by_ 9).toNat nE=z at hli hm
  repeat' first|refine sk103 ?_|intro b;conv=>whnf
  refine aJ8 (out:=List.map sD foL) (L:=List.map (fun z=>[sD z]) foL) rfl rfl rfl rfl (by kernel_rfl) (by kernel_rfl) rfl rfl ?_
  repeat' first|refine sk104 ?_|intro b;conv=>whnf
  refine Ix.at hli (by omega) ?_
  repeat' first|refine sk104 ?_|intro b;conv=>whnf
  (refine Rt.by (σ':=[]) (d':=.agg (fldC ⟨f.name,z,f.up,f.kind,f.lo,f.hi,f.words,f.wz⟩)) (Vs.vd (τ:=[]) ⟨_,xA (zZ _).symm⟩ (Vd.agg (.cons (by first|exact Vd.same hs0 _|exact Vd.nil _) (.cons (by first|exact Vd.same hs0 _|exact Vd.nil _) (.cons (by first|exact Vd.same hs0 _|exact Vd.nil _) (.cons (by first|exact Vd.same hs0 _|exact Vd.nil _) (.cons (by first|exact Vd.same hs0 _|exact Vd.nil _) (.cons (by first|exact Vd.same hs0 _|exact Vd.nil _) (.cons (by first|exact Vd.same hs0 _|exact Vd.nil _) (.cons (by first|exact Vd.same hs0 _|exact Vd.nil _) .nil)))))))))) ?_)
  exact⟨_,rfl,⟨hd.nm,by revert hm;simp only [foL,zU,yF,xE];rintro (rfl|rfl|rfl|rfl|rfl|rfl|rfl|rfl|rfl)<;>decide,hd.up,hd.nw,hd.wd,hd.ng,hd.wt,hd.kd,hd.lo,hd.hi⟩⟩
 ·have hee:=e;obtain⟨q1,q2,_⟩:=ah6 by_ 5;have q2:=q2 (by decide);have hli:=aK3 fuL (j:=arE by_ 5) ⟨by omega,by simp only [fuL,List.length_cons,List.length_nil];omega⟩ nE;have hm:=aE9 fuL (j:=arE by_ 5) ⟨by omega,by simp only [fuL,List.length_cons,List.length_nil];omega⟩ nE;generalize List.getD fuL (arE by_ 5).toNat nE=z at hli hm
  repeat' first|refine sk103 ?_|intro b;conv=>whnf
  refine aJ8 (out:=List.map sD fuL) (L:=List.map (fun z=>[sD z]) fuL) rfl rfl rfl rfl (by kernel_rfl) (by kernel_rfl) rfl rfl ?_
  repeat' first|refine sk104 ?_|intro b;conv=>whnf
  refine Ix.at hli (by omega) ?_
  repeat' first|refine sk104 ?_|intro b;conv=>whnf
  (refine Rt.by (σ':=[]) (d':=.agg (fldC ⟨f.name,f.of,z,f.kind,f.lo,f.hi,f.words,f.wz⟩)) (Vs.vd (τ:=[]) ⟨_,xA (zZ _).symm⟩ (Vd.agg (.cons (by first|exact Vd.same hs0 _|exact Vd.nil _) (.cons (by first|exact Vd.same hs0 _|exact Vd.nil _) (.cons (by first|exact Vd.same hs0 _|exact Vd.nil _) (.cons (by first|exact Vd.same hs0 _|exact Vd.nil _) (.cons (by first|exact Vd.same hs0 _|exact Vd.nil _) (.cons (by first|exact Vd.same hs0 _|exact Vd.nil _) (.cons (by first|exact Vd.same hs0 _|exact Vd.nil _) (.cons (by first|exact Vd.same hs0 _|exact Vd.nil _) .nil)))))))))) ?_)
  exact⟨_,rfl,⟨hd.nm,hd.of,by revert hm;simp only [fuL,zU,yF,xE];rintro (rfl|rfl|rfl|rfl|rfl)<;>decide,hd.nw,hd.wd,hd.ng,hd.wt,hd.kd,hd.lo,hd.hi⟩⟩
 ·obtain⟨q1,q2,_⟩:=ah6 by_ 6;have q2:=q2 (by decide);have hlo:=hf.lo;obtain⟨z,hm,hli⟩:=ba2 [f.lo-1,0,5,-1048576,-1048577,33] (j:=arE by_ 6) ⟨by omega,by simp only [List.length_cons,List.length_nil];omega⟩
  repeat' first|refine sk104 ?_|intro b;conv=>whnf
  refine Ix.at hli (by omega) ?_
  repeat' first|refine sk104 ?_|intro b;conv=>whnf
  (refine Rt.by (σ':=[]) (d':=.agg (fldC ⟨f.name,f.of,f.up,f.kind,z,f.hi,f.words,f.wz⟩)) (Vs.vd (τ:=[]) ⟨_,xA (zZ _).symm⟩ (Vd.agg (.cons (by first|exact Vd.same hs0 _|exact Vd.nil _) (.cons (by first|exact Vd.same hs0 _|exact Vd.nil _) (.cons (by first|exact Vd.same hs0 _|exact Vd.nil _) (.cons (by first|exact Vd.same hs0 _|exact Vd.nil _) (.cons (by first|exact Vd.same hs0 _|exact Vd.nil _) (.cons (by first|exact Vd.same hs0 _|exact Vd.nil _) (.cons (by first|exact Vd.same hs0 _|exact Vd.nil _) (.cons (by first|exact Vd.same hs0 _|exact Vd.nil _) .nil)))))))))) ?_)
  exact⟨_,rfl,⟨hd.nm,hd.of,hd.up,hd.nw,hd.wd,hd.ng,hd.wt,hd.kd,by simp only [zU,yF,xE] at hm;simp only;omega,hd.hi⟩⟩
 ·obtain⟨q1,q2,_⟩:=ah6 by_ 8;have q2:=q2 (by decide);have hlo:=hf.hi;obtain⟨z,hm,hli⟩:=ba2 [f.hi+1,0,32,33,65536,65537,1048576,1048577] (j:=arE by_ 8) ⟨by omega,by simp only [List.length_cons,List.length_nil];omega⟩
  repeat' first|refine sk104 ?_|intro b;conv=>whnf
  refine Ix.at hli (by omega) ?_
  repeat' first|refine sk104 ?_|intro b;conv=>whnf
  (refine Rt.by (σ':=[]) (d':=.agg (fldC ⟨f.name,f.of,f.up,f.kind,f.lo,z,f.words,f.wz⟩)) (Vs.vd (τ:=[]) ⟨_,xA (zZ _).symm⟩ (Vd.agg (.cons (by first|exact Vd.same hs0 _|exact Vd.nil _) (.cons (by first|exact Vd.same hs0 _|exact Vd.nil _) (.cons (by first|exact Vd.same hs0 _|exact Vd.nil _) (.cons (by first|exact Vd.same hs0 _|exact Vd.nil _) (.cons (by first|exact Vd.same hs0 _|exact Vd.nil _) (.cons (by first|exact Vd.same hs0 _|exact Vd.nil _) (.cons (by first|exact Vd.same hs0 _|exact Vd.nil _) (.cons (by first|exact Vd.same hs0 _|exact Vd.nil _) .nil)))))))))) ?_)
  exact⟨_,rfl,⟨hd.nm,hd.of,hd.up,hd.nw,hd.wd,hd.ng,hd.wt,hd.kd,hd.lo,by simp only [zU,yF,xE] at hm;simp only;omega⟩⟩
 ·have h3i:=aG9 hby 3 (by omega);have H5:=ab0 (by_.tdiv 3) 5 h3i;obtain⟨p1,p2,_⟩:=ah6 by_ 3;have p2:=p2 (by decide);obtain⟨q1,q2,_⟩:=ah6 (by_.tdiv 3) 5;have q2:=q2 (by decide);have hnw:=hf.nw;have hng:=hf.ng;have hli:=aK3 moL (j:=arE by_ 3) ⟨by omega,by simp only [moL,List.length_cons,List.length_nil];omega⟩ nE;have hm:=aE9 moL (j:=arE by_ 3) ⟨by omega,by simp only [moL,List.length_cons,List.length_nil];omega⟩ nE;generalize List.getD moL (arE by_ 3).toNat nE=z at hli hm;have hli2:=cp9 weL (j:=arE (by_.tdiv 3) 5) ⟨by omega,by simp only [weL,List.length_cons,List.length_nil];omega⟩;have hm2:=cp8 weL (j:=arE (by_.tdiv 3) 5) ⟨by omega,by simp only [weL,List.length_cons,List.length_nil];omega⟩;generalize List.getD weL (arE (by_.tdiv 3) 5).toNat 0=n at hli2 hm2
  repeat' first|refine sk105 ?_|intro b;conv=>whnf
  refine Ap.go rfl rfl rfl rfl (RowIs.e0 9 1 (some ⟨b,0,none⟩)) (zH ([]++_)) (bW2 _) (zs:=f.words.map fun a=>[sD a]) rfl (by simp;omega) (by simp;omega) (fun s'=>s'++_) (fun s'=>zH _) (fun a5 c5 s5 hr5=>?_);rename_i b6
  repeat' first|refine sk106 ?_|intro b;conv=>whnf
  refine aJ8 (out:=moL.map sD) (L:=moL.map fun z=>[sD z]) rfl rfl rfl rfl (by kernel_rfl) (by kernel_rfl) rfl rfl ?_
  repeat' first|refine sk105 ?_|intro b;conv=>whnf
  refine Ix.at hli (by omega) ?_
  repeat' first|refine sk105 ?_|intro b;conv=>whnf
  refine Ap.go rfl rfl rfl rfl hr5 (τ:=[(b6,.cells 97 [D.v (zv ZV.str),D.v (zv ZV.str),D.v (zv ZV.str),D.v (zv (ZV.int IntKind.i64)),D.v (zv (ZV.int IntKind.i64)),D.v (zv (ZV.int IntKind.i64)),D.v (zv ZV.sl),D.v (zv ZV.sl)]),(b3,.cells 97 (fldC f))]) (zH _) rfl (zs:=(f.words++[z]).map fun a=>[sD a]) (by rw [yB];rfl) (by simp;omega) (by simp;omega) (fun s'=>(b6,.cells 97 [D.v (zv ZV.str),D.v (zv ZV.str),D.v (zv ZV.str),D.v (zv (ZV.int IntKind.i64)),D.v (zv (ZV.int IntKind.i64)),D.v (zv (ZV.int IntKind.i64)),D.v (zv ZV.sl),D.v (zv ZV.sl)])::(b3,.cells 97 (fldC f))::s') (fun s'=>yT (l₂:=[_,_])) (fun a6 c6 s6 hr6=>?_)
  repeat' first|refine sk105 ?_|intro b;conv=>whnf
  refine Ap.go rfl rfl rfl rfl (RowIs.e0 3 1 (some ⟨b,0,none⟩)) (zH ([]++_)) (cw3 f.wz) (zs:=f.wz.map fun n=>[iD n]) rfl (by simp;omega) (by simp;omega) (fun s'=>s'++_) (fun s'=>zH _) (fun a7 c7 s7 hr7=>?_)
  repeat' first|refine sk106 ?_|intro b;conv=>whnf
  refine aJ8 (out:=weL.map iD) (L:=weL.map fun z=>[iD z]) rfl rfl rfl rfl (by kernel_rfl) (by kernel_rfl) rfl rfl ?_
  repeat' first|refine sk105 ?_|intro b;conv=>whnf
  refine Sd.go ⟨by decide,⟨h3i.1,h3i.2⟩⟩ ?_
  repeat' first|refine sk105 ?_|intro b;conv=>whnf
  refine Ix.at hli2 (by omega) ?_
  repeat' first|refine sk105 ?_|intro b;conv=>whnf
  refine Ap.go rfl rfl rfl rfl hr7 (τ:=(b6,.cells 97 [D.v (zv ZV.str),D.v (zv ZV.str),D.v (zv ZV.str),D.v (zv (ZV.int IntKind.i64)),D.v (zv (ZV.int IntKind.i64)),D.v (zv (ZV.int IntKind.i64)),D.v (zv ZV.sl),D.v (zv ZV.sl)])::(b3,.cells 97 [sD f.name,sD f.of,sD f.up,iD f.kind,iD f.lo,iD f.hi,.v (.slice a6 ((f.words++[z]).map fun a=>[sD a]).length c6),slI f.wz])::s6) (zH _) rfl (zs:=(f.wz++[n]).map fun a=>[iD a]) (by rw [yB];rfl) (by simp;omega) (by simp;omega) (fun s'=>(b6,.cells 97 [D.v (zv ZV.str),D.v (zv ZV.str),D.v (zv ZV.str),D.v (zv (ZV.int IntKind.i64)),D.v (zv (ZV.int IntKind.i64)),D.v (zv (ZV.int IntKind.i64)),D.v (zv ZV.sl),D.v (zv ZV.sl)])::(b3,.cells 97 [sD f.name,sD f.of,sD f.up,iD f.kind,iD f.lo,iD f.hi,.v (.slice a6 ((f.words++[z]).map fun a=>[sD a]).length c6),slI f.wz])::(s'++s6)) (fun s'=>by refine ac3 fun a=>?_;simp only [List.cons_append,List.append_eq,List.nil_append,ac4,af0,ae9]<;>omega) (fun a8 c8 s8 hr8=>?_)
  repeat' first|refine sk105 ?_|intro b;conv=>whnf
  refine ct6 (ρ:=[_,_]) hr6 hr8 (pm2 _ _ _ _) ?_;exact⟨_,rfl,⟨hd.nm,hd.of,hd.up,by simp only [zI,List.length_singleton];omega,fun s hs=>by
   rcases zO.1 hs with h1|h1
   ·exact hf.wd s h1
   ·rw [zN] at h1;subst h1;revert hm;simp only [moL,zU,yF,xE];rintro (rfl|rfl|rfl)<;>decide,by simp only [zI,List.length_singleton];omega,fun s hs=>by
   rcases zO.1 hs with h1|h1
   ·exact hd.wt s h1
   ·rw [zN] at h1;subst h1;revert hm2;simp only [weL,zU,yF,xE];omega,hd.kd,hd.lo,hd.hi⟩⟩
 ·have hnw:=hf.nw
  repeat' first|refine sk105 ?_|intro b;conv=>whnf
  refine Mk.go f.words.length rfl rfl rfl rfl rfl (by simp) (by omega) (by omega) (fun b5=>?_)
  repeat' first|refine sk105 ?_|intro b;conv=>whnf
  refine Rs.c aa0 (m:=1) rfl rfl rfl rfl rfl rfl ?_
  repeat' first|refine sk105 ?_|intro b;conv=>whnf
  refine Rt.by (σ':=[]) (d':=.agg (fldC ⟨f.name,f.of,f.up,f.kind,f.lo,f.hi,f.words,List.replicate f.words.length 0⟩)) (Vs.vd (τ:=[]) ⟨_,xA (zZ _).symm⟩ (Vd.agg (.cons (by first|exact Vd.same hs0 _|exact Vd.nil _) (.cons (by first|exact Vd.same hs0 _|exact Vd.nil _) (.cons (by first|exact Vd.same hs0 _|exact Vd.nil _) (.cons (by first|exact Vd.same hs0 _|exact Vd.nil _) (.cons (by first|exact Vd.same hs0 _|exact Vd.nil _) (.cons (by first|exact Vd.same hs0 _|exact Vd.nil _) (.cons (by first|exact Vd.same hs0 _|exact Vd.nil _) (.cons (Vd.row (mk0 b5 f.words.length (by omega)) (zH _) (fun z hz=>by cases hz)) .nil)))))))))) ?_
  exact⟨_,rfl,⟨hd.nm,hd.of,hd.up,hd.nw,hd.wd,by simp only [zY];omega,by simp only;intro n hn;rw [List.eq_of_mem_replicate hn];omega,hd.kd,hd.lo,hd.hi⟩⟩
end
section
open Go Go.RowKit Go.Shelf
section
variable {P:Program} {r:Option Nat} {n:Nat} {df:Nat} {N:Nat} {σ:aa1} {a:List D} {f:Frm} {T:TypeId->Option TI} {L:List Oper} {Q:Fst} {ρ:Operand->D}
theorem Vs.sc {σ τ:aa1} (h:Sc σ τ) (d:D):Vs σ d τ d:=⟨fun w X _ hs hr=>⟨h.run w X hs,am0 hr h.sub⟩,h.sub⟩
theorem Sc.any {b:Nat} {e:TypeId} {cs cs':List D} {τ:aa1} (hl:cs'.length=cs.length) (h:∀ (i:Nat) d',cs'[i]?=some d'->d' = .any\/cs[i]?=some d'):Sc ((b,.cells e cs)::τ) ((b,.cells e cs')::τ):=by
 refine⟨fun w X hs=>⟨hs.nodup,fun x kk hm=>?_,hs.xlt,hs.gok⟩,fun b hb=>hb⟩;rcases zU.1 hm with e1|hm
 ·cases e1
  obtain⟨h1,o,h2,vs,rfl,h3⟩:=hs.at_ b _ yN;exact⟨h1,_,h2,vs,rfl,⟨by rw [h3.len,hl],fun i d u hi hu=>by
   rcases h i d hi with rfl|h'
   ·exact .any u
   ·exact h3.at_ i d u h' hu⟩⟩
 ·exact hs.at_ x kk (yQ _ hm)
end
end
end Go.Proofs.YtlcfiilejnnlnaaGreatDoor
