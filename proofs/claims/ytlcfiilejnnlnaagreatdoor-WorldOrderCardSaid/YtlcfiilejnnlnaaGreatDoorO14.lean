/- A part of the proof: Qf Qg Qh Qi Qj. -/
import Derived.Test.YtlcfiilejnnlnaaGreatDoorO13
set_option maxRecDepth 100000
set_option maxHeartbeats 20000000
set_option linter.unusedVariables false
set_option linter.unusedSimpArgs false
namespace Go.Proofs.YtlcfiilejnnlnaaGreatDoor
section
open Go Go.Maps Go.MapKept
/-! ### The way of a path -/
def wayE (x:Sch):Nat→List ByteArray→List (Nat × Nat)
 | _,[]=>[]
 | k,s :: l=>(k,(aa3 (kdOf x k) s).toNat) :: wayE x (al3 x k s).toNat l
theorem aS4 (x:Sch):∀ (k:Nat) (l:List ByteArray),(wayE x k l).length=l.length
 | _,[]=>rfl
 | k,s :: l=>by simp [wayE,aS4 x _ l]
theorem aW4 {x:Sch} {k:Nat} (h:k<x.kinds.length):x.kinds[k]?=some (kdOf x k):=by
 obtain ⟨kd,hkd⟩:∃ kd,x.kinds[k]?=some kd:=⟨_,List.getElem?_eq_getElem h⟩
 rw [aI5 hkd];exact hkd
structure cy1 (x:Sch) (w:Wd) (l:List ByteArray) (ws:List (Nat × Nat)) (i:Nat) (q f:Nat) (nm:ByteArray) (g:Fld):Prop where
 way:ws[i]?=some (q,f)
 name:l[i]?=some nm
 kind:x.kinds[q]?=some (kdOf x q)
 ix:aa3 (kdOf x q) nm=(f:Int)
 fld:(kdOf x q).fields[f]?=some g
 next:i+1<l.length→∃ u f',ws[i+1]?=some (u,f')∧g.kind=1∧upIx x q f=(u:Int)∧u<x.kinds.length
 val:∀ r,endV x w q r (l.drop i)=match ws[i+1]? with|some p=>endV x w p.1 (aK9 w p.1 (r.getD f 0).toNat) (l.drop (i+1))|none=>r.getD f 0
theorem bj7 (x:Sch) (w:Wd):∀ (l:List ByteArray) (k:Nat),k<x.kinds.length→ai4 x k l=true→∀ i,i<l.length→∃ q f nm g,cy1 x w l (wayE x k l) i q f nm g
 | [],_,_,_,i,hi=>by simp at hi
 | [s],k,hk,h,i,hi=>by
  obtain rfl:i=0:=by simpa using hi
  have h1:0≤aa3 (kdOf x k) s:=by simpa [ai4] using h
  obtain ⟨f,g,e1,e2⟩:=aw0 (kd:=kdOf x k) (s:=s) (by omega)
  refine ⟨k,f,s,g,⟨by simp [wayE,e1],rfl,aW4 hk,e1,e2,fun h=>by simp at h,fun r=>?_⟩⟩
  simp [wayE,endV,vatR,e1]
 | s :: t :: l,k,hk,h,i,hi=>by
  simp only [ai4,Bool.and_eq_true,decide_eq_true_eq] at h
  obtain ⟨h1,h2⟩:=h
  have h3:=aV8 h1
  obtain ⟨u,hu⟩:∃ u:Nat,al3 x k s=u:=⟨_,(Int.toNat_of_nonneg h1).symm⟩
  rw [hu,Int.toNat_natCast] at h2
  have hw:wayE x k (s :: t :: l)=(k,(aa3 (kdOf x k) s).toNat) :: wayE x u (t :: l):=by simp [wayE,hu]
  have hf:¬ aa3 (kdOf x k) s<0:=fun hf=>by rw [aE0 (aW4 hk) hf] at hu;omega
  obtain ⟨f,g,e1,e2⟩:=aw0 hf
  have hn:=aB5 (aW4 hk) e1 e2
  have hg:g.kind=1:=by
   by_cases hg:g.kind=1
   ·exact hg
   ·rw [if_neg hg] at hn;omega
  rw [if_pos hg] at hn
  rw [hw]
  cases i with
  | zero=>
   refine ⟨k,f,s,g,⟨by simp [e1],rfl,aW4 hk,e1,e2,fun _=>⟨u,(aa3 (kdOf x u) t).toNat,by simp [wayE],hg,by rw [← hn,hu],by omega⟩,fun r=>?_⟩⟩
   simp only [List.drop_zero,endV,hu,Int.toNat_natCast,vatR,e1]
   simp [wayE]
  | succ i=>
   obtain ⟨q,f,nm,g,H⟩:=bj7 x w (t :: l) u (by omega) h2 i (by simpa using hi)
   exact ⟨q,f,nm,g,⟨by simpa using H.way,by simpa using H.name,H.kind,H.ix,H.fld,fun h=>H.next (by simpa using h),fun r=>by simpa using H.val r⟩⟩
def kdsW (ws:List (Nat × Nat)) (j:Nat):List Int:=(ws.take j).map fun q=>(q.1:Int)
def fldW (ws:List (Nat × Nat)) (j:Nat):List Int:=(ws.take j).map fun q=>(q.2:Int)
theorem bO3 (ws:List (Nat × Nat)) {j:Nat} (h:j≤ws.length):(kdsW ws j).length=j:=by simp [kdsW];omega
theorem bP0 (ws:List (Nat × Nat)) {j:Nat} (h:j≤ws.length):(fldW ws j).length=j:=by simp [fldW];omega
theorem bD0 {ws:List (Nat × Nat)} {j q f:Nat} (h:ws[j]?=some (q,f)):kdsW ws (j+1)=kdsW ws j ++ [(q:Int)]:=by unfold kdsW;rw [List.take_add_one,h];simp
theorem bE5 {ws:List (Nat × Nat)} {j q f:Nat} (h:ws[j]?=some (q,f)):fldW ws (j+1)=fldW ws j ++ [(f:Int)]:=by unfold fldW;rw [List.take_add_one,h];simp
def sufV (x:Sch) (w:Wd) (k:Nat) (l:List ByteArray) (j:Nat):List Int:=match (wayE x k l)[j]? with
 | some p=>(w.getD p.1 []).map fun r=>endV x w p.1 r (l.drop j)
 | none=>[]
def endL (x:Sch) (w:Wd) (k:Nat) (l:List ByteArray):List Int:=(w.getD k []).map fun r=>endV x w k r l
theorem bw9 (x:Sch) (w:Wd) (k:Nat) (l:List ByteArray) (h:l≠[]):sufV x w k l 0=endL x w k l:=by
 cases l with
 | nil=>exact absurd rfl h
 | cons s l=>simp [sufV,wayE,endL]
theorem bO4 {ws:List (Nat × Nat)} {p:List ByteArray} (h:ws.length=p.length):kdsW ws p.length=ws.map fun q=>(q.1:Int):=by unfold kdsW;rw [List.take_of_length_le (by omega)]
theorem bP1 {ws:List (Nat × Nat)} {p:List ByteArray} (h:ws.length=p.length):fldW ws p.length=ws.map fun q=>(q.2:Int):=by unfold fldW;rw [List.take_of_length_le (by omega)]
theorem bJ3 (x:Sch) (w:Wd) (k:Nat) (l:List ByteArray):sufV x w k l l.length=[]:=by
 unfold sufV;rw [List.getElem?_eq_none_iff.2 (by rw [aS4];omega)]
theorem by3 {x:Sch} {q f:Nat} {kd:Knd} {g:Fld} (hk:x.kinds[q]?=some kd) (hf:kd.fields[f]?=some g) (h1:g.kind=1):(⟨q,f,upIx x q f,g.lo⟩:Rf)∈aa4 x:=by
 unfold aa4
 refine av5.2 ⟨q,(List.getElem?_eq_some_iff.1 hk).1,?_⟩
 unfold refK
 rw [hk]
 refine av5.2 ⟨f,(List.getElem?_eq_some_iff.1 hf).1,?_⟩
 unfold refF
 rw [hf]
 simp [h1]
/-! ### The table of values,by paths -/
def endG (x:Sch) (w:Wd) (k:Nat) (G:Value→Option D):Prop:=∀ key d,G key=some d→∃ p,au5 p=true∧key = .string (aH2 p)∧d=slI (endL x w k p)
theorem bQ2 {x:Sch} {w:Wd} {k:Nat} {G:Value→Option D} (h:endG x w k G) {p:List ByteArray} (hp:au5 p=true) {d:D} (hd:G (.string (aH2 p))=some d):d=slI (endL x w k p):=by
 obtain ⟨q,h1,h2,h3⟩:=h _ _ hd
 rw [h3,bO5 hp h1 (by simpa using h2)]
theorem bQ1 {x:Sch} {w:Wd} {k:Nat} {G:Value→Option D} (h:endG x w k G) {p:List ByteArray} (hp:au5 p=true):endG x w k (updG G (.string (aH2 p)) (slI (endL x w k p))):=by
 intro key d hd
 unfold updG at hd
 split at hd
 ·rename_i e
  cases hd
  exact ⟨p,hp,e,rfl⟩
 ·exact h _ _ hd
def tbC (x:Sch) (w:Wd) (k bm:Nat):List D:=[iD x.version,slK x.kinds,slL x.lives,slR x.rules,slW w,iD k,.v (.map (some bm))]
theorem bu4 (w:World):(zeroValue 22).run Tryz.prog w = .ok (.slice none 0 0) w:=by kernel_rfl
theorem bU4 {w:World} {O:Nat→Prop}:Rd w O (slI []) (.slice none 0 0):=af6 1 w O _ (.v _)
theorem aQ3 {p:List ByteArray} (h:au5 p=true):p≠[]∧p.length≤4∧∀ s∈p,s.size≤12:=by
 unfold au5 at h
 simp only [Bool.and_eq_true,decide_eq_true_eq,List.all_eq_true] at h
 refine ⟨fun e=>by rw [e] at h;simp at h,h.1.2,fun s hs=>?_⟩
 have:=h.2 s hs
 simp only [isNm,aa7,Bool.and_eq_true,decide_eq_true_eq] at this
 omega
theorem bs7 {p:List ByteArray} (h:au5 p=true):(aH2 p).size≤2000000:=by
 obtain ⟨_,h1,h2⟩:=aQ3 h
 have:=bo1 p (by omega) fun s hs=>by have:=h2 s hs;omega
 exact this
theorem sk92 {A B:Prop} (k:B) (h:Hd7 B→A:=by intro hk7q;(first|refine sb0 ?_|refine sb1 ?_|((with_reducible refine' Cp.by ?hc ?_);(case hc=>first|exact aT6 _ hne (by omega) (fun s hs=>by have:=hsz s hs;omega)|exact ad3 _ _ (by omega)|exact aw7 _ _ _ (by omega) hnf))|((with_reducible refine' CE.pure ?hc ?_);(case hc=>first|exact aT6 _ hne (by omega) (fun s hs=>by have:=hsz s hs;omega)|exact ad3 _ _ (by omega)|exact aw7 _ _ _ (by omega) hnf)));exact hk7q.run):A:=h ⟨k⟩
theorem sk93 {A B:Prop} (k:B) (h:Hd7 B→A:=by intro hk7q;(first|refine sb0 ?_|refine sb41 ?_|((with_reducible refine' Cp.by ?hc ?_);(case hc=>first|exact aT6 _ hne (by omega) (fun s hs=>by have:=hsz s hs;omega)|exact ad3 _ _ (by omega)|exact aw7 _ _ _ (by omega) hnf))|((with_reducible refine' CE.pure ?hc ?_);(case hc=>first|exact aT6 _ hne (by omega) (fun s hs=>by have:=hsz s hs;omega)|exact ad3 _ _ (by omega)|exact aw7 _ _ _ (by omega) hnf)));exact hk7q.run):A:=h ⟨k⟩
theorem sb94 {A B:Prop} (k:B) (h:Hd7 B→A:=by intro hk7q;(first|fail|(with_reducible refine Bx.l ?_)|((with_reducible refine Dr.l ?h ?_);(case h=>decide +kernel))|(with_reducible refine Dr.r ?_)|((with_reducible refine Dm.l ?h ?_);(case h=>decide +kernel))|((with_reducible refine Cb.go ?h ?_);(case h=>decide +kernel)));exact hk7q.run):A:=h ⟨k⟩
theorem sk95 {A B:Prop} (k:B) (h:Hd7 B→A:=by intro hk7q;(first|refine sb0 ?_|refine sb94 ?_|((with_reducible refine' Cp.by ?hc ?_);(case hc=>first|exact HF|exact HU))|((with_reducible refine' CE.pure ?hc ?_);(case hc=>first|exact HF|exact HU)));exact hk7q.run):A:=h ⟨k⟩
theorem cl15 {p:Prop} (h:p:=by repeat (first|exact Chk.nil|refine Chk.cons rfl ?_|(refine Chk.cons (congrArg (fun n=>some (iD n)) ?h) ?_;(case h=>(first|omega|(simp only [List.length_map];done)|((try simp only [List.length_map,List.length_take,List.length_append,List.length_cons,List.length_nil,List.length_replicate,Nat.reduceAdd]);omega)))))):p:=h
theorem aY7 (x:Sch) (w:Wd) (hw:Ws w) (hp:ah6 x=[]) (hfit:fitW x w=true) (k:Nat) (hk:k<x.kinds.length) (p:List ByteArray) (hpb:au5 p=true) (hld:ai4 x k p=true) (bm:Nat) (G:Value→Option D) (hG:endG x w k G) :
  ACall Tryz.prog 63 [.ro (tbC x w k bm),slS p] [(bm,Blk.mp Tryz.prog 9 G)] (fun d σ'=>∃ G',d=slI (endL x w k p)∧σ'=[(bm,.mp Tryz.prog 9 G')]∧endG x w k G'):=by
 obtain ⟨hne,hpl,hsz⟩:=aQ3 hpb
 have hjs:=bs7 hpb
 have hV:=(aF0 hp).vld
 have hnk:=hV.nk
 have hnf:∀ k∈x.kinds,k.fields.length≤1000000:=fun k hk=>by have:=hV.nf k hk;omega
 have hwl:=hw.nk
 obtain ⟨hlen,hrows,hrefs⟩:=ak8 hfit
 have hway:=bj7 x w p k hk hld
 have hwn:=aS4 x k p
 refine eC7 Tryz.func63 Tryz.ntmps63 fun BB=>?_
 repeat' first|refine sk92 ?_|(intro b;conv=>whnf)
 cases hget:G (.string (aH2 p)) with
 | some d=>
  obtain rfl:=bQ2 hG hpb hget
  (refine OtE.yd rfl (aE8 (kv:=.string (aH2 p)) (z:=.slice none 0 0) (zd:=slI []) (slI (if true=true then endL x w k p else [])) true rfl rfl (KeyD.v _) List.mem_cons_self (string_keyed Tryz.underlying9) Tryz.underlying127 bu4 (fun _ _=>bU4) (Go.WideMaps.keyOf_string_mk Tryz.underlying9 (by unfold maxLen;omega)) (by rw [hget];rfl) (by rw [hget];rfl)) ?_)
  repeat' first|refine sk92 ?_|(intro b;conv=>whnf)
  exact Rt.same ⟨G,rfl,rfl,hG⟩
 | none=>
  (refine OtE.yd rfl (aE8 (kv:=.string (aH2 p)) (z:=.slice none 0 0) (zd:=slI []) (slI (if false=true then endL x w k p else [])) false rfl rfl (KeyD.v _) List.mem_cons_self (string_keyed Tryz.underlying9) Tryz.underlying127 bu4 (fun _ _=>bU4) (Go.WideMaps.keyOf_string_mk Tryz.underlying9 (by unfold maxLen;omega)) (by rw [hget];rfl) (by rw [hget];rfl)) ?_)
  repeat' first|refine sk93 ?_|(intro b;conv=>whnf)
  refine Bx.r ?_
  refine OtE.bsl aa0 rfl rfl rfl rfl rfl rfl rfl rfl rfl rfl (by decide) (fun b0=>?_)
  repeat' first|refine sk92 ?_|(intro b;conv=>whnf)
  refine aa5 mixed aa0 (γ:=Nat × Int × Value × aa1 × Value × aa1) (fun g=>[(8,.v g.2.2.1),(9,.v g.2.2.2.2.1),(41,iD g.1)]) (fun g=>g.2.2.2.1 ++ (g.2.2.2.2.2 ++ [(bm,Blk.mp Tryz.prog 9 G)])) (fun g=>g.1≤p.length∧RowR 3 iD (kdsW (wayE x k p) g.1 ++ [g.2.1]) g.2.2.1 g.2.2.2.1∧RowR 3 iD (fldW (wayE x k p) g.1) g.2.2.2.2.1 g.2.2.2.2.2∧(∀ q,(wayE x k p)[g.1]?=some q→g.2.1=(q.1:Int))) (fun g=>p.length - g.1) (0,(k:Int),.slice (some ⟨b0,0,none⟩) 1 1,[(b0,.cells 3 [iD k])],.slice (some ⟨b,0,none⟩) 0 0,[]) (aa2 cl3) (Sc.refl _) ⟨Nat.zero_le _,aD9 (xs:=[[iD k]]) b0 (by simp) (by unfold maxLen;simp),RowIs.e0 _ _ _,fun q h=>?_⟩ ?_
  ·cases p with
   | nil=>exact absurd rfl hne
   | cons s p=>simp [wayE] at h;rw [← h]
  rintro ⟨i,u,v8,s8,v9,s9⟩ ⟨hi,h8,h9,hu⟩
  simp only at hi h8 h9 hu ⊢
  have hkl:=bO3 (wayE x k p) (j:=i) (by omega)
  have hfl:=bP0 (wayE x k p) (j:=i) (by omega)
  by_cases hil:i<p.length
  ·obtain ⟨q,f,nm,g,H⟩:=hway i hil
   obtain rfl:=hu _ H.way
   have hkd:=H.kind
   have hkd':x.kinds[((q:Nat):Int).toNat]?=some (kdOf x q):=hkd
   have hkf:=hnf _ (List.mem_of_getElem? hkd)
   have hnm:=H.name
   have hnm':p[((i:Nat):Int).toNat]?=some nm:=hnm
   have HF:=ad3 (kdOf x q) nm (by omega)
   rw [H.ix] at HF
   have HU:=aw7 x q f (by omega) hnf
   have hks:=bD0 H.way
   have hfs:=bE5 H.way
   generalize kdOf x q=kd at *
   obtain ⟨b8,cap8,cs8,e8,rfl,hc8,_⟩:=am4 h8 (i:=i) (b:=(q:Int)) (by rw [List.getElem?_append_right (by omega),hkl,Nat.sub_self];rfl)
   subst e8
   repeat' first|refine sk55 ?_|(intro b;conv=>whnf)
   refine Ld.cellm (tb:=3) (cs:=cs8) (by simp) (by rw [ix1];exact hc8) ?_
   repeat' first|refine sk55 ?_|(intro b;conv=>whnf)
   refine Ap.go rfl rfl rfl rfl h9 (τ:=[(b8,.cells 3 cs8),(bm,Blk.mp Tryz.prog 9 G)]) cl13 rfl (zs:=(fldW (wayE x k p) (i+1)).map fun b=>[iD b]) (by rw [hfs,List.map_append];rfl) (by rw [hfs];simp;omega) (by rw [hfs];simp;omega) (fun s'=>s' ++ [(b8,.cells 3 cs8),(bm,Blk.mp Tryz.prog 9 G)]) (fun s'=>List.Perm.refl _) (fun a9 c9 s9' h9'=>?_)
   repeat' first|refine sk55 ?_|(intro b;conv=>whnf)
   refine Ap.go rfl rfl rfl rfl h8 (τ:=s9' ++ [(bm,Blk.mp Tryz.prog 9 G)]) cl13 rfl (zs:=(kdsW (wayE x k p) (i+1) ++ [upIx x q f]).map fun b=>[iD b]) (by rw [hks];simp) (by rw [hks];simp;omega) (by rw [hks];simp;omega) (fun s'=>s' ++ (s9' ++ [(bm,Blk.mp Tryz.prog 9 G)])) (fun s'=>List.Perm.refl _) (fun a8 c8 s8' h8'=>?_)
   repeat' first|refine sk55 ?_|(intro b;conv=>whnf)
   refine ⟨(i+1,upIx x q f,_,s8',_,s9'),(aa2 cl3),Sc.refl _,⟨by simp only;omega,h8',h9',fun r hr=>?_⟩,by simp only;omega⟩
   simp only at hr ⊢
   have hlt:=(List.getElem?_eq_some_iff.1 hr).1
   obtain ⟨u,f',h1,_,h3,_⟩:=H.next (by omega)
   cases h1.symm.trans hr
   exact h3
  ·obtain rfl:i=p.length:=by omega
   rw [bO4 hwn] at h8
   rw [bP1 hwn] at h9
   repeat' first|refine sk55 ?_|(intro b;conv=>whnf)
   refine af2 (i:=8) (d:=.v v8) (d':=slI ((wayE x k p).map (fun q=>(q.1:Int)) ++ [u])) (τ:=s9 ++ [(bm,Blk.mp Tryz.prog 9 G)]) rfl (fun h=>by cases h) (Vs.row h8 (List.Perm.refl _)) ?_
   refine af2 (i:=9) (d:=.v v9) (d':=slI ((wayE x k p).map fun q=>(q.2:Int))) (τ:=[(bm,Blk.mp Tryz.prog 9 G)]) rfl (fun h=>by cases h) (Vs.row h9 (List.Perm.refl _)) ?_
   clear h8 h9 hu hkl hfl
   refine aa5 mixed aa0 (γ:=Nat × Value × aa1) (fun g=>[(14,.v g.2.1),(15,iD ((g.1:Int) - 1))]) (fun g=>g.2.2 ++ [(bm,Blk.mp Tryz.prog 9 G)]) (fun g=>g.1≤p.length∧RowR 3 iD (sufV x w k p g.1) g.2.1 g.2.2) (fun g=>g.1) (p.length,.slice none 0 0,[]) (aa2 cl15) (Sc.refl _) ⟨Nat.le_refl _,by rw [bJ3];exact RowIs.nil _ _⟩ ?_
   rintro ⟨j,v,s⟩ ⟨hj,hrow⟩
   simp only at hj hrow ⊢
   rcases j with _|i
   ·rw [bw9 x w k p hne] at hrow
    repeat' first|refine sk95 ?_|(intro b;conv=>whnf)
    refine Bc.j ?_
    refine af2 (i:=14) (d:=.v v) (d':=slI (endL x w k p)) (τ:=[(bm,Blk.mp Tryz.prog 9 G)]) rfl (fun h=>by cases h) (Vs.row hrow (List.Perm.refl _)) ?_
    refine ao2 mixed aa0 ?_
    repeat' first|refine sk55 ?_|(intro b;conv=>whnf)
    refine OtE.mapUpdateM (d:=slI (endL x w k p)) (b:=bm) (k:=9) (e:=22) (kv:=.string (aH2 p)) (τ:=[]) rfl rfl (KeyD.v _) rfl (List.Perm.refl _) (string_keyed Tryz.underlying9) Tryz.underlying127 (Go.WideMaps.keyOf_string_mk Tryz.underlying9 (by unfold maxLen;omega)) ?_
    repeat' first|refine sk55 ?_|(intro b;conv=>whnf)
    exact Rt.same ⟨_,rfl,rfl,bQ1 hG hpb⟩
   ·obtain ⟨q,f,nm,g,H⟩:=hway i (by omega)
    rw [show (((i+1:Nat):Int) - 1)=(i:Int) by omega]
    have hK:((wayE x k p).map (fun q=>(q.1:Int)) ++ [u])[((i:Nat):Int).toNat]?=some (q:Int):=by
     rw [Int.toNat_natCast,List.getElem?_append_left (by rw [List.length_map];omega),List.getElem?_map,H.way];rfl
    have hF:((wayE x k p).map fun q=>(q.2:Int))[((i:Nat):Int).toNat]?=some (f:Int):=by
     rw [Int.toNat_natCast,List.getElem?_map,H.way];rfl
    have hql:=(List.getElem?_eq_some_iff.1 H.kind).1
    obtain ⟨l,hl⟩:∃ l,w[q]?=some l:=⟨_,List.getElem?_eq_getElem (by omega)⟩
    have hl':w[((q:Nat):Int).toNat]?=some l:=hl
    have hll:=hw.nr l (List.mem_of_getElem? hl)
    have hrr:=ak5 (hrows _ _ hl)
    have hsuf:sufV x w k p i=l.map fun r=>endV x w q r (p.drop i):=by unfold sufV;rw [H.way];show List.map _ (w.getD q [])=_;rw [aa6 hl]
    repeat' first|refine sk55 ?_|(intro b;conv=>whnf)
    refine aa5 mixed aa0 (γ:=Nat × Value × aa1) (fun g=>[(16,.v g.2.1),(93,iD g.1)]) (fun g=>g.2.2 ++ (s ++ [(bm,Blk.mp Tryz.prog 9 G)])) (fun g=>g.1≤l.length∧RowR 3 iD ((l.take g.1).map fun r=>endV x w q r (p.drop i)) g.2.1 g.2.2) (fun g=>l.length - g.1) (0,.slice none 0 0,[]) (aa2 cl3) (Sc.refl _) ⟨Nat.zero_le _,RowIs.nil _ _⟩ ?_
    rintro ⟨n,v2,s2⟩ ⟨hn,h2⟩
    simp only at hn h2 ⊢
    by_cases hnl:n<l.length
    ·obtain ⟨r,hr⟩:∃ r,l[n]?=some r:=⟨_,List.getElem?_eq_getElem hnl⟩
     have hr':l[((n:Nat):Int).toNat]?=some r:=hr
     have hrm:=List.mem_of_getElem? hr
     have hrl:=(ao0 H.kind (hrr.2 r hrm)).1
     have hfl:=(List.getElem?_eq_some_iff.1 H.fld).1
     have hkfl:=hnf _ (List.mem_of_getElem? H.kind)
     obtain ⟨z,hz⟩:∃ z,r[f]?=some z:=⟨_,List.getElem?_eq_getElem (by omega)⟩
     have hz':r[((f:Nat):Int).toNat]?=some z:=hz
     have hrd:=aa6 hz 0
     have hval:=H.val r
     rw [hrd] at hval
     have htk:(l.take (n+1)).map (fun r=>endV x w q r (p.drop i))=(l.take n).map (fun r=>endV x w q r (p.drop i)) ++ [endV x w q r (p.drop i)]:=by rw [ac7 hr,List.map_append];rfl
     by_cases hlast:i+1<p.length
     ·obtain ⟨u2,f2,e1,e2,e3,e4⟩:=H.next hlast
      obtain ⟨lu,hlu⟩:∃ l,w[u2]?=some l:=⟨_,List.getElem?_eq_getElem (by omega)⟩
      have hrf:(⟨q,f,upIx x q f,g.lo⟩:Rf)∈aa4 x:=by3 H.kind H.fld e2
      have hok:=hrefs _ hrf l hl r hrm
      unfold refOk at hok
      simp only [e3,Int.toNat_natCast] at hok
      rw [aa6 hlu,hrd] at hok
      simp only [Bool.not_eq_true',Bool.or_eq_false_iff,decide_eq_false_iff_not] at hok
      obtain ⟨zn,rfl⟩:∃ zn:Nat,z=zn:=⟨z.toNat,by omega⟩
      obtain ⟨r2,hr2⟩:∃ r2,lu[zn]?=some r2:=⟨_,List.getElem?_eq_getElem (by omega)⟩
      have hrec:aK9 w u2 zn=r2:=by unfold aK9;rw [aa6 hlu,aa6 hr2]
      rw [e1] at hval
      simp only [Int.toNat_natCast] at hval
      rw [hrec] at hval
      have hsu:sufV x w k p (i+1)=lu.map fun r=>endV x w u2 r (p.drop (i+1)):=by unfold sufV;rw [e1];show List.map _ (w.getD u2 [])=_;rw [aa6 hlu]
      rw [hsu] at hrow
      rw [hval] at htk
      obtain ⟨b4,cap4,cs4,e8,rfl,hc4,_⟩:=am4 hrow (i:=zn) (b:=endV x w u2 r2 (p.drop (i+1))) (by rw [List.getElem?_map,hr2];rfl)
      subst e8
      rw [List.length_map] at *
      generalize endV x w u2 r2 (p.drop (i+1))=e at *
      repeat' first|refine sk55 ?_|(intro b;conv=>whnf)
      refine Ld.cellm (tb:=3) (cs:=cs4) (by simp) (by rw [ix1];exact hc4) ?_
      repeat' first|refine sk55 ?_|(intro b;conv=>whnf)
      refine Ap.go rfl rfl rfl rfl h2 (τ:=[(b4,.cells 3 cs4)] ++ [(bm,Blk.mp Tryz.prog 9 G)]) (List.Perm.refl _) rfl (zs:=((l.take (n+1)).map fun r=>endV x w q r (p.drop i)).map fun b=>[iD b]) (by rw [htk];simp) (by rw [htk];simp;omega) (by rw [htk];simp;omega) (fun s'=>s' ++ ([(b4,.cells 3 cs4)] ++ [(bm,Blk.mp Tryz.prog 9 G)])) (fun s'=>List.Perm.refl _) (fun a3 c3 s3 h3=>?_)
      repeat' first|refine sk55 ?_|(intro b;conv=>whnf)
      exact ⟨(n+1,_,s3),(aa2 cl3),Sc.refl _,⟨by simp only;omega,h3⟩,by simp only;omega⟩
     ·have e1:(wayE x k p)[i+1]?=none:=List.getElem?_eq_none_iff.2 (by omega)
      rw [e1] at hval
      simp only at hval
      rw [hval] at htk
      repeat' first|refine sk55 ?_|(intro b;conv=>whnf)
      refine Ap.go rfl rfl rfl rfl h2 (τ:=s ++ [(bm,Blk.mp Tryz.prog 9 G)]) (List.Perm.refl _) rfl (zs:=((l.take (n+1)).map fun r=>endV x w q r (p.drop i)).map fun b=>[iD b]) (by rw [htk];simp) (by rw [htk];simp;omega) (by rw [htk];simp;omega) (fun s'=>s' ++ (s ++ [(bm,Blk.mp Tryz.prog 9 G)])) (fun s'=>List.Perm.refl _) (fun a3 c3 s3 h3=>?_)
      repeat' first|refine sk55 ?_|(intro b;conv=>whnf)
      exact ⟨(n+1,_,s3),(aa2 cl3),Sc.refl _,⟨by simp only;omega,h3⟩,by simp only;omega⟩
    ·obtain rfl:n=l.length:=by omega
     rw [List.take_length,← hsuf] at h2
     repeat' first|refine sk55 ?_|(intro b;conv=>whnf)
     exact ⟨(i,v2,s2),(aa2 cl15),Sc.drop (ρ:=s) cl13,⟨by simp only;omega,h2⟩,by simp only;omega⟩
end
section
open Go Go.Maps Go.MapKept
theorem ct2 (a b:List Int) (c:Cnd) (i:Nat) (u v:Int) (ha:a[i]?=some u) (hb:b[i]?=some v) (hn:InR (v+c.n)):APure Tryz.prog 111 [iD i,.ro [slI a],.ro [slI b],.ro (cndC c)] (bD (decide (u=v+c.n))):=by
 have hi1:=(List.getElem?_eq_some_iff.1 ha).1
 have hi2:=(List.getElem?_eq_some_iff.1 hb).1
 have ha':a[((i:Nat):Int).toNat]?=some u:=ha
 have hb':b[((i:Nat):Int).toNat]?=some v:=hb
 refine eP7 Tryz.func111 Tryz.ntmps111 fun BB=>?_
 repeat' first|refine sk2 ?_|(intro b;conv=>whnf)
 refine Rt.pure (congrArg bD ?_);rfl
theorem bo4 (a b:List Int) (c:Cnd) (i:Nat) (u v:Int) (ha:a[i]?=some u) (hb:b[i]?=some v) (hn:InR (v+c.n)):APure Tryz.prog 112 [iD i,.ro [slI a],.ro [slI b],.ro (cndC c)] (bD (decide (u<v+c.n))):=by
 have hi1:=(List.getElem?_eq_some_iff.1 ha).1
 have hi2:=(List.getElem?_eq_some_iff.1 hb).1
 have ha':a[((i:Nat):Int).toNat]?=some u:=ha
 have hb':b[((i:Nat):Int).toNat]?=some v:=hb
 refine eP7 Tryz.func112 Tryz.ntmps112 fun BB=>?_
 repeat' first|refine sk2 ?_|(intro b;conv=>whnf)
 refine Rt.pure (congrArg bD ?_);rfl
theorem ct0 (a:List Bool) (s:Sb) (i:Nat) (u:Bool) (hs:s[0]?=some a) (ha:a[i]?=some u):APure Tryz.prog 113 [iD i,.ro [slS2 s]] (bD (!u)):=by
 have hs':s[(0:Int).toNat]?=some a:=hs
 have ha':a[((i:Nat):Int).toNat]?=some u:=ha
 refine eP7 Tryz.func113 Tryz.ntmps113 fun BB=>?_
 repeat' first|refine sk2 ?_|(intro b;conv=>whnf)
 refine Rt.pure (congrArg bD ?_);rfl
theorem ct3 (a b:List Bool) (s:Sb) (i:Nat) (u v:Bool) (hs:s[0]?=some a) (hs1:s[1]?=some b) (ha:a[i]?=some u) (hb:b[i]?=some v):APure Tryz.prog 114 [iD i,.ro [slS2 s]] (bD (u && v)):=by
 have hs':s[(0:Int).toNat]?=some a:=hs
 have hs1':s[(1:Int).toNat]?=some b:=hs1
 have ha':a[((i:Nat):Int).toNat]?=some u:=ha
 have hb':b[((i:Nat):Int).toNat]?=some v:=hb
 refine eP7 Tryz.func114 Tryz.ntmps114 fun BB=>?_
 cases u
 ·repeat' first|refine sk2 ?_|(intro b;conv=>whnf)
  refine Rt.pure (congrArg bD ?_);rfl
 ·repeat' first|refine sk2 ?_|(intro b;conv=>whnf)
  refine Rt.pure (congrArg bD ?_);simp
theorem cx1 (a b:List Bool) (s:Sb) (i:Nat) (u v:Bool) (hs:s[0]?=some a) (hs1:s[1]?=some b) (ha:a[i]?=some u) (hb:b[i]?=some v):APure Tryz.prog 115 [iD i,.ro [slS2 s]] (bD (u || v)):=by
 have hs':s[(0:Int).toNat]?=some a:=hs
 have hs1':s[(1:Int).toNat]?=some b:=hs1
 have ha':a[((i:Nat):Int).toNat]?=some u:=ha
 have hb':b[((i:Nat):Int).toNat]?=some v:=hb
 refine eP7 Tryz.func115 Tryz.ntmps115 fun BB=>?_
 cases u
 ·repeat' first|refine sk2 ?_|(intro b;conv=>whnf)
  refine Rt.pure (congrArg bD ?_);simp
 ·repeat' first|refine sk2 ?_|(intro b;conv=>whnf)
  refine Rt.pure (congrArg bD ?_);rfl
theorem ct4 (i:Nat):APure Tryz.prog 116 [iD i] (bD true):=by
 refine eP7 Tryz.func116 Tryz.ntmps116 fun BB=>?_
 repeat' first|refine sk2 ?_|(intro b;conv=>whnf)
 refine Rt.pure (congrArg bD ?_);rfl
/-! ### set -/
def setE (n:Nat) (p:Nat→Bool) (j:Nat):List Bool:=(List.range j).map p ++ List.replicate (n - j) false
theorem aK2 (n:Nat) (p:Nat→Bool):setE n p 0=List.replicate n false:=by simp [setE]
theorem aK3 (n:Nat) (p:Nat→Bool):setE n p n=(List.range n).map p:=by simp [setE]
theorem aT8 {n j:Nat} (p:Nat→Bool) (h:j<n):(setE n p j)[j]?=some false:=by
 unfold setE
 rw [List.getElem?_append_right (by simp),List.length_map,List.length_range,Nat.sub_self,List.getElem?_replicate,if_pos (by omega)]
theorem aT7 {n j:Nat} (p:Nat→Bool) (h:j<n):(setE n p j).set j (p j)=setE n p (j+1):=by
 unfold setE
 rw [List.range_succ,List.map_append,List.append_assoc,List.set_append_right _ _ (by simp)]
 congr 1
 rw [List.length_map,List.length_range,Nat.sub_self,show n - j=n - (j+1)+1 by omega,List.replicate_succ]
 rfl
theorem sk96 {A B:Prop} (k:B) (h:Hd7 B→A:=by intro hk7q;(first|refine sb0 ?_|refine sb1 ?_|((with_reducible refine' Cp.by ?hc ?_);(case hc=>exact HP))|((with_reducible refine' CE.pure ?hc ?_);(case hc=>exact HP)));exact hk7q.run):A:=h ⟨k⟩
theorem bf5 {f:FuncId} {c1:List D} (n:Nat) (hn:n≤1000000) (p:Nat→Bool) (hp:∀ i,i<n→APure Tryz.prog f [iD i,.ro c1] (bD (p i))) (b5:Nat) (v:Value) (s:aa1) (hr:RowR 4 bD (List.replicate n false) v s) :
  ACall Tryz.prog 110 [.clo f [.ro c1],.v (.pointer (some ⟨b5,0,none⟩))] ((b5,.cells 130 [.v v]) :: s) (fun d σ'=>∃ v' s',d = .v v'∧σ'=(b5,.cells 130 [.v v']) :: s'∧RowR 4 bD ((List.range n).map p) v' s'):=by
 obtain ⟨a,cap,rfl⟩:=RowIs.slice hr
 refine eC7 Tryz.func110 Tryz.ntmps110 fun BB=>?_
 repeat' first|refine sk96 ?_|(intro b;conv=>whnf)
 refine aa5 mixed aa0 (γ:=Nat × aa1) (fun g=>[(7,iD g.1)]) (fun g=>(b5,.cells 130 [.v (.slice a ((List.replicate n false).map fun b=>[bD b]).length cap)]) :: g.2) (fun g=>g.1≤n∧RowR 4 bD (setE n p g.1) (.slice a ((List.replicate n false).map fun b=>[bD b]).length cap) g.2) (fun g=>n - g.1) (0,s) (aa2 cl3) (Sc.refl _) ⟨Nat.zero_le _,by rw [aK2];exact hr⟩ ?_
 rintro ⟨j,s⟩ ⟨hj,h⟩
 simp only at hj h ⊢
 rw [List.length_map,List.length_replicate] at *
 by_cases hjn:j<n
 ·have HP:=hp j hjn
  have hset:=aT7 p hjn
  obtain ⟨b6,cap6,cs6,e6,rfl,hc6,hw6⟩:=am4 h (aT8 p hjn)
  obtain ⟨rfl,_,rfl⟩:=Value.slice.inj e6
  clear e6
  have hw:=hw6 (p j)
  rw [hset] at hw
  repeat' first|refine sk96 ?_|(intro b;conv=>whnf)
  refine Sv.cellm (tb:=4) (cs:=cs6) (cs':=cs6.set j (bD (p j))) (τ:=[(b5,.cells 130 [.v (.slice (some ⟨b6,0,none⟩) n cap)])]) (List.Perm.swap _ _ _) (by rw [ix1];exact (List.getElem?_eq_some_iff.1 hc6).1) rfl (by rw [ix1]) ?_
  repeat' first|refine sk96 ?_|(intro b;conv=>whnf)
  exact ⟨(j+1,[(b6,.cells 4 (cs6.set j (bD (p j))))]),(aa2 cl3),Sc.perm (List.Perm.swap _ _ _),⟨by simp only;omega,hw⟩,by simp only;omega⟩
 ·obtain rfl:j=n:=by omega
  rw [aK3] at h
  repeat' first|refine sk96 ?_|(intro b;conv=>whnf)
  exact Rt.same ⟨_,_,rfl,rfl,h⟩
theorem aT1 {f:FuncId} {c1 c2 c3:List D} (n:Nat) (hn:n≤1000000) (p:Nat→Bool) (hp:∀ i,i<n→APure Tryz.prog f [iD i,.ro c1,.ro c2,.ro c3] (bD (p i))) (b5:Nat) (v:Value) (s:aa1) (hr:RowR 4 bD (List.replicate n false) v s) :
  ACall Tryz.prog 110 [.clo f [.ro c1,.ro c2,.ro c3],.v (.pointer (some ⟨b5,0,none⟩))] ((b5,.cells 130 [.v v]) :: s) (fun d σ'=>∃ v' s',d = .v v'∧σ'=(b5,.cells 130 [.v v']) :: s'∧RowR 4 bD ((List.range n).map p) v' s'):=by
 obtain ⟨a,cap,rfl⟩:=RowIs.slice hr
 refine eC7 Tryz.func110 Tryz.ntmps110 fun BB=>?_
 repeat' first|refine sk96 ?_|(intro b;conv=>whnf)
 refine aa5 mixed aa0 (γ:=Nat × aa1) (fun g=>[(7,iD g.1)]) (fun g=>(b5,.cells 130 [.v (.slice a ((List.replicate n false).map fun b=>[bD b]).length cap)]) :: g.2) (fun g=>g.1≤n∧RowR 4 bD (setE n p g.1) (.slice a ((List.replicate n false).map fun b=>[bD b]).length cap) g.2) (fun g=>n - g.1) (0,s) (aa2 cl3) (Sc.refl _) ⟨Nat.zero_le _,by rw [aK2];exact hr⟩ ?_
 rintro ⟨j,s⟩ ⟨hj,h⟩
 simp only at hj h ⊢
 rw [List.length_map,List.length_replicate] at *
 by_cases hjn:j<n
 ·have HP:=hp j hjn
  have hset:=aT7 p hjn
  obtain ⟨b6,cap6,cs6,e6,rfl,hc6,hw6⟩:=am4 h (aT8 p hjn)
  obtain ⟨rfl,_,rfl⟩:=Value.slice.inj e6
  clear e6
  have hw:=hw6 (p j)
  rw [hset] at hw
  repeat' first|refine sk96 ?_|(intro b;conv=>whnf)
  refine Sv.cellm (tb:=4) (cs:=cs6) (cs':=cs6.set j (bD (p j))) (τ:=[(b5,.cells 130 [.v (.slice (some ⟨b6,0,none⟩) n cap)])]) (List.Perm.swap _ _ _) (by rw [ix1];exact (List.getElem?_eq_some_iff.1 hc6).1) rfl (by rw [ix1]) ?_
  repeat' first|refine sk96 ?_|(intro b;conv=>whnf)
  exact ⟨(j+1,[(b6,.cells 4 (cs6.set j (bD (p j))))]),(aa2 cl3),Sc.perm (List.Perm.swap _ _ _),⟨by simp only;omega,hw⟩,by simp only;omega⟩
 ·obtain rfl:j=n:=by omega
  rw [aK3] at h
  repeat' first|refine sk96 ?_|(intro b;conv=>whnf)
  exact Rt.same ⟨_,_,rfl,rfl,h⟩
theorem bZ1 {f:FuncId} (n:Nat) (hn:n≤1000000) (p:Nat→Bool) (hp:∀ i,i<n→APure Tryz.prog f [iD i] (bD (p i))) (b5:Nat) (v:Value) (s:aa1) (hr:RowR 4 bD (List.replicate n false) v s) :
  ACall Tryz.prog 110 [.v (.func (.func f) #[] #[]),.v (.pointer (some ⟨b5,0,none⟩))] ((b5,.cells 130 [.v v]) :: s) (fun d σ'=>∃ v' s',d = .v v'∧σ'=(b5,.cells 130 [.v v']) :: s'∧RowR 4 bD ((List.range n).map p) v' s'):=by
 obtain ⟨a,cap,rfl⟩:=RowIs.slice hr
 refine eC7 Tryz.func110 Tryz.ntmps110 fun BB=>?_
 repeat' first|refine sk96 ?_|(intro b;conv=>whnf)
 refine aa5 mixed aa0 (γ:=Nat × aa1) (fun g=>[(7,iD g.1)]) (fun g=>(b5,.cells 130 [.v (.slice a ((List.replicate n false).map fun b=>[bD b]).length cap)]) :: g.2) (fun g=>g.1≤n∧RowR 4 bD (setE n p g.1) (.slice a ((List.replicate n false).map fun b=>[bD b]).length cap) g.2) (fun g=>n - g.1) (0,s) (aa2 cl3) (Sc.refl _) ⟨Nat.zero_le _,by rw [aK2];exact hr⟩ ?_
 rintro ⟨j,s⟩ ⟨hj,h⟩
 simp only at hj h ⊢
 rw [List.length_map,List.length_replicate] at *
 by_cases hjn:j<n
 ·have HP:=hp j hjn
  have hset:=aT7 p hjn
  obtain ⟨b6,cap6,cs6,e6,rfl,hc6,hw6⟩:=am4 h (aT8 p hjn)
  obtain ⟨rfl,_,rfl⟩:=Value.slice.inj e6
  clear e6
  have hw:=hw6 (p j)
  rw [hset] at hw
  repeat' first|refine sk96 ?_|(intro b;conv=>whnf)
  refine Sv.cellm (tb:=4) (cs:=cs6) (cs':=cs6.set j (bD (p j))) (τ:=[(b5,.cells 130 [.v (.slice (some ⟨b6,0,none⟩) n cap)])]) (List.Perm.swap _ _ _) (by rw [ix1];exact (List.getElem?_eq_some_iff.1 hc6).1) rfl (by rw [ix1]) ?_
  repeat' first|refine sk96 ?_|(intro b;conv=>whnf)
  exact ⟨(j+1,[(b6,.cells 4 (cs6.set j (bD (p j))))]),(aa2 cl3),Sc.perm (List.Perm.swap _ _ _),⟨by simp only;omega,hw⟩,by simp only;omega⟩
 ·obtain rfl:j=n:=by omega
  rw [aK3] at h
  repeat' first|refine sk96 ?_|(intro b;conv=>whnf)
  exact Rt.same ⟨_,_,rfl,rfl,h⟩
end
section
open Go Go.Maps Go.MapKept
def ao4 (x:Sch) (w:Wd) (k:Nat) (c:Cnd):List Bool:=(w.getD k []).map fun r=>holdV x w k r c
theorem av8 {x:Sch} {w:Wd} {k:Nat} {l:List (List Int)} (h:w[k]?=some l) (c:Cnd):ao4 x w k c=(List.range l.length).map fun i=>holdV x w k (l.getD i []) c:=by
 unfold ao4
 rw [aa6 h]
 refine List.ext_getElem? fun i=>?_
 rw [List.getElem?_map,List.getElem?_map]
 by_cases hi:i<l.length
 ·rw [List.getElem?_range hi,List.getElem?_eq_getElem hi]
  simp [List.getD_eq_getElem?_getD,List.getElem?_eq_getElem hi]
 ·rw [List.getElem?_eq_none_iff.2 (by omega),List.getElem?_eq_none_iff.2 (by simp;omega)];rfl
theorem aE4 {x:Sch} {w:Wd} {k:Nat} {l:List (List Int)} (h:w[k]?=some l) (p:List ByteArray) {i:Nat} (hi:i<l.length):(endL x w k p)[i]?=some (endV x w k (l.getD i []) p):=by
 unfold endL
 rw [aa6 h,List.getElem?_map,List.getElem?_eq_getElem hi]
 simp [List.getD_eq_getElem?_getD,List.getElem?_eq_getElem hi]
theorem aX0 {x:Sch} {w:Wd} (hfit:fitW x w=true):∀ (p:List ByteArray) (k:Nat),k<x.kinds.length→ai4 x k p=true→∀ l,w[k]?=some l→∀ r∈l,-1099511627776≤endV x w k r p∧endV x w k r p≤1099511627776
 | [],k,_,_,l,_,r,_=>by simp [endV]
 | [s],k,hk,h,l,hl,r,hr=>by
  obtain ⟨hlen,hrows,hrefs⟩:=ak8 hfit
  obtain ⟨q,f,nm,g,H⟩:=bj7 x w [s] k hk h 0 (by simp)
  have hv:=H.val r
  have hq:q=k:=by have:=H.way;simp [wayE] at this;exact this.1.symm
  subst hq
  have h2:=ao0 H.kind ((ak5 (hrows _ _ hl)).2 r hr)
  have hf:=(List.getElem?_eq_some_iff.1 H.fld).1
  simp only [List.drop_zero,wayE,List.getElem?_cons_succ,List.getElem?_nil] at hv
  rw [hv,List.getD_eq_getElem?_getD,List.getElem?_eq_getElem (by omega)]
  exact h2.2 _ (List.getElem_mem ..)
 | s :: t :: p,k,hk,h,l,hl,r,hr=>by
  obtain ⟨hlen,hrows,hrefs⟩:=ak8 hfit
  obtain ⟨q,f,nm,g,H⟩:=bj7 x w (s :: t :: p) k hk h 0 (by simp)
  have hv:=H.val r
  have hq:q=k:=by have:=H.way;simp [wayE] at this;exact this.1.symm
  subst hq
  obtain ⟨u,f',h1,h2,h3,h4⟩:=H.next (by simp)
  have h5:=ao0 H.kind ((ak5 (hrows _ _ hl)).2 r hr)
  have hf:=(List.getElem?_eq_some_iff.1 H.fld).1
  obtain ⟨z,hz⟩:∃ z,r[f]?=some z:=⟨_,List.getElem?_eq_getElem (by omega)⟩
  obtain ⟨lu,hlu⟩:∃ l,w[u]?=some l:=⟨_,List.getElem?_eq_getElem (by omega)⟩
  have hok:=hrefs _ (by3 H.kind H.fld h2) l hl r hr
  unfold refOk at hok
  simp only [h3,Int.toNat_natCast] at hok
  rw [aa6 hlu,aa6 hz] at hok
  simp only [Bool.not_eq_true',Bool.or_eq_false_iff,decide_eq_false_iff_not] at hok
  rw [h1,aa6 hz] at hv
  simp only [List.drop_zero] at hv
  obtain ⟨r2,hr2⟩:∃ r2,lu[z.toNat]?=some r2:=⟨_,List.getElem?_eq_getElem (by omega)⟩
  have hrec:aK9 w u z.toNat=r2:=by unfold aK9;rw [aa6 hlu,aa6 hr2]
  rw [hrec] at hv
  rw [hv]
  simp only [ai4,Bool.and_eq_true,decide_eq_true_eq] at h
  have hn:al3 x q s=u:=by
   have hnm:s=nm:=by have:=H.name;simpa using this
   rw [hnm,aB5 H.kind H.ix H.fld,if_pos h2,h3]
  rw [hn,Int.toNat_natCast] at h
  exact aX0 hfit (t :: p) u h4 h.2 lu hlu r2 (List.mem_of_getElem? hr2)
theorem cb8 (a b c d e:Nat × Blk) (s:aa1):(a :: b :: (s ++ [c,d,e])).Perm ([e] ++ (a :: b :: (s ++ [c,d]))):=cl9
theorem bV2 (m a b:Nat × Blk) (s t:aa1):(m :: a :: b :: (s ++ t)).Perm (s ++ (m :: a :: b :: t)):=cl9
theorem cn3 (m a b c d:Nat × Blk) (s:aa1):(m :: a :: b :: (s ++ [c,d])).Perm ((b :: (s ++ [c,d,m])) ++ [a]):=cl9
theorem bV1 (a b c:Nat × Blk) (s t:aa1):(a :: b :: c :: (s ++ t)).Perm ((a :: b :: t) ++ (c :: s)):=cl9
theorem bV3 (a b c d e:Nat × Blk):[a,b,c,d,e].Perm ([e] ++ [a,b,c,d]):=cl9
theorem bn0 (a b c d e f:Nat × Blk):[a,b,c,d,e,f].Perm ([f] ++ [a,b,c,d,e]):=cl9
theorem bU9 (z m a b c d:Nat × Blk):[z,m,a,b,c,d].Perm [b,a,z,c,d,m]:=cl9
theorem bU8 (z m a b c d:Nat × Blk):[m,z,a,b,c,d].Perm [b,a,z,c,d,m]:=cl9
theorem ao9 {α:Type} {e:TypeId} {g:α→D} (a:α) (n b:Nat) (hn:n≤maxLen):RowR e g (List.replicate n a) (.slice (some ⟨b,0,none⟩) n n) [(b,.cells e (List.replicate n (g a)))]:=by
 have h:=aD9 (e:=e) (k:=1) (xs:=(List.replicate n a).map fun b=>[g b]) b (fun x hx=>by obtain ⟨_,_,rfl⟩:=List.mem_map.1 hx;rfl) (by simpa using hn)
 have h2:((List.replicate n a).map fun b=>[g b]).flatten=List.replicate n (g a):=by rw [List.map_replicate,List.flatten_replicate_singleton]
 rw [h2,List.length_map,List.length_replicate] at h
 exact h
theorem bU7 (a b c:Nat × Blk) (t:aa1):(a :: b :: c :: t).Perm (b :: ([c] ++ (a :: t))):=cl9
theorem bV0 (m a b z c d:Nat × Blk):[m,a,b,z,c,d].Perm ([b,a,c,d,m] ++ [z]):=cl9
theorem aL2 (a m:Nat × Blk) (s:aa1):((a :: s) ++ [m]).Perm (s ++ [a,m]):=cl9
theorem cr9 {x:Sch} {w:Wd} {k:Nat} {r:List Int} {c:Cnd} (h:c.op=1):holdV x w k r c=decide (endV x w k r c.path=(if c.other=[] then 0 else endV x w k r c.other)+c.n):=by
 cases c <;> (simp only [Cnd.op] at h;subst h;simp [holdV,Cnd.path,Cnd.other,Cnd.n];rfl)
theorem bo3 {x:Sch} {w:Wd} {k:Nat} {r:List Int} {c:Cnd} (h:c.op=2):holdV x w k r c=decide (endV x w k r c.path<(if c.other=[] then 0 else endV x w k r c.other)+c.n):=by
 cases c <;> (simp only [Cnd.op] at h;subst h;simp [holdV,Cnd.path,Cnd.other,Cnd.n];rfl)
theorem cr8 {x:Sch} {w:Wd} {k:Nat} {r:List Int} {c a:Cnd} (h:c.op=3) (hk:c.kids=[a]):holdV x w k r c=!holdV x w k r a:=by
 cases c with
 | c1=>simp only [Cnd.op] at h;simp only [Cnd.kids,List.cons.injEq,and_true] at hk;subst h hk;simp [holdV]
 | _=>simp [Cnd.kids] at hk
theorem cs3 {x:Sch} {w:Wd} {k:Nat} {r:List Int} {c a b:Cnd} (h:c.op=4) (hk:c.kids=[a,b]):holdV x w k r c=(holdV x w k r a && holdV x w k r b):=by
 cases c with
 | c2=>simp only [Cnd.op] at h;simp only [Cnd.kids,List.cons.injEq,and_true] at hk;obtain ⟨rfl,rfl⟩:=hk;subst h;simp [holdV]
 | _=>simp [Cnd.kids] at hk
theorem cx0 {x:Sch} {w:Wd} {k:Nat} {r:List Int} {c a b:Cnd} (h:c.op=5) (hk:c.kids=[a,b]):holdV x w k r c=(holdV x w k r a || holdV x w k r b):=by
 cases c with
 | c2=>simp only [Cnd.op] at h;simp only [Cnd.kids,List.cons.injEq,and_true] at hk;obtain ⟨rfl,rfl⟩:=hk;subst h;simp [holdV]
 | _=>simp [Cnd.kids] at hk
theorem cs7 {x:Sch} {w:Wd} {k:Nat} {r:List Int} {c:Cnd} (h:c.op=0):holdV x w k r c=true:=by
 cases c <;> (simp only [Cnd.op] at h;subst h;simp [holdV])
theorem bz7 (a b c:Nat × Blk) (s t:aa1):(a :: b :: c :: (s ++ t)).Perm ((c :: (s ++ t)) ++ [a,b]):=cl9
theorem cn0 (a b c d e m:Nat × Blk) (s:aa1):(a :: b :: c :: (s ++ [d,e,m])).Perm ([d,e] ++ (m :: a :: b :: c :: s)):=cl9
theorem cm9 (a m:Nat × Blk) (s t:aa1):((a :: s) ++ (m :: t)).Perm (s ++ ([m] ++ (a :: t))):=cl9
theorem bC4 {α:Type} {l:List α} (h:l.length=2):∃ a b,l=[a,b]:=by
 match l,h with
 | [a,b],_=>exact ⟨a,b,rfl⟩
theorem sk97 {A B:Prop} (k:B) (h:Hd7 B→A:=by intro hk7q;(first|refine sb0 ?_|refine sb33 ?_|((with_reducible refine' Cp.by ?hc ?_);(case hc=>fail))|((with_reducible refine' CE.pure ?hc ?_);(case hc=>fail)));exact hk7q.run):A:=h ⟨k⟩
theorem sb98 {A B:Prop} (k:B) (h:Hd7 B→A:=by intro hk7q;(first|fail|(with_reducible refine Bx.l ?_)|fail|((with_reducible refine Dm.l ?h ?_);(case h=>decide +kernel))|((with_reducible refine Cb.go ?h ?_);(case h=>decide +kernel)));exact hk7q.run):A:=h ⟨k⟩
theorem sk99 {A B:Prop} (k:B) (h:Hd7 B→A:=by intro hk7q;(first|refine sb0 ?_|refine sb98 ?_|((with_reducible refine' Cp.by ?hc ?_);(case hc=>fail))|((with_reducible refine' CE.pure ?hc ?_);(case hc=>fail)));exact hk7q.run):A:=h ⟨k⟩
theorem cl16 {p:Prop} (h:p:=by first|exact Sc.sl (.cons_cons _ (.cons_cons _ (.cons_cons _ (List.sublist_cons_self _ _))))|exact Sc.perm (List.Perm.refl _)|exact Sc.perm (List.Perm.swap _ _ _)|exact Sc.perm (List.Perm.cons _ (List.Perm.swap _ _ _))|exact Sc.perm ((List.Perm.swap _ _ _).trans (List.Perm.cons _ (List.Perm.swap _ _ _)))|exact Sc.perm ((List.Perm.cons _ (List.Perm.swap _ _ _)).trans (List.Perm.swap _ _ _))):p:=h
theorem cl17 {p:Prop} (h:p:=by first|(simp only [List.set_cons_succ,List.set_cons_zero,spl,af8,mkD,List.take_succ_cons,List.take_zero,List.drop_succ_cons,List.drop_zero,List.length_cons,List.length_nil,List.nil_append,List.cons_append,Nat.reduceAdd,Nat.zero_add,List.append_nil,List.map_cons,List.map_nil];rfl)|rfl):p:=h
theorem bk9 (x:Sch) (w:Wd) (hw:Ws w) (hp:ah6 x=[]) (hfit:fitW x w=true) (k:Nat) (hk:k<x.kinds.length) (bm:Nat):∀ (m:Nat) (c:Cnd),c.size≤m→formedB c=true→leadsB x k c=true→c.All CndS→∀ G,endG x w k G →
  ACall Tryz.prog 61 [.ro (tbC x w k bm),cndD c] [(bm,Blk.mp Tryz.prog 9 G)] (fun d σ'=>∃ G',d=slB (ao4 x w k c)∧σ'=[(bm,Blk.mp Tryz.prog 9 G')]∧endG x w k G')
 | 0,c,h,_,_,_,_,_=>by rw [ar6] at h;omega
 | m+1,c,h,hfm,hld,hA,G,hG=>by
  have hkl:=c.kids_len
  have hcd:cndC c=[iD c.op,.sl 5 (c.kids.map cndC),slS c.path,slS c.other,iD c.n]:=by rw [← ay7];rfl
  rw [aQ7] at hfm
  rw [bb6] at hld
  simp only [Bool.and_eq_true,List.all_eq_true] at hfm hld
  obtain ⟨⟨hhead,hfk⟩,hform⟩:=hfm
  obtain ⟨⟨hl1,hl2⟩,hlk⟩:=hld
  obtain ⟨hlen,hrows,hrefs⟩:=ak8 hfit
  obtain ⟨l,hl⟩:∃ l,w[k]?=some l:=⟨_,List.getElem?_eq_getElem (by omega)⟩
  have hl':w[((k:Nat):Int).toNat]?=some l:=hl
  have hll:=hw.nr l (List.mem_of_getElem? hl)
  have hwl:=hw.nk
  unfold cndD cndC
  rw [ay7 c]
  refine eC7 Tryz.func61 Tryz.ntmps61 fun BB=>?_
  repeat' first|refine sk97 ?_|(intro b;conv=>whnf)
  refine dr7 ?_
  refine ah2 mixed aa0 rfl [0,1,2,3,4,5,6,7,8,9,10] 3 (inE [11,12,13]) (.two 11 (.one 12 (.one 13 .done)) 12 (.one 11 (.one 13 .done))) (γ:=Nat × Nat) (fun g=>[(5,.v (.pointer (some ⟨g.1,0,none⟩)))]) (fun g=>(g.1,.cells 130 [.v (.slice (some ⟨g.2,0,none⟩) l.length l.length)]) :: (g.2,.cells 4 (List.replicate l.length (bD false))) :: [(bm,Blk.mp Tryz.prog 9 G)]) (fun _=>True) (by decide +kernel) ?_ ?_
  ·repeat' first|refine sk97 ?_|(intro b;conv=>whnf)|(refine Mk.go l.length rfl rfl rfl rfl rfl (by simp) (by omega) (by omega) (fun bo=>?_))|(refine And.intro ?_ ?_ <;> (conv=>whnf))
   all_goals exact ⟨(b,bo),(aa2 cl3),cl16,trivial⟩
  rintro ⟨b5,bo⟩ -
  repeat' first|refine sk97 ?_|(intro b;conv=>whnf)
  refine aa5 mixed aa0 (γ:=Nat × (Value→Option D) × Value × aa1) (fun g=>[(28,iD g.1)]) (fun g=>(b,.cells 206 [.v g.2.2.1]) :: (g.2.2.2 ++ ((b5,.cells 130 [.v (.slice (some ⟨bo,0,none⟩) l.length l.length)]) :: (bo,.cells 4 (List.replicate l.length (bD false))) :: [(bm,Blk.mp Tryz.prog 9 g.2.1)]))) (fun g=>g.1≤c.kids.length∧endG x w k g.2.1∧RowR 130 (fun c=>slB (ao4 x w k c)) (c.kids.take g.1) g.2.2.1 g.2.2.2) (fun g=>c.kids.length - g.1) (0,G,.slice none 0 0,[]) (aa2 cl3) (Sc.refl _) ⟨Nat.zero_le _,hG,RowIs.nil _ _⟩ ?_
  rintro ⟨i,G1,v7,s7⟩ ⟨hi,hG1,h7⟩
  simp only at hi hG1 h7 ⊢
  obtain ⟨b7,rfl⟩:∃ b7,b7=b:=⟨_,rfl⟩
  by_cases hil:i<c.kids.length
  ·obtain ⟨y,hy⟩:∃ y,c.kids[i]?=some y:=⟨_,List.getElem?_eq_getElem hil⟩
   have hy':c.kids[((i:Nat):Int).toNat]?=some y:=hy
   have hym:=List.mem_of_getElem? hy
   have HK:=bk9 x w hw hp hfit k hk bm m y (by have:=Cnd.kid_size hym;omega) (hfk y hym) (hlk y hym) (hA.kid hym) G1 hG1
   have htk:=ac7 hy
   repeat' first|refine sk97 ?_|(intro b;conv=>whnf)
   refine dr7 ?_
   refine ah2 mixed aa0 rfl [1] 6 (inE [0,2,3,5,6]) (.two 0 (.one 2 (.one 3 (.fst 4 (.one 5 (.one 6 .done))))) 2 (.two 0 (.one 3 (.fst 4 (.one 5 (.one 6 .done)))) 3 (.fst 4 (.one 0 (.one 5 (.one 6 .done)))))) (γ:=(Value→Option D) × Value × aa1) (fun _=>[]) (fun g=>(b7,.cells 206 [.v g.2.1]) :: (g.2.2 ++ ((b5,.cells 130 [.v (.slice (some ⟨bo,0,none⟩) l.length l.length)]) :: (bo,.cells 4 (List.replicate l.length (bD false))) :: [(bm,Blk.mp Tryz.prog 9 g.1)]))) (fun g=>endG x w k g.1∧RowR 130 (fun c=>slB (ao4 x w k c)) (c.kids.take (i+1)) g.2.1 g.2.2) (by decide +kernel) ?_ ?_
   ·repeat' first|refine sk97 ?_|(intro b;conv=>whnf)|(refine CE.own HK (cb8 _ _ _ _ _ _) (fun s'=>s' ++ _) (fun s'=>List.Perm.refl _) ?_;rintro _ _ ⟨G2,rfl,rfl,hG2⟩;conv=>whnf)|(refine Ap.go rfl rfl rfl rfl h7 (bV2 _ _ _ _ _) rfl (zs:=(c.kids.take (i+1)).map fun c=>[slB (ao4 x w k c)]) (by rw [htk,List.map_append];rfl) (by simp;omega) (by simp;omega) (fun s'=>_ :: _ :: _ :: (s' ++ _)) (fun s'=>(bV2 _ _ _ _ _).symm) (fun a3 c3 s3 h3=>?_))|(refine And.intro ?_ ?_ <;> (conv=>whnf))
    all_goals exact ⟨(G2,_,s3),(aa2 cl3),Sc.drop (cn3 _ _ _ _ _ _),hG2,h3⟩
   ·rintro ⟨G2,v3,s3⟩ ⟨hG2,h3⟩
    repeat' first|refine sk97 ?_|(intro b;conv=>whnf)
    exact ⟨(i+1,G2,v3,s3),(aa2 cl3),Sc.refl _,⟨by simp only;omega,hG2,h3⟩,by simp only;omega⟩
  ·obtain rfl:i=c.kids.length:=by omega
   rw [List.take_length] at h7
   have hrng:=av8 (x:=x) (k:=k) hl c
   unfold bt3 aa7 at hhead
   simp only [Bool.and_eq_true,decide_eq_true_eq] at hhead
   obtain ⟨⟨ho1,ho2⟩,hkn⟩:=hhead
   unfold aC3 at hkn
   rw [hrng]
   clear hrng
   by_cases hop:c.op=1
   ·have hk0:c.kids.length=0:=by rw [hop] at hkn;simpa using hkn
    unfold bh9 at hform
    rw [if_pos (.inl hop)] at hform
    simp only [aa7,Bool.and_eq_true,decide_eq_true_eq] at hform
    obtain ⟨⟨hpb,hob⟩,hn1,hn2⟩:=hform
    have HE:=aY7 x w hw hp hfit k hk c.path hpb hl1 bm G1 hG1
    repeat' first|refine sk97 ?_|(intro b;conv=>whnf)
    rename_i b10
    obtain ⟨b11,rfl⟩:∃ b11,b11=b:=⟨_,rfl⟩
    refine dr7 ?_
    refine aw4 (Sc.drop (bV1 _ _ _ _ _)) ?_
    refine ah2 mixed aa0 rfl [0,1,2] 6 (inE [3,4,6,7,8]) (.two 3 (.two 4 (.fst 5 (.two 6 (.one 7 (.one 8 .done)) 7 (.one 6 (.one 8 .done)))) 7 (.one 4 (.fst 5 (.one 6 (.one 8 .done))))) 4 (.fst 5 (.two 3 (.two 6 (.one 7 (.one 8 .done)) 7 (.one 6 (.one 8 .done))) 6 (.one 3 (.one 7 (.one 8 .done)))))) (γ:=(Value→Option D) × Nat) (fun _=>[]) (fun g=>(b10,.cells 22 [slI (endL x w k c.path)]) :: (b11,.cells 22 [.v (.slice (some ⟨g.2,0,none⟩) l.length l.length)]) :: (g.2,.cells 3 (List.replicate l.length (iD 0))) :: (b5,.cells 130 [.v (.slice (some ⟨bo,0,none⟩) l.length l.length)]) :: (bo,.cells 4 (List.replicate l.length (bD false))) :: [(bm,Blk.mp Tryz.prog 9 g.1)]) (fun g=>endG x w k g.1) (by decide +kernel) ?_ ?_
    ·repeat' first|refine sk97 ?_|(intro b;conv=>whnf)|((with_reducible refine' Ld.at 3 ?h1 ?h2 ?h3 ?_);(case h1=>exact rfl);(case h2=>exact rfl);(case h3=>exact rfl))|((with_reducible refine' Ld.at 4 ?h1 ?h2 ?h3 ?_);(case h1=>exact rfl);(case h2=>exact rfl);(case h3=>exact rfl))|((with_reducible refine' Ld.at 5 ?h1 ?h2 ?h3 ?_);(case h1=>exact rfl);(case h2=>exact rfl);(case h3=>exact rfl))|((with_reducible refine' Sv.at 3 ?h1 ?h2 ?h3 ?h4 ?h5 ?_);(case h1=>exact rfl);(case h2=>exact rfl);(case h3=>exact rfl);(case h4=>exact rfl);(case h5=>exact cl17))|((with_reducible refine' Sv.at 4 ?h1 ?h2 ?h3 ?h4 ?h5 ?_);(case h1=>exact rfl);(case h2=>exact rfl);(case h3=>exact rfl);(case h4=>exact rfl);(case h5=>exact cl17))|((with_reducible refine' Sv.at 5 ?h1 ?h2 ?h3 ?h4 ?h5 ?_);(case h1=>exact rfl);(case h2=>exact rfl);(case h3=>exact rfl);(case h4=>exact rfl);(case h5=>exact cl17))|(refine CE.own HE (bV3 _ _ _ _ _) (fun s'=>s' ++ _) (fun s'=>List.Perm.refl _) ?_;rintro _ _ ⟨G2,rfl,rfl,hG2⟩;conv=>whnf)|(refine CE.own HE (bn0 _ _ _ _ _ _) (fun s'=>s' ++ _) (fun s'=>List.Perm.refl _) ?_;rintro _ _ ⟨G2,rfl,rfl,hG2⟩;conv=>whnf)|(refine Mk.go l.length rfl rfl rfl rfl rfl (by simp) (by omega) (by omega) (fun bz=>?_))|(refine And.intro ?_ ?_ <;> (conv=>whnf))
     all_goals first|exact ⟨(G2,bz),(aa2 cl3),Sc.perm (bU9 _ _ _ _ _ _),hG2⟩|exact ⟨(G2,bz),(aa2 cl3),Sc.perm (bU8 _ _ _ _ _ _),hG2⟩
    rintro ⟨G2,bz⟩ hG2
    by_cases hot:c.other=[]
    ·have hp:∀ i,i<l.length→APure Tryz.prog 111 [iD i,.ro [slI (endL x w k c.path)],.ro [slI (List.replicate l.length 0)],.ro (cndC c)] (bD (holdV x w k (l.getD i []) c)):=fun i hi=>by
      rw [cr9 hop,if_pos hot]
      exact ct2 _ _ c i _ 0 (aE4 hl _ hi) (by rw [List.getElem?_replicate,if_pos hi]) ⟨by omega,by omega⟩
     rw [hcd] at hp
     have HS:=aT1 l.length (by omega) _ hp b5 _ _ (ao9 (e:=4) (g:=bD) false l.length bo (by unfold maxLen;omega))
     have hol:c.other.length=0:=by rw [hot];rfl
     repeat' first|refine sk99 ?_|(intro b;conv=>whnf)
     refine Bc.l ?_
     repeat' first|refine sk99 ?_|(intro b;conv=>whnf)
     refine Bc.j ?_
     refine aw4 ((Sc.perm (bU7 _ _ _ _)).trans (Sc.frz (j:=0) rfl (ao9 (e:=3) (g:=iD) (0:Int) l.length bz (by unfold maxLen;omega)) (LeR.refl _))) ?_
     refine af2 (i:=11) (d:=.v (.pointer (some ⟨b11,0,none⟩))) (d':=.ro [slI (List.replicate l.length 0)]) rfl (fun h=>by cases h) (Vs.ptr (tb:=22) (List.Perm.refl _)) ?_
     refine af2 (i:=10) (d:=.v (.pointer (some ⟨b10,0,none⟩))) (d':=.ro [slI (endL x w k c.path)]) rfl (fun h=>by cases h) (Vs.ptr (tb:=22) (List.Perm.refl _)) ?_
     refine ao2 mixed aa0 ?_
     repeat' first|refine sk97 ?_|(intro b;conv=>whnf)
     refine CE.own HS (List.Perm.refl ([_,_] ++ [_])) (fun s'=>s' ++ [_]) (fun s'=>List.Perm.refl _) ?_
     rintro _ _ ⟨v8,s8,rfl,rfl,h8⟩
     repeat' first|refine sk97 ?_|(intro b;conv=>whnf)
     exact Rt.by ((Vs.row h8 (aL2 _ _ _)).trans (Vs.drop (List.sublist_cons_self _ _))) ⟨_,rfl,rfl,hG2⟩
    ·have hpb2:au5 c.other=true:=by
      cases h9:c.other with
      | nil=>exact absurd h9 hot
      | cons a b=>rw [h9] at hob;exact hob
     have hol:0<c.other.length:=List.length_pos_iff.2 hot
     have HE2:=aY7 x w hw hp hfit k hk c.other hpb2 hl2 bm G2 hG2
     have hp:∀ i,i<l.length→APure Tryz.prog 111 [iD i,.ro [slI (endL x w k c.path)],.ro [slI (endL x w k c.other)],.ro (cndC c)] (bD (holdV x w k (l.getD i []) c)):=fun i hi=>by
      have hm:l.getD i []∈l:=by rw [List.getD_eq_getElem?_getD,List.getElem?_eq_getElem hi];exact List.getElem_mem ..
      have hin:=aX0 hfit c.other k hk hl2 l hl _ hm
      rw [cr9 hop,if_neg hot]
      exact ct2 _ _ c i _ _ (aE4 hl _ hi) (aE4 hl _ hi) ⟨by omega,by omega⟩
     rw [hcd] at hp
     have HS:=aT1 l.length (by omega) _ hp b5 _ _ (ao9 (e:=4) (g:=bD) false l.length bo (by unfold maxLen;omega))
     repeat' first|refine sk99 ?_|(intro b;conv=>whnf)
     refine Bc.l ?_
     repeat' first|refine sk99 ?_|(intro b;conv=>whnf)
     refine CE.own HE2 (bn0 _ _ _ _ _ _) (fun s'=>s' ++ _) (fun s'=>List.Perm.refl _) ?_
     rintro _ _ ⟨G4,rfl,rfl,hG4⟩
     repeat' first|refine sk99 ?_|(intro b;conv=>whnf)|((with_reducible refine' Ld.at 3 ?h1 ?h2 ?h3 ?_);(case h1=>exact rfl);(case h2=>exact rfl);(case h3=>exact rfl))|((with_reducible refine' Ld.at 4 ?h1 ?h2 ?h3 ?_);(case h1=>exact rfl);(case h2=>exact rfl);(case h3=>exact rfl))|((with_reducible refine' Ld.at 5 ?h1 ?h2 ?h3 ?_);(case h1=>exact rfl);(case h2=>exact rfl);(case h3=>exact rfl))|((with_reducible refine' Sv.at 3 ?h1 ?h2 ?h3 ?h4 ?h5 ?_);(case h1=>exact rfl);(case h2=>exact rfl);(case h3=>exact rfl);(case h4=>exact rfl);(case h5=>exact cl17))|((with_reducible refine' Sv.at 4 ?h1 ?h2 ?h3 ?h4 ?h5 ?_);(case h1=>exact rfl);(case h2=>exact rfl);(case h3=>exact rfl);(case h4=>exact rfl);(case h5=>exact cl17))|((with_reducible refine' Sv.at 5 ?h1 ?h2 ?h3 ?h4 ?h5 ?_);(case h1=>exact rfl);(case h2=>exact rfl);(case h3=>exact rfl);(case h4=>exact rfl);(case h5=>exact cl17))
     refine Bc.j ?_
     refine aw4 (Sc.drop (ρ:=[_]) (bV0 _ _ _ _ _ _)) ?_
     refine af2 (i:=11) (d:=.v (.pointer (some ⟨b11,0,none⟩))) (d':=.ro [slI (endL x w k c.other)]) rfl (fun h=>by cases h) (Vs.ptr (tb:=22) (List.Perm.refl _)) ?_
     clear hG2
     obtain ⟨G2,rfl⟩:∃ G2,G2=G4:=⟨_,rfl⟩
     have hG2:=hG4
     refine af2 (i:=10) (d:=.v (.pointer (some ⟨b10,0,none⟩))) (d':=.ro [slI (endL x w k c.path)]) rfl (fun h=>by cases h) (Vs.ptr (tb:=22) (List.Perm.refl _)) ?_
     refine ao2 mixed aa0 ?_
     repeat' first|refine sk97 ?_|(intro b;conv=>whnf)
     refine CE.own HS (List.Perm.refl ([_,_] ++ [_])) (fun s'=>s' ++ [_]) (fun s'=>List.Perm.refl _) ?_
     rintro _ _ ⟨v8,s8,rfl,rfl,h8⟩
     repeat' first|refine sk97 ?_|(intro b;conv=>whnf)
     exact Rt.by ((Vs.row h8 (aL2 _ _ _)).trans (Vs.drop (List.sublist_cons_self _ _))) ⟨_,rfl,rfl,hG2⟩
   by_cases hop2:c.op=2
   ·have hk0:c.kids.length=0:=by rw [hop2] at hkn;simpa using hkn
    clear hop
    have hop:=hop2
    unfold bh9 at hform
    rw [if_pos (.inr hop)] at hform
    simp only [aa7,Bool.and_eq_true,decide_eq_true_eq] at hform
    obtain ⟨⟨hpb,hob⟩,hn1,hn2⟩:=hform
    have HE:=aY7 x w hw hp hfit k hk c.path hpb hl1 bm G1 hG1
    repeat' first|refine sk97 ?_|(intro b;conv=>whnf)
    rename_i b10
    obtain ⟨b11,rfl⟩:∃ b11,b11=b:=⟨_,rfl⟩
    refine dr7 ?_
    refine aw4 (Sc.drop (bV1 _ _ _ _ _)) ?_
    refine ah2 mixed aa0 rfl [0,1,2] 6 (inE [3,4,6,7,8]) (.two 3 (.two 4 (.fst 5 (.two 6 (.one 7 (.one 8 .done)) 7 (.one 6 (.one 8 .done)))) 7 (.one 4 (.fst 5 (.one 6 (.one 8 .done))))) 4 (.fst 5 (.two 3 (.two 6 (.one 7 (.one 8 .done)) 7 (.one 6 (.one 8 .done))) 6 (.one 3 (.one 7 (.one 8 .done)))))) (γ:=(Value→Option D) × Nat) (fun _=>[]) (fun g=>(b10,.cells 22 [slI (endL x w k c.path)]) :: (b11,.cells 22 [.v (.slice (some ⟨g.2,0,none⟩) l.length l.length)]) :: (g.2,.cells 3 (List.replicate l.length (iD 0))) :: (b5,.cells 130 [.v (.slice (some ⟨bo,0,none⟩) l.length l.length)]) :: (bo,.cells 4 (List.replicate l.length (bD false))) :: [(bm,Blk.mp Tryz.prog 9 g.1)]) (fun g=>endG x w k g.1) (by decide +kernel) ?_ ?_
    ·repeat' first|refine sk97 ?_|(intro b;conv=>whnf)|((with_reducible refine' Ld.at 3 ?h1 ?h2 ?h3 ?_);(case h1=>exact rfl);(case h2=>exact rfl);(case h3=>exact rfl))|((with_reducible refine' Ld.at 4 ?h1 ?h2 ?h3 ?_);(case h1=>exact rfl);(case h2=>exact rfl);(case h3=>exact rfl))|((with_reducible refine' Ld.at 5 ?h1 ?h2 ?h3 ?_);(case h1=>exact rfl);(case h2=>exact rfl);(case h3=>exact rfl))|((with_reducible refine' Sv.at 3 ?h1 ?h2 ?h3 ?h4 ?h5 ?_);(case h1=>exact rfl);(case h2=>exact rfl);(case h3=>exact rfl);(case h4=>exact rfl);(case h5=>exact cl17))|((with_reducible refine' Sv.at 4 ?h1 ?h2 ?h3 ?h4 ?h5 ?_);(case h1=>exact rfl);(case h2=>exact rfl);(case h3=>exact rfl);(case h4=>exact rfl);(case h5=>exact cl17))|((with_reducible refine' Sv.at 5 ?h1 ?h2 ?h3 ?h4 ?h5 ?_);(case h1=>exact rfl);(case h2=>exact rfl);(case h3=>exact rfl);(case h4=>exact rfl);(case h5=>exact cl17))|(refine CE.own HE (bV3 _ _ _ _ _) (fun s'=>s' ++ _) (fun s'=>List.Perm.refl _) ?_;rintro _ _ ⟨G2,rfl,rfl,hG2⟩;conv=>whnf)|(refine CE.own HE (bn0 _ _ _ _ _ _) (fun s'=>s' ++ _) (fun s'=>List.Perm.refl _) ?_;rintro _ _ ⟨G2,rfl,rfl,hG2⟩;conv=>whnf)|(refine Mk.go l.length rfl rfl rfl rfl rfl (by simp) (by omega) (by omega) (fun bz=>?_))|(refine And.intro ?_ ?_ <;> (conv=>whnf))
     all_goals first|exact ⟨(G2,bz),(aa2 cl3),Sc.perm (bU9 _ _ _ _ _ _),hG2⟩|exact ⟨(G2,bz),(aa2 cl3),Sc.perm (bU8 _ _ _ _ _ _),hG2⟩
    rintro ⟨G2,bz⟩ hG2
    by_cases hot:c.other=[]
    ·have hp:∀ i,i<l.length→APure Tryz.prog 112 [iD i,.ro [slI (endL x w k c.path)],.ro [slI (List.replicate l.length 0)],.ro (cndC c)] (bD (holdV x w k (l.getD i []) c)):=fun i hi=>by
      rw [bo3 hop,if_pos hot]
      exact bo4 _ _ c i _ 0 (aE4 hl _ hi) (by rw [List.getElem?_replicate,if_pos hi]) ⟨by omega,by omega⟩
     rw [hcd] at hp
     have HS:=aT1 l.length (by omega) _ hp b5 _ _ (ao9 (e:=4) (g:=bD) false l.length bo (by unfold maxLen;omega))
     have hol:c.other.length=0:=by rw [hot];rfl
     repeat' first|refine sk99 ?_|(intro b;conv=>whnf)
     refine Bc.l ?_
     repeat' first|refine sk99 ?_|(intro b;conv=>whnf)
     refine Bc.j ?_
     refine aw4 ((Sc.perm (bU7 _ _ _ _)).trans (Sc.frz (j:=0) rfl (ao9 (e:=3) (g:=iD) (0:Int) l.length bz (by unfold maxLen;omega)) (LeR.refl _))) ?_
     refine af2 (i:=11) (d:=.v (.pointer (some ⟨b11,0,none⟩))) (d':=.ro [slI (List.replicate l.length 0)]) rfl (fun h=>by cases h) (Vs.ptr (tb:=22) (List.Perm.refl _)) ?_
     refine af2 (i:=10) (d:=.v (.pointer (some ⟨b10,0,none⟩))) (d':=.ro [slI (endL x w k c.path)]) rfl (fun h=>by cases h) (Vs.ptr (tb:=22) (List.Perm.refl _)) ?_
     refine ao2 mixed aa0 ?_
     repeat' first|refine sk97 ?_|(intro b;conv=>whnf)
     refine CE.own HS (List.Perm.refl ([_,_] ++ [_])) (fun s'=>s' ++ [_]) (fun s'=>List.Perm.refl _) ?_
     rintro _ _ ⟨v8,s8,rfl,rfl,h8⟩
     repeat' first|refine sk97 ?_|(intro b;conv=>whnf)
     exact Rt.by ((Vs.row h8 (aL2 _ _ _)).trans (Vs.drop (List.sublist_cons_self _ _))) ⟨_,rfl,rfl,hG2⟩
    ·have hpb2:au5 c.other=true:=by
      cases h9:c.other with
      | nil=>exact absurd h9 hot
      | cons a b=>rw [h9] at hob;exact hob
     have hol:0<c.other.length:=List.length_pos_iff.2 hot
     have HE2:=aY7 x w hw hp hfit k hk c.other hpb2 hl2 bm G2 hG2
     have hp:∀ i,i<l.length→APure Tryz.prog 112 [iD i,.ro [slI (endL x w k c.path)],.ro [slI (endL x w k c.other)],.ro (cndC c)] (bD (holdV x w k (l.getD i []) c)):=fun i hi=>by
      have hm:l.getD i []∈l:=by rw [List.getD_eq_getElem?_getD,List.getElem?_eq_getElem hi];exact List.getElem_mem ..
      have hin:=aX0 hfit c.other k hk hl2 l hl _ hm
      rw [bo3 hop,if_neg hot]
      exact bo4 _ _ c i _ _ (aE4 hl _ hi) (aE4 hl _ hi) ⟨by omega,by omega⟩
     rw [hcd] at hp
     have HS:=aT1 l.length (by omega) _ hp b5 _ _ (ao9 (e:=4) (g:=bD) false l.length bo (by unfold maxLen;omega))
     repeat' first|refine sk99 ?_|(intro b;conv=>whnf)
     refine Bc.l ?_
     repeat' first|refine sk99 ?_|(intro b;conv=>whnf)
     refine CE.own HE2 (bn0 _ _ _ _ _ _) (fun s'=>s' ++ _) (fun s'=>List.Perm.refl _) ?_
     rintro _ _ ⟨G4,rfl,rfl,hG4⟩
     repeat' first|refine sk99 ?_|(intro b;conv=>whnf)|((with_reducible refine' Ld.at 3 ?h1 ?h2 ?h3 ?_);(case h1=>exact rfl);(case h2=>exact rfl);(case h3=>exact rfl))|((with_reducible refine' Ld.at 4 ?h1 ?h2 ?h3 ?_);(case h1=>exact rfl);(case h2=>exact rfl);(case h3=>exact rfl))|((with_reducible refine' Ld.at 5 ?h1 ?h2 ?h3 ?_);(case h1=>exact rfl);(case h2=>exact rfl);(case h3=>exact rfl))|((with_reducible refine' Sv.at 3 ?h1 ?h2 ?h3 ?h4 ?h5 ?_);(case h1=>exact rfl);(case h2=>exact rfl);(case h3=>exact rfl);(case h4=>exact rfl);(case h5=>exact cl17))|((with_reducible refine' Sv.at 4 ?h1 ?h2 ?h3 ?h4 ?h5 ?_);(case h1=>exact rfl);(case h2=>exact rfl);(case h3=>exact rfl);(case h4=>exact rfl);(case h5=>exact cl17))|((with_reducible refine' Sv.at 5 ?h1 ?h2 ?h3 ?h4 ?h5 ?_);(case h1=>exact rfl);(case h2=>exact rfl);(case h3=>exact rfl);(case h4=>exact rfl);(case h5=>exact cl17))
     refine Bc.j ?_
     refine aw4 (Sc.drop (ρ:=[_]) (bV0 _ _ _ _ _ _)) ?_
     refine af2 (i:=11) (d:=.v (.pointer (some ⟨b11,0,none⟩))) (d':=.ro [slI (endL x w k c.other)]) rfl (fun h=>by cases h) (Vs.ptr (tb:=22) (List.Perm.refl _)) ?_
     clear hG2
     obtain ⟨G2,rfl⟩:∃ G2,G2=G4:=⟨_,rfl⟩
     have hG2:=hG4
     refine af2 (i:=10) (d:=.v (.pointer (some ⟨b10,0,none⟩))) (d':=.ro [slI (endL x w k c.path)]) rfl (fun h=>by cases h) (Vs.ptr (tb:=22) (List.Perm.refl _)) ?_
     refine ao2 mixed aa0 ?_
     repeat' first|refine sk97 ?_|(intro b;conv=>whnf)
     refine CE.own HS (List.Perm.refl ([_,_] ++ [_])) (fun s'=>s' ++ [_]) (fun s'=>List.Perm.refl _) ?_
     rintro _ _ ⟨v8,s8,rfl,rfl,h8⟩
     repeat' first|refine sk97 ?_|(intro b;conv=>whnf)
     exact Rt.by ((Vs.row h8 (aL2 _ _ _)).trans (Vs.drop (List.sublist_cons_self _ _))) ⟨_,rfl,rfl,hG2⟩
   clear hform
   have hlk:∀ (a:Cnd) (i:Nat),i<l.length→(ao4 x w k a)[i]?=some (holdV x w k (l.getD i []) a):=fun a i hi=>by
    rw [av8 hl,List.getElem?_map,List.getElem?_range hi];rfl
   have hll2:∀ a,(ao4 x w k a).length=l.length:=fun a=>by rw [av8 hl];simp
   by_cases hop3:c.op=3
   ·obtain ⟨a,ha⟩:∃ a,c.kids=[a]:=by
     rw [hop3] at hkn
     exact List.length_eq_one_iff.1 (by simp at hkn;omega)
    have hp:∀ i,i<l.length→APure Tryz.prog 113 [iD i,.ro [slS2 (c.kids.map (ao4 x w k))]] (bD (holdV x w k (l.getD i []) c)):=fun i hi=>by
     rw [cr8 hop3 ha,ha]
     exact ct0 (ao4 x w k a) _ i _ rfl (hlk a i hi)
    have HS:=bf5 l.length (by omega) _ hp b5 _ _ (ao9 (e:=4) (g:=bD) false l.length bo (by unfold maxLen;omega))
    repeat' first|refine sk99 ?_|(intro b;conv=>whnf)
    refine Bc.l ?_
    repeat' first|refine sk99 ?_|(intro b;conv=>whnf)
    refine Bc.j ?_
    refine aw4 ((Sc.drop (bz7 _ _ _ _ _)).trans (Sc.frz (j:=0) rfl h7 (ys:=(c.kids.map (ao4 x w k)).map fun l=>[slB l]) (by rw [List.map_map];exact LeR.refl _))) ?_
    refine af2 (i:=7) (d:=.v (.pointer (some ⟨b7,0,none⟩))) (d':=.ro [slS2 (c.kids.map (ao4 x w k))]) rfl (fun h=>by cases h) (Vs.ptr (tb:=206) (List.Perm.refl _)) ?_
    refine ao2 mixed aa0 ?_
    repeat' first|refine sk97 ?_|(intro b;conv=>whnf)
    refine CE.own HS (List.Perm.refl ([_,_] ++ [_])) (fun s'=>s' ++ [_]) (fun s'=>List.Perm.refl _) ?_
    rintro _ _ ⟨v8,s8,rfl,rfl,h8⟩
    repeat' first|refine sk97 ?_|(intro b;conv=>whnf)
    exact Rt.by ((Vs.row h8 (aL2 _ _ _)).trans (Vs.drop (List.sublist_cons_self _ _))) ⟨_,rfl,rfl,hG1⟩
   by_cases hop4:c.op=4
   ·obtain ⟨a,b2,ha⟩:∃ a b,c.kids=[a,b]:=by
     rw [hop4] at hkn
     exact bC4 (by simp at hkn;omega)
    have hp:∀ i,i<l.length→APure Tryz.prog 114 [iD i,.ro [slS2 (c.kids.map (ao4 x w k))]] (bD (holdV x w k (l.getD i []) c)):=fun i hi=>by
     rw [cs3 hop4 ha,ha]
     exact ct3 (ao4 x w k a) (ao4 x w k b2) _ i _ _ rfl rfl (hlk a i hi) (hlk b2 i hi)
    have HS:=bf5 l.length (by omega) _ hp b5 _ _ (ao9 (e:=4) (g:=bD) false l.length bo (by unfold maxLen;omega))
    repeat' first|refine sk99 ?_|(intro b;conv=>whnf)
    refine Bc.l ?_
    repeat' first|refine sk99 ?_|(intro b;conv=>whnf)
    refine Bc.j ?_
    refine aw4 ((Sc.drop (bz7 _ _ _ _ _)).trans (Sc.frz (j:=0) rfl h7 (ys:=(c.kids.map (ao4 x w k)).map fun l=>[slB l]) (by rw [List.map_map];exact LeR.refl _))) ?_
    refine af2 (i:=7) (d:=.v (.pointer (some ⟨b7,0,none⟩))) (d':=.ro [slS2 (c.kids.map (ao4 x w k))]) rfl (fun h=>by cases h) (Vs.ptr (tb:=206) (List.Perm.refl _)) ?_
    refine ao2 mixed aa0 ?_
    repeat' first|refine sk97 ?_|(intro b;conv=>whnf)
    refine CE.own HS (List.Perm.refl ([_,_] ++ [_])) (fun s'=>s' ++ [_]) (fun s'=>List.Perm.refl _) ?_
    rintro _ _ ⟨v8,s8,rfl,rfl,h8⟩
    repeat' first|refine sk97 ?_|(intro b;conv=>whnf)
    exact Rt.by ((Vs.row h8 (aL2 _ _ _)).trans (Vs.drop (List.sublist_cons_self _ _))) ⟨_,rfl,rfl,hG1⟩
   by_cases hop5:c.op=5
   ·obtain ⟨a,b2,ha⟩:∃ a b,c.kids=[a,b]:=by
     rw [hop5] at hkn
     exact bC4 (by simp at hkn;omega)
    have hp:∀ i,i<l.length→APure Tryz.prog 115 [iD i,.ro [slS2 (c.kids.map (ao4 x w k))]] (bD (holdV x w k (l.getD i []) c)):=fun i hi=>by
     rw [cx0 hop5 ha,ha]
     exact cx1 (ao4 x w k a) (ao4 x w k b2) _ i _ _ rfl rfl (hlk a i hi) (hlk b2 i hi)
    have HS:=bf5 l.length (by omega) _ hp b5 _ _ (ao9 (e:=4) (g:=bD) false l.length bo (by unfold maxLen;omega))
    repeat' first|refine sk99 ?_|(intro b;conv=>whnf)
    refine Bc.l ?_
    repeat' first|refine sk99 ?_|(intro b;conv=>whnf)
    refine Bc.j ?_
    refine aw4 ((Sc.drop (bz7 _ _ _ _ _)).trans (Sc.frz (j:=0) rfl h7 (ys:=(c.kids.map (ao4 x w k)).map fun l=>[slB l]) (by rw [List.map_map];exact LeR.refl _))) ?_
    refine af2 (i:=7) (d:=.v (.pointer (some ⟨b7,0,none⟩))) (d':=.ro [slS2 (c.kids.map (ao4 x w k))]) rfl (fun h=>by cases h) (Vs.ptr (tb:=206) (List.Perm.refl _)) ?_
    refine ao2 mixed aa0 ?_
    repeat' first|refine sk97 ?_|(intro b;conv=>whnf)
    refine CE.own HS (List.Perm.refl ([_,_] ++ [_])) (fun s'=>s' ++ [_]) (fun s'=>List.Perm.refl _) ?_
    rintro _ _ ⟨v8,s8,rfl,rfl,h8⟩
    repeat' first|refine sk97 ?_|(intro b;conv=>whnf)
    exact Rt.by ((Vs.row h8 (aL2 _ _ _)).trans (Vs.drop (List.sublist_cons_self _ _))) ⟨_,rfl,rfl,hG1⟩
   have hop0:c.op=0:=by omega
   have hp:∀ i,i<l.length→APure Tryz.prog 116 [iD i] (bD (holdV x w k (l.getD i []) c)):=fun i hi=>by
    rw [cs7 hop0];exact ct4 i
   have HS:=bZ1 l.length (by omega) _ hp b5 _ _ (ao9 (e:=4) (g:=bD) false l.length bo (by unfold maxLen;omega))
   repeat' first|refine sk97 ?_|(intro b;conv=>whnf)
   refine CE.own HS (cn0 _ _ _ _ _ _ _) (fun s'=>s' ++ _) (fun s'=>List.Perm.refl _) ?_
   rintro _ _ ⟨v8,s8,rfl,rfl,h8⟩
   repeat' first|refine sk97 ?_|(intro b;conv=>whnf)
   exact Rt.by ((Vs.row h8 (cm9 _ _ _ _)).trans (Vs.drop (List.sublist_append_left _ _))) ⟨_,rfl,rfl,hG1⟩
end
section
open Go Go.RowKit Go.Shelf
section
variable {P:Program} {r:Option Nat} {n:Nat} {df:Nat} {N:Nat} {σ:aa1} {f:Frm} {L:List Oper} {T:TypeId→Option TI}
theorem OtE.copy0 (hT:∀ t i,T t=some i→tiOf P t=some i) {o:Oper} {p x:Operand} {t t2 e:TypeId} {i j:TI} {ag:Bool} {by_ b off dc jj:Nat} {tb:TypeId} {cs:List D} {ys:List (List D)} {K:Frm→aa1→Prop}
  (ho:o.op = .call { callee:=.builtin .copy,args:=#[p,x],argTypes:=#[t,t2] }) (hp:evF f p = .v (.slice (some ⟨b,off,none⟩) 0 dc)) (ht:T t=some i) (hs:i.sl=some (e,ag,1,by_)) (hj:T e=some j) (hjs:j.size=1)
  (hb:σ[jj]?=some (b,.cells tb cs)) (hfit:off≤cs.length) (hx:evF f x = .sl 1 ys) (hy:ys≠[]) (kk:W (putK N o.dst (.v (.int .i64 0)) f (fun f'=>K f' σ))):OtE P r n df L N o f σ K:=by
 refine ⟨fun rest Q a hsp hw hk=>?_⟩
 refine ae8 hw (by rw [ho];rfl) fun w X fr hst=>?_
 have hpv:=hsp.le p _ _ _ (hst.fr.eval p)
 rw [hp] at hpv
 have hpv:=hpv.val rfl
 have hxv:=hsp.le x _ _ _ (hst.fr.eval x)
 rw [hx] at hxv
 obtain ⟨hu,hsz,_⟩:=ai9 (hT t i ht) hs
 have hsz1:(P.info? e).map (·.size)=some 1:=by
  obtain ⟨inf,u,q1,_,_,q4,_⟩:=ar5 (hT e j hj)
  rw [q1];simp [← q4,hjs]
 obtain ⟨_,ob,hob,vs,rfl,hvs⟩:=hst.st.at_ b _ (List.mem_of_getElem? hb)
 obtain ⟨a0,c,news,hxe,hrd,hnl,hcl⟩:=aT5 hxv (by omega)
 obtain ⟨ad,rfl,hcell⟩:=hcl hy
 have hrun:=run_copy_row (P:=P) w t t2 o.type e b off 0 dc ad ys.length c vs.toArray tb [] hu hsz1 hob (by simp) (fun j v h=>by simp at h) (by simp [hvs.len];omega) (fun v h=>by cases h)
 have ee:(execOp fr.eval o).run P w = .ok (.value (goInt 0)) w:=by
  simp only [execOp,ho,resolve,invoke,builtin,Sem.run_bind,Sem.run_pure,Result.andThen,List.map_toArray,List.map_cons,List.map_nil,hpv,hxe,hrun]
  rw [show (vs.toArray.toList.take off ++ ([]:List Value) ++ vs.toArray.toList.drop (off+([]:List Value).length)).toArray=vs.toArray by simp]
  rw [setRow_self w b _ tb _ hob]
  rfl
 rw [ee]
 obtain ⟨f',hs',h4⟩:=ad4 kk.h hsp
 exact ⟨.v (.int .i64 0),σ,Mv.refl _ _,hst.put (.v _) o.dst,hk _ _ _ h4 hs'⟩
end
theorem aR9 (e:TypeId) (d:D) (m b:Nat) (hm:m≤maxLen):RowIs e 1 (List.replicate m [d]) (.slice (some ⟨b,0,none⟩) m m) [(b,.cells e (List.replicate m d))]:=
 ⟨fun y hy=>by rw [(List.mem_replicate.1 hy).2];rfl,.inr ⟨b,m,[],by simp,by simp,by simp,hm,by simp,fun d hd=>by cases hd⟩⟩
theorem bp5 (x y:Nat) (hx:x<18446744073709551616) (hy:y<18446744073709551616):APure Tryz.prog 117 [.v (.int .u64 x),.v (.int .u64 y)] (.tup [.v (.int .u64 ((x*y / 18446744073709551616:Nat):Int)),.v (.int .u64 ((x*y % 18446744073709551616:Nat):Int))]):=by
 refine ⟨enters_of Tryz.func117 (by kernel_rfl) rfl,fun w O vs hv _=>?_⟩
 obtain ⟨v0,h0,r0⟩:=hv.get (j:=0) rfl
 obtain ⟨v1,h1,r1⟩:=hv.get (j:=1) rfl
 have hl:=hv.len
 have e0:=r0.val rfl
 have e1:=r1.val rfl
 subst e0 e1
 obtain rfl:vs=[.int .u64 x,.int .u64 y]:=by
  match vs,hl,h0,h1 with
  | [a,b],_,h0,h1=>simp at h0 h1;rw [h0,h1]
 refine (Tryz.bits_Mul x y hx hy w).mono ?_
 rintro e w' ⟨rfl,rfl⟩
 exact ⟨_,rfl,.tup _ [_,_] rfl (fun j d u hd hu=>by
  match j,hd,hu with
  | 0,hd,hu=>simp at hd hu;subst hd hu;exact .v _
  | 1,hd,hu=>simp at hd hu;subst hd hu;exact .v _
  | j+2,hd,hu=>simp at hd),Ex.refl _⟩
theorem bx2 (j m k:Nat):spl (List.replicate j (iD 1) ++ List.replicate (m+k) (iD 0)) j (List.replicate m (iD 1))=List.replicate (j+m) (iD 1) ++ List.replicate k (iD 0):=by
 unfold spl
 rw [List.take_left' (by simp),List.drop_append,List.drop_of_length_le (by simp),List.length_replicate,List.length_replicate,List.nil_append,List.drop_replicate,show m+k - (j+m - j)=k by omega,List.replicate_append_replicate]
theorem sk100 {A B:Prop} (k:B) (h:Hd7 B→A:=by intro hk7q;(first|refine sb0 ?_|refine sb1 ?_|((with_reducible refine' Cp.by ?hc ?_);(case hc=>exact bp5 1 n (by decide) (by omega)))|((with_reducible refine' CE.pure ?hc ?_);(case hc=>exact bp5 1 n (by decide) (by omega))));exact hk7q.run):A:=h ⟨k⟩
theorem bZ9 (n:Nat) (hn:n≤1000):ACall Tryz.prog 62 [.sl 1 [[iD 1]],iD n] [] (fun d s=>∃ v,d = .v v∧RowR 3 iD (List.replicate n 1) v s):=by
 have e1:1*n / 18446744073709551616=0:=by omega
 have e2:1*n % 18446744073709551616=n:=by omega
 refine eC7 Tryz.func62 Tryz.ntmps62 fun BB=>?_
 repeat' first|refine sk100 ?_|(intro b;conv=>whnf)|((with_reducible refine' Ot.yd ?hyd ?_);(case hyd=>first|exact bu7 rfl rfl Tryz.underlying3 Tryz.underlying180 (by first|rfl|(rw [IntKind.wrap_u64];omega))|exact bu7 rfl rfl Tryz.underlying180 Tryz.underlying3 (by rw [IntKind.wrap_i64];omega)))
 rw [e2]
 refine Mk.go n rfl rfl rfl rfl rfl rfl (by omega) (by omega) (fun b=>?_)
 repeat' first|refine sk100 ?_|(intro b;conv=>whnf)
 have hms:((((n:Nat):Int).toNat):Nat)=n:=rfl
 rcases Nat.eq_zero_or_pos n with rfl|hn0
 ·refine OtE.copy0 aa0 (jj:=0) (off:=0) rfl rfl rfl rfl rfl rfl rfl (Nat.zero_le _) rfl (by simp) ?_
  repeat' first|refine sk100 ?_|(intro b;conv=>whnf)
  refine af0 mixed aa0 (γ:=Unit) (fun _=>[(8,iD 0)]) (fun _=>[(b,.cells 3 (List.replicate 0 (iD 0)))]) (fun _=>True) (fun _=>0) () (aa2 cl3) cl2 trivial ?_
  rintro - -
  repeat' first|refine sk100 ?_|(intro b;conv=>whnf)
  exact Rt.same ⟨_,rfl,aR9 _ _ 0 b (by unfold maxLen;omega)⟩
 ·have e3:spl (List.replicate n (iD 0)) 0 [iD 1]=List.replicate 1 (iD 1) ++ List.replicate (n - 1) (iD 0):=by
   have:=bx2 0 1 (n - 1)
   rw [show 1+(n - 1)=n by omega] at this
   simpa using this
  have e4:Nat.min ([[iD 1]]:List (List D)).length n=1:=by show min 1 n=1;omega
  refine OtE.copy aa0 (jj:=0) (off:=0) (new:=[iD 1]) (cs:=List.replicate n (iD 0)) rfl rfl rfl rfl rfl rfl rfl (by simp;omega) rfl (by simp) (.inl ⟨[[iD 1]],rfl,by rw [e4];rfl,by rw [e4];rfl⟩) ?_
  repeat' first|refine sk100 ?_|(intro b;conv=>whnf)
  refine af0 mixed aa0 (γ:=Nat) (fun j=>[(8,iD j)]) (fun j=>[(b,.cells 3 (List.replicate j (iD 1) ++ List.replicate (n - j) (iD 0)))]) (fun j=>1≤j∧j≤n) (fun j=>n - j) 1 (aa2 cl3) (by rw [← e3];exact (List.Sublist.refl _)) ⟨by omega,by omega⟩ ?_
  rintro j ⟨hj1,hj2⟩
  by_cases hjn:j<n
  ·obtain ⟨m,hm,hm1,hm2,hm3⟩:∃ m,Nat.min (j - 0) (n - j)=m∧m≤j∧m≤n - j∧1≤m:=⟨_,rfl,by show min _ _≤_;omega,by show min _ _≤_;omega,by show 1≤min _ _;omega⟩
   have e5:spl (List.replicate j (iD 1) ++ List.replicate (n - j) (iD 0)) (0+j*1) (List.replicate m (iD 1))=List.replicate (j+m) (iD 1) ++ List.replicate (n - (j+m)) (iD 0):=by
    have:=bx2 j m (n - (j+m))
    rw [show m+(n - (j+m))=n - j by omega] at this
    simpa using this
   repeat' first|refine sk100 ?_|(intro b;conv=>whnf)|((with_reducible refine' Ot.yd ?hyd ?_);(case hyd=>first|exact bj1 aa0 rfl rfl rfl rfl (.inr ⟨_,_,rfl,rfl⟩) (.inl ⟨rfl,rfl⟩) (by omega) (by omega) (by omega)|exact bj1 aa0 rfl rfl rfl rfl (.inl ⟨rfl,rfl⟩) (.inr ⟨_,_,rfl,rfl⟩) (by omega) (by omega) (by omega)))
   refine OtE.copy aa0 (jj:=0) (off:=0+j*1) (new:=List.replicate m (iD 1)) (cs:=List.replicate j (iD 1) ++ List.replicate (n - j) (iD 0)) rfl rfl rfl rfl rfl rfl rfl (by simp;omega) (by simp [oneD,Value.oneCell',iD]) (by simp;omega) (.inr ⟨0+0*1,j - 0,n - 0,rfl,by show _=List.take (Nat.min (j - 0) (n - j)) _;rw [hm,Nat.zero_mul,Nat.add_zero,List.drop_zero,List.take_append_of_le_length (by simp;omega),List.take_replicate,Nat.min_eq_left hm1],by show _=Nat.min (j - 0) (n - j);rw [hm,List.length_replicate]⟩) ?_
   repeat' first|refine sk100 ?_|(intro b;conv=>whnf)
   rw [List.length_replicate]
   exact ⟨j+m,(aa2 cl6),by rw [← e5];exact (List.Sublist.refl _),⟨by omega,by omega⟩,by omega⟩
  ·obtain rfl:j=n:=by omega
   repeat' first|refine sk100 ?_|(intro b;conv=>whnf)
   rw [Nat.sub_self,List.replicate_zero,List.append_nil]
   refine Rt.same ⟨_,rfl,?_⟩
   show RowIs _ _ (List.map _ (List.replicate j (1:Int))) _ _
   rw [List.map_replicate]
   exact aR9 _ _ j b (by unfold maxLen;omega)
theorem aY8 {f:Int→Int→Int} {a:Int} {l:List Int} {j:Nat} {y:Int} (h:l[j]?=some y):(l.take (j+1)).foldl f a=f ((l.take j).foldl f a) y:=by
 rw [List.take_add_one,h];simp
theorem bo7 {f:Int→Int→Int} {l:List Int} (h:l≠[]) (hf:∀ a,f a a=a):(l.take 1).foldl f (l.headD 0)=l.headD 0:=by
 cases l with
 | nil=>exact absurd rfl h
 | cons a l=>simp [hf]
theorem cl18 {p:Prop} (h:p:=by repeat (first|exact Chk.nil|refine Chk.cons rfl ?_|(refine Chk.cons (congrArg (fun n=>some (iD n)) ?h) ?_;(case h=>(first|omega|(simp only [Int.min_def,Int.max_def];split <;> omega)|((try simp only [List.length_map,List.length_take,List.length_append,List.length_cons,List.length_nil,List.length_replicate,Nat.reduceAdd]);omega)))))):p:=h
theorem aP6 (l:List Int) (h:l≠[]) (hl:l.length≤1000000):APure Tryz.prog 64 [slI l] (iD (l.foldl min (l.headD 0))):=by
 have h0:0<l.length:=List.length_pos_iff.2 h
 obtain ⟨a,ha⟩:∃ a,l[(0:Int).toNat]?=some a:=⟨_,List.getElem?_eq_getElem (by simpa using h0)⟩
 have hd:l.headD 0=a:=by cases l with|nil=>exact absurd rfl h|cons b l=>simpa using ha
 refine eP7 Tryz.func64 Tryz.ntmps64 fun BB=>?_
 repeat' first|refine sk2 ?_|(intro b;conv=>whnf)
 refine af0 mixed aa0 (γ:=Nat) (fun j=>[(3,iD ((l.take j).foldl min (l.headD 0))),(4,iD j)]) (fun _=>[]) (fun j=>1≤j∧j≤l.length) (fun j=>l.length - j) 1 (by rw [bo7 h (fun a=>Int.min_self a),hd];exact (aa2 cl3)) cl2 ⟨by omega,by omega⟩ ?_
 rintro j ⟨h1,h2⟩
 by_cases hjl:j<l.length
 ·obtain ⟨y,hy⟩:∃ y,l[j]?=some y:=⟨_,List.getElem?_eq_getElem hjl⟩
  have hy':l[((j:Nat):Int).toNat]?=some y:=hy
  have e:=aY8 (f:=min) (a:=l.headD 0) hy
  repeat' first|refine sk2 ?_|(intro b;conv=>whnf)
  exact ⟨j+1,by rw [e];exact (aa2 cl18),cl2,⟨by omega,by omega⟩,by omega⟩
 ·obtain rfl:j=l.length:=by omega
  repeat' first|refine sk2 ?_|(intro b;conv=>whnf)
  refine Rt.pure (congrArg iD ?_);rw [List.take_length]
theorem aP7 (l:List Int) (h:l≠[]) (hl:l.length≤1000000):APure Tryz.prog 65 [slI l] (iD (l.foldl max (l.headD 0))):=by
 have h0:0<l.length:=List.length_pos_iff.2 h
 obtain ⟨a,ha⟩:∃ a,l[(0:Int).toNat]?=some a:=⟨_,List.getElem?_eq_getElem (by simpa using h0)⟩
 have hd:l.headD 0=a:=by cases l with|nil=>exact absurd rfl h|cons b l=>simpa using ha
 refine eP7 Tryz.func65 Tryz.ntmps65 fun BB=>?_
 repeat' first|refine sk2 ?_|(intro b;conv=>whnf)
 refine af0 mixed aa0 (γ:=Nat) (fun j=>[(3,iD ((l.take j).foldl max (l.headD 0))),(4,iD j)]) (fun _=>[]) (fun j=>1≤j∧j≤l.length) (fun j=>l.length - j) 1 (by rw [bo7 h (fun a=>Int.max_self a),hd];exact (aa2 cl3)) cl2 ⟨by omega,by omega⟩ ?_
 rintro j ⟨h1,h2⟩
 by_cases hjl:j<l.length
 ·obtain ⟨y,hy⟩:∃ y,l[j]?=some y:=⟨_,List.getElem?_eq_getElem hjl⟩
  have hy':l[((j:Nat):Int).toNat]?=some y:=hy
  have e:=aY8 (f:=max) (a:=l.headD 0) hy
  repeat' first|refine sk2 ?_|(intro b;conv=>whnf)
  exact ⟨j+1,by rw [e];exact (aa2 cl18),cl2,⟨by omega,by omega⟩,by omega⟩
 ·obtain rfl:j=l.length:=by omega
  repeat' first|refine sk2 ?_|(intro b;conv=>whnf)
  refine Rt.pure (congrArg iD ?_);rw [List.take_length]
end
section
open Go Go.Maps Go.MapKept
theorem sk101 {A B:Prop} (k:B) (h:Hd7 B→A:=by intro hk7q;(first|refine sb0 ?_|refine sb1 ?_|((with_reducible refine' Cp.by ?hc ?_);(case hc=>first|exact HN))|((with_reducible refine' CE.pure ?hc ?_);(case hc=>first|exact HN)));exact hk7q.run):A:=h ⟨k⟩
def az7 (x:Sch) (w:Wd) (k:Nat) (q:Qry) (l:List (List Int)):List Int:=(l.filter fun r=>holdV x w k r q.cond).map fun r=>if q.op=0 then 1 else endV x w k r q.path
theorem aA6 (x:Sch) (w:Wd) (k:Nat) (q:Qry) (l:List (List Int)):(az7 x w k q l).length≤l.length:=by
 unfold az7;rw [List.length_map];exact List.length_filter_le ..
theorem aP2 {x:Sch} {w:Wd} {k:Nat} {q:Qry} {l:List (List Int)} {i:Nat} {r:List Int} (h:l[i]?=some r):az7 x w k q (l.take (i+1))=az7 x w k q (l.take i) ++ (if holdV x w k r q.cond then [if q.op=0 then 1 else endV x w k r q.path] else []):=by
 unfold az7
 rw [ac7 h,List.filter_append,List.map_append,List.filter_cons,List.filter_nil]
 cases holdV x w k r q.cond <;> rfl
theorem bk0 {x:Sch} {w:Wd} (hfit:fitW x w=true) {k:Nat} (hk:k<x.kinds.length) {q:Qry} (hld:ai4 x k q.path=true) {l:List (List Int)} (hl:w[k]?=some l):∀ z∈az7 x w k q l,-1099511627776≤z∧z≤1099511627776:=by
 intro z hz
 unfold az7 at hz
 obtain ⟨r,hr,rfl⟩:=List.mem_map.1 hz
 split
 ·omega
 ·exact aX0 hfit q.path k hk hld l hl r (List.mem_filter.1 hr).1
theorem bT8 {l:List Int} (h:∀ z∈l,-1099511627776≤z∧z≤1099511627776):-1099511627776*(l.length:Int)≤l.sum∧l.sum≤1099511627776*(l.length:Int):=by
 induction l with
 | nil=>simp
 | cons a l ih=>
  have h1:=h a List.mem_cons_self
  have h2:=ih fun z hz=>h z (List.mem_cons_of_mem _ hz)
  simp only [List.sum_cons,List.length_cons]
  omega
theorem bl1 {l:List Int} {j:Nat} {y:Int} (h:l[j]?=some y):(l.take (j+1)).sum=(l.take j).sum+y:=by rw [List.take_add_one,h];simp
theorem sk102 {A B:Prop} (k:B) (h:Hd7 B→A:=by intro hk7q;(first|refine sb0 ?_|refine sb1 ?_|((with_reducible refine' Cp.by ?hc ?_);(case hc=>first|exact HQ|exact HK|exact aP6 _ (by assumption) (by omega)|exact aP7 _ (by assumption) (by omega)))|((with_reducible refine' CE.pure ?hc ?_);(case hc=>first|exact HQ|exact HK|exact aP6 _ (by assumption) (by omega)|exact aP7 _ (by assumption) (by omega))));exact hk7q.run):A:=h ⟨k⟩
theorem sk103 {A B:Prop} (k:B) (h:Hd7 B→A:=by intro hk7q;(first|refine sb0 ?_|refine sb33 ?_|((with_reducible refine' Cp.by ?hc ?_);(case hc=>first|exact HQ|exact HK|exact aP6 _ (by assumption) (by omega)|exact aP7 _ (by assumption) (by omega)))|((with_reducible refine' CE.pure ?hc ?_);(case hc=>first|exact HQ|exact HK|exact aP6 _ (by assumption) (by omega)|exact aP7 _ (by assumption) (by omega))));exact hk7q.run):A:=h ⟨k⟩
theorem sk104 {A B:Prop} (k:B) (h:Hd7 B→A:=by intro hk7q;(first|refine sb0 ?_|refine sb98 ?_|((with_reducible refine' Cp.by ?hc ?_);(case hc=>first|exact HQ|exact HK|exact aP6 _ (by assumption) (by omega)|exact aP7 _ (by assumption) (by omega)))|((with_reducible refine' CE.pure ?hc ?_);(case hc=>first|exact HQ|exact HK|exact aP6 _ (by assumption) (by omega)|exact aP7 _ (by assumption) (by omega))));exact hk7q.run):A:=h ⟨k⟩
theorem sq8 {A B:Prop} (k:B) (h:Hd7 B→A:=by intro hk7q;(first|refine sk102 ?_|(with_reducible refine Br.t (beq_self_eq_true _) ?_)|(with_reducible refine Br.f Bool.not_true ?_)|(with_reducible refine Br.t (decide_eq_true trivial) ?_)|(with_reducible refine Br.t (decide_eq_true rfl) ?_));exact hk7q.run):A:=h ⟨k⟩
theorem sq9 {A B:Prop} (k:B) (h:Hd7 B→A:=by intro hk7q;(first|refine sk103 ?_|(with_reducible refine Br.t (beq_self_eq_true _) ?_)|(with_reducible refine Br.f Bool.not_true ?_)|(with_reducible refine Br.t (decide_eq_true trivial) ?_)|(with_reducible refine Br.t (decide_eq_true rfl) ?_));exact hk7q.run):A:=h ⟨k⟩
theorem sq10 {A B:Prop} (k:B) (h:Hd7 B→A:=by intro hk7q;(first|refine sk104 ?_|(with_reducible refine Br.t (beq_self_eq_true _) ?_)|(with_reducible refine Br.f Bool.not_true ?_)|(with_reducible refine Br.t (decide_eq_true trivial) ?_)|(with_reducible refine Br.t (decide_eq_true rfl) ?_));exact hk7q.run):A:=h ⟨k⟩
theorem aY2 (x:Sch) (w:Wd) (q:Qry) (hw:Ws w) (hp:ah6 x=[]) (hs:q.cond.size≤1000000) (hpl:q.path.length≤1000000) (hA:q.cond.All CndS) (HV:APure Tryz.prog 143 [schD x] (iD (ai3 x))) :
  APure Tryz.prog 24 [schD x,slW w,qryD q] (.tup [iD (ao8 x w q).1,bD (ao8 x w q).2.1,iD (ao8 x w q).2.2]):=by
 have HN:=bA7 x w hw hp HV
 have hV:=(aF0 hp).vld
 have hnk:=hV.nk
 have hnf:∀ k∈x.kinds,k.fields.length≤1000000:=fun k hk=>by have:=hV.nf k hk;omega
 have HQ:=cb2 x q hp (by omega) hnf hs hpl hA HV
 have hwl:=hw.nk
 have hcd:cndC q.cond=[iD q.cond.op,.sl 5 (bc0 q.cond),slS q.cond.path,slS q.cond.other,iD q.cond.n]:=rfl
 refine eP7 Tryz.func24 Tryz.ntmps24 fun BB=>?_
 repeat' first|refine sq8 ?_|(intro b;conv=>whnf)|(with_reducible refine Br.f (decide_eq_false (fun h=>h rfl)) ?_)
 refine CE.own HN (List.Perm.refl ([] ++ [])) (fun s'=>s') (fun s'=>by simp) ?_
 rintro d σ (⟨hfit,rfl,rfl⟩|⟨hfit,c,rm,lm,F,sa,rfl,rfl,-⟩)
 ·have hE:ao8 x w q=(0,false,2):=by unfold ao8;rw [if_pos hfit]
  rw [hE]
  repeat' first|refine sq8 ?_|(intro b;conv=>whnf)|(with_reducible refine Br.f (decide_eq_false (fun h=>h rfl)) ?_)
  exact Rt.pure rfl
 ·by_cases hq0:az2 x q≠0
  ·have hE:ao8 x w q=(0,false,az2 x q):=by unfold ao8;rw [if_neg (by rw [hfit];decide),if_pos hq0]
   rw [hE]
   repeat' first|refine sq8 ?_|(intro b;conv=>whnf)|(with_reducible refine Br.f (decide_eq_false (fun h=>h rfl)) ?_)
   exact Rt.pure rfl
  ·have hq:az2 x q=0:=by omega
   have hq2:=hq
   unfold az2 at hq2
   split at hq2
   ·omega
   split at hq2
   ·omega
   split at hq2
   ·omega
   split at hq2
   ·rename_i h1 h2 h3 h4
    obtain ⟨k,hk⟩:∃ k:Nat,ab1 x q.kind=k:=⟨_,(Int.toNat_of_nonneg (by omega)).symm⟩
    have hkl:ab1 x q.kind<x.kinds.length:=aw5 _ _
    have HK:=ai0 x q.kind (by omega)
    have hE:ao8 x w q=((ay1 q (aS6 x w k q)).1,(ay1 q (aS6 x w k q)).2,0):=by unfold ao8;rw [if_neg (by rw [hfit];decide),if_neg (by omega),hk,Int.toNat_natCast]
    rw [hE]
    rw [hk] at HK hkl h4
    rw [Int.toNat_natCast,Bool.and_eq_true] at h4
    obtain ⟨hl1,hl2⟩:=h4
    obtain ⟨hlen,hrows,hrefs⟩:=ak8 hfit
    obtain ⟨l,hl⟩:∃ l,w[k]?=some l:=⟨_,List.getElem?_eq_getElem (by omega)⟩
    have hll:=hw.nr l (List.mem_of_getElem? hl)
    have hV2:aS6 x w k q=az7 x w k q l:=by unfold aS6 az7;rw [aa6 hl]
    rw [hV2]
    rw [Bool.not_eq_false] at h1 h2
    have hform:formedB q.cond=true:=by unfold aO0 at h2;simp only [Bool.and_eq_true] at h2;exact h2.2
    have hHl:(ao4 x w k q.cond).length=l.length:=by rw [av8 hl];simp
    repeat' first|refine sq9 ?_|(intro b;conv=>whnf)|(with_reducible refine Br.f (decide_eq_false (fun h=>h rfl)) ?_)
    refine dr7 ?_
    refine aw4 (Sc.sl (List.nil_sublist _)) ?_
    refine ah2 mixed aa0 rfl [0,1,2,3,4,5] 4 (inE [6]) (.one 6 (.fst 7 (.fst 8 (.fst 9 .done)))) (γ:=Nat) (fun bm=>[(12,.ro (tbC x w k bm))]) (fun bm=>[(bm,Blk.mp Tryz.prog 9 fun _=>none)]) (fun _=>True) (by decide +kernel) ?_ ?_
    ·repeat' first|refine sk103 ?_|(intro b;conv=>whnf)|(refine OtE.makeMapM (k:=9) rfl (fun bm=>?_);conv=>whnf)|(refine And.intro ?_ ?_ <;> (conv=>whnf))
     exact ⟨bm,(aa2 cl3),Sc.refl _,trivial⟩
    rintro bm -
    have HH:=bk9 x w hw hp hfit k (by omega) bm q.cond.size q.cond (Nat.le_refl _) hform hl2 hA (fun _=>none) (fun key d h=>by cases h)
    have HR:=bZ9 l.length (by omega)
    repeat' first|refine sq9 ?_|(intro b;conv=>whnf)|(with_reducible refine Br.f (decide_eq_false (fun h=>h rfl)) ?_)
    refine CE.own HH (List.Perm.refl ([_] ++ [])) (fun s'=>s' ++ []) (fun s'=>List.Perm.refl _) ?_
    rintro _ _ ⟨G,rfl,rfl,hG⟩
    repeat' first|refine sq9 ?_|(intro b;conv=>whnf)|(with_reducible refine Br.f (decide_eq_false (fun h=>h rfl)) ?_)
    rw [List.length_map,hHl]
    refine CE.own HR (List.Perm.refl ([] ++ [_])) (fun s'=>s' ++ [_]) (fun s'=>List.Perm.refl _) ?_
    rintro _ _ ⟨v1,h1r⟩
    obtain ⟨rfl,h1r⟩:=h1r
    rename_i s1
    by_cases hop:q.op=0
    ·repeat' first|refine sq9 ?_|(intro b;conv=>whnf)|(with_reducible refine Br.f (decide_eq_false (fun h=>h rfl)) ?_)
     refine aa5 mixed aa0 (γ:=Nat × Value × aa1) (fun g=>[(15,.v g.2.1),(62,iD g.1)]) (fun g=>g.2.2 ++ s1) (fun g=>g.1≤l.length∧RowR 3 iD (az7 x w k q (l.take g.1)) g.2.1 g.2.2) (fun g=>l.length - g.1) (0,.slice none 0 0,[]) (aa2 cl3) (Sc.sl (List.sublist_append_left _ _)) ⟨Nat.zero_le _,RowIs.nil _ _⟩ ?_
     rintro ⟨i,v,s⟩ ⟨hi,hrow⟩
     simp only at hi hrow ⊢
     by_cases hil:i<l.length
     ·obtain ⟨r,hr⟩:∃ r,l[i]?=some r:=⟨_,List.getElem?_eq_getElem hil⟩
      have hh:(ao4 x w k q.cond)[((i:Nat):Int).toNat]?=some (holdV x w k r q.cond):=by unfold ao4;rw [aa6 hl,Int.toNat_natCast,List.getElem?_map,hr];rfl
      have hsn:=aP2 (x:=x) (w:=w) (k:=k) (q:=q) hr
      rw [if_pos hop] at hsn
      have hlt:=aA6 x w k q (l.take i)
      rw [List.length_take] at hlt
      obtain ⟨b5,cap5,cs5,rfl,rfl,hc5,_⟩:=am4 h1r (i:=i) (b:=1) (by rw [List.getElem?_replicate,if_pos hil])
      rw [List.length_replicate] at *
      cases hv:holdV x w k r q.cond with
      | false=>
       rw [hv] at hh hsn
       repeat' first|refine sq9 ?_|(intro b;conv=>whnf)|(with_reducible refine Br.f (decide_eq_false (fun h=>h rfl)) ?_)
       exact ⟨(i+1,v,s),(aa2 cl3),Sc.refl _,⟨by simp only;omega,by rw [hsn];simpa using hrow⟩,by simp only;omega⟩
      | true=>
       rw [hv] at hh hsn
       repeat' first|refine sq9 ?_|(intro b;conv=>whnf)|(with_reducible refine Br.f (decide_eq_false (fun h=>h rfl)) ?_)
       refine Ld.cellm (tb:=3) (cs:=cs5) (by simp) (by rw [ix1];exact hc5) ?_
       repeat' first|refine sq9 ?_|(intro b;conv=>whnf)|(with_reducible refine Br.f (decide_eq_false (fun h=>h rfl)) ?_)
       refine Ap.go rfl rfl rfl rfl hrow (List.Perm.refl _) rfl (zs:=(az7 x w k q (l.take (i+1))).map fun b=>[iD b]) (by rw [hsn];simp) (by rw [hsn];simp;omega) (by rw [hsn];simp;omega) (fun s'=>s' ++ _) (fun s'=>List.Perm.refl _) (fun a3 c3 s3 h3=>?_)
       repeat' first|refine sq9 ?_|(intro b;conv=>whnf)|(with_reducible refine Br.f (decide_eq_false (fun h=>h rfl)) ?_)
       exact ⟨(i+1,_,s3),(aa2 cl3),Sc.refl _,⟨by simp only;omega,h3⟩,by simp only;omega⟩
     ·obtain rfl:i=l.length:=by omega
      rw [List.take_length] at hrow
      have hin:=bk0 hfit (by omega) (q:=q) hl1 hl
      have hln:=aA6 x w k q l
      generalize az7 x w k q l=L at *
      repeat' first|refine sq10 ?_|(intro b;conv=>whnf)|(with_reducible refine Br.f (decide_eq_false (fun h=>h rfl)) ?_)
      refine Bc.j ?_
      refine af2 (i:=15) (d:=.v v) (d':=slI L) rfl (fun h=>by cases h) (Vs.row hrow (show List.Perm (s ++ _) (s ++ _) from List.Perm.refl _)) ?_
      refine ao2 mixed aa0 ?_
      have h01:q.op=0∨q.op=1:=.inl hop
      have hA':ay1 q L=(L.sum,true):=by unfold ay1;rw [if_pos h01]
      rw [hA']
      have hb:∀ j,(L.take j).length≤1000∧(-1099511627776*((L.take j).length:Int)≤(L.take j).sum∧(L.take j).sum≤1099511627776*((L.take j).length:Int)):=fun j=>⟨by rw [List.length_take];omega,bT8 fun z hz=>hin z (List.mem_of_mem_take hz)⟩
      repeat' first|refine sq9 ?_|(intro b;conv=>whnf)|(with_reducible refine Br.f (decide_eq_false (fun h=>h rfl)) ?_)
      refine aa5 mixed aa0 (γ:=Nat) (fun j=>[(18,iD (L.take j).sum),(87,iD j)]) (fun _=>[]) (fun j=>j≤L.length) (fun j=>L.length - j) 0 (aa2 cl3) (Sc.sl (List.nil_sublist _)) (Nat.zero_le _) ?_
      intro j hj
      simp only at hj ⊢
      by_cases hjl:j<L.length
      ·obtain ⟨y,hy⟩:∃ y,L[j]?=some y:=⟨_,List.getElem?_eq_getElem hjl⟩
       have hy':L[((j:Nat):Int).toNat]?=some y:=hy
       have e:=bl1 hy
       have hy2:=hin y (List.mem_of_getElem? hy)
       obtain ⟨q1,q2,q3⟩:=hb j
       repeat' first|refine sq9 ?_|(intro b;conv=>whnf)|(with_reducible refine Br.f (decide_eq_false (fun h=>h rfl)) ?_)
       exact ⟨j+1,by rw [e];exact (aa2 cl6),Sc.refl _,by omega,by omega⟩
      ·obtain rfl:j=L.length:=by omega
       rw [List.take_length]
       repeat' first|refine sq9 ?_|(intro b;conv=>whnf)|(with_reducible refine Br.f (decide_eq_false (fun h=>h rfl)) ?_)
       exact Rt.pure rfl
    ·have hpb:au5 q.path=true:=by
      unfold aO0 at h2
      simp only [Bool.and_eq_true,Bool.or_eq_true,decide_eq_true_eq] at h2
      rcases h2.1.1 with ⟨_,h⟩|⟨h,_⟩
      ·exact h
      ·exact absurd h hop
     have HE:=aY7 x w hw hp hfit k (by omega) q.path hpb hl1 bm G hG
     repeat' first|refine sq9 ?_|(intro b;conv=>whnf)|(with_reducible refine Br.f (decide_eq_false (fun h=>h rfl)) ?_)
     refine CE.own HE (List.perm_append_comm (l₁:=s1) (l₂:=[_])) (fun s'=>s' ++ s1) (fun s'=>List.Perm.refl _) ?_
     rintro _ _ ⟨G2,rfl,rfl,hG2⟩
     repeat' first|refine sq9 ?_|(intro b;conv=>whnf)|(with_reducible refine Br.f (decide_eq_false (fun h=>h rfl)) ?_)
     refine aa5 mixed aa0 (γ:=Nat × Value × aa1) (fun g=>[(15,.v g.2.1),(62,iD g.1)]) (fun g=>g.2.2) (fun g=>g.1≤l.length∧RowR 3 iD (az7 x w k q (l.take g.1)) g.2.1 g.2.2) (fun g=>l.length - g.1) (0,.slice none 0 0,[]) (aa2 cl3) (Sc.sl (List.nil_sublist _)) ⟨Nat.zero_le _,RowIs.nil _ _⟩ ?_
     rintro ⟨i,v,s⟩ ⟨hi,hrow⟩
     simp only at hi hrow ⊢
     by_cases hil:i<l.length
     ·obtain ⟨r,hr⟩:∃ r,l[i]?=some r:=⟨_,List.getElem?_eq_getElem hil⟩
      have hh:(ao4 x w k q.cond)[((i:Nat):Int).toNat]?=some (holdV x w k r q.cond):=by unfold ao4;rw [aa6 hl,Int.toNat_natCast,List.getElem?_map,hr];rfl
      have he:(endL x w k q.path)[((i:Nat):Int).toNat]?=some (endV x w k r q.path):=by unfold endL;rw [aa6 hl,Int.toNat_natCast,List.getElem?_map,hr];rfl
      have hsn:=aP2 (x:=x) (w:=w) (k:=k) (q:=q) hr
      rw [if_neg hop] at hsn
      have hlt:=aA6 x w k q (l.take i)
      rw [List.length_take] at hlt
      cases hv:holdV x w k r q.cond with
      | false=>
       rw [hv] at hh hsn
       repeat' first|refine sq9 ?_|(intro b;conv=>whnf)|(with_reducible refine Br.f (decide_eq_false (fun h=>h rfl)) ?_)
       exact ⟨(i+1,v,s),(aa2 cl3),Sc.refl _,⟨by simp only;omega,by rw [hsn];simpa using hrow⟩,by simp only;omega⟩
      | true=>
       rw [hv] at hh hsn
       repeat' first|refine sq9 ?_|(intro b;conv=>whnf)|(with_reducible refine Br.f (decide_eq_false (fun h=>h rfl)) ?_)
       refine Ap.go rfl rfl rfl rfl hrow (by simp:s.Perm (s ++ [])) rfl (zs:=(az7 x w k q (l.take (i+1))).map fun b=>[iD b]) (by rw [hsn];simp) (by rw [hsn];simp;omega) (by rw [hsn];simp;omega) (fun s'=>s') (fun s'=>by simp) (fun a3 c3 s3 h3=>?_)
       repeat' first|refine sq9 ?_|(intro b;conv=>whnf)|(with_reducible refine Br.f (decide_eq_false (fun h=>h rfl)) ?_)
       exact ⟨(i+1,_,s3),(aa2 cl3),Sc.refl _,⟨by simp only;omega,h3⟩,by simp only;omega⟩
     ·obtain rfl:i=l.length:=by omega
      rw [List.take_length] at hrow
      have hin:=bk0 hfit (by omega) (q:=q) hl1 hl
      have hln:=aA6 x w k q l
      generalize az7 x w k q l=L at *
      repeat' first|refine sq10 ?_|(intro b;conv=>whnf)|(with_reducible refine Br.f (decide_eq_false (fun h=>h rfl)) ?_)
      refine Bc.j ?_
      refine af2 (i:=15) (d:=.v v) (d':=slI L) rfl (fun h=>by cases h) (Vs.row hrow (by simp:s.Perm (s ++ []))) ?_
      refine ao2 mixed aa0 ?_
      by_cases h01:q.op=0∨q.op=1
      ·have hA':ay1 q L=(L.sum,true):=by unfold ay1;rw [if_pos h01]
       rw [hA']
       have hb:∀ j,(L.take j).length≤1000∧(-1099511627776*((L.take j).length:Int)≤(L.take j).sum∧(L.take j).sum≤1099511627776*((L.take j).length:Int)):=fun j=>⟨by rw [List.length_take];omega,bT8 fun z hz=>hin z (List.mem_of_mem_take hz)⟩
       repeat' first|refine sq9 ?_|(intro b;conv=>whnf)|(with_reducible refine Br.f (decide_eq_false (fun h=>h rfl)) ?_)
       refine aa5 mixed aa0 (γ:=Nat) (fun j=>[(18,iD (L.take j).sum),(87,iD j)]) (fun _=>[]) (fun j=>j≤L.length) (fun j=>L.length - j) 0 (aa2 cl3) (Sc.sl (List.nil_sublist _)) (Nat.zero_le _) ?_
       intro j hj
       simp only at hj ⊢
       by_cases hjl:j<L.length
       ·obtain ⟨y,hy⟩:∃ y,L[j]?=some y:=⟨_,List.getElem?_eq_getElem hjl⟩
        have hy':L[((j:Nat):Int).toNat]?=some y:=hy
        have e:=bl1 hy
        have hy2:=hin y (List.mem_of_getElem? hy)
        obtain ⟨q1,q2,q3⟩:=hb j
        repeat' first|refine sq9 ?_|(intro b;conv=>whnf)|(with_reducible refine Br.f (decide_eq_false (fun h=>h rfl)) ?_)
        exact ⟨j+1,by rw [e];exact (aa2 cl6),Sc.refl _,by omega,by omega⟩
       ·obtain rfl:j=L.length:=by omega
        rw [List.take_length]
        repeat' first|refine sq9 ?_|(intro b;conv=>whnf)|(with_reducible refine Br.f (decide_eq_false (fun h=>h rfl)) ?_)
        exact Rt.pure rfl
      ·have h23:q.op=2∨q.op=3:=by
        unfold aO0 aa7 at h2
        simp only [Bool.and_eq_true,Bool.or_eq_true,decide_eq_true_eq] at h2
        omega
       by_cases hL:L=[]
       ·have hA':ay1 q L=(0,false):=by unfold ay1;rw [if_neg h01,if_pos hL]
        rw [hA']
        subst hL
        repeat' first|refine sq9 ?_|(intro b;conv=>whnf)|(with_reducible refine Br.f (decide_eq_false (fun h=>h rfl)) ?_)
        exact Rt.pure rfl
       ·have hL1:0<L.length:=List.length_pos_iff.2 hL
        rcases h23 with h0|h0
        ·have hA':ay1 q L=(L.foldl min (L.headD 0),true):=by unfold ay1;rw [if_neg h01,if_neg hL,if_pos h0]
         rw [hA']
         repeat' first|refine sq9 ?_|(intro b;conv=>whnf)|(with_reducible refine Br.f (decide_eq_false (fun h=>h rfl)) ?_)
         exact Rt.pure rfl
        ·have hA':ay1 q L=(L.foldl max (L.headD 0),true):=by unfold ay1;rw [if_neg h01,if_neg hL,if_neg (by omega)]
         rw [hA']
         repeat' first|refine sq9 ?_|(intro b;conv=>whnf)|(with_reducible refine Br.f (decide_eq_false (fun h=>h rfl)) ?_)
         exact Rt.pure rfl
   ·omega
end
end Go.Proofs.YtlcfiilejnnlnaaGreatDoor
