/- A part of the proof: Yc Ec Ye Yf Yg Yh Yi Yj Yk Yl. -/
import Derived.Test.YtlcfiilejnnlnaaGreatDoorB06
set_option maxRecDepth 100000
set_option maxHeartbeats 20000000
set_option linter.unusedVariables false
set_option linter.unusedSimpArgs false
namespace Go.Proofs.YtlcfiilejnnlnaaGreatDoor
section
open Go
theorem aw8 {h kk:Nat} {t ds:List Nat} {neg:Bool} (hk:kk=if h<128 then 127 - h else h - 128) (hneg:neg=decide (h<128)) (hds:ds=(t.take kk).map (aa7 neg)) :
  getI (h :: t)=if 8<kk then (0,0,2) else if t.length<kk then (0,0,3) else if ds.head?=some 0 then (0,0,2) else if 9223372036854775808≤aa8 ds then (0,0,2) else (if neg then -1 - (aa8 ds:Int) else (aa8 ds:Int),kk+1,0):=by
 subst hk hneg hds
 unfold getI
 simp only [decide_eq_true_eq]
theorem aD0 {ds:List Nat} {q d:Nat} (h:ds[q]?=some d):aa8 (ds.take (q+1))=256*aa8 (ds.take q)+d:=by
 rw [List.take_add_one,h]
 exact bc5 _ _
section
variable {P:Program} {t:TypeId} {p q:Operand} {w:World}
theorem bG2 {m d:Nat} (hm:m<72057594037927936) (hd:d<256):(do eqGuard .or t p q (.int .u64 ((m*2 ^ 8:Nat):Int)) (.int .u64 (d:Int));binOp .or t (.int .u64 ((m*2 ^ 8:Nat):Int)) (.int .u64 (d:Int))).run P w = .ok (.int .u64 ((256*m+d:Nat):Int)) w:=by
 have h1:=aG7 (P:=P) (t:=t) (p:=p) (q:=q) (w:=w) .u64 .or (fun x y=>x ||| y) (.inr (.inl ⟨rfl,rfl⟩)) rfl (m*2 ^ 8) d (by show m*256<18446744073709551616;omega) (by show d<18446744073709551616;omega)
 have e:m*2 ^ 8 ||| d=256*m+d:=by
  rw [← Nat.shiftLeft_eq,← Nat.shiftLeft_add_eq_or_of_lt (by simpa using hd),Nat.shiftLeft_eq]
  omega
 simp only [e] at h1
 exact h1
theorem shl8 {m:Nat} (hm:m<72057594037927936):(do eqGuard .shl t p q (.int .u64 (m:Int)) (.int .u64 8);binOp .shl t (.int .u64 (m:Int)) (.int .u64 8)).run P w = .ok (.int .u64 ((m*2 ^ 8:Nat):Int)) w:=
 bS0 .u64 m .u64 8 (by decide) (by rw [IntKind.wrap_u64];omega)
theorem bE1 {m:Nat}:(do eqGuard .shr t p q (.int .u64 (m:Int)) (.int .u64 63);binOp .shr t (.int .u64 (m:Int)) (.int .u64 63)).run P w = .ok (.int .u64 ((m / 2 ^ 63:Nat):Int)) w:=
 ap0 .u64 m .u64 63 (by decide)
theorem bk0 {m:Nat} (h:m<9223372036854775808):(Op.unary .xor (.int .u64 (m:Int))).run P w = .ok (.int .u64 ((18446744073709551615 - m:Nat):Int)) w:=by
 have h1:=bd5 (P:=P) (w:=w) .u64 rfl m (by show _<18446744073709551616;omega)
 exact h1
end
theorem cl9 {p:Prop} (h:p:=by rw [hv];exact (aa2 (by repeat (first|exact Chk.nil|refine Chk.cons rfl ?_|(refine Chk.cons (congrArg (fun n=>some (iD n)) ?h) ?_;(case h=>(first|omega|((try simp only [List.length_map,List.length_take,List.length_append,List.length_cons,List.length_nil,List.length_replicate,Nat.reduceAdd]);omega)))))))):p:=h
theorem bq3 (b:List Nat) (hb:∀ d∈b,d<256) (hl:b.length≤1000000):APure Tryz.prog 49 [slY b] (.tup [iD (getI b).1,iD ((getI b).2.1:Nat),iD (getI b).2.2]):=by
 cases b with
 | nil=>
  refine eP7 Tryz.func49 Tryz.ntmps49 fun BB=>?_
  repeat' first|refine sk2 ?_|(intro b;conv=>whnf)
  exact Rt.pure rfl
 | cons h t=>
  have hh:=hb h List.mem_cons_self
  have ht:∀ d∈t,d<256:=fun d hd=>hb d (List.mem_cons_of_mem _ hd)
  have hb0:(h :: t)[((0:Int)).toNat]?=some h:=rfl
  obtain ⟨kk,hkk⟩:∃ kk,kk=if h<128 then 127 - h else h - 128:=⟨_,rfl⟩
  simp only [List.length_cons] at hl
  by_cases h0:h<128
  ·obtain ⟨neg,hneg⟩:∃ b,b=decide (h<128):=⟨_,rfl⟩
   have hnt:neg=true:=by rw [hneg];exact decide_eq_true h0
   have hx:∀ {d:Nat} {t p q} {w:World},d<256→(do eqGuard .xor t p q (.int .u8 (d:Int)) (.int .u8 255);binOp .xor t (.int .u8 (d:Int)) (.int .u8 255)).run Tryz.prog w = .ok (.int .u8 ((aa7 neg d:Nat):Int)) w:=fun h=>by rw [hnt];exact x255 h
   have hfl:aa7 neg h=255 - h:=by rw [hnt];rfl
   have hk2:((aa7 neg h:Nat):Int) - 128=(kk:Int):=by rw [hfl,hkk,if_pos h0];omega
   refine eP7 Tryz.func49 Tryz.ntmps49 fun BB=>?_
   rw [aw8 hkk hneg rfl]
   repeat' first|refine sk2 ?_|(intro b;conv=>whnf)
   refine Ot.yd (aa3 (r:=.int .u8 ((aa7 neg h:Nat):Int)) rfl rfl rfl (fun w=>hx hh)) ?_
   repeat' first|refine sk2 ?_|(intro b;conv=>whnf)
   refine Ot.yd (ab5 (m:=((aa7 neg h:Nat):Int)) rfl rfl Tryz.underlying5 Tryz.underlying3 (by rw [IntKind.wrap_i64];omega)) ?_
   repeat' first|refine sk2 ?_|(intro b;conv=>whnf)
   rw [hk2]
   by_cases c1:8<kk
   ·rw [if_pos c1]
    repeat' first|refine sk2 ?_|(intro b;conv=>whnf)
    exact Rt.pure rfl
   rw [if_neg c1]
   by_cases c2:t.length<kk
   ·rw [if_pos c2]
    repeat' first|refine sk2 ?_|(intro b;conv=>whnf)
    exact Rt.pure rfl
   rw [if_neg c2]
   obtain ⟨ds,hds⟩:∃ ds,ds=(t.take kk).map (aa7 neg):=⟨_,rfl⟩
   rw [← hds]
   have hdl:ds.length=kk:=by rw [hds,List.length_map,List.length_take];omega
   have hdlt:∀ d∈ds,d<256:=by
    intro d hd
    rw [hds] at hd
    obtain ⟨e,g1,g2⟩:=List.mem_map.1 hd
    rw [← g2];exact aj1 (ht e (List.mem_of_mem_take g1))
   by_cases kz:kk=0
   ·rw [if_neg (by rw [List.length_eq_zero_iff.1 (hdl.trans kz)];simp)]
    repeat' first|refine sk2 ?_|(intro b;conv=>whnf)
    have htl:(t.take kk).length=kk:=by rw [List.length_take];omega
    refine Ot.yd (aj4 aa0 (l:=1) (h:=kk+1) (ys:=(t.take kk).map yC) rfl rfl rfl rfl rfl (.inr ⟨_,_,_,rfl,rfl,rfl⟩) (.inr ⟨_,_,_,rfl,rfl,by omega⟩) (by omega) (by simp;omega) (by simp [List.map_take])) ?_
    repeat' first|refine sk2 ?_|(intro b;conv=>whnf)
    refine ad5 mixed aa0 (γ:=Nat) (fun q=>[(48,iD q),(7,.v (.int .u64 ((aa8 (ds.take q):Nat):Int)))]) (fun _=>[]) (fun q=>q≤kk) (fun q=>kk - q) 0 rfl rfl (Nat.zero_le _) ?_
    intro q hq
    by_cases hql:q<kk
    ·obtain ⟨c,hc⟩:∃ c,(t.take kk)[((q:Nat):Int).toNat]?=some c:=⟨_,List.getElem?_eq_getElem (by rw [List.length_take];show q<_;omega)⟩
     have hc':(t.take kk)[q]?=some c:=hc
     have hcl:=ht c (List.mem_of_mem_take (List.mem_of_getElem? hc'))
     have hdq:ds[q]?=some (aa7 neg c):=by rw [hds,List.getElem?_map,hc'];rfl
     have hv:=aD0 hdq
     have hvm:aa8 (ds.take q)<72057594037927936:=by
      have h1:=aI6 (l:=ds.take q) (fun d hd=>hdlt d (List.mem_of_mem_take hd))
      have h2:(ds.take q).length≤7:=by rw [List.length_take];omega
      have h3:256 ^ (ds.take q).length≤256 ^ 7:=Nat.pow_le_pow_right (by decide) h2
      omega
     have hdc:=aj1 (neg:=neg) hcl
     generalize aa8 (ds.take q)=mv at *
     repeat' first|refine sk2 ?_|(intro b;conv=>whnf)
     refine Ot.yd (aa3 (r:=.int .u64 ((mv*2 ^ 8:Nat):Int)) rfl rfl rfl (fun w=>shl8 hvm)) ?_
     repeat' first|refine sk2 ?_|(intro b;conv=>whnf)
     refine Ot.yd (aa3 (r:=.int .u8 ((aa7 neg c:Nat):Int)) rfl rfl rfl (fun w=>hx hcl)) ?_
     repeat' first|refine sk2 ?_|(intro b;conv=>whnf)
     refine Ot.yd (ab5 (m:=((aa7 neg c:Nat):Int)) rfl rfl Tryz.underlying5 Tryz.underlying167 (by rw [IntKind.wrap_u64];omega)) ?_
     repeat' first|refine sk2 ?_|(intro b;conv=>whnf)
     refine Ot.yd (aa3 (r:=.int .u64 ((256*mv+aa7 neg c:Nat):Int)) rfl rfl rfl (fun w=>bG2 hvm hdc)) ?_
     repeat' first|refine sk2 ?_|(intro b;conv=>whnf)
     exact ⟨q+1,cl9,rfl,by omega,by omega⟩
    ·obtain rfl:q=kk:=by omega
     have hdt:ds.take q=ds:=List.take_of_length_le (by omega)
     rw [hdt]
     have hvl:=aI6 hdlt
     have hvl2:aa8 ds<18446744073709551616:=by
      have h3:256 ^ ds.length≤256 ^ 8:=Nat.pow_le_pow_right (by decide) (by omega)
      omega
     generalize aa8 ds=mv at *
     repeat' first|refine sk2 ?_|(intro b;conv=>whnf)
     refine Ot.yd (aa3 (r:=.int .u64 ((mv / 2 ^ 63:Nat):Int)) rfl rfl rfl (fun w=>bE1)) ?_
     by_cases c4:9223372036854775808≤mv
     ·rw [if_pos c4]
      have c5:0<mv / 2 ^ 63:=Nat.div_pos c4 (by decide)
      generalize mv / 2 ^ 63=g at *
      repeat' first|refine sk2 ?_|(intro b;conv=>whnf)
      exact Rt.pure rfl
     ·rw [if_neg c4]
      have c5:mv / 2 ^ 63=0:=Nat.div_eq_of_lt (by omega)
      rw [c5]
      have c6:mv<9223372036854775808:=by omega
      repeat' first|refine sk2 ?_|(intro b;conv=>whnf)
      try (refine Ot.yd (bm0 (r:=.int .u64 ((18446744073709551615 - mv:Nat):Int)) rfl rfl (fun w=>bk0 c6)) ?_)
      repeat' first|refine sk2 ?_|(intro b;conv=>whnf)
      refine Ot.yd (ab5 (m:=if neg then -1 - (mv:Int) else (mv:Int)) rfl rfl Tryz.underlying167 Tryz.underlying3 (by rw [hnt,IntKind.wrap_i64];simp;omega)) ?_
      repeat' first|refine sk2 ?_|(intro b;conv=>whnf)
      exact Rt.pure rfl
   ·obtain ⟨c,hc⟩:∃ c,t[0]?=some c:=⟨_,List.getElem?_eq_getElem (by omega)⟩
    have hb1:(h :: t)[((1:Int)).toNat]?=some c:=hc
    have hcl:=ht c (List.mem_of_getElem? hc)
    have hd0:ds.head?=some (aa7 neg c):=by rw [hds,List.head?_eq_getElem?,List.getElem?_map,List.getElem?_take,if_pos (by omega),hc];rfl
    rw [hd0]
    repeat' first|refine sk2 ?_|(intro b;conv=>whnf)
    refine Ot.yd (aa3 (r:=.int .u8 ((aa7 neg c:Nat):Int)) rfl rfl rfl (fun w=>hx hcl)) ?_
    by_cases z:aa7 neg c=0
    ·rw [if_pos (by rw [z])]
     repeat' first|refine sk2 ?_|(intro b;conv=>whnf)
     exact Rt.pure rfl
    ·rw [if_neg (by simpa using z)]
     repeat' first|refine sk2 ?_|(intro b;conv=>whnf)
     have htl:(t.take kk).length=kk:=by rw [List.length_take];omega
     refine Ot.yd (aj4 aa0 (l:=1) (h:=kk+1) (ys:=(t.take kk).map yC) rfl rfl rfl rfl rfl (.inr ⟨_,_,_,rfl,rfl,rfl⟩) (.inr ⟨_,_,_,rfl,rfl,by omega⟩) (by omega) (by simp;omega) (by simp [List.map_take])) ?_
     repeat' first|refine sk2 ?_|(intro b;conv=>whnf)
     refine ad5 mixed aa0 (γ:=Nat) (fun q=>[(48,iD q),(7,.v (.int .u64 ((aa8 (ds.take q):Nat):Int)))]) (fun _=>[]) (fun q=>q≤kk) (fun q=>kk - q) 0 rfl rfl (Nat.zero_le _) ?_
     intro q hq
     by_cases hql:q<kk
     ·obtain ⟨c,hc⟩:∃ c,(t.take kk)[((q:Nat):Int).toNat]?=some c:=⟨_,List.getElem?_eq_getElem (by rw [List.length_take];show q<_;omega)⟩
      have hc':(t.take kk)[q]?=some c:=hc
      have hcl:=ht c (List.mem_of_mem_take (List.mem_of_getElem? hc'))
      have hdq:ds[q]?=some (aa7 neg c):=by rw [hds,List.getElem?_map,hc'];rfl
      have hv:=aD0 hdq
      have hvm:aa8 (ds.take q)<72057594037927936:=by
       have h1:=aI6 (l:=ds.take q) (fun d hd=>hdlt d (List.mem_of_mem_take hd))
       have h2:(ds.take q).length≤7:=by rw [List.length_take];omega
       have h3:256 ^ (ds.take q).length≤256 ^ 7:=Nat.pow_le_pow_right (by decide) h2
       omega
      have hdc:=aj1 (neg:=neg) hcl
      generalize aa8 (ds.take q)=mv at *
      repeat' first|refine sk2 ?_|(intro b;conv=>whnf)
      refine Ot.yd (aa3 (r:=.int .u64 ((mv*2 ^ 8:Nat):Int)) rfl rfl rfl (fun w=>shl8 hvm)) ?_
      repeat' first|refine sk2 ?_|(intro b;conv=>whnf)
      refine Ot.yd (aa3 (r:=.int .u8 ((aa7 neg c:Nat):Int)) rfl rfl rfl (fun w=>hx hcl)) ?_
      repeat' first|refine sk2 ?_|(intro b;conv=>whnf)
      refine Ot.yd (ab5 (m:=((aa7 neg c:Nat):Int)) rfl rfl Tryz.underlying5 Tryz.underlying167 (by rw [IntKind.wrap_u64];omega)) ?_
      repeat' first|refine sk2 ?_|(intro b;conv=>whnf)
      refine Ot.yd (aa3 (r:=.int .u64 ((256*mv+aa7 neg c:Nat):Int)) rfl rfl rfl (fun w=>bG2 hvm hdc)) ?_
      repeat' first|refine sk2 ?_|(intro b;conv=>whnf)
      exact ⟨q+1,cl9,rfl,by omega,by omega⟩
     ·obtain rfl:q=kk:=by omega
      have hdt:ds.take q=ds:=List.take_of_length_le (by omega)
      rw [hdt]
      have hvl:=aI6 hdlt
      have hvl2:aa8 ds<18446744073709551616:=by
       have h3:256 ^ ds.length≤256 ^ 8:=Nat.pow_le_pow_right (by decide) (by omega)
       omega
      generalize aa8 ds=mv at *
      repeat' first|refine sk2 ?_|(intro b;conv=>whnf)
      refine Ot.yd (aa3 (r:=.int .u64 ((mv / 2 ^ 63:Nat):Int)) rfl rfl rfl (fun w=>bE1)) ?_
      by_cases c4:9223372036854775808≤mv
      ·rw [if_pos c4]
       have c5:0<mv / 2 ^ 63:=Nat.div_pos c4 (by decide)
       generalize mv / 2 ^ 63=g at *
       repeat' first|refine sk2 ?_|(intro b;conv=>whnf)
       exact Rt.pure rfl
      ·rw [if_neg c4]
       have c5:mv / 2 ^ 63=0:=Nat.div_eq_of_lt (by omega)
       rw [c5]
       have c6:mv<9223372036854775808:=by omega
       repeat' first|refine sk2 ?_|(intro b;conv=>whnf)
       try (refine Ot.yd (bm0 (r:=.int .u64 ((18446744073709551615 - mv:Nat):Int)) rfl rfl (fun w=>bk0 c6)) ?_)
       repeat' first|refine sk2 ?_|(intro b;conv=>whnf)
       refine Ot.yd (ab5 (m:=if neg then -1 - (mv:Int) else (mv:Int)) rfl rfl Tryz.underlying167 Tryz.underlying3 (by rw [hnt,IntKind.wrap_i64];simp;omega)) ?_
       repeat' first|refine sk2 ?_|(intro b;conv=>whnf)
       exact Rt.pure rfl
  ·obtain ⟨neg,hneg⟩:∃ b,b=decide (h<128):=⟨_,rfl⟩
   have hnt:neg=false:=by rw [hneg];exact decide_eq_false h0
   have hx:∀ {d:Nat} {t p q} {w:World},d<256→(do eqGuard .xor t p q (.int .u8 (d:Int)) (.int .u8 0);binOp .xor t (.int .u8 (d:Int)) (.int .u8 0)).run Tryz.prog w = .ok (.int .u8 ((aa7 neg d:Nat):Int)) w:=fun h=>by rw [hnt];exact x0 h
   have hfl:aa7 neg h=h:=by rw [hnt];rfl
   have hk2:((aa7 neg h:Nat):Int) - 128=(kk:Int):=by rw [hfl,hkk,if_neg h0];omega
   refine eP7 Tryz.func49 Tryz.ntmps49 fun BB=>?_
   rw [aw8 hkk hneg rfl]
   repeat' first|refine sk2 ?_|(intro b;conv=>whnf)
   refine Ot.yd (aa3 (r:=.int .u8 ((aa7 neg h:Nat):Int)) rfl rfl rfl (fun w=>hx hh)) ?_
   repeat' first|refine sk2 ?_|(intro b;conv=>whnf)
   refine Ot.yd (ab5 (m:=((aa7 neg h:Nat):Int)) rfl rfl Tryz.underlying5 Tryz.underlying3 (by rw [IntKind.wrap_i64];omega)) ?_
   repeat' first|refine sk2 ?_|(intro b;conv=>whnf)
   rw [hk2]
   by_cases c1:8<kk
   ·rw [if_pos c1]
    repeat' first|refine sk2 ?_|(intro b;conv=>whnf)
    exact Rt.pure rfl
   rw [if_neg c1]
   by_cases c2:t.length<kk
   ·rw [if_pos c2]
    repeat' first|refine sk2 ?_|(intro b;conv=>whnf)
    exact Rt.pure rfl
   rw [if_neg c2]
   obtain ⟨ds,hds⟩:∃ ds,ds=(t.take kk).map (aa7 neg):=⟨_,rfl⟩
   rw [← hds]
   have hdl:ds.length=kk:=by rw [hds,List.length_map,List.length_take];omega
   have hdlt:∀ d∈ds,d<256:=by
    intro d hd
    rw [hds] at hd
    obtain ⟨e,g1,g2⟩:=List.mem_map.1 hd
    rw [← g2];exact aj1 (ht e (List.mem_of_mem_take g1))
   by_cases kz:kk=0
   ·rw [if_neg (by rw [List.length_eq_zero_iff.1 (hdl.trans kz)];simp)]
    repeat' first|refine sk2 ?_|(intro b;conv=>whnf)
    have htl:(t.take kk).length=kk:=by rw [List.length_take];omega
    refine Ot.yd (aj4 aa0 (l:=1) (h:=kk+1) (ys:=(t.take kk).map yC) rfl rfl rfl rfl rfl (.inr ⟨_,_,_,rfl,rfl,rfl⟩) (.inr ⟨_,_,_,rfl,rfl,by omega⟩) (by omega) (by simp;omega) (by simp [List.map_take])) ?_
    repeat' first|refine sk2 ?_|(intro b;conv=>whnf)
    refine ad5 mixed aa0 (γ:=Nat) (fun q=>[(48,iD q),(7,.v (.int .u64 ((aa8 (ds.take q):Nat):Int)))]) (fun _=>[]) (fun q=>q≤kk) (fun q=>kk - q) 0 rfl rfl (Nat.zero_le _) ?_
    intro q hq
    by_cases hql:q<kk
    ·obtain ⟨c,hc⟩:∃ c,(t.take kk)[((q:Nat):Int).toNat]?=some c:=⟨_,List.getElem?_eq_getElem (by rw [List.length_take];show q<_;omega)⟩
     have hc':(t.take kk)[q]?=some c:=hc
     have hcl:=ht c (List.mem_of_mem_take (List.mem_of_getElem? hc'))
     have hdq:ds[q]?=some (aa7 neg c):=by rw [hds,List.getElem?_map,hc'];rfl
     have hv:=aD0 hdq
     have hvm:aa8 (ds.take q)<72057594037927936:=by
      have h1:=aI6 (l:=ds.take q) (fun d hd=>hdlt d (List.mem_of_mem_take hd))
      have h2:(ds.take q).length≤7:=by rw [List.length_take];omega
      have h3:256 ^ (ds.take q).length≤256 ^ 7:=Nat.pow_le_pow_right (by decide) h2
      omega
     have hdc:=aj1 (neg:=neg) hcl
     generalize aa8 (ds.take q)=mv at *
     repeat' first|refine sk2 ?_|(intro b;conv=>whnf)
     refine Ot.yd (aa3 (r:=.int .u64 ((mv*2 ^ 8:Nat):Int)) rfl rfl rfl (fun w=>shl8 hvm)) ?_
     repeat' first|refine sk2 ?_|(intro b;conv=>whnf)
     refine Ot.yd (aa3 (r:=.int .u8 ((aa7 neg c:Nat):Int)) rfl rfl rfl (fun w=>hx hcl)) ?_
     repeat' first|refine sk2 ?_|(intro b;conv=>whnf)
     refine Ot.yd (ab5 (m:=((aa7 neg c:Nat):Int)) rfl rfl Tryz.underlying5 Tryz.underlying167 (by rw [IntKind.wrap_u64];omega)) ?_
     repeat' first|refine sk2 ?_|(intro b;conv=>whnf)
     refine Ot.yd (aa3 (r:=.int .u64 ((256*mv+aa7 neg c:Nat):Int)) rfl rfl rfl (fun w=>bG2 hvm hdc)) ?_
     repeat' first|refine sk2 ?_|(intro b;conv=>whnf)
     exact ⟨q+1,cl9,rfl,by omega,by omega⟩
    ·obtain rfl:q=kk:=by omega
     have hdt:ds.take q=ds:=List.take_of_length_le (by omega)
     rw [hdt]
     have hvl:=aI6 hdlt
     have hvl2:aa8 ds<18446744073709551616:=by
      have h3:256 ^ ds.length≤256 ^ 8:=Nat.pow_le_pow_right (by decide) (by omega)
      omega
     generalize aa8 ds=mv at *
     repeat' first|refine sk2 ?_|(intro b;conv=>whnf)
     refine Ot.yd (aa3 (r:=.int .u64 ((mv / 2 ^ 63:Nat):Int)) rfl rfl rfl (fun w=>bE1)) ?_
     by_cases c4:9223372036854775808≤mv
     ·rw [if_pos c4]
      have c5:0<mv / 2 ^ 63:=Nat.div_pos c4 (by decide)
      generalize mv / 2 ^ 63=g at *
      repeat' first|refine sk2 ?_|(intro b;conv=>whnf)
      exact Rt.pure rfl
     ·rw [if_neg c4]
      have c5:mv / 2 ^ 63=0:=Nat.div_eq_of_lt (by omega)
      rw [c5]
      have c6:mv<9223372036854775808:=by omega
      repeat' first|refine sk2 ?_|(intro b;conv=>whnf)
      try (refine Ot.yd (bm0 (r:=.int .u64 ((18446744073709551615 - mv:Nat):Int)) rfl rfl (fun w=>bk0 c6)) ?_)
      repeat' first|refine sk2 ?_|(intro b;conv=>whnf)
      refine Ot.yd (ab5 (m:=if neg then -1 - (mv:Int) else (mv:Int)) rfl rfl Tryz.underlying167 Tryz.underlying3 (by rw [hnt,IntKind.wrap_i64];simp;omega)) ?_
      repeat' first|refine sk2 ?_|(intro b;conv=>whnf)
      exact Rt.pure rfl
   ·obtain ⟨c,hc⟩:∃ c,t[0]?=some c:=⟨_,List.getElem?_eq_getElem (by omega)⟩
    have hb1:(h :: t)[((1:Int)).toNat]?=some c:=hc
    have hcl:=ht c (List.mem_of_getElem? hc)
    have hd0:ds.head?=some (aa7 neg c):=by rw [hds,List.head?_eq_getElem?,List.getElem?_map,List.getElem?_take,if_pos (by omega),hc];rfl
    rw [hd0]
    repeat' first|refine sk2 ?_|(intro b;conv=>whnf)
    refine Ot.yd (aa3 (r:=.int .u8 ((aa7 neg c:Nat):Int)) rfl rfl rfl (fun w=>hx hcl)) ?_
    by_cases z:aa7 neg c=0
    ·rw [if_pos (by rw [z])]
     repeat' first|refine sk2 ?_|(intro b;conv=>whnf)
     exact Rt.pure rfl
    ·rw [if_neg (by simpa using z)]
     repeat' first|refine sk2 ?_|(intro b;conv=>whnf)
     have htl:(t.take kk).length=kk:=by rw [List.length_take];omega
     refine Ot.yd (aj4 aa0 (l:=1) (h:=kk+1) (ys:=(t.take kk).map yC) rfl rfl rfl rfl rfl (.inr ⟨_,_,_,rfl,rfl,rfl⟩) (.inr ⟨_,_,_,rfl,rfl,by omega⟩) (by omega) (by simp;omega) (by simp [List.map_take])) ?_
     repeat' first|refine sk2 ?_|(intro b;conv=>whnf)
     refine ad5 mixed aa0 (γ:=Nat) (fun q=>[(48,iD q),(7,.v (.int .u64 ((aa8 (ds.take q):Nat):Int)))]) (fun _=>[]) (fun q=>q≤kk) (fun q=>kk - q) 0 rfl rfl (Nat.zero_le _) ?_
     intro q hq
     by_cases hql:q<kk
     ·obtain ⟨c,hc⟩:∃ c,(t.take kk)[((q:Nat):Int).toNat]?=some c:=⟨_,List.getElem?_eq_getElem (by rw [List.length_take];show q<_;omega)⟩
      have hc':(t.take kk)[q]?=some c:=hc
      have hcl:=ht c (List.mem_of_mem_take (List.mem_of_getElem? hc'))
      have hdq:ds[q]?=some (aa7 neg c):=by rw [hds,List.getElem?_map,hc'];rfl
      have hv:=aD0 hdq
      have hvm:aa8 (ds.take q)<72057594037927936:=by
       have h1:=aI6 (l:=ds.take q) (fun d hd=>hdlt d (List.mem_of_mem_take hd))
       have h2:(ds.take q).length≤7:=by rw [List.length_take];omega
       have h3:256 ^ (ds.take q).length≤256 ^ 7:=Nat.pow_le_pow_right (by decide) h2
       omega
      have hdc:=aj1 (neg:=neg) hcl
      generalize aa8 (ds.take q)=mv at *
      repeat' first|refine sk2 ?_|(intro b;conv=>whnf)
      refine Ot.yd (aa3 (r:=.int .u64 ((mv*2 ^ 8:Nat):Int)) rfl rfl rfl (fun w=>shl8 hvm)) ?_
      repeat' first|refine sk2 ?_|(intro b;conv=>whnf)
      refine Ot.yd (aa3 (r:=.int .u8 ((aa7 neg c:Nat):Int)) rfl rfl rfl (fun w=>hx hcl)) ?_
      repeat' first|refine sk2 ?_|(intro b;conv=>whnf)
      refine Ot.yd (ab5 (m:=((aa7 neg c:Nat):Int)) rfl rfl Tryz.underlying5 Tryz.underlying167 (by rw [IntKind.wrap_u64];omega)) ?_
      repeat' first|refine sk2 ?_|(intro b;conv=>whnf)
      refine Ot.yd (aa3 (r:=.int .u64 ((256*mv+aa7 neg c:Nat):Int)) rfl rfl rfl (fun w=>bG2 hvm hdc)) ?_
      repeat' first|refine sk2 ?_|(intro b;conv=>whnf)
      exact ⟨q+1,cl9,rfl,by omega,by omega⟩
     ·obtain rfl:q=kk:=by omega
      have hdt:ds.take q=ds:=List.take_of_length_le (by omega)
      rw [hdt]
      have hvl:=aI6 hdlt
      have hvl2:aa8 ds<18446744073709551616:=by
       have h3:256 ^ ds.length≤256 ^ 8:=Nat.pow_le_pow_right (by decide) (by omega)
       omega
      generalize aa8 ds=mv at *
      repeat' first|refine sk2 ?_|(intro b;conv=>whnf)
      refine Ot.yd (aa3 (r:=.int .u64 ((mv / 2 ^ 63:Nat):Int)) rfl rfl rfl (fun w=>bE1)) ?_
      by_cases c4:9223372036854775808≤mv
      ·rw [if_pos c4]
       have c5:0<mv / 2 ^ 63:=Nat.div_pos c4 (by decide)
       generalize mv / 2 ^ 63=g at *
       repeat' first|refine sk2 ?_|(intro b;conv=>whnf)
       exact Rt.pure rfl
      ·rw [if_neg c4]
       have c5:mv / 2 ^ 63=0:=Nat.div_eq_of_lt (by omega)
       rw [c5]
       have c6:mv<9223372036854775808:=by omega
       repeat' first|refine sk2 ?_|(intro b;conv=>whnf)
       try (refine Ot.yd (bm0 (r:=.int .u64 ((18446744073709551615 - mv:Nat):Int)) rfl rfl (fun w=>bk0 c6)) ?_)
       repeat' first|refine sk2 ?_|(intro b;conv=>whnf)
       refine Ot.yd (ab5 (m:=if neg then -1 - (mv:Int) else (mv:Int)) rfl rfl Tryz.underlying167 Tryz.underlying3 (by rw [hnt,IntKind.wrap_i64];simp;omega)) ?_
       repeat' first|refine sk2 ?_|(intro b;conv=>whnf)
       exact Rt.pure rfl
end
section
open Go
section
variable {α β:Type}
theorem aT5 {f:List Nat→α × Nat × Int}:∀ {q:Nat} {b:List Nat} {l:List α} {j:Nat},many f q b=(l,j,0)→∀ p,many f (q+p) b=if (many f p (b.drop j)).2.2≠0 then ([],0,(many f p (b.drop j)).2.2) else (l ++ (many f p (b.drop j)).1,j+(many f p (b.drop j)).2.1,0)
 | 0,b,l,j,h,p=>by
  cases h
  rw [Nat.zero_add,List.drop_zero]
  split
  ·rename_i h1
   cases p with
   | zero=>exact absurd rfl h1
   | succ p=>
    rw [many] at h1 ⊢
    split
    ·rfl
    split
    ·rfl
    ·rename_i h2 h3;rw [if_neg h2,if_neg h3] at h1;exact absurd rfl h1
  ·rename_i h1
   simp only [Classical.not_not] at h1
   exact Prod.ext (by simp) (Prod.ext (by simp) h1)
 | q+1,b,l,j,h,p=>by
  obtain ⟨x,k,l',j',h1,h2,rfl,rfl⟩:=aT4 h
  have ih:=aT5 h2 p
  rw [List.drop_drop] at ih
  rw [Nat.add_right_comm,many,h1,ih]
  simp only [ne_eq,not_true_eq_false,if_false]
  generalize hm:many f p (b.drop (k+j'))=r at *
  by_cases h3:r.2.2=0
  ·simp [h3,Nat.add_assoc]
  ·simp [h3]
theorem at6 {f:List Nat→α × Nat × Int} {q:Nat} {b:List Nat} {l:List α} {j:Nat} (h:many f q b=(l,j,0)) {x:α} {k:Nat} (h1:f (b.drop j)=(x,k,0)):many f (q+1) b=(l ++ [x],j+k,0):=by
 rw [aT5 h 1]
 have:many f 1 (b.drop j)=([x],k,0):=be4 h1 (by rw [many])
 rw [this]
 simp
theorem bv9 {f:List Nat→α × Nat × Int} {q n:Nat} {b:List Nat} {l:List α} {j:Nat} (h:many f q b=(l,j,0)) (h1:(f (b.drop j)).2.2≠0) (hq:q<n):many f n b=([],0,(f (b.drop j)).2.2):=by
 obtain ⟨p,rfl⟩:∃ p,n=q+(p+1):=⟨n - q - 1,by omega⟩
 rw [aT5 h (p+1)]
 have:many f (p+1) (b.drop j)=([],0,(f (b.drop j)).2.2):=by rw [many,if_pos h1]
 rw [this]
 simp [h1]
theorem ar6 {f:List Nat→α × Nat × Int}:∀ {n:Nat} {b:List Nat} {l:List α} {j:Nat},many f n b=(l,j,0)→l.length=n
 | 0,b,l,j,h=>by cases h;rfl
 | n+1,b,l,j,h=>by
  obtain ⟨x,k,l',j',h1,h2,rfl,rfl⟩:=aT4 h
  rw [List.length_cons,ar6 h2]
theorem az2 {l:List α} {f:α→List β} {c:Nat} (h:∀ x∈l,(f x).length≤c):(l.flatMap f).length≤l.length*c:=by
 induction l with
 | nil=>simp
 | cons x l ih=>
  have h1:=h x List.mem_cons_self
  have h2:=ih (fun y hy=>h y (List.mem_cons_of_mem _ hy))
  rw [List.flatMap_cons,List.length_append,List.length_cons,Nat.add_mul]
  omega
theorem ao6 {l:List α} {f:α→List β} {i:Nat} {x:α} (h:l[i]?=some x):(l.take (i+1)).flatMap f=(l.take i).flatMap f ++ f x:=by
 rw [List.take_add_one,h]
 simp
end
theorem bH9 {b:List Nat} (h:(getI b).2.2≠0):getI b=(0,0,(getI b).2.2):=by
 cases b with
 | nil=>rfl
 | cons h0 t=>
  unfold getI at h ⊢
  simp only at h ⊢
  generalize (if h0<128 then 127 - h0 else h0 - 128)=kk at *
  generalize (if h0<128 then -1 - (aa8 ((t.take kk).map (aa7 (decide (h0<128)))):Int) else (aa8 ((t.take kk).map (aa7 (decide (h0<128)))):Int))=m at *
  by_cases c1:8<kk
  ·rw [if_pos c1]
  rw [if_neg c1] at h ⊢
  by_cases c2:t.length<kk
  ·rw [if_pos c2]
  rw [if_neg c2] at h ⊢
  by_cases c3:((t.take kk).map (aa7 (decide (h0<128)))).head?=some 0
  ·rw [if_pos c3]
  rw [if_neg c3] at h ⊢
  by_cases c4:9223372036854775808≤aa8 ((t.take kk).map (aa7 (decide (h0<128))))
  ·rw [if_pos c4]
  rw [if_neg c4] at h
  exact absurd rfl h
theorem bH0 {α:Type} {f:List Nat→α × Nat × Int} {c:Int} {b:List Nat} (h:(al1 c f b).2.2≠0):al1 c f b=([],0,(al1 c f b).2.2):=by
 unfold al1 at h ⊢
 generalize cntE c b=r at *
 generalize many f r.1.toNat (b.drop r.2.1)=s at *
 by_cases h1:r.2.2≠0
 ·rw [if_pos h1]
 rw [if_neg h1] at h ⊢
 by_cases h2:s.2.2≠0
 ·rw [if_pos h2]
 rw [if_neg h2] at h
 exact absurd rfl h
theorem at8 {α:Type} {f:List Nat→α × Nat × Int} {c:Int} {b:List Nat} {e:Int} {n:Int} {k:Nat} (h:cntE c b=(n,k,e)) (h1:e≠0):al1 c f b=([],0,e):=by
 unfold al1
 rw [h]
 simp only
 rw [if_pos h1]
theorem ao2 {α:Type} {f:List Nat→α × Nat × Int} {c:Int} {b:List Nat} {e:Int} {n k q j:Nat} {l:List α} (h:cntE c b=(((n:Nat):Int),k,0)) (h2:many f q (b.drop k)=(l,j,0)) (h3:(f (b.drop (k+j))).2.2=e) (h1:e≠0) (hq:q<n):al1 c f b=([],0,e):=by
 subst h3
 have hm:=bv9 h2 (by rw [List.drop_drop];exact h1) hq
 rw [List.drop_drop] at hm
 unfold al1
 rw [h]
 simp only [Int.toNat_natCast,hm]
 rw [if_neg (by simp),if_pos h1]
theorem at7 {α:Type} {f:List Nat→α × Nat × Int} {c:Int} {b:List Nat} {n k j:Nat} {l:List α} (h:cntE c b=(((n:Nat):Int),k,0)) (h2:many f n (b.drop k)=(l,j,0)):al1 c f b=(l,k+j,0):=
 be5 h (by rw [Int.toNat_natCast];exact h2)
theorem bY5 {l:List Int} (h:∀ v∈l,InR v) (hn:InR l.length):(encL l).length≤9+l.length*9:=by
 unfold encL
 rw [List.length_append]
 have h1:=ac5 hn
 have h2:=az2 (f:=encI) (l:=l) (c:=9) (fun x hx=>ac5 (h x hx))
 omega
structure WSm (w:List (List (List Int))):Prop where
 k:w.length≤20
 n:∀ l∈w,l.length≤20
 f:∀ l∈w,∀ r∈l,r.length≤60
 v:∀ l∈w,∀ r∈l,∀ v∈r,InR v
theorem ae4 {n:Nat} (h:n≤1000000):InR n:=⟨by omega,by omega⟩
theorem WSm.wd {w:List (List (List Int))} (h:WSm w):WdR w:=
 ⟨ae4 (by have:=h.k;omega),fun l hl=>ae4 (by have:=h.n l hl;omega),fun l hl r hr=>ae4 (by have:=h.f l hl r hr;omega),h.v⟩
theorem WSm.l {w:List (List (List Int))} (h:WSm w) {l:List (List Int)} (hl:l∈w):∀ r∈l,(encL r).length≤549:=fun r hr=>by
 have h1:=h.f l hl r hr
 have:=bY5 (h.v l hl r hr) (ae4 (by omega))
 omega
theorem WSm.kl {w:List (List (List Int))} (h:WSm w):∀ l∈w,(encK l).length≤10989:=fun l hl=>by
 unfold encK
 rw [List.length_append]
 have h0:=h.n l hl
 have h1:=ac5 (n:=(l.length:Int)) (ae4 (by omega))
 have h2:=az2 (f:=encL) (l:=l) (c:=549) (h.l hl)
 omega
theorem WSm.len {w:List (List (List Int))} (h:WSm w):(encW w).length≤300000:=by
 unfold encW
 rw [List.length_append]
 have h0:=h.k
 have h1:=ac5 (n:=(w.length:Int)) (ae4 (by omega))
 have h2:=az2 (f:=encK) (l:=w) (c:=10989) h.kl
 omega
end
section
open Go
theorem aR5 (a b:List Nat) (ha:a.length≤1000000) (hb:b.length≤1000000):APure Tryz.prog 11 [slY a,slY b] (bD (decide (a=b))):=by
 refine eP7 Tryz.func11 Tryz.ntmps11 fun BB=>?_
 by_cases hl:a.length=b.length
 ·repeat' first|refine sk2 ?_|(intro b;conv=>whnf)
  refine ad5 mixed aa0 (γ:=Nat) (fun k=>[(5,iD k)]) (fun _=>[]) (fun k=>k≤a.length∧∀ i,i<k→a[i]?=b[i]?) (fun k=>a.length - k) 0 rfl rfl ⟨Nat.zero_le _,fun i h=>by omega⟩ ?_
  rintro k ⟨hk,hno⟩
  by_cases hlt:k<a.length
  ·obtain ⟨x,hx⟩:∃ x,a[((k:Nat):Int).toNat]?=some x:=⟨_,List.getElem?_eq_getElem hlt⟩
   obtain ⟨y,hy⟩:∃ y,b[((k:Nat):Int).toNat]?=some y:=⟨_,List.getElem?_eq_getElem (by show k<_;omega)⟩
   have hx':a[k]?=some x:=hx
   have hy':b[k]?=some y:=hy
   by_cases he:x=y
   ·repeat' first|refine sk2 ?_|(intro b;conv=>whnf)
    refine ⟨k+1,rfl,rfl,⟨by omega,fun i hi=>?_⟩,by omega⟩
    by_cases e:i=k
    ·subst e;rw [hx',hy',he]
    ·exact hno i (by omega)
   ·have hne:a≠b:=fun h=>he (by rw [h,hy'] at hx';cases hx';rfl)
    repeat' first|refine sk2 ?_|(intro b;conv=>whnf)
    refine Rt.pure (congrArg bD ?_)
    exact (decide_eq_false hne).symm
  ·have hab:a=b:=List.ext_getElem? fun i=>by
    by_cases hi:i<k
    ·exact hno i hi
    ·rw [List.getElem?_eq_none_iff.2 (by omega),List.getElem?_eq_none_iff.2 (by omega)]
   repeat' first|refine sk2 ?_|(intro b;conv=>whnf)
   refine Rt.pure (congrArg bD ?_)
   exact (decide_eq_true hab).symm
 ·have hne:a≠b:=fun h=>hl (by rw [h])
  repeat' first|refine sk2 ?_|(intro b;conv=>whnf)
  refine Rt.pure (congrArg bD ?_)
  exact (decide_eq_false hne).symm
theorem bq9 {ds:List Nat} {q:Nat} (hq:q<ds.length) (h:36028797018963968≤aa8 (ds.take q)):9223372036854775808≤aa8 ds:=by
 have h1:aa8 ds=aa8 (ds.take q)*256 ^ (ds.drop q).length+aa8 (ds.drop q):=by
  conv=>lhs;rw [← List.take_append_drop q ds]
  unfold aa8
  rw [List.foldl_append,bL9]
  rfl
 have h2:256 ^ 1≤256 ^ (ds.drop q).length:=Nat.pow_le_pow_right (by decide) (by rw [List.length_drop];omega)
 have h3:aa8 (ds.take q)*256 ^ 1≤aa8 (ds.take q)*256 ^ (ds.drop q).length:=Nat.mul_le_mul_left _ h2
 omega
theorem aO7 {h kk:Nat} {t ds:List Nat} {neg:Bool} (hb:∀ d∈h :: t,d<256) (hk:kk=if h<128 then 127 - h else h - 128) (hneg:neg=decide (h<128)) (hds:ds=(t.take kk).map (aa7 neg)) (c1:¬ 8<kk) (c2:¬ t.length<kk) (c4:¬ 9223372036854775808≤aa8 ds) :
  decide (encI (if neg then -1 - (aa8 ds:Int) else (aa8 ds:Int))=(h :: t).take (kk+1))=!decide (ds.head?=some 0):=by
 have hg:=aw8 hk hneg hds
 rw [if_neg c1,if_neg c2] at hg
 by_cases h0:ds.head?=some 0
 ·rw [if_pos h0] at hg
  rw [decide_eq_true h0]
  refine decide_eq_false fun he=>?_
  have hr:InR (if neg then -1 - (aa8 ds:Int) else (aa8 ds:Int)):=by
   split <;> exact ⟨by omega,by omega⟩
  have h1:=aH4 hr ((h :: t).drop (kk+1))
  rw [he,List.take_append_drop,hg] at h1
  have:=congrArg (fun z=>z.2.2) h1
  simp at this
 ·rw [if_neg h0,if_neg c4] at hg
  rw [decide_eq_false h0]
  exact decide_eq_true (aD9 hb hg).2.1.symm
theorem ar9 {P:Program} {f:FuncId} {args:List D} {l:List Nat} (h:ACall P f args [] (fun d s=>∃ v,d = .v v∧RY l v s)):APure P f args (slY l):=
 APure.of_call (ACall.vs (ACall.imp h fun d s ⟨v,hd,hr⟩=>by rw [hd];exact Rt.vs (Vs.row (τ:=[]) hr (by simp))))
theorem aD5 {n:Int} (hn:InR n):APure Tryz.prog 39 [iD n] (slY (encI n)):=ar9 (bj6 n hn)
theorem aP9 {n:Int} (hn:InR n):APure Tryz.prog 37 [iD n] (slY (encI n)):=ar9 (bh2 n hn)
theorem sk8 {A B:Prop} (k:B) (h:Hd7 B→A:=by intro hk7q;(first|refine sb0 ?_|refine sb1 ?_|((with_reducible refine' Cp.by ?hc ?_);(case hc=>first|exact HI|exact HS))|((with_reducible refine' CE.pure ?hc ?_);(case hc=>first|exact HI|exact HS)));exact hk7q.run):A:=h ⟨k⟩
theorem cl10 {p:Prop} (h:p:=by rw [hvt];exact (aa2 (by repeat (first|exact Chk.nil|refine Chk.cons rfl ?_|(refine Chk.cons (congrArg (fun n=>some (iD n)) ?h) ?_;(case h=>(first|omega|((try simp only [List.length_map,List.length_take,List.length_append,List.length_cons,List.length_nil,List.length_replicate,Nat.reduceAdd]);omega)))))))):p:=h
theorem bu2 (b:List Nat) (hb:∀ d∈b,d<256) (hl:b.length≤1000000):APure Tryz.prog 90 [slY b] (.tup [iD (getI b).1,iD ((getI b).2.1:Nat),iD (getI b).2.2]):=by
 cases b with
 | nil=>
  have HI:=True.intro
  have HS:=True.intro
  refine eP7 Tryz.func90 Tryz.ntmps90 fun BB=>?_
  repeat' first|refine sk8 ?_|(intro b;conv=>whnf)
  exact Rt.pure rfl
 | cons h t=>
  have HI:=True.intro
  have HS:=True.intro
  have hh:=hb h List.mem_cons_self
  have ht:∀ d∈t,d<256:=fun d hd=>hb d (List.mem_cons_of_mem _ hd)
  have hb0:(h :: t)[((0:Int)).toNat]?=some h:=rfl
  obtain ⟨kk,hkk⟩:∃ kk,kk=if h<128 then 127 - h else h - 128:=⟨_,rfl⟩
  simp only [List.length_cons] at hl
  by_cases h0:h<128
  ·obtain ⟨neg,hneg⟩:∃ b,b=decide (h<128):=⟨_,rfl⟩
   have hnt:neg=true:=by rw [hneg];exact decide_eq_true h0
   have hkv:kk=127 - h:=by rw [hkk,if_pos h0]
   have hKe:((kk+1:Nat):Int)=127 - (h:Int)+1:=by omega
   have hTK:∀ l:List (List D),l.take (127 - (h:Int)+1).toNat=l.take (kk+1):=fun l=>by congr 1;omega
   have hF:∀ e:Nat,e<256→((aa7 neg e:Nat):Int)=255 - (e:Int):=fun e he=>by rw [hnt];show ((255 - e:Nat):Int)=_;omega
   refine eP7 Tryz.func90 Tryz.ntmps90 fun BB=>?_
   rw [aw8 hkk hneg rfl]
   repeat' first|refine sk8 ?_|(intro b;conv=>whnf)
   refine Ot.yd (ab5 (m:=(h:Int)) rfl rfl Tryz.underlying5 Tryz.underlying3 (by rw [IntKind.wrap_i64];omega)) ?_
   by_cases c1:8<kk
   ·rw [if_pos c1]
    by_cases c0:h<119
    ·repeat' first|refine sk8 ?_|(intro b;conv=>whnf)
     exact Rt.pure rfl
    ·repeat' first|refine sk8 ?_|(intro b;conv=>whnf)
     exact Rt.pure rfl
   rw [if_neg c1]
   by_cases c2:t.length<kk
   ·rw [if_pos c2]
    repeat' first|refine sk8 ?_|(intro b;conv=>whnf)
    exact Rt.pure rfl
   rw [if_neg c2]
   obtain ⟨ds,hds⟩:∃ ds,ds=(t.take kk).map (aa7 neg):=⟨_,rfl⟩
   rw [← hds]
   have hdl:ds.length=kk:=by rw [hds,List.length_map,List.length_take];omega
   have hdlt:∀ d∈ds,d<256:=by
    intro d hd
    rw [hds] at hd
    obtain ⟨e,g1,g2⟩:=List.mem_map.1 hd
    rw [← g2];exact aj1 (ht e (List.mem_of_mem_take g1))
   repeat' first|refine sk8 ?_|(intro b;conv=>whnf)
   refine ad5 mixed aa0 (γ:=Nat) (fun q=>[(8,iD ((q:Int)+1)),(7,iD ((aa8 (ds.take q):Nat):Int))]) (fun _=>[]) (fun q=>q≤kk∧aa8 (ds.take q)<9223372036854775808) (fun q=>kk - q) 0 rfl rfl ⟨Nat.zero_le _,by rw [List.take_zero];decide⟩ ?_
   rintro q ⟨hq,hv⟩
   by_cases hlt:q<kk
   ·obtain ⟨e,he⟩:∃ e,t[q]?=some e:=⟨_,List.getElem?_eq_getElem (by omega)⟩
    have he':(h :: t)[((q:Int)+1).toNat]?=some e:=by rw [show ((q:Int)+1).toNat=q+1 by omega];exact he
    have hd:ds[q]?=some (aa7 neg e):=by rw [hds,List.getElem?_map,List.getElem?_take,if_pos hlt,he];rfl
    have hvt:=aD0 hd
    have hel:=ht e (List.mem_of_getElem? he)
    have hov:=bq9 (ds:=ds) (q:=q) (by omega)
    generalize aa8 (ds.take q)=mv at *
    repeat' first|refine sk8 ?_|(intro b;conv=>whnf)
    refine Ot.yd (ab5 (m:=(e:Int)) rfl rfl Tryz.underlying5 Tryz.underlying3 (by rw [IntKind.wrap_i64];omega)) ?_
    by_cases c5:36028797018963968≤mv
    ·have:=hov c5
     rw [if_pos this,ite_self]
     repeat' first|refine sk8 ?_|(intro b;conv=>whnf)
     exact Rt.pure rfl
    ·have hfv:=hF e hel
     have hfl:=aj1 (neg:=neg) hel
     repeat' first|refine sk8 ?_|(intro b;conv=>whnf)
     refine ⟨q+1,cl10,rfl,⟨by omega,by rw [hvt];omega⟩,by omega⟩
   ·obtain rfl:q=kk:=by omega
    have hdt:ds.take q=ds:=List.take_of_length_le (by omega)
    rw [hdt] at hv ⊢
    have c4:¬ 9223372036854775808≤aa8 ds:=by omega
    rw [if_neg c4]
    have HI:APure Tryz.prog 39 [iD (if neg then -1 - (aa8 ds:Int) else (aa8 ds:Int))] (slY (encI (if neg then -1 - (aa8 ds:Int) else (aa8 ds:Int)))):=aD5 (by split <;> exact ⟨by omega,by omega⟩)
    have hen:(encI (if neg then -1 - (aa8 ds:Int) else (aa8 ds:Int))).length≤9:=ac5 (by split <;> exact ⟨by omega,by omega⟩)
    have HS:=aR5 (encI (if neg then -1 - (aa8 ds:Int) else (aa8 ds:Int))) ((h :: t).take (q+1)) (by omega) (by simp;omega)
    rw [aO7 hb hkk hneg hds c1 c2 c4] at HS
    rw [hnt] at HI HS ⊢;simp only [if_true,Bool.false_eq_true,if_false] at HI HS ⊢
    generalize aa8 ds=mv at *
    by_cases c3:ds.head?=some 0
    ·rw [if_pos c3]
     rw [decide_eq_true c3] at HS
     repeat' first|refine sk8 ?_|(intro b;conv=>whnf)
     rw [hTK,← List.map_take]
     refine Cp.by HS ?_
     repeat' first|refine sk8 ?_|(intro b;conv=>whnf)
     exact Rt.pure rfl
    ·rw [if_neg c3]
     rw [decide_eq_false c3] at HS
     repeat' first|refine sk8 ?_|(intro b;conv=>whnf)
     rw [hTK,← List.map_take]
     refine Cp.by HS ?_
     repeat' first|refine sk8 ?_|(intro b;conv=>whnf)
     refine Rt.pure ?_
     rw [← hKe]
  ·obtain ⟨neg,hneg⟩:∃ b,b=decide (h<128):=⟨_,rfl⟩
   have hnt:neg=false:=by rw [hneg];exact decide_eq_false h0
   have hkv:kk=h - 128:=by rw [hkk,if_neg h0]
   have hKe:((kk+1:Nat):Int)=(h:Int) - 128+1:=by omega
   have hTK:∀ l:List (List D),l.take ((h:Int) - 128+1).toNat=l.take (kk+1):=fun l=>by congr 1;omega
   have hF:∀ e:Nat,e<256→((aa7 neg e:Nat):Int)=(e:Int):=fun e he=>by rw [hnt];rfl
   refine eP7 Tryz.func90 Tryz.ntmps90 fun BB=>?_
   rw [aw8 hkk hneg rfl]
   repeat' first|refine sk8 ?_|(intro b;conv=>whnf)
   refine Ot.yd (ab5 (m:=(h:Int)) rfl rfl Tryz.underlying5 Tryz.underlying3 (by rw [IntKind.wrap_i64];omega)) ?_
   by_cases c1:8<kk
   ·rw [if_pos c1]
    by_cases c0:h<119
    ·repeat' first|refine sk8 ?_|(intro b;conv=>whnf)
     exact Rt.pure rfl
    ·repeat' first|refine sk8 ?_|(intro b;conv=>whnf)
     exact Rt.pure rfl
   rw [if_neg c1]
   by_cases c2:t.length<kk
   ·rw [if_pos c2]
    repeat' first|refine sk8 ?_|(intro b;conv=>whnf)
    exact Rt.pure rfl
   rw [if_neg c2]
   obtain ⟨ds,hds⟩:∃ ds,ds=(t.take kk).map (aa7 neg):=⟨_,rfl⟩
   rw [← hds]
   have hdl:ds.length=kk:=by rw [hds,List.length_map,List.length_take];omega
   have hdlt:∀ d∈ds,d<256:=by
    intro d hd
    rw [hds] at hd
    obtain ⟨e,g1,g2⟩:=List.mem_map.1 hd
    rw [← g2];exact aj1 (ht e (List.mem_of_mem_take g1))
   repeat' first|refine sk8 ?_|(intro b;conv=>whnf)
   refine ad5 mixed aa0 (γ:=Nat) (fun q=>[(8,iD ((q:Int)+1)),(7,iD ((aa8 (ds.take q):Nat):Int))]) (fun _=>[]) (fun q=>q≤kk∧aa8 (ds.take q)<9223372036854775808) (fun q=>kk - q) 0 rfl rfl ⟨Nat.zero_le _,by rw [List.take_zero];decide⟩ ?_
   rintro q ⟨hq,hv⟩
   by_cases hlt:q<kk
   ·obtain ⟨e,he⟩:∃ e,t[q]?=some e:=⟨_,List.getElem?_eq_getElem (by omega)⟩
    have he':(h :: t)[((q:Int)+1).toNat]?=some e:=by rw [show ((q:Int)+1).toNat=q+1 by omega];exact he
    have hd:ds[q]?=some (aa7 neg e):=by rw [hds,List.getElem?_map,List.getElem?_take,if_pos hlt,he];rfl
    have hvt:=aD0 hd
    have hel:=ht e (List.mem_of_getElem? he)
    have hov:=bq9 (ds:=ds) (q:=q) (by omega)
    generalize aa8 (ds.take q)=mv at *
    repeat' first|refine sk8 ?_|(intro b;conv=>whnf)
    refine Ot.yd (ab5 (m:=(e:Int)) rfl rfl Tryz.underlying5 Tryz.underlying3 (by rw [IntKind.wrap_i64];omega)) ?_
    by_cases c5:36028797018963968≤mv
    ·have:=hov c5
     rw [if_pos this,ite_self]
     repeat' first|refine sk8 ?_|(intro b;conv=>whnf)
     exact Rt.pure rfl
    ·have hfv:=hF e hel
     have hfl:=aj1 (neg:=neg) hel
     repeat' first|refine sk8 ?_|(intro b;conv=>whnf)
     refine ⟨q+1,cl10,rfl,⟨by omega,by rw [hvt];omega⟩,by omega⟩
   ·obtain rfl:q=kk:=by omega
    have hdt:ds.take q=ds:=List.take_of_length_le (by omega)
    rw [hdt] at hv ⊢
    have c4:¬ 9223372036854775808≤aa8 ds:=by omega
    rw [if_neg c4]
    have HI:APure Tryz.prog 39 [iD (if neg then -1 - (aa8 ds:Int) else (aa8 ds:Int))] (slY (encI (if neg then -1 - (aa8 ds:Int) else (aa8 ds:Int)))):=aD5 (by split <;> exact ⟨by omega,by omega⟩)
    have hen:(encI (if neg then -1 - (aa8 ds:Int) else (aa8 ds:Int))).length≤9:=ac5 (by split <;> exact ⟨by omega,by omega⟩)
    have HS:=aR5 (encI (if neg then -1 - (aa8 ds:Int) else (aa8 ds:Int))) ((h :: t).take (q+1)) (by omega) (by simp;omega)
    rw [aO7 hb hkk hneg hds c1 c2 c4] at HS
    rw [hnt] at HI HS ⊢;simp only [if_true,Bool.false_eq_true,if_false] at HI HS ⊢
    generalize aa8 ds=mv at *
    by_cases c3:ds.head?=some 0
    ·rw [if_pos c3]
     rw [decide_eq_true c3] at HS
     repeat' first|refine sk8 ?_|(intro b;conv=>whnf)
     rw [hTK,← List.map_take]
     refine Cp.by HS ?_
     repeat' first|refine sk8 ?_|(intro b;conv=>whnf)
     exact Rt.pure rfl
    ·rw [if_neg c3]
     rw [decide_eq_false c3] at HS
     repeat' first|refine sk8 ?_|(intro b;conv=>whnf)
     rw [hTK,← List.map_take]
     refine Cp.by HS ?_
     repeat' first|refine sk8 ?_|(intro b;conv=>whnf)
     refine Rt.pure ?_
     rw [← hKe]
end
section
open Go
theorem sk9 {A B:Prop} (k:B) (h:Hd7 B→A:=by intro hk7q;(first|refine sb0 ?_|refine sb1 ?_|((with_reducible refine' Cp.by ?hc ?_);(case hc=>exact HG))|((with_reducible refine' CE.pure ?hc ?_);(case hc=>exact HG)));exact hk7q.run):A:=h ⟨k⟩
theorem sq0 {A B:Prop} (k:B) (h:Hd7 B→A:=by intro hk7q;(first|refine sk9 ?_|(with_reducible refine Br.f Bool.not_true ?_)|(with_reducible refine Br.t (decide_eq_true trivial) ?_)|(with_reducible refine Br.f (decide_eq_false not_false) ?_));exact hk7q.run):A:=h ⟨k⟩
theorem bD3 (b:List Nat) (hb:∀ d∈b,d<256) (hl:b.length≤1000000):APure Tryz.prog 88 [slY b,iD 1] (.tup [iD (getI b).1,iD ((getI b).2.1:Nat),iD (cntE 3 b).2.2]):=by
 have HG:=bq3 b hb hl
 obtain ⟨n,k,e,hg⟩:∃ n k e,getI b=(n,k,e):=⟨_,_,_,rfl⟩
 rw [hg] at HG
 simp only at HG
 unfold cntE
 rw [hg]
 simp only
 by_cases h0:e=0
 ·subst h0
  obtain ⟨hn,_,_⟩:=aD9 hb hg
  obtain ⟨hk,_⟩:=ac6 b n k hb hg
  have h1:=hn.lo
  have h2:=hn.hi
  rw [if_neg (by simp)]
  by_cases c1:n<0
  ·rw [if_pos c1]
   refine eP7 Tryz.func88 Tryz.ntmps88 fun BB=>?_
   repeat' first|refine sq0 ?_|(intro b;conv=>whnf)
   exact Rt.pure rfl
  rw [if_neg c1]
  by_cases c2:(b.length:Int) - k<n
  ·rw [if_pos c2]
   refine eP7 Tryz.func88 Tryz.ntmps88 fun BB=>?_
   repeat' first|refine sq0 ?_|(intro b;conv=>whnf)
   refine Sd.go ⟨by decide,by rw [Int.tdiv_one,List.length_map];exact ⟨by omega,by omega⟩⟩ ?_
   rw [Int.tdiv_one]
   repeat' first|refine sq0 ?_|(intro b;conv=>whnf)
   exact Rt.pure rfl
  rw [if_neg c2]
  refine eP7 Tryz.func88 Tryz.ntmps88 fun BB=>?_
  repeat' first|refine sq0 ?_|(intro b;conv=>whnf)
  refine Sd.go ⟨by decide,by rw [Int.tdiv_one,List.length_map];exact ⟨by omega,by omega⟩⟩ ?_
  rw [Int.tdiv_one]
  repeat' first|refine sq0 ?_|(intro b;conv=>whnf)
  exact Rt.pure rfl
 ·rw [if_pos h0]
  refine eP7 Tryz.func88 Tryz.ntmps88 fun BB=>?_
  repeat' first|refine sq0 ?_|(intro b;conv=>whnf)
  exact Rt.pure rfl
theorem bF3 (b:List Nat) (hb:∀ d∈b,d<256) (hl:b.length≤1000000):APure Tryz.prog 91 [slY b,iD 1] (.tup [iD (cntE 3 b).1,iD ((cntE 3 b).2.1:Nat),iD (cntE 3 b).2.2]):=by
 have HG:=bu2 b hb hl
 obtain ⟨n,k,e,hg⟩:∃ n k e,getI b=(n,k,e):=⟨_,_,_,rfl⟩
 rw [hg] at HG
 simp only at HG
 unfold cntE
 rw [hg]
 simp only
 by_cases h0:e=0
 ·subst h0
  obtain ⟨hn,_,_⟩:=aD9 hb hg
  obtain ⟨hk,_⟩:=ac6 b n k hb hg
  have h1:=hn.lo
  have h2:=hn.hi
  rw [if_neg (by simp)]
  by_cases c1:n<0
  ·rw [if_pos c1]
   refine eP7 Tryz.func91 Tryz.ntmps91 fun BB=>?_
   repeat' first|refine sq0 ?_|(intro b;conv=>whnf)
   exact Rt.pure rfl
  rw [if_neg c1]
  by_cases c2:(b.length:Int) - k<n
  ·rw [if_pos c2]
   by_cases c3:(b.length:Int)<n
   ·refine eP7 Tryz.func91 Tryz.ntmps91 fun BB=>?_
    repeat' first|refine sq0 ?_|(intro b;conv=>whnf)
    exact Rt.pure rfl
   ·refine eP7 Tryz.func91 Tryz.ntmps91 fun BB=>?_
    repeat' first|refine sq0 ?_|(intro b;conv=>whnf)
    exact Rt.pure rfl
  rw [if_neg c2]
  refine eP7 Tryz.func91 Tryz.ntmps91 fun BB=>?_
  repeat' first|refine sq0 ?_|(intro b;conv=>whnf)
  exact Rt.pure rfl
 ·rw [if_pos h0]
  refine eP7 Tryz.func91 Tryz.ntmps91 fun BB=>?_
  repeat' first|refine sq0 ?_|(intro b;conv=>whnf)
  exact Rt.pure rfl
end
section
open Go
theorem sz_y {c k:Nat} {l:List Nat} (h1:l.length≤c) (h:c*k≤140737488355328):(l.map yC).length*k≤140737488355328:=by rw [List.length_map];exact Nat.le_trans (Nat.mul_le_mul_right _ h1) h
theorem bd0 {l:List Nat} (h:l.length≤1000000):(l.map yC).length≤1000000000:=by rw [List.length_map];omega
theorem sk10 {A B:Prop} (k:B) (h:Hd7 B→A:=by intro hk7q;(first|refine sb0 ?_|refine sb1 ?_|((with_reducible refine' Cp.by ?hc ?_);(case hc=>exact aP9 HX))|((with_reducible refine' CE.pure ?hc ?_);(case hc=>exact aP9 HX)));exact hk7q.run):A:=h ⟨k⟩
theorem bP9 (l:List Int) (hl:l.length≤1000) (h:∀ v∈l,InR v):ACall Tryz.prog 38 [slI l] [] (fun d s=>∃ v,d = .v v∧RY (encL l) v s):=by
 refine eC7 Tryz.func38 Tryz.ntmps38 fun BB=>?_
 repeat' first|refine sk10 ?_|(intro b;conv=>whnf)
 refine CE.own (bh2 ((l.map fun n=>[iD n]).length:Int) (ae4 (by simp;omega))) (ai4 _) (fun s'=>s') ao0 ?_
 rintro _ s0 ⟨v0,rfl,hr0⟩
 rw [List.length_map] at hr0
 repeat' first|refine sk10 ?_|(intro b;conv=>whnf)
 refine aa5 mixed aa0 (γ:=Nat × Value × aa1) (fun g=>[(11,iD g.1),(3,.v g.2.1)]) (fun g=>g.2.2) (fun g=>g.1≤l.length∧RY (encI l.length ++ (l.take g.1).flatMap encI) g.2.1 g.2.2) (fun g=>l.length - g.1) (0,v0,s0) (aa2 cl2) (Sc.refl _) ⟨Nat.zero_le _,by simpa using hr0⟩ ?_
 clear hr0
 rintro ⟨j,v,s⟩ ⟨hj,hrow⟩
 simp only at hj hrow ⊢
 by_cases hjl:j<l.length
 ·obtain ⟨x,hx⟩:∃ x,l[j]?=some x:=⟨_,List.getElem?_eq_getElem hjl⟩
  have hx':l[((j:Nat):Int).toNat]?=some x:=hx
  have HX:=h x (List.mem_of_getElem? hx)
  have hxs:=ac5 HX
  have hns:=ac5 (n:=(l.length:Int)) (ae4 (by omega))
  have hpre:=az2 (f:=encI) (l:=l.take j) (c:=9) (fun y hy=>ac5 (h y (List.mem_of_mem_take hy)))
  rw [List.length_take] at hpre
  have hrow2:RowIs 5 1 ((encI l.length ++ (l.take j).flatMap encI).map yC) v s:=hrow
  have hle:(encI l.length ++ (l.take (j+1)).flatMap encI).length≤1000000:=by rw [ao6 hx];simp only [List.length_append];omega
  repeat' first|refine sk10 ?_|(intro b;conv=>whnf)
  refine Ap.go rfl rfl rfl rfl hrow2 (by simp:s.Perm (s ++ [])) (aD6 _) (zs:=(encI l.length ++ (l.take (j+1)).flatMap encI).map yC) (by rw [ao6 hx];simp only [List.map_append,List.append_assoc]) (sz_y hle (by decide)) (bd0 hle) (fun s'=>s') (fun s'=>by simp) (fun a' c' s' hr'=>?_)
  repeat' first|refine sk10 ?_|(intro b;conv=>whnf)
  exact ⟨(j+1,_,s'),(aa2 cl2),Sc.refl _,⟨by simp only;omega,hr'⟩,by simp only;omega⟩
 ·obtain rfl:j=l.length:=by omega
  repeat' first|refine sk10 ?_|(intro b;conv=>whnf)
  rw [List.take_length] at hrow
  exact Rt.same ⟨_,rfl,hrow⟩
theorem sk11 {A B:Prop} (k:B) (h:Hd7 B→A:=by intro hk7q;(first|refine sb0 ?_|refine sb1 ?_|((with_reducible refine' Cp.by ?hc ?_);(case hc=>exact aD5 HX))|((with_reducible refine' CE.pure ?hc ?_);(case hc=>exact aD5 HX)));exact hk7q.run):A:=h ⟨k⟩
theorem bS8 (l:List Int) (hl:l.length≤1000) (h:∀ v∈l,InR v):ACall Tryz.prog 40 [slI l] [] (fun d s=>∃ v,d = .v v∧RY (encL l) v s):=by
 refine eC7 Tryz.func40 Tryz.ntmps40 fun BB=>?_
 repeat' first|refine sk11 ?_|(intro b;conv=>whnf)
 refine CE.own (bj6 ((l.map fun n=>[iD n]).length:Int) (ae4 (by simp;omega))) (ai4 _) (fun s'=>s') ao0 ?_
 rintro _ s0 ⟨v0,rfl,hr0⟩
 rw [List.length_map] at hr0
 repeat' first|refine sk11 ?_|(intro b;conv=>whnf)
 refine aa5 mixed aa0 (γ:=Nat × Value × aa1) (fun g=>[(4,iD g.1),(3,.v g.2.1)]) (fun g=>g.2.2) (fun g=>g.1≤l.length∧RY (encI l.length ++ (l.take g.1).flatMap encI) g.2.1 g.2.2) (fun g=>l.length - g.1) (0,v0,s0) (aa2 cl2) (Sc.refl _) ⟨Nat.zero_le _,by simpa using hr0⟩ ?_
 clear hr0
 rintro ⟨j,v,s⟩ ⟨hj,hrow⟩
 simp only at hj hrow ⊢
 by_cases hjl:j<l.length
 ·obtain ⟨x,hx⟩:∃ x,l[j]?=some x:=⟨_,List.getElem?_eq_getElem hjl⟩
  have hx':l[((j:Nat):Int).toNat]?=some x:=hx
  have HX:=h x (List.mem_of_getElem? hx)
  have hxs:=ac5 HX
  have hns:=ac5 (n:=(l.length:Int)) (ae4 (by omega))
  have hpre:=az2 (f:=encI) (l:=l.take j) (c:=9) (fun y hy=>ac5 (h y (List.mem_of_mem_take hy)))
  rw [List.length_take] at hpre
  have hrow2:RowIs 5 1 ((encI l.length ++ (l.take j).flatMap encI).map yC) v s:=hrow
  have hle:(encI l.length ++ (l.take (j+1)).flatMap encI).length≤1000000:=by rw [ao6 hx];simp only [List.length_append];omega
  repeat' first|refine sk11 ?_|(intro b;conv=>whnf)
  refine Ap.go rfl rfl rfl rfl hrow2 (by simp:s.Perm (s ++ [])) (aD6 _) (zs:=(encI l.length ++ (l.take (j+1)).flatMap encI).map yC) (by rw [ao6 hx];simp only [List.map_append,List.append_assoc]) (sz_y hle (by decide)) (bd0 hle) (fun s'=>s') (fun s'=>by simp) (fun a' c' s' hr'=>?_)
  repeat' first|refine sk11 ?_|(intro b;conv=>whnf)
  exact ⟨(j+1,_,s'),(aa2 cl2),Sc.refl _,⟨by simp only;omega,hr'⟩,by simp only;omega⟩
 ·obtain rfl:j=l.length:=by omega
  repeat' first|refine sk11 ?_|(intro b;conv=>whnf)
  rw [List.take_length] at hrow
  exact Rt.same ⟨_,rfl,hrow⟩
theorem bh1 {l:List Int} (hl:l.length≤1000) (h:∀ v∈l,InR v):APure Tryz.prog 38 [slI l] (slY (encL l)):=ar9 (bP9 l hl h)
theorem bj5 {l:List Int} (hl:l.length≤1000) (h:∀ v∈l,InR v):APure Tryz.prog 40 [slI l] (slY (encL l)):=ar9 (bS8 l hl h)
end
section
open Go
section
variable {P:Program} {r:Option Nat} {n:Nat} {df:Nat} {N:Nat} {σ:aa1} {a:List D} {f:Frm} {T:TypeId→Option TI} {L:List Oper}
theorem OtE.box1 {o:Oper} {t:TypeId} {x:Operand} {d:D} {K:Frm→aa1→Prop} (ho:o.op = .box t x) (hx:evF f x=d) (hd:oneD d=true) (kk:∀ b,W (putK N o.dst (.v (.pointer (some ⟨b,0,none⟩))) f (fun f'=>K f' ((b,.cells t [d]) :: σ)))):OtE P r n df L N o f σ K:=by
 refine ⟨fun rest Q a hsp hw hk=>?_⟩
 refine ad7 hw (by rw [ho];rfl) fun w X fr hst=>?_
 have h1:=hsp.le x _ _ _ (hst.fr.eval x)
 rw [hx] at h1
 have hc:(fr.eval x).cells = #[fr.eval x]:=by
  have:=bu8 h1 hd
  cases hv:fr.eval x <;> rw [hv] at this <;> first|rfl|cases this
 have e0:(execOp fr.eval o).run P w = .ok (.value (.pointer (some ⟨w.heap.size,0,none⟩))) (w.alloc (.cells [fr.eval x].toArray t)):=by
  simp only [execOp,ho,Instr.box,newVar,hc]
  rfl
 rw [e0]
 obtain ⟨g1,g2,g3⟩:=hst.st.new (.cells [fr.eval x].toArray t) (.cells t [d]) ⟨_,rfl,RdL.cons h1 RdL.nil⟩
 obtain ⟨f',hs',h4⟩:=ac7 (kk w.heap.size).h hsp
 exact ⟨_,_,g2,(hst.mv g2 g1).put (.v _) o.dst,hk _ _ _ h4 hs'⟩
end
theorem sz_i {c k:Nat} {l:List Int} (h1:l.length≤c) (h:c*k≤140737488355328):(l.map fun n=>[iD n]).length*k≤140737488355328:=by rw [List.length_map];exact Nat.le_trans (Nat.mul_le_mul_right _ h1) h
theorem cd3 {l:List Int} (h:l.length≤1000000):(l.map fun n=>[iD n]).length≤1000000000:=by rw [List.length_map];omega
theorem sk12 {A B:Prop} (k:B) (h:Hd7 B→A:=by intro hk7q;(first|refine sb0 ?_|refine sb1 ?_|((with_reducible refine' Cp.by ?hc ?_);(case hc=>first|exact HC|exact HG))|((with_reducible refine' CE.pure ?hc ?_);(case hc=>first|exact HC|exact HG)));exact hk7q.run):A:=h ⟨k⟩
theorem sq1 {A B:Prop} (k:B) (h:Hd7 B→A:=by intro hk7q;(first|refine sk12 ?_|(with_reducible refine Br.f Bool.not_true ?_)|(with_reducible refine Br.t (decide_eq_true trivial) ?_)|(with_reducible refine Br.f (decide_eq_false not_false) ?_));exact hk7q.run):A:=h ⟨k⟩
theorem cl11 {p:Prop} (h:p:=by rw [List.take_of_length_le (by simp),List.map_drop]):p:=h
theorem bS9 (b:List Nat) (hb:∀ d∈b,d<256) (hl:b.length≤1000000):APure Tryz.prog 52 [slY b] (.tup [slI (getL b).1,iD ((getL b).2.1:Nat),iD (getL b).2.2]):=by
 have HC:=bF3 b hb hl
 unfold getL
 obtain ⟨n,k,e,hc⟩:∃ n k e,cntE 3 b=(n,k,e):=⟨_,_,_,rfl⟩
 rw [hc] at HC
 simp only at HC
 by_cases h0:e=0
 ·subst h0
  obtain ⟨hg,h1,h2⟩:=aF7 (by decide) hc
  obtain ⟨hk,_⟩:=ac6 b n k hb hg
  obtain ⟨m,rfl⟩:∃ m:Nat,n=(m:Int):=⟨n.toNat,by omega⟩
  refine eP7 Tryz.func52 Tryz.ntmps52 fun BB=>?_
  repeat' first|refine sq1 ?_|(intro b;conv=>whnf)
  refine aa5 mixed aa0 (γ:=Nat × Nat × List Int × Value × aa1) (fun g=>[(9,iD g.1),(6,iD ((k+g.2.1:Nat):Int)),(8,.v g.2.2.2.1)]) (fun g=>g.2.2.2.2) (fun g=>g.1≤m∧many getI g.1 (b.drop k)=(g.2.2.1,g.2.1,0)∧RI g.2.2.1 g.2.2.2.1 g.2.2.2.2) (fun g=>m - g.1) (0,0,[],.slice none 0 0,[]) (aa2 cl2) (Sc.refl _) ⟨Nat.zero_le _,rfl,RowIs.nil _ _⟩ ?_
  rintro ⟨q,j,xs,v,s⟩ ⟨hq,hm,hrow⟩
  simp only at hq hm hrow ⊢
  have hxl:=ar6 hm
  obtain ⟨hj,_⟩:=ao1 ac6 q _ _ _ (af4 hb k) hm
  rw [List.length_drop] at hj
  by_cases hqm:q<m
  ·have HG:=bu2 (b.drop (k+j)) (af4 hb _) (by rw [List.length_drop];omega)
   obtain ⟨x,u,e,hx⟩:∃ x u e,getI (b.drop (k+j))=(x,u,e):=⟨_,_,_,rfl⟩
   rw [hx] at HG
   simp only at HG
   repeat' first|refine sq1 ?_|(intro b;conv=>whnf)
   refine Ot.yd (aj4 aa0 (l:=k+j) (h:=b.length) (ys:=(b.drop (k+j)).map yC) rfl rfl rfl rfl rfl (.inr ⟨_,_,_,rfl,rfl,rfl⟩) (.inl ⟨rfl,by simp⟩) (by omega) (by simp) cl11) ?_
   by_cases he:e=0
   ·subst he
    obtain ⟨hu,_⟩:=ac6 _ x u (af4 hb _) hx
    rw [List.length_drop] at hu
    repeat' first|refine sq1 ?_|(intro b;conv=>whnf)
    refine Ap.go rfl rfl rfl rfl hrow (by simp:s.Perm (s ++ [])) rfl (zs:=(xs ++ [x]).map fun n=>[iD n]) (by simp) (sz_i (c:=1000001) (by simp;omega) (by decide)) (cd3 (by simp;omega)) (fun s'=>s') (fun s'=>by simp) (fun a' c' s' hr'=>?_)
    repeat' first|refine sq1 ?_|(intro b;conv=>whnf)
    exact ⟨(q+1,j+u,xs ++ [x],_,s'),(aa2 cl2),Sc.refl _,⟨by simp only;omega,at6 hm (by rw [List.drop_drop];exact hx),hr'⟩,by simp only;omega⟩
   ·rw [ao2 hc hm (by rw [hx]) he hqm]
    repeat' first|refine sq1 ?_|(intro b;conv=>whnf)
    exact Rt.le (ar8 (.cons (ae1 _) (LeL.refl _)))
  ·obtain rfl:q=m:=by omega
   rw [at7 hc hm]
   repeat' first|refine sq1 ?_|(intro b;conv=>whnf)
   exact Rt.vs (Vs.tup (.cons (Vs.row hrow (ai4 _)) (.cons (Vs.refl _ _) (.cons (Vs.refl _ _) (.nil _)))))
 ·rw [at8 hc h0]
  refine eP7 Tryz.func52 Tryz.ntmps52 fun BB=>?_
  repeat' first|refine sq1 ?_|(intro b;conv=>whnf)
  exact Rt.le (ar8 (.cons (ae1 _) (LeL.refl _)))
abbrev rdS (b1 b2:Nat) (b:List Nat) (at_:Nat):aa1:=[(b2,.cells 3 [iD at_]),(b1,.cells 23 [slY b])]
abbrev pD (b:Nat):D:=.v (.pointer (some ⟨b,0,none⟩))
theorem bq2 (b:List Nat) (k:Nat):ACall Tryz.prog 89 [slY b,iD k] [] (fun d s=>∃ b1 b2,d = .clo 142 [pD b1,pD b2]∧s=rdS b1 b2 b k):=by
 refine eC7 Tryz.func89 Tryz.ntmps89 fun BB=>?_
 (((with_reducible refine W.mk ?_);(conv=>whnf)))
 refine Bx.r ?_
 refine OtE.box1 rfl rfl rfl (fun b1=>?_)
 (((with_reducible refine W.mk ?_);(conv=>whnf)))
 refine Bx.r ?_
 refine OtE.box1 rfl rfl rfl (fun b2=>?_)
 repeat' first|refine sk2 ?_|(intro b;conv=>whnf)
 exact Rt.same ⟨b1,b2,rfl,rfl⟩
theorem bP8 (b:List Nat) (hb:∀ d∈b,d<256) (hl:b.length≤1000000) (k b1 b2:Nat) (hk:k≤b.length):ACall Tryz.prog 142 [pD b1,pD b2] (rdS b1 b2 b k) (fun d s=>d = .tup [iD (getI (b.drop k)).1,iD ((k+(getI (b.drop k)).2.1:Nat):Int),iD (getI (b.drop k)).2.2]∧s=rdS b1 b2 b (k+(getI (b.drop k)).2.1)):=by
 have HG:=bq3 (b.drop k) (af4 hb _) (by rw [List.length_drop];omega)
 obtain ⟨x,u,e,hx⟩:∃ x u e,getI (b.drop k)=(x,u,e):=⟨_,_,_,rfl⟩
 have hu:k+u≤b.length:=by
  by_cases he:e=0
  ·subst he
   obtain ⟨hu,_⟩:=ac6 _ x u (af4 hb _) hx
   rw [List.length_drop] at hu
   omega
  ·have:=bH9 (b:=b.drop k) (by rw [hx];exact he)
   rw [hx] at this
   have:u=0:=congrArg (fun z=>z.2.1) this
   omega
 rw [hx] at HG ⊢
 simp only at HG ⊢
 refine eC7 Tryz.func142 Tryz.ntmps142 fun BB=>?_
 repeat' first|refine sk9 ?_|(intro b;conv=>whnf)
 refine Ot.yd (aj4 aa0 (l:=k) (h:=b.length) (ys:=(b.drop k).map yC) rfl rfl rfl rfl rfl (.inr ⟨_,_,_,rfl,rfl,rfl⟩) (.inl ⟨rfl,by simp⟩) (by omega) (by simp) cl11) ?_
 repeat' first|refine sk9 ?_|(intro b;conv=>whnf)
 exact Rt.same ⟨by rw [Int.natCast_add],by unfold rdS;rw [Int.natCast_add]⟩
theorem sk13 {A B:Prop} (k:B) (h:Hd7 B→A:=by intro hk7q;(first|refine sb0 ?_|refine sb1 ?_|((with_reducible refine' Cp.by ?hc ?_);(case hc=>exact HC))|((with_reducible refine' CE.pure ?hc ?_);(case hc=>exact HC)));exact hk7q.run):A:=h ⟨k⟩
theorem sq2 {A B:Prop} (k:B) (h:Hd7 B→A:=by intro hk7q;(first|refine sk13 ?_|(with_reducible refine Br.f Bool.not_true ?_)|(with_reducible refine Br.t (decide_eq_true trivial) ?_)|(with_reducible refine Br.f (decide_eq_false not_false) ?_));exact hk7q.run):A:=h ⟨k⟩
theorem bQ0 (b:List Nat) (hb:∀ d∈b,d<256) (hl:b.length≤1000000):APure Tryz.prog 50 [slY b] (.tup [slI (getL b).1,iD ((getL b).2.1:Nat),iD (getL b).2.2]):=by
 have HC:=bD3 b hb hl
 unfold getL
 obtain ⟨n,k,e,hc⟩:∃ n k e,cntE 3 b=(n,k,e):=⟨_,_,_,rfl⟩
 rw [hc] at HC
 simp only at HC
 by_cases h0:e=0
 ·subst h0
  obtain ⟨hg,h1,h2⟩:=aF7 (by decide) hc
  obtain ⟨hk,_⟩:=ac6 b n k hb hg
  obtain ⟨m,rfl⟩:∃ m:Nat,n=(m:Int):=⟨n.toNat,by omega⟩
  rw [hg] at HC
  simp only at HC
  refine eP7 Tryz.func50 Tryz.ntmps50 fun BB=>?_
  repeat' first|refine sq2 ?_|(intro b;conv=>whnf)
  refine CE.own (bq2 b k) (ai4 _) (fun s'=>s') ao0 ?_
  rintro _ s0 ⟨b1,b2,rfl,rfl⟩
  repeat' first|refine sq2 ?_|(intro b;conv=>whnf)
  refine aa5 mixed aa0 (γ:=Nat × Nat × List Int × Value × aa1) (fun g=>[(26,iD g.1),(6,iD ((k+g.2.1:Nat):Int)),(9,.v g.2.2.2.1)]) (fun g=>rdS b1 b2 b (k+g.2.1) ++ g.2.2.2.2) (fun g=>g.1≤m∧many getI g.1 (b.drop k)=(g.2.2.1,g.2.1,0)∧RI g.2.2.1 g.2.2.2.1 g.2.2.2.2) (fun g=>m - g.1) (0,0,[],.slice none 0 0,[]) (aa2 cl2) (Sc.refl _) ⟨Nat.zero_le _,rfl,RowIs.nil _ _⟩ ?_
  rintro ⟨q,j,xs,v,s⟩ ⟨hq,hm,hrow⟩
  simp only at hq hm hrow ⊢
  have hxl:=ar6 hm
  obtain ⟨hj,_⟩:=ao1 ac6 q _ _ _ (af4 hb k) hm
  rw [List.length_drop] at hj
  by_cases hqm:q<m
  ·obtain ⟨x,u,e,hx⟩:∃ x u e,getI (b.drop (k+j))=(x,u,e):=⟨_,_,_,rfl⟩
   have HN:=bP8 b hb hl (k+j) b1 b2 (by omega)
   rw [hx] at HN
   simp only at HN
   repeat' first|refine sq2 ?_|(intro b;conv=>whnf)
   refine CE.own (t:=s) HN (List.Perm.refl _) (fun s'=>s' ++ s) (fun s'=>List.Perm.refl _) ?_
   rintro _ s1 ⟨rfl,rfl⟩
   by_cases he:e=0
   ·subst he
    obtain ⟨hu,_⟩:=ac6 _ x u (af4 hb _) hx
    rw [List.length_drop] at hu
    repeat' first|refine sq2 ?_|(intro b;conv=>whnf)
    refine Ap.go rfl rfl rfl rfl hrow (τ:=rdS b1 b2 b (k+j+u)) List.perm_append_comm rfl (zs:=(xs ++ [x]).map fun n=>[iD n]) (by simp) (sz_i (c:=1000001) (by simp;omega) (by decide)) (cd3 (by simp;omega)) (fun s'=>rdS b1 b2 b (k+j+u) ++ s') (fun s'=>List.perm_append_comm) (fun a' c' s' hr'=>?_)
    repeat' first|refine sq2 ?_|(intro b;conv=>whnf)
    exact ⟨(q+1,j+u,xs ++ [x],_,s'),(aa2 cl2),by simp only [Nat.add_assoc];exact Sc.refl _,⟨by simp only;omega,at6 hm (by rw [List.drop_drop];exact hx),hr'⟩,by simp only;omega⟩
   ·rw [ao2 hc hm (by rw [hx]) he hqm]
    repeat' first|refine sq2 ?_|(intro b;conv=>whnf)
    exact Rt.le (ar8 (.cons (ae1 _) (LeL.refl _)))
  ·obtain rfl:q=m:=by omega
   rw [at7 hc hm]
   repeat' first|refine sq2 ?_|(intro b;conv=>whnf)
   exact Rt.vs (Vs.tup (.cons (Vs.row hrow List.perm_append_comm) (.cons (Vs.refl _ _) (.cons (Vs.refl _ _) (.nil _)))))
 ·rw [at8 hc h0]
  refine eP7 Tryz.func50 Tryz.ntmps50 fun BB=>?_
  repeat' first|refine sq2 ?_|(intro b;conv=>whnf)
  exact Rt.le (ar8 (.cons (ae1 _) (LeL.refl _)))
end
section
open Go
theorem WSm.pre {w:List (List (List Int))} (h:WSm w) (k:Nat):(encI w.length ++ (w.take k).flatMap encK).length≤220000:=by
 rw [List.length_append]
 have h0:=h.k
 have h1:=ac5 (n:=(w.length:Int)) (ae4 (by omega))
 have h2:=az2 (f:=encK) (l:=w.take k) (c:=10989) (fun l hl=>h.kl l (List.mem_of_mem_take hl))
 rw [List.length_take] at h2
 have h3:Nat.min k w.length≤20:=Nat.le_trans (Nat.min_le_right _ _) h0
 have h4:=Nat.mul_le_mul_right 10989 h3
 have h5:min k w.length*10989≤20*10989:=h4
 omega
theorem WSm.pre2 {w:List (List (List Int))} (h:WSm w) {l:List (List Int)} (hl:l∈w) (i:Nat):(encI l.length ++ (l.take i).flatMap encL).length≤11000:=by
 rw [List.length_append]
 have h0:=h.n l hl
 have h1:=ac5 (n:=(l.length:Int)) (ae4 (by omega))
 have h2:=az2 (f:=encL) (l:=l.take i) (c:=549) (fun r hr=>h.l hl r (List.mem_of_mem_take hr))
 rw [List.length_take] at h2
 have h3:Nat.min i l.length≤20:=Nat.le_trans (Nat.min_le_right _ _) h0
 have h4:=Nat.mul_le_mul_right 549 h3
 have h5:min i l.length*549≤20*549:=h4
 omega
theorem sk14 {A B:Prop} (k:B) (h:Hd7 B→A:=by intro hk7q;(first|refine sb0 ?_|refine sb1 ?_|((with_reducible refine' Cp.by ?hc ?_);(case hc=>first|exact aP9 HX|exact bh1 HL HR))|((with_reducible refine' CE.pure ?hc ?_);(case hc=>first|exact aP9 HX|exact bh1 HL HR)));exact hk7q.run):A:=h ⟨k⟩
theorem cc3 (w:List (List (List Int))) (h:WSm w):ACall Tryz.prog 9 [slW w] [] (fun d s=>∃ v,d = .v v∧RY (encW w) v s):=by
 have hwl:=h.k
 refine eC7 Tryz.func9 Tryz.ntmps9 fun BB=>?_
 repeat' first|refine sk14 ?_|(intro b;conv=>whnf)
 refine CE.own (bh2 ((w.map fun l=>[slW1 l]).length:Int) (ae4 (by simp;omega))) (ai4 _) (fun s'=>s') ao0 ?_
 rintro _ s0 ⟨v0,rfl,hr0⟩
 rw [List.length_map] at hr0
 repeat' first|refine sk14 ?_|(intro b;conv=>whnf)
 refine aa5 mixed aa0 (γ:=Nat × Value × aa1) (fun g=>[(13,iD g.1),(3,.v g.2.1)]) (fun g=>g.2.2) (fun g=>g.1≤w.length∧RY (encI w.length ++ (w.take g.1).flatMap encK) g.2.1 g.2.2) (fun g=>w.length - g.1) (0,v0,s0) (aa2 cl2) (Sc.refl _) ⟨Nat.zero_le _,by simpa using hr0⟩ ?_
 clear hr0
 rintro ⟨k,v,s⟩ ⟨hk,hrow⟩
 simp only at hk hrow ⊢
 by_cases hkl:k<w.length
 ·obtain ⟨l,hl⟩:∃ x,w[k]?=some x:=⟨_,List.getElem?_eq_getElem hkl⟩
  have hl':w[((k:Nat):Int).toNat]?=some l:=hl
  have hlm:=List.mem_of_getElem? hl
  have hln:=h.n l hlm
  have hrow2:RowIs 5 1 ((encI w.length ++ (w.take k).flatMap encK).map yC) v s:=hrow
  have hp1:=h.pre k
  obtain ⟨pre,hpre⟩:∃ p,p=encI (w.length:Int) ++ (w.take k).flatMap encK:=⟨_,rfl⟩
  rw [← hpre] at hrow2 hp1
  have HX:InR ((l.map fun r=>[slI r]).length:Int):=ae4 (by simp;omega)
  have hz1:(pre ++ encI (l.length:Int)).length≤1000000:=by have:=ac5 (n:=(l.length:Int)) (ae4 (by omega));rw [List.length_append];omega
  repeat' first|refine sk14 ?_|(intro b;conv=>whnf)
  refine Ap.go rfl rfl rfl rfl hrow2 (by simp:s.Perm (s ++ [])) (aD6 _) (zs:=(pre ++ encI (l.length:Int)).map yC) (by rw [List.length_map,List.map_append]) (sz_y hz1 (by decide)) (bd0 hz1) (fun s'=>s') (fun s'=>by simp) (fun a1 c1 s1 hr1=>?_)
  repeat' first|refine sk14 ?_|(intro b;conv=>whnf)
  refine aa5 mixed aa0 (γ:=Nat × Value × aa1) (fun g=>[(24,iD g.1),(3,.v g.2.1)]) (fun g=>g.2.2) (fun g=>g.1≤l.length∧RY (pre ++ (encI l.length ++ (l.take g.1).flatMap encL)) g.2.1 g.2.2) (fun g=>l.length - g.1) (0,_,s1) (aa2 cl2) (Sc.refl _) ⟨Nat.zero_le _,by simp only [List.take_zero,List.flatMap_nil,List.append_nil];exact hr1⟩ ?_
  clear hr1 hrow hrow2
  rintro ⟨i,v2,s2⟩ ⟨hi,hrow⟩
  simp only at hi hrow ⊢
  by_cases hil:i<l.length
  ·obtain ⟨r,hr⟩:∃ x,l[i]?=some x:=⟨_,List.getElem?_eq_getElem hil⟩
   have hr':l[((i:Nat):Int).toNat]?=some r:=hr
   have hrm:=List.mem_of_getElem? hr
   have HL:r.length≤1000:=by have:=h.f l hlm r hrm;omega
   have HR:=h.v l hlm r hrm
   have hrow2:RowIs 5 1 ((pre ++ (encI l.length ++ (l.take i).flatMap encL)).map yC) v2 s2:=hrow
   have hz2:(pre ++ (encI (l.length:Int) ++ (l.take (i+1)).flatMap encL)).length≤1000000:=by have:=h.pre2 hlm (i+1);rw [List.length_append];omega
   repeat' first|refine sk14 ?_|(intro b;conv=>whnf)
   refine Ap.go rfl rfl rfl rfl hrow2 (by simp:s2.Perm (s2 ++ [])) (aD6 _) (zs:=(pre ++ (encI (l.length:Int) ++ (l.take (i+1)).flatMap encL)).map yC) (by rw [ao6 hr];simp only [List.map_append,List.append_assoc]) (sz_y hz2 (by decide)) (bd0 hz2) (fun s'=>s') (fun s'=>by simp) (fun a1 c1 s1 hr1=>?_)
   repeat' first|refine sk14 ?_|(intro b;conv=>whnf)
   exact ⟨(i+1,_,s1),(aa2 cl2),Sc.refl _,⟨by simp only;omega,hr1⟩,by simp only;omega⟩
  ·obtain rfl:i=l.length:=by omega
   rw [List.take_length] at hrow
   repeat' first|refine sk14 ?_|(intro b;conv=>whnf)
   exact ⟨(k+1,_,s2),(aa2 cl2),Sc.refl _,⟨by simp only;omega,by simp only;rw [ao6 hl,← List.append_assoc,← hpre];exact hrow⟩,by simp only;omega⟩
 ·obtain rfl:k=w.length:=by omega
  rw [List.take_length] at hrow
  repeat' first|refine sk14 ?_|(intro b;conv=>whnf)
  exact Rt.same ⟨_,rfl,hrow⟩
theorem sk15 {A B:Prop} (k:B) (h:Hd7 B→A:=by intro hk7q;(first|refine sb0 ?_|refine sb1 ?_|((with_reducible refine' Cp.by ?hc ?_);(case hc=>first|exact aD5 HX|exact bj5 HL HR))|((with_reducible refine' CE.pure ?hc ?_);(case hc=>first|exact aD5 HX|exact bj5 HL HR)));exact hk7q.run):A:=h ⟨k⟩
theorem bS6 (w:List (List (List Int))) (h:WSm w):ACall Tryz.prog 12 [slW w] [] (fun d s=>∃ v,d = .v v∧RY (encW w) v s):=by
 have hwl:=h.k
 refine eC7 Tryz.func12 Tryz.ntmps12 fun BB=>?_
 repeat' first|refine sk15 ?_|(intro b;conv=>whnf)
 refine CE.own (bj6 ((w.map fun l=>[slW1 l]).length:Int) (ae4 (by simp;omega))) (ai4 _) (fun s'=>s') ao0 ?_
 rintro _ s0 ⟨v0,rfl,hr0⟩
 rw [List.length_map] at hr0
 repeat' first|refine sk15 ?_|(intro b;conv=>whnf)
 refine aa5 mixed aa0 (γ:=Nat × Value × aa1) (fun g=>[(4,iD g.1),(3,.v g.2.1)]) (fun g=>g.2.2) (fun g=>g.1≤w.length∧RY (encI w.length ++ (w.take g.1).flatMap encK) g.2.1 g.2.2) (fun g=>w.length - g.1) (0,v0,s0) (aa2 cl2) (Sc.refl _) ⟨Nat.zero_le _,by simpa using hr0⟩ ?_
 clear hr0
 rintro ⟨k,v,s⟩ ⟨hk,hrow⟩
 simp only at hk hrow ⊢
 by_cases hkl:k<w.length
 ·obtain ⟨l,hl⟩:∃ x,w[k]?=some x:=⟨_,List.getElem?_eq_getElem hkl⟩
  have hl':w[((k:Nat):Int).toNat]?=some l:=hl
  have hlm:=List.mem_of_getElem? hl
  have hln:=h.n l hlm
  have hrow2:RowIs 5 1 ((encI w.length ++ (w.take k).flatMap encK).map yC) v s:=hrow
  have hp1:=h.pre k
  obtain ⟨pre,hpre⟩:∃ p,p=encI (w.length:Int) ++ (w.take k).flatMap encK:=⟨_,rfl⟩
  rw [← hpre] at hrow2 hp1
  have HX:InR ((l.map fun r=>[slI r]).length:Int):=ae4 (by simp;omega)
  have hz1:(pre ++ encI (l.length:Int)).length≤1000000:=by have:=ac5 (n:=(l.length:Int)) (ae4 (by omega));rw [List.length_append];omega
  repeat' first|refine sk15 ?_|(intro b;conv=>whnf)
  refine Ap.go rfl rfl rfl rfl hrow2 (by simp:s.Perm (s ++ [])) (aD6 _) (zs:=(pre ++ encI (l.length:Int)).map yC) (by rw [List.length_map,List.map_append]) (sz_y hz1 (by decide)) (bd0 hz1) (fun s'=>s') (fun s'=>by simp) (fun a1 c1 s1 hr1=>?_)
  repeat' first|refine sk15 ?_|(intro b;conv=>whnf)
  refine aa5 mixed aa0 (γ:=Nat × Value × aa1) (fun g=>[(5,iD g.1),(3,.v g.2.1)]) (fun g=>g.2.2) (fun g=>g.1≤l.length∧RY (pre ++ (encI l.length ++ (l.take g.1).flatMap encL)) g.2.1 g.2.2) (fun g=>l.length - g.1) (0,_,s1) (aa2 cl2) (Sc.refl _) ⟨Nat.zero_le _,by simp only [List.take_zero,List.flatMap_nil,List.append_nil];exact hr1⟩ ?_
  clear hr1 hrow hrow2
  rintro ⟨i,v2,s2⟩ ⟨hi,hrow⟩
  simp only at hi hrow ⊢
  by_cases hil:i<l.length
  ·obtain ⟨r,hr⟩:∃ x,l[i]?=some x:=⟨_,List.getElem?_eq_getElem hil⟩
   have hr':l[((i:Nat):Int).toNat]?=some r:=hr
   have hrm:=List.mem_of_getElem? hr
   have HL:r.length≤1000:=by have:=h.f l hlm r hrm;omega
   have HR:=h.v l hlm r hrm
   have hrow2:RowIs 5 1 ((pre ++ (encI l.length ++ (l.take i).flatMap encL)).map yC) v2 s2:=hrow
   have hz2:(pre ++ (encI (l.length:Int) ++ (l.take (i+1)).flatMap encL)).length≤1000000:=by have:=h.pre2 hlm (i+1);rw [List.length_append];omega
   repeat' first|refine sk15 ?_|(intro b;conv=>whnf)
   refine Ap.go rfl rfl rfl rfl hrow2 (by simp:s2.Perm (s2 ++ [])) (aD6 _) (zs:=(pre ++ (encI (l.length:Int) ++ (l.take (i+1)).flatMap encL)).map yC) (by rw [ao6 hr];simp only [List.map_append,List.append_assoc]) (sz_y hz2 (by decide)) (bd0 hz2) (fun s'=>s') (fun s'=>by simp) (fun a1 c1 s1 hr1=>?_)
   repeat' first|refine sk15 ?_|(intro b;conv=>whnf)
   exact ⟨(i+1,_,s1),(aa2 cl2),Sc.refl _,⟨by simp only;omega,hr1⟩,by simp only;omega⟩
  ·obtain rfl:i=l.length:=by omega
   rw [List.take_length] at hrow
   repeat' first|refine sk15 ?_|(intro b;conv=>whnf)
   exact ⟨(k+1,_,s2),(aa2 cl2),Sc.refl _,⟨by simp only;omega,by simp only;rw [ao6 hl,← List.append_assoc,← hpre];exact hrow⟩,by simp only;omega⟩
 ·obtain rfl:k=w.length:=by omega
  rw [List.take_length] at hrow
  repeat' first|refine sk15 ?_|(intro b;conv=>whnf)
  exact Rt.same ⟨_,rfl,hrow⟩
theorem bc4 (w:List (List (List Int))) (h:WSm w):APure Tryz.prog 9 [slW w] (slY (encW w)):=ar9 (cc3 w h)
theorem aR3 (w:List (List (List Int))) (h:WSm w):APure Tryz.prog 12 [slW w] (slY (encW w)):=ar9 (bS6 w h)
end
section
open Go
theorem an9 {α:Type} {R:ORep α} {e:TypeId} {xs:List α} {vs:List Value} {s0 t s':aa1} {ts:List aa1} {v u:Value} {x:α} (h2:All3 R xs vs ts) (h1:RowIs e 1 (vs.map (fun u=>[D.v u]) ++ [[D.v u]]) v s0) (hx:R x u t) (hp:s'.Perm (s0 ++ (ts.flatten ++ t))):RowsOf e R (xs ++ [x]) v s':=
 ⟨vs ++ [u],s0,ts ++ [t],by simpa using h1,h2.append (.cons hx .nil),hp.trans (by simp)⟩
abbrev R2:ORep (List (List Int)):=fun l v s=>RowIs 22 1 (l.map fun r=>[slI r]) v s
abbrev R3:ORep (List (List (List Int))):=RowsOf 62 R2
theorem co8:Frz R2 slW1:=by3 _ _ _
theorem cj5:Frz R3 slW:=aU0 co8
theorem aW5 (b:List Nat) (hb:∀ d∈b,d<256) (hl:b.length≤1000000):APure Tryz.prog 51 [slY b] (.tup [iD (cntE 2 b).1,iD ((cntE 2 b).2.1:Nat),iD (cntE 2 b).2.2]):=by
 have HG:=bu2 b hb hl
 obtain ⟨n,k,e,hg⟩:∃ n k e,getI b=(n,k,e):=⟨_,_,_,rfl⟩
 rw [hg] at HG
 simp only at HG
 unfold cntE
 rw [hg]
 simp only
 by_cases h0:e=0
 ·subst h0
  obtain ⟨hn,_,_⟩:=aD9 hb hg
  obtain ⟨hk,_⟩:=ac6 b n k hb hg
  have h1:=hn.lo
  have h2:=hn.hi
  rw [if_neg (by simp)]
  by_cases c1:n<0
  ·rw [if_pos c1]
   refine eP7 Tryz.func51 Tryz.ntmps51 fun BB=>?_
   repeat' first|refine sq0 ?_|(intro b;conv=>whnf)
   exact Rt.pure rfl
  rw [if_neg c1]
  by_cases c2:(b.length:Int) - k<n
  ·rw [if_pos c2]
   refine eP7 Tryz.func51 Tryz.ntmps51 fun BB=>?_
   repeat' first|refine sq0 ?_|(intro b;conv=>whnf)
   exact Rt.pure rfl
  rw [if_neg c2]
  refine eP7 Tryz.func51 Tryz.ntmps51 fun BB=>?_
  repeat' first|refine sq0 ?_|(intro b;conv=>whnf)
  exact Rt.pure rfl
 ·rw [if_pos h0]
  refine eP7 Tryz.func51 Tryz.ntmps51 fun BB=>?_
  repeat' first|refine sq0 ?_|(intro b;conv=>whnf)
  exact Rt.pure rfl
abbrev rsS (c:Nat) (b:List Nat):aa1:=[(c,.cells 23 [slY b])]
theorem bh0 (b:List Nat) (hb:∀ d∈b,d<256) (hl:b.length≤1000000) (c:Nat):ACall Tryz.prog 48 [pD c] (rsS c b) (fun d s=>d = .tup [iD (cntE 2 b).1,iD (cntE 2 b).2.2]∧(∃ b',s=rsS c b')∧((cntE 2 b).2.2=0→s=rsS c (b.drop (cntE 2 b).2.1))):=by
 have HG:=bq3 b hb hl
 obtain ⟨n,k,e,hg⟩:∃ n k e,getI b=(n,k,e):=⟨_,_,_,rfl⟩
 rw [hg] at HG
 simp only at HG
 unfold cntE
 rw [hg]
 simp only
 by_cases h0:e=0
 ·subst h0
  obtain ⟨hn,_,_⟩:=aD9 hb hg
  obtain ⟨hk,_⟩:=ac6 b n k hb hg
  have h1:=hn.lo
  have h2:=hn.hi
  have hdl:(b.drop k).length=b.length - k:=List.length_drop
  rw [if_neg (by simp)]
  by_cases c1:n<0
  ·rw [if_pos c1]
   refine eC7 Tryz.func48 Tryz.ntmps48 fun BB=>?_
   repeat' first|refine sq0 ?_|(intro b;conv=>whnf)
   refine Ot.yd (aj4 aa0 (l:=k) (h:=b.length) (ys:=(b.drop k).map yC) rfl rfl rfl rfl rfl (.inr ⟨_,_,_,rfl,rfl,rfl⟩) (.inl ⟨rfl,by simp⟩) (by omega) (by simp) cl11) ?_
   repeat' first|refine sq0 ?_|(intro b;conv=>whnf)
   exact Rt.same ⟨rfl,⟨_,rfl⟩,fun h=>by cases h⟩
  rw [if_neg c1]
  by_cases c2:(b.length:Int) - k<n
  ·rw [if_pos c2]
   refine eC7 Tryz.func48 Tryz.ntmps48 fun BB=>?_
   repeat' first|refine sq0 ?_|(intro b;conv=>whnf)
   refine Ot.yd (aj4 aa0 (l:=k) (h:=b.length) (ys:=(b.drop k).map yC) rfl rfl rfl rfl rfl (.inr ⟨_,_,_,rfl,rfl,rfl⟩) (.inl ⟨rfl,by simp⟩) (by omega) (by simp) cl11) ?_
   repeat' first|refine sq0 ?_|(intro b;conv=>whnf)
   exact Rt.same ⟨rfl,⟨_,rfl⟩,fun h=>by cases h⟩
  rw [if_neg c2]
  refine eC7 Tryz.func48 Tryz.ntmps48 fun BB=>?_
  repeat' first|refine sq0 ?_|(intro b;conv=>whnf)
  refine Ot.yd (aj4 aa0 (l:=k) (h:=b.length) (ys:=(b.drop k).map yC) rfl rfl rfl rfl rfl (.inr ⟨_,_,_,rfl,rfl,rfl⟩) (.inl ⟨rfl,by simp⟩) (by omega) (by simp) cl11) ?_
  repeat' first|refine sq0 ?_|(intro b;conv=>whnf)
  exact Rt.same ⟨rfl,⟨_,rfl⟩,fun h=>rfl⟩
 ·rw [if_pos h0]
  refine eC7 Tryz.func48 Tryz.ntmps48 fun BB=>?_
  repeat' first|refine sq0 ?_|(intro b;conv=>whnf)
  exact Rt.same ⟨rfl,⟨_,rfl⟩,fun h=>absurd h h0⟩
end
section
open Go
theorem sz_1 {c k:Nat} {l:List (List Int)} (h1:l.length≤c) (h:c*k≤140737488355328):(l.map fun r=>[slI r]).length*k≤140737488355328:=by rw [List.length_map];exact Nat.le_trans (Nat.mul_le_mul_right _ h1) h
theorem sz_2 {c k:Nat} {vs:List Value} {z:D} (h1:vs.length+1≤c) (h:c*k≤140737488355328):(vs.map (fun u=>[D.v u]) ++ [[z]]).length*k≤140737488355328:=by rw [List.length_append,List.length_map];exact Nat.le_trans (Nat.mul_le_mul_right _ h1) h
theorem sk16 {A B:Prop} (k:B) (h:Hd7 B→A:=by intro hk7q;(first|refine sb0 ?_|refine sb1 ?_|((with_reducible refine' Cp.by ?hc ?_);(case hc=>first|exact HC|exact HG|exact HL))|((with_reducible refine' CE.pure ?hc ?_);(case hc=>first|exact HC|exact HG|exact HL)));exact hk7q.run):A:=h ⟨k⟩
theorem sq3 {A B:Prop} (k:B) (h:Hd7 B→A:=by intro hk7q;(first|refine sk16 ?_|(with_reducible refine Br.f Bool.not_true ?_)|(with_reducible refine Br.t (decide_eq_true trivial) ?_)|(with_reducible refine Br.f (decide_eq_false not_false) ?_));exact hk7q.run):A:=h ⟨k⟩
theorem aR4 (b:List Nat) (hb:∀ d∈b,d<256) (hl:b.length≤1000000):APure Tryz.prog 19 [slY b] (.tup [slW (decW b).1,iD ((decW b).2.1:Nat),iD (decW b).2.2]):=by
 have HC:=aW5 b hb hl
 unfold decW
 obtain ⟨n,k,e,hc⟩:∃ n k e,cntE 2 b=(n,k,e):=⟨_,_,_,rfl⟩
 rw [hc] at HC
 simp only at HC
 by_cases h0:e=0
 ·subst h0
  obtain ⟨hg,h1,h2⟩:=aF7 (by decide) hc
  obtain ⟨hk,_⟩:=ac6 b n k hb hg
  obtain ⟨m,rfl⟩:∃ m:Nat,n=(m:Int):=⟨n.toNat,by omega⟩
  refine eP7 Tryz.func19 Tryz.ntmps19 fun BB=>?_
  repeat' first|refine sq3 ?_|(intro b;conv=>whnf)
  refine aa5 mixed aa0 (γ:=Nat × Nat × List (List (List Int)) × Value × aa1) (fun g=>[(9,iD g.1),(6,iD ((k+g.2.1:Nat):Int)),(8,.v g.2.2.2.1)]) (fun g=>g.2.2.2.2) (fun g=>g.1≤m∧many getK g.1 (b.drop k)=(g.2.2.1,g.2.1,0)∧R3 g.2.2.1 g.2.2.2.1 g.2.2.2.2) (fun g=>m - g.1) (0,0,[],.slice none 0 0,[]) (aa2 cl2) (Sc.refl _) ⟨Nat.zero_le _,rfl,RowsOf.nil _ _⟩ ?_
  rintro ⟨q,j,ws,v,s⟩ ⟨hq,hm,hrow⟩
  simp only at hq hm hrow ⊢
  have hwl:=ar6 hm
  obtain ⟨hj,_⟩:=ao1 (ai8 (by decide) (ai8 (by decide) ac6)) q _ _ _ (af4 hb k) hm
  rw [List.length_drop] at hj
  by_cases hqm:q<m
  ·have HG:=aW5 (b.drop (k+j)) (af4 hb _) (by rw [List.length_drop];omega)
   obtain ⟨n2,k2,e2,hc2⟩:∃ n' k' e',cntE 2 (b.drop (k+j))=(n',k',e'):=⟨_,_,_,rfl⟩
   rw [hc2] at HG
   simp only at HG
   by_cases he:e2=0
   ·subst he
    obtain ⟨hg2,h3,h4⟩:=aF7 (by decide) hc2
    obtain ⟨hk2,_⟩:=ac6 _ n2 k2 (af4 hb _) hg2
    rw [List.length_drop] at hk2 h4
    obtain ⟨m2,rfl⟩:∃ m:Nat,n2=(m:Int):=⟨n2.toNat,by omega⟩
    repeat' first|refine sq3 ?_|(intro b;conv=>whnf)
    refine Ot.yd (aj4 aa0 (l:=k+j) (h:=b.length) (ys:=(b.drop (k+j)).map yC) rfl rfl rfl rfl rfl (.inr ⟨_,_,_,rfl,rfl,rfl⟩) (.inl ⟨rfl,by simp⟩) (by omega) (by simp) cl11) ?_
    repeat' first|refine sq3 ?_|(intro b;conv=>whnf)
    refine aa5 mixed aa0 (γ:=Nat × Nat × List (List Int) × Value × aa1) (fun g=>[(14,iD g.1),(6,iD ((k+j+k2+g.2.1:Nat):Int)),(13,.v g.2.2.2.1)]) (fun g=>g.2.2.2.2 ++ s) (fun g=>g.1≤m2∧many getL g.1 ((b.drop (k+j)).drop k2)=(g.2.2.1,g.2.1,0)∧R2 g.2.2.1 g.2.2.2.1 g.2.2.2.2) (fun g=>m2 - g.1) (0,0,[],.slice none 0 0,[]) (aa2 cl2) (Sc.refl _) ⟨Nat.zero_le _,rfl,RowIs.nil _ _⟩ ?_
    rintro ⟨i,j2,ls,v2,s2⟩ ⟨hi,hm2,hrow2⟩
    simp only at hi hm2 hrow2 ⊢
    have hll:=ar6 hm2
    obtain ⟨hj2,_⟩:=ao1 (ai8 (by decide) ac6) i _ _ _ (af4 (af4 hb _) _) hm2
    rw [List.length_drop,List.length_drop] at hj2
    by_cases him:i<m2
    ·have HL:=bS9 (b.drop (k+j+k2+j2)) (af4 hb _) (by rw [List.length_drop];omega)
     have hdd:(b.drop (k+j)).drop (k2+j2)=b.drop (k+j+k2+j2):=by rw [List.drop_drop];congr 1;omega
     have hdd2:((b.drop (k+j)).drop k2).drop j2=b.drop (k+j+k2+j2):=by simp only [List.drop_drop]
     obtain ⟨x,u,e,hx⟩:∃ x u e,getL (b.drop (k+j+k2+j2))=(x,u,e):=⟨_,_,_,rfl⟩
     rw [hx] at HL
     simp only at HL
     by_cases he:e=0
     ·subst he
      obtain ⟨hu,_⟩:=ai8 (c:=3) (by decide) ac6 _ x u (af4 hb _) hx
      rw [List.length_drop] at hu
      repeat' first|refine sq3 ?_|(intro b;conv=>whnf)
      refine Ot.yd (aj4 aa0 (l:=k+j+k2+j2) (h:=b.length) (ys:=(b.drop (k+j+k2+j2)).map yC) rfl rfl rfl rfl rfl (.inr ⟨_,_,_,rfl,rfl,rfl⟩) (.inl ⟨rfl,by simp⟩) (by omega) (by simp) cl11) ?_
      repeat' first|refine sq3 ?_|(intro b;conv=>whnf)
      refine Ap.go rfl rfl rfl rfl hrow2 (List.Perm.refl _) rfl (zs:=(ls ++ [x]).map fun r=>[slI r]) (by rw [List.map_append];rfl) (sz_1 (c:=1000001) (by simp;omega) (by decide)) (by simp;omega) (fun s'=>s' ++ s) (fun s'=>List.Perm.refl _) (fun a' c' s' hr'=>?_)
      repeat' first|refine sq3 ?_|(intro b;conv=>whnf)
      exact ⟨(i+1,j2+u,ls ++ [x],_,s'),(aa2 cl2),Sc.refl _,⟨by simp only;omega,at6 hm2 (by rw [hdd2];exact hx),hr'⟩,by simp only;omega⟩
     ·rw [ao2 hc hm (congrArg (fun z=>z.2.2) (ao2 (f:=getL) hc2 hm2 (by rw [hdd,hx]) he him)) he hqm]
      repeat' first|refine sq3 ?_|(intro b;conv=>whnf)
      refine Ot.yd (aj4 aa0 (l:=k+j+k2+j2) (h:=b.length) (ys:=(b.drop (k+j+k2+j2)).map yC) rfl rfl rfl rfl rfl (.inr ⟨_,_,_,rfl,rfl,rfl⟩) (.inl ⟨rfl,by simp⟩) (by omega) (by simp) cl11) ?_
      repeat' first|refine sq3 ?_|(intro b;conv=>whnf)
      exact Rt.le (ar8 (.cons (ae1 1) (LeL.refl _)))
    ·obtain rfl:i=m2:=by omega
     have hK:=at7 (f:=getL) hc2 hm2
     obtain ⟨vs,s0,ts,g1,g2,g3⟩:=hrow.ex
     have hvl:=g2.len.1
     obtain ⟨a2,c2,rfl⟩:=RowIs.slice hrow2
     repeat' first|refine sq3 ?_|(intro b;conv=>whnf)
     refine Ap.go rfl rfl rfl rfl g1 (show (s2 ++ s).Perm (s0 ++ (ts.flatten ++ s2)) from (List.Perm.append_left s2 g3).trans (List.perm_append_comm.trans (by simp))) rfl (zs:=vs.map (fun u=>[D.v u]) ++ [[D.v (.slice a2 (ls.map fun r=>[slI r]).length c2)]]) rfl (sz_2 (c:=1000002) (by omega) (by decide)) (by simp;omega) (fun s3=>s3 ++ (ts.flatten ++ s2)) (fun s3=>List.Perm.refl _) (fun a3 c3 s3 hr3=>?_)
     repeat' first|refine sq3 ?_|(intro b;conv=>whnf)
     exact ⟨(q+1,j+(k2+j2),ws ++ [ls],_,s3 ++ (ts.flatten ++ s2)),(aa2 cl2),Sc.refl _,⟨by simp only;omega,at6 hm (by rw [List.drop_drop];exact hK),an9 g2 hr3 hrow2 (List.Perm.refl _)⟩,by simp only;omega⟩
   ·rw [ao2 hc hm (congrArg (fun z=>z.2.2) (at8 (f:=getL) hc2 he)) he hqm]
    repeat' first|refine sq3 ?_|(intro b;conv=>whnf)
    refine Ot.yd (aj4 aa0 (l:=k+j) (h:=b.length) (ys:=(b.drop (k+j)).map yC) rfl rfl rfl rfl rfl (.inr ⟨_,_,_,rfl,rfl,rfl⟩) (.inl ⟨rfl,by simp⟩) (by omega) (by simp) cl11) ?_
    repeat' first|refine sq3 ?_|(intro b;conv=>whnf)
    exact Rt.le (ar8 (.cons (ae1 1) (LeL.refl _)))
  ·obtain rfl:q=m:=by omega
   rw [at7 hc hm]
   repeat' first|refine sq3 ?_|(intro b;conv=>whnf)
   exact Rt.vs (Vs.tup (.cons (Vs.frz cj5 hrow (ai4 _)) (.cons (Vs.refl _ _) (.cons (Vs.refl _ _) (.nil _)))))
 ·rw [at8 hc h0]
  refine eP7 Tryz.func19 Tryz.ntmps19 fun BB=>?_
  repeat' first|refine sq3 ?_|(intro b;conv=>whnf)
  exact Rt.le (ar8 (.cons (ae1 1) (LeL.refl _)))
end
section
open Go
theorem sk17 {A B:Prop} (k:B) (h:Hd7 B→A:=by intro hk7q;(first|refine sb0 ?_|refine sb1 ?_|((with_reducible refine' Cp.by ?hc ?_);(case hc=>exact HL))|((with_reducible refine' CE.pure ?hc ?_);(case hc=>exact HL)));exact hk7q.run):A:=h ⟨k⟩
theorem sq4 {A B:Prop} (k:B) (h:Hd7 B→A:=by intro hk7q;(first|refine sk17 ?_|(with_reducible refine Br.f Bool.not_true ?_)|(with_reducible refine Br.t (decide_eq_true trivial) ?_)|(with_reducible refine Br.f (decide_eq_false not_false) ?_));exact hk7q.run):A:=h ⟨k⟩
theorem cl12 {p:Prop} (h:p:=by (refine ac9 fun a=>?_;simp only [List.append_eq,List.nil_append,ad1,af7,af6,rfC,atC,iD,bD];omega)):p:=h
theorem cl13 {p:Prop} (h:p:=by (refine ac9 fun a=>?_;simp only [List.append_eq,List.nil_append,ad1,af7,af6,rfC,atC,iD,bD];omega)):p:=h
theorem bg9 (y:List Nat) (hb:∀ d∈y,d<256) (hl:y.length≤1000000):APure Tryz.prog 18 [slY y] (.tup [slW (decW y).1,iD ((decW y).2.1:Nat),iD (decW y).2.2]):=by
 have HC:=fun c=>bh0 y hb hl c
 unfold decW
 obtain ⟨n,k,e,hc⟩:∃ n k e,cntE 2 y=(n,k,e):=⟨_,_,_,rfl⟩
 rw [hc] at HC
 simp only at HC
 by_cases h0:e=0
 ·subst h0
  obtain ⟨hg,h1,h2⟩:=aF7 (by decide) hc
  obtain ⟨hk,_⟩:=ac6 y n k hb hg
  obtain ⟨m,rfl⟩:∃ m:Nat,n=(m:Int):=⟨n.toNat,by omega⟩
  refine eP7 Tryz.func18 Tryz.ntmps18 fun BB=>?_
  repeat' first|refine sq4 ?_|(intro b;conv=>whnf)
  refine CE.own (HC b) (ai4 _) (fun s'=>s') ao0 ?_
  rintro _ s1 ⟨rfl,_,hs1⟩
  obtain rfl:=hs1 rfl
  repeat' first|refine sq4 ?_|(intro b;conv=>whnf)
  refine aa5 mixed aa0 (γ:=Nat × Nat × List (List (List Int)) × Value × aa1) (fun g=>[(27,iD g.1),(9,.v g.2.2.2.1)]) (fun g=>rsS b (y.drop (k+g.2.1)) ++ g.2.2.2.2) (fun g=>g.1≤m∧many getK g.1 (y.drop k)=(g.2.2.1,g.2.1,0)∧R3 g.2.2.1 g.2.2.2.1 g.2.2.2.2) (fun g=>m - g.1) (0,0,[],.slice none 0 0,[]) (aa2 cl2) (Sc.refl _) ⟨Nat.zero_le _,rfl,RowsOf.nil _ _⟩ ?_
  clear HC hs1
  rintro ⟨q,j,ws,v,s⟩ ⟨hq,hm,hrow⟩
  simp only at hq hm hrow ⊢
  have hwl:=ar6 hm
  obtain ⟨hj,_⟩:=ao1 (ai8 (by decide) (ai8 (by decide) ac6)) q _ _ _ (af4 hb k) hm
  rw [List.length_drop] at hj
  by_cases hqm:q<m
  ·have HG:=bh0 (y.drop (k+j)) (af4 hb _) (by rw [List.length_drop];omega) b
   obtain ⟨n2,k2,e2,hc2⟩:∃ n' k' e',cntE 2 (y.drop (k+j))=(n',k',e'):=⟨_,_,_,rfl⟩
   rw [hc2] at HG
   simp only at HG
   repeat' first|refine sq4 ?_|(intro b;conv=>whnf)
   refine CE.own (t:=s) HG (List.Perm.refl _) (fun s'=>s' ++ s) (fun s'=>List.Perm.refl _) ?_
   rintro _ s1 ⟨rfl,⟨b',rfl⟩,hs1⟩
   by_cases he:e2=0
   ·subst he
    obtain ⟨hg2,h3,h4⟩:=aF7 (by decide) hc2
    obtain ⟨hk2,_⟩:=ac6 _ n2 k2 (af4 hb _) hg2
    rw [List.length_drop] at hk2 h4
    obtain ⟨m2,rfl⟩:∃ m:Nat,n2=(m:Int):=⟨n2.toNat,by omega⟩
    rw [hs1 rfl,List.drop_drop]
    clear hs1
    repeat' first|refine sq4 ?_|(intro b;conv=>whnf)
    refine aa5 mixed aa0 (γ:=Nat × Nat × List (List Int) × Value × aa1) (fun g=>[(38,iD g.1),(12,.v g.2.2.2.1)]) (fun g=>rsS b (y.drop (k+j+k2+g.2.1)) ++ (g.2.2.2.2 ++ s)) (fun g=>g.1≤m2∧many getL g.1 ((y.drop (k+j)).drop k2)=(g.2.2.1,g.2.1,0)∧R2 g.2.2.1 g.2.2.2.1 g.2.2.2.2) (fun g=>m2 - g.1) (0,0,[],.slice none 0 0,[]) (aa2 cl2) (Sc.refl _) ⟨Nat.zero_le _,rfl,RowIs.nil _ _⟩ ?_
    rintro ⟨i,j2,ls,v2,s2⟩ ⟨hi,hm2,hrow2⟩
    simp only at hi hm2 hrow2 ⊢
    have hll:=ar6 hm2
    obtain ⟨hj2,_⟩:=ao1 (ai8 (by decide) ac6) i _ _ _ (af4 (af4 hb _) _) hm2
    rw [List.length_drop,List.length_drop] at hj2
    by_cases him:i<m2
    ·have HL:=bQ0 (y.drop (k+j+k2+j2)) (af4 hb _) (by rw [List.length_drop];omega)
     have hdd:(y.drop (k+j)).drop (k2+j2)=y.drop (k+j+k2+j2):=by rw [List.drop_drop];congr 1;omega
     have hdd2:((y.drop (k+j)).drop k2).drop j2=y.drop (k+j+k2+j2):=by simp only [List.drop_drop]
     obtain ⟨x,u,e,hx⟩:∃ x u e,getL (y.drop (k+j+k2+j2))=(x,u,e):=⟨_,_,_,rfl⟩
     rw [hx] at HL
     simp only at HL
     by_cases he:e=0
     ·subst he
      obtain ⟨hu,_⟩:=ai8 (c:=3) (by decide) ac6 _ x u (af4 hb _) hx
      rw [List.length_drop] at hu
      repeat' first|refine sq4 ?_|(intro b;conv=>whnf)
      refine Ot.yd (aj4 aa0 (l:=u) (h:=(y.drop (k+j+k2+j2)).length) (ys:=(y.drop (k+j+k2+(j2+u))).map yC) rfl rfl rfl rfl rfl (.inr ⟨_,_,_,rfl,rfl,rfl⟩) (.inl ⟨rfl,by simp⟩) (by rw [List.length_drop];omega) (by simp) (by rw [List.take_of_length_le (by simp),← List.map_drop,List.drop_drop,Nat.add_assoc])) ?_
      repeat' first|refine sq4 ?_|(intro b;conv=>whnf)
      show Ap _ _ (rsS b (y.drop (k+j+k2+(j2+u))) ++ (s2 ++ s)) _ _ _ _
      refine Ap.go rfl rfl rfl rfl hrow2 (τ:=rsS b (y.drop (k+j+k2+(j2+u))) ++ s) cl12 rfl (zs:=(ls ++ [x]).map fun r=>[slI r]) (by rw [List.map_append];rfl) (sz_1 (c:=1000001) (by simp;omega) (by decide)) (by simp;omega) (fun s'=>rsS b (y.drop (k+j+k2+(j2+u))) ++ (s' ++ s)) (fun s'=>cl13) (fun a' c' s' hr'=>?_)
      repeat' first|refine sq4 ?_|(intro b;conv=>whnf)
      exact ⟨(i+1,j2+u,ls ++ [x],_,s'),(aa2 cl2),Sc.refl _,⟨by simp only;omega,at6 hm2 (by rw [hdd2];exact hx),hr'⟩,by simp only;omega⟩
     ·rw [ao2 hc hm (congrArg (fun z=>z.2.2) (ao2 (f:=getL) hc2 hm2 (by rw [hdd,hx]) he him)) he hqm]
      repeat' first|refine sq4 ?_|(intro b;conv=>whnf)
      exact Rt.le (ar8 (.cons (ae1 1) (LeL.refl _)))
    ·obtain rfl:i=m2:=by omega
     have hK:=at7 (f:=getL) hc2 hm2
     obtain ⟨vs,s0,ts,g1,g2,g3⟩:=hrow.ex
     have hvl:=g2.len.1
     obtain ⟨a2,c2,rfl⟩:=RowIs.slice hrow2
     repeat' first|refine sq4 ?_|(intro b;conv=>whnf)
     refine Ap.go rfl rfl rfl rfl g1 (τ:=rsS b (y.drop (k+j+k2+j2)) ++ (ts.flatten ++ s2)) (by (refine ac9 fun a=>?_;have e1:=ai0 g3 a;simp only [List.append_eq,List.nil_append,ad1,af7,af6,rfC,atC,iD,bD] at e1 ⊢;omega)) rfl (zs:=vs.map (fun u=>[D.v u]) ++ [[D.v (.slice a2 (ls.map fun r=>[slI r]).length c2)]]) rfl (sz_2 (c:=1000002) (by omega) (by decide)) (by simp;omega) (fun s3=>rsS b (y.drop (k+j+k2+j2)) ++ (s3 ++ (ts.flatten ++ s2))) (fun s3=>cl13) (fun a3 c3 s3 hr3=>?_)
     repeat' first|refine sq4 ?_|(intro b;conv=>whnf)
     exact ⟨(q+1,j+(k2+j2),ws ++ [ls],_,s3 ++ (ts.flatten ++ s2)),(aa2 cl2),by simp only [Nat.add_assoc];exact Sc.refl _,⟨by simp only;omega,at6 hm (by rw [List.drop_drop];exact hK),an9 g2 hr3 hrow2 (List.Perm.refl _)⟩,by simp only;omega⟩
   ·rw [ao2 hc hm (congrArg (fun z=>z.2.2) (at8 (f:=getL) hc2 he)) he hqm]
    repeat' first|refine sq4 ?_|(intro b;conv=>whnf)
    exact Rt.le (ar8 (.cons (ae1 1) (LeL.refl _)))
  ·obtain rfl:q=m:=by omega
   rw [at7 hc hm]
   repeat' first|refine sq4 ?_|(intro b;conv=>whnf)
   refine Sd.go (by simp only [List.length_map,List.length_drop];exact ⟨by omega,by omega⟩) ?_
   rw [show (((y.map yC).length:Int) - (((y.drop (k+j)).map yC).length:Int))=((k+j:Nat):Int) by simp only [List.length_map,List.length_drop];omega]
   repeat' first|refine sq4 ?_|(intro b;conv=>whnf)
   exact Rt.vs (Vs.tup (.cons (Vs.frz cj5 hrow List.perm_append_comm) (.cons (Vs.refl _ _) (.cons (Vs.refl _ _) (.nil _)))))
 ·rw [at8 hc h0]
  refine eP7 Tryz.func18 Tryz.ntmps18 fun BB=>?_
  repeat' first|refine sq4 ?_|(intro b;conv=>whnf)
  refine CE.own (HC b) (ai4 _) (fun s'=>s') ao0 ?_
  rintro _ s1 ⟨rfl,⟨b',rfl⟩,_⟩
  repeat' first|refine sq4 ?_|(intro b;conv=>whnf)
  exact Rt.le (ar8 (.cons (ae1 1) (LeL.refl _)))
end
end Go.Proofs.YtlcfiilejnnlnaaGreatDoor
