/- A part of the proof: SrcF Valid R09b R09c Cv R09d R09e R09f R09g Br Sj Qe. -/
import Derived.Test.YtlcfiilejnnlnaaGreatDoorO12
import Derived.Deep.RegionHeld3
import Derived.Laws.IdiomStrings
import Derived.Shelf.Strings.OnBuilder
import Derived.Test.YtlcfiilejnnlnaaGreatDoorProg
set_option maxRecDepth 100000
set_option maxHeartbeats 20000000
set_option linter.unusedVariables false
set_option linter.unusedSimpArgs false
namespace Go.Proofs.YtlcfiilejnnlnaaGreatDoor
section
open Go.RowKit Go.Shelf
def SrcAt (W1:World) (B:Nat) (m:Nat) (wr:World):Prop:=Ex W1 wr∧∃ n O,Bld wr B B n O∧n≤m
theorem SrcAt.ex {W1 wr w':World} {B m:Nat} (h:SrcAt W1 B m wr) (he:Ex wr w'):SrcAt W1 B m w':=by
 obtain ⟨h1,n,O,h2,h3⟩:=h
 exact ⟨h1.trans he,n,O,h2.ex he,h3⟩
theorem SrcAt.mono {W1 wr:World} {B m m':Nat} (h:SrcAt W1 B m wr) (hm:m≤m'):SrcAt W1 B m' wr:=by
 obtain ⟨h1,n,O,h2,h3⟩:=h
 exact ⟨h1,n,O,h2,by omega⟩
theorem aJ7 {W1 wr:World} {B m:Nat} (h:SrcAt W1 B m wr) (hB:W1.heap.size≤B) (s:ByteArray) (hm:m+s.size≤1000000000) :
  Calls Tryz.prog 163 #[.pointer (some ⟨B,0,none⟩),.string s] wr fun e w'=>e = .returned (.tuple #[.int .i64 s.size,.nilIface])∧SrcAt W1 B (m+s.size) w'∧wr.heap.size≤w'.heap.size:=by
 obtain ⟨h1,n,O,h2,h3⟩:=h
 refine (aj2 h2 s (by omega)).mono ?_
 rintro e w' ⟨rfl,hw⟩
 obtain ⟨O',hb'⟩:=hw.bld
 exact ⟨rfl,⟨Wrote.ex' hB h1 h2 hw,_,O',hb',by omega⟩,hw.1.size⟩
theorem at3 {W1 wr wn:World} {B m N:Nat} (h:SrcAt W1 B m wr) (hB:W1.heap.size≤B) (s:ByteArray) (hm:m+s.size≤1000000000) (hN:wr.heap.size≤N) (he:Ex wr wn) (hne:N≠B) :
  Calls Tryz.prog 163 #[.pointer (some ⟨B,0,none⟩),.string s] wn fun e w'=>e = .returned (.tuple #[.int .i64 s.size,.nilIface])∧SrcAt W1 B (m+s.size) w'∧wn.heap.size≤w'.heap.size∧∀ i v,wn.cell? ⟨N,i,none⟩=some v→w'.cell? ⟨N,i,none⟩=some v:=by
 obtain ⟨h1,n,O,h2,h3⟩:=h
 have h2':=h2.ex he
 refine (aj2 h2' s (by omega)).mono ?_
 rintro e w' ⟨rfl,hw⟩
 obtain ⟨O',hb'⟩:=hw.bld
 exact ⟨rfl,⟨Wrote.ex' hB (h1.trans he) h2' hw,_,O',hb',by omega⟩,hw.1.size,fun i v hc=>hw.cell hc hne (fun e=>by have:=h2.own_lt N e;omega)⟩
def aj1 (nm:ByteArray) (ss:List ByteArray) (j:Nat):List (Int ⊕ ByteArray):=Sum.inr nm :: Sum.inl (ss.length:Int) :: (ss.take j).map Sum.inr
theorem aM3 (nm:ByteArray) (ss:List ByteArray) (j:Nat) (h:j≤ss.length):(aj1 nm ss j).length=2+j:=by simp [aj1];omega
theorem aW2 (nm:ByteArray) (ss:List ByteArray) (j:Nat) (s:ByteArray) (h:ss[j]?=some s):aj1 nm ss (j+1)=aj1 nm ss j ++ [.inr s]:=by simp [aj1,List.take_add_one,h]
theorem bs2 (nm:ByteArray) (ss:List ByteArray):ac0 (aj1 nm ss ss.length)=2+nm.size+intB ss.length+sumB (fun s=>1+s.size) ss:=by
 simp only [aj1,List.take_of_length_le (Nat.le_refl _),ac0,List.map_cons,List.sum_cons,as3,List.map_map,sumB]
 have:(as3 ∘ (Sum.inr:ByteArray→Int ⊕ ByteArray))=fun s=>1+s.size:=by funext s;rfl
 rw [this];omega
theorem cc0 (a:Int ⊕ ByteArray):∀ u∈[anyV a],u.oneCell'=true:=by cases a <;> simp [anyV,Value.oneCell']
theorem bq7 (x:Sch) (w:World) {F:Nat→Prop} {ka la ra:Option Addr} {kc lc rc:Nat} (hver:I64 x.version) (hk:RKnds w F x.kinds ka kc) (hl:RLifs w F x.lives la lc) (hr:RRuls w F x.rules ra rc) (hx:ci2 x) (hv:al7 x=true) (hb:srcB x≤1000000) (hp:Pow10 w) (hwd:WordsAt w) :
  Calls Tryz.prog 196 #[.agg #[.int .i64 x.version,.slice ka x.kinds.length kc,.slice la x.lives.length lc,.slice ra x.rules.length rc]] w
   fun e w'=>∃ s:ByteArray,e = .returned (.string s)∧s.size≤srcB x∧Ex w w':=by
 obtain ⟨ver,kinds,lives,rules⟩:=x
 simp only at *
 have hlk:=hx.nkinds
 have hll:=hx.nlives
 have hlr:=hx.nrules
 simp only at hlk hll hlr
 obtain ⟨W1,HW⟩:∃ W1:World,Hid (W1=w.alloc (.cells #[.int .i64 ver,.slice ka kinds.length kc,.slice la lives.length lc,.slice ra rules.length rc] 28)):=⟨_,rfl⟩
 have b1:W1.cell? ⟨w.heap.size,1,none⟩=some (.slice ka kinds.length kc):=by rw [HW.out];simp
 have b2:W1.cell? ⟨w.heap.size,2,none⟩=some (.slice la lives.length lc):=by rw [HW.out];simp
 have b3:W1.cell? ⟨w.heap.size,3,none⟩=some (.slice ra rules.length rc):=by rw [HW.out];simp
 have bz:W1.heap.size≤w.heap.size+1:=by rw [HW.out];simp
 have bz0:w.heap.size<W1.heap.size:=by rw [HW.out];simp
 have hsrc0:SrcAt W1 (w.heap.size+1) 0 ((w.alloc (.cells #[.int .i64 ver,.slice ka kinds.length kc,.slice la lives.length lc,.slice ra rules.length rc] 28)).alloc (.cells #[.pointer none,.slice none 0 0] 266)):=by
  rw [HW.out]
  refine ⟨(Ex.refl _).alloc,0,none,?_,Nat.le_refl _⟩
  have:=Bld.fresh (w.alloc (.cells #[.int .i64 ver,.slice ka kinds.length kc,.slice la lives.length lc,.slice ra rules.length rc] 28)) (w.heap.size+1) (by simp)
  simpa using this
 have hbx:Ex w W1:=by rw [HW.out];exact (Ex.refl _).alloc
 have HL0:Hid (∀ (W:World) (N:Nat),Ex w W→N=W.heap.size→Calls Tryz.prog 234 #[.string ⟨#[115,99,104,101,109,97]⟩,.slice (some ⟨N,0,none⟩) 1 1] (W.alloc (.cells #[.iface 3 (.int .i64 ver)] 20)) fun e w'=>∃ s:ByteArray,e = .returned (.string s)∧s.size≤29∧Ex W w'):=Lib.hid (by
  intro W N he hN
  subst hN
  have i1:=ae3 ver
  have hB:ac0 [.inl ver]=1+intB ver:=by simp [ac0,as3]
  refine (ak7 ⟨#[115,99,104,101,109,97]⟩ [.inl ver] W (by simp [hver]) (hp.ex he) (by simp) (by rw [hB];show 6+_≤_;omega)).mono ?_
  rintro e w' ⟨s,h1,h2,h3⟩
  refine ⟨s,h1,?_,h3⟩
  have h2':s.size≤6+ac0 [.inl ver]+1:=h2
  omega)
 have HL1:Hid (∀ (W:World) (N:Nat) (nm:ByteArray) (lo hi:Int),I64 lo→I64 hi→nm.size≤1000000→Ex w W→N=W.heap.size→Calls Tryz.prog 234 #[.string ⟨#[107,105,110,100]⟩,.slice (some ⟨N,0,none⟩) 3 3] (W.alloc (.cells #[.iface 9 (.string nm),.iface 3 (.int .i64 lo),.iface 3 (.int .i64 hi)] 20)) fun e w'=>∃ s:ByteArray,e = .returned (.string s)∧s.size≤8+nm.size+intB lo+intB hi∧Ex W w'):=Lib.hid (by
  intro W N nm lo hi hlo hhi hnm he hN
  subst hN
  have i1:=ae3 lo
  have i2:=ae3 hi
  have hB:ac0 [.inr nm,.inl lo,.inl hi]=3+nm.size+intB lo+intB hi:=by simp [ac0,as3];omega
  refine (ak7 ⟨#[107,105,110,100]⟩ [.inr nm,.inl lo,.inl hi] W (by simp [hlo,hhi]) (hp.ex he) (by simp) (by rw [hB];show 4+_≤_;omega)).mono ?_
  rintro e w' ⟨s,h1,h2,h3⟩
  refine ⟨s,h1,?_,h3⟩
  have h2':s.size≤4+ac0 [.inr nm,.inl lo,.inl hi]+1:=h2
  omega)
 have HL5:Hid (∀ (W:World) (N:Nat) (lo hi:Int),I64 lo→I64 hi→Ex w W→N=W.heap.size→Calls Tryz.prog 234 #[.string ⟨#[109,111,118,101]⟩,.slice (some ⟨N,0,none⟩) 2 2] (W.alloc (.cells #[.iface 3 (.int .i64 lo),.iface 3 (.int .i64 hi)] 20)) fun e w'=>∃ s:ByteArray,e = .returned (.string s)∧s.size≤7+intB lo+intB hi∧Ex W w'):=Lib.hid (by
  intro W N lo hi hlo hhi he hN
  subst hN
  have i1:=ae3 lo
  have i2:=ae3 hi
  have hB:ac0 [.inl lo,.inl hi]=2+intB lo+intB hi:=by simp [ac0,as3];omega
  refine (ak7 ⟨#[109,111,118,101]⟩ [.inl lo,.inl hi] W (by simp [hlo,hhi]) (hp.ex he) (by simp) (by rw [hB];show 4+_≤_;omega)).mono ?_
  rintro e w' ⟨s,h1,h2,h3⟩
  refine ⟨s,h1,?_,h3⟩
  have h2':s.size≤4+ac0 [.inl lo,.inl hi]+1:=h2
  omega)
 have HL6:Hid (∀ (W:World) (N:Nat) (nm kd a b:ByteArray) (n:Int),I64 n→nm.size+kd.size+a.size+b.size≤10000000→Ex w W→N=W.heap.size→Calls Tryz.prog 234 #[.string ⟨#[114,117,108,101]⟩,.slice (some ⟨N,0,none⟩) 5 5] (W.alloc (.cells #[.iface 9 (.string nm),.iface 9 (.string kd),.iface 9 (.string a),.iface 9 (.string b),.iface 3 (.int .i64 n)] 20)) fun e w'=>∃ s:ByteArray,e = .returned (.string s)∧s.size≤10+nm.size+kd.size+a.size+b.size+intB n∧Ex W w'):=Lib.hid (by
  intro W N nm kd a b n hn hsz he hN
  subst hN
  have i1:=ae3 n
  have hB:ac0 [.inr nm,.inr kd,.inr a,.inr b,.inl n]=5+nm.size+kd.size+a.size+b.size+intB n:=by simp [ac0,as3];omega
  refine (ak7 ⟨#[114,117,108,101]⟩ [.inr nm,.inr kd,.inr a,.inr b,.inl n] W (by simp [hn]) (hp.ex he) (by simp) (by rw [hB];show 4+_≤_;omega)).mono ?_
  rintro e w' ⟨s,h1,h2,h3⟩
  refine ⟨s,h1,?_,h3⟩
  have h2':s.size≤4+ac0 [.inr nm,.inr kd,.inr a,.inr b,.inl n]+1:=h2
  omega)
 have hsb:29+sumB kndB kinds+sumB lifB lives+sumB rulB rules≤1000000:=hb
 have HX:=Lib.hid hx
 have HV:=Lib.hid hv
 clear hx hv hb
 go_enter Tryz.func196,Tryz.ntmps196
 go_wp2_with fail
 refine (HL0.out _ _ cl0 (by simp)).mono ?_
 rintro e w1 ⟨s,rfl,hs,he1⟩
 have hsrc1:=hsrc0.ex he1
 clear hsrc0 he1
 go_wp2_with fail
 refine (aJ7 hsrc1 bz s (by omega)).mono ?_
 rintro e w2 ⟨rfl,hsrc2,_⟩
 have hsrc:=hsrc2.mono (m':=29) (by omega)
 clear hsrc1 hsrc2
 obtain ⟨hc,hf⟩:=hsrc.1.rules
 go_wp2
 clear hc hf
 go_loopw [26] (fun i wr=>∃ j:Nat,j≤kinds.length∧i = .int .i64 j∧Hid (SrcAt W1 (w.heap.size+1) (29+sumB kndB (kinds.take j)) wr)) (fun i _=>kinds.length - (intOf i).toNat)
 case atStart=>exact ⟨0,by omega,rfl,by simpa [sumB,Hid] using hsrc⟩
 case round=>
  obtain ⟨wo,hwo⟩:∃ wo:World,wo=wr:=⟨_,rfl⟩
  subst hwo
  obtain ⟨j,hj,rfl,hs1⟩:=hrel
  clear hsrc
  by_cases hlt:j<kinds.length
  ·have hexo:=hbx.trans hs1.out.1
   obtain ⟨y,b,off,fa,fc,hy,rfl,_,c0,c1,c2,c3,hry⟩:=bb9 hk hexo.same hlt
   have hym:=List.mem_of_getElem? hy.out
   have hyS:=HX.out.kinds y hym
   have hyV:aj3 y=true:=by
    have:=HV.out;simp only [al7,Bool.and_eq_true,List.all_eq_true] at this
    exact this.1.1.2 y hym
   have hny:=hyS.name
   unfold SmS at hny
   obtain ⟨fa',fc',hvs,hlo,hhi,hfl⟩:=hry.out
   cases hvs
   clear hry
   have Hk1:=Lib.hid (aw9 kndB kinds j y hy.out)
   have Hk2:=Lib.hid (aJ6 kndB kinds (j+1))
   have hkb:29+sumB kndB (kinds.take j)+kndB y≤1000000:=by have h1:=Hk1.out;have h2:=Hk2.out;omega
   have hkb':kndB y=8+y.name.size+intB y.lo+intB y.hi+sumB an8 y.fields:=rfl
   have hnf:=hyS.nfields
   go_wp2_with fail
   refine (HL1.out _ _ _ _ _ hlo hhi hny cl0 (by simp)).mono ?_
   rintro e w1 ⟨s1,rfl,hs',he1⟩
   go_wp2_with fail
   refine (at3 hs1.out bz s1 (by omega) (Nat.le_refl wo.heap.size) cl0 (by have:=hs1.out.1.size;obtain ⟨_,n',O',hb',_⟩:=hs1.out;have:=hb'.lt;omega)).mono ?_
   rintro e w2' ⟨rfl,hsrc2,hz2,hkeep⟩
   have d3:=hkeep 3 (.slice fa y.fields.length fc) (he1.cell (by simp))
   have hsA:=Lib.hid (hsrc2.mono (m':=29+sumB kndB (kinds.take j)+(8+y.name.size+intB y.lo+intB y.hi)) (by omega))
   clear hsrc2 hkeep he1 c0 c1 c2 c3 hz2
   go_wp2
   clear d3
   go_loopw [45] (fun i wr=>∃ q:Nat,q≤y.fields.length∧i = .int .i64 q∧Hid (SrcAt W1 (w.heap.size+1) (29+sumB kndB (kinds.take j)+(8+y.name.size+intB y.lo+intB y.hi)+sumB an8 (y.fields.take q)) wr)) (fun i _=>y.fields.length - (intOf i).toNat)
   case atStart=>exact ⟨0,by omega,rfl,by simpa [sumB,Hid] using hsA⟩
   case round=>
    obtain ⟨q,hq,rfl,hs2⟩:=hrel
    clear hsA
    by_cases hlt2:q<y.fields.length
    ·have hexr:=hbx.trans hs2.out.1
     obtain ⟨f,b2,off2,wa,wc,ga,gc,hf,rfl,_,e0,e1,e2,e3,e4,e5,e6,e7,hrf⟩:=bc8 hfl hexr.same hlt2
     have hfm:=List.mem_of_getElem? hf.out
     have hfS:=hyS.fields f hfm
     have hfV:ab3 f=true:=by
      have:=hyV;simp only [aj3,Bool.and_eq_true,List.all_eq_true] at this
      exact this.2 f hfm
     obtain ⟨wa',wc',ga',gc',hvs,hkk,hlo2,hhi2,hws,hgs⟩:=hrf.out
     cases hvs
     clear hrf
     have Hf1:=Lib.hid (aw9 an8 y.fields q f hf.out)
     have Hf2:=Lib.hid (aJ6 an8 y.fields (q+1))
     have hfb:sumB an8 (y.fields.take q)+an8 f≤sumB an8 y.fields:=by have h1:=Hf1.out;have h2:=Hf2.out;omega
     have HFc:=Lib.hid (fun (W:World) (he:Ex w W)=>bE7 f W (hws.keep he.same (fun _ h=>h) (fun _ _ _ h=>h)) (hgs.keep he.same (fun _ h=>h) (fun _ _ _ h=>h)) hlo2 hhi2 hfS hfV (by omega) (hp.ex he) (hwd.ex he))
     clear hws hgs hfV hfS
     go_wp2_with fail
     refine (HFc.out _ cl0).mono ?_
     rintro e w3 ⟨s2,rfl,hs2',he3⟩
     have hsB:=hs2.out.ex ((Ex.refl _).alloc.trans he3)
     clear he3 e0 e1 e2 e3 e4 e5 e6 e7
     go_wp2_with fail
     refine (aJ7 hsB bz s2 (by omega)).mono ?_
     rintro e w4 ⟨rfl,hsC,_⟩
     have hsD:=Lib.hid (hsC.mono (m':=29+sumB kndB (kinds.take j)+(8+y.name.size+intB y.lo+intB y.hi)+sumB an8 (y.fields.take (q+1))) (by have h1:=Hf1.out;omega))
     clear hsB hsC
     go_wp2
     go_roundw
     case rel=>exact ⟨q+1,by omega,by go_num,hsD⟩
     case measure=>simp [intOf];omega
    ·have hsE:=Lib.hid (hs2.out.mono (m':=29+sumB kndB (kinds.take (j+1))) (by have h1:=Hk1.out;have e:y.fields.take q=y.fields:=List.take_of_length_le (by omega);rw [e];omega))
     go_wp2
     go_roundw
     case rel=>exact ⟨j+1,by omega,by go_num,hsE⟩
     case measure=>simp [intOf];omega
  ·have hs3:=Lib.hid (hs1.out.mono (m':=29+sumB kndB kinds) (by have e:kinds.take j=kinds:=List.take_of_length_le (by omega);rw [e];omega))
   clear hs1
   obtain ⟨hc,hf⟩:=hs3.out.1.rules
   go_wp2
   clear hc hf
   go_loopw [57] (fun i wr=>∃ j:Nat,j≤lives.length∧i = .int .i64 j∧Hid (SrcAt W1 (w.heap.size+1) (29+sumB kndB kinds+sumB lifB (lives.take j)) wr)) (fun i _=>lives.length - (intOf i).toNat)
   case atStart=>exact ⟨0,by omega,rfl,by simpa [sumB,Hid] using hs3.out⟩
   case round=>
    obtain ⟨wp,hwp⟩:∃ wp:World,wp=wr:=⟨_,rfl⟩
    subst hwp
    obtain ⟨j3,hj3,rfl,hs1⟩:=hrel
    clear hs3
    by_cases hlt3:j3<lives.length
    ·have hexo:=hbx.trans hs1.out.1
     obtain ⟨y,b,off,sa,sc,ma,mc,hy,rfl,_,c0,c1,c2,hry⟩:=bb5 hl hexo.same hlt3
     have hym:=List.mem_of_getElem? hy.out
     have hyS:=HX.out.lives y hym
     have hny:=hyS.name
     unfold SmS at hny
     obtain ⟨sa',sc',ma',mc',hvs,hst,hmv⟩:=hry.out
     cases hvs
     clear hry
     have Hk1:=Lib.hid (aw9 lifB lives j3 y hy.out)
     have Hk2:=Lib.hid (aJ6 lifB lives (j3+1))
     have hkb:29+sumB kndB kinds+sumB lifB (lives.take j3)+lifB y≤1000000:=by have h1:=Hk1.out;have h2:=Hk2.out;omega
     have hkb':lifB y=7+y.name.size+intB y.states.length+sumB (fun s=>1+s.size) y.states+sumB movB y.moves:=rfl
     have hns:y.states.length≤12:=by
      have:=HV.out;simp only [al7,Bool.and_eq_true,List.all_eq_true] at this
      have h2:=this.1.2 y hym
      simp only [aj9,aa7,Bool.and_eq_true,decide_eq_true_eq] at h2
      omega
     have hnm:=hyS.nmoves
     obtain ⟨i0,hiA,hzA,hz1,hz2⟩:=info_parts bE1
     go_wp2
     go_loopw [10,72] (fun s10 i wr=>∃ q:Nat,q≤y.states.length∧i = .int .i64 q∧Hid (Ex (wp.alloc (.cells #[.string y.name,.slice sa y.states.length sc,.slice ma y.moves.length mc] 89)) wr)∧Hid (wr.ownsRow (wp.heap.size+1) 20 1 s10 (2+q) ((aj1 y.name y.states q).map anyV))) (fun _ i _=>y.states.length - (intOf i).toNat)
     case atStart=>
      refine ⟨0,by omega,rfl,cl0,?_⟩
      have:=World.ownsRow_lit (base:=wp.heap.size+1) (e:=20) (size:=1) (wp.alloc (.cells #[.string y.name,.slice sa y.states.length sc,.slice ma y.moves.length mc] 89)) #[anyV (.inr y.name),anyV (.inl y.states.length)] 2 (by simp) (by decide) rfl
      simpa [aj1,Hid,anyV] using this
     case round=>
      obtain ⟨q,hq,rfl,hex4,hown⟩:=hrel
      have hz4:=hex4.out.size
      simp only [World.size_alloc] at hz4
      have hexw:=(hexo.alloc (o:=.cells #[.string y.name,.slice sa y.states.length sc,.slice ma y.moves.length mc] 89)).trans hex4.out
      obtain ⟨a4,cap4,rfl⟩:=ay5 hown.out
      by_cases hlt4:q<y.states.length
      ·obtain ⟨st,b5,off5,hs5,rfl,_,d1,_⟩:=au1 hst hexw.same hlt4
       have Hs:=Lib.hid (aW2 y.name y.states q st hs5.out)
       go_wp2_with (at_builtin;refine wpList_append_own_at _ rfl _ _ 320 rfl (wp.heap.size+1) 20 i0 .nilIface 1 16 Tryz.underlying320 hiA hzA hz1 hz2 rfl (by decide) (.slice a4 (2+q) cap4) _ _ rfl (hown.out.alloc _) ⟨wr.heap.size,0,none⟩ 1 1 [anyV (.inr st)] rfl rfl ?c1 ?c2 ?c3 ?c4 ?c5 ?_)
       case c1=>exact cell_one_new _ _ _
       case c2=>exact cc0 _
       case c3=>unfold maxLen;omega
       case c4=>omega
       case c5=>simp;omega
       intro v' w5 hown' hgrow _ hat
       have hex5:=Lib.hid (Ex.appended (hex4.out.alloc (o:=.cells #[anyV (.inr st)] 20)) (hown.out.alloc _) (by simp) hgrow)
       have HO:Hid (w5.ownsRow (wp.heap.size+1) 20 1 v' (2+(q+1)) ((aj1 y.name y.states (q+1)).map anyV)):=by
        unfold Hid
        rw [Hs.out,List.map_append]
        exact hown'
       clear hown' hgrow hat hown
       obtain ⟨a5,cap5,rfl⟩:=ay5 HO.out
       go_wp2
       go_roundw
       case rel=>exact ⟨q+1,by omega,by go_num,hex5,HO⟩
       case measure=>simp [intOf];omega
      ·obtain rfl:q=y.states.length:=by omega
       have hpl:=aM3 y.name y.states y.states.length (Nat.le_refl _)
       have hi64:∀ m,Sum.inl m∈aj1 y.name y.states y.states.length→I64 m:=by
        intro m hm
        simp only [aj1,List.mem_cons,List.mem_map] at hm
        rcases hm with h|h|⟨_,_,h⟩
        ·cases h
        ·cases h;unfold I64;omega
        ·cases h
       obtain ⟨a6,cap6,hv6,hrow⟩:=aK7 (C:=fun x=>[anyV x]) (R:=RAny) (xs:=aj1 y.name y.states y.states.length) hpl.symm (by rw [aR7];exact hown.out) (fun _ _=>rfl) (fun x hx=>by
        cases x with
        | inl m=>exact ⟨rfl,hi64 m hx⟩
        | inr t=>rfl)
       rw [hpl] at hv6
       cases hv6
       have hB:=bs2 y.name y.states
       have hib:=ae3 (y.states.length:Int)
       have HLn:=Lib.hid (aW1 ⟨#[108,105,102,101]⟩ (aj1 y.name y.states y.states.length) wr hrow (hp.ex hexw) (by rw [hpl];omega) (by rw [hB];show 4+_≤_;omega))
       rw [hpl,hB] at HLn
       clear hpl hi64 hrow hB hown
       go_wp2_with fail
       refine HLn.out.mono ?_
       rintro e w6 ⟨s6,rfl,hs6,he6⟩
       have hs6':s6.size≤4+(2+y.name.size+intB y.states.length+sumB (fun s=>1+s.size) y.states)+1:=hs6
       go_wp2_with fail
       refine (at3 hs1.out bz s6 (by omega) (Nat.le_refl wp.heap.size) (((Ex.refl wp).alloc.trans hex4.out).trans he6) (by have:=hs1.out.1.size;obtain ⟨_,n',O',hb',_⟩:=hs1.out;have:=hb'.lt;omega)).mono ?_
       rintro e w7 ⟨rfl,hsrc7,hz7,hkeep⟩
       have d3:=hkeep 2 (.slice ma y.moves.length mc) (he6.cell (hex4.out.cell (by simp)))
       have hsA:=Lib.hid (hsrc7.mono (m':=29+sumB kndB kinds+sumB lifB (lives.take j3)+(7+y.name.size+intB y.states.length+sumB (fun s=>1+s.size) y.states)) (by omega))
       clear hsrc7 hkeep hex4 hexw he6 hs6
       go_wp2
       clear d3
       go_loopw [88] (fun i wr=>∃ q:Nat,q≤y.moves.length∧i = .int .i64 q∧Hid (SrcAt W1 (w.heap.size+1) (29+sumB kndB kinds+sumB lifB (lives.take j3)+(7+y.name.size+intB y.states.length+sumB (fun s=>1+s.size) y.states)+sumB movB (y.moves.take q)) wr)) (fun i _=>y.moves.length - (intOf i).toNat)
       case atStart=>exact ⟨0,by omega,rfl,by simpa [sumB,Hid] using hsA⟩
       case round=>
        obtain ⟨q,hq,rfl,hs2⟩:=hrel
        clear hsA
        by_cases hlt2:q<y.moves.length
        ·have hexr:=hbx.trans hs2.out.1
         obtain ⟨mv,b2,off2,hf,rfl,_,e0,e1,hrf⟩:=aY6 hmv hexr.same hlt2
         obtain ⟨_,hm1,hm2⟩:=hrf.out
         have Hf1:=Lib.hid (aw9 movB y.moves q mv hf.out)
         have Hf2:=Lib.hid (aJ6 movB y.moves (q+1))
         have hfb:sumB movB (y.moves.take q)+movB mv≤sumB movB y.moves:=by have h1:=Hf1.out;have h2:=Hf2.out;omega
         have hmb:movB mv=7+intB mv.1+intB mv.2:=rfl
         go_wp2_with fail
         refine (HL5.out _ _ _ _ hm1 hm2 cl0 (by simp)).mono ?_
         rintro e w3 ⟨s2,rfl,hs2',he3⟩
         have hsB:=hs2.out.ex ((Ex.refl _).alloc.trans he3)
         clear he3 e0 e1
         go_wp2_with fail
         refine (aJ7 hsB bz s2 (by omega)).mono ?_
         rintro e w4 ⟨rfl,hsC,_⟩
         have hsD:=Lib.hid (hsC.mono (m':=29+sumB kndB kinds+sumB lifB (lives.take j3)+(7+y.name.size+intB y.states.length+sumB (fun s=>1+s.size) y.states)+sumB movB (y.moves.take (q+1))) (by have h1:=Hf1.out;omega))
         clear hsB hsC
         go_wp2
         go_roundw
         case rel=>exact ⟨q+1,by omega,by go_num,hsD⟩
         case measure=>simp [intOf];omega
        ·have hsE:=Lib.hid (hs2.out.mono (m':=29+sumB kndB kinds+sumB lifB (lives.take (j3+1))) (by have h1:=Hk1.out;have e:y.moves.take q=y.moves:=List.take_of_length_le (by omega);rw [e];omega))
         go_wp2
         go_roundw
         case rel=>exact ⟨j3+1,by omega,by go_num,hsE⟩
         case measure=>simp [intOf];omega
    ·have hs4:=Lib.hid (hs1.out.mono (m':=29+sumB kndB kinds+sumB lifB lives) (by have e:lives.take j3=lives:=List.take_of_length_le (by omega);rw [e];omega))
     clear hs1
     obtain ⟨hc,hf⟩:=hs4.out.1.rules
     go_wp2
     clear hc hf
     go_loopw [106] (fun i wr=>∃ j:Nat,j≤rules.length∧i = .int .i64 j∧Hid (SrcAt W1 (w.heap.size+1) (29+sumB kndB kinds+sumB lifB lives+sumB rulB (rules.take j)) wr)) (fun i _=>rules.length - (intOf i).toNat)
     case atStart=>exact ⟨0,by omega,rfl,by simpa [sumB,Hid] using hs4.out⟩
     case round=>
      obtain ⟨j6,hj6,rfl,hs1⟩:=hrel
      clear hs4
      by_cases hlt6:j6<rules.length
      ·have hexo:=hbx.trans hs1.out.1
       obtain ⟨y,b,off,hy,rfl,_,c0,c1,c2,c3,c4,hry⟩:=aZ4 hr hexo.same hlt6
       have hym:=List.mem_of_getElem? hy.out
       have hyS:=HX.out.rules y hym
       have hn1:=hyS.name
       have hn2:=hyS.kind
       have hn3:=hyS.a
       have hn4:=hyS.b
       unfold SmS at hn1 hn2 hn3 hn4
       obtain ⟨_,hyn⟩:=hry.out
       have Hk1:=Lib.hid (aw9 rulB rules j6 y hy.out)
       have Hk2:=Lib.hid (aJ6 rulB rules (j6+1))
       have hkb:29+sumB kndB kinds+sumB lifB lives+sumB rulB (rules.take j6)+rulB y≤1000000:=by have h1:=Hk1.out;have h2:=Hk2.out;omega
       have hkb':rulB y=12+y.name.size+y.kind.size+y.a.size+y.b.size+intB y.n:=rfl
       have hneB:wr.heap.size≠w.heap.size+1:=by obtain ⟨_,n',O',hb',_⟩:=hs1.out;have:=hb'.lt;omega
       go_wp2
       go_region_held3 (fun W=>W.cell? ⟨wr.heap.size,0,none⟩=some (.string y.name)∧W.cell? ⟨wr.heap.size,1,none⟩=some (.string y.kind)∧W.cell? ⟨wr.heap.size,2,none⟩=some (.string y.a)∧W.cell? ⟨wr.heap.size,3,none⟩=some (.string y.b)∧W.cell? ⟨wr.heap.size,4,none⟩=some (.int .i64 y.n)) (go_keep)
        (first
         | (go_at_call 236;refine (aB6 _ _).mono ?_;rintro e w1 ⟨t,rfl,ht,hb1⟩;(have hq7:=ru7;(try clear hc hf);obtain ⟨hb,hc,hf,hz⟩:=hq7;(try simp only [zsz7] at hz);(try have hz0:=z07 w w1);(try have hz1:=z17 w w1);(try have hz2:=z27 w w1)))
         | (go_at_call 234;refine (HL6.out _ _ _ _ _ _ _ hyn (by omega) cl0 (by first|rfl|simp)).mono ?_;rintro e w1 ⟨s6,rfl,hs6,hb1⟩;(have hq7:=ru7;(try clear hc hf);obtain ⟨hb,hc,hf,hz⟩:=hq7;(try simp only [zsz7] at hz);(try have hz0:=z07 w w1);(try have hz1:=z17 w w1);(try have hz2:=z27 w w1)))
         | (go_at_call 163;refine (at3 hs1.out bz s6 (by omega) (Nat.le_refl wr.heap.size) cl0 hneB).mono ?_;rintro e w1 ⟨rfl,hsrc7,hz7,hkeep⟩;have k0:=hkeep 0 (.string y.name) (by rw [hc _ _ (by simp)];simp);have k1:=hkeep 1 (.string y.kind) (by rw [hc _ _ (by simp)];simp);have k2:=hkeep 2 (.string y.a) (by rw [hc _ _ (by simp)];simp);have k3:=hkeep 3 (.string y.b) (by rw [hc _ _ (by simp)];simp);have k4:=hkeep 4 (.int .i64 y.n) (by rw [hc _ _ (by simp)];simp);clear hkeep))
       all_goals
        have hsE:=Lib.hid (hsrc7.mono (m':=29+sumB kndB kinds+sumB lifB lives+sumB rulB (rules.take (j6+1))) (by have h1:=Hk1.out;omega))
        go_wp2
        go_roundw
        case rel=>exact ⟨j6+1,by omega,by go_num,hsE⟩
        case measure=>simp [intOf];omega
      ·have hs7:=Lib.hid (hs1.out.mono (m':=29+sumB kndB kinds+sumB lifB lives+sumB rulB rules) (by have e:rules.take j6=rules:=List.take_of_length_le (by omega);rw [e];omega))
       clear hs1
       obtain ⟨hex',n,O,⟨l,p,v,hl',hpp,hB,hbk,hown,hO,hne⟩,hnm⟩:=hs7.out
       have hib:Lib.IsBuilder 266 5 (w.heap.size+1) (w.heap.size+1) (Lib.byteCells l) wr:=by
        rcases hpp with rfl|rfl
        ·exact .inl ⟨hB,v,hbk,by rw [al0];exact hown,by rw [hO];exact hne⟩
        ·exact .inr ⟨hB,v,hbk,by rw [al0];exact hown,by rw [hO];exact hne⟩
       have hexw:=hbx.trans hex'
       have HSt:=Lib.hid (Tryz.Builder_String_any (w.heap.size+1) (w.heap.size+1) l wr hib (by have:=av6 hbk;omega))
       have HL:=Lib.hid hl'
       clear hbk hown hO hib hpp hl'
       go_wp2_with fail
       refine HSt.out.mono ?_
       rintro e w8 ⟨rfl,hb8⟩
       have hex8:Ex w w8:=Ex.of_below ⟨hb8.os.trans (Keep.os hexw),hb8.tape.trans (Keep.tape hexw),hb8.output.trans (Keep.output hexw),Nat.le_trans hexw.size hb8.size,fun k hk=>(hb8.block k (by omega)).trans (hexw.block k hk)⟩
       go_wp2
       go_ret
       refine ⟨_,rfl,?_,hex8⟩
       have h1:=HL.out
       show l.toArray.size≤srcB _
       unfold srcB
       simp only [List.size_toArray]
       omega
end
section
open Go.RowKit Go.Shelf
structure Laid (w:World):Prop where
 pow:Pow10 w
 words:WordsAt w
theorem Laid.ex {w w':World} (h:Laid w) (he:Ex w w'):Laid w':=⟨h.pow.ex he,h.words.ex he⟩
theorem bv2 (x:Sch) (w:World) {F:Nat→Prop} {ka la ra:Option Addr} {kc lc rc:Nat} (hver:I64 x.version) (hk:RKnds w F x.kinds ka kc) (hl:RLifs w F x.lives la lc) (hr:RRuls w F x.rules ra rc) (hx:ci2 x) (hsm:al7 x=true→srcB x≤8192) (hg:Laid w) :
  Calls Tryz.prog 143 #[.agg #[.int .i64 x.version,.slice ka x.kinds.length kc,.slice la x.lives.length lc,.slice ra x.rules.length rc]] w
   fun e w'=>e = .returned (.int .i64 (ai3 x))∧Ex w w':=by
 have hlk:=hx.nkinds
 have hll:=hx.nlives
 have hlr:=hx.nrules
 have HK:=Lib.hid (fun (w':World) (he:Ex w w')=>ch6 (w0:=w) (F0:=F) (Row.keep (w':=w') hk he.same (fun _ h=>h) (fun _ _ _ h=>h)) (by omega) ((bh5 w hx.kinds).mono he))
 have HL:=Lib.hid (fun (w':World) (he:Ex w w')=>ch5 (w0:=w) (F0:=F) (Row.keep (w':=w') hl he.same (fun _ h=>h) (fun _ _ _ h=>h)) (by omega) ((bh4 w hx.lives).mono he))
 have HR:=Lib.hid (fun (w':World) (he:Ex w w')=>ch4 (Row.keep (w':=w') hr he.same (fun _ h=>h) (fun _ _ _ h=>h)) (by omega) ((bh3 w hx.rules).mono he))
 have HV:=Lib.hid (fun h=>hsm h)
 have HS0:=Lib.hid (fun (hv:al7 x=true) (w':World) (he:Ex w w')=>bq7 x w' hver (RKnds.keep he.same (fun _ h=>h) hk) (RLifs.keep he.same (fun _ h=>h) hl) (RRuls.keep he.same (fun _ h=>h) hr) hx hv (by have:=hsm hv;omega) (hg.pow.ex he) (hg.words.ex he))
 clear hx hsm hk hl hr
 obtain ⟨ver,kinds,lives,rules⟩:=x
 simp only at *
 cases h1:aa7 ver 0 1048576
 ·go_enter Tryz.func143,Tryz.ntmps143;go_wp2_with (first|(go_at_call 189;refine (ab6 _ _ _ _).mono ?_;rintro e w2 ⟨rfl,rfl⟩)|(go_at_call 190;refine (HK.out _ cl0).mono ?_;rintro e w1 ⟨rfl,hb1⟩;(have hq7:=ru7;(try clear hc hf);obtain ⟨hb,hc,hf,hz⟩:=hq7;(try simp only [zsz7] at hz);(try have hz0:=z07 w w1);(try have hz1:=z17 w w1);(try have hz2:=z27 w w1)))|(go_at_call 192;refine (HL.out _ cl0).mono ?_;rintro e w1 ⟨rfl,hb1⟩;(have hq7:=ru7;(try clear hc hf);obtain ⟨hb,hc,hf,hz⟩:=hq7;(try simp only [zsz7] at hz);(try have hz0:=z07 w w1);(try have hz1:=z17 w w1);(try have hz2:=z27 w w1)))|(go_at_call 194;refine (HR.out _ cl0).mono ?_;rintro e w1 ⟨rfl,hb1⟩;(have hq7:=ru7;(try clear hc hf);obtain ⟨hb,hc,hf,hz⟩:=hq7;(try simp only [zsz7] at hz);(try have hz0:=z07 w w1);(try have hz1:=z17 w w1);(try have hz2:=z27 w w1)))|(go_at_call 196;refine (HS.out _ cl0).mono ?_;rintro e w1 ⟨s,rfl,hs,hb1⟩;(have hq7:=ru7;(try clear hc hf);obtain ⟨hb,hc,hf,hz⟩:=hq7;(try simp only [zsz7] at hz);(try have hz0:=z07 w w1);(try have hz1:=z17 w w1);(try have hz2:=z27 w w1))));go_ret
  exact ⟨ax1 (by simp [ai3,al7,h1]),cl0⟩
 by_cases h2:(kinds.length:Int)≤6
 case neg=>
  go_enter Tryz.func143,Tryz.ntmps143;go_wp2_with (first|(go_at_call 189;refine (ab6 _ _ _ _).mono ?_;rintro e w2 ⟨rfl,rfl⟩)|(go_at_call 190;refine (HK.out _ cl0).mono ?_;rintro e w1 ⟨rfl,hb1⟩;(have hq7:=ru7;(try clear hc hf);obtain ⟨hb,hc,hf,hz⟩:=hq7;(try simp only [zsz7] at hz);(try have hz0:=z07 w w1);(try have hz1:=z17 w w1);(try have hz2:=z27 w w1)))|(go_at_call 192;refine (HL.out _ cl0).mono ?_;rintro e w1 ⟨rfl,hb1⟩;(have hq7:=ru7;(try clear hc hf);obtain ⟨hb,hc,hf,hz⟩:=hq7;(try simp only [zsz7] at hz);(try have hz0:=z07 w w1);(try have hz1:=z17 w w1);(try have hz2:=z27 w w1)))|(go_at_call 194;refine (HR.out _ cl0).mono ?_;rintro e w1 ⟨rfl,hb1⟩;(have hq7:=ru7;(try clear hc hf);obtain ⟨hb,hc,hf,hz⟩:=hq7;(try simp only [zsz7] at hz);(try have hz0:=z07 w w1);(try have hz1:=z17 w w1);(try have hz2:=z27 w w1)))|(go_at_call 196;refine (HS.out _ cl0).mono ?_;rintro e w1 ⟨s,rfl,hs,hb1⟩;(have hq7:=ru7;(try clear hc hf);obtain ⟨hb,hc,hf,hz⟩:=hq7;(try simp only [zsz7] at hz);(try have hz0:=z07 w w1);(try have hz1:=z17 w w1);(try have hz2:=z27 w w1))));go_ret
  exact ⟨ax1 (by simp [ai3,al7];intros;omega),cl0⟩
 by_cases h3:(lives.length:Int)≤6
 case neg=>
  go_enter Tryz.func143,Tryz.ntmps143;go_wp2_with (first|(go_at_call 189;refine (ab6 _ _ _ _).mono ?_;rintro e w2 ⟨rfl,rfl⟩)|(go_at_call 190;refine (HK.out _ cl0).mono ?_;rintro e w1 ⟨rfl,hb1⟩;(have hq7:=ru7;(try clear hc hf);obtain ⟨hb,hc,hf,hz⟩:=hq7;(try simp only [zsz7] at hz);(try have hz0:=z07 w w1);(try have hz1:=z17 w w1);(try have hz2:=z27 w w1)))|(go_at_call 192;refine (HL.out _ cl0).mono ?_;rintro e w1 ⟨rfl,hb1⟩;(have hq7:=ru7;(try clear hc hf);obtain ⟨hb,hc,hf,hz⟩:=hq7;(try simp only [zsz7] at hz);(try have hz0:=z07 w w1);(try have hz1:=z17 w w1);(try have hz2:=z27 w w1)))|(go_at_call 194;refine (HR.out _ cl0).mono ?_;rintro e w1 ⟨rfl,hb1⟩;(have hq7:=ru7;(try clear hc hf);obtain ⟨hb,hc,hf,hz⟩:=hq7;(try simp only [zsz7] at hz);(try have hz0:=z07 w w1);(try have hz1:=z17 w w1);(try have hz2:=z27 w w1)))|(go_at_call 196;refine (HS.out _ cl0).mono ?_;rintro e w1 ⟨s,rfl,hs,hb1⟩;(have hq7:=ru7;(try clear hc hf);obtain ⟨hb,hc,hf,hz⟩:=hq7;(try simp only [zsz7] at hz);(try have hz0:=z07 w w1);(try have hz1:=z17 w w1);(try have hz2:=z27 w w1))));go_ret
  exact ⟨ax1 (by simp [ai3,al7];intros;omega),cl0⟩
 by_cases h4:(rules.length:Int)≤16
 case neg=>
  go_enter Tryz.func143,Tryz.ntmps143;go_wp2_with (first|(go_at_call 189;refine (ab6 _ _ _ _).mono ?_;rintro e w2 ⟨rfl,rfl⟩)|(go_at_call 190;refine (HK.out _ cl0).mono ?_;rintro e w1 ⟨rfl,hb1⟩;(have hq7:=ru7;(try clear hc hf);obtain ⟨hb,hc,hf,hz⟩:=hq7;(try simp only [zsz7] at hz);(try have hz0:=z07 w w1);(try have hz1:=z17 w w1);(try have hz2:=z27 w w1)))|(go_at_call 192;refine (HL.out _ cl0).mono ?_;rintro e w1 ⟨rfl,hb1⟩;(have hq7:=ru7;(try clear hc hf);obtain ⟨hb,hc,hf,hz⟩:=hq7;(try simp only [zsz7] at hz);(try have hz0:=z07 w w1);(try have hz1:=z17 w w1);(try have hz2:=z27 w w1)))|(go_at_call 194;refine (HR.out _ cl0).mono ?_;rintro e w1 ⟨rfl,hb1⟩;(have hq7:=ru7;(try clear hc hf);obtain ⟨hb,hc,hf,hz⟩:=hq7;(try simp only [zsz7] at hz);(try have hz0:=z07 w w1);(try have hz1:=z17 w w1);(try have hz2:=z27 w w1)))|(go_at_call 196;refine (HS.out _ cl0).mono ?_;rintro e w1 ⟨s,rfl,hs,hb1⟩;(have hq7:=ru7;(try clear hc hf);obtain ⟨hb,hc,hf,hz⟩:=hq7;(try simp only [zsz7] at hz);(try have hz0:=z07 w w1);(try have hz1:=z17 w w1);(try have hz2:=z27 w w1))));go_ret
  exact ⟨ax1 (by simp [ai3,al7];intros;omega),cl0⟩
 cases h5:kinds.all aj3
 ·go_enter Tryz.func143,Tryz.ntmps143;go_wp2_with (first|(go_at_call 189;refine (ab6 _ _ _ _).mono ?_;rintro e w2 ⟨rfl,rfl⟩)|(go_at_call 190;refine (HK.out _ cl0).mono ?_;rintro e w1 ⟨rfl,hb1⟩;(have hq7:=ru7;(try clear hc hf);obtain ⟨hb,hc,hf,hz⟩:=hq7;(try simp only [zsz7] at hz);(try have hz0:=z07 w w1);(try have hz1:=z17 w w1);(try have hz2:=z27 w w1)))|(go_at_call 192;refine (HL.out _ cl0).mono ?_;rintro e w1 ⟨rfl,hb1⟩;(have hq7:=ru7;(try clear hc hf);obtain ⟨hb,hc,hf,hz⟩:=hq7;(try simp only [zsz7] at hz);(try have hz0:=z07 w w1);(try have hz1:=z17 w w1);(try have hz2:=z27 w w1)))|(go_at_call 194;refine (HR.out _ cl0).mono ?_;rintro e w1 ⟨rfl,hb1⟩;(have hq7:=ru7;(try clear hc hf);obtain ⟨hb,hc,hf,hz⟩:=hq7;(try simp only [zsz7] at hz);(try have hz0:=z07 w w1);(try have hz1:=z17 w w1);(try have hz2:=z27 w w1)))|(go_at_call 196;refine (HS.out _ cl0).mono ?_;rintro e w1 ⟨s,rfl,hs,hb1⟩;(have hq7:=ru7;(try clear hc hf);obtain ⟨hb,hc,hf,hz⟩:=hq7;(try simp only [zsz7] at hz);(try have hz0:=z07 w w1);(try have hz1:=z17 w w1);(try have hz2:=z27 w w1))));go_ret
  exact ⟨ax1 (by simp [ai3,al7,h5]),cl0⟩
 cases h6:lives.all aj9
 ·go_enter Tryz.func143,Tryz.ntmps143;go_wp2_with (first|(go_at_call 189;refine (ab6 _ _ _ _).mono ?_;rintro e w2 ⟨rfl,rfl⟩)|(go_at_call 190;refine (HK.out _ cl0).mono ?_;rintro e w1 ⟨rfl,hb1⟩;(have hq7:=ru7;(try clear hc hf);obtain ⟨hb,hc,hf,hz⟩:=hq7;(try simp only [zsz7] at hz);(try have hz0:=z07 w w1);(try have hz1:=z17 w w1);(try have hz2:=z27 w w1)))|(go_at_call 192;refine (HL.out _ cl0).mono ?_;rintro e w1 ⟨rfl,hb1⟩;(have hq7:=ru7;(try clear hc hf);obtain ⟨hb,hc,hf,hz⟩:=hq7;(try simp only [zsz7] at hz);(try have hz0:=z07 w w1);(try have hz1:=z17 w w1);(try have hz2:=z27 w w1)))|(go_at_call 194;refine (HR.out _ cl0).mono ?_;rintro e w1 ⟨rfl,hb1⟩;(have hq7:=ru7;(try clear hc hf);obtain ⟨hb,hc,hf,hz⟩:=hq7;(try simp only [zsz7] at hz);(try have hz0:=z07 w w1);(try have hz1:=z17 w w1);(try have hz2:=z27 w w1)))|(go_at_call 196;refine (HS.out _ cl0).mono ?_;rintro e w1 ⟨s,rfl,hs,hb1⟩;(have hq7:=ru7;(try clear hc hf);obtain ⟨hb,hc,hf,hz⟩:=hq7;(try simp only [zsz7] at hz);(try have hz0:=z07 w w1);(try have hz1:=z17 w w1);(try have hz2:=z27 w w1))));go_ret
  exact ⟨ax1 (by simp [ai3,al7,h6]),cl0⟩
 cases h7:rules.all at7
 ·go_enter Tryz.func143,Tryz.ntmps143;go_wp2_with (first|(go_at_call 189;refine (ab6 _ _ _ _).mono ?_;rintro e w2 ⟨rfl,rfl⟩)|(go_at_call 190;refine (HK.out _ cl0).mono ?_;rintro e w1 ⟨rfl,hb1⟩;(have hq7:=ru7;(try clear hc hf);obtain ⟨hb,hc,hf,hz⟩:=hq7;(try simp only [zsz7] at hz);(try have hz0:=z07 w w1);(try have hz1:=z17 w w1);(try have hz2:=z27 w w1)))|(go_at_call 192;refine (HL.out _ cl0).mono ?_;rintro e w1 ⟨rfl,hb1⟩;(have hq7:=ru7;(try clear hc hf);obtain ⟨hb,hc,hf,hz⟩:=hq7;(try simp only [zsz7] at hz);(try have hz0:=z07 w w1);(try have hz1:=z17 w w1);(try have hz2:=z27 w w1)))|(go_at_call 194;refine (HR.out _ cl0).mono ?_;rintro e w1 ⟨rfl,hb1⟩;(have hq7:=ru7;(try clear hc hf);obtain ⟨hb,hc,hf,hz⟩:=hq7;(try simp only [zsz7] at hz);(try have hz0:=z07 w w1);(try have hz1:=z17 w w1);(try have hz2:=z27 w w1)))|(go_at_call 196;refine (HS.out _ cl0).mono ?_;rintro e w1 ⟨s,rfl,hs,hb1⟩;(have hq7:=ru7;(try clear hc hf);obtain ⟨hb,hc,hf,hz⟩:=hq7;(try simp only [zsz7] at hz);(try have hz0:=z07 w w1);(try have hz1:=z17 w w1);(try have hz2:=z27 w w1))));go_ret
  exact ⟨ax1 (by simp [ai3,al7,h7]),cl0⟩
 have hv:al7 ⟨ver,kinds,lives,rules⟩=true:=by
  simp only [al7,h1,h5,h6,h7,Bool.true_and,Bool.and_true,Bool.and_eq_true,decide_eq_true_eq];omega
 have HS:=Lib.hid (HS0.out hv)
 have hsm:=HV.out hv
 have HVv:=Lib.hid hv
 clear HS0 HV hv
 go_enter Tryz.func143,Tryz.ntmps143;go_wp2_with (first|(go_at_call 189;refine (ab6 _ _ _ _).mono ?_;rintro e w2 ⟨rfl,rfl⟩)|(go_at_call 190;refine (HK.out _ cl0).mono ?_;rintro e w1 ⟨rfl,hb1⟩;(have hq7:=ru7;(try clear hc hf);obtain ⟨hb,hc,hf,hz⟩:=hq7;(try simp only [zsz7] at hz);(try have hz0:=z07 w w1);(try have hz1:=z17 w w1);(try have hz2:=z27 w w1)))|(go_at_call 192;refine (HL.out _ cl0).mono ?_;rintro e w1 ⟨rfl,hb1⟩;(have hq7:=ru7;(try clear hc hf);obtain ⟨hb,hc,hf,hz⟩:=hq7;(try simp only [zsz7] at hz);(try have hz0:=z07 w w1);(try have hz1:=z17 w w1);(try have hz2:=z27 w w1)))|(go_at_call 194;refine (HR.out _ cl0).mono ?_;rintro e w1 ⟨rfl,hb1⟩;(have hq7:=ru7;(try clear hc hf);obtain ⟨hb,hc,hf,hz⟩:=hq7;(try simp only [zsz7] at hz);(try have hz0:=z07 w w1);(try have hz1:=z17 w w1);(try have hz2:=z27 w w1)))|(go_at_call 196;refine (HS.out _ cl0).mono ?_;rintro e w1 ⟨s,rfl,hs,hb1⟩;(have hq7:=ru7;(try clear hc hf);obtain ⟨hb,hc,hf,hz⟩:=hq7;(try simp only [zsz7] at hz);(try have hz0:=z07 w w1);(try have hz1:=z17 w w1);(try have hz2:=z27 w w1))));go_ret
 exact ⟨ax1 (by simp [ai3,HVv.out]),cl0⟩
end
section
open Go
theorem neE (s:ByteArray):(!(s.toList == (⟨#[]⟩:ByteArray).toList))=!isE s:=by rw [eqE]
theorem emp2 (a:List ByteArray) (b:List Int):(a.isEmpty && b.isEmpty)=decide (¬ (0<(a.length:Int)+b.length)):=by
 cases a <;> cases b <;> simp <;> omega
theorem sk81 {A B:Prop} (k:B) (h:Hd7 B→A:=by intro hk7q;(first|refine sb0 ?_|refine sb1 ?_|((with_reducible refine' Cp.by ?hc ?_);(case hc=>first|exact HU|exact al9 _|exact ai7 _ _ _|exact ay4 _ _ _ _|exact aQ0 _ (by assumption) (by assumption)))|((with_reducible refine' CE.pure ?hc ?_);(case hc=>first|exact HU|exact al9 _|exact ai7 _ _ _|exact ay4 _ _ _ _|exact aQ0 _ (by assumption) (by assumption))));exact hk7q.run):A:=h ⟨k⟩
theorem aV4 (f:Fld) (hw:f.words.length≤1000000) (hg:f.weights.length≤1000000) (hk:f.kind=0):APure Tryz.prog 212 [fldD f] (bD (ab3 f)):=by
 refine eP7 Tryz.func212 Tryz.ntmps212 fun BB=>?_
 have HU:APure Tryz.prog 244 [iD f.kind] (.tup [bD false,bD false,bD true,bD false,bD false]):=by rw [hk];exact ap0 0
 repeat' first|refine sk81 ?_|(intro b;conv=>whnf)|(with_reducible refine Br.d (fun hc=>?_) (fun hc=>?_))|(with_reducible refine Br.b (fun hc=>?_) (fun hc=>?_))
 all_goals (refine Rt.pure (congrArg bD ?_);(try simp only [neE,eqE] at *);simp [ab3,ao1,ak2,ag7,ag6,ag8,ag3,ag2,emp2, *])
theorem aV3 (f:Fld) (hw:f.words.length≤1000000) (hg:f.weights.length≤1000000) (hk:f.kind=1):APure Tryz.prog 212 [fldD f] (bD (ab3 f)):=by
 refine eP7 Tryz.func212 Tryz.ntmps212 fun BB=>?_
 have HU:APure Tryz.prog 244 [iD f.kind] (.tup [bD true,bD false,bD true,bD true,bD false]):=by rw [hk];exact ap0 1
 repeat' first|refine sk81 ?_|(intro b;conv=>whnf)|(with_reducible refine Br.d (fun hc=>?_) (fun hc=>?_))|(with_reducible refine Br.b (fun hc=>?_) (fun hc=>?_))
 all_goals (refine Rt.pure (congrArg bD ?_);(try simp only [neE,eqE] at *);simp [ab3,ao1,ak2,ag7,ag6,ag8,ag3,ag2,emp2, *])
theorem aV2 (f:Fld) (hw:f.words.length≤1000000) (hg:f.weights.length≤1000000) (hk:f.kind=2):APure Tryz.prog 212 [fldD f] (bD (ab3 f)):=by
 refine eP7 Tryz.func212 Tryz.ntmps212 fun BB=>?_
 have HU:APure Tryz.prog 244 [iD f.kind] (.tup [bD false,bD false,bD true,bD true,bD false]):=by rw [hk];exact ap0 2
 repeat' first|refine sk81 ?_|(intro b;conv=>whnf)|(with_reducible refine Br.d (fun hc=>?_) (fun hc=>?_))|(with_reducible refine Br.b (fun hc=>?_) (fun hc=>?_))
 all_goals (refine Rt.pure (congrArg bD ?_);(try simp only [neE,eqE] at *);simp [ab3,ao1,ak2,ag7,ag6,ag8,ag3,ag2,emp2, *])
theorem aV1 (f:Fld) (hw:f.words.length≤1000000) (hg:f.weights.length≤1000000) (hk:f.kind=3):APure Tryz.prog 212 [fldD f] (bD (ab3 f)):=by
 refine eP7 Tryz.func212 Tryz.ntmps212 fun BB=>?_
 have HU:APure Tryz.prog 244 [iD f.kind] (.tup [bD false,bD false,bD false,bD false,bD true]):=by rw [hk];exact ap0 3
 repeat' first|refine sk81 ?_|(intro b;conv=>whnf)|(with_reducible refine Br.d (fun hc=>?_) (fun hc=>?_))|(with_reducible refine Br.b (fun hc=>?_) (fun hc=>?_))
 all_goals (refine Rt.pure (congrArg bD ?_);(try simp only [neE,eqE] at *);simp [ab3,ao1,ak2,ag7,ag6,ag8,ag3,ag2,emp2, *])
theorem aV0 (f:Fld) (hw:f.words.length≤1000000) (hg:f.weights.length≤1000000) (hk:f.kind=4):APure Tryz.prog 212 [fldD f] (bD (ab3 f)):=by
 refine eP7 Tryz.func212 Tryz.ntmps212 fun BB=>?_
 have HU:APure Tryz.prog 244 [iD f.kind] (.tup [bD true,bD false,bD true,bD true,bD false]):=by rw [hk];exact ap0 4
 repeat' first|refine sk81 ?_|(intro b;conv=>whnf)|(with_reducible refine Br.d (fun hc=>?_) (fun hc=>?_))|(with_reducible refine Br.b (fun hc=>?_) (fun hc=>?_))
 all_goals (refine Rt.pure (congrArg bD ?_);(try simp only [neE,eqE] at *);simp [ab3,ao1,ak2,ag7,ag6,ag8,ag3,ag2,emp2, *])
theorem aU9 (f:Fld) (hw:f.words.length≤1000000) (hg:f.weights.length≤1000000) (hk:f.kind=5):APure Tryz.prog 212 [fldD f] (bD (ab3 f)):=by
 refine eP7 Tryz.func212 Tryz.ntmps212 fun BB=>?_
 have HU:APure Tryz.prog 244 [iD f.kind] (.tup [bD true,bD false,bD true,bD true,bD false]):=by rw [hk];exact ap0 5
 repeat' first|refine sk81 ?_|(intro b;conv=>whnf)|(with_reducible refine Br.d (fun hc=>?_) (fun hc=>?_))|(with_reducible refine Br.b (fun hc=>?_) (fun hc=>?_))
 all_goals (refine Rt.pure (congrArg bD ?_);(try simp only [neE,eqE] at *);simp [ab3,ao1,ak2,ag7,ag6,ag8,ag3,ag2,emp2, *])
theorem aU8 (f:Fld) (hw:f.words.length≤1000000) (hg:f.weights.length≤1000000) (hk:f.kind=6):APure Tryz.prog 212 [fldD f] (bD (ab3 f)):=by
 refine eP7 Tryz.func212 Tryz.ntmps212 fun BB=>?_
 have HU:APure Tryz.prog 244 [iD f.kind] (.tup [bD true,bD false,bD false,bD false,bD false]):=by rw [hk];exact ap0 6
 repeat' first|refine sk81 ?_|(intro b;conv=>whnf)|(with_reducible refine Br.d (fun hc=>?_) (fun hc=>?_))|(with_reducible refine Br.b (fun hc=>?_) (fun hc=>?_))
 all_goals (refine Rt.pure (congrArg bD ?_);(try simp only [neE,eqE] at *);simp [ab3,ao1,ak2,ag7,ag6,ag8,ag3,ag2,emp2, *])
theorem aU7 (f:Fld) (hw:f.words.length≤1000000) (hg:f.weights.length≤1000000) (hk:f.kind=7):APure Tryz.prog 212 [fldD f] (bD (ab3 f)):=by
 refine eP7 Tryz.func212 Tryz.ntmps212 fun BB=>?_
 have HU:APure Tryz.prog 244 [iD f.kind] (.tup [bD true,bD true,bD true,bD true,bD false]):=by rw [hk];exact ap0 7
 repeat' first|refine sk81 ?_|(intro b;conv=>whnf)|(with_reducible refine Br.d (fun hc=>?_) (fun hc=>?_))|(with_reducible refine Br.b (fun hc=>?_) (fun hc=>?_))
 all_goals (refine Rt.pure (congrArg bD ?_);(try simp only [neE,eqE] at *);simp [ab3,ao1,ak2,ag7,ag6,ag8,ag3,ag2,emp2, *])
theorem aU6 (f:Fld) (hw:f.words.length≤1000000) (hg:f.weights.length≤1000000) (hk:f.kind=8):APure Tryz.prog 212 [fldD f] (bD (ab3 f)):=by
 refine eP7 Tryz.func212 Tryz.ntmps212 fun BB=>?_
 have HU:APure Tryz.prog 244 [iD f.kind] (.tup [bD true,bD true,bD false,bD false,bD false]):=by rw [hk];exact ap0 8
 repeat' first|refine sk81 ?_|(intro b;conv=>whnf)|(with_reducible refine Br.d (fun hc=>?_) (fun hc=>?_))|(with_reducible refine Br.b (fun hc=>?_) (fun hc=>?_))
 all_goals (refine Rt.pure (congrArg bD ?_);(try simp only [neE,eqE] at *);simp [ab3,ao1,ak2,ag7,ag6,ag8,ag3,ag2,emp2, *])
theorem aU5 (f:Fld) (hw:f.words.length≤1000000) (hg:f.weights.length≤1000000) (hk:f.kind<0∨8<f.kind):APure Tryz.prog 212 [fldD f] (bD (ab3 f)):=by
 refine eP7 Tryz.func212 Tryz.ntmps212 fun BB=>?_
 have HU:=ap0 f.kind
 unfold bY3 at HU
 have:ab3 f=false:=by
  have:ak2 f=false:=by unfold ak2;repeat (rw [if_neg (by omega)])
  simp [ab3,this]
 rw [this]
 repeat' first|refine sk81 ?_|(intro b;conv=>whnf)|(with_reducible refine Br.d (fun hc=>?_) (fun hc=>?_))|(with_reducible refine Br.b (fun hc=>?_) (fun hc=>?_))
 all_goals (refine Rt.pure (congrArg bD ?_);rfl)
theorem aL0 (f:Fld) (hw:f.words.length≤1000000) (hg:f.weights.length≤1000000):APure Tryz.prog 212 [fldD f] (bD (ab3 f)):=by
 by_cases hn:f.kind<0∨8<f.kind
 ·exact aU5 f hw hg hn
 ·have:f.kind=0∨f.kind=1∨f.kind=2∨f.kind=3∨f.kind=4∨f.kind=5∨f.kind=6∨f.kind=7∨f.kind=8:=by omega
  rcases this with h|h|h|h|h|h|h|h|h
  ·exact aV4 f hw hg h
  ·exact aV3 f hw hg h
  ·exact aV2 f hw hg h
  ·exact aV1 f hw hg h
  ·exact aV0 f hw hg h
  ·exact aU9 f hw hg h
  ·exact aU8 f hw hg h
  ·exact aU7 f hw hg h
  ·exact aU6 f hw hg h
end
section
open Go
theorem sk82 {A B:Prop} (k:B) (h:Hd7 B→A:=by intro hk7q;(first|refine sb0 ?_|refine sb1 ?_|((with_reducible refine' Cp.by ?hc ?_);(case hc=>first|exact al9 _|exact ai7 _ _ _|exact ay4 _ _ _ _|exact aL0 _ (hs _ (List.mem_of_getElem? hy)).w (hs _ (List.mem_of_getElem? hy)).g))|((with_reducible refine' CE.pure ?hc ?_);(case hc=>first|exact al9 _|exact ai7 _ _ _|exact ay4 _ _ _ _|exact aL0 _ (hs _ (List.mem_of_getElem? hy)).w (hs _ (List.mem_of_getElem? hy)).g)));exact hk7q.run):A:=h ⟨k⟩
theorem sk83 {A B:Prop} (k:B) (h:Hd7 B→A:=by intro hk7q;(first|refine sb0 ?_|refine sb1 ?_|((with_reducible refine' Cp.by ?hc ?_);(case hc=>first|exact al9 _|exact ai7 _ _ _|exact aB2 _ (by assumption)))|((with_reducible refine' CE.pure ?hc ?_);(case hc=>first|exact al9 _|exact ai7 _ _ _|exact aB2 _ (by assumption))));exact hk7q.run):A:=h ⟨k⟩
end
section
open Go Go.RowKit Go.Shelf
section
variable {P:Program} {σ:aa1} {ρ:Operand→D}
theorem ci9 {o:Oper} {s d:TypeId} {x:Operand} {k:IntKind} {n:Int} (ho:o.op = .convert s d x) (hx:ρ x = .v (.int k n)) {ds:TypeDesc} (h1:P.underlying s=some ds) (h2:P.underlying d=some (.int .u8)) (hn:0≤n∧n<256) :
  Yd P o ρ σ (.v (.int .u8 (UInt8.ofNat n.toNat).toNat)):=by
 intro w X η hη hst
 obtain ⟨dst,op,ty,pos,aft,g⟩:=o
 simp only at ho
 subst ho
 have h:=(hη x (by simp [Op.operands])).val hx
 refine ae0 (s:=convert s d (η x)) (u:=.int .u8 (UInt8.ofNat n.toNat).toNat) ?_ (Ex.refl w) (.v _)
 rw [h]
 have e:IntKind.u8.wrap n=((UInt8.ofNat n.toNat).toNat:Int):=by
  have h3:(UInt8.ofNat n.toNat).toNat=n.toNat % 256:=by simp
  rw [h3]
  have h4:IntKind.u8.wrap n=n:=by
   simp only [IntKind.wrap]
   first|omega|(simp [IntKind.bits,IntKind.signed];omega)
  rw [h4];omega
 cases ds <;> simp [convert,run_underlying h1,run_underlying h2,Conv.intToInt,e]
theorem bY0 {o:Oper} {s d e:TypeId} {x:Operand} {c:UInt8} (ho:o.op = .convert s d x) (hx:ρ x = .sl 1 [[.v (.int .u8 c.toNat)]]) (h1:P.underlying s=some (.slice e)) (h2:P.underlying e=some (.int .u8)) (h3:P.underlying d=some .string) :
  Yd P o ρ σ (.v (.string ⟨#[c]⟩)):=by
 intro w X η hη hst
 obtain ⟨dst,op,ty,pos,aft,g⟩:=o
 simp only at ho
 subst ho
 have h:=hη x (by simp [Op.operands])
 rw [hx] at h
 obtain ⟨a,cap,vs,hv,hle,hk,hc,hr⟩:=h.sl_inv
 obtain ⟨b,off,rfl,_,_,hcell⟩:=hc 0 _ rfl
 have h4:=hcell 0 (by omega)
 have h5:=(hr 0 _ rfl 0 _ rfl).val rfl
 refine ae0 (s:=convert s d (η x)) (u:=.string ⟨#[c]⟩) ?_ (Ex.refl w) (.v _)
 rw [hv]
 have:=run_convert_bytes_back (P:=P) w s d e ⟨b,off,none⟩ cap [c] h1 h2 h3 (fun j hj=>by
  have:j=0:=by simpa using hj
  subst this
  simpa [Addr.add,h5] using h4)
 simpa using this
end
end
section
open Go
theorem bT7 (m:Nat):((m:Int).tdiv 10)=((m / 10:Nat):Int):=rfl
theorem ck3 (m:Nat):((m:Int).tmod 10)=((m % 10:Nat):Int):=rfl
theorem sb84 {A B:Prop} (k:B) (h:Hd7 B→A:=by intro hk7q;(first|((with_reducible refine W.mk ?_);(conv=>whnf))|(with_reducible refine Br.tt ?_)|(with_reducible refine Br.ff ?_)|(with_reducible refine Br.n ?_)|((with_reducible refine' Br.eq ?h ?_);(case h=>(simp only [List.length_map,List.length_take,List.length_append,List.length_cons,List.length_nil,List.length_replicate,Nat.reduceAdd];exact rfl)))|((with_reducible refine Sd.go ?qs7 ?_);(case qs7=>first|trivial|(constructor <;> omega)|omega|assumption|((try simp only [List.length_map,List.length_take,List.length_append,List.length_cons,List.length_nil,List.length_replicate,Nat.reduceAdd] at *);first|(constructor <;> omega)|omega)))|((with_reducible refine Ck.go ?qs7 ?_);(case qs7=>kernel_rfl))|((with_reducible refine' Ix.mapAt ?hy ?h0 ?_);(case hy=>assumption);(case h0=>omega))|((with_reducible refine' Ix.at ?hy ?h0 ?_);(case hy=>exact rfl);(case h0=>omega))|((with_reducible refine Ix.mapM ?h0 ?_);(case h0=>first|omega|(simp only [List.length_map,List.length_take,List.length_append,List.length_cons,List.length_nil,List.length_replicate,Nat.reduceAdd] at *;omega)))|((with_reducible refine' Ld.at 0 ?h1 ?h2 ?h3 ?_);(case h1=>exact rfl);(case h2=>exact rfl);(case h3=>exact rfl))|((with_reducible refine' Ld.at 1 ?h1 ?h2 ?h3 ?_);(case h1=>exact rfl);(case h2=>exact rfl);(case h3=>exact rfl))|((with_reducible refine' Ld.at 2 ?h1 ?h2 ?h3 ?_);(case h1=>exact rfl);(case h2=>exact rfl);(case h3=>exact rfl))|((with_reducible refine' Sv.at 0 ?h1 ?h2 ?h3 ?h4 ?h5 ?_);(case h1=>exact rfl);(case h2=>exact rfl);(case h3=>exact rfl);(case h4=>exact rfl);(case h5=>exact (by first|(simp only [List.set_cons_succ,List.set_cons_zero,spl,af8,mkD,List.take_succ_cons,List.take_zero,List.drop_succ_cons,List.drop_zero,List.length_cons,List.length_nil,List.nil_append,List.cons_append,Nat.reduceAdd,Nat.zero_add,List.append_nil,List.map_cons,List.map_nil];rfl)|rfl)))|((with_reducible refine' Sv.at 1 ?h1 ?h2 ?h3 ?h4 ?h5 ?_);(case h1=>exact rfl);(case h2=>exact rfl);(case h3=>exact rfl);(case h4=>exact rfl);(case h5=>exact (by first|(simp only [List.set_cons_succ,List.set_cons_zero,spl,af8,mkD,List.take_succ_cons,List.take_zero,List.drop_succ_cons,List.drop_zero,List.length_cons,List.length_nil,List.nil_append,List.cons_append,Nat.reduceAdd,Nat.zero_add,List.append_nil,List.map_cons,List.map_nil];rfl)|rfl)))|((with_reducible refine' Sv.at 2 ?h1 ?h2 ?h3 ?h4 ?h5 ?_);(case h1=>exact rfl);(case h2=>exact rfl);(case h3=>exact rfl);(case h4=>exact rfl);(case h5=>exact (by first|(simp only [List.set_cons_succ,List.set_cons_zero,spl,af8,mkD,List.take_succ_cons,List.take_zero,List.drop_succ_cons,List.drop_zero,List.length_cons,List.length_nil,List.nil_append,List.cons_append,Nat.reduceAdd,Nat.zero_add,List.append_nil,List.map_cons,List.map_nil];rfl)|rfl)))|((with_reducible refine' Ot.yd ?hyd ?_);(case hyd=>first|(refine ci9 rfl rfl Tryz.underlying3 Tryz.underlying5 ?_;omega)|exact bY0 rfl rfl Tryz.underlying23 Tryz.underlying5 Tryz.underlying9))|((with_reducible refine' Rs.tc aa0 (m:=0) ?h ?hi ?hj ?hb ?ht ?hag ?hs ?_);(case h=>exact rfl);(case hi=>exact rfl);(case hj=>exact rfl);(case hb=>exact rfl);(case ht=>exact rfl);(case hag=>exact rfl);(case hs=>exact rfl))|((with_reducible refine' Rs.ct aa0 (m:=0) ?h ?hi ?hj ?hb ?ht ?hag ?hs ?_);(case h=>exact rfl);(case hi=>exact rfl);(case hj=>exact rfl);(case hb=>exact rfl);(case ht=>exact rfl);(case hag=>exact rfl);(case hs=>exact rfl))|((with_reducible refine' Rs.c aa0 (m:=0) ?h ?hj ?hb ?ht ?hag ?hs ?_);(case h=>exact rfl);(case hj=>exact rfl);(case hb=>exact rfl);(case ht=>exact rfl);(case hag=>exact rfl);(case hs=>exact rfl))|((with_reducible refine Br.dt ?h ?_);(case h=>omega))|((with_reducible refine Br.df ?h ?_);(case h=>omega))|((with_reducible refine Br.t ?h ?_);(case h=>assumption))|((with_reducible refine Br.f ?h ?_);(case h=>assumption))|((with_reducible refine Br.t ?h ?_);(case h=>(refine decide_eq_true ?_;omega)))|((with_reducible refine Br.f ?h ?_);(case h=>(refine decide_eq_false ?_;omega))));exact hk7q.run):A:=h ⟨k⟩
theorem sk85 {A B:Prop} (k:B) (h:Hd7 B→A:=by intro hk7q;(first|refine sb84 ?_|refine sb1 ?_|((with_reducible refine' Cp.by ?hc ?_);(case hc=>exact IH))|((with_reducible refine' CE.pure ?hc ?_);(case hc=>exact IH)));exact hk7q.run):A:=h ⟨k⟩
theorem bm6:∀ m:Nat,m≤9223372036854775807→APure Tryz.prog 246 [iD m] (sD (decN m)):=by
 intro m
 induction m using Nat.strongRecOn with
 | ind m ih=>
 intro hm
 refine eP7 Tryz.func246 Tryz.ntmps246 fun BB=>?_
 by_cases h:m<10
 ·repeat' first|refine sk85 ?_|(intro b;conv=>whnf)
  refine Rt.pure (congrArg sD ?_)
  rw [aE5 h];rfl
 ·have IH:=ih (m / 10) (by omega) (by omega)
  rw [← bT7] at IH
  have h1:((m:Int).tmod 10)=((m % 10:Nat):Int):=ck3 m
  have hsz:=as1 18 (m / 10) (by omega)
  have one:(⟨#[UInt8.ofNat (48+(m:Int).tmod 10).toNat]⟩:ByteArray).size=1:=rfl
  repeat' first|refine sk85 ?_|(intro b;conv=>whnf)
  refine Sd.go ⟨by decide,by rw [bT7];constructor <;> omega⟩ ?_
  repeat' first|refine sk85 ?_|(intro b;conv=>whnf)
  refine Rt.pure (congrArg sD ?_)
  rw [aR5 h];rfl
theorem sk86 {A B:Prop} (k:B) (h:Hd7 B→A:=by intro hk7q;(first|refine sb84 ?_|refine sb1 ?_|((with_reducible refine' Cp.by ?hc ?_);(case hc=>exact HN))|((with_reducible refine' CE.pure ?hc ?_);(case hc=>exact HN)));exact hk7q.run):A:=h ⟨k⟩
theorem by8 (n:Int) (h:-9223372036854775807≤n∧n≤9223372036854775807):APure Tryz.prog 246 [iD n] (sD (decS n)):=by
 by_cases h0:n<0
 ·have HN:=bm6 (-n).toNat (by omega)
  rw [show (((-n).toNat:Nat):Int) = -n by omega] at HN
  have hsz:=as1 18 (-n).toNat (by omega)
  have one:(⟨#[45]⟩:ByteArray).size=1:=rfl
  refine eP7 Tryz.func246 Tryz.ntmps246 fun BB=>?_
  repeat' first|refine sk86 ?_|(intro b;conv=>whnf)
  refine Rt.pure (congrArg sD ?_)
  unfold decS;rw [if_pos h0]
 ·have:=bm6 n.toNat (by omega)
  rw [show ((n.toNat:Nat):Int)=n by omega] at this
  unfold decS;rw [if_neg h0];exact this
theorem sk87 {A B:Prop} (k:B) (h:Hd7 B→A:=by intro hk7q;(first|refine sb84 ?_|refine sb1 ?_|((with_reducible refine' Cp.by ?hc ?_);(case hc=>exact by8 _ (by assumption)))|((with_reducible refine' CE.pure ?hc ?_);(case hc=>exact by8 _ (by assumption))));exact hk7q.run):A:=h ⟨k⟩
theorem aV5 (s:ByteArray) (n:Int) (hs:s.size≤1000000000) (h:-9223372036854775807≤n∧n≤9223372036854775807):APure Tryz.prog 214 [sD s,iD n] (sD (andS s n)):=by
 have h1:=bd1 h
 have h2:=ae3 n
 have one:(⟨#[32]⟩:ByteArray).size=1:=rfl
 have h3:(s ++ (⟨#[32]⟩:ByteArray)).size=s.size+1:=by rw [ByteArray.size_append,one]
 refine eP7 Tryz.func214 Tryz.ntmps214 fun BB=>?_
 repeat' first|refine sk87 ?_|(intro b;conv=>whnf)
 exact Rt.pure rfl
theorem aB3 (s:ByteArray):APure Tryz.prog 216 [sD s] (sD (aQ4 s)):=by
 refine eP7 Tryz.func216 Tryz.ntmps216 fun BB=>?_
 repeat' first|refine sk87 ?_|(intro b;conv=>whnf)|(with_reducible refine Br.d (fun hc=>?_) (fun hc=>?_))|(with_reducible refine Br.b (fun hc=>?_) (fun hc=>?_))
 ·refine Rt.pure (congrArg sD ?_)
  unfold aQ4;rw [← eqE,if_pos (by assumption)]
 ·refine Rt.pure (congrArg sD ?_)
  unfold aQ4;rw [← eqE,hc];rfl
def cj5:List ByteArray:=[⟨#[107,101,121]⟩,⟨#[114,101,102]⟩,⟨#[110,117,109]⟩,⟨#[112,105,99,107]⟩,⟨#[100,97,121]⟩,⟨#[115,116,101,112]⟩,⟨#[115,117,109]⟩,⟨#[115,104,97,114,101]⟩,⟨#[99,111,112,121]⟩]
theorem ba1:APure Tryz.prog 247 [] (slS cj5):=by
 refine eP7 Tryz.func247 Tryz.ntmps247 fun BB=>?_
 repeat' first|refine sk87 ?_|(intro b;conv=>whnf)
 exact Rt.pure rfl
end
section
open Go
structure ci3 (f:Fld):Prop where
 lo:-9223372036854775807≤f.lo∧f.lo≤9223372036854775807
 hi:-9223372036854775807≤f.hi∧f.hi≤9223372036854775807
 ws:∀ n∈f.weights,-9223372036854775807≤n∧n≤9223372036854775807
def sp:ByteArray:=⟨#[32]⟩
/-! Sizes of texts -/
theorem sz1 (c:UInt8):(⟨#[c]⟩:ByteArray).size≤1:=Nat.le_refl 1
theorem sz0:(⟨#[]⟩:ByteArray).size≤0:=Nat.le_refl 0
theorem szA {a b:ByteArray} {m n:Nat} (h:a.size≤m) (k:b.size≤n):(a ++ b).size≤m+n:=by rw [ByteArray.size_append];omega
theorem aY9 {s:ByteArray} {n:Int} {m:Nat} (h:s.size≤m) (k:-9223372036854775807≤n∧n≤9223372036854775807):(andS s n).size≤m+22:=by have:=bI1 (s:=s) k;have:=ae3 n;omega
theorem szN {s:ByteArray} {m:Nat} (h:s.size≤m):(aQ4 s).size≤m+1:=by have:=bg7 s;omega
theorem szLe {s:ByteArray} {m M:Nat} (h:s.size≤m) (k:m≤M):s.size≤M:=Nat.le_trans h k
theorem ck5 {a b:ByteArray} {m n M:Nat} (h:a.size≤m) (k:b.size≤n) (c:m+n≤M):a.size+b.size≤M:=by omega
theorem sb88 {A B:Prop} (k:B) (h:Hd7 B→A:=by intro hk7q;(first|((with_reducible refine W.mk ?_);(conv=>whnf))|(with_reducible refine Br.tt ?_)|(with_reducible refine Br.ff ?_)|(with_reducible refine Br.n ?_)|((with_reducible refine' Br.eq ?h ?_);(case h=>(simp only [List.length_map,List.length_take,List.length_append,List.length_cons,List.length_nil,List.length_replicate,Nat.reduceAdd];exact rfl)))|((with_reducible refine Sd.go ?s ?_);(case s=>first|trivial|(constructor <;> omega)|omega|assumption|(refine' ck5 ?a ?b ?c;(case a=>repeat' (first|((show (_:Nat)≤_);assumption)|exact sz1 _|exact sz0|(refine' aY9 ?_ (by assumption))|refine' szN ?_|refine' szA ?_ ?_));(case b=>repeat' (first|((show (_:Nat)≤_);assumption)|exact sz1 _|exact sz0|(refine' aY9 ?_ (by assumption))|refine' szN ?_|refine' szA ?_ ?_));(case c=>first|decide|omega))))|((with_reducible refine Ck.go ?qs7 ?_);(case qs7=>kernel_rfl))|((with_reducible refine' Ix.mapAt ?hy ?h0 ?_);(case hy=>assumption);(case h0=>omega))|((with_reducible refine' Ix.at ?hy ?h0 ?_);(case hy=>exact rfl);(case h0=>omega))|((with_reducible refine Ix.mapM ?h0 ?_);(case h0=>first|omega|(simp only [List.length_map,List.length_take,List.length_append,List.length_cons,List.length_nil,List.length_replicate,Nat.reduceAdd] at *;omega)))|((with_reducible refine' Ld.at 0 ?h1 ?h2 ?h3 ?_);(case h1=>exact rfl);(case h2=>exact rfl);(case h3=>exact rfl))|((with_reducible refine' Ld.at 1 ?h1 ?h2 ?h3 ?_);(case h1=>exact rfl);(case h2=>exact rfl);(case h3=>exact rfl))|((with_reducible refine' Ld.at 2 ?h1 ?h2 ?h3 ?_);(case h1=>exact rfl);(case h2=>exact rfl);(case h3=>exact rfl))|((with_reducible refine' Sv.at 0 ?h1 ?h2 ?h3 ?h4 ?h5 ?_);(case h1=>exact rfl);(case h2=>exact rfl);(case h3=>exact rfl);(case h4=>exact rfl);(case h5=>exact (by first|(simp only [List.set_cons_succ,List.set_cons_zero,spl,af8,mkD,List.take_succ_cons,List.take_zero,List.drop_succ_cons,List.drop_zero,List.length_cons,List.length_nil,List.nil_append,List.cons_append,Nat.reduceAdd,Nat.zero_add,List.append_nil,List.map_cons,List.map_nil];rfl)|rfl)))|((with_reducible refine' Sv.at 1 ?h1 ?h2 ?h3 ?h4 ?h5 ?_);(case h1=>exact rfl);(case h2=>exact rfl);(case h3=>exact rfl);(case h4=>exact rfl);(case h5=>exact (by first|(simp only [List.set_cons_succ,List.set_cons_zero,spl,af8,mkD,List.take_succ_cons,List.take_zero,List.drop_succ_cons,List.drop_zero,List.length_cons,List.length_nil,List.nil_append,List.cons_append,Nat.reduceAdd,Nat.zero_add,List.append_nil,List.map_cons,List.map_nil];rfl)|rfl)))|((with_reducible refine' Sv.at 2 ?h1 ?h2 ?h3 ?h4 ?h5 ?_);(case h1=>exact rfl);(case h2=>exact rfl);(case h3=>exact rfl);(case h4=>exact rfl);(case h5=>exact (by first|(simp only [List.set_cons_succ,List.set_cons_zero,spl,af8,mkD,List.take_succ_cons,List.take_zero,List.drop_succ_cons,List.drop_zero,List.length_cons,List.length_nil,List.nil_append,List.cons_append,Nat.reduceAdd,Nat.zero_add,List.append_nil,List.map_cons,List.map_nil];rfl)|rfl)))|((with_reducible refine' Ot.yd ?hyd ?_);(case hyd=>first|(refine' aS1 aa0 rfl rfl rfl rfl rfl ?hc ?h0;(case hc=>assumption);(case h0=>omega))|(refine aS0 aa0 rfl rfl rfl rfl rfl ?_;first|omega|(simp only [List.length_map,List.length_take,List.length_append,List.length_cons,List.length_nil,List.length_replicate,Nat.reduceAdd];omega))|(refine aH4 aa0 rfl rfl rfl rfl rfl ?_;omega)|exact bj4 rfl rfl rfl Tryz.underlying4|exact bj2 rfl rfl rfl|exact bj3 rfl rfl rfl))|((with_reducible refine' Rs.tc aa0 (m:=0) ?h ?hi ?hj ?hb ?ht ?hag ?hs ?_);(case h=>exact rfl);(case hi=>exact rfl);(case hj=>exact rfl);(case hb=>exact rfl);(case ht=>exact rfl);(case hag=>exact rfl);(case hs=>exact rfl))|((with_reducible refine' Rs.ct aa0 (m:=0) ?h ?hi ?hj ?hb ?ht ?hag ?hs ?_);(case h=>exact rfl);(case hi=>exact rfl);(case hj=>exact rfl);(case hb=>exact rfl);(case ht=>exact rfl);(case hag=>exact rfl);(case hs=>exact rfl))|((with_reducible refine' Rs.c aa0 (m:=0) ?h ?hj ?hb ?ht ?hag ?hs ?_);(case h=>exact rfl);(case hj=>exact rfl);(case hb=>exact rfl);(case ht=>exact rfl);(case hag=>exact rfl);(case hs=>exact rfl))|((with_reducible refine Br.dt ?h ?_);(case h=>omega))|((with_reducible refine Br.df ?h ?_);(case h=>omega))|((with_reducible refine Br.t ?h ?_);(case h=>assumption))|((with_reducible refine Br.f ?h ?_);(case h=>assumption))|((with_reducible refine Br.t ?h ?_);(case h=>(refine decide_eq_true ?_;omega)))|((with_reducible refine Br.f ?h ?_);(case h=>(refine decide_eq_false ?_;omega))));exact hk7q.run):A:=h ⟨k⟩
theorem sk89 {A B:Prop} (k:B) (h:Hd7 B→A:=by intro hk7q;(first|refine sb88 ?_|refine sb1 ?_|((with_reducible refine' Cp.by ?hc ?_);(case hc=>first|exact HU|exact ba1|exact aB3 _|(refine aV5 _ _ ?hs ?hn;(case hn=>first|assumption|omega|(simp only [List.length_map,List.length_take,List.length_append,List.length_cons,List.length_nil,List.length_replicate,Nat.reduceAdd];omega));(case hs=>(refine' szLe ?a ?c;(case a=>repeat' (first|((show (_:Nat)≤_);assumption)|exact sz1 _|exact sz0|(refine' aY9 ?_ (by assumption))|refine' szN ?_|refine' szA ?_ ?_));(case c=>first|decide|omega))))))|((with_reducible refine' CE.pure ?hc ?_);(case hc=>first|exact HU|exact ba1|exact aB3 _|(refine aV5 _ _ ?hs ?hn;(case hn=>first|assumption|omega|(simp only [List.length_map,List.length_take,List.length_append,List.length_cons,List.length_nil,List.length_replicate,Nat.reduceAdd];omega));(case hs=>(refine' szLe ?a ?c;(case a=>repeat' (first|((show (_:Nat)≤_);assumption)|exact sz1 _|exact sz0|(refine' aY9 ?_ (by assumption))|refine' szN ?_|refine' szA ?_ ?_));(case c=>first|decide|omega)))))));exact hk7q.run):A:=h ⟨k⟩
end
section
open Go
theorem sb90 {A B:Prop} (k:B) (h:Hd7 B→A:=by intro hk7q;(first|((with_reducible refine W.mk ?_);(conv=>whnf))|(with_reducible refine Br.tt ?_)|(with_reducible refine Br.ff ?_)|(with_reducible refine Br.n ?_)|((with_reducible refine' Br.eq ?h ?_);(case h=>(simp only [List.length_map,List.length_take,List.length_append,List.length_cons,List.length_nil,List.length_replicate,Nat.reduceAdd];exact rfl)))|((with_reducible refine Sd.go ?qs7 ?_);(case qs7=>first|trivial|(constructor <;> omega)|omega|assumption|(refine' ck5 ?a ?b ?c;(case a=>repeat' (first|((show (_:Nat)≤_);assumption)|exact sz1 _|exact sz0|(refine' aY9 ?_ (by assumption))|refine' szN ?_|refine' szA ?_ ?_));(case b=>repeat' (first|((show (_:Nat)≤_);assumption)|exact sz1 _|exact sz0|(refine' aY9 ?_ (by assumption))|refine' szN ?_|refine' szA ?_ ?_));(case c=>first|decide|omega))))|((with_reducible refine Ck.go ?qs7 ?_);(case qs7=>kernel_rfl))|((with_reducible refine' Ix.mapAt ?hy ?h0 ?_);(case hy=>assumption);(case h0=>omega))|((with_reducible refine' Ix.at ?hy ?h0 ?_);(case hy=>exact rfl);(case h0=>omega))|((with_reducible refine Ix.mapM ?h0 ?_);(case h0=>first|omega|(simp only [List.length_map,List.length_take,List.length_append,List.length_cons,List.length_nil,List.length_replicate,Nat.reduceAdd] at *;omega)))|((with_reducible refine' Ld.at 0 ?h1 ?h2 ?h3 ?_);(case h1=>exact rfl);(case h2=>exact rfl);(case h3=>exact rfl))|((with_reducible refine' Ld.at 1 ?h1 ?h2 ?h3 ?_);(case h1=>exact rfl);(case h2=>exact rfl);(case h3=>exact rfl))|((with_reducible refine' Ld.at 2 ?h1 ?h2 ?h3 ?_);(case h1=>exact rfl);(case h2=>exact rfl);(case h3=>exact rfl))|((with_reducible refine' Sv.at 0 ?h1 ?h2 ?h3 ?h4 ?h5 ?_);(case h1=>exact rfl);(case h2=>exact rfl);(case h3=>exact rfl);(case h4=>exact rfl);(case h5=>exact (by first|(simp only [List.set_cons_succ,List.set_cons_zero,spl,af8,mkD,List.take_succ_cons,List.take_zero,List.drop_succ_cons,List.drop_zero,List.length_cons,List.length_nil,List.nil_append,List.cons_append,Nat.reduceAdd,Nat.zero_add,List.append_nil,List.map_cons,List.map_nil];rfl)|rfl)))|((with_reducible refine' Sv.at 1 ?h1 ?h2 ?h3 ?h4 ?h5 ?_);(case h1=>exact rfl);(case h2=>exact rfl);(case h3=>exact rfl);(case h4=>exact rfl);(case h5=>exact (by first|(simp only [List.set_cons_succ,List.set_cons_zero,spl,af8,mkD,List.take_succ_cons,List.take_zero,List.drop_succ_cons,List.drop_zero,List.length_cons,List.length_nil,List.nil_append,List.cons_append,Nat.reduceAdd,Nat.zero_add,List.append_nil,List.map_cons,List.map_nil];rfl)|rfl)))|((with_reducible refine' Sv.at 2 ?h1 ?h2 ?h3 ?h4 ?h5 ?_);(case h1=>exact rfl);(case h2=>exact rfl);(case h3=>exact rfl);(case h4=>exact rfl);(case h5=>exact (by first|(simp only [List.set_cons_succ,List.set_cons_zero,spl,af8,mkD,List.take_succ_cons,List.take_zero,List.drop_succ_cons,List.drop_zero,List.length_cons,List.length_nil,List.nil_append,List.cons_append,Nat.reduceAdd,Nat.zero_add,List.append_nil,List.map_cons,List.map_nil];rfl)|rfl)))|((with_reducible refine' Ot.yd ?hyd ?_);(case hyd=>first|(refine' aS1 aa0 rfl rfl rfl rfl rfl ?hc ?h0;(case hc=>assumption);(case h0=>omega))|(refine aS0 aa0 rfl rfl rfl rfl rfl ?_;first|omega|(simp only [List.length_map,List.length_take,List.length_append,List.length_cons,List.length_nil,List.length_replicate,Nat.reduceAdd];omega))|(refine aH4 aa0 rfl rfl rfl rfl rfl ?_;omega)|exact bj4 rfl rfl rfl Tryz.underlying4|exact bj2 rfl rfl rfl|exact bj3 rfl rfl rfl))|((with_reducible refine' Rs.tc aa0 (m:=0) ?h ?hi ?hj ?hb ?ht ?hag ?hs ?_);(case h=>exact rfl);(case hi=>exact rfl);(case hj=>exact rfl);(case hb=>exact rfl);(case ht=>exact rfl);(case hag=>exact rfl);(case hs=>exact rfl))|((with_reducible refine' Rs.ct aa0 (m:=0) ?h ?hi ?hj ?hb ?ht ?hag ?hs ?_);(case h=>exact rfl);(case hi=>exact rfl);(case hj=>exact rfl);(case hb=>exact rfl);(case ht=>exact rfl);(case hag=>exact rfl);(case hs=>exact rfl))|((with_reducible refine' Rs.c aa0 (m:=0) ?h ?hj ?hb ?ht ?hag ?hs ?_);(case h=>exact rfl);(case hj=>exact rfl);(case hb=>exact rfl);(case ht=>exact rfl);(case hag=>exact rfl);(case hs=>exact rfl))|((with_reducible refine Br.dt ?h ?_);(case h=>omega))|((with_reducible refine Br.df ?h ?_);(case h=>omega))|((with_reducible refine Br.t ?h ?_);(case h=>assumption))|((with_reducible refine Br.f ?h ?_);(case h=>assumption))|((with_reducible refine Br.t ?h ?_);(case h=>(refine decide_eq_true ?_;omega)))|((with_reducible refine Br.f ?h ?_);(case h=>(refine decide_eq_false ?_;omega))));exact hk7q.run):A:=h ⟨k⟩
theorem sk91 {A B:Prop} (k:B) (h:Hd7 B→A:=by intro hk7q;(first|refine sb90 ?_|refine sb1 ?_|((with_reducible refine' Cp.by ?hc ?_);(case hc=>first|exact aB3 _|exact HLN|(refine aV5 _ _ ?hs ?hn;(case hn=>first|assumption|omega|(simp only [List.length_map,List.length_take,List.length_append,List.length_cons,List.length_nil,List.length_replicate,Nat.reduceAdd];omega));(case hs=>(refine' szLe ?a ?c;(case a=>repeat' (first|((show (_:Nat)≤_);assumption)|exact sz1 _|exact sz0|(refine' aY9 ?_ (by assumption))|refine' szN ?_|refine' szA ?_ ?_));(case c=>first|decide|omega))))))|((with_reducible refine' CE.pure ?hc ?_);(case hc=>first|exact aB3 _|exact HLN|(refine aV5 _ _ ?hs ?hn;(case hn=>first|assumption|omega|(simp only [List.length_map,List.length_take,List.length_append,List.length_cons,List.length_nil,List.length_replicate,Nat.reduceAdd];omega));(case hs=>(refine' szLe ?a ?c;(case a=>repeat' (first|((show (_:Nat)≤_);assumption)|exact sz1 _|exact sz0|(refine' aY9 ?_ (by assumption))|refine' szN ?_|refine' szA ?_ ?_));(case c=>first|decide|omega)))))));exact hk7q.run):A:=h ⟨k⟩
end
section
open Go
structure Good (x:Sch):Prop where
 ver:-9223372036854775807≤x.version∧x.version≤9223372036854775807
 fsane:∀ k∈x.kinds,∀ f∈k.fields,ci3 f∧(-9223372036854775807≤f.kind∧f.kind≤9223372036854775807)
 ksane:∀ k∈x.kinds,(-9223372036854775807≤k.lo∧k.lo≤9223372036854775807)∧(-9223372036854775807≤k.hi∧k.hi≤9223372036854775807)
 msane:∀ l∈x.lives,∀ m∈l.moves,(-9223372036854775807≤m.1∧m.1≤9223372036854775807)∧(-9223372036854775807≤m.2∧m.2≤9223372036854775807)
 rsane:∀ r∈x.rules,-9223372036854775807≤r.n∧r.n≤9223372036854775807
 sm:ci2 x
 src:al7 x=true→srcB x≤8192
end
section
open Go
theorem ac8 {w:World} {O:Nat→Prop} {d:D} {ds:List D} {us:List Value} (h:RdL w O (d :: ds) us):∃ u us',us=u :: us'∧Rd w O d u∧RdL w O ds us':=by
 cases us with
 | nil=>have:=h.len;simp at this
 | cons u us'=>exact ⟨u,us',rfl,h.at_ 0 _ _ rfl rfl,⟨by have:=h.len;simpa using this,fun j d u h1 h2=>h.at_ (j+1) d u (by simpa using h1) (by simpa using h2)⟩⟩
theorem at5 {w:World} {O:Nat→Prop} {us:List Value} (h:RdL w O [] us):us=[]:=by
 have:=h.len;exact List.eq_nil_of_length_eq_zero (by simpa using this)
theorem aK8 {α:Type} {k:Nat} {g:α→List D} {R:α→List Value→Prop} {w:World} {O:Nat→Prop} {xs:List α} {v:Value} (h:Rd w O (.sl k (xs.map g)) v)
  (hR:∀ x∈xs,∀ us,RdL w O (g x) us→R x us):∃ a cap,v = .slice a xs.length cap∧Row k R w (fun _=>True) xs a cap:=by
 obtain ⟨a,cap,vs,rfl,hle,hk,hc,hr⟩:=h.sl_inv
 rw [List.length_map] at hle ⊢
 refine ⟨a,cap,rfl,⟨hle,fun i x hx=>?_⟩⟩
 have hgx:(xs.map g)[i]?=some (g x):=by rw [List.getElem?_map,hx];rfl
 obtain ⟨b,off,ha,_,_,hcell⟩:=hc i _ hgx
 have hl:(g x).length=k:=hk _ (List.mem_of_getElem? hgx)
 refine ⟨b,off,ha,trivial,(List.range k).map (vs i),by simp,hR x (List.mem_of_getElem? hx) _ ⟨by simp [hl],fun j d u h1 h2=>?_⟩,fun j u hu=>?_⟩
 ·have hj:j<k:=by rw [← hl];exact (List.getElem?_eq_some_iff.1 h1).1
  simp [hj] at h2
  subst h2
  exact hr i _ hgx j d h1
 ·have hj:j<k:=by have:=(List.getElem?_eq_some_iff.1 hu).1;simpa using this
  simp [hj] at hu
  subst hu
  exact hcell j hj
theorem az4 {n:Int} (h:-9223372036854775807≤n∧n≤9223372036854775807):I64 n:=⟨by omega,by omega⟩
variable {w:World} {O:Nat→Prop}
theorem bT9 {xs:List ByteArray} {v:Value} (h:Rd w O (slS xs) v):∃ a cap,v = .slice a xs.length cap∧aw8 w (fun _=>True) xs a cap:=
 aK8 h fun x _ us hu=>by
  obtain ⟨u,us',rfl,h1,h2⟩:=ac8 hu
  rw [at5 h2,h1.val rfl];rfl
theorem cr7 {xs:List Int} {v:Value} (hs:∀ n∈xs,-9223372036854775807≤n∧n≤9223372036854775807) (h:Rd w O (slI xs) v):∃ a cap,v = .slice a xs.length cap∧RInts w (fun _=>True) xs a cap:=
 aK8 h fun x hx us hu=>by
  obtain ⟨u,us',rfl,h1,h2⟩:=ac8 hu
  rw [at5 h2,h1.val rfl];exact ⟨rfl,az4 (hs x hx)⟩
theorem ct7 {f:Fld} {us:List Value} (hs:ci3 f) (hk:-9223372036854775807≤f.kind∧f.kind≤9223372036854775807) (h:RdL w O (fldC f) us):RFld w (fun _=>True) f us:=by
 obtain ⟨u1,t1,rfl,h1,h⟩:=ac8 h
 obtain ⟨u2,t2,rfl,h2,h⟩:=ac8 h
 obtain ⟨u3,t3,rfl,h3,h⟩:=ac8 h
 obtain ⟨u4,t4,rfl,h4,h⟩:=ac8 h
 obtain ⟨u5,t5,rfl,h5,h⟩:=ac8 h
 obtain ⟨u6,t6,rfl,h6,h⟩:=ac8 h
 obtain ⟨u7,t7,rfl,h7,h⟩:=ac8 h
 obtain ⟨u8,t8,rfl,h8,hz⟩:=ac8 h
 obtain rfl:=at5 hz
 obtain ⟨wa,wc,rfl,hw⟩:=bT9 h7
 obtain ⟨ga,gc,rfl,hg⟩:=cr7 hs.ws h8
 rw [h1.val rfl,h2.val rfl,h3.val rfl,h4.val rfl,h5.val rfl,h6.val rfl]
 exact ⟨wa,wc,ga,gc,rfl,az4 hk,az4 hs.lo,az4 hs.hi,hw,hg⟩
theorem cr2 {k:Knd} {us:List Value} (hs:∀ f∈k.fields,ci3 f∧(-9223372036854775807≤f.kind∧f.kind≤9223372036854775807)) (hk:(-9223372036854775807≤k.lo∧k.lo≤9223372036854775807)∧(-9223372036854775807≤k.hi∧k.hi≤9223372036854775807)) (h:RdL w O (kndC k) us):RKnd w (fun _=>True) k us:=by
 obtain ⟨u1,t1,rfl,h1,h⟩:=ac8 h
 obtain ⟨u2,t2,rfl,h2,h⟩:=ac8 h
 obtain ⟨u3,t3,rfl,h3,h⟩:=ac8 h
 obtain ⟨u4,t4,rfl,h4,hz⟩:=ac8 h
 obtain rfl:=at5 hz
 obtain ⟨fa,fc,rfl,hf⟩:=aK8 (R:=RFld w (fun _=>True)) h4 fun f hf us hu=>ct7 (hs f hf).1 (hs f hf).2 hu
 rw [h1.val rfl,h2.val rfl,h3.val rfl]
 exact ⟨fa,fc,rfl,az4 hk.1,az4 hk.2,hf⟩
theorem cq2 {x:Lif} {us:List Value} (hm:∀ m∈x.moves,(-9223372036854775807≤m.1∧m.1≤9223372036854775807)∧(-9223372036854775807≤m.2∧m.2≤9223372036854775807)) (h:RdL w O (lifC x) us):RLif w (fun _=>True) x us:=by
 obtain ⟨u1,t1,rfl,h1,h⟩:=ac8 h
 obtain ⟨u2,t2,rfl,h2,h⟩:=ac8 h
 obtain ⟨u3,t3,rfl,h3,hz⟩:=ac8 h
 obtain rfl:=at5 hz
 obtain ⟨sa,sc,rfl,hs⟩:=bT9 h2
 obtain ⟨ma,mc,rfl,hmv⟩:=aK8 (R:=RTwo) h3 fun m hmm us hu=>by
  obtain ⟨a,t,rfl,g1,hu⟩:=ac8 hu
  obtain ⟨b,t,rfl,g2,hu⟩:=ac8 hu
  rw [at5 hu,g1.val rfl,g2.val rfl]
  exact ⟨rfl,az4 (hm m hmm).1,az4 (hm m hmm).2⟩
 rw [h1.val rfl]
 exact ⟨sa,sc,ma,mc,rfl,hs,hmv⟩
theorem cm1 {r:Rul} {us:List Value} (hn:-9223372036854775807≤r.n∧r.n≤9223372036854775807) (h:RdL w O (rulC r) us):RRul r us:=by
 obtain ⟨u1,t1,rfl,h1,h⟩:=ac8 h
 obtain ⟨u2,t2,rfl,h2,h⟩:=ac8 h
 obtain ⟨u3,t3,rfl,h3,h⟩:=ac8 h
 obtain ⟨u4,t4,rfl,h4,h⟩:=ac8 h
 obtain ⟨u5,t5,rfl,h5,h⟩:=ac8 h
 obtain rfl:=at5 h
 rw [h1.val rfl,h2.val rfl,h3.val rfl,h4.val rfl,h5.val rfl]
 exact ⟨rfl,az4 hn⟩
theorem aZ2 (x:Sch) (g:Good x):APure Tryz.prog 143 [schD x] (iD (ai3 x)):=by
 refine ⟨enters_of Tryz.func143 (by kernel_rfl) rfl,fun w O vs hv hg=>?_⟩
 obtain ⟨v,t,rfl,h1,h⟩:=ac8 hv
 rw [at5 h]
 obtain ⟨us,rfl,hu⟩:=h1.agg_inv
 obtain ⟨u1,t1,rfl,k1,hu⟩:=ac8 hu
 obtain ⟨u2,t2,rfl,k2,hu⟩:=ac8 hu
 obtain ⟨u3,t3,rfl,k3,hu⟩:=ac8 hu
 obtain ⟨u4,t4,rfl,k4,hu⟩:=ac8 hu
 rw [at5 hu,k1.val rfl]
 obtain ⟨ka,kc,rfl,hk⟩:=aK8 (R:=RKnd w (fun _=>True)) k2 fun k hk us hu=>cr2 (g.fsane k hk) (g.ksane k hk) hu
 obtain ⟨la,lc,rfl,hl⟩:=aK8 (R:=RLif w (fun _=>True)) k3 fun k hk us hu=>cq2 (g.msane k hk) hu
 obtain ⟨ra,rc,rfl,hr⟩:=aK8 (R:=RRul) k4 fun k hk us hu=>cm1 (g.rsane k hk) hu
 exact (bv2 x w (az4 g.ver) hk hl hr g.sm g.src ⟨hg.pow,hg.words⟩).mono fun e w' ⟨e1,e2⟩=>⟨_,e1,.v _,e2⟩
end
end Go.Proofs.YtlcfiilejnnlnaaGreatDoor
namespace Go.Proofs
open Go.Shelf
def Tryz.lays156_ren:Go.Shelf.Ren:=⟨fun | 156=>118 | 165=>162 | 166=>163 | 169=>164 | 240=>205 | 241=>206 | 276=>239 | 277=>240|n=>n,fun | 31=>48 | 9=>9 | 3=>3 | 4=>4 | 0=>0 | 20=>20 | 72=>266 | 76=>270 | 70=>264 | 37=>23 | 75=>269 | 127=>307 | 164=>323 | 5=>5 | 80=>272|n=>n,fun|n=>n⟩
theorem Tryz.lays156:Go.Proofs.Lays.n156 Tryz.prog Tryz.lays156_ren:={
 mixed:=by kernel_rfl
 f156:=Tryz.func118.trans (congrArg some (by kernel_rfl))
 f165:=Tryz.func162.trans (congrArg some (by kernel_rfl))
 f166:=Tryz.func163.trans (congrArg some (by kernel_rfl))
 f169:=Tryz.func164.trans (congrArg some (by kernel_rfl))
 f240:=Tryz.func205.trans (congrArg some (by kernel_rfl))
 f241:=Tryz.func206.trans (congrArg some (by kernel_rfl))
 f276:=Tryz.func239.trans (congrArg some (by kernel_rfl))
 f277:=Tryz.func240.trans (congrArg some (by kernel_rfl))
 t0:=Tryz.underlying0
 a0:=Tryz.isAgg0
 z0:=Tryz.sizeOf0
 v0:=Tryz.zeroValue0
 t3:=Tryz.underlying3
 a3:=Tryz.isAgg3
 z3:=Tryz.sizeOf3
 v3:=Tryz.zeroValue3
 t4:=Tryz.underlying4
 a4:=Tryz.isAgg4
 z4:=Tryz.sizeOf4
 v4:=Tryz.zeroValue4
 t9:=Tryz.underlying9
 a9:=Tryz.isAgg9
 z9:=Tryz.sizeOf9
 v9:=Tryz.zeroValue9
 t20:=Tryz.underlying20
 a20:=Tryz.isAgg20
 z20:=Tryz.sizeOf20
 v20:=Tryz.zeroValue20
 t31:=Tryz.underlying48
 a31:=Tryz.isAgg48
 z31:=Tryz.sizeOf48
 v31:=Tryz.zeroValue48
 t37:=Tryz.underlying23
 a37:=Tryz.isAgg23
 z37:=Tryz.sizeOf23
 v37:=Tryz.zeroValue23
 t70:=Tryz.underlying264
 a70:=Tryz.isAgg264
 z70:=Tryz.sizeOf264
 v70:=Tryz.zeroValue264
 t72:=Tryz.underlying266
 a72:=Tryz.isAgg266
 z72:=Tryz.sizeOf266
 v72:=Tryz.zeroValue266
 t75:=Tryz.underlying269
 a75:=Tryz.isAgg269
 z75:=Tryz.sizeOf269
 v75:=Tryz.zeroValue269
 t76:=Tryz.underlying270
 a76:=Tryz.isAgg270
 z76:=Tryz.sizeOf270
 v76:=Tryz.zeroValue270
 t127:=Tryz.underlying307
 a127:=Tryz.isAgg307
 z127:=Tryz.sizeOf307
 v127:=Tryz.zeroValue307
 t164:=Tryz.underlying323
 a164:=Tryz.isAgg323
 z164:=Tryz.sizeOf323
 v164:=Tryz.zeroValue323 }
theorem Tryz.Builder_Extra_156:Builder.Extra Tryz.prog Tryz.lays156_ren:={
 sizeBuilder:=by kernel_rfl
 liesBuilder:=by kernel_rfl
 t5:=Tryz.underlying5
 a5:=Tryz.isAgg5
 z5:=Tryz.sizeOf5
 v5:=Tryz.zeroValue5
 infoByte:=by kernel_rfl
 cellsByte:=by kernel_rfl
 sizeByte:=by kernel_rfl
 neB5:=by decide }
open Go.RowKit in
theorem Tryz.strings_Join (bk o c:Nat) (xs:List ByteArray) (sep:ByteArray) (w:World) (hcells:∀ (j:Nat) x,xs[j]?=some x→w.cell? ⟨bk,o+j,none⟩=some (.string x)) (hbk:bk<w.heap.size) (hN:xs.length≤140737488355328) (hcap:xs.length≤c) (hlen:(Lib.join (xs.map (·.data.toList)) sep.data.toList).length≤140737488355328) :
  Calls Tryz.prog 118 #[.slice (some ⟨bk,o,none⟩) xs.length c,.string sep] w fun e w'=>e = .returned (.string ⟨(Lib.join (xs.map (·.data.toList)) sep.data.toList).toArray⟩)∧Below w.heap.size w w':=Any.strings_Join Tryz.lays156 Tryz.Builder_Extra_156 bk o c xs sep w hcells hbk hN hcap hlen
end Go.Proofs
namespace Go.Proofs.YtlcfiilejnnlnaaGreatDoor
section
open Go Go.Maps Go.MapKept
def aH2 (l:List ByteArray):ByteArray:=⟨(Lib.join (l.map (·.data.toList)) [46]).toArray⟩
theorem bo1 (l:List ByteArray) (h1:l.length≤1000) (h:∀ s∈l,s.size≤1000):(Lib.join (l.map (·.data.toList)) [46]).length≤2000000:=by
 have hb:∀ l:List ByteArray,(∀ s∈l,s.size≤1000)→(Lib.joinTail [46] (l.map (·.data.toList))).length≤l.length*1001:=by
  intro l
  induction l with
  | nil=>intro _;simp [Lib.joinTail]
  | cons s l ih=>
   intro h
   have h2:=ih fun t ht=>h t (List.mem_cons_of_mem _ ht)
   have h3:=h s List.mem_cons_self
   have h4:s.data.toList.length=s.size:=by simp
   simp only [Lib.joinTail,List.map_cons,List.flatten_cons,List.length_append,List.length_cons,List.length_nil] at h2 ⊢
   omega
 cases l with
 | nil=>simp [Lib.join_nil]
 | cons s l=>
  have h2:=hb l fun t ht=>h t (List.mem_cons_of_mem _ ht)
  have h3:=h s List.mem_cons_self
  have h4:s.data.toList.length=s.size:=by simp
  rw [List.map_cons,Lib.join_cons,List.length_append]
  simp only [List.length_cons] at h1
  omega
theorem aT6 (l:List ByteArray) (h0:l≠[]) (h1:l.length≤1000) (h:∀ s∈l,s.size≤1000):APure Tryz.prog 118 [slS l,sD ⟨#[46]⟩] (sD (aH2 l)):=by
 refine ⟨enters_of Tryz.func118 (by kernel_rfl) rfl,fun w O vs hv hg=>?_⟩
 obtain ⟨v,t,rfl,h2,h3⟩:=ac8 hv
 obtain ⟨u,t,rfl,h4,h5⟩:=ac8 h3
 rw [at5 h5,h4.val rfl]
 obtain ⟨a,cap,va,rfl,hle,hk,hc,hr⟩:=h2.sl_inv
 rw [List.length_map] at hle ⊢
 have hl:0<l.length:=List.length_pos_iff.2 h0
 obtain ⟨b,off,rfl,_,hb,_⟩:=hc 0 [sD l[0]] (by rw [List.getElem?_map,List.getElem?_eq_getElem hl];rfl)
 refine (Tryz.strings_Join b off cap l ⟨#[46]⟩ w (fun j x hx=>?_) hb (by omega) hle (by have:=bo1 l h1 h;exact Nat.le_trans this (by decide))).mono fun e w' ⟨e1,e2⟩=>⟨_,e1,.v _,Ex.of_below e2⟩
 have hg:(l.map fun x=>[sD x])[j]?=some [sD x]:=by rw [List.getElem?_map,hx];rfl
 obtain ⟨b',off',ha,_,_,hcell⟩:=hc j _ hg
 cases ha
 have:=hcell 0 (by decide)
 rw [(hr j _ hg 0 _ rfl).val rfl] at this
 simpa using this
/-! ### Two paths with one key are one -/
theorem bR7 {c:UInt8} (h:alnum c=true):c≠46:=by
 rintro rfl
 revert h
 decide
theorem cc5 {s:ByteArray} (h:isNm s=true):(46:UInt8) ∉ s.data.toList:=by
 intro hm
 unfold isNm at h
 simp only [Bool.and_eq_true,List.all_eq_true] at h
 exact bR7 (h.2 46 hm) rfl
theorem bx7 {x y t u:List UInt8} (hx:(46:UInt8) ∉ x) (hy:(46:UInt8) ∉ y) (ht:t=[]∨∃ r,t=46 :: r) (hu:u=[]∨∃ r,u=46 :: r) (h:x ++ t=y ++ u):x=y∧t=u:=by
 induction x generalizing y with
 | nil=>
  cases y with
  | nil=>exact ⟨rfl,h⟩
  | cons c y=>
   rcases ht with rfl|⟨r,rfl⟩
   ·simp at h
   ·simp only [List.nil_append,List.cons_append,List.cons.injEq] at h
    exact absurd (by rw [← h.1];exact List.mem_cons_self) hy
 | cons c x ih=>
  cases y with
  | nil=>
   rcases hu with rfl|⟨r,rfl⟩
   ·simp at h
   ·simp only [List.nil_append,List.cons_append,List.cons.injEq] at h
    exact absurd (by rw [← h.1];exact List.mem_cons_self) hx
  | cons e y=>
   simp only [List.cons_append,List.cons.injEq] at h
   obtain ⟨h1,h2⟩:=ih (fun hm=>hx (List.mem_cons_of_mem _ hm)) (fun hm=>hy (List.mem_cons_of_mem _ hm)) h.2
   exact ⟨by rw [h.1,h1],h2⟩
theorem aA8 (r:List (List UInt8)):Lib.joinTail [46] r=[]∨∃ q,Lib.joinTail [46] r=46 :: q:=by
 cases r with
 | nil=>exact .inl rfl
 | cons x r=>exact .inr ⟨x ++ Lib.joinTail [46] r,by simp [Lib.joinTail]⟩
theorem bl0:∀ {r q:List (List UInt8)},(∀ x∈r,(46:UInt8) ∉ x)→(∀ x∈q,(46:UInt8) ∉ x)→Lib.joinTail [46] r=Lib.joinTail [46] q→r=q
 | [],[],_,_,_=>rfl
 | [],y :: q,_,_,h=>by simp [Lib.joinTail] at h
 | x :: r,[],_,_,h=>by simp [Lib.joinTail] at h
 | x :: r,y :: q,hr,hq,h=>by
  have e:∀ (x:List UInt8) r,Lib.joinTail [46] (x :: r)=46 :: (x ++ Lib.joinTail [46] r):=fun x r=>by simp [Lib.joinTail]
  rw [e,e,List.cons.injEq] at h
  obtain ⟨h1,h2⟩:=bx7 (hr x List.mem_cons_self) (hq y List.mem_cons_self) (aA8 r) (aA8 q) h.2
  rw [h1,bl0 (fun z hz=>hr z (List.mem_cons_of_mem _ hz)) (fun z hz=>hq z (List.mem_cons_of_mem _ hz)) h2]
theorem bO5 {l m:List ByteArray} (hl:au5 l=true) (hm:au5 m=true) (h:aH2 l=aH2 m):l=m:=by
 unfold au5 at hl hm
 simp only [Bool.and_eq_true,decide_eq_true_eq,List.all_eq_true] at hl hm
 have h1:Lib.join (l.map (·.data.toList)) [46]=Lib.join (m.map (·.data.toList)) [46]:=by
  unfold aH2 at h
  simpa using h
 have ne:∀ l:List ByteArray,(∀ s∈l,isNm s=true)→∀ x∈l.map (·.data.toList),(46:UInt8) ∉ x:=fun l h x hx=>by
  obtain ⟨s,hs,rfl⟩:=List.mem_map.1 hx
  exact cc5 (h s hs)
 have inj:∀ l m:List ByteArray,l.map (·.data.toList)=m.map (·.data.toList)→l=m:=by
  intro l
  induction l with
  | nil=>intro m h;cases m with|nil=>rfl|cons=>simp at h
  | cons a l ih=>
   intro m h
   cases m with
   | nil=>simp at h
   | cons b m=>
    simp only [List.map_cons,List.cons.injEq] at h
    rw [ih m h.2]
    congr 1
    cases a;cases b
    have:=h.1
    simp at this
    rw [this]
 match l,m,hl,hm,h1 with
 | a :: l,b :: m,hl,hm,h1=>
  rw [List.map_cons,List.map_cons,Lib.join_cons,Lib.join_cons] at h1
  obtain ⟨h2,h3⟩:=bx7 (cc5 (hl.2 a List.mem_cons_self)) (cc5 (hm.2 b List.mem_cons_self)) (aA8 _) (aA8 _) h1
  have h4:=bl0 (ne l fun s hs=>hl.2 s (List.mem_cons_of_mem _ hs)) (ne m fun s hs=>hm.2 s (List.mem_cons_of_mem _ hs)) h3
  exact inj _ _ (by rw [List.map_cons,List.map_cons,h2,h4])
end
end Go.Proofs.YtlcfiilejnnlnaaGreatDoor
