/- A part of the proof: SrcF Valid Br Eq So R09h. -/
import Derived.Test.YtjbbmjjildhfbaaGreatDoorA26
import Derived.Deep.RegionHeld3
import Derived.Laws.StructEq
import Derived.ChangeKeysEq
set_option maxRecDepth 100000
set_option maxHeartbeats 4000000
set_option linter.unusedVariables false
set_option linter.unusedSimpArgs false
namespace Go.Proofs.YtjbbmjjildhfbaaGreatDoor
section
open Go.RowKit Go.Shelf
def SrcAt (W1 : World) (B : Nat) (m : Nat) (wr : World) : Prop:=Ex W1 wr ∧ ∃ n O,Bld wr B B n O ∧ n ≤ m
theorem SrcAt.ex {W1 wr w' : World} {B m : Nat} (h : SrcAt W1 B m wr) (he : Ex wr w') : SrcAt W1 B m w':=by
 obtain ⟨h1,n,O,h2,h3⟩:=h
 exact ⟨h1.trans he,n,O,h2.ex he,h3⟩
theorem SrcAt.mono {W1 wr : World} {B m m' : Nat} (h : SrcAt W1 B m wr) (hm : m ≤ m') : SrcAt W1 B m' wr:=by
 obtain ⟨h1,n,O,h2,h3⟩:=h
 exact ⟨h1,n,O,h2,by omega⟩
theorem src_write {W1 wr : World} {B m : Nat} (h : SrcAt W1 B m wr) (hB : W1.heap.size ≤ B) (s : ByteArray) (hm : m + s.size ≤ 1000000000) :
  Calls Tryz.prog 138 #[.pointer (some ⟨B,0,none⟩),.string s] wr fun e w'=>e = .returned (.tuple #[.int .i64 s.size,.nilIface]) ∧ SrcAt W1 B (m + s.size) w' ∧ wr.heap.size ≤ w'.heap.size:=by
 obtain ⟨h1,n,O,h2,h3⟩:=h
 refine (writeString_any h2 s (by omega)).mono ?_
 rintro e w' ⟨rfl,hw⟩
 obtain ⟨O',hb'⟩:=hw.bld
 exact ⟨rfl,⟨Wrote.ex' hB h1 h2 hw,_,O',hb',by omega⟩,hw.1.size⟩
theorem src_write_kept {W1 wr wn : World} {B m N : Nat} (h : SrcAt W1 B m wr) (hB : W1.heap.size ≤ B) (s : ByteArray) (hm : m + s.size ≤ 1000000000) (hN : wr.heap.size ≤ N) (he : Ex wr wn) (hne : N ≠ B) :
  Calls Tryz.prog 138 #[.pointer (some ⟨B,0,none⟩),.string s] wn fun e w'=>e = .returned (.tuple #[.int .i64 s.size,.nilIface]) ∧ SrcAt W1 B (m + s.size) w' ∧ wn.heap.size ≤ w'.heap.size ∧ ∀ i v,wn.cell? ⟨N,i,none⟩ = some v → w'.cell? ⟨N,i,none⟩ = some v:=by
 obtain ⟨h1,n,O,h2,h3⟩:=h
 have h2':=h2.ex he
 refine (writeString_any h2' s (by omega)).mono ?_
 rintro e w' ⟨rfl,hw⟩
 obtain ⟨O',hb'⟩:=hw.bld
 exact ⟨rfl,⟨Wrote.ex' hB (h1.trans he) h2' hw,_,O',hb',by omega⟩,hw.1.size,fun i v hc=>hw.cell hc hne (fun e=>by have:=h2.own_lt N e;omega)⟩
def lifItems (nm : ByteArray) (ss : List ByteArray) (j : Nat) : List (Int ⊕ ByteArray):=Sum.inr nm :: Sum.inl (ss.length : Int) :: (ss.take j).map Sum.inr
theorem lifItems_length (nm : ByteArray) (ss : List ByteArray) (j : Nat) (h : j ≤ ss.length) : (lifItems nm ss j).length = 2 + j:=by simp [lifItems];omega
theorem lifItems_succ (nm : ByteArray) (ss : List ByteArray) (j : Nat) (s : ByteArray) (h : ss[j]? = some s) : lifItems nm ss (j + 1) = lifItems nm ss j ++ [.inr s]:=by simp [lifItems,List.take_add_one,h]
theorem lifItems_B (nm : ByteArray) (ss : List ByteArray) : itemsB (lifItems nm ss ss.length) = 2 + nm.size + intB ss.length + sumB (fun s=>1 + s.size) ss:=by
 simp only [lifItems,List.take_of_length_le (Nat.le_refl _),itemsB,List.map_cons,List.sum_cons,itemB,List.map_map,sumB]
 have : (itemB ∘ (Sum.inr : ByteArray → Int ⊕ ByteArray)) = fun s=>1 + s.size:=by funext s;rfl
 rw [this];omega
theorem one_one (a : Int ⊕ ByteArray) : ∀ u ∈ [anyV a],u.oneCell' = true:=by cases a <;> simp [anyV,Value.oneCell']
theorem source_any (x : Sch) (w : World) {F : Nat → Prop} {ka la ra : Option Addr} {kc lc rc : Nat} (hver : I64 x.version) (hk : RKnds w F x.kinds ka kc) (hl : RLifs w F x.lives la lc) (hr : RRuls w F x.rules ra rc) (hx : SmSch x) (hv : validB x = true) (hb : srcB x ≤ 1000000) (hp : Pow10 w) (hwd : WordsAt w) :
  Calls Tryz.prog 114 #[.agg #[.int .i64 x.version,.slice ka x.kinds.length kc,.slice la x.lives.length lc,.slice ra x.rules.length rc]] w
   fun e w'=>∃ s : ByteArray,e = .returned (.string s) ∧ s.size ≤ srcB x ∧ Ex w w':=by
 obtain ⟨ver,kinds,lives,rules⟩:=x
 simp only at *
 have hlk:=hx.nkinds
 have hll:=hx.nlives
 have hlr:=hx.nrules
 simp only at hlk hll hlr
 obtain ⟨W1,HW⟩ : ∃ W1 : World,Hid (W1 = w.alloc (.cells #[.int .i64 ver,.slice ka kinds.length kc,.slice la lives.length lc,.slice ra rules.length rc] 43)):=⟨_,rfl⟩
 have b1 : W1.cell? ⟨w.heap.size,1,none⟩ = some (.slice ka kinds.length kc):=by rw [HW.out];simp
 have b2 : W1.cell? ⟨w.heap.size,2,none⟩ = some (.slice la lives.length lc):=by rw [HW.out];simp
 have b3 : W1.cell? ⟨w.heap.size,3,none⟩ = some (.slice ra rules.length rc):=by rw [HW.out];simp
 have bz : W1.heap.size ≤ w.heap.size + 1:=by rw [HW.out];simp
 have bz0 : w.heap.size < W1.heap.size:=by rw [HW.out];simp
 have hsrc0 : SrcAt W1 (w.heap.size + 1) 0 ((w.alloc (.cells #[.int .i64 ver,.slice ka kinds.length kc,.slice la lives.length lc,.slice ra rules.length rc] 43)).alloc (.cells #[.pointer none,.slice none 0 0] 206)):=by
  rw [HW.out]
  refine ⟨(Ex.refl _).alloc,0,none,?_,Nat.le_refl _⟩
  have:=Bld.fresh (w.alloc (.cells #[.int .i64 ver,.slice ka kinds.length kc,.slice la lives.length lc,.slice ra rules.length rc] 43)) (w.heap.size + 1) (by simp)
  simpa using this
 have hbx : Ex w W1:=by rw [HW.out];exact (Ex.refl _).alloc
 have HL0 : Hid (∀ (W : World) (N : Nat),Ex w W → N = W.heap.size → Calls Tryz.prog 139 #[.string ⟨#[115,99,104,101,109,97]⟩,.slice (some ⟨N,0,none⟩) 1 1] (W.alloc (.cells #[.iface 3 (.int .i64 ver)] 20)) fun e w'=>∃ s : ByteArray,e = .returned (.string s) ∧ s.size ≤ 29 ∧ Ex W w'):=Lib.hid (by
  intro W N he hN
  subst hN
  have i1:=intB_le ver
  have hB : itemsB [.inl ver] = 1 + intB ver:=by simp [itemsB,itemB]
  refine (line_new ⟨#[115,99,104,101,109,97]⟩ [.inl ver] W (by simp [hver]) (hp.ex he) (by simp) (by rw [hB];show 6 + _ ≤ _;omega)).mono ?_
  rintro e w' ⟨s,h1,h2,h3⟩
  refine ⟨s,h1,?_,h3⟩
  have h2' : s.size ≤ 6 + itemsB [.inl ver] + 1:=h2
  omega)
 have HL1 : Hid (∀ (W : World) (N : Nat) (nm : ByteArray) (lo hi : Int),I64 lo → I64 hi → nm.size ≤ 1000000 → Ex w W → N = W.heap.size → Calls Tryz.prog 139 #[.string ⟨#[107,105,110,100]⟩,.slice (some ⟨N,0,none⟩) 3 3] (W.alloc (.cells #[.iface 9 (.string nm),.iface 3 (.int .i64 lo),.iface 3 (.int .i64 hi)] 20)) fun e w'=>∃ s : ByteArray,e = .returned (.string s) ∧ s.size ≤ 8 + nm.size + intB lo + intB hi ∧ Ex W w'):=Lib.hid (by
  intro W N nm lo hi hlo hhi hnm he hN
  subst hN
  have i1:=intB_le lo
  have i2:=intB_le hi
  have hB : itemsB [.inr nm,.inl lo,.inl hi] = 3 + nm.size + intB lo + intB hi:=by simp [itemsB,itemB];omega
  refine (line_new ⟨#[107,105,110,100]⟩ [.inr nm,.inl lo,.inl hi] W (by simp [hlo,hhi]) (hp.ex he) (by simp) (by rw [hB];show 4 + _ ≤ _;omega)).mono ?_
  rintro e w' ⟨s,h1,h2,h3⟩
  refine ⟨s,h1,?_,h3⟩
  have h2' : s.size ≤ 4 + itemsB [.inr nm,.inl lo,.inl hi] + 1:=h2
  omega)
 have HL5 : Hid (∀ (W : World) (N : Nat) (lo hi : Int),I64 lo → I64 hi → Ex w W → N = W.heap.size → Calls Tryz.prog 139 #[.string ⟨#[109,111,118,101]⟩,.slice (some ⟨N,0,none⟩) 2 2] (W.alloc (.cells #[.iface 3 (.int .i64 lo),.iface 3 (.int .i64 hi)] 20)) fun e w'=>∃ s : ByteArray,e = .returned (.string s) ∧ s.size ≤ 7 + intB lo + intB hi ∧ Ex W w'):=Lib.hid (by
  intro W N lo hi hlo hhi he hN
  subst hN
  have i1:=intB_le lo
  have i2:=intB_le hi
  have hB : itemsB [.inl lo,.inl hi] = 2 + intB lo + intB hi:=by simp [itemsB,itemB];omega
  refine (line_new ⟨#[109,111,118,101]⟩ [.inl lo,.inl hi] W (by simp [hlo,hhi]) (hp.ex he) (by simp) (by rw [hB];show 4 + _ ≤ _;omega)).mono ?_
  rintro e w' ⟨s,h1,h2,h3⟩
  refine ⟨s,h1,?_,h3⟩
  have h2' : s.size ≤ 4 + itemsB [.inl lo,.inl hi] + 1:=h2
  omega)
 have HL6 : Hid (∀ (W : World) (N : Nat) (nm kd a b : ByteArray) (n : Int),I64 n → nm.size + kd.size + a.size + b.size ≤ 10000000 → Ex w W → N = W.heap.size → Calls Tryz.prog 139 #[.string ⟨#[114,117,108,101]⟩,.slice (some ⟨N,0,none⟩) 5 5] (W.alloc (.cells #[.iface 9 (.string nm),.iface 9 (.string kd),.iface 9 (.string a),.iface 9 (.string b),.iface 3 (.int .i64 n)] 20)) fun e w'=>∃ s : ByteArray,e = .returned (.string s) ∧ s.size ≤ 10 + nm.size + kd.size + a.size + b.size + intB n ∧ Ex W w'):=Lib.hid (by
  intro W N nm kd a b n hn hsz he hN
  subst hN
  have i1:=intB_le n
  have hB : itemsB [.inr nm,.inr kd,.inr a,.inr b,.inl n] = 5 + nm.size + kd.size + a.size + b.size + intB n:=by simp [itemsB,itemB];omega
  refine (line_new ⟨#[114,117,108,101]⟩ [.inr nm,.inr kd,.inr a,.inr b,.inl n] W (by simp [hn]) (hp.ex he) (by simp) (by rw [hB];show 4 + _ ≤ _;omega)).mono ?_
  rintro e w' ⟨s,h1,h2,h3⟩
  refine ⟨s,h1,?_,h3⟩
  have h2' : s.size ≤ 4 + itemsB [.inr nm,.inr kd,.inr a,.inr b,.inl n] + 1:=h2
  omega)
 have hsb : 29 + sumB kndB kinds + sumB lifB lives + sumB rulB rules ≤ 1000000:=hb
 have HX:=Lib.hid hx
 have HV:=Lib.hid hv
 clear hx hv hb
 go_enter Tryz.func114,Tryz.ntmps114
 go_wp2_with fail
 refine (HL0.out _ _ cl0 (by simp)).mono ?_
 rintro e w1 ⟨s,rfl,hs,he1⟩
 have hsrc1:=hsrc0.ex he1
 clear hsrc0 he1
 go_wp2_with fail
 refine (src_write hsrc1 bz s (by omega)).mono ?_
 rintro e w2 ⟨rfl,hsrc2,_⟩
 have hsrc:=hsrc2.mono (m':=29) (by omega)
 clear hsrc1 hsrc2
 obtain ⟨hc,hf⟩:=hsrc.1.rules
 go_wp2
 clear hc hf
 go_loopw [26] (fun i wr=>∃ j : Nat,j ≤ kinds.length ∧ i = .int .i64 j ∧ Hid (SrcAt W1 (w.heap.size + 1) (29 + sumB kndB (kinds.take j)) wr)) (fun i _=>kinds.length - (intOf i).toNat)
 case atStart=>exact ⟨0,by omega,rfl,by simpa [sumB,Hid] using hsrc⟩
 case round=>
  obtain ⟨wo,hwo⟩ : ∃ wo : World,wo = wr:=⟨_,rfl⟩
  subst hwo
  obtain ⟨j,hj,rfl,hs1⟩:=hrel
  clear hsrc
  by_cases hlt : j < kinds.length
  ·have hexo:=hbx.trans hs1.out.1
   obtain ⟨y,b,off,fa,fc,hy,rfl,_,c0,c1,c2,c3,hry⟩:=knd_cells hk hexo.same hlt
   have hym:=List.mem_of_getElem? hy.out
   have hyS:=HX.out.kinds y hym
   have hyV : isKindB y = true:=by
    have:=HV.out;simp only [validB,Bool.and_eq_true,List.all_eq_true] at this
    exact this.1.1.2 y hym
   have hny:=hyS.name
   unfold SmS at hny
   obtain ⟨fa',fc',hvs,hlo,hhi,hfl⟩:=hry.out
   cases hvs
   clear hry
   have Hk1:=Lib.hid (sumB_take kndB kinds j y hy.out)
   have Hk2:=Lib.hid (sumB_le kndB kinds (j + 1))
   have hkb : 29 + sumB kndB (kinds.take j) + kndB y ≤ 1000000:=by have h1:=Hk1.out;have h2:=Hk2.out;omega
   have hkb' : kndB y = 8 + y.name.size + intB y.lo + intB y.hi + sumB fieldB y.fields:=rfl
   have hnf:=hyS.nfields
   go_wp2_with fail
   refine (HL1.out _ _ _ _ _ hlo hhi hny cl0 (by simp)).mono ?_
   rintro e w1 ⟨s1,rfl,hs',he1⟩
   go_wp2_with fail
   refine (src_write_kept hs1.out bz s1 (by omega) (Nat.le_refl wo.heap.size) cl0 (by have:=hs1.out.1.size;obtain ⟨_,n',O',hb',_⟩:=hs1.out;have:=hb'.lt;omega)).mono ?_
   rintro e w2' ⟨rfl,hsrc2,hz2,hkeep⟩
   have d3:=hkeep 3 (.slice fa y.fields.length fc) (he1.cell (by simp))
   have hsA:=Lib.hid (hsrc2.mono (m':=29 + sumB kndB (kinds.take j) + (8 + y.name.size + intB y.lo + intB y.hi)) (by omega))
   clear hsrc2 hkeep he1 c0 c1 c2 c3 hz2
   go_wp2
   clear d3
   go_loopw [45] (fun i wr=>∃ q : Nat,q ≤ y.fields.length ∧ i = .int .i64 q ∧ Hid (SrcAt W1 (w.heap.size + 1) (29 + sumB kndB (kinds.take j) + (8 + y.name.size + intB y.lo + intB y.hi) + sumB fieldB (y.fields.take q)) wr)) (fun i _=>y.fields.length - (intOf i).toNat)
   case atStart=>exact ⟨0,by omega,rfl,by simpa [sumB,Hid] using hsA⟩
   case round=>
    obtain ⟨q,hq,rfl,hs2⟩:=hrel
    clear hsA
    by_cases hlt2 : q < y.fields.length
    ·have hexr:=hbx.trans hs2.out.1
     obtain ⟨f,b2,off2,wa,wc,ga,gc,hf,rfl,_,e0,e1,e2,e3,e4,e5,e6,e7,hrf⟩:=fld_cells hfl hexr.same hlt2
     have hfm:=List.mem_of_getElem? hf.out
     have hfS:=hyS.fields f hfm
     have hfV : isFieldB f = true:=by
      have:=hyV;simp only [isKindB,Bool.and_eq_true,List.all_eq_true] at this
      exact this.2 f hfm
     obtain ⟨wa',wc',ga',gc',hvs,hkk,hlo2,hhi2,hws,hgs⟩:=hrf.out
     cases hvs
     clear hrf
     have Hf1:=Lib.hid (sumB_take fieldB y.fields q f hf.out)
     have Hf2:=Lib.hid (sumB_le fieldB y.fields (q + 1))
     have hfb : sumB fieldB (y.fields.take q) + fieldB f ≤ sumB fieldB y.fields:=by have h1:=Hf1.out;have h2:=Hf2.out;omega
     have HFc:=Lib.hid (fun (W : World) (he : Ex w W)=>field_any f W (hws.keep he.same (fun _ h=>h) (fun _ _ _ h=>h)) (hgs.keep he.same (fun _ h=>h) (fun _ _ _ h=>h)) hlo2 hhi2 hfS hfV (by omega) (hp.ex he) (hwd.ex he))
     clear hws hgs hfV hfS
     go_wp2_with fail
     refine (HFc.out _ cl0).mono ?_
     rintro e w3 ⟨s2,rfl,hs2',he3⟩
     have hsB:=hs2.out.ex ((Ex.refl _).alloc.trans he3)
     clear he3 e0 e1 e2 e3 e4 e5 e6 e7
     go_wp2_with fail
     refine (src_write hsB bz s2 (by omega)).mono ?_
     rintro e w4 ⟨rfl,hsC,_⟩
     have hsD:=Lib.hid (hsC.mono (m':=29 + sumB kndB (kinds.take j) + (8 + y.name.size + intB y.lo + intB y.hi) + sumB fieldB (y.fields.take (q + 1))) (by have h1:=Hf1.out;omega))
     clear hsB hsC
     go_wp2
     go_roundw
     case rel=>exact ⟨q + 1,by omega,by go_num,hsD⟩
     case measure=>simp [intOf];omega
    ·have hsE:=Lib.hid (hs2.out.mono (m':=29 + sumB kndB (kinds.take (j + 1))) (by have h1:=Hk1.out;have e : y.fields.take q = y.fields:=List.take_of_length_le (by omega);rw [e];omega))
     go_wp2
     go_roundw
     case rel=>exact ⟨j + 1,by omega,by go_num,hsE⟩
     case measure=>simp [intOf];omega
  ·have hs3:=Lib.hid (hs1.out.mono (m':=29 + sumB kndB kinds) (by have e : kinds.take j = kinds:=List.take_of_length_le (by omega);rw [e];omega))
   clear hs1
   obtain ⟨hc,hf⟩:=hs3.out.1.rules
   go_wp2
   clear hc hf
   go_loopw [57] (fun i wr=>∃ j : Nat,j ≤ lives.length ∧ i = .int .i64 j ∧ Hid (SrcAt W1 (w.heap.size + 1) (29 + sumB kndB kinds + sumB lifB (lives.take j)) wr)) (fun i _=>lives.length - (intOf i).toNat)
   case atStart=>exact ⟨0,by omega,rfl,by simpa [sumB,Hid] using hs3.out⟩
   case round=>
    obtain ⟨wp,hwp⟩ : ∃ wp : World,wp = wr:=⟨_,rfl⟩
    subst hwp
    obtain ⟨j3,hj3,rfl,hs1⟩:=hrel
    clear hs3
    by_cases hlt3 : j3 < lives.length
    ·have hexo:=hbx.trans hs1.out.1
     obtain ⟨y,b,off,sa,sc,ma,mc,hy,rfl,_,c0,c1,c2,hry⟩:=lif_cells hl hexo.same hlt3
     have hym:=List.mem_of_getElem? hy.out
     have hyS:=HX.out.lives y hym
     have hny:=hyS.name
     unfold SmS at hny
     obtain ⟨sa',sc',ma',mc',hvs,hst,hmv⟩:=hry.out
     cases hvs
     clear hry
     have Hk1:=Lib.hid (sumB_take lifB lives j3 y hy.out)
     have Hk2:=Lib.hid (sumB_le lifB lives (j3 + 1))
     have hkb : 29 + sumB kndB kinds + sumB lifB (lives.take j3) + lifB y ≤ 1000000:=by have h1:=Hk1.out;have h2:=Hk2.out;omega
     have hkb' : lifB y = 7 + y.name.size + intB y.states.length + sumB (fun s=>1 + s.size) y.states + sumB movB y.moves:=rfl
     have hns : y.states.length ≤ 12:=by
      have:=HV.out;simp only [validB,Bool.and_eq_true,List.all_eq_true] at this
      have h2:=this.1.2 y hym
      simp only [isLifeB,withinB,Bool.and_eq_true,decide_eq_true_eq] at h2
      omega
     have hnm:=hyS.nmoves
     obtain ⟨i0,hiA,hzA,hz1,hz2⟩:=info_parts infoAny
     go_wp2
     go_loopw [10,72] (fun s10 i wr=>∃ q : Nat,q ≤ y.states.length ∧ i = .int .i64 q ∧ Hid (Ex (wp.alloc (.cells #[.string y.name,.slice sa y.states.length sc,.slice ma y.moves.length mc] 102)) wr) ∧ Hid (wr.ownsRow (wp.heap.size + 1) 20 1 s10 (2 + q) ((lifItems y.name y.states q).map anyV))) (fun _ i _=>y.states.length - (intOf i).toNat)
     case atStart=>
      refine ⟨0,by omega,rfl,cl0,?_⟩
      have:=World.ownsRow_lit (base:=wp.heap.size + 1) (e:=20) (size:=1) (wp.alloc (.cells #[.string y.name,.slice sa y.states.length sc,.slice ma y.moves.length mc] 102)) #[anyV (.inr y.name),anyV (.inl y.states.length)] 2 (by simp) (by decide) rfl
      simpa [lifItems,Hid,anyV] using this
     case round=>
      obtain ⟨q,hq,rfl,hex4,hown⟩:=hrel
      have hz4:=hex4.out.size
      simp only [World.size_alloc] at hz4
      have hexw:=(hexo.alloc (o:=.cells #[.string y.name,.slice sa y.states.length sc,.slice ma y.moves.length mc] 102)).trans hex4.out
      obtain ⟨a4,cap4,rfl⟩:=owns_slice hown.out
      by_cases hlt4 : q < y.states.length
      ·obtain ⟨st,b5,off5,hs5,rfl,_,d1,_⟩:=str_cells hst hexw.same hlt4
       have Hs:=Lib.hid (lifItems_succ y.name y.states q st hs5.out)
       go_wp2_with (at_builtin;refine wpList_append_own_at _ rfl _ _ 213 rfl (wp.heap.size + 1) 20 i0 .nilIface 1 16 Tryz.underlying213 hiA hzA hz1 hz2 rfl (by decide) (.slice a4 (2 + q) cap4) _ _ rfl (hown.out.alloc _) ⟨wr.heap.size,0,none⟩ 1 1 [anyV (.inr st)] rfl rfl ?c1 ?c2 ?c3 ?c4 ?c5 ?_)
       case c1=>exact cell_one_new _ _ _
       case c2=>exact one_one _
       case c3=>unfold maxLen;omega
       case c4=>omega
       case c5=>simp;omega
       intro v' w5 hown' hgrow _ hat
       have hex5:=Lib.hid (Ex.appended (hex4.out.alloc (o:=.cells #[anyV (.inr st)] 20)) (hown.out.alloc _) (by simp) hgrow)
       have HO : Hid (w5.ownsRow (wp.heap.size + 1) 20 1 v' (2 + (q + 1)) ((lifItems y.name y.states (q + 1)).map anyV)):=by
        unfold Hid
        rw [Hs.out,List.map_append]
        exact hown'
       clear hown' hgrow hat hown
       obtain ⟨a5,cap5,rfl⟩:=owns_slice HO.out
       go_wp2
       go_roundw
       case rel=>exact ⟨q + 1,by omega,by go_num,hex5,HO⟩
       case measure=>simp [intOf];omega
      ·obtain rfl : q = y.states.length:=by omega
       have hpl:=lifItems_length y.name y.states y.states.length (Nat.le_refl _)
       have hi64 : ∀ m,Sum.inl m ∈ lifItems y.name y.states y.states.length → I64 m:=by
        intro m hm
        simp only [lifItems,List.mem_cons,List.mem_map] at hm
        rcases hm with h | h | ⟨_,_,h⟩
        ·cases h
        ·cases h;unfold I64;omega
        ·cases h
       obtain ⟨a6,cap6,hv6,hrow⟩:=row_of_owns (C:=fun x=>[anyV x]) (R:=RAny) (xs:=lifItems y.name y.states y.states.length) hpl.symm (by rw [anyV_cells];exact hown.out) (fun _ _=>rfl) (fun x hx=>by
        cases x with
        | inl m=>exact ⟨rfl,hi64 m hx⟩
        | inr t=>rfl)
       rw [hpl] at hv6
       cases hv6
       have hB:=lifItems_B y.name y.states
       have hib:=intB_le (y.states.length : Int)
       have HLn:=Lib.hid (line_any ⟨#[108,105,102,101]⟩ (lifItems y.name y.states y.states.length) wr hrow (hp.ex hexw) (by rw [hpl];omega) (by rw [hB];show 4 + _ ≤ _;omega))
       rw [hpl,hB] at HLn
       clear hpl hi64 hrow hB hown
       go_wp2_with fail
       refine HLn.out.mono ?_
       rintro e w6 ⟨s6,rfl,hs6,he6⟩
       have hs6' : s6.size ≤ 4 + (2 + y.name.size + intB y.states.length + sumB (fun s=>1 + s.size) y.states) + 1:=hs6
       go_wp2_with fail
       refine (src_write_kept hs1.out bz s6 (by omega) (Nat.le_refl wp.heap.size) (((Ex.refl wp).alloc.trans hex4.out).trans he6) (by have:=hs1.out.1.size;obtain ⟨_,n',O',hb',_⟩:=hs1.out;have:=hb'.lt;omega)).mono ?_
       rintro e w7 ⟨rfl,hsrc7,hz7,hkeep⟩
       have d3:=hkeep 2 (.slice ma y.moves.length mc) (he6.cell (hex4.out.cell (by simp)))
       have hsA:=Lib.hid (hsrc7.mono (m':=29 + sumB kndB kinds + sumB lifB (lives.take j3) + (7 + y.name.size + intB y.states.length + sumB (fun s=>1 + s.size) y.states)) (by omega))
       clear hsrc7 hkeep hex4 hexw he6 hs6
       go_wp2
       clear d3
       go_loopw [88] (fun i wr=>∃ q : Nat,q ≤ y.moves.length ∧ i = .int .i64 q ∧ Hid (SrcAt W1 (w.heap.size + 1) (29 + sumB kndB kinds + sumB lifB (lives.take j3) + (7 + y.name.size + intB y.states.length + sumB (fun s=>1 + s.size) y.states) + sumB movB (y.moves.take q)) wr)) (fun i _=>y.moves.length - (intOf i).toNat)
       case atStart=>exact ⟨0,by omega,rfl,by simpa [sumB,Hid] using hsA⟩
       case round=>
        obtain ⟨q,hq,rfl,hs2⟩:=hrel
        clear hsA
        by_cases hlt2 : q < y.moves.length
        ·have hexr:=hbx.trans hs2.out.1
         obtain ⟨mv,b2,off2,hf,rfl,_,e0,e1,hrf⟩:=two_cells hmv hexr.same hlt2
         obtain ⟨_,hm1,hm2⟩:=hrf.out
         have Hf1:=Lib.hid (sumB_take movB y.moves q mv hf.out)
         have Hf2:=Lib.hid (sumB_le movB y.moves (q + 1))
         have hfb : sumB movB (y.moves.take q) + movB mv ≤ sumB movB y.moves:=by have h1:=Hf1.out;have h2:=Hf2.out;omega
         have hmb : movB mv = 7 + intB mv.1 + intB mv.2:=rfl
         go_wp2_with fail
         refine (HL5.out _ _ _ _ hm1 hm2 cl0 (by simp)).mono ?_
         rintro e w3 ⟨s2,rfl,hs2',he3⟩
         have hsB:=hs2.out.ex ((Ex.refl _).alloc.trans he3)
         clear he3 e0 e1
         go_wp2_with fail
         refine (src_write hsB bz s2 (by omega)).mono ?_
         rintro e w4 ⟨rfl,hsC,_⟩
         have hsD:=Lib.hid (hsC.mono (m':=29 + sumB kndB kinds + sumB lifB (lives.take j3) + (7 + y.name.size + intB y.states.length + sumB (fun s=>1 + s.size) y.states) + sumB movB (y.moves.take (q + 1))) (by have h1:=Hf1.out;omega))
         clear hsB hsC
         go_wp2
         go_roundw
         case rel=>exact ⟨q + 1,by omega,by go_num,hsD⟩
         case measure=>simp [intOf];omega
        ·have hsE:=Lib.hid (hs2.out.mono (m':=29 + sumB kndB kinds + sumB lifB (lives.take (j3 + 1))) (by have h1:=Hk1.out;have e : y.moves.take q = y.moves:=List.take_of_length_le (by omega);rw [e];omega))
         go_wp2
         go_roundw
         case rel=>exact ⟨j3 + 1,by omega,by go_num,hsE⟩
         case measure=>simp [intOf];omega
    ·have hs4:=Lib.hid (hs1.out.mono (m':=29 + sumB kndB kinds + sumB lifB lives) (by have e : lives.take j3 = lives:=List.take_of_length_le (by omega);rw [e];omega))
     clear hs1
     obtain ⟨hc,hf⟩:=hs4.out.1.rules
     go_wp2
     clear hc hf
     go_loopw [106] (fun i wr=>∃ j : Nat,j ≤ rules.length ∧ i = .int .i64 j ∧ Hid (SrcAt W1 (w.heap.size + 1) (29 + sumB kndB kinds + sumB lifB lives + sumB rulB (rules.take j)) wr)) (fun i _=>rules.length - (intOf i).toNat)
     case atStart=>exact ⟨0,by omega,rfl,by simpa [sumB,Hid] using hs4.out⟩
     case round=>
      obtain ⟨j6,hj6,rfl,hs1⟩:=hrel
      clear hs4
      by_cases hlt6 : j6 < rules.length
      ·have hexo:=hbx.trans hs1.out.1
       obtain ⟨y,b,off,hy,rfl,_,c0,c1,c2,c3,c4,hry⟩:=rul_cells hr hexo.same hlt6
       have hym:=List.mem_of_getElem? hy.out
       have hyS:=HX.out.rules y hym
       have hn1:=hyS.name
       have hn2:=hyS.kind
       have hn3:=hyS.a
       have hn4:=hyS.b
       unfold SmS at hn1 hn2 hn3 hn4
       obtain ⟨_,hyn⟩:=hry.out
       have Hk1:=Lib.hid (sumB_take rulB rules j6 y hy.out)
       have Hk2:=Lib.hid (sumB_le rulB rules (j6 + 1))
       have hkb : 29 + sumB kndB kinds + sumB lifB lives + sumB rulB (rules.take j6) + rulB y ≤ 1000000:=by have h1:=Hk1.out;have h2:=Hk2.out;omega
       have hkb' : rulB y = 12 + y.name.size + y.kind.size + y.a.size + y.b.size + intB y.n:=rfl
       have hneB : wr.heap.size ≠ w.heap.size + 1:=by obtain ⟨_,n',O',hb',_⟩:=hs1.out;have:=hb'.lt;omega
       go_wp2
       go_region_held3 (fun W=>W.cell? ⟨wr.heap.size,0,none⟩ = some (.string y.name) ∧ W.cell? ⟨wr.heap.size,1,none⟩ = some (.string y.kind) ∧ W.cell? ⟨wr.heap.size,2,none⟩ = some (.string y.a) ∧ W.cell? ⟨wr.heap.size,3,none⟩ = some (.string y.b) ∧ W.cell? ⟨wr.heap.size,4,none⟩ = some (.int .i64 y.n)) (go_keep)
        (first
         | (go_at_call 141;refine (named_any _ _).mono ?_;rintro e w1 ⟨t,rfl,ht,hb1⟩;(have hq7:=ru7;(try clear hc hf);obtain ⟨hb,hc,hf,hz⟩:=hq7;(try simp only [zsz7] at hz);(try have hz0:=z07 w w1);(try have hz1:=z17 w w1);(try have hz2:=z27 w w1)))
         | (go_at_call 139;refine (HL6.out _ _ _ _ _ _ _ hyn (by omega) cl0 (by first | rfl | simp)).mono ?_;rintro e w1 ⟨s6,rfl,hs6,hb1⟩;(have hq7:=ru7;(try clear hc hf);obtain ⟨hb,hc,hf,hz⟩:=hq7;(try simp only [zsz7] at hz);(try have hz0:=z07 w w1);(try have hz1:=z17 w w1);(try have hz2:=z27 w w1)))
         | (go_at_call 138;refine (src_write_kept hs1.out bz s6 (by omega) (Nat.le_refl wr.heap.size) cl0 hneB).mono ?_;rintro e w1 ⟨rfl,hsrc7,hz7,hkeep⟩;have k0:=hkeep 0 (.string y.name) (by rw [hc _ _ (by simp)];simp);have k1:=hkeep 1 (.string y.kind) (by rw [hc _ _ (by simp)];simp);have k2:=hkeep 2 (.string y.a) (by rw [hc _ _ (by simp)];simp);have k3:=hkeep 3 (.string y.b) (by rw [hc _ _ (by simp)];simp);have k4:=hkeep 4 (.int .i64 y.n) (by rw [hc _ _ (by simp)];simp);clear hkeep))
       all_goals
        have hsE:=Lib.hid (hsrc7.mono (m':=29 + sumB kndB kinds + sumB lifB lives + sumB rulB (rules.take (j6 + 1))) (by have h1:=Hk1.out;omega))
        go_wp2
        go_roundw
        case rel=>exact ⟨j6 + 1,by omega,by go_num,hsE⟩
        case measure=>simp [intOf];omega
      ·have hs7:=Lib.hid (hs1.out.mono (m':=29 + sumB kndB kinds + sumB lifB lives + sumB rulB rules) (by have e : rules.take j6 = rules:=List.take_of_length_le (by omega);rw [e];omega))
       clear hs1
       obtain ⟨hex',n,O,⟨l,p,v,hl',hpp,hB,hbk,hown,hO,hne⟩,hnm⟩:=hs7.out
       have hib : Lib.IsBuilder 206 5 (w.heap.size + 1) (w.heap.size + 1) (Lib.byteCells l) wr:=by
        rcases hpp with rfl | rfl
        ·exact .inl ⟨hB,v,hbk,by rw [byteCells_length];exact hown,by rw [hO];exact hne⟩
        ·exact .inr ⟨hB,v,hbk,by rw [byteCells_length];exact hown,by rw [hO];exact hne⟩
       have hexw:=hbx.trans hex'
       have HSt:=Lib.hid (Tryz.Builder_String_any (w.heap.size + 1) (w.heap.size + 1) l wr hib (by have:=lt_of_block hbk;omega))
       have HL:=Lib.hid hl'
       clear hbk hown hO hib hpp hl'
       go_wp2_with fail
       refine HSt.out.mono ?_
       rintro e w8 ⟨rfl,hb8⟩
       have hex8 : Ex w w8:=Ex.of_below ⟨hb8.os.trans (Keep.os hexw),hb8.tape.trans (Keep.tape hexw),hb8.output.trans (Keep.output hexw),Nat.le_trans hexw.size hb8.size,fun k hk=>(hb8.block k (by omega)).trans (hexw.block k hk)⟩
       go_wp2
       go_ret
       refine ⟨_,rfl,?_,hex8⟩
       have h1:=HL.out
       show l.toArray.size ≤ srcB _
       unfold srcB
       simp only [List.size_toArray]
       omega
end
section
open Go.RowKit Go.Shelf
structure Laid (w : World) : Prop where
 pow : Pow10 w
 words : WordsAt w
theorem Laid.ex {w w' : World} (h : Laid w) (he : Ex w w') : Laid w':=⟨h.pow.ex he,h.words.ex he⟩
theorem valid_any (x : Sch) (w : World) {F : Nat → Prop} {ka la ra : Option Addr} {kc lc rc : Nat} (hver : I64 x.version) (hk : RKnds w F x.kinds ka kc) (hl : RLifs w F x.lives la lc) (hr : RRuls w F x.rules ra rc) (hx : SmSch x) (hsm : validB x = true → srcB x ≤ 8192) (hg : Laid w) :
  Calls Tryz.prog 81 #[.agg #[.int .i64 x.version,.slice ka x.kinds.length kc,.slice la x.lives.length lc,.slice ra x.rules.length rc]] w
   fun e w'=>e = .returned (.int .i64 (validE x)) ∧ Ex w w':=by
 have hlk:=hx.nkinds
 have hll:=hx.nlives
 have hlr:=hx.nrules
 have HK:=Lib.hid (fun (w' : World) (he : Ex w w')=>all_knd (w0:=w) (F0:=F) (Row.keep (w':=w') hk he.same (fun _ h=>h) (fun _ _ _ h=>h)) (by omega) ((isKind_asks w hx.kinds).mono he))
 have HL:=Lib.hid (fun (w' : World) (he : Ex w w')=>all_lif (w0:=w) (F0:=F) (Row.keep (w':=w') hl he.same (fun _ h=>h) (fun _ _ _ h=>h)) (by omega) ((isLife_asks w hx.lives).mono he))
 have HR:=Lib.hid (fun (w' : World) (he : Ex w w')=>all_rul (Row.keep (w':=w') hr he.same (fun _ h=>h) (fun _ _ _ h=>h)) (by omega) ((isRule_asks w hx.rules).mono he))
 have HV:=Lib.hid (fun h=>hsm h)
 have HS0:=Lib.hid (fun (hv : validB x = true) (w' : World) (he : Ex w w')=>source_any x w' hver (RKnds.keep he.same (fun _ h=>h) hk) (RLifs.keep he.same (fun _ h=>h) hl) (RRuls.keep he.same (fun _ h=>h) hr) hx hv (by have:=hsm hv;omega) (hg.pow.ex he) (hg.words.ex he))
 clear hx hsm hk hl hr
 obtain ⟨ver,kinds,lives,rules⟩:=x
 simp only at *
 cases h1 : withinB ver 0 1048576
 ·go_enter Tryz.func81,Tryz.ntmps81;go_wp2_with (first | (go_at_call 107;refine (within_any _ _ _ _).mono ?_;rintro e w2 ⟨rfl,rfl⟩) | (go_at_call 108;refine (HK.out _ cl0).mono ?_;rintro e w1 ⟨rfl,hb1⟩;(have hq7:=ru7;(try clear hc hf);obtain ⟨hb,hc,hf,hz⟩:=hq7;(try simp only [zsz7] at hz);(try have hz0:=z07 w w1);(try have hz1:=z17 w w1);(try have hz2:=z27 w w1))) | (go_at_call 110;refine (HL.out _ cl0).mono ?_;rintro e w1 ⟨rfl,hb1⟩;(have hq7:=ru7;(try clear hc hf);obtain ⟨hb,hc,hf,hz⟩:=hq7;(try simp only [zsz7] at hz);(try have hz0:=z07 w w1);(try have hz1:=z17 w w1);(try have hz2:=z27 w w1))) | (go_at_call 112;refine (HR.out _ cl0).mono ?_;rintro e w1 ⟨rfl,hb1⟩;(have hq7:=ru7;(try clear hc hf);obtain ⟨hb,hc,hf,hz⟩:=hq7;(try simp only [zsz7] at hz);(try have hz0:=z07 w w1);(try have hz1:=z17 w w1);(try have hz2:=z27 w w1))) | (go_at_call 114;refine (HS.out _ cl0).mono ?_;rintro e w1 ⟨s,rfl,hs,hb1⟩;(have hq7:=ru7;(try clear hc hf);obtain ⟨hb,hc,hf,hz⟩:=hq7;(try simp only [zsz7] at hz);(try have hz0:=z07 w w1);(try have hz1:=z17 w w1);(try have hz2:=z27 w w1))));go_ret
  exact ⟨ret_int (by simp [validE,validB,h1]),cl0⟩
 by_cases h2 : (kinds.length : Int) ≤ 6
 case neg=>
  go_enter Tryz.func81,Tryz.ntmps81;go_wp2_with (first | (go_at_call 107;refine (within_any _ _ _ _).mono ?_;rintro e w2 ⟨rfl,rfl⟩) | (go_at_call 108;refine (HK.out _ cl0).mono ?_;rintro e w1 ⟨rfl,hb1⟩;(have hq7:=ru7;(try clear hc hf);obtain ⟨hb,hc,hf,hz⟩:=hq7;(try simp only [zsz7] at hz);(try have hz0:=z07 w w1);(try have hz1:=z17 w w1);(try have hz2:=z27 w w1))) | (go_at_call 110;refine (HL.out _ cl0).mono ?_;rintro e w1 ⟨rfl,hb1⟩;(have hq7:=ru7;(try clear hc hf);obtain ⟨hb,hc,hf,hz⟩:=hq7;(try simp only [zsz7] at hz);(try have hz0:=z07 w w1);(try have hz1:=z17 w w1);(try have hz2:=z27 w w1))) | (go_at_call 112;refine (HR.out _ cl0).mono ?_;rintro e w1 ⟨rfl,hb1⟩;(have hq7:=ru7;(try clear hc hf);obtain ⟨hb,hc,hf,hz⟩:=hq7;(try simp only [zsz7] at hz);(try have hz0:=z07 w w1);(try have hz1:=z17 w w1);(try have hz2:=z27 w w1))) | (go_at_call 114;refine (HS.out _ cl0).mono ?_;rintro e w1 ⟨s,rfl,hs,hb1⟩;(have hq7:=ru7;(try clear hc hf);obtain ⟨hb,hc,hf,hz⟩:=hq7;(try simp only [zsz7] at hz);(try have hz0:=z07 w w1);(try have hz1:=z17 w w1);(try have hz2:=z27 w w1))));go_ret
  exact ⟨ret_int (by simp [validE,validB];intros;omega),cl0⟩
 by_cases h3 : (lives.length : Int) ≤ 6
 case neg=>
  go_enter Tryz.func81,Tryz.ntmps81;go_wp2_with (first | (go_at_call 107;refine (within_any _ _ _ _).mono ?_;rintro e w2 ⟨rfl,rfl⟩) | (go_at_call 108;refine (HK.out _ cl0).mono ?_;rintro e w1 ⟨rfl,hb1⟩;(have hq7:=ru7;(try clear hc hf);obtain ⟨hb,hc,hf,hz⟩:=hq7;(try simp only [zsz7] at hz);(try have hz0:=z07 w w1);(try have hz1:=z17 w w1);(try have hz2:=z27 w w1))) | (go_at_call 110;refine (HL.out _ cl0).mono ?_;rintro e w1 ⟨rfl,hb1⟩;(have hq7:=ru7;(try clear hc hf);obtain ⟨hb,hc,hf,hz⟩:=hq7;(try simp only [zsz7] at hz);(try have hz0:=z07 w w1);(try have hz1:=z17 w w1);(try have hz2:=z27 w w1))) | (go_at_call 112;refine (HR.out _ cl0).mono ?_;rintro e w1 ⟨rfl,hb1⟩;(have hq7:=ru7;(try clear hc hf);obtain ⟨hb,hc,hf,hz⟩:=hq7;(try simp only [zsz7] at hz);(try have hz0:=z07 w w1);(try have hz1:=z17 w w1);(try have hz2:=z27 w w1))) | (go_at_call 114;refine (HS.out _ cl0).mono ?_;rintro e w1 ⟨s,rfl,hs,hb1⟩;(have hq7:=ru7;(try clear hc hf);obtain ⟨hb,hc,hf,hz⟩:=hq7;(try simp only [zsz7] at hz);(try have hz0:=z07 w w1);(try have hz1:=z17 w w1);(try have hz2:=z27 w w1))));go_ret
  exact ⟨ret_int (by simp [validE,validB];intros;omega),cl0⟩
 by_cases h4 : (rules.length : Int) ≤ 16
 case neg=>
  go_enter Tryz.func81,Tryz.ntmps81;go_wp2_with (first | (go_at_call 107;refine (within_any _ _ _ _).mono ?_;rintro e w2 ⟨rfl,rfl⟩) | (go_at_call 108;refine (HK.out _ cl0).mono ?_;rintro e w1 ⟨rfl,hb1⟩;(have hq7:=ru7;(try clear hc hf);obtain ⟨hb,hc,hf,hz⟩:=hq7;(try simp only [zsz7] at hz);(try have hz0:=z07 w w1);(try have hz1:=z17 w w1);(try have hz2:=z27 w w1))) | (go_at_call 110;refine (HL.out _ cl0).mono ?_;rintro e w1 ⟨rfl,hb1⟩;(have hq7:=ru7;(try clear hc hf);obtain ⟨hb,hc,hf,hz⟩:=hq7;(try simp only [zsz7] at hz);(try have hz0:=z07 w w1);(try have hz1:=z17 w w1);(try have hz2:=z27 w w1))) | (go_at_call 112;refine (HR.out _ cl0).mono ?_;rintro e w1 ⟨rfl,hb1⟩;(have hq7:=ru7;(try clear hc hf);obtain ⟨hb,hc,hf,hz⟩:=hq7;(try simp only [zsz7] at hz);(try have hz0:=z07 w w1);(try have hz1:=z17 w w1);(try have hz2:=z27 w w1))) | (go_at_call 114;refine (HS.out _ cl0).mono ?_;rintro e w1 ⟨s,rfl,hs,hb1⟩;(have hq7:=ru7;(try clear hc hf);obtain ⟨hb,hc,hf,hz⟩:=hq7;(try simp only [zsz7] at hz);(try have hz0:=z07 w w1);(try have hz1:=z17 w w1);(try have hz2:=z27 w w1))));go_ret
  exact ⟨ret_int (by simp [validE,validB];intros;omega),cl0⟩
 cases h5 : kinds.all isKindB
 ·go_enter Tryz.func81,Tryz.ntmps81;go_wp2_with (first | (go_at_call 107;refine (within_any _ _ _ _).mono ?_;rintro e w2 ⟨rfl,rfl⟩) | (go_at_call 108;refine (HK.out _ cl0).mono ?_;rintro e w1 ⟨rfl,hb1⟩;(have hq7:=ru7;(try clear hc hf);obtain ⟨hb,hc,hf,hz⟩:=hq7;(try simp only [zsz7] at hz);(try have hz0:=z07 w w1);(try have hz1:=z17 w w1);(try have hz2:=z27 w w1))) | (go_at_call 110;refine (HL.out _ cl0).mono ?_;rintro e w1 ⟨rfl,hb1⟩;(have hq7:=ru7;(try clear hc hf);obtain ⟨hb,hc,hf,hz⟩:=hq7;(try simp only [zsz7] at hz);(try have hz0:=z07 w w1);(try have hz1:=z17 w w1);(try have hz2:=z27 w w1))) | (go_at_call 112;refine (HR.out _ cl0).mono ?_;rintro e w1 ⟨rfl,hb1⟩;(have hq7:=ru7;(try clear hc hf);obtain ⟨hb,hc,hf,hz⟩:=hq7;(try simp only [zsz7] at hz);(try have hz0:=z07 w w1);(try have hz1:=z17 w w1);(try have hz2:=z27 w w1))) | (go_at_call 114;refine (HS.out _ cl0).mono ?_;rintro e w1 ⟨s,rfl,hs,hb1⟩;(have hq7:=ru7;(try clear hc hf);obtain ⟨hb,hc,hf,hz⟩:=hq7;(try simp only [zsz7] at hz);(try have hz0:=z07 w w1);(try have hz1:=z17 w w1);(try have hz2:=z27 w w1))));go_ret
  exact ⟨ret_int (by simp [validE,validB,h5]),cl0⟩
 cases h6 : lives.all isLifeB
 ·go_enter Tryz.func81,Tryz.ntmps81;go_wp2_with (first | (go_at_call 107;refine (within_any _ _ _ _).mono ?_;rintro e w2 ⟨rfl,rfl⟩) | (go_at_call 108;refine (HK.out _ cl0).mono ?_;rintro e w1 ⟨rfl,hb1⟩;(have hq7:=ru7;(try clear hc hf);obtain ⟨hb,hc,hf,hz⟩:=hq7;(try simp only [zsz7] at hz);(try have hz0:=z07 w w1);(try have hz1:=z17 w w1);(try have hz2:=z27 w w1))) | (go_at_call 110;refine (HL.out _ cl0).mono ?_;rintro e w1 ⟨rfl,hb1⟩;(have hq7:=ru7;(try clear hc hf);obtain ⟨hb,hc,hf,hz⟩:=hq7;(try simp only [zsz7] at hz);(try have hz0:=z07 w w1);(try have hz1:=z17 w w1);(try have hz2:=z27 w w1))) | (go_at_call 112;refine (HR.out _ cl0).mono ?_;rintro e w1 ⟨rfl,hb1⟩;(have hq7:=ru7;(try clear hc hf);obtain ⟨hb,hc,hf,hz⟩:=hq7;(try simp only [zsz7] at hz);(try have hz0:=z07 w w1);(try have hz1:=z17 w w1);(try have hz2:=z27 w w1))) | (go_at_call 114;refine (HS.out _ cl0).mono ?_;rintro e w1 ⟨s,rfl,hs,hb1⟩;(have hq7:=ru7;(try clear hc hf);obtain ⟨hb,hc,hf,hz⟩:=hq7;(try simp only [zsz7] at hz);(try have hz0:=z07 w w1);(try have hz1:=z17 w w1);(try have hz2:=z27 w w1))));go_ret
  exact ⟨ret_int (by simp [validE,validB,h6]),cl0⟩
 cases h7 : rules.all isRuleB
 ·go_enter Tryz.func81,Tryz.ntmps81;go_wp2_with (first | (go_at_call 107;refine (within_any _ _ _ _).mono ?_;rintro e w2 ⟨rfl,rfl⟩) | (go_at_call 108;refine (HK.out _ cl0).mono ?_;rintro e w1 ⟨rfl,hb1⟩;(have hq7:=ru7;(try clear hc hf);obtain ⟨hb,hc,hf,hz⟩:=hq7;(try simp only [zsz7] at hz);(try have hz0:=z07 w w1);(try have hz1:=z17 w w1);(try have hz2:=z27 w w1))) | (go_at_call 110;refine (HL.out _ cl0).mono ?_;rintro e w1 ⟨rfl,hb1⟩;(have hq7:=ru7;(try clear hc hf);obtain ⟨hb,hc,hf,hz⟩:=hq7;(try simp only [zsz7] at hz);(try have hz0:=z07 w w1);(try have hz1:=z17 w w1);(try have hz2:=z27 w w1))) | (go_at_call 112;refine (HR.out _ cl0).mono ?_;rintro e w1 ⟨rfl,hb1⟩;(have hq7:=ru7;(try clear hc hf);obtain ⟨hb,hc,hf,hz⟩:=hq7;(try simp only [zsz7] at hz);(try have hz0:=z07 w w1);(try have hz1:=z17 w w1);(try have hz2:=z27 w w1))) | (go_at_call 114;refine (HS.out _ cl0).mono ?_;rintro e w1 ⟨s,rfl,hs,hb1⟩;(have hq7:=ru7;(try clear hc hf);obtain ⟨hb,hc,hf,hz⟩:=hq7;(try simp only [zsz7] at hz);(try have hz0:=z07 w w1);(try have hz1:=z17 w w1);(try have hz2:=z27 w w1))));go_ret
  exact ⟨ret_int (by simp [validE,validB,h7]),cl0⟩
 have hv : validB ⟨ver,kinds,lives,rules⟩ = true:=by
  simp only [validB,h1,h5,h6,h7,Bool.true_and,Bool.and_true,Bool.and_eq_true,decide_eq_true_eq];omega
 have HS:=Lib.hid (HS0.out hv)
 have hsm:=HV.out hv
 have HVv:=Lib.hid hv
 clear HS0 HV hv
 go_enter Tryz.func81,Tryz.ntmps81;go_wp2_with (first | (go_at_call 107;refine (within_any _ _ _ _).mono ?_;rintro e w2 ⟨rfl,rfl⟩) | (go_at_call 108;refine (HK.out _ cl0).mono ?_;rintro e w1 ⟨rfl,hb1⟩;(have hq7:=ru7;(try clear hc hf);obtain ⟨hb,hc,hf,hz⟩:=hq7;(try simp only [zsz7] at hz);(try have hz0:=z07 w w1);(try have hz1:=z17 w w1);(try have hz2:=z27 w w1))) | (go_at_call 110;refine (HL.out _ cl0).mono ?_;rintro e w1 ⟨rfl,hb1⟩;(have hq7:=ru7;(try clear hc hf);obtain ⟨hb,hc,hf,hz⟩:=hq7;(try simp only [zsz7] at hz);(try have hz0:=z07 w w1);(try have hz1:=z17 w w1);(try have hz2:=z27 w w1))) | (go_at_call 112;refine (HR.out _ cl0).mono ?_;rintro e w1 ⟨rfl,hb1⟩;(have hq7:=ru7;(try clear hc hf);obtain ⟨hb,hc,hf,hz⟩:=hq7;(try simp only [zsz7] at hz);(try have hz0:=z07 w w1);(try have hz1:=z17 w w1);(try have hz2:=z27 w w1))) | (go_at_call 114;refine (HS.out _ cl0).mono ?_;rintro e w1 ⟨s,rfl,hs,hb1⟩;(have hq7:=ru7;(try clear hc hf);obtain ⟨hb,hc,hf,hz⟩:=hq7;(try simp only [zsz7] at hz);(try have hz0:=z07 w w1);(try have hz1:=z17 w w1);(try have hz2:=z27 w w1))));go_ret
 exact ⟨ret_int (by simp [validE,HVv.out]),cl0⟩
end
section
open Go
theorem rdl_inv {w : World} {O : Nat → Prop} {d : D} {ds : List D} {us : List Value} (h : RdL w O (d :: ds) us) : ∃ u us',us = u :: us' ∧ Rd w O d u ∧ RdL w O ds us':=by
 cases us with
 | nil=>have:=h.len;simp at this
 | cons u us'=>exact ⟨u,us',rfl,h.at_ 0 _ _ rfl rfl,⟨by have:=h.len;simpa using this,fun j d u h1 h2=>h.at_ (j + 1) d u (by simpa using h1) (by simpa using h2)⟩⟩
theorem rdl_nil {w : World} {O : Nat → Prop} {us : List Value} (h : RdL w O [] us) : us = []:=by
 have:=h.len;exact List.eq_nil_of_length_eq_zero (by simpa using this)
theorem row_of {α : Type} {k : Nat} {g : α → List D} {R : α → List Value → Prop} {w : World} {O : Nat → Prop} {xs : List α} {v : Value} (h : Rd w O (.sl k (xs.map g)) v)
  (hR : ∀ x ∈ xs,∀ us,RdL w O (g x) us → R x us) : ∃ a cap,v = .slice a xs.length cap ∧ Row k R w (fun _=>True) xs a cap:=by
 obtain ⟨a,cap,vs,rfl,hle,hk,hc,hr⟩:=h.sl_inv
 rw [List.length_map] at hle ⊢
 refine ⟨a,cap,rfl,⟨hle,fun i x hx=>?_⟩⟩
 have hgx : (xs.map g)[i]? = some (g x):=by rw [List.getElem?_map,hx];rfl
 obtain ⟨b,off,ha,_,_,hcell⟩:=hc i _ hgx
 have hl : (g x).length = k:=hk _ (List.mem_of_getElem? hgx)
 refine ⟨b,off,ha,trivial,(List.range k).map (vs i),by simp,hR x (List.mem_of_getElem? hx) _ ⟨by simp [hl],fun j d u h1 h2=>?_⟩,fun j u hu=>?_⟩
 ·have hj : j < k:=by rw [← hl];exact (List.getElem?_eq_some_iff.1 h1).1
  simp [hj] at h2
  subst h2
  exact hr i _ hgx j d h1
 ·have hj : j < k:=by have:=(List.getElem?_eq_some_iff.1 hu).1;simpa using this
  simp [hj] at hu
  subst hu
  exact hcell j hj
theorem i64_of {n : Int} (h : -9223372036854775807 ≤ n ∧ n ≤ 9223372036854775807) : I64 n:=⟨by omega,by omega⟩
variable {w : World} {O : Nat → Prop}
theorem str_of {xs : List ByteArray} {v : Value} (h : Rd w O (slS xs) v) : ∃ a cap,v = .slice a xs.length cap ∧ RStrs w (fun _=>True) xs a cap:=
 row_of h fun x _ us hu=>by
  obtain ⟨u,us',rfl,h1,h2⟩:=rdl_inv hu
  rw [rdl_nil h2,h1.val rfl];rfl
theorem int_of {xs : List Int} {v : Value} (hs : ∀ n ∈ xs,-9223372036854775807 ≤ n ∧ n ≤ 9223372036854775807) (h : Rd w O (slI xs) v) : ∃ a cap,v = .slice a xs.length cap ∧ RInts w (fun _=>True) xs a cap:=
 row_of h fun x hx us hu=>by
  obtain ⟨u,us',rfl,h1,h2⟩:=rdl_inv hu
  rw [rdl_nil h2,h1.val rfl];exact ⟨rfl,i64_of (hs x hx)⟩
theorem fld_of {f : Fld} {us : List Value} (hs : SaneF f) (hk : -9223372036854775807 ≤ f.kind ∧ f.kind ≤ 9223372036854775807) (h : RdL w O (fldC f) us) : RFld w (fun _=>True) f us:=by
 obtain ⟨u1,t1,rfl,h1,h⟩:=rdl_inv h
 obtain ⟨u2,t2,rfl,h2,h⟩:=rdl_inv h
 obtain ⟨u3,t3,rfl,h3,h⟩:=rdl_inv h
 obtain ⟨u4,t4,rfl,h4,h⟩:=rdl_inv h
 obtain ⟨u5,t5,rfl,h5,h⟩:=rdl_inv h
 obtain ⟨u6,t6,rfl,h6,h⟩:=rdl_inv h
 obtain ⟨u7,t7,rfl,h7,h⟩:=rdl_inv h
 obtain ⟨u8,t8,rfl,h8,hz⟩:=rdl_inv h
 obtain rfl:=rdl_nil hz
 obtain ⟨wa,wc,rfl,hw⟩:=str_of h7
 obtain ⟨ga,gc,rfl,hg⟩:=int_of hs.ws h8
 rw [h1.val rfl,h2.val rfl,h3.val rfl,h4.val rfl,h5.val rfl,h6.val rfl]
 exact ⟨wa,wc,ga,gc,rfl,i64_of hk,i64_of hs.lo,i64_of hs.hi,hw,hg⟩
theorem knd_of {k : Knd} {us : List Value} (hs : ∀ f ∈ k.fields,SaneF f ∧ (-9223372036854775807 ≤ f.kind ∧ f.kind ≤ 9223372036854775807)) (hk : (-9223372036854775807 ≤ k.lo ∧ k.lo ≤ 9223372036854775807) ∧ (-9223372036854775807 ≤ k.hi ∧ k.hi ≤ 9223372036854775807)) (h : RdL w O (kndC k) us) : RKnd w (fun _=>True) k us:=by
 obtain ⟨u1,t1,rfl,h1,h⟩:=rdl_inv h
 obtain ⟨u2,t2,rfl,h2,h⟩:=rdl_inv h
 obtain ⟨u3,t3,rfl,h3,h⟩:=rdl_inv h
 obtain ⟨u4,t4,rfl,h4,hz⟩:=rdl_inv h
 obtain rfl:=rdl_nil hz
 obtain ⟨fa,fc,rfl,hf⟩:=row_of (R:=RFld w (fun _=>True)) h4 fun f hf us hu=>fld_of (hs f hf).1 (hs f hf).2 hu
 rw [h1.val rfl,h2.val rfl,h3.val rfl]
 exact ⟨fa,fc,rfl,i64_of hk.1,i64_of hk.2,hf⟩
theorem lif_of {x : Lif} {us : List Value} (hm : ∀ m ∈ x.moves,(-9223372036854775807 ≤ m.1 ∧ m.1 ≤ 9223372036854775807) ∧ (-9223372036854775807 ≤ m.2 ∧ m.2 ≤ 9223372036854775807)) (h : RdL w O (lifC x) us) : RLif w (fun _=>True) x us:=by
 obtain ⟨u1,t1,rfl,h1,h⟩:=rdl_inv h
 obtain ⟨u2,t2,rfl,h2,h⟩:=rdl_inv h
 obtain ⟨u3,t3,rfl,h3,hz⟩:=rdl_inv h
 obtain rfl:=rdl_nil hz
 obtain ⟨sa,sc,rfl,hs⟩:=str_of h2
 obtain ⟨ma,mc,rfl,hmv⟩:=row_of (R:=RTwo) h3 fun m hmm us hu=>by
  obtain ⟨a,t,rfl,g1,hu⟩:=rdl_inv hu
  obtain ⟨b,t,rfl,g2,hu⟩:=rdl_inv hu
  rw [rdl_nil hu,g1.val rfl,g2.val rfl]
  exact ⟨rfl,i64_of (hm m hmm).1,i64_of (hm m hmm).2⟩
 rw [h1.val rfl]
 exact ⟨sa,sc,ma,mc,rfl,hs,hmv⟩
theorem rul_of {r : Rul} {us : List Value} (hn : -9223372036854775807 ≤ r.n ∧ r.n ≤ 9223372036854775807) (h : RdL w O (rulC r) us) : RRul r us:=by
 obtain ⟨u1,t1,rfl,h1,h⟩:=rdl_inv h
 obtain ⟨u2,t2,rfl,h2,h⟩:=rdl_inv h
 obtain ⟨u3,t3,rfl,h3,h⟩:=rdl_inv h
 obtain ⟨u4,t4,rfl,h4,h⟩:=rdl_inv h
 obtain ⟨u5,t5,rfl,h5,h⟩:=rdl_inv h
 obtain rfl:=rdl_nil h
 rw [h1.val rfl,h2.val rfl,h3.val rfl,h4.val rfl,h5.val rfl]
 exact ⟨rfl,i64_of hn⟩
theorem sch_valid (x : Sch) (g : Good x) : APure Tryz.prog 81 [schD x] (iD (validE x)):=by
 refine ⟨enters_of Tryz.func81 (by kernel_rfl) rfl,fun w O vs hv hg=>?_⟩
 obtain ⟨v,t,rfl,h1,h⟩:=rdl_inv hv
 rw [rdl_nil h]
 obtain ⟨us,rfl,hu⟩:=h1.agg_inv
 obtain ⟨u1,t1,rfl,k1,hu⟩:=rdl_inv hu
 obtain ⟨u2,t2,rfl,k2,hu⟩:=rdl_inv hu
 obtain ⟨u3,t3,rfl,k3,hu⟩:=rdl_inv hu
 obtain ⟨u4,t4,rfl,k4,hu⟩:=rdl_inv hu
 rw [rdl_nil hu,k1.val rfl]
 obtain ⟨ka,kc,rfl,hk⟩:=row_of (R:=RKnd w (fun _=>True)) k2 fun k hk us hu=>knd_of (g.fsane k hk) (g.ksane k hk) hu
 obtain ⟨la,lc,rfl,hl⟩:=row_of (R:=RLif w (fun _=>True)) k3 fun k hk us hu=>lif_of (g.msane k hk) hu
 obtain ⟨ra,rc,rfl,hr⟩:=row_of (R:=RRul) k4 fun k hk us hu=>rul_of (g.rsane k hk) hu
 exact (valid_any x w (i64_of g.ver) hk hl hr g.sm g.src ⟨hg.pow,hg.words⟩).mono fun e w' ⟨e1,e2⟩=>⟨_,e1,.v _,e2⟩
end
section
open Go Go.RowKit Go.Shelf
theorem at_flds : ∃ f0 f1 : Field,Tryz.prog.underlying 33 = some (.struct #[f0,f1]) ∧ f0.name ≠ "_" ∧ f1.name ≠ "_" ∧ f0.type = 3 ∧ f1.type = 3 ∧ f0.offset = 0 ∧ f1.offset = 1:=
 ⟨_,_,Tryz.underlying33,by decide,by decide,rfl,rfl,rfl,rfl⟩
theorem int_pl : Tryz.prog.plainKey 3 = true:=by kernel_rfl
theorem at_held : Tryz.prog.stoodInHeld 33 = false:=by kernel_rfl
theorem at_guard : Tryz.prog.eqGuardType Tryz.prog.depth 33 = false:=by kernel_rfl
theorem run_at_eq (w : World) (a1 a2 c1 c2 : Int) : (Op.equalIn 10000 33 (.agg #[.int .i64 a1,.int .i64 a2]) (.agg #[.int .i64 c1,.int .i64 c2])).run Tryz.prog w = .ok ((a1 == c1) && (a2 == c2)) w:=by
 obtain ⟨f0,f1,hu,n0,n1,t0,t1,o0,o1⟩:=at_flds
 have hf : Tryz.prog.fieldsOf 33 = #[f0,f1]:=by simp [Program.fieldsOf,hu]
 have p0 : ∀ x y : Int,(Go.part 3 #[.int .i64 x,.int .i64 y] 0).run Tryz.prog w = .ok (.int .i64 x) w:=fun x y=>run_part_plain w int_pl rfl
 have p1 : ∀ x y : Int,(Go.part 3 #[.int .i64 x,.int .i64 y] 1).run Tryz.prog w = .ok (.int .i64 y) w:=fun x y=>run_part_plain w int_pl rfl
 have q : ∀ x y : Int,(Op.equalIn 9999 3 (.int .i64 x) (.int .i64 y)).run Tryz.prog w = .ok (x == y) w:=fun x y=>run_equalIn_int w 9998 _ _ _ _ _ Tryz.underlying3
 rw [show (10000 : Nat) = 9999 + 1 from rfl,run_equalIn_agg w 9999 _ _ _ (by rw [hf];exact hu) at_held,hf]
 simp only [Op.eqFields,if_pos n0,if_pos n1,t0,t1,o0,o1,Sem.run_bind,Result.andThen,p0,p1,q,Sem.run_ite,Sem.run_pure]
 cases (a1 == c1) <;> cases (a2 == c2) <;> rfl
theorem rdl_ints2 {w : World} {O : Nat → Prop} {u : Value} {a b : Int} (h : Rd w O (.agg [.v (.int .i64 a),.v (.int .i64 b)]) u) : u = .agg #[.int .i64 a,.int .i64 b]:=by
 obtain ⟨vs,rfl,hv⟩:=h.agg_inv
 have hl:=hv.len
 match vs,hl,hv with
 | [x,y],_,hv=>
  rw [(hv.at_ 0 _ _ rfl rfl).val rfl,(hv.at_ 1 _ _ rfl rfl).val rfl]
section
variable {ρ : Operand → D} {σ : Store}
theorem yd_ateq {o : Oper} {t' : TypeId} {x y : Operand} {a1 a2 c1 c2 : Int} (ho : o.op = .binOp .eql 33 x y t') (hx : ρ x = .agg [.v (.int .i64 a1),.v (.int .i64 a2)]) (hy : ρ y = .agg [.v (.int .i64 c1),.v (.int .i64 c2)]) : Yd Tryz.prog o ρ σ (.v (.bool ((a1 == c1) && (a2 == c2)))):=by
 intro w X η hη hst
 obtain ⟨dst,op,ty,pos,aft,g⟩:=o
 simp only at ho
 subst ho
 have h1:=hη x (by simp [Op.operands])
 have h2:=hη y (by simp [Op.operands])
 rw [hx] at h1
 rw [hy] at h2
 refine yu_run (s:=do eqGuard .eql 33 x y (η x) (η y);binOp .eql 33 (η x) (η y)) (u:=.bool ((a1 == c1) && (a2 == c2))) ?_ (Ex.refl w) (.v _)
 rw [rdl_ints2 h1,rdl_ints2 h2]
 simp only [Sem.run_bind,run_eqGuard_agg w .eql _ _ _ _ _ at_guard,Result.andThen,run_eql_struct,run_at_eq]
theorem yd_atne {o : Oper} {t' : TypeId} {x y : Operand} {a1 a2 c1 c2 : Int} (ho : o.op = .binOp .neq 33 x y t') (hx : ρ x = .agg [.v (.int .i64 a1),.v (.int .i64 a2)]) (hy : ρ y = .agg [.v (.int .i64 c1),.v (.int .i64 c2)]) : Yd Tryz.prog o ρ σ (.v (.bool (!((a1 == c1) && (a2 == c2))))):=by
 intro w X η hη hst
 obtain ⟨dst,op,ty,pos,aft,g⟩:=o
 simp only at ho
 subst ho
 have h1:=hη x (by simp [Op.operands])
 have h2:=hη y (by simp [Op.operands])
 rw [hx] at h1
 rw [hy] at h2
 refine yu_run (s:=do eqGuard .neq 33 x y (η x) (η y);binOp .neq 33 (η x) (η y)) (u:=.bool (!((a1 == c1) && (a2 == c2)))) ?_ (Ex.refl w) (.v _)
 rw [rdl_ints2 h1,rdl_ints2 h2]
 simp only [Sem.run_bind,run_eqGuard_agg w .neq _ _ _ _ _ at_guard,Result.andThen,run_neq_struct,run_at_eq]
end
end
section
open Go Go.RowKit Go.Shelf
abbrev oKp : Knd:=⟨nPerson,0,9,[⟨nId,nE,nE,0,0,0,[],[]⟩]⟩
abbrev oKo : Knd:=⟨nOrder,0,9,[⟨nId,nE,nE,0,0,0,[],[]⟩,⟨nOf,nPerson,nE,1,1,9,[],[]⟩]⟩
abbrev oX : Sch:=⟨0,[oKp,oKo],[],[]⟩
abbrev oW : Wd:=[[[0],[1]],[[0,0],[1,0],[2,1]]]
theorem l31_orders : APure Tryz.prog 47 [] (.tup [schD oX,slW oW]):=by
 refine APure.of_call (enterX mixed tget_ok Tryz.func47 (by kernel_rfl) rfl Tryz.ntmps47 rfl ?_);intro BB
 repeat' (first | refine sk2 ?_ | (intro b;conv=>whnf))
 refine Rs.ct tget_ok (m:=2) rfl rfl rfl rfl rfl rfl rfl ?_
 repeat' (first | refine sk2 ?_ | (intro b;conv=>whnf))
 refine Rt.le ?_
 repeat' (first | exact Le.refl _ | exact le_nil _ | exact LeL.nil | exact LeR.nil | refine LeL.cons ?_ ?_ | refine LeR.cons ?_ ?_ | refine le_agg ?_ | refine le_tup ?_ | refine le_sl ?_)
theorem oX_cls : Cls oX:=by
 refine ⟨by decide,by decide,fun k hk=>?_,by decide,(fun l hl=>nomatch hl),by decide,(fun r hr=>nomatch hr)⟩
 simp only [List.mem_cons,List.not_mem_nil,or_false] at hk
 have f1 : CF ⟨nId,nE,nE,0,0,0,[],[]⟩:=.e0 (by decide) (by decide) (by decide) (by decide) (by decide) (by decide)
 have f2 : CF ⟨nOf,nPerson,nE,1,1,9,[],[]⟩:=.e0 (by decide) (by decide) (by decide) (by decide) (by decide) (by decide)
 rcases hk with rfl | rfl
 ·exact ⟨by decide,by decide,by decide,by decide,fun f hf=>by rw [List.mem_singleton] at hf;subst hf;exact f1⟩
 ·exact ⟨by decide,by decide,by decide,by decide,fun f hf=>by
   simp only [List.mem_cons,List.not_mem_nil,or_false] at hf
   rcases hf with rfl | rfl
   ·exact f1
   ·exact f2⟩
theorem oW_ws : Ws oW:=⟨by decide,by decide,by decide⟩
theorem oS_ss : Ss (fullE oW):=Ss.of_len (full_lens oW) oW_ws
theorem o_t1 : togetherE oX oW (fullE oW) 1 2 = ([(0,1),(1,2)],0):=by decide +kernel
theorem o_t2 : togetherE oX oW (fullE oW) 0 0 = ([(0,0),(1,0),(1,1)],0):=by decide +kernel
theorem o_t3 : togetherE oX oW (fullE oW) 1 0 = ([(1,0)],0):=by decide +kernel
theorem o_v : validS oX oW (fullE oW) = true:=by decide +kernel
theorem o_s : sizeE (fullE oW) = 5:=by decide +kernel
theorem sk90 {A B : Prop} (k : B) (h : Hd7 B → A:=by intro hk7q;(first | refine sb0 ?_ | refine sb1 ?_ | ((with_reducible refine' Cp.by ?hc ?_);(case hc=>first | exact l31_orders | exact cl_full_p oW oW_ws | exact HT1 | exact HT2 | exact HT3 | exact HV1 | exact HS1)) | ((with_reducible refine' CE.pure ?hc ?_);(case hc=>first | exact l31_orders | exact cl_full_p oW oW_ws | exact HT1 | exact HT2 | exact HT3 | exact HV1 | exact HS1)));exact hk7q.run) : A:=h ⟨k⟩
theorem l31_lives : APure Tryz.prog 18 [] (bD true):=by
 have HV:=sch_valid oX oX_cls.good
 have HT1 : APure Tryz.prog 14 [schD oX,slW oW,slS2 (fullE oW),atD 1 2] (.tup [slAt [(0,1),(1,2)],iD 0]):=by have:=cl_together oX oW (fullE oW) oW_ws oS_ss 1 2 HV;rw [o_t1] at this;exact this
 have HT2 : APure Tryz.prog 14 [schD oX,slW oW,slS2 (fullE oW),atD 0 0] (.tup [slAt [(0,0),(1,0),(1,1)],iD 0]):=by have:=cl_together oX oW (fullE oW) oW_ws oS_ss 0 0 HV;rw [o_t2] at this;exact this
 have HT3 : APure Tryz.prog 14 [schD oX,slW oW,slS2 (fullE oW),atD 1 0] (.tup [slAt [(1,0)],iD 0]):=by have:=cl_together oX oW (fullE oW) oW_ws oS_ss 1 0 HV;rw [o_t3] at this;exact this
 have HV1 : APure Tryz.prog 21 [schD oX,slW oW,slS2 (fullE oW)] (bD true):=by have:=cl_valid oX oW (fullE oW) oW_ws oS_ss HV;rw [o_v] at this;exact this
 have HS1 : APure Tryz.prog 17 [slS2 (fullE oW)] (iD 5):=by have:=cl_size (fullE oW) oS_ss;rw [o_s] at this;exact this
 refine APure.of_call (enterX mixed tget_ok Tryz.func18 (by kernel_rfl) rfl Tryz.ntmps18 rfl ?_);intro BB
 repeat' (first | refine sk90 ?_ | (intro b;conv=>whnf) | ((with_reducible refine Br.t ?h ?_);(case h=>rfl)) | ((with_reducible refine Br.f ?h ?_);(case h=>rfl)) | ((with_reducible refine' Ot.yd ?hyd ?_);(case hyd=>exact yd_ateq rfl rfl rfl)))
 refine Rt.pure (congrArg bD ?_)
 rfl
end
section
open Go
theorem validE0 {x : Sch} (h : validB x = true) : validE x = 0:=by unfold validE;rw [if_pos h]
theorem validE1 {x : Sch} (h : validB x = false) : validE x = 1:=by unfold validE;rw [h];rfl
theorem sk91 {A B : Prop} (k : B) (h : Hd7 B → A:=by intro hk7q;(first | refine sb0 ?_ | refine sb1 ?_ | ((with_reducible refine' Cp.by ?hc ?_);(case hc=>first | exact r09_within _ _ _ | exact HK | exact HL | exact r09_isRule _)) | ((with_reducible refine' CE.pure ?hc ?_);(case hc=>first | exact r09_within _ _ _ | exact HK | exact HL | exact r09_isRule _)));exact hk7q.run) : A:=h ⟨k⟩
theorem r09_valid (x : Sch) (g : Good x) : APure Tryz.prog 94 [schD x] (iD (validE x)):=by
 refine APure.of_call (enterX mixed tget_ok Tryz.func94 (by kernel_rfl) rfl Tryz.ntmps94 rfl ?_);intro BB
 cases h1 : withinB x.version 0 1048576
 ·have hE : validE x = 1:=validE1 (by simp [validB,h1])
  repeat' (first | refine sk91 ?_ | (intro b;conv=>whnf) | (with_reducible refine Br.d (fun hc=>?_) (fun hc=>?_)) | (with_reducible refine Br.b (fun hc=>?_) (fun hc=>?_)))
  all_goals (refine Rt.pure (congrArg iD ?_);exact hE.symm)
 by_cases h2 : x.kinds.length ≤ 6
 case neg=>
  have hE : validE x = 1:=validE1 (by simp [validB,h2])
  repeat' (first | refine sk91 ?_ | (intro b;conv=>whnf) | (with_reducible refine Br.d (fun hc=>?_) (fun hc=>?_)) | (with_reducible refine Br.b (fun hc=>?_) (fun hc=>?_)))
  all_goals (refine Rt.pure (congrArg iD ?_);exact hE.symm)
 by_cases h3 : x.lives.length ≤ 6
 case neg=>
  have hE : validE x = 1:=validE1 (by simp [validB,h3])
  repeat' (first | refine sk91 ?_ | (intro b;conv=>whnf) | (with_reducible refine Br.d (fun hc=>?_) (fun hc=>?_)) | (with_reducible refine Br.b (fun hc=>?_) (fun hc=>?_)))
  all_goals (refine Rt.pure (congrArg iD ?_);exact hE.symm)
 by_cases h4 : x.rules.length ≤ 16
 case neg=>
  have hE : validE x = 1:=validE1 (by simp [validB,h4])
  repeat' (first | refine sk91 ?_ | (intro b;conv=>whnf) | (with_reducible refine Br.d (fun hc=>?_) (fun hc=>?_)) | (with_reducible refine Br.b (fun hc=>?_) (fun hc=>?_)))
  all_goals (refine Rt.pure (congrArg iD ?_);exact hE.symm)
 repeat' (first | refine sk91 ?_ | (intro b;conv=>whnf))
 refine lp_loop mixed tget_ok (γ:=Nat) (fun q=>[(3,iD q)]) (fun _=>[]) (fun q=>q ≤ x.kinds.length ∧ ∀ (m : Nat) y,m < q → x.kinds[m]? = some y → isKindB y = true) (fun q=>x.kinds.length - q) 0 rfl rfl ⟨by omega,fun m y hm=>by omega⟩ ?_
 rintro q ⟨hq,hno⟩
 by_cases hlt : q < x.kinds.length
 ·obtain ⟨k,hk⟩ : ∃ k,x.kinds[(q : Int).toNat]? = some k:=⟨_,List.getElem?_eq_getElem hlt⟩
  have hkm:=List.mem_of_getElem? hk
  have hks:=g.sm.kinds k hkm
  have HK:=r09_isKind k (fun f hf=>⟨(hks.fields f hf).nwords,(hks.fields f hf).nweights⟩) hks.nfields
  repeat' (first | refine sk91 ?_ | (intro b;conv=>whnf) | (with_reducible refine Br.d (fun hc=>?_) (fun hc=>?_)) | (with_reducible refine Br.b (fun hc=>?_) (fun hc=>?_)))
  ·exact ⟨q + 1,rfl,rfl,⟨by omega,upto_succ hno hk (by assumption)⟩,by omega⟩
  ·refine Rt.pure (congrArg iD ?_);exact (validE1 (by simp only [validB,all_snoc_false hk (by assumption : isKindB k = false)];simp)).symm
 have hall1 : x.kinds.all isKindB = true:=all_of_upto (fun m y hm hy=>hno m y (by omega) hy)
 clear hno
 repeat' (first | refine sk91 ?_ | (intro b;conv=>whnf))
 refine lp_loop mixed tget_ok (γ:=Nat) (fun q=>[(4,iD q)]) (fun _=>[]) (fun q=>q ≤ x.lives.length ∧ ∀ (m : Nat) y,m < q → x.lives[m]? = some y → isLifeB y = true) (fun q=>x.lives.length - q) 0 rfl rfl ⟨by omega,fun m y hm=>by omega⟩ ?_
 clear hq hlt
 rintro q ⟨hq,hno⟩
 by_cases hlt : q < x.lives.length
 ·obtain ⟨k,hk⟩ : ∃ k,x.lives[(q : Int).toNat]? = some k:=⟨_,List.getElem?_eq_getElem hlt⟩
  have hkm:=List.mem_of_getElem? hk
  have hks:=g.sm.lives k hkm
  have HL:=r09_isLife k hks.nstates hks.nmoves
  repeat' (first | refine sk91 ?_ | (intro b;conv=>whnf) | (with_reducible refine Br.d (fun hc=>?_) (fun hc=>?_)) | (with_reducible refine Br.b (fun hc=>?_) (fun hc=>?_)))
  ·exact ⟨q + 1,rfl,rfl,⟨by omega,upto_succ hno hk (by assumption)⟩,by omega⟩
  ·refine Rt.pure (congrArg iD ?_);exact (validE1 (by simp only [validB,all_snoc_false hk (by assumption : isLifeB k = false)];simp)).symm
 have hall2 : x.lives.all isLifeB = true:=all_of_upto (fun m y hm hy=>hno m y (by omega) hy)
 clear hno
 repeat' (first | refine sk91 ?_ | (intro b;conv=>whnf))
 refine lp_loop mixed tget_ok (γ:=Nat) (fun q=>[(5,iD q)]) (fun _=>[]) (fun q=>q ≤ x.rules.length ∧ ∀ (m : Nat) y,m < q → x.rules[m]? = some y → isRuleB y = true) (fun q=>x.rules.length - q) 0 rfl rfl ⟨by omega,fun m y hm=>by omega⟩ ?_
 clear hq hlt
 rintro q ⟨hq,hno⟩
 by_cases hlt : q < x.rules.length
 ·obtain ⟨k,hk⟩ : ∃ k,x.rules[(q : Int).toNat]? = some k:=⟨_,List.getElem?_eq_getElem hlt⟩
  repeat' (first | refine sk91 ?_ | (intro b;conv=>whnf) | (with_reducible refine Br.d (fun hc=>?_) (fun hc=>?_)) | (with_reducible refine Br.b (fun hc=>?_) (fun hc=>?_)))
  ·exact ⟨q + 1,rfl,rfl,⟨by omega,upto_succ hno hk (by assumption)⟩,by omega⟩
  ·refine Rt.pure (congrArg iD ?_);exact (validE1 (by simp only [validB,all_snoc_false hk (by assumption : isRuleB k = false)];simp)).symm
 have hall3 : x.rules.all isRuleB = true:=all_of_upto (fun m y hm hy=>hno m y (by omega) hy)
 have hvb : validB x = true:=by simp only [validB,h1,hall1,hall2,hall3];simp;omega
 have hE:=validE0 hvb
 have HS:=r09_source x (srcOK_of hvb g)
 have hsr:=g.src hvb
 repeat' (first | refine sk91 ?_ | (intro b;conv=>whnf))
 refine CE.some HS ?_
 rintro _ ⟨s,rfl,hs⟩
 repeat' (first | refine sk91 ?_ | (intro b;conv=>whnf))
 refine Rt.pure (congrArg iD ?_)
 exact hE.symm
end
end Go.Proofs.YtjbbmjjildhfbaaGreatDoor
