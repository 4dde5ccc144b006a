/- The pure statement of the law FnExactModuleRead: its printed function answers true for every input within the bounds of the reading. -/
-- squeezed
import Derived.Test.YtmclgkljmlpfbaaGreatDoorOFnExactModuleReadx1
import Derived.Test.YtmclgkljmlpfbaaGreatDoorOFnExactModuleReadx2
import Derived.Test.YtmclgkljmlpfbaaGreatDoorOFnExactModuleReadx3
import Derived.Test.YtmclgkljmlpfbaaGreatDoorOFnExactModuleReadx4
import Derived.Lib.ItoaNum
import Derived.Lib.Join
import Derived.Test.YtmclgkljmlpfbaaGreatDoorBase
namespace Go.Proofs.YtmclgkljmlpfbaaGreatDoor.Pure
open Go.RowKit Go.Proofs.YtmclgkljmlpfbaaGreatDoor.OFnExactModuleRead Go.Proofs.YtmclgkljmlpfbaaGreatDoorW.PrintWords Go.Proofs.YtmclgkljmlpfbaaGreatDoorW.PrintLast Go.Proofs.YtmclgkljmlpfbaaGreatDoorW.PrintMore Go.Proofs.YtmclgkljmlpfbaaGreatDoor.Base
set_option linter.unusedVariables false
set_option linter.unusedSimpArgs false
def qStringS (xs : List ByteArray) : Prop:=xs.length ≤ 9223372036854775807
def qRecord (x : S50) : Prop:=qStringS x.f1
theorem ev_laws_eqStringS_l0 (xs : List ByteArray) (hx : qStringS xs) : ∀ i,i ≤ xs.length → EvP (fun k=>laws_eqStringS.l0 k xs xs i) (· = true):=by
 refine upInd ?_ ?_
 ·refine EvP.succ ?_
  simp only [laws_eqStringS.l0]
  exact EvP.neg (by omega) (EvP.ret _ rfl)
 ·intro i hi ih
  refine EvP.succ ?_
  simp only [laws_eqStringS.l0]
  rw [w64s hi hx]
  exact EvP.pos (by omega) (EvP.pos (by omega) (EvP.pos (by omega) (EvP.pos (by trivial) ih)))
theorem ev_laws_eqStringS (xs : List ByteArray) (hx : qStringS xs) : EvP (fun k=>laws_eqStringS.f k xs xs) (· = true):=by
 unfold laws_eqStringS.f
 exact EvP.pos (by trivial) (ev_laws_eqStringS_l0 xs hx 0 (by omega))
theorem ev_laws_eqRecord (a0 : Int) (l1 : List ByteArray) (hl1 : qStringS l1) : EvP (fun k=>laws_eqRecord.f k a0 l1 a0 l1) (· = true):=by
 unfold laws_eqRecord.f
 refine EvP.pos (by trivial) ?_
 refine EvP.bind (ev_laws_eqStringS l1 hl1) (fun tl1 htl1=>?_)
 subst htl1
 refine EvP.pos (by trivial) ?_
 exact EvP.ret _ rfl
def qIns (x : S59) : Prop:=True
theorem ev_laws_eqIns (s0 : ByteArray) (a1 : Int) (a2 : Int)  : EvP (fun _=>laws_eqIns.f s0 a1 a2 s0 a1 a2) (· = true):=by
 unfold laws_eqIns.f
 refine EvP.pos (by trivial) ?_
 refine EvP.pos (by trivial) ?_
 refine EvP.pos (by trivial) ?_
 exact EvP.ret _ rfl
def qIntS (xs : List Int) : Prop:=xs.length ≤ 9223372036854775807
def qInsS (xs : List (S59)) : Prop:=xs.length ≤ 9223372036854775807 ∧ ∀ x ∈ xs,qIns x
def qFunc (x : S55) : Prop:=qStringS x.f1 ∧ qStringS x.f2 ∧ qStringS x.f3 ∧ qIntS x.f4 ∧ qInsS x.f5
theorem ev_laws_eqIntS_l0 (xs : List Int) (hx : qIntS xs) : ∀ i,i ≤ xs.length → EvP (fun k=>laws_eqIntS.l0 k xs xs i) (· = true):=by
 refine upInd ?_ ?_
 ·refine EvP.succ ?_
  simp only [laws_eqIntS.l0]
  exact EvP.neg (by omega) (EvP.ret _ rfl)
 ·intro i hi ih
  refine EvP.succ ?_
  simp only [laws_eqIntS.l0]
  rw [w64s hi hx]
  exact EvP.pos (by omega) (EvP.pos (by omega) (EvP.pos (by omega) (EvP.pos (by trivial) ih)))
theorem ev_laws_eqIntS (xs : List Int) (hx : qIntS xs) : EvP (fun k=>laws_eqIntS.f k xs xs) (· = true):=by
 unfold laws_eqIntS.f
 exact EvP.pos (by trivial) (ev_laws_eqIntS_l0 xs hx 0 (by omega))
theorem ev_laws_eqInsS_l0 (xs : List (S59)) (hx : qInsS xs) : ∀ i,i ≤ xs.length → EvP (fun k=>laws_eqInsS.l0 k xs xs i) (· = true):=by
 refine upInd ?_ ?_
 ·refine EvP.succ ?_
  simp only [laws_eqInsS.l0]
  exact EvP.neg (by omega) (EvP.ret _ rfl)
 ·intro i hi ih
  refine EvP.succ ?_
  simp only [laws_eqInsS.l0]
  rw [w64s hi hx.1]
  have e : rd_T59 xs (i : Int) = xs[i]:=getDn hi
  have hb:=hx.2 _ (List.getElem_mem hi)
  rw [e]
  refine EvP.pos (by omega) (EvP.pos (by omega) (EvP.pos (by omega) (EvP.bind (ev_laws_eqIns xs[i].f0 xs[i].f1 xs[i].f2 ) (fun t ht=>?_))))
  subst ht
  exact EvP.pos (by trivial) ih
theorem ev_laws_eqInsS (xs : List (S59)) (hx : qInsS xs) : EvP (fun k=>laws_eqInsS.f k xs xs) (· = true):=by
 unfold laws_eqInsS.f
 exact EvP.pos (by trivial) (ev_laws_eqInsS_l0 xs hx 0 (by omega))
theorem ev_laws_eqFunc (a0 : Int) (l1 : List ByteArray) (l2 : List ByteArray) (l3 : List ByteArray) (l4 : List Int) (l5 : List (S59)) (hl1 : qStringS l1) (hl2 : qStringS l2) (hl3 : qStringS l3) (hl4 : qIntS l4) (hl5 : qInsS l5) : EvP (fun k=>laws_eqFunc.f k a0 l1 l2 l3 l4 l5 a0 l1 l2 l3 l4 l5) (· = true):=by
 unfold laws_eqFunc.f
 refine EvP.pos (by trivial) ?_
 refine EvP.bind (ev_laws_eqStringS l1 hl1) (fun tl1 htl1=>?_)
 subst htl1
 refine EvP.pos (by trivial) ?_
 refine EvP.bind (ev_laws_eqStringS l2 hl2) (fun tl2 htl2=>?_)
 subst htl2
 refine EvP.pos (by trivial) ?_
 refine EvP.bind (ev_laws_eqStringS l3 hl3) (fun tl3 htl3=>?_)
 subst htl3
 refine EvP.pos (by trivial) ?_
 refine EvP.bind (ev_laws_eqIntS l4 hl4) (fun tl4 htl4=>?_)
 subst htl4
 refine EvP.pos (by trivial) ?_
 refine EvP.bind (ev_laws_eqInsS l5 hl5) (fun tl5 htl5=>?_)
 subst htl5
 refine EvP.pos (by trivial) ?_
 exact EvP.ret _ rfl
def qRecordS (xs : List (S50)) : Prop:=xs.length ≤ 9223372036854775807 ∧ ∀ x ∈ xs,qRecord x
theorem ev_laws_eqRecordS_l0 (xs : List (S50)) (hx : qRecordS xs) : ∀ i,i ≤ xs.length → EvP (fun k=>laws_eqRecordS.l0 k xs xs i) (· = true):=by
 refine upInd ?_ ?_
 ·refine EvP.succ ?_
  simp only [laws_eqRecordS.l0]
  exact EvP.neg (by omega) (EvP.ret _ rfl)
 ·intro i hi ih
  refine EvP.succ ?_
  simp only [laws_eqRecordS.l0]
  rw [w64s hi hx.1]
  have e : rd_T50 xs (i : Int) = xs[i]:=getDn hi
  have hb:=hx.2 _ (List.getElem_mem hi)
  rw [e]
  refine EvP.pos (by omega) (EvP.pos (by omega) (EvP.pos (by omega) (EvP.bind (ev_laws_eqRecord xs[i].f0 xs[i].f1 hb) (fun t ht=>?_))))
  subst ht
  exact EvP.pos (by trivial) ih
theorem ev_laws_eqRecordS (xs : List (S50)) (hx : qRecordS xs) : EvP (fun k=>laws_eqRecordS.f k xs xs) (· = true):=by
 unfold laws_eqRecordS.f
 exact EvP.pos (by trivial) (ev_laws_eqRecordS_l0 xs hx 0 (by omega))
def qFuncS (xs : List (S55)) : Prop:=xs.length ≤ 9223372036854775807 ∧ ∀ x ∈ xs,qFunc x
theorem ev_laws_eqFuncS_l0 (xs : List (S55)) (hx : qFuncS xs) : ∀ i,i ≤ xs.length → EvP (fun k=>laws_eqFuncS.l0 k xs xs i) (· = true):=by
 refine upInd ?_ ?_
 ·refine EvP.succ ?_
  simp only [laws_eqFuncS.l0]
  exact EvP.neg (by omega) (EvP.ret _ rfl)
 ·intro i hi ih
  refine EvP.succ ?_
  simp only [laws_eqFuncS.l0]
  rw [w64s hi hx.1]
  have e : rd_T55 xs (i : Int) = xs[i]:=getDn hi
  have hb:=hx.2 _ (List.getElem_mem hi)
  rw [e]
  refine EvP.pos (by omega) (EvP.pos (by omega) (EvP.pos (by omega) (EvP.bind (ev_laws_eqFunc xs[i].f0 xs[i].f1 xs[i].f2 xs[i].f3 xs[i].f4 xs[i].f5 hb.1 hb.2.1 hb.2.2.1 hb.2.2.2.1 hb.2.2.2.2) (fun t ht=>?_))))
  subst ht
  exact EvP.pos (by trivial) ih
theorem ev_laws_eqFuncS (xs : List (S55)) (hx : qFuncS xs) : EvP (fun k=>laws_eqFuncS.f k xs xs) (· = true):=by
 unfold laws_eqFuncS.f
 exact EvP.pos (by trivial) (ev_laws_eqFuncS_l0 xs hx 0 (by omega))
theorem ev_laws_eqModule (l0 : List (S50)) (l1 : List (S55)) (l2 : List Int) (hl0 : qRecordS l0) (hl1 : qFuncS l1) (hl2 : qIntS l2) : EvP (fun k=>laws_eqModule.f k l0 l1 l2 l0 l1 l2) (· = true):=by
 unfold laws_eqModule.f
 refine EvP.bind (ev_laws_eqRecordS l0 hl0) (fun tl0 htl0=>?_)
 subst htl0
 refine EvP.pos (by trivial) ?_
 refine EvP.bind (ev_laws_eqFuncS l1 hl1) (fun tl1 htl1=>?_)
 subst htl1
 refine EvP.pos (by trivial) ?_
 refine EvP.bind (ev_laws_eqIntS l2 hl2) (fun tl2 htl2=>?_)
 subst htl2
 refine EvP.pos (by trivial) ?_
 exact EvP.ret _ rfl
def kAt (s : ByteArray) : Option (Nat × Nat) :=
 if s.size = 3 ∧ bt s 0 = 83 ∧ 48 ≤ bt s 1 ∧ bt s 1 ≤ 57 ∧ 48 ≤ bt s 2 ∧ bt s 2 ≤ 57 then some ((bt s 1 - 48).toNat,(bt s 2 - 48).toNat) else none
def kTup : Option (Nat × Nat) → Int × Int × Bool
 | none=>(0,0,false)
 | some p=>((p.1 : Int),(p.2 : Int),true)
theorem eq_impl_kindAt (s : ByteArray) : impl_kindAt.f s = some (kTup (kAt s)):=by
 unfold impl_kindAt.f kAt
 by_cases h0 : s.size = 3
 ·rw [if_pos (by omega),if_pos (by omega)]
  by_cases h1 : bt s 0 = 83
  ·rw [if_pos h1,if_pos (by omega)]
   by_cases h2 : bt s 1 < 48
   ·rw [if_pos h2,if_neg (by omega)]
    rfl
   ·rw [if_neg h2]
    by_cases h3 : bt s 1 > 57
    ·rw [if_pos h3,if_neg (by omega)]
     rfl
    ·rw [if_neg h3,if_pos (by omega)]
     by_cases h4 : bt s 2 < 48
     ·rw [if_pos h4,if_neg (by omega)]
      rfl
     ·rw [if_neg h4]
      by_cases h5 : bt s 2 > 57
      ·rw [if_pos h5,if_neg (by omega)]
       rfl
      ·rw [if_neg h5,if_pos (by omega)]
       have e1 : (bt s 1 - 48) % 256 = ((bt s 1 - 48).toNat : Int):=by omega
       have e2 : (bt s 2 - 48) % 256 = ((bt s 2 - 48).toNat : Int):=by omega
       rw [e1,e2]
       rfl
  ·rw [if_neg h1,if_neg (by omega)]
   rfl
 ·rw [if_neg (by omega),if_neg (by omega)]
  rfl
theorem eq_spec_l1Kind (s : ByteArray) : spec_l1Kind.f s = some (kTup (kAt s)):=eq_impl_kindAt s
def isBase (s : ByteArray) : Bool:=s.toList == [110] || (s.toList == [98] || s.toList == [111])
theorem eq_spec_l1Base (s : ByteArray) : spec_l1Base.f s = some (isBase s):=by
 unfold spec_l1Base.f isBase
 by_cases h1 : s.toList = [110]
 ·simp [h1]
 ·by_cases h2 : s.toList = [98]
  ·simp [h2]
  ·have k1 : (s.toList == [110]) = false:=beq_eq_false_iff_ne.2 h1
   have k2 : (s.toList == [98]) = false:=beq_eq_false_iff_ne.2 h2
   rw [if_neg h1,if_neg h2,k1,k2]
   rfl
theorem list_size (s : ByteArray) : s.toList.length = s.size:=by
 rw [ByteArray.toList_eq,Array.length_toList]
 rfl
theorem kAt_size {s : ByteArray} {p : Nat × Nat} (h : kAt s = some p) : s.size = 3 ∧ bt s 0 = 83:=by
 unfold kAt at h
 split at h
 ·rename_i hc
  exact ⟨hc.1,hc.2.1⟩
 ·cases h
def isRef (s : ByteArray) : Bool:=decide (0 < s.size) && (bt s 0 == 38 || bt s 0 == 33)
def strip (s : ByteArray) : ByteArray:=if isRef s = true then s.extract 1 s.size else s
def sgn (s : ByteArray) : ByteArray:=if isRef s = true then s.extract 0 1 else (⟨#[]⟩ : ByteArray)
theorem eq_impl_signOf (s : ByteArray) : impl_signOf.f s = some (sgn s,strip s):=by
 unfold impl_signOf.f sgn strip isRef
 have hs:=list_size s
 by_cases h0 : s.toList = []
 ·rw [if_pos h0]
  rw [h0] at hs
  have : ¬ 0 < s.size:=by simp at hs;omega
  simp [this]
 ·rw [if_neg h0]
  have h1 : 0 < s.size:=by
   rcases Nat.eq_zero_or_pos s.size with h | h
   ·rw [h] at hs
    exact absurd (List.eq_nil_of_length_eq_zero hs) h0
   ·exact h
  rw [if_pos (by omega)]
  by_cases h2 : bt s 0 = 38
  ·rw [if_pos h2,if_pos (by omega),if_pos (by omega)]
   simp [h1,h2]
  ·rw [if_neg h2]
   by_cases h3 : bt s 0 = 33
   ·rw [if_pos h3,if_pos (by omega),if_pos (by omega)]
    simp [h1,h3]
   ·rw [if_neg h3]
    simp [h2,h3]
theorem eq_spec_l1RefR (s : ByteArray) : spec_l1Ref.f s = some (isRef s):=by
 unfold spec_l1Ref.f isRef
 by_cases h : 0 < s.size
 ·rw [if_pos (by omega),if_pos (by omega)]
  by_cases h2 : bt s 0 = 38
  ·rw [if_pos h2]
   simp [h,h2]
  ·rw [if_neg h2]
   simp [h,h2]
 ·rw [if_neg (by omega)]
  simp [h]
theorem eq_spec_l1Of (s : ByteArray) : spec_l1Of.f s = some (strip s):=by
 unfold spec_l1Of.f strip
 rw [eq_spec_l1RefR]
 simp only [Option.bind_some]
 by_cases h : isRef s = true
 ·rw [if_pos h,if_pos h,if_pos]
  unfold isRef at h
  simp at h
  omega
 ·rw [if_neg h,if_neg h]
theorem bytes_ext {a b : ByteArray} (h : a.toList = b.toList) : a = b:=by
 rw [ByteArray.toList_eq,ByteArray.toList_eq] at h
 exact ByteArray.ext (Array.toList_inj.1 h)
theorem bt_of {s : ByteArray} {i : Nat} {x : UInt8} (h : s.data[i]? = some x) : bt s (i : Int) = (x.toNat : Int):=by
 have h1 : i < s.size:=by
  have:=(Array.getElem?_eq_some_iff.1 h).1
  simpa using this
 have h2 : s[i] = x:=by
  have:=(Array.getElem?_eq_some_iff.1 h).2
  simpa [ByteArray.getElem_eq_getElem_data] using this
 unfold bt
 have e : ((i : Int)).toNat = i:=Int.toNat_natCast i
 rw [dif_pos (by rw [e];exact h1)]
 simp only [e,h2]
abbrev Tri:=ByteArray × Int × Int
def look (w : ByteArray) : List Tri → ByteArray × Int × Int × Bool
 | []=>(⟨#[]⟩,0,0,false)
 | x :: xs=>if x.1.toList = w.toList then (x.1,x.2.1,x.2.2,true) else look w xs
def triF (x : S93) : Tri:=(x.f0,x.f1,x.f2)
def triI (x : S59) : Tri:=(x.f0,x.f1,x.f2)
def insTab : List Tri:=match spec_l3Table.f with | some t=>t.map triI | none=>[]
theorem insTab_ok : insTab.all (fun x=>decide (0 ≤ x.2.1 ∧ x.2.1 ≤ 1000001 ∧ 0 ≤ x.2.2 ∧ x.2.2 ≤ 1000001)) = true:=by decide +kernel
theorem look_in (w : ByteArray) : ∀ T : List Tri,T.all (fun x=>decide (0 ≤ x.2.1 ∧ x.2.1 ≤ 1000001 ∧ 0 ≤ x.2.2 ∧ x.2.2 ≤ 1000001)) = true → 0 ≤ (look w T).2.1 ∧ (look w T).2.1 ≤ 1000001 ∧ 0 ≤ (look w T).2.2.1 ∧ (look w T).2.2.1 ≤ 1000001
 | [],_=>by unfold look;simp
 | x :: xs,h=>by
  rw [List.all_cons,Bool.and_eq_true] at h
  unfold look
  split
  ·exact of_decide_eq_true h.1
  ·exact look_in w xs h.2
def insForms : List S93:=insTab.map fun x=>⟨x.1,x.2.1,x.2.2⟩
theorem forms_eq (k : Nat) : impl_insForms.f (k + 60) = some insForms:=by kernel_rfl
theorem ev_impl_insForms : EvP (fun k=>impl_insForms.f k) (· = insForms):=⟨insForms,⟨60,fun k hk=>by
 obtain ⟨d,rfl⟩:=Nat.exists_eq_add_of_le' hk
 exact forms_eq d⟩,rfl⟩
theorem ev_impl_formOf (w : ByteArray) : EvP (fun k=>impl_formOf.f k w) (· = look w insTab):=by
 have loop : ∀ xs : List S93,xs.length ≤ 1000 → EvP (fun k=>impl_formOf.l0 k w xs (xs.length : Int) 0) (· = look w (xs.map triF)):=by
  intro xs hl
  have key : ∀ i,i ≤ xs.length → EvP (fun k=>impl_formOf.l0 k w xs (xs.length : Int) i) (· = look w ((xs.drop i).map triF)):=by
   refine upInd ?_ ?_
   ·refine EvP.succ ?_
    simp only [impl_formOf.l0]
    exact EvP.neg (by omega) (EvP.ret _ (by rw [List.drop_length];rfl))
   ·intro i hi ih
    refine EvP.succ ?_
    simp only [impl_formOf.l0]
    have e : rd_T93 xs (i : Int) = xs[i]:=getDn hi
    rw [e,w64s hi (by omega),List.drop_eq_getElem_cons hi,List.map_cons,look]
    refine EvP.pos (by omega) (EvP.pos (by omega) (EvP.pos (by omega) (EvP.ite (fun h=>EvP.ret _ ?_) (fun h=>ih.mono (fun r hr=>?_)))))
    ·exact (if_pos h).symm
    ·rw [hr]
     exact (if_neg h).symm
  exact (key 0 (by omega)).mono (fun r hr=>by rw [hr,List.drop_zero])
 unfold impl_formOf.f
 refine EvP.bind ev_impl_insForms (fun t ht=>?_)
 subst ht
 have hl : insForms.length ≤ 1000:=by decide +kernel
 have e : insForms.map triF = insTab:=by
  unfold insForms
  rw [List.map_map]
  exact List.map_id _
 rw [← e]
 exact loop insForms hl
theorem ev_spec_l3Needs (w : ByteArray) : EvP (fun k=>spec_l3Needs.f k w) (· = look w insTab):=by
 have loop : ∀ xs : List S59,xs.length ≤ 1000 → EvP (fun k=>spec_l3Needs.l0 k w xs 0) (· = look w (xs.map triI)):=by
  intro xs hl
  have key : ∀ i,i ≤ xs.length → EvP (fun k=>spec_l3Needs.l0 k w xs i) (· = look w ((xs.drop i).map triI)):=by
   refine upInd ?_ ?_
   ·refine EvP.succ ?_
    simp only [spec_l3Needs.l0]
    exact EvP.neg (by omega) (EvP.ret _ (by rw [List.drop_length];rfl))
   ·intro i hi ih
    refine EvP.succ ?_
    simp only [spec_l3Needs.l0]
    have e : rd_T59 xs (i : Int) = xs[i]:=getDn hi
    rw [e,w64s hi (by omega),List.drop_eq_getElem_cons hi,List.map_cons,look]
    refine EvP.pos (by omega) (EvP.pos (by omega) (EvP.ite (fun h=>EvP.ret _ ?_) (fun h=>ih.mono (fun r hr=>?_))))
    ·exact (if_pos h).symm
    ·rw [hr]
     exact (if_neg h).symm
  exact (key 0 (by omega)).mono (fun r hr=>by rw [hr,List.drop_zero])
 unfold spec_l3Needs.f
 have ht : ∃ T,spec_l3Table.f = some T ∧ T.length ≤ 1000:=⟨_,rfl,by decide +kernel⟩
 obtain ⟨T,ht,hl⟩:=ht
 have hi : insTab = T.map triI:=by unfold insTab;rw [ht]
 rw [hi]
 exact EvP.call ht (loop T hl)
def lim (l n : Int) : Bool:=decide (n = 0 ∨ (0 < n ∧ n < l))
def insOk (w : ByteArray) (a b : Int) : Bool:=(look w insTab).2.2.2 && (lim (look w insTab).2.1 a && lim (look w insTab).2.2.1 b)
theorem eq_impl_limitOk (l n : Int) : impl_limitOk.f l n = some (lim l n):=by
 unfold impl_limitOk.f lim
 by_cases h : n = 0
 ·rw [if_pos h,decide_eq_true (.inl h)]
 ·rw [if_neg h]
  by_cases h2 : n > 0
  ·rw [if_pos h2]
   congr 1
   rw [decide_eq_decide]
   omega
  ·rw [if_neg h2,decide_eq_false (by omega)]
theorem eq_spec_l3Fits (n l : Int) (h0 : 0 ≤ l) (h1 : l ≤ 1000001) : spec_l3Fits.f n l = some (lim l n):=by
 unfold spec_l3Fits.f lim spec_l6In.f
 by_cases h : l = 0
 ·rw [if_pos h]
  congr 1
  rw [Bool.eq_iff_iff,beq_iff_eq,decide_eq_true_iff]
  omega
 ·rw [if_neg h,w64 (by omega) (by omega)]
  by_cases h2 : n ≥ 0
  ·rw [if_pos h2]
   simp only [Option.bind_some]
   congr 1
   rw [decide_eq_decide]
   omega
  ·rw [if_neg h2,decide_eq_false (by omega)]
   rfl
theorem ev_impl_InsOk (w : ByteArray) (a b : Int) : EvP (fun k=>impl_InsOk.f k w a b) (· = insOk w a b):=by
 unfold impl_InsOk.f insOk
 refine EvP.bind (ev_impl_formOf w) (fun t ht=>?_)
 subst ht
 refine EvP.ite (fun h=>EvP.call (eq_impl_limitOk _ _) (EvP.ite (fun h2=>EvP.call (eq_impl_limitOk _ _) (EvP.ret _ ?_)) (fun h2=>EvP.ret _ ?_))) (fun h=>EvP.ret _ ?_)
 ·rw [h,h2,Bool.true_and,Bool.true_and]
 ·rw [Bool.not_eq_true] at h2
  rw [h,h2,Bool.true_and,Bool.false_and]
 ·rw [Bool.not_eq_true] at h
  rw [h,Bool.false_and]
theorem ev_spec_InsOk (w : ByteArray) (a b : Int) : EvP (fun k=>spec_InsOk.f k w a b) (· = insOk w a b):=by
 unfold spec_InsOk.f insOk
 obtain ⟨r0,r1,r2,r3⟩:=look_in w insTab insTab_ok
 refine EvP.bind (ev_spec_l3Needs w) (fun t ht=>?_)
 subst ht
 refine EvP.ite (fun h=>EvP.call (eq_spec_l3Fits _ _ r0 r1) (EvP.ite (fun h2=>EvP.call (eq_spec_l3Fits _ _ r2 r3) (EvP.ret _ ?_)) (fun h2=>EvP.ret _ ?_))) (fun h=>EvP.ret _ ?_)
 ·rw [h,h2,Bool.true_and,Bool.true_and]
 ·rw [Bool.not_eq_true] at h2
  rw [h,h2,Bool.true_and,Bool.false_and]
 ·rw [Bool.not_eq_true] at h
  rw [h,Bool.false_and]
def dec (n : Int) : ByteArray:=⟨(Lib.itoa n).toArray⟩
theorem dec_small {n : Nat} (h : n < 10) : dec (n : Int) = strOfNums [(wrap64 (48 + (n : Int))) % 256]:=by
 unfold dec Lib.itoa
 rw [if_neg (by omega),Int.toNat_natCast,Lib.decDigits,dif_pos h]
 have h2 : n = 0 ∨ n = 1 ∨ n = 2 ∨ n = 3 ∨ n = 4 ∨ n = 5 ∨ n = 6 ∨ n = 7 ∨ n = 8 ∨ n = 9:=by omega
 rcases h2 with e | e | e | e | e | e | e | e | e | e<;>subst e<;>simp [strOfNums,wrap64]
theorem dec_step {n : Nat} (h : ¬ n < 10) : dec (n : Int) = dec ((n / 10 : Nat) : Int) ++ dec ((n % 10 : Nat) : Int):=by
 have h1 : Lib.decDigits (n % 10) = [UInt8.ofNat (48 + n % 10)]:=by rw [Lib.decDigits,dif_pos (by omega)]
 unfold dec Lib.itoa
 rw [if_neg (by omega),if_neg (by omega),if_neg (by omega),Int.toNat_natCast,Int.toNat_natCast,Int.toNat_natCast,h1,Lib.decDigits,dif_neg h]
 apply ByteArray.ext
 simp
theorem dec_size : ∀ n : Nat,(dec (n : Int)).size ≤ n + 1:=by
 intro n
 induction n using Nat.strongRecOn with
 | _ n ih =>
  by_cases h : n < 10
  ·rw [dec_small h]
   have : (strOfNums [(wrap64 (48 + (n : Int))) % 256]).size = 1:=rfl
   omega
  ·rw [dec_step h,ByteArray.size_append]
   have h1:=ih (n / 10) (by omega)
   have h2 : (dec ((n % 10 : Nat) : Int)).size = 1:=by rw [dec_small (by omega)];rfl
   omega
theorem ev_dec_all : ∀ n : Nat,n ≤ 1000001 → EvP (fun k=>spec_l6Dec.f k (n : Int)) (· = dec (n : Int)):=by
 intro n
 induction n using Nat.strongRecOn with
 | _ n ih =>
  intro hn
  refine EvP.succ ?_
  simp only [spec_l6Dec.f]
  refine EvP.neg (by omega) (EvP.neg (by omega) (EvP.ite (fun h=>EvP.ret _ (dec_small (by omega)).symm) (fun h=>?_)))
  have e1 : wrap64 (Int.tdiv (n : Int) 10) = ((n / 10 : Nat) : Int):=by
   have : Int.tdiv (n : Int) 10 = ((n / 10 : Nat) : Int):=rfl
   rw [this,w64 (by omega) (by omega)]
  have e2 : Int.tmod (n : Int) 10 = ((n % 10 : Nat) : Int):=rfl
  rw [e1,e2]
  refine EvP.bind (ih (n / 10) (by omega) (by omega)) (fun t ht=>?_)
  simp only [Option.bind_some]
  have hs:=dec_size (n / 10)
  have h1 : (strOfNums [(wrap64 (48 + ((n % 10 : Nat) : Int))) % 256]).size = 1:=rfl
  refine EvP.pos (by rw [ht];omega) (EvP.ret _ ?_)
  rw [ht,← dec_small (by omega : n % 10 < 10),← dec_step (by omega)]
def insText (w : ByteArray) (a b : Int) : ByteArray :=
 if insOk w a b = true then (if (look w insTab).2.1 = 0 then w else if (look w insTab).2.2.1 = 0 then w ++ ((⟨#[32]⟩ : ByteArray) ++ dec a) else (w ++ ((⟨#[32]⟩ : ByteArray) ++ dec a)) ++ ((⟨#[32]⟩ : ByteArray) ++ dec b)) else ⟨#[]⟩
theorem lim_num {l n : Int} (h : lim l n = true) (h1 : l ≤ 1000001) (h0 : 0 ≤ l) : 0 ≤ n ∧ n ≤ 1000001:=by
 have:=of_decide_eq_true h
 omega
theorem ins_num {w : ByteArray} {a b : Int} (h : insOk w a b = true) : (0 ≤ a ∧ a ≤ 1000001) ∧ 0 ≤ b ∧ b ≤ 1000001:=by
 obtain ⟨r0,r1,r2,r3⟩:=look_in w insTab insTab_ok
 unfold insOk at h
 rw [Bool.and_eq_true,Bool.and_eq_true] at h
 exact ⟨lim_num h.2.1 r1 r0,lim_num h.2.2 r3 r2⟩
theorem look_two_of (w : ByteArray) : ∀ T : List Tri,T.all (fun x=>decide (x.2.1 = 0 → x.2.2 = 0)) = true → (look w T).2.1 = 0 → (look w T).2.2.1 = 0
 | [],_,_=>rfl
 | x :: xs,h,h0=>by
  rw [List.all_cons,Bool.and_eq_true] at h
  unfold look at h0 ⊢
  split
  ·rename_i hc
   rw [if_pos hc] at h0
   exact of_decide_eq_true h.1 h0
  ·rename_i hc
   rw [if_neg hc] at h0
   exact look_two_of w xs h.2 h0
theorem look_two (w : ByteArray) : (look w insTab).2.1 = 0 → (look w insTab).2.2.1 = 0:=look_two_of w insTab (by decide +kernel)
theorem ev_spec_InsText (w : ByteArray) (hw : w.size ≤ 2000000) (a b : Int) : EvP (fun k=>spec_InsText.f k w a b) (· = insText w a b):=by
 unfold spec_InsText.f insText
 refine EvP.bind (ev_spec_InsOk w a b) (fun t ht=>?_)
 subst ht
 refine EvP.ite (fun h=>?_) (fun h=>EvP.ret _ (by rw [if_neg h]))
 rw [if_pos h]
 obtain ⟨⟨a0,a1⟩,b0,b1⟩:=ins_num h
 obtain ⟨r0,r1,r2,r3⟩:=look_in w insTab insTab_ok
 have sa:=dec_size a.toNat
 have sb:=dec_size b.toNat
 have da:=ev_dec_all a.toNat (by omega)
 have db:=ev_dec_all b.toNat (by omega)
 have ea : ((a.toNat : Nat) : Int) = a:=by omega
 have eb : ((b.toNat : Nat) : Int) = b:=by omega
 rw [ea] at sa da
 rw [eb] at sb db
 have s0 : (w ++ (⟨#[32]⟩ : ByteArray)).size = w.size + 1:=by rw [ByteArray.size_append];rfl
 refine EvP.bind (ev_spec_l3Needs w) (fun t ht=>?_)
 subst ht
 refine EvP.ite (fun h1=>?_) (fun h1=>?_)
 ·rw [if_neg (by omega)]
  refine EvP.pos (by omega) (EvP.bind da (fun t ht=>?_))
  subst ht
  have s1 : ((w ++ (⟨#[32]⟩ : ByteArray)) ++ dec a).size = w.size + 1 + (dec a).size:=by rw [ByteArray.size_append,s0]
  refine EvP.pos (by omega) (EvP.ite (fun h2=>?_) (fun h2=>EvP.ret _ ?_))
  ·rw [if_neg (by omega)]
   refine EvP.pos (by omega) (EvP.bind db (fun t ht=>?_))
   subst ht
   have s2 : (((w ++ (⟨#[32]⟩ : ByteArray)) ++ dec a) ++ (⟨#[32]⟩ : ByteArray)).size = w.size + 1 + (dec a).size + 1:=by rw [ByteArray.size_append,s1];rfl
   refine EvP.pos (by omega) (EvP.ret _ ?_)
   simp only [ByteArray.append_assoc]
  ·rw [if_pos (by omega)]
   simp only [ByteArray.append_assoc]
 ·have h3 : (look w insTab).2.1 = 0:=by omega
  have h4:=look_two w h3
  rw [if_pos h3]
  exact EvP.neg (by omega) (EvP.ret _ rfl)
def stepW (ws : List ByteArray) (c : UInt8) : List ByteArray:=if c = 32 then ws ++ [⟨#[]⟩] else ws.set (ws.length - 1) (ws.getD (ws.length - 1) ByteArray.empty ++ ⟨#[c]⟩)
def wordsOf (s : ByteArray) : List ByteArray:=s.data.toList.foldl stepW [⟨#[]⟩]
theorem step_last (pre : List ByteArray) (w : ByteArray) (c : UInt8) : stepW (pre ++ [w]) c = if c = 32 then (pre ++ [w]) ++ [⟨#[]⟩] else pre ++ [w ++ ⟨#[c]⟩]:=by
 unfold stepW
 have e : (pre ++ [w]).length - 1 = pre.length:=by simp
 rw [e]
 split
 ·rfl
 ·have e2 : (pre ++ [w]).getD pre.length ByteArray.empty = w:=by simp [List.getD_eq_getElem?_getD]
  rw [e2,List.set_append_right _ _ (Nat.le_refl _)]
  simp
theorem fold_pre : ∀ (l : List UInt8) (pre : List ByteArray) (w : ByteArray),l.foldl stepW (pre ++ [w]) = pre ++ l.foldl stepW [w]
 | [],pre,w=>rfl
 | c :: l,pre,w=>by
  have e1:=step_last pre w c
  have e2:=step_last [] w c
  rw [List.nil_append] at e2
  rw [List.foldl_cons,List.foldl_cons,e1,e2]
  split
  ·rw [fold_pre l (pre ++ [w]) ⟨#[]⟩,fold_pre l [w] ⟨#[]⟩,List.append_assoc]
  ·exact fold_pre l pre (w ++ ⟨#[c]⟩)
theorem fold_plain : ∀ (l : List UInt8) (w : ByteArray),(∀ c ∈ l,c ≠ 32) → l.foldl stepW [w] = [w ++ ⟨l.toArray⟩]
 | [],w,_=>by
  show [w] = [w ++ ⟨#[]⟩]
  congr 1
  apply ByteArray.ext
  simp
 | c :: l,w,h=>by
  have e2:=step_last [] w c
  rw [List.nil_append,if_neg (h c (by simp))] at e2
  rw [List.foldl_cons,e2,List.nil_append,fold_plain l _ (fun x hx=>h x (by simp [hx]))]
  congr 1
  apply ByteArray.ext
  simp
theorem words_hit {a b : List UInt8} (h : ∀ c ∈ a,c ≠ 32) : (a ++ 32 :: b).foldl stepW [⟨#[]⟩] = ⟨a.toArray⟩ :: b.foldl stepW [⟨#[]⟩]:=by
 have e : ((⟨#[]⟩ : ByteArray) ++ ⟨a.toArray⟩) = ⟨a.toArray⟩:=by apply ByteArray.ext;simp
 have e2:=step_last [] (⟨a.toArray⟩ : ByteArray) 32
 rw [List.nil_append,if_pos rfl] at e2
 rw [List.foldl_append,fold_plain a _ h,e,List.foldl_cons,e2,fold_pre]
 rfl
theorem words_plain {a : List UInt8} (h : ∀ c ∈ a,c ≠ 32) : a.foldl stepW [⟨#[]⟩] = [⟨a.toArray⟩]:=by
 have e : ((⟨#[]⟩ : ByteArray) ++ ⟨a.toArray⟩) = ⟨a.toArray⟩:=by apply ByteArray.ext;simp
 rw [fold_plain a _ h,e]
theorem split_words : ∀ (k : Nat) (s : ByteArray),Lib.countB s ⟨#[32]⟩ = k → Lib.splitB ⟨#[32]⟩ 0 k s = wordsOf s:=by
 intro k
 induction k with
 | zero =>
  intro s hk
  have hx : Lib.indexB s ⟨#[32]⟩ = Lib.indexByte s.data.toList 32:=Lib.index_one _ _
  rcases Lib.indexB_cases s ⟨#[32]⟩ with h | ⟨i,h,_⟩
  ·rw [Lib.splitB_miss _ _ _ _ h]
   rw [hx] at h
   have h2 : ∀ c ∈ s.data.toList,c ≠ 32:=by
    intro c hc e
    obtain ⟨j,hj,rfl⟩:=List.mem_iff_getElem.1 hc
    exact Lib.indexByte_none h j (by rw [List.getElem?_eq_getElem hj,e])
   unfold wordsOf
   rw [words_plain h2]
  ·have:=Lib.countB_hit s ⟨#[32]⟩ i (by decide) h
   omega
 | succ k ih =>
  intro s hk
  have hx : Lib.indexB s ⟨#[32]⟩ = Lib.indexByte s.data.toList 32:=Lib.index_one _ _
  rcases Lib.indexB_cases s ⟨#[32]⟩ with h | ⟨i,h,_⟩
  ·have:=Lib.countB_miss s ⟨#[32]⟩ h
   omega
  ·have hc:=Lib.countB_hit s ⟨#[32]⟩ i (by decide) h
   rw [Lib.splitB_hit _ _ _ _ i h,ih _ (by omega)]
   rw [hx] at h
   obtain ⟨h1,h2⟩:=Lib.indexByte_some h
   obtain ⟨hi,h3⟩:=List.getElem?_eq_some_iff.1 h1
   have e1 : s.data.toList = s.data.toList.take i ++ 32 :: s.data.toList.drop (i + 1):=by
    rw [← h3,← List.drop_eq_getElem_cons hi,List.take_append_drop]
   have h4 : ∀ c ∈ s.data.toList.take i,c ≠ 32:=by
    intro c hc e
    obtain ⟨j,hj,rfl⟩:=List.mem_iff_getElem.1 hc
    rw [List.length_take] at hj
    rw [List.getElem_take] at e
    exact h2 j (by omega) (by rw [List.getElem?_eq_getElem (by omega),e])
   have e2 : s.extract 0 (i + 0) = ⟨(s.data.toList.take i).toArray⟩:=by
    apply ByteArray.ext
    apply Array.toList_inj.1
    rw [ByteArray.data_extract,Array.toList_extract,List.extract_eq_take_drop]
    simp
   have e3 : (s.extract (i + (⟨#[32]⟩ : ByteArray).size) s.size).data.toList = s.data.toList.drop (i + 1):=by
    have : (⟨#[32]⟩ : ByteArray).size = 1:=rfl
    rw [this,ByteArray.data_extract,Array.toList_extract,List.extract_eq_take_drop]
    exact List.take_of_length_le (by simp)
   unfold wordsOf
   rw [e2,e3]
   conv=>rhs;rw [e1]
   rw [words_hit h4]
def joinD : List ByteArray → List UInt8
 | []=>[]
 | [w]=>w.data.toList
 | w :: x :: ws=>w.data.toList ++ 32 :: joinD (x :: ws)
theorem join_more : ∀ (pre : List ByteArray) (w : ByteArray) (c : UInt8),joinD (pre ++ [w ++ ⟨#[c]⟩]) = joinD (pre ++ [w]) ++ [c]
 | [],w,c=>by simp [joinD]
 | [p],w,c=>by simp [joinD]
 | p :: q :: ps,w,c=>by
  have:=join_more (q :: ps) w c
  simp only [List.cons_append] at this
  simp only [List.cons_append,joinD,this,List.append_assoc]
theorem join_next : ∀ (pre : List ByteArray) (w : ByteArray),joinD ((pre ++ [w]) ++ [⟨#[]⟩]) = joinD (pre ++ [w]) ++ [32]
 | [],w=>by simp [joinD]
 | [p],w=>by simp [joinD]
 | p :: q :: ps,w=>by
  have:=join_next (q :: ps) w
  show p.data.toList ++ 32 :: joinD ((q :: ps ++ [w]) ++ [⟨#[]⟩]) = (p.data.toList ++ 32 :: joinD (q :: ps ++ [w])) ++ [32]
  rw [this]
  simp
theorem join_fold : ∀ (l : List UInt8) (pre : List ByteArray) (w : ByteArray),joinD (l.foldl stepW (pre ++ [w])) = joinD (pre ++ [w]) ++ l
 | [],pre,w=>by simp
 | c :: l,pre,w=>by
  rw [List.foldl_cons,step_last]
  split
  ·rename_i hc
   rw [join_fold l (pre ++ [w]) ⟨#[]⟩,join_next,hc,List.append_assoc]
   rfl
  ·rw [join_fold l pre _,join_more,List.append_assoc]
   rfl
theorem join_words (s : ByteArray) : joinD (wordsOf s) = s.data.toList:=by
 have:=join_fold s.data.toList [] ⟨#[]⟩
 simpa [joinD,wordsOf] using this
theorem fold_len : ∀ (l : List UInt8) (ws : List ByteArray),ws.length ≤ (l.foldl stepW ws).length ∧ (l.foldl stepW ws).length ≤ ws.length + l.length
 | [],ws=>by simp
 | c :: l,ws=>by
  have h:=fold_len l (stepW ws c)
  have e : ws.length ≤ (stepW ws c).length ∧ (stepW ws c).length ≤ ws.length + 1:=by
   unfold stepW
   split
   ·rw [List.length_append]
    simp
   ·rw [List.length_set]
    omega
  rw [List.foldl_cons,List.length_cons]
  omega
theorem words_pos (s : ByteArray) : 1 ≤ (wordsOf s).length:=by
 have:=fold_len s.data.toList [⟨#[]⟩]
 unfold wordsOf
 simpa using this.1
def digit (c : UInt8) : Bool:=decide (48 ≤ c.toNat ∧ c.toNat ≤ 57)
def isNum (l : List UInt8) : Bool:=(decide (l ≠ []) && (decide (l.length ≤ 1) || decide (l.head? ≠ some 48))) && l.all digit
def valF (n : Nat) (c : UInt8) : Nat:=10 * n + (c.toNat - 48)
def val (l : List UInt8) : Nat:=l.foldl valF 0
theorem val_snoc (l : List UInt8) (c : UInt8) : val (l ++ [c]) = 10 * val l + (c.toNat - 48):=by
 unfold val
 rw [List.foldl_append]
 rfl
theorem dig_small {u : Nat} (h : u < 10) : Lib.decDigits u = [UInt8.ofNat (48 + u)]:=by rw [Lib.decDigits,dif_pos h]
theorem dig_big {u : Nat} (h : ¬ u < 10) : Lib.decDigits u = Lib.decDigits (u / 10) ++ [UInt8.ofNat (48 + u % 10)]:=by rw [Lib.decDigits,dif_neg h]
theorem chr_nat {d : Nat} (h : d < 10) : (UInt8.ofNat (48 + d)).toNat = 48 + d:=by
 rw [UInt8.toNat_ofNat']
 omega
theorem val_dig : ∀ u : Nat,val (Lib.decDigits u) = u:=by
 intro u
 induction u using Nat.strongRecOn with
 | _ u ih =>
  by_cases h : u < 10
  ·rw [dig_small h]
   show 10 * 0 + ((UInt8.ofNat (48 + u)).toNat - 48) = u
   rw [chr_nat h]
   omega
  ·rw [dig_big h,val_snoc,ih _ (by omega),chr_nat (by omega)]
   omega
theorem all_dig : ∀ u : Nat,(Lib.decDigits u).all digit = true:=by
 intro u
 induction u using Nat.strongRecOn with
 | _ u ih =>
  by_cases h : u < 10
  ·rw [dig_small h,List.all_cons]
   have:=chr_nat h
   simp [digit]
   omega
  ·rw [dig_big h,List.all_append,ih _ (by omega),List.all_cons]
   have:=chr_nat (d:=u % 10) (by omega)
   simp [digit]
   omega
theorem dig_ne (u : Nat) : Lib.decDigits u ≠ []:=by
 by_cases h : u < 10
 ·rw [dig_small h]
  simp
 ·rw [dig_big h]
  simp
theorem dig_head : ∀ u : Nat,1 ≤ u → (Lib.decDigits u).head? ≠ some 48:=by
 intro u
 induction u using Nat.strongRecOn with
 | _ u ih =>
  intro hu
  by_cases h : u < 10
  ·rw [dig_small h]
   intro e
   have e2:=congrArg UInt8.toNat (Option.some.inj e)
   rw [chr_nat h] at e2
   have : (48 : UInt8).toNat = 48:=rfl
   omega
  ·rw [dig_big h]
   have h1:=ih (u / 10) (by omega) (by omega)
   cases hd : Lib.decDigits (u / 10) with
   | nil=>exact absurd hd (dig_ne _)
   | cons a as_=>rw [hd] at h1;simpa using h1
theorem num_dig (u : Nat) : isNum (Lib.decDigits u) = true:=by
 unfold isNum
 rw [all_dig,Bool.and_true,Bool.and_eq_true]
 refine ⟨decide_eq_true (dig_ne u),?_⟩
 rw [Bool.or_eq_true]
 by_cases h : u < 10
 ·exact .inl (decide_eq_true (by rw [dig_small h];simp))
 ·exact .inr (decide_eq_true (dig_head u (by omega)))
theorem dig_len : ∀ (k u : Nat),u < 10 ^ (k + 1) → (Lib.decDigits u).length ≤ k + 1
 | 0,u,h=>by rw [dig_small (by simpa using h)];simp
 | k + 1,u,h=>by
  by_cases h2 : u < 10
  ·rw [dig_small h2]
   simp
  ·rw [dig_big h2,List.length_append]
   have:=dig_len k (u / 10) (by rw [Nat.pow_succ] at h;omega)
   simp
   omega
theorem val_grow : ∀ (l : List UInt8) (n : Nat),n ≤ l.foldl valF n
 | [],n=>Nat.le_refl _
 | c :: l,n=>by
  rw [List.foldl_cons]
  have:=val_grow l (valF n c)
  unfold valF at this ⊢
  omega
theorem val_pos {c : UInt8} {l : List UInt8} (h : digit c = true) (h2 : c ≠ 48) : 1 ≤ val (c :: l):=by
 have h3:=of_decide_eq_true h
 have h4 : c.toNat ≠ 48:=fun e=>h2 (by apply UInt8.toNat_inj.1;rw [e];rfl)
 have h5:=val_grow l (valF 0 c)
 have h6 : 1 ≤ valF 0 c:=by unfold valF;omega
 show 1 ≤ l.foldl valF (valF 0 c)
 omega
theorem chr_of {c : UInt8} (h : digit c = true) : UInt8.ofNat (48 + (c.toNat - 48)) = c:=by
 have h3:=of_decide_eq_true h
 apply UInt8.toNat_inj.1
 rw [UInt8.toNat_ofNat']
 omega
theorem dig_val : ∀ (n : Nat) (l : List UInt8),l.length = n → isNum l = true → Lib.decDigits (val l) = l:=by
 intro n
 induction n with
 | zero =>
  intro l hl h
  have:=List.eq_nil_of_length_eq_zero hl
  subst this
  simp [isNum] at h
 | succ n ih =>
  intro l hl h
  have hne : l ≠ []:=by intro e;rw [e] at hl;simp at hl
  obtain ⟨a,c,rfl⟩ : ∃ a c,l = a ++ [c]:=⟨l.dropLast,l.getLast hne,(List.dropLast_concat_getLast hne).symm⟩
  unfold isNum at h
  rw [Bool.and_eq_true,Bool.and_eq_true,List.all_append,Bool.and_eq_true] at h
  obtain ⟨⟨_,h1⟩,h2,h3⟩:=h
  have hc : digit c = true:=by simpa using h3
  have hd:=of_decide_eq_true hc
  rw [val_snoc]
  cases a with
  | nil =>
   have e : val [] = 0:=rfl
   rw [e,Nat.mul_zero,Nat.zero_add,dig_small (by omega),chr_of hc]
   rfl
  | cons b bs =>
   have hb : b ≠ 48:=by
    rw [Bool.or_eq_true] at h1
    rcases h1 with h1 | h1
    ·have:=of_decide_eq_true h1
     simp at this
    ·have:=of_decide_eq_true h1
     simpa using this
   have hbd : digit b = true:=by
    rw [List.all_cons,Bool.and_eq_true] at h2
    exact h2.1
   have hp:=val_pos (l:=bs) hbd hb
   have hn : isNum (b :: bs) = true:=by
    unfold isNum
    rw [h2,Bool.and_true,Bool.and_eq_true,Bool.or_eq_true]
    exact ⟨by simp,.inr (decide_eq_true (by simpa using hb))⟩
   have e1 : (10 * val (b :: bs) + (c.toNat - 48)) / 10 = val (b :: bs):=by omega
   have e2 : (10 * val (b :: bs) + (c.toNat - 48)) % 10 = c.toNat - 48:=by omega
   rw [dig_big (by omega),e1,e2,ih _ (by simpa using hl) hn,chr_of hc]
theorem bt_list {x : ByteArray} {i : Nat} (h : i < x.data.toList.length) : bt x i = ((x.data.toList[i]).toNat : Int):=bt_of (by simp at h ⊢)
theorem isNum_ok {l : List UInt8} (h0 : l ≠ []) (h1 : l.length ≤ 1 ∨ l.head? ≠ some 48) : isNum l = l.all digit:=by
 unfold isNum
 rw [decide_eq_true h0,Bool.true_and]
 have : (decide (l.length ≤ 1) || decide (l.head? ≠ some 48)) = true:=by
  rw [Bool.or_eq_true]
  rcases h1 with h | h
  ·exact .inl (decide_eq_true h)
  ·exact .inr (decide_eq_true h)
 rw [this,Bool.true_and]
theorem isNum_no {l : List UInt8} (h0 : 1 < l.length) (h1 : l.head? = some 48) : isNum l = false:=by
 unfold isNum
 rw [decide_eq_false (show ¬ l.length ≤ 1 by omega),decide_eq_false (show ¬ l.head? ≠ some 48 by simp [h1]),Bool.or_false,Bool.and_false,Bool.false_and]
theorem head_bt {x : ByteArray} (h : 0 < x.size) : x.data.toList.head? = some 48 ↔ bt x 0 = 48:=by
 have hl : 0 < x.data.toList.length:=by simpa using h
 have e:=bt_list (x:=x) (i:=0) hl
 have e0 : ((0 : Nat) : Int) = 0:=rfl
 rw [e0] at e
 rw [e,List.head?_eq_getElem?,List.getElem?_eq_getElem hl]
 constructor
 ·intro h2
  rw [Option.some.inj h2]
  rfl
 ·intro h2
  congr 1
  apply UInt8.toNat_inj.1
  have : (48 : UInt8).toNat = 48:=rfl
  omega
def l3n (x : ByteArray) : Int:=if (isNum x.data.toList && decide (x.size ≤ 8)) = true then (val x.data.toList : Int) else -1
def decn (x : ByteArray) : Int × Bool:=if (isNum x.data.toList && decide (x.size ≤ 9)) = true then ((val x.data.toList : Int),true) else (0,false)
theorem pow_nine {i : Nat} (h : i ≤ 9) : 10 ^ i ≤ 1000000000:=Nat.pow_le_pow_right (n:=10) (by decide) h
theorem ev_spec_l3Number (x : ByteArray) : EvP (fun k=>spec_l3Number.f k x) (· = l3n x):=by
 have hlen : x.data.toList.length = x.size:=by simp
 have key : x.size ≤ 9 → ∀ i,i ≤ x.size → ∀ n : Nat,n + 1 ≤ 10 ^ i → EvP (fun k=>spec_l3Number.l0 k x (n : Int) i) (· = if ((x.data.toList.drop i).all digit) = true then (((x.data.toList.drop i).foldl valF n : Nat) : Int) else -1):=by
  intro h9
  refine upInd ?_ ?_
  ·intro n hn
   refine EvP.succ ?_
   simp only [spec_l3Number.l0]
   refine EvP.neg (by omega) (EvP.ret _ ?_)
   rw [← hlen,List.drop_length]
   rfl
  ·intro i hi ih n hn
   refine EvP.succ ?_
   simp only [spec_l3Number.l0]
   have hi2 : i < x.data.toList.length:=by omega
   have hb:=bt_list hi2
   have hp:=pow_nine (i:=i) (by omega)
   have hp2 : 10 ^ (i + 1) = 10 ^ i * 10:=Nat.pow_succ 10 i
   have hc : (x.data.toList[i]).toNat < 256:=UInt8.toNat_lt _
   rw [List.drop_eq_getElem_cons hi2,List.all_cons,List.foldl_cons,hb,w64s hi (by omega)]
   generalize x.data.toList[i] = c at hc
   refine EvP.pos (by omega) (EvP.pos (by omega) (EvP.ite (fun h=>EvP.ret _ ?_) (fun h=>EvP.ite (fun h2=>EvP.ret _ ?_) (fun h2=>?_))))
   ·have : digit c = false:=decide_eq_false (by omega)
    rw [this,Bool.false_and]
    rfl
   ·have : digit c = false:=decide_eq_false (by omega)
    rw [this,Bool.false_and]
    rfl
   ·have : digit c = true:=decide_eq_true (by omega)
    rw [this,Bool.true_and]
    have e : wrap64 ((wrap64 ((n : Int) * 10)) + (((c.toNat : Int) - 48) % 256)) = ((valF n c : Nat) : Int):=by
     unfold valF
     rw [w64 (n:=(n : Int) * 10) (by omega) (by omega),w64 (by omega) (by omega)]
     omega
    rw [e]
    exact ih (valF n c) (by unfold valF;omega)
 have bad : EvP (fun k=>spec_l3Number.j0 k x true) (· = -1):=by
  refine EvP.succ ?_
  simp only [spec_l3Number.j0]
  exact EvP.pos trivial (EvP.ret _ rfl)
 have good : 0 < x.size → x.size ≤ 8 → (x.data.toList.length ≤ 1 ∨ x.data.toList.head? ≠ some 48) → EvP (fun k=>spec_l3Number.j0 k x false) (· = l3n x):=by
  intro h0 h8 h1
  refine EvP.succ ?_
  simp only [spec_l3Number.j0]
  refine EvP.neg (by simp) ((key (by omega) 0 (by omega) 0 (by simp)).mono (fun r hr=>?_))
  rw [hr,List.drop_zero]
  unfold l3n
  rw [isNum_ok (by intro e;rw [e] at hlen;simp at hlen;omega) h1,decide_eq_true h8,Bool.and_true]
  rfl
 unfold spec_l3Number.f
 refine EvP.ite (fun h=>bad.mono (fun r hr=>?_)) (fun h=>EvP.ite (fun h2=>bad.mono (fun r hr=>?_)) (fun h2=>EvP.ite (fun h3=>EvP.pos (by omega) ?_) (fun h3=>good (by omega) (by omega) (.inl (by omega)))))
 ·have e : x.data.toList = []:=List.eq_nil_of_length_eq_zero (by omega)
  unfold l3n
  rw [hr,e]
  rfl
 ·unfold l3n
  rw [hr,decide_eq_false (show ¬ x.size ≤ 8 by omega),Bool.and_false]
  rfl
 ·by_cases h4 : bt x 0 = 48
  ·have e : (bt x 0 == 48) = true:=beq_iff_eq.2 h4
   rw [e]
   refine bad.mono (fun r hr=>?_)
   unfold l3n
   rw [hr,isNum_no (by omega) ((head_bt (by omega)).2 h4),Bool.false_and]
   rfl
  ·have e : (bt x 0 == 48) = false:=beq_eq_false_iff_ne.2 h4
   rw [e]
   exact good (by omega) (by omega) (.inr (fun h5=>h4 ((head_bt (by omega)).1 h5)))
theorem ev_impl_decimal (x : ByteArray) : EvP (fun k=>impl_decimal.f k x) (· = decn x):=by
 have hlen : x.data.toList.length = x.size:=by simp
 have key : x.size ≤ 9 → ∀ i,i ≤ x.size → ∀ n : Nat,n + 1 ≤ 10 ^ i → EvP (fun k=>impl_decimal.l0 k x (n : Int) (x.size : Int) i) (· = if ((x.data.toList.drop i).all digit) = true then ((((x.data.toList.drop i).foldl valF n : Nat) : Int),true) else (0,false)):=by
  intro h9
  refine upInd ?_ ?_
  ·intro n hn
   refine EvP.succ ?_
   simp only [impl_decimal.l0]
   refine EvP.neg (by omega) (EvP.ret _ ?_)
   rw [← hlen,List.drop_length]
   rfl
  ·intro i hi ih n hn
   refine EvP.succ ?_
   simp only [impl_decimal.l0]
   have hi2 : i < x.data.toList.length:=by omega
   have hb:=bt_list hi2
   have hp:=pow_nine (i:=i) (by omega)
   have hp2 : 10 ^ (i + 1) = 10 ^ i * 10:=Nat.pow_succ 10 i
   have hc : (x.data.toList[i]).toNat < 256:=UInt8.toNat_lt _
   rw [List.drop_eq_getElem_cons hi2,List.all_cons,List.foldl_cons,hb,w64s hi (by omega)]
   generalize x.data.toList[i] = c at hc
   refine EvP.pos (by omega) (EvP.pos (by omega) (EvP.pos (by omega) (EvP.ite (fun h=>EvP.ret _ ?_) (fun h=>EvP.ite (fun h2=>EvP.ret _ ?_) (fun h2=>?_)))))
   ·have : digit c = false:=decide_eq_false (by omega)
    rw [this,Bool.false_and]
    rfl
   ·have : digit c = false:=decide_eq_false (by omega)
    rw [this,Bool.false_and]
    rfl
   ·have : digit c = true:=decide_eq_true (by omega)
    rw [this,Bool.true_and]
    have e : wrap64 ((wrap64 (10 * (n : Int))) + (((c.toNat : Int) - 48) % 256)) = ((valF n c : Nat) : Int):=by
     unfold valF
     rw [w64 (n:=10 * (n : Int)) (by omega) (by omega),w64 (by omega) (by omega)]
     omega
    rw [e]
    exact ih (valF n c) (by unfold valF;omega)
 have bad : EvP (fun k=>impl_decimal.j0 k x true) (· = (0,false)):=by
  refine EvP.succ ?_
  simp only [impl_decimal.j0]
  exact EvP.pos trivial (EvP.ret _ rfl)
 have good : 0 < x.size → x.size ≤ 9 → (x.data.toList.length ≤ 1 ∨ x.data.toList.head? ≠ some 48) → EvP (fun k=>impl_decimal.j0 k x false) (· = decn x):=by
  intro h0 h8 h1
  refine EvP.succ ?_
  simp only [impl_decimal.j0]
  refine EvP.neg (by simp) ((key (by omega) 0 (by omega) 0 (by simp)).mono (fun r hr=>?_))
  rw [hr,List.drop_zero]
  unfold decn
  rw [isNum_ok (by intro e;rw [e] at hlen;simp at hlen;omega) h1,decide_eq_true h8,Bool.and_true]
  rfl
 unfold impl_decimal.f
 refine EvP.ite (fun h=>bad.mono (fun r hr=>?_)) (fun h=>EvP.ite (fun h2=>bad.mono (fun r hr=>?_)) (fun h2=>EvP.ite (fun h3=>EvP.pos (by omega) ?_) (fun h3=>good ?_ (by omega) (.inl (by omega)))))
 ·have e0:=congrArg List.length h
  rw [list_size,List.length_nil] at e0
  have e : x.data.toList = []:=List.eq_nil_of_length_eq_zero (by omega)
  unfold decn
  rw [hr,e]
  rfl
 ·unfold decn
  rw [hr,decide_eq_false (show ¬ x.size ≤ 9 by omega),Bool.and_false]
  rfl
 ·by_cases h4 : bt x 0 = 48
  ·have e : (bt x 0 == 48) = true:=beq_iff_eq.2 h4
   rw [e]
   refine bad.mono (fun r hr=>?_)
   unfold decn
   rw [hr,isNum_no (by omega) ((head_bt (by omega)).2 h4),Bool.false_and]
   rfl
  ·have e : (bt x 0 == 48) = false:=beq_eq_false_iff_ne.2 h4
   rw [e]
   exact good (by omega) (by omega) (.inr (fun h5=>h4 ((head_bt (by omega)).1 h5)))
 ·rcases Nat.eq_zero_or_pos x.size with e | e
  ·exact absurd (List.eq_nil_of_length_eq_zero (by rw [list_size];exact e)) h
  ·exact e
theorem dec_list (n : Nat) : (dec (n : Int)).data.toList = Lib.decDigits n:=by
 unfold dec Lib.itoa
 rw [if_neg (by omega),Int.toNat_natCast]
theorem l3n_dec {n : Nat} (h : n ≤ 1000001) : l3n (dec (n : Int)) = n:=by
 have hl:=dig_len 7 n (by omega)
 have hs : (dec (n : Int)).size ≤ 8:=by
  have:=congrArg List.length (dec_list n)
  have e : (dec (n : Int)).data.toList.length = (dec (n : Int)).size:=by simp
  omega
 unfold l3n
 rw [dec_list,num_dig,decide_eq_true hs,val_dig]
 rfl
theorem decn_dec {n : Nat} (h : n ≤ 1000001) : decn (dec (n : Int)) = ((n : Int),true):=by
 have hl:=dig_len 7 n (by omega)
 have hs : (dec (n : Int)).size ≤ 9:=by
  have:=congrArg List.length (dec_list n)
  have e : (dec (n : Int)).data.toList.length = (dec (n : Int)).size:=by simp
  omega
 unfold decn
 rw [dec_list,num_dig,decide_eq_true hs,val_dig]
 rfl
theorem dec_of {x : ByteArray} (h : (decn x).2 = true) : ∃ n : Nat,x = dec (n : Int) ∧ decn x = ((n : Int),true):=by
 unfold decn at h ⊢
 split at h
 ·rename_i hc
  rw [if_pos hc]
  rw [Bool.and_eq_true] at hc
  refine ⟨val x.data.toList,?_,rfl⟩
  apply ByteArray.ext
  apply Array.toList_inj.1
  rw [dec_list,dig_val _ _ rfl hc.1]
 ·cases h
theorem fold_size : ∀ (l : List UInt8) (ws : List ByteArray) (B : Nat),(∀ w ∈ ws,w.size ≤ B) → ∀ w ∈ l.foldl stepW ws,w.size ≤ B + l.length
 | [],ws,B,h,w,hw=>h w hw
 | c :: l,ws,B,h,w,hw=>by
  rw [List.foldl_cons] at hw
  have h2 : ∀ w ∈ stepW ws c,w.size ≤ B + 1:=by
   intro y hy
   unfold stepW at hy
   split at hy
   ·rcases List.mem_append.1 hy with h3 | h3
    ·have:=h y h3
     omega
    ·rw [List.mem_singleton.1 h3]
     show 0 ≤ B + 1
     omega
   ·rcases List.mem_or_eq_of_mem_set hy with h3 | h3
    ·have:=h y h3
     omega
    ·rw [h3,ByteArray.size_append]
     have h4 : (ws.getD (ws.length - 1) ByteArray.empty).size ≤ B:=by
      rw [List.getD_eq_getElem?_getD]
      cases e : ws[ws.length - 1]? with
      | none=>exact Nat.zero_le _
      | some y=>exact h y (List.mem_of_getElem? e)
     have h5 : (⟨#[c]⟩ : ByteArray).size = 1:=rfl
     omega
  have:=fold_size l _ (B + 1) h2 w hw
  rw [List.length_cons]
  omega
theorem ev_spec_l3Words (s : ByteArray) (hs : s.size ≤ 1000000) : EvP (fun k=>spec_l3Words.f k s) (· = wordsOf s):=by
 have hlen : s.data.toList.length = s.size:=by simp
 have key : ∀ i,i ≤ s.size → ∀ ws : List ByteArray,ws = (s.data.toList.take i).foldl stepW [⟨#[]⟩] → EvP (fun k=>spec_l3Words.l0 k s ws i) (· = wordsOf s):=by
  refine upInd ?_ ?_
  ·intro ws hw
   refine EvP.succ ?_
   simp only [spec_l3Words.l0]
   refine EvP.neg (by omega) (EvP.ret _ ?_)
   rw [hw,List.take_of_length_le (by omega)]
   rfl
  ·intro i hi ih ws hw
   refine EvP.succ ?_
   simp only [spec_l3Words.l0]
   have hi2 : i < s.data.toList.length:=by omega
   have hb:=bt_list hi2
   have hl:=fold_len (s.data.toList.take i) [⟨#[]⟩]
   have hz:=fold_size (s.data.toList.take i) [⟨#[]⟩] 0 (by intro w hw2;rw [List.mem_singleton.1 hw2];exact Nat.le_refl _)
   rw [← hw] at hl hz
   have ht : (s.data.toList.take i).length = i:=by rw [List.length_take];omega
   rw [ht] at hl hz
   have hl1 : 1 ≤ ws.length:=by simpa using hl.1
   have hl2 : ws.length ≤ 1 + i:=by simpa using hl.2
   have hn : (s.data.toList.take (i + 1)).foldl stepW [⟨#[]⟩] = stepW ws s.data.toList[i]:=by
    rw [List.take_succ_eq_append_getElem hi2,List.foldl_append,← hw]
    rfl
   rw [hb,w64s hi (by omega)]
   have h32 : (32 : UInt8).toNat = 32:=rfl
   refine EvP.pos (by omega) (EvP.pos (by omega) (EvP.ite (fun h=>?_) (fun h=>?_)))
   ·have hc : s.data.toList[i] = 32:=by apply UInt8.toNat_inj.1;omega
    refine EvP.pos (by omega) (ih _ ?_)
    rw [hn]
    unfold stepW
    rw [if_pos hc]
   ·have hc : s.data.toList[i] ≠ 32:=by intro e;apply h;rw [e];rfl
    have e1 : wrap64 ((ws.length : Int) - 1) = ((ws.length - 1 : Nat) : Int):=by rw [w64 (by omega) (by omega)];omega
    have e2 : rdOf ByteArray.empty ws ((ws.length - 1 : Nat) : Int) = ws.getD (ws.length - 1) ByteArray.empty:=by rw [← Int.toNat_natCast (ws.length - 1)];rfl
    have e3 : s.extract ((i : Int)).toNat (((i + 1 : Nat) : Int)).toNat = ⟨#[s.data.toList[i]]⟩:=by
     rw [Int.toNat_natCast,Int.toNat_natCast]
     apply ByteArray.ext
     apply Array.toList_inj.1
     rw [ByteArray.data_extract,Array.toList_extract,List.extract_eq_take_drop]
     rw [show i + 1 - i = 1 by omega,List.drop_eq_getElem_cons hi2]
     rfl
    have e4 : (ws.getD (ws.length - 1) ByteArray.empty).size ≤ i:=by
     rw [List.getD_eq_getElem?_getD]
     cases e : ws[ws.length - 1]? with
     | none=>exact Nat.zero_le _
     | some y=>have:=hz y (List.mem_of_getElem? e);simpa using this
    have e5 : (⟨#[s.data.toList[i]]⟩ : ByteArray).size = 1:=rfl
    rw [e1,e2,e3]
    refine EvP.pos (by omega) (EvP.pos (by omega) (EvP.pos (by omega) (EvP.pos (by omega) (EvP.pos (by omega) (ih _ ?_)))))
    rw [hn,Int.toNat_natCast]
    unfold stepW
    rw [if_neg hc]
 unfold spec_l3Words.f
 exact key 0 (by omega) _ rfl
abbrev sp : ByteArray:=⟨#[32]⟩
def no32 (x : ByteArray) : Prop:=∀ c ∈ x.data.toList,c ≠ 32
theorem mk_list (x : ByteArray) : (⟨x.data.toList.toArray⟩ : ByteArray) = x:=by apply ByteArray.ext;simp
theorem words1 {w : ByteArray} (h : no32 w) : wordsOf w = [w]:=by
 unfold wordsOf
 rw [words_plain h,mk_list]
theorem words2 {w x : ByteArray} (h : no32 w) (h2 : no32 x) : wordsOf (w ++ (sp ++ x)) = [w,x]:=by
 have e : (w ++ (sp ++ x)).data.toList = w.data.toList ++ 32 :: x.data.toList:=by simp
 unfold wordsOf
 rw [e,words_hit h,words_plain h2,mk_list,mk_list]
theorem words3 {w x y : ByteArray} (h : no32 w) (h2 : no32 x) (h3 : no32 y) : wordsOf ((w ++ (sp ++ x)) ++ (sp ++ y)) = [w,x,y]:=by
 have e : ((w ++ (sp ++ x)) ++ (sp ++ y)).data.toList = w.data.toList ++ 32 :: (x.data.toList ++ 32 :: y.data.toList):=by simp
 unfold wordsOf
 rw [e,words_hit h,words_hit h2,words_plain h3,mk_list,mk_list,mk_list]
theorem joined1 {s w : ByteArray} (h : wordsOf s = [w]) : s = w:=by
 have e:=join_words s
 rw [h] at e
 apply ByteArray.ext
 apply Array.toList_inj.1
 rw [← e]
 rfl
theorem joined2 {s w x : ByteArray} (h : wordsOf s = [w,x]) : s = w ++ (sp ++ x):=by
 have e:=join_words s
 rw [h] at e
 apply ByteArray.ext
 apply Array.toList_inj.1
 rw [← e]
 simp [joinD]
theorem joined3 {s w x y : ByteArray} (h : wordsOf s = [w,x,y]) : s = (w ++ (sp ++ x)) ++ (sp ++ y):=by
 have e:=join_words s
 rw [h] at e
 apply ByteArray.ext
 apply Array.toList_inj.1
 rw [← e]
 simp [joinD]
theorem dec_no32 (n : Nat) : no32 (dec (n : Int)):=by
 intro c hc e
 rw [dec_list] at hc
 have:=List.all_eq_true.1 (all_dig n) c hc
 rw [e] at this
 exact absurd (of_decide_eq_true this) (by decide)
theorem look_plain (w : ByteArray) : ∀ T : List Tri,T.all (fun x=>decide (x.1.size ≤ 20) && x.1.data.toList.all (fun c=>decide (c ≠ 32))) = true → (look w T).2.2.2 = true → w.size ≤ 20 ∧ no32 w
 | [],_,h=>by unfold look at h;cases h
 | x :: xs,h,h2=>by
  rw [List.all_cons,Bool.and_eq_true] at h
  unfold look at h2
  split at h2
  ·rename_i hc
   have e : x.1 = w:=bytes_ext hc
   rw [← e]
   rw [Bool.and_eq_true] at h
   exact ⟨of_decide_eq_true h.1.1,fun c hc2=>of_decide_eq_true (List.all_eq_true.1 h.1.2 c hc2)⟩
  ·exact look_plain w xs h.2 h2
theorem word_plain {w : ByteArray} (h : (look w insTab).2.2.2 = true) : w.size ≤ 20 ∧ no32 w:=look_plain w insTab (by decide +kernel) h
theorem insOk_word {w : ByteArray} {a b : Int} (h : insOk w a b = true) : (look w insTab).2.2.2 = true:=by
 unfold insOk at h
 rw [Bool.and_eq_true] at h
 exact h.1
def manyOf (w : ByteArray) : Nat:=if (look w insTab).2.1 = 0 then 0 else if (look w insTab).2.2.1 = 0 then 1 else 2
theorem text_words {w : ByteArray} {a b : Int} (h : insOk w a b = true) : (manyOf w = 0 → insText w a b = w) ∧ (manyOf w = 1 → insText w a b = w ++ (sp ++ dec a)) ∧ (manyOf w = 2 → insText w a b = (w ++ (sp ++ dec a)) ++ (sp ++ dec b)):=by
 unfold manyOf insText
 rw [if_pos h]
 by_cases h1 : (look w insTab).2.1 = 0
 ·rw [if_pos h1,if_pos h1]
  exact ⟨fun _=>rfl,fun e=>by omega,fun e=>by omega⟩
 ·rw [if_neg h1,if_neg h1]
  by_cases h2 : (look w insTab).2.2.1 = 0
  ·rw [if_pos h2,if_pos h2]
   exact ⟨fun e=>by omega,fun _=>rfl,fun e=>by omega⟩
  ·rw [if_neg h2,if_neg h2]
   exact ⟨fun e=>by omega,fun e=>by omega,fun _=>rfl⟩
theorem many_le (w : ByteArray) : manyOf w = 0 ∨ manyOf w = 1 ∨ manyOf w = 2:=by
 unfold manyOf
 split
 ·exact .inl rfl
 ·split
  ·exact .inr (.inl rfl)
  ·exact .inr (.inr rfl)
abbrev badIns : ByteArray × Int × Int × Bool:=(⟨#[]⟩,0,0,false)
def readIns (s : ByteArray) : ByteArray × Int × Int × Bool :=
 let w:=(wordsOf s).getD 0 ByteArray.empty
 let a:=if (wordsOf s).length > 1 then l3n ((wordsOf s).getD 1 ByteArray.empty) else 0
 let b:=if (wordsOf s).length > 2 then l3n ((wordsOf s).getD 2 ByteArray.empty) else 0
 if insOk w a b = true ∧ insText w a b = s then (w,a,b,true) else badIns
theorem text_size {w : ByteArray} {a b : Int} (h : insOk w a b = true) : (insText w a b).size ≤ 40:=by
 obtain ⟨⟨a0,a1⟩,b0,b1⟩:=ins_num h
 have hw:=(word_plain (insOk_word h)).1
 have sz : ∀ n : Nat,n ≤ 1000001 → (dec (n : Int)).size ≤ 7:=by
  intro n hn
  have h1:=dig_len 6 n (by omega)
  have h2:=congrArg List.length (dec_list n)
  have e : (dec (n : Int)).data.toList.length = (dec (n : Int)).size:=by simp
  omega
 have sa:=sz a.toNat (by omega)
 have sb:=sz b.toNat (by omega)
 have ea : ((a.toNat : Nat) : Int) = a:=by omega
 have eb : ((b.toNat : Nat) : Int) = b:=by omega
 rw [ea] at sa
 rw [eb] at sb
 have s1 : sp.size = 1:=rfl
 obtain ⟨t0,t1,t2⟩:=text_words h
 rcases many_le w with m | m | m
 ·rw [t0 m]
  omega
 ·rw [t1 m,ByteArray.size_append,ByteArray.size_append]
  omega
 ·rw [t2 m,ByteArray.size_append,ByteArray.size_append,ByteArray.size_append,ByteArray.size_append]
  omega
theorem ev_spec_InsRead (s : ByteArray) : EvP (fun k=>spec_InsRead.f k s) (· = readIns s):=by
 unfold spec_InsRead.f
 refine EvP.ite (fun h=>EvP.ret _ ?_) (fun h=>?_)
 ·unfold readIns
  simp only
  rw [if_neg]
  rintro ⟨h1,h2⟩
  have:=text_size h1
  rw [h2] at this
  omega
 ·refine EvP.bind (ev_spec_l3Words s (by omega)) (fun t ht=>?_)
  subst ht
  have hp:=words_pos s
  have hz : ∀ x ∈ wordsOf s,x.size ≤ 2000:=by
   intro x hx
   have:=fold_size s.data.toList [⟨#[]⟩] 0 (by intro w hw;rw [List.mem_singleton.1 hw];exact Nat.le_refl _) x hx
   have e : s.data.toList.length = s.size:=by simp
   omega
  have hz0 : ((wordsOf s).getD 0 ByteArray.empty).size ≤ 2000:=by
   rw [List.getD_eq_getElem?_getD,List.getElem?_eq_getElem (by omega)]
   exact hz _ (List.getElem_mem _)
  have j1 : ∀ a b : Int,EvP (fun k=>spec_InsRead.j1 k s ((wordsOf s).getD 0 ByteArray.empty) a b) (· = if insOk ((wordsOf s).getD 0 ByteArray.empty) a b = true ∧ insText ((wordsOf s).getD 0 ByteArray.empty) a b = s then ((wordsOf s).getD 0 ByteArray.empty,a,b,true) else badIns):=by
   intro a b
   refine EvP.succ ?_
   simp only [spec_InsRead.j1]
   refine EvP.bind (ev_spec_InsOk _ a b) (fun t ht=>EvP.ite (fun h1=>?_) (fun h1=>EvP.ret _ ?_))
   ·rw [ht] at h1
    refine EvP.bind (ev_spec_InsText _ (by omega) a b) (fun u hu=>EvP.ite (fun h2=>EvP.ret _ ?_) (fun h2=>EvP.ret _ ?_))
    ·rw [if_pos ⟨h1,by rw [← hu];exact bytes_ext h2⟩]
    ·rw [if_neg]
     rintro ⟨_,h3⟩
     rw [hu,h3] at h2
     exact h2 rfl
   ·rw [ht] at h1
    rw [if_neg (fun h2=>h1 h2.1)]
  have j0 : ∀ a b : Int,b = (if (wordsOf s).length > 2 then l3n ((wordsOf s).getD 2 ByteArray.empty) else 0) → EvP (fun k=>spec_InsRead.j0 k s (wordsOf s) ((wordsOf s).getD 0 ByteArray.empty) a 0) (· = if insOk ((wordsOf s).getD 0 ByteArray.empty) a b = true ∧ insText ((wordsOf s).getD 0 ByteArray.empty) a b = s then ((wordsOf s).getD 0 ByteArray.empty,a,b,true) else badIns):=by
   intro a b hb
   refine EvP.succ ?_
   simp only [spec_InsRead.j0]
   refine EvP.ite (fun h1=>EvP.pos (by omega) ?_) (fun h1=>?_)
   ·have e : b = l3n ((wordsOf s).getD 2 ByteArray.empty):=by rw [hb];exact if_pos (by omega)
    subst e
    refine EvP.bind (ev_spec_l3Number _) (fun t ht=>?_)
    subst ht
    exact j1 _ _
   ·have e : b = 0:=by rw [hb];exact if_neg (by omega)
    subst e
    exact j1 _ _
  refine EvP.pos (by omega) (EvP.ite (fun h1=>EvP.pos (by omega) ?_) (fun h1=>?_))
  ·refine EvP.bind (ev_spec_l3Number _) (fun t ht=>?_)
   subst ht
   refine (j0 _ _ rfl).mono (fun r hr=>?_)
   rw [hr]
   unfold readIns
   simp only
   rw [if_pos (show (wordsOf s).length > 1 by omega)]
   rfl
  ·refine (j0 0 _ rfl).mono (fun r hr=>?_)
   rw [hr]
   unfold readIns
   simp only
   rw [if_neg (show ¬ (wordsOf s).length > 1 by omega)]
theorem l3n_cases {n : Nat} : l3n (dec (n : Int)) = n ∨ l3n (dec (n : Int)) = -1:=by
 unfold l3n
 split
 ·rw [dec_list,val_dig]
  exact .inl rfl
 ·exact .inr rfl
theorem list_two (l : List ByteArray) (h : l.length = 2) : ∃ a b,l = [a,b]:=by
 match l,h with
 | [a,b],_=>exact ⟨a,b,rfl⟩
theorem list_three (l : List ByteArray) (h : l.length = 3) : ∃ a b c,l = [a,b,c]:=by
 match l,h with
 | [a,b,c],_=>exact ⟨a,b,c,rfl⟩
theorem ev_impl_InsRead (s : ByteArray) (hs : s.size ≤ 1048576) : EvP (fun k=>impl_InsRead.f k s) (· = readIns s):=by
 have hsplit : strings_Split.f s (⟨#[32]⟩ : ByteArray) = some (wordsOf s):=by
  unfold strings_Split.f
  rw [if_pos ⟨by omega,by decide⟩,split_words _ s rfl]
 have hp:=words_pos s
 unfold impl_InsRead.f
 refine EvP.call hsplit (EvP.pos (by omega) ?_)
 have e01 : wrap64 (0 + 1) = 1:=by rw [w64 (by omega) (by omega)];rfl
 have e12 : wrap64 (1 + 1) = 2:=by rw [w64 (by omega) (by omega)];rfl
 obtain ⟨w,hw⟩ : ∃ w,(wordsOf s).getD 0 ByteArray.empty = w:=⟨_,rfl⟩
 have hw2 : rdOf ByteArray.empty (wordsOf s) 0 = w:=hw
 rw [hw2]
 refine EvP.bind (ev_impl_formOf w) (fun t ht=>?_)
 subst ht
 have bad : EvP (fun k=>impl_InsRead.j0 k (wordsOf s) true) (· = badIns):=by
  refine EvP.succ ?_
  simp only [impl_InsRead.j0]
  exact EvP.pos trivial (EvP.ret _ rfl)
 have no : (∀ a b,insOk w a b = true → insText w a b = s → (1 < (wordsOf s).length → l3n ((wordsOf s).getD 1 ByteArray.empty) = a) → (2 < (wordsOf s).length → l3n ((wordsOf s).getD 2 ByteArray.empty) = b) → False) → readIns s = badIns:=by
  intro h
  unfold readIns
  simp only [hw]
  rw [if_neg]
  rintro ⟨h1,h2⟩
  exact h _ _ h1 h2 (fun h3=>by rw [if_pos (by omega)]) (fun h3=>by rw [if_pos (by omega)])
 refine EvP.ite (fun hok=>?_) (fun hok=>bad.mono (fun r hr=>by rw [hr,no (fun a b h1 _ _ _=>hok (insOk_word h1))]))
 have many : impl_insForm_many.f (look w insTab).1 (look w insTab).2.1 (look w insTab).2.2.1 = some (manyOf w : Int):=by
  unfold impl_insForm_many.f manyOf
  by_cases h1 : (look w insTab).2.1 = 0
  ·rw [if_pos h1,if_pos h1]
   rfl
  ·rw [if_neg h1,if_neg h1]
   by_cases h2 : (look w insTab).2.2.1 = 0
   ·rw [if_pos h2,if_pos h2]
    rfl
   ·rw [if_neg h2,if_neg h2]
    rfl
 refine EvP.call many ?_
 obtain ⟨hwz,hw32⟩:=word_plain hok
 have hm:=many_le w
 have e1 : wrap64 (1 + (manyOf w : Int)) = ((1 + manyOf w : Nat) : Int):=by rw [w64 (by omega) (by omega)];omega
 rw [e1]
 have wlen : ∀ a b,insOk w a b = true → insText w a b = s → wordsOf s = (if manyOf w = 0 then [w] else if manyOf w = 1 then [w,dec a] else [w,dec a,dec b]):=by
  intro a b h1 h2
  obtain ⟨⟨a0,a1⟩,b0,b1⟩:=ins_num h1
  have ea : ((a.toNat : Nat) : Int) = a:=by omega
  have eb : ((b.toNat : Nat) : Int) = b:=by omega
  have na:=dec_no32 a.toNat
  have nb:=dec_no32 b.toNat
  rw [ea] at na
  rw [eb] at nb
  obtain ⟨t0,t1,t2⟩:=text_words h1
  rw [← h2]
  rcases hm with m | m | m
  ·rw [t0 m,if_pos m,words1 hw32]
  ·rw [t1 m,if_neg (by omega),if_pos m,words2 hw32 na]
  ·rw [t2 m,if_neg (by omega),if_neg (by omega),words3 hw32 na nb]
 by_cases hl : (wordsOf s).length = 1 + manyOf w
 ·have e2 : (((wordsOf s).length : Int) != ((1 + manyOf w : Nat) : Int)) = false:=by rw [hl];simp
  rw [e2]
  refine EvP.succ ?_
  simp only [impl_InsRead.j0]
  refine EvP.neg (by simp) (EvP.pos (by omega) (EvP.pos (by omega) ?_))
  simp only [Option.bind_some]
  rw [hw2]
  have fin : ∀ (xs : List ByteArray) (i : Nat) (a b : Int),i = xs.length → EvP (fun k=>impl_InsRead.l0 k xs (xs.length : Int) i w a b) (· = if insOk w a b = true then (w,a,b,true) else badIns):=by
   intro xs i a b hi
   subst hi
   refine EvP.succ ?_
   simp only [impl_InsRead.l0]
   refine EvP.neg (by omega) (EvP.bind (ev_impl_InsOk w a b) (fun t ht=>EvP.ite (fun h=>EvP.ret _ ?_) (fun h=>EvP.ret _ ?_)))
   ·rw [if_pos (by rw [← ht];exact h)]
   ·rw [if_neg (by rw [← ht];exact h)]
  rcases hm with m | m | m
  ·-- no number
   rw [m] at hl
   obtain ⟨w',hws⟩ : ∃ w',wordsOf s = [w']:=List.length_eq_one_iff.1 (by omega)
   have ew : w' = w:=by rw [hws] at hw;exact hw
   subst ew
   rw [hws]
   have hs1:=joined1 hws
   have h0 : (look w' insTab).2.1 = 0:=by
    unfold manyOf at m
    by_cases h : (look w' insTab).2.1 = 0
    ·exact h
    ·rw [if_neg h] at m
     split at m<;>omega
   have h1:=look_two w' h0
   have ok : insOk w' 0 0 = true:=by
    unfold insOk
    rw [hok,h0,h1]
    rfl
   refine (fin [] 0 0 0 rfl).mono (fun r hr=>?_)
   rw [hr,if_pos ok]
   unfold readIns
   simp only [hws]
   have ht:=(text_words ok).1 m
   exact (if_pos ⟨ok,by rw [hs1];exact ht⟩).symm
  ·-- one number
   rw [m] at hl
   obtain ⟨w',x,hws⟩ : ∃ w' x,wordsOf s = [w',x]:=list_two _ (by omega)
   have ew : w' = w:=by rw [hws] at hw;exact hw
   subst ew
   rw [hws]
   have hs2:=joined2 hws
   refine EvP.succ ?_
   simp only [impl_InsRead.l0]
   show EvP (fun k=>if (0 : Int) < 1 then (if (0 : Int) ≤ 0 then (if (0 : Int) < 1 then ((impl_decimal.f k x).bind fun bt246=>(if bt246.2 = true then (if (0 : Int) = 0 then (impl_InsRead.l0 k [x] 1 (wrap64 (0 + 1)) w' bt246.1 0) else (impl_InsRead.l0 k [x] 1 (wrap64 (0 + 1)) w' 0 bt246.1)) else (some badIns))) else none) else none) else _) _
   refine EvP.pos (by omega) (EvP.pos (by omega) (EvP.pos (by omega) (EvP.bind (ev_impl_decimal x) (fun t ht=>?_))))
   subst ht
   refine EvP.ite (fun h=>EvP.pos rfl ?_) (fun h=>EvP.ret _ ?_)
   ·obtain ⟨n,rfl,hd⟩:=dec_of h
    rw [hd,e01]
    show EvP (fun k=>impl_InsRead.l0 k [dec (n : Int)] 1 1 w' (n : Int) 0) _
    refine (fin [dec (n : Int)] 1 n 0 rfl).mono (fun r hr=>?_)
    rw [hr]
    by_cases ok : insOk w' n 0 = true
    ·rw [if_pos ok]
     have hn:=(ins_num ok).1
     have ht:=(text_words ok).2.1 m
     unfold readIns
     simp only [hws]
     have e3 : l3n (dec (n : Int)) = n:=l3n_dec (by omega)
     show _ = if insOk w' (l3n (dec (n : Int))) 0 = true ∧ insText w' (l3n (dec (n : Int))) 0 = s then (w',l3n (dec (n : Int)),0,true) else badIns
     rw [e3,if_pos ⟨ok,by rw [ht];exact hs2.symm⟩]
    ·rw [if_neg ok]
     refine (no (fun a b h1 h2 h3 _=>?_)).symm
     have e4 : l3n (dec (n : Int)) = a:=by have:=h3 (by rw [hws];simp);rw [hws] at this;exact this
     have hb : b = 0 ∨ True:=.inr trivial
     have e5:=wlen a b h1 h2
     rw [hws,if_neg (by omega),if_pos m] at e5
     injection e5 with _ e5
     injection e5 with e5 _
     obtain ⟨⟨a0,a1⟩,b0,b1⟩:=ins_num h1
     rcases l3n_cases (n:=n) with e6 | e6
     ·rw [e4] at e6
      have hb0 : b = 0:=by
       have hB : (look w' insTab).2.2.1 = 0:=by
        unfold manyOf at m
        split at m
        ·omega
        ·split at m
         ·assumption
         ·omega
       unfold insOk at h1
       rw [Bool.and_eq_true,Bool.and_eq_true,hB] at h1
       have:=of_decide_eq_true h1.2.2
       omega
      rw [e6,hb0] at h1
      exact ok h1
     ·omega
   ·refine (no (fun a b h1 h2 _ _=>?_)).symm
    have e5:=wlen a b h1 h2
    rw [hws,if_neg (by omega),if_pos m] at e5
    injection e5 with _ e5
    injection e5 with e5 _
    obtain ⟨⟨a0,a1⟩,b0,b1⟩:=ins_num h1
    have hd:=decn_dec (n:=a.toNat) (by omega)
    have ea : ((a.toNat : Nat) : Int) = a:=by omega
    rw [ea,← e5] at hd
    rw [hd] at h
    exact h rfl
  ·-- two numbers
   rw [m] at hl
   obtain ⟨w',x,y,hws⟩ : ∃ w' x y,wordsOf s = [w',x,y]:=list_three _ (by omega)
   have ew : w' = w:=by rw [hws] at hw;exact hw
   subst ew
   rw [hws]
   have hs3:=joined3 hws
   have badx : ∀ a b,insOk w' a b = true → insText w' a b = s → (decn x).2 = true ∧ (decn y).2 = true:=by
    intro a b h1 h2
    have e5:=wlen a b h1 h2
    rw [hws,if_neg (by omega),if_neg (by omega)] at e5
    injection e5 with _ e5
    injection e5 with e5 e6
    injection e6 with e6 _
    obtain ⟨⟨a0,a1⟩,b0,b1⟩:=ins_num h1
    have hd:=decn_dec (n:=a.toNat) (by omega)
    have ea : ((a.toNat : Nat) : Int) = a:=by omega
    have hd2:=decn_dec (n:=b.toNat) (by omega)
    have eb : ((b.toNat : Nat) : Int) = b:=by omega
    rw [ea,← e5] at hd
    rw [eb,← e6] at hd2
    rw [hd,hd2]
    exact ⟨rfl,rfl⟩
   refine EvP.succ ?_
   simp only [impl_InsRead.l0]
   show EvP (fun k=>if (0 : Int) < 2 then (if (0 : Int) ≤ 0 then (if (0 : Int) < 2 then ((impl_decimal.f k x).bind fun bt246=>(if bt246.2 = true then (if (0 : Int) = 0 then (impl_InsRead.l0 k [x,y] 2 (wrap64 (0 + 1)) w' bt246.1 0) else (impl_InsRead.l0 k [x,y] 2 (wrap64 (0 + 1)) w' 0 bt246.1)) else (some badIns))) else none) else none) else _) _
   refine EvP.pos (by omega) (EvP.pos (by omega) (EvP.pos (by omega) (EvP.bind (ev_impl_decimal x) (fun t ht=>?_))))
   subst ht
   refine EvP.ite (fun h=>EvP.pos rfl ?_) (fun h=>EvP.ret _ (no (fun a b h1 h2 _ _=>h (badx a b h1 h2).1)).symm)
   obtain ⟨n,rfl,hd⟩:=dec_of h
   rw [hd,e01]
   show EvP (fun k=>impl_InsRead.l0 k [dec (n : Int),y] 2 1 w' (n : Int) 0) _
   refine EvP.succ ?_
   simp only [impl_InsRead.l0]
   show EvP (fun k=>if (1 : Int) < 2 then (if (0 : Int) ≤ 1 then (if (1 : Int) < 2 then ((impl_decimal.f k y).bind fun bt246=>(if bt246.2 = true then (if (1 : Int) = 0 then (impl_InsRead.l0 k [dec (n : Int),y] 2 (wrap64 (1 + 1)) w' bt246.1 0) else (impl_InsRead.l0 k [dec (n : Int),y] 2 (wrap64 (1 + 1)) w' n bt246.1)) else (some badIns))) else none) else none) else _) _
   refine EvP.pos (by omega) (EvP.pos (by omega) (EvP.pos (by omega) (EvP.bind (ev_impl_decimal y) (fun t ht=>?_))))
   subst ht
   refine EvP.ite (fun h=>EvP.neg (by omega) ?_) (fun h=>EvP.ret _ (no (fun a b h1 h2 _ _=>h (badx a b h1 h2).2)).symm)
   obtain ⟨q,rfl,hd2⟩:=dec_of h
   rw [hd2,e12]
   show EvP (fun k=>impl_InsRead.l0 k [dec (n : Int),dec (q : Int)] 2 2 w' (n : Int) (q : Int)) _
   refine (fin [dec (n : Int),dec (q : Int)] 2 n q rfl).mono (fun r hr=>?_)
   rw [hr]
   by_cases ok : insOk w' n q = true
   ·rw [if_pos ok]
    obtain ⟨hn,hq⟩:=ins_num ok
    have ht:=(text_words ok).2.2 m
    unfold readIns
    simp only [hws]
    have e3 : l3n (dec (n : Int)) = n:=l3n_dec (by omega)
    have e4 : l3n (dec (q : Int)) = q:=l3n_dec (by omega)
    show _ = if insOk w' (l3n (dec (n : Int))) (l3n (dec (q : Int))) = true ∧ insText w' (l3n (dec (n : Int))) (l3n (dec (q : Int))) = s then (w',l3n (dec (n : Int)),l3n (dec (q : Int)),true) else badIns
    rw [e3,e4,if_pos ⟨ok,by rw [ht];exact hs3.symm⟩]
   ·rw [if_neg ok]
    refine (no (fun a b h1 h2 h3 h4=>?_)).symm
    have e4 : l3n (dec (n : Int)) = a:=by have:=h3 (by rw [hws];simp);rw [hws] at this;exact this
    have e5 : l3n (dec (q : Int)) = b:=by have:=h4 (by rw [hws];simp);rw [hws] at this;exact this
    obtain ⟨⟨a0,a1⟩,b0,b1⟩:=ins_num h1
    rcases l3n_cases (n:=n) with e6 | e6
    ·rcases l3n_cases (n:=q) with e7 | e7
     ·rw [← e4,← e5,e6,e7] at h1
      exact ok h1
     ·omega
    ·omega
 ·have e2 : (((wordsOf s).length : Int) != ((1 + manyOf w : Nat) : Int)) = true:=by
   rw [bne_iff_ne]
   omega
  rw [e2]
  refine bad.mono (fun r hr=>?_)
  rw [hr,no (fun a b h1 h2 _ _=>?_)]
  have e5:=congrArg List.length (wlen a b h1 h2)
  rcases hm with m | m | m
  ·rw [m] at hl e5
   exact hl (by simpa using e5)
  ·rw [m] at hl e5
   exact hl (by simpa using e5)
  ·rw [m] at hl e5
   exact hl (by simpa using e5)
theorem lim_zero {n : Int} (h : lim 0 n = true) : n = 0:=by
 have:=of_decide_eq_true h
 omega
theorem read_text {w : ByteArray} {a b : Int} (h : insOk w a b = true) : readIns (insText w a b) = (w,a,b,true):=by
 obtain ⟨⟨a0,a1⟩,b0,b1⟩:=ins_num h
 have ea : ((a.toNat : Nat) : Int) = a:=by omega
 have eb : ((b.toNat : Nat) : Int) = b:=by omega
 have na:=dec_no32 a.toNat
 have nb:=dec_no32 b.toNat
 have la:=l3n_dec (n:=a.toNat) (by omega)
 have lb:=l3n_dec (n:=b.toNat) (by omega)
 rw [ea] at na la
 rw [eb] at nb lb
 obtain ⟨t0,t1,t2⟩:=text_words h
 have hw32:=(word_plain (insOk_word h)).2
 have hl:=h
 unfold insOk at hl
 rw [Bool.and_eq_true,Bool.and_eq_true] at hl
 rcases many_le w with m | m | m
 ·have e:=words1 hw32
  have hA : (look w insTab).2.1 = 0:=by
   unfold manyOf at m
   by_cases h1 : (look w insTab).2.1 = 0
   ·exact h1
   ·rw [if_neg h1] at m
    split at m<;>omega
  have hB:=look_two w hA
  rw [hA,hB] at hl
  have ha:=lim_zero hl.2.1
  have hb:=lim_zero hl.2.2
  subst ha
  subst hb
  rw [t0 m]
  unfold readIns
  simp only [e]
  exact if_pos ⟨h,t0 m⟩
 ·have e:=words2 hw32 na
  have hB : (look w insTab).2.2.1 = 0:=by
   unfold manyOf at m
   split at m
   ·omega
   ·split at m
    ·assumption
    ·omega
  rw [hB] at hl
  have hb:=lim_zero hl.2.2
  subst hb
  rw [t1 m]
  unfold readIns
  simp only [e]
  show (if insOk w (l3n (dec a)) 0 = true ∧ insText w (l3n (dec a)) 0 = w ++ (sp ++ dec a) then (w,l3n (dec a),0,true) else badIns) = _
  rw [la]
  exact if_pos ⟨h,t1 m⟩
 ·have e:=words3 hw32 na nb
  rw [t2 m]
  unfold readIns
  simp only [e]
  show (if insOk w (l3n (dec a)) (l3n (dec b)) = true ∧ insText w (l3n (dec a)) (l3n (dec b)) = (w ++ (sp ++ dec a)) ++ (sp ++ dec b) then (w,l3n (dec a),l3n (dec b),true) else badIns) = _
  rw [la,lb]
  exact if_pos ⟨h,t2 m⟩
theorem read_ok {s : ByteArray} (h : (readIns s).2.2.2 = true) : insOk (readIns s).1 (readIns s).2.1 (readIns s).2.2.1 = true ∧ insText (readIns s).1 (readIns s).2.1 (readIns s).2.2.1 = s:=by
 unfold readIns at h ⊢
 simp only at h ⊢
 generalize (if (wordsOf s).length > 1 then l3n ((wordsOf s).getD 1 ByteArray.empty) else 0) = a at h ⊢
 generalize (if (wordsOf s).length > 2 then l3n ((wordsOf s).getD 2 ByteArray.empty) else 0) = b at h ⊢
 generalize (wordsOf s).getD 0 ByteArray.empty = w at h ⊢
 by_cases hc : insOk w a b = true ∧ insText w a b = s
 ·rw [if_pos hc]
  exact hc
 ·rw [if_neg hc] at h
  cases h
theorem text_small (w : ByteArray) (a b : Int) : (insText w a b).size ≤ 40:=by
 by_cases h : insOk w a b = true
 ·exact text_size h
 ·unfold insText
  rw [if_neg h]
  decide
theorem dec_pos (n : Nat) : 1 ≤ (dec (n : Int)).size:=by
 by_cases h : n < 10
 ·rw [dec_small h]
  exact Nat.le_refl 1
 ·rw [dec_step h,ByteArray.size_append]
  have h2 : (dec ((n % 10 : Nat) : Int)).size = 1:=by rw [dec_small (by omega)];rfl
  omega
theorem dec_len : ∀ (k n : Nat),n < 10 ^ (k + 1) → (dec (n : Int)).size ≤ k + 1
 | 0,n,h=>by
  rw [dec_small (by simpa using h)]
  exact Nat.le_refl 1
 | k + 1,n,h=>by
  by_cases h0 : n < 10
  ·rw [dec_small h0]
   show 1 ≤ k + 1 + 1
   omega
  ·rw [dec_step h0,ByteArray.size_append]
   have h2 : (dec ((n % 10 : Nat) : Int)).size = 1:=by rw [dec_small (by omega)];rfl
   have h1:=dec_len k (n / 10) (by rw [Nat.pow_succ] at h;omega)
   omega
def mkD : Nat → Nat → ByteArray → ByteArray
 | 0,_,a=>a
 | f + 1,n,a=>if n = 0 then a else mkD f (n / 10) (strOfNums [(wrap64 (48 + ((n % 10 : Nat) : Int))) % 256] ++ a)
def mtx (n : Nat) : ByteArray:=(⟨#[109]⟩ : ByteArray) ++ mkD n n ⟨#[]⟩
theorem ev_laws_markText_l0 : ∀ (f n : Nat) (a : ByteArray),n ≤ f → n ≤ 9000001 → a.size + n ≤ 27000000 → EvP (fun k=>laws_markText.l0 k (n : Int) a) (· = (⟨#[109]⟩ : ByteArray) ++ mkD f n a)
 | 0,n,a,h,_,h2=>by
  refine EvP.succ ?_
  simp only [laws_markText.l0]
  exact EvP.neg (by omega) (EvP.pos (by omega) (EvP.ret _ rfl))
 | f + 1,n,a,h,h1,h2=>by
  refine EvP.succ ?_
  simp only [laws_markText.l0]
  refine EvP.ite (fun h3=>?_) (fun h3=>EvP.pos (by omega) (EvP.ret _ ?_))
  ·have e1 : wrap64 (Int.tdiv (n : Int) 10) = ((n / 10 : Nat) : Int):=by
    have : Int.tdiv (n : Int) 10 = ((n / 10 : Nat) : Int):=rfl
    rw [this,w64 (by omega) (by omega)]
   have e2 : Int.tmod (n : Int) 10 = ((n % 10 : Nat) : Int):=rfl
   have e3 : (strOfNums [(wrap64 (48 + ((n % 10 : Nat) : Int))) % 256]).size = 1:=rfl
   rw [e1,e2]
   simp only [Option.bind_some]
   have e4 : mkD (f + 1) n a = mkD f (n / 10) (strOfNums [(wrap64 (48 + ((n % 10 : Nat) : Int))) % 256] ++ a):=by rw [mkD,if_neg (by omega)]
   rw [e4]
   exact EvP.pos (by omega) (ev_laws_markText_l0 f (n / 10) _ (by omega) (by omega) (by rw [ByteArray.size_append];omega))
  ·have e : n = 0:=by omega
   subst e
   rw [mkD,if_pos rfl]
theorem ev_laws_markText (n : Nat) (h0 : 1 ≤ n) (h1 : n ≤ 9000001) : EvP (fun k=>laws_markText.f k (n : Int)) (· = mtx n):=by
 unfold laws_markText.f mtx
 exact EvP.neg (by omega) (ev_laws_markText_l0 n n ⟨#[]⟩ (Nat.le_refl _) h1 (by have : (⟨#[]⟩ : ByteArray).size = 0:=rfl;omega))
abbrev Rc:=S50
abbrev Fn:=S55
def kwRecord : ByteArray:=⟨#[114,101,99,111,114,100]⟩
def kwFriend : ByteArray:=⟨#[102,114,105,101,110,100]⟩
def kwFunc : ByteArray:=⟨#[102,117,110,99]⟩
def colon : ByteArray:=⟨#[58]⟩
structure MO where
 r : List Rc
 f : List Fn
 n : List Int
def sm (x : ByteArray) : Int:=if x.size > 2 then -1 else l3n x
def sh (x : ByteArray) : Int × Bool:=((decn x).1,(decn x).2 && decide (x.size ≤ 2))
theorem sm_sh (x : ByteArray) : (sh x).2 = decide (0 ≤ sm x) ∧ ((sh x).2 = true → (sh x).1 = sm x ∧ ∃ n : Nat,x = dec (n : Int) ∧ sm x = n):=by
 unfold sh sm
 by_cases h : x.size > 2
 ·rw [if_pos h]
  have h2 : ¬ x.size ≤ 2:=by omega
  simp [h2]
 ·rw [if_neg h]
  have h2 : x.size ≤ 2:=by omega
  have h3 : x.size ≤ 9:=by omega
  have h4 : x.size ≤ 8:=by omega
  by_cases hn : isNum x.data.toList = true
  ·have e1 : decn x = ((val x.data.toList : Int),true):=by unfold decn;rw [if_pos (by simp [hn,h3])]
   have e2 : l3n x = (val x.data.toList : Int):=by unfold l3n;rw [if_pos (by simp [hn,h4])]
   obtain ⟨n,hx,hd⟩:=dec_of (x:=x) (by rw [e1])
   rw [e1] at hd
   injection hd with hd
   rw [e1,e2]
   refine ⟨by simp [h2],fun _=>⟨rfl,n,hx,hd⟩⟩
  ·have e1 : decn x = (0,false):=by unfold decn;rw [if_neg (by simp [hn])]
   have e2 : l3n x = -1:=by unfold l3n;rw [if_neg (by simp [hn])]
   rw [e1,e2]
   exact ⟨by simp,fun h=>by simp at h⟩
def formB (t : ByteArray) : Bool:=(kAt (strip t)).isSome || isBase (strip t)
def forms (l : List ByteArray) : Bool:=l.all formB && decide (l.length ≤ 9)
def numsOf : List ByteArray → List Int
 | []=>[]
 | x :: l=>if 0 ≤ sm x then sm x :: numsOf l else []
def numsAll (l : List ByteArray) : Bool:=l.all (fun x=>decide (0 ≤ sm x))
def numsOk (l : List ByteArray) : Bool:=numsAll l && decide (l.length ≤ 9)
theorem nums_dec : ∀ l : List ByteArray,numsAll l = true → (numsOf l).map dec = l ∧ (numsOf l).length = l.length ∧ ∀ n ∈ numsOf l,0 ≤ n
 | [],_=>⟨rfl,rfl,by simp [numsOf]⟩
 | x :: l,h=>by
  unfold numsAll at h
  rw [List.all_cons,Bool.and_eq_true] at h
  obtain ⟨h1,h2⟩:=h
  obtain ⟨i1,i2,i3⟩:=nums_dec l h2
  obtain ⟨e1,e2⟩:=sm_sh x
  obtain ⟨_,n,hx,hn⟩:=e2 (e1.trans h1)
  have h0 : 0 ≤ sm x:=of_decide_eq_true h1
  unfold numsOf
  rw [if_pos h0]
  refine ⟨?_,by simp [i2],?_⟩
  ·rw [List.map_cons,i1,hn,← hx]
  ·intro m hm
   rcases List.mem_cons.1 hm with rfl | hm
   ·exact h0
   ·exact i3 m hm
def stepC (ps : List (List ByteArray)) (x : ByteArray) : List (List ByteArray):=if x = colon then ps ++ [[]] else ps.set (ps.length - 1) (ps.getD (ps.length - 1) [] ++ [x])
def splitC (l : List ByteArray) : List (List ByteArray):=l.foldl stepC [[]]
theorem stepC_last (pre : List (List ByteArray)) (p : List ByteArray) (x : ByteArray) : stepC (pre ++ [p]) x = if x = colon then (pre ++ [p]) ++ [[]] else pre ++ [p ++ [x]]:=by
 unfold stepC
 have hl : (pre ++ [p]).length - 1 = pre.length:=by simp
 rw [hl]
 split
 ·rfl
 ·simp [List.getD_eq_getElem?_getD]
theorem stepC_one (p : List ByteArray) (x : ByteArray) : stepC [p] x = if x = colon then [p] ++ [[]] else [] ++ [p ++ [x]]:=stepC_last [] p x
theorem foldC_pre : ∀ (l : List ByteArray) (pre : List (List ByteArray)) (p : List ByteArray),l.foldl stepC (pre ++ [p]) = pre ++ l.foldl stepC [p]
 | [],pre,p=>rfl
 | x :: l,pre,p=>by
  rw [List.foldl_cons,List.foldl_cons,stepC_last,stepC_one]
  split
  ·rw [foldC_pre l (pre ++ [p]) [],foldC_pre l [p] [],List.append_assoc]
  ·rw [foldC_pre l pre (p ++ [x])]
   rfl
theorem foldC_cons : ∀ (l : List ByteArray) (p : List ByteArray),l.foldl stepC [p] = (p ++ (splitC l).headD []) :: (splitC l).tail
 | [],p=>by simp [splitC]
 | x :: l,p=>by
  unfold splitC
  rw [List.foldl_cons,List.foldl_cons,stepC_one,stepC_one]
  split
  ·rw [foldC_pre l [p] [],foldC_pre l [[]] []]
   simp
  ·simp only [List.nil_append]
   rw [foldC_cons l (p ++ [x]),foldC_cons l [x]]
   simp
theorem splitC_colon (l : List ByteArray) : splitC (colon :: l) = [] :: splitC l:=by
 unfold splitC
 rw [List.foldl_cons,stepC_one,if_pos rfl,foldC_pre]
 rfl
theorem splitC_word {x : ByteArray} (h : x ≠ colon) (l : List ByteArray) : splitC (x :: l) = (x :: (splitC l).headD []) :: (splitC l).tail:=by
 show (x :: l).foldl stepC [[]] = _
 rw [List.foldl_cons,stepC_one,if_neg h]
 simp only [List.nil_append]
 rw [foldC_cons]
 simp
theorem splitC_ne (l : List ByteArray) : splitC l ≠ []:=by
 cases l with
 | nil=>simp [splitC]
 | cons x l =>
  by_cases h : x = colon
  ·rw [h,splitC_colon];simp
  ·rw [splitC_word h];simp
def joinC : List (List ByteArray) → List ByteArray
 | []=>[]
 | [p]=>p
 | p :: q :: ps=>p ++ colon :: joinC (q :: ps)
theorem joinC_cons (x : ByteArray) : ∀ (p : List ByteArray) (ps : List (List ByteArray)),joinC ((x :: p) :: ps) = x :: joinC (p :: ps)
 | p,[]=>rfl
 | p,q :: ps=>rfl
theorem joinC_split : ∀ l : List ByteArray,joinC (splitC l) = l ∧ ∀ p ∈ splitC l,∀ x ∈ p,x ≠ colon ∧ x ∈ l
 | []=>⟨rfl,by intro p hp;simp [splitC] at hp;subst hp;simp⟩
 | x :: l=>by
  obtain ⟨h1,h2⟩:=joinC_split l
  obtain ⟨q,qs,hq⟩ : ∃ q qs,splitC l = q :: qs:=by
   cases h : splitC l with
   | nil=>exact absurd h (splitC_ne l)
   | cons q qs=>exact ⟨q,qs,rfl⟩
  rw [hq] at h1 h2
  by_cases h : x = colon
  ·subst h
   rw [splitC_colon,hq]
   refine ⟨by show colon :: joinC (q :: qs) = _;rw [h1],fun p hp y hy=>?_⟩
   rcases List.mem_cons.1 hp with rfl | hp
   ·simp at hy
   ·exact ⟨(h2 p hp y hy).1,List.mem_cons_of_mem _ (h2 p hp y hy).2⟩
  ·rw [splitC_word h,hq]
   refine ⟨by show joinC ((x :: q) :: qs) = _;rw [joinC_cons,h1],fun p hp y hy=>?_⟩
   rcases List.mem_cons.1 hp with rfl | hp
   ·rcases List.mem_cons.1 hy with rfl | hy
    ·exact ⟨h,List.mem_cons_self⟩
    ·exact ⟨(h2 q List.mem_cons_self y hy).1,List.mem_cons_of_mem _ (h2 q List.mem_cons_self y hy).2⟩
   ·exact ⟨(h2 p (List.mem_cons_of_mem _ hp) y hy).1,List.mem_cons_of_mem _ (h2 p (List.mem_cons_of_mem _ hp) y hy).2⟩
theorem splitC_join : ∀ (p : List ByteArray) (ps : List (List ByteArray)),(∀ q ∈ p :: ps,∀ x ∈ q,x ≠ colon) → splitC (joinC (p :: ps)) = p :: ps
 | [],[],_=>rfl
 | [],q :: ps,h=>by
  show splitC (colon :: joinC (q :: ps)) = _
  rw [splitC_colon,splitC_join q ps (fun r hr=>h r (List.mem_cons_of_mem _ hr))]
 | x :: p,ps,h=>by
  rw [joinC_cons,splitC_word (h _ List.mem_cons_self x List.mem_cons_self),splitC_join p ps (fun r hr y hy=>by
   rcases List.mem_cons.1 hr with rfl | hr
   ·exact h _ List.mem_cons_self y (List.mem_cons_of_mem _ hy)
   ·exact h r (List.mem_cons_of_mem _ hr) y hy)]
  rfl
 termination_by p ps=>(ps.length,p.length)
def zFn : Fn:=⟨0,[],[],[],[],[]⟩
def readFn (ws : List ByteArray) : Option Fn :=
 let ps:=splitC ws
 if ps.length ≠ 4 ∨ (ps.getD 0 []).length = 0 then none else
 if numsOk (ps.getD 3 []) = true ∧ 0 ≤ sm ((ps.getD 0 []).getD 0 ByteArray.empty) ∧ forms ((ps.getD 0 []).drop 1) = true ∧ forms (ps.getD 1 []) = true ∧ forms (ps.getD 2 []) = true then
  some ⟨sm ((ps.getD 0 []).getD 0 ByteArray.empty),(ps.getD 0 []).drop 1,ps.getD 1 [],ps.getD 2 [],numsOf (ps.getD 3 []),[]⟩ else none
def headFn (ws : List ByteArray) : Option Fn :=
 let ps:=splitC (ws.drop 1)
 if (sh (ws.getD 0 ByteArray.empty)).2 = true ∧ ps.length = 4 ∧ forms (ps.getD 0 []) = true ∧ forms (ps.getD 1 []) = true ∧ forms (ps.getD 2 []) = true ∧ numsOk (ps.getD 3 []) = true then
  some ⟨(sh (ws.getD 0 ByteArray.empty)).1,ps.getD 0 [],ps.getD 1 [],ps.getD 2 [],numsOf (ps.getD 3 []),[]⟩ else none
theorem colon_num : sm colon = -1:=by
 show (if colon.size > 2 then (-1 : Int) else l3n colon) = -1
 rw [if_neg (by decide)]
 unfold l3n
 rw [if_neg (by decide)]
theorem func_eq {w0 : ByteArray} {r : List ByteArray} : readFn (w0 :: r) = headFn (w0 :: r):=by
 obtain ⟨e1,e2⟩:=sm_sh w0
 by_cases h : w0 = colon
 ·subst h
  have hf : ¬ (sh colon).2 = true:=by rw [e1,colon_num];decide
  unfold readFn headFn
  simp only [splitC_colon]
  rw [if_pos (.inr rfl),if_neg (fun hc=>hf hc.1)]
 ·obtain ⟨q,qs,hq⟩ : ∃ q qs,splitC r = q :: qs:=by
   cases hh : splitC r with
   | nil=>exact absurd hh (splitC_ne r)
   | cons q qs=>exact ⟨q,qs,rfl⟩
  unfold readFn headFn
  simp only [splitC_word h,List.drop_succ_cons,List.drop_zero,hq,List.headD_cons,List.tail_cons]
  have hg : ((w0 :: q) :: qs).getD 0 [] = w0 :: q:=rfl
  have hg0 : (q :: qs).getD 0 [] = q:=rfl
  have hg1 : ∀ j,((w0 :: q) :: qs).getD (j + 1) [] = (q :: qs).getD (j + 1) []:=fun j=>rfl
  have hw : ∀ l : List ByteArray,(w0 :: l).getD 0 ByteArray.empty = w0:=fun _=>rfl
  rw [hg,hg0,hg1 0,hg1 1,hg1 2,hw q,hw r]
  simp only [List.length_cons,List.drop_succ_cons,List.drop_zero]
  by_cases hl : qs.length + 1 = 4
  ·rw [if_neg (by omega)]
   by_cases hc : numsOk ((q :: qs).getD 3 []) = true ∧ 0 ≤ sm w0 ∧ forms q = true ∧ forms ((q :: qs).getD 1 []) = true ∧ forms ((q :: qs).getD 2 []) = true
   ·have hs : (sh w0).2 = true:=e1.trans (decide_eq_true hc.2.1)
    rw [if_pos hc,if_pos ⟨hs,hl,hc.2.2.1,hc.2.2.2.1,hc.2.2.2.2,hc.1⟩,(e2 hs).1]
   ·rw [if_neg hc,if_neg (fun h=>hc ⟨h.2.2.2.2.2,of_decide_eq_true (e1.symm.trans h.1),h.2.2.1,h.2.2.2.1,h.2.2.2.2.1⟩)]
  ·rw [if_pos (.inl hl),if_neg (fun h=>hl h.2.1)]
def emptyM : MO:=⟨[],[],[]⟩
def tx (ws : List ByteArray) : ByteArray:=⟨(joinD ws).toArray⟩
theorem tx_words (s : ByteArray) : tx (wordsOf s) = s:=by
 unfold tx
 rw [join_words]
def recWords (r : Rc) : List ByteArray:=kwRecord :: dec r.f0 :: r.f1
def friWords (l : List Int) : List ByteArray:=kwFriend :: l.map dec
def funWords (f : Fn) : List ByteArray:=kwFunc :: dec f.f0 :: joinC [f.f1,f.f2,f.f3,f.f4.map dec]
def insLine (i : S59) : ByteArray:=insText i.f0 i.f1 i.f2
def funLines (f : Fn) : List ByteArray:=tx (funWords f) :: f.f5.map insLine
def friLines (l : List Int) : List ByteArray:=if l = [] then [] else [tx (friWords l)]
def mLines (M : MO) : List ByteArray:=M.r.map (fun r=>tx (recWords r)) ++ (friLines M.n ++ M.f.flatMap funLines)
def lastF (M : MO) : Fn:=M.f.getD (M.f.length - 1) zFn
def addCode (M : MO) (i : S59) : MO:=⟨M.r,M.f.set (M.f.length - 1) ⟨(lastF M).f0,(lastF M).f1,(lastF M).f2,(lastF M).f3,(lastF M).f4,(lastF M).f5 ++ [i]⟩,M.n⟩
def wd (ws : List ByteArray) (i : Nat) : ByteArray:=ws.getD i ByteArray.empty
def sStep (M : MO) (line : ByteArray) : Option MO :=
 if wd (wordsOf line) 0 = kwRecord ∧ 1 < (wordsOf line).length then
  if 0 ≤ sm (wd (wordsOf line) 1) ∧ forms ((wordsOf line).drop 2) = true ∧ M.r.length < 3 then some ⟨M.r ++ [⟨sm (wd (wordsOf line) 1),(wordsOf line).drop 2⟩],M.f,M.n⟩ else none
 else if wd (wordsOf line) 0 = kwFriend then if numsOk ((wordsOf line).drop 1) = true then some ⟨M.r,M.f,numsOf ((wordsOf line).drop 1)⟩ else none
 else if wd (wordsOf line) 0 = kwFunc then match readFn ((wordsOf line).drop 1) with | some f=>if M.f.length < 4 then some ⟨M.r,M.f ++ [f],M.n⟩ else none | none=>none
 else if (readIns line).2.2.2 = true ∧ M.f.length ≠ 0 ∧ (lastF M).f5.length ≠ 40 then some (addCode M ⟨(readIns line).1,(readIns line).2.1,(readIns line).2.2.1⟩) else none
def iStep (M : MO) (ws : List ByteArray) : Option MO :=
 if wd ws 0 = kwRecord then
  if 1 < ws.length ∧ M.r.length ≠ 3 ∧ M.f.length = 0 ∧ M.n.length = 0 ∧ forms (ws.drop 2) = true ∧ (sh (wd ws 1)).2 = true then some ⟨M.r ++ [⟨(sh (wd ws 1)).1,ws.drop 2⟩],M.f,M.n⟩ else none
 else if wd ws 0 = kwFriend then if numsOk (ws.drop 1) = true ∧ (numsOf (ws.drop 1)).length ≠ 0 ∧ M.f.length = 0 ∧ M.n.length = 0 then some ⟨M.r,M.f,numsOf (ws.drop 1)⟩ else none
 else if wd ws 0 = kwFunc then if 1 < ws.length ∧ M.f.length < 4 then match headFn (ws.drop 1) with | some f=>some ⟨M.r,M.f ++ [f],M.n⟩ | none=>none else none
 else if (readIns (tx ws)).2.2.2 = true ∧ M.f.length ≠ 0 ∧ (lastF M).f5.length + 1 ≤ 40 then some (addCode M ⟨(readIns (tx ws)).1,(readIns (tx ws)).2.1,(readIns (tx ws)).2.2.1⟩) else none
theorem look_kw : (look kwRecord insTab).2.2.2 = false ∧ (look kwFriend insTab).2.2.2 = false ∧ (look kwFunc insTab).2.2.2 = false:=by decide +kernel
theorem read_word {s : ByteArray} (h : (readIns s).2.2.2 = true) : (look (wd (wordsOf s) 0) insTab).2.2.2 = true:=by
 unfold readIns at h
 simp only at h
 unfold wd
 generalize (if (wordsOf s).length > 1 then l3n ((wordsOf s).getD 1 ByteArray.empty) else 0) = a at h
 generalize (if (wordsOf s).length > 2 then l3n ((wordsOf s).getD 2 ByteArray.empty) else 0) = b at h
 by_cases hc : insOk ((wordsOf s).getD 0 ByteArray.empty) a b = true ∧ insText ((wordsOf s).getD 0 ByteArray.empty) a b = s
 ·exact insOk_word hc.1
 ·rw [if_neg hc] at h
  cases h
theorem lines_add (M : MO) (i : S59) (h : M.f.length ≠ 0) : mLines (addCode M i) = mLines M ++ [insLine i]:=by
 obtain ⟨fs,l,hf⟩ : ∃ fs l,M.f = fs ++ [l]:=⟨M.f.dropLast,M.f.getLast (by intro h0;rw [h0] at h;exact h rfl),(List.dropLast_concat_getLast _).symm⟩
 unfold mLines addCode lastF
 rw [hf]
 simp [List.getD_eq_getElem?_getD,funLines,List.set_append]
 rfl
def InvM (M : MO) : Prop:=M.r.length ≤ 3 ∧ ∀ f ∈ M.f,f.f5.length ≤ 40
theorem last_mem {M : MO} (h : M.f.length ≠ 0) : lastF M ∈ M.f:=by
 unfold lastF
 rw [List.getD_eq_getElem?_getD,List.getElem?_eq_getElem (by omega)]
 exact List.getElem_mem _
theorem wd_cons {ws : List ByteArray} (h : 0 < ws.length) : ws = wd ws 0 :: ws.drop 1:=by
 cases ws with
 | nil=>simp at h
 | cons a l=>rfl
theorem drop_two {ws : List ByteArray} (h : 1 < ws.length) : ws.drop 1 = wd ws 1 :: ws.drop 2:=by
 rcases ws with _ | ⟨a,_ | ⟨b,l⟩⟩
 ·simp at h
 ·simp at h
 ·rfl
theorem stepA {M M' : MO} {line : ByteArray} (hI : InvM M) (h : iStep M (wordsOf line) = some M') : sStep M line = some M' ∧ mLines M' = mLines M ++ [line] ∧ InvM M':=by
 have hpos:=words_pos line
 have htx:=tx_words line
 unfold iStep at h
 unfold sStep
 rw [htx] at h
 generalize hws : wordsOf line = ws at h hpos htx
 have hc:=wd_cons (ws:=ws) (by omega)
 by_cases k1 : wd ws 0 = kwRecord
 ·rw [if_pos k1] at h
  split at h
  ·rename_i hh
   obtain ⟨h1,h2,h3,h4,h5,h6⟩:=hh
   obtain ⟨e1,e2⟩:=sm_sh (wd ws 1)
   obtain ⟨e3,n,hx,hn⟩:=e2 h6
   injection h with h
   subst h
   rw [if_pos ⟨k1,h1⟩,if_pos ⟨of_decide_eq_true (e1.symm.trans h6),h5,by have:=hI.1;omega⟩,e3]
   refine ⟨rfl,?_,by show (M.r ++ [_]).length ≤ 3;have:=hI.1;rw [List.length_append];simp;omega,hI.2⟩
   have hf : M.f = []:=List.eq_nil_of_length_eq_zero h3
   have hnn : M.n = []:=List.eq_nil_of_length_eq_zero h4
   have hl : tx (recWords ⟨sm (wd ws 1),ws.drop 2⟩) = line:=by
    rw [← htx]
    refine congrArg tx ?_
    show kwRecord :: dec (sm (wd ws 1)) :: ws.drop 2 = ws
    rw [hn,← hx,← drop_two h1,← k1]
    exact hc.symm
   unfold mLines
   simp only [hf,hnn,friLines,List.flatMap_nil,List.append_nil,if_pos,List.map_append,List.map_cons,List.map_nil,hl]
  ·cases h
 ·rw [if_neg k1] at h
  rw [if_neg (fun hh=>k1 hh.1)]
  by_cases k2 : wd ws 0 = kwFriend
  ·rw [if_pos k2] at h ⊢
   split at h
   ·rename_i hh
    obtain ⟨h1,h2,h3,h4⟩:=hh
    injection h with h
    subst h
    rw [if_pos h1]
    have hf : M.f = []:=List.eq_nil_of_length_eq_zero h3
    have hnn : M.n = []:=List.eq_nil_of_length_eq_zero h4
    unfold numsOk at h1
    rw [Bool.and_eq_true] at h1
    obtain ⟨d1,d2,d3⟩:=nums_dec _ h1.1
    have hl : tx (friWords (numsOf (ws.drop 1))) = line:=by
     rw [← htx]
     refine congrArg tx ?_
     show kwFriend :: (numsOf (ws.drop 1)).map dec = ws
     rw [d1,← k2]
     exact hc.symm
    refine ⟨rfl,?_,hI.1,hI.2⟩
    have hne : numsOf (ws.drop 1) ≠ []:=fun h0=>h2 (by rw [h0];rfl)
    unfold mLines
    simp only [hf,hnn,friLines,List.flatMap_nil,List.append_nil,if_neg hne,if_pos,hl]
   ·cases h
  ·rw [if_neg k2] at h ⊢
   by_cases k3 : wd ws 0 = kwFunc
   ·rw [if_pos k3] at h ⊢
    split at h
    ·rename_i hh
     obtain ⟨h1,h2⟩:=hh
     obtain ⟨w1,r1,hr⟩ : ∃ a l,ws.drop 1 = a :: l:=⟨_,_,drop_two h1⟩
     rw [hr] at h ⊢
     rw [func_eq]
     cases hF : headFn (w1 :: r1) with
     | none=>rw [hF] at h;cases h
     | some f =>
      rw [hF] at h
      injection h with h
      subst h
      simp only [if_pos h2]
      have hl : tx (funWords f) = line ∧ f.f5 = []:=by
       unfold headFn at hF
       simp only at hF
       split at hF
       ·rename_i hh
        obtain ⟨g1,g2,g3,g4,g5,g6⟩:=hh
        injection hF with hF
        subst hF
        refine ⟨?_,rfl⟩
        rw [← htx]
        refine congrArg tx ?_
        unfold numsOk at g6
        rw [Bool.and_eq_true] at g6
        obtain ⟨d1,d2,d3⟩:=nums_dec _ g6.1
        obtain ⟨e1,e2⟩:=sm_sh w1
        obtain ⟨e3,n,hx,hn⟩:=e2 g1
        have hs:=(joinC_split r1).1
        simp only [List.drop_succ_cons,List.drop_zero] at g2 g6 d1 ⊢
        show kwFunc :: dec (sh w1).1 :: joinC [_,_,_,(numsOf ((splitC r1).getD 3 [])).map dec] = ws
        rw [d1,e3,hn,← hx,hc,hr,k3]
        obtain ⟨p0,p1,p2,p3,hp⟩ : ∃ a b c d,splitC r1 = [a,b,c,d]:=by
         generalize splitC r1 = q at g2
         rcases q with _ | ⟨a,_ | ⟨b,_ | ⟨c,_ | ⟨d,_ | ⟨e,q⟩⟩⟩⟩⟩<;>simp at g2
         exact ⟨a,b,c,d,rfl⟩
        rw [hp] at hs ⊢
        rw [← hs]
        rfl
       ·cases hF
      refine ⟨by first | rfl | trivial,?_,hI.1,fun g hg=>?_⟩
      ·unfold mLines
       simp only [List.flatMap_append,List.flatMap_cons,List.flatMap_nil,List.append_nil,funLines,hl.1,hl.2,List.map_nil,List.append_assoc]
      ·rcases List.mem_append.1 hg with hg | hg
       ·exact hI.2 g hg
       ·rw [List.mem_singleton.1 hg,hl.2]
        exact Nat.zero_le _
    ·cases h
   ·rw [if_neg k3] at h ⊢
    split at h
    ·rename_i hh
     obtain ⟨h1,h2,h3⟩:=hh
     injection h with h
     subst h
     rw [if_pos ⟨h1,h2,by omega⟩]
     refine ⟨rfl,?_,hI.1,fun g hg=>?_⟩
     ·rw [lines_add _ _ h2]
      congr 1
      exact congrArg (fun x=>[x]) (read_ok h1).2
     ·rcases List.mem_or_eq_of_mem_set hg with hg | rfl
      ·exact hI.2 g hg
      ·show ((lastF M).f5 ++ [_]).length ≤ 40
       rw [List.length_append]
       exact h3
    ·cases h
/-! Lines. -/
def stepL (st : List ByteArray × ByteArray) (c : UInt8) : List ByteArray × ByteArray:=if c = 10 then (st.1 ++ [st.2],⟨#[]⟩) else (st.1,st.2 ++ ⟨#[c]⟩)
def linesOf (s : ByteArray) : List ByteArray × ByteArray:=s.data.toList.foldl stepL ([],⟨#[]⟩)
def no10 (x : ByteArray) : Prop:=∀ c ∈ x.data.toList,c ≠ 10
def unl (ls : List ByteArray) : List UInt8:=ls.flatMap (fun l=>l.data.toList ++ [10])
theorem app_list (x y : ByteArray) : (x ++ y).data.toList = x.data.toList ++ y.data.toList:=by simp
theorem line_plain : ∀ (l : List UInt8) (out : List ByteArray) (w : ByteArray),(∀ c ∈ l,c ≠ 10) → l.foldl stepL (out,w) = (out,w ++ ⟨l.toArray⟩)
 | [],out,w,_=>by
  show (out,w) = (out,w ++ ⟨#[]⟩)
  rw [show w ++ (⟨#[]⟩ : ByteArray) = w by apply ByteArray.ext;simp]
 | c :: l,out,w,h=>by
  rw [List.foldl_cons]
  have hc : stepL (out,w) c = (out,w ++ ⟨#[c]⟩):=by unfold stepL;rw [if_neg (h c List.mem_cons_self)]
  rw [hc,line_plain l out _ (fun d hd=>h d (List.mem_cons_of_mem _ hd))]
  congr 1
  apply ByteArray.ext
  simp
theorem lines_un : ∀ (ls : List ByteArray) (out : List ByteArray),(∀ l ∈ ls,no10 l) → (unl ls).foldl stepL (out,⟨#[]⟩) = (out ++ ls,⟨#[]⟩)
 | [],out,_=>by simp [unl]
 | l :: ls,out,h=>by
  unfold unl
  rw [List.flatMap_cons,List.append_assoc,List.foldl_append,line_plain l.data.toList out _ (h l List.mem_cons_self),List.singleton_append,List.foldl_cons]
  have hc : stepL (out,(⟨#[]⟩ : ByteArray) ++ ⟨l.data.toList.toArray⟩) 10 = (out ++ [l],⟨#[]⟩):=by
   unfold stepL
   rw [if_pos rfl]
   congr 3
   try (apply ByteArray.ext;simp)
  rw [hc]
  have:=lines_un ls (out ++ [l]) (fun x hx=>h x (List.mem_cons_of_mem _ hx))
  unfold unl at this
  rw [this,List.append_assoc]
  rfl
theorem unl_snoc (ls : List ByteArray) (l : ByteArray) : unl (ls ++ [l]) = unl ls ++ l.data.toList ++ [10]:=by simp [unl]
theorem lines_back : ∀ (l : List UInt8) (out : List ByteArray) (w : ByteArray),(∀ x ∈ out,no10 x) → no10 w → (∀ x ∈ (l.foldl stepL (out,w)).1,no10 x) ∧ unl (l.foldl stepL (out,w)).1 ++ (l.foldl stepL (out,w)).2.data.toList = unl out ++ w.data.toList ++ l
 | [],out,w,h1,h2=>⟨h1,by simp⟩
 | c :: l,out,w,h1,h2=>by
  rw [List.foldl_cons]
  unfold stepL
  split
  ·rename_i hc
   have hn : ∀ x ∈ out ++ [w],no10 x:=by
    intro x hx
    rcases List.mem_append.1 hx with hx | hx
    ·exact h1 x hx
    ·rw [List.mem_singleton.1 hx];exact h2
   obtain ⟨i1,i2⟩:=lines_back l (out ++ [w]) ⟨#[]⟩ hn (by intro d hd;simp at hd)
   refine ⟨i1,?_⟩
   have:=i2
   unfold stepL at this
   rw [this,unl_snoc,hc]
   simp
  ·rename_i hc
   have hn : no10 (w ++ ⟨#[c]⟩):=by
    intro d hd
    rw [app_list] at hd
    rcases List.mem_append.1 hd with hd | hd
    ·exact h2 d hd
    ·simp at hd
     rw [hd]
     exact hc
   obtain ⟨i1,i2⟩:=lines_back l out (w ++ ⟨#[c]⟩) h1 hn
   refine ⟨i1,?_⟩
   have:=i2
   unfold stepL at this
   rw [this,app_list]
   simp
def mText (M : MO) : ByteArray:=⟨(unl (mLines M)).toArray⟩
theorem lines_of (s : ByteArray) : (∀ x ∈ (linesOf s).1,no10 x) ∧ unl (linesOf s).1 ++ (linesOf s).2.data.toList = s.data.toList:=by
 have:=lines_back s.data.toList [] ⟨#[]⟩ (by simp) (by intro d hd;simp at hd)
 refine ⟨this.1,?_⟩
 have h2:=this.2
 unfold linesOf
 rw [h2]
 simp [unl]
theorem lines_text (M : MO) (h : ∀ l ∈ mLines M,no10 l) : linesOf (mText M) = (mLines M,⟨#[]⟩):=by
 unfold linesOf mText
 have:=lines_un (mLines M) [] h
 simpa using this
def sRead (s : ByteArray) : Option MO:=if s.size > 4000 then none else if (linesOf s).2 ≠ ⟨#[]⟩ then none else ((linesOf s).1.foldlM sStep emptyM).bind fun M=>if mText M = s then some M else none
def iRead (s : ByteArray) : Option MO:=if s.size > 4000 then none else if (linesOf s).2 ≠ ⟨#[]⟩ then none else (linesOf s).1.foldlM (fun M l=>iStep M (wordsOf l)) emptyM
theorem foldA : ∀ (ls : List ByteArray) (M M' : MO),InvM M → ls.foldlM (fun M l=>iStep M (wordsOf l)) M = some M' → ls.foldlM sStep M = some M' ∧ mLines M' = mLines M ++ ls
 | [],M,M',_,h=>by
  obtain rfl:=Option.some.inj h
  exact ⟨rfl,(List.append_nil _).symm⟩
 | l :: ls,M,M',hI,h=>by
  rw [List.foldlM_cons] at h ⊢
  cases hs : iStep M (wordsOf l) with
  | none=>rw [hs] at h;cases h
  | some M1 =>
   rw [hs] at h
   obtain ⟨h1,h2,h3⟩:=stepA hI hs
   obtain ⟨h4,h5⟩:=foldA ls M1 M' h3 h
   refine ⟨?_,by rw [h5,h2,List.append_assoc];rfl⟩
   rw [h1]
   exact h4
theorem readA {s : ByteArray} {M : MO} (h : iRead s = some M) : sRead s = some M:=by
 unfold iRead at h
 unfold sRead
 split at h
 ·cases h
 ·rename_i h1
  rw [if_neg h1]
  split at h
  ·cases h
  ·rename_i h2
   rw [if_neg h2]
   have h2' : (linesOf s).2 = ⟨#[]⟩:=Classical.not_not.1 h2
   obtain ⟨h3,h4⟩:=foldA _ _ _ ⟨by decide,by simp [emptyM]⟩ h
   rw [h3]
   show (if mText M = s then some M else none) = some M
   have h5 : mText M = s:=by
    apply ByteArray.ext
    apply Array.toList_inj.1
    have:=(lines_of s).2
    rw [h2'] at this
    rw [← this]
    unfold mText
    rw [h4]
    simp [mLines,emptyM,friLines]
   rw [if_pos h5]
/-! The other way: what is valid is taken from its text. -/
def okNum (n : Int) : Prop:=0 ≤ n ∧ sm (dec n) = n
def okW (w : ByteArray) : Prop:=no32 w ∧ no10 w
def okRec (r : Rc) : Prop:=okNum r.f0 ∧ (∀ w ∈ r.f1,okW w) ∧ forms r.f1 = true
def okFun (f : Fn) : Prop:=okNum f.f0 ∧ ((∀ w ∈ f.f1,okW w ∧ w ≠ colon) ∧ forms f.f1 = true) ∧ ((∀ w ∈ f.f2,okW w ∧ w ≠ colon) ∧ forms f.f2 = true) ∧ ((∀ w ∈ f.f3,okW w ∧ w ≠ colon) ∧ forms f.f3 = true) ∧ ((∀ n ∈ f.f4,okNum n) ∧ f.f4.length ≤ 9) ∧ f.f5.length ≤ 40 ∧ ∀ i ∈ f.f5,insOk i.f0 i.f1 i.f2 = true ∧ no10 (insLine i)
def okMod (M : MO) : Prop:=(M.r.length ≤ 3 ∧ ∀ r ∈ M.r,okRec r) ∧ ((∀ n ∈ M.n,okNum n) ∧ M.n.length ≤ 9) ∧ M.f.length ≤ 4 ∧ ∀ f ∈ M.f,okFun f
theorem step_words : ∀ (l : List UInt8) (ws : List ByteArray),(∀ w ∈ ws,no32 w) → (∀ w ∈ ws,no10 w) → (∀ c ∈ l,c ≠ 10) → ∀ w ∈ l.foldl stepW ws,okW w
 | [],ws,h1,h2,_,w,hw=>⟨h1 w hw,h2 w hw⟩
 | c :: l,ws,h1,h2,h3,w,hw=>by
  rw [List.foldl_cons] at hw
  have hc : c ≠ 10:=h3 c List.mem_cons_self
  have hl : ∀ d ∈ l,d ≠ 10:=fun d hd=>h3 d (List.mem_cons_of_mem _ hd)
  have key : ∀ x ∈ stepW ws c,okW x:=by
   intro x hx
   unfold stepW at hx
   split at hx
   ·rcases List.mem_append.1 hx with hx | hx
    ·exact ⟨h1 x hx,h2 x hx⟩
    ·rw [List.mem_singleton.1 hx]
     exact ⟨by intro d hd;simp at hd,by intro d hd;simp at hd⟩
   ·rename_i h32
    rcases List.mem_or_eq_of_mem_set hx with hx | rfl
    ·exact ⟨h1 x hx,h2 x hx⟩
    ·have hg : okW (ws.getD (ws.length - 1) ByteArray.empty):=by
      rw [List.getD_eq_getElem?_getD]
      cases hh : ws[ws.length - 1]? with
      | none=>exact ⟨by intro d hd;simp at hd,by intro d hd;simp at hd⟩
      | some y=>exact ⟨h1 y (List.mem_of_getElem? hh),h2 y (List.mem_of_getElem? hh)⟩
     constructor
     ·intro d hd
      rw [app_list] at hd
      rcases List.mem_append.1 hd with hd | hd
      ·exact hg.1 d hd
      ·simp at hd
       rw [hd]
       exact h32
     ·intro d hd
      rw [app_list] at hd
      rcases List.mem_append.1 hd with hd | hd
      ·exact hg.2 d hd
      ·simp at hd
       rw [hd]
       exact hc
  exact step_words l _ (fun x hx=>(key x hx).1) (fun x hx=>(key x hx).2) hl w hw
theorem line_ok {s : ByteArray} (h : no10 s) : ∀ w ∈ wordsOf s,okW w :=
 step_words s.data.toList _ (by intro w hw;rw [List.mem_singleton.1 hw];intro d hd;simp at hd) (by intro w hw;rw [List.mem_singleton.1 hw];intro d hd;simp at hd) h
theorem words_tx : ∀ (w : ByteArray) (ws : List ByteArray),(∀ x ∈ w :: ws,no32 x) → wordsOf (tx (w :: ws)) = w :: ws
 | w,[],h=>by
  show ((joinD [w]).toArray).toList.foldl stepW [⟨#[]⟩] = _
  simp only [joinD]
  rw [words_plain (h w List.mem_cons_self)]
 | w,x :: ws,h=>by
  show ((joinD (w :: x :: ws)).toArray).toList.foldl stepW [⟨#[]⟩] = _
  simp only [joinD]
  rw [words_hit (h w List.mem_cons_self)]
  have:=words_tx x ws (fun y hy=>h y (List.mem_cons_of_mem _ hy))
  show _ :: (joinD (x :: ws)).foldl stepW [⟨#[]⟩] = _
  rw [show (joinD (x :: ws)).foldl stepW [⟨#[]⟩] = x :: ws from this]
theorem num_ok {x : ByteArray} (h : 0 ≤ sm x) : okNum (sm x) ∧ dec (sm x) = x:=by
 obtain ⟨e1,e2⟩:=sm_sh x
 obtain ⟨_,n,hx,hn⟩:=e2 (e1.trans (decide_eq_true h))
 have hd : dec (sm x) = x:=by rw [hn,← hx]
 exact ⟨⟨h,by rw [hd]⟩,hd⟩
theorem num_sh {n : Int} (h : okNum n) : (sh (dec n)).2 = true ∧ (sh (dec n)).1 = n:=by
 obtain ⟨e1,e2⟩:=sm_sh (dec n)
 have h2 : (sh (dec n)).2 = true:=e1.trans (decide_eq_true (by rw [h.2];exact h.1))
 exact ⟨h2,by rw [(e2 h2).1,h.2]⟩
theorem num_no32 {n : Int} (h : okNum n) : no32 (dec n):=by
 have e : n = ((n.toNat : Nat) : Int):=by have:=h.1;omega
 rw [e]
 exact dec_no32 _
theorem dig_no10 (n : Nat) : no10 (dec (n : Int)):=by
 intro c hc
 rw [dec_list] at hc
 have:=List.all_eq_true.1 (all_dig n) c hc
 unfold digit at this
 have:=of_decide_eq_true this
 intro h
 subst h
 exact absurd this.1 (by decide)
theorem num_no10 {n : Int} (h : okNum n) : no10 (dec n):=by
 have e : n = ((n.toNat : Nat) : Int):=by have:=h.1;omega
 rw [e]
 exact dig_no10 _
theorem num_colon {n : Int} (h : okNum n) : dec n ≠ colon:=by
 intro hc
 have h2:=h.2
 rw [hc,colon_num] at h2
 have:=h.1
 omega
theorem nums_of : ∀ l : List ByteArray,numsAll l = true → ∀ n ∈ numsOf l,okNum n
 | [],_,n,hn=>by simp [numsOf] at hn
 | x :: l,h,n,hn=>by
  unfold numsAll at h
  rw [List.all_cons,Bool.and_eq_true] at h
  unfold numsOf at hn
  rw [if_pos (of_decide_eq_true h.1)] at hn
  rcases List.mem_cons.1 hn with rfl | hn
  ·exact (num_ok (of_decide_eq_true h.1)).1
  ·exact nums_of l h.2 n hn
theorem nums_back : ∀ l : List Int,(∀ n ∈ l,okNum n) → numsAll (l.map dec) = true ∧ numsOf (l.map dec) = l
 | [],_=>⟨rfl,rfl⟩
 | n :: l,h=>by
  obtain ⟨h1,h2⟩:=h n List.mem_cons_self
  obtain ⟨i1,i2⟩:=nums_back l (fun m hm=>h m (List.mem_cons_of_mem _ hm))
  rw [List.map_cons]
  refine ⟨?_,?_⟩
  ·unfold numsAll at i1 ⊢
   rw [List.all_cons,i1,h2,decide_eq_true h1]
   rfl
  ·unfold numsOf
   rw [h2,if_pos h1,i2]
theorem stepB {M M' : MO} {line : ByteArray} (hM : okMod M) (hl : no10 line) (h : sStep M line = some M') : okMod M':=by
 have hw:=line_ok hl
 unfold sStep at h
 obtain ⟨⟨r1,r2⟩,⟨n1,n2⟩,f1,f2⟩:=hM
 split at h
 ·split at h
  ·rename_i hh
   injection h with h
   subst h
   refine ⟨⟨by show (M.r ++ [_]).length ≤ 3;rw [List.length_append];simp;omega,fun r hr=>?_⟩,⟨n1,n2⟩,f1,f2⟩
   rcases List.mem_append.1 hr with hr | hr
   ·exact r2 r hr
   ·rw [List.mem_singleton.1 hr]
    exact ⟨(num_ok hh.1).1,fun w hx=>hw w (List.mem_of_mem_drop hx),hh.2.1⟩
  ·cases h
 ·split at h
  ·split at h
   ·rename_i hh
    injection h with h
    subst h
    unfold numsOk at hh
    rw [Bool.and_eq_true] at hh
    obtain ⟨_,d2,_⟩:=nums_dec _ hh.1
    exact ⟨⟨r1,r2⟩,⟨nums_of _ hh.1,by show (numsOf _).length ≤ 9;rw [d2];exact of_decide_eq_true hh.2⟩,f1,f2⟩
   ·cases h
  ·split at h
   ·split at h
    ·rename_i f hF
     split at h
     ·rename_i h4
      injection h with h
      subst h
      refine ⟨⟨r1,r2⟩,⟨n1,n2⟩,by show (M.f ++ [_]).length ≤ 4;rw [List.length_append];simp;omega,fun g hg=>?_⟩
      rcases List.mem_append.1 hg with hg | hg
      ·exact f2 g hg
      ·rw [List.mem_singleton.1 hg]
       unfold readFn at hF
       simp only at hF
       split at hF
       ·cases hF
       ·rename_i hp
        split at hF
        ·rename_i hh
         obtain ⟨g1,g2,g3,g4,g5⟩:=hh
         injection hF with hF
         subst hF
         have hs:=(joinC_split ((wordsOf line).drop 1)).2
         generalize splitC ((wordsOf line).drop 1) = q at hs hp g1 g2 g3 g4 g5 ⊢
         have hq : ∀ j,∀ w ∈ q.getD j [],okW w ∧ w ≠ colon:=by
          intro j w hx
          rw [List.getD_eq_getElem?_getD] at hx
          cases hh : q[j]? with
          | none=>rw [hh] at hx;simp at hx
          | some p =>
           rw [hh] at hx
           obtain ⟨u1,u2⟩:=hs p (List.mem_of_getElem? hh) w hx
           exact ⟨hw w (List.mem_of_mem_drop u2),u1⟩
         unfold numsOk at g1
         rw [Bool.and_eq_true] at g1
         obtain ⟨_,d2,_⟩:=nums_dec _ g1.1
         exact ⟨(num_ok g2).1,⟨fun w hx=>hq 0 w (List.mem_of_mem_drop hx),g3⟩,⟨hq 1,g4⟩,⟨hq 2,g5⟩,⟨nums_of _ g1.1,by show (numsOf _).length ≤ 9;rw [d2];exact of_decide_eq_true g1.2⟩,Nat.zero_le _,fun i hi=>by cases hi⟩
        ·cases hF
     ·cases h
    ·cases h
   ·split at h
    ·rename_i hh
     obtain ⟨g1,g2,g3⟩:=hh
     injection h with h
     subst h
     refine ⟨⟨r1,r2⟩,⟨n1,n2⟩,by show (M.f.set _ _).length ≤ 4;rw [List.length_set];exact f1,fun g hg=>?_⟩
     rcases List.mem_or_eq_of_mem_set hg with hg | rfl
     ·exact f2 g hg
     ·obtain ⟨a1,a2,a3,a4,a5,a6,a7⟩:=f2 _ (last_mem g2)
      refine ⟨a1,a2,a3,a4,a5,?_,fun i hi=>?_⟩
      ·show ((lastF M).f5 ++ [_]).length ≤ 40
       rw [List.length_append]
       simp
       omega
      ·rcases List.mem_append.1 hi with hi | hi
       ·exact a7 i hi
       ·rw [List.mem_singleton.1 hi]
        exact ⟨(read_ok g1).1,by show no10 (insText _ _ _);rw [(read_ok g1).2];exact hl⟩
    ·cases h
theorem kw_no32 : no32 kwRecord ∧ no32 kwFriend ∧ no32 kwFunc ∧ no32 colon:=by
 refine ⟨?_,?_,?_,?_⟩<;>(unfold no32;decide)
theorem rec_take {M : MO} {r : Rc} (h : okRec r) (h1 : M.r.length < 3) (h2 : M.f = []) (h3 : M.n = []) : iStep M (wordsOf (tx (recWords r))) = some ⟨M.r ++ [r],M.f,M.n⟩:=by
 have hw : wordsOf (tx (recWords r)) = recWords r:=words_tx _ _ (by
  intro x hx
  rcases List.mem_cons.1 hx with rfl | hx
  ·exact kw_no32.1
  ·rcases List.mem_cons.1 hx with rfl | hx
   ·exact num_no32 h.1
   ·exact (h.2.1 x hx).1)
 rw [hw]
 obtain ⟨s1,s2⟩:=num_sh h.1
 unfold iStep
 rw [if_pos (show wd (recWords r) 0 = kwRecord from rfl)]
 have hl : 1 < (recWords r).length:=by unfold recWords;simp
 rw [if_pos ⟨hl,by omega,by rw [h2];rfl,by rw [h3];rfl,h.2.2,s1⟩]
 show some (⟨M.r ++ [⟨(sh (dec r.f0)).1,r.f1⟩],M.f,M.n⟩ : MO) = _
 rw [s2]
theorem fri_take {M : MO} {l : List Int} (h : ∀ n ∈ l,okNum n) (h0 : l ≠ []) (h9 : l.length ≤ 9) (h2 : M.f = []) (h3 : M.n = []) : iStep M (wordsOf (tx (friWords l))) = some ⟨M.r,M.f,l⟩:=by
 have hw : wordsOf (tx (friWords l)) = friWords l:=words_tx _ _ (by
  intro x hx
  rcases List.mem_cons.1 hx with rfl | hx
  ·exact kw_no32.2.1
  ·obtain ⟨n,hn,rfl⟩:=List.mem_map.1 hx
   exact num_no32 (h n hn))
 rw [hw]
 obtain ⟨s1,s2⟩:=nums_back l h
 unfold iStep
 rw [if_neg (show ¬ wd (friWords l) 0 = kwRecord from (by show ¬ kwFriend = kwRecord;decide)),if_pos (show wd (friWords l) 0 = kwFriend from rfl)]
 have hd : (friWords l).drop 1 = l.map dec:=rfl
 rw [hd,s2,if_pos ⟨by unfold numsOk;rw [s1,List.length_map,decide_eq_true h9];rfl,by intro hh;exact h0 (List.eq_nil_of_length_eq_zero hh),by rw [h2];rfl,by rw [h3];rfl⟩]
theorem fun_take {M : MO} {f : Fn} (h : okFun f) (h4 : M.f.length < 4) : iStep M (wordsOf (tx (funWords f))) = some ⟨M.r,M.f ++ [⟨f.f0,f.f1,f.f2,f.f3,f.f4,[]⟩],M.n⟩:=by
 obtain ⟨a0,⟨a1,b1⟩,⟨a2,b2⟩,⟨a3,b3⟩,⟨a4,b4⟩,_⟩:=h
 have hq : ∀ q ∈ [f.f1,f.f2,f.f3,f.f4.map dec],∀ x ∈ q,x ≠ colon ∧ no32 x:=by
  intro q hq x hx
  simp only [List.mem_cons,List.not_mem_nil,or_false] at hq
  rcases hq with rfl | rfl | rfl | rfl
  ·exact ⟨(a1 x hx).2,(a1 x hx).1.1⟩
  ·exact ⟨(a2 x hx).2,(a2 x hx).1.1⟩
  ·exact ⟨(a3 x hx).2,(a3 x hx).1.1⟩
  ·obtain ⟨n,hn,rfl⟩:=List.mem_map.1 hx
   exact ⟨num_colon (a4 n hn),num_no32 (a4 n hn)⟩
 have hs:=splitC_join f.f1 [f.f2,f.f3,f.f4.map dec] (fun q h x hx=>(hq q h x hx).1)
 have hw : wordsOf (tx (funWords f)) = funWords f:=words_tx _ _ (by
  intro x hx
  rcases List.mem_cons.1 hx with rfl | hx
  ·exact kw_no32.2.2.1
  ·rcases List.mem_cons.1 hx with rfl | hx
   ·exact num_no32 a0
   ·simp only [joinC,List.mem_append,List.mem_cons] at hx
    rcases hx with hx | rfl | hx | rfl | hx | rfl | hx
    ·exact (hq _ (by simp) x hx).2
    ·exact kw_no32.2.2.2
    ·exact (hq _ (by simp) x hx).2
    ·exact kw_no32.2.2.2
    ·exact (hq _ (by simp) x hx).2
    ·exact kw_no32.2.2.2
    ·exact (hq _ (by simp) x hx).2)
 rw [hw]
 obtain ⟨s1,s2⟩:=num_sh a0
 obtain ⟨u1,u2⟩:=nums_back f.f4 a4
 unfold iStep
 rw [if_neg (show ¬ wd (funWords f) 0 = kwRecord from (by show ¬ kwFunc = kwRecord;decide)),if_neg (show ¬ wd (funWords f) 0 = kwFriend from (by show ¬ kwFunc = kwFriend;decide)),if_pos (show wd (funWords f) 0 = kwFunc from rfl)]
 rw [if_pos ⟨by unfold funWords;simp,h4⟩]
 have hd : (funWords f).drop 1 = dec f.f0 :: joinC [f.f1,f.f2,f.f3,f.f4.map dec]:=rfl
 have hF : headFn (dec f.f0 :: joinC [f.f1,f.f2,f.f3,f.f4.map dec]) = some ⟨f.f0,f.f1,f.f2,f.f3,f.f4,[]⟩:=by
  unfold headFn
  simp only [List.drop_succ_cons,List.drop_zero,hs]
  have hg : (dec f.f0 :: joinC [f.f1,f.f2,f.f3,f.f4.map dec]).getD 0 ByteArray.empty = dec f.f0:=rfl
  rw [hg]
  have hn : numsOk ((f.f1 :: [f.f2,f.f3,f.f4.map dec]).getD 3 []) = true:=by
   show numsOk (f.f4.map dec) = true
   unfold numsOk
   rw [u1,List.length_map,decide_eq_true b4]
   rfl
  rw [if_pos ⟨s1,rfl,b1,b2,b3,hn⟩,s2]
  show some (⟨f.f0,f.f1,f.f2,f.f3,numsOf (f.f4.map dec),[]⟩ : Fn) = _
  rw [u2]
 rw [hd,hF]
theorem ins_take {M : MO} {i : S59} (h : insOk i.f0 i.f1 i.f2 = true) (h0 : M.f.length ≠ 0) (h4 : (lastF M).f5.length < 40) : iStep M (wordsOf (insLine i)) = some (addCode M i):=by
 have hr:=read_text h
 have hk:=read_word (s:=insLine i) (by unfold insLine;rw [hr])
 unfold iStep
 rw [tx_words]
 unfold insLine at hk ⊢
 have hn : ∀ x,(look x insTab).2.2.2 = false → ¬ wd (wordsOf (insText i.f0 i.f1 i.f2)) 0 = x:=by
  intro x hx he
  rw [he,hx] at hk
  cases hk
 rw [if_neg (hn _ look_kw.1),if_neg (hn _ look_kw.2.1),if_neg (hn _ look_kw.2.2),hr,if_pos ⟨rfl,h0,by omega⟩]
def istep (M : MO) (l : ByteArray) : Option MO:=iStep M (wordsOf l)
theorem take_recs : ∀ (rs R0 : List Rc),(∀ r ∈ rs,okRec r) → R0.length + rs.length ≤ 3 → (rs.map (fun r=>tx (recWords r))).foldlM istep ⟨R0,[],[]⟩ = some ⟨R0 ++ rs,[],[]⟩
 | [],R0,_,_=>by simp
 | r :: rs,R0,h,hl=>by
  rw [List.map_cons,List.foldlM_cons]
  have hs : istep ⟨R0,[],[]⟩ (tx (recWords r)) = some ⟨R0 ++ [r],[],[]⟩:=rec_take (M:=⟨R0,[],[]⟩) (h r List.mem_cons_self) (by simp at hl;show R0.length < 3;omega) rfl rfl
  rw [hs]
  show (rs.map (fun r=>tx (recWords r))).foldlM istep ⟨R0 ++ [r],[],[]⟩ = _
  rw [take_recs rs (R0 ++ [r]) (fun x hx=>h x (List.mem_cons_of_mem _ hx)) (by simp at hl ⊢;omega),List.append_assoc]
  rfl
theorem add_last (R : List Rc) (fs : List Fn) (g : Fn) (N : List Int) (i : S59) : addCode ⟨R,fs ++ [g],N⟩ i = ⟨R,fs ++ [⟨g.f0,g.f1,g.f2,g.f3,g.f4,g.f5 ++ [i]⟩],N⟩ ∧ lastF ⟨R,fs ++ [g],N⟩ = g:=by
 unfold addCode lastF
 simp [List.getD_eq_getElem?_getD,List.set_append]
theorem take_code (R : List Rc) (fs : List Fn) (N : List Int) : ∀ (is : List S59) (g : Fn),(∀ i ∈ is,insOk i.f0 i.f1 i.f2 = true) → g.f5.length + is.length ≤ 40 → (is.map insLine).foldlM istep ⟨R,fs ++ [g],N⟩ = some ⟨R,fs ++ [⟨g.f0,g.f1,g.f2,g.f3,g.f4,g.f5 ++ is⟩],N⟩
 | [],g,_,_=>by simp
 | i :: is,g,h,hl=>by
  rw [List.map_cons,List.foldlM_cons]
  obtain ⟨e1,e2⟩:=add_last R fs g N i
  have hs : istep ⟨R,fs ++ [g],N⟩ (insLine i) = some ⟨R,fs ++ [⟨g.f0,g.f1,g.f2,g.f3,g.f4,g.f5 ++ [i]⟩],N⟩:=by
   rw [← e1]
   exact ins_take (h i List.mem_cons_self) (by simp) (by rw [e2];simp at hl;omega)
  rw [hs]
  show (is.map insLine).foldlM istep ⟨R,fs ++ [⟨g.f0,g.f1,g.f2,g.f3,g.f4,g.f5 ++ [i]⟩],N⟩ = _
  rw [take_code R fs N is _ (fun x hx=>h x (List.mem_cons_of_mem _ hx)) (by simp at hl ⊢;omega)]
  simp
theorem take_funs (R : List Rc) (N : List Int) : ∀ (gs fs : List Fn),(∀ f ∈ gs,okFun f) → fs.length + gs.length ≤ 4 → (gs.flatMap funLines).foldlM istep ⟨R,fs,N⟩ = some ⟨R,fs ++ gs,N⟩
 | [],fs,_,_=>by simp
 | g :: gs,fs,h,hl=>by
  rw [List.flatMap_cons,List.foldlM_append]
  unfold funLines
  rw [List.foldlM_cons]
  have hg:=h g List.mem_cons_self
  have hs : istep ⟨R,fs,N⟩ (tx (funWords g)) = some ⟨R,fs ++ [⟨g.f0,g.f1,g.f2,g.f3,g.f4,[]⟩],N⟩:=fun_take (M:=⟨R,fs,N⟩) hg (by simp at hl;show fs.length < 4;omega)
  rw [hs]
  show ((g.f5.map insLine).foldlM istep ⟨R,fs ++ [⟨g.f0,g.f1,g.f2,g.f3,g.f4,[]⟩],N⟩).bind _ = _
  rw [take_code R fs N g.f5 _ (fun i hi=>(hg.2.2.2.2.2.2 i hi).1) (by have:=hg.2.2.2.2.2.1;simpa using this)]
  show (gs.flatMap funLines).foldlM istep ⟨R,fs ++ [⟨g.f0,g.f1,g.f2,g.f3,g.f4,[] ++ g.f5⟩],N⟩ = _
  rw [List.nil_append,take_funs R N gs _ (fun x hx=>h x (List.mem_cons_of_mem _ hx)) (by simp at hl ⊢;omega),List.append_assoc]
  rfl
theorem take_all {M : MO} (h : okMod M) : (mLines M).foldlM istep emptyM = some M:=by
 obtain ⟨⟨r1,r2⟩,⟨n1,n2⟩,f1,f2⟩:=h
 unfold mLines emptyM
 rw [List.foldlM_append,take_recs M.r [] r2 (by simpa using r1)]
 show ((friLines M.n ++ M.f.flatMap funLines).foldlM istep ⟨[] ++ M.r,[],[]⟩) = _
 rw [List.nil_append,List.foldlM_append]
 have hf : (friLines M.n).foldlM istep ⟨M.r,[],[]⟩ = some ⟨M.r,[],M.n⟩:=by
  unfold friLines
  split
  ·rename_i h0
   rw [h0]
   rfl
  ·rename_i h0
   rw [List.foldlM_cons]
   have hs : istep ⟨M.r,[],[]⟩ (tx (friWords M.n)) = some ⟨M.r,[],M.n⟩:=fri_take (M:=⟨M.r,[],[]⟩) n1 h0 n2 rfl rfl
   rw [hs]
   rfl
 rw [hf]
 show (M.f.flatMap funLines).foldlM istep ⟨M.r,[],M.n⟩ = _
 rw [take_funs M.r M.n M.f [] f2 (by simpa using f1)]
 rfl
theorem foldB : ∀ (ls : List ByteArray) (M M' : MO),okMod M → (∀ l ∈ ls,no10 l) → ls.foldlM sStep M = some M' → okMod M'
 | [],M,M',hM,_,h=>by
  obtain rfl:=Option.some.inj h
  exact hM
 | l :: ls,M,M',hM,hl,h=>by
  rw [List.foldlM_cons] at h
  cases hs : sStep M l with
  | none=>rw [hs] at h;cases h
  | some M1 =>
   rw [hs] at h
   exact foldB ls M1 M' (stepB hM (hl l List.mem_cons_self) hs) (fun x hx=>hl x (List.mem_cons_of_mem _ hx)) h
theorem join_no10 : ∀ ws : List ByteArray,(∀ w ∈ ws,no10 w) → no10 (tx ws)
 | [],_=>by intro c hc;simp [tx,joinD] at hc
 | [w],h=>by intro c hc;exact h w List.mem_cons_self c (by simpa [tx,joinD] using hc)
 | w :: x :: ws,h=>by
  intro c hc
  have hc2 : c ∈ w.data.toList ++ 32 :: joinD (x :: ws):=by simpa [tx,joinD] using hc
  rcases List.mem_append.1 hc2 with hc2 | hc2
  ·exact h w List.mem_cons_self c hc2
  ·rcases List.mem_cons.1 hc2 with rfl | hc2
   ·decide
   ·exact join_no10 (x :: ws) (fun y hy=>h y (List.mem_cons_of_mem _ hy)) c (by simpa [tx] using hc2)
theorem kw_no10 : no10 kwRecord ∧ no10 kwFriend ∧ no10 kwFunc ∧ no10 colon:=by
 refine ⟨?_,?_,?_,?_⟩<;>(unfold no10;decide)
theorem lines_no10 {M : MO} (h : okMod M) : ∀ l ∈ mLines M,no10 l:=by
 obtain ⟨⟨r1,r2⟩,⟨n1,n2⟩,f1,f2⟩:=h
 intro l hl
 unfold mLines at hl
 rcases List.mem_append.1 hl with hl | hl
 ·obtain ⟨r,hr,rfl⟩:=List.mem_map.1 hl
  refine join_no10 _ (fun w hw=>?_)
  rcases List.mem_cons.1 hw with rfl | hw
  ·exact kw_no10.1
  ·rcases List.mem_cons.1 hw with rfl | hw
   ·exact num_no10 (r2 r hr).1
   ·exact ((r2 r hr).2.1 w hw).2
 ·rcases List.mem_append.1 hl with hl | hl
  ·unfold friLines at hl
   split at hl
   ·cases hl
   ·rw [List.mem_singleton.1 hl]
    refine join_no10 _ (fun w hw=>?_)
    rcases List.mem_cons.1 hw with rfl | hw
    ·exact kw_no10.2.1
    ·obtain ⟨n,hn,rfl⟩:=List.mem_map.1 hw
     exact num_no10 (n1 n hn)
  ·obtain ⟨f,hf,hl⟩:=List.mem_flatMap.1 hl
   obtain ⟨a0,⟨a1,_⟩,⟨a2,_⟩,⟨a3,_⟩,⟨a4,_⟩,_,a7⟩:=f2 f hf
   rcases List.mem_cons.1 hl with rfl | hl
   ·refine join_no10 _ (fun w hw=>?_)
    rcases List.mem_cons.1 hw with rfl | hw
    ·exact kw_no10.2.2.1
    ·rcases List.mem_cons.1 hw with rfl | hw
     ·exact num_no10 a0
     ·simp only [joinC,List.mem_append,List.mem_cons] at hw
      rcases hw with hw | rfl | hw | rfl | hw | rfl | hw
      ·exact (a1 w hw).1.2
      ·exact kw_no10.2.2.2
      ·exact (a2 w hw).1.2
      ·exact kw_no10.2.2.2
      ·exact (a3 w hw).1.2
      ·exact kw_no10.2.2.2
      ·obtain ⟨n,hn,rfl⟩:=List.mem_map.1 hw
       exact num_no10 (a4 n hn)
   ·obtain ⟨i,hi,rfl⟩:=List.mem_map.1 hl
    exact (a7 i hi).2
theorem read_eq (s : ByteArray) : sRead s = iRead s:=by
 cases hi : iRead s with
 | some M=>exact readA hi
 | none =>
  cases hs : sRead s with
  | none=>rfl
  | some M =>
   exfalso
   unfold sRead at hs
   split at hs
   ·cases hs
   ·rename_i h1
    split at hs
    ·cases hs
    ·rename_i h2
     cases hf : (linesOf s).1.foldlM sStep emptyM with
     | none=>rw [hf] at hs;cases hs
     | some M1 =>
      rw [hf] at hs
      have hs : (if mText M1 = s then some M1 else none) = some M:=hs
      split at hs
      ·rename_i ht
       have hM : okMod M1:=foldB _ _ _ ⟨⟨by decide,by simp [emptyM]⟩,⟨by simp [emptyM],by decide⟩,by decide,by simp [emptyM]⟩ (lines_of s).1 hf
       have hl:=lines_text M1 (lines_no10 hM)
       rw [ht] at hl
       unfold iRead at hi
       rw [if_neg h1,if_neg h2,hl] at hi
       have h3:=take_all hM
       unfold istep at h3
       rw [h3] at hi
       cases hi
      ·cases hs
theorem kTup_ok (t : ByteArray) : (kTup (kAt t)).2.2 = (kAt t).isSome:=by
 cases kAt t with
 | none=>rfl
 | some p=>rfl
theorem rdOf_at {l : List ByteArray} {i : Nat} (h : i < l.length) : rdOf ByteArray.empty l (i : Int) = l[i]:=getDn h
theorem ev_spec_l4Small (x : ByteArray) : EvP (fun k=>spec_l4Small.f k x) (· = sm x):=by
 unfold spec_l4Small.f sm
 refine EvP.ite (fun h=>EvP.ret _ (by rw [if_pos (by omega)])) (fun h=>?_)
 rw [if_neg (by omega)]
 exact EvP.bind (ev_spec_l3Number x) (fun t ht=>EvP.ret _ ht)
theorem ev_impl_short (x : ByteArray) : EvP (fun k=>impl_short.f k x) (· = sh x):=by
 unfold impl_short.f sh
 refine EvP.bind (ev_impl_decimal x) (fun t ht=>?_)
 subst ht
 refine EvP.ite (fun h=>EvP.ret _ ?_) (fun h=>EvP.ret _ ?_)
 ·rw [h,Bool.true_and]
  exact Prod.ext rfl (decide_eq_decide.mpr (by omega))
 ·rw [Bool.not_eq_true] at h
  rw [h,Bool.false_and]
theorem ev_spec_l4Fields (l : List ByteArray) (hl : l.length ≤ 1000000) : EvP (fun k=>spec_l4Fields.f k l) (· = forms l):=by
 unfold spec_l4Fields.f
 have key : ∀ i,i ≤ l.length → EvP (fun k=>spec_l4Fields.l0 k l (i : Int)) (· = ((l.drop i).all formB && decide (l.length ≤ 9))):=by
  refine upInd ?_ ?_
  ·refine EvP.succ ?_
   simp only [spec_l4Fields.l0]
   refine EvP.neg (by omega) (EvP.ret _ ?_)
   rw [List.drop_length,List.all_nil,Bool.true_and]
   exact decide_eq_decide.mpr (by omega)
  ·intro i hi ih
   refine EvP.succ ?_
   simp only [spec_l4Fields.l0]
   rw [rdOf_at hi,List.drop_eq_getElem_cons hi,List.all_cons,w64s hi (by omega)]
   refine EvP.pos (by omega) (EvP.pos (by omega) (EvP.call (eq_spec_l1Of _) (EvP.call (eq_spec_l1Kind _) ?_)))
   rw [kTup_ok]
   unfold formB
   refine EvP.ite (fun h=>?_) (fun h=>EvP.call (eq_spec_l1Of _) (EvP.call (eq_spec_l1Base _) (EvP.ite (fun h2=>?_) (fun h2=>EvP.ret _ ?_))))
   ·rw [h,Bool.true_or,Bool.true_and]
    exact ih
   ·rw [h2,Bool.or_true,Bool.true_and]
    exact ih
   ·rw [Bool.not_eq_true] at h h2
    rw [h,h2]
    rfl
 exact key 0 (by omega)
theorem ev_impl_forms (l : List ByteArray) (hl : l.length ≤ 1000000) : EvP (fun k=>impl_forms.f k l) (· = forms l):=by
 unfold impl_forms.f
 have key : ∀ i,i ≤ l.length → EvP (fun k=>impl_forms.l0 k l l (l.length : Int) (i : Int)) (· = ((l.drop i).all formB && decide (l.length ≤ 9))):=by
  refine upInd ?_ ?_
  ·refine EvP.succ ?_
   simp only [impl_forms.l0]
   refine EvP.neg (by omega) (EvP.ret _ ?_)
   rw [List.drop_length,List.all_nil,Bool.true_and]
   exact decide_eq_decide.mpr (by omega)
  ·intro i hi ih
   refine EvP.succ ?_
   simp only [impl_forms.l0]
   rw [rdOf_at hi,List.drop_eq_getElem_cons hi,List.all_cons,w64s hi (by omega)]
   refine EvP.pos (by omega) (EvP.pos (by omega) (EvP.pos (by omega) (EvP.call (eq_impl_signOf _) (EvP.call (eq_impl_kindAt _) ?_))))
   rw [kTup_ok]
   show EvP _ _
   unfold formB
   have hb : isBase (strip l[i]) = (decide ((strip l[i]).toList = ([110] : List UInt8)) || (decide ((strip l[i]).toList = ([98] : List UInt8)) || decide ((strip l[i]).toList = ([111] : List UInt8)))):=by
    have:=eq_spec_l1Base (strip l[i])
    unfold spec_l1Base.f at this
    by_cases h1 : (strip l[i]).toList = ([110] : List UInt8)
    ·rw [if_pos h1] at this
     rw [← Option.some.inj this,decide_eq_true h1,Bool.true_or]
    ·by_cases h2 : (strip l[i]).toList = ([98] : List UInt8)
     ·rw [if_neg h1,if_pos h2] at this
      rw [← Option.some.inj this,decide_eq_true h2,Bool.true_or,Bool.or_true]
     ·rw [if_neg h1,if_neg h2] at this
      rw [← Option.some.inj this,decide_eq_false h1,decide_eq_false h2,Bool.false_or,Bool.false_or]
      by_cases h3 : (strip l[i]).toList = ([111] : List UInt8)
      ·rw [h3]
       rfl
      ·rw [decide_eq_false h3]
       exact beq_eq_false_iff_ne.mpr h3
   rw [hb]
   refine EvP.ite (fun h=>?_) (fun h=>EvP.ite (fun h2=>?_) (fun h2=>EvP.ite (fun h3=>?_) (fun h3=>EvP.ite (fun h4=>?_) (fun h4=>EvP.ret _ ?_))))
   ·rw [h,Bool.true_or,Bool.true_and]
    exact ih
   ·rw [decide_eq_true h2,Bool.true_or,Bool.or_true,Bool.true_and]
    exact ih
   ·rw [decide_eq_true h3,Bool.true_or,Bool.or_true,Bool.or_true,Bool.true_and]
    exact ih
   ·rw [decide_eq_true h4,Bool.or_true,Bool.or_true,Bool.or_true,Bool.true_and]
    exact ih
   ·rw [Bool.not_eq_true] at h
    rw [h,decide_eq_false h2,decide_eq_false h3,decide_eq_false h4]
    rfl
 exact key 0 (by omega)
theorem nums_app : ∀ (a b : List ByteArray),a.all (fun x=>decide (0 ≤ sm x)) = true → numsOf (a ++ b) = a.map sm ++ numsOf b
 | [],b,_=>rfl
 | x :: a,b,h=>by
  rw [List.all_cons,Bool.and_eq_true] at h
  show (if 0 ≤ sm x then sm x :: numsOf (a ++ b) else []) = _
  rw [if_pos (of_decide_eq_true h.1),nums_app a b h.2]
  rfl
theorem nums_take {l : List ByteArray} {i : Nat} (hi : i < l.length) (h : (l.take i).all (fun x=>decide (0 ≤ sm x)) = true) : numsOf l = (l.take i).map sm ++ numsOf (l.drop i):=by
 have:=nums_app (l.take i) (l.drop i) h
 rwa [List.take_append_drop] at this
theorem ev_spec_l4ReadNumbers (l : List ByteArray) (hl : l.length ≤ 1000000) : EvP (fun k=>spec_l4ReadNumbers.f k l) (· = (numsOf l,numsOk l)):=by
 unfold spec_l4ReadNumbers.f
 have key : ∀ i,i ≤ l.length → (l.take i).all (fun x=>decide (0 ≤ sm x)) = true → EvP (fun k=>spec_l4ReadNumbers.l0 k l ((l.take i).map sm) (i : Int)) (· = (numsOf l,numsOk l)):=by
  refine upInd ?_ ?_
  ·intro ha
   refine EvP.succ ?_
   simp only [spec_l4ReadNumbers.l0]
   refine EvP.neg (by omega) (EvP.ret _ ?_)
   rw [List.take_of_length_le (Nat.le_refl _)] at ha ⊢
   have e2 : numsOf l = l.map sm:=by
    have:=nums_app l [] ha
    rw [List.append_nil] at this
    rw [this]
    exact List.append_nil _
   rw [e2]
   refine Prod.ext rfl ?_
   show decide ((l.length : Int) ≤ 9) = (numsAll l && decide (l.length ≤ 9))
   rw [show numsAll l = true from ha,Bool.true_and]
   exact decide_eq_decide.mpr (by omega)
  ·intro i hi ih ha
   refine EvP.succ ?_
   simp only [spec_l4ReadNumbers.l0]
   rw [rdOf_at hi,w64s hi (by omega)]
   have hta : l.take (i + 1) = l.take i ++ [l[i]]:=List.take_succ_eq_append_getElem hi
   refine EvP.pos (by omega) (EvP.pos (by omega) (EvP.bind (ev_spec_l4Small _) (fun t ht=>?_)))
   subst ht
   refine EvP.ite (fun h=>EvP.ret _ ?_) (fun h=>EvP.pos (by rw [List.length_map,List.length_take];omega) ?_)
   ·refine Prod.ext ?_ ?_
    ·show (l.take i).map sm = numsOf l
     rw [nums_take hi ha,List.drop_eq_getElem_cons hi]
     show _ = _ ++ (if 0 ≤ sm l[i] then _ else _)
     rw [if_neg (by omega),List.append_nil]
    ·show false = numsOk l
     unfold numsOk numsAll
     have : l.all (fun x=>decide (0 ≤ sm x)) = false:=by
      rw [List.all_eq_false]
      exact ⟨l[i],List.getElem_mem hi,by simp;omega⟩
     rw [this]
     rfl
   ·have e : (l.take i).map sm ++ [sm l[i]] = (l.take (i + 1)).map sm:=by rw [hta,List.map_append];rfl
    rw [e]
    refine ih ?_
    rw [hta,List.all_append,ha]
    simp
    omega
 exact key 0 (by omega) rfl
theorem ev_impl_shorts (l : List ByteArray) (hl : l.length ≤ 1000000) : EvP (fun k=>impl_shorts.f k l) (· = (numsOf l,numsOk l)):=by
 unfold impl_shorts.f
 have key : ∀ i,i ≤ l.length → (l.take i).all (fun x=>decide (0 ≤ sm x)) = true → EvP (fun k=>impl_shorts.l0 k l ((l.take i).map sm) l (l.length : Int) (i : Int)) (· = (numsOf l,numsOk l)):=by
  refine upInd ?_ ?_
  ·intro ha
   refine EvP.succ ?_
   simp only [impl_shorts.l0]
   refine EvP.neg (by omega) (EvP.ret _ ?_)
   rw [List.take_of_length_le (Nat.le_refl _)] at ha ⊢
   have e2 : numsOf l = l.map sm:=by
    have:=nums_app l [] ha
    rw [List.append_nil] at this
    rw [this]
    exact List.append_nil _
   rw [e2]
   refine Prod.ext rfl ?_
   show decide ((l.length : Int) ≤ 9) = (numsAll l && decide (l.length ≤ 9))
   rw [show numsAll l = true from ha,Bool.true_and]
   exact decide_eq_decide.mpr (by omega)
  ·intro i hi ih ha
   refine EvP.succ ?_
   simp only [impl_shorts.l0]
   rw [rdOf_at hi,w64s hi (by omega)]
   have hta : l.take (i + 1) = l.take i ++ [l[i]]:=List.take_succ_eq_append_getElem hi
   refine EvP.pos (by omega) (EvP.pos (by omega) (EvP.pos (by omega) (EvP.bind (ev_impl_short _) (fun t ht=>?_))))
   subst ht
   obtain ⟨q1,q2⟩:=sm_sh l[i]
   refine EvP.ite (fun h=>EvP.pos (by rw [List.length_map,List.length_take];omega) ?_) (fun h=>EvP.ret _ ?_)
   ·have e : (l.take i).map sm ++ [(sh l[i]).1] = (l.take (i + 1)).map sm:=by rw [hta,List.map_append,(q2 h).1];rfl
    rw [e]
    refine ih ?_
    rw [hta,List.all_append,ha]
    have:=of_decide_eq_true (q1.symm.trans h)
    simp
    exact this
   ·have hn : ¬ 0 ≤ sm l[i]:=fun hh=>h (q1.trans (decide_eq_true hh))
    refine Prod.ext ?_ ?_
    ·show (l.take i).map sm = numsOf l
     rw [nums_take hi ha,List.drop_eq_getElem_cons hi]
     show _ = _ ++ (if 0 ≤ sm l[i] then _ else _)
     rw [if_neg hn,List.append_nil]
    ·show false = numsOk l
     unfold numsOk numsAll
     have : l.all (fun x=>decide (0 ≤ sm x)) = false:=by
      rw [List.all_eq_false]
      exact ⟨l[i],List.getElem_mem hi,by simp;omega⟩
     rw [this]
     rfl
 exact key 0 (by omega) rfl
theorem colon_list : colon.toList = ([58] : List UInt8):=by decide +kernel
theorem split_FC (l : List ByteArray) : splitF l = splitC l:=by
 unfold splitF splitC
 have e : stepF = stepC:=by
  funext ps x
  unfold stepF stepC
  by_cases h : x = colon
  ·rw [if_pos h,if_pos (by rw [h,colon_list])]
  ·rw [if_neg h,if_neg (fun hh=>h (bytes_ext (hh.trans colon_list.symm)))]
 rw [e]
theorem ev_spec_l4ReadFunc (ws : List ByteArray) (hl : ws.length ≤ 100000) : EvP (fun k=>spec_l4ReadFunc.f k ws) (fun r=>readFn ws = if r.2.2.2.2.2.2 = true then some ⟨r.1,r.2.1,r.2.2.1,r.2.2.2.1,r.2.2.2.2.1,r.2.2.2.2.2.1⟩ else none):=by
 unfold spec_l4ReadFunc.f
 have hs : spec_l4Split.f ws = some (splitC ws):=by
  unfold spec_l4Split.f
  rw [if_pos hl,split_FC]
 have hlen : ∀ p ∈ splitC ws,p.length ≤ 1000000:=fun p hp=>by
  have h:=(joinC_split ws).1
  have : p.length ≤ (joinC (splitC ws)).length:=by
   generalize splitC ws = qs at hp
   clear h hs
   induction qs with
   | nil=>simp at hp
   | cons q qs ih =>
    cases qs with
    | nil =>
     rw [List.mem_singleton] at hp
     rw [hp]
     exact Nat.le_refl _
    | cons r rs =>
     show _ ≤ (q ++ colon :: joinC (r :: rs)).length
     rw [List.length_append,List.length_cons]
     rcases List.mem_cons.1 hp with rfl | hp
     ·omega
     ·have:=ih hp
      omega
  rw [h] at this
  omega
 refine EvP.call hs ?_
 unfold readFn
 simp only
 generalize splitC ws = ps at hlen
 have hg : ∀ i,i < ps.length → (ps.getD i []).length ≤ 1000000:=fun i hi=>by
  rw [List.getD_eq_getElem?_getD,List.getElem?_eq_getElem hi]
  exact hlen _ (List.getElem_mem hi)
 have hbad : (ps.length ≠ 4 ∨ (ps.getD 0 []).length = 0) → EvP (fun k=>spec_l4ReadFunc.j0 k ps true) (fun r=>(if ps.length ≠ 4 ∨ (ps.getD 0 []).length = 0 then none else if numsOk (ps.getD 3 []) = true ∧ 0 ≤ sm ((ps.getD 0 []).getD 0 ByteArray.empty) ∧ forms ((ps.getD 0 []).drop 1) = true ∧ forms (ps.getD 1 []) = true ∧ forms (ps.getD 2 []) = true then some (⟨sm ((ps.getD 0 []).getD 0 ByteArray.empty),(ps.getD 0 []).drop 1,ps.getD 1 [],ps.getD 2 [],numsOf (ps.getD 3 []),[]⟩ : Fn) else none) = if r.2.2.2.2.2.2 = true then some ⟨r.1,r.2.1,r.2.2.1,r.2.2.2.1,r.2.2.2.2.1,r.2.2.2.2.2.1⟩ else none):=by
  intro h
  refine EvP.succ ?_
  simp only [spec_l4ReadFunc.j0]
  refine EvP.pos trivial (EvP.ret _ ?_)
  rw [if_pos h]
  rfl
 refine EvP.ite (fun h=>?_) (fun h=>hbad (.inl (by omega)))
 refine EvP.pos (by omega) ?_
 have e0 : rd_L2 ps 0 = ps.getD 0 []:=rfl
 have e1 : rd_L2 ps 1 = ps.getD 1 []:=rfl
 have e2 : rd_L2 ps 2 = ps.getD 2 []:=rfl
 have e3 : rd_L2 ps 3 = ps.getD 3 []:=rfl
 rw [e0]
 by_cases hz : (ps.getD 0 []).length = 0
 ·have : (((ps.getD 0 []).length : Int) == 0) = true:=beq_iff_eq.mpr (by omega)
  rw [this]
  exact hbad (.inr hz)
 ·have : (((ps.getD 0 []).length : Int) == 0) = false:=beq_eq_false_iff_ne.mpr (by omega)
  rw [this]
  refine EvP.succ ?_
  simp only [spec_l4ReadFunc.j0]
  have f0 : rdOf ByteArray.empty (ps.getD 0 []) 0 = (ps.getD 0 []).getD 0 ByteArray.empty:=rfl
  rw [e0,e1,e2,e3,f0,if_neg (show ¬ (ps.length ≠ 4 ∨ (ps.getD 0 []).length = 0) from by omega)]
  have g0:=hg 0 (by omega)
  have g1:=hg 1 (by omega)
  have g2:=hg 2 (by omega)
  have g3:=hg 3 (by omega)
  generalize ps.getD 0 [] = p0 at g0 hz ⊢
  generalize ps.getD 1 [] = p1 at g1 ⊢
  generalize ps.getD 2 [] = p2 at g2 ⊢
  generalize ps.getD 3 [] = p3 at g3 ⊢
  refine EvP.neg (by decide) (EvP.pos (by omega) (EvP.pos (by omega) (EvP.bind (ev_spec_l4Small _) (fun t ht=>?_))))
  subst ht
  refine EvP.pos (by omega) (EvP.bind (ev_spec_l4ReadNumbers _ g3) (fun t ht=>?_))
  subst ht
  refine EvP.pos (by omega) (EvP.call rfl ?_)
  have gd : (p0.drop 1).length ≤ 1000000:=by rw [List.length_drop];omega
  refine EvP.pos (by omega) (EvP.pos (by omega) (EvP.ite (fun h1=>EvP.ite (fun h2=>EvP.bind (ev_spec_l4Fields _ gd) (fun t ht=>?_)) (fun h2=>EvP.ret _ ?_)) (fun h1=>EvP.ret _ ?_)))
  ·subst ht
   refine EvP.ite (fun h3=>EvP.bind (ev_spec_l4Fields _ g1) (fun t ht=>?_)) (fun h3=>EvP.ret _ ?_)
   ·subst ht
    refine EvP.ite (fun h4=>EvP.bind (ev_spec_l4Fields _ g2) (fun t ht=>EvP.ret _ ?_)) (fun h4=>EvP.ret _ ?_)
    ·subst ht
     by_cases h5 : forms p2 = true
     ·rw [if_pos ⟨h1,h2,h3,h4,h5⟩,if_pos h5]
     ·rw [if_neg (fun hh=>h5 hh.2.2.2.2),if_neg h5]
    ·rw [if_neg (fun hh=>h4 hh.2.2.2.1)]
     rfl
   ·rw [if_neg (fun hh=>h3 hh.2.2.1)]
    rfl
  ·rw [if_neg (fun hh=>h2 hh.2.1)]
   rfl
  ·rw [if_neg (fun hh=>h1 hh.1)]
   rfl
theorem ev_spec_l4Lines (s : ByteArray) (hs : s.size ≤ 1000000) : EvP (fun k=>spec_l4Lines.f k s) (· = ((linesOf s).1,decide ((linesOf s).2 = ⟨#[]⟩))):=by
 unfold spec_l4Lines.f
 have hlen : s.data.toList.length = s.size:=by simp
 have key : ∀ i,i ≤ s.size → ∀ (out : List ByteArray) (w : ByteArray),(out,w) = (s.data.toList.take i).foldl stepL ([],⟨#[]⟩) → out.length ≤ i → w.size ≤ i → EvP (fun k=>spec_l4Lines.l0 k s out w (i : Int)) (· = ((linesOf s).1,decide ((linesOf s).2 = ⟨#[]⟩))):=by
  refine upInd ?_ ?_
  ·intro out w hw _ _
   refine EvP.succ ?_
   simp only [spec_l4Lines.l0]
   refine EvP.neg (by omega) (EvP.ret _ ?_)
   rw [List.take_of_length_le (by omega)] at hw
   unfold linesOf
   rw [← hw]
   refine Prod.ext rfl ?_
   show (w.toList == ([] : List UInt8)) = decide (w = ⟨#[]⟩)
   by_cases h : w = ⟨#[]⟩
   ·rw [h]
    decide +kernel
   ·rw [decide_eq_false h]
    refine beq_eq_false_iff_ne.mpr (fun hh=>h (bytes_ext (hh.trans ?_)))
    decide +kernel
  ·intro i hi ih out w hw ho hz
   refine EvP.succ ?_
   simp only [spec_l4Lines.l0]
   have hi2 : i < s.data.toList.length:=by omega
   have hb:=bt_list hi2
   have hn : (s.data.toList.take (i + 1)).foldl stepL ([],⟨#[]⟩) = stepL (out,w) s.data.toList[i]:=by
    rw [List.take_succ_eq_append_getElem hi2,List.foldl_append,← hw]
    rfl
   rw [hb,w64s hi (by omega)]
   have h10 : (10 : UInt8).toNat = 10:=rfl
   refine EvP.pos (by omega) (EvP.pos (by omega) (EvP.ite (fun h=>?_) (fun h=>?_)))
   ·have hc : s.data.toList[i] = 10:=by apply UInt8.toNat_inj.1;omega
    refine EvP.pos (by omega) (ih _ _ ?_ (by rw [List.length_append];simp;omega) (Nat.zero_le _))
    rw [hn]
    unfold stepL
    rw [if_pos hc]
   ·have hc : s.data.toList[i] ≠ 10:=by intro e;apply h;rw [e];rfl
    have e3 : s.extract ((i : Int)).toNat (((i + 1 : Nat) : Int)).toNat = ⟨#[s.data.toList[i]]⟩:=by
     rw [Int.toNat_natCast,Int.toNat_natCast]
     apply ByteArray.ext
     apply Array.toList_inj.1
     rw [ByteArray.data_extract,Array.toList_extract,List.extract_eq_take_drop]
     rw [show i + 1 - i = 1 by omega,List.drop_eq_getElem_cons hi2]
     rfl
    have e5 : (⟨#[s.data.toList[i]]⟩ : ByteArray).size = 1:=rfl
    rw [e3]
    refine EvP.pos (by omega) (EvP.pos (by omega) (EvP.pos (by omega) (ih _ _ ?_ (by omega) (by rw [ByteArray.size_append,e5];omega))))
    rw [hn]
    unfold stepL
    rw [if_neg hc]
 exact key 0 (by omega) _ _ rfl (Nat.le_refl _) (Nat.le_refl _)
theorem okNum_small {n : Int} (h : okNum n) : n ≤ 99 ∧ (dec n).size ≤ 2:=by
 obtain ⟨h0,h1⟩:=h
 have hs : (dec n).size ≤ 2:=by
  refine Nat.le_of_not_lt (fun hc=>?_)
  unfold sm at h1
  rw [if_pos hc] at h1
  omega
 refine ⟨?_,hs⟩
 refine Int.le_of_not_gt (fun hc=>?_)
 have e : ((n.toNat : Nat) : Int) = n:=by omega
 rw [← e,dec_step (by omega),ByteArray.size_append,dec_step (by omega),ByteArray.size_append] at hs
 have p1:=dec_pos (n.toNat / 10 / 10)
 have p2:=dec_pos (n.toNat / 10 % 10)
 have p3:=dec_pos (n.toNat % 10)
 omega
theorem ev_decOk {n : Int} (h : okNum n) : EvP (fun k=>spec_l6Dec.f k n) (· = dec n):=by
 have:=ev_dec_all n.toNat (by have:=okNum_small h;omega)
 rwa [show ((n.toNat : Nat) : Int) = n from by have:=h.1;omega] at this
theorem form_small {t : ByteArray} (h : formB t = true) : t.size ≤ 20:=by
 have hs : (strip t).size ≤ 3:=by
  unfold formB at h
  rw [Bool.or_eq_true] at h
  rcases h with h | h
  ·obtain ⟨p,hp⟩:=Option.isSome_iff_exists.1 h
   exact Nat.le_of_eq (kAt_size hp).1
  ·have e:=eq_spec_l1Base (strip t)
   rw [h] at e
   have hz:=list_size (strip t)
   unfold spec_l1Base.f at e
   split at e
   ·rename_i h1
    rw [h1] at hz
    simp at hz
    omega
   ·split at e
    ·rename_i h1
     rw [h1] at hz
     simp at hz
     omega
    ·injection e with e
     rw [beq_iff_eq] at e
     rw [e] at hz
     simp at hz
     omega
 unfold strip at hs
 split at hs
 ·rw [ByteArray.size_extract] at hs
  omega
 ·omega
theorem forms_small {l : List ByteArray} (h : forms l = true) : l.length ≤ 9 ∧ ∀ w ∈ l,w.size ≤ 20:=by
 unfold forms at h
 rw [Bool.and_eq_true] at h
 exact ⟨of_decide_eq_true h.2,fun w hw=>form_small (List.all_eq_true.1 h.1 w hw)⟩
def thB (l : List ByteArray) : List UInt8:=l.flatMap (fun w=>32 :: w.data.toList)
theorem thB_cons (w : ByteArray) (l : List ByteArray) : thB (w :: l) = 32 :: (w.data.toList ++ thB l):=rfl
theorem joinD_thB : ∀ (w : ByteArray) (ws : List ByteArray),joinD (w :: ws) = w.data.toList ++ thB ws
 | w,[]=>by simp [joinD,thB]
 | w,x :: ws=>by
  show w.data.toList ++ 32 :: joinD (x :: ws) = _
  rw [joinD_thB x ws]
  simp [thB]
theorem thB_append (a b : List ByteArray) : thB (a ++ b) = thB a ++ thB b:=by simp [thB]
theorem size_list (s : ByteArray) : s.data.toList.length = s.size:=by simp
theorem ev_spec_l4Things (l : List ByteArray) (hl : l.length ≤ 9) (hw : ∀ w ∈ l,w.size ≤ 20) : EvP (fun k=>spec_l4Things.f k l) (fun r=>r.data.toList = thB l ∧ r.size ≤ 189):=by
 unfold spec_l4Things.f
 have key : ∀ i,i ≤ l.length → ∀ out : ByteArray,out.size ≤ 21 * i → EvP (fun k=>spec_l4Things.l0 k l out (i : Int)) (fun r=>r.data.toList = out.data.toList ++ thB (l.drop i) ∧ r.size ≤ 189):=by
  refine upInd ?_ ?_
  ·intro out ho
   refine EvP.succ ?_
   simp only [spec_l4Things.l0]
   refine EvP.neg (by omega) (EvP.ret _ ⟨?_,by omega⟩)
   rw [List.drop_length]
   simp [thB]
  ·intro i hi ih out ho
   refine EvP.succ ?_
   simp only [spec_l4Things.l0]
   have hz:=hw _ (List.getElem_mem hi)
   rw [rdOf_at hi,w64s hi (by omega)]
   have s1 : (out ++ (⟨#[32]⟩ : ByteArray)).size = out.size + 1:=by rw [ByteArray.size_append];rfl
   refine EvP.pos (by omega) (EvP.pos (by omega) (EvP.pos (by omega) (EvP.pos (by omega) ((ih _ (by rw [ByteArray.size_append];omega)).mono (fun r hr=>⟨?_,hr.2⟩)))))
   rw [hr.1,List.drop_eq_getElem_cons hi]
   simp only [List.map_cons,thB_cons,app_list,List.append_assoc]
   rfl
 refine (key 0 (by omega) _ (Nat.le_refl _)).mono (fun r hr=>⟨?_,hr.2⟩)
 rw [hr.1]
 simp
theorem ev_spec_l4Numbers (l : List Int) (hl : l.length ≤ 9) (hw : ∀ n ∈ l,okNum n) : EvP (fun k=>spec_l4Numbers.f k l) (fun r=>r.data.toList = thB (l.map dec) ∧ r.size ≤ 189):=by
 unfold spec_l4Numbers.f
 have key : ∀ i,i ≤ l.length → ∀ out : ByteArray,out.size ≤ 21 * i → EvP (fun k=>spec_l4Numbers.l0 k l out (i : Int)) (fun r=>r.data.toList = out.data.toList ++ thB ((l.drop i).map dec) ∧ r.size ≤ 189):=by
  refine upInd ?_ ?_
  ·intro out ho
   refine EvP.succ ?_
   simp only [spec_l4Numbers.l0]
   refine EvP.neg (by omega) (EvP.ret _ ⟨?_,by omega⟩)
   rw [List.drop_length]
   simp [thB]
  ·intro i hi ih out ho
   refine EvP.succ ?_
   simp only [spec_l4Numbers.l0]
   have hn:=hw _ (List.getElem_mem hi)
   have hz:=(okNum_small hn).2
   have er : rd l (i : Int) = l[i]:=getDn hi
   rw [er,w64s hi (by omega)]
   have s1 : (out ++ (⟨#[32]⟩ : ByteArray)).size = out.size + 1:=by rw [ByteArray.size_append];rfl
   refine EvP.pos (by omega) (EvP.pos (by omega) (EvP.pos (by omega) (EvP.bind (ev_decOk hn) (fun t ht=>?_))))
   subst ht
   refine EvP.pos (by omega) ((ih _ (by rw [ByteArray.size_append];omega)).mono (fun r hr=>⟨?_,hr.2⟩))
   rw [hr.1,List.drop_eq_getElem_cons hi]
   simp only [List.map_cons,thB_cons,app_list,List.append_assoc]
   rfl
 refine (key 0 (by omega) _ (Nat.le_refl _)).mono (fun r hr=>⟨?_,hr.2⟩)
 rw [hr.1]
 simp
theorem ev_spec_l4Ins {w : ByteArray} {a b : Int} (h : insOk w a b = true) : EvP (fun k=>spec_l4Ins.f k w a b) (· = insText w a b):=by
 have hz:=text_small w a b
 unfold spec_l4Ins.f
 unfold insText at hz ⊢
 rw [if_pos h] at hz ⊢
 obtain ⟨⟨a0,a1⟩,b0,b1⟩:=ins_num h
 obtain ⟨r0,r1,r2,r3⟩:=look_in w insTab insTab_ok
 have sa:=dec_size a.toNat
 have sb:=dec_size b.toNat
 have da:=ev_dec_all a.toNat (by omega)
 have db:=ev_dec_all b.toNat (by omega)
 have ea : ((a.toNat : Nat) : Int) = a:=by omega
 have eb : ((b.toNat : Nat) : Int) = b:=by omega
 rw [ea] at sa da
 rw [eb] at sb db
 have s0 : (w ++ (⟨#[32]⟩ : ByteArray)).size = w.size + 1:=by rw [ByteArray.size_append];rfl
 have hw : w.size ≤ 40:=by
  split at hz
  ·exact hz
  ·split at hz
   ·rw [ByteArray.size_append] at hz;omega
   ·rw [ByteArray.size_append,ByteArray.size_append] at hz;omega
 refine EvP.bind (ev_spec_l3Needs w) (fun t ht=>?_)
 subst ht
 refine EvP.ite (fun h1=>?_) (fun h1=>?_)
 ·rw [if_neg (by omega)]
  refine EvP.pos (by omega) (EvP.bind da (fun t ht=>?_))
  subst ht
  have s1 : ((w ++ (⟨#[32]⟩ : ByteArray)) ++ dec a).size = w.size + 1 + (dec a).size:=by rw [ByteArray.size_append,s0]
  refine EvP.pos (by omega) (EvP.ite (fun h2=>?_) (fun h2=>EvP.ret _ ?_))
  ·rw [if_neg (by omega)]
   refine EvP.pos (by omega) (EvP.bind db (fun t ht=>?_))
   subst ht
   have s2 : (((w ++ (⟨#[32]⟩ : ByteArray)) ++ dec a) ++ (⟨#[32]⟩ : ByteArray)).size = w.size + 1 + (dec a).size + 1:=by rw [ByteArray.size_append,s1];rfl
   refine EvP.pos (by omega) (EvP.ret _ ?_)
   simp only [ByteArray.append_assoc]
  ·rw [if_pos (by omega)]
   simp only [ByteArray.append_assoc]
 ·have h3 : (look w insTab).2.1 = 0:=by omega
  have h4:=look_two w h3
  rw [if_pos h3]
  exact EvP.neg (by omega) (EvP.ret _ rfl)
theorem tx_list (w : ByteArray) (ws : List ByteArray) : (tx (w :: ws)).data.toList = w.data.toList ++ thB ws:=by
 show (joinD (w :: ws)).toArray.toList = _
 rw [joinD_thB]
theorem unl_cons (l : ByteArray) (ls : List ByteArray) : unl (l :: ls) = l.data.toList ++ 10 :: unl ls:=by simp [unl]
theorem unl_append (a b : List ByteArray) : unl (a ++ b) = unl a ++ unl b:=by simp [unl]
theorem ev_spec_ModuleText {M : MO} (h : okMod M) : EvP (fun k=>spec_ModuleText.f k M.r M.f M.n) (· = mText M):=by
 obtain ⟨⟨r1,r2⟩,⟨n1,n2⟩,f1,f2⟩:=h
 have hl1 : ∀ i,i ≤ M.f.length → ∀ x : ByteArray,x.size ≤ 5000 + 5000 * i → EvP (fun k=>spec_ModuleText.l1 k x (i : Int) M.r M.f M.n) (fun r=>r.data.toList = x.data.toList ++ unl ((M.f.drop i).flatMap funLines)):=by
  refine upInd ?_ ?_
  ·intro x hx
   refine EvP.succ ?_
   simp only [spec_ModuleText.l1]
   refine EvP.neg (by omega) (EvP.ret _ ?_)
   rw [List.drop_length]
   simp [unl]
  ·intro i hi ih x hx
   refine EvP.succ ?_
   simp only [spec_ModuleText.l1]
   have er : rd_T55 M.f (i : Int) = M.f[i]:=getDn hi
   obtain ⟨a0,⟨a1,b1⟩,⟨a2,b2⟩,⟨a3,b3⟩,⟨a4,b4⟩,a5,a6⟩:=f2 _ (List.getElem_mem hi)
   have z0:=(okNum_small a0).2
   obtain ⟨b1,c1⟩:=forms_small b1
   obtain ⟨b2,c2⟩:=forms_small b2
   obtain ⟨b3,c3⟩:=forms_small b3
   rw [er,List.drop_eq_getElem_cons hi]
   generalize M.f[i] = g at a0 a1 a2 a3 a4 a5 a6 b1 c1 b2 c2 b3 c3 b4 z0 ⊢
   have k5 : (⟨#[102,117,110,99,32]⟩ : ByteArray).size = 5:=rfl
   have k2 : (⟨#[32,58]⟩ : ByteArray).size = 2:=rfl
   have k1 : (⟨#[10]⟩ : ByteArray).size = 1:=rfl
   refine EvP.pos (by omega) (EvP.pos (by omega) (EvP.pos (by omega) (EvP.bind (ev_decOk a0) (fun t ht=>?_))))
   subst ht
   refine EvP.pos (by rw [ByteArray.size_append];omega) (EvP.bind (ev_spec_l4Things _ b1 c1) (fun t1 ht1=>?_))
   obtain ⟨q1,s1⟩:=ht1
   refine EvP.pos (by simp only [ByteArray.size_append];omega) (EvP.pos (by simp only [ByteArray.size_append];omega) (EvP.bind (ev_spec_l4Things _ b2 c2) (fun t2 ht2=>?_)))
   obtain ⟨q2,s2⟩:=ht2
   refine EvP.pos (by simp only [ByteArray.size_append];omega) (EvP.pos (by simp only [ByteArray.size_append];omega) (EvP.bind (ev_spec_l4Things _ b3 c3) (fun t3 ht3=>?_)))
   obtain ⟨q3,s3⟩:=ht3
   refine EvP.pos (by simp only [ByteArray.size_append];omega) (EvP.pos (by simp only [ByteArray.size_append];omega) (EvP.bind (ev_spec_l4Numbers _ b4 a4) (fun t4 ht4=>?_)))
   obtain ⟨q4,s4⟩:=ht4
   refine EvP.pos (by simp only [ByteArray.size_append];omega) (EvP.pos (by simp only [ByteArray.size_append];omega) ?_)
   have hcode : ∀ j,j ≤ g.f5.length → ∀ y : ByteArray,y.size ≤ 5000 + 5000 * i + 2000 + 41 * j → EvP (fun k=>spec_ModuleText.l2 k y (i : Int) (j : Int) M.r M.f M.n g.f0 g.f1 g.f2 g.f3 g.f4 g.f5) (fun r=>r.data.toList = y.data.toList ++ (unl ((g.f5.drop j).map insLine) ++ unl ((M.f.drop (i + 1)).flatMap funLines))):=by
    refine upInd ?_ ?_
    ·intro y hy
     refine EvP.succ ?_
     simp only [spec_ModuleText.l2]
     rw [w64s hi (by omega)]
     refine EvP.neg (by omega) ((ih y (by omega)).mono (fun r hr=>?_))
     rw [hr,List.drop_length]
     rfl
    ·intro j hj ihj y hy
     refine EvP.succ ?_
     simp only [spec_ModuleText.l2]
     have ej : rd_T59 g.f5 (j : Int) = g.f5[j]:=getDn hj
     rw [ej,w64s hj (by omega)]
     refine EvP.pos (by omega) (EvP.pos (by omega) (EvP.bind (ev_spec_l4Ins (a6 _ (List.getElem_mem hj)).1) (fun t ht=>?_)))
     subst ht
     have hz:=text_small g.f5[j].f0 g.f5[j].f1 g.f5[j].f2
     refine EvP.pos (by omega) (EvP.pos (by simp only [ByteArray.size_append];omega) ((ihj _ (by simp only [ByteArray.size_append];omega)).mono (fun r hr=>?_)))
     rw [hr,List.drop_eq_getElem_cons hj,List.map_cons,unl_cons]
     simp only [app_list,List.append_assoc]
     rfl
   refine (hcode 0 (by omega) _ (by simp only [ByteArray.size_append];omega)).mono (fun r hr=>?_)
   rw [hr,List.flatMap_cons,unl_append]
   unfold funLines
   rw [unl_cons]
   unfold funWords
   rw [tx_list]
   simp only [joinC,thB_cons,thB_append,app_list,q1,q2,q3,q4,List.append_assoc,List.cons_append,List.drop_zero]
   rfl
 have hj1 : ∀ x : ByteArray,x.size ≤ 5000 → EvP (fun k=>spec_ModuleText.j1 k x M.r M.f M.n) (fun r=>r.data.toList = x.data.toList ++ unl (M.f.flatMap funLines)):=by
  intro x hx
  refine EvP.succ ?_
  simp only [spec_ModuleText.j1]
  exact hl1 0 (by omega) x (by omega)
 have hl0 : ∀ i,i ≤ M.r.length → ∀ x : ByteArray,x.size ≤ 500 * i → EvP (fun k=>spec_ModuleText.l0 k x (i : Int) M.r M.f M.n) (fun r=>r.data.toList = x.data.toList ++ unl ((M.r.drop i).map (fun r=>tx (recWords r)) ++ (friLines M.n ++ M.f.flatMap funLines))):=by
  refine upInd ?_ ?_
  ·intro x hx
   refine EvP.succ ?_
   simp only [spec_ModuleText.l0]
   refine EvP.neg (by omega) (EvP.ite (fun h=>?_) (fun h=>?_))
   ·refine EvP.pos (by omega) (EvP.bind (ev_spec_l4Numbers _ n2 n1) (fun t ht=>?_))
    obtain ⟨q1,s1⟩:=ht
    have k6 : (⟨#[102,114,105,101,110,100]⟩ : ByteArray).size = 6:=rfl
    have k1 : (⟨#[10]⟩ : ByteArray).size = 1:=rfl
    refine EvP.pos (by simp only [ByteArray.size_append];omega) (EvP.pos (by simp only [ByteArray.size_append];omega) ((hj1 _ (by simp only [ByteArray.size_append];omega)).mono (fun r hr=>?_)))
    have hn : M.n ≠ []:=by intro hn;rw [hn] at h;simp at h
    rw [hr,List.drop_length,List.map_nil,List.nil_append,unl_append]
    unfold friLines
    rw [if_neg hn,unl_cons]
    unfold friWords
    rw [tx_list]
    simp only [app_list,q1,List.append_assoc]
    rfl
   ·have hn : M.n = []:=List.eq_nil_of_length_eq_zero (by omega)
    refine (hj1 x (by omega)).mono (fun r hr=>?_)
    rw [hr,List.drop_length,List.map_nil,List.nil_append]
    unfold friLines
    rw [if_pos hn]
    rfl
  ·intro i hi ih x hx
   refine EvP.succ ?_
   simp only [spec_ModuleText.l0]
   have er : rd_T50 M.r (i : Int) = M.r[i]:=getDn hi
   obtain ⟨a0,a1,a2⟩:=r2 _ (List.getElem_mem hi)
   have z0:=(okNum_small a0).2
   obtain ⟨b1,c1⟩:=forms_small a2
   rw [er,List.drop_eq_getElem_cons hi,w64s hi (by omega)]
   generalize M.r[i] = g at a0 a1 a2 b1 c1 z0 ⊢
   have k7 : (⟨#[114,101,99,111,114,100,32]⟩ : ByteArray).size = 7:=rfl
   have k1 : (⟨#[10]⟩ : ByteArray).size = 1:=rfl
   refine EvP.pos (by omega) (EvP.pos (by omega) (EvP.pos (by omega) (EvP.bind (ev_decOk a0) (fun t ht=>?_))))
   subst ht
   refine EvP.pos (by simp only [ByteArray.size_append];omega) (EvP.bind (ev_spec_l4Things _ b1 c1) (fun t1 ht1=>?_))
   obtain ⟨q1,s1⟩:=ht1
   refine EvP.pos (by simp only [ByteArray.size_append];omega) (EvP.pos (by simp only [ByteArray.size_append];omega) ((ih _ (by simp only [ByteArray.size_append];omega)).mono (fun r hr=>?_)))
   rw [hr,List.map_cons,List.cons_append,unl_cons]
   unfold recWords
   rw [tx_list]
   simp only [thB_cons,app_list,q1,List.append_assoc,List.cons_append]
   rfl
 unfold spec_ModuleText.f
 refine (hl0 0 (by omega) _ (Nat.le_refl _)).mono (fun r hr=>?_)
 apply ByteArray.ext
 apply Array.toList_inj.1
 rw [hr]
 rfl
theorem join_tail : ∀ l : List ByteArray,Lib.joinTail [32] (l.map (·.data.toList)) = thB l
 | []=>rfl
 | w :: l=>by
  rw [List.map_cons]
  show [32] ++ (w.data.toList ++ Lib.joinTail [32] (l.map (·.data.toList))) = _
  rw [join_tail l]
  rfl
theorem join_tx (l : List ByteArray) : Lib.join (l.map (·.data.toList)) (⟨#[32]⟩ : ByteArray).data.toList = (tx l).data.toList:=by
 show Lib.join (l.map (·.data.toList)) [32] = _
 cases l with
 | nil=>rw [List.map_nil,Lib.join_nil];rfl
 | cons w l=>rw [List.map_cons,Lib.join_cons,join_tail,tx_list]
theorem eq_join (l : List ByteArray) (h1 : l.length ≤ 100000) (h2 : (tx l).size ≤ 100000) : strings_Join.f l ⟨#[32]⟩ = some (tx l):=by
 unfold strings_Join.f
 rw [join_tx,if_pos ⟨by omega,by rw [size_list];omega⟩]
theorem eq_split (s : ByteArray) (h : s.size ≤ 100000) : strings_Split.f s ⟨#[32]⟩ = some (wordsOf s):=by
 unfold strings_Split.f
 rw [if_pos ⟨by omega,by decide⟩,split_words _ s rfl]
theorem markText_any (n : Nat) (h0 : 1 ≤ n) (h1 : n ≤ 9000001) : ∃ k,laws_markText.f k (n : Int) = some (mtx n):=(ev_laws_markText n h0 h1).eq.rounds
theorem forms_len {l : List ByteArray} (h : forms l = true) : l.length ≤ 9:=by
 unfold forms at h
 rw [Bool.and_eq_true] at h
 exact of_decide_eq_true h.2
theorem okFun_lens {f : Fn} (h : okFun f) : f.f1.length ≤ 9 ∧ f.f2.length ≤ 9 ∧ f.f3.length ≤ 9 ∧ f.f4.length ≤ 9 ∧ f.f5.length ≤ 40:=⟨forms_len h.2.1.2,forms_len h.2.2.1.2,forms_len h.2.2.2.1.2,h.2.2.2.2.1.2,h.2.2.2.2.2.1⟩
theorem okMod_eq {M : MO} (h : okMod M) : ∃ k,laws_eqModule.f k M.r M.f M.n M.r M.f M.n = some true:=by
 refine (ev_laws_eqModule M.r M.f M.n ⟨by have:=h.1.1;omega,fun x hx=>?_⟩ ⟨by have:=h.2.2.1;omega,fun x hx=>?_⟩ ?_).eq.rounds
 ·show x.f1.length ≤ _
  have:=forms_len (h.1.2 x hx).2.2
  omega
 ·have:=okFun_lens (h.2.2.2 x hx)
  exact ⟨by show x.f1.length ≤ _;omega,by show x.f2.length ≤ _;omega,by show x.f3.length ≤ _;omega,by show x.f4.length ≤ _;omega,by omega,fun _ _=>trivial⟩
 ·show M.n.length ≤ _
  have:=h.2.1.2
  omega
theorem lines_end {s : ByteArray} {l : List UInt8} {c : UInt8} (h : s.data.toList = l ++ [c]) : (linesOf s).2 = ⟨#[]⟩ ↔ c = 10:=by
 unfold linesOf
 rw [h,List.foldl_append]
 show (stepL _ c).2 = _ ↔ _
 unfold stepL
 by_cases hc : c = 10
 ·rw [if_pos hc]
  exact ⟨fun _=>hc,fun _=>rfl⟩
 ·rw [if_neg hc]
  refine ⟨fun e=>absurd (congrArg ByteArray.size e) ?_,fun e=>absurd e hc⟩
  show ((_ : ByteArray) ++ ⟨#[c]⟩).size ≠ 0
  rw [ByteArray.size_append]
  show _ + 1 ≠ 0
  omega
theorem index_at : ∀ (l r : List UInt8),(∀ c ∈ l,c ≠ 10) → Lib.indexByte (l ++ 10 :: r) 10 = (l.length : Int)
 | [],r,_=>rfl
 | b :: l,r,h=>by
  show (if b == 10 then 0 else if Lib.indexByte (l ++ 10 :: r) 10 == -1 then -1 else Lib.indexByte (l ++ 10 :: r) 10 + 1) = _
  have hb : (b == 10) = false:=beq_eq_false_iff_ne.mpr (h b List.mem_cons_self)
  rw [hb,index_at l r (fun c hc=>h c (List.mem_cons_of_mem _ hc))]
  have h1 : ((l.length : Int) == -1) = false:=beq_eq_false_iff_ne.mpr (by omega)
  rw [h1]
  simp
theorem eq_index {s : ByteArray} {l r : List UInt8} (hs : s.data.toList = l ++ 10 :: r) (h : ∀ c ∈ l,c ≠ 10) : strings_Index.f s ⟨#[10]⟩ = some (l.length : Int):=by
 unfold strings_Index.f
 rw [if_pos (by rfl),hs]
 exact congrArg some (index_at l r h)
theorem last_byte {s : ByteArray} (h : s.size ≠ 0) : ∃ l c,s.data.toList = l ++ [c] ∧ bt s ((s.size : Int) - 1) = (c.toNat : Int):=by
 have hl : s.data.toList.length = s.size:=by simp
 have hne : s.data.toList ≠ []:=fun e=>by rw [e] at hl;simp at hl;omega
 refine ⟨s.data.toList.dropLast,s.data.toList.getLast hne,(List.dropLast_concat_getLast hne).symm,?_⟩
 have hi : s.size - 1 < s.data.toList.length:=by omega
 have:=bt_list hi
 rw [show ((s.size - 1 : Nat) : Int) = (s.size : Int) - 1 by omega] at this
 rw [this,List.getLast_eq_getElem]
 simp only [hl]
def rest (ls : List ByteArray) : ByteArray:=⟨(unl ls).toArray⟩
theorem rest_list (ls : List ByteArray) : (rest ls).data.toList = unl ls:=rfl
theorem rest_all {s : ByteArray} (h : (linesOf s).2 = ⟨#[]⟩) : s = rest (linesOf s).1:=by
 apply ByteArray.ext
 apply Array.toList_inj.1
 have:=(lines_of s).2
 rw [h] at this
 rw [rest_list,← this]
 simp
theorem rest_cons (l : ByteArray) (ls : List ByteArray) : (rest (l :: ls)).data.toList = l.data.toList ++ 10 :: unl ls:=by rw [rest_list,unl_cons]
theorem rest_size (l : ByteArray) (ls : List ByteArray) : (rest (l :: ls)).size = l.size + 1 + (rest ls).size:=by
 have h1:=congrArg List.length (rest_cons l ls)
 have h2:=congrArg List.length (rest_list ls)
 rw [List.length_append,List.length_cons,size_list,size_list] at h1
 rw [size_list] at h2
 omega
theorem rest_head (l : ByteArray) (ls : List ByteArray) : (rest (l :: ls)).extract 0 l.size = l:=by
 apply ByteArray.ext
 apply Array.toList_inj.1
 have h:=rest_cons l ls
 simp only [ByteArray.data_extract,Array.toList_extract,List.extract_eq_take_drop,List.drop_zero,h,Nat.sub_zero]
 rw [← size_list l,List.take_left]
theorem rest_tail (l : ByteArray) (ls : List ByteArray) : (rest (l :: ls)).extract (l.size + 1) (rest (l :: ls)).size = rest ls:=by
 apply ByteArray.ext
 apply Array.toList_inj.1
 have h:=rest_cons l ls
 have hz:=rest_size l ls
 simp only [ByteArray.data_extract,Array.toList_extract,List.extract_eq_take_drop,rest_list]
 rw [unl_cons,show l.data.toList ++ 10 :: unl ls = (l.data.toList ++ [10]) ++ unl ls by simp,show l.size + 1 = (l.data.toList ++ [10]).length by rw [List.length_append,size_list];rfl,List.drop_left]
 refine List.take_of_length_le ?_
 have h2:=congrArg List.length (rest_list ls)
 rw [size_list] at h2
 rw [← h2,hz]
 simp only [List.length_append,size_list,List.length_cons,List.length_nil]
 omega
def lensM (M : MO) : Prop:=M.r.length ≤ 3 ∧ M.f.length ≤ 4 ∧ ∀ f ∈ M.f,f.f5.length ≤ 40
theorem lens_empty : lensM emptyM:=⟨by decide,by decide,by simp [emptyM]⟩
theorem head_code {ws : List ByteArray} {f : Fn} (h : headFn ws = some f) : f.f5 = []:=by
 unfold headFn at h
 simp only at h
 split at h
 ·rw [← Option.some.inj h]
 ·cases h
theorem lens_step {M M' : MO} {ws : List ByteArray} (h : lensM M) (hs : iStep M ws = some M') : lensM M':=by
 obtain ⟨h1,h2,h3⟩:=h
 unfold iStep at hs
 split at hs
 ·split at hs
  ·rename_i hc
   obtain rfl:=Option.some.inj hs
   exact ⟨by show (M.r ++ [_]).length ≤ 3;rw [List.length_append];have:=hc.2.1;simp only [List.length_cons,List.length_nil];omega,h2,h3⟩
  ·cases hs
 ·split at hs
  ·split at hs
   ·obtain rfl:=Option.some.inj hs
    exact ⟨h1,h2,h3⟩
   ·cases hs
  ·split at hs
   ·split at hs
    ·rename_i hc
     split at hs
     ·rename_i f hf
      obtain rfl:=Option.some.inj hs
      refine ⟨h1,by show (M.f ++ [_]).length ≤ 4;rw [List.length_append];have:=hc.2;simp only [List.length_cons,List.length_nil];omega,fun g hg=>?_⟩
      rcases List.mem_append.1 hg with hg | hg
      ·exact h3 g hg
      ·rw [List.mem_singleton.1 hg,head_code hf]
       exact Nat.zero_le _
     ·cases hs
    ·cases hs
   ·split at hs
    ·rename_i hc
     obtain rfl:=Option.some.inj hs
     refine ⟨h1,by show (M.f.set _ _).length ≤ 4;rw [List.length_set];exact h2,fun g hg=>?_⟩
     rcases List.mem_or_eq_of_mem_set hg with hg | rfl
     ·exact h3 g hg
     ·show ((lastF M).f5 ++ [_]).length ≤ 40
      rw [List.length_append]
      exact hc.2.2
    ·cases hs
end Go.Proofs.YtmclgkljmlpfbaaGreatDoor.Pure
