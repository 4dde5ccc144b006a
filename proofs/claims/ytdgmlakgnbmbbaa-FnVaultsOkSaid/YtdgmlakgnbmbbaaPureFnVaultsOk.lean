/- For every code: the program and the reference agree on the vaults that are drawn from it, and in vaults that are ones each record is found. -/
-- squeezed
import Derived.Test.YtdgmlakgnbmbbaaOFnVaultsOkx1
import Derived.Test.YtdgmlakgnbmbbaaOFnVaultsOkx2
import Derived.Test.YtdgmlakgnbmbbaaOFnVaultsOkx3
import Derived.Test.YtdgmlakgnbmbbaaOFnVaultsOkx4
import Derived.Test.YtdgmlakgnbmbbaaOFnVaultsOkx5
import Derived.Test.YtdgmlakgnbmbbaaOFnVaultsOkx6
import Derived.Test.YtdgmlakgnbmbbaaBase
namespace Go.Proofs.Ytdgmlakgnbmbbaa.Pure
open Go.RowKit Go.Proofs.Ytdgmlakgnbmbbaa.OFnVaultsOk Go.Proofs.YtdgmlakgnbmbbaaW.PrintWords Go.Proofs.YtdgmlakgnbmbbaaW.PrintLast Go.Proofs.YtdgmlakgnbmbbaaW.PrintMore Go.Proofs.Ytdgmlakgnbmbbaa.Base
set_option linter.unusedVariables false
set_option linter.unusedSimpArgs false
abbrev Rec:=S113
abbrev Kinds:=List (List Rec)
def kAt (s : ByteArray) : Option (Nat × Nat) :=
 if s.size = 3 ∧ bt s 0 = 83 ∧ 48 ≤ bt s 1 ∧ bt s 1 ≤ 57 ∧ 48 ≤ bt s 2 ∧ bt s 2 ≤ 57 then some ((bt s 1 - 48).toNat,(bt s 2 - 48).toNat) else none
def kTup : Option (Nat × Nat) → Int × Int × Bool
 | none=>(0,0,false)
 | some p=>((p.1 : Int),(p.2 : Int),true)
theorem eq_impl_kindAt (s : ByteArray) : impl_kindAt.f s = some (kTup (kAt s)):=by
 unfold impl_kindAt.f kAt
 by_cases h0 : s.size = 3
 ·rw [if_pos (by omega),if_pos (by omega)]
  by_cases h1 : bt s 0 = 83
  ·rw [if_pos h1,if_pos (by omega)]
   by_cases h2 : bt s 1 < 48
   ·rw [if_pos h2,if_neg (by omega)]
    rfl
   ·rw [if_neg h2]
    by_cases h3 : bt s 1 > 57
    ·rw [if_pos h3,if_neg (by omega)]
     rfl
    ·rw [if_neg h3,if_pos (by omega)]
     by_cases h4 : bt s 2 < 48
     ·rw [if_pos h4,if_neg (by omega)]
      rfl
     ·rw [if_neg h4]
      by_cases h5 : bt s 2 > 57
      ·rw [if_pos h5,if_neg (by omega)]
       rfl
      ·rw [if_neg h5,if_pos (by omega)]
       have e1 : (bt s 1 - 48) % 256 = ((bt s 1 - 48).toNat : Int):=by omega
       have e2 : (bt s 2 - 48) % 256 = ((bt s 2 - 48).toNat : Int):=by omega
       rw [e1,e2]
       rfl
  ·rw [if_neg h1,if_neg (by omega)]
   rfl
 ·rw [if_neg (by omega),if_neg (by omega)]
  rfl
theorem eq_spec_l1Kind (s : ByteArray) : spec_l1Kind.f s = some (kTup (kAt s)):=eq_impl_kindAt s
def kGet (K : Kinds) (s : ByteArray) : Option Rec:=(kAt s).bind fun p=>(K[p.1]?).bind fun l=>l[p.2]?
theorem kGet_some {K : Kinds} {s : ByteArray} {x : Rec} (h : kGet K s = some x) : ∃ a b,kAt s = some (a,b) ∧ ∃ ha : a < K.length,∃ hb : b < K[a].length,K[a][b] = x:=by
 unfold kGet at h
 obtain ⟨⟨a,b⟩,h1,h2⟩:=Option.bind_eq_some_iff.1 h
 obtain ⟨l,h3,h4⟩:=Option.bind_eq_some_iff.1 h2
 obtain ⟨ha,rfl⟩:=List.getElem?_eq_some_iff.1 h3
 obtain ⟨hb,h5⟩:=List.getElem?_eq_some_iff.1 h4
 exact ⟨a,b,h1,ha,hb,h5⟩
theorem eq_impl_kindIn (K : Kinds) (s : ByteArray) : impl_kindIn.f K s = some (kGet K s).isSome:=by
 unfold impl_kindIn.f kGet
 rw [eq_impl_kindAt]
 simp only [Option.bind_some]
 cases h : kAt s with
 | none=>rfl
 | some p =>
  obtain ⟨a,b⟩:=p
  by_cases ha : a < K.length
  ·have e : rd_L5 K (a : Int) = K[a]:=getDn ha
   simp only [kTup,Option.bind_some,e,List.getElem?_eq_getElem ha]
   by_cases hb : b < K[a].length
   ·simp [ha,hb]
   ·simp [ha,hb]
  ·simp [kTup,ha]
def isBase (s : ByteArray) : Bool:=s.toList == [110] || (s.toList == [98] || s.toList == [111])
def plain (K : Kinds) (s : ByteArray) : Bool:=isBase s || (kGet K s).isSome
theorem eq_impl_plainOk (K : Kinds) (s : ByteArray) : impl_plainOk.f K s = some (plain K s):=by
 unfold impl_plainOk.f plain isBase
 rw [eq_impl_kindIn]
 by_cases h1 : s.toList = [110]
 ·simp [h1]
 ·by_cases h2 : s.toList = [98]
  ·simp [h2]
  ·by_cases h3 : s.toList = [111]
   ·simp [h3]
   ·simp [h1,h2,h3]
theorem eq_spec_l1Base (s : ByteArray) : spec_l1Base.f s = some (isBase s):=by
 unfold spec_l1Base.f isBase
 by_cases h1 : s.toList = [110]
 ·simp [h1]
 ·by_cases h2 : s.toList = [98]
  ·simp [h2]
  ·have k1 : (s.toList == [110]) = false:=beq_eq_false_iff_ne.2 h1
   have k2 : (s.toList == [98]) = false:=beq_eq_false_iff_ne.2 h2
   rw [if_neg h1,if_neg h2,k1,k2]
   rfl
theorem eq_spec_l1Has (K : Kinds) (s : ByteArray) (a b : Nat) (h : kAt s = some (a,b)) : spec_l1Has.f K a b = some (kGet K s).isSome:=by
 unfold spec_l1Has.f kGet
 rw [h]
 simp only [Option.bind_some]
 by_cases ha : a < K.length
 ·rw [if_pos (by omega),if_pos (by omega)]
  have e : rd_L5 K (a : Int) = K[a]:=getDn ha
  rw [e,List.getElem?_eq_getElem ha]
  simp only [Option.bind_some]
  by_cases hb : b < K[a].length
  ·rw [List.getElem?_eq_getElem hb]
   simp [hb]
  ·rw [List.getElem?_eq_none (by omega)]
   simp [hb]
 ·rw [if_neg (by omega),List.getElem?_eq_none (by omega)]
  rfl
theorem list_size (s : ByteArray) : s.toList.length = s.size:=by
 rw [ByteArray.toList_eq,Array.length_toList]
 rfl
theorem bt_one {s : ByteArray} {c : UInt8} (h : s.toList = [c]) : s.size = 1 ∧ bt s 0 = (c.toNat : Int):=by
 have h1 : s.size = 1:=by rw [← list_size,h];rfl
 refine ⟨h1,?_⟩
 rw [ByteArray.toList_eq] at h
 have h0 : (0 : Int).toNat < s.size:=by rw [h1];decide
 unfold bt
 rw [dif_pos h0]
 have h2 : s.data.toList[0]? = some c:=by rw [h];rfl
 rw [Array.getElem?_toList] at h2
 obtain ⟨h3,h4⟩:=Array.getElem?_eq_some_iff.1 h2
 have h5 : s[(0 : Int).toNat]'h0 = c:=h4
 rw [h5]
theorem base_size {s : ByteArray} (h : isBase s = true) : s.size = 1 ∧ (bt s 0 = 110 ∨ bt s 0 = 98 ∨ bt s 0 = 111):=by
 unfold isBase at h
 simp only [Bool.or_eq_true,beq_iff_eq] at h
 rcases h with h | h | h
 ·have:=bt_one h
  exact ⟨this.1,.inl this.2⟩
 ·have:=bt_one h
  exact ⟨this.1,.inr (.inl this.2)⟩
 ·have:=bt_one h
  exact ⟨this.1,.inr (.inr this.2)⟩
theorem base_kAt {s : ByteArray} (h : isBase s = true) : kAt s = none:=by
 have:=base_size h
 unfold kAt
 rw [if_neg (by omega)]
theorem kAt_base {s : ByteArray} {p : Nat × Nat} (h : kAt s = some p) : isBase s = false:=by
 cases hb : isBase s with
 | false=>rfl
 | true=>rw [base_kAt hb] at h;cases h
theorem kAt_size {s : ByteArray} {p : Nat × Nat} (h : kAt s = some p) : s.size = 3 ∧ bt s 0 = 83:=by
 unfold kAt at h
 split at h
 ·rename_i hc
  exact ⟨hc.1,hc.2.1⟩
 ·cases h
def isRef (s : ByteArray) : Bool:=decide (0 < s.size) && (bt s 0 == 38 || bt s 0 == 33)
def strip (s : ByteArray) : ByteArray:=if isRef s = true then s.extract 1 s.size else s
def sgn (s : ByteArray) : ByteArray:=if isRef s = true then s.extract 0 1 else (⟨#[]⟩ : ByteArray)
theorem eq_impl_signOf (s : ByteArray) : impl_signOf.f s = some (sgn s,strip s):=by
 unfold impl_signOf.f sgn strip isRef
 have hs:=list_size s
 by_cases h0 : s.toList = []
 ·rw [if_pos h0]
  rw [h0] at hs
  have : ¬ 0 < s.size:=by simp at hs;omega
  simp [this]
 ·rw [if_neg h0]
  have h1 : 0 < s.size:=by
   rcases Nat.eq_zero_or_pos s.size with h | h
   ·rw [h] at hs
    exact absurd (List.eq_nil_of_length_eq_zero hs) h0
   ·exact h
  rw [if_pos (by omega)]
  by_cases h2 : bt s 0 = 38
  ·rw [if_pos h2,if_pos (by omega),if_pos (by omega)]
   simp [h1,h2]
  ·rw [if_neg h2]
   by_cases h3 : bt s 0 = 33
   ·rw [if_pos h3,if_pos (by omega),if_pos (by omega)]
    simp [h1,h3]
   ·rw [if_neg h3]
    simp [h2,h3]
theorem eq_spec_l1RefR (s : ByteArray) : spec_l1Ref.f s = some (isRef s):=by
 unfold spec_l1Ref.f isRef
 by_cases h : 0 < s.size
 ·rw [if_pos (by omega),if_pos (by omega)]
  by_cases h2 : bt s 0 = 38
  ·rw [if_pos h2]
   simp [h,h2]
  ·rw [if_neg h2]
   simp [h,h2]
 ·rw [if_neg (by omega)]
  simp [h]
theorem first_byte {s : ByteArray} (h : 0 < s.size) (c : UInt8) : (s.extract 0 1).toList = [c] ↔ bt s 0 = (c.toNat : Int):=by
 have h0 : (0 : Int).toNat < s.size:=h
 have e : (s.extract 0 1).toList = [s[(0 : Int).toNat]'h0]:=by
  rw [ByteArray.toList_eq,ByteArray.data_extract]
  apply List.ext_getElem
  ·have : s.data.size = s.size:=rfl
   simp
   omega
  ·intro i h1 h2
   have hi : i = 0:=by simpa using h2
   subst hi
   simp
   rfl
 rw [e]
 unfold bt
 rw [dif_pos h0]
 constructor
 ·intro h
  injection h with h
  rw [h]
 ·intro h
  have : s[(0 : Int).toNat]'h0 = c:=by
   apply UInt8.toNat_inj.1
   exact_mod_cast h
  rw [this]
def able (K : Kinds) (s : ByteArray) : Int:=if isRef s = true then (if bt s 0 = 38 then 3 else 2) else match kGet K s with | some x=>x.f0 | none=>7
theorem eq_impl_recordOf (K : Kinds) (s : ByteArray) (x : Rec) (h : kGet K s = some x) : impl_recordOf.f K s = some (x.f0,x.f1):=by
 obtain ⟨a,b,h1,ha,hb,rfl⟩:=kGet_some h
 unfold impl_recordOf.f
 rw [eq_impl_kindAt,h1]
 simp only [Option.bind_some,kTup]
 have e : rd_L5 K (a : Int) = K[a]:=getDn ha
 have e2 : rd_T113 K[a] (b : Int) = K[a][b]:=getDn hb
 rw [e,e2,if_pos (by omega),if_pos (by omega),if_pos (by omega),if_pos (by omega)]
theorem eq_impl_ableOf (K : Kinds) (s : ByteArray) : impl_ableOf.f K s = some (able K s):=by
 unfold impl_ableOf.f able
 rw [eq_impl_signOf]
 simp only [Option.bind_some]
 by_cases hr : isRef s = true
 ·have h0 : 0 < s.size ∧ (bt s 0 = 38 ∨ bt s 0 = 33):=by
   unfold isRef at hr
   simpa using hr
  have e1:=first_byte h0.1 38
  have e2:=first_byte h0.1 33
  have k1 : ((38 : UInt8).toNat : Int) = 38:=rfl
  have k2 : ((33 : UInt8).toNat : Int) = 33:=rfl
  rw [k1] at e1
  rw [k2] at e2
  unfold sgn
  rw [if_pos hr,if_pos hr]
  by_cases h1 : bt s 0 = 38
  ·rw [if_pos (e1.2 h1),if_pos h1]
  ·rw [if_neg (fun h=>h1 (e1.1 h)),if_pos (e2.2 (by omega)),if_neg h1]
 ·have hs : strip s = s:=by unfold strip;rw [if_neg hr]
  have hg : (sgn s).toList = []:=by
   unfold sgn
   rw [if_neg hr,ByteArray.toList_eq]
  rw [if_neg hr,if_neg (by rw [hg];simp),if_neg (by rw [hg];simp),hs,eq_impl_kindIn]
  simp only [Option.bind_some]
  cases hk : kGet K s with
  | none=>rfl
  | some x =>
   simp only [Option.isSome_some,if_true,eq_impl_recordOf K s x hk,Option.bind_some]
def fieldOk (K : Kinds) (m r : Nat) (t : ByteArray) : Bool:=match kAt t with | some p=>(kGet K t).isSome && decide (p.1 < m ∨ (p.1 = m ∧ p.2 < r)) | none=>isBase t
theorem field_ref {K : Kinds} {m r : Nat} {t : ByteArray} (h : fieldOk K m r t = true) : isRef t = false:=by
 unfold fieldOk at h
 cases hk : kAt t with
 | some p =>
  have:=kAt_size hk
  unfold isRef
  simp [this.2]
 | none =>
  rw [hk] at h
  have:=base_size h
  unfold isRef
  rcases this.2 with h | h | h<;>simp [h]
def abOk (A b : Int) : Bool:=decide ((Go.bits .andNot .i64 (Go.bits .and .i64 A 7) b) = 0) && (decide ((Go.bits .and .i64 A 8) = 0) || !decide ((Go.bits .and .i64 b 4) = 0))
def can (a o : Int) : Bool:=(Int.tmod (wrap64 (Int.tdiv a o)) 2) == 1
def abSpec (A b : Int) : Bool:=(!((can A 1 && !can b 1) || (can A 2 && !can b 2))) && (!(decide (A ≥ 4)) || can b 4)
def valF (n : Nat) (c : UInt8) : Nat:=10 * n + (c.toNat - 48)
def val (l : List UInt8) : Nat:=l.foldl valF 0
theorem ab_fin : ∀ a b : Fin 16,abSpec (a.val : Int) (b.val : Int) = abOk (a.val : Int) (b.val : Int):=by decide +kernel
theorem ab_same {A b : Int} (h0 : 0 ≤ A) (h1 : A ≤ 15) (h2 : 0 ≤ b) (h3 : b ≤ 15) : abSpec A b = abOk A b:=by
 have:=ab_fin ⟨A.toNat,by omega⟩ ⟨b.toNat,by omega⟩
 have e1 : ((A.toNat : Nat) : Int) = A:=by omega
 have e2 : ((b.toNat : Nat) : Int) = b:=by omega
 simp only [e1,e2] at this
 exact this
def recOk (K : Kinds) (m r : Nat) (x : Rec) : Bool:=decide (0 ≤ x.f0 ∧ x.f0 ≤ 15 ∧ x.f1.length ≤ 3) && x.f1.all fun t=>fieldOk K m r t && abOk x.f0 (able K t)
theorem ev_impl_recordOk (K : Kinds) (m r : Nat) (hm : m < K.length) (hr : r < K[m].length) : EvP (fun k=>impl_recordOk.f k K m r) (· = recOk K m r K[m][r]):=by
 have e1 : rd_L5 K (m : Int) = K[m]:=getDn hm
 have e2 : rd_T113 K[m] (r : Int) = K[m][r]:=getDn hr
 generalize hx : K[m][r] = x at e2 ⊢
 have loop : x.f1.length ≤ 3 → ∀ i,i ≤ x.f1.length → EvP (fun k=>impl_recordOk.l0 k K m r x.f1 (x.f1.length : Int) i x.f0 x.f1) (· = (x.f1.drop i).all fun t=>fieldOk K m r t && abOk x.f0 (able K t)):=by
  intro h3
  refine upInd ?_ ?_
  ·refine EvP.succ ?_
   simp only [impl_recordOk.l0]
   exact EvP.neg (by omega) (EvP.ret _ (by simp))
  ·intro i hi ih
   refine EvP.succ ?_
   simp only [impl_recordOk.l0]
   have e : rdOf ByteArray.empty x.f1 (i : Int) = x.f1[i]:=getDn hi
   rw [e,List.drop_eq_getElem_cons hi]
   generalize x.f1[i] = t
   have j2 : ∀ bad : Bool,bad = !fieldOk K m r t → EvP (fun k=>impl_recordOk.j2 k K m r t x.f1 (x.f1.length : Int) i bad x.f0 x.f1) (· = (t :: x.f1.drop (i + 1)).all fun t=>fieldOk K m r t && abOk x.f0 (able K t)):=by
    intro bad hb
    subst hb
    refine EvP.succ ?_
    simp only [impl_recordOk.j2]
    refine EvP.ite (fun h=>EvP.ret _ (by simp at h;simp [h])) (fun h=>?_)
    have hf : fieldOk K m r t = true:=by simpa using h
    refine EvP.call (eq_impl_ableOf K t) ?_
    rw [w64s hi (by omega)]
    refine EvP.ite (fun h1=>EvP.ite (fun h2=>?_) (fun h2=>EvP.ite (fun h4=>EvP.ret _ ?_) (fun h4=>?_))) (fun h1=>EvP.ret _ ?_)
    ·refine ih.mono (fun q hq=>?_)
     rw [hq]
     simp [hf,abOk,h1,h2]
    ·simp [hf,abOk,h1,h2,h4]
    ·refine ih.mono (fun q hq=>?_)
     rw [hq]
     simp [hf,abOk,h1,h2,h4]
    ·simp [hf,abOk,h1]
   refine EvP.pos (by omega) (EvP.pos (by omega) (EvP.pos (by omega) (EvP.call (eq_impl_kindAt t) ?_)))
   cases hk : kAt t with
   | none =>
    refine EvP.neg (by simp [kTup]) (EvP.call (eq_impl_plainOk K t) (j2 _ ?_))
    unfold fieldOk plain kGet
    rw [hk]
    simp
   | some p =>
    obtain ⟨a,b⟩:=p
    simp only [kTup]
    have hbf:=kAt_base hk
    refine EvP.pos (by trivial) (EvP.ite (fun h=>j2 _ ?_) (fun h=>EvP.ite (fun h1=>EvP.ite (fun h2=>j2 _ ?_) (fun h2=>EvP.call (eq_impl_plainOk K t) (j2 _ ?_))) (fun h1=>EvP.call (eq_impl_plainOk K t) (j2 _ ?_))))
    ·unfold fieldOk
     rw [hk]
     have : ¬ (a < m ∨ (a = m ∧ b < r)):=by omega
     simp [this]
    ·unfold fieldOk
     rw [hk]
     have : ¬ (a < m ∨ (a = m ∧ b < r)):=by omega
     simp [this]
    ·unfold fieldOk plain
     rw [hk,hbf]
     have : (a < m ∨ (a = m ∧ b < r)):=by omega
     simp [this]
    ·unfold fieldOk plain
     rw [hk,hbf]
     have : (a < m ∨ (a = m ∧ b < r)):=by omega
     simp [this]
 have j0 : ∀ bad : Bool,bad = !decide (0 ≤ x.f0 ∧ x.f0 ≤ 15 ∧ x.f1.length ≤ 3) → EvP (fun k=>impl_recordOk.j0 k K m r bad x.f0 x.f1) (· = recOk K m r x):=by
  intro bad hb
  subst hb
  refine EvP.succ ?_
  simp only [impl_recordOk.j0]
  unfold recOk
  refine EvP.ite (fun h=>EvP.ret _ ?_) (fun h=>?_)
  ·simp at h
   have : ¬ (0 ≤ x.f0 ∧ x.f0 ≤ 15 ∧ x.f1.length ≤ 3):=by omega
   simp [this]
  ·simp at h
   refine (loop (by omega) 0 (by omega)).mono (fun q hq=>?_)
   rw [hq]
   have : (0 ≤ x.f0 ∧ x.f0 ≤ 15 ∧ x.f1.length ≤ 3):=by omega
   simp [this]
 unfold impl_recordOk.f
 rw [e1,e2]
 refine EvP.pos (by omega) (EvP.pos (by omega) (EvP.pos (by omega) (EvP.pos (by omega) ?_)))
 refine EvP.ite (fun h=>j0 _ ?_) (fun h=>EvP.ite (fun h1=>j0 _ ?_) (fun h1=>j0 _ ?_))
 ·have : ¬ (0 ≤ x.f0 ∧ x.f0 ≤ 15 ∧ x.f1.length ≤ 3):=by omega
  simp [this]
 ·have : ¬ (0 ≤ x.f0 ∧ x.f0 ≤ 15 ∧ x.f1.length ≤ 3):=by omega
  simp [this]
 ·by_cases h2 : x.f1.length ≤ 3
  ·have : (0 ≤ x.f0 ∧ x.f0 ≤ 15 ∧ x.f1.length ≤ 3):=by omega
   have h3 : ¬ ((x.f1.length : Int) > 3):=by omega
   simp [this]
   omega
  ·have : ¬ (0 ≤ x.f0 ∧ x.f0 ≤ 15 ∧ x.f1.length ≤ 3):=by omega
   simp [this]
   omega
def Below16 (K : Kinds) (m r : Nat) : Prop:=∀ a b (ha : a < K.length) (hb : b < K[a].length),(a < m ∨ (a = m ∧ b < r)) → 0 ≤ K[a][b].f0 ∧ K[a][b].f0 ≤ 15
theorem able_field {K : Kinds} {m r : Nat} {t : ByteArray} (hI : Below16 K m r) (h : fieldOk K m r t = true) : 0 ≤ able K t ∧ able K t ≤ 15:=by
 have hr:=field_ref h
 unfold able
 rw [hr]
 simp only [Bool.false_eq_true,if_false]
 cases hg : kGet K t with
 | none=>simp
 | some x =>
  obtain ⟨a,b,h1,ha,hb,rfl⟩:=kGet_some hg
  unfold fieldOk at h
  rw [h1] at h
  simp at h
  exact hI a b ha hb h.2
theorem ev_spec_l1Able (K : Kinds) (t : ByteArray) (h : ∀ p,kAt t = some p → (kGet K t).isSome = true) : EvP (fun k=>spec_l1Able.f k K t) (· = able K t):=by
 have j0 : ∀ c : Bool,c = (isRef t && (bt t 0 == 38)) → EvP (fun k=>spec_l1Able.j0 k K t c) (· = able K t):=by
  intro c hc
  subst hc
  refine EvP.succ ?_
  simp only [spec_l1Able.j0]
  unfold able
  refine EvP.ite (fun h1=>EvP.ret _ (by simp at h1;simp [h1])) (fun h1=>EvP.call (eq_spec_l1RefR t) (EvP.ite (fun h2=>EvP.ret _ (by simp at h1;simp [h2,h1 h2])) (fun h2=>EvP.call (eq_spec_l1Kind t) ?_)))
  have h2 : isRef t = false:=by simpa using h2
  cases hk : kAt t with
  | none =>
   refine EvP.neg (by simp [kTup]) (EvP.ret _ ?_)
   simp [h2,kGet,hk]
  | some p =>
   obtain ⟨x,hx⟩:=Option.isSome_iff_exists.1 (h p hk)
   obtain ⟨a,b,h3,ha,hb,rfl⟩:=kGet_some hx
   rw [h3] at hk
   obtain rfl:=Option.some.inj hk
   simp only [kTup]
   have e : rd_L5 K (a : Int) = K[a]:=getDn ha
   have e2 : rd_T113 K[a] (b : Int) = K[a][b]:=getDn hb
   simp only [e,e2]
   refine EvP.pos (by trivial) (EvP.pos (by omega) (EvP.pos (by omega) (EvP.pos (by omega) (EvP.pos (by omega) (EvP.ret _ ?_)))))
   simp [h2,hx]
 unfold spec_l1Able.f
 refine EvP.call (eq_spec_l1RefR t) (EvP.ite (fun h1=>EvP.pos ?_ (j0 _ ?_)) (fun h1=>j0 _ ?_))
 ·unfold isRef at h1
  simp at h1
  omega
 ·simp [h1]
 ·simp at h1
  simp [h1]
theorem eq_spec_l1Field (K : Kinds) (m r : Nat) (t : ByteArray) : spec_l1Field.f K m r t = some (fieldOk K m r t):=by
 unfold spec_l1Field.f fieldOk
 rw [eq_spec_l1Kind]
 simp only [Option.bind_some]
 cases hk : kAt t with
 | none =>
  rw [if_neg (by simp [kTup]),eq_spec_l1Base]
  rfl
 | some p =>
  obtain ⟨a,b⟩:=p
  simp only [kTup]
  rw [if_pos trivial,eq_spec_l1Has K t a b hk]
  simp only [Option.bind_some]
  cases hg : (kGet K t).isSome with
  | false=>simp
  | true =>
   by_cases h1 : a < m
   ·simp [h1]
   ·by_cases h2 : a = m
    ·simp [h2]
    ·have h3 : ¬ ((a : Int) = (m : Int)):=by omega
     simp [h1,h2,h3]
theorem eq_spec_l1Can (a o : Int) (h : o ≠ 0) : spec_l1Can.f a o = some (can a o):=by
 unfold spec_l1Can.f can
 rw [if_neg h]
theorem ev_spec_l1Record (K : Kinds) (m r : Nat) (hm : m < K.length) (hr : r < K[m].length) (hI : Below16 K m r) : EvP (fun k=>spec_l1Record.f k K m r) (· = recOk K m r K[m][r]):=by
 have e1 : rd_L5 K (m : Int) = K[m]:=getDn hm
 have e2 : rd_T113 K[m] (r : Int) = K[m][r]:=getDn hr
 generalize hx : K[m][r] = x at e2 ⊢
 have loop : (0 ≤ x.f0 ∧ x.f0 ≤ 15 ∧ x.f1.length ≤ 3) → ∀ i,i ≤ x.f1.length → EvP (fun k=>spec_l1Record.l0 k K m r i x.f0 x.f1) (· = (x.f1.drop i).all fun t=>fieldOk K m r t && abOk x.f0 (able K t)):=by
  intro h3
  refine upInd ?_ ?_
  ·refine EvP.succ ?_
   simp only [spec_l1Record.l0]
   exact EvP.neg (by omega) (EvP.ret _ (by simp))
  ·intro i hi ih
   refine EvP.succ ?_
   simp only [spec_l1Record.l0]
   have e : rdOf ByteArray.empty x.f1 (i : Int) = x.f1[i]:=getDn hi
   rw [e,List.drop_eq_getElem_cons hi]
   generalize x.f1[i] = t
   refine EvP.pos (by omega) (EvP.pos (by omega) (EvP.call (eq_spec_l1Field K m r t) (EvP.ite (fun hf=>?_) (fun hf=>EvP.ret _ (by simp at hf;simp [hf])))))
   have hA:=able_field hI hf
   have hS:=ab_same h3.1 h3.2.1 hA.1 hA.2
   refine EvP.bind (ev_spec_l1Able K t (fun p hp=>by unfold fieldOk at hf;rw [hp] at hf;simp at hf;exact hf.1)) (fun w hw=>?_)
   subst hw
   have hall : ∀ q : Bool,q = (x.f1.drop (i + 1)).all (fun t=>fieldOk K m r t && abOk x.f0 (able K t)) → ∀ c,c = abSpec x.f0 (able K t) → (c && q) = (t :: x.f1.drop (i + 1)).all (fun t=>fieldOk K m r t && abOk x.f0 (able K t)):=by
    intro q hq c hc
    rw [hc,hS,hq,List.all_cons,hf,Bool.true_and]
   have j2 : ∀ bad : Bool,bad = ((can x.f0 1 && !can (able K t) 1) || (can x.f0 2 && !can (able K t) 2)) → EvP (fun k=>spec_l1Record.j2 k K m r i (able K t) bad x.f0 x.f1) (· = (t :: x.f1.drop (i + 1)).all fun t=>fieldOk K m r t && abOk x.f0 (able K t)):=by
    intro bad hb
    refine EvP.succ ?_
    simp only [spec_l1Record.j2]
    rw [w64s hi (by omega)]
    refine EvP.ite (fun h=>EvP.ret _ ?_) (fun h=>EvP.ite (fun h1=>EvP.call (eq_spec_l1Can _ 4 (by decide)) (EvP.ite (fun h2=>ih.mono (fun q hq=>?_)) (fun h2=>EvP.ret _ ?_))) (fun h1=>ih.mono (fun q hq=>?_)))
    ·rw [← hall _ rfl _ rfl]
     unfold abSpec
     rw [← hb,h]
     simp
    ·rw [← hall q hq _ rfl]
     unfold abSpec
     rw [← hb]
     simp [h,h2]
    ·rw [← hall _ rfl _ rfl]
     unfold abSpec
     simp at h2
     simp [h1,h2]
    ·rw [← hall q hq _ rfl]
     unfold abSpec
     rw [← hb]
     simp [h,h1]
   refine EvP.call (eq_spec_l1Can _ 1 (by decide)) (EvP.ite (fun c1=>EvP.call (eq_spec_l1Can _ 1 (by decide)) (EvP.ite (fun c2=>EvP.call (eq_spec_l1Can _ 2 (by decide)) (EvP.ite (fun c3=>EvP.call (eq_spec_l1Can _ 2 (by decide)) (j2 _ (by simp [c1,c2,c3]))) (fun c3=>j2 _ (by simp [c1,c2,c3])))) (fun c2=>j2 _ (by simp [c1,c2])))) (fun c1=>EvP.call (eq_spec_l1Can _ 2 (by decide)) (EvP.ite (fun c3=>EvP.call (eq_spec_l1Can _ 2 (by decide)) (j2 _ (by simp [c1,c3]))) (fun c3=>j2 _ (by simp [c1,c3])))))
 have j0 : ∀ bad : Bool,(bad = !decide (0 ≤ x.f0 ∧ x.f0 ≤ 15 ∧ x.f1.length ≤ 3)) → EvP (fun k=>spec_l1Record.j0 k K m r bad x.f0 x.f1) (· = recOk K m r x):=by
  intro bad hb
  subst hb
  refine EvP.succ ?_
  simp only [spec_l1Record.j0]
  unfold recOk
  refine EvP.ite (fun h=>EvP.ret _ ?_) (fun h=>?_)
  ·simp at h
   have : ¬ (0 ≤ x.f0 ∧ x.f0 ≤ 15 ∧ x.f1.length ≤ 3):=by omega
   simp [this]
  ·simp at h
   refine (loop (by omega) 0 (by omega)).mono (fun q hq=>?_)
   rw [hq]
   have : (0 ≤ x.f0 ∧ x.f0 ≤ 15 ∧ x.f1.length ≤ 3):=by omega
   simp [this]
 unfold spec_l1Record.f
 rw [e1,e2]
 refine EvP.pos (by omega) (EvP.pos (by omega) (EvP.pos (by omega) (EvP.pos (by omega) ?_)))
 have h6 : spec_l6In.f x.f0 0 15 = some (decide (0 ≤ x.f0 ∧ x.f0 ≤ 15)):=by
  unfold spec_l6In.f
  by_cases h : x.f0 ≥ 0
  ·rw [if_pos h]
   simp [h]
  ·rw [if_neg h]
   have : ¬ 0 ≤ x.f0:=by omega
   simp [this]
 refine EvP.call h6 (EvP.ite (fun h=>j0 _ ?_) (fun h=>j0 _ ?_))
 ·simp at h
  by_cases h2 : x.f1.length ≤ 3
  ·have : (0 ≤ x.f0 ∧ x.f0 ≤ 15 ∧ x.f1.length ≤ 3):=by omega
   have h3 : ¬ ((x.f1.length : Int) > 3):=by omega
   simp [this]
   omega
  ·have : ¬ (0 ≤ x.f0 ∧ x.f0 ≤ 15 ∧ x.f1.length ≤ 3):=by omega
   simp [this]
   omega
 ·have : ¬ (0 ≤ x.f0 ∧ x.f0 ≤ 15 ∧ x.f1.length ≤ 3):=by
   simp at h
   omega
  simp [this]
def kbIn (K : Kinds) (m : Nat) : Nat → Nat → Option Nat
 | 0,_=>none
 | d + 1,r=>if recOk K m r ((K.getD m []).getD r z113) = true then kbIn K m d (r + 1) else some r
def kbFrom (K : Kinds) : Nat → Nat → Int × Int
 | 0,_=>(-1,-1)
 | d + 1,m=>if (K.getD m []).length > 3 then ((m : Int),3) else match kbIn K m (K.getD m []).length 0 with | some r=>((m : Int),(r : Int)) | none=>kbFrom K d (m + 1)
def kBad (K : Kinds) : Int × Int:=if K.length > 3 then (3,0) else kbFrom K K.length 0
def kOk (K : Kinds) : Bool:=(kBad K).1 == -1
theorem ev_impl_KindsBad (K : Kinds) : EvP (fun k=>impl_KindsBad.f k K) (· = kBad K):=by
 unfold impl_KindsBad.f kBad
 refine EvP.ite (fun h=>EvP.ret _ (by rw [if_pos (by omega)])) (fun h=>?_)
 rw [if_neg (by omega)]
 have outer : ∀ d m,m + d = K.length → EvP (fun k=>impl_KindsBad.l0 k K K (K.length : Int) m) (· = kbFrom K d m):=by
  intro d
  induction d with
  | zero =>
   intro m hm
   refine EvP.succ ?_
   simp only [impl_KindsBad.l0]
   exact EvP.neg (by omega) (EvP.ret _ rfl)
  | succ d ih =>
   intro m hm
   refine EvP.succ ?_
   simp only [impl_KindsBad.l0]
   have hlt : m < K.length:=by omega
   have e1 : rd_L5 K (m : Int) = K[m]:=getDn hlt
   have e3 : K.getD m [] = K[m]:=by simp [List.getD_eq_getElem?_getD,List.getElem?_eq_getElem hlt]
   rw [e1]
   unfold kbFrom
   rw [e3]
   refine EvP.pos (by omega) (EvP.pos (by omega) (EvP.pos (by omega) (EvP.ite (fun h2=>EvP.ret _ (by rw [if_pos (by omega)])) (fun h2=>?_))))
   rw [if_neg (by omega)]
   have inner : ∀ e r,r + e = K[m].length → EvP (fun k=>impl_KindsBad.l1 k K m K (K.length : Int) m (K[m].length : Int) r) (· = match kbIn K m e r with | some r=>((m : Int),(r : Int)) | none=>kbFrom K d (m + 1)):=by
    intro e
    induction e with
    | zero =>
     intro r hr
     refine EvP.succ ?_
     simp only [impl_KindsBad.l1]
     rw [w64s hlt (by omega)]
     exact EvP.neg (by omega) (ih (m + 1) (by omega))
    | succ e ih2 =>
     intro r hr
     refine EvP.succ ?_
     simp only [impl_KindsBad.l1]
     have hrl : r < K[m].length:=by omega
     have e4 : K[m].getD r z113 = K[m][r]:=by simp [List.getD_eq_getElem?_getD,List.getElem?_eq_getElem hrl]
     rw [w64s hrl (by omega)]
     unfold kbIn
     rw [e3,e4]
     refine EvP.pos (by omega) (EvP.bind (ev_impl_recordOk K m r hlt hrl) (fun t ht=>?_))
     subst ht
     refine EvP.ite (fun h3=>?_) (fun h3=>EvP.ret _ (by rw [if_neg h3]))
     rw [if_pos h3]
     exact ih2 (r + 1) (by omega)
   exact inner _ 0 (by omega)
 exact outer _ 0 (by omega)
theorem recOk_range {K : Kinds} {m r : Nat} {x : Rec} (h : recOk K m r x = true) : 0 ≤ x.f0 ∧ x.f0 ≤ 15 ∧ x.f1.length ≤ 3:=by
 unfold recOk at h
 simp at h
 omega
theorem ev_spec_KindsBad (K : Kinds) : EvP (fun k=>spec_KindsBad.f k K) (· = kBad K):=by
 unfold spec_KindsBad.f kBad
 refine EvP.ite (fun h=>EvP.ret _ (by rw [if_pos (by omega)])) (fun h=>?_)
 rw [if_neg (by omega)]
 have outer : ∀ d m,m + d = K.length → Below16 K m 0 → EvP (fun k=>spec_KindsBad.l0 k K m) (· = kbFrom K d m):=by
  intro d
  induction d with
  | zero =>
   intro m hm _
   refine EvP.succ ?_
   simp only [spec_KindsBad.l0]
   exact EvP.neg (by omega) (EvP.ret _ rfl)
  | succ d ih =>
   intro m hm hI
   refine EvP.succ ?_
   simp only [spec_KindsBad.l0]
   have hlt : m < K.length:=by omega
   have e1 : rd_L5 K (m : Int) = K[m]:=getDn hlt
   have e3 : K.getD m [] = K[m]:=by simp [List.getD_eq_getElem?_getD,List.getElem?_eq_getElem hlt]
   rw [e1]
   unfold kbFrom
   rw [e3]
   refine EvP.pos (by omega) (EvP.pos (by omega) (EvP.ite (fun h2=>EvP.ret _ (by rw [if_pos (by omega)])) (fun h2=>?_)))
   rw [if_neg (by omega)]
   have inner : ∀ e r,r + e = K[m].length → Below16 K m r → EvP (fun k=>spec_KindsBad.l1 k K m r) (· = match kbIn K m e r with | some r=>((m : Int),(r : Int)) | none=>kbFrom K d (m + 1)):=by
    intro e
    induction e with
    | zero =>
     intro r hr hI
     refine EvP.succ ?_
     simp only [spec_KindsBad.l1]
     rw [e1,w64s hlt (by omega)]
     refine EvP.pos (by omega) (EvP.pos (by omega) (EvP.neg (by omega) (ih (m + 1) (by omega) ?_)))
     intro a b ha hb hab
     refine hI a b ha hb ?_
     rcases Nat.lt_or_ge a m with h5 | h5
     ·exact .inl h5
     ·obtain rfl : a = m:=by omega
      exact .inr ⟨rfl,by omega⟩
    | succ e ih2 =>
     intro r hr hI
     refine EvP.succ ?_
     simp only [spec_KindsBad.l1]
     have hrl : r < K[m].length:=by omega
     have e4 : K[m].getD r z113 = K[m][r]:=by simp [List.getD_eq_getElem?_getD,List.getElem?_eq_getElem hrl]
     rw [e1,w64s hrl (by omega)]
     unfold kbIn
     rw [e3,e4]
     refine EvP.pos (by omega) (EvP.pos (by omega) (EvP.pos (by omega) (EvP.bind (ev_spec_l1Record K m r hlt hrl hI) (fun t ht=>?_))))
     subst ht
     refine EvP.ite (fun h3=>?_) (fun h3=>EvP.ret _ (by rw [if_neg h3]))
     rw [if_pos h3]
     refine ih2 (r + 1) (by omega) ?_
     intro a b ha hb hab
     by_cases h6 : a = m ∧ b = r
     ·obtain ⟨rfl,rfl⟩:=h6
      have:=recOk_range h3
      omega
     ·exact hI a b ha hb (by omega)
   exact inner _ 0 (by omega) hI
 exact outer _ 0 (by omega) (fun a b ha hb hab=>by omega)
theorem ev_impl_KindsOk (K : Kinds) : EvP (fun k=>impl_KindsOk.f k K) (· = kOk K):=by
 unfold impl_KindsOk.f
 refine EvP.bind (ev_impl_KindsBad K) (fun t ht=>EvP.ret _ ?_)
 rw [ht]
 rfl
theorem kbFrom_neg (K : Kinds) : ∀ d m,(kbFrom K d m).1 = -1 ∨ 0 ≤ (kbFrom K d m).1:=by
 intro d
 induction d with
 | zero=>exact fun m=>.inl rfl
 | succ d ih =>
  intro m
  unfold kbFrom
  split
  ·exact .inr (by show (0 : Int) ≤ (m : Int);omega)
  ·split
   ·exact .inr (by show (0 : Int) ≤ (m : Int);omega)
   ·exact ih (m + 1)
theorem kBad_neg (K : Kinds) : (kBad K).1 = -1 ∨ 0 ≤ (kBad K).1:=by
 unfold kBad
 split
 ·exact .inr (by decide)
 ·exact kbFrom_neg K _ _
theorem ev_spec_KindsOk (K : Kinds) : EvP (fun k=>spec_KindsOk.f k K) (· = kOk K):=by
 unfold spec_KindsOk.f
 refine EvP.bind (ev_spec_KindsBad K) (fun t ht=>EvP.ret _ ?_)
 rw [ht]
 unfold kOk
 rcases kBad_neg K with h | h
 ·rw [h]
  rfl
 ·have h1 : ¬ (kBad K).1 < 0:=by omega
  have h2 : ¬ (kBad K).1 = -1:=by omega
  simp [h1,h2]
theorem kbIn_all (K : Kinds) (m : Nat) : ∀ e r,kbIn K m e r = none → ∀ b,r ≤ b → b < r + e → recOk K m b ((K.getD m []).getD b z113) = true:=by
 intro e
 induction e with
 | zero=>intro r _ b h1 h2;omega
 | succ e ih =>
  intro r h b h1 h2
  unfold kbIn at h
  split at h
  ·rename_i h3
   by_cases hb : b = r
   ·subst hb
    exact h3
   ·exact ih (r + 1) h b (by omega) (by omega)
  ·cases h
theorem kbFrom_all (K : Kinds) : ∀ d m,(kbFrom K d m).1 = -1 → ∀ a,m ≤ a → a < m + d → (K.getD a []).length ≤ 3 ∧ ∀ b,b < (K.getD a []).length → recOk K a b ((K.getD a []).getD b z113) = true:=by
 intro d
 induction d with
 | zero=>intro m _ a h1 h2;omega
 | succ d ih =>
  intro m h a h1 h2
  unfold kbFrom at h
  split at h
  ·exact absurd h (by show ¬ (m : Int) = -1;omega)
  ·rename_i h3
   split at h
   ·exact absurd h (by show ¬ (m : Int) = -1;omega)
   ·rename_i h4
    by_cases ha : a = m
    ·subst ha
     exact ⟨by omega,fun b hb=>kbIn_all K a _ 0 h4 b (by omega) (by omega)⟩
    ·exact ih (m + 1) h a (by omega) (by omega)
theorem kOk_all {K : Kinds} (h : kOk K = true) : K.length ≤ 3 ∧ ∀ a (ha : a < K.length),K[a].length ≤ 3 ∧ ∀ b (hb : b < K[a].length),recOk K a b K[a][b] = true:=by
 unfold kOk kBad at h
 split at h
 ·exact absurd h (by decide)
 ·rename_i h1
  have h2:=kbFrom_all K _ _ (by simpa using h)
  refine ⟨by omega,fun a ha=>?_⟩
  have h3:=h2 a (by omega) (by omega)
  have e3 : K.getD a [] = K[a]:=by simp [List.getD_eq_getElem?_getD,List.getElem?_eq_getElem ha]
  rw [e3] at h3
  refine ⟨h3.1,fun b hb=>?_⟩
  have h4:=h3.2 b hb
  have e4 : K[a].getD b z113 = K[a][b]:=by simp [List.getD_eq_getElem?_getD,List.getElem?_eq_getElem hb]
  rw [e4] at h4
  exact h4
theorem kAt_notRef {s : ByteArray} {p : Nat × Nat} (h : kAt s = some p) : isRef s = false:=by
 have:=kAt_size h
 unfold isRef
 simp [this.2]
def gBy (s : List Int) : Prop:=s.length ≤ 2000 ∧ ∀ x ∈ s,0 ≤ x ∧ x ≤ 255
theorem rd_by {s : List Int} (h : gBy s) (i : Int) : 0 ≤ rd s i ∧ rd s i ≤ 255:=by
 unfold rd
 rw [List.getD_eq_getElem?_getD]
 cases e : s[i.toNat]? with
 | none=>simp
 | some v=>simpa using h.2 v (List.mem_of_getElem? e)
theorem xor_pos {x y : Int} (hx : 0 ≤ x) (hx2 : x < 4611686018427387904) (hy : 0 ≤ y) (hy2 : y < 4611686018427387904) : 0 ≤ Go.bits .xor .i64 x y:=by
 have hw : ∀ n : Nat,n < 4611686018427387904 → 0 ≤ IntKind.wrap .i64 (n : Int):=by
  intro n hn
  have e : IntKind.wrap .i64 (n : Int) = wrap64 (n : Int):=i64_w _
  rw [e,w64 (by omega) (by omega)]
  omega
 unfold Go.bits
 refine hw _ ?_
 show ((BitVec.ofInt 64 x) ^^^ (BitVec.ofInt 64 y)).toNat < 4611686018427387904
 rw [BitVec.toNat_xor]
 have h1 : (BitVec.ofInt 64 x).toNat < 2 ^ 62:=by
  rw [BitVec.toNat_ofInt]
  omega
 have h2 : (BitVec.ofInt 64 y).toNat < 2 ^ 62:=by
  rw [BitVec.toNat_ofInt]
  omega
 exact Nat.xor_lt_two_pow h1 h2
theorem tmod_in {x n : Int} (hx : 0 ≤ x) (hn : 1 ≤ n) : 0 ≤ Int.tmod x n ∧ Int.tmod x n < n:=⟨Int.tmod_nonneg _ hx,Int.tmod_lt_of_pos _ (by omega)⟩
theorem ev_pick (s : List Int) (hs : gBy s) (p n : Int) (hp : 0 ≤ p) (hp2 : p ≤ 100000000) (hn : 1 ≤ n) (hn2 : n ≤ 1000000) : EvP (fun k=>spec_l6Rd_pick.f k s p n) (fun r=>0 ≤ r.1 ∧ r.1 < n ∧ r.2 = p + 1):=by
 unfold spec_l6Rd_pick.f
 have w1 : wrap64 (p + 1) = p + 1:=w64 (by omega) (by omega)
 rw [w1]
 refine EvP.neg (by omega) (EvP.succ ?_)
 simp only [spec_l6Rd_pick.j0]
 have w2 : wrap64 (p + 1 - 1) = p:=by rw [w64 (by omega) (by omega)];omega
 rw [w2]
 refine EvP.ite (fun h=>EvP.ret _ ⟨by omega,by show (0 : Int) < n;omega,rfl⟩) (fun h=>?_)
 have hl : (s.length : Int) ≠ 0:=by simpa using h
 have hl1 : 1 ≤ (s.length : Int):=by omega
 have hl2 : (s.length : Int) ≤ 2000:=by have:=hs.1;omega
 refine EvP.ite (fun h1=>EvP.pos hp (EvP.neg (by omega) (EvP.ret _ ?_))) (fun h1=>?_)
 ·obtain ⟨h2,h3⟩:=rd_by hs p
  rw [w64 (n:=rd s p) (by omega) (by omega)]
  exact ⟨(tmod_in h2 hn).1,(tmod_in h2 hn).2,rfl⟩
 ·have w3 : wrap64 (p * 7) = p * 7:=w64 (by omega) (by omega)
  have w4 : wrap64 (p * 7 + 3) = p * 7 + 3:=w64 (by omega) (by omega)
  simp only [w3,w4]
  refine EvP.neg hl (EvP.pos (tmod_in hp hl1).1 (EvP.pos (tmod_in hp hl1).2 (EvP.pos (tmod_in (by omega) hl1).1 (EvP.pos (tmod_in (by omega) hl1).2 (EvP.neg (by omega) (EvP.ret _ ?_))))))
  refine ⟨?_,?_,rfl⟩
  all_goals
   obtain ⟨a0,a1⟩:=rd_by hs (Int.tmod p (s.length : Int))
   obtain ⟨b0,b1⟩:=rd_by hs (Int.tmod (p * 7 + 3) (s.length : Int))
   generalize rd s (Int.tmod p (s.length : Int)) = a at a0 a1
   generalize rd s (Int.tmod (p * 7 + 3) (s.length : Int)) = b at b0 b1
   have q0 : 0 ≤ Int.tdiv p (s.length : Int):=Int.tdiv_nonneg hp (by omega)
   have q1 : Int.tdiv p (s.length : Int) ≤ p:=Int.tdiv_le_self _ hp
   generalize Int.tdiv p (s.length : Int) = q at q0 q1
   have e1 : wrap64 a = a:=w64 (by omega) (by omega)
   have e2 : wrap64 (a * 131) = a * 131:=w64 (by omega) (by omega)
   have e3 : wrap64 b = b:=w64 (by omega) (by omega)
   have e4 : wrap64 (b * 1117) = b * 1117:=w64 (by omega) (by omega)
   have e5 : wrap64 (a * 131 + b * 1117) = a * 131 + b * 1117:=w64 (by omega) (by omega)
   have e6 : wrap64 (p * 29) = p * 29:=w64 (by omega) (by omega)
   have e7 : wrap64 (a * 131 + b * 1117 + p * 29) = a * 131 + b * 1117 + p * 29:=w64 (by omega) (by omega)
   have e8 : wrap64 q = q:=w64 (by omega) (by omega)
   have e9 : wrap64 (q * 53) = q * 53:=w64 (by omega) (by omega)
   have e10 : wrap64 (a * 131 + b * 1117 + p * 29 + q * 53) = a * 131 + b * 1117 + p * 29 + q * 53:=w64 (by omega) (by omega)
   simp only [e1,e2,e3,e4,e5,e6,e7,e8,e9,e10]
   have x0 : 0 ≤ a * 131 + b * 1117 + p * 29 + q * 53:=by omega
   have x1 : a * 131 + b * 1117 + p * 29 + q * 53 ≤ 1000000000000:=by omega
   generalize a * 131 + b * 1117 + p * 29 + q * 53 = X at x0 x1
   have y0 : 0 ≤ Int.tdiv X 64:=Int.tdiv_nonneg x0 (by omega)
   have y1 : Int.tdiv X 64 ≤ X:=Int.tdiv_le_self _ x0
   generalize Int.tdiv X 64 = Y at y0 y1
   have e11 : wrap64 Y = Y:=w64 (by omega) (by omega)
   rw [e11]
   have z:=xor_pos (x:=X) (y:=Y) x0 (by omega) y0 (by omega)
  ·exact (tmod_in z hn).1
  ·exact (tmod_in z hn).2
theorem ev_of (s : List Int) (hs : gBy s) (p : Int) (l : List ByteArray) (hp : 0 ≤ p) (hp2 : p ≤ 100000000) (hn : 1 ≤ l.length) (hn2 : l.length ≤ 1000000) : EvP (fun k=>spec_l6Rd_of.f k s p l) (fun r=>r.1 ∈ l ∧ r.2 = p + 1):=by
 unfold spec_l6Rd_of.f
 refine EvP.bind (ev_pick s hs p l.length hp hp2 (by omega) (by omega)) (fun r hr=>?_)
 refine EvP.pos hr.1 (EvP.pos hr.2.1 (EvP.ret _ ⟨?_,hr.2.2⟩))
 show l.getD r.1.toNat _ ∈ l
 have h : r.1.toNat < l.length:=by omega
 rw [List.getD_eq_getElem?_getD,List.getElem?_eq_getElem h]
 exact List.getElem_mem h
theorem ev_num (s : List Int) (hs : gBy s) (p : Int) (l : List Int) (hp : 0 ≤ p) (hp2 : p ≤ 100000000) (hn : 1 ≤ l.length) (hn2 : l.length ≤ 1000000) : EvP (fun k=>spec_l91Num.f k s p l) (fun r=>r.1 ∈ l ∧ r.2 = p + 1):=by
 unfold spec_l91Num.f
 refine EvP.bind (ev_pick s hs p l.length hp hp2 (by omega) (by omega)) (fun r hr=>?_)
 refine EvP.pos hr.1 (EvP.pos hr.2.1 (EvP.ret _ ⟨?_,hr.2.2⟩))
 show l.getD r.1.toNat _ ∈ l
 have h : r.1.toNat < l.length:=by omega
 rw [List.getD_eq_getElem?_getD,List.getElem?_eq_getElem h]
 exact List.getElem_mem h
def gK (K : List (List S113)) : Prop:=K.length ≤ 4 ∧ ∀ l ∈ K,l.length ≤ 4
theorem rd_gK {K : List (List S113)} (h : gK K) (i : Int) : (rd_L5 K i).length ≤ 4:=by
 unfold rd_L5
 rw [List.getD_eq_getElem?_getD]
 cases e : K[i.toNat]? with
 | none=>simp
 | some v=>simpa using h.2 v (List.mem_of_getElem? e)
def gCode (l : List Int) : Prop:=∀ x ∈ l,0 ≤ x ∧ x ≤ 255
theorem gCode_wf {l : List Int} (h : ∀ x ∈ l,(Lit.int .u8 x).wf = true) : gCode l:=by
 intro x hx
 have:=h x hx
 simp [Lit.wf] at this
 have h1 : IntKind.u8.min = 0:=by decide
 have h2 : IntKind.u8.max = 255:=by decide
 omega
theorem eq_open (l : List Int) (h : gCode l) : ∃ s,spec_l6Open.f l = some (s,0) ∧ gBy s:=by
 unfold spec_l6Open.f
 by_cases hc : (l.length : Int) > 2000
 ·rw [if_pos hc,if_pos (by omega)]
  exact ⟨_,rfl,by simp;omega,fun x hx=>h x (List.mem_of_mem_take hx)⟩
 ·rw [if_neg hc]
  exact ⟨l,rfl,by omega,h⟩
theorem ival_ind {P : S27 → Prop} (h : ∀ s n ps path,(∀ x ∈ ps,P x) → P ⟨s,n,ps,path⟩) (x : S27) : P x:=by
 match x with
 | ⟨s,n,ps,path⟩=>exact h s n ps path (fun y hy=>ival_ind h y)
termination_by SizeOf.sizeOf x
decreasing_by
 have:=List.sizeOf_lt_of_mem hy
 simp
 omega
mutual
def qVal : S27 → Prop
 | ⟨_,_,ps,path⟩=>(ps.length ≤ 1048576 ∧ qValS ps) ∧ path.length ≤ 1048576
def qValS : List S27 → Prop
 | []=>True
 | x :: xs=>qVal x ∧ qValS xs
end
theorem qValS_mem : ∀ {xs : List S27},qValS xs → ∀ x ∈ xs,qVal x
 | [],_,_,hx=>by simp at hx
 | y :: ys,h,x,hx=>by
  rw [qValS] at h
  rcases List.mem_cons.1 hx with rfl | hx
  ·exact h.1
  ·exact qValS_mem h.2 x hx
theorem qValS_of : ∀ {xs : List S27},(∀ x ∈ xs,qVal x) → qValS xs
 | [],_=>by rw [qValS];trivial
 | y :: ys,h=>by
  rw [qValS]
  exact ⟨h y (by simp),qValS_of (fun x hx=>h x (by simp [hx]))⟩
def baseFits (t : ByteArray) (n : Int) : Bool:=if t.toList = [110] then decide (0 ≤ n ∧ n ≤ 1000000) else if t.toList = [98] then decide (n = 0 ∨ n = 1) else decide (0 ≤ n ∧ n < 4)
mutual
def fits (K : Kinds) : S27 → Bool
 | ⟨t,n,ps,path⟩=>(path.length == 0) && (if isBase t = true then baseFits t n && (ps.length == 0) else match kGet K t with
  | some x=>decide (n = 0) && ((ps.length == x.f1.length) && fitsS K x.f1 ps)
  | none=>false)
def fitsS (K : Kinds) : List ByteArray → List S27 → Bool
 | f :: fs,p :: ps=>decide (p.f0.toList = f.toList) && (fits K p && fitsS K fs ps)
 | _,[]=>true
 | [],_ :: _=>false
end
mutual
def vsize : S27 → Nat
 | ⟨_,_,ps,_⟩=>1 + vsizeS ps
def vsizeS : List S27 → Nat
 | []=>0
 | x :: xs=>vsize x + vsizeS xs
end
theorem vsizeS_sum : ∀ xs,vsizeS xs = (xs.map vsize).sum
 | []=>by simp [vsizeS]
 | x :: xs=>by simp [vsizeS,vsizeS_sum xs]
theorem vsize_eq (s : ByteArray) (n : Int) (ps : List S27) (path : List Int) : vsize ⟨s,n,ps,path⟩ = 1 + (ps.map vsize).sum:=by
 rw [← vsizeS_sum,vsize]
theorem fits_eq (K : Kinds) (t : ByteArray) (n : Int) (ps : List S27) (path : List Int) : fits K ⟨t,n,ps,path⟩ = ((path.length == 0) && (if isBase t = true then baseFits t n && (ps.length == 0) else match kGet K t with
  | some x=>decide (n = 0) && ((ps.length == x.f1.length) && fitsS K x.f1 ps)
  | none=>false)):=by rw [fits]
theorem fitsS_cons (K : Kinds) (f : ByteArray) (fs : List ByteArray) (p : S27) (ps : List S27) : fitsS K (f :: fs) (p :: ps) = (decide (p.f0.toList = f.toList) && (fits K p && fitsS K fs ps)):=by rw [fitsS]
theorem fitsS_nil (K : Kinds) (fs : List ByteArray) : fitsS K fs [] = true:=by cases fs<;>rw [fitsS]
theorem ev_impl_valueFits (K : Kinds) (x : S27) : qVal x → EvP (fun k=>impl_valueFits.f k K x.f0 x.f1 x.f2 x.f3) (· = fits K x):=by
 refine ival_ind (P:=fun x=>qVal x → EvP (fun k=>impl_valueFits.f k K x.f0 x.f1 x.f2 x.f3) (· = fits K x)) ?_ x
 intro t n ps path ih hq
 rw [qVal] at hq
 obtain ⟨⟨hl,hps⟩,hpath⟩:=hq
 show EvP (fun k=>impl_valueFits.f k K t n ps path) _
 rw [fits_eq]
 have loop : ∀ fs : List ByteArray,ps.length = fs.length → EvP (fun k=>impl_valueFits.l0 k K fs ps (ps.length : Int) 0) (· = fitsS K fs ps):=by
  intro fs hf
  have key : ∀ i,i ≤ ps.length → EvP (fun k=>impl_valueFits.l0 k K fs ps (ps.length : Int) i) (· = fitsS K (fs.drop i) (ps.drop i)):=by
   refine upInd ?_ ?_
   ·refine EvP.succ ?_
    simp only [impl_valueFits.l0]
    exact EvP.neg (by omega) (EvP.ret _ (by rw [List.drop_length,fitsS_nil]))
   ·intro i hi ih2
    refine EvP.succ ?_
    simp only [impl_valueFits.l0]
    have e : rd_T27 ps (i : Int) = ps[i]:=getDn hi
    have e2 : rdOf ByteArray.empty fs (i : Int) = fs[i]'(by omega):=getDn (by omega)
    rw [e,e2,w64s hi (by omega),List.drop_eq_getElem_cons hi,List.drop_eq_getElem_cons (show i < fs.length by omega),fitsS_cons]
    refine EvP.pos (by omega) (EvP.pos (by omega) (EvP.pos (by omega) (EvP.pos (by omega) (EvP.ite (fun hc=>?_) (fun hc=>EvP.ret _ (by rw [decide_eq_false hc,Bool.false_and]))))))
    rw [decide_eq_true hc,Bool.true_and]
    refine EvP.bind (ih _ (List.getElem_mem hi) (qValS_mem hps _ (List.getElem_mem hi))) (fun r hr=>EvP.ite (fun h=>ih2.mono (fun u hu=>?_)) (fun h=>EvP.ret _ ?_))
    ·rw [hu,← hr,h,Bool.true_and]
    ·rw [Bool.not_eq_true] at h
     rw [← hr,h,Bool.false_and]
  exact (key 0 (by omega)).mono (fun r hr=>by simpa using hr)
 refine EvP.succ ?_
 simp only [impl_valueFits.f]
 refine EvP.ite (fun h=>EvP.succ ?_) (fun h=>?_)
 ·simp only [impl_valueFits.j0]
  refine EvP.pos trivial (EvP.ret _ ?_)
  have : (path.length == 0) = false:=by rw [beq_eq_false_iff_ne];omega
  rw [this,Bool.false_and]
 ·have hp0 : (path.length == 0) = true:=by rw [beq_iff_eq];omega
  rw [hp0,Bool.true_and]
  refine EvP.call (eq_impl_plainOk K t) (EvP.succ ?_)
  simp only [impl_valueFits.j0]
  refine EvP.ite (fun h2=>EvP.ret _ ?_) (fun h2=>?_)
  ·have h2 : plain K t = false:=by simpa using h2
   unfold plain at h2
   rw [Bool.or_eq_false_iff] at h2
   rw [if_neg (by rw [h2.1];simp)]
   cases hk : kGet K t with
   | none=>rfl
   | some x=>rw [hk] at h2;simp at h2
  ·have h2 : plain K t = true:=by simpa using h2
   have lz : ((ps.length : Int) == 0) = (ps.length == 0):=by
    rw [Bool.eq_iff_iff,beq_iff_eq,beq_iff_eq]
    omega
   refine EvP.ite (fun h3=>?_) (fun h3=>EvP.ite (fun h4=>?_) (fun h4=>EvP.ite (fun h5=>?_) (fun h5=>?_)))
   ·have hb : isBase t = true:=by unfold isBase;rw [h3];rfl
    have hf : baseFits t n = decide (0 ≤ n ∧ n ≤ 1000000):=by unfold baseFits;rw [if_pos h3]
    rw [if_pos hb,hf,lz]
    refine EvP.ite (fun h6=>EvP.ite (fun h7=>EvP.ret _ ?_) (fun h7=>EvP.ret _ ?_)) (fun h6=>EvP.ret _ ?_)
    ·rw [decide_eq_true (by omega),Bool.true_and]
    ·rw [decide_eq_false (by omega),Bool.false_and]
    ·rw [decide_eq_false (by omega),Bool.false_and]
   ·have hb : isBase t = true:=by unfold isBase;rw [h4];rfl
    have hf : baseFits t n = decide (n = 0 ∨ n = 1):=by unfold baseFits;rw [if_neg h3,if_pos h4]
    rw [if_pos hb,hf,lz]
    refine EvP.ite (fun h6=>EvP.ret _ ?_) (fun h6=>EvP.ite (fun h7=>EvP.ret _ ?_) (fun h7=>EvP.ret _ ?_))
    ·rw [decide_eq_true (by omega),Bool.true_and]
    ·rw [decide_eq_true (by omega),Bool.true_and]
    ·rw [decide_eq_false (by omega),Bool.false_and]
   ·have hb : isBase t = true:=by unfold isBase;rw [h5];rfl
    have hf : baseFits t n = decide (0 ≤ n ∧ n < 4):=by unfold baseFits;rw [if_neg h3,if_neg h4]
    rw [if_pos hb,hf,lz]
    refine EvP.ite (fun h6=>EvP.ite (fun h7=>EvP.ret _ ?_) (fun h7=>EvP.ret _ ?_)) (fun h6=>EvP.ret _ ?_)
    ·rw [decide_eq_true (by omega),Bool.true_and]
    ·rw [decide_eq_false (by omega),Bool.false_and]
    ·rw [decide_eq_false (by omega),Bool.false_and]
   ·have hb : isBase t = false:=by
     unfold isBase
     rw [beq_eq_false_iff_ne.2 h3,beq_eq_false_iff_ne.2 h4,beq_eq_false_iff_ne.2 h5]
     rfl
    rw [if_neg (by rw [hb];simp)]
    unfold plain at h2
    rw [hb,Bool.false_or] at h2
    obtain ⟨x,hx⟩:=Option.isSome_iff_exists.1 h2
    rw [hx]
    refine EvP.call (eq_impl_recordOf K t x hx) (EvP.ite (fun h6=>EvP.succ ?_) (fun h6=>EvP.succ ?_))
    ·simp only [impl_valueFits.j1]
     show EvP _ (· = (decide (n = 0) && ((ps.length == x.f1.length) && fitsS K x.f1 ps)))
     rw [decide_eq_true h6,Bool.true_and]
     refine EvP.ite (fun h7=>EvP.ret _ ?_) (fun h7=>?_)
     ·have h7 : ¬ ((ps.length : Int) = (x.f1.length : Int)):=by simpa using h7
      rw [beq_eq_false_iff_ne.2 (show ps.length ≠ x.f1.length by omega),Bool.false_and]
     ·have h7 : (ps.length : Int) = (x.f1.length : Int):=by simpa using h7
      rw [beq_iff_eq.2 (show ps.length = x.f1.length by omega),Bool.true_and]
      exact loop x.f1 (by omega)
    ·simp only [impl_valueFits.j1]
     refine EvP.pos trivial (EvP.ret _ ?_)
     show false = (decide (n = 0) && _)
     rw [decide_eq_false h6,Bool.false_and]
theorem ev_spec_l2Ok (K : Kinds) (x : S27) : qVal x → EvP (fun k=>spec_l2Ok.f k K x.f0 x.f1 x.f2 x.f3) (· = fits K x):=by
 refine ival_ind (P:=fun x=>qVal x → EvP (fun k=>spec_l2Ok.f k K x.f0 x.f1 x.f2 x.f3) (· = fits K x)) ?_ x
 intro t n ps path ih hq
 rw [qVal] at hq
 obtain ⟨⟨hl,hps⟩,hpath⟩:=hq
 show EvP (fun k=>spec_l2Ok.f k K t n ps path) _
 rw [fits_eq]
 refine EvP.succ ?_
 simp only [spec_l2Ok.f]
 have pl : spec_l2Plain.f t n ps path = some ((path.length == 0) && (ps.length == 0)):=by
  unfold spec_l2Plain.f
  have lz : ((path.length : Int) == 0) = (path.length == 0):=by
   rw [Bool.eq_iff_iff,beq_iff_eq,beq_iff_eq]
   omega
  by_cases h : (ps.length : Int) = 0
  ·rw [if_pos h,lz,beq_iff_eq.2 (show ps.length = 0 by omega),Bool.and_true]
  ·rw [if_neg h,beq_eq_false_iff_ne.2 (show ps.length ≠ 0 by omega),Bool.and_false]
 have inn : ∀ b : Int,spec_l6In.f n 0 b = some (decide (0 ≤ n ∧ n ≤ b)):=by
  intro b
  unfold spec_l6In.f
  by_cases h : n ≥ 0
  ·rw [if_pos h]
   congr 1
   rw [decide_eq_decide]
   omega
  ·rw [if_neg h,decide_eq_false (by omega)]
 have base : ∀ (b : Int) (B : Bool),decide (0 ≤ n ∧ n ≤ b) = B → EvP (fun _ : Nat=>(spec_l2Plain.f t n ps path).bind fun t1=>if t1 = true then (spec_l6In.f n 0 b).bind fun t2=>some t2 else some false) (· = ((path.length == 0) && (B && (ps.length == 0)))):=by
  intro b B hB
  refine EvP.call pl (EvP.ite (fun h=>EvP.call (inn b) (EvP.ret _ ?_)) (fun h=>EvP.ret _ ?_))
  ·rw [Bool.and_eq_true] at h
   rw [h.1,h.2,hB,Bool.true_and,Bool.and_true]
  ·cases h1 : (path.length == 0)<;>cases h2 : (ps.length == 0)<;>simp_all
 refine EvP.ite (fun h3=>?_) (fun h3=>EvP.ite (fun h4=>?_) (fun h4=>EvP.ite (fun h5=>?_) (fun h5=>?_)))
 ·have hb : isBase t = true:=by unfold isBase;rw [h3];rfl
  have hf : baseFits t n = decide (0 ≤ n ∧ n ≤ 1000000):=by unfold baseFits;rw [if_pos h3]
  rw [if_pos hb,hf]
  exact base 1000000 _ rfl
 ·have hb : isBase t = true:=by unfold isBase;rw [h4];rfl
  have hf : baseFits t n = decide (n = 0 ∨ n = 1):=by unfold baseFits;rw [if_neg h3,if_pos h4]
  rw [if_pos hb,hf]
  exact base 1 _ (by rw [decide_eq_decide];omega)
 ·have hb : isBase t = true:=by unfold isBase;rw [h5];rfl
  have hf : baseFits t n = decide (0 ≤ n ∧ n < 4):=by unfold baseFits;rw [if_neg h3,if_neg h4]
  rw [if_pos hb,hf]
  exact base 3 _ (by rw [decide_eq_decide];omega)
 ·have hb : isBase t = false:=by
   unfold isBase
   rw [beq_eq_false_iff_ne.2 h3,beq_eq_false_iff_ne.2 h4,beq_eq_false_iff_ne.2 h5]
   rfl
  rw [if_neg (by rw [hb];simp)]
  refine EvP.call (eq_spec_l1Kind t) ?_
  have bad : ∀ a b : Int,EvP (fun k=>spec_l2Ok.j0 k K a b true t n ps path) (· = false):=by
   intro a b
   refine EvP.succ ?_
   simp only [spec_l2Ok.j0]
   exact EvP.pos trivial (EvP.ret _ rfl)
  cases hk : kAt t with
  | none =>
   have hg : kGet K t = none:=by unfold kGet;rw [hk];rfl
   rw [hg]
   refine EvP.neg (by simp [kTup]) ((bad _ _).mono (fun r hr=>by rw [hr,Bool.and_false]))
  | some p =>
   obtain ⟨a,b⟩:=p
   refine EvP.pos rfl (EvP.call (eq_spec_l1Has K t a b hk) (EvP.ite (fun h6=>?_) (fun h6=>?_)))
   ·obtain ⟨x,hx⟩:=Option.isSome_iff_exists.1 h6
    obtain ⟨a',b',hk',ha,hb',hxe⟩:=kGet_some hx
    rw [hk] at hk'
    injection hk' with hk'
    injection hk' with e1 e2
    subst e1
    subst e2
    rw [hx]
    have eL : rd_L5 K (a : Int) = K[a]:=getDn ha
    have eR : rd_T113 K[a] (b : Int) = x:=by rw [← hxe];exact getDn hb'
    show EvP _ (· = ((path.length == 0) && (decide (n = 0) && ((ps.length == x.f1.length) && fitsS K x.f1 ps))))
    refine EvP.ite (fun h7=>?_) (fun h7=>(bad _ _).mono (fun r hr=>by rw [hr,decide_eq_false h7,Bool.false_and,Bool.and_false]))
    rw [decide_eq_true h7,Bool.true_and]
    refine EvP.ite (fun h8=>(bad _ _).mono (fun r hr=>?_)) (fun h8=>?_)
    ·rw [hr,beq_eq_false_iff_ne.2 (show path.length ≠ 0 by omega),Bool.false_and]
    ·rw [beq_iff_eq.2 (show path.length = 0 by omega),Bool.true_and]
     refine EvP.pos (by show (0 : Int) ≤ (a : Int);omega) (EvP.pos (by show (a : Int) < _;omega) (EvP.pos (by show (0 : Int) ≤ (b : Int);omega) (EvP.pos ?_ (EvP.succ ?_))))
     ·show (b : Int) < ((rd_L5 K (a : Int)).length : Int)
      rw [eL]
      omega
     ·simp only [spec_l2Ok.j0,kTup]
      simp only [eL,eR]
      refine EvP.ite (fun h9=>EvP.ret _ ?_) (fun h9=>?_)
      ·have h9 : ¬ ((ps.length : Int) = (x.f1.length : Int)):=by simpa using h9
       rw [beq_eq_false_iff_ne.2 (show ps.length ≠ x.f1.length by omega),Bool.false_and]
      ·have h9 : (ps.length : Int) = (x.f1.length : Int):=by simpa using h9
       rw [beq_iff_eq.2 (show ps.length = x.f1.length by omega),Bool.true_and]
       have key : ∀ i,i ≤ ps.length → EvP (fun k=>spec_l2Ok.l0 k K a b i t n ps path) (· = fitsS K (x.f1.drop i) (ps.drop i)):=by
        refine upInd ?_ ?_
        ·refine EvP.succ ?_
         simp only [spec_l2Ok.l0]
         exact EvP.neg (by omega) (EvP.ret _ (by rw [List.drop_length,fitsS_nil]))
        ·intro i hi ih2
         refine EvP.succ ?_
         simp only [spec_l2Ok.l0]
         simp only [eL,eR]
         have e : rd_T27 ps (i : Int) = ps[i]:=getDn hi
         have e2 : rdOf ByteArray.empty x.f1 (i : Int) = x.f1[i]'(by omega):=getDn (by omega)
         rw [e,e2,w64s hi (by omega),List.drop_eq_getElem_cons hi,List.drop_eq_getElem_cons (show i < x.f1.length by omega),fitsS_cons]
         refine EvP.pos (by omega) (EvP.pos (by omega) (EvP.pos (by omega) (EvP.pos (by omega) (EvP.pos (by omega) (EvP.pos (by omega) (EvP.pos (by omega) (EvP.ite (fun hc=>?_) (fun hc=>EvP.ret _ (by rw [decide_eq_false hc,Bool.false_and])))))))))
         rw [decide_eq_true hc,Bool.true_and]
         refine EvP.bind (ih _ (List.getElem_mem hi) (qValS_mem hps _ (List.getElem_mem hi))) (fun r hr=>EvP.ite (fun h=>ih2.mono (fun u hu=>?_)) (fun h=>EvP.ret _ ?_))
         ·rw [hu,← hr,h,Bool.true_and]
         ·rw [Bool.not_eq_true] at h
          rw [← hr,h,Bool.false_and]
       exact (key 0 (by omega)).mono (fun r hr=>by simpa using hr)
   ·rw [Bool.not_eq_true] at h6
    have hg : kGet K t = none:=by
     cases e : kGet K t with
     | none=>rfl
     | some y=>rw [e] at h6;cases h6
    rw [hg]
    exact (bad _ _).mono (fun r hr=>by rw [hr,Bool.and_false])
theorem bt_of {s : ByteArray} {i : Nat} {x : UInt8} (h : s.data[i]? = some x) : bt s (i : Int) = (x.toNat : Int):=by
 have h1 : i < s.size:=by
  have:=(Array.getElem?_eq_some_iff.1 h).1
  simpa using this
 have h2 : s[i] = x:=by
  have:=(Array.getElem?_eq_some_iff.1 h).2
  simpa [ByteArray.getElem_eq_getElem_data] using this
 unfold bt
 have e : ((i : Int)).toNat = i:=Int.toNat_natCast i
 rw [dif_pos (by rw [e];exact h1)]
 simp only [e,h2]
theorem one_of {d : ByteArray} (h : d.size = 1) : ∃ x,d = ⟨#[x]⟩:=by
 obtain ⟨⟨l⟩⟩:=d
 match l,h with
 | [x],_=>exact ⟨x,rfl⟩
theorem kAt_make {d e : ByteArray} {a b : Int} (hd : d.size = 1 ∧ bt d 0 = 48 + a) (he : e.size = 1 ∧ bt e 0 = 48 + b) {p : Nat × Nat} (h : kAt ((⟨#[83]⟩ : ByteArray) ++ d ++ e) = some p) : (p.1 : Int) = a ∧ (p.2 : Int) = b:=by
 obtain ⟨x,rfl⟩:=one_of hd.1
 obtain ⟨y,rfl⟩:=one_of he.1
 have e0 : (⟨#[83]⟩ : ByteArray) ++ ⟨#[x]⟩ ++ ⟨#[y]⟩ = ⟨#[83,x,y]⟩:=by
  apply ByteArray.ext
  simp
 rw [e0] at h
 have hx : bt (⟨#[83,x,y]⟩ : ByteArray) 1 = 48 + a:=by rw [show (1 : Int) = ((1 : Nat) : Int) from rfl,bt_of (x:=x) (by rfl),← hd.2];exact (bt_of (i:=0) (by rfl)).symm
 have hy : bt (⟨#[83,x,y]⟩ : ByteArray) 2 = 48 + b:=by rw [show (2 : Int) = ((2 : Nat) : Int) from rfl,bt_of (x:=y) (by rfl),← he.2];exact (bt_of (i:=0) (by rfl)).symm
 unfold kAt at h
 split at h
 ·rename_i h1
  obtain rfl:=Option.some.inj h
  rw [hx,hy] at h1 ⊢
  show ((48 + a - 48).toNat : Int) = a ∧ ((48 + b - 48).toNat : Int) = b
  omega
 ·cases h
theorem ev_dec2 (a : Int) (h0 : 0 ≤ a) (h1 : a < 10) : EvP (fun k=>spec_l6Dec.f k a) (fun r=>r.size = 1 ∧ bt r 0 = 48 + a):=by
 refine EvP.succ ?_
 simp only [spec_l6Dec.f]
 refine EvP.neg (by omega) (EvP.neg (by omega) (EvP.pos h1 (EvP.ret _ ⟨rfl,?_⟩)))
 have h : a = 0 ∨ a = 1 ∨ a = 2 ∨ a = 3 ∨ a = 4 ∨ a = 5 ∨ a = 6 ∨ a = 7 ∨ a = 8 ∨ a = 9:=by omega
 rcases h with e | e | e | e | e | e | e | e | e | e<;>subst e<;>decide +kernel
def hasAt (K : Kinds) (t : ByteArray) : Prop:=∀ q,kAt t = some q → q.1 < K.length ∧ q.2 < (K.getD q.1 []).length
theorem ev_type2 (s : List Int) (hs : gBy s) (p : Int) (K : Kinds) (hK : gK K) (refs : Bool) (hr0 : refs = false) (hp : 0 ≤ p) (hp2 : p ≤ 90000000) : EvP (fun k=>spec_l91Type.f k s p K refs) (fun r=>p ≤ r.2 ∧ r.2 ≤ p + 6 ∧ r.1.size ≤ 4 ∧ hasAt K r.1):=by
 have j1 : ∀ (t : ByteArray) (q : Int),p ≤ q → q ≤ p + 4 → t.size ≤ 3 → hasAt K t → EvP (fun k=>spec_l91Type.j1 k refs t s q) (fun r=>p ≤ r.2 ∧ r.2 ≤ p + 6 ∧ r.1.size ≤ 4 ∧ hasAt K r.1):=by
  intro t q h1 h2 h3 h4
  refine EvP.succ ?_
  simp only [spec_l91Type.j1]
  exact EvP.neg (by rw [hr0];simp) (EvP.ret _ ⟨by show p ≤ q;omega,by show q ≤ p + 6;omega,by show t.size ≤ 4;omega,h4⟩)
 have j0 : ∀ (t : ByteArray) (q : Int) (b : Bool),(b = true → 0 < K.length) → p ≤ q → q ≤ p + 2 → t.size ≤ 3 → hasAt K t → EvP (fun k=>spec_l91Type.j0 k K refs t b s q) (fun r=>p ≤ r.2 ∧ r.2 ≤ p + 6 ∧ r.1.size ≤ 4 ∧ hasAt K r.1):=by
  intro t q b hb h1 h2 h3 h0
  refine EvP.succ ?_
  simp only [spec_l91Type.j0]
  refine EvP.ite (fun h=>?_) (fun _=>j1 t q h1 (by omega) h3 h0)
  have hK0:=hb h
  have hK1:=hK.1
  refine EvP.bind (ev_pick s hs q K.length (by omega) (by omega) (by omega) (by omega)) (fun r hr=>?_)
  refine EvP.pos hr.1 (EvP.pos hr.2.1 (EvP.ite (fun h4=>?_) (fun _=>j1 t r.2 (by omega) (by omega) h3 h0)))
  have hI:=rd_gK hK r.1
  refine EvP.bind (ev_dec2 r.1 hr.1 (by omega)) (fun d hd=>EvP.pos (by omega) ?_)
  refine EvP.bind (ev_pick s hs r.2 _ (by omega) (by omega) (by omega) (by omega)) (fun u hu=>?_)
  refine EvP.bind (ev_dec2 u.1 hu.1 (by omega)) (fun d2 hd2=>?_)
  have e1 : ((⟨#[83]⟩ : ByteArray) ++ d).size = 2:=by rw [ByteArray.size_append,hd.1];rfl
  refine EvP.pos (by omega) (j1 _ u.2 (by omega) (by omega) ?_ ?_)
  ·rw [ByteArray.size_append,e1,hd2.1]
   omega
  ·intro y hy
   obtain ⟨y1,y2⟩:=kAt_make hd hd2 hy
   have e2 : y.1 = r.1.toNat:=by omega
   refine ⟨by omega,?_⟩
   rw [e2]
   have hu2 : u.1 < ((rd_L5 K r.1).length : Int):=hu.2.1
   unfold rd_L5 at hu2
   omega
 unfold spec_l91Type.f
 refine EvP.bind (ev_of s hs p _ hp (by omega) (by simp) (by simp)) (fun t ht=>?_)
 have hsz : t.1.size = 1:=by
  have:=ht.1
  simp only [List.mem_cons,List.not_mem_nil,or_false] at this
  rcases this with e | e | e | e<;>(rw [e];rfl)
 have h0 : hasAt K t.1:=by
  intro q hq
  have:=kAt_size hq
  omega
 refine EvP.bind (ev_pick s hs t.2 2 (by omega) (by omega) (by omega) (by omega)) (fun r hr=>?_)
 refine EvP.ite (fun _=>j0 _ _ _ (fun h=>?_) (by omega) (by omega) (by omega) h0) (fun _=>j0 _ _ _ (fun h=>by cases h) (by omega) (by omega) (by omega) h0)
 have:=of_decide_eq_true h
 omega
def gFar (t : ByteArray) : Prop:=∀ q,kAt t = some q → 3 < q.2
theorem ev_record2 (s : List Int) (hs : gBy s) (p : Int) (K : Kinds) (hK : gK K) (hp : 0 ≤ p) (hp2 : p ≤ 80000000) : EvP (fun k=>spec_l91Record.f k s p K) (fun r=>p ≤ r.2.2 ∧ r.2.2 ≤ p + 30 ∧ r.2.1.length ≤ 4 ∧ ∀ t ∈ r.2.1,hasAt K t ∨ gFar t):=by
 have j1 : ∀ (a : Int) (fs : List ByteArray) (q : Int),p ≤ q → q ≤ p + 28 → fs.length ≤ 3 → (∀ t ∈ fs,hasAt K t ∨ gFar t) → EvP (fun k=>spec_l91Record.j1 k s q a fs) (fun r=>p ≤ r.2.2 ∧ r.2.2 ≤ p + 30 ∧ r.2.1.length ≤ 4 ∧ ∀ t ∈ r.2.1,hasAt K t ∨ gFar t):=by
  intro a fs q h1 h2 h3 h4
  refine EvP.succ ?_
  simp only [spec_l91Record.j1]
  refine EvP.bind (ev_pick s hs q 15 (by omega) (by omega) (by omega) (by omega)) (fun r hr=>?_)
  refine EvP.ite (fun _=>?_) (fun _=>EvP.ret _ ⟨by show p ≤ r.2;omega,by show r.2 ≤ p + 30;omega,by show fs.length ≤ 4;omega,h4⟩)
  refine EvP.bind (ev_of s hs r.2 _ (by omega) (by omega) (by simp) (by simp)) (fun u hu=>?_)
  refine EvP.pos (by omega) (EvP.ret _ ⟨by show p ≤ u.2;omega,by show u.2 ≤ p + 30;omega,?_,?_⟩)
  ·show (fs ++ [u.1]).length ≤ 4
   rw [List.length_append]
   simp
   omega
  ·intro t ht
   rcases List.mem_append.1 ht with h | h
   ·exact h4 t h
   ·rw [List.mem_singleton.1 h]
    refine .inr (fun q hq=>?_)
    have:=hu.1
    simp only [List.mem_cons,List.not_mem_nil,or_false] at this
    rcases this with e | e | e | e | e<;>rw [e] at hq
    ·exact absurd (kAt_size hq).1 (by decide)
    ·exact absurd (kAt_size hq).1 (by decide)
    ·have e2 : kAt (⟨#[83,48,57]⟩ : ByteArray) = some (0,9):=by decide
     rw [e2] at hq
     obtain rfl:=Option.some.inj hq
     decide
    ·exact absurd (kAt_size hq).1 (by decide)
    ·exact absurd (kAt_size hq).1 (by decide)
 have lp : ∀ (n : Nat) (fs : List ByteArray) (q a : Int),n + fs.length ≤ 3 → (∀ t ∈ fs,hasAt K t ∨ gFar t) → p ≤ q → q + 6 * n ≤ p + 26 → EvP (fun k=>spec_l91Record.l0 k K (n : Int) s q a fs) (fun r=>p ≤ r.2.2 ∧ r.2.2 ≤ p + 30 ∧ r.2.1.length ≤ 4 ∧ ∀ t ∈ r.2.1,hasAt K t ∨ gFar t):=by
  intro n
  induction n with
  | zero =>
   intro fs q a h1 h4 h2 h3
   refine EvP.succ ?_
   simp only [spec_l91Record.l0]
   refine EvP.neg (by omega) ?_
   refine EvP.bind (ev_pick s hs q 12 (by omega) (by omega) (by omega) (by omega)) (fun r hr=>?_)
   refine EvP.ite (fun _=>?_) (fun _=>j1 a fs r.2 (by omega) (by omega) (by omega) h4)
   refine EvP.bind (ev_num s hs r.2 _ (by omega) (by omega) (by simp) (by simp)) (fun u hu=>?_)
   exact j1 u.1 fs u.2 (by omega) (by omega) (by omega) h4
  | succ n ih =>
   intro fs q a h1 h4 h2 h3
   refine EvP.succ ?_
   simp only [spec_l91Record.l0]
   refine EvP.pos (by omega) ?_
   refine EvP.bind (ev_type2 s hs q K hK false rfl (by omega) (by omega)) (fun r hr=>?_)
   refine EvP.pos (by omega) ?_
   have e : wrap64 (((n + 1 : Nat) : Int) - 1) = (n : Int):=by rw [w64 (by omega) (by omega)];omega
   rw [e]
   refine ih (fs ++ [r.1]) r.2 a (by rw [List.length_append];simp;omega) (fun t ht=>?_) (by omega) (by omega)
   rcases List.mem_append.1 ht with h | h
   ·exact h4 t h
   ·rw [List.mem_singleton.1 h]
    exact .inl hr.2.2.2
 unfold spec_l91Record.f
 refine EvP.bind (ev_num s hs p _ (by omega) (by omega) (by simp) (by simp)) (fun u hu=>?_)
 refine EvP.bind (ev_pick s hs u.2 4 (by omega) (by omega) (by omega) (by omega)) (fun r hr=>?_)
 have e : r.1 = ((r.1.toNat : Nat) : Int):=by omega
 rw [e]
 exact lp r.1.toNat [] r.2 u.1 (by simp;omega) (by simp) (by omega) (by omega)
def gRec (m k : Nat) (x : Rec) : Prop:=x.f1.length ≤ 4 ∧ ∀ t ∈ x.f1,∀ q,kAt t = some q → q.1 < m ∨ (q.1 = m ∧ q.2 < k) ∨ 3 < q.2
def gRow (m : Nat) (l : List Rec) : Prop:=l.length ≤ 3 ∧ ∀ k (h : k < l.length),gRec m k l[k]
def gK3 (K : Kinds) : Prop:=K.length ≤ 3 ∧ ∀ m (h : m < K.length),gRow m K[m]
theorem gK3_add {K : Kinds} {l : List Rec} (h : gK3 K) (hn : K.length ≤ 2) (hl : gRow K.length l) : gK3 (K ++ [l]):=by
 refine ⟨by rw [List.length_append];simp;omega,fun m hm=>?_⟩
 by_cases h1 : m < K.length
 ·rw [List.getElem_append_left h1]
  exact h.2 m h1
 ·have e : m = K.length:=by rw [List.length_append] at hm;simp at hm;omega
  subst e
  rw [List.getElem_append_right (by omega)]
  simpa using hl
theorem gRow_add {m : Nat} {l : List Rec} {x : Rec} (h : gRow m l) (hn : l.length ≤ 2) (hx : gRec m l.length x) : gRow m (l ++ [x]):=by
 refine ⟨by rw [List.length_append];simp;omega,fun k hk=>?_⟩
 by_cases h1 : k < l.length
 ·rw [List.getElem_append_left h1]
  exact h.2 k h1
 ·have e : k = l.length:=by rw [List.length_append] at hk;simp at hk;omega
  subst e
  rw [List.getElem_append_right (by omega)]
  simpa using hx
theorem gK3_gK {K : Kinds} (h : gK3 K) : gK K:=by
 refine ⟨by have:=h.1;omega,fun l hl=>?_⟩
 obtain ⟨i,hi,rfl⟩:=List.mem_iff_getElem.1 hl
 have:=(h.2 i hi).1
 omega
theorem gRec_of {K : Kinds} {l : List Rec} {a : Int} {fs : List ByteArray} (hf : fs.length ≤ 4) (h : ∀ t ∈ fs,hasAt (K ++ [l]) t ∨ gFar t) : gRec K.length l.length (⟨a,fs⟩ : Rec):=by
 refine ⟨hf,fun t ht q hq=>?_⟩
 rcases h t ht with h1 | h1
 ·obtain ⟨h2,h3⟩:=h1 q hq
  rw [List.length_append] at h2
  simp at h2
  by_cases h4 : q.1 < K.length
  ·exact .inl h4
  ·have e : q.1 = K.length:=by omega
   refine .inr (.inl ⟨e,?_⟩)
   rw [e] at h3
   simpa [List.getD_eq_getElem?_getD] using h3
 ·exact .inr (.inr (h1 q hq))
theorem ev_kinds2 (s : List Int) (hs : gBy s) (p : Int) (hp : 0 ≤ p) (hp2 : p ≤ 50000000) : EvP (fun k=>spec_l91Kinds.f k s p) (fun r=>gK3 r.1 ∧ p ≤ r.2 ∧ r.2 ≤ p + 3001):=by
 have outer : ∀ (m : Nat) (out : Kinds) (q : Int),out.length + m ≤ 3 → gK3 out → 0 ≤ q → q + 1000 * m ≤ 60000000 → EvP (fun k=>spec_l91Kinds.l0 k out (m : Int) s q) (fun r=>gK3 r.1 ∧ q ≤ r.2 ∧ r.2 ≤ q + 1000 * m):=by
  intro m
  induction m with
  | zero =>
   intro out q h1 h2 h3 h4
   refine EvP.succ ?_
   simp only [spec_l91Kinds.l0]
   exact EvP.neg (by omega) (EvP.ret _ ⟨h2,by show q ≤ q;omega,by show q ≤ q + 1000 * ((0 : Nat) : Int);omega⟩)
  | succ m ih =>
   intro out q0 h1 h2 h3 h4
   have inner : ∀ (n : Nat) (list : List Rec) (q : Int),list.length + n ≤ 3 → gRow out.length list → q0 ≤ q → q + 100 * n ≤ q0 + 900 → EvP (fun k=>spec_l91Kinds.l1 k out ((m + 1 : Nat) : Int) list (n : Int) s q) (fun r=>gK3 r.1 ∧ q0 ≤ r.2 ∧ r.2 ≤ q0 + 1000 * ((m + 1 : Nat) : Int)):=by
    intro n
    induction n with
    | zero =>
     intro list q i1 i0 i2 i3
     refine EvP.succ ?_
     simp only [spec_l91Kinds.l1,Option.bind_some]
     refine EvP.neg (by omega) (EvP.pos (by simp;omega) ?_)
     have e : wrap64 (((m + 1 : Nat) : Int) - 1) = (m : Int):=by rw [w64 (by omega) (by omega)];omega
     rw [e]
     exact (ih (out ++ [list]) q (by rw [List.length_append];simp;omega) (gK3_add h2 (by omega) i0) (by omega) (by omega)).mono (fun r hr=>⟨hr.1,by omega,by omega⟩)
    | succ n ihn =>
     intro list q i1 i0 i2 i3
     have e : wrap64 (((n + 1 : Nat) : Int) - 1) = (n : Int):=by rw [w64 (by omega) (by omega)];omega
     refine EvP.succ ?_
     simp only [spec_l91Kinds.l1,Option.bind_some,List.nil_append]
     refine EvP.pos (by omega) (EvP.pos (by simp;omega) (EvP.pos (by simp;omega) ?_))
     refine EvP.bind (ev_record2 s hs q (out ++ [list]) (gK3_gK (gK3_add h2 (by omega) i0)) (by omega) (by omega)) (fun x hx=>?_)
     refine EvP.pos (by simp;omega) (EvP.pos (by simp;omega) ?_)
     refine EvP.succ ?_
     simp only [spec_l91Kinds.j2,Option.bind_some,List.nil_append]
     refine EvP.pos (by simp;omega) (EvP.pos (by simp;omega) ?_)
     refine EvP.bind (ev_spec_KindsOk _) (fun t ht=>?_)
     rw [e]
     have hl : (list ++ [(⟨x.1,x.2.1⟩ : Rec)]).length + n ≤ 3:=by rw [List.length_append];simp;omega
     have hg : gRow out.length (list ++ [(⟨x.1,x.2.1⟩ : Rec)]):=gRow_add i0 (by omega) (gRec_of hx.2.2.1 hx.2.2.2)
     refine EvP.ite (fun _=>ihn _ x.2.2 hl hg (by omega) (by omega)) (fun _=>?_)
     refine EvP.bind (ev_pick s hs x.2.2 12 (by omega) (by omega) (by omega) (by omega)) (fun r hr=>?_)
     exact EvP.ite (fun _=>ihn _ r.2 hl hg (by omega) (by omega)) (fun _=>ihn list r.2 (by omega) i0 (by omega) (by omega))
   refine EvP.succ ?_
   simp only [spec_l91Kinds.l0]
   refine EvP.pos (by omega) ?_
   refine EvP.bind (ev_pick s hs q0 4 (by omega) (by omega) (by omega) (by omega)) (fun r hr=>?_)
   have e : r.1 = ((r.1.toNat : Nat) : Int):=by omega
   rw [e]
   exact inner r.1.toNat [] r.2 (by simp;omega) ⟨by simp,fun k hk=>by simp at hk⟩ (by omega) (by omega)
 unfold spec_l91Kinds.f
 refine EvP.bind (ev_pick s hs p 4 hp (by omega) (by omega) (by omega)) (fun r hr=>?_)
 have e : r.1 = ((r.1.toNat : Nat) : Int):=by omega
 rw [e]
 exact (outer r.1.toNat [] r.2 (by simp;omega) ⟨by simp,fun m hm=>by simp at hm⟩ (by omega) (by omega)).mono (fun u hu=>⟨hu.1,by omega,by omega⟩)
def S4 : Nat → Nat
 | 0=>1
 | n + 1=>1 + 4 * S4 n
def kNo (t : ByteArray) : Nat:=match kAt t with | some p=>3 * p.1 + p.2 + 1 | none=>0
theorem S4_pos : ∀ n,1 ≤ S4 n
 | 0=>Nat.le_refl _
 | n + 1=>by unfold S4;omega
def gOut (n : Nat) (p : Int) (r : ByteArray × Int × List S27 × List Int × Int) : Prop:=(qVal ⟨r.1,r.2.1,r.2.2.1,r.2.2.2.1⟩ ∧ vsize ⟨r.1,r.2.1,r.2.2.1,r.2.2.2.1⟩ ≤ S4 n) ∧ p ≤ r.2.2.2.2 ∧ r.2.2.2.2 ≤ p + S4 n
theorem gOut_leaf (n : Nat) (p : Int) (t : ByteArray) (a q : Int) (h : q = p + 1) : gOut n p (t,a,[],[],q):=by
 have:=S4_pos n
 refine ⟨⟨?_,?_⟩,?_,?_⟩
 ·show qVal ⟨t,a,[],[]⟩
  rw [qVal,qValS]
  simp
 ·show vsize ⟨t,a,[],[]⟩ ≤ S4 n
  rw [vsize_eq]
  simpa using this
 ·show p ≤ q
  omega
 ·show q ≤ p + S4 n
  omega
theorem qValS_app {ps : List S27} {v : S27} (h : qValS ps) (hv : qVal v) : qValS (ps ++ [v]):=qValS_of (fun x hx=>by
 rcases List.mem_append.1 hx with h1 | h1
 ·exact qValS_mem h x h1
 ·rw [List.mem_singleton.1 h1]
  exact hv)
theorem vsizeS_app (ps : List S27) (v : S27) : vsizeS (ps ++ [v]) = vsizeS ps + vsize v:=by
 rw [vsizeS_sum,vsizeS_sum]
 simp
theorem ev_value_step (s : List Int) (hs : gBy s) (K : Kinds) (hK : gK3 K) (n : Nat) (t : ByteArray) (p : Int) (hp : 0 ≤ p) (hp2 : p + S4 n ≤ 60000000) (hf : ∀ x,kGet K t = some x → ∃ m,n = m + 1 ∧ ∀ f ∈ x.f1,∀ q : Int,0 ≤ q → q + S4 m ≤ 60000000 → EvP (fun k=>spec_l91Value.f k s q K f) (gOut m q)) : EvP (fun k=>spec_l91Value.f k s p K t) (gOut n p):=by
 have h1:=S4_pos n
 refine EvP.succ ?_
 simp only [spec_l91Value.f]
 refine EvP.ite (fun _=>EvP.bind (ev_pick s hs p 2 hp (by omega) (by omega) (by omega)) (fun r hr=>EvP.ret _ (gOut_leaf _ _ _ _ _ hr.2.2))) (fun _=>EvP.ite (fun _=>EvP.bind (ev_pick s hs p 4 hp (by omega) (by omega) (by omega)) (fun r hr=>EvP.ret _ (gOut_leaf _ _ _ _ _ hr.2.2))) (fun _=>?_))
 have leaf : ∀ a b : Int,EvP (fun k=>spec_l91Value.j0 k K t a b true s p) (gOut n p):=by
  intro a b
  refine EvP.succ ?_
  simp only [spec_l91Value.j0]
  exact EvP.pos trivial (EvP.bind (ev_num s hs p _ hp (by omega) (by simp) (by simp)) (fun r hr=>EvP.ret _ (gOut_leaf _ _ _ _ _ hr.2)))
 refine EvP.call (eq_spec_l1Kind t) ?_
 cases hk : kAt t with
 | none=>exact EvP.neg (by simp [kTup]) (leaf _ _)
 | some y =>
  obtain ⟨a,b⟩:=y
  refine EvP.pos rfl (EvP.call (eq_spec_l1Has K t a b hk) ?_)
  cases hg : kGet K t with
  | none=>exact leaf _ _
  | some x =>
   obtain ⟨m,rfl,hm⟩:=hf x hg
   obtain ⟨a',b',hk',ha,hb',hxe⟩:=kGet_some hg
   rw [hk] at hk'
   injection hk' with hk'
   injection hk' with e1 e2
   subst e1
   subst e2
   have eL : rd_L5 K (a : Int) = K[a]:=getDn ha
   have eR : rd_T113 K[a] (b : Int) = x:=by rw [← hxe];exact getDn hb'
   have hlen : x.f1.length ≤ 4:=by rw [← hxe];exact ((hK.2 a ha).2 b hb').1
   show EvP (fun k=>spec_l91Value.j0 k K t a b false s p) _
   refine EvP.succ ?_
   simp only [spec_l91Value.j0]
   refine EvP.neg (by simp) ?_
   obtain ⟨C,hC0,hC,hC4⟩ : ∃ C : Nat → Nat,C 0 = 0 ∧ (∀ i,C (i + 1) = C i + S4 m) ∧ ∀ i,i ≤ 4 → C i ≤ 4 * S4 m:=⟨fun i=>i * S4 m,Nat.zero_mul _,fun i=>Nat.succ_mul i _,fun i hi=>Nat.mul_le_mul_right _ hi⟩
   have eS : S4 (m + 1) = 1 + 4 * S4 m:=rfl
   have key : ∀ i,i ≤ x.f1.length → ∀ (ps : List S27) (q : Int),ps.length = i → qValS ps → vsizeS ps ≤ C i → p ≤ q → q ≤ p + C i → EvP (fun k=>spec_l91Value.l0 k K a b i s q t 0 ps) (gOut (m + 1) p):=by
    refine upInd ?_ ?_
    ·intro ps q i1 i2 i3 i4 i5
     refine EvP.succ ?_
     simp only [spec_l91Value.l0]
     simp only [eL,eR]
     have h4:=hC4 _ hlen
     refine EvP.pos (by omega) (EvP.pos (by omega) (EvP.pos (by omega) (EvP.pos (by omega) (EvP.neg (by omega) (EvP.ret _ ⟨⟨?_,?_⟩,i4,?_⟩)))))
     ·show qVal ⟨t,0,ps,[]⟩
      rw [qVal]
      exact ⟨⟨by omega,i2⟩,by simp⟩
     ·show vsize ⟨t,0,ps,[]⟩ ≤ _
      rw [vsize]
      omega
     ·show q ≤ _
      omega
    ·intro i hi ih ps q i1 i2 i3 i4 i5
     refine EvP.succ ?_
     simp only [spec_l91Value.l0]
     simp only [eL,eR]
     have e2 : rdOf ByteArray.empty x.f1 (i : Int) = x.f1[i]:=getDn hi
     have h4:=hC4 (i + 1) (by omega)
     have h5:=hC i
     rw [e2,w64s hi (by omega)]
     refine EvP.pos (by omega) (EvP.pos (by omega) (EvP.pos (by omega) (EvP.pos (by omega) (EvP.pos (by omega) (EvP.pos (by omega) ?_)))))
     refine EvP.bind (hm _ (List.getElem_mem hi) q (by omega) (by omega)) (fun r hr=>?_)
     obtain ⟨⟨r1,r2⟩,r3,r4⟩:=hr
     refine EvP.pos (by omega) (ih _ _ (by rw [List.length_append,i1];rfl) (qValS_app i2 r1) ?_ (by omega) (by omega))
     rw [vsizeS_app]
     omega
   exact key 0 (by omega) [] p rfl (by rw [qValS];trivial) (by rw [vsizeS];omega) (by omega) (by omega)
theorem ev_value (s : List Int) (hs : gBy s) (K : Kinds) (hK : gK3 K) : ∀ (n : Nat) (t : ByteArray) (p : Int),(∀ x,kGet K t = some x → kNo t ≤ n) → 0 ≤ p → p + S4 n ≤ 60000000 → EvP (fun k=>spec_l91Value.f k s p K t) (gOut n p):=by
 intro n
 induction n with
 | zero =>
  intro t p hk hp hp2
  refine ev_value_step s hs K hK 0 t p hp hp2 (fun x hx=>?_)
  have h:=hk x hx
  obtain ⟨a,b,h1,_⟩:=kGet_some hx
  unfold kNo at h
  rw [h1] at h
  simp at h
 | succ n ih =>
  intro t p hk hp hp2
  refine ev_value_step s hs K hK (n + 1) t p hp hp2 (fun x hx=>⟨n,rfl,fun f hf q hq hq2=>ih f q (fun y hy=>?_) hq hq2⟩)
  have h:=hk x hx
  obtain ⟨a,b,h1,ha,hb,hxe⟩:=kGet_some hx
  obtain ⟨c,d,h2,hc,hd,_⟩:=kGet_some hy
  have hr:=(hK.2 a ha).2 b hb
  rw [hxe] at hr
  have h3:=hr.2 f hf _ h2
  have h4:=(hK.2 a ha).1
  have h5:=(hK.2 c hc).1
  unfold kNo at h ⊢
  rw [h1] at h
  rw [h2]
  simp only at h h3 ⊢
  omega
theorem kNo_le {K : Kinds} (hK : gK3 K) (t : ByteArray) (x : Rec) (hx : kGet K t = some x) : kNo t ≤ 9:=by
 obtain ⟨a,b,h1,ha,hb,_⟩:=kGet_some hx
 have h2:=hK.1
 have h3:=(hK.2 a ha).1
 unfold kNo
 rw [h1]
 simp only
 omega
theorem ev_bad (s : List Int) (hs : gBy s) (p : Int) (hp : 0 ≤ p) (hp2 : p ≤ 90000000) (M : Nat) (t : ByteArray) (n : Int) (ps : List S27) (path : List Int) (hq : qVal ⟨t,n,ps,path⟩) (hv : vsize ⟨t,n,ps,path⟩ ≤ M) : EvP (fun k=>spec_l91Bad.f k s p t n ps path) (fun r=>(qVal ⟨r.1,r.2.1,r.2.2.1,r.2.2.2.1⟩ ∧ vsize ⟨r.1,r.2.1,r.2.2.1,r.2.2.2.1⟩ ≤ M) ∧ 0 ≤ r.2.2.2.2 ∧ r.2.2.2.2 ≤ p + 3):=by
 rw [qVal] at hq
 rw [vsize] at hv
 have ok : ∀ (t : ByteArray) (n : Int) (qs : List S27) (pa : List Int) (q : Int),qs.length ≤ ps.length → qValS qs → vsizeS qs ≤ vsizeS ps → pa.length ≤ 1048576 → p ≤ q → q ≤ p + 3 → (fun r : ByteArray × Int × List S27 × List Int × Int=>(qVal ⟨r.1,r.2.1,r.2.2.1,r.2.2.2.1⟩ ∧ vsize ⟨r.1,r.2.1,r.2.2.1,r.2.2.2.1⟩ ≤ M) ∧ 0 ≤ r.2.2.2.2 ∧ r.2.2.2.2 ≤ p + 3) (t,n,qs,pa,q):=by
  intro t n qs pa q h1 h2 h3 h4 h5 h6
  refine ⟨⟨?_,?_⟩,?_,h6⟩
  ·show qVal ⟨t,n,qs,pa⟩
   rw [qVal]
   exact ⟨⟨by omega,h2⟩,h4⟩
  ·show vsize ⟨t,n,qs,pa⟩ ≤ M
   rw [vsize]
   omega
  ·show 0 ≤ q
   omega
 unfold spec_l91Bad.f
 refine EvP.bind (ev_pick s hs p 9 hp (by omega) (by omega) (by omega)) (fun r hr=>?_)
 refine EvP.ite (fun _=>EvP.ret _ (ok _ _ _ _ _ (by omega) hq.1.2 (by omega) hq.2 (by omega) (by omega))) (fun _=>?_)
 refine EvP.bind (ev_pick s hs r.2 4 (by omega) (by omega) (by omega) (by omega)) (fun u hu=>?_)
 refine EvP.ite (fun _=>EvP.bind (ev_num s hs u.2 _ (by omega) (by omega) (by simp) (by simp)) (fun y hy=>EvP.ret _ (ok _ _ _ _ _ (by omega) hq.1.2 (by omega) hq.2 (by omega) (by omega)))) (fun _=>?_)
 refine EvP.ite (fun _=>EvP.bind (ev_of s hs u.2 _ (by omega) (by omega) (by simp) (by simp)) (fun y hy=>EvP.ret _ (ok _ _ _ _ _ (by omega) hq.1.2 (by omega) hq.2 (by omega) (by omega)))) (fun _=>?_)
 refine EvP.ite (fun _=>EvP.ite (fun h=>EvP.pos (by omega) (EvP.ret _ (ok _ _ _ _ _ ?_ ?_ ?_ hq.2 (by omega) (by omega)))) (fun _=>EvP.ret _ (ok _ _ _ _ _ (by omega) hq.1.2 (by omega) (by simp) (by omega) (by omega)))) (fun _=>EvP.ret _ (ok _ _ _ _ _ (by omega) hq.1.2 (by omega) (by simp) (by omega) (by omega)))
 ·rw [List.length_drop]
  omega
 ·exact qValS_of (fun x hx=>qValS_mem hq.1.2 x (List.mem_of_mem_drop hx))
 ·cases ps with
  | nil=>exact Nat.le_refl _
  | cons y ys =>
   rw [List.drop_one,List.tail_cons,vsizeS]
   omega
def qKeptS (xs : List (S55)) : Prop:=xs.length ≤ 1048576 ∧ ∀ x ∈ xs,qVal x.f1
def keepOk (K : Kinds) (v : S27) : Bool:=match kGet K v.f0 with
 | some x=>!decide (Go.bits .and .i64 x.f0 8 = 0) && fits K v
 | none=>false
theorem ev_impl_keepable (K : Kinds) (v : S27) (hq : qVal v) : EvP (fun k=>impl_keepable.f k K v.f0 v.f1 v.f2 v.f3) (· = keepOk K v):=by
 unfold impl_keepable.f keepOk
 refine EvP.call (eq_impl_kindIn K v.f0) ?_
 cases hg : kGet K v.f0 with
 | none=>exact EvP.neg (by simp) (EvP.ret _ rfl)
 | some x =>
  refine EvP.pos rfl (EvP.call (eq_impl_recordOf K v.f0 x hg) (EvP.ite (fun h=>EvP.ret _ ?_) (fun h=>EvP.bind (ev_impl_valueFits K v hq) (fun t ht=>EvP.ret _ ?_))))
  ·show false = (!decide (Go.bits .and .i64 x.f0 8 = 0) && fits K v)
   rw [decide_eq_true h]
   rfl
  ·show t = (!decide (Go.bits .and .i64 x.f0 8 = 0) && fits K v)
   rw [decide_eq_false h,ht]
   rfl
theorem can_keep_fin : ∀ a : Fin 16,can (a.val : Int) 8 = !decide (Go.bits .and .i64 (a.val : Int) 8 = 0):=by decide +kernel
theorem can_keep {a : Int} (h0 : 0 ≤ a) (h1 : a ≤ 15) : can a 8 = !decide (Go.bits .and .i64 a 8 = 0):=by
 have h:=can_keep_fin ⟨a.toNat,by omega⟩
 have e : ((a.toNat : Nat) : Int) = a:=by omega
 simpa [e] using h
theorem ev_spec_l9Kind (K : Kinds) (hK : kOk K = true) (v : S27) (hq : qVal v) : EvP (fun k=>spec_l9Kind.f k K v.f0 v.f1 v.f2 v.f3) (· = keepOk K v):=by
 unfold spec_l9Kind.f keepOk
 refine EvP.call (eq_spec_l1Kind v.f0) ?_
 cases hk : kAt v.f0 with
 | none =>
  have hg : kGet K v.f0 = none:=by unfold kGet;rw [hk];rfl
  rw [hg]
  exact EvP.neg (by simp [kTup]) (EvP.ret _ rfl)
 | some p =>
  refine EvP.pos rfl (EvP.bind (ev_spec_l2Ok K v hq) (fun t ht=>EvP.ite (fun h=>?_) (fun h=>EvP.ret _ ?_)))
  ·have hf : fits K v = true:=by rw [← ht,h]
   have hg : (kGet K v.f0).isSome = true:=by
    cases hg : kGet K v.f0 with
    | some x=>rfl
    | none =>
     obtain ⟨t0,n0,ps0,path0⟩:=v
     have hg' : kGet K t0 = none:=hg
     have hk' : kAt t0 = some p:=hk
     rw [fits_eq,kAt_base hk',hg'] at hf
     simp at hf
   obtain ⟨x,hx⟩:=Option.isSome_iff_exists.1 hg
   have ha : able K v.f0 = x.f0:=by
    unfold able
    rw [kAt_notRef hk,hx]
    rfl
   obtain ⟨a,b,h1,ha1,hb1,hxe⟩:=kGet_some hx
   have hr:=recOk_range (((kOk_all hK).2 a ha1).2 b hb1)
   rw [hxe] at hr
   refine EvP.bind (ev_spec_l1Able K v.f0 (fun q hq=>hg)) (fun y hy=>EvP.call (eq_spec_l1Can y 8 (by decide)) (EvP.ret _ ?_))
   rw [hy,ha,can_keep hr.1 hr.2.1,hx]
   show _ = (!decide (Go.bits .and .i64 x.f0 8 = 0) && fits K v)
   rw [hf,Bool.and_true]
  ·rw [Bool.not_eq_true] at h
   cases kGet K v.f0 with
   | none=>rfl
   | some x =>
    show false = (!decide (Go.bits .and .i64 x.f0 8 = 0) && fits K v)
    rw [← ht,h,Bool.and_false]
def before (a b : S55) : Bool:=decide (a.f0 < b.f0) || (decide (a.f0 = b.f0) && Op.bytesLess a.f1.f0.toList b.f1.f0.toList)
theorem eq_impl_vaultBefore (a b : S55) : impl_vaultBefore.f a.f0 a.f1.f0 a.f1.f1 a.f1.f2 a.f1.f3 b.f0 b.f1.f0 b.f1.f1 b.f1.f2 b.f1.f3 = some (before a b):=by
 unfold impl_vaultBefore.f before
 by_cases h : a.f0 < b.f0
 ·rw [if_pos h,decide_eq_true h,Bool.true_or]
 ·rw [if_neg h,decide_eq_false h,Bool.false_or]
  by_cases h2 : a.f0 = b.f0
  ·rw [if_pos h2,decide_eq_true h2,Bool.true_and]
  ·rw [if_neg h2,decide_eq_false h2,Bool.false_and]
def vFrom (K : Kinds) : Option S55 → List S55 → Bool
 | _,[]=>true
 | p,x :: xs=>(decide (0 ≤ x.f0 ∧ x.f0 < 4) && keepOk K x.f1) && ((match p with | none=>true | some y=>before y x) && vFrom K (some x) xs)
theorem vFrom_nil (K : Kinds) (p : Option S55) : vFrom K p [] = true:=by cases p<;>rfl
theorem vFrom_cons (K : Kinds) (p : Option S55) (x : S55) (xs : List S55) : vFrom K p (x :: xs) = ((decide (0 ≤ x.f0 ∧ x.f0 < 4) && keepOk K x.f1) && ((match p with | none=>true | some y=>before y x) && vFrom K (some x) xs)):=by cases p<;>rfl
def prevAt (xs : List S55) : Nat → Option S55
 | 0=>none
 | j + 1=>xs[j]?
def vOk (K : Kinds) (xs : List S55) : Bool:=kOk K && (decide (xs.length ≤ 36) && vFrom K none xs)
theorem ev_impl_VaultsOk (K : Kinds) (xs : List S55) (hq : qKeptS xs) : EvP (fun k=>impl_VaultsOk.f k K xs) (· = vOk K xs):=by
 have hn:=hq.1
 have key : ∀ i,i ≤ xs.length → EvP (fun k=>impl_VaultsOk.l0 k K xs xs (xs.length : Int) i) (· = vFrom K (prevAt xs i) (xs.drop i)):=by
  refine upInd ?_ ?_
  ·refine EvP.succ ?_
   simp only [impl_VaultsOk.l0]
   exact EvP.neg (by omega) (EvP.ret _ (by rw [List.drop_length,vFrom_nil]))
  ·intro i hi ih
   refine EvP.succ ?_
   simp only [impl_VaultsOk.l0]
   have e : rd_T55 xs (i : Int) = xs[i]:=getDn hi
   have hb:=hq.2 _ (List.getElem_mem hi)
   rw [e,List.drop_eq_getElem_cons hi,vFrom_cons]
   have bad : EvP (fun k=>impl_VaultsOk.j2 k K xs i xs (xs.length : Int) i true xs[i].f0 xs[i].f1.f0 xs[i].f1.f1 xs[i].f1.f2 xs[i].f1.f3) (· = false):=by
    refine EvP.succ ?_
    simp only [impl_VaultsOk.j2]
    exact EvP.pos trivial (EvP.ret _ rfl)
   refine EvP.pos (by omega) (EvP.pos (by omega) (EvP.pos (by omega) (EvP.ite (fun h1=>bad.mono (fun r hr=>by rw [hr,decide_eq_false (by omega),Bool.false_and,Bool.false_and])) (fun h1=>EvP.ite (fun h2=>bad.mono (fun r hr=>by rw [hr,decide_eq_false (by omega),Bool.false_and,Bool.false_and])) (fun h2=>?_)))))
   refine EvP.bind (ev_impl_keepable K xs[i].f1 hb) (fun t ht=>?_)
   rw [decide_eq_true (by omega),Bool.true_and,← ht]
   cases t with
   | false=>exact bad.mono (fun r hr=>by rw [hr,Bool.false_and])
   | true =>
    rw [Bool.true_and]
    refine EvP.succ ?_
    simp only [impl_VaultsOk.j2]
    have e2 : (prevAt xs (i + 1)) = some xs[i]:=by show xs[i]? = _;exact List.getElem?_eq_getElem hi
    rw [e2] at ih
    refine EvP.neg (by simp) ?_
    cases i with
    | zero =>
     rw [w64s hi (by omega)]
     exact EvP.neg (by omega) (ih.mono (fun r hr=>by rw [hr];rfl))
    | succ j =>
     have e3 : wrap64 (((j + 1 : Nat) : Int) - 1) = (j : Int):=by rw [w64 (by omega) (by omega)];omega
     have e4 : rd_T55 xs (j : Int) = xs[j]:=getDn (by omega)
     have e5 : prevAt xs (j + 1) = some xs[j]:=List.getElem?_eq_getElem (by omega)
     rw [e3,e4,e5,w64s hi (by omega)]
     refine EvP.pos (by omega) (EvP.pos (by omega) (EvP.pos (by omega) (EvP.call (eq_impl_vaultBefore xs[j] xs[j + 1]) (EvP.ite (fun h3=>ih.mono (fun r hr=>?_)) (fun h3=>EvP.ret _ ?_)))))
     ·show r = (before xs[j] xs[j + 1] && _)
      rw [hr,h3,Bool.true_and]
     ·rw [Bool.not_eq_true] at h3
      show false = (before xs[j] xs[j + 1] && _)
      rw [h3,Bool.false_and]
 unfold impl_VaultsOk.f vOk
 refine EvP.bind (ev_impl_KindsOk K) (fun b hb=>EvP.ite (fun h=>EvP.succ ?_) (fun h=>EvP.succ ?_))
 ·simp only [impl_VaultsOk.j0]
  rw [← hb,h,Bool.true_and]
  refine EvP.ite (fun h2=>EvP.ret _ ?_) (fun h2=>(key 0 (by omega)).mono (fun r hr=>?_))
  ·have h2:=of_decide_eq_true h2
   rw [decide_eq_false (by omega),Bool.false_and]
  ·have h2 : ¬ ((xs.length : Int) > 36):=by simpa using h2
   rw [hr,decide_eq_true (by omega),Bool.true_and]
   rfl
 ·simp only [impl_VaultsOk.j0]
  rw [Bool.not_eq_true] at h
  exact EvP.pos trivial (EvP.ret _ (by rw [← hb,h,Bool.false_and]))
theorem ev_spec_VaultsOk (K : Kinds) (xs : List S55) (hq : qKeptS xs) : EvP (fun k=>spec_VaultsOk.f k K xs) (· = vOk K xs):=by
 have hn:=hq.1
 have inn : ∀ n b : Int,spec_l6In.f n 0 b = some (decide (0 ≤ n ∧ n ≤ b)):=by
  intro n b
  unfold spec_l6In.f
  by_cases h : n ≥ 0
  ·rw [if_pos h]
   congr 1
   rw [decide_eq_decide]
   omega
  ·rw [if_neg h,decide_eq_false (by omega)]
 unfold spec_VaultsOk.f vOk
 refine EvP.bind (ev_spec_KindsOk K) (fun b hb=>EvP.ite (fun h=>?_) (fun h=>EvP.ret _ ?_))
 ·have hK : kOk K = true:=by rw [← hb,h]
  rw [hK,Bool.true_and]
  have key : ∀ i,i ≤ xs.length → EvP (fun k=>spec_l9Ok.l0 k K xs i) (· = (vFrom K (prevAt xs i) (xs.drop i) && decide (xs.length ≤ 36))):=by
   refine upInd ?_ ?_
   ·refine EvP.succ ?_
    simp only [spec_l9Ok.l0]
    refine EvP.neg (by omega) (EvP.ret _ ?_)
    rw [List.drop_length,vFrom_nil,Bool.true_and,decide_eq_decide]
    omega
   ·intro i hi ih
    refine EvP.succ ?_
    simp only [spec_l9Ok.l0]
    have e : rd_T55 xs (i : Int) = xs[i]:=getDn hi
    have hb:=hq.2 _ (List.getElem_mem hi)
    rw [e,List.drop_eq_getElem_cons hi,vFrom_cons]
    have bad : EvP (fun k=>spec_l9Ok.j1 k K xs i true) (· = false):=by
     refine EvP.succ ?_
     simp only [spec_l9Ok.j1]
     exact EvP.pos trivial (EvP.ret _ rfl)
    refine EvP.pos (by omega) (EvP.pos (by omega) (EvP.call (inn _ _) (EvP.ite (fun h1=>?_) (fun h1=>bad.mono (fun r hr=>?_)))))
    ·have h1:=of_decide_eq_true h1
     refine EvP.bind (ev_spec_l9Kind K hK xs[i].f1 hb) (fun t ht=>?_)
     rw [decide_eq_true (show 0 ≤ xs[i].f0 ∧ xs[i].f0 < 4 by omega),Bool.true_and,← ht]
     cases t with
     | false=>exact bad.mono (fun r hr=>by rw [hr,Bool.false_and,Bool.false_and])
     | true =>
      rw [Bool.true_and]
      refine EvP.succ ?_
      simp only [spec_l9Ok.j1]
      have e2 : (prevAt xs (i + 1)) = some xs[i]:=by show xs[i]? = _;exact List.getElem?_eq_getElem hi
      rw [e2] at ih
      refine EvP.neg (by simp) ?_
      cases i with
      | zero =>
       rw [w64s hi (by omega)]
       exact EvP.neg (by omega) (ih.mono (fun r hr=>by rw [hr];rfl))
      | succ j =>
       have e3 : wrap64 (((j + 1 : Nat) : Int) - 1) = (j : Int):=by rw [w64 (by omega) (by omega)];omega
       have e4 : rd_T55 xs (j : Int) = xs[j]:=getDn (by omega)
       have e5 : prevAt xs (j + 1) = some xs[j]:=List.getElem?_eq_getElem (by omega)
       rw [e3,e4,e5,e,w64s hi (by omega)]
       refine EvP.pos (by omega) (EvP.pos (by omega) (EvP.pos (by omega) (EvP.pos (by omega) (EvP.pos (by omega) ?_))))
       have go : ∀ c : Bool,before xs[j] xs[j + 1] = c → ∀ r,r = (if c = true then (vFrom K (some xs[j + 1]) (xs.drop (j + 1 + 1)) && decide (xs.length ≤ 36)) else false) → r = ((match some xs[j] with | none=>true | some y=>before y xs[j + 1]) && vFrom K (some xs[j + 1]) (xs.drop (j + 1 + 1)) && decide (xs.length ≤ 36)):=by
        intro c hc r hr
        show r = (before xs[j] xs[j + 1] && _ && _)
        rw [hr,hc]
        cases c<;>simp
       refine EvP.ite (fun h3=>EvP.ret _ (go false ?_ _ rfl)) (fun h3=>EvP.ite (fun h4=>EvP.ite (fun h5=>ih.mono (fun r hr=>go true ?_ _ hr)) (fun h5=>EvP.ret _ (go false ?_ _ rfl))) (fun h4=>ih.mono (fun r hr=>go true ?_ _ hr)))
       ·unfold before
        rw [decide_eq_false (by omega),decide_eq_false (by omega)]
        rfl
       ·unfold before
        rw [h5,decide_eq_true h4,Bool.true_and,Bool.or_true]
       ·rw [Bool.not_eq_true] at h5
        unfold before
        rw [h5,Bool.and_false,Bool.or_false,decide_eq_false (by omega)]
       ·unfold before
        rw [decide_eq_true (by omega),Bool.true_or]
    ·have h1 : ¬ (0 ≤ xs[i].f0 ∧ xs[i].f0 ≤ 3):=by simpa using h1
     rw [hr,decide_eq_false (by omega),Bool.false_and,Bool.false_and,Bool.false_and]
  unfold spec_l9Ok.f
  refine EvP.bind (key 0 (by omega)) (fun t ht=>EvP.ret _ ?_)
  rw [ht,Bool.and_comm]
  rfl
 ·rw [Bool.not_eq_true] at h
  rw [← hb,h,Bool.false_and]
theorem ev_laws_hlInts (xs : List Int) (hl : xs.length ≤ 9223372036854775807) : EvP (fun k=>laws_hlInts.f k xs xs) (· = true):=by
 have key : ∀ i,i ≤ xs.length → EvP (fun k=>laws_hlInts.l0 k xs xs i) (· = true):=by
  refine upInd ?_ ?_
  ·refine EvP.succ ?_
   simp only [laws_hlInts.l0]
   exact EvP.neg (by omega) (EvP.ret _ rfl)
  ·intro i hi ih
   refine EvP.succ ?_
   simp only [laws_hlInts.l0]
   rw [w64s hi hl]
   exact EvP.pos (by omega) (EvP.pos (by omega) (EvP.pos (by omega) (EvP.pos trivial ih)))
 unfold laws_hlInts.f
 exact EvP.pos rfl (key 0 (by omega))
theorem hlValues_l0 (k : Nat) (x0 x1 : List S27) (x5 : Int) : laws_hlValues.l0 (k + 1) x0 x1 x5 = if x5 < (x0.length : Int) then (if 0 ≤ x5 then (if x5 < (x1.length : Int) then ((laws_hlValue.f k ((rd_T27 x0 x5).f0) ((rd_T27 x0 x5).f1) ((rd_T27 x0 x5).f2) ((rd_T27 x0 x5).f3) ((rd_T27 x1 x5).f0) ((rd_T27 x1 x5).f1) ((rd_T27 x1 x5).f2) ((rd_T27 x1 x5).f3)).bind fun t=>(if t = true then (laws_hlValues.l0 k x0 x1 (wrap64 (x5 + 1))) else (some false))) else (none)) else (none)) else (some true):=rfl
theorem ev_laws_hlValues_of (xs : List S27) (hl : xs.length ≤ 1048576) (hx : ∀ x ∈ xs,EvP (fun k=>laws_hlValue.f k x.f0 x.f1 x.f2 x.f3 x.f0 x.f1 x.f2 x.f3) (· = true)) : EvP (fun k=>laws_hlValues.f k xs xs) (· = true):=by
 have key : ∀ i,i ≤ xs.length → EvP (fun k=>laws_hlValues.l0 k xs xs i) (· = true):=by
  refine upInd ?_ ?_
  ·refine EvP.succ ?_
   simp only [hlValues_l0]
   exact EvP.neg (by omega) (EvP.ret _ rfl)
  ·intro i hi ih
   refine EvP.succ ?_
   simp only [hlValues_l0]
   rw [w64s hi (by omega)]
   have e : rd_T27 xs (i : Int) = xs[i]:=getDn hi
   rw [e]
   refine EvP.pos (by omega) (EvP.pos (by omega) (EvP.pos (by omega) (EvP.bind (hx _ (List.getElem_mem hi)) (fun t ht=>?_))))
   subst ht
   exact EvP.pos (by trivial) ih
 unfold laws_hlValues.f
 exact EvP.pos (by trivial) (key 0 (by omega))
theorem ev_laws_hlValue (x : S27) : qVal x → EvP (fun k=>laws_hlValue.f k x.f0 x.f1 x.f2 x.f3 x.f0 x.f1 x.f2 x.f3) (· = true):=by
 refine ival_ind (P:=fun x=>qVal x → EvP (fun k=>laws_hlValue.f k x.f0 x.f1 x.f2 x.f3 x.f0 x.f1 x.f2 x.f3) (· = true)) ?_ x
 intro s n ps path ih hq
 rw [qVal] at hq
 show EvP (fun k=>laws_hlValue.f k s n ps path s n ps path) _
 unfold laws_hlValue.f
 refine EvP.pos rfl (EvP.pos rfl (EvP.bind (ev_laws_hlInts path (by omega)) (fun t ht=>EvP.pos ht ?_)))
 exact EvP.bind (ev_laws_hlValues_of ps hq.1.1 (fun y hy=>ih y hy (qValS_mem hq.1.2 y hy))) (fun t ht=>EvP.ret _ ht)
theorem eta_val (x : S27) : (⟨x.f0,x.f1,x.f2,x.f3⟩ : S27) = x:=by cases x;rfl
theorem ev_spec_l2Copy (x : S27) : qVal x → EvP (fun k=>spec_l2Copy.f k x.f0 x.f1 x.f2 x.f3) (· = (x.f0,x.f1,x.f2,x.f3)):=by
 refine ival_ind (P:=fun x=>qVal x → EvP (fun k=>spec_l2Copy.f k x.f0 x.f1 x.f2 x.f3) (· = (x.f0,x.f1,x.f2,x.f3))) ?_ x
 intro t n ps path ih hq
 rw [qVal] at hq
 show EvP (fun k=>spec_l2Copy.f k t n ps path) (· = (t,n,ps,path))
 refine EvP.succ ?_
 simp only [spec_l2Copy.f]
 have key : ∀ i,i ≤ ps.length → EvP (fun k=>spec_l2Copy.l0 k i t n ps path t n (ps.take i) ([] ++ path)) (· = (t,n,ps,path)):=by
  refine upInd ?_ ?_
  ·refine EvP.succ ?_
   simp only [spec_l2Copy.l0]
   exact EvP.neg (by omega) (EvP.ret _ (by rw [List.take_length];rfl))
  ·intro i hi ih2
   refine EvP.succ ?_
   simp only [spec_l2Copy.l0]
   have e : rd_T27 ps (i : Int) = ps[i]:=getDn hi
   rw [e,w64s hi (by have:=hq.1.1;omega)]
   refine EvP.pos (by omega) (EvP.pos (by omega) (EvP.bind (ih _ (List.getElem_mem hi) (qValS_mem hq.1.2 _ (List.getElem_mem hi))) (fun r hr=>?_)))
   subst hr
   refine EvP.pos (by rw [List.length_take];have:=hq.1.1;omega) ?_
   rw [List.take_succ_eq_append_getElem hi] at ih2
   simp only [eta_val]
   exact ih2
 refine EvP.call rfl (EvP.pos (by simp;omega) ?_)
 exact key 0 (by omega)
theorem ev_impl_copyValue (x : S27) : qVal x → EvP (fun k=>impl_copyValue.f k x.f0 x.f1 x.f2 x.f3) (· = (x.f0,x.f1,x.f2,x.f3)):=by
 refine ival_ind (P:=fun x=>qVal x → EvP (fun k=>impl_copyValue.f k x.f0 x.f1 x.f2 x.f3) (· = (x.f0,x.f1,x.f2,x.f3))) ?_ x
 intro t n ps path ih hq
 rw [qVal] at hq
 show EvP (fun k=>impl_copyValue.f k t n ps path) (· = (t,n,ps,path))
 refine EvP.succ ?_
 simp only [impl_copyValue.f]
 have key : ∀ i,i ≤ ps.length → EvP (fun k=>impl_copyValue.l0 k ps (ps.length : Int) i t n (ps.take i) path) (· = (t,n,ps,path)):=by
  refine upInd ?_ ?_
  ·refine EvP.succ ?_
   simp only [impl_copyValue.l0]
   exact EvP.neg (by omega) (EvP.call rfl (EvP.ret _ (by rw [List.take_length])))
  ·intro i hi ih2
   refine EvP.succ ?_
   simp only [impl_copyValue.l0]
   have e : rd_T27 ps (i : Int) = ps[i]:=getDn hi
   rw [e,w64s hi (by have:=hq.1.1;omega)]
   refine EvP.pos (by omega) (EvP.pos (by omega) (EvP.pos (by omega) (EvP.bind (ih _ (List.getElem_mem hi) (qValS_mem hq.1.2 _ (List.getElem_mem hi))) (fun r hr=>?_))))
   subst hr
   refine EvP.pos (by rw [List.length_take];have:=hq.1.1;omega) ?_
   rw [List.take_succ_eq_append_getElem hi] at ih2
   simp only [eta_val]
   exact ih2
 have ci : impl_copyInts.f path = some path:=by
  unfold impl_copyInts.f slices_Clip_int_int.f
  simp only [Option.bind_some,List.nil_append]
  rw [if_pos (by simp;omega)]
 exact EvP.call ci (key 0 (by omega))
def gKept3 (x : S55) : Prop:=qVal x.f1 ∧ vsize x.f1 ≤ 349525
theorem ev_spec_l9Put (L : List S55) (hL : L.length ≤ 1000) (gL3 : ∀ x ∈ L,gKept3 x) (o : Int) (v : S27) (gv : gKept3 ⟨o,v⟩) : EvP (fun k=>spec_l9Put.f k L o v.f0 v.f1 v.f2 v.f3) (fun r=>r.length ≤ L.length + 1 ∧ ∀ x ∈ r,gKept3 x):=by
 have add : ∀ (X : List S55) (x : S55),(∀ y ∈ X,gKept3 y) → gKept3 x → ∀ y ∈ X ++ [x],gKept3 y:=fun X x h hx y hy=>by
  rcases List.mem_append.1 hy with hy | hy
  ·exact h y hy
  ·rw [List.mem_singleton.1 hy];exact hx
 have key : ∀ i,i ≤ L.length → ∀ (X : List S55) (d : Bool),X.length = i + d.toNat → (∀ y ∈ X,gKept3 y) → EvP (fun k=>spec_l9Put.l0 k L o X d i v.f0 v.f1 v.f2 v.f3) (fun r=>r.length ≤ L.length + 1 ∧ ∀ x ∈ r,gKept3 x):=by
  refine upInd ?_ ?_
  ·intro X d hX hg
   refine EvP.succ ?_
   simp only [spec_l9Put.l0]
   refine EvP.neg (by omega) (EvP.ite (fun h=>EvP.ret _ ⟨by rw [h] at hX;simp at hX;omega,hg⟩) (fun h=>?_))
   rw [Bool.eq_false_iff.2 h] at hX
   simp at hX
   refine EvP.bind (ev_spec_l2Copy v gv.1) (fun r hr=>?_)
   subst hr
   refine EvP.pos (by omega) (EvP.ret _ ⟨by rw [List.length_append,hX];simp,by simp only [eta_val];exact add _ _ hg gv⟩)
  ·intro i hi ih X d hX hg
   have e : rd_T55 L (i : Int) = L[i]:=getDn hi
   have gi:=gL3 _ (List.getElem_mem hi)
   have hd2 : d.toNat ≤ 1:=by cases d<;>simp
   refine EvP.succ ?_
   simp only [spec_l9Put.l0]
   rw [e,w64s hi (by omega)]
   simp only [eta_val]
   refine EvP.pos (by omega) (EvP.ite (fun h=>?_) (fun h=>?_))
   ·refine EvP.pos (by omega) (EvP.pos (by omega) ?_)
    exact ih _ _ (by rw [List.length_append,hX,List.length_singleton];omega) (add _ _ hg gi)
   ·have hd:=Bool.eq_false_iff.2 h
    subst hd
    simp at hX
    have skip : EvP (fun k=>if X.length < 1759218604441 then (spec_l9Put.l0 k L o (X ++ [(⟨L[i].f0,L[i].f1⟩ : S55)]) false ((i : Int) + 1) v.f0 v.f1 v.f2 v.f3) else none) (fun r=>r.length ≤ L.length + 1 ∧ ∀ x ∈ r,gKept3 x):=EvP.pos (by omega) (ih _ _ (by rw [List.length_append,hX,List.length_singleton];rfl) (add _ _ hg gi))
    have put : EvP (fun k=>(spec_l2Copy.f k v.f0 v.f1 v.f2 v.f3).bind fun bt357=>(if X.length < 1759218604441 then ((some (X ++ [(⟨o,(⟨bt357.1,bt357.2.1,bt357.2.2.1,bt357.2.2.2⟩ : S27)⟩ : S55)] : List (S55))).bind fun y365=>(if y365.length < 1759218604441 then (spec_l9Put.l0 k L o (y365 ++ [(⟨L[i].f0,L[i].f1⟩ : S55)]) true ((i : Int) + 1) v.f0 v.f1 v.f2 v.f3) else (none))) else (none))) (fun r=>r.length ≤ L.length + 1 ∧ ∀ x ∈ r,gKept3 x):=by
     refine EvP.bind (ev_spec_l2Copy v gv.1) (fun r hr=>?_)
     subst hr
     simp only [eta_val]
     refine EvP.pos (by omega) (EvP.call rfl (EvP.pos (by rw [List.length_append,hX,List.length_singleton];omega) ?_))
     exact ih _ _ (by rw [List.length_append,List.length_append,hX,List.length_singleton,List.length_singleton];rfl) (add _ _ (add _ _ hg gv) gi)
    exact EvP.pos (by omega) (EvP.ite (fun _=>put) (fun _=>EvP.ite (fun _=>EvP.ite (fun _=>put) (fun _=>skip)) (fun _=>skip)))
 unfold spec_l9Put.f
 exact key 0 (by omega) [] false rfl (fun y hy=>by cases hy)
theorem bl_trans : ∀ a b c : List UInt8,Op.bytesLess a b = true → Op.bytesLess b c = true → Op.bytesLess a c = true
 | _,[],_,h,_=>by simp [Op.bytesLess] at h
 | _,_ :: _,[],_,h=>by simp [Op.bytesLess] at h
 | [],_ :: _,_ :: _,_,_=>by simp [Op.bytesLess]
 | x :: a,y :: b,z :: c,h1,h2=>by
  simp only [Op.bytesLess,Bool.or_eq_true,Bool.and_eq_true,decide_eq_true_eq,beq_iff_eq] at h1 h2 ⊢
  rcases h1 with h1 | ⟨rfl,h1⟩
  ·rcases h2 with h2 | ⟨rfl,h2⟩
   ·exact .inl (UInt8.lt_trans h1 h2)
   ·exact .inl h1
  ·rcases h2 with h2 | ⟨rfl,h2⟩
   ·exact .inl h2
   ·exact .inr ⟨rfl,bl_trans a b c h1 h2⟩
theorem bl_irrefl : ∀ a : List UInt8,Op.bytesLess a a = false
 | []=>rfl
 | x :: a=>by simp [Op.bytesLess,bl_irrefl a]
theorem before_trans {a b c : S55} (h1 : before a b = true) (h2 : before b c = true) : before a c = true:=by
 unfold before at h1 h2 ⊢
 simp only [Bool.or_eq_true,Bool.and_eq_true,decide_eq_true_eq] at h1 h2 ⊢
 rcases h1 with h1 | ⟨e1,h1⟩
 ·rcases h2 with h2 | ⟨e2,h2⟩
  ·exact .inl (by omega)
  ·exact .inl (by omega)
 ·rcases h2 with h2 | ⟨e2,h2⟩
  ·exact .inl (by omega)
  ·exact .inr ⟨by omega,bl_trans _ _ _ h1 h2⟩
theorem before_ne {a b : S55} (h : before a b = true) : ¬ (a.f0 = b.f0 ∧ a.f1.f0.toList = b.f1.f0.toList):=fun ⟨e1,e2⟩=>by
 unfold before at h
 rw [e1,e2,bl_irrefl] at h
 simp at h
theorem vFrom_pair {K : Kinds} : ∀ (xs : List S55) (p : Option S55),vFrom K p xs = true → xs.Pairwise (fun a b=>before a b = true) ∧ ∀ y,p = some y → ∀ x ∈ xs,before y x = true
 | [],_,_=>⟨List.Pairwise.nil,fun _ _ x hx=>by cases hx⟩
 | x :: xs,p,h=>by
  rw [vFrom_cons] at h
  simp only [Bool.and_eq_true] at h
  obtain ⟨_,h1,h2⟩:=h
  obtain ⟨i1,i2⟩:=vFrom_pair xs _ h2
  have i3:=i2 x rfl
  refine ⟨List.Pairwise.cons i3 i1,fun y hy z hz=>?_⟩
  subst hy
  rcases List.mem_cons.1 hz with rfl | hz
  ·exact h1
  ·exact before_trans h1 (i3 z hz)
theorem idxK_at (o : Int) (t : ByteArray) : ∀ (xs : List S55) (i : Nat) (hi : i < xs.length) (n : Int),xs.Pairwise (fun a b=>before a b = true) → xs[i].f0 = o → xs[i].f1.f0 = t → idxK xs o t n = n + i
 | [],_,hi,_,_,_,_=>by simp at hi
 | x :: xs,0,_,n,_,h1,h2=>by
  simp only [List.getElem_cons_zero] at h1 h2
  rw [idxK,if_pos ⟨h1,by rw [h2]⟩]
  simp
 | x :: xs,i + 1,hi,n,hp,h1,h2=>by
  simp only [List.getElem_cons_succ] at h1 h2
  rw [List.pairwise_cons] at hp
  have hb:=hp.1 _ (List.getElem_mem (by simpa using hi) : xs[i]'(by simpa using hi) ∈ xs)
  have hne:=before_ne hb
  rw [idxK,if_neg (fun e=>hne ⟨by rw [e.1,h1],by rw [e.2,h2]⟩),idxK_at o t xs i (by simpa using hi) (n + 1) hp.2 h1 h2]
  omega
theorem ev_spec_l92Vaults (s : List Int) (hs : gBy s) (K : Kinds) (hK : gK3 K) (p : Int) (hp : 0 ≤ p) (hp2 : p ≤ 3001) : EvP (fun k=>spec_l92Vaults.f k s p K) (fun r=>(∀ x ∈ r.1,gKept3 x) ∧ r.1.length ≤ 36 ∧ 0 ≤ r.2 ∧ r.2 ≤ 13000000):=by
 have h9 : S4 9 = 349525:=by decide
 have hk3 : ∀ m (h : m < K.length),K[m].length ≤ 3:=fun m h=>(hK.2 m h).1
 have hkl:=hK.1
 have h0 : ∀ m,m ≤ K.length → ∀ (X : List S55) (q : Int),(∀ x ∈ X,gKept3 x) → X.length ≤ 12 * m → 0 ≤ q → q ≤ 3001 + 349530 * (12 * m : Nat) → EvP (fun k=>spec_l92Vaults.l0 k K X m s q) (fun r=>(∀ x ∈ r.1,gKept3 x) ∧ r.1.length ≤ 36 ∧ 0 ≤ r.2 ∧ r.2 ≤ 13000000):=by
  refine upInd ?_ ?_
  ·intro X q g1 g2 g3 g4
   refine EvP.succ ?_
   simp only [spec_l92Vaults.l0]
   exact EvP.neg (by omega) (EvP.ret _ ⟨g1,by show X.length ≤ 36;omega,g3,by show q ≤ 13000000;omega⟩)
  ·intro m hm ih0 X q g1 g2 g3 g4
   have eL : rd_L5 K (m : Int) = K[m]:=getDn hm
   have hl3:=hk3 m hm
   have h1 : ∀ j,j ≤ K[m].length → ∀ (X : List S55) (q : Int),(∀ x ∈ X,gKept3 x) → X.length ≤ 12 * m + 4 * j → 0 ≤ q → q ≤ 3001 + 349530 * (12 * m + 4 * j : Nat) → EvP (fun k=>spec_l92Vaults.l1 k K X m j s q) (fun r=>(∀ x ∈ r.1,gKept3 x) ∧ r.1.length ≤ 36 ∧ 0 ≤ r.2 ∧ r.2 ≤ 13000000):=by
    refine upInd ?_ ?_
    ·intro X q g1 g2 g3 g4
     refine EvP.succ ?_
     simp only [spec_l92Vaults.l1]
     simp only [eL]
     rw [w64s hm (by omega)]
     exact EvP.pos (by omega) (EvP.pos (by omega) (EvP.neg (by omega) (ih0 _ _ g1 (by omega) g3 (by omega))))
    ·intro j hj ih1 X q g1 g2 g3 g4
     refine EvP.succ ?_
     simp only [spec_l92Vaults.l1]
     simp only [eL]
     refine EvP.pos (by omega) (EvP.pos (by omega) (EvP.pos (by omega) (EvP.bind (ev_dec2 m (by omega) (by omega)) (fun d1 hd1=>?_))))
     refine EvP.pos (by have:=hd1.1;omega) (EvP.bind (ev_dec2 j (by omega) (by omega)) (fun d2 hd2=>?_))
     have hsz : ((⟨#[83]⟩ : ByteArray) ++ d1).size = 2:=by rw [ByteArray.size_append,hd1.1];rfl
     refine EvP.pos (by have:=hd2.1;omega) ?_
     have ha : ∀ p,kAt ((⟨#[83]⟩ : ByteArray) ++ d1 ++ d2) = some p → (kGet K ((⟨#[83]⟩ : ByteArray) ++ d1 ++ d2)).isSome = true:=by
      intro p hp
      obtain ⟨e1,e2⟩:=kAt_make hd1 hd2 hp
      obtain ⟨a,b⟩:=p
      simp only at e1 e2
      obtain rfl : a = m:=by omega
      obtain rfl : b = j:=by omega
      unfold kGet
      rw [hp]
      simp [hm,hj]
     generalize (⟨#[83]⟩ : ByteArray) ++ d1 ++ d2 = t at ha
     have h2 : ∀ o,o ≤ 4 → ∀ (X : List S55) (q : Int),(∀ x ∈ X,gKept3 x) → X.length ≤ 12 * m + 4 * j + o → 0 ≤ q → q ≤ 3001 + 349530 * (12 * m + 4 * j + o : Nat) → EvP (fun k=>spec_l92Vaults.l2 k K X m j t o s q) (fun r=>(∀ x ∈ r.1,gKept3 x) ∧ r.1.length ≤ 36 ∧ 0 ≤ r.2 ∧ r.2 ≤ 13000000):=by
      refine upInd ?_ ?_
      ·intro X q g1 g2 g3 g4
       refine EvP.succ ?_
       simp only [spec_l92Vaults.l2]
       rw [w64s hj (by omega)]
       exact EvP.neg (by omega) (ih1 _ _ g1 (by omega) g3 (by omega))
      ·intro o ho ih2 X q g1 g2 g3 g4
       have hj3 : ∀ (b : Bool) (q : Int),0 ≤ q → q ≤ 3002 + 349530 * (12 * m + 4 * j + o : Nat) → EvP (fun k=>spec_l92Vaults.j3 k K X m j t o b s q) (fun r=>(∀ x ∈ r.1,gKept3 x) ∧ r.1.length ≤ 36 ∧ 0 ≤ r.2 ∧ r.2 ≤ 13000000):=by
        intro b q g3 g4
        refine EvP.succ ?_
        simp only [spec_l92Vaults.j3]
        rw [w64s ho (by omega)]
        refine EvP.ite (fun _=>?_) (fun _=>ih2 _ _ g1 (by omega) g3 (by omega))
        refine EvP.bind (ev_value s hs K hK 9 t q (fun x hx=>kNo_le hK t x hx) g3 (by omega)) (fun v hv=>?_)
        obtain ⟨⟨v1,v2⟩,v3,v4⟩:=hv
        refine EvP.bind (ev_spec_l9Put X (by omega) g1 o ⟨v.1,v.2.1,v.2.2.1,v.2.2.2.1⟩ ⟨v1,by have h:=v2;rw [h9] at h;exact h⟩) (fun Y hY=>?_)
        exact ih2 _ _ hY.2 (by have:=hY.1;omega) (by omega) (by omega)
       refine EvP.succ ?_
       simp only [spec_l92Vaults.l2]
       refine EvP.pos (by omega) (EvP.bind (ev_spec_l1Able K t ha) (fun y hy=>EvP.call (eq_spec_l1Can y 8 (by decide)) (EvP.ite (fun _=>?_) (fun _=>hj3 _ _ g3 (by omega)))))
       refine EvP.bind (ev_pick s hs q 2 g3 (by omega) (by omega) (by omega)) (fun r hr=>EvP.ite (fun _=>?_) (fun _=>hj3 _ _ (by omega) (by omega)))
       simp only [eL]
       exact EvP.pos (by omega) (EvP.pos (by omega) (EvP.pos (by omega) (EvP.pos (by omega) (hj3 _ _ (by omega) (by omega)))))
     exact h2 0 (by omega) X q g1 (by omega) g3 (by omega)
   refine EvP.succ ?_
   simp only [spec_l92Vaults.l0]
   exact EvP.pos (by omega) (h1 0 (by omega) X q g1 (by omega) g3 (by omega))
 unfold spec_l92Vaults.f
 exact h0 0 (by omega) [] p (fun x hx=>by cases hx) (by simp) hp (by omega)
theorem ev_drawVaults (l : List Int) (s : List Int) (ho : spec_l6Open.f l = some (s,0)) (hs : gBy s) : EvP (fun k=>spec_DrawVaultsOk.f k l) (fun r=>qKeptS r.2):=by
 have fin : ∀ X : List S55,(∀ x ∈ X,gKept3 x) → X.length ≤ 36 → qKeptS X:=fun X h1 h2=>⟨by omega,fun x hx=>(h1 x hx).1⟩
 have j2 : ∀ (K : Kinds) (X : List S55) (q : Int),(∀ x ∈ X,gKept3 x) → X.length ≤ 36 → 0 ≤ q → q ≤ 13000001 → EvP (fun k=>spec_DrawVaultsOk.j2 k K X s q) (fun r=>qKeptS r.2):=by
  intro K X q g1 g2 g3 g4
  refine EvP.succ ?_
  simp only [spec_DrawVaultsOk.j2]
  refine EvP.bind (ev_pick s hs q 8 g3 (by omega) (by omega) (by omega)) (fun r hr=>EvP.ite (fun _=>EvP.ite (fun hl=>EvP.pos (by omega) ?_) (fun _=>EvP.ret _ (fin _ g1 g2))) (fun _=>EvP.ret _ (fin _ g1 g2)))
  have hl0 : 0 < X.length:=by omega
  have e : rd_T55 X (0 : Int) = X[0]:=getDn hl0
  rw [e]
  have g0:=g1 _ (List.getElem_mem hl0)
  refine EvP.bind (ev_bad s hs r.2 (by omega) (by omega) 349525 X[0].f1.f0 X[0].f1.f1 X[0].f1.f2 X[0].f1.f3 (by rw [eta_val];exact g0.1) (by rw [eta_val];exact g0.2)) (fun u hu=>EvP.ret _ (fin _ ?_ (by rw [List.length_set];exact g2)))
  intro x hx
  rcases List.mem_or_eq_of_mem_set hx with hx | rfl
  ·exact g1 x hx
  ·exact hu.1
 have j1 : ∀ (K : Kinds) (X : List S55) (b : Bool) (q : Int),(∀ x ∈ X,gKept3 x) → X.length ≤ 36 → 0 ≤ q → q ≤ 13000001 → (b = true → 1 < X.length) → EvP (fun k=>spec_DrawVaultsOk.j1 k K X b s q) (fun r=>qKeptS r.2):=by
  intro K X b q g1 g2 g3 g4 hb
  refine EvP.succ ?_
  simp only [spec_DrawVaultsOk.j1]
  refine EvP.ite (fun h=>?_) (fun _=>j2 K X q g1 g2 g3 g4)
  have hl:=hb h
  refine EvP.pos (by omega) (EvP.pos (by omega) (j2 K _ q ?_ (by rw [List.length_set,List.length_set];exact g2) g3 g4))
  have e0 : rd_T55 X (0 : Int) = X[0]:=getDn (i:=0) (by omega)
  have e1 : rd_T55 X (1 : Int) = X[1]:=getDn (i:=1) hl
  rw [e0,e1]
  simp only [eta_val]
  intro x hx
  rcases List.mem_or_eq_of_mem_set hx with hx | rfl
  ·rcases List.mem_or_eq_of_mem_set hx with hx | rfl
   ·exact g1 x hx
   ·exact g1 X[1] (List.getElem_mem hl)
  ·exact g1 X[0] (List.getElem_mem (by omega))
 have j0 : ∀ (K : Kinds) (X : List S55) (q : Int),(∀ x ∈ X,gKept3 x) → X.length ≤ 36 → 0 ≤ q → q ≤ 13000000 → EvP (fun k=>spec_DrawVaultsOk.j0 k K X s q) (fun r=>qKeptS r.2):=by
  intro K X q g1 g2 g3 g4
  refine EvP.succ ?_
  simp only [spec_DrawVaultsOk.j0]
  refine EvP.bind (ev_pick s hs q 6 g3 (by omega) (by omega) (by omega)) (fun r hr=>EvP.ite (fun _=>j1 K X _ _ g1 g2 (by omega) (by omega) (fun h=>?_)) (fun _=>j1 K X _ _ g1 g2 (by omega) (by omega) (fun h=>by cases h)))
  have:=of_decide_eq_true h
  omega
 unfold spec_DrawVaultsOk.f
 refine EvP.call ho (EvP.bind (ev_kinds2 s hs 0 (by omega) (by omega)) (fun K hK=>EvP.bind (ev_spec_KindsOk K.1) (fun b hb=>EvP.ite (fun _=>?_) (fun _=>?_))))
 ·exact EvP.bind (ev_spec_l92Vaults s hs K.1 hK.1 K.2 (by omega) (by omega)) (fun r hr=>j0 _ _ _ hr.1 hr.2.1 hr.2.2.1 hr.2.2.2)
 ·exact j0 _ _ _ (fun x hx=>by cases hx) (by simp) (by omega) (by omega)
theorem FnVaultsOk : laws_FnVaultsOk.Pure:=by
 intro l _ _ hw
 refine EvP.rounds ?_
 unfold laws_FnVaultsOk.f
 refine EvP.ite (fun _=>EvP.ret _ rfl) (fun _=>?_)
 obtain ⟨s,ho,hs⟩:=eq_open l (gCode_wf hw)
 refine EvP.bind (ev_drawVaults l s ho hs) (fun r hr=>?_)
 obtain ⟨K,xs⟩:=r
 simp only at hr ⊢
 refine EvP.bind (ev_impl_VaultsOk K xs hr) (fun t1 h1=>EvP.bind (ev_spec_VaultsOk K xs hr) (fun t2 h2=>?_))
 subst h1
 subst h2
 refine EvP.neg (by simp) ?_
 have key : ∀ i,i ≤ xs.length → EvP (fun k=>laws_FnVaultsOk.l0 k K xs (vOk K xs) i) (· = true):=by
  refine upInd ?_ ?_
  ·refine EvP.succ ?_
   simp only [laws_FnVaultsOk.l0]
   refine EvP.neg (by omega) (EvP.succ ?_)
   simp only [laws_FnVaultsOk.j1]
   exact EvP.neg (by simp) (EvP.ret _ rfl)
  ·intro i hi ih
   refine EvP.succ ?_
   simp only [laws_FnVaultsOk.l0]
   refine EvP.pos (by omega) (EvP.succ ?_)
   simp only [laws_FnVaultsOk.j1]
   have e : rd_T55 xs (i : Int) = xs[i]:=getDn hi
   rw [e,w64s hi (by have:=hr.1;omega)]
   refine EvP.ite (fun hv=>?_) (fun _=>EvP.ret _ rfl)
   have hq:=hr.2 _ (List.getElem_mem hi)
   have hv2:=hv
   unfold vOk at hv2
   simp only [Bool.and_eq_true] at hv2
   have hp:=(vFrom_pair xs none hv2.2.2).1
   have hx:=idxK_at xs[i].f0 xs[i].f1.f0 xs i hi 0 hp rfl rfl
   rw [Int.zero_add] at hx
   have hg : EvP (fun k=>impl_VaultsGet.f k K xs xs[i].f0 xs[i].f1.f0) (· = (xs[i].f1.f0,xs[i].f1.f1,xs[i].f1.f2,xs[i].f1.f3,true)):=by
    unfold impl_VaultsGet.f
    refine EvP.call (show impl_vaultAt.f xs xs[i].f0 xs[i].f1.f0 = some (i : Int) by unfold impl_vaultAt.f;rw [hx]) (EvP.neg (by omega) (EvP.bind (ev_impl_VaultsOk K xs hr) (fun t ht=>EvP.pos (by rw [ht];exact hv) (EvP.pos (by omega) (EvP.pos (by omega) ?_)))))
    rw [e]
    refine EvP.bind (ev_impl_copyValue xs[i].f1 hq) (fun u hu=>EvP.ret _ ?_)
    rw [hu]
   refine EvP.pos (by omega) (EvP.pos (by omega) (EvP.bind hg (fun u hu=>?_)))
   subst hu
   refine EvP.pos rfl (EvP.bind (ev_laws_hlValue xs[i].f1 hq) (fun t ht=>EvP.pos ht ih))
 exact key 0 (by omega)
end Go.Proofs.Ytdgmlakgnbmbbaa.Pure
