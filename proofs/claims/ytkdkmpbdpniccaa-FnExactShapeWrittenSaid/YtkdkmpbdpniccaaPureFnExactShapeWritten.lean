/- ShapeWritten of the program and of the reference give the same for every shape and every origin; the argument stays as it was. -/
import Derived.Test.YtkdkmpbdpniccaaOFnExactShapeWrittenx1
import Derived.Test.YtkdkmpbdpniccaaOFnExactShapeWrittenx2
import Derived.Test.YtkdkmpbdpniccaaOFnExactShapeWrittenx3
import Derived.Test.YtkdkmpbdpniccaaOFnExactShapeWrittenx4
import Derived.Test.YtkdkmpbdpniccaaBase
namespace Go.Proofs.Ytkdkmpbdpniccaa.Pure
open Go.RowKit Go.Proofs.Ytkdkmpbdpniccaa.OFnExactShapeWritten Go.Proofs.YtkdkmpbdpniccaaW.PrintWords Go.Proofs.YtkdkmpbdpniccaaW.PrintLast Go.Proofs.YtkdkmpbdpniccaaW.PrintMore Go.Proofs.Ytkdkmpbdpniccaa.Base
set_option linter.unusedVariables false
set_option linter.unusedSimpArgs false

theorem take_step {α β : Type} {c : α → β} {xs : List α} {out : List β} {i : Nat} (hi : i < xs.length) (hl : out.length = xs.length) (h : out.take i = (xs.take i).map c) : (out.set i (c xs[i])).take (i + 1) = (xs.take (i + 1)).map c := by
  rw [take_set_succ (by omega), h, List.take_succ_eq_append_getElem hi, List.map_append]
  rfl


def gMark (x : S67) : Prop := gStr x.f0 ∧ (gL gInt) x.f1

def wMark (x : S67) : Nat := x.f0.size + wl (fun _ : Int => 0) x.f1

def cMark (x : S67) : S69 := ⟨x.f0, x.f1⟩

theorem ev_laws_szIntS (xs : List Int) (hx : gL gInt xs) (a : Int) (h0 : 0 ≤ a) (h1 : a ≤ 1048576) : EvP (fun _ => laws_szIntS.f xs a) (fun r => 0 ≤ r → r = a - ((wl (fun _ : Int => 0) xs : Nat) : Int)) := by
  have h2 := hx.1
  unfold laws_szIntS.f
  rw [w64 (by omega) (by omega)]
  refine EvP.ite (fun hc => EvP.ret _ (fun h => absurd h (by omega))) (fun hc => EvP.ret _ (fun _ => ?_))
  unfold wl
  have := sum_map_zero xs
  omega

theorem ev_laws_szMark (s0 : ByteArray) (l1 : List Int) (hs0 : gStr s0) (hl1 : (gL gInt) l1) (a : Int) (h0 : 0 ≤ a) (h1 : a ≤ 1048576) : EvP (fun _ => laws_szMark.f s0 l1 a) (fun r => 0 ≤ r → r = a - ((s0.size + wl (fun _ : Int => 0) l1 : Nat) : Int)) := by
  unfold laws_szMark.f
  unfold gStr at hs0
  rw [w64 (n := a - (s0.size : Int)) (by omega) (by omega)]
  refine EvP.ite (fun hc => EvP.ret _ (fun h => absurd h (by omega))) (fun hc => ?_)
  obtain ⟨ts0, hts0⟩ : ∃ t : Int, t = a - (s0.size : Int) := ⟨_, rfl⟩
  rw [← hts0] at hc ⊢
  refine EvP.bind (ev_laws_szIntS l1 hl1 ts0 (by omega) (by omega)) (fun tl1 htl1 => EvP.ite (fun hc => EvP.ret _ (fun h => absurd h (by omega))) (fun hc => ?_))
  have htl1 := htl1 (by omega)
  exact EvP.ret _ (fun _ => by omega)

theorem ev_laws_toIntS_l0 (xs : List Int) (hx : wl (fun _ : Int => 0) xs ≤ 1048576) : ∀ i, i ≤ xs.length → ∀ out : List Int, out.length = xs.length → out.take i = (xs.take i).map id → EvP (fun k => laws_toIntS.l0 k xs out i) (· = xs.map id) := by
  have hn := Nat.le_trans len_wl hx
  refine upInd ?_ ?_
  · intro out hl ht
    refine EvP.succ ?_
    simp only [laws_toIntS.l0]
    refine EvP.neg (by omega) (EvP.ret _ ?_)
    rw [List.take_of_length_le (by omega), List.take_of_length_le (by omega)] at ht
    exact ht
  · intro i hi ih out hl ht
    refine EvP.succ ?_
    simp only [laws_toIntS.l0]
    have e : rd xs (i : Int) = xs[i] := getDn hi
    rw [e, w64s hi (by omega), Int.toNat_natCast]
    exact EvP.pos (by omega) (EvP.pos (by omega) (EvP.pos (by omega) (ih _ (by simpa using hl) (take_step (c := id) hi hl ht))))
theorem ev_laws_toIntS (xs : List Int) (hx : wl (fun _ : Int => 0) xs ≤ 1048576) : EvP (fun k => laws_toIntS.f k xs) (· = xs) := by
  have hn := Nat.le_trans len_wl hx
  unfold laws_toIntS.f
  refine EvP.pos (by omega) (EvP.pos (by rw [Int.toNat_natCast]; omega) ?_)
  refine (ev_laws_toIntS_l0 xs hx 0 (by omega) _ (by simp) rfl).mono (fun r hr => ?_)
  rw [hr]
  first | rfl | simp

theorem ev_laws_toMark (s0 : ByteArray) (l1 : List Int) (hl1 : wl (fun _ : Int => 0) l1 ≤ 1048576) : EvP (fun k => laws_toMark.f k s0 l1) (· = (s0, l1)) := by
  unfold laws_toMark.f
  refine EvP.bind (ev_laws_toIntS l1 hl1) (fun tl1 htl1 => ?_)
  subst htl1
  exact EvP.ret _ rfl

def qIntS (xs : List Int) : Prop := xs.length ≤ 9223372036854775807

def qMark (x : S69) : Prop := qIntS x.f1

theorem ev_laws_eqIntS_l0 (xs : List Int) (hx : qIntS xs) : ∀ i, i ≤ xs.length → EvP (fun k => laws_eqIntS.l0 k xs xs i) (· = true) := by
  refine upInd ?_ ?_
  · refine EvP.succ ?_
    simp only [laws_eqIntS.l0]
    exact EvP.neg (by omega) (EvP.ret _ rfl)
  · intro i hi ih
    refine EvP.succ ?_
    simp only [laws_eqIntS.l0]
    rw [w64s hi hx]
    exact EvP.pos (by omega) (EvP.pos (by omega) (EvP.pos (by omega) (EvP.pos (by trivial) ih)))
theorem ev_laws_eqIntS (xs : List Int) (hx : qIntS xs) : EvP (fun k => laws_eqIntS.f k xs xs) (· = true) := by
  unfold laws_eqIntS.f
  exact EvP.pos (by trivial) (ev_laws_eqIntS_l0 xs hx 0 (by omega))

theorem ev_laws_eqMark (s0 : ByteArray) (l1 : List Int) (hl1 : qIntS l1) : EvP (fun k => laws_eqMark.f k s0 l1 s0 l1) (· = true) := by
  unfold laws_eqMark.f
  refine EvP.pos (by trivial) ?_
  refine EvP.bind (ev_laws_eqIntS l1 hl1) (fun tl1 htl1 => ?_)
  subst htl1
  refine EvP.pos (by trivial) ?_
  exact EvP.ret _ rfl

theorem ev_laws_szMarkS_l0 (xs : List (S67)) (hx : gL gMark xs) : ∀ i, i ≤ xs.length → ∀ a : Int, 0 ≤ a → a ≤ 1048576 → EvP (fun k => laws_szMarkS.l0 k xs a i) (fun r => 0 ≤ r → r = a - ((((xs.drop i).map wMark).sum : Nat) : Int)) := by
  refine upInd ?_ ?_
  · intro a h0 h1
    refine EvP.succ ?_
    simp only [laws_szMarkS.l0]
    exact EvP.neg (by omega) (EvP.ret _ (fun _ => by simp))
  · intro i hi ih a h0 h1
    refine EvP.succ ?_
    simp only [laws_szMarkS.l0]
    have e : rd_T67 xs (i : Int) = xs[i] := getDn hi
    have hb := hx.2 _ (List.getElem_mem hi)
    rw [e, w64s hi hx.1]
    refine EvP.pos (by omega) (EvP.pos (by omega) (EvP.bind (ev_laws_szMark xs[i].f0 xs[i].f1 hb.1 hb.2 a h0 h1) (fun t ht => EvP.ite (fun hc => EvP.ret _ (fun h => absurd h (by omega))) (fun hc => ?_))))
    have ht := ht (by omega)
    refine (ih _ (by omega) (by omega)).mono (fun r hr h => ?_)
    have hw : wMark xs[i] = xs[i].f0.size + wl (fun _ : Int => 0) xs[i].f1 := rfl
    rw [hr h, List.drop_eq_getElem_cons hi]
    simp only [List.map_cons, List.sum_cons]
    omega
theorem ev_laws_szMarkS (xs : List (S67)) (hx : gL gMark xs) (a : Int) (h0 : 0 ≤ a) (h1 : a ≤ 1048576) : EvP (fun k => laws_szMarkS.f k xs a) (fun r => 0 ≤ r → r = a - ((wl wMark xs : Nat) : Int)) := by
  have h2 := hx.1
  unfold laws_szMarkS.f
  rw [w64 (by omega) (by omega)]
  refine EvP.ite (fun hc => EvP.ret _ (fun h => absurd h (by omega))) (fun hc => ?_)
  refine (ev_laws_szMarkS_l0 xs hx 0 (by omega) _ (by omega) (by omega)).mono (fun r hr h => ?_)
  rw [hr h]
  simp only [List.drop_zero]
  unfold wl
  omega

theorem ev_laws_szShape (l0 : List (S67)) (l1 : List (S67)) (hl0 : (gL gMark) l0) (hl1 : (gL gMark) l1) (a : Int) (h0 : 0 ≤ a) (h1 : a ≤ 1048576) : EvP (fun k => laws_szShape.f k l0 l1 a) (fun r => 0 ≤ r → r = a - ((wl wMark l0 + wl wMark l1 : Nat) : Int)) := by
  unfold laws_szShape.f
  refine EvP.bind (ev_laws_szMarkS l0 hl0 a (by omega) (by omega)) (fun tl0 htl0 => EvP.ite (fun hc => EvP.ret _ (fun h => absurd h (by omega))) (fun hc => ?_))
  have htl0 := htl0 (by omega)
  refine EvP.bind (ev_laws_szMarkS l1 hl1 tl0 (by omega) (by omega)) (fun tl1 htl1 => EvP.ite (fun hc => EvP.ret _ (fun h => absurd h (by omega))) (fun hc => ?_))
  have htl1 := htl1 (by omega)
  exact EvP.ret _ (fun _ => by omega)

theorem ev_laws_toMarkS_l0 (xs : List (S67)) (hx : wl wMark xs ≤ 1048576) : ∀ i, i ≤ xs.length → ∀ out : List (S69), out.length = xs.length → out.take i = (xs.take i).map cMark → EvP (fun k => laws_toMarkS.l0 k xs out i) (· = xs.map cMark) := by
  have hn := Nat.le_trans len_wl hx
  refine upInd ?_ ?_
  · intro out hl ht
    refine EvP.succ ?_
    simp only [laws_toMarkS.l0]
    refine EvP.neg (by omega) (EvP.ret _ ?_)
    rw [List.take_of_length_le (by omega), List.take_of_length_le (by omega)] at ht
    exact ht
  · intro i hi ih out hl ht
    refine EvP.succ ?_
    simp only [laws_toMarkS.l0]
    have e : rd_T67 xs (i : Int) = xs[i] := getDn hi
    rw [e, w64s hi (by omega), Int.toNat_natCast]
    have hm := mem_wl (f := wMark) (List.getElem_mem hi)
    have hw : wMark xs[i] = xs[i].f0.size + wl (fun _ : Int => 0) xs[i].f1 := rfl
    refine EvP.pos (by omega) (EvP.pos (by omega) (EvP.bind (ev_laws_toMark xs[i].f0 xs[i].f1 (by omega)) (fun t ht2 => ?_)))
    subst ht2
    exact EvP.pos (by omega) (ih _ (by simpa using hl) (take_step (c := cMark) hi hl ht))
theorem ev_laws_toMarkS (xs : List (S67)) (hx : wl wMark xs ≤ 1048576) : EvP (fun k => laws_toMarkS.f k xs) (· = (xs.map cMark)) := by
  have hn := Nat.le_trans len_wl hx
  unfold laws_toMarkS.f
  refine EvP.pos (by omega) (EvP.pos (by rw [Int.toNat_natCast]; omega) ?_)
  refine (ev_laws_toMarkS_l0 xs hx 0 (by omega) _ (by simp) rfl).mono (fun r hr => ?_)
  rw [hr]

theorem ev_laws_toShape (l0 : List (S67)) (l1 : List (S67)) (hl0 : wl wMark l0 ≤ 1048576) (hl1 : wl wMark l1 ≤ 1048576) : EvP (fun k => laws_toShape.f k l0 l1) (· = ((l0.map cMark), (l1.map cMark))) := by
  unfold laws_toShape.f
  refine EvP.bind (ev_laws_toMarkS l0 hl0) (fun tl0 htl0 => ?_)
  subst htl0
  refine EvP.bind (ev_laws_toMarkS l1 hl1) (fun tl1 htl1 => ?_)
  subst htl1
  exact EvP.ret _ rfl

def qMarkS (xs : List (S69)) : Prop := xs.length ≤ 9223372036854775807 ∧ ∀ x ∈ xs, qMark x

theorem ev_laws_eqMarkS_l0 (xs : List (S69)) (hx : qMarkS xs) : ∀ i, i ≤ xs.length → EvP (fun k => laws_eqMarkS.l0 k xs xs i) (· = true) := by
  refine upInd ?_ ?_
  · refine EvP.succ ?_
    simp only [laws_eqMarkS.l0]
    exact EvP.neg (by omega) (EvP.ret _ rfl)
  · intro i hi ih
    refine EvP.succ ?_
    simp only [laws_eqMarkS.l0]
    rw [w64s hi hx.1]
    have e : rd_T69 xs (i : Int) = xs[i] := getDn hi
    have hb := hx.2 _ (List.getElem_mem hi)
    rw [e]
    refine EvP.pos (by omega) (EvP.pos (by omega) (EvP.pos (by omega) (EvP.bind (ev_laws_eqMark xs[i].f0 xs[i].f1 hb) (fun t ht => ?_))))
    subst ht
    exact EvP.pos (by trivial) ih
theorem ev_laws_eqMarkS (xs : List (S69)) (hx : qMarkS xs) : EvP (fun k => laws_eqMarkS.f k xs xs) (· = true) := by
  unfold laws_eqMarkS.f
  exact EvP.pos (by trivial) (ev_laws_eqMarkS_l0 xs hx 0 (by omega))

theorem ev_laws_eqShape (l0 : List (S69)) (l1 : List (S69)) (hl0 : qMarkS l0) (hl1 : qMarkS l1) : EvP (fun k => laws_eqShape.f k l0 l1 l0 l1) (· = true) := by
  unfold laws_eqShape.f
  refine EvP.bind (ev_laws_eqMarkS l0 hl0) (fun tl0 htl0 => ?_)
  subst htl0
  refine EvP.pos (by trivial) ?_
  refine EvP.bind (ev_laws_eqMarkS l1 hl1) (fun tl1 htl1 => ?_)
  subst htl1
  refine EvP.pos (by trivial) ?_
  exact EvP.ret _ rfl

theorem list_size (s : ByteArray) : s.toList.length = s.size := by
  rw [ByteArray.toList_eq, Array.length_toList]
  rfl

def isRef (s : ByteArray) : Bool := decide (0 < s.size) && (bt s 0 == 38 || bt s 0 == 33)

def strip (s : ByteArray) : ByteArray := if isRef s = true then s.extract 1 s.size else s

def sgn (s : ByteArray) : ByteArray := if isRef s = true then s.extract 0 1 else (⟨#[]⟩ : ByteArray)

theorem eq_impl_signOf (s : ByteArray) : impl_signOf.f s = some (sgn s, strip s) := by
  unfold impl_signOf.f sgn strip isRef
  have hs := list_size s
  by_cases h0 : s.toList = []
  · rw [if_pos h0]
    rw [h0] at hs
    have : ¬ 0 < s.size := by simp at hs; omega
    simp [this]
  · rw [if_neg h0]
    have h1 : 0 < s.size := by
      rcases Nat.eq_zero_or_pos s.size with h | h
      · rw [h] at hs
        exact absurd (List.eq_nil_of_length_eq_zero hs) h0
      · exact h
    rw [if_pos (by omega)]
    by_cases h2 : bt s 0 = 38
    · rw [if_pos h2, if_pos (by omega), if_pos (by omega)]
      simp [h1, h2]
    · rw [if_neg h2]
      by_cases h3 : bt s 0 = 33
      · rw [if_pos h3, if_pos (by omega), if_pos (by omega)]
        simp [h1, h3]
      · rw [if_neg h3]
        simp [h2, h3]

theorem eq_spec_l1RefR (s : ByteArray) : spec_l1Ref.f s = some (isRef s) := by
  unfold spec_l1Ref.f isRef
  by_cases h : 0 < s.size
  · rw [if_pos (by omega), if_pos (by omega)]
    by_cases h2 : bt s 0 = 38
    · rw [if_pos h2]
      simp [h, h2]
    · rw [if_neg h2]
      simp [h, h2]
  · rw [if_neg (by omega)]
    simp [h]

theorem first_byte {s : ByteArray} (h : 0 < s.size) (c : UInt8) : (s.extract 0 1).toList = [c] ↔ bt s 0 = (c.toNat : Int) := by
  have h0 : (0 : Int).toNat < s.size := h
  have e : (s.extract 0 1).toList = [s[(0 : Int).toNat]'h0] := by
    rw [ByteArray.toList_eq, ByteArray.data_extract]
    apply List.ext_getElem
    · have : s.data.size = s.size := rfl
      simp
      omega
    · intro i h1 h2
      have hi : i = 0 := by simpa using h2
      subst hi
      simp
      rfl
  rw [e]
  unfold bt
  rw [dif_pos h0]
  constructor
  · intro h
    injection h with h
    rw [h]
  · intro h
    have : s[(0 : Int).toNat]'h0 = c := by
      apply UInt8.toNat_inj.1
      exact_mod_cast h
    rw [this]

theorem ev_spec_l4In (l : List Int) (x : Int) (hl : l.length ≤ 9223372036854775807) : EvP (fun k => spec_l4In.f k l x) (· = l.contains x) := by
  have key : ∀ i, i ≤ l.length → EvP (fun k => spec_l4In.l0 k l x i) (· = (l.drop i).contains x) := by
    refine upInd ?_ ?_
    · refine EvP.succ ?_
      simp only [spec_l4In.l0]
      exact EvP.neg (by omega) (EvP.ret _ (by simp))
    · intro i hi ih
      refine EvP.succ ?_
      simp only [spec_l4In.l0]
      have e : rd l (i : Int) = l[i] := getDn hi
      rw [e, w64s hi hl]
      refine EvP.pos (by omega) (EvP.pos (by omega) (EvP.ite (fun hc => EvP.ret _ ?_) (fun hc => ih.mono (fun r hr => ?_))))
      · have hc' : (x == l[i]) = true := beq_iff_eq.2 hc.symm
        rw [List.drop_eq_getElem_cons hi, List.contains_cons, hc', Bool.true_or]
      · have hc' : (x == l[i]) = false := beq_eq_false_iff_ne.2 (fun h => hc h.symm)
        rw [hr, List.drop_eq_getElem_cons hi, List.contains_cons, hc', Bool.false_or]
  unfold spec_l4In.f
  exact (key 0 (by omega)).mono (fun r hr => by simpa using hr)

theorem hit_eq (x : Int) (wr : Bool) (m : S69) : ownHit x wr m = (isRef m.f0 && (m.f1.contains x && (bt m.f0 0 == 33 || !wr))) := by
  unfold ownHit
  rw [eq_impl_signOf]
  show (((sgn m.f0).toList != []) && (((sgn m.f0).toList == [33]) || !wr) && m.f1.contains x) = _
  cases hr : isRef m.f0 with
  | true =>
    have h0 : 0 < m.f0.size := by
      unfold isRef at hr
      simp at hr
      exact hr.1
    have e : sgn m.f0 = m.f0.extract 0 1 := by unfold sgn; rw [if_pos hr]
    have e1 := first_byte h0 33
    have k1 : ((33 : UInt8).toNat : Int) = 33 := rfl
    rw [k1] at e1
    rw [e]
    have hne : ((m.f0.extract 0 1).toList != []) = true := by
      rw [bne_iff_ne]
      intro h
      have h2 := list_size (m.f0.extract 0 1)
      rw [h] at h2
      simp at h2
      omega
    rw [hne]
    by_cases hb : bt m.f0 0 = 33
    · have h1 : ((m.f0.extract 0 1).toList == [33]) = true := beq_iff_eq.2 (e1.2 hb)
      rw [h1]
      simp [hb]
    · have h1 : ((m.f0.extract 0 1).toList == [33]) = false := beq_eq_false_iff_ne.2 (fun h => hb (e1.1 h))
      have h2 : (bt m.f0 0 == 33) = false := beq_eq_false_iff_ne.2 hb
      rw [h1, h2]
      cases wr <;> simp
  | false =>
    have e : sgn m.f0 = (⟨#[]⟩ : ByteArray) := by unfold sgn; rw [hr]; rfl
    rw [e]
    have : ((⟨#[]⟩ : ByteArray).toList != []) = false := by
      rw [ByteArray.toList_eq]
      rfl
    rw [this]
    rfl

theorem ev_spec_l5Lent (l : List S69) (x : Int) (wr : Bool) (hl : qMarkS l) : EvP (fun k => spec_l5Lent.f k l x wr) (· = l.any (ownHit x wr)) := by
  have key : ∀ i, i ≤ l.length → EvP (fun k => spec_l5Lent.l0 k l x wr i) (· = (l.drop i).any (ownHit x wr)) := by
    refine upInd ?_ ?_
    · refine EvP.succ ?_
      simp only [spec_l5Lent.l0]
      exact EvP.neg (by omega) (EvP.ret _ (by simp))
    · intro i hi ih
      refine EvP.succ ?_
      simp only [spec_l5Lent.l0]
      have e : rd_T69 l (i : Int) = l[i] := getDn hi
      have hb : qMark l[i] := hl.2 _ (List.getElem_mem hi)
      rw [e, w64s hi hl.1, List.drop_eq_getElem_cons hi]
      generalize l[i] = m at hb
      have next : ownHit x wr m = false → EvP (fun k => spec_l5Lent.l0 k l x wr ((i + 1 : Nat) : Int)) (· = (m :: l.drop (i + 1)).any (ownHit x wr)) := fun hf => ih.mono (fun r hr => by rw [hr, List.any_cons, hf, Bool.false_or])
      have here : ownHit x wr m = true → true = (m :: l.drop (i + 1)).any (ownHit x wr) := fun hf => by rw [List.any_cons, hf, Bool.true_or]
      rw [hit_eq] at next here
      refine EvP.pos (by omega) (EvP.pos (by omega) (EvP.call (eq_spec_l1RefR _) (EvP.ite (fun h1 => ?_) (fun h1 => next ?_))))
      · refine EvP.bind (ev_spec_l4In _ x hb) (fun t ht => ?_)
        subst ht
        refine EvP.ite (fun h2 => ?_) (fun h2 => next ?_)
        · refine EvP.ite (fun h4 => EvP.pos ?_ (EvP.ite (fun h3 => EvP.ret _ (here ?_)) (fun h3 => next ?_))) (fun h4 => EvP.ret _ (here ?_))
          · unfold isRef at h1
            simp at h1
            omega
          · rw [h1, h2, h3]
            rfl
          · have h5 : (bt m.f0 0 == 33) = false := beq_eq_false_iff_ne.2 h3
            rw [h5, h4]
            simp
          · rw [Bool.not_eq_true] at h4
            rw [h1, h2, h4]
            simp
        · rw [Bool.not_eq_true] at h2
          rw [h2]
          simp
      · rw [Bool.not_eq_true] at h1
        rw [h1]
        simp
  unfold spec_l5Lent.f
  exact (key 0 (by omega)).mono (fun r hr => by simpa using hr)

theorem alive_eq (l0 l1 : List S69) (x : Int) (wr : Bool) : impl_Shape_alive.f l0 l1 x wr = some (l0.any (ownHit x wr) || l1.any (ownHit x wr)) := by
  unfold impl_Shape_alive.f
  rw [if_pos ⟨fun m _ => by rw [eq_impl_signOf]; rfl, fun m _ => by rw [eq_impl_signOf]; rfl⟩]
  rfl

theorem qMark_c {xs : List S67} (h : wl wMark xs ≤ 1048576) : qMarkS (xs.map cMark) := by
  have hn := Nat.le_trans len_wl h
  refine ⟨by simp; omega, fun x hx => ?_⟩
  obtain ⟨y, hy, rfl⟩ := List.mem_map.1 hx
  have := mem_wl (f := wMark) hy
  have e : wMark y = y.f0.size + wl (fun _ : Int => 0) y.f1 := rfl
  have h2 := len_wl (f := fun _ : Int => 0) (xs := y.f1)
  show y.f1.length ≤ _
  omega

theorem FnExactShapeWritten (l0 l1 : List S67) (x : Int) (g : gL gMark l0 ∧ gL gMark l1) (hx : gInt x) : ∃ k, laws_FnExactShapeWritten.f k l0 l1 x = some true := by
  refine EvP.rounds ?_
  unfold laws_FnExactShapeWritten.f
  refine EvP.bind (ev_laws_szShape l0 l1 g.1 g.2 1048576 (by omega) (by omega)) (fun t ht => EvP.ite (fun _ => EvP.ret _ rfl) (fun hc => ?_))
  have ht := ht (by omega)
  have w0 : wl wMark l0 ≤ 1048576 := by omega
  have w1 : wl wMark l1 ≤ 1048576 := by omega
  refine EvP.bind (ev_laws_toShape l0 l1 w0 w1) (fun t1 h1 => ?_)
  subst h1
  have hs : EvP (fun k => spec_ShapeWritten.f k (l0.map cMark) (l1.map cMark) x) (· = ((l0.map cMark).any (ownHit x true) || (l1.map cMark).any (ownHit x true))) := by
    unfold spec_ShapeWritten.f
    refine EvP.bind (ev_spec_l5Lent _ x true (qMark_c w0)) (fun t h => ?_)
    subst h
    refine EvP.ite (fun h => EvP.ret _ (by rw [h]; rfl)) (fun h => EvP.bind (ev_spec_l5Lent _ x true (qMark_c w1)) (fun t h' => ?_))
    subst h'
    rw [Bool.not_eq_true] at h
    exact EvP.ret _ (by rw [h]; rfl)
  refine EvP.bind hs (fun t2 h2 => ?_)
  subst h2
  refine EvP.bind (ev_laws_toShape l0 l1 w0 w1) (fun t3 h3 => ?_)
  subst h3
  have hi : impl_ShapeWritten.f (l0.map cMark) (l1.map cMark) x = some ((l0.map cMark).any (ownHit x true) || (l1.map cMark).any (ownHit x true)) := by
    unfold impl_ShapeWritten.f
    rw [alive_eq]
    rfl
  refine EvP.call hi ?_
  refine EvP.neg (by simp) ?_
  refine EvP.bind (ev_laws_toShape l0 l1 w0 w1) (fun t4 h4 => ?_)
  subst h4
  refine EvP.bind (ev_laws_eqShape _ _ (qMark_c w0) (qMark_c w1)) (fun t5 h5 => ?_)
  subst h5
  exact EvP.pos (by trivial) (EvP.ret _ rfl)


end Go.Proofs.Ytkdkmpbdpniccaa.Pure
