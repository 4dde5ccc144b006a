/- What the functions of the law FnExactShelfFunc come to, in plain lists, for every shelf within the bounds of the reading and every two numbers. -/
import Derived.Test.YtcdamcfklehedaaOFnExactShelfFuncx1
import Derived.Test.YtcdamcfklehedaaOFnExactShelfFuncx2
import Derived.Test.YtcdamcfklehedaaOFnExactShelfFuncx3
import Derived.Test.YtcdamcfklehedaaBase
namespace Go.Proofs.Ytcdamcfklehedaa.Pure
open Go.RowKit Go.Proofs.Ytcdamcfklehedaa.OFnExactShelfFunc Go.Proofs.YtcdamcfklehedaaW.PrintWords Go.Proofs.YtcdamcfklehedaaW.PrintLast Go.Proofs.YtcdamcfklehedaaW.PrintMore Go.Proofs.Ytcdamcfklehedaa.Base
set_option linter.unusedVariables false
set_option linter.unusedSimpArgs false

theorem take_step {α β : Type} {c : α → β} {xs : List α} {out : List β} {i : Nat} (hi : i < xs.length) (hl : out.length = xs.length) (h : out.take i = (xs.take i).map c) : (out.set i (c xs[i])).take (i + 1) = (xs.take (i + 1)).map c := by
  rw [take_set_succ (by omega), h, List.take_succ_eq_append_getElem hi, List.map_append]
  rfl


def gRecord (x : S87) : Prop := gInt x.f0 ∧ (gL gStr) x.f1

def wRecord (x : S87) : Nat := wl ByteArray.size x.f1

def cRecord (x : S87) : S60 := ⟨x.f0, x.f1⟩

theorem ev_laws_szStringS_l0 (xs : List ByteArray) (hx : gL gStr xs) : ∀ i, i ≤ xs.length → ∀ a : Int, 0 ≤ a → a ≤ 1048576 → EvP (fun k => laws_szStringS.l0 k xs a i) (fun r => 0 ≤ r → r = a - ((((xs.drop i).map ByteArray.size).sum : Nat) : Int)) := by
  refine upInd ?_ ?_
  · intro a h0 h1
    refine EvP.succ ?_
    simp only [laws_szStringS.l0]
    exact EvP.neg (by omega) (EvP.ret _ (fun _ => by simp))
  · intro i hi ih a h0 h1
    refine EvP.succ ?_
    simp only [laws_szStringS.l0]
    have e : rdOf ByteArray.empty xs (i : Int) = xs[i] := getDn hi
    have hb := hx.2 _ (List.getElem_mem hi)
    unfold gStr at hb
    rw [e, w64s hi hx.1, w64 (n := a - (xs[i].size : Int)) (by omega) (by omega)]
    refine EvP.pos (by omega) (EvP.pos (by omega) (EvP.ite (fun hc => EvP.ret _ (fun h => absurd h (by omega))) (fun hc => ?_)))
    refine (ih _ (by omega) (by omega)).mono (fun r hr h => ?_)
    rw [hr h, List.drop_eq_getElem_cons hi]
    simp only [List.map_cons, List.sum_cons]
    omega
theorem ev_laws_szStringS (xs : List ByteArray) (hx : gL gStr xs) (a : Int) (h0 : 0 ≤ a) (h1 : a ≤ 1048576) : EvP (fun k => laws_szStringS.f k xs a) (fun r => 0 ≤ r → r = a - ((wl ByteArray.size xs : Nat) : Int)) := by
  have h2 := hx.1
  unfold laws_szStringS.f
  rw [w64 (by omega) (by omega)]
  refine EvP.ite (fun hc => EvP.ret _ (fun h => absurd h (by omega))) (fun hc => ?_)
  refine (ev_laws_szStringS_l0 xs hx 0 (by omega) _ (by omega) (by omega)).mono (fun r hr h => ?_)
  rw [hr h]
  simp only [List.drop_zero]
  unfold wl
  omega

theorem ev_laws_szRecord (a0 : Int) (l1 : List ByteArray) (hl1 : (gL gStr) l1) (a : Int) (h0 : 0 ≤ a) (h1 : a ≤ 1048576) : EvP (fun k => laws_szRecord.f k a0 l1 a) (fun r => 0 ≤ r → r = a - ((wl ByteArray.size l1 : Nat) : Int)) := by
  unfold laws_szRecord.f
  refine EvP.bind (ev_laws_szStringS l1 hl1 a (by omega) (by omega)) (fun tl1 htl1 => EvP.ite (fun hc => EvP.ret _ (fun h => absurd h (by omega))) (fun hc => ?_))
  have htl1 := htl1 (by omega)
  exact EvP.ret _ (fun _ => by omega)

theorem ev_laws_toStringS_l0 (xs : List ByteArray) (hx : wl ByteArray.size xs ≤ 1048576) : ∀ i, i ≤ xs.length → ∀ out : List ByteArray, out.length = xs.length → out.take i = (xs.take i).map id → EvP (fun k => laws_toStringS.l0 k xs out i) (· = xs.map id) := by
  have hn := Nat.le_trans len_wl hx
  refine upInd ?_ ?_
  · intro out hl ht
    refine EvP.succ ?_
    simp only [laws_toStringS.l0]
    refine EvP.neg (by omega) (EvP.ret _ ?_)
    rw [List.take_of_length_le (by omega), List.take_of_length_le (by omega)] at ht
    exact ht
  · intro i hi ih out hl ht
    refine EvP.succ ?_
    simp only [laws_toStringS.l0]
    have e : rdOf ByteArray.empty xs (i : Int) = xs[i] := getDn hi
    rw [e, w64s hi (by omega), Int.toNat_natCast]
    exact EvP.pos (by omega) (EvP.pos (by omega) (EvP.pos (by omega) (ih _ (by simpa using hl) (take_step (c := id) hi hl ht))))
theorem ev_laws_toStringS (xs : List ByteArray) (hx : wl ByteArray.size xs ≤ 1048576) : EvP (fun k => laws_toStringS.f k xs) (· = xs) := by
  have hn := Nat.le_trans len_wl hx
  unfold laws_toStringS.f
  refine EvP.pos (by omega) (EvP.pos (by rw [Int.toNat_natCast]; omega) ?_)
  refine (ev_laws_toStringS_l0 xs hx 0 (by omega) _ (by simp) rfl).mono (fun r hr => ?_)
  rw [hr]
  first | rfl | simp

theorem ev_laws_toRecord (a0 : Int) (l1 : List ByteArray) (hl1 : wl ByteArray.size l1 ≤ 1048576) : EvP (fun k => laws_toRecord.f k a0 l1) (· = (a0, l1)) := by
  unfold laws_toRecord.f
  refine EvP.bind (ev_laws_toStringS l1 hl1) (fun tl1 htl1 => ?_)
  subst htl1
  exact EvP.ret _ rfl

def qStringS (xs : List ByteArray) : Prop := xs.length ≤ 9223372036854775807

def qRecord (x : S60) : Prop := qStringS x.f1

theorem ev_laws_eqStringS_l0 (xs : List ByteArray) (hx : qStringS xs) : ∀ i, i ≤ xs.length → EvP (fun k => laws_eqStringS.l0 k xs xs i) (· = true) := by
  refine upInd ?_ ?_
  · refine EvP.succ ?_
    simp only [laws_eqStringS.l0]
    exact EvP.neg (by omega) (EvP.ret _ rfl)
  · intro i hi ih
    refine EvP.succ ?_
    simp only [laws_eqStringS.l0]
    rw [w64s hi hx]
    exact EvP.pos (by omega) (EvP.pos (by omega) (EvP.pos (by omega) (EvP.pos (by trivial) ih)))
theorem ev_laws_eqStringS (xs : List ByteArray) (hx : qStringS xs) : EvP (fun k => laws_eqStringS.f k xs xs) (· = true) := by
  unfold laws_eqStringS.f
  exact EvP.pos (by trivial) (ev_laws_eqStringS_l0 xs hx 0 (by omega))

theorem ev_laws_eqRecord (a0 : Int) (l1 : List ByteArray) (hl1 : qStringS l1) : EvP (fun k => laws_eqRecord.f k a0 l1 a0 l1) (· = true) := by
  unfold laws_eqRecord.f
  refine EvP.pos (by trivial) ?_
  refine EvP.bind (ev_laws_eqStringS l1 hl1) (fun tl1 htl1 => ?_)
  subst htl1
  refine EvP.pos (by trivial) ?_
  exact EvP.ret _ rfl

def gIns (x : S98) : Prop := gStr x.f0 ∧ gInt x.f1 ∧ gInt x.f2

def wIns (x : S98) : Nat := x.f0.size

def cIns (x : S98) : S83 := ⟨x.f0, x.f1, x.f2⟩

theorem ev_laws_szIns (s0 : ByteArray) (a1 : Int) (a2 : Int) (hs0 : gStr s0) (a : Int) (h0 : 0 ≤ a) (h1 : a ≤ 1048576) : EvP (fun _ => laws_szIns.f s0 a1 a2 a) (fun r => 0 ≤ r → r = a - ((s0.size : Nat) : Int)) := by
  unfold laws_szIns.f
  unfold gStr at hs0
  rw [w64 (n := a - (s0.size : Int)) (by omega) (by omega)]
  refine EvP.ite (fun hc => EvP.ret _ (fun h => absurd h (by omega))) (fun hc => ?_)
  obtain ⟨ts0, hts0⟩ : ∃ t : Int, t = a - (s0.size : Int) := ⟨_, rfl⟩
  rw [← hts0] at hc ⊢
  exact EvP.ret _ (fun _ => by omega)

theorem ev_laws_toIns (s0 : ByteArray) (a1 : Int) (a2 : Int)  : EvP (fun _ => laws_toIns.f s0 a1 a2) (· = (s0, a1, a2)) := by
  unfold laws_toIns.f
  exact EvP.ret _ rfl

def qIns (x : S83) : Prop := True

theorem ev_laws_eqIns (s0 : ByteArray) (a1 : Int) (a2 : Int)  : EvP (fun _ => laws_eqIns.f s0 a1 a2 s0 a1 a2) (· = true) := by
  unfold laws_eqIns.f
  refine EvP.pos (by trivial) ?_
  refine EvP.pos (by trivial) ?_
  refine EvP.pos (by trivial) ?_
  exact EvP.ret _ rfl

def gFunc (x : S91) : Prop := gInt x.f0 ∧ (gL gStr) x.f1 ∧ (gL gStr) x.f2 ∧ (gL gStr) x.f3 ∧ (gL gInt) x.f4 ∧ (gL gIns) x.f5

def wFunc (x : S91) : Nat := wl ByteArray.size x.f1 + wl ByteArray.size x.f2 + wl ByteArray.size x.f3 + wl (fun _ : Int => 0) x.f4 + wl wIns x.f5

def cFunc (x : S91) : S39 := ⟨x.f0, x.f1, x.f2, x.f3, x.f4, (x.f5.map cIns)⟩

theorem ev_laws_szIntS (xs : List Int) (hx : gL gInt xs) (a : Int) (h0 : 0 ≤ a) (h1 : a ≤ 1048576) : EvP (fun _ => laws_szIntS.f xs a) (fun r => 0 ≤ r → r = a - ((wl (fun _ : Int => 0) xs : Nat) : Int)) := by
  have h2 := hx.1
  unfold laws_szIntS.f
  rw [w64 (by omega) (by omega)]
  refine EvP.ite (fun hc => EvP.ret _ (fun h => absurd h (by omega))) (fun hc => EvP.ret _ (fun _ => ?_))
  unfold wl
  have := sum_map_zero xs
  omega

theorem ev_laws_szInsS_l0 (xs : List (S98)) (hx : gL gIns xs) : ∀ i, i ≤ xs.length → ∀ a : Int, 0 ≤ a → a ≤ 1048576 → EvP (fun k => laws_szInsS.l0 k xs a i) (fun r => 0 ≤ r → r = a - ((((xs.drop i).map wIns).sum : Nat) : Int)) := by
  refine upInd ?_ ?_
  · intro a h0 h1
    refine EvP.succ ?_
    simp only [laws_szInsS.l0]
    exact EvP.neg (by omega) (EvP.ret _ (fun _ => by simp))
  · intro i hi ih a h0 h1
    refine EvP.succ ?_
    simp only [laws_szInsS.l0]
    have e : rd_T98 xs (i : Int) = xs[i] := getDn hi
    have hb := hx.2 _ (List.getElem_mem hi)
    rw [e, w64s hi hx.1]
    refine EvP.pos (by omega) (EvP.pos (by omega) (EvP.bind (ev_laws_szIns xs[i].f0 xs[i].f1 xs[i].f2 hb.1 a h0 h1) (fun t ht => EvP.ite (fun hc => EvP.ret _ (fun h => absurd h (by omega))) (fun hc => ?_))))
    have ht := ht (by omega)
    refine (ih _ (by omega) (by omega)).mono (fun r hr h => ?_)
    have hw : wIns xs[i] = xs[i].f0.size := rfl
    rw [hr h, List.drop_eq_getElem_cons hi]
    simp only [List.map_cons, List.sum_cons]
    omega
theorem ev_laws_szInsS (xs : List (S98)) (hx : gL gIns xs) (a : Int) (h0 : 0 ≤ a) (h1 : a ≤ 1048576) : EvP (fun k => laws_szInsS.f k xs a) (fun r => 0 ≤ r → r = a - ((wl wIns xs : Nat) : Int)) := by
  have h2 := hx.1
  unfold laws_szInsS.f
  rw [w64 (by omega) (by omega)]
  refine EvP.ite (fun hc => EvP.ret _ (fun h => absurd h (by omega))) (fun hc => ?_)
  refine (ev_laws_szInsS_l0 xs hx 0 (by omega) _ (by omega) (by omega)).mono (fun r hr h => ?_)
  rw [hr h]
  simp only [List.drop_zero]
  unfold wl
  omega

theorem ev_laws_szFunc (a0 : Int) (l1 : List ByteArray) (l2 : List ByteArray) (l3 : List ByteArray) (l4 : List Int) (l5 : List (S98)) (hl1 : (gL gStr) l1) (hl2 : (gL gStr) l2) (hl3 : (gL gStr) l3) (hl4 : (gL gInt) l4) (hl5 : (gL gIns) l5) (a : Int) (h0 : 0 ≤ a) (h1 : a ≤ 1048576) : EvP (fun k => laws_szFunc.f k a0 l1 l2 l3 l4 l5 a) (fun r => 0 ≤ r → r = a - ((wl ByteArray.size l1 + wl ByteArray.size l2 + wl ByteArray.size l3 + wl (fun _ : Int => 0) l4 + wl wIns l5 : Nat) : Int)) := by
  unfold laws_szFunc.f
  refine EvP.bind (ev_laws_szStringS l1 hl1 a (by omega) (by omega)) (fun tl1 htl1 => EvP.ite (fun hc => EvP.ret _ (fun h => absurd h (by omega))) (fun hc => ?_))
  have htl1 := htl1 (by omega)
  refine EvP.bind (ev_laws_szStringS l2 hl2 tl1 (by omega) (by omega)) (fun tl2 htl2 => EvP.ite (fun hc => EvP.ret _ (fun h => absurd h (by omega))) (fun hc => ?_))
  have htl2 := htl2 (by omega)
  refine EvP.bind (ev_laws_szStringS l3 hl3 tl2 (by omega) (by omega)) (fun tl3 htl3 => EvP.ite (fun hc => EvP.ret _ (fun h => absurd h (by omega))) (fun hc => ?_))
  have htl3 := htl3 (by omega)
  refine EvP.bind (ev_laws_szIntS l4 hl4 tl3 (by omega) (by omega)) (fun tl4 htl4 => EvP.ite (fun hc => EvP.ret _ (fun h => absurd h (by omega))) (fun hc => ?_))
  have htl4 := htl4 (by omega)
  refine EvP.bind (ev_laws_szInsS l5 hl5 tl4 (by omega) (by omega)) (fun tl5 htl5 => EvP.ite (fun hc => EvP.ret _ (fun h => absurd h (by omega))) (fun hc => ?_))
  have htl5 := htl5 (by omega)
  exact EvP.ret _ (fun _ => by omega)

theorem ev_laws_toIntS_l0 (xs : List Int) (hx : wl (fun _ : Int => 0) xs ≤ 1048576) : ∀ i, i ≤ xs.length → ∀ out : List Int, out.length = xs.length → out.take i = (xs.take i).map id → EvP (fun k => laws_toIntS.l0 k xs out i) (· = xs.map id) := by
  have hn := Nat.le_trans len_wl hx
  refine upInd ?_ ?_
  · intro out hl ht
    refine EvP.succ ?_
    simp only [laws_toIntS.l0]
    refine EvP.neg (by omega) (EvP.ret _ ?_)
    rw [List.take_of_length_le (by omega), List.take_of_length_le (by omega)] at ht
    exact ht
  · intro i hi ih out hl ht
    refine EvP.succ ?_
    simp only [laws_toIntS.l0]
    have e : rd xs (i : Int) = xs[i] := getDn hi
    rw [e, w64s hi (by omega), Int.toNat_natCast]
    exact EvP.pos (by omega) (EvP.pos (by omega) (EvP.pos (by omega) (ih _ (by simpa using hl) (take_step (c := id) hi hl ht))))
theorem ev_laws_toIntS (xs : List Int) (hx : wl (fun _ : Int => 0) xs ≤ 1048576) : EvP (fun k => laws_toIntS.f k xs) (· = xs) := by
  have hn := Nat.le_trans len_wl hx
  unfold laws_toIntS.f
  refine EvP.pos (by omega) (EvP.pos (by rw [Int.toNat_natCast]; omega) ?_)
  refine (ev_laws_toIntS_l0 xs hx 0 (by omega) _ (by simp) rfl).mono (fun r hr => ?_)
  rw [hr]
  first | rfl | simp

theorem ev_laws_toInsS_l0 (xs : List (S98)) (hx : wl wIns xs ≤ 1048576) : ∀ i, i ≤ xs.length → ∀ out : List (S83), out.length = xs.length → out.take i = (xs.take i).map cIns → EvP (fun k => laws_toInsS.l0 k xs out i) (· = xs.map cIns) := by
  have hn := Nat.le_trans len_wl hx
  refine upInd ?_ ?_
  · intro out hl ht
    refine EvP.succ ?_
    simp only [laws_toInsS.l0]
    refine EvP.neg (by omega) (EvP.ret _ ?_)
    rw [List.take_of_length_le (by omega), List.take_of_length_le (by omega)] at ht
    exact ht
  · intro i hi ih out hl ht
    refine EvP.succ ?_
    simp only [laws_toInsS.l0]
    have e : rd_T98 xs (i : Int) = xs[i] := getDn hi
    rw [e, w64s hi (by omega), Int.toNat_natCast]
    have hm := mem_wl (f := wIns) (List.getElem_mem hi)
    have hw : wIns xs[i] = xs[i].f0.size := rfl
    refine EvP.pos (by omega) (EvP.pos (by omega) (EvP.bind (ev_laws_toIns xs[i].f0 xs[i].f1 xs[i].f2 ) (fun t ht2 => ?_)))
    subst ht2
    exact EvP.pos (by omega) (ih _ (by simpa using hl) (take_step (c := cIns) hi hl ht))
theorem ev_laws_toInsS (xs : List (S98)) (hx : wl wIns xs ≤ 1048576) : EvP (fun k => laws_toInsS.f k xs) (· = (xs.map cIns)) := by
  have hn := Nat.le_trans len_wl hx
  unfold laws_toInsS.f
  refine EvP.pos (by omega) (EvP.pos (by rw [Int.toNat_natCast]; omega) ?_)
  refine (ev_laws_toInsS_l0 xs hx 0 (by omega) _ (by simp) rfl).mono (fun r hr => ?_)
  rw [hr]

theorem ev_laws_toFunc (a0 : Int) (l1 : List ByteArray) (l2 : List ByteArray) (l3 : List ByteArray) (l4 : List Int) (l5 : List (S98)) (hl1 : wl ByteArray.size l1 ≤ 1048576) (hl2 : wl ByteArray.size l2 ≤ 1048576) (hl3 : wl ByteArray.size l3 ≤ 1048576) (hl4 : wl (fun _ : Int => 0) l4 ≤ 1048576) (hl5 : wl wIns l5 ≤ 1048576) : EvP (fun k => laws_toFunc.f k a0 l1 l2 l3 l4 l5) (· = (a0, l1, l2, l3, l4, (l5.map cIns))) := by
  unfold laws_toFunc.f
  refine EvP.bind (ev_laws_toStringS l1 hl1) (fun tl1 htl1 => ?_)
  subst htl1
  refine EvP.bind (ev_laws_toStringS l2 hl2) (fun tl2 htl2 => ?_)
  subst htl2
  refine EvP.bind (ev_laws_toStringS l3 hl3) (fun tl3 htl3 => ?_)
  subst htl3
  refine EvP.bind (ev_laws_toIntS l4 hl4) (fun tl4 htl4 => ?_)
  subst htl4
  refine EvP.bind (ev_laws_toInsS l5 hl5) (fun tl5 htl5 => ?_)
  subst htl5
  exact EvP.ret _ rfl

def qIntS (xs : List Int) : Prop := xs.length ≤ 9223372036854775807

def qInsS (xs : List (S83)) : Prop := xs.length ≤ 9223372036854775807 ∧ ∀ x ∈ xs, qIns x

def qFunc (x : S39) : Prop := qStringS x.f1 ∧ qStringS x.f2 ∧ qStringS x.f3 ∧ qIntS x.f4 ∧ qInsS x.f5

theorem ev_laws_eqIntS_l0 (xs : List Int) (hx : qIntS xs) : ∀ i, i ≤ xs.length → EvP (fun k => laws_eqIntS.l0 k xs xs i) (· = true) := by
  refine upInd ?_ ?_
  · refine EvP.succ ?_
    simp only [laws_eqIntS.l0]
    exact EvP.neg (by omega) (EvP.ret _ rfl)
  · intro i hi ih
    refine EvP.succ ?_
    simp only [laws_eqIntS.l0]
    rw [w64s hi hx]
    exact EvP.pos (by omega) (EvP.pos (by omega) (EvP.pos (by omega) (EvP.pos (by trivial) ih)))
theorem ev_laws_eqIntS (xs : List Int) (hx : qIntS xs) : EvP (fun k => laws_eqIntS.f k xs xs) (· = true) := by
  unfold laws_eqIntS.f
  exact EvP.pos (by trivial) (ev_laws_eqIntS_l0 xs hx 0 (by omega))

theorem ev_laws_eqInsS_l0 (xs : List (S83)) (hx : qInsS xs) : ∀ i, i ≤ xs.length → EvP (fun k => laws_eqInsS.l0 k xs xs i) (· = true) := by
  refine upInd ?_ ?_
  · refine EvP.succ ?_
    simp only [laws_eqInsS.l0]
    exact EvP.neg (by omega) (EvP.ret _ rfl)
  · intro i hi ih
    refine EvP.succ ?_
    simp only [laws_eqInsS.l0]
    rw [w64s hi hx.1]
    have e : rd_T83 xs (i : Int) = xs[i] := getDn hi
    have hb := hx.2 _ (List.getElem_mem hi)
    rw [e]
    refine EvP.pos (by omega) (EvP.pos (by omega) (EvP.pos (by omega) (EvP.bind (ev_laws_eqIns xs[i].f0 xs[i].f1 xs[i].f2 ) (fun t ht => ?_))))
    subst ht
    exact EvP.pos (by trivial) ih
theorem ev_laws_eqInsS (xs : List (S83)) (hx : qInsS xs) : EvP (fun k => laws_eqInsS.f k xs xs) (· = true) := by
  unfold laws_eqInsS.f
  exact EvP.pos (by trivial) (ev_laws_eqInsS_l0 xs hx 0 (by omega))

theorem ev_laws_eqFunc (a0 : Int) (l1 : List ByteArray) (l2 : List ByteArray) (l3 : List ByteArray) (l4 : List Int) (l5 : List (S83)) (hl1 : qStringS l1) (hl2 : qStringS l2) (hl3 : qStringS l3) (hl4 : qIntS l4) (hl5 : qInsS l5) : EvP (fun k => laws_eqFunc.f k a0 l1 l2 l3 l4 l5 a0 l1 l2 l3 l4 l5) (· = true) := by
  unfold laws_eqFunc.f
  refine EvP.pos (by trivial) ?_
  refine EvP.bind (ev_laws_eqStringS l1 hl1) (fun tl1 htl1 => ?_)
  subst htl1
  refine EvP.pos (by trivial) ?_
  refine EvP.bind (ev_laws_eqStringS l2 hl2) (fun tl2 htl2 => ?_)
  subst htl2
  refine EvP.pos (by trivial) ?_
  refine EvP.bind (ev_laws_eqStringS l3 hl3) (fun tl3 htl3 => ?_)
  subst htl3
  refine EvP.pos (by trivial) ?_
  refine EvP.bind (ev_laws_eqIntS l4 hl4) (fun tl4 htl4 => ?_)
  subst htl4
  refine EvP.pos (by trivial) ?_
  refine EvP.bind (ev_laws_eqInsS l5 hl5) (fun tl5 htl5 => ?_)
  subst htl5
  refine EvP.pos (by trivial) ?_
  exact EvP.ret _ rfl

def gModule (x : S49) : Prop := (gL gRecord) x.f0 ∧ (gL gFunc) x.f1 ∧ (gL gInt) x.f2

def wModule (x : S49) : Nat := wl wRecord x.f0 + wl wFunc x.f1 + wl (fun _ : Int => 0) x.f2

def cModule (x : S49) : S55 := ⟨(x.f0.map cRecord), (x.f1.map cFunc), x.f2⟩

theorem ev_laws_szRecordS_l0 (xs : List (S87)) (hx : gL gRecord xs) : ∀ i, i ≤ xs.length → ∀ a : Int, 0 ≤ a → a ≤ 1048576 → EvP (fun k => laws_szRecordS.l0 k xs a i) (fun r => 0 ≤ r → r = a - ((((xs.drop i).map wRecord).sum : Nat) : Int)) := by
  refine upInd ?_ ?_
  · intro a h0 h1
    refine EvP.succ ?_
    simp only [laws_szRecordS.l0]
    exact EvP.neg (by omega) (EvP.ret _ (fun _ => by simp))
  · intro i hi ih a h0 h1
    refine EvP.succ ?_
    simp only [laws_szRecordS.l0]
    have e : rd_T87 xs (i : Int) = xs[i] := getDn hi
    have hb := hx.2 _ (List.getElem_mem hi)
    rw [e, w64s hi hx.1]
    refine EvP.pos (by omega) (EvP.pos (by omega) (EvP.bind (ev_laws_szRecord xs[i].f0 xs[i].f1 hb.2 a h0 h1) (fun t ht => EvP.ite (fun hc => EvP.ret _ (fun h => absurd h (by omega))) (fun hc => ?_))))
    have ht := ht (by omega)
    refine (ih _ (by omega) (by omega)).mono (fun r hr h => ?_)
    have hw : wRecord xs[i] = wl ByteArray.size xs[i].f1 := rfl
    rw [hr h, List.drop_eq_getElem_cons hi]
    simp only [List.map_cons, List.sum_cons]
    omega
theorem ev_laws_szRecordS (xs : List (S87)) (hx : gL gRecord xs) (a : Int) (h0 : 0 ≤ a) (h1 : a ≤ 1048576) : EvP (fun k => laws_szRecordS.f k xs a) (fun r => 0 ≤ r → r = a - ((wl wRecord xs : Nat) : Int)) := by
  have h2 := hx.1
  unfold laws_szRecordS.f
  rw [w64 (by omega) (by omega)]
  refine EvP.ite (fun hc => EvP.ret _ (fun h => absurd h (by omega))) (fun hc => ?_)
  refine (ev_laws_szRecordS_l0 xs hx 0 (by omega) _ (by omega) (by omega)).mono (fun r hr h => ?_)
  rw [hr h]
  simp only [List.drop_zero]
  unfold wl
  omega

theorem ev_laws_szFuncS_l0 (xs : List (S91)) (hx : gL gFunc xs) : ∀ i, i ≤ xs.length → ∀ a : Int, 0 ≤ a → a ≤ 1048576 → EvP (fun k => laws_szFuncS.l0 k xs a i) (fun r => 0 ≤ r → r = a - ((((xs.drop i).map wFunc).sum : Nat) : Int)) := by
  refine upInd ?_ ?_
  · intro a h0 h1
    refine EvP.succ ?_
    simp only [laws_szFuncS.l0]
    exact EvP.neg (by omega) (EvP.ret _ (fun _ => by simp))
  · intro i hi ih a h0 h1
    refine EvP.succ ?_
    simp only [laws_szFuncS.l0]
    have e : rd_T91 xs (i : Int) = xs[i] := getDn hi
    have hb := hx.2 _ (List.getElem_mem hi)
    rw [e, w64s hi hx.1]
    refine EvP.pos (by omega) (EvP.pos (by omega) (EvP.bind (ev_laws_szFunc xs[i].f0 xs[i].f1 xs[i].f2 xs[i].f3 xs[i].f4 xs[i].f5 hb.2.1 hb.2.2.1 hb.2.2.2.1 hb.2.2.2.2.1 hb.2.2.2.2.2 a h0 h1) (fun t ht => EvP.ite (fun hc => EvP.ret _ (fun h => absurd h (by omega))) (fun hc => ?_))))
    have ht := ht (by omega)
    refine (ih _ (by omega) (by omega)).mono (fun r hr h => ?_)
    have hw : wFunc xs[i] = wl ByteArray.size xs[i].f1 + wl ByteArray.size xs[i].f2 + wl ByteArray.size xs[i].f3 + wl (fun _ : Int => 0) xs[i].f4 + wl wIns xs[i].f5 := rfl
    rw [hr h, List.drop_eq_getElem_cons hi]
    simp only [List.map_cons, List.sum_cons]
    omega
theorem ev_laws_szFuncS (xs : List (S91)) (hx : gL gFunc xs) (a : Int) (h0 : 0 ≤ a) (h1 : a ≤ 1048576) : EvP (fun k => laws_szFuncS.f k xs a) (fun r => 0 ≤ r → r = a - ((wl wFunc xs : Nat) : Int)) := by
  have h2 := hx.1
  unfold laws_szFuncS.f
  rw [w64 (by omega) (by omega)]
  refine EvP.ite (fun hc => EvP.ret _ (fun h => absurd h (by omega))) (fun hc => ?_)
  refine (ev_laws_szFuncS_l0 xs hx 0 (by omega) _ (by omega) (by omega)).mono (fun r hr h => ?_)
  rw [hr h]
  simp only [List.drop_zero]
  unfold wl
  omega

theorem ev_laws_szModule (l0 : List (S87)) (l1 : List (S91)) (l2 : List Int) (hl0 : (gL gRecord) l0) (hl1 : (gL gFunc) l1) (hl2 : (gL gInt) l2) (a : Int) (h0 : 0 ≤ a) (h1 : a ≤ 1048576) : EvP (fun k => laws_szModule.f k l0 l1 l2 a) (fun r => 0 ≤ r → r = a - ((wl wRecord l0 + wl wFunc l1 + wl (fun _ : Int => 0) l2 : Nat) : Int)) := by
  unfold laws_szModule.f
  refine EvP.bind (ev_laws_szRecordS l0 hl0 a (by omega) (by omega)) (fun tl0 htl0 => EvP.ite (fun hc => EvP.ret _ (fun h => absurd h (by omega))) (fun hc => ?_))
  have htl0 := htl0 (by omega)
  refine EvP.bind (ev_laws_szFuncS l1 hl1 tl0 (by omega) (by omega)) (fun tl1 htl1 => EvP.ite (fun hc => EvP.ret _ (fun h => absurd h (by omega))) (fun hc => ?_))
  have htl1 := htl1 (by omega)
  refine EvP.bind (ev_laws_szIntS l2 hl2 tl1 (by omega) (by omega)) (fun tl2 htl2 => EvP.ite (fun hc => EvP.ret _ (fun h => absurd h (by omega))) (fun hc => ?_))
  have htl2 := htl2 (by omega)
  exact EvP.ret _ (fun _ => by omega)

theorem ev_laws_toRecordS_l0 (xs : List (S87)) (hx : wl wRecord xs ≤ 1048576) : ∀ i, i ≤ xs.length → ∀ out : List (S60), out.length = xs.length → out.take i = (xs.take i).map cRecord → EvP (fun k => laws_toRecordS.l0 k xs out i) (· = xs.map cRecord) := by
  have hn := Nat.le_trans len_wl hx
  refine upInd ?_ ?_
  · intro out hl ht
    refine EvP.succ ?_
    simp only [laws_toRecordS.l0]
    refine EvP.neg (by omega) (EvP.ret _ ?_)
    rw [List.take_of_length_le (by omega), List.take_of_length_le (by omega)] at ht
    exact ht
  · intro i hi ih out hl ht
    refine EvP.succ ?_
    simp only [laws_toRecordS.l0]
    have e : rd_T87 xs (i : Int) = xs[i] := getDn hi
    rw [e, w64s hi (by omega), Int.toNat_natCast]
    have hm := mem_wl (f := wRecord) (List.getElem_mem hi)
    have hw : wRecord xs[i] = wl ByteArray.size xs[i].f1 := rfl
    refine EvP.pos (by omega) (EvP.pos (by omega) (EvP.bind (ev_laws_toRecord xs[i].f0 xs[i].f1 (by omega)) (fun t ht2 => ?_)))
    subst ht2
    exact EvP.pos (by omega) (ih _ (by simpa using hl) (take_step (c := cRecord) hi hl ht))
theorem ev_laws_toRecordS (xs : List (S87)) (hx : wl wRecord xs ≤ 1048576) : EvP (fun k => laws_toRecordS.f k xs) (· = (xs.map cRecord)) := by
  have hn := Nat.le_trans len_wl hx
  unfold laws_toRecordS.f
  refine EvP.pos (by omega) (EvP.pos (by rw [Int.toNat_natCast]; omega) ?_)
  refine (ev_laws_toRecordS_l0 xs hx 0 (by omega) _ (by simp) rfl).mono (fun r hr => ?_)
  rw [hr]

theorem ev_laws_toFuncS_l0 (xs : List (S91)) (hx : wl wFunc xs ≤ 1048576) : ∀ i, i ≤ xs.length → ∀ out : List (S39), out.length = xs.length → out.take i = (xs.take i).map cFunc → EvP (fun k => laws_toFuncS.l0 k xs out i) (· = xs.map cFunc) := by
  have hn := Nat.le_trans len_wl hx
  refine upInd ?_ ?_
  · intro out hl ht
    refine EvP.succ ?_
    simp only [laws_toFuncS.l0]
    refine EvP.neg (by omega) (EvP.ret _ ?_)
    rw [List.take_of_length_le (by omega), List.take_of_length_le (by omega)] at ht
    exact ht
  · intro i hi ih out hl ht
    refine EvP.succ ?_
    simp only [laws_toFuncS.l0]
    have e : rd_T91 xs (i : Int) = xs[i] := getDn hi
    rw [e, w64s hi (by omega), Int.toNat_natCast]
    have hm := mem_wl (f := wFunc) (List.getElem_mem hi)
    have hw : wFunc xs[i] = wl ByteArray.size xs[i].f1 + wl ByteArray.size xs[i].f2 + wl ByteArray.size xs[i].f3 + wl (fun _ : Int => 0) xs[i].f4 + wl wIns xs[i].f5 := rfl
    refine EvP.pos (by omega) (EvP.pos (by omega) (EvP.bind (ev_laws_toFunc xs[i].f0 xs[i].f1 xs[i].f2 xs[i].f3 xs[i].f4 xs[i].f5 (by omega) (by omega) (by omega) (by omega) (by omega)) (fun t ht2 => ?_)))
    subst ht2
    exact EvP.pos (by omega) (ih _ (by simpa using hl) (take_step (c := cFunc) hi hl ht))
theorem ev_laws_toFuncS (xs : List (S91)) (hx : wl wFunc xs ≤ 1048576) : EvP (fun k => laws_toFuncS.f k xs) (· = (xs.map cFunc)) := by
  have hn := Nat.le_trans len_wl hx
  unfold laws_toFuncS.f
  refine EvP.pos (by omega) (EvP.pos (by rw [Int.toNat_natCast]; omega) ?_)
  refine (ev_laws_toFuncS_l0 xs hx 0 (by omega) _ (by simp) rfl).mono (fun r hr => ?_)
  rw [hr]

theorem ev_laws_toModule (l0 : List (S87)) (l1 : List (S91)) (l2 : List Int) (hl0 : wl wRecord l0 ≤ 1048576) (hl1 : wl wFunc l1 ≤ 1048576) (hl2 : wl (fun _ : Int => 0) l2 ≤ 1048576) : EvP (fun k => laws_toModule.f k l0 l1 l2) (· = ((l0.map cRecord), (l1.map cFunc), l2)) := by
  unfold laws_toModule.f
  refine EvP.bind (ev_laws_toRecordS l0 hl0) (fun tl0 htl0 => ?_)
  subst htl0
  refine EvP.bind (ev_laws_toFuncS l1 hl1) (fun tl1 htl1 => ?_)
  subst htl1
  refine EvP.bind (ev_laws_toIntS l2 hl2) (fun tl2 htl2 => ?_)
  subst htl2
  exact EvP.ret _ rfl

def qRecordS (xs : List (S60)) : Prop := xs.length ≤ 9223372036854775807 ∧ ∀ x ∈ xs, qRecord x

def qFuncS (xs : List (S39)) : Prop := xs.length ≤ 9223372036854775807 ∧ ∀ x ∈ xs, qFunc x

def qModule (x : S55) : Prop := qRecordS x.f0 ∧ qFuncS x.f1 ∧ qIntS x.f2

theorem ev_laws_eqRecordS_l0 (xs : List (S60)) (hx : qRecordS xs) : ∀ i, i ≤ xs.length → EvP (fun k => laws_eqRecordS.l0 k xs xs i) (· = true) := by
  refine upInd ?_ ?_
  · refine EvP.succ ?_
    simp only [laws_eqRecordS.l0]
    exact EvP.neg (by omega) (EvP.ret _ rfl)
  · intro i hi ih
    refine EvP.succ ?_
    simp only [laws_eqRecordS.l0]
    rw [w64s hi hx.1]
    have e : rd_T60 xs (i : Int) = xs[i] := getDn hi
    have hb := hx.2 _ (List.getElem_mem hi)
    rw [e]
    refine EvP.pos (by omega) (EvP.pos (by omega) (EvP.pos (by omega) (EvP.bind (ev_laws_eqRecord xs[i].f0 xs[i].f1 hb) (fun t ht => ?_))))
    subst ht
    exact EvP.pos (by trivial) ih
theorem ev_laws_eqRecordS (xs : List (S60)) (hx : qRecordS xs) : EvP (fun k => laws_eqRecordS.f k xs xs) (· = true) := by
  unfold laws_eqRecordS.f
  exact EvP.pos (by trivial) (ev_laws_eqRecordS_l0 xs hx 0 (by omega))

theorem ev_laws_eqFuncS_l0 (xs : List (S39)) (hx : qFuncS xs) : ∀ i, i ≤ xs.length → EvP (fun k => laws_eqFuncS.l0 k xs xs i) (· = true) := by
  refine upInd ?_ ?_
  · refine EvP.succ ?_
    simp only [laws_eqFuncS.l0]
    exact EvP.neg (by omega) (EvP.ret _ rfl)
  · intro i hi ih
    refine EvP.succ ?_
    simp only [laws_eqFuncS.l0]
    rw [w64s hi hx.1]
    have e : rd_T39 xs (i : Int) = xs[i] := getDn hi
    have hb := hx.2 _ (List.getElem_mem hi)
    rw [e]
    refine EvP.pos (by omega) (EvP.pos (by omega) (EvP.pos (by omega) (EvP.bind (ev_laws_eqFunc xs[i].f0 xs[i].f1 xs[i].f2 xs[i].f3 xs[i].f4 xs[i].f5 hb.1 hb.2.1 hb.2.2.1 hb.2.2.2.1 hb.2.2.2.2) (fun t ht => ?_))))
    subst ht
    exact EvP.pos (by trivial) ih
theorem ev_laws_eqFuncS (xs : List (S39)) (hx : qFuncS xs) : EvP (fun k => laws_eqFuncS.f k xs xs) (· = true) := by
  unfold laws_eqFuncS.f
  exact EvP.pos (by trivial) (ev_laws_eqFuncS_l0 xs hx 0 (by omega))

theorem ev_laws_eqModule (l0 : List (S60)) (l1 : List (S39)) (l2 : List Int) (hl0 : qRecordS l0) (hl1 : qFuncS l1) (hl2 : qIntS l2) : EvP (fun k => laws_eqModule.f k l0 l1 l2 l0 l1 l2) (· = true) := by
  unfold laws_eqModule.f
  refine EvP.bind (ev_laws_eqRecordS l0 hl0) (fun tl0 htl0 => ?_)
  subst htl0
  refine EvP.pos (by trivial) ?_
  refine EvP.bind (ev_laws_eqFuncS l1 hl1) (fun tl1 htl1 => ?_)
  subst htl1
  refine EvP.pos (by trivial) ?_
  refine EvP.bind (ev_laws_eqIntS l2 hl2) (fun tl2 htl2 => ?_)
  subst htl2
  refine EvP.pos (by trivial) ?_
  exact EvP.ret _ rfl

theorem ev_laws_szModuleS_l0 (xs : List (S49)) (hx : gL gModule xs) : ∀ i, i ≤ xs.length → ∀ a : Int, 0 ≤ a → a ≤ 1048576 → EvP (fun k => laws_szModuleS.l0 k xs a i) (fun r => 0 ≤ r → r = a - ((((xs.drop i).map wModule).sum : Nat) : Int)) := by
  refine upInd ?_ ?_
  · intro a h0 h1
    refine EvP.succ ?_
    simp only [laws_szModuleS.l0]
    exact EvP.neg (by omega) (EvP.ret _ (fun _ => by simp))
  · intro i hi ih a h0 h1
    refine EvP.succ ?_
    simp only [laws_szModuleS.l0]
    have e : rd_T49 xs (i : Int) = xs[i] := getDn hi
    have hb := hx.2 _ (List.getElem_mem hi)
    rw [e, w64s hi hx.1]
    refine EvP.pos (by omega) (EvP.pos (by omega) (EvP.bind (ev_laws_szModule xs[i].f0 xs[i].f1 xs[i].f2 hb.1 hb.2.1 hb.2.2 a h0 h1) (fun t ht => EvP.ite (fun hc => EvP.ret _ (fun h => absurd h (by omega))) (fun hc => ?_))))
    have ht := ht (by omega)
    refine (ih _ (by omega) (by omega)).mono (fun r hr h => ?_)
    have hw : wModule xs[i] = wl wRecord xs[i].f0 + wl wFunc xs[i].f1 + wl (fun _ : Int => 0) xs[i].f2 := rfl
    rw [hr h, List.drop_eq_getElem_cons hi]
    simp only [List.map_cons, List.sum_cons]
    omega
theorem ev_laws_szModuleS (xs : List (S49)) (hx : gL gModule xs) (a : Int) (h0 : 0 ≤ a) (h1 : a ≤ 1048576) : EvP (fun k => laws_szModuleS.f k xs a) (fun r => 0 ≤ r → r = a - ((wl wModule xs : Nat) : Int)) := by
  have h2 := hx.1
  unfold laws_szModuleS.f
  rw [w64 (by omega) (by omega)]
  refine EvP.ite (fun hc => EvP.ret _ (fun h => absurd h (by omega))) (fun hc => ?_)
  refine (ev_laws_szModuleS_l0 xs hx 0 (by omega) _ (by omega) (by omega)).mono (fun r hr h => ?_)
  rw [hr h]
  simp only [List.drop_zero]
  unfold wl
  omega

theorem ev_laws_toModuleS_l0 (xs : List (S49)) (hx : wl wModule xs ≤ 1048576) : ∀ i, i ≤ xs.length → ∀ out : List (S55), out.length = xs.length → out.take i = (xs.take i).map cModule → EvP (fun k => laws_toModuleS.l0 k xs out i) (· = xs.map cModule) := by
  have hn := Nat.le_trans len_wl hx
  refine upInd ?_ ?_
  · intro out hl ht
    refine EvP.succ ?_
    simp only [laws_toModuleS.l0]
    refine EvP.neg (by omega) (EvP.ret _ ?_)
    rw [List.take_of_length_le (by omega), List.take_of_length_le (by omega)] at ht
    exact ht
  · intro i hi ih out hl ht
    refine EvP.succ ?_
    simp only [laws_toModuleS.l0]
    have e : rd_T49 xs (i : Int) = xs[i] := getDn hi
    rw [e, w64s hi (by omega), Int.toNat_natCast]
    have hm := mem_wl (f := wModule) (List.getElem_mem hi)
    have hw : wModule xs[i] = wl wRecord xs[i].f0 + wl wFunc xs[i].f1 + wl (fun _ : Int => 0) xs[i].f2 := rfl
    refine EvP.pos (by omega) (EvP.pos (by omega) (EvP.bind (ev_laws_toModule xs[i].f0 xs[i].f1 xs[i].f2 (by omega) (by omega) (by omega)) (fun t ht2 => ?_)))
    subst ht2
    exact EvP.pos (by omega) (ih _ (by simpa using hl) (take_step (c := cModule) hi hl ht))
theorem ev_laws_toModuleS (xs : List (S49)) (hx : wl wModule xs ≤ 1048576) : EvP (fun k => laws_toModuleS.f k xs) (· = (xs.map cModule)) := by
  have hn := Nat.le_trans len_wl hx
  unfold laws_toModuleS.f
  refine EvP.pos (by omega) (EvP.pos (by rw [Int.toNat_natCast]; omega) ?_)
  refine (ev_laws_toModuleS_l0 xs hx 0 (by omega) _ (by simp) rfl).mono (fun r hr => ?_)
  rw [hr]

def qModuleS (xs : List (S55)) : Prop := xs.length ≤ 9223372036854775807 ∧ ∀ x ∈ xs, qModule x

theorem ev_laws_eqModuleS_l0 (xs : List (S55)) (hx : qModuleS xs) : ∀ i, i ≤ xs.length → EvP (fun k => laws_eqModuleS.l0 k xs xs i) (· = true) := by
  refine upInd ?_ ?_
  · refine EvP.succ ?_
    simp only [laws_eqModuleS.l0]
    exact EvP.neg (by omega) (EvP.ret _ rfl)
  · intro i hi ih
    refine EvP.succ ?_
    simp only [laws_eqModuleS.l0]
    rw [w64s hi hx.1]
    have e : rd_T55 xs (i : Int) = xs[i] := getDn hi
    have hb := hx.2 _ (List.getElem_mem hi)
    rw [e]
    refine EvP.pos (by omega) (EvP.pos (by omega) (EvP.pos (by omega) (EvP.bind (ev_laws_eqModule xs[i].f0 xs[i].f1 xs[i].f2 hb.1 hb.2.1 hb.2.2) (fun t ht => ?_))))
    subst ht
    exact EvP.pos (by trivial) ih
theorem ev_laws_eqModuleS (xs : List (S55)) (hx : qModuleS xs) : EvP (fun k => laws_eqModuleS.f k xs xs) (· = true) := by
  unfold laws_eqModuleS.f
  exact EvP.pos (by trivial) (ev_laws_eqModuleS_l0 xs hx 0 (by omega))

abbrev Rec := S60

abbrev Kinds := List (List Rec)

/-- The module and the record that a text names. -/
def kAt (s : ByteArray) : Option (Nat × Nat) :=
  if s.size = 3 ∧ bt s 0 = 83 ∧ 48 ≤ bt s 1 ∧ bt s 1 ≤ 57 ∧ 48 ≤ bt s 2 ∧ bt s 2 ≤ 57 then some ((bt s 1 - 48).toNat, (bt s 2 - 48).toNat) else none

/-- The record of a kind. -/
def kGet (K : Kinds) (s : ByteArray) : Option Rec := (kAt s).bind fun p => (K[p.1]?).bind fun l => l[p.2]?

def isBase (s : ByteArray) : Bool := s.toList == [110] || (s.toList == [98] || s.toList == [111])

def plain (K : Kinds) (s : ByteArray) : Bool := isBase s || (kGet K s).isSome

def sFunc (x : S39) : Prop := x.f1.length ≤ 1048576 ∧ x.f2.length ≤ 1048576 ∧ x.f3.length ≤ 1048576 ∧ x.f4.length ≤ 1048576 ∧ x.f5.length ≤ 1048576

def sModule (x : S55) : Prop := x.f0.length ≤ 1048576 ∧ x.f1.length ≤ 1048576 ∧ x.f2.length ≤ 1048576 ∧ ∀ f ∈ x.f1, sFunc f

def sMods (K : List S55) : Prop := K.length ≤ 1048576 ∧ ∀ m ∈ K, sModule m

theorem sMods_c {xs : List S49} (h : wl wModule xs ≤ 1048576) : sMods (xs.map cModule) := by
  have hn := Nat.le_trans len_wl h
  refine ⟨by rw [List.length_map]; exact hn, fun x hx => ?_⟩
  obtain ⟨y, hy, rfl⟩ := List.mem_map.1 hx
  have h2 := mem_wl (f := wModule) hy
  have e2 : wModule y = wl wRecord y.f0 + wl wFunc y.f1 + wl (fun _ : Int => 0) y.f2 := rfl
  have a1 := len_wl (f := wRecord) (xs := y.f0)
  have a2 := len_wl (f := wFunc) (xs := y.f1)
  have a3 := len_wl (f := fun _ : Int => 0) (xs := y.f2)
  refine ⟨by show (y.f0.map cRecord).length ≤ _; rw [List.length_map]; omega, by show (y.f1.map cFunc).length ≤ _; rw [List.length_map]; omega, by show y.f2.length ≤ _; omega, fun f hf => ?_⟩
  obtain ⟨g, hg, rfl⟩ := List.mem_map.1 hf
  have h3 := mem_wl (f := wFunc) hg
  have e3 : wFunc g = wl ByteArray.size g.f1 + wl ByteArray.size g.f2 + wl ByteArray.size g.f3 + wl (fun _ : Int => 0) g.f4 + wl wIns g.f5 := rfl
  have b1 := len_wl (f := ByteArray.size) (xs := g.f1)
  have b2 := len_wl (f := ByteArray.size) (xs := g.f2)
  have b3 := len_wl (f := ByteArray.size) (xs := g.f3)
  have b4 := len_wl (f := fun _ : Int => 0) (xs := g.f4)
  have b5 := len_wl (f := wIns) (xs := g.f5)
  exact ⟨by show g.f1.length ≤ _; omega, by show g.f2.length ≤ _; omega, by show g.f3.length ≤ _; omega, by show g.f4.length ≤ _; omega, by show (g.f5.map cIns).length ≤ _; rw [List.length_map]; omega⟩

theorem qMods_c {xs : List S49} (h : wl wModule xs ≤ 1048576) : qModuleS (xs.map cModule) := by
  have hs := sMods_c h
  refine ⟨by have := hs.1; omega, fun x hx => ?_⟩
  obtain ⟨h0, h1, h2, h3⟩ := hs.2 x hx
  obtain ⟨y, hy, rfl⟩ := List.mem_map.1 hx
  have w2 := mem_wl (f := wModule) hy
  have e2 : wModule y = wl wRecord y.f0 + wl wFunc y.f1 + wl (fun _ : Int => 0) y.f2 := rfl
  refine ⟨⟨by omega, fun r hr => ?_⟩, ⟨by omega, fun f hf => ?_⟩, by show (cModule y).f2.length ≤ _; omega⟩
  · obtain ⟨z, hz, rfl⟩ := List.mem_map.1 hr
    have h4 := mem_wl (f := wRecord) hz
    have h5 : wRecord z = wl ByteArray.size z.f1 := rfl
    have h6 := len_wl (f := ByteArray.size) (xs := z.f1)
    show z.f1.length ≤ _
    omega
  · obtain ⟨f1, f2, f3, f4, f5⟩ := h3 f hf
    exact ⟨by show f.f1.length ≤ _; omega, by show f.f2.length ≤ _; omega, by show f.f3.length ≤ _; omega, by show f.f4.length ≤ _; omega, ⟨by omega, fun _ _ => trivial⟩⟩

theorem rdM {K : List S55} (h : sMods K) {m : Int} (h0 : 0 ≤ m) (h1 : m < (K.length : Int)) : sModule (rd_T55 K m) := by
  have hl : m.toNat < K.length := by omega
  have e : rd_T55 K m = K[m.toNat] := by
    unfold rd_T55
    rw [List.getD_eq_getElem?_getD, List.getElem?_eq_getElem hl]
    rfl
  rw [e]
  exact h.2 _ (List.getElem_mem hl)

/-- There is such a function. -/
def hasF (K : List S55) (m f : Int) : Bool := decide (0 ≤ m ∧ m < (K.length : Int) ∧ 0 ≤ f ∧ f < ((rd_T55 K m).f1.length : Int))

theorem eq_spec_l4Has (K : List S55) (hK : sMods K) (m f : Int) : spec_l4Has.f K m f = some (hasF K m f) := by
  have hl := hK.1
  unfold spec_l4Has.f spec_l6In.f hasF
  rw [w64 (n := (K.length : Int) - 1) (by omega) (by omega)]
  by_cases h0 : m ≥ 0
  · rw [if_pos h0]
    simp only [Option.bind_some]
    by_cases h1 : m ≤ (K.length : Int) - 1
    · rw [if_pos (by simpa using h1), if_pos h0, if_pos (by omega)]
      have hM := (rdM hK h0 (by omega)).2.1
      rw [w64 (n := ((rd_T55 K m).f1.length : Int) - 1) (by omega) (by omega)]
      by_cases h2 : f ≥ 0
      · rw [if_pos h2]
        simp only [Option.bind_some]
        congr 1
        rw [decide_eq_decide]
        omega
      · rw [if_neg h2]
        simp only [Option.bind_some]
        rw [decide_eq_false (by omega)]
    · rw [if_neg (by simpa using h1), decide_eq_false (by omega)]
  · rw [if_neg h0]
    simp only [Option.bind_some]
    rw [if_neg (by simp), decide_eq_false (by omega)]

/-- A mark's text. -/
def mkD : Nat → Nat → ByteArray → ByteArray
  | 0, _, a => a
  | f + 1, n, a => if n = 0 then a else mkD f (n / 10) (strOfNums [(wrap64 (48 + ((n % 10 : Nat) : Int))) % 256] ++ a)
def mtx (n : Nat) : ByteArray := (⟨#[109]⟩ : ByteArray) ++ mkD n n ⟨#[]⟩

theorem ev_laws_markText_l0 : ∀ (f n : Nat) (a : ByteArray), n ≤ f → n ≤ 9000001 → a.size + n ≤ 27000000 → EvP (fun k => laws_markText.l0 k (n : Int) a) (· = (⟨#[109]⟩ : ByteArray) ++ mkD f n a)
  | 0, n, a, h, _, h2 => by
    refine EvP.succ ?_
    simp only [laws_markText.l0]
    exact EvP.neg (by omega) (EvP.pos (by omega) (EvP.ret _ rfl))
  | f + 1, n, a, h, h1, h2 => by
    refine EvP.succ ?_
    simp only [laws_markText.l0]
    refine EvP.ite (fun h3 => ?_) (fun h3 => EvP.pos (by omega) (EvP.ret _ ?_))
    · have e1 : wrap64 (Int.tdiv (n : Int) 10) = ((n / 10 : Nat) : Int) := by
        have : Int.tdiv (n : Int) 10 = ((n / 10 : Nat) : Int) := rfl
        rw [this, w64 (by omega) (by omega)]
      have e2 : Int.tmod (n : Int) 10 = ((n % 10 : Nat) : Int) := rfl
      have e3 : (strOfNums [(wrap64 (48 + ((n % 10 : Nat) : Int))) % 256]).size = 1 := rfl
      rw [e1, e2]
      simp only [Option.bind_some]
      have e4 : mkD (f + 1) n a = mkD f (n / 10) (strOfNums [(wrap64 (48 + ((n % 10 : Nat) : Int))) % 256] ++ a) := by rw [mkD, if_neg (by omega)]
      rw [e4]
      exact EvP.pos (by omega) (ev_laws_markText_l0 f (n / 10) _ (by omega) (by omega) (by rw [ByteArray.size_append]; omega))
    · have e : n = 0 := by omega
      subst e
      rw [mkD, if_pos rfl]
theorem ev_laws_markText (n : Nat) (h0 : 1 ≤ n) (h1 : n ≤ 9000001) : EvP (fun k => laws_markText.f k (n : Int)) (· = mtx n) := by
  unfold laws_markText.f mtx
  exact EvP.neg (by omega) (ev_laws_markText_l0 n n ⟨#[]⟩ (Nat.le_refl _) h1 (by have : (⟨#[]⟩ : ByteArray).size = 0 := rfl; omega))

/-- How large a shelf within the bounds is. -/
theorem kinds_bounds {xs : List S49} (h : wl wModule xs ≤ 1048576) : (xs.map cModule).length ≤ 1048576 ∧ ∀ m ∈ xs.map cModule, m.f0.length ≤ 1048576 ∧ ∀ x ∈ m.f0, x.f1.length ≤ 1048576 := by
  have hn := Nat.le_trans len_wl h
  refine ⟨by rw [List.length_map]; exact hn, fun x hx => ?_⟩
  obtain ⟨y, hy, rfl⟩ := List.mem_map.1 hx
  have h2 := mem_wl (f := wModule) hy
  have e2 : wModule y = wl wRecord y.f0 + wl wFunc y.f1 + wl (fun _ : Int => 0) y.f2 := rfl
  have a1 := len_wl (f := wRecord) (xs := y.f0)
  refine ⟨by show (y.f0.map cRecord).length ≤ _; rw [List.length_map]; omega, fun r hr => ?_⟩
  obtain ⟨z, hz, rfl⟩ := List.mem_map.1 hr
  have h3 := mem_wl (f := wRecord) hz
  have e3 : wRecord z = wl ByteArray.size z.f1 := rfl
  have b1 := len_wl (f := ByteArray.size) (xs := z.f1)
  show z.f1.length ≤ _
  omega

/-- How many cells of a shelf are marked: at most three for each of its parts. -/
theorem sum_le_wl {α : Type} (f g : α → Nat) : ∀ (xs : List α), (∀ x ∈ xs, g x ≤ 3 * f x + 3) → (xs.map g).sum ≤ 3 * wl f xs
  | [], _ => by simp
  | x :: xs, h => by
    have h1 := sum_le_wl f g xs (fun y hy => h y (List.mem_cons_of_mem _ hy))
    have h2 := h x List.mem_cons_self
    simp only [wl, List.map_cons, List.sum_cons, List.length_cons] at h1 ⊢
    omega
def cnRec (x : S60) : Nat := 1 + (x.f1.map fun _ => 1).sum
def cnIns (x : S83) : Nat := 1 + (1 + 1)
def cnFunc (x : S39) : Nat := 1 + ((x.f1.map fun _ => 1).sum + ((x.f2.map fun _ => 1).sum + ((x.f3.map fun _ => 1).sum + ((x.f4.map fun _ => 1).sum + (x.f5.map cnIns).sum))))
def cnMod (x : S55) : Nat := (x.f0.map cnRec).sum + ((x.f1.map cnFunc).sum + (x.f2.map fun _ => 1).sum)
theorem cn_strs (xs : List ByteArray) : (xs.map fun _ => 1).sum ≤ wl ByteArray.size xs := by
  have : ∀ xs : List ByteArray, (xs.map fun _ => 1).sum = xs.length := fun xs => by induction xs with | nil => rfl | cons x xs ih => simp only [List.map_cons, List.sum_cons, List.length_cons] at ih ⊢; omega
  rw [this]
  exact len_wl
theorem cn_ints (xs : List Int) : (xs.map fun _ => 1).sum ≤ wl (fun _ : Int => 0) xs := by
  have : ∀ xs : List Int, (xs.map fun _ => 1).sum = xs.length := fun xs => by induction xs with | nil => rfl | cons x xs ih => simp only [List.map_cons, List.sum_cons, List.length_cons] at ih ⊢; omega
  rw [this]
  exact len_wl
theorem cn_mods (xs : List S49) : ((xs.map cModule).map cnMod).sum ≤ 3 * wl wModule xs := by
  rw [List.map_map]
  refine sum_le_wl _ _ xs (fun m _ => ?_)
  have e : wModule m = wl wRecord m.f0 + wl wFunc m.f1 + wl (fun _ : Int => 0) m.f2 := rfl
  have h0 : ((m.f0.map cRecord).map cnRec).sum ≤ 3 * wl wRecord m.f0 := by
    rw [List.map_map]
    refine sum_le_wl _ _ _ (fun x _ => ?_)
    have e1 : wRecord x = wl ByteArray.size x.f1 := rfl
    have e2 : (cnRec ∘ cRecord) x = 1 + (x.f1.map fun _ => 1).sum := rfl
    have := cn_strs x.f1
    omega
  have h1 : ((m.f1.map cFunc).map cnFunc).sum ≤ 3 * wl wFunc m.f1 := by
    rw [List.map_map]
    refine sum_le_wl _ _ _ (fun x _ => ?_)
    have e1 : wFunc x = wl ByteArray.size x.f1 + wl ByteArray.size x.f2 + wl ByteArray.size x.f3 + wl (fun _ : Int => 0) x.f4 + wl wIns x.f5 := rfl
    have e2 : (cnFunc ∘ cFunc) x = 1 + ((x.f1.map fun _ => 1).sum + ((x.f2.map fun _ => 1).sum + ((x.f3.map fun _ => 1).sum + ((x.f4.map fun _ => 1).sum + ((x.f5.map cIns).map cnIns).sum)))) := rfl
    have a1 := cn_strs x.f1
    have a2 := cn_strs x.f2
    have a3 := cn_strs x.f3
    have a4 := cn_ints x.f4
    have a5 : ((x.f5.map cIns).map cnIns).sum ≤ 3 * wl wIns x.f5 := by
      rw [List.map_map]
      refine sum_le_wl _ _ _ (fun y _ => ?_)
      have e3 : (cnIns ∘ cIns) y = 3 := rfl
      omega
    omega
  have h2 := cn_ints m.f2
  have e3 : (cnMod ∘ cModule) m = ((m.f0.map cRecord).map cnRec).sum + (((m.f1.map cFunc).map cnFunc).sum + (m.f2.map fun _ => 1).sum) := rfl
  omega

theorem sum_one {α : Type} : ∀ xs : List α, (xs.map fun _ => 1).sum = xs.length
  | [] => rfl
  | x :: xs => by have := sum_one xs; simp only [List.map_cons, List.sum_cons, List.length_cons] at this ⊢; omega
theorem sum_three {α : Type} : ∀ xs : List α, (xs.map fun _ => 1 + (1 + 1)).sum = 3 * xs.length
  | [] => rfl
  | x :: xs => by have := sum_three xs; simp only [List.map_cons, List.sum_cons, List.length_cons] at this ⊢; omega

/-- What is asked for lies in the shelf. -/
theorem funcIn {K : List S55} {m f : Int} (h0 : 0 ≤ m) (h1 : m < (K.length : Int)) (h2 : 0 ≤ f) (h3 : f < ((rd_T55 K m).f1.length : Int)) : rd_T55 K m ∈ K ∧ rd_T39 (rd_T55 K m).f1 f ∈ (rd_T55 K m).f1 := by
  constructor
  · obtain ⟨n, rfl⟩ := Int.eq_ofNat_of_zero_le h0
    have hlt : n < K.length := by omega
    have : rd_T55 K (n : Int) = K[n] := getDn hlt
    rw [this]
    exact List.getElem_mem hlt
  · generalize (rd_T55 K m).f1 = L at h3
    obtain ⟨n, rfl⟩ := Int.eq_ofNat_of_zero_le h2
    have hlt : n < L.length := by omega
    have : rd_T39 L (n : Int) = L[n] := getDn hlt
    rw [this]
    exact List.getElem_mem hlt

-- uses cn_mods, kinds_bounds
theorem FnExactShelfFunc (l : List S49) (a1 a2 : Int) (g : gL gModule l) : ∃ L : Int, (∃ k, laws_szModuleS.f k l 1048576 = some L) ∧ (0 ≤ L → wl wModule l ≤ 1048576 ∧ (∃ k, laws_toModuleS.f k l = some (l.map cModule)) ∧ (∃ k, laws_eqModuleS.f k (l.map cModule) (l.map cModule) = some true) ∧
    ∃ F b, ((b = true ∧ (0 ≤ a1 ∧ a1 < ((l.map cModule).length : Int) ∧ 0 ≤ a2 ∧ a2 < ((rd_T55 (l.map cModule) a1).f1.length : Int) ∧ F = rd_T39 (rd_T55 (l.map cModule) a1).f1 a2) ∧ (F.f1.length < 4398046511104 ∧ F.f2.length < 4398046511104 ∧ F.f3.length < 4398046511104 ∧ F.f4.length < 4398046511104 ∧ F.f5.length < 2199023255552) ∧ spec_l4Has.f (l.map cModule) a1 a2 = some true) ∨
        (b = false ∧ F = z39 ∧ (a1 < 0 ∨ ((l.map cModule).length : Int) ≤ a1 ∨ (0 ≤ a1 ∧ a1 < ((l.map cModule).length : Int) ∧ a2 < 0) ∨ (0 ≤ a1 ∧ a1 < ((l.map cModule).length : Int) ∧ 0 ≤ a2 ∧ ((rd_T55 (l.map cModule) a1).f1.length : Int) ≤ a2)) ∧ spec_l4Has.f (l.map cModule) a1 a2 = some false)) ∧
      (∃ k, laws_eqFunc.f k F.f0 F.f1 F.f2 F.f3 F.f4 F.f5 F.f0 F.f1 F.f2 F.f3 F.f4 F.f5 = some true) ∧ (F.f1.map fun _ => 1).sum + ((F.f2.map fun _ => 1).sum + ((F.f3.map fun _ => 1).sum + ((F.f4.map fun _ => 1).sum + (F.f5.map fun _ => 1 + (1 + 1)).sum))) ≤ 8999998) := by
  obtain ⟨L, hL, h⟩ := ev_laws_szModuleS l g 1048576 (by omega) (by omega)
  refine ⟨L, hL.rounds, fun h0 => ?_⟩
  have ht := h h0
  have w0 : wl wModule l ≤ 1048576 := by omega
  have hs := sMods_c w0
  have hq := qMods_c w0
  have he := eq_spec_l4Has (l.map cModule) hs a1 a2
  refine ⟨w0, (ev_laws_toModuleS l w0).eq.rounds, (ev_laws_eqModuleS _ hq).eq.rounds, ?_⟩
  generalize hK : l.map cModule = K at hs hq he
  by_cases hc : 0 ≤ a1 ∧ a1 < (K.length : Int) ∧ 0 ≤ a2 ∧ a2 < ((rd_T55 K a1).f1.length : Int)
  · have hh : hasF K a1 a2 = true := by unfold hasF; exact decide_eq_true hc
    rw [hh] at he
    obtain ⟨i1, i2⟩ := funcIn hc.1 hc.2.1 hc.2.2.1 hc.2.2.2
    have s1 := (hs.2 _ i1).2.2.2 _ i2
    have q1 := (hq.2 _ i1).2.1.2 _ i2
    generalize hF : rd_T39 (rd_T55 K a1).f1 a2 = F at s1 q1
    obtain ⟨b1, b2, b3, b4, b5⟩ := s1
    refine ⟨F, true, .inl ⟨rfl, ⟨hc.1, hc.2.1, hc.2.2.1, hc.2.2.2, rfl⟩, ⟨by omega, by omega, by omega, by omega, by omega⟩, he⟩, (ev_laws_eqFunc F.f0 F.f1 F.f2 F.f3 F.f4 F.f5 q1.1 q1.2.1 q1.2.2.1 q1.2.2.2.1 q1.2.2.2.2).eq.rounds, ?_⟩
    rw [sum_one, sum_one, sum_one, sum_one, sum_three]
    omega
  · have hh : hasF K a1 a2 = false := by unfold hasF; exact decide_eq_false hc
    rw [hh] at he
    refine ⟨z39, false, .inr ⟨rfl, rfl, ?_, he⟩, (ev_laws_eqFunc 0 [] [] [] [] [] ?_ ?_ ?_ ?_ ?_).eq.rounds, by decide⟩
    · by_cases h1 : 0 ≤ a1
      · by_cases h2 : a1 < (K.length : Int)
        · by_cases h3 : 0 ≤ a2
          · exact .inr (.inr (.inr ⟨h1, h2, h3, by
              have : ¬ a2 < ((rd_T55 K a1).f1.length : Int) := fun h4 => hc ⟨h1, h2, h3, h4⟩
              omega⟩))
          · exact .inr (.inr (.inl ⟨h1, h2, by omega⟩))
        · exact .inr (.inl (by omega))
      · exact .inl (by omega)
    · exact Nat.zero_le _
    · exact Nat.zero_le _
    · exact Nat.zero_le _
    · exact Nat.zero_le _
    · exact ⟨Nat.zero_le _, fun x hx => by cases hx⟩
theorem shelf_count {l : List S49} (h : wl wModule l ≤ 1048576) : ((l.map cModule).map cnMod).sum ≤ 3145728 := by have := cn_mods l; omega
theorem markText_any (n : Nat) (h0 : 1 ≤ n) (h1 : n ≤ 9000001) : ∃ k, laws_markText.f k (n : Int) = some (mtx n) := (ev_laws_markText n h0 h1).eq.rounds


end Go.Proofs.Ytcdamcfklehedaa.Pure
