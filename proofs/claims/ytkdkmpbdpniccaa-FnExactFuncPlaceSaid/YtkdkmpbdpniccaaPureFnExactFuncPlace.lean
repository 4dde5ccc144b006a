/- FuncPlace of the program and of the reference give the same for every function and every number; the argument stays as it was. -/
import Derived.Test.YtkdkmpbdpniccaaPFnExactFuncPlacex1
import Derived.Test.YtkdkmpbdpniccaaPFnExactFuncPlacex2
import Derived.Test.YtkdkmpbdpniccaaPFnExactFuncPlacex3
import Derived.Test.YtkdkmpbdpniccaaPFnExactFuncPlacex4
import Derived.Test.YtkdkmpbdpniccaaBase
namespace Go.Proofs.Ytkdkmpbdpniccaa.Pure
open Go.RowKit Go.Proofs.Ytkdkmpbdpniccaa.PFnExactFuncPlace Go.Proofs.YtkdkmpbdpniccaaW.PrintWords Go.Proofs.YtkdkmpbdpniccaaW.PrintLast Go.Proofs.YtkdkmpbdpniccaaW.PrintMore Go.Proofs.Ytkdkmpbdpniccaa.Base
set_option linter.unusedVariables false
set_option linter.unusedSimpArgs false

theorem take_step {α β : Type} {c : α → β} {xs : List α} {out : List β} {i : Nat} (hi : i < xs.length) (hl : out.length = xs.length) (h : out.take i = (xs.take i).map c) : (out.set i (c xs[i])).take (i + 1) = (xs.take (i + 1)).map c := by
  rw [take_set_succ (by omega), h, List.take_succ_eq_append_getElem hi, List.map_append]
  rfl


def gIns (x : S79) : Prop := gStr x.f0 ∧ gInt x.f1 ∧ gInt x.f2

def wIns (x : S79) : Nat := x.f0.size

def cIns (x : S79) : S80 := ⟨x.f0, x.f1, x.f2⟩

theorem ev_laws_szIns (s0 : ByteArray) (a1 : Int) (a2 : Int) (hs0 : gStr s0) (a : Int) (h0 : 0 ≤ a) (h1 : a ≤ 1048576) : EvP (fun _ => laws_szIns.f s0 a1 a2 a) (fun r => 0 ≤ r → r = a - ((s0.size : Nat) : Int)) := by
  unfold laws_szIns.f
  unfold gStr at hs0
  rw [w64 (n := a - (s0.size : Int)) (by omega) (by omega)]
  refine EvP.ite (fun hc => EvP.ret _ (fun h => absurd h (by omega))) (fun hc => ?_)
  obtain ⟨ts0, hts0⟩ : ∃ t : Int, t = a - (s0.size : Int) := ⟨_, rfl⟩
  rw [← hts0] at hc ⊢
  exact EvP.ret _ (fun _ => by omega)

theorem ev_laws_toIns (s0 : ByteArray) (a1 : Int) (a2 : Int)  : EvP (fun _ => laws_toIns.f s0 a1 a2) (· = (s0, a1, a2)) := by
  unfold laws_toIns.f
  exact EvP.ret _ rfl

def qIns (x : S80) : Prop := True

theorem ev_laws_eqIns (s0 : ByteArray) (a1 : Int) (a2 : Int)  : EvP (fun _ => laws_eqIns.f s0 a1 a2 s0 a1 a2) (· = true) := by
  unfold laws_eqIns.f
  refine EvP.pos (by trivial) ?_
  refine EvP.pos (by trivial) ?_
  refine EvP.pos (by trivial) ?_
  exact EvP.ret _ rfl

theorem ev_laws_szStringS_l0 (xs : List ByteArray) (hx : gL gStr xs) : ∀ i, i ≤ xs.length → ∀ a : Int, 0 ≤ a → a ≤ 1048576 → EvP (fun k => laws_szStringS.l0 k xs a i) (fun r => 0 ≤ r → r = a - ((((xs.drop i).map ByteArray.size).sum : Nat) : Int)) := by
  refine upInd ?_ ?_
  · intro a h0 h1
    refine EvP.succ ?_
    simp only [laws_szStringS.l0]
    exact EvP.neg (by omega) (EvP.ret _ (fun _ => by simp))
  · intro i hi ih a h0 h1
    refine EvP.succ ?_
    simp only [laws_szStringS.l0]
    have e : rdOf ByteArray.empty xs (i : Int) = xs[i] := getDn hi
    have hb := hx.2 _ (List.getElem_mem hi)
    unfold gStr at hb
    rw [e, w64s hi hx.1, w64 (n := a - (xs[i].size : Int)) (by omega) (by omega)]
    refine EvP.pos (by omega) (EvP.pos (by omega) (EvP.ite (fun hc => EvP.ret _ (fun h => absurd h (by omega))) (fun hc => ?_)))
    refine (ih _ (by omega) (by omega)).mono (fun r hr h => ?_)
    rw [hr h, List.drop_eq_getElem_cons hi]
    simp only [List.map_cons, List.sum_cons]
    omega
theorem ev_laws_szStringS (xs : List ByteArray) (hx : gL gStr xs) (a : Int) (h0 : 0 ≤ a) (h1 : a ≤ 1048576) : EvP (fun k => laws_szStringS.f k xs a) (fun r => 0 ≤ r → r = a - ((wl ByteArray.size xs : Nat) : Int)) := by
  have h2 := hx.1
  unfold laws_szStringS.f
  rw [w64 (by omega) (by omega)]
  refine EvP.ite (fun hc => EvP.ret _ (fun h => absurd h (by omega))) (fun hc => ?_)
  refine (ev_laws_szStringS_l0 xs hx 0 (by omega) _ (by omega) (by omega)).mono (fun r hr h => ?_)
  rw [hr h]
  simp only [List.drop_zero]
  unfold wl
  omega

theorem ev_laws_szIntS (xs : List Int) (hx : gL gInt xs) (a : Int) (h0 : 0 ≤ a) (h1 : a ≤ 1048576) : EvP (fun _ => laws_szIntS.f xs a) (fun r => 0 ≤ r → r = a - ((wl (fun _ : Int => 0) xs : Nat) : Int)) := by
  have h2 := hx.1
  unfold laws_szIntS.f
  rw [w64 (by omega) (by omega)]
  refine EvP.ite (fun hc => EvP.ret _ (fun h => absurd h (by omega))) (fun hc => EvP.ret _ (fun _ => ?_))
  unfold wl
  have := sum_map_zero xs
  omega

theorem ev_laws_szInsS_l0 (xs : List (S79)) (hx : gL gIns xs) : ∀ i, i ≤ xs.length → ∀ a : Int, 0 ≤ a → a ≤ 1048576 → EvP (fun k => laws_szInsS.l0 k xs a i) (fun r => 0 ≤ r → r = a - ((((xs.drop i).map wIns).sum : Nat) : Int)) := by
  refine upInd ?_ ?_
  · intro a h0 h1
    refine EvP.succ ?_
    simp only [laws_szInsS.l0]
    exact EvP.neg (by omega) (EvP.ret _ (fun _ => by simp))
  · intro i hi ih a h0 h1
    refine EvP.succ ?_
    simp only [laws_szInsS.l0]
    have e : rd_T79 xs (i : Int) = xs[i] := getDn hi
    have hb := hx.2 _ (List.getElem_mem hi)
    rw [e, w64s hi hx.1]
    refine EvP.pos (by omega) (EvP.pos (by omega) (EvP.bind (ev_laws_szIns xs[i].f0 xs[i].f1 xs[i].f2 hb.1 a h0 h1) (fun t ht => EvP.ite (fun hc => EvP.ret _ (fun h => absurd h (by omega))) (fun hc => ?_))))
    have ht := ht (by omega)
    refine (ih _ (by omega) (by omega)).mono (fun r hr h => ?_)
    have hw : wIns xs[i] = xs[i].f0.size := rfl
    rw [hr h, List.drop_eq_getElem_cons hi]
    simp only [List.map_cons, List.sum_cons]
    omega
theorem ev_laws_szInsS (xs : List (S79)) (hx : gL gIns xs) (a : Int) (h0 : 0 ≤ a) (h1 : a ≤ 1048576) : EvP (fun k => laws_szInsS.f k xs a) (fun r => 0 ≤ r → r = a - ((wl wIns xs : Nat) : Int)) := by
  have h2 := hx.1
  unfold laws_szInsS.f
  rw [w64 (by omega) (by omega)]
  refine EvP.ite (fun hc => EvP.ret _ (fun h => absurd h (by omega))) (fun hc => ?_)
  refine (ev_laws_szInsS_l0 xs hx 0 (by omega) _ (by omega) (by omega)).mono (fun r hr h => ?_)
  rw [hr h]
  simp only [List.drop_zero]
  unfold wl
  omega

theorem ev_laws_szFunc (a0 : Int) (l1 : List ByteArray) (l2 : List ByteArray) (l3 : List ByteArray) (l4 : List Int) (l5 : List (S79)) (hl1 : (gL gStr) l1) (hl2 : (gL gStr) l2) (hl3 : (gL gStr) l3) (hl4 : (gL gInt) l4) (hl5 : (gL gIns) l5) (a : Int) (h0 : 0 ≤ a) (h1 : a ≤ 1048576) : EvP (fun k => laws_szFunc.f k a0 l1 l2 l3 l4 l5 a) (fun r => 0 ≤ r → r = a - ((wl ByteArray.size l1 + wl ByteArray.size l2 + wl ByteArray.size l3 + wl (fun _ : Int => 0) l4 + wl wIns l5 : Nat) : Int)) := by
  unfold laws_szFunc.f
  refine EvP.bind (ev_laws_szStringS l1 hl1 a (by omega) (by omega)) (fun tl1 htl1 => EvP.ite (fun hc => EvP.ret _ (fun h => absurd h (by omega))) (fun hc => ?_))
  have htl1 := htl1 (by omega)
  refine EvP.bind (ev_laws_szStringS l2 hl2 tl1 (by omega) (by omega)) (fun tl2 htl2 => EvP.ite (fun hc => EvP.ret _ (fun h => absurd h (by omega))) (fun hc => ?_))
  have htl2 := htl2 (by omega)
  refine EvP.bind (ev_laws_szStringS l3 hl3 tl2 (by omega) (by omega)) (fun tl3 htl3 => EvP.ite (fun hc => EvP.ret _ (fun h => absurd h (by omega))) (fun hc => ?_))
  have htl3 := htl3 (by omega)
  refine EvP.bind (ev_laws_szIntS l4 hl4 tl3 (by omega) (by omega)) (fun tl4 htl4 => EvP.ite (fun hc => EvP.ret _ (fun h => absurd h (by omega))) (fun hc => ?_))
  have htl4 := htl4 (by omega)
  refine EvP.bind (ev_laws_szInsS l5 hl5 tl4 (by omega) (by omega)) (fun tl5 htl5 => EvP.ite (fun hc => EvP.ret _ (fun h => absurd h (by omega))) (fun hc => ?_))
  have htl5 := htl5 (by omega)
  exact EvP.ret _ (fun _ => by omega)

theorem ev_laws_toStringS_l0 (xs : List ByteArray) (hx : wl ByteArray.size xs ≤ 1048576) : ∀ i, i ≤ xs.length → ∀ out : List ByteArray, out.length = xs.length → out.take i = (xs.take i).map id → EvP (fun k => laws_toStringS.l0 k xs out i) (· = xs.map id) := by
  have hn := Nat.le_trans len_wl hx
  refine upInd ?_ ?_
  · intro out hl ht
    refine EvP.succ ?_
    simp only [laws_toStringS.l0]
    refine EvP.neg (by omega) (EvP.ret _ ?_)
    rw [List.take_of_length_le (by omega), List.take_of_length_le (by omega)] at ht
    exact ht
  · intro i hi ih out hl ht
    refine EvP.succ ?_
    simp only [laws_toStringS.l0]
    have e : rdOf ByteArray.empty xs (i : Int) = xs[i] := getDn hi
    rw [e, w64s hi (by omega), Int.toNat_natCast]
    exact EvP.pos (by omega) (EvP.pos (by omega) (EvP.pos (by omega) (ih _ (by simpa using hl) (take_step (c := id) hi hl ht))))
theorem ev_laws_toStringS (xs : List ByteArray) (hx : wl ByteArray.size xs ≤ 1048576) : EvP (fun k => laws_toStringS.f k xs) (· = xs) := by
  have hn := Nat.le_trans len_wl hx
  unfold laws_toStringS.f
  refine EvP.pos (by omega) (EvP.pos (by rw [Int.toNat_natCast]; omega) ?_)
  refine (ev_laws_toStringS_l0 xs hx 0 (by omega) _ (by simp) rfl).mono (fun r hr => ?_)
  rw [hr]
  first | rfl | simp

theorem ev_laws_toIntS_l0 (xs : List Int) (hx : wl (fun _ : Int => 0) xs ≤ 1048576) : ∀ i, i ≤ xs.length → ∀ out : List Int, out.length = xs.length → out.take i = (xs.take i).map id → EvP (fun k => laws_toIntS.l0 k xs out i) (· = xs.map id) := by
  have hn := Nat.le_trans len_wl hx
  refine upInd ?_ ?_
  · intro out hl ht
    refine EvP.succ ?_
    simp only [laws_toIntS.l0]
    refine EvP.neg (by omega) (EvP.ret _ ?_)
    rw [List.take_of_length_le (by omega), List.take_of_length_le (by omega)] at ht
    exact ht
  · intro i hi ih out hl ht
    refine EvP.succ ?_
    simp only [laws_toIntS.l0]
    have e : rd xs (i : Int) = xs[i] := getDn hi
    rw [e, w64s hi (by omega), Int.toNat_natCast]
    exact EvP.pos (by omega) (EvP.pos (by omega) (EvP.pos (by omega) (ih _ (by simpa using hl) (take_step (c := id) hi hl ht))))
theorem ev_laws_toIntS (xs : List Int) (hx : wl (fun _ : Int => 0) xs ≤ 1048576) : EvP (fun k => laws_toIntS.f k xs) (· = xs) := by
  have hn := Nat.le_trans len_wl hx
  unfold laws_toIntS.f
  refine EvP.pos (by omega) (EvP.pos (by rw [Int.toNat_natCast]; omega) ?_)
  refine (ev_laws_toIntS_l0 xs hx 0 (by omega) _ (by simp) rfl).mono (fun r hr => ?_)
  rw [hr]
  first | rfl | simp

theorem ev_laws_toInsS_l0 (xs : List (S79)) (hx : wl wIns xs ≤ 1048576) : ∀ i, i ≤ xs.length → ∀ out : List (S80), out.length = xs.length → out.take i = (xs.take i).map cIns → EvP (fun k => laws_toInsS.l0 k xs out i) (· = xs.map cIns) := by
  have hn := Nat.le_trans len_wl hx
  refine upInd ?_ ?_
  · intro out hl ht
    refine EvP.succ ?_
    simp only [laws_toInsS.l0]
    refine EvP.neg (by omega) (EvP.ret _ ?_)
    rw [List.take_of_length_le (by omega), List.take_of_length_le (by omega)] at ht
    exact ht
  · intro i hi ih out hl ht
    refine EvP.succ ?_
    simp only [laws_toInsS.l0]
    have e : rd_T79 xs (i : Int) = xs[i] := getDn hi
    rw [e, w64s hi (by omega), Int.toNat_natCast]
    have hm := mem_wl (f := wIns) (List.getElem_mem hi)
    have hw : wIns xs[i] = xs[i].f0.size := rfl
    refine EvP.pos (by omega) (EvP.pos (by omega) (EvP.bind (ev_laws_toIns xs[i].f0 xs[i].f1 xs[i].f2 ) (fun t ht2 => ?_)))
    subst ht2
    exact EvP.pos (by omega) (ih _ (by simpa using hl) (take_step (c := cIns) hi hl ht))
theorem ev_laws_toInsS (xs : List (S79)) (hx : wl wIns xs ≤ 1048576) : EvP (fun k => laws_toInsS.f k xs) (· = (xs.map cIns)) := by
  have hn := Nat.le_trans len_wl hx
  unfold laws_toInsS.f
  refine EvP.pos (by omega) (EvP.pos (by rw [Int.toNat_natCast]; omega) ?_)
  refine (ev_laws_toInsS_l0 xs hx 0 (by omega) _ (by simp) rfl).mono (fun r hr => ?_)
  rw [hr]

theorem ev_laws_toFunc (a0 : Int) (l1 : List ByteArray) (l2 : List ByteArray) (l3 : List ByteArray) (l4 : List Int) (l5 : List (S79)) (hl1 : wl ByteArray.size l1 ≤ 1048576) (hl2 : wl ByteArray.size l2 ≤ 1048576) (hl3 : wl ByteArray.size l3 ≤ 1048576) (hl4 : wl (fun _ : Int => 0) l4 ≤ 1048576) (hl5 : wl wIns l5 ≤ 1048576) : EvP (fun k => laws_toFunc.f k a0 l1 l2 l3 l4 l5) (· = (a0, l1, l2, l3, l4, (l5.map cIns))) := by
  unfold laws_toFunc.f
  refine EvP.bind (ev_laws_toStringS l1 hl1) (fun tl1 htl1 => ?_)
  subst htl1
  refine EvP.bind (ev_laws_toStringS l2 hl2) (fun tl2 htl2 => ?_)
  subst htl2
  refine EvP.bind (ev_laws_toStringS l3 hl3) (fun tl3 htl3 => ?_)
  subst htl3
  refine EvP.bind (ev_laws_toIntS l4 hl4) (fun tl4 htl4 => ?_)
  subst htl4
  refine EvP.bind (ev_laws_toInsS l5 hl5) (fun tl5 htl5 => ?_)
  subst htl5
  exact EvP.ret _ rfl

def qStringS (xs : List ByteArray) : Prop := xs.length ≤ 9223372036854775807

theorem ev_laws_eqStringS_l0 (xs : List ByteArray) (hx : qStringS xs) : ∀ i, i ≤ xs.length → EvP (fun k => laws_eqStringS.l0 k xs xs i) (· = true) := by
  refine upInd ?_ ?_
  · refine EvP.succ ?_
    simp only [laws_eqStringS.l0]
    exact EvP.neg (by omega) (EvP.ret _ rfl)
  · intro i hi ih
    refine EvP.succ ?_
    simp only [laws_eqStringS.l0]
    rw [w64s hi hx]
    exact EvP.pos (by omega) (EvP.pos (by omega) (EvP.pos (by omega) (EvP.pos (by trivial) ih)))
theorem ev_laws_eqStringS (xs : List ByteArray) (hx : qStringS xs) : EvP (fun k => laws_eqStringS.f k xs xs) (· = true) := by
  unfold laws_eqStringS.f
  exact EvP.pos (by trivial) (ev_laws_eqStringS_l0 xs hx 0 (by omega))

def qIntS (xs : List Int) : Prop := xs.length ≤ 9223372036854775807

theorem ev_laws_eqIntS_l0 (xs : List Int) (hx : qIntS xs) : ∀ i, i ≤ xs.length → EvP (fun k => laws_eqIntS.l0 k xs xs i) (· = true) := by
  refine upInd ?_ ?_
  · refine EvP.succ ?_
    simp only [laws_eqIntS.l0]
    exact EvP.neg (by omega) (EvP.ret _ rfl)
  · intro i hi ih
    refine EvP.succ ?_
    simp only [laws_eqIntS.l0]
    rw [w64s hi hx]
    exact EvP.pos (by omega) (EvP.pos (by omega) (EvP.pos (by omega) (EvP.pos (by trivial) ih)))
theorem ev_laws_eqIntS (xs : List Int) (hx : qIntS xs) : EvP (fun k => laws_eqIntS.f k xs xs) (· = true) := by
  unfold laws_eqIntS.f
  exact EvP.pos (by trivial) (ev_laws_eqIntS_l0 xs hx 0 (by omega))

def qInsS (xs : List (S80)) : Prop := xs.length ≤ 9223372036854775807 ∧ ∀ x ∈ xs, qIns x

theorem ev_laws_eqInsS_l0 (xs : List (S80)) (hx : qInsS xs) : ∀ i, i ≤ xs.length → EvP (fun k => laws_eqInsS.l0 k xs xs i) (· = true) := by
  refine upInd ?_ ?_
  · refine EvP.succ ?_
    simp only [laws_eqInsS.l0]
    exact EvP.neg (by omega) (EvP.ret _ rfl)
  · intro i hi ih
    refine EvP.succ ?_
    simp only [laws_eqInsS.l0]
    rw [w64s hi hx.1]
    have e : rd_T80 xs (i : Int) = xs[i] := getDn hi
    have hb := hx.2 _ (List.getElem_mem hi)
    rw [e]
    refine EvP.pos (by omega) (EvP.pos (by omega) (EvP.pos (by omega) (EvP.bind (ev_laws_eqIns xs[i].f0 xs[i].f1 xs[i].f2 ) (fun t ht => ?_))))
    subst ht
    exact EvP.pos (by trivial) ih
theorem ev_laws_eqInsS (xs : List (S80)) (hx : qInsS xs) : EvP (fun k => laws_eqInsS.f k xs xs) (· = true) := by
  unfold laws_eqInsS.f
  exact EvP.pos (by trivial) (ev_laws_eqInsS_l0 xs hx 0 (by omega))

theorem ev_laws_eqFunc (a0 : Int) (l1 : List ByteArray) (l2 : List ByteArray) (l3 : List ByteArray) (l4 : List Int) (l5 : List (S80)) (hl1 : qStringS l1) (hl2 : qStringS l2) (hl3 : qStringS l3) (hl4 : qIntS l4) (hl5 : qInsS l5) : EvP (fun k => laws_eqFunc.f k a0 l1 l2 l3 l4 l5 a0 l1 l2 l3 l4 l5) (· = true) := by
  unfold laws_eqFunc.f
  refine EvP.pos (by trivial) ?_
  refine EvP.bind (ev_laws_eqStringS l1 hl1) (fun tl1 htl1 => ?_)
  subst htl1
  refine EvP.pos (by trivial) ?_
  refine EvP.bind (ev_laws_eqStringS l2 hl2) (fun tl2 htl2 => ?_)
  subst htl2
  refine EvP.pos (by trivial) ?_
  refine EvP.bind (ev_laws_eqStringS l3 hl3) (fun tl3 htl3 => ?_)
  subst htl3
  refine EvP.pos (by trivial) ?_
  refine EvP.bind (ev_laws_eqIntS l4 hl4) (fun tl4 htl4 => ?_)
  subst htl4
  refine EvP.pos (by trivial) ?_
  refine EvP.bind (ev_laws_eqInsS l5 hl5) (fun tl5 htl5 => ?_)
  subst htl5
  refine EvP.pos (by trivial) ?_
  exact EvP.ret _ rfl

/-- The type of a place: arguments first. -/
def funcPlace (l1 l3 : List ByteArray) (n : Int) : ByteArray × Bool :=
  if 0 ≤ n ∧ n < (l1.length : Int) + l3.length then (if n < l1.length then l1.getD n.toNat ByteArray.empty else l3.getD (n - l1.length).toNat ByteArray.empty, true) else ((⟨#[]⟩ : ByteArray), false)

theorem eq_spec_FuncPlace (a0 : Int) (l1 l2 l3 : List ByteArray) (l4 : List Int) (l5 : List S80) (n : Int) (h1 : l1.length ≤ 1048576) (h3 : l3.length ≤ 1048576) (hn : gInt n) :
    spec_FuncPlace.f a0 l1 l2 l3 l4 l5 n = some (funcPlace l1 l3 n) := by
  unfold gInt at hn
  unfold spec_FuncPlace.f spec_l6In.f funcPlace
  rw [w64 (n := (l1.length : Int) + l3.length) (by omega) (by omega), w64 (n := (l1.length : Int) + l3.length - 1) (by omega) (by omega)]
  by_cases h0 : n ≥ 0
  · rw [if_pos h0]
    simp only [Option.bind_some]
    by_cases hl : n ≤ (l1.length : Int) + l3.length - 1
    · rw [if_pos (by simpa using hl), if_pos ⟨h0, by omega⟩]
      unfold spec_l4Place.f
      by_cases hc : n < (l1.length : Int)
      · rw [if_pos hc, if_pos h0, if_pos hc]
        rfl
      · rw [if_neg hc, if_neg hc, w64 (by omega) (by omega), if_pos (by omega), if_pos (by omega)]
        rfl
    · rw [if_neg (by simpa using hl), if_neg (by omega)]
  · rw [if_neg h0]
    simp only [Option.bind_some]
    rw [if_neg (by simp), if_neg (by omega)]

theorem ev_impl_FuncPlace (a0 : Int) (l1 l2 l3 : List ByteArray) (l4 : List Int) (l5 : List S80) (n : Int) (h1 : l1.length ≤ 1048576) (h3 : l3.length ≤ 1048576) (hn : gInt n) :
    EvP (fun k => impl_FuncPlace.f k a0 l1 l2 l3 l4 l5 n) (· = funcPlace l1 l3 n) := by
  unfold gInt at hn
  unfold impl_FuncPlace.f
  rw [w64 (n := (l1.length : Int) + l3.length) (by omega) (by omega)]
  refine EvP.ite (fun h => ?_) (fun h => ?_)
  · refine EvP.succ ?_
    simp only [impl_FuncPlace.j0]
    refine EvP.pos (by trivial) (EvP.ret _ ?_)
    unfold funcPlace
    rw [if_neg (by omega)]
  · refine EvP.succ ?_
    simp only [impl_FuncPlace.j0]
    refine EvP.ite (fun hc => EvP.ret _ ?_) (fun hc => ?_)
    · have hc := of_decide_eq_true hc
      unfold funcPlace
      rw [if_neg (by omega)]
    · have hc : ¬ (n ≥ (l1.length : Int) + l3.length) := by simpa using hc
      have e : funcPlace l1 l3 n = (if n < l1.length then l1.getD n.toNat ByteArray.empty else l3.getD (n - l1.length).toNat ByteArray.empty, true) := by
        unfold funcPlace
        rw [if_pos (by omega)]
      rw [e]
      refine EvP.ite (fun hd => EvP.pos (by omega) (EvP.ret _ ?_)) (fun hd => ?_)
      · rw [if_pos hd]
        rfl
      · rw [w64 (by omega) (by omega)]
        refine EvP.pos (by omega) (EvP.pos (by omega) (EvP.ret _ ?_))
        rw [if_neg hd]
        rfl

theorem FnExactFuncPlace (a0 : Int) (l1 l2 l3 : List ByteArray) (l4 : List Int) (l5 : List S79) (n : Int) (g : gInt a0 ∧ gL gStr l1 ∧ gL gStr l2 ∧ gL gStr l3 ∧ gL gInt l4 ∧ gL gIns l5) (hn : gInt n) :
    ∃ k, laws_FnExactFuncPlace.f k a0 l1 l2 l3 l4 l5 n = some true := by
  obtain ⟨-, g1, g2, g3, g4, g5⟩ := g
  refine EvP.rounds ?_
  unfold laws_FnExactFuncPlace.f
  refine EvP.bind (ev_laws_szFunc a0 l1 l2 l3 l4 l5 g1 g2 g3 g4 g5 1048576 (by omega) (by omega)) (fun t ht => EvP.ite (fun _ => EvP.ret _ rfl) (fun hc => ?_))
  have ht := ht (by omega)
  have w1 : wl ByteArray.size l1 ≤ 1048576 := by omega
  have w2 : wl ByteArray.size l2 ≤ 1048576 := by omega
  have w3 : wl ByteArray.size l3 ≤ 1048576 := by omega
  have w4 : wl (fun _ : Int => 0) l4 ≤ 1048576 := by omega
  have w5 : wl wIns l5 ≤ 1048576 := by omega
  have n1 := Nat.le_trans (len_wl (f := ByteArray.size)) w1
  have n3 := Nat.le_trans (len_wl (f := ByteArray.size)) w3
  refine EvP.bind (ev_laws_toFunc a0 l1 l2 l3 l4 l5 w1 w2 w3 w4 w5) (fun t1 h1 => ?_)
  subst h1
  refine EvP.call (eq_spec_FuncPlace _ _ _ _ _ _ _ n1 n3 hn) ?_
  refine EvP.bind (ev_laws_toFunc a0 l1 l2 l3 l4 l5 w1 w2 w3 w4 w5) (fun t2 h2 => ?_)
  subst h2
  refine EvP.bind (ev_impl_FuncPlace _ _ _ _ _ _ _ n1 n3 hn) (fun t3 h3 => ?_)
  subst h3
  refine EvP.pos (by trivial) ?_
  refine EvP.succ ?_
  simp only [laws_FnExactFuncPlace.j0]
  refine EvP.neg (by simp) ?_
  refine EvP.bind (ev_laws_toFunc a0 l1 l2 l3 l4 l5 w1 w2 w3 w4 w5) (fun t4 h4 => ?_)
  subst h4
  refine EvP.bind (ev_laws_eqFunc _ _ _ _ _ _ ?_ ?_ ?_ ?_ ?_) (fun t5 h5 => ?_)
  · unfold qStringS; omega
  · unfold qStringS; have := Nat.le_trans (len_wl (f := ByteArray.size)) w2; omega
  · unfold qStringS; omega
  · unfold qIntS; have := Nat.le_trans (len_wl (f := fun _ : Int => 0)) w4; omega
  · refine ⟨?_, fun _ _ => trivial⟩
    have := Nat.le_trans (len_wl (f := wIns)) w5
    simp
    omega
  · subst h5
    exact EvP.pos (by trivial) (EvP.ret _ rfl)


end Go.Proofs.Ytkdkmpbdpniccaa.Pure
