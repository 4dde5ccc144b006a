/- What the functions of the law FnExactShapeFirst come to, in plain lists, for every shelf within the bounds of the reading and every two numbers. -/
-- squeezed
import Derived.Test.YtcdamcfklehedaaGreatDoorOFnExactShapeFirstx1
import Derived.Test.YtcdamcfklehedaaGreatDoorOFnExactShapeFirstx2
import Derived.Test.YtcdamcfklehedaaGreatDoorOFnExactShapeFirstx3
import Derived.Test.YtcdamcfklehedaaGreatDoorOFnExactShapeFirstx4
import Derived.Test.YtcdamcfklehedaaGreatDoorOFnExactShapeFirstx5
import Derived.Test.YtcdamcfklehedaaGreatDoorOFnExactShapeFirstx6
import Derived.Test.YtcdamcfklehedaaGreatDoorBase
namespace Go.Proofs.YtcdamcfklehedaaGreatDoor.Pure
open Go.RowKit Go.Proofs.YtcdamcfklehedaaGreatDoor.OFnExactShapeFirst Go.Proofs.YtcdamcfklehedaaGreatDoorW.PrintWords Go.Proofs.YtcdamcfklehedaaGreatDoorW.PrintLast Go.Proofs.YtcdamcfklehedaaGreatDoorW.PrintMore Go.Proofs.YtcdamcfklehedaaGreatDoor.Base
set_option linter.unusedVariables false
set_option linter.unusedSimpArgs false
theorem take_step {α β : Type} {c : α → β} {xs : List α} {out : List β} {i : Nat} (hi : i < xs.length) (hl : out.length = xs.length) (h : out.take i = (xs.take i).map c) : (out.set i (c xs[i])).take (i + 1) = (xs.take (i + 1)).map c:=by
 rw [take_set_succ (by omega),h,List.take_succ_eq_append_getElem hi,List.map_append]
 rfl
def gRecord (x : S124) : Prop:=gInt x.f0 ∧ (gL gStr) x.f1
def wRecord (x : S124) : Nat:=wl ByteArray.size x.f1
def cRecord (x : S124) : S97:=⟨x.f0,x.f1⟩
theorem ev_laws_szStringS_l0 (xs : List ByteArray) (hx : gL gStr xs) : ∀ i,i ≤ xs.length → ∀ a : Int,0 ≤ a → a ≤ 1048576 → EvP (fun k=>laws_szStringS.l0 k xs a i) (fun r=>0 ≤ r → r = a - ((((xs.drop i).map ByteArray.size).sum : Nat) : Int)):=by
 refine upInd ?_ ?_
 ·intro a h0 h1
  refine EvP.succ ?_
  simp only [laws_szStringS.l0]
  exact EvP.neg (by omega) (EvP.ret _ (fun _=>by simp))
 ·intro i hi ih a h0 h1
  refine EvP.succ ?_
  simp only [laws_szStringS.l0]
  have e : rdOf ByteArray.empty xs (i : Int) = xs[i]:=getDn hi
  have hb:=hx.2 _ (List.getElem_mem hi)
  unfold gStr at hb
  rw [e,w64s hi hx.1,w64 (n:=a - (xs[i].size : Int)) (by omega) (by omega)]
  refine EvP.pos (by omega) (EvP.pos (by omega) (EvP.ite (fun hc=>EvP.ret _ (fun h=>absurd h (by omega))) (fun hc=>?_)))
  refine (ih _ (by omega) (by omega)).mono (fun r hr h=>?_)
  rw [hr h,List.drop_eq_getElem_cons hi]
  simp only [List.map_cons,List.sum_cons]
  omega
theorem ev_laws_szStringS (xs : List ByteArray) (hx : gL gStr xs) (a : Int) (h0 : 0 ≤ a) (h1 : a ≤ 1048576) : EvP (fun k=>laws_szStringS.f k xs a) (fun r=>0 ≤ r → r = a - ((wl ByteArray.size xs : Nat) : Int)):=by
 have h2:=hx.1
 unfold laws_szStringS.f
 rw [w64 (by omega) (by omega)]
 refine EvP.ite (fun hc=>EvP.ret _ (fun h=>absurd h (by omega))) (fun hc=>?_)
 refine (ev_laws_szStringS_l0 xs hx 0 (by omega) _ (by omega) (by omega)).mono (fun r hr h=>?_)
 rw [hr h]
 simp only [List.drop_zero]
 unfold wl
 omega
theorem ev_laws_szRecord (a0 : Int) (l1 : List ByteArray) (hl1 : (gL gStr) l1) (a : Int) (h0 : 0 ≤ a) (h1 : a ≤ 1048576) : EvP (fun k=>laws_szRecord.f k a0 l1 a) (fun r=>0 ≤ r → r = a - ((wl ByteArray.size l1 : Nat) : Int)):=by
 unfold laws_szRecord.f
 refine EvP.bind (ev_laws_szStringS l1 hl1 a (by omega) (by omega)) (fun tl1 htl1=>EvP.ite (fun hc=>EvP.ret _ (fun h=>absurd h (by omega))) (fun hc=>?_))
 have htl1:=htl1 (by omega)
 exact EvP.ret _ (fun _=>by omega)
theorem ev_laws_toStringS_l0 (xs : List ByteArray) (hx : wl ByteArray.size xs ≤ 1048576) : ∀ i,i ≤ xs.length → ∀ out : List ByteArray,out.length = xs.length → out.take i = (xs.take i).map id → EvP (fun k=>laws_toStringS.l0 k xs out i) (· = xs.map id):=by
 have hn:=Nat.le_trans len_wl hx
 refine upInd ?_ ?_
 ·intro out hl ht
  refine EvP.succ ?_
  simp only [laws_toStringS.l0]
  refine EvP.neg (by omega) (EvP.ret _ ?_)
  rw [List.take_of_length_le (by omega),List.take_of_length_le (by omega)] at ht
  exact ht
 ·intro i hi ih out hl ht
  refine EvP.succ ?_
  simp only [laws_toStringS.l0]
  have e : rdOf ByteArray.empty xs (i : Int) = xs[i]:=getDn hi
  rw [e,w64s hi (by omega),Int.toNat_natCast]
  exact EvP.pos (by omega) (EvP.pos (by omega) (EvP.pos (by omega) (ih _ (by simpa using hl) (take_step (c:=id) hi hl ht))))
theorem ev_laws_toStringS (xs : List ByteArray) (hx : wl ByteArray.size xs ≤ 1048576) : EvP (fun k=>laws_toStringS.f k xs) (· = xs):=by
 have hn:=Nat.le_trans len_wl hx
 unfold laws_toStringS.f
 refine EvP.pos (by omega) (EvP.pos (by rw [Int.toNat_natCast];omega) ?_)
 refine (ev_laws_toStringS_l0 xs hx 0 (by omega) _ (by simp) rfl).mono (fun r hr=>?_)
 rw [hr]
 first | rfl | simp
theorem ev_laws_toRecord (a0 : Int) (l1 : List ByteArray) (hl1 : wl ByteArray.size l1 ≤ 1048576) : EvP (fun k=>laws_toRecord.f k a0 l1) (· = (a0,l1)):=by
 unfold laws_toRecord.f
 refine EvP.bind (ev_laws_toStringS l1 hl1) (fun tl1 htl1=>?_)
 subst htl1
 exact EvP.ret _ rfl
def qStringS (xs : List ByteArray) : Prop:=xs.length ≤ 9223372036854775807
def qRecord (x : S97) : Prop:=qStringS x.f1
theorem ev_laws_eqStringS_l0 (xs : List ByteArray) (hx : qStringS xs) : ∀ i,i ≤ xs.length → EvP (fun k=>laws_eqStringS.l0 k xs xs i) (· = true):=by
 refine upInd ?_ ?_
 ·refine EvP.succ ?_
  simp only [laws_eqStringS.l0]
  exact EvP.neg (by omega) (EvP.ret _ rfl)
 ·intro i hi ih
  refine EvP.succ ?_
  simp only [laws_eqStringS.l0]
  rw [w64s hi hx]
  exact EvP.pos (by omega) (EvP.pos (by omega) (EvP.pos (by omega) (EvP.pos (by trivial) ih)))
theorem ev_laws_eqStringS (xs : List ByteArray) (hx : qStringS xs) : EvP (fun k=>laws_eqStringS.f k xs xs) (· = true):=by
 unfold laws_eqStringS.f
 exact EvP.pos (by trivial) (ev_laws_eqStringS_l0 xs hx 0 (by omega))
theorem ev_laws_eqRecord (a0 : Int) (l1 : List ByteArray) (hl1 : qStringS l1) : EvP (fun k=>laws_eqRecord.f k a0 l1 a0 l1) (· = true):=by
 unfold laws_eqRecord.f
 refine EvP.pos (by trivial) ?_
 refine EvP.bind (ev_laws_eqStringS l1 hl1) (fun tl1 htl1=>?_)
 subst htl1
 refine EvP.pos (by trivial) ?_
 exact EvP.ret _ rfl
def gIns (x : S181) : Prop:=gStr x.f0 ∧ gInt x.f1 ∧ gInt x.f2
def wIns (x : S181) : Nat:=x.f0.size
def cIns (x : S181) : S107:=⟨x.f0,x.f1,x.f2⟩
theorem ev_laws_szIns (s0 : ByteArray) (a1 : Int) (a2 : Int) (hs0 : gStr s0) (a : Int) (h0 : 0 ≤ a) (h1 : a ≤ 1048576) : EvP (fun _=>laws_szIns.f s0 a1 a2 a) (fun r=>0 ≤ r → r = a - ((s0.size : Nat) : Int)):=by
 unfold laws_szIns.f
 unfold gStr at hs0
 rw [w64 (n:=a - (s0.size : Int)) (by omega) (by omega)]
 refine EvP.ite (fun hc=>EvP.ret _ (fun h=>absurd h (by omega))) (fun hc=>?_)
 obtain ⟨ts0,hts0⟩ : ∃ t : Int,t = a - (s0.size : Int):=⟨_,rfl⟩
 rw [← hts0] at hc ⊢
 exact EvP.ret _ (fun _=>by omega)
theorem ev_laws_toIns (s0 : ByteArray) (a1 : Int) (a2 : Int)  : EvP (fun _=>laws_toIns.f s0 a1 a2) (· = (s0,a1,a2)):=by
 unfold laws_toIns.f
 exact EvP.ret _ rfl
def qIns (x : S107) : Prop:=True
theorem ev_laws_eqIns (s0 : ByteArray) (a1 : Int) (a2 : Int)  : EvP (fun _=>laws_eqIns.f s0 a1 a2 s0 a1 a2) (· = true):=by
 unfold laws_eqIns.f
 refine EvP.pos (by trivial) ?_
 refine EvP.pos (by trivial) ?_
 refine EvP.pos (by trivial) ?_
 exact EvP.ret _ rfl
def gFunc (x : S128) : Prop:=gInt x.f0 ∧ (gL gStr) x.f1 ∧ (gL gStr) x.f2 ∧ (gL gStr) x.f3 ∧ (gL gInt) x.f4 ∧ (gL gIns) x.f5
def wFunc (x : S128) : Nat:=wl ByteArray.size x.f1 + wl ByteArray.size x.f2 + wl ByteArray.size x.f3 + wl (fun _ : Int=>0) x.f4 + wl wIns x.f5
def cFunc (x : S128) : S57:=⟨x.f0,x.f1,x.f2,x.f3,x.f4,(x.f5.map cIns)⟩
theorem ev_laws_szIntS (xs : List Int) (hx : gL gInt xs) (a : Int) (h0 : 0 ≤ a) (h1 : a ≤ 1048576) : EvP (fun _=>laws_szIntS.f xs a) (fun r=>0 ≤ r → r = a - ((wl (fun _ : Int=>0) xs : Nat) : Int)):=by
 have h2:=hx.1
 unfold laws_szIntS.f
 rw [w64 (by omega) (by omega)]
 refine EvP.ite (fun hc=>EvP.ret _ (fun h=>absurd h (by omega))) (fun hc=>EvP.ret _ (fun _=>?_))
 unfold wl
 have:=sum_map_zero xs
 omega
theorem ev_laws_szInsS_l0 (xs : List (S181)) (hx : gL gIns xs) : ∀ i,i ≤ xs.length → ∀ a : Int,0 ≤ a → a ≤ 1048576 → EvP (fun k=>laws_szInsS.l0 k xs a i) (fun r=>0 ≤ r → r = a - ((((xs.drop i).map wIns).sum : Nat) : Int)):=by
 refine upInd ?_ ?_
 ·intro a h0 h1
  refine EvP.succ ?_
  simp only [laws_szInsS.l0]
  exact EvP.neg (by omega) (EvP.ret _ (fun _=>by simp))
 ·intro i hi ih a h0 h1
  refine EvP.succ ?_
  simp only [laws_szInsS.l0]
  have e : rd_T181 xs (i : Int) = xs[i]:=getDn hi
  have hb:=hx.2 _ (List.getElem_mem hi)
  rw [e,w64s hi hx.1]
  refine EvP.pos (by omega) (EvP.pos (by omega) (EvP.bind (ev_laws_szIns xs[i].f0 xs[i].f1 xs[i].f2 hb.1 a h0 h1) (fun t ht=>EvP.ite (fun hc=>EvP.ret _ (fun h=>absurd h (by omega))) (fun hc=>?_))))
  have ht:=ht (by omega)
  refine (ih _ (by omega) (by omega)).mono (fun r hr h=>?_)
  have hw : wIns xs[i] = xs[i].f0.size:=rfl
  rw [hr h,List.drop_eq_getElem_cons hi]
  simp only [List.map_cons,List.sum_cons]
  omega
theorem ev_laws_szInsS (xs : List (S181)) (hx : gL gIns xs) (a : Int) (h0 : 0 ≤ a) (h1 : a ≤ 1048576) : EvP (fun k=>laws_szInsS.f k xs a) (fun r=>0 ≤ r → r = a - ((wl wIns xs : Nat) : Int)):=by
 have h2:=hx.1
 unfold laws_szInsS.f
 rw [w64 (by omega) (by omega)]
 refine EvP.ite (fun hc=>EvP.ret _ (fun h=>absurd h (by omega))) (fun hc=>?_)
 refine (ev_laws_szInsS_l0 xs hx 0 (by omega) _ (by omega) (by omega)).mono (fun r hr h=>?_)
 rw [hr h]
 simp only [List.drop_zero]
 unfold wl
 omega
theorem ev_laws_szFunc (a0 : Int) (l1 : List ByteArray) (l2 : List ByteArray) (l3 : List ByteArray) (l4 : List Int) (l5 : List (S181)) (hl1 : (gL gStr) l1) (hl2 : (gL gStr) l2) (hl3 : (gL gStr) l3) (hl4 : (gL gInt) l4) (hl5 : (gL gIns) l5) (a : Int) (h0 : 0 ≤ a) (h1 : a ≤ 1048576) : EvP (fun k=>laws_szFunc.f k a0 l1 l2 l3 l4 l5 a) (fun r=>0 ≤ r → r = a - ((wl ByteArray.size l1 + wl ByteArray.size l2 + wl ByteArray.size l3 + wl (fun _ : Int=>0) l4 + wl wIns l5 : Nat) : Int)):=by
 unfold laws_szFunc.f
 refine EvP.bind (ev_laws_szStringS l1 hl1 a (by omega) (by omega)) (fun tl1 htl1=>EvP.ite (fun hc=>EvP.ret _ (fun h=>absurd h (by omega))) (fun hc=>?_))
 have htl1:=htl1 (by omega)
 refine EvP.bind (ev_laws_szStringS l2 hl2 tl1 (by omega) (by omega)) (fun tl2 htl2=>EvP.ite (fun hc=>EvP.ret _ (fun h=>absurd h (by omega))) (fun hc=>?_))
 have htl2:=htl2 (by omega)
 refine EvP.bind (ev_laws_szStringS l3 hl3 tl2 (by omega) (by omega)) (fun tl3 htl3=>EvP.ite (fun hc=>EvP.ret _ (fun h=>absurd h (by omega))) (fun hc=>?_))
 have htl3:=htl3 (by omega)
 refine EvP.bind (ev_laws_szIntS l4 hl4 tl3 (by omega) (by omega)) (fun tl4 htl4=>EvP.ite (fun hc=>EvP.ret _ (fun h=>absurd h (by omega))) (fun hc=>?_))
 have htl4:=htl4 (by omega)
 refine EvP.bind (ev_laws_szInsS l5 hl5 tl4 (by omega) (by omega)) (fun tl5 htl5=>EvP.ite (fun hc=>EvP.ret _ (fun h=>absurd h (by omega))) (fun hc=>?_))
 have htl5:=htl5 (by omega)
 exact EvP.ret _ (fun _=>by omega)
theorem ev_laws_toIntS_l0 (xs : List Int) (hx : wl (fun _ : Int=>0) xs ≤ 1048576) : ∀ i,i ≤ xs.length → ∀ out : List Int,out.length = xs.length → out.take i = (xs.take i).map id → EvP (fun k=>laws_toIntS.l0 k xs out i) (· = xs.map id):=by
 have hn:=Nat.le_trans len_wl hx
 refine upInd ?_ ?_
 ·intro out hl ht
  refine EvP.succ ?_
  simp only [laws_toIntS.l0]
  refine EvP.neg (by omega) (EvP.ret _ ?_)
  rw [List.take_of_length_le (by omega),List.take_of_length_le (by omega)] at ht
  exact ht
 ·intro i hi ih out hl ht
  refine EvP.succ ?_
  simp only [laws_toIntS.l0]
  have e : rd xs (i : Int) = xs[i]:=getDn hi
  rw [e,w64s hi (by omega),Int.toNat_natCast]
  exact EvP.pos (by omega) (EvP.pos (by omega) (EvP.pos (by omega) (ih _ (by simpa using hl) (take_step (c:=id) hi hl ht))))
theorem ev_laws_toIntS (xs : List Int) (hx : wl (fun _ : Int=>0) xs ≤ 1048576) : EvP (fun k=>laws_toIntS.f k xs) (· = xs):=by
 have hn:=Nat.le_trans len_wl hx
 unfold laws_toIntS.f
 refine EvP.pos (by omega) (EvP.pos (by rw [Int.toNat_natCast];omega) ?_)
 refine (ev_laws_toIntS_l0 xs hx 0 (by omega) _ (by simp) rfl).mono (fun r hr=>?_)
 rw [hr]
 first | rfl | simp
theorem ev_laws_toInsS_l0 (xs : List (S181)) (hx : wl wIns xs ≤ 1048576) : ∀ i,i ≤ xs.length → ∀ out : List (S107),out.length = xs.length → out.take i = (xs.take i).map cIns → EvP (fun k=>laws_toInsS.l0 k xs out i) (· = xs.map cIns):=by
 have hn:=Nat.le_trans len_wl hx
 refine upInd ?_ ?_
 ·intro out hl ht
  refine EvP.succ ?_
  simp only [laws_toInsS.l0]
  refine EvP.neg (by omega) (EvP.ret _ ?_)
  rw [List.take_of_length_le (by omega),List.take_of_length_le (by omega)] at ht
  exact ht
 ·intro i hi ih out hl ht
  refine EvP.succ ?_
  simp only [laws_toInsS.l0]
  have e : rd_T181 xs (i : Int) = xs[i]:=getDn hi
  rw [e,w64s hi (by omega),Int.toNat_natCast]
  have hm:=mem_wl (f:=wIns) (List.getElem_mem hi)
  have hw : wIns xs[i] = xs[i].f0.size:=rfl
  refine EvP.pos (by omega) (EvP.pos (by omega) (EvP.bind (ev_laws_toIns xs[i].f0 xs[i].f1 xs[i].f2 ) (fun t ht2=>?_)))
  subst ht2
  exact EvP.pos (by omega) (ih _ (by simpa using hl) (take_step (c:=cIns) hi hl ht))
theorem ev_laws_toInsS (xs : List (S181)) (hx : wl wIns xs ≤ 1048576) : EvP (fun k=>laws_toInsS.f k xs) (· = (xs.map cIns)):=by
 have hn:=Nat.le_trans len_wl hx
 unfold laws_toInsS.f
 refine EvP.pos (by omega) (EvP.pos (by rw [Int.toNat_natCast];omega) ?_)
 refine (ev_laws_toInsS_l0 xs hx 0 (by omega) _ (by simp) rfl).mono (fun r hr=>?_)
 rw [hr]
theorem ev_laws_toFunc (a0 : Int) (l1 : List ByteArray) (l2 : List ByteArray) (l3 : List ByteArray) (l4 : List Int) (l5 : List (S181)) (hl1 : wl ByteArray.size l1 ≤ 1048576) (hl2 : wl ByteArray.size l2 ≤ 1048576) (hl3 : wl ByteArray.size l3 ≤ 1048576) (hl4 : wl (fun _ : Int=>0) l4 ≤ 1048576) (hl5 : wl wIns l5 ≤ 1048576) : EvP (fun k=>laws_toFunc.f k a0 l1 l2 l3 l4 l5) (· = (a0,l1,l2,l3,l4,(l5.map cIns))):=by
 unfold laws_toFunc.f
 refine EvP.bind (ev_laws_toStringS l1 hl1) (fun tl1 htl1=>?_)
 subst htl1
 refine EvP.bind (ev_laws_toStringS l2 hl2) (fun tl2 htl2=>?_)
 subst htl2
 refine EvP.bind (ev_laws_toStringS l3 hl3) (fun tl3 htl3=>?_)
 subst htl3
 refine EvP.bind (ev_laws_toIntS l4 hl4) (fun tl4 htl4=>?_)
 subst htl4
 refine EvP.bind (ev_laws_toInsS l5 hl5) (fun tl5 htl5=>?_)
 subst htl5
 exact EvP.ret _ rfl
def qIntS (xs : List Int) : Prop:=xs.length ≤ 9223372036854775807
def qInsS (xs : List (S107)) : Prop:=xs.length ≤ 9223372036854775807 ∧ ∀ x ∈ xs,qIns x
def qFunc (x : S57) : Prop:=qStringS x.f1 ∧ qStringS x.f2 ∧ qStringS x.f3 ∧ qIntS x.f4 ∧ qInsS x.f5
theorem ev_laws_eqIntS_l0 (xs : List Int) (hx : qIntS xs) : ∀ i,i ≤ xs.length → EvP (fun k=>laws_eqIntS.l0 k xs xs i) (· = true):=by
 refine upInd ?_ ?_
 ·refine EvP.succ ?_
  simp only [laws_eqIntS.l0]
  exact EvP.neg (by omega) (EvP.ret _ rfl)
 ·intro i hi ih
  refine EvP.succ ?_
  simp only [laws_eqIntS.l0]
  rw [w64s hi hx]
  exact EvP.pos (by omega) (EvP.pos (by omega) (EvP.pos (by omega) (EvP.pos (by trivial) ih)))
theorem ev_laws_eqIntS (xs : List Int) (hx : qIntS xs) : EvP (fun k=>laws_eqIntS.f k xs xs) (· = true):=by
 unfold laws_eqIntS.f
 exact EvP.pos (by trivial) (ev_laws_eqIntS_l0 xs hx 0 (by omega))
theorem ev_laws_eqInsS_l0 (xs : List (S107)) (hx : qInsS xs) : ∀ i,i ≤ xs.length → EvP (fun k=>laws_eqInsS.l0 k xs xs i) (· = true):=by
 refine upInd ?_ ?_
 ·refine EvP.succ ?_
  simp only [laws_eqInsS.l0]
  exact EvP.neg (by omega) (EvP.ret _ rfl)
 ·intro i hi ih
  refine EvP.succ ?_
  simp only [laws_eqInsS.l0]
  rw [w64s hi hx.1]
  have e : rd_T107 xs (i : Int) = xs[i]:=getDn hi
  have hb:=hx.2 _ (List.getElem_mem hi)
  rw [e]
  refine EvP.pos (by omega) (EvP.pos (by omega) (EvP.pos (by omega) (EvP.bind (ev_laws_eqIns xs[i].f0 xs[i].f1 xs[i].f2 ) (fun t ht=>?_))))
  subst ht
  exact EvP.pos (by trivial) ih
theorem ev_laws_eqInsS (xs : List (S107)) (hx : qInsS xs) : EvP (fun k=>laws_eqInsS.f k xs xs) (· = true):=by
 unfold laws_eqInsS.f
 exact EvP.pos (by trivial) (ev_laws_eqInsS_l0 xs hx 0 (by omega))
theorem ev_laws_eqFunc (a0 : Int) (l1 : List ByteArray) (l2 : List ByteArray) (l3 : List ByteArray) (l4 : List Int) (l5 : List (S107)) (hl1 : qStringS l1) (hl2 : qStringS l2) (hl3 : qStringS l3) (hl4 : qIntS l4) (hl5 : qInsS l5) : EvP (fun k=>laws_eqFunc.f k a0 l1 l2 l3 l4 l5 a0 l1 l2 l3 l4 l5) (· = true):=by
 unfold laws_eqFunc.f
 refine EvP.pos (by trivial) ?_
 refine EvP.bind (ev_laws_eqStringS l1 hl1) (fun tl1 htl1=>?_)
 subst htl1
 refine EvP.pos (by trivial) ?_
 refine EvP.bind (ev_laws_eqStringS l2 hl2) (fun tl2 htl2=>?_)
 subst htl2
 refine EvP.pos (by trivial) ?_
 refine EvP.bind (ev_laws_eqStringS l3 hl3) (fun tl3 htl3=>?_)
 subst htl3
 refine EvP.pos (by trivial) ?_
 refine EvP.bind (ev_laws_eqIntS l4 hl4) (fun tl4 htl4=>?_)
 subst htl4
 refine EvP.pos (by trivial) ?_
 refine EvP.bind (ev_laws_eqInsS l5 hl5) (fun tl5 htl5=>?_)
 subst htl5
 refine EvP.pos (by trivial) ?_
 exact EvP.ret _ rfl
def gModule (x : S50) : Prop:=(gL gRecord) x.f0 ∧ (gL gFunc) x.f1 ∧ (gL gInt) x.f2
def wModule (x : S50) : Nat:=wl wRecord x.f0 + wl wFunc x.f1 + wl (fun _ : Int=>0) x.f2
def cModule (x : S50) : S40:=⟨(x.f0.map cRecord),(x.f1.map cFunc),x.f2⟩
theorem ev_laws_szRecordS_l0 (xs : List (S124)) (hx : gL gRecord xs) : ∀ i,i ≤ xs.length → ∀ a : Int,0 ≤ a → a ≤ 1048576 → EvP (fun k=>laws_szRecordS.l0 k xs a i) (fun r=>0 ≤ r → r = a - ((((xs.drop i).map wRecord).sum : Nat) : Int)):=by
 refine upInd ?_ ?_
 ·intro a h0 h1
  refine EvP.succ ?_
  simp only [laws_szRecordS.l0]
  exact EvP.neg (by omega) (EvP.ret _ (fun _=>by simp))
 ·intro i hi ih a h0 h1
  refine EvP.succ ?_
  simp only [laws_szRecordS.l0]
  have e : rd_T124 xs (i : Int) = xs[i]:=getDn hi
  have hb:=hx.2 _ (List.getElem_mem hi)
  rw [e,w64s hi hx.1]
  refine EvP.pos (by omega) (EvP.pos (by omega) (EvP.bind (ev_laws_szRecord xs[i].f0 xs[i].f1 hb.2 a h0 h1) (fun t ht=>EvP.ite (fun hc=>EvP.ret _ (fun h=>absurd h (by omega))) (fun hc=>?_))))
  have ht:=ht (by omega)
  refine (ih _ (by omega) (by omega)).mono (fun r hr h=>?_)
  have hw : wRecord xs[i] = wl ByteArray.size xs[i].f1:=rfl
  rw [hr h,List.drop_eq_getElem_cons hi]
  simp only [List.map_cons,List.sum_cons]
  omega
theorem ev_laws_szRecordS (xs : List (S124)) (hx : gL gRecord xs) (a : Int) (h0 : 0 ≤ a) (h1 : a ≤ 1048576) : EvP (fun k=>laws_szRecordS.f k xs a) (fun r=>0 ≤ r → r = a - ((wl wRecord xs : Nat) : Int)):=by
 have h2:=hx.1
 unfold laws_szRecordS.f
 rw [w64 (by omega) (by omega)]
 refine EvP.ite (fun hc=>EvP.ret _ (fun h=>absurd h (by omega))) (fun hc=>?_)
 refine (ev_laws_szRecordS_l0 xs hx 0 (by omega) _ (by omega) (by omega)).mono (fun r hr h=>?_)
 rw [hr h]
 simp only [List.drop_zero]
 unfold wl
 omega
theorem ev_laws_szFuncS_l0 (xs : List (S128)) (hx : gL gFunc xs) : ∀ i,i ≤ xs.length → ∀ a : Int,0 ≤ a → a ≤ 1048576 → EvP (fun k=>laws_szFuncS.l0 k xs a i) (fun r=>0 ≤ r → r = a - ((((xs.drop i).map wFunc).sum : Nat) : Int)):=by
 refine upInd ?_ ?_
 ·intro a h0 h1
  refine EvP.succ ?_
  simp only [laws_szFuncS.l0]
  exact EvP.neg (by omega) (EvP.ret _ (fun _=>by simp))
 ·intro i hi ih a h0 h1
  refine EvP.succ ?_
  simp only [laws_szFuncS.l0]
  have e : rd_T128 xs (i : Int) = xs[i]:=getDn hi
  have hb:=hx.2 _ (List.getElem_mem hi)
  rw [e,w64s hi hx.1]
  refine EvP.pos (by omega) (EvP.pos (by omega) (EvP.bind (ev_laws_szFunc xs[i].f0 xs[i].f1 xs[i].f2 xs[i].f3 xs[i].f4 xs[i].f5 hb.2.1 hb.2.2.1 hb.2.2.2.1 hb.2.2.2.2.1 hb.2.2.2.2.2 a h0 h1) (fun t ht=>EvP.ite (fun hc=>EvP.ret _ (fun h=>absurd h (by omega))) (fun hc=>?_))))
  have ht:=ht (by omega)
  refine (ih _ (by omega) (by omega)).mono (fun r hr h=>?_)
  have hw : wFunc xs[i] = wl ByteArray.size xs[i].f1 + wl ByteArray.size xs[i].f2 + wl ByteArray.size xs[i].f3 + wl (fun _ : Int=>0) xs[i].f4 + wl wIns xs[i].f5:=rfl
  rw [hr h,List.drop_eq_getElem_cons hi]
  simp only [List.map_cons,List.sum_cons]
  omega
theorem ev_laws_szFuncS (xs : List (S128)) (hx : gL gFunc xs) (a : Int) (h0 : 0 ≤ a) (h1 : a ≤ 1048576) : EvP (fun k=>laws_szFuncS.f k xs a) (fun r=>0 ≤ r → r = a - ((wl wFunc xs : Nat) : Int)):=by
 have h2:=hx.1
 unfold laws_szFuncS.f
 rw [w64 (by omega) (by omega)]
 refine EvP.ite (fun hc=>EvP.ret _ (fun h=>absurd h (by omega))) (fun hc=>?_)
 refine (ev_laws_szFuncS_l0 xs hx 0 (by omega) _ (by omega) (by omega)).mono (fun r hr h=>?_)
 rw [hr h]
 simp only [List.drop_zero]
 unfold wl
 omega
theorem ev_laws_szModule (l0 : List (S124)) (l1 : List (S128)) (l2 : List Int) (hl0 : (gL gRecord) l0) (hl1 : (gL gFunc) l1) (hl2 : (gL gInt) l2) (a : Int) (h0 : 0 ≤ a) (h1 : a ≤ 1048576) : EvP (fun k=>laws_szModule.f k l0 l1 l2 a) (fun r=>0 ≤ r → r = a - ((wl wRecord l0 + wl wFunc l1 + wl (fun _ : Int=>0) l2 : Nat) : Int)):=by
 unfold laws_szModule.f
 refine EvP.bind (ev_laws_szRecordS l0 hl0 a (by omega) (by omega)) (fun tl0 htl0=>EvP.ite (fun hc=>EvP.ret _ (fun h=>absurd h (by omega))) (fun hc=>?_))
 have htl0:=htl0 (by omega)
 refine EvP.bind (ev_laws_szFuncS l1 hl1 tl0 (by omega) (by omega)) (fun tl1 htl1=>EvP.ite (fun hc=>EvP.ret _ (fun h=>absurd h (by omega))) (fun hc=>?_))
 have htl1:=htl1 (by omega)
 refine EvP.bind (ev_laws_szIntS l2 hl2 tl1 (by omega) (by omega)) (fun tl2 htl2=>EvP.ite (fun hc=>EvP.ret _ (fun h=>absurd h (by omega))) (fun hc=>?_))
 have htl2:=htl2 (by omega)
 exact EvP.ret _ (fun _=>by omega)
theorem ev_laws_toRecordS_l0 (xs : List (S124)) (hx : wl wRecord xs ≤ 1048576) : ∀ i,i ≤ xs.length → ∀ out : List (S97),out.length = xs.length → out.take i = (xs.take i).map cRecord → EvP (fun k=>laws_toRecordS.l0 k xs out i) (· = xs.map cRecord):=by
 have hn:=Nat.le_trans len_wl hx
 refine upInd ?_ ?_
 ·intro out hl ht
  refine EvP.succ ?_
  simp only [laws_toRecordS.l0]
  refine EvP.neg (by omega) (EvP.ret _ ?_)
  rw [List.take_of_length_le (by omega),List.take_of_length_le (by omega)] at ht
  exact ht
 ·intro i hi ih out hl ht
  refine EvP.succ ?_
  simp only [laws_toRecordS.l0]
  have e : rd_T124 xs (i : Int) = xs[i]:=getDn hi
  rw [e,w64s hi (by omega),Int.toNat_natCast]
  have hm:=mem_wl (f:=wRecord) (List.getElem_mem hi)
  have hw : wRecord xs[i] = wl ByteArray.size xs[i].f1:=rfl
  refine EvP.pos (by omega) (EvP.pos (by omega) (EvP.bind (ev_laws_toRecord xs[i].f0 xs[i].f1 (by omega)) (fun t ht2=>?_)))
  subst ht2
  exact EvP.pos (by omega) (ih _ (by simpa using hl) (take_step (c:=cRecord) hi hl ht))
theorem ev_laws_toRecordS (xs : List (S124)) (hx : wl wRecord xs ≤ 1048576) : EvP (fun k=>laws_toRecordS.f k xs) (· = (xs.map cRecord)):=by
 have hn:=Nat.le_trans len_wl hx
 unfold laws_toRecordS.f
 refine EvP.pos (by omega) (EvP.pos (by rw [Int.toNat_natCast];omega) ?_)
 refine (ev_laws_toRecordS_l0 xs hx 0 (by omega) _ (by simp) rfl).mono (fun r hr=>?_)
 rw [hr]
theorem ev_laws_toFuncS_l0 (xs : List (S128)) (hx : wl wFunc xs ≤ 1048576) : ∀ i,i ≤ xs.length → ∀ out : List (S57),out.length = xs.length → out.take i = (xs.take i).map cFunc → EvP (fun k=>laws_toFuncS.l0 k xs out i) (· = xs.map cFunc):=by
 have hn:=Nat.le_trans len_wl hx
 refine upInd ?_ ?_
 ·intro out hl ht
  refine EvP.succ ?_
  simp only [laws_toFuncS.l0]
  refine EvP.neg (by omega) (EvP.ret _ ?_)
  rw [List.take_of_length_le (by omega),List.take_of_length_le (by omega)] at ht
  exact ht
 ·intro i hi ih out hl ht
  refine EvP.succ ?_
  simp only [laws_toFuncS.l0]
  have e : rd_T128 xs (i : Int) = xs[i]:=getDn hi
  rw [e,w64s hi (by omega),Int.toNat_natCast]
  have hm:=mem_wl (f:=wFunc) (List.getElem_mem hi)
  have hw : wFunc xs[i] = wl ByteArray.size xs[i].f1 + wl ByteArray.size xs[i].f2 + wl ByteArray.size xs[i].f3 + wl (fun _ : Int=>0) xs[i].f4 + wl wIns xs[i].f5:=rfl
  refine EvP.pos (by omega) (EvP.pos (by omega) (EvP.bind (ev_laws_toFunc xs[i].f0 xs[i].f1 xs[i].f2 xs[i].f3 xs[i].f4 xs[i].f5 (by omega) (by omega) (by omega) (by omega) (by omega)) (fun t ht2=>?_)))
  subst ht2
  exact EvP.pos (by omega) (ih _ (by simpa using hl) (take_step (c:=cFunc) hi hl ht))
theorem ev_laws_toFuncS (xs : List (S128)) (hx : wl wFunc xs ≤ 1048576) : EvP (fun k=>laws_toFuncS.f k xs) (· = (xs.map cFunc)):=by
 have hn:=Nat.le_trans len_wl hx
 unfold laws_toFuncS.f
 refine EvP.pos (by omega) (EvP.pos (by rw [Int.toNat_natCast];omega) ?_)
 refine (ev_laws_toFuncS_l0 xs hx 0 (by omega) _ (by simp) rfl).mono (fun r hr=>?_)
 rw [hr]
theorem ev_laws_toModule (l0 : List (S124)) (l1 : List (S128)) (l2 : List Int) (hl0 : wl wRecord l0 ≤ 1048576) (hl1 : wl wFunc l1 ≤ 1048576) (hl2 : wl (fun _ : Int=>0) l2 ≤ 1048576) : EvP (fun k=>laws_toModule.f k l0 l1 l2) (· = ((l0.map cRecord),(l1.map cFunc),l2)):=by
 unfold laws_toModule.f
 refine EvP.bind (ev_laws_toRecordS l0 hl0) (fun tl0 htl0=>?_)
 subst htl0
 refine EvP.bind (ev_laws_toFuncS l1 hl1) (fun tl1 htl1=>?_)
 subst htl1
 refine EvP.bind (ev_laws_toIntS l2 hl2) (fun tl2 htl2=>?_)
 subst htl2
 exact EvP.ret _ rfl
def qRecordS (xs : List (S97)) : Prop:=xs.length ≤ 9223372036854775807 ∧ ∀ x ∈ xs,qRecord x
def qFuncS (xs : List (S57)) : Prop:=xs.length ≤ 9223372036854775807 ∧ ∀ x ∈ xs,qFunc x
def qModule (x : S40) : Prop:=qRecordS x.f0 ∧ qFuncS x.f1 ∧ qIntS x.f2
theorem ev_laws_eqRecordS_l0 (xs : List (S97)) (hx : qRecordS xs) : ∀ i,i ≤ xs.length → EvP (fun k=>laws_eqRecordS.l0 k xs xs i) (· = true):=by
 refine upInd ?_ ?_
 ·refine EvP.succ ?_
  simp only [laws_eqRecordS.l0]
  exact EvP.neg (by omega) (EvP.ret _ rfl)
 ·intro i hi ih
  refine EvP.succ ?_
  simp only [laws_eqRecordS.l0]
  rw [w64s hi hx.1]
  have e : rd_T97 xs (i : Int) = xs[i]:=getDn hi
  have hb:=hx.2 _ (List.getElem_mem hi)
  rw [e]
  refine EvP.pos (by omega) (EvP.pos (by omega) (EvP.pos (by omega) (EvP.bind (ev_laws_eqRecord xs[i].f0 xs[i].f1 hb) (fun t ht=>?_))))
  subst ht
  exact EvP.pos (by trivial) ih
theorem ev_laws_eqRecordS (xs : List (S97)) (hx : qRecordS xs) : EvP (fun k=>laws_eqRecordS.f k xs xs) (· = true):=by
 unfold laws_eqRecordS.f
 exact EvP.pos (by trivial) (ev_laws_eqRecordS_l0 xs hx 0 (by omega))
theorem ev_laws_eqFuncS_l0 (xs : List (S57)) (hx : qFuncS xs) : ∀ i,i ≤ xs.length → EvP (fun k=>laws_eqFuncS.l0 k xs xs i) (· = true):=by
 refine upInd ?_ ?_
 ·refine EvP.succ ?_
  simp only [laws_eqFuncS.l0]
  exact EvP.neg (by omega) (EvP.ret _ rfl)
 ·intro i hi ih
  refine EvP.succ ?_
  simp only [laws_eqFuncS.l0]
  rw [w64s hi hx.1]
  have e : rd_T57 xs (i : Int) = xs[i]:=getDn hi
  have hb:=hx.2 _ (List.getElem_mem hi)
  rw [e]
  refine EvP.pos (by omega) (EvP.pos (by omega) (EvP.pos (by omega) (EvP.bind (ev_laws_eqFunc xs[i].f0 xs[i].f1 xs[i].f2 xs[i].f3 xs[i].f4 xs[i].f5 hb.1 hb.2.1 hb.2.2.1 hb.2.2.2.1 hb.2.2.2.2) (fun t ht=>?_))))
  subst ht
  exact EvP.pos (by trivial) ih
theorem ev_laws_eqFuncS (xs : List (S57)) (hx : qFuncS xs) : EvP (fun k=>laws_eqFuncS.f k xs xs) (· = true):=by
 unfold laws_eqFuncS.f
 exact EvP.pos (by trivial) (ev_laws_eqFuncS_l0 xs hx 0 (by omega))
theorem ev_laws_eqModule (l0 : List (S97)) (l1 : List (S57)) (l2 : List Int) (hl0 : qRecordS l0) (hl1 : qFuncS l1) (hl2 : qIntS l2) : EvP (fun k=>laws_eqModule.f k l0 l1 l2 l0 l1 l2) (· = true):=by
 unfold laws_eqModule.f
 refine EvP.bind (ev_laws_eqRecordS l0 hl0) (fun tl0 htl0=>?_)
 subst htl0
 refine EvP.pos (by trivial) ?_
 refine EvP.bind (ev_laws_eqFuncS l1 hl1) (fun tl1 htl1=>?_)
 subst htl1
 refine EvP.pos (by trivial) ?_
 refine EvP.bind (ev_laws_eqIntS l2 hl2) (fun tl2 htl2=>?_)
 subst htl2
 refine EvP.pos (by trivial) ?_
 exact EvP.ret _ rfl
def qMark (x : S62) : Prop:=qIntS x.f1
theorem ev_laws_eqMark (s0 : ByteArray) (l1 : List Int) (hl1 : qIntS l1) : EvP (fun k=>laws_eqMark.f k s0 l1 s0 l1) (· = true):=by
 unfold laws_eqMark.f
 refine EvP.pos (by trivial) ?_
 refine EvP.bind (ev_laws_eqIntS l1 hl1) (fun tl1 htl1=>?_)
 subst htl1
 refine EvP.pos (by trivial) ?_
 exact EvP.ret _ rfl
def qMarkS (xs : List (S62)) : Prop:=xs.length ≤ 9223372036854775807 ∧ ∀ x ∈ xs,qMark x
theorem ev_laws_eqMarkS_l0 (xs : List (S62)) (hx : qMarkS xs) : ∀ i,i ≤ xs.length → EvP (fun k=>laws_eqMarkS.l0 k xs xs i) (· = true):=by
 refine upInd ?_ ?_
 ·refine EvP.succ ?_
  simp only [laws_eqMarkS.l0]
  exact EvP.neg (by omega) (EvP.ret _ rfl)
 ·intro i hi ih
  refine EvP.succ ?_
  simp only [laws_eqMarkS.l0]
  rw [w64s hi hx.1]
  have e : rd_T62 xs (i : Int) = xs[i]:=getDn hi
  have hb:=hx.2 _ (List.getElem_mem hi)
  rw [e]
  refine EvP.pos (by omega) (EvP.pos (by omega) (EvP.pos (by omega) (EvP.bind (ev_laws_eqMark xs[i].f0 xs[i].f1 hb) (fun t ht=>?_))))
  subst ht
  exact EvP.pos (by trivial) ih
theorem ev_laws_eqMarkS (xs : List (S62)) (hx : qMarkS xs) : EvP (fun k=>laws_eqMarkS.f k xs xs) (· = true):=by
 unfold laws_eqMarkS.f
 exact EvP.pos (by trivial) (ev_laws_eqMarkS_l0 xs hx 0 (by omega))
theorem ev_laws_eqShape (l0 : List (S62)) (l1 : List (S62)) (hl0 : qMarkS l0) (hl1 : qMarkS l1) : EvP (fun k=>laws_eqShape.f k l0 l1 l0 l1) (· = true):=by
 unfold laws_eqShape.f
 refine EvP.bind (ev_laws_eqMarkS l0 hl0) (fun tl0 htl0=>?_)
 subst htl0
 refine EvP.pos (by trivial) ?_
 refine EvP.bind (ev_laws_eqMarkS l1 hl1) (fun tl1 htl1=>?_)
 subst htl1
 refine EvP.pos (by trivial) ?_
 exact EvP.ret _ rfl
theorem ev_laws_szModuleS_l0 (xs : List (S50)) (hx : gL gModule xs) : ∀ i,i ≤ xs.length → ∀ a : Int,0 ≤ a → a ≤ 1048576 → EvP (fun k=>laws_szModuleS.l0 k xs a i) (fun r=>0 ≤ r → r = a - ((((xs.drop i).map wModule).sum : Nat) : Int)):=by
 refine upInd ?_ ?_
 ·intro a h0 h1
  refine EvP.succ ?_
  simp only [laws_szModuleS.l0]
  exact EvP.neg (by omega) (EvP.ret _ (fun _=>by simp))
 ·intro i hi ih a h0 h1
  refine EvP.succ ?_
  simp only [laws_szModuleS.l0]
  have e : rd_T50 xs (i : Int) = xs[i]:=getDn hi
  have hb:=hx.2 _ (List.getElem_mem hi)
  rw [e,w64s hi hx.1]
  refine EvP.pos (by omega) (EvP.pos (by omega) (EvP.bind (ev_laws_szModule xs[i].f0 xs[i].f1 xs[i].f2 hb.1 hb.2.1 hb.2.2 a h0 h1) (fun t ht=>EvP.ite (fun hc=>EvP.ret _ (fun h=>absurd h (by omega))) (fun hc=>?_))))
  have ht:=ht (by omega)
  refine (ih _ (by omega) (by omega)).mono (fun r hr h=>?_)
  have hw : wModule xs[i] = wl wRecord xs[i].f0 + wl wFunc xs[i].f1 + wl (fun _ : Int=>0) xs[i].f2:=rfl
  rw [hr h,List.drop_eq_getElem_cons hi]
  simp only [List.map_cons,List.sum_cons]
  omega
theorem ev_laws_szModuleS (xs : List (S50)) (hx : gL gModule xs) (a : Int) (h0 : 0 ≤ a) (h1 : a ≤ 1048576) : EvP (fun k=>laws_szModuleS.f k xs a) (fun r=>0 ≤ r → r = a - ((wl wModule xs : Nat) : Int)):=by
 have h2:=hx.1
 unfold laws_szModuleS.f
 rw [w64 (by omega) (by omega)]
 refine EvP.ite (fun hc=>EvP.ret _ (fun h=>absurd h (by omega))) (fun hc=>?_)
 refine (ev_laws_szModuleS_l0 xs hx 0 (by omega) _ (by omega) (by omega)).mono (fun r hr h=>?_)
 rw [hr h]
 simp only [List.drop_zero]
 unfold wl
 omega
theorem ev_laws_toModuleS_l0 (xs : List (S50)) (hx : wl wModule xs ≤ 1048576) : ∀ i,i ≤ xs.length → ∀ out : List (S40),out.length = xs.length → out.take i = (xs.take i).map cModule → EvP (fun k=>laws_toModuleS.l0 k xs out i) (· = xs.map cModule):=by
 have hn:=Nat.le_trans len_wl hx
 refine upInd ?_ ?_
 ·intro out hl ht
  refine EvP.succ ?_
  simp only [laws_toModuleS.l0]
  refine EvP.neg (by omega) (EvP.ret _ ?_)
  rw [List.take_of_length_le (by omega),List.take_of_length_le (by omega)] at ht
  exact ht
 ·intro i hi ih out hl ht
  refine EvP.succ ?_
  simp only [laws_toModuleS.l0]
  have e : rd_T50 xs (i : Int) = xs[i]:=getDn hi
  rw [e,w64s hi (by omega),Int.toNat_natCast]
  have hm:=mem_wl (f:=wModule) (List.getElem_mem hi)
  have hw : wModule xs[i] = wl wRecord xs[i].f0 + wl wFunc xs[i].f1 + wl (fun _ : Int=>0) xs[i].f2:=rfl
  refine EvP.pos (by omega) (EvP.pos (by omega) (EvP.bind (ev_laws_toModule xs[i].f0 xs[i].f1 xs[i].f2 (by omega) (by omega) (by omega)) (fun t ht2=>?_)))
  subst ht2
  exact EvP.pos (by omega) (ih _ (by simpa using hl) (take_step (c:=cModule) hi hl ht))
theorem ev_laws_toModuleS (xs : List (S50)) (hx : wl wModule xs ≤ 1048576) : EvP (fun k=>laws_toModuleS.f k xs) (· = (xs.map cModule)):=by
 have hn:=Nat.le_trans len_wl hx
 unfold laws_toModuleS.f
 refine EvP.pos (by omega) (EvP.pos (by rw [Int.toNat_natCast];omega) ?_)
 refine (ev_laws_toModuleS_l0 xs hx 0 (by omega) _ (by simp) rfl).mono (fun r hr=>?_)
 rw [hr]
def qModuleS (xs : List (S40)) : Prop:=xs.length ≤ 9223372036854775807 ∧ ∀ x ∈ xs,qModule x
theorem ev_laws_eqModuleS_l0 (xs : List (S40)) (hx : qModuleS xs) : ∀ i,i ≤ xs.length → EvP (fun k=>laws_eqModuleS.l0 k xs xs i) (· = true):=by
 refine upInd ?_ ?_
 ·refine EvP.succ ?_
  simp only [laws_eqModuleS.l0]
  exact EvP.neg (by omega) (EvP.ret _ rfl)
 ·intro i hi ih
  refine EvP.succ ?_
  simp only [laws_eqModuleS.l0]
  rw [w64s hi hx.1]
  have e : rd_T40 xs (i : Int) = xs[i]:=getDn hi
  have hb:=hx.2 _ (List.getElem_mem hi)
  rw [e]
  refine EvP.pos (by omega) (EvP.pos (by omega) (EvP.pos (by omega) (EvP.bind (ev_laws_eqModule xs[i].f0 xs[i].f1 xs[i].f2 hb.1 hb.2.1 hb.2.2) (fun t ht=>?_))))
  subst ht
  exact EvP.pos (by trivial) ih
theorem ev_laws_eqModuleS (xs : List (S40)) (hx : qModuleS xs) : EvP (fun k=>laws_eqModuleS.f k xs xs) (· = true):=by
 unfold laws_eqModuleS.f
 exact EvP.pos (by trivial) (ev_laws_eqModuleS_l0 xs hx 0 (by omega))
abbrev Rec:=S97
abbrev Kinds:=List (List Rec)
def kAt (s : ByteArray) : Option (Nat × Nat) :=
 if s.size = 3 ∧ bt s 0 = 83 ∧ 48 ≤ bt s 1 ∧ bt s 1 ≤ 57 ∧ 48 ≤ bt s 2 ∧ bt s 2 ≤ 57 then some ((bt s 1 - 48).toNat,(bt s 2 - 48).toNat) else none
def kTup : Option (Nat × Nat) → Int × Int × Bool
 | none=>(0,0,false)
 | some p=>((p.1 : Int),(p.2 : Int),true)
theorem eq_impl_kindAt (s : ByteArray) : impl_kindAt.f s = some (kTup (kAt s)):=by
 unfold impl_kindAt.f kAt
 by_cases h0 : s.size = 3
 ·rw [if_pos (by omega),if_pos (by omega)]
  by_cases h1 : bt s 0 = 83
  ·rw [if_pos h1,if_pos (by omega)]
   by_cases h2 : bt s 1 < 48
   ·rw [if_pos h2,if_neg (by omega)]
    rfl
   ·rw [if_neg h2]
    by_cases h3 : bt s 1 > 57
    ·rw [if_pos h3,if_neg (by omega)]
     rfl
    ·rw [if_neg h3,if_pos (by omega)]
     by_cases h4 : bt s 2 < 48
     ·rw [if_pos h4,if_neg (by omega)]
      rfl
     ·rw [if_neg h4]
      by_cases h5 : bt s 2 > 57
      ·rw [if_pos h5,if_neg (by omega)]
       rfl
      ·rw [if_neg h5,if_pos (by omega)]
       have e1 : (bt s 1 - 48) % 256 = ((bt s 1 - 48).toNat : Int):=by omega
       have e2 : (bt s 2 - 48) % 256 = ((bt s 2 - 48).toNat : Int):=by omega
       rw [e1,e2]
       rfl
  ·rw [if_neg h1,if_neg (by omega)]
   rfl
 ·rw [if_neg (by omega),if_neg (by omega)]
  rfl
theorem eq_spec_l1Kind (s : ByteArray) : spec_l1Kind.f s = some (kTup (kAt s)):=eq_impl_kindAt s
def kGet (K : Kinds) (s : ByteArray) : Option Rec:=(kAt s).bind fun p=>(K[p.1]?).bind fun l=>l[p.2]?
theorem kGet_some {K : Kinds} {s : ByteArray} {x : Rec} (h : kGet K s = some x) : ∃ a b,kAt s = some (a,b) ∧ ∃ ha : a < K.length,∃ hb : b < K[a].length,K[a][b] = x:=by
 unfold kGet at h
 obtain ⟨⟨a,b⟩,h1,h2⟩:=Option.bind_eq_some_iff.1 h
 obtain ⟨l,h3,h4⟩:=Option.bind_eq_some_iff.1 h2
 obtain ⟨ha,rfl⟩:=List.getElem?_eq_some_iff.1 h3
 obtain ⟨hb,h5⟩:=List.getElem?_eq_some_iff.1 h4
 exact ⟨a,b,h1,ha,hb,h5⟩
theorem eq_impl_kindIn (K : Kinds) (s : ByteArray) : impl_kindIn.f K s = some (kGet K s).isSome:=by
 unfold impl_kindIn.f kGet
 rw [eq_impl_kindAt]
 simp only [Option.bind_some]
 cases h : kAt s with
 | none=>rfl
 | some p =>
  obtain ⟨a,b⟩:=p
  by_cases ha : a < K.length
  ·have e : rd_L12 K (a : Int) = K[a]:=getDn ha
   simp only [kTup,Option.bind_some,e,List.getElem?_eq_getElem ha]
   by_cases hb : b < K[a].length
   ·simp [ha,hb]
   ·simp [ha,hb]
  ·simp [kTup,ha]
def isBase (s : ByteArray) : Bool:=s.toList == [110] || (s.toList == [98] || s.toList == [111])
def plain (K : Kinds) (s : ByteArray) : Bool:=isBase s || (kGet K s).isSome
theorem eq_impl_plainOk (K : Kinds) (s : ByteArray) : impl_plainOk.f K s = some (plain K s):=by
 unfold impl_plainOk.f plain isBase
 rw [eq_impl_kindIn]
 by_cases h1 : s.toList = [110]
 ·simp [h1]
 ·by_cases h2 : s.toList = [98]
  ·simp [h2]
  ·by_cases h3 : s.toList = [111]
   ·simp [h3]
   ·simp [h1,h2,h3]
theorem eq_spec_l1Base (s : ByteArray) : spec_l1Base.f s = some (isBase s):=by
 unfold spec_l1Base.f isBase
 by_cases h1 : s.toList = [110]
 ·simp [h1]
 ·by_cases h2 : s.toList = [98]
  ·simp [h2]
  ·have k1 : (s.toList == [110]) = false:=beq_eq_false_iff_ne.2 h1
   have k2 : (s.toList == [98]) = false:=beq_eq_false_iff_ne.2 h2
   rw [if_neg h1,if_neg h2,k1,k2]
   rfl
theorem eq_spec_l1Has (K : Kinds) (s : ByteArray) (a b : Nat) (h : kAt s = some (a,b)) : spec_l1Has.f K a b = some (kGet K s).isSome:=by
 unfold spec_l1Has.f kGet
 rw [h]
 simp only [Option.bind_some]
 by_cases ha : a < K.length
 ·rw [if_pos (by omega),if_pos (by omega)]
  have e : rd_L12 K (a : Int) = K[a]:=getDn ha
  rw [e,List.getElem?_eq_getElem ha]
  simp only [Option.bind_some]
  by_cases hb : b < K[a].length
  ·rw [List.getElem?_eq_getElem hb]
   simp [hb]
  ·rw [List.getElem?_eq_none (by omega)]
   simp [hb]
 ·rw [if_neg (by omega),List.getElem?_eq_none (by omega)]
  rfl
theorem list_size (s : ByteArray) : s.toList.length = s.size:=by
 rw [ByteArray.toList_eq,Array.length_toList]
 rfl
theorem bt_one {s : ByteArray} {c : UInt8} (h : s.toList = [c]) : s.size = 1 ∧ bt s 0 = (c.toNat : Int):=by
 have h1 : s.size = 1:=by rw [← list_size,h];rfl
 refine ⟨h1,?_⟩
 rw [ByteArray.toList_eq] at h
 have h0 : (0 : Int).toNat < s.size:=by rw [h1];decide
 unfold bt
 rw [dif_pos h0]
 have h2 : s.data.toList[0]? = some c:=by rw [h];rfl
 rw [Array.getElem?_toList] at h2
 obtain ⟨h3,h4⟩:=Array.getElem?_eq_some_iff.1 h2
 have h5 : s[(0 : Int).toNat]'h0 = c:=h4
 rw [h5]
theorem base_size {s : ByteArray} (h : isBase s = true) : s.size = 1 ∧ (bt s 0 = 110 ∨ bt s 0 = 98 ∨ bt s 0 = 111):=by
 unfold isBase at h
 simp only [Bool.or_eq_true,beq_iff_eq] at h
 rcases h with h | h | h
 ·have:=bt_one h
  exact ⟨this.1,.inl this.2⟩
 ·have:=bt_one h
  exact ⟨this.1,.inr (.inl this.2)⟩
 ·have:=bt_one h
  exact ⟨this.1,.inr (.inr this.2)⟩
theorem base_kAt {s : ByteArray} (h : isBase s = true) : kAt s = none:=by
 have:=base_size h
 unfold kAt
 rw [if_neg (by omega)]
theorem kAt_base {s : ByteArray} {p : Nat × Nat} (h : kAt s = some p) : isBase s = false:=by
 cases hb : isBase s with
 | false=>rfl
 | true=>rw [base_kAt hb] at h;cases h
theorem kAt_size {s : ByteArray} {p : Nat × Nat} (h : kAt s = some p) : s.size = 3 ∧ bt s 0 = 83:=by
 unfold kAt at h
 split at h
 ·rename_i hc
  exact ⟨hc.1,hc.2.1⟩
 ·cases h
def isRef (s : ByteArray) : Bool:=decide (0 < s.size) && (bt s 0 == 38 || bt s 0 == 33)
def strip (s : ByteArray) : ByteArray:=if isRef s = true then s.extract 1 s.size else s
def sgn (s : ByteArray) : ByteArray:=if isRef s = true then s.extract 0 1 else (⟨#[]⟩ : ByteArray)
theorem eq_impl_signOf (s : ByteArray) : impl_signOf.f s = some (sgn s,strip s):=by
 unfold impl_signOf.f sgn strip isRef
 have hs:=list_size s
 by_cases h0 : s.toList = []
 ·rw [if_pos h0]
  rw [h0] at hs
  have : ¬ 0 < s.size:=by simp at hs;omega
  simp [this]
 ·rw [if_neg h0]
  have h1 : 0 < s.size:=by
   rcases Nat.eq_zero_or_pos s.size with h | h
   ·rw [h] at hs
    exact absurd (List.eq_nil_of_length_eq_zero hs) h0
   ·exact h
  rw [if_pos (by omega)]
  by_cases h2 : bt s 0 = 38
  ·rw [if_pos h2,if_pos (by omega),if_pos (by omega)]
   simp [h1,h2]
  ·rw [if_neg h2]
   by_cases h3 : bt s 0 = 33
   ·rw [if_pos h3,if_pos (by omega),if_pos (by omega)]
    simp [h1,h3]
   ·rw [if_neg h3]
    simp [h2,h3]
theorem eq_spec_l1RefR (s : ByteArray) : spec_l1Ref.f s = some (isRef s):=by
 unfold spec_l1Ref.f isRef
 by_cases h : 0 < s.size
 ·rw [if_pos (by omega),if_pos (by omega)]
  by_cases h2 : bt s 0 = 38
  ·rw [if_pos h2]
   simp [h,h2]
  ·rw [if_neg h2]
   simp [h,h2]
 ·rw [if_neg (by omega)]
  simp [h]
theorem eq_spec_l1Of (s : ByteArray) : spec_l1Of.f s = some (strip s):=by
 unfold spec_l1Of.f strip
 rw [eq_spec_l1RefR]
 simp only [Option.bind_some]
 by_cases h : isRef s = true
 ·rw [if_pos h,if_pos h,if_pos]
  unfold isRef at h
  simp at h
  omega
 ·rw [if_neg h,if_neg h]
theorem first_byte {s : ByteArray} (h : 0 < s.size) (c : UInt8) : (s.extract 0 1).toList = [c] ↔ bt s 0 = (c.toNat : Int):=by
 have h0 : (0 : Int).toNat < s.size:=h
 have e : (s.extract 0 1).toList = [s[(0 : Int).toNat]'h0]:=by
  rw [ByteArray.toList_eq,ByteArray.data_extract]
  apply List.ext_getElem
  ·have : s.data.size = s.size:=rfl
   simp
   omega
  ·intro i h1 h2
   have hi : i = 0:=by simpa using h2
   subst hi
   simp
   rfl
 rw [e]
 unfold bt
 rw [dif_pos h0]
 constructor
 ·intro h
  injection h with h
  rw [h]
 ·intro h
  have : s[(0 : Int).toNat]'h0 = c:=by
   apply UInt8.toNat_inj.1
   exact_mod_cast h
  rw [this]
def able (K : Kinds) (s : ByteArray) : Int:=if isRef s = true then (if bt s 0 = 38 then 3 else 2) else match kGet K s with | some x=>x.f0 | none=>7
theorem eq_impl_recordOf (K : Kinds) (s : ByteArray) (x : Rec) (h : kGet K s = some x) : impl_recordOf.f K s = some (x.f0,x.f1):=by
 obtain ⟨a,b,h1,ha,hb,rfl⟩:=kGet_some h
 unfold impl_recordOf.f
 rw [eq_impl_kindAt,h1]
 simp only [Option.bind_some,kTup]
 have e : rd_L12 K (a : Int) = K[a]:=getDn ha
 have e2 : rd_T97 K[a] (b : Int) = K[a][b]:=getDn hb
 rw [e,e2,if_pos (by omega),if_pos (by omega),if_pos (by omega),if_pos (by omega)]
theorem eq_impl_ableOf (K : Kinds) (s : ByteArray) : impl_ableOf.f K s = some (able K s):=by
 unfold impl_ableOf.f able
 rw [eq_impl_signOf]
 simp only [Option.bind_some]
 by_cases hr : isRef s = true
 ·have h0 : 0 < s.size ∧ (bt s 0 = 38 ∨ bt s 0 = 33):=by
   unfold isRef at hr
   simpa using hr
  have e1:=first_byte h0.1 38
  have e2:=first_byte h0.1 33
  have k1 : ((38 : UInt8).toNat : Int) = 38:=rfl
  have k2 : ((33 : UInt8).toNat : Int) = 33:=rfl
  rw [k1] at e1
  rw [k2] at e2
  unfold sgn
  rw [if_pos hr,if_pos hr]
  by_cases h1 : bt s 0 = 38
  ·rw [if_pos (e1.2 h1),if_pos h1]
  ·rw [if_neg (fun h=>h1 (e1.1 h)),if_pos (e2.2 (by omega)),if_neg h1]
 ·have hs : strip s = s:=by unfold strip;rw [if_neg hr]
  have hg : (sgn s).toList = []:=by
   unfold sgn
   rw [if_neg hr,ByteArray.toList_eq]
  rw [if_neg hr,if_neg (by rw [hg];simp),if_neg (by rw [hg];simp),hs,eq_impl_kindIn]
  simp only [Option.bind_some]
  cases hk : kGet K s with
  | none=>rfl
  | some x =>
   simp only [Option.isSome_some,if_true,eq_impl_recordOf K s x hk,Option.bind_some]
def fieldOk (K : Kinds) (m r : Nat) (t : ByteArray) : Bool:=match kAt t with | some p=>(kGet K t).isSome && decide (p.1 < m ∨ (p.1 = m ∧ p.2 < r)) | none=>isBase t
theorem field_ref {K : Kinds} {m r : Nat} {t : ByteArray} (h : fieldOk K m r t = true) : isRef t = false:=by
 unfold fieldOk at h
 cases hk : kAt t with
 | some p =>
  have:=kAt_size hk
  unfold isRef
  simp [this.2]
 | none =>
  rw [hk] at h
  have:=base_size h
  unfold isRef
  rcases this.2 with h | h | h<;>simp [h]
def abOk (A b : Int) : Bool:=decide ((Go.bits .andNot .i64 (Go.bits .and .i64 A 7) b) = 0) && (decide ((Go.bits .and .i64 A 8) = 0) || !decide ((Go.bits .and .i64 b 4) = 0))
def can (a o : Int) : Bool:=(Int.tmod (wrap64 (Int.tdiv a o)) 2) == 1
def abSpec (A b : Int) : Bool:=(!((can A 1 && !can b 1) || (can A 2 && !can b 2))) && (!(decide (A ≥ 4)) || can b 4)
def valF (n : Nat) (c : UInt8) : Nat:=10 * n + (c.toNat - 48)
def val (l : List UInt8) : Nat:=l.foldl valF 0
theorem ab_fin : ∀ a b : Fin 16,abSpec (a.val : Int) (b.val : Int) = abOk (a.val : Int) (b.val : Int):=by decide +kernel
theorem ab_same {A b : Int} (h0 : 0 ≤ A) (h1 : A ≤ 15) (h2 : 0 ≤ b) (h3 : b ≤ 15) : abSpec A b = abOk A b:=by
 have:=ab_fin ⟨A.toNat,by omega⟩ ⟨b.toNat,by omega⟩
 have e1 : ((A.toNat : Nat) : Int) = A:=by omega
 have e2 : ((b.toNat : Nat) : Int) = b:=by omega
 simp only [e1,e2] at this
 exact this
def recOk (K : Kinds) (m r : Nat) (x : Rec) : Bool:=decide (0 ≤ x.f0 ∧ x.f0 ≤ 15 ∧ x.f1.length ≤ 3) && x.f1.all fun t=>fieldOk K m r t && abOk x.f0 (able K t)
theorem ev_impl_recordOk (K : Kinds) (m r : Nat) (hm : m < K.length) (hr : r < K[m].length) : EvP (fun k=>impl_recordOk.f k K m r) (· = recOk K m r K[m][r]):=by
 have e1 : rd_L12 K (m : Int) = K[m]:=getDn hm
 have e2 : rd_T97 K[m] (r : Int) = K[m][r]:=getDn hr
 generalize hx : K[m][r] = x at e2 ⊢
 have loop : x.f1.length ≤ 3 → ∀ i,i ≤ x.f1.length → EvP (fun k=>impl_recordOk.l0 k K m r x.f1 (x.f1.length : Int) i x.f0 x.f1) (· = (x.f1.drop i).all fun t=>fieldOk K m r t && abOk x.f0 (able K t)):=by
  intro h3
  refine upInd ?_ ?_
  ·refine EvP.succ ?_
   simp only [impl_recordOk.l0]
   exact EvP.neg (by omega) (EvP.ret _ (by simp))
  ·intro i hi ih
   refine EvP.succ ?_
   simp only [impl_recordOk.l0]
   have e : rdOf ByteArray.empty x.f1 (i : Int) = x.f1[i]:=getDn hi
   rw [e,List.drop_eq_getElem_cons hi]
   generalize x.f1[i] = t
   have j2 : ∀ bad : Bool,bad = !fieldOk K m r t → EvP (fun k=>impl_recordOk.j2 k K m r t x.f1 (x.f1.length : Int) i bad x.f0 x.f1) (· = (t :: x.f1.drop (i + 1)).all fun t=>fieldOk K m r t && abOk x.f0 (able K t)):=by
    intro bad hb
    subst hb
    refine EvP.succ ?_
    simp only [impl_recordOk.j2]
    refine EvP.ite (fun h=>EvP.ret _ (by simp at h;simp [h])) (fun h=>?_)
    have hf : fieldOk K m r t = true:=by simpa using h
    refine EvP.call (eq_impl_ableOf K t) ?_
    rw [w64s hi (by omega)]
    refine EvP.ite (fun h1=>EvP.ite (fun h2=>?_) (fun h2=>EvP.ite (fun h4=>EvP.ret _ ?_) (fun h4=>?_))) (fun h1=>EvP.ret _ ?_)
    ·refine ih.mono (fun q hq=>?_)
     rw [hq]
     simp [hf,abOk,h1,h2]
    ·simp [hf,abOk,h1,h2,h4]
    ·refine ih.mono (fun q hq=>?_)
     rw [hq]
     simp [hf,abOk,h1,h2,h4]
    ·simp [hf,abOk,h1]
   refine EvP.pos (by omega) (EvP.pos (by omega) (EvP.pos (by omega) (EvP.call (eq_impl_kindAt t) ?_)))
   cases hk : kAt t with
   | none =>
    refine EvP.neg (by simp [kTup]) (EvP.call (eq_impl_plainOk K t) (j2 _ ?_))
    unfold fieldOk plain kGet
    rw [hk]
    simp
   | some p =>
    obtain ⟨a,b⟩:=p
    simp only [kTup]
    have hbf:=kAt_base hk
    refine EvP.pos (by trivial) (EvP.ite (fun h=>j2 _ ?_) (fun h=>EvP.ite (fun h1=>EvP.ite (fun h2=>j2 _ ?_) (fun h2=>EvP.call (eq_impl_plainOk K t) (j2 _ ?_))) (fun h1=>EvP.call (eq_impl_plainOk K t) (j2 _ ?_))))
    ·unfold fieldOk
     rw [hk]
     have : ¬ (a < m ∨ (a = m ∧ b < r)):=by omega
     simp [this]
    ·unfold fieldOk
     rw [hk]
     have : ¬ (a < m ∨ (a = m ∧ b < r)):=by omega
     simp [this]
    ·unfold fieldOk plain
     rw [hk,hbf]
     have : (a < m ∨ (a = m ∧ b < r)):=by omega
     simp [this]
    ·unfold fieldOk plain
     rw [hk,hbf]
     have : (a < m ∨ (a = m ∧ b < r)):=by omega
     simp [this]
 have j0 : ∀ bad : Bool,bad = !decide (0 ≤ x.f0 ∧ x.f0 ≤ 15 ∧ x.f1.length ≤ 3) → EvP (fun k=>impl_recordOk.j0 k K m r bad x.f0 x.f1) (· = recOk K m r x):=by
  intro bad hb
  subst hb
  refine EvP.succ ?_
  simp only [impl_recordOk.j0]
  unfold recOk
  refine EvP.ite (fun h=>EvP.ret _ ?_) (fun h=>?_)
  ·simp at h
   have : ¬ (0 ≤ x.f0 ∧ x.f0 ≤ 15 ∧ x.f1.length ≤ 3):=by omega
   simp [this]
  ·simp at h
   refine (loop (by omega) 0 (by omega)).mono (fun q hq=>?_)
   rw [hq]
   have : (0 ≤ x.f0 ∧ x.f0 ≤ 15 ∧ x.f1.length ≤ 3):=by omega
   simp [this]
 unfold impl_recordOk.f
 rw [e1,e2]
 refine EvP.pos (by omega) (EvP.pos (by omega) (EvP.pos (by omega) (EvP.pos (by omega) ?_)))
 refine EvP.ite (fun h=>j0 _ ?_) (fun h=>EvP.ite (fun h1=>j0 _ ?_) (fun h1=>j0 _ ?_))
 ·have : ¬ (0 ≤ x.f0 ∧ x.f0 ≤ 15 ∧ x.f1.length ≤ 3):=by omega
  simp [this]
 ·have : ¬ (0 ≤ x.f0 ∧ x.f0 ≤ 15 ∧ x.f1.length ≤ 3):=by omega
  simp [this]
 ·by_cases h2 : x.f1.length ≤ 3
  ·have : (0 ≤ x.f0 ∧ x.f0 ≤ 15 ∧ x.f1.length ≤ 3):=by omega
   have h3 : ¬ ((x.f1.length : Int) > 3):=by omega
   simp [this]
   omega
  ·have : ¬ (0 ≤ x.f0 ∧ x.f0 ≤ 15 ∧ x.f1.length ≤ 3):=by omega
   simp [this]
   omega
def Below16 (K : Kinds) (m r : Nat) : Prop:=∀ a b (ha : a < K.length) (hb : b < K[a].length),(a < m ∨ (a = m ∧ b < r)) → 0 ≤ K[a][b].f0 ∧ K[a][b].f0 ≤ 15
theorem able_field {K : Kinds} {m r : Nat} {t : ByteArray} (hI : Below16 K m r) (h : fieldOk K m r t = true) : 0 ≤ able K t ∧ able K t ≤ 15:=by
 have hr:=field_ref h
 unfold able
 rw [hr]
 simp only [Bool.false_eq_true,if_false]
 cases hg : kGet K t with
 | none=>simp
 | some x =>
  obtain ⟨a,b,h1,ha,hb,rfl⟩:=kGet_some hg
  unfold fieldOk at h
  rw [h1] at h
  simp at h
  exact hI a b ha hb h.2
theorem ev_spec_l1Able (K : Kinds) (t : ByteArray) (h : ∀ p,kAt t = some p → (kGet K t).isSome = true) : EvP (fun k=>spec_l1Able.f k K t) (· = able K t):=by
 have j0 : ∀ c : Bool,c = (isRef t && (bt t 0 == 38)) → EvP (fun k=>spec_l1Able.j0 k K t c) (· = able K t):=by
  intro c hc
  subst hc
  refine EvP.succ ?_
  simp only [spec_l1Able.j0]
  unfold able
  refine EvP.ite (fun h1=>EvP.ret _ (by simp at h1;simp [h1])) (fun h1=>EvP.call (eq_spec_l1RefR t) (EvP.ite (fun h2=>EvP.ret _ (by simp at h1;simp [h2,h1 h2])) (fun h2=>EvP.call (eq_spec_l1Kind t) ?_)))
  have h2 : isRef t = false:=by simpa using h2
  cases hk : kAt t with
  | none =>
   refine EvP.neg (by simp [kTup]) (EvP.ret _ ?_)
   simp [h2,kGet,hk]
  | some p =>
   obtain ⟨x,hx⟩:=Option.isSome_iff_exists.1 (h p hk)
   obtain ⟨a,b,h3,ha,hb,rfl⟩:=kGet_some hx
   rw [h3] at hk
   obtain rfl:=Option.some.inj hk
   simp only [kTup]
   have e : rd_L12 K (a : Int) = K[a]:=getDn ha
   have e2 : rd_T97 K[a] (b : Int) = K[a][b]:=getDn hb
   simp only [e,e2]
   refine EvP.pos (by trivial) (EvP.pos (by omega) (EvP.pos (by omega) (EvP.pos (by omega) (EvP.pos (by omega) (EvP.ret _ ?_)))))
   simp [h2,hx]
 unfold spec_l1Able.f
 refine EvP.call (eq_spec_l1RefR t) (EvP.ite (fun h1=>EvP.pos ?_ (j0 _ ?_)) (fun h1=>j0 _ ?_))
 ·unfold isRef at h1
  simp at h1
  omega
 ·simp [h1]
 ·simp at h1
  simp [h1]
theorem eq_spec_l1Field (K : Kinds) (m r : Nat) (t : ByteArray) : spec_l1Field.f K m r t = some (fieldOk K m r t):=by
 unfold spec_l1Field.f fieldOk
 rw [eq_spec_l1Kind]
 simp only [Option.bind_some]
 cases hk : kAt t with
 | none =>
  rw [if_neg (by simp [kTup]),eq_spec_l1Base]
  rfl
 | some p =>
  obtain ⟨a,b⟩:=p
  simp only [kTup]
  rw [if_pos trivial,eq_spec_l1Has K t a b hk]
  simp only [Option.bind_some]
  cases hg : (kGet K t).isSome with
  | false=>simp
  | true =>
   by_cases h1 : a < m
   ·simp [h1]
   ·by_cases h2 : a = m
    ·simp [h2]
    ·have h3 : ¬ ((a : Int) = (m : Int)):=by omega
     simp [h1,h2,h3]
theorem eq_spec_l1Can (a o : Int) (h : o ≠ 0) : spec_l1Can.f a o = some (can a o):=by
 unfold spec_l1Can.f can
 rw [if_neg h]
theorem ev_spec_l1Record (K : Kinds) (m r : Nat) (hm : m < K.length) (hr : r < K[m].length) (hI : Below16 K m r) : EvP (fun k=>spec_l1Record.f k K m r) (· = recOk K m r K[m][r]):=by
 have e1 : rd_L12 K (m : Int) = K[m]:=getDn hm
 have e2 : rd_T97 K[m] (r : Int) = K[m][r]:=getDn hr
 generalize hx : K[m][r] = x at e2 ⊢
 have loop : (0 ≤ x.f0 ∧ x.f0 ≤ 15 ∧ x.f1.length ≤ 3) → ∀ i,i ≤ x.f1.length → EvP (fun k=>spec_l1Record.l0 k K m r i x.f0 x.f1) (· = (x.f1.drop i).all fun t=>fieldOk K m r t && abOk x.f0 (able K t)):=by
  intro h3
  refine upInd ?_ ?_
  ·refine EvP.succ ?_
   simp only [spec_l1Record.l0]
   exact EvP.neg (by omega) (EvP.ret _ (by simp))
  ·intro i hi ih
   refine EvP.succ ?_
   simp only [spec_l1Record.l0]
   have e : rdOf ByteArray.empty x.f1 (i : Int) = x.f1[i]:=getDn hi
   rw [e,List.drop_eq_getElem_cons hi]
   generalize x.f1[i] = t
   refine EvP.pos (by omega) (EvP.pos (by omega) (EvP.call (eq_spec_l1Field K m r t) (EvP.ite (fun hf=>?_) (fun hf=>EvP.ret _ (by simp at hf;simp [hf])))))
   have hA:=able_field hI hf
   have hS:=ab_same h3.1 h3.2.1 hA.1 hA.2
   refine EvP.bind (ev_spec_l1Able K t (fun p hp=>by unfold fieldOk at hf;rw [hp] at hf;simp at hf;exact hf.1)) (fun w hw=>?_)
   subst hw
   have hall : ∀ q : Bool,q = (x.f1.drop (i + 1)).all (fun t=>fieldOk K m r t && abOk x.f0 (able K t)) → ∀ c,c = abSpec x.f0 (able K t) → (c && q) = (t :: x.f1.drop (i + 1)).all (fun t=>fieldOk K m r t && abOk x.f0 (able K t)):=by
    intro q hq c hc
    rw [hc,hS,hq,List.all_cons,hf,Bool.true_and]
   have j2 : ∀ bad : Bool,bad = ((can x.f0 1 && !can (able K t) 1) || (can x.f0 2 && !can (able K t) 2)) → EvP (fun k=>spec_l1Record.j2 k K m r i (able K t) bad x.f0 x.f1) (· = (t :: x.f1.drop (i + 1)).all fun t=>fieldOk K m r t && abOk x.f0 (able K t)):=by
    intro bad hb
    refine EvP.succ ?_
    simp only [spec_l1Record.j2]
    rw [w64s hi (by omega)]
    refine EvP.ite (fun h=>EvP.ret _ ?_) (fun h=>EvP.ite (fun h1=>EvP.call (eq_spec_l1Can _ 4 (by decide)) (EvP.ite (fun h2=>ih.mono (fun q hq=>?_)) (fun h2=>EvP.ret _ ?_))) (fun h1=>ih.mono (fun q hq=>?_)))
    ·rw [← hall _ rfl _ rfl]
     unfold abSpec
     rw [← hb,h]
     simp
    ·rw [← hall q hq _ rfl]
     unfold abSpec
     rw [← hb]
     simp [h,h2]
    ·rw [← hall _ rfl _ rfl]
     unfold abSpec
     simp at h2
     simp [h1,h2]
    ·rw [← hall q hq _ rfl]
     unfold abSpec
     rw [← hb]
     simp [h,h1]
   refine EvP.call (eq_spec_l1Can _ 1 (by decide)) (EvP.ite (fun c1=>EvP.call (eq_spec_l1Can _ 1 (by decide)) (EvP.ite (fun c2=>EvP.call (eq_spec_l1Can _ 2 (by decide)) (EvP.ite (fun c3=>EvP.call (eq_spec_l1Can _ 2 (by decide)) (j2 _ (by simp [c1,c2,c3]))) (fun c3=>j2 _ (by simp [c1,c2,c3])))) (fun c2=>j2 _ (by simp [c1,c2])))) (fun c1=>EvP.call (eq_spec_l1Can _ 2 (by decide)) (EvP.ite (fun c3=>EvP.call (eq_spec_l1Can _ 2 (by decide)) (j2 _ (by simp [c1,c3]))) (fun c3=>j2 _ (by simp [c1,c3])))))
 have j0 : ∀ bad : Bool,(bad = !decide (0 ≤ x.f0 ∧ x.f0 ≤ 15 ∧ x.f1.length ≤ 3)) → EvP (fun k=>spec_l1Record.j0 k K m r bad x.f0 x.f1) (· = recOk K m r x):=by
  intro bad hb
  subst hb
  refine EvP.succ ?_
  simp only [spec_l1Record.j0]
  unfold recOk
  refine EvP.ite (fun h=>EvP.ret _ ?_) (fun h=>?_)
  ·simp at h
   have : ¬ (0 ≤ x.f0 ∧ x.f0 ≤ 15 ∧ x.f1.length ≤ 3):=by omega
   simp [this]
  ·simp at h
   refine (loop (by omega) 0 (by omega)).mono (fun q hq=>?_)
   rw [hq]
   have : (0 ≤ x.f0 ∧ x.f0 ≤ 15 ∧ x.f1.length ≤ 3):=by omega
   simp [this]
 unfold spec_l1Record.f
 rw [e1,e2]
 refine EvP.pos (by omega) (EvP.pos (by omega) (EvP.pos (by omega) (EvP.pos (by omega) ?_)))
 have h6 : spec_l6In.f x.f0 0 15 = some (decide (0 ≤ x.f0 ∧ x.f0 ≤ 15)):=by
  unfold spec_l6In.f
  by_cases h : x.f0 ≥ 0
  ·rw [if_pos h]
   simp [h]
  ·rw [if_neg h]
   have : ¬ 0 ≤ x.f0:=by omega
   simp [this]
 refine EvP.call h6 (EvP.ite (fun h=>j0 _ ?_) (fun h=>j0 _ ?_))
 ·simp at h
  by_cases h2 : x.f1.length ≤ 3
  ·have : (0 ≤ x.f0 ∧ x.f0 ≤ 15 ∧ x.f1.length ≤ 3):=by omega
   have h3 : ¬ ((x.f1.length : Int) > 3):=by omega
   simp [this]
   omega
  ·have : ¬ (0 ≤ x.f0 ∧ x.f0 ≤ 15 ∧ x.f1.length ≤ 3):=by omega
   simp [this]
   omega
 ·have : ¬ (0 ≤ x.f0 ∧ x.f0 ≤ 15 ∧ x.f1.length ≤ 3):=by
   simp at h
   omega
  simp [this]
def kbIn (K : Kinds) (m : Nat) : Nat → Nat → Option Nat
 | 0,_=>none
 | d + 1,r=>if recOk K m r ((K.getD m []).getD r z97) = true then kbIn K m d (r + 1) else some r
def kbFrom (K : Kinds) : Nat → Nat → Int × Int
 | 0,_=>(-1,-1)
 | d + 1,m=>if (K.getD m []).length > 3 then ((m : Int),3) else match kbIn K m (K.getD m []).length 0 with | some r=>((m : Int),(r : Int)) | none=>kbFrom K d (m + 1)
def kBad (K : Kinds) : Int × Int:=if K.length > 3 then (3,0) else kbFrom K K.length 0
def kOk (K : Kinds) : Bool:=(kBad K).1 == -1
theorem ev_impl_KindsBad (K : Kinds) : EvP (fun k=>impl_KindsBad.f k K) (· = kBad K):=by
 unfold impl_KindsBad.f kBad
 refine EvP.ite (fun h=>EvP.ret _ (by rw [if_pos (by omega)])) (fun h=>?_)
 rw [if_neg (by omega)]
 have outer : ∀ d m,m + d = K.length → EvP (fun k=>impl_KindsBad.l0 k K K (K.length : Int) m) (· = kbFrom K d m):=by
  intro d
  induction d with
  | zero =>
   intro m hm
   refine EvP.succ ?_
   simp only [impl_KindsBad.l0]
   exact EvP.neg (by omega) (EvP.ret _ rfl)
  | succ d ih =>
   intro m hm
   refine EvP.succ ?_
   simp only [impl_KindsBad.l0]
   have hlt : m < K.length:=by omega
   have e1 : rd_L12 K (m : Int) = K[m]:=getDn hlt
   have e3 : K.getD m [] = K[m]:=by simp [List.getD_eq_getElem?_getD,List.getElem?_eq_getElem hlt]
   rw [e1]
   unfold kbFrom
   rw [e3]
   refine EvP.pos (by omega) (EvP.pos (by omega) (EvP.pos (by omega) (EvP.ite (fun h2=>EvP.ret _ (by rw [if_pos (by omega)])) (fun h2=>?_))))
   rw [if_neg (by omega)]
   have inner : ∀ e r,r + e = K[m].length → EvP (fun k=>impl_KindsBad.l1 k K m K (K.length : Int) m (K[m].length : Int) r) (· = match kbIn K m e r with | some r=>((m : Int),(r : Int)) | none=>kbFrom K d (m + 1)):=by
    intro e
    induction e with
    | zero =>
     intro r hr
     refine EvP.succ ?_
     simp only [impl_KindsBad.l1]
     rw [w64s hlt (by omega)]
     exact EvP.neg (by omega) (ih (m + 1) (by omega))
    | succ e ih2 =>
     intro r hr
     refine EvP.succ ?_
     simp only [impl_KindsBad.l1]
     have hrl : r < K[m].length:=by omega
     have e4 : K[m].getD r z97 = K[m][r]:=by simp [List.getD_eq_getElem?_getD,List.getElem?_eq_getElem hrl]
     rw [w64s hrl (by omega)]
     unfold kbIn
     rw [e3,e4]
     refine EvP.pos (by omega) (EvP.bind (ev_impl_recordOk K m r hlt hrl) (fun t ht=>?_))
     subst ht
     refine EvP.ite (fun h3=>?_) (fun h3=>EvP.ret _ (by rw [if_neg h3]))
     rw [if_pos h3]
     exact ih2 (r + 1) (by omega)
   exact inner _ 0 (by omega)
 exact outer _ 0 (by omega)
theorem recOk_range {K : Kinds} {m r : Nat} {x : Rec} (h : recOk K m r x = true) : 0 ≤ x.f0 ∧ x.f0 ≤ 15 ∧ x.f1.length ≤ 3:=by
 unfold recOk at h
 simp at h
 omega
theorem ev_spec_KindsBad (K : Kinds) : EvP (fun k=>spec_KindsBad.f k K) (· = kBad K):=by
 unfold spec_KindsBad.f kBad
 refine EvP.ite (fun h=>EvP.ret _ (by rw [if_pos (by omega)])) (fun h=>?_)
 rw [if_neg (by omega)]
 have outer : ∀ d m,m + d = K.length → Below16 K m 0 → EvP (fun k=>spec_KindsBad.l0 k K m) (· = kbFrom K d m):=by
  intro d
  induction d with
  | zero =>
   intro m hm _
   refine EvP.succ ?_
   simp only [spec_KindsBad.l0]
   exact EvP.neg (by omega) (EvP.ret _ rfl)
  | succ d ih =>
   intro m hm hI
   refine EvP.succ ?_
   simp only [spec_KindsBad.l0]
   have hlt : m < K.length:=by omega
   have e1 : rd_L12 K (m : Int) = K[m]:=getDn hlt
   have e3 : K.getD m [] = K[m]:=by simp [List.getD_eq_getElem?_getD,List.getElem?_eq_getElem hlt]
   rw [e1]
   unfold kbFrom
   rw [e3]
   refine EvP.pos (by omega) (EvP.pos (by omega) (EvP.ite (fun h2=>EvP.ret _ (by rw [if_pos (by omega)])) (fun h2=>?_)))
   rw [if_neg (by omega)]
   have inner : ∀ e r,r + e = K[m].length → Below16 K m r → EvP (fun k=>spec_KindsBad.l1 k K m r) (· = match kbIn K m e r with | some r=>((m : Int),(r : Int)) | none=>kbFrom K d (m + 1)):=by
    intro e
    induction e with
    | zero =>
     intro r hr hI
     refine EvP.succ ?_
     simp only [spec_KindsBad.l1]
     rw [e1,w64s hlt (by omega)]
     refine EvP.pos (by omega) (EvP.pos (by omega) (EvP.neg (by omega) (ih (m + 1) (by omega) ?_)))
     intro a b ha hb hab
     refine hI a b ha hb ?_
     rcases Nat.lt_or_ge a m with h5 | h5
     ·exact .inl h5
     ·obtain rfl : a = m:=by omega
      exact .inr ⟨rfl,by omega⟩
    | succ e ih2 =>
     intro r hr hI
     refine EvP.succ ?_
     simp only [spec_KindsBad.l1]
     have hrl : r < K[m].length:=by omega
     have e4 : K[m].getD r z97 = K[m][r]:=by simp [List.getD_eq_getElem?_getD,List.getElem?_eq_getElem hrl]
     rw [e1,w64s hrl (by omega)]
     unfold kbIn
     rw [e3,e4]
     refine EvP.pos (by omega) (EvP.pos (by omega) (EvP.pos (by omega) (EvP.bind (ev_spec_l1Record K m r hlt hrl hI) (fun t ht=>?_))))
     subst ht
     refine EvP.ite (fun h3=>?_) (fun h3=>EvP.ret _ (by rw [if_neg h3]))
     rw [if_pos h3]
     refine ih2 (r + 1) (by omega) ?_
     intro a b ha hb hab
     by_cases h6 : a = m ∧ b = r
     ·obtain ⟨rfl,rfl⟩:=h6
      have:=recOk_range h3
      omega
     ·exact hI a b ha hb (by omega)
   exact inner _ 0 (by omega) hI
 exact outer _ 0 (by omega) (fun a b ha hb hab=>by omega)
theorem ev_impl_KindsOk (K : Kinds) : EvP (fun k=>impl_KindsOk.f k K) (· = kOk K):=by
 unfold impl_KindsOk.f
 refine EvP.bind (ev_impl_KindsBad K) (fun t ht=>EvP.ret _ ?_)
 rw [ht]
 rfl
theorem kbFrom_neg (K : Kinds) : ∀ d m,(kbFrom K d m).1 = -1 ∨ 0 ≤ (kbFrom K d m).1:=by
 intro d
 induction d with
 | zero=>exact fun m=>.inl rfl
 | succ d ih =>
  intro m
  unfold kbFrom
  split
  ·exact .inr (by show (0 : Int) ≤ (m : Int);omega)
  ·split
   ·exact .inr (by show (0 : Int) ≤ (m : Int);omega)
   ·exact ih (m + 1)
theorem kBad_neg (K : Kinds) : (kBad K).1 = -1 ∨ 0 ≤ (kBad K).1:=by
 unfold kBad
 split
 ·exact .inr (by decide)
 ·exact kbFrom_neg K _ _
theorem ev_spec_KindsOk (K : Kinds) : EvP (fun k=>spec_KindsOk.f k K) (· = kOk K):=by
 unfold spec_KindsOk.f
 refine EvP.bind (ev_spec_KindsBad K) (fun t ht=>EvP.ret _ ?_)
 rw [ht]
 unfold kOk
 rcases kBad_neg K with h | h
 ·rw [h]
  rfl
 ·have h1 : ¬ (kBad K).1 < 0:=by omega
  have h2 : ¬ (kBad K).1 = -1:=by omega
  simp [h1,h2]
theorem eq_spec_l1Plain (K : Kinds) (t : ByteArray) : spec_l1Plain.f K t = some (plain K t):=by
 unfold spec_l1Plain.f plain
 rw [eq_spec_l1Kind,eq_spec_l1Base]
 simp only [Option.bind_some]
 by_cases h : isBase t = true
 ·rw [if_pos h]
  simp [h]
 ·rw [if_neg h]
  simp at h
  cases hk : kAt t with
  | none =>
   rw [if_neg (by simp [kTup])]
   simp [h,kGet,hk]
  | some p =>
   obtain ⟨a,b⟩:=p
   simp only [kTup]
   rw [if_pos trivial,eq_spec_l1Has K t a b hk]
   simp [h]
def sFunc (x : S57) : Prop:=x.f1.length ≤ 1048576 ∧ x.f2.length ≤ 1048576 ∧ x.f3.length ≤ 1048576 ∧ x.f4.length ≤ 1048576 ∧ x.f5.length ≤ 1048576
def sModule (x : S40) : Prop:=x.f0.length ≤ 1048576 ∧ x.f1.length ≤ 1048576 ∧ x.f2.length ≤ 1048576 ∧ ∀ f ∈ x.f1,sFunc f
def sMods (K : List S40) : Prop:=K.length ≤ 1048576 ∧ ∀ m ∈ K,sModule m
theorem sMods_c {xs : List S50} (h : wl wModule xs ≤ 1048576) : sMods (xs.map cModule):=by
 have hn:=Nat.le_trans len_wl h
 refine ⟨by rw [List.length_map];exact hn,fun x hx=>?_⟩
 obtain ⟨y,hy,rfl⟩:=List.mem_map.1 hx
 have h2:=mem_wl (f:=wModule) hy
 have e2 : wModule y = wl wRecord y.f0 + wl wFunc y.f1 + wl (fun _ : Int=>0) y.f2:=rfl
 have a1:=len_wl (f:=wRecord) (xs:=y.f0)
 have a2:=len_wl (f:=wFunc) (xs:=y.f1)
 have a3:=len_wl (f:=fun _ : Int=>0) (xs:=y.f2)
 refine ⟨by show (y.f0.map cRecord).length ≤ _;rw [List.length_map];omega,by show (y.f1.map cFunc).length ≤ _;rw [List.length_map];omega,by show y.f2.length ≤ _;omega,fun f hf=>?_⟩
 obtain ⟨g,hg,rfl⟩:=List.mem_map.1 hf
 have h3:=mem_wl (f:=wFunc) hg
 have e3 : wFunc g = wl ByteArray.size g.f1 + wl ByteArray.size g.f2 + wl ByteArray.size g.f3 + wl (fun _ : Int=>0) g.f4 + wl wIns g.f5:=rfl
 have b1:=len_wl (f:=ByteArray.size) (xs:=g.f1)
 have b2:=len_wl (f:=ByteArray.size) (xs:=g.f2)
 have b3:=len_wl (f:=ByteArray.size) (xs:=g.f3)
 have b4:=len_wl (f:=fun _ : Int=>0) (xs:=g.f4)
 have b5:=len_wl (f:=wIns) (xs:=g.f5)
 exact ⟨by show g.f1.length ≤ _;omega,by show g.f2.length ≤ _;omega,by show g.f3.length ≤ _;omega,by show g.f4.length ≤ _;omega,by show (g.f5.map cIns).length ≤ _;rw [List.length_map];omega⟩
theorem qMods_c {xs : List S50} (h : wl wModule xs ≤ 1048576) : qModuleS (xs.map cModule):=by
 have hs:=sMods_c h
 refine ⟨by have:=hs.1;omega,fun x hx=>?_⟩
 obtain ⟨h0,h1,h2,h3⟩:=hs.2 x hx
 obtain ⟨y,hy,rfl⟩:=List.mem_map.1 hx
 have w2:=mem_wl (f:=wModule) hy
 have e2 : wModule y = wl wRecord y.f0 + wl wFunc y.f1 + wl (fun _ : Int=>0) y.f2:=rfl
 refine ⟨⟨by omega,fun r hr=>?_⟩,⟨by omega,fun f hf=>?_⟩,by show (cModule y).f2.length ≤ _;omega⟩
 ·obtain ⟨z,hz,rfl⟩:=List.mem_map.1 hr
  have h4:=mem_wl (f:=wRecord) hz
  have h5 : wRecord z = wl ByteArray.size z.f1:=rfl
  have h6:=len_wl (f:=ByteArray.size) (xs:=z.f1)
  show z.f1.length ≤ _
  omega
 ·obtain ⟨f1,f2,f3,f4,f5⟩:=h3 f hf
  exact ⟨by show f.f1.length ≤ _;omega,by show f.f2.length ≤ _;omega,by show f.f3.length ≤ _;omega,by show f.f4.length ≤ _;omega,⟨by omega,fun _ _=>trivial⟩⟩
theorem rdM {K : List S40} (h : sMods K) {m : Int} (h0 : 0 ≤ m) (h1 : m < (K.length : Int)) : sModule (rd_T40 K m):=by
 have hl : m.toNat < K.length:=by omega
 have e : rd_T40 K m = K[m.toNat]:=by
  unfold rd_T40
  rw [List.getD_eq_getElem?_getD,List.getElem?_eq_getElem hl]
  rfl
 rw [e]
 exact h.2 _ (List.getElem_mem hl)
theorem rdF {L : List S57} (h : ∀ f ∈ L,sFunc f) {m : Int} (h0 : 0 ≤ m) (h1 : m < (L.length : Int)) : sFunc (rd_T57 L m):=by
 have hl : m.toNat < L.length:=by omega
 have e : rd_T57 L m = L[m.toNat]:=by
  unfold rd_T57
  rw [List.getD_eq_getElem?_getD,List.getElem?_eq_getElem hl]
  rfl
 rw [e]
 exact h _ (List.getElem_mem hl)
def hasF (K : List S40) (m f : Int) : Bool:=decide (0 ≤ m ∧ m < (K.length : Int) ∧ 0 ≤ f ∧ f < ((rd_T40 K m).f1.length : Int))
theorem eq_spec_l4Has (K : List S40) (hK : sMods K) (m f : Int) : spec_l4Has.f K m f = some (hasF K m f):=by
 have hl:=hK.1
 unfold spec_l4Has.f spec_l6In.f hasF
 rw [w64 (n:=(K.length : Int) - 1) (by omega) (by omega)]
 by_cases h0 : m ≥ 0
 ·rw [if_pos h0]
  simp only [Option.bind_some]
  by_cases h1 : m ≤ (K.length : Int) - 1
  ·rw [if_pos (by simpa using h1),if_pos h0,if_pos (by omega)]
   have hM:=(rdM hK h0 (by omega)).2.1
   rw [w64 (n:=((rd_T40 K m).f1.length : Int) - 1) (by omega) (by omega)]
   by_cases h2 : f ≥ 0
   ·rw [if_pos h2]
    simp only [Option.bind_some]
    congr 1
    rw [decide_eq_decide]
    omega
   ·rw [if_neg h2]
    simp only [Option.bind_some]
    rw [decide_eq_false (by omega)]
  ·rw [if_neg (by simpa using h1),decide_eq_false (by omega)]
 ·rw [if_neg h0]
  simp only [Option.bind_some]
  rw [if_neg (by simp),decide_eq_false (by omega)]
theorem eq_impl_copyFunc (F : S57) (h : sFunc F) : impl_copyFunc.f F.f0 F.f1 F.f2 F.f3 F.f4 F.f5 = some (F.f0,F.f1,F.f2,F.f3,F.f4,F.f5):=by
 obtain ⟨h1,h2,h3,h4,h5⟩:=h
 have ct : ∀ l : List ByteArray,l.length ≤ 1048576 → impl_copyTexts.f l = some l:=by
  intro l hl
  unfold impl_copyTexts.f slices_Clip_string_string.f
  simp only [Option.bind_some,List.nil_append]
  rw [if_pos (by simp;omega)]
 have ci : impl_copyInts.f F.f4 = some F.f4:=by
  unfold impl_copyInts.f slices_Clip_int_int.f
  simp only [Option.bind_some,List.nil_append]
  rw [if_pos (by simp;omega)]
 unfold impl_copyFunc.f impl_Ins.f
 simp only [Option.bind_some,List.nil_append]
 rw [if_pos (by simp;omega),ct _ h1,ct _ h2,ct _ h3,ci]
 rfl
abbrev Tri:=ByteArray × Int × Int
def look (w : ByteArray) : List Tri → ByteArray × Int × Int × Bool
 | []=>(⟨#[]⟩,0,0,false)
 | x :: xs=>if x.1.toList = w.toList then (x.1,x.2.1,x.2.2,true) else look w xs
def triF (x : S149) : Tri:=(x.f0,x.f1,x.f2)
def triI (x : S107) : Tri:=(x.f0,x.f1,x.f2)
def insTab : List Tri:=match spec_l3Table.f with | some t=>t.map triI | none=>[]
theorem insTab_ok : insTab.all (fun x=>decide (0 ≤ x.2.1 ∧ x.2.1 ≤ 1000001 ∧ 0 ≤ x.2.2 ∧ x.2.2 ≤ 1000001)) = true:=by decide +kernel
theorem look_in (w : ByteArray) : ∀ T : List Tri,T.all (fun x=>decide (0 ≤ x.2.1 ∧ x.2.1 ≤ 1000001 ∧ 0 ≤ x.2.2 ∧ x.2.2 ≤ 1000001)) = true → 0 ≤ (look w T).2.1 ∧ (look w T).2.1 ≤ 1000001 ∧ 0 ≤ (look w T).2.2.1 ∧ (look w T).2.2.1 ≤ 1000001
 | [],_=>by unfold look;simp
 | x :: xs,h=>by
  rw [List.all_cons,Bool.and_eq_true] at h
  unfold look
  split
  ·exact of_decide_eq_true h.1
  ·exact look_in w xs h.2
def insForms : List S149:=insTab.map fun x=>⟨x.1,x.2.1,x.2.2⟩
theorem forms_eq (k : Nat) : impl_insForms.f (k + 60) = some insForms:=by kernel_rfl
theorem ev_impl_insForms : EvP (fun k=>impl_insForms.f k) (· = insForms):=⟨insForms,⟨60,fun k hk=>by
 obtain ⟨d,rfl⟩:=Nat.exists_eq_add_of_le' hk
 exact forms_eq d⟩,rfl⟩
theorem ev_impl_formOf (w : ByteArray) : EvP (fun k=>impl_formOf.f k w) (· = look w insTab):=by
 have loop : ∀ xs : List S149,xs.length ≤ 1000 → EvP (fun k=>impl_formOf.l0 k w xs (xs.length : Int) 0) (· = look w (xs.map triF)):=by
  intro xs hl
  have key : ∀ i,i ≤ xs.length → EvP (fun k=>impl_formOf.l0 k w xs (xs.length : Int) i) (· = look w ((xs.drop i).map triF)):=by
   refine upInd ?_ ?_
   ·refine EvP.succ ?_
    simp only [impl_formOf.l0]
    exact EvP.neg (by omega) (EvP.ret _ (by rw [List.drop_length];rfl))
   ·intro i hi ih
    refine EvP.succ ?_
    simp only [impl_formOf.l0]
    have e : rd_T149 xs (i : Int) = xs[i]:=getDn hi
    rw [e,w64s hi (by omega),List.drop_eq_getElem_cons hi,List.map_cons,look]
    refine EvP.pos (by omega) (EvP.pos (by omega) (EvP.pos (by omega) (EvP.ite (fun h=>EvP.ret _ ?_) (fun h=>ih.mono (fun r hr=>?_)))))
    ·exact (if_pos h).symm
    ·rw [hr]
     exact (if_neg h).symm
  exact (key 0 (by omega)).mono (fun r hr=>by rw [hr,List.drop_zero])
 unfold impl_formOf.f
 refine EvP.bind ev_impl_insForms (fun t ht=>?_)
 subst ht
 have hl : insForms.length ≤ 1000:=by decide +kernel
 have e : insForms.map triF = insTab:=by
  unfold insForms
  rw [List.map_map]
  exact List.map_id _
 rw [← e]
 exact loop insForms hl
theorem ev_spec_l3Needs (w : ByteArray) : EvP (fun k=>spec_l3Needs.f k w) (· = look w insTab):=by
 have loop : ∀ xs : List S107,xs.length ≤ 1000 → EvP (fun k=>spec_l3Needs.l0 k w xs 0) (· = look w (xs.map triI)):=by
  intro xs hl
  have key : ∀ i,i ≤ xs.length → EvP (fun k=>spec_l3Needs.l0 k w xs i) (· = look w ((xs.drop i).map triI)):=by
   refine upInd ?_ ?_
   ·refine EvP.succ ?_
    simp only [spec_l3Needs.l0]
    exact EvP.neg (by omega) (EvP.ret _ (by rw [List.drop_length];rfl))
   ·intro i hi ih
    refine EvP.succ ?_
    simp only [spec_l3Needs.l0]
    have e : rd_T107 xs (i : Int) = xs[i]:=getDn hi
    rw [e,w64s hi (by omega),List.drop_eq_getElem_cons hi,List.map_cons,look]
    refine EvP.pos (by omega) (EvP.pos (by omega) (EvP.ite (fun h=>EvP.ret _ ?_) (fun h=>ih.mono (fun r hr=>?_))))
    ·exact (if_pos h).symm
    ·rw [hr]
     exact (if_neg h).symm
  exact (key 0 (by omega)).mono (fun r hr=>by rw [hr,List.drop_zero])
 unfold spec_l3Needs.f
 have ht : ∃ T,spec_l3Table.f = some T ∧ T.length ≤ 1000:=⟨_,rfl,by decide +kernel⟩
 obtain ⟨T,ht,hl⟩:=ht
 have hi : insTab = T.map triI:=by unfold insTab;rw [ht]
 rw [hi]
 exact EvP.call ht (loop T hl)
def lim (l n : Int) : Bool:=decide (n = 0 ∨ (0 < n ∧ n < l))
def insOk (w : ByteArray) (a b : Int) : Bool:=(look w insTab).2.2.2 && (lim (look w insTab).2.1 a && lim (look w insTab).2.2.1 b)
theorem eq_impl_limitOk (l n : Int) : impl_limitOk.f l n = some (lim l n):=by
 unfold impl_limitOk.f lim
 by_cases h : n = 0
 ·rw [if_pos h,decide_eq_true (.inl h)]
 ·rw [if_neg h]
  by_cases h2 : n > 0
  ·rw [if_pos h2]
   congr 1
   rw [decide_eq_decide]
   omega
  ·rw [if_neg h2,decide_eq_false (by omega)]
theorem eq_spec_l3Fits (n l : Int) (h0 : 0 ≤ l) (h1 : l ≤ 1000001) : spec_l3Fits.f n l = some (lim l n):=by
 unfold spec_l3Fits.f lim spec_l6In.f
 by_cases h : l = 0
 ·rw [if_pos h]
  congr 1
  rw [Bool.eq_iff_iff,beq_iff_eq,decide_eq_true_iff]
  omega
 ·rw [if_neg h,w64 (by omega) (by omega)]
  by_cases h2 : n ≥ 0
  ·rw [if_pos h2]
   simp only [Option.bind_some]
   congr 1
   rw [decide_eq_decide]
   omega
  ·rw [if_neg h2,decide_eq_false (by omega)]
   rfl
theorem ev_impl_InsOk (w : ByteArray) (a b : Int) : EvP (fun k=>impl_InsOk.f k w a b) (· = insOk w a b):=by
 unfold impl_InsOk.f insOk
 refine EvP.bind (ev_impl_formOf w) (fun t ht=>?_)
 subst ht
 refine EvP.ite (fun h=>EvP.call (eq_impl_limitOk _ _) (EvP.ite (fun h2=>EvP.call (eq_impl_limitOk _ _) (EvP.ret _ ?_)) (fun h2=>EvP.ret _ ?_))) (fun h=>EvP.ret _ ?_)
 ·rw [h,h2,Bool.true_and,Bool.true_and]
 ·rw [Bool.not_eq_true] at h2
  rw [h,h2,Bool.true_and,Bool.false_and]
 ·rw [Bool.not_eq_true] at h
  rw [h,Bool.false_and]
theorem ev_spec_InsOk (w : ByteArray) (a b : Int) : EvP (fun k=>spec_InsOk.f k w a b) (· = insOk w a b):=by
 unfold spec_InsOk.f insOk
 obtain ⟨r0,r1,r2,r3⟩:=look_in w insTab insTab_ok
 refine EvP.bind (ev_spec_l3Needs w) (fun t ht=>?_)
 subst ht
 refine EvP.ite (fun h=>EvP.call (eq_spec_l3Fits _ _ r0 r1) (EvP.ite (fun h2=>EvP.call (eq_spec_l3Fits _ _ r2 r3) (EvP.ret _ ?_)) (fun h2=>EvP.ret _ ?_))) (fun h=>EvP.ret _ ?_)
 ·rw [h,h2,Bool.true_and,Bool.true_and]
 ·rw [Bool.not_eq_true] at h2
  rw [h,h2,Bool.true_and,Bool.false_and]
 ·rw [Bool.not_eq_true] at h
  rw [h,Bool.false_and]
def mkD : Nat → Nat → ByteArray → ByteArray
 | 0,_,a=>a
 | f + 1,n,a=>if n = 0 then a else mkD f (n / 10) (strOfNums [(wrap64 (48 + ((n % 10 : Nat) : Int))) % 256] ++ a)
def mtx (n : Nat) : ByteArray:=(⟨#[109]⟩ : ByteArray) ++ mkD n n ⟨#[]⟩
theorem ev_laws_markText_l0 : ∀ (f n : Nat) (a : ByteArray),n ≤ f → n ≤ 9000001 → a.size + n ≤ 27000000 → EvP (fun k=>laws_markText.l0 k (n : Int) a) (· = (⟨#[109]⟩ : ByteArray) ++ mkD f n a)
 | 0,n,a,h,_,h2=>by
  refine EvP.succ ?_
  simp only [laws_markText.l0]
  exact EvP.neg (by omega) (EvP.pos (by omega) (EvP.ret _ rfl))
 | f + 1,n,a,h,h1,h2=>by
  refine EvP.succ ?_
  simp only [laws_markText.l0]
  refine EvP.ite (fun h3=>?_) (fun h3=>EvP.pos (by omega) (EvP.ret _ ?_))
  ·have e1 : wrap64 (Int.tdiv (n : Int) 10) = ((n / 10 : Nat) : Int):=by
    have : Int.tdiv (n : Int) 10 = ((n / 10 : Nat) : Int):=rfl
    rw [this,w64 (by omega) (by omega)]
   have e2 : Int.tmod (n : Int) 10 = ((n % 10 : Nat) : Int):=rfl
   have e3 : (strOfNums [(wrap64 (48 + ((n % 10 : Nat) : Int))) % 256]).size = 1:=rfl
   rw [e1,e2]
   simp only [Option.bind_some]
   have e4 : mkD (f + 1) n a = mkD f (n / 10) (strOfNums [(wrap64 (48 + ((n % 10 : Nat) : Int))) % 256] ++ a):=by rw [mkD,if_neg (by omega)]
   rw [e4]
   exact EvP.pos (by omega) (ev_laws_markText_l0 f (n / 10) _ (by omega) (by omega) (by rw [ByteArray.size_append];omega))
  ·have e : n = 0:=by omega
   subst e
   rw [mkD,if_pos rfl]
theorem ev_laws_markText (n : Nat) (h0 : 1 ≤ n) (h1 : n ≤ 9000001) : EvP (fun k=>laws_markText.f k (n : Int)) (· = mtx n):=by
 unfold laws_markText.f mtx
 exact EvP.neg (by omega) (ev_laws_markText_l0 n n ⟨#[]⟩ (Nat.le_refl _) h1 (by have : (⟨#[]⟩ : ByteArray).size = 0:=rfl;omega))
theorem ev_spec_ShelfKinds_l1 (K : List S40) (X : List (List S97)) (m : Nat) (hm : m < K.length) (hX : X.length < 5864062014805) (hl : K[m].f0.length < 4398046511104) (hf : ∀ x ∈ K[m].f0,x.f1.length < 8796093022208) (R : List (List S97))
  (h0 : EvP (fun k=>spec_ShelfKinds.l0 k K (X ++ [K[m].f0]) ((m + 1 : Nat) : Int)) (· = R)) (hml : K.length ≤ 5864062014805) : ∀ d i,i + d = K[m].f0.length → EvP (fun k=>spec_ShelfKinds.l1 k K X (m : Int) (K[m].f0.take i) (i : Int)) (· = R):=by
 intro d
 have hrd : rd_T40 K (m : Int) = K[m]:=getDn hm
 induction d with
 | zero =>
  intro i hi
  refine EvP.succ ?_
  simp only [spec_ShelfKinds.l1,hrd]
  refine EvP.pos (by omega) (EvP.pos (by omega) (EvP.neg (by omega) (EvP.pos hX ?_)))
  rw [List.take_of_length_le (by omega),w64s hm (by omega)]
  exact h0
 | succ d ih =>
  intro i hi
  refine EvP.succ ?_
  simp only [spec_ShelfKinds.l1,hrd]
  have hlt : i < K[m].f0.length:=by omega
  have hr2 : rd_T97 K[m].f0 (i : Int) = K[m].f0[i]:=getDn hlt
  refine EvP.pos (by omega) (EvP.pos (by omega) (EvP.pos (by omega) (EvP.pos (by omega) ?_)))
  simp only [Option.bind_some,hr2,List.nil_append,List.length_nil,Nat.zero_add]
  refine EvP.pos (hf _ (List.getElem_mem hlt)) (EvP.pos (by have:=List.length_take_le i K[m].f0;omega) ?_)
  rw [w64s hlt (by omega)]
  have e : K[m].f0.take i ++ [(⟨K[m].f0[i].f0,K[m].f0[i].f1⟩ : S97)] = K[m].f0.take (i + 1):=(List.take_succ_eq_append_getElem hlt).symm
  rw [e]
  exact ih (i + 1) (by omega)
theorem ev_spec_ShelfKinds (K : List S40) (hK : K.length < 5864062014805) (hl : ∀ m ∈ K,m.f0.length < 4398046511104 ∧ ∀ x ∈ m.f0,x.f1.length < 8796093022208) : EvP (fun k=>spec_ShelfKinds.f k K) (· = K.map fun m=>m.f0):=by
 have H : ∀ d m,m + d = K.length → EvP (fun k=>spec_ShelfKinds.l0 k K ((K.take m).map fun m=>m.f0) (m : Int)) (· = K.map fun m=>m.f0):=by
  intro d
  induction d with
  | zero =>
   intro m hm
   refine EvP.succ ?_
   simp only [spec_ShelfKinds.l0]
   exact EvP.neg (by omega) (EvP.ret _ (by rw [List.take_of_length_le (by omega)]))
  | succ d ih =>
   intro m hm
   refine EvP.succ ?_
   simp only [spec_ShelfKinds.l0]
   have hlt : m < K.length:=by omega
   have hb:=hl _ (List.getElem_mem hlt)
   refine EvP.pos (by omega) ?_
   refine ev_spec_ShelfKinds_l1 K _ m hlt (by rw [List.length_map];have:=List.length_take_le m K;omega) hb.1 hb.2 _ ?_ (by omega) K[m].f0.length 0 (by omega)
   have e : (K.take m).map (fun m=>m.f0) ++ [K[m].f0] = (K.take (m + 1)).map fun m=>m.f0:=by rw [List.take_succ_eq_append_getElem hlt,List.map_append];rfl
   rw [e]
   exact ih (m + 1) (by omega)
 exact H K.length 0 (by omega)
theorem kinds_bounds {xs : List S50} (h : wl wModule xs ≤ 1048576) : (xs.map cModule).length ≤ 1048576 ∧ ∀ m ∈ xs.map cModule,m.f0.length ≤ 1048576 ∧ ∀ x ∈ m.f0,x.f1.length ≤ 1048576:=by
 have hn:=Nat.le_trans len_wl h
 refine ⟨by rw [List.length_map];exact hn,fun x hx=>?_⟩
 obtain ⟨y,hy,rfl⟩:=List.mem_map.1 hx
 have h2:=mem_wl (f:=wModule) hy
 have e2 : wModule y = wl wRecord y.f0 + wl wFunc y.f1 + wl (fun _ : Int=>0) y.f2:=rfl
 have a1:=len_wl (f:=wRecord) (xs:=y.f0)
 refine ⟨by show (y.f0.map cRecord).length ≤ _;rw [List.length_map];omega,fun r hr=>?_⟩
 obtain ⟨z,hz,rfl⟩:=List.mem_map.1 hr
 have h3:=mem_wl (f:=wRecord) hz
 have e3 : wRecord z = wl ByteArray.size z.f1:=rfl
 have b1:=len_wl (f:=ByteArray.size) (xs:=z.f1)
 show z.f1.length ≤ _
 omega
theorem sum_le_wl {α : Type} (f g : α → Nat) : ∀ (xs : List α),(∀ x ∈ xs,g x ≤ 3 * f x + 3) → (xs.map g).sum ≤ 3 * wl f xs
 | [],_=>by simp
 | x :: xs,h=>by
  have h1:=sum_le_wl f g xs (fun y hy=>h y (List.mem_cons_of_mem _ hy))
  have h2:=h x List.mem_cons_self
  simp only [wl,List.map_cons,List.sum_cons,List.length_cons] at h1 ⊢
  omega
def cnRec (x : S97) : Nat:=1 + (x.f1.map fun _=>1).sum
def cnIns (x : S107) : Nat:=1 + (1 + 1)
def cnFunc (x : S57) : Nat:=1 + ((x.f1.map fun _=>1).sum + ((x.f2.map fun _=>1).sum + ((x.f3.map fun _=>1).sum + ((x.f4.map fun _=>1).sum + (x.f5.map cnIns).sum))))
def cnMod (x : S40) : Nat:=(x.f0.map cnRec).sum + ((x.f1.map cnFunc).sum + (x.f2.map fun _=>1).sum)
theorem cn_strs (xs : List ByteArray) : (xs.map fun _=>1).sum ≤ wl ByteArray.size xs:=by
 have : ∀ xs : List ByteArray,(xs.map fun _=>1).sum = xs.length:=fun xs=>by induction xs with | nil=>rfl | cons x xs ih=>simp only [List.map_cons,List.sum_cons,List.length_cons] at ih ⊢;omega
 rw [this]
 exact len_wl
theorem cn_ints (xs : List Int) : (xs.map fun _=>1).sum ≤ wl (fun _ : Int=>0) xs:=by
 have : ∀ xs : List Int,(xs.map fun _=>1).sum = xs.length:=fun xs=>by induction xs with | nil=>rfl | cons x xs ih=>simp only [List.map_cons,List.sum_cons,List.length_cons] at ih ⊢;omega
 rw [this]
 exact len_wl
theorem cn_mods (xs : List S50) : ((xs.map cModule).map cnMod).sum ≤ 3 * wl wModule xs:=by
 rw [List.map_map]
 refine sum_le_wl _ _ xs (fun m _=>?_)
 have e : wModule m = wl wRecord m.f0 + wl wFunc m.f1 + wl (fun _ : Int=>0) m.f2:=rfl
 have h0 : ((m.f0.map cRecord).map cnRec).sum ≤ 3 * wl wRecord m.f0:=by
  rw [List.map_map]
  refine sum_le_wl _ _ _ (fun x _=>?_)
  have e1 : wRecord x = wl ByteArray.size x.f1:=rfl
  have e2 : (cnRec ∘ cRecord) x = 1 + (x.f1.map fun _=>1).sum:=rfl
  have:=cn_strs x.f1
  omega
 have h1 : ((m.f1.map cFunc).map cnFunc).sum ≤ 3 * wl wFunc m.f1:=by
  rw [List.map_map]
  refine sum_le_wl _ _ _ (fun x _=>?_)
  have e1 : wFunc x = wl ByteArray.size x.f1 + wl ByteArray.size x.f2 + wl ByteArray.size x.f3 + wl (fun _ : Int=>0) x.f4 + wl wIns x.f5:=rfl
  have e2 : (cnFunc ∘ cFunc) x = 1 + ((x.f1.map fun _=>1).sum + ((x.f2.map fun _=>1).sum + ((x.f3.map fun _=>1).sum + ((x.f4.map fun _=>1).sum + ((x.f5.map cIns).map cnIns).sum)))):=rfl
  have a1:=cn_strs x.f1
  have a2:=cn_strs x.f2
  have a3:=cn_strs x.f3
  have a4:=cn_ints x.f4
  have a5 : ((x.f5.map cIns).map cnIns).sum ≤ 3 * wl wIns x.f5:=by
   rw [List.map_map]
   refine sum_le_wl _ _ _ (fun y _=>?_)
   have e3 : (cnIns ∘ cIns) y = 3:=rfl
   omega
  omega
 have h2:=cn_ints m.f2
 have e3 : (cnMod ∘ cModule) m = ((m.f0.map cRecord).map cnRec).sum + (((m.f1.map cFunc).map cnFunc).sum + (m.f2.map fun _=>1).sum):=rfl
 omega
theorem sum_one {α : Type} : ∀ xs : List α,(xs.map fun _=>1).sum = xs.length
 | []=>rfl
 | x :: xs=>by have:=sum_one xs;simp only [List.map_cons,List.sum_cons,List.length_cons] at this ⊢;omega
theorem sum_three {α : Type} : ∀ xs : List α,(xs.map fun _=>1 + (1 + 1)).sum = 3 * xs.length
 | []=>rfl
 | x :: xs=>by have:=sum_three xs;simp only [List.map_cons,List.sum_cons,List.length_cons] at this ⊢;omega
theorem kOk_len {K : Kinds} (h : kOk K = true) : K.length ≤ 3:=by
 unfold kOk kBad at h
 split at h
 ·simp at h
 ·omega
theorem eq_copyTexts (l : List ByteArray) (h : l.length < 8796093022208) : impl_copyTexts.f l = some l:=by
 unfold impl_copyTexts.f slices_Clip_string_string.f
 simp only [Option.bind_some,List.nil_append]
 rw [if_pos (by simp;omega)]
theorem ev_impl_copyRecords (X : List Rec) (hX : X.length < 4398046511104) (hf : ∀ x ∈ X,x.f1.length < 8796093022208) : EvP (fun k=>impl_copyRecords.f k X) (· = X):=by
 have key : ∀ i,i ≤ X.length → EvP (fun k=>impl_copyRecords.l0 k (X.take i) X (X.length : Int) i) (· = X):=by
  refine upInd ?_ ?_
  ·refine EvP.succ ?_
   simp only [impl_copyRecords.l0]
   exact EvP.neg (by omega) (EvP.call rfl (EvP.ret _ (List.take_length)))
  ·intro i hi ih
   refine EvP.succ ?_
   simp only [impl_copyRecords.l0]
   have e : rd_T97 X (i : Int) = X[i]:=getDn hi
   have e2 : X.take i ++ [(⟨X[i].f0,X[i].f1⟩ : Rec)] = X.take (i + 1):=(List.take_succ_eq_append_getElem hi).symm
   rw [e,w64s hi (by omega)]
   refine EvP.pos (by omega) (EvP.pos (by omega) (EvP.pos (by omega) (EvP.call (eq_copyTexts _ (hf _ (List.getElem_mem hi))) (EvP.pos (by have:=List.length_take_le i X;omega) ?_))))
   rw [e2]
   exact ih
 unfold impl_copyRecords.f
 exact key 0 (by omega)
theorem ev_impl_ShelfKinds (K : List S40) (hK : K.length < 5864062014805) (hl : ∀ m ∈ K,m.f0.length < 4398046511104 ∧ ∀ x ∈ m.f0,x.f1.length < 8796093022208) : EvP (fun k=>impl_ShelfKinds.f k K) (· = K.map fun m=>m.f0):=by
 have key : ∀ i,i ≤ K.length → EvP (fun k=>impl_ShelfKinds.l0 k ((K.take i).map fun m=>m.f0) K (K.length : Int) i) (· = K.map fun m=>m.f0):=by
  refine upInd ?_ ?_
  ·refine EvP.succ ?_
   simp only [impl_ShelfKinds.l0]
   exact EvP.neg (by omega) (EvP.call rfl (EvP.ret _ (by rw [List.take_length])))
  ·intro i hi ih
   refine EvP.succ ?_
   simp only [impl_ShelfKinds.l0]
   have e : rd_T40 K (i : Int) = K[i]:=getDn hi
   have e2 : (K.take i).map (fun m=>m.f0) ++ [K[i].f0] = (K.take (i + 1)).map fun m=>m.f0:=by rw [List.take_succ_eq_append_getElem hi,List.map_append];rfl
   have hb:=hl _ (List.getElem_mem hi)
   rw [e,w64s hi (by omega)]
   refine EvP.pos (by omega) (EvP.pos (by omega) (EvP.pos (by omega) (EvP.bind (ev_impl_copyRecords _ hb.1 hb.2) (fun t ht=>EvP.pos (by rw [List.length_map];have:=List.length_take_le i K;omega) ?_))))
   rw [ht,e2]
   exact ih
 unfold impl_ShelfKinds.f
 exact key 0 (by omega)
theorem eq_in (a b c : Int) : spec_l6In.f a b c = some (decide (b ≤ a ∧ a ≤ c)):=by
 unfold spec_l6In.f
 by_cases h : a ≥ b
 ·rw [if_pos h]
  congr 1
  rw [decide_eq_decide]
  omega
 ·rw [if_neg h,decide_eq_false (by omega)]
def fitsAll (K : Kinds) (ts : List ByteArray) : Bool:=ts.all fun t=>plain K (strip t)
theorem ev_impl_typesFit (K : Kinds) (ts : List ByteArray) (h : ts.length ≤ 1048576) : EvP (fun k=>impl_typesFit.f k K ts) (· = fitsAll K ts):=by
 have key : ∀ i,i ≤ ts.length → EvP (fun k=>impl_typesFit.l0 k K ts (ts.length : Int) i) (· = fitsAll K (ts.drop i)):=by
  refine upInd ?_ ?_
  ·refine EvP.succ ?_
   simp only [impl_typesFit.l0]
   exact EvP.neg (by omega) (EvP.ret _ (by rw [List.drop_length];rfl))
  ·intro i hi ih
   refine EvP.succ ?_
   simp only [impl_typesFit.l0]
   have e : rdOf ByteArray.empty ts (i : Int) = ts[i]:=getDn hi
   rw [e,w64s hi (by omega),List.drop_eq_getElem_cons hi]
   refine EvP.pos (by omega) (EvP.pos (by omega) (EvP.pos (by omega) (EvP.call (eq_impl_signOf _) (EvP.call (eq_impl_plainOk K _) (EvP.ite (fun h1=>ih.mono (fun r hr=>?_)) (fun h1=>EvP.ret _ ?_))))))
   ·have h1 : plain K (strip ts[i]) = true:=h1
    rw [hr]
    unfold fitsAll
    rw [List.all_cons,h1,Bool.true_and]
   ·have h1 : plain K (strip ts[i]) = false:=Bool.eq_false_iff.2 h1
    unfold fitsAll
    rw [List.all_cons,h1,Bool.false_and]
 unfold impl_typesFit.f
 have:=key 0 (by omega)
 rwa [List.drop_zero] at this
theorem ev_spec_l4Types (K : Kinds) (ts : List ByteArray) (h : ts.length ≤ 1048576) : EvP (fun k=>spec_l4Types.f k K ts) (· = fitsAll K ts):=by
 have key : ∀ i,i ≤ ts.length → EvP (fun k=>spec_l4Types.l0 k K ts i) (· = fitsAll K (ts.drop i)):=by
  refine upInd ?_ ?_
  ·refine EvP.succ ?_
   simp only [spec_l4Types.l0]
   exact EvP.neg (by omega) (EvP.ret _ (by rw [List.drop_length];rfl))
  ·intro i hi ih
   refine EvP.succ ?_
   simp only [spec_l4Types.l0]
   have e : rdOf ByteArray.empty ts (i : Int) = ts[i]:=getDn hi
   rw [e,w64s hi (by omega),List.drop_eq_getElem_cons hi]
   refine EvP.pos (by omega) (EvP.pos (by omega) (EvP.call (eq_spec_l1Of _) (EvP.call (eq_spec_l1Plain K _) (EvP.ite (fun h1=>ih.mono (fun r hr=>?_)) (fun h1=>EvP.ret _ ?_)))))
   ·rw [hr]
    unfold fitsAll
    rw [List.all_cons,h1,Bool.true_and]
   ·have h1 : plain K (strip ts[i]) = false:=Bool.eq_false_iff.2 h1
    unfold fitsAll
    rw [List.all_cons,h1,Bool.false_and]
 unfold spec_l4Types.f
 have:=key 0 (by omega)
 rwa [List.drop_zero] at this
def riseAt (l : List Int) (a b : Int) (i : Nat) : Bool:=decide (a ≤ l.getD i 0 ∧ l.getD i 0 ≤ b ∧ (0 < i → l.getD (i - 1) 0 < l.getD i 0))
def riseIn (l : List Int) (a b : Int) : Nat → Nat → Bool
 | 0,_=>true
 | d + 1,i=>riseAt l a b i && riseIn l a b d (i + 1)
theorem ev_impl_rising (l : List Int) (a b : Int) (h : l.length ≤ 1048576) : EvP (fun k=>impl_rising.f k l a b) (· = riseIn l a b l.length 0):=by
 have key : ∀ d i,i + d = l.length → EvP (fun k=>impl_rising.l0 k l a b l (l.length : Int) i) (· = riseIn l a b d i):=by
  intro d
  induction d with
  | zero =>
   intro i hi
   refine EvP.succ ?_
   simp only [impl_rising.l0]
   exact EvP.neg (by omega) (EvP.ret _ rfl)
  | succ d ih =>
   intro i hi
   refine EvP.succ ?_
   simp only [impl_rising.l0]
   have hlt : i < l.length:=by omega
   have e : rd l (i : Int) = l.getD i 0:=rfl
   have no : riseAt l a b i = false → riseIn l a b (d + 1) i = false:=fun h=>by unfold riseIn;rw [h,Bool.false_and]
   have go : riseAt l a b i = true → EvP (fun k=>impl_rising.l0 k l a b l (l.length : Int) ((i + 1 : Nat) : Int)) (· = riseIn l a b (d + 1) i):=fun h=>(ih (i + 1) (by omega)).mono (fun r hr=>by rw [hr,riseIn,h,Bool.true_and])
   rw [e,w64s hlt (by omega)]
   refine EvP.pos (by omega) (EvP.pos (by omega) (EvP.pos (by omega) ?_))
   refine EvP.ite (fun h1=>EvP.ret _ (no (decide_eq_false (by omega))).symm) (fun h1=>EvP.ite (fun h2=>EvP.ret _ (no (decide_eq_false (by omega))).symm) (fun h2=>EvP.ite (fun h3=>?_) (fun h3=>go (decide_eq_true ⟨by omega,by omega,fun h=>by omega⟩))))
   have ep : wrap64 ((i : Int) - 1) = ((i - 1 : Nat) : Int):=by rw [w64 (by omega) (by omega)];omega
   have e2 : rd l ((i - 1 : Nat) : Int) = l.getD (i - 1) 0:=rfl
   rw [ep,e2]
   refine EvP.pos (by omega) (EvP.pos (by omega) (EvP.ite (fun h4=>EvP.ret _ (no (decide_eq_false (fun h=>by have:=h.2.2 (by omega);omega))).symm) (fun h4=>go (decide_eq_true ⟨by omega,by omega,fun h=>by omega⟩))))
 unfold impl_rising.f
 exact key l.length 0 (by omega)
theorem ev_spec_l4Rises (l : List Int) (a b : Int) (h : l.length ≤ 1048576) : EvP (fun k=>spec_l4Rises.f k l a b) (· = riseIn l a b l.length 0):=by
 have key : ∀ d i,i + d = l.length → EvP (fun k=>spec_l4Rises.l0 k l a b i) (· = riseIn l a b d i):=by
  intro d
  induction d with
  | zero =>
   intro i hi
   refine EvP.succ ?_
   simp only [spec_l4Rises.l0]
   exact EvP.neg (by omega) (EvP.ret _ rfl)
  | succ d ih =>
   intro i hi
   refine EvP.succ ?_
   simp only [spec_l4Rises.l0]
   have hlt : i < l.length:=by omega
   have e : rd l (i : Int) = l.getD i 0:=rfl
   have no : riseAt l a b i = false → riseIn l a b (d + 1) i = false:=fun h=>by unfold riseIn;rw [h,Bool.false_and]
   have go : riseAt l a b i = true → EvP (fun k=>spec_l4Rises.l0 k l a b ((i + 1 : Nat) : Int)) (· = riseIn l a b (d + 1) i):=fun h=>(ih (i + 1) (by omega)).mono (fun r hr=>by rw [hr,riseIn,h,Bool.true_and])
   rw [e,w64s hlt (by omega)]
   refine EvP.pos (by omega) (EvP.pos (by omega) (EvP.call (eq_in _ _ _) (EvP.ite (fun h1=>?_) (fun h1=>EvP.ret _ (no (decide_eq_false (fun h=>h1 (decide_eq_true ⟨h.1,h.2.1⟩)))).symm))))
   have h1:=of_decide_eq_true h1
   refine EvP.ite (fun h3=>?_) (fun h3=>go (decide_eq_true ⟨by omega,by omega,fun h=>by omega⟩))
   have ep : wrap64 ((i : Int) - 1) = ((i - 1 : Nat) : Int):=by rw [w64 (by omega) (by omega)];omega
   have e2 : rd l ((i - 1 : Nat) : Int) = l.getD (i - 1) 0:=rfl
   rw [ep,e2]
   refine EvP.pos (by omega) (EvP.pos (by omega) (EvP.ite (fun h4=>EvP.ret _ (no (decide_eq_false (fun h=>by have:=h.2.2 (by omega);omega))).symm) (fun h4=>go (decide_eq_true ⟨by omega,by omega,fun h=>by omega⟩))))
 unfold spec_l4Rises.f
 exact key l.length 0 (by omega)
def lineOk (m : Int) (x : S107) : Bool:=insOk x.f0 x.f1 x.f2 && !(decide (x.f0.toList = ([99,97,108,108] : List UInt8)) && decide (x.f1 > m))
def codeOk (m : Int) (xs : List S107) : Bool:=xs.all (lineOk m)
theorem line_call {m : Int} {x : S107} (h0 : insOk x.f0 x.f1 x.f2 = true) (h1 : x.f0.toList = ([99,97,108,108] : List UInt8)) : lineOk m x = !decide (x.f1 > m):=by
 unfold lineOk
 rw [h0,decide_eq_true h1,Bool.true_and,Bool.true_and]
theorem line_other {m : Int} {x : S107} (h0 : insOk x.f0 x.f1 x.f2 = true) (h1 : ¬ x.f0.toList = ([99,97,108,108] : List UInt8)) : lineOk m x = true:=by
 unfold lineOk
 rw [h0,decide_eq_false h1]
 rfl
theorem line_none {m : Int} {x : S107} (h0 : ¬ insOk x.f0 x.f1 x.f2 = true) : lineOk m x = false:=by
 unfold lineOk
 rw [Bool.eq_false_iff.2 h0,Bool.false_and]
theorem code_go {m : Int} {xs : List S107} {i : Nat} (hi : i < xs.length) (h : lineOk m xs[i] = true) (c : Bool) : (codeOk m (xs.drop i) && c) = (codeOk m (xs.drop (i + 1)) && c):=by
 unfold codeOk
 rw [List.drop_eq_getElem_cons hi,List.all_cons,h,Bool.true_and]
theorem code_no {m : Int} {xs : List S107} {i : Nat} (hi : i < xs.length) (h : lineOk m xs[i] = false) (c : Bool) : (codeOk m (xs.drop i) && c) = false:=by
 unfold codeOk
 rw [List.drop_eq_getElem_cons hi,List.all_cons,h,Bool.false_and,Bool.false_and]
theorem ev_spec_l4Code (m : Int) (xs : List S107) (h : xs.length ≤ 1048576) : EvP (fun k=>spec_l4Code.f k m xs) (· = (codeOk m xs && decide (1 ≤ (xs.length : Int) ∧ (xs.length : Int) ≤ 40))):=by
 have key : ∀ i,i ≤ xs.length → EvP (fun k=>spec_l4Code.l0 k m xs i) (· = (codeOk m (xs.drop i) && decide (1 ≤ (xs.length : Int) ∧ (xs.length : Int) ≤ 40))):=by
  refine upInd ?_ ?_
  ·refine EvP.succ ?_
   simp only [spec_l4Code.l0]
   exact EvP.neg (by omega) (EvP.call (eq_in _ _ _) (EvP.ret _ (by rw [List.drop_length];exact (Bool.true_and _).symm)))
  ·intro i hi ih
   refine EvP.succ ?_
   simp only [spec_l4Code.l0]
   have e : rd_T107 xs (i : Int) = xs[i]:=getDn hi
   rw [e,w64s hi (by omega)]
   refine EvP.pos (by omega) (EvP.pos (by omega) (EvP.bind (ev_spec_InsOk _ _ _) (fun t ht=>?_)))
   subst ht
   refine EvP.ite (fun h0=>EvP.ite (fun h1=>EvP.ite (fun h2=>EvP.ret _ ?_) (fun h2=>ih.mono (fun r hr=>?_))) (fun h1=>ih.mono (fun r hr=>?_))) (fun h0=>EvP.ret _ (code_no hi (line_none h0) _).symm)
   ·exact (code_no hi (by rw [line_call h0 h1,decide_eq_true h2];rfl) _).symm
   ·rw [hr];exact (code_go hi (by rw [line_call h0 h1,decide_eq_false h2];rfl) _).symm
   ·rw [hr];exact (code_go hi (line_other h0 h1) _).symm
 unfold spec_l4Code.f
 have:=key 0 (by omega)
 rwa [List.drop_zero] at this
def funcBad (F : S57) : Bool:=decide (F.f0 < 0 ∨ F.f0 > 2 ∨ (F.f1.length : Int) > 3 ∨ (F.f2.length : Int) > 3 ∨ (wrap64 ((F.f1.length : Int) + (F.f3.length : Int))) > 6)
def funcRest (K : Kinds) (n : Nat) (m : Nat) (F : S57) : Bool:=fitsAll K F.f1 && (fitsAll K F.f2 && (fitsAll K F.f3 && (riseIn F.f4 0 (wrap64 ((n : Int) - 1)) F.f4.length 0 && (codeOk (m : Int) F.f5 && decide (1 ≤ (F.f5.length : Int) ∧ (F.f5.length : Int) ≤ 40)))))
def funcOk (K : Kinds) (n : Nat) (m : Nat) (F : S57) : Bool:=!funcBad F && funcRest K n m F
theorem ev_impl_funcShape (K : Kinds) (m : Nat) (hm : m < K.length) (F : S57) (hF : sFunc F) : EvP (fun k=>impl_funcShape.f k K m F.f0 F.f1 F.f2 F.f3 F.f4 F.f5) (· = funcOk K K[m].length m F):=by
 obtain ⟨a1,a2,a3,a4,a5⟩:=hF
 have eL : rd_L12 K (m : Int) = K[m]:=getDn hm
 have l0 : ∀ i,i ≤ F.f5.length → EvP (fun k=>impl_funcShape.l0 k m F.f5 (F.f5.length : Int) i F.f0 F.f1 F.f2 F.f3 F.f4 F.f5) (· = (codeOk (m : Int) (F.f5.drop i) && decide (1 ≤ (F.f5.length : Int) ∧ (F.f5.length : Int) ≤ 40))):=by
  refine upInd ?_ ?_
  ·refine EvP.succ ?_
   simp only [impl_funcShape.l0]
   refine EvP.neg (by omega) (EvP.ite (fun h1=>EvP.ret _ ?_) (fun h1=>EvP.ret _ ?_))
   ·rw [List.drop_length]
    show _ = (true && _)
    rw [Bool.true_and,decide_eq_decide]
    omega
   ·rw [decide_eq_false (p:=1 ≤ (F.f5.length : Int) ∧ (F.f5.length : Int) ≤ 40) (by omega),Bool.and_false]
  ·intro i hi ih
   refine EvP.succ ?_
   simp only [impl_funcShape.l0]
   have e : rd_T107 F.f5 (i : Int) = F.f5[i]:=getDn hi
   rw [e,w64s hi (by omega)]
   refine EvP.pos (by omega) (EvP.pos (by omega) (EvP.pos (by omega) (EvP.bind (ev_impl_InsOk _ _ _) (fun t ht=>?_))))
   subst ht
   refine EvP.ite (fun h0=>EvP.ite (fun h1=>EvP.ite (fun h2=>EvP.ret _ ?_) (fun h2=>ih.mono (fun r hr=>?_))) (fun h1=>ih.mono (fun r hr=>?_))) (fun h0=>EvP.ret _ (code_no hi (line_none h0) _).symm)
   ·exact (code_no hi (by rw [line_call h0 h1,decide_eq_true h2];rfl) _).symm
   ·rw [hr];exact (code_go hi (by rw [line_call h0 h1,decide_eq_false h2];rfl) _).symm
   ·rw [hr];exact (code_go hi (line_other h0 h1) _).symm
 have j1 : ∀ (b c : Bool),c = (!b && (codeOk (m : Int) F.f5 && decide (1 ≤ (F.f5.length : Int) ∧ (F.f5.length : Int) ≤ 40))) → EvP (fun k=>impl_funcShape.j1 k m b F.f0 F.f1 F.f2 F.f3 F.f4 F.f5) (· = c):=by
  intro b c hc
  refine EvP.succ ?_
  simp only [impl_funcShape.j1]
  refine EvP.ite (fun h=>EvP.ret _ (by rw [hc,h];rfl)) (fun h=>?_)
  have:=l0 0 (by omega)
  rw [List.drop_zero] at this
  exact this.mono (fun r hr=>by rw [hr,hc,Bool.eq_false_iff.2 h];rfl)
 have j0 : ∀ b : Bool,b = funcBad F → EvP (fun k=>impl_funcShape.j0 k K m b F.f0 F.f1 F.f2 F.f3 F.f4 F.f5) (· = funcOk K K[m].length m F):=by
  intro b hb
  refine EvP.succ ?_
  simp only [impl_funcShape.j0]
  unfold funcOk
  rw [← hb]
  refine EvP.ite (fun h=>EvP.ret _ (by rw [h];rfl)) (fun h=>?_)
  rw [Bool.eq_false_iff.2 h]
  show EvP _ (· = (true && funcRest K K[m].length m F))
  rw [Bool.true_and]
  unfold funcRest
  refine EvP.bind (ev_impl_typesFit K _ a1) (fun t ht=>?_)
  subst ht
  refine EvP.ite (fun h1=>?_) (fun h1=>j1 _ _ (by rw [Bool.eq_false_iff.2 h1];rfl))
  rw [h1,Bool.true_and]
  refine EvP.bind (ev_impl_typesFit K _ a2) (fun t ht=>?_)
  subst ht
  refine EvP.ite (fun h1=>?_) (fun h1=>j1 _ _ (by rw [Bool.eq_false_iff.2 h1];rfl))
  rw [h1,Bool.true_and]
  refine EvP.bind (ev_impl_typesFit K _ a3) (fun t ht=>?_)
  subst ht
  refine EvP.ite (fun h1=>?_) (fun h1=>j1 _ _ (by rw [Bool.eq_false_iff.2 h1];rfl))
  rw [h1,Bool.true_and,eL]
  refine EvP.pos (by omega) (EvP.pos (by omega) (EvP.bind (ev_impl_rising _ _ _ a4) (fun t ht=>?_)))
  exact j1 _ _ (by rw [ht,Bool.not_not])
 unfold impl_funcShape.f
 refine EvP.ite (fun h=>j0 _ (decide_eq_true (by omega)).symm) (fun h=>EvP.ite (fun h1=>j0 _ (decide_eq_true (by omega)).symm) (fun h1=>EvP.ite (fun h2=>j0 _ (decide_eq_true (by omega)).symm) (fun h2=>EvP.ite (fun h3=>j0 _ (decide_eq_true (by omega)).symm) (fun h3=>j0 _ ?_))))
 unfold funcBad
 rw [decide_eq_decide]
 omega
theorem ev_spec_l4Func (K : Kinds) (m : Nat) (hm : m < K.length) (hK : K.length ≤ 1048576) (F : S57) (hF : sFunc F) : EvP (fun k=>spec_l4Func.f k K m F.f0 F.f1 F.f2 F.f3 F.f4 F.f5) (· = funcOk (K.take (m + 1)) K[m].length m F):=by
 obtain ⟨a1,a2,a3,a4,a5⟩:=hF
 have eL : rd_L12 K (m : Int) = K[m]:=getDn hm
 have j0 : ∀ b : Bool,b = funcBad F → EvP (fun k=>spec_l4Func.j0 k K m b F.f0 F.f1 F.f2 F.f3 F.f4 F.f5) (· = funcOk (K.take (m + 1)) K[m].length m F):=by
  intro b hb
  refine EvP.succ ?_
  simp only [spec_l4Func.j0]
  unfold funcOk
  rw [← hb]
  refine EvP.ite (fun h=>EvP.ret _ (by rw [h];rfl)) (fun h=>?_)
  rw [Bool.eq_false_iff.2 h]
  show EvP _ (· = (true && funcRest (K.take (m + 1)) K[m].length m F))
  rw [Bool.true_and,w64s hm (by omega),eL]
  unfold funcRest
  refine EvP.pos (by omega) (EvP.pos (by omega) ?_)
  simp only [Option.bind_some,Int.toNat_natCast]
  refine EvP.bind (ev_spec_l4Types _ _ a1) (fun t ht=>?_)
  subst ht
  refine EvP.ite (fun h1=>?_) (fun h1=>EvP.ret _ (by rw [Bool.eq_false_iff.2 h1];rfl))
  rw [h1,Bool.true_and]
  refine EvP.bind (ev_spec_l4Types _ _ a2) (fun t ht=>?_)
  subst ht
  refine EvP.ite (fun h1=>?_) (fun h1=>EvP.ret _ (by rw [Bool.eq_false_iff.2 h1];rfl))
  rw [h1,Bool.true_and]
  refine EvP.bind (ev_spec_l4Types _ _ a3) (fun t ht=>?_)
  subst ht
  refine EvP.ite (fun h1=>?_) (fun h1=>EvP.ret _ (by rw [Bool.eq_false_iff.2 h1];rfl))
  rw [h1,Bool.true_and]
  refine EvP.pos (by omega) (EvP.pos (by omega) (EvP.bind (ev_spec_l4Rises _ _ _ a4) (fun t ht=>?_)))
  subst ht
  refine EvP.ite (fun h1=>?_) (fun h1=>EvP.ret _ (by rw [Bool.eq_false_iff.2 h1];rfl))
  rw [h1,Bool.true_and]
  exact EvP.bind (ev_spec_l4Code _ _ a5) (fun t ht=>EvP.ret _ ht)
 unfold spec_l4Func.f
 refine EvP.call (eq_in _ _ _) (EvP.ite (fun h=>?_) (fun h=>j0 _ (decide_eq_true ?_).symm))
 ·have h:=of_decide_eq_true h
  refine EvP.ite (fun h2=>j0 _ (decide_eq_true (by omega)).symm) (fun h2=>EvP.ite (fun h3=>j0 _ (decide_eq_true (by omega)).symm) (fun h3=>j0 _ ?_))
  unfold funcBad
  rw [decide_eq_decide]
  omega
 ·have h : ¬ (0 ≤ F.f0 ∧ F.f0 ≤ 2):=fun e=>h (decide_eq_true e)
  omega
def modOk (K : Kinds) (Ms : List S40) (m : Nat) (M : S40) : Bool:=!(decide ((M.f1.length : Int) > 4) || !riseIn M.f2 ((m + 1 : Nat) : Int) (wrap64 ((Ms.length : Int) - 1)) M.f2.length 0) && M.f1.all (funcOk (K.take (m + 1)) (K.getD m []).length m)
def modsOk (K : Kinds) (Ms : List S40) : Nat → Nat → Bool
 | 0,_=>true
 | d + 1,m=>modOk K Ms m (Ms.getD m z40) && modsOk K Ms d (m + 1)
def shelfOk (Ms : List S40) : Bool:=kOk (Ms.map fun m=>m.f0) && modsOk (Ms.map fun m=>m.f0) Ms Ms.length 0
theorem all_go {α : Type} {p : α → Bool} {xs : List α} {i : Nat} (hi : i < xs.length) (h : p xs[i] = true) (c : Bool) : ((xs.drop i).all p && c) = ((xs.drop (i + 1)).all p && c):=by
 rw [List.drop_eq_getElem_cons hi,List.all_cons,h,Bool.true_and]
theorem all_no {α : Type} {p : α → Bool} {xs : List α} {i : Nat} (hi : i < xs.length) (h : p xs[i] = false) (c : Bool) : ((xs.drop i).all p && c) = false:=by
 rw [List.drop_eq_getElem_cons hi,List.all_cons,h,Bool.false_and,Bool.false_and]
theorem ev_impl_ShelfShape (Ms : List S40) (hs : sMods Ms) (hb : ∀ m ∈ Ms,m.f0.length < 4398046511104 ∧ ∀ x ∈ m.f0,x.f1.length < 8796093022208) : EvP (fun k=>impl_ShelfShape.f k Ms) (· = shelfOk Ms):=by
 have hl:=hs.1
 unfold impl_ShelfShape.f shelfOk
 refine EvP.ite (fun h=>EvP.ret _ ?_) (fun h=>?_)
 ·cases hk : kOk (Ms.map fun m=>m.f0) with
  | false=>rfl
  | true=>have:=kOk_len hk;rw [List.length_map] at this;omega
 refine EvP.bind (ev_impl_ShelfKinds Ms (by omega) hb) (fun t ht=>?_)
 subst ht
 refine EvP.bind (ev_impl_KindsOk _) (fun t ht=>?_)
 subst ht
 refine EvP.ite (fun h1=>?_) (fun h1=>EvP.ret _ (by rw [Bool.eq_false_iff.2 h1];rfl))
 rw [h1,Bool.true_and]
 generalize hK : (Ms.map fun m=>m.f0) = K
 have hKl : K.length = Ms.length:=by rw [← hK,List.length_map]
 have outer : ∀ d m,m + d = Ms.length → EvP (fun k=>impl_ShelfShape.l0 k Ms K Ms (Ms.length : Int) m) (· = modsOk K Ms d m):=by
  intro d
  induction d with
  | zero =>
   intro m hm
   refine EvP.succ ?_
   simp only [impl_ShelfShape.l0]
   exact EvP.neg (by omega) (EvP.ret _ rfl)
  | succ d ih =>
   intro m hm
   refine EvP.succ ?_
   simp only [impl_ShelfShape.l0]
   have hlt : m < Ms.length:=by omega
   have hk : m < K.length:=by omega
   have e : rd_T40 Ms (m : Int) = Ms[m]:=getDn hlt
   have e3 : Ms.getD m z40 = Ms[m]:=getDn hlt
   have e4 : K.getD m [] = K[m]:=getDn hk
   have hM:=hs.2 _ (List.getElem_mem hlt)
   unfold modsOk
   rw [e,e3,w64s hlt (by omega)]
   generalize Ms[m] = M at hM
   obtain ⟨-,m1,m2,m3⟩:=hM
   have l1 : ∀ i,i ≤ M.f1.length → EvP (fun k=>impl_ShelfShape.l1 k Ms K m Ms (Ms.length : Int) m M.f1 (M.f1.length : Int) i) (· = ((M.f1.drop i).all (funcOk (K.take (m + 1)) (K.getD m []).length m) && modsOk K Ms d (m + 1))):=by
    refine upInd ?_ ?_
    ·refine EvP.succ ?_
     simp only [impl_ShelfShape.l1]
     rw [w64s hlt (by omega)]
     exact EvP.neg (by omega) ((ih (m + 1) (by omega)).mono (fun r hr=>by rw [hr,List.drop_length];exact (Bool.true_and _).symm))
    ·intro i hi ih2
     refine EvP.succ ?_
     simp only [impl_ShelfShape.l1]
     have e5 : rd_T57 M.f1 (i : Int) = M.f1[i]:=getDn hi
     rw [e5,w64s hi (by omega),w64s hlt (by omega)]
     have ht : m < (K.take (m + 1)).length:=by rw [List.length_take];omega
     have e6 : (K.take (m + 1))[m].length = (K.getD m []).length:=by rw [e4,List.getElem_take]
     refine EvP.pos (by omega) (EvP.pos (by omega) (EvP.pos (by omega) (EvP.pos (by omega) (EvP.pos (by omega) (EvP.bind (ev_impl_funcShape (K.take (m + 1)) m ht _ (m3 _ (List.getElem_mem hi))) (fun t ht=>?_))))))
     rw [e6] at ht
     subst ht
     exact EvP.ite (fun h2=>ih2.mono (fun r hr=>by rw [hr];exact (all_go hi h2 _).symm)) (fun h2=>EvP.ret _ (all_no hi (Bool.eq_false_iff.2 h2) _).symm)
   have j1 : ∀ b : Bool,b = (decide ((M.f1.length : Int) > 4) || !riseIn M.f2 ((m + 1 : Nat) : Int) (wrap64 ((Ms.length : Int) - 1)) M.f2.length 0) → EvP (fun k=>impl_ShelfShape.j1 k Ms K m Ms (Ms.length : Int) m b M.f0 M.f1 M.f2) (· = (modOk K Ms m M && modsOk K Ms d (m + 1))):=by
    intro b hb
    refine EvP.succ ?_
    simp only [impl_ShelfShape.j1]
    unfold modOk
    rw [← hb]
    refine EvP.ite (fun h=>EvP.ret _ (by rw [h];rfl)) (fun h=>?_)
    have:=l1 0 (by omega)
    rw [List.drop_zero] at this
    exact this.mono (fun r hr=>by rw [hr,Bool.eq_false_iff.2 h];rfl)
   refine EvP.pos (by omega) (EvP.pos (by omega) (EvP.pos (by omega) (EvP.ite (fun h2=>j1 _ (by rw [decide_eq_true h2];rfl)) (fun h2=>EvP.bind (ev_impl_rising _ _ _ m2) (fun t ht=>j1 _ (by rw [ht,decide_eq_false h2,Bool.false_or]))))))
 exact outer _ 0 (by omega)
theorem ev_spec_ShelfShape (Ms : List S40) (hs : sMods Ms) (hb : ∀ m ∈ Ms,m.f0.length < 4398046511104 ∧ ∀ x ∈ m.f0,x.f1.length < 8796093022208) : EvP (fun k=>spec_ShelfShape.f k Ms) (· = shelfOk Ms):=by
 have hl:=hs.1
 unfold spec_ShelfShape.f shelfOk
 refine EvP.bind (ev_spec_ShelfKinds Ms (by omega) hb) (fun t ht=>?_)
 subst ht
 refine EvP.bind (ev_spec_KindsOk _) (fun t ht=>?_)
 subst ht
 refine EvP.ite (fun h1=>?_) (fun h1=>EvP.ret _ (by rw [Bool.eq_false_iff.2 h1];rfl))
 rw [h1,Bool.true_and]
 generalize hK : (Ms.map fun m=>m.f0) = K
 have hKl : K.length = Ms.length:=by rw [← hK,List.length_map]
 have outer : ∀ d m,m + d = Ms.length → EvP (fun k=>spec_ShelfShape.l0 k Ms K m) (· = modsOk K Ms d m):=by
  intro d
  induction d with
  | zero =>
   intro m hm
   refine EvP.succ ?_
   simp only [spec_ShelfShape.l0]
   exact EvP.neg (by omega) (EvP.ret _ rfl)
  | succ d ih =>
   intro m hm
   refine EvP.succ ?_
   simp only [spec_ShelfShape.l0]
   have hlt : m < Ms.length:=by omega
   have hk : m < K.length:=by omega
   have e : rd_T40 Ms (m : Int) = Ms[m]:=getDn hlt
   have e3 : Ms.getD m z40 = Ms[m]:=getDn hlt
   have e4 : K.getD m [] = K[m]:=getDn hk
   have hM:=hs.2 _ (List.getElem_mem hlt)
   unfold modsOk
   rw [e,e3,w64s hlt (by omega)]
   generalize Ms[m] = M at hM e
   obtain ⟨-,m1,m2,m3⟩:=hM
   have l1 : ∀ i,i ≤ M.f1.length → EvP (fun k=>spec_ShelfShape.l1 k Ms K m i) (· = ((M.f1.drop i).all (funcOk (K.take (m + 1)) (K.getD m []).length m) && modsOk K Ms d (m + 1))):=by
    refine upInd ?_ ?_
    ·refine EvP.succ ?_
     simp only [spec_ShelfShape.l1]
     rw [e,w64s hlt (by omega)]
     exact EvP.pos (by omega) (EvP.pos (by omega) (EvP.neg (by omega) ((ih (m + 1) (by omega)).mono (fun r hr=>by rw [hr,List.drop_length];exact (Bool.true_and _).symm))))
    ·intro i hi ih2
     refine EvP.succ ?_
     simp only [spec_ShelfShape.l1]
     have e5 : rd_T57 M.f1 (i : Int) = M.f1[i]:=getDn hi
     rw [e,e5,w64s hi (by omega),w64s hlt (by omega),e4]
     refine EvP.pos (by omega) (EvP.pos (by omega) (EvP.pos (by omega) (EvP.pos (by omega) (EvP.bind (ev_spec_l4Func K m hk (by omega) _ (m3 _ (List.getElem_mem hi))) (fun t ht=>?_)))))
     rw [e4] at ih2
     subst ht
     exact EvP.ite (fun h2=>ih2.mono (fun r hr=>by rw [hr];exact (all_go hi h2 _).symm)) (fun h2=>EvP.ret _ (all_no hi (Bool.eq_false_iff.2 h2) _).symm)
   have j1 : ∀ b : Bool,b = (decide ((M.f1.length : Int) > 4) || !riseIn M.f2 ((m + 1 : Nat) : Int) (wrap64 ((Ms.length : Int) - 1)) M.f2.length 0) → EvP (fun k=>spec_ShelfShape.j1 k Ms K m b) (· = (modOk K Ms m M && modsOk K Ms d (m + 1))):=by
    intro b hb
    refine EvP.succ ?_
    simp only [spec_ShelfShape.j1]
    unfold modOk
    rw [← hb]
    refine EvP.ite (fun h=>EvP.ret _ (by rw [h];rfl)) (fun h=>?_)
    have:=l1 0 (by omega)
    rw [List.drop_zero] at this
    exact this.mono (fun r hr=>by rw [hr,Bool.eq_false_iff.2 h];rfl)
   refine EvP.pos (by omega) (EvP.pos (by omega) (EvP.ite (fun h2=>j1 _ (by rw [decide_eq_true h2];rfl)) (fun h2=>EvP.bind (ev_spec_l4Rises _ _ _ m2) (fun t ht=>j1 _ (by rw [ht,decide_eq_false h2,Bool.false_or])))))
 exact outer _ 0 (by omega)
def markOf (t : ByteArray) : S62:=⟨t,if isRef t = true then [9] else []⟩
def marksOf (F : S57) : List S62:=F.f1.map markOf ++ F.f3.map fun _=>⟨(⟨#[]⟩ : ByteArray),[]⟩
def shapeOk (K : List S40) (m f : Int) : Bool:=shelfOk K && hasF K m f
def shapeFirst (K : List S40) (m f : Int) : List S62:=if shapeOk K m f = true then marksOf (rd_T57 ((rd_T40 K m).f1) f) else []
theorem ev_spec_l5First (F : S57) (h : sFunc F) : EvP (fun k=>spec_l5First.f k F.f0 F.f1 F.f2 F.f3 F.f4 F.f5) (· = ([],marksOf F)):=by
 obtain ⟨a1,a2,a3,a4,a5⟩:=h
 have l1 : ∀ d i,i + d = F.f3.length → ∀ X : List S62,X.length ≤ 2097152 - d → EvP (fun k=>spec_l5First.l1 k i F.f0 F.f1 F.f2 F.f3 F.f4 F.f5 X) (· = ([],X ++ (F.f3.drop i).map fun _=>⟨(⟨#[]⟩ : ByteArray),[]⟩)):=by
  intro d
  induction d with
  | zero =>
   intro i hi X hX
   refine EvP.succ ?_
   simp only [spec_l5First.l1]
   exact EvP.neg (by omega) (EvP.ret _ (by rw [List.drop_of_length_le (by omega)];simp))
  | succ d ih =>
   intro i hi X hX
   refine EvP.succ ?_
   simp only [spec_l5First.l1]
   rw [w64s (n:=F.f3.length) (by omega) (by omega)]
   refine EvP.pos (by omega) (EvP.pos (by omega) ((ih (i + 1) (by omega) _ (by rw [List.length_append,List.length_singleton];omega)).mono (fun r hr=>?_)))
   rw [hr,List.drop_eq_getElem_cons (i:=i) (by omega),List.map_cons,List.append_assoc]
   rfl
 have l0 : ∀ d i,i + d = F.f1.length → ∀ X : List S62,X.length ≤ 1048576 - d → EvP (fun k=>spec_l5First.l0 k i F.f0 F.f1 F.f2 F.f3 F.f4 F.f5 X) (· = ([],(X ++ (F.f1.drop i).map markOf) ++ F.f3.map fun _=>⟨(⟨#[]⟩ : ByteArray),[]⟩)):=by
  intro d
  induction d with
  | zero =>
   intro i hi X hX
   refine EvP.succ ?_
   simp only [spec_l5First.l0]
   refine EvP.neg (by omega) ((l1 F.f3.length 0 (by omega) X (by omega)).mono (fun r hr=>?_))
   rw [hr,List.drop_zero,List.drop_of_length_le (by omega)]
   simp
  | succ d ih =>
   intro i hi X hX
   have hlt : i < F.f1.length:=by omega
   refine EvP.succ ?_
   simp only [spec_l5First.l0]
   have e : rdOf ByteArray.empty F.f1 (i : Int) = F.f1[i]:=getDn hlt
   rw [e,w64s hlt (by omega)]
   refine EvP.pos (by omega) (EvP.pos (by omega) (EvP.call (eq_spec_l1RefR _) (EvP.ite (fun h=>EvP.pos (by omega) ((ih (i + 1) (by omega) _ (by rw [List.length_append,List.length_singleton];omega)).mono (fun r hr=>?_))) (fun h=>EvP.pos (by omega) ((ih (i + 1) (by omega) _ (by rw [List.length_append,List.length_singleton];omega)).mono (fun r hr=>?_))))))
   ·have em : markOf F.f1[i] = ⟨F.f1[i],[9]⟩:=by unfold markOf;rw [if_pos h]
    rw [hr,List.drop_eq_getElem_cons hlt,List.map_cons,em]
    simp
   ·have em : markOf F.f1[i] = ⟨F.f1[i],[]⟩:=by unfold markOf;rw [if_neg h]
    rw [hr,List.drop_eq_getElem_cons hlt,List.map_cons,em]
    simp
 unfold spec_l5First.f
 exact (l0 F.f1.length 0 (by omega) [] (by simp)).mono (fun r hr=>by rw [hr];rfl)
theorem ev_spec_ShapeFirst (K : List S40) (hs : sMods K) (hb : ∀ m ∈ K,m.f0.length < 4398046511104 ∧ ∀ x ∈ m.f0,x.f1.length < 8796093022208) (m f : Int) : EvP (fun k=>spec_ShapeFirst.f k K m f) (· = ([],shapeFirst K m f,shapeOk K m f)):=by
 unfold spec_ShapeFirst.f shapeFirst shapeOk
 refine EvP.bind (ev_spec_ShelfShape K hs hb) (fun t ht=>?_)
 subst ht
 refine EvP.ite (fun h=>?_) (fun h=>EvP.ret _ (by rw [Bool.eq_false_iff.2 h];rfl))
 rw [h,Bool.true_and]
 refine EvP.call (eq_spec_l4Has K hs m f) (EvP.ite (fun h2=>?_) (fun h2=>EvP.ret _ (by rw [Bool.eq_false_iff.2 h2];rfl)))
 have hh:=of_decide_eq_true h2
 have hM:=rdM hs hh.1 hh.2.1
 refine EvP.pos hh.1 (EvP.pos hh.2.1 (EvP.pos hh.2.2.1 (EvP.pos hh.2.2.2 (EvP.bind (ev_spec_l5First _ (rdF hM.2.2.2 hh.2.2.1 hh.2.2.2)) (fun r hr=>EvP.ret _ ?_)))))
 rw [hr,h2,if_pos rfl]
theorem eq_impl_ShelfFunc_yes (K : List S40) (hK : sMods K) {m f : Int} (h : hasF K m f = true) : impl_ShelfFunc.f K m f = some ((rd_T57 ((rd_T40 K m).f1) f).f0,(rd_T57 ((rd_T40 K m).f1) f).f1,(rd_T57 ((rd_T40 K m).f1) f).f2,(rd_T57 ((rd_T40 K m).f1) f).f3,(rd_T57 ((rd_T40 K m).f1) f).f4,(rd_T57 ((rd_T40 K m).f1) f).f5,true):=by
 have hh:=of_decide_eq_true h
 have hM:=rdM hK hh.1 hh.2.1
 unfold impl_ShelfFunc.f
 rw [if_neg (by omega),if_neg (by omega),if_neg (by omega),if_pos hh.1,if_pos hh.2.1,if_neg (by omega),if_pos hh.2.2.1,if_pos hh.2.2.2,eq_impl_copyFunc _ (rdF hM.2.2.2 hh.2.2.1 hh.2.2.2)]
 rfl
theorem eq_impl_ShelfFunc_no (K : List S40) {m f : Int} (h : ¬ hasF K m f = true) : impl_ShelfFunc.f K m f = some (0,[],[],[],[],[],false):=by
 have h' : ¬ (0 ≤ m ∧ m < (K.length : Int) ∧ 0 ≤ f ∧ f < ((rd_T40 K m).f1.length : Int)):=fun e=>h (decide_eq_true e)
 unfold impl_ShelfFunc.f
 by_cases h0 : m < 0
 ·rw [if_pos h0]
 ·rw [if_neg h0]
  by_cases h1 : m ≥ (K.length : Int)
  ·rw [if_pos h1]
  ·rw [if_neg h1]
   by_cases h2 : f < 0
   ·rw [if_pos h2]
   ·rw [if_neg h2,if_pos (by omega),if_pos (by omega),if_pos (by omega)]
theorem eq_impl_isRef (t : ByteArray) : impl_isRef.f t = some (isRef t):=by
 unfold impl_isRef.f
 rw [eq_impl_signOf]
 simp only [Option.bind_some,Option.some.injEq]
 unfold sgn
 by_cases h : isRef t = true
 ·rw [if_pos h,h]
  have h0 : 0 < t.size:=by
   unfold isRef at h
   simp at h
   exact h.1
  have h1 : (t.extract 0 1).toList.length = 1:=by rw [list_size,ByteArray.size_extract];omega
  rw [bne_iff_ne]
  intro h2
  rw [h2] at h1
  cases h1
 ·rw [if_neg h,Bool.eq_false_iff.2 h]
  have h0 : (⟨#[]⟩ : ByteArray).toList = []:=List.eq_nil_of_length_eq_zero (by rw [list_size];rfl)
  rw [h0]
  rfl
theorem FnExactShapeFirst (l : List S50) (a1 a2 : Int) (g : gL gModule l) : ∃ L : Int,(∃ k,laws_szModuleS.f k l 1048576 = some L) ∧ (0 ≤ L → wl wModule l ≤ 1048576 ∧ (∃ k,laws_toModuleS.f k l = some (l.map cModule)) ∧ (∃ k,laws_eqModuleS.f k (l.map cModule) (l.map cModule) = some true) ∧
  (∃ k,spec_ShapeFirst.f k (l.map cModule) a1 a2 = some ([],shapeFirst (l.map cModule) a1 a2,shapeOk (l.map cModule) a1 a2)) ∧ (∃ k,impl_ShelfShape.f k (l.map cModule) = some (shelfOk (l.map cModule))) ∧
  (∃ k,laws_eqShape.f k [] (shapeFirst (l.map cModule) a1 a2) [] (shapeFirst (l.map cModule) a1 a2) = some true) ∧
  (∃ F : S57,∃ b,impl_ShelfFunc.f (l.map cModule) a1 a2 = some (F.f0,F.f1,F.f2,F.f3,F.f4,F.f5,b) ∧ F.f1.length ≤ 1048576 ∧ F.f3.length ≤ 1048576 ∧ shapeOk (l.map cModule) a1 a2 = (shelfOk (l.map cModule) && b) ∧ (shapeOk (l.map cModule) a1 a2 = true → shapeFirst (l.map cModule) a1 a2 = marksOf F)) ∧ (shapeOk (l.map cModule) a1 a2 = false → shapeFirst (l.map cModule) a1 a2 = [])):=by
 obtain ⟨L,hL,h⟩:=ev_laws_szModuleS l g 1048576 (by omega) (by omega)
 refine ⟨L,hL.rounds,fun h0=>?_⟩
 have ht:=h h0
 have w0 : wl wModule l ≤ 1048576:=by omega
 have hs:=sMods_c w0
 have kb:=(kinds_bounds w0).2
 have hb : ∀ m ∈ l.map cModule,m.f0.length < 4398046511104 ∧ ∀ x ∈ m.f0,x.f1.length < 8796093022208:=fun m hm=>⟨by have:=(kb m hm).1;omega,fun x hx=>by have:=(kb m hm).2 x hx;omega⟩
 have hlen : ∀ F : S57,sFunc F → ∀ x ∈ marksOf F,x.f1.length ≤ 1:=by
  intro F _ x hx
  unfold marksOf at hx
  rcases List.mem_append.1 hx with hx | hx
  ·obtain ⟨t,_,rfl⟩:=List.mem_map.1 hx
   unfold markOf
   dsimp only
   split<;>simp
  ·obtain ⟨t,_,rfl⟩:=List.mem_map.1 hx
   exact Nat.zero_le _
 have hq : qMarkS (shapeFirst (l.map cModule) a1 a2):=by
  unfold shapeFirst
  by_cases hc : shapeOk (l.map cModule) a1 a2 = true
  ·rw [if_pos hc]
   unfold shapeOk at hc
   rw [Bool.and_eq_true] at hc
   have hh:=of_decide_eq_true hc.2
   have sF:=rdF (rdM hs hh.1 hh.2.1).2.2.2 hh.2.2.1 hh.2.2.2
   refine ⟨?_,fun x hx=>?_⟩
   ·unfold marksOf
    rw [List.length_append,List.length_map,List.length_map]
    have:=sF.1
    have:=sF.2.2.1
    omega
   ·have:=hlen _ sF x hx
    show x.f1.length ≤ _
    omega
  ·rw [if_neg hc]
   exact ⟨Nat.zero_le _,fun x hx=>by cases hx⟩
 refine ⟨w0,(ev_laws_toModuleS l w0).eq.rounds,(ev_laws_eqModuleS _ (qMods_c w0)).eq.rounds,(ev_spec_ShapeFirst _ hs hb a1 a2).eq.rounds,(ev_impl_ShelfShape _ hs hb).eq.rounds,(ev_laws_eqShape _ _ ⟨Nat.zero_le _,fun x hx=>by cases hx⟩ hq).eq.rounds,?_,fun h=>?_⟩
 ·by_cases hc : hasF (l.map cModule) a1 a2 = true
  ·have hh:=of_decide_eq_true hc
   have sF:=rdF (rdM hs hh.1 hh.2.1).2.2.2 hh.2.2.1 hh.2.2.2
   refine ⟨_,true,eq_impl_ShelfFunc_yes _ hs hc,sF.1,sF.2.2.1,by unfold shapeOk;rw [hc],fun h=>by unfold shapeFirst;rw [if_pos h]⟩
  ·refine ⟨z57,false,eq_impl_ShelfFunc_no _ hc,Nat.zero_le _,Nat.zero_le _,by unfold shapeOk;rw [Bool.eq_false_iff.2 hc],fun h=>?_⟩
   unfold shapeOk at h
   rw [Bool.eq_false_iff.2 hc,Bool.and_false] at h
   cases h
 ·unfold shapeFirst
  rw [if_neg (by rw [h];simp)]
theorem shelf_count {l : List S50} (h : wl wModule l ≤ 1048576) : ((l.map cModule).map cnMod).sum ≤ 3145728:=by have:=cn_mods l;omega
theorem markText_any (n : Nat) (h0 : 1 ≤ n) (h1 : n ≤ 9000001) : ∃ k,laws_markText.f k (n : Int) = some (mtx n):=(ev_laws_markText n h0 h1).eq.rounds
end Go.Proofs.YtcdamcfklehedaaGreatDoor.Pure
