-- squeezed
import Derived.Test.YtmclgkljmlpfbaaGreatDoorVMore
import Derived.Test.YtmclgkljmlpfbaaGreatDoorVLast
namespace Go.Proofs.YtmclgkljmlpfbaaGreatDoor.Base
open Go.RowKit Go.Proofs.YtmclgkljmlpfbaaGreatDoorW.PrintWords Go.Proofs.YtmclgkljmlpfbaaGreatDoorW.PrintLast
def EvP {α : Type} (g : Nat → Option α) (Q : α → Prop) : Prop:=∃ r,Ev g r ∧ Q r
section
variable {α β : Type} {g f : Nat → Option α} {Q Q' : α → Prop} {R : β → Prop}
theorem EvP.ret (r : α) (h : Q r) : EvP (fun _=>some r) Q:=⟨r,Ev.now r,h⟩
theorem EvP.bind {f : Nat → α → Option β} (h : EvP g Q) (k : ∀ a,Q a → EvP (fun n=>f n a) R) : EvP (fun n=>(g n).bind (f n)) R:=by
 obtain ⟨a,ha,hq⟩:=h
 obtain ⟨r,hr,hR⟩:=k a hq
 exact ⟨r,Ev.bind ha hr,hR⟩
theorem EvP.call {o : Option α} {f : Nat → α → Option β} {a : α} (ho : o = some a) (k : EvP (fun n=>f n a) R) : EvP (fun n=>o.bind (f n)) R:=by
 subst ho
 exact k
theorem EvP.pos {c : Prop} {_ : Decidable c} (hc : c) (h : EvP g Q) : EvP (fun k=>if c then g k else f k) Q:=by
 have e : (fun k=>if c then g k else f k) = g:=by funext k;rw [if_pos hc]
 rw [e]
 exact h
theorem EvP.neg {c : Prop} {_ : Decidable c} (hc : ¬ c) (h : EvP f Q) : EvP (fun k=>if c then g k else f k) Q:=by
 have e : (fun k=>if c then g k else f k) = f:=by funext k;rw [if_neg hc]
 rw [e]
 exact h
theorem EvP.ite {c : Prop} {_ : Decidable c} (h : c → EvP g Q) (h' : ¬ c → EvP f Q) : EvP (fun k=>if c then g k else f k) Q:=by
 by_cases hc : c
 ·exact EvP.pos hc (h hc)
 ·exact EvP.neg hc (h' hc)
theorem EvP.succ (h : EvP (fun k=>g (k + 1)) Q) : EvP g Q:=by
 obtain ⟨r,hr,hq⟩:=h
 exact ⟨r,Ev.step (fun _=>rfl) hr,hq⟩
theorem EvP.mono (h : EvP g Q) (hq : ∀ r,Q r → Q' r) : EvP g Q':=by
 obtain ⟨r,hr,h1⟩:=h
 exact ⟨r,hr,hq r h1⟩
theorem EvP.of {o : Option α} {a : α} (h : o = some a) (hq : Q a) : EvP (fun _=>o) Q:=by
 subst h
 exact EvP.ret a hq
theorem EvP.eq {r : α} (h : EvP g (· = r)) : Ev g r:=by
 obtain ⟨_,hr,rfl⟩:=h
 exact hr
theorem EvP.rounds {g : Nat → Option Bool} (h : EvP g (· = true)) : ∃ k,g k = some true:=h.eq.rounds
end
theorem upInd {P : Nat → Prop} {n : Nat} (hn : P n) (hs : ∀ i,i < n → P (i + 1) → P i) : ∀ i,i ≤ n → P i:=by
 intro i hi
 obtain ⟨d,rfl⟩:=Nat.exists_eq_add_of_le hi
 induction d generalizing i with
 | zero=>exact hn
 | succ d ih =>
  refine hs i (by omega) ?_
  have:=ih (i:=i + 1) (by rw [show i + 1 + d = i + (d + 1) by omega];exact hn) (by intro j hj;exact hs j (by omega)) (by omega)
  exact this
theorem w64 {n : Int} (h0 : -9223372036854775808 ≤ n) (h1 : n ≤ 9223372036854775807) : wrap64 n = n:=by
 unfold wrap64
 omega
theorem w64s {i n : Nat} (h : i < n) (hn : n ≤ 9223372036854775807) : wrap64 ((i : Int) + 1) = ((i + 1 : Nat) : Int):=by
 unfold wrap64
 omega
theorem getDn {α : Type} {xs : List α} {d : α} {i : Nat} (h : i < xs.length) : xs.getD (i : Int).toNat d = xs[i]:=by
 simp [List.getD_eq_getElem?_getD,List.getElem?_eq_getElem h]
def gStr (s : ByteArray) : Prop:=s.size ≤ 9223372036854775807
def gL {α : Type} (g : α → Prop) (xs : List α) : Prop:=xs.length ≤ 9223372036854775807 ∧ ∀ x ∈ xs,g x
theorem gStr_le {s : ByteArray} (h : s.size ≤ maxLen) : gStr s:=by
 unfold maxLen at h
 exact h
end Go.Proofs.YtmclgkljmlpfbaaGreatDoor.Base
