/- What the law FnKindsBad asks of KindsBad and of KindsOk, for all kinds. -/
import Derived.Test.YtlombhokgjfekaaOFnKindsBadx1
import Derived.Test.YtlombhokgjfekaaOFnKindsBadx2
import Derived.Test.YtlombhokgjfekaaBase
namespace Go.Proofs.Ytlombhokgjfekaa.Pure
open Go.RowKit Go.Proofs.Ytlombhokgjfekaa.OFnKindsBad Go.Proofs.YtlombhokgjfekaaW.PrintWords Go.Proofs.YtlombhokgjfekaaW.PrintLast Go.Proofs.YtlombhokgjfekaaW.PrintMore Go.Proofs.Ytlombhokgjfekaa.Base
set_option linter.unusedVariables false
set_option linter.unusedSimpArgs false

abbrev Rec := S36

abbrev Kinds := List (List Rec)

/-- The module and the record that a text names. -/
def kAt (s : ByteArray) : Option (Nat × Nat) :=
  if s.size = 3 ∧ bt s 0 = 83 ∧ 48 ≤ bt s 1 ∧ bt s 1 ≤ 57 ∧ 48 ≤ bt s 2 ∧ bt s 2 ≤ 57 then some ((bt s 1 - 48).toNat, (bt s 2 - 48).toNat) else none

def kTup : Option (Nat × Nat) → Int × Int × Bool
  | none => (0, 0, false)
  | some p => ((p.1 : Int), (p.2 : Int), true)

theorem eq_impl_kindAt (s : ByteArray) : impl_kindAt.f s = some (kTup (kAt s)) := by
  unfold impl_kindAt.f kAt
  by_cases h0 : s.size = 3
  · rw [if_pos (by omega), if_pos (by omega)]
    by_cases h1 : bt s 0 = 83
    · rw [if_pos h1, if_pos (by omega)]
      by_cases h2 : bt s 1 < 48
      · rw [if_pos h2, if_neg (by omega)]
        rfl
      · rw [if_neg h2]
        by_cases h3 : bt s 1 > 57
        · rw [if_pos h3, if_neg (by omega)]
          rfl
        · rw [if_neg h3, if_pos (by omega)]
          by_cases h4 : bt s 2 < 48
          · rw [if_pos h4, if_neg (by omega)]
            rfl
          · rw [if_neg h4]
            by_cases h5 : bt s 2 > 57
            · rw [if_pos h5, if_neg (by omega)]
              rfl
            · rw [if_neg h5, if_pos (by omega)]
              have e1 : (bt s 1 - 48) % 256 = ((bt s 1 - 48).toNat : Int) := by omega
              have e2 : (bt s 2 - 48) % 256 = ((bt s 2 - 48).toNat : Int) := by omega
              rw [e1, e2]
              rfl
    · rw [if_neg h1, if_neg (by omega)]
      rfl
  · rw [if_neg (by omega), if_neg (by omega)]
    rfl

theorem eq_spec_l1Kind (s : ByteArray) : spec_l1Kind.f s = some (kTup (kAt s)) := eq_impl_kindAt s

/-- The record of a kind. -/
def kGet (K : Kinds) (s : ByteArray) : Option Rec := (kAt s).bind fun p => (K[p.1]?).bind fun l => l[p.2]?

theorem kGet_some {K : Kinds} {s : ByteArray} {x : Rec} (h : kGet K s = some x) : ∃ a b, kAt s = some (a, b) ∧ ∃ ha : a < K.length, ∃ hb : b < K[a].length, K[a][b] = x := by
  unfold kGet at h
  obtain ⟨⟨a, b⟩, h1, h2⟩ := Option.bind_eq_some_iff.1 h
  obtain ⟨l, h3, h4⟩ := Option.bind_eq_some_iff.1 h2
  obtain ⟨ha, rfl⟩ := List.getElem?_eq_some_iff.1 h3
  obtain ⟨hb, h5⟩ := List.getElem?_eq_some_iff.1 h4
  exact ⟨a, b, h1, ha, hb, h5⟩

theorem eq_impl_kindIn (K : Kinds) (s : ByteArray) : impl_kindIn.f K s = some (kGet K s).isSome := by
  unfold impl_kindIn.f kGet
  rw [eq_impl_kindAt]
  simp only [Option.bind_some]
  cases h : kAt s with
  | none => rfl
  | some p =>
    obtain ⟨a, b⟩ := p
    by_cases ha : a < K.length
    · have e : rd_L5 K (a : Int) = K[a] := getDn ha
      simp only [kTup, Option.bind_some, e, List.getElem?_eq_getElem ha]
      by_cases hb : b < K[a].length
      · simp [ha, hb]
      · simp [ha, hb]
    · simp [kTup, ha]

def isBase (s : ByteArray) : Bool := s.toList == [110] || (s.toList == [98] || s.toList == [111])

def plain (K : Kinds) (s : ByteArray) : Bool := isBase s || (kGet K s).isSome

theorem eq_impl_plainOk (K : Kinds) (s : ByteArray) : impl_plainOk.f K s = some (plain K s) := by
  unfold impl_plainOk.f plain isBase
  rw [eq_impl_kindIn]
  by_cases h1 : s.toList = [110]
  · simp [h1]
  · by_cases h2 : s.toList = [98]
    · simp [h2]
    · by_cases h3 : s.toList = [111]
      · simp [h3]
      · simp [h1, h2, h3]

theorem eq_spec_l1Base (s : ByteArray) : spec_l1Base.f s = some (isBase s) := by
  unfold spec_l1Base.f isBase
  by_cases h1 : s.toList = [110]
  · simp [h1]
  · by_cases h2 : s.toList = [98]
    · simp [h2]
    · have k1 : (s.toList == [110]) = false := beq_eq_false_iff_ne.2 h1
      have k2 : (s.toList == [98]) = false := beq_eq_false_iff_ne.2 h2
      rw [if_neg h1, if_neg h2, k1, k2]
      rfl

theorem eq_spec_l1Has (K : Kinds) (s : ByteArray) (a b : Nat) (h : kAt s = some (a, b)) : spec_l1Has.f K a b = some (kGet K s).isSome := by
  unfold spec_l1Has.f kGet
  rw [h]
  simp only [Option.bind_some]
  by_cases ha : a < K.length
  · rw [if_pos (by omega), if_pos (by omega)]
    have e : rd_L5 K (a : Int) = K[a] := getDn ha
    rw [e, List.getElem?_eq_getElem ha]
    simp only [Option.bind_some]
    by_cases hb : b < K[a].length
    · rw [List.getElem?_eq_getElem hb]
      simp [hb]
    · rw [List.getElem?_eq_none (by omega)]
      simp [hb]
  · rw [if_neg (by omega), List.getElem?_eq_none (by omega)]
    rfl

theorem list_size (s : ByteArray) : s.toList.length = s.size := by
  rw [ByteArray.toList_eq, Array.length_toList]
  rfl

theorem bt_one {s : ByteArray} {c : UInt8} (h : s.toList = [c]) : s.size = 1 ∧ bt s 0 = (c.toNat : Int) := by
  have h1 : s.size = 1 := by rw [← list_size, h]; rfl
  refine ⟨h1, ?_⟩
  rw [ByteArray.toList_eq] at h
  have h0 : (0 : Int).toNat < s.size := by rw [h1]; decide
  unfold bt
  rw [dif_pos h0]
  have h2 : s.data.toList[0]? = some c := by rw [h]; rfl
  rw [Array.getElem?_toList] at h2
  obtain ⟨h3, h4⟩ := Array.getElem?_eq_some_iff.1 h2
  have h5 : s[(0 : Int).toNat]'h0 = c := h4
  rw [h5]

theorem base_size {s : ByteArray} (h : isBase s = true) : s.size = 1 ∧ (bt s 0 = 110 ∨ bt s 0 = 98 ∨ bt s 0 = 111) := by
  unfold isBase at h
  simp only [Bool.or_eq_true, beq_iff_eq] at h
  rcases h with h | h | h
  · have := bt_one h
    exact ⟨this.1, .inl this.2⟩
  · have := bt_one h
    exact ⟨this.1, .inr (.inl this.2)⟩
  · have := bt_one h
    exact ⟨this.1, .inr (.inr this.2)⟩

theorem base_kAt {s : ByteArray} (h : isBase s = true) : kAt s = none := by
  have := base_size h
  unfold kAt
  rw [if_neg (by omega)]

theorem kAt_base {s : ByteArray} {p : Nat × Nat} (h : kAt s = some p) : isBase s = false := by
  cases hb : isBase s with
  | false => rfl
  | true => rw [base_kAt hb] at h; cases h

theorem kAt_size {s : ByteArray} {p : Nat × Nat} (h : kAt s = some p) : s.size = 3 ∧ bt s 0 = 83 := by
  unfold kAt at h
  split at h
  · rename_i hc
    exact ⟨hc.1, hc.2.1⟩
  · cases h

def isRef (s : ByteArray) : Bool := decide (0 < s.size) && (bt s 0 == 38 || bt s 0 == 33)

def strip (s : ByteArray) : ByteArray := if isRef s = true then s.extract 1 s.size else s

def sgn (s : ByteArray) : ByteArray := if isRef s = true then s.extract 0 1 else (⟨#[]⟩ : ByteArray)

theorem eq_impl_signOf (s : ByteArray) : impl_signOf.f s = some (sgn s, strip s) := by
  unfold impl_signOf.f sgn strip isRef
  have hs := list_size s
  by_cases h0 : s.toList = []
  · rw [if_pos h0]
    rw [h0] at hs
    have : ¬ 0 < s.size := by simp at hs; omega
    simp [this]
  · rw [if_neg h0]
    have h1 : 0 < s.size := by
      rcases Nat.eq_zero_or_pos s.size with h | h
      · rw [h] at hs
        exact absurd (List.eq_nil_of_length_eq_zero hs) h0
      · exact h
    rw [if_pos (by omega)]
    by_cases h2 : bt s 0 = 38
    · rw [if_pos h2, if_pos (by omega), if_pos (by omega)]
      simp [h1, h2]
    · rw [if_neg h2]
      by_cases h3 : bt s 0 = 33
      · rw [if_pos h3, if_pos (by omega), if_pos (by omega)]
        simp [h1, h3]
      · rw [if_neg h3]
        simp [h2, h3]

theorem eq_spec_l1RefR (s : ByteArray) : spec_l1Ref.f s = some (isRef s) := by
  unfold spec_l1Ref.f isRef
  by_cases h : 0 < s.size
  · rw [if_pos (by omega), if_pos (by omega)]
    by_cases h2 : bt s 0 = 38
    · rw [if_pos h2]
      simp [h, h2]
    · rw [if_neg h2]
      simp [h, h2]
  · rw [if_neg (by omega)]
    simp [h]

theorem first_byte {s : ByteArray} (h : 0 < s.size) (c : UInt8) : (s.extract 0 1).toList = [c] ↔ bt s 0 = (c.toNat : Int) := by
  have h0 : (0 : Int).toNat < s.size := h
  have e : (s.extract 0 1).toList = [s[(0 : Int).toNat]'h0] := by
    rw [ByteArray.toList_eq, ByteArray.data_extract]
    apply List.ext_getElem
    · have : s.data.size = s.size := rfl
      simp
      omega
    · intro i h1 h2
      have hi : i = 0 := by simpa using h2
      subst hi
      simp
      rfl
  rw [e]
  unfold bt
  rw [dif_pos h0]
  constructor
  · intro h
    injection h with h
    rw [h]
  · intro h
    have : s[(0 : Int).toNat]'h0 = c := by
      apply UInt8.toNat_inj.1
      exact_mod_cast h
    rw [this]

/-- The abilities of a type. -/
def able (K : Kinds) (s : ByteArray) : Int := if isRef s = true then (if bt s 0 = 38 then 3 else 2) else match kGet K s with | some x => x.f0 | none => 7

theorem eq_impl_recordOf (K : Kinds) (s : ByteArray) (x : Rec) (h : kGet K s = some x) : impl_recordOf.f K s = some (x.f0, x.f1) := by
  obtain ⟨a, b, h1, ha, hb, rfl⟩ := kGet_some h
  unfold impl_recordOf.f
  rw [eq_impl_kindAt, h1]
  simp only [Option.bind_some, kTup]
  have e : rd_L5 K (a : Int) = K[a] := getDn ha
  have e2 : rd_T36 K[a] (b : Int) = K[a][b] := getDn hb
  rw [e, e2, if_pos (by omega), if_pos (by omega), if_pos (by omega), if_pos (by omega)]

theorem eq_impl_ableOf (K : Kinds) (s : ByteArray) : impl_ableOf.f K s = some (able K s) := by
  unfold impl_ableOf.f able
  rw [eq_impl_signOf]
  simp only [Option.bind_some]
  by_cases hr : isRef s = true
  · have h0 : 0 < s.size ∧ (bt s 0 = 38 ∨ bt s 0 = 33) := by
      unfold isRef at hr
      simpa using hr
    have e1 := first_byte h0.1 38
    have e2 := first_byte h0.1 33
    have k1 : ((38 : UInt8).toNat : Int) = 38 := rfl
    have k2 : ((33 : UInt8).toNat : Int) = 33 := rfl
    rw [k1] at e1
    rw [k2] at e2
    unfold sgn
    rw [if_pos hr, if_pos hr]
    by_cases h1 : bt s 0 = 38
    · rw [if_pos (e1.2 h1), if_pos h1]
    · rw [if_neg (fun h => h1 (e1.1 h)), if_pos (e2.2 (by omega)), if_neg h1]
  · have hs : strip s = s := by unfold strip; rw [if_neg hr]
    have hg : (sgn s).toList = [] := by
      unfold sgn
      rw [if_neg hr, ByteArray.toList_eq]
    rw [if_neg hr, if_neg (by rw [hg]; simp), if_neg (by rw [hg]; simp), hs, eq_impl_kindIn]
    simp only [Option.bind_some]
    cases hk : kGet K s with
    | none => rfl
    | some x =>
      simp only [Option.isSome_some, if_true, eq_impl_recordOf K s x hk, Option.bind_some]

/-- May a text be the type of a field of the record (m, r)? -/
def fieldOk (K : Kinds) (m r : Nat) (t : ByteArray) : Bool := match kAt t with | some p => (kGet K t).isSome && decide (p.1 < m ∨ (p.1 = m ∧ p.2 < r)) | none => isBase t

theorem field_ref {K : Kinds} {m r : Nat} {t : ByteArray} (h : fieldOk K m r t = true) : isRef t = false := by
  unfold fieldOk at h
  cases hk : kAt t with
  | some p =>
    have := kAt_size hk
    unfold isRef
    simp [this.2]
  | none =>
    rw [hk] at h
    have := base_size h
    unfold isRef
    rcases this.2 with h | h | h <;> simp [h]

def abOk (A b : Int) : Bool := decide ((Go.bits .andNot .i64 (Go.bits .and .i64 A 7) b) = 0) && (decide ((Go.bits .and .i64 A 8) = 0) || !decide ((Go.bits .and .i64 b 4) = 0))

def can (a o : Int) : Bool := (Int.tmod (wrap64 (Int.tdiv a o)) 2) == 1

def abSpec (A b : Int) : Bool := (!((can A 1 && !can b 1) || (can A 2 && !can b 2))) && (!(decide (A ≥ 4)) || can b 4)

def valF (n : Nat) (c : UInt8) : Nat := 10 * n + (c.toNat - 48)

def val (l : List UInt8) : Nat := l.foldl valF 0

theorem ab_fin : ∀ a b : Fin 16, abSpec (a.val : Int) (b.val : Int) = abOk (a.val : Int) (b.val : Int) := by decide +kernel
theorem ab_same {A b : Int} (h0 : 0 ≤ A) (h1 : A ≤ 15) (h2 : 0 ≤ b) (h3 : b ≤ 15) : abSpec A b = abOk A b := by
  have := ab_fin ⟨A.toNat, by omega⟩ ⟨b.toNat, by omega⟩
  have e1 : ((A.toNat : Nat) : Int) = A := by omega
  have e2 : ((b.toNat : Nat) : Int) = b := by omega
  simp only [e1, e2] at this
  exact this

/-- Is the record x one, as the record (m, r)? -/
def recOk (K : Kinds) (m r : Nat) (x : Rec) : Bool := decide (0 ≤ x.f0 ∧ x.f0 ≤ 15 ∧ x.f1.length ≤ 3) && x.f1.all fun t => fieldOk K m r t && abOk x.f0 (able K t)

theorem ev_impl_recordOk (K : Kinds) (m r : Nat) (hm : m < K.length) (hr : r < K[m].length) : EvP (fun k => impl_recordOk.f k K m r) (· = recOk K m r K[m][r]) := by
  have e1 : rd_L5 K (m : Int) = K[m] := getDn hm
  have e2 : rd_T36 K[m] (r : Int) = K[m][r] := getDn hr
  generalize hx : K[m][r] = x at e2 ⊢
  have loop : x.f1.length ≤ 3 → ∀ i, i ≤ x.f1.length → EvP (fun k => impl_recordOk.l0 k K m r x.f1 (x.f1.length : Int) i x.f0 x.f1) (· = (x.f1.drop i).all fun t => fieldOk K m r t && abOk x.f0 (able K t)) := by
    intro h3
    refine upInd ?_ ?_
    · refine EvP.succ ?_
      simp only [impl_recordOk.l0]
      exact EvP.neg (by omega) (EvP.ret _ (by simp))
    · intro i hi ih
      refine EvP.succ ?_
      simp only [impl_recordOk.l0]
      have e : rdOf ByteArray.empty x.f1 (i : Int) = x.f1[i] := getDn hi
      rw [e, List.drop_eq_getElem_cons hi]
      generalize x.f1[i] = t
      have j2 : ∀ bad : Bool, bad = !fieldOk K m r t → EvP (fun k => impl_recordOk.j2 k K m r t x.f1 (x.f1.length : Int) i bad x.f0 x.f1) (· = (t :: x.f1.drop (i + 1)).all fun t => fieldOk K m r t && abOk x.f0 (able K t)) := by
        intro bad hb
        subst hb
        refine EvP.succ ?_
        simp only [impl_recordOk.j2]
        refine EvP.ite (fun h => EvP.ret _ (by simp at h; simp [h])) (fun h => ?_)
        have hf : fieldOk K m r t = true := by simpa using h
        refine EvP.call (eq_impl_ableOf K t) ?_
        rw [w64s hi (by omega)]
        refine EvP.ite (fun h1 => EvP.ite (fun h2 => ?_) (fun h2 => EvP.ite (fun h4 => EvP.ret _ ?_) (fun h4 => ?_))) (fun h1 => EvP.ret _ ?_)
        · refine ih.mono (fun q hq => ?_)
          rw [hq]
          simp [hf, abOk, h1, h2]
        · simp [hf, abOk, h1, h2, h4]
        · refine ih.mono (fun q hq => ?_)
          rw [hq]
          simp [hf, abOk, h1, h2, h4]
        · simp [hf, abOk, h1]
      refine EvP.pos (by omega) (EvP.pos (by omega) (EvP.pos (by omega) (EvP.call (eq_impl_kindAt t) ?_)))
      cases hk : kAt t with
      | none =>
        refine EvP.neg (by simp [kTup]) (EvP.call (eq_impl_plainOk K t) (j2 _ ?_))
        unfold fieldOk plain kGet
        rw [hk]
        simp
      | some p =>
        obtain ⟨a, b⟩ := p
        simp only [kTup]
        have hbf := kAt_base hk
        refine EvP.pos (by trivial) (EvP.ite (fun h => j2 _ ?_) (fun h => EvP.ite (fun h1 => EvP.ite (fun h2 => j2 _ ?_) (fun h2 => EvP.call (eq_impl_plainOk K t) (j2 _ ?_))) (fun h1 => EvP.call (eq_impl_plainOk K t) (j2 _ ?_))))
        · unfold fieldOk
          rw [hk]
          have : ¬ (a < m ∨ (a = m ∧ b < r)) := by omega
          simp [this]
        · unfold fieldOk
          rw [hk]
          have : ¬ (a < m ∨ (a = m ∧ b < r)) := by omega
          simp [this]
        · unfold fieldOk plain
          rw [hk, hbf]
          have : (a < m ∨ (a = m ∧ b < r)) := by omega
          simp [this]
        · unfold fieldOk plain
          rw [hk, hbf]
          have : (a < m ∨ (a = m ∧ b < r)) := by omega
          simp [this]
  have j0 : ∀ bad : Bool, bad = !decide (0 ≤ x.f0 ∧ x.f0 ≤ 15 ∧ x.f1.length ≤ 3) → EvP (fun k => impl_recordOk.j0 k K m r bad x.f0 x.f1) (· = recOk K m r x) := by
    intro bad hb
    subst hb
    refine EvP.succ ?_
    simp only [impl_recordOk.j0]
    unfold recOk
    refine EvP.ite (fun h => EvP.ret _ ?_) (fun h => ?_)
    · simp at h
      have : ¬ (0 ≤ x.f0 ∧ x.f0 ≤ 15 ∧ x.f1.length ≤ 3) := by omega
      simp [this]
    · simp at h
      refine (loop (by omega) 0 (by omega)).mono (fun q hq => ?_)
      rw [hq]
      have : (0 ≤ x.f0 ∧ x.f0 ≤ 15 ∧ x.f1.length ≤ 3) := by omega
      simp [this]
  unfold impl_recordOk.f
  rw [e1, e2]
  refine EvP.pos (by omega) (EvP.pos (by omega) (EvP.pos (by omega) (EvP.pos (by omega) ?_)))
  refine EvP.ite (fun h => j0 _ ?_) (fun h => EvP.ite (fun h1 => j0 _ ?_) (fun h1 => j0 _ ?_))
  · have : ¬ (0 ≤ x.f0 ∧ x.f0 ≤ 15 ∧ x.f1.length ≤ 3) := by omega
    simp [this]
  · have : ¬ (0 ≤ x.f0 ∧ x.f0 ≤ 15 ∧ x.f1.length ≤ 3) := by omega
    simp [this]
  · by_cases h2 : x.f1.length ≤ 3
    · have : (0 ≤ x.f0 ∧ x.f0 ≤ 15 ∧ x.f1.length ≤ 3) := by omega
      have h3 : ¬ ((x.f1.length : Int) > 3) := by omega
      simp [this]
      omega
    · have : ¬ (0 ≤ x.f0 ∧ x.f0 ≤ 15 ∧ x.f1.length ≤ 3) := by omega
      simp [this]
      omega

/-- The records ahead of (m, r) have abilities. -/
def Below16 (K : Kinds) (m r : Nat) : Prop := ∀ a b (ha : a < K.length) (hb : b < K[a].length), (a < m ∨ (a = m ∧ b < r)) → 0 ≤ K[a][b].f0 ∧ K[a][b].f0 ≤ 15

theorem able_field {K : Kinds} {m r : Nat} {t : ByteArray} (hI : Below16 K m r) (h : fieldOk K m r t = true) : 0 ≤ able K t ∧ able K t ≤ 15 := by
  have hr := field_ref h
  unfold able
  rw [hr]
  simp only [Bool.false_eq_true, if_false]
  cases hg : kGet K t with
  | none => simp
  | some x =>
    obtain ⟨a, b, h1, ha, hb, rfl⟩ := kGet_some hg
    unfold fieldOk at h
    rw [h1] at h
    simp at h
    exact hI a b ha hb h.2

theorem ev_spec_l1Able (K : Kinds) (t : ByteArray) (h : ∀ p, kAt t = some p → (kGet K t).isSome = true) : EvP (fun k => spec_l1Able.f k K t) (· = able K t) := by
  have j0 : ∀ c : Bool, c = (isRef t && (bt t 0 == 38)) → EvP (fun k => spec_l1Able.j0 k K t c) (· = able K t) := by
    intro c hc
    subst hc
    refine EvP.succ ?_
    simp only [spec_l1Able.j0]
    unfold able
    refine EvP.ite (fun h1 => EvP.ret _ (by simp at h1; simp [h1])) (fun h1 => EvP.call (eq_spec_l1RefR t) (EvP.ite (fun h2 => EvP.ret _ (by simp at h1; simp [h2, h1 h2])) (fun h2 => EvP.call (eq_spec_l1Kind t) ?_)))
    have h2 : isRef t = false := by simpa using h2
    cases hk : kAt t with
    | none =>
      refine EvP.neg (by simp [kTup]) (EvP.ret _ ?_)
      simp [h2, kGet, hk]
    | some p =>
      obtain ⟨x, hx⟩ := Option.isSome_iff_exists.1 (h p hk)
      obtain ⟨a, b, h3, ha, hb, rfl⟩ := kGet_some hx
      rw [h3] at hk
      obtain rfl := Option.some.inj hk
      simp only [kTup]
      have e : rd_L5 K (a : Int) = K[a] := getDn ha
      have e2 : rd_T36 K[a] (b : Int) = K[a][b] := getDn hb
      simp only [e, e2]
      refine EvP.pos (by trivial) (EvP.pos (by omega) (EvP.pos (by omega) (EvP.pos (by omega) (EvP.pos (by omega) (EvP.ret _ ?_)))))
      simp [h2, hx]
  unfold spec_l1Able.f
  refine EvP.call (eq_spec_l1RefR t) (EvP.ite (fun h1 => EvP.pos ?_ (j0 _ ?_)) (fun h1 => j0 _ ?_))
  · unfold isRef at h1
    simp at h1
    omega
  · simp [h1]
  · simp at h1
    simp [h1]

theorem eq_spec_l1Field (K : Kinds) (m r : Nat) (t : ByteArray) : spec_l1Field.f K m r t = some (fieldOk K m r t) := by
  unfold spec_l1Field.f fieldOk
  rw [eq_spec_l1Kind]
  simp only [Option.bind_some]
  cases hk : kAt t with
  | none =>
    rw [if_neg (by simp [kTup]), eq_spec_l1Base]
    rfl
  | some p =>
    obtain ⟨a, b⟩ := p
    simp only [kTup]
    rw [if_pos trivial, eq_spec_l1Has K t a b hk]
    simp only [Option.bind_some]
    cases hg : (kGet K t).isSome with
    | false => simp
    | true =>
      by_cases h1 : a < m
      · simp [h1]
      · by_cases h2 : a = m
        · simp [h2]
        · have h3 : ¬ ((a : Int) = (m : Int)) := by omega
          simp [h1, h2, h3]

theorem eq_spec_l1Can (a o : Int) (h : o ≠ 0) : spec_l1Can.f a o = some (can a o) := by
  unfold spec_l1Can.f can
  rw [if_neg h]

theorem ev_spec_l1Record (K : Kinds) (m r : Nat) (hm : m < K.length) (hr : r < K[m].length) (hI : Below16 K m r) : EvP (fun k => spec_l1Record.f k K m r) (· = recOk K m r K[m][r]) := by
  have e1 : rd_L5 K (m : Int) = K[m] := getDn hm
  have e2 : rd_T36 K[m] (r : Int) = K[m][r] := getDn hr
  generalize hx : K[m][r] = x at e2 ⊢
  have loop : (0 ≤ x.f0 ∧ x.f0 ≤ 15 ∧ x.f1.length ≤ 3) → ∀ i, i ≤ x.f1.length → EvP (fun k => spec_l1Record.l0 k K m r i x.f0 x.f1) (· = (x.f1.drop i).all fun t => fieldOk K m r t && abOk x.f0 (able K t)) := by
    intro h3
    refine upInd ?_ ?_
    · refine EvP.succ ?_
      simp only [spec_l1Record.l0]
      exact EvP.neg (by omega) (EvP.ret _ (by simp))
    · intro i hi ih
      refine EvP.succ ?_
      simp only [spec_l1Record.l0]
      have e : rdOf ByteArray.empty x.f1 (i : Int) = x.f1[i] := getDn hi
      rw [e, List.drop_eq_getElem_cons hi]
      generalize x.f1[i] = t
      refine EvP.pos (by omega) (EvP.pos (by omega) (EvP.call (eq_spec_l1Field K m r t) (EvP.ite (fun hf => ?_) (fun hf => EvP.ret _ (by simp at hf; simp [hf])))))
      have hA := able_field hI hf
      have hS := ab_same h3.1 h3.2.1 hA.1 hA.2
      refine EvP.bind (ev_spec_l1Able K t (fun p hp => by unfold fieldOk at hf; rw [hp] at hf; simp at hf; exact hf.1)) (fun w hw => ?_)
      subst hw
      have hall : ∀ q : Bool, q = (x.f1.drop (i + 1)).all (fun t => fieldOk K m r t && abOk x.f0 (able K t)) → ∀ c, c = abSpec x.f0 (able K t) → (c && q) = (t :: x.f1.drop (i + 1)).all (fun t => fieldOk K m r t && abOk x.f0 (able K t)) := by
        intro q hq c hc
        rw [hc, hS, hq, List.all_cons, hf, Bool.true_and]
      have j2 : ∀ bad : Bool, bad = ((can x.f0 1 && !can (able K t) 1) || (can x.f0 2 && !can (able K t) 2)) → EvP (fun k => spec_l1Record.j2 k K m r i (able K t) bad x.f0 x.f1) (· = (t :: x.f1.drop (i + 1)).all fun t => fieldOk K m r t && abOk x.f0 (able K t)) := by
        intro bad hb
        refine EvP.succ ?_
        simp only [spec_l1Record.j2]
        rw [w64s hi (by omega)]
        refine EvP.ite (fun h => EvP.ret _ ?_) (fun h => EvP.ite (fun h1 => EvP.call (eq_spec_l1Can _ 4 (by decide)) (EvP.ite (fun h2 => ih.mono (fun q hq => ?_)) (fun h2 => EvP.ret _ ?_))) (fun h1 => ih.mono (fun q hq => ?_)))
        · rw [← hall _ rfl _ rfl]
          unfold abSpec
          rw [← hb, h]
          simp
        · rw [← hall q hq _ rfl]
          unfold abSpec
          rw [← hb]
          simp [h, h2]
        · rw [← hall _ rfl _ rfl]
          unfold abSpec
          simp at h2
          simp [h1, h2]
        · rw [← hall q hq _ rfl]
          unfold abSpec
          rw [← hb]
          simp [h, h1]
      refine EvP.call (eq_spec_l1Can _ 1 (by decide)) (EvP.ite (fun c1 => EvP.call (eq_spec_l1Can _ 1 (by decide)) (EvP.ite (fun c2 => EvP.call (eq_spec_l1Can _ 2 (by decide)) (EvP.ite (fun c3 => EvP.call (eq_spec_l1Can _ 2 (by decide)) (j2 _ (by simp [c1, c2, c3]))) (fun c3 => j2 _ (by simp [c1, c2, c3])))) (fun c2 => j2 _ (by simp [c1, c2])))) (fun c1 => EvP.call (eq_spec_l1Can _ 2 (by decide)) (EvP.ite (fun c3 => EvP.call (eq_spec_l1Can _ 2 (by decide)) (j2 _ (by simp [c1, c3]))) (fun c3 => j2 _ (by simp [c1, c3])))))
  have j0 : ∀ bad : Bool, (bad = !decide (0 ≤ x.f0 ∧ x.f0 ≤ 15 ∧ x.f1.length ≤ 3)) → EvP (fun k => spec_l1Record.j0 k K m r bad x.f0 x.f1) (· = recOk K m r x) := by
    intro bad hb
    subst hb
    refine EvP.succ ?_
    simp only [spec_l1Record.j0]
    unfold recOk
    refine EvP.ite (fun h => EvP.ret _ ?_) (fun h => ?_)
    · simp at h
      have : ¬ (0 ≤ x.f0 ∧ x.f0 ≤ 15 ∧ x.f1.length ≤ 3) := by omega
      simp [this]
    · simp at h
      refine (loop (by omega) 0 (by omega)).mono (fun q hq => ?_)
      rw [hq]
      have : (0 ≤ x.f0 ∧ x.f0 ≤ 15 ∧ x.f1.length ≤ 3) := by omega
      simp [this]
  unfold spec_l1Record.f
  rw [e1, e2]
  refine EvP.pos (by omega) (EvP.pos (by omega) (EvP.pos (by omega) (EvP.pos (by omega) ?_)))
  have h6 : spec_l6In.f x.f0 0 15 = some (decide (0 ≤ x.f0 ∧ x.f0 ≤ 15)) := by
    unfold spec_l6In.f
    by_cases h : x.f0 ≥ 0
    · rw [if_pos h]
      simp [h]
    · rw [if_neg h]
      have : ¬ 0 ≤ x.f0 := by omega
      simp [this]
  refine EvP.call h6 (EvP.ite (fun h => j0 _ ?_) (fun h => j0 _ ?_))
  · simp at h
    by_cases h2 : x.f1.length ≤ 3
    · have : (0 ≤ x.f0 ∧ x.f0 ≤ 15 ∧ x.f1.length ≤ 3) := by omega
      have h3 : ¬ ((x.f1.length : Int) > 3) := by omega
      simp [this]
      omega
    · have : ¬ (0 ≤ x.f0 ∧ x.f0 ≤ 15 ∧ x.f1.length ≤ 3) := by omega
      simp [this]
      omega
  · have : ¬ (0 ≤ x.f0 ∧ x.f0 ≤ 15 ∧ x.f1.length ≤ 3) := by
      simp at h
      omega
    simp [this]

/-- The first record of module m, from r on, that is none. -/
def kbIn (K : Kinds) (m : Nat) : Nat → Nat → Option Nat
  | 0, _ => none
  | d + 1, r => if recOk K m r ((K.getD m []).getD r z36) = true then kbIn K m d (r + 1) else some r

/-- The first bad place, from module m on. -/
def kbFrom (K : Kinds) : Nat → Nat → Int × Int
  | 0, _ => (-1, -1)
  | d + 1, m => if (K.getD m []).length > 3 then ((m : Int), 3) else match kbIn K m (K.getD m []).length 0 with | some r => ((m : Int), (r : Int)) | none => kbFrom K d (m + 1)

def kBad (K : Kinds) : Int × Int := if K.length > 3 then (3, 0) else kbFrom K K.length 0

def kOk (K : Kinds) : Bool := (kBad K).1 == -1

theorem ev_impl_KindsBad (K : Kinds) : EvP (fun k => impl_KindsBad.f k K) (· = kBad K) := by
  unfold impl_KindsBad.f kBad
  refine EvP.ite (fun h => EvP.ret _ (by rw [if_pos (by omega)])) (fun h => ?_)
  rw [if_neg (by omega)]
  have outer : ∀ d m, m + d = K.length → EvP (fun k => impl_KindsBad.l0 k K K (K.length : Int) m) (· = kbFrom K d m) := by
    intro d
    induction d with
    | zero =>
      intro m hm
      refine EvP.succ ?_
      simp only [impl_KindsBad.l0]
      exact EvP.neg (by omega) (EvP.ret _ rfl)
    | succ d ih =>
      intro m hm
      refine EvP.succ ?_
      simp only [impl_KindsBad.l0]
      have hlt : m < K.length := by omega
      have e1 : rd_L5 K (m : Int) = K[m] := getDn hlt
      have e3 : K.getD m [] = K[m] := by simp [List.getD_eq_getElem?_getD, List.getElem?_eq_getElem hlt]
      rw [e1]
      unfold kbFrom
      rw [e3]
      refine EvP.pos (by omega) (EvP.pos (by omega) (EvP.pos (by omega) (EvP.ite (fun h2 => EvP.ret _ (by rw [if_pos (by omega)])) (fun h2 => ?_))))
      rw [if_neg (by omega)]
      have inner : ∀ e r, r + e = K[m].length → EvP (fun k => impl_KindsBad.l1 k K m K (K.length : Int) m (K[m].length : Int) r) (· = match kbIn K m e r with | some r => ((m : Int), (r : Int)) | none => kbFrom K d (m + 1)) := by
        intro e
        induction e with
        | zero =>
          intro r hr
          refine EvP.succ ?_
          simp only [impl_KindsBad.l1]
          rw [w64s hlt (by omega)]
          exact EvP.neg (by omega) (ih (m + 1) (by omega))
        | succ e ih2 =>
          intro r hr
          refine EvP.succ ?_
          simp only [impl_KindsBad.l1]
          have hrl : r < K[m].length := by omega
          have e4 : K[m].getD r z36 = K[m][r] := by simp [List.getD_eq_getElem?_getD, List.getElem?_eq_getElem hrl]
          rw [w64s hrl (by omega)]
          unfold kbIn
          rw [e3, e4]
          refine EvP.pos (by omega) (EvP.bind (ev_impl_recordOk K m r hlt hrl) (fun t ht => ?_))
          subst ht
          refine EvP.ite (fun h3 => ?_) (fun h3 => EvP.ret _ (by rw [if_neg h3]))
          rw [if_pos h3]
          exact ih2 (r + 1) (by omega)
      exact inner _ 0 (by omega)
  exact outer _ 0 (by omega)

theorem recOk_range {K : Kinds} {m r : Nat} {x : Rec} (h : recOk K m r x = true) : 0 ≤ x.f0 ∧ x.f0 ≤ 15 ∧ x.f1.length ≤ 3 := by
  unfold recOk at h
  simp at h
  omega

theorem ev_spec_KindsBad (K : Kinds) : EvP (fun k => spec_KindsBad.f k K) (· = kBad K) := by
  unfold spec_KindsBad.f kBad
  refine EvP.ite (fun h => EvP.ret _ (by rw [if_pos (by omega)])) (fun h => ?_)
  rw [if_neg (by omega)]
  have outer : ∀ d m, m + d = K.length → Below16 K m 0 → EvP (fun k => spec_KindsBad.l0 k K m) (· = kbFrom K d m) := by
    intro d
    induction d with
    | zero =>
      intro m hm _
      refine EvP.succ ?_
      simp only [spec_KindsBad.l0]
      exact EvP.neg (by omega) (EvP.ret _ rfl)
    | succ d ih =>
      intro m hm hI
      refine EvP.succ ?_
      simp only [spec_KindsBad.l0]
      have hlt : m < K.length := by omega
      have e1 : rd_L5 K (m : Int) = K[m] := getDn hlt
      have e3 : K.getD m [] = K[m] := by simp [List.getD_eq_getElem?_getD, List.getElem?_eq_getElem hlt]
      rw [e1]
      unfold kbFrom
      rw [e3]
      refine EvP.pos (by omega) (EvP.pos (by omega) (EvP.ite (fun h2 => EvP.ret _ (by rw [if_pos (by omega)])) (fun h2 => ?_)))
      rw [if_neg (by omega)]
      have inner : ∀ e r, r + e = K[m].length → Below16 K m r → EvP (fun k => spec_KindsBad.l1 k K m r) (· = match kbIn K m e r with | some r => ((m : Int), (r : Int)) | none => kbFrom K d (m + 1)) := by
        intro e
        induction e with
        | zero =>
          intro r hr hI
          refine EvP.succ ?_
          simp only [spec_KindsBad.l1]
          rw [e1, w64s hlt (by omega)]
          refine EvP.pos (by omega) (EvP.pos (by omega) (EvP.neg (by omega) (ih (m + 1) (by omega) ?_)))
          intro a b ha hb hab
          refine hI a b ha hb ?_
          rcases Nat.lt_or_ge a m with h5 | h5
          · exact .inl h5
          · obtain rfl : a = m := by omega
            exact .inr ⟨rfl, by omega⟩
        | succ e ih2 =>
          intro r hr hI
          refine EvP.succ ?_
          simp only [spec_KindsBad.l1]
          have hrl : r < K[m].length := by omega
          have e4 : K[m].getD r z36 = K[m][r] := by simp [List.getD_eq_getElem?_getD, List.getElem?_eq_getElem hrl]
          rw [e1, w64s hrl (by omega)]
          unfold kbIn
          rw [e3, e4]
          refine EvP.pos (by omega) (EvP.pos (by omega) (EvP.pos (by omega) (EvP.bind (ev_spec_l1Record K m r hlt hrl hI) (fun t ht => ?_))))
          subst ht
          refine EvP.ite (fun h3 => ?_) (fun h3 => EvP.ret _ (by rw [if_neg h3]))
          rw [if_pos h3]
          refine ih2 (r + 1) (by omega) ?_
          intro a b ha hb hab
          by_cases h6 : a = m ∧ b = r
          · obtain ⟨rfl, rfl⟩ := h6
            have := recOk_range h3
            omega
          · exact hI a b ha hb (by omega)
      exact inner _ 0 (by omega) hI
  exact outer _ 0 (by omega) (fun a b ha hb hab => by omega)

theorem ev_impl_KindsOk (K : Kinds) : EvP (fun k => impl_KindsOk.f k K) (· = kOk K) := by
  unfold impl_KindsOk.f
  refine EvP.bind (ev_impl_KindsBad K) (fun t ht => EvP.ret _ ?_)
  rw [ht]
  rfl

theorem kbFrom_neg (K : Kinds) : ∀ d m, (kbFrom K d m).1 = -1 ∨ 0 ≤ (kbFrom K d m).1 := by
  intro d
  induction d with
  | zero => exact fun m => .inl rfl
  | succ d ih =>
    intro m
    unfold kbFrom
    split
    · exact .inr (by show (0 : Int) ≤ (m : Int); omega)
    · split
      · exact .inr (by show (0 : Int) ≤ (m : Int); omega)
      · exact ih (m + 1)
theorem kBad_neg (K : Kinds) : (kBad K).1 = -1 ∨ 0 ≤ (kBad K).1 := by
  unfold kBad
  split
  · exact .inr (by decide)
  · exact kbFrom_neg K _ _

theorem ev_spec_KindsOk (K : Kinds) : EvP (fun k => spec_KindsOk.f k K) (· = kOk K) := by
  unfold spec_KindsOk.f
  refine EvP.bind (ev_spec_KindsBad K) (fun t ht => EvP.ret _ ?_)
  rw [ht]
  unfold kOk
  rcases kBad_neg K with h | h
  · rw [h]
    rfl
  · have h1 : ¬ (kBad K).1 < 0 := by omega
    have h2 : ¬ (kBad K).1 = -1 := by omega
    simp [h1, h2]

/-- The bytes that a reader draws from. -/
def gBy (s : List Int) : Prop := s.length ≤ 2000 ∧ ∀ x ∈ s, 0 ≤ x ∧ x ≤ 255

theorem rd_by {s : List Int} (h : gBy s) (i : Int) : 0 ≤ rd s i ∧ rd s i ≤ 255 := by
  unfold rd
  rw [List.getD_eq_getElem?_getD]
  cases e : s[i.toNat]? with
  | none => simp
  | some v => simpa using h.2 v (List.mem_of_getElem? e)

theorem xor_pos {x y : Int} (hx : 0 ≤ x) (hx2 : x < 4611686018427387904) (hy : 0 ≤ y) (hy2 : y < 4611686018427387904) : 0 ≤ Go.bits .xor .i64 x y := by
  have hw : ∀ n : Nat, n < 4611686018427387904 → 0 ≤ IntKind.wrap .i64 (n : Int) := by
    intro n hn
    have e : IntKind.wrap .i64 (n : Int) = wrap64 (n : Int) := i64_w _
    rw [e, w64 (by omega) (by omega)]
    omega
  unfold Go.bits
  refine hw _ ?_
  show ((BitVec.ofInt 64 x) ^^^ (BitVec.ofInt 64 y)).toNat < 4611686018427387904
  rw [BitVec.toNat_xor]
  have h1 : (BitVec.ofInt 64 x).toNat < 2 ^ 62 := by
    rw [BitVec.toNat_ofInt]
    omega
  have h2 : (BitVec.ofInt 64 y).toNat < 2 ^ 62 := by
    rw [BitVec.toNat_ofInt]
    omega
  exact Nat.xor_lt_two_pow h1 h2

theorem tmod_in {x n : Int} (hx : 0 ≤ x) (hn : 1 ≤ n) : 0 ≤ Int.tmod x n ∧ Int.tmod x n < n := ⟨Int.tmod_nonneg _ hx, Int.tmod_lt_of_pos _ (by omega)⟩

theorem ev_pick (s : List Int) (hs : gBy s) (p n : Int) (hp : 0 ≤ p) (hp2 : p ≤ 100000000) (hn : 1 ≤ n) (hn2 : n ≤ 1000000) : EvP (fun k => spec_l6Rd_pick.f k s p n) (fun r => 0 ≤ r.1 ∧ r.1 < n ∧ r.2 = p + 1) := by
  unfold spec_l6Rd_pick.f
  have w1 : wrap64 (p + 1) = p + 1 := w64 (by omega) (by omega)
  rw [w1]
  refine EvP.neg (by omega) (EvP.succ ?_)
  simp only [spec_l6Rd_pick.j0]
  have w2 : wrap64 (p + 1 - 1) = p := by rw [w64 (by omega) (by omega)]; omega
  rw [w2]
  refine EvP.ite (fun h => EvP.ret _ ⟨by omega, by show (0 : Int) < n; omega, rfl⟩) (fun h => ?_)
  have hl : (s.length : Int) ≠ 0 := by simpa using h
  have hl1 : 1 ≤ (s.length : Int) := by omega
  have hl2 : (s.length : Int) ≤ 2000 := by have := hs.1; omega
  refine EvP.ite (fun h1 => EvP.pos hp (EvP.neg (by omega) (EvP.ret _ ?_))) (fun h1 => ?_)
  · obtain ⟨h2, h3⟩ := rd_by hs p
    rw [w64 (n := rd s p) (by omega) (by omega)]
    exact ⟨(tmod_in h2 hn).1, (tmod_in h2 hn).2, rfl⟩
  · have w3 : wrap64 (p * 7) = p * 7 := w64 (by omega) (by omega)
    have w4 : wrap64 (p * 7 + 3) = p * 7 + 3 := w64 (by omega) (by omega)
    simp only [w3, w4]
    refine EvP.neg hl (EvP.pos (tmod_in hp hl1).1 (EvP.pos (tmod_in hp hl1).2 (EvP.pos (tmod_in (by omega) hl1).1 (EvP.pos (tmod_in (by omega) hl1).2 (EvP.neg (by omega) (EvP.ret _ ?_))))))
    refine ⟨?_, ?_, rfl⟩
    all_goals
      obtain ⟨a0, a1⟩ := rd_by hs (Int.tmod p (s.length : Int))
      obtain ⟨b0, b1⟩ := rd_by hs (Int.tmod (p * 7 + 3) (s.length : Int))
      generalize rd s (Int.tmod p (s.length : Int)) = a at a0 a1
      generalize rd s (Int.tmod (p * 7 + 3) (s.length : Int)) = b at b0 b1
      have q0 : 0 ≤ Int.tdiv p (s.length : Int) := Int.tdiv_nonneg hp (by omega)
      have q1 : Int.tdiv p (s.length : Int) ≤ p := Int.tdiv_le_self _ hp
      generalize Int.tdiv p (s.length : Int) = q at q0 q1
      have e1 : wrap64 a = a := w64 (by omega) (by omega)
      have e2 : wrap64 (a * 131) = a * 131 := w64 (by omega) (by omega)
      have e3 : wrap64 b = b := w64 (by omega) (by omega)
      have e4 : wrap64 (b * 1117) = b * 1117 := w64 (by omega) (by omega)
      have e5 : wrap64 (a * 131 + b * 1117) = a * 131 + b * 1117 := w64 (by omega) (by omega)
      have e6 : wrap64 (p * 29) = p * 29 := w64 (by omega) (by omega)
      have e7 : wrap64 (a * 131 + b * 1117 + p * 29) = a * 131 + b * 1117 + p * 29 := w64 (by omega) (by omega)
      have e8 : wrap64 q = q := w64 (by omega) (by omega)
      have e9 : wrap64 (q * 53) = q * 53 := w64 (by omega) (by omega)
      have e10 : wrap64 (a * 131 + b * 1117 + p * 29 + q * 53) = a * 131 + b * 1117 + p * 29 + q * 53 := w64 (by omega) (by omega)
      simp only [e1, e2, e3, e4, e5, e6, e7, e8, e9, e10]
      have x0 : 0 ≤ a * 131 + b * 1117 + p * 29 + q * 53 := by omega
      have x1 : a * 131 + b * 1117 + p * 29 + q * 53 ≤ 1000000000000 := by omega
      generalize a * 131 + b * 1117 + p * 29 + q * 53 = X at x0 x1
      have y0 : 0 ≤ Int.tdiv X 64 := Int.tdiv_nonneg x0 (by omega)
      have y1 : Int.tdiv X 64 ≤ X := Int.tdiv_le_self _ x0
      generalize Int.tdiv X 64 = Y at y0 y1
      have e11 : wrap64 Y = Y := w64 (by omega) (by omega)
      rw [e11]
      have z := xor_pos (x := X) (y := Y) x0 (by omega) y0 (by omega)
    · exact (tmod_in z hn).1
    · exact (tmod_in z hn).2

theorem ev_of (s : List Int) (hs : gBy s) (p : Int) (l : List ByteArray) (hp : 0 ≤ p) (hp2 : p ≤ 100000000) (hn : 1 ≤ l.length) (hn2 : l.length ≤ 1000000) : EvP (fun k => spec_l6Rd_of.f k s p l) (fun r => r.1 ∈ l ∧ r.2 = p + 1) := by
  unfold spec_l6Rd_of.f
  refine EvP.bind (ev_pick s hs p l.length hp hp2 (by omega) (by omega)) (fun r hr => ?_)
  refine EvP.pos hr.1 (EvP.pos hr.2.1 (EvP.ret _ ⟨?_, hr.2.2⟩))
  show l.getD r.1.toNat _ ∈ l
  have h : r.1.toNat < l.length := by omega
  rw [List.getD_eq_getElem?_getD, List.getElem?_eq_getElem h]
  exact List.getElem_mem h

theorem ev_num (s : List Int) (hs : gBy s) (p : Int) (l : List Int) (hp : 0 ≤ p) (hp2 : p ≤ 100000000) (hn : 1 ≤ l.length) (hn2 : l.length ≤ 1000000) : EvP (fun k => spec_l91Num.f k s p l) (fun r => r.1 ∈ l ∧ r.2 = p + 1) := by
  unfold spec_l91Num.f
  refine EvP.bind (ev_pick s hs p l.length hp hp2 (by omega) (by omega)) (fun r hr => ?_)
  refine EvP.pos hr.1 (EvP.pos hr.2.1 (EvP.ret _ ⟨?_, hr.2.2⟩))
  show l.getD r.1.toNat _ ∈ l
  have h : r.1.toNat < l.length := by omega
  rw [List.getD_eq_getElem?_getD, List.getElem?_eq_getElem h]
  exact List.getElem_mem h

theorem ev_dec (a : Int) (h0 : 0 ≤ a) (h1 : a < 10) : EvP (fun k => spec_l6Dec.f k a) (fun r => r.size = 1) := by
  refine EvP.succ ?_
  simp only [spec_l6Dec.f]
  exact EvP.neg (by omega) (EvP.neg (by omega) (EvP.pos h1 (EvP.ret _ rfl)))

/-- Kinds as they are drawn: few. -/
def gK (K : List (List S36)) : Prop := K.length ≤ 8 ∧ ∀ l ∈ K, l.length ≤ 4

theorem rd_gK {K : List (List S36)} (h : gK K) (i : Int) : (rd_L5 K i).length ≤ 4 := by
  unfold rd_L5
  rw [List.getD_eq_getElem?_getD]
  cases e : K[i.toNat]? with
  | none => simp
  | some v => simpa using h.2 v (List.mem_of_getElem? e)

theorem ev_type (s : List Int) (hs : gBy s) (p : Int) (K : List (List S36)) (hK : gK K) (refs : Bool) (hp : 0 ≤ p) (hp2 : p ≤ 90000000) : EvP (fun k => spec_l91Type.f k s p K refs) (fun r => p ≤ r.2 ∧ r.2 ≤ p + 6 ∧ r.1.size ≤ 4) := by
  have j1 : ∀ (t : ByteArray) (q : Int), p ≤ q → q ≤ p + 4 → t.size ≤ 3 → EvP (fun k => spec_l91Type.j1 k refs t s q) (fun r => p ≤ r.2 ∧ r.2 ≤ p + 6 ∧ r.1.size ≤ 4) := by
    intro t q h1 h2 h3
    refine EvP.succ ?_
    simp only [spec_l91Type.j1]
    refine EvP.ite (fun _ => ?_) (fun _ => EvP.ret _ ⟨by show p ≤ q; omega, by show q ≤ p + 6; omega, by show t.size ≤ 4; omega⟩)
    refine EvP.bind (ev_pick s hs q 4 (by omega) (by omega) (by omega) (by omega)) (fun r hr => ?_)
    refine EvP.ite (fun _ => ?_) (fun _ => EvP.ret _ ⟨by show p ≤ r.2; omega, by show r.2 ≤ p + 6; omega, by show t.size ≤ 4; omega⟩)
    refine EvP.bind (ev_of s hs r.2 _ (by omega) (by omega) (by simp) (by simp)) (fun u hu => ?_)
    have hsz : u.1.size = 1 := by
      have := hu.1
      simp only [List.mem_cons, List.not_mem_nil, or_false] at this
      rcases this with e | e <;> (rw [e]; rfl)
    refine EvP.pos (by omega) (EvP.ret _ ⟨by show p ≤ u.2; omega, by show u.2 ≤ p + 6; omega, ?_⟩)
    show (u.1 ++ t).size ≤ 4
    rw [ByteArray.size_append]
    omega
  have j0 : ∀ (t : ByteArray) (q : Int) (b : Bool), (b = true → 0 < K.length) → p ≤ q → q ≤ p + 2 → t.size ≤ 3 → EvP (fun k => spec_l91Type.j0 k K refs t b s q) (fun r => p ≤ r.2 ∧ r.2 ≤ p + 6 ∧ r.1.size ≤ 4) := by
    intro t q b hb h1 h2 h3
    refine EvP.succ ?_
    simp only [spec_l91Type.j0]
    refine EvP.ite (fun h => ?_) (fun _ => j1 t q h1 (by omega) h3)
    have hK0 := hb h
    have hK1 := hK.1
    refine EvP.bind (ev_pick s hs q K.length (by omega) (by omega) (by omega) (by omega)) (fun r hr => ?_)
    refine EvP.pos hr.1 (EvP.pos hr.2.1 (EvP.ite (fun h4 => ?_) (fun _ => j1 t r.2 (by omega) (by omega) h3)))
    have hI := rd_gK hK r.1
    refine EvP.bind (ev_dec r.1 hr.1 (by omega)) (fun d hd => EvP.pos (by omega) ?_)
    refine EvP.bind (ev_pick s hs r.2 _ (by omega) (by omega) (by omega) (by omega)) (fun u hu => ?_)
    refine EvP.bind (ev_dec u.1 hu.1 (by omega)) (fun d2 hd2 => ?_)
    have e1 : ((⟨#[83]⟩ : ByteArray) ++ d).size = 2 := by rw [ByteArray.size_append, hd]; rfl
    refine EvP.pos (by omega) (j1 _ u.2 (by omega) (by omega) ?_)
    rw [ByteArray.size_append, e1, hd2]
    omega
  unfold spec_l91Type.f
  refine EvP.bind (ev_of s hs p _ hp (by omega) (by simp) (by simp)) (fun t ht => ?_)
  have hsz : t.1.size = 1 := by
    have := ht.1
    simp only [List.mem_cons, List.not_mem_nil, or_false] at this
    rcases this with e | e | e | e <;> (rw [e]; rfl)
  refine EvP.bind (ev_pick s hs t.2 2 (by omega) (by omega) (by omega) (by omega)) (fun r hr => ?_)
  refine EvP.ite (fun _ => j0 _ _ _ (fun h => ?_) (by omega) (by omega) (by omega)) (fun _ => j0 _ _ _ (fun h => by cases h) (by omega) (by omega) (by omega))
  have := of_decide_eq_true h
  omega

theorem ev_record (s : List Int) (hs : gBy s) (p : Int) (K : List (List S36)) (hK : gK K) (hp : 0 ≤ p) (hp2 : p ≤ 80000000) : EvP (fun k => spec_l91Record.f k s p K) (fun r => p ≤ r.2.2 ∧ r.2.2 ≤ p + 30 ∧ r.2.1.length ≤ 4) := by
  have j1 : ∀ (a : Int) (fs : List ByteArray) (q : Int), p ≤ q → q ≤ p + 28 → fs.length ≤ 3 → EvP (fun k => spec_l91Record.j1 k s q a fs) (fun r => p ≤ r.2.2 ∧ r.2.2 ≤ p + 30 ∧ r.2.1.length ≤ 4) := by
    intro a fs q h1 h2 h3
    refine EvP.succ ?_
    simp only [spec_l91Record.j1]
    refine EvP.bind (ev_pick s hs q 15 (by omega) (by omega) (by omega) (by omega)) (fun r hr => ?_)
    refine EvP.ite (fun _ => ?_) (fun _ => EvP.ret _ ⟨by show p ≤ r.2; omega, by show r.2 ≤ p + 30; omega, by show fs.length ≤ 4; omega⟩)
    refine EvP.bind (ev_of s hs r.2 _ (by omega) (by omega) (by simp) (by simp)) (fun u hu => ?_)
    refine EvP.pos (by omega) (EvP.ret _ ⟨by show p ≤ u.2; omega, by show u.2 ≤ p + 30; omega, ?_⟩)
    show (fs ++ [u.1]).length ≤ 4
    rw [List.length_append]
    simp
    omega
  have lp : ∀ (n : Nat) (fs : List ByteArray) (q a : Int), n + fs.length ≤ 3 → p ≤ q → q + 6 * n ≤ p + 26 → EvP (fun k => spec_l91Record.l0 k K (n : Int) s q a fs) (fun r => p ≤ r.2.2 ∧ r.2.2 ≤ p + 30 ∧ r.2.1.length ≤ 4) := by
    intro n
    induction n with
    | zero =>
      intro fs q a h1 h2 h3
      refine EvP.succ ?_
      simp only [spec_l91Record.l0]
      refine EvP.neg (by omega) ?_
      refine EvP.bind (ev_pick s hs q 12 (by omega) (by omega) (by omega) (by omega)) (fun r hr => ?_)
      refine EvP.ite (fun _ => ?_) (fun _ => j1 a fs r.2 (by omega) (by omega) (by omega))
      refine EvP.bind (ev_num s hs r.2 _ (by omega) (by omega) (by simp) (by simp)) (fun u hu => ?_)
      exact j1 u.1 fs u.2 (by omega) (by omega) (by omega)
    | succ n ih =>
      intro fs q a h1 h2 h3
      refine EvP.succ ?_
      simp only [spec_l91Record.l0]
      refine EvP.pos (by omega) ?_
      refine EvP.bind (ev_type s hs q K hK false (by omega) (by omega)) (fun r hr => ?_)
      refine EvP.pos (by omega) ?_
      have e : wrap64 (((n + 1 : Nat) : Int) - 1) = (n : Int) := by rw [w64 (by omega) (by omega)]; omega
      rw [e]
      exact ih (fs ++ [r.1]) r.2 a (by rw [List.length_append]; simp; omega) (by omega) (by omega)
  unfold spec_l91Record.f
  refine EvP.bind (ev_num s hs p _ (by omega) (by omega) (by simp) (by simp)) (fun u hu => ?_)
  refine EvP.bind (ev_pick s hs u.2 4 (by omega) (by omega) (by omega) (by omega)) (fun r hr => ?_)
  have e : r.1 = ((r.1.toNat : Nat) : Int) := by omega
  rw [e]
  exact lp r.1.toNat [] r.2 u.1 (by simp; omega) (by omega) (by omega)

/-- A law's code, as its reading grants it. -/
def gCode (l : List Int) : Prop := ∀ x ∈ l, 0 ≤ x ∧ x ≤ 255

theorem gCode_wf {l : List Int} (h : ∀ x ∈ l, (Lit.int .u8 x).wf = true) : gCode l := by
  intro x hx
  have := h x hx
  simp [Lit.wf] at this
  have h1 : IntKind.u8.min = 0 := by decide
  have h2 : IntKind.u8.max = 255 := by decide
  omega

theorem eq_open (l : List Int) (h : gCode l) : ∃ s, spec_l6Open.f l = some (s, 0) ∧ gBy s := by
  unfold spec_l6Open.f
  by_cases hc : (l.length : Int) > 2000
  · rw [if_pos hc, if_pos (by omega)]
    exact ⟨_, rfl, by simp; omega, fun x hx => h x (List.mem_of_mem_take hx)⟩
  · rw [if_neg hc]
    exact ⟨l, rfl, by omega, h⟩

theorem ev_kinds3 (s : List Int) (hs : gBy s) (p : Int) (hp : 0 ≤ p) (hp2 : p ≤ 50000000) : EvP (fun k => spec_l91Kinds.f k s p) (fun r => (r.1.length ≤ 3 ∧ gK r.1) ∧ p ≤ r.2 ∧ r.2 ≤ p + 3001) := by
  have outer : ∀ (m : Nat) (out : List (List S36)) (q : Int), out.length + m ≤ 3 → (∀ l ∈ out, l.length ≤ 3) → 0 ≤ q → q + 1000 * m ≤ 60000000 → EvP (fun k => spec_l91Kinds.l0 k out (m : Int) s q) (fun r => (r.1.length ≤ 3 ∧ gK r.1) ∧ q ≤ r.2 ∧ r.2 ≤ q + 1000 * m) := by
    intro m
    induction m with
    | zero =>
      intro out q h1 h2 h3 h4
      refine EvP.succ ?_
      simp only [spec_l91Kinds.l0]
      exact EvP.neg (by omega) (EvP.ret _ ⟨⟨by show out.length ≤ 3; omega, ⟨by show out.length ≤ 8; omega, fun l hl => by have := h2 l hl; omega⟩⟩, by show q ≤ q; omega, by show q ≤ q + 1000 * ((0 : Nat) : Int); omega⟩)
    | succ m ih =>
      intro out q0 h1 h2 h3 h4
      have inner : ∀ (n : Nat) (list : List S36) (q : Int), list.length + n ≤ 3 → q0 ≤ q → q + 100 * n ≤ q0 + 900 → EvP (fun k => spec_l91Kinds.l1 k out ((m + 1 : Nat) : Int) list (n : Int) s q) (fun r => (r.1.length ≤ 3 ∧ gK r.1) ∧ q0 ≤ r.2 ∧ r.2 ≤ q0 + 1000 * ((m + 1 : Nat) : Int)) := by
        intro n
        induction n with
        | zero =>
          intro list q i1 i2 i3
          refine EvP.succ ?_
          simp only [spec_l91Kinds.l1, Option.bind_some]
          refine EvP.neg (by omega) (EvP.pos (by simp; omega) ?_)
          have e : wrap64 (((m + 1 : Nat) : Int) - 1) = (m : Int) := by rw [w64 (by omega) (by omega)]; omega
          rw [e]
          refine (ih (out ++ [list]) q (by rw [List.length_append]; simp; omega) (fun l hl => ?_) (by omega) (by omega)).mono (fun r hr => ⟨hr.1, by omega, by omega⟩)
          rcases List.mem_append.1 hl with h | h
          · exact h2 l h
          · rw [List.mem_singleton.1 h]
            omega
        | succ n ihn =>
          intro list q i1 i2 i3
          have e : wrap64 (((n + 1 : Nat) : Int) - 1) = (n : Int) := by rw [w64 (by omega) (by omega)]; omega
          have gk : ∀ l : List S36, l.length ≤ 3 → gK (out ++ [l]) := by
            intro l hl
            refine ⟨by rw [List.length_append]; simp; omega, fun y hy => ?_⟩
            rcases List.mem_append.1 hy with h | h
            · have := h2 y h
              omega
            · rw [List.mem_singleton.1 h]
              omega
          refine EvP.succ ?_
          simp only [spec_l91Kinds.l1, Option.bind_some, List.nil_append]
          refine EvP.pos (by omega) (EvP.pos (by simp; omega) (EvP.pos (by simp; omega) ?_))
          refine EvP.bind (ev_record s hs q (out ++ [list]) (gk list (by omega)) (by omega) (by omega)) (fun x hx => ?_)
          refine EvP.pos (by simp; omega) (EvP.pos (by simp; omega) ?_)
          refine EvP.succ ?_
          simp only [spec_l91Kinds.j2, Option.bind_some, List.nil_append]
          refine EvP.pos (by simp; omega) (EvP.pos (by simp; omega) ?_)
          refine EvP.bind (ev_spec_KindsOk _) (fun t ht => ?_)
          rw [e]
          have hl : (list ++ [(⟨x.1, x.2.1⟩ : S36)]).length + n ≤ 3 := by rw [List.length_append]; simp; omega
          refine EvP.ite (fun _ => ihn _ x.2.2 hl (by omega) (by omega)) (fun _ => ?_)
          refine EvP.bind (ev_pick s hs x.2.2 12 (by omega) (by omega) (by omega) (by omega)) (fun r hr => ?_)
          exact EvP.ite (fun _ => ihn _ r.2 hl (by omega) (by omega)) (fun _ => ihn list r.2 (by omega) (by omega) (by omega))
      refine EvP.succ ?_
      simp only [spec_l91Kinds.l0]
      refine EvP.pos (by omega) ?_
      refine EvP.bind (ev_pick s hs q0 4 (by omega) (by omega) (by omega) (by omega)) (fun r hr => ?_)
      have e : r.1 = ((r.1.toNat : Nat) : Int) := by omega
      rw [e]
      exact inner r.1.toNat [] r.2 (by simp; omega) (by omega) (by omega)
  unfold spec_l91Kinds.f
  refine EvP.bind (ev_pick s hs p 4 hp (by omega) (by omega) (by omega)) (fun r hr => ?_)
  have e : r.1 = ((r.1.toNat : Nat) : Int) := by omega
  rw [e]
  exact (outer r.1.toNat [] r.2 (by simp; omega) (by simp) (by omega) (by omega)).mono (fun u hu => ⟨hu.1, by omega, by omega⟩)

-- ev_impl_KindsBad ev_spec_KindsBad ev_impl_KindsOk ev_kinds3 ev_record ev_pick eq_open kBad_neg gCode_wf
theorem kbFrom_two (K : Kinds) : ∀ d m, (kbFrom K d m).1 = -1 → (kbFrom K d m).2 = -1 := by
  intro d
  induction d with
  | zero => exact fun m _ => rfl
  | succ d ih =>
    intro m
    unfold kbFrom
    split
    · intro h
      exact absurd h (by show ¬ (m : Int) = -1; omega)
    · split
      · intro h
        exact absurd h (by show ¬ (m : Int) = -1; omega)
      · exact ih (m + 1)
theorem FnKindsBad (K : Kinds) : ∃ a b : Int, (∃ k, impl_KindsBad.f k K = some (a, b)) ∧ (∃ k, spec_KindsBad.f k K = some (a, b)) ∧ (∃ k, impl_KindsOk.f k K = some (a == -1)) ∧ (0 ≤ a ∨ a = -1 ∧ b = -1) := by
  obtain ⟨n1, h1⟩ := (ev_impl_KindsBad K).eq
  obtain ⟨n2, h2⟩ := (ev_spec_KindsBad K).eq
  obtain ⟨n3, h3⟩ := (ev_impl_KindsOk K).eq
  refine ⟨(kBad K).1, (kBad K).2, ⟨n1, h1 n1 (Nat.le_refl _)⟩, ⟨n2, h2 n2 (Nat.le_refl _)⟩, ⟨n3, h3 n3 (Nat.le_refl _)⟩, ?_⟩
  rcases kBad_neg K with h | h
  · refine .inr ⟨h, ?_⟩
    unfold kBad at h ⊢
    split at h
    · exact absurd h (by decide)
    · rw [if_neg (by assumption)]
      exact kbFrom_two K _ _ h
  · exact .inl h
theorem kb_draw (l : List Int) (hw : ∀ x ∈ l, (Lit.int .u8 x).wf = true) : ∃ (k : Nat) (s : List Int) (K K1 : Kinds) (p1 x p2 y p3 : Int), spec_l6Open.f l = some (s, 0) ∧ spec_l91Kinds.f k s 0 = some (K, p1) ∧ spec_l6Rd_pick.f k s p1 15 = some (x, p2) ∧ K1 = (if x = 0 then K ++ [[], [], [], []] else K) ∧ K.length ≤ 3 ∧ spec_l6Rd_pick.f k s p2 10 = some (y, p3) ∧ (∀ l ∈ K1, l.length ≤ 1000) ∧ ∃ a1 f1 p4 a2 f2 p5, spec_l91Record.f k s p3 K1 = some (a1, f1, p4) ∧ spec_l91Record.f k s p4 K1 = some (a2, f2, p5) := by
  obtain ⟨s, ho, hs⟩ := eq_open l (gCode_wf hw)
  obtain ⟨⟨K, p1⟩, ⟨n1, e1⟩, ⟨hl, hg⟩, q1, q2⟩ := ev_kinds3 s hs 0 (by omega) (by omega)
  replace hl : K.length ≤ 3 := hl
  obtain ⟨⟨x, p2⟩, ⟨n2, e2⟩, x1, x2, x3⟩ := ev_pick s hs p1 15 q1 (by omega) (by omega) (by omega)
  obtain ⟨⟨y, p3⟩, ⟨n3, e3⟩, y1, y2, y3⟩ := ev_pick s hs p2 10 (by omega) (by omega) (by omega) (by omega)
  have hg1 : gK (if x = 0 then K ++ [[], [], [], []] else K) := by
    split
    · refine ⟨by rw [List.length_append]; simp; omega, fun l hl => ?_⟩
      rcases List.mem_append.1 hl with h | h
      · exact hg.2 l h
      · simp at h
        rw [h]
        simp
    · exact hg
  obtain ⟨⟨a1, f1, p4⟩, ⟨n4, e4⟩, r1, r2, _⟩ := ev_record s hs p3 _ hg1 (by omega) (by omega)
  replace r1 : p3 ≤ p4 := r1
  replace r2 : p4 ≤ p3 + 30 := r2
  obtain ⟨⟨a2, f2, p5⟩, ⟨n5, e5⟩, _, _, _⟩ := ev_record s hs p4 _ hg1 (by omega) (by omega)
  exact ⟨n1 + n2 + n3 + n4 + n5, s, K, _, p1, x, p2, y, p3, ho, e1 _ (by omega), e2 _ (by omega), rfl, hl, e3 _ (by omega), fun l hl => Nat.le_trans (hg1.2 l hl) (by omega), a1, f1, p4, a2, f2, p5, e4 _ (by omega), e5 _ (by omega)⟩


end Go.Proofs.Ytlombhokgjfekaa.Pure
