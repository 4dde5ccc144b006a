-- Laid by a program of this session (wip/myprint.py): the kit's print of the functions, contracts of our own among them.
import Derived.Test.YtfkhjnmgaadomaaDoorOFnInsReadx0
namespace Go.Proofs.YtfkhjnmgaadomaaDoor.OFnInsRead
open Go.RowKit Go.Proofs.YtfkhjnmgaadomaaDoorW.PrintWords Go.Proofs.YtfkhjnmgaadomaaDoorW.PrintLast Go.Proofs.YtfkhjnmgaadomaaDoorW.PrintMore
attribute [local go_sem] max2_int min2_int max_two min_two max_three min_three max_four min_four   -- for this text's walks alone
set_option linter.unusedVariables false
set_option linter.unusedSimpArgs false

/-! ### strings_Fields: function 51 -/
theorem tabIs_below {P : Program} {w W : World} {name : String} {k : IntKind} {zs : List Int} (h : Lib.TabIs P w name k zs) (hb : Below w.heap.size w W) : Lib.TabIs P W name k zs := by
  unfold Lib.TabIs World.var? at h ⊢
  cases hg : P.globalNamed name with
  | none => rw [hg] at h; cases h
  | some g =>
    rw [hg] at h
    simp only [Option.bind_some] at h ⊢
    have hlt : g < w.heap.size := by
      rcases Nat.lt_or_ge g w.heap.size with h' | h'
      · exact h'
      · rw [Array.getElem?_eq_none h'] at h; cases h
    rw [hb.block g hlt]
    exact h
/-- What stands in the world ahead of the call, and is asked by what it comes to in the library. -/
structure Tab (w : World) : Prop where
  f1 : Lib.TabIs Tryd.prog w "strings.asciiSpace" .u8 Lib.asciiSpaceTab
  f2 : Lib.TabIs Tryd.prog w "internal/strconv.uint64pow10" .u64 Lib.pow10Tab
  f3 : ∃ m : Int, w.cell? ⟨2, 0, none⟩ = some (.int .i64 m)
theorem Tab.below {w W : World} (h : Tab w) (hb : Below w.heap.size w W) : Tab W := ⟨tabIs_below h.f1 hb, tabIs_below h.f2 hb, h.f3.elim fun m hm => ⟨m, (hb.cell (World.block_lt_of_cell? w _ hm)).trans hm⟩⟩

def asciiB (s : ByteArray) : Bool := s.data.toList.all fun b => decide (b.toNat < 128)
def strings_Fields.f (s : ByteArray) : Option (List ByteArray) := if s.size < 1000000 ∧ asciiB s = true ∧ (Lib.fields s.data.toList).length ≤ 1000000 then some ((Lib.fields s.data.toList).map fun l => ⟨l.toArray⟩) else none
theorem strings_Fields.calls (a0 : ByteArray) (r : List ByteArray) (w : World) (hT_ : Tab w) (h : strings_Fields.f a0 = some r) :
    Calls Tryd.prog 51 #[.string a0] w fun e w' => ∃ v0_ : Value, e = .returned (v0_) ∧ Kd.R Kd.string 9 w' w.heap.size (fun _ => True) v0_ r ∧ Below w.heap.size w w' := by
  unfold strings_Fields.f at h
  split at h
  · rename_i hc
    obtain rfl := Option.some.inj h
    have ha : ∀ (j : Nat) b, a0.data.toList[j]? = some b → b.toNat < 128 := by
      intro j b hb
      have h2 := List.all_eq_true.1 hc.2.1 b (List.mem_of_getElem? hb)
      exact of_decide_eq_true h2
    refine (Tryd.strings_Fields_laid a0 w (by omega) ha hT_.f1).mono ?_
    rintro e w' ⟨rfl, rfl⟩
    refine ⟨_, rfl, Kd.R_of_own ?_ (fun _ _ => trivial), below_alloc (Below.refl _ _) _⟩
    have hl := hc.2.2
    refine ⟨by simp [encs_length], .inr ⟨w.heap.size, _, _, by rw [List.length_map], Nat.le_refl _, heap_alloc_new w _, Nat.le_refl _, ?_, ?_, ?_⟩⟩
    · have hm : (1000000 : Nat) ≤ maxLen := by decide
      exact Nat.le_trans (by simpa using hl) hm
    · simp
    · rw [List.take_of_length_le (by simp)]
      simp [encs]
  · cases h

/-! ### impl_insForms: function 34 -/
mutual
def impl_insForms.l0 : Nat → List (S46) → List ByteArray → Int → Int → Option ((List (S46)))
 | 0,_,_,_,_ => none
 | k + 1,x1,x8,x9,x10 => if x10 < x9 then (if 0 ≤ x10 then (if x10 < (x8.length : Int) then (if x1.length < 4398046511104 then (impl_insForms.l0 k (x1 ++ [(⟨rdOf ByteArray.empty x8 x10,0,0⟩ : S46)]) x8 x9 (wrap64 (x10 + 1))) else (none)) else (none)) else (none)) else ((some (([(⟨(⟨#[99,111,112,121]⟩ : ByteArray),6,0⟩ : S46),(⟨(⟨#[109,111,118,101]⟩ : ByteArray),6,0⟩ : S46),(⟨(⟨#[112,117,116]⟩ : ByteArray),6,0⟩ : S46),(⟨(⟨#[100,114,111,112]⟩ : ByteArray),0,0⟩ : S46)] : List (S46)) : List (S46))).bind fun y111 => (if x1.length + y111.length < 4398046511104 then ((some (x1 ++ y111 : List (S46))).bind fun y114 => ((some (([(⟨(⟨#[112,97,99,107]⟩ : ByteArray),3,0⟩ : S46),(⟨(⟨#[117,110,112,97,99,107]⟩ : ByteArray),3,0⟩ : S46),(⟨(⟨#[108,101,110,100]⟩ : ByteArray),6,0⟩ : S46),(⟨(⟨#[108,101,110,100,119]⟩ : ByteArray),6,0⟩ : S46),(⟨(⟨#[102,105,101,108,100]⟩ : ByteArray),3,3⟩ : S46)] : List (S46)) : List (S46))).bind fun y117 => (if y114.length + y117.length < 4398046511104 then ((some (y114 ++ y117 : List (S46))).bind fun y120 => ((some (([(⟨(⟨#[114,101,97,100]⟩ : ByteArray),0,0⟩ : S46),(⟨(⟨#[112,101,101,107]⟩ : ByteArray),0,0⟩ : S46),(⟨(⟨#[119,114,105,116,101]⟩ : ByteArray),0,0⟩ : S46),(⟨(⟨#[102,114,101,101,122,101]⟩ : ByteArray),0,0⟩ : S46)] : List (S46)) : List (S46))).bind fun y123 => (if y120.length + y123.length < 4398046511104 then ((strings_Fields.f (⟨#[107,101,101,112,32,116,97,107,101,32,104,97,115,32,115,101,101,32,115,101,101,119]⟩ : ByteArray)).bind fun t129 => (impl_insForms.l1 k (y120 ++ y123) t129 (t129.length : Int) 0)) else (none)))) else (none)))) else (none)))
def impl_insForms.l1 : Nat → List (S46) → List ByteArray → Int → Int → Option ((List (S46)))
 | 0,_,_,_,_ => none
 | k + 1,x1,x42,x43,x44 => if x44 < x43 then (if 0 ≤ x44 then (if x44 < (x42.length : Int) then (if x1.length < 4398046511104 then (impl_insForms.l1 k (x1 ++ [(⟨rdOf ByteArray.empty x42 x44,3,0⟩ : S46)]) x42 x43 (wrap64 (x44 + 1))) else (none)) else (none)) else (none)) else ((some (([(⟨(⟨#[106,117,109,112]⟩ : ByteArray),40,0⟩ : S46),(⟨(⟨#[122,101,114,111]⟩ : ByteArray),40,0⟩ : S46),(⟨(⟨#[99,97,108,108]⟩ : ByteArray),3,4⟩ : S46),(⟨(⟨#[114,101,116]⟩ : ByteArray),0,0⟩ : S46),(⟨(⟨#[102,97,105,108]⟩ : ByteArray),0,0⟩ : S46)] : List (S46)) : List (S46))).bind fun y136 => (if x1.length + y136.length < 4398046511104 then (some (x1 ++ y136)) else (none)))
end
def impl_insForms.f (k : Nat)  : Option ((List (S46))):=(strings_Fields.f (⟨#[116,114,117,101,32,102,97,108,115,101,32,109,101,32,97,100,100,32,115,117,98,32,109,117,108,32,100,105,118,32,109,111,100,32,108,101,115,115,32,115,97,109,101,32,97,110,100,32,111,114,32,110,111,116]⟩ : ByteArray)).bind fun t104 => (impl_insForms.l0 k (([(⟨(⟨#[110,117,109]⟩ : ByteArray),1000001,0⟩ : S46)] : List (S46))) t104 (t104.length : Int) 0)
theorem impl_insForms.mono_l : ∀ k,(∀ y0 y1 y2 y3,LeO (impl_insForms.l0 k y0 y1 y2 y3) (impl_insForms.l0 (k + 1) y0 y1 y2 y3)) ∧ (∀ y0 y1 y2 y3,LeO (impl_insForms.l1 k y0 y1 y2 y3) (impl_insForms.l1 (k + 1) y0 y1 y2 y3))
 | 0 => ⟨fun _ _ _ _ r h => by simp [impl_insForms.l0] at h,fun _ _ _ _ r h => by simp [impl_insForms.l1] at h⟩
 | k + 1 => by
  obtain ⟨ih0,ih1⟩:=impl_insForms.mono_l k
  refine ⟨?_,?_⟩
  ·intro y0 y1 y2 y3
   unfold impl_insForms.l0
   repeat' first
   | (with_reducible exact ih0 _ _ _ _)
   | (with_reducible exact ih1 _ _ _ _)
   | (with_reducible exact LeO.refl _)
   | (with_reducible exact LeO.none _)
   | (with_reducible refine LeO.ite ?_ ?_)
   | (with_reducible refine LeO.bind ?_ (fun _ => ?_))
   | exact ih0 _ _ _ _
   | exact ih1 _ _ _ _
   | exact LeO.none _
   | refine LeO.ite ?_ ?_
   | refine LeO.bind ?_ (fun _ => ?_)
  ·intro y0 y1 y2 y3
   unfold impl_insForms.l1
   repeat' first
   | (with_reducible exact ih0 _ _ _ _)
   | (with_reducible exact ih1 _ _ _ _)
   | (with_reducible exact LeO.refl _)
   | (with_reducible exact LeO.none _)
   | (with_reducible refine LeO.ite ?_ ?_)
   | (with_reducible refine LeO.bind ?_ (fun _ => ?_))
   | exact ih0 _ _ _ _
   | exact ih1 _ _ _ _
   | exact LeO.none _
   | refine LeO.ite ?_ ?_
   | refine LeO.bind ?_ (fun _ => ?_)
theorem impl_insForms.mono : ∀ k,LeO (impl_insForms.f k ) (impl_insForms.f (k + 1) ):=by
 intro  k
 obtain ⟨ih0,ih1⟩:=impl_insForms.mono_l k
 unfold impl_insForms.f
 repeat' first
   | (with_reducible exact ih0 _ _ _ _)
   | (with_reducible exact ih1 _ _ _ _)
   | (with_reducible exact LeO.refl _)
   | (with_reducible exact LeO.none _)
   | (with_reducible refine LeO.ite ?_ ?_)
   | (with_reducible refine LeO.bind ?_ (fun _ => ?_))
   | exact ih0 _ _ _ _
   | exact ih1 _ _ _ _
   | exact LeO.none _
   | refine LeO.ite ?_ ?_
   | refine LeO.bind ?_ (fun _ => ?_)
set_option maxHeartbeats 8000000 in
set_option maxRecDepth 100000 in
theorem impl_insForms.calls (k : Nat)  (r : List (S46)) (w : World) (hT_ : Tab w) (h : impl_insForms.f k  = some r) :
  Calls Tryd.prog 34 #[] w fun e w' => ∃ v0_ : Value,e = .returned (v0_) ∧ Kd.R k46 46 w' w.heap.size (fun _ => True) v0_ r ∧ Below w.heap.size w w':=by
 have hu46:=Tryd.underlying46
 have HB:=Aside0.mk (Below.refl w.heap.size w)
 have H : ((strings_Fields.f (⟨#[116,114,117,101,32,102,97,108,115,101,32,109,101,32,97,100,100,32,115,117,98,32,109,117,108,32,100,105,118,32,109,111,100,32,108,101,115,115,32,115,97,109,101,32,97,110,100,32,111,114,32,110,111,116]⟩ : ByteArray)).bind fun t104 => (impl_insForms.l0 k (([(⟨(⟨#[110,117,109]⟩ : ByteArray),1000001,0⟩ : S46)] : List (S46))) t104 (t104.length : Int) 0)) = some r:=h
 clear h
 obtain ⟨y101,hy101⟩ : ∃ y_ : List (S46),y_ = (([(⟨(⟨#[110,117,109]⟩ : ByteArray),1000001,0⟩ : S46)] : List (S46))):=⟨_,rfl⟩
 replace H : ((strings_Fields.f (⟨#[116,114,117,101,32,102,97,108,115,101,32,109,101,32,97,100,100,32,115,117,98,32,109,117,108,32,100,105,118,32,109,111,100,32,108,101,115,115,32,115,97,109,101,32,97,110,100,32,111,114,32,110,111,116]⟩ : ByteArray)).bind fun t104 => (impl_insForms.l0 k y101 t104 (t104.length : Int) 0)) = some r:=by first | (rw [hy101];with_reducible exact H) | (have H2_:=(Option.bind_some _ _).symm.trans H;rw [hy101];with_reducible exact H2_) | (have H2_:=(Option.bind_some _ _).symm.trans H;with_reducible exact H2_) | with_reducible exact H | (rw [hy101];exact H) | exact H
 have Ny101:=Aside0.mk hy101
 clear hy101
 replace H:=Option.bind_eq_some_iff.mp H
 obtain ⟨t104,A10,H⟩:=H
 replace H : (impl_insForms.l0 k y101 t104 (t104.length : Int) 0) = some r:=H
 have A1:=Aside0.mk A10
 clear A10
 have H':=Aside0.mk H
 clear H
 go_enter Tryd.func34,Tryd.ntmps34
 go_wp2_with (first | ((with_reducible refine gate_dst (N:=7) rfl ?_);refine Kd.R_lit k46 _ 46 ?hg (N:=7) ?hd (xs:=([(⟨(⟨#[110,117,109]⟩ : ByteArray),1000001,0⟩ : S46)] : List (S46))) (inner:=[.string (⟨#[110,117,109]⟩ : ByteArray),.int .i64 1000001,.int .i64 0]) (ok:=fun _ => True) (okp:=fun _ => True) ?hr ?hp (fun _ hk => hk) trivial (Below.refl _ _) (Nat.le_refl _) (by simp) ?_;(case hd => rfl);(case hg => rfl);(case hr => first | (go_simp;done) | (go_simp;rfl));(case hp => exact (Reps.c3 (show Kd.M k46 _ _ _ (⟨(⟨#[110,117,109]⟩ : ByteArray),1000001,0⟩ : S46) [.string (⟨#[110,117,109]⟩ : ByteArray),.int .i64 1000001,.int .i64 0] from (k46_mkM _ _ _ (⟨(⟨#[110,117,109]⟩ : ByteArray),1000001,0⟩ : S46) )) (Reps.none _ _)));intro v102 w2 ho3 hb hg_ hnew_;clear hg_ hnew_;(first | rw [← Ny101.out] at ho3 | (simp only [Int.reduceToNat] at ho3;rw [← Ny101.out] at ho3));have n0_:=Aside0.mk (Kd.R_lower ho3 (below_size (Up.Bup HB)));have n1_:=Up.BB HB hb;clear HB;have HO103:=n0_;have HB:=n1_;clear n0_ n1_ hb ho3) | ((with_reducible refine gate_callee (f:=51) rfl ?_);refine Up.gl (some 8) Tryd.func51 #[.string (⟨#[116,114,117,101,32,102,97,108,115,101,32,109,101,32,97,100,100,32,115,117,98,32,109,117,108,32,100,105,118,32,109,111,100,32,108,101,115,115,32,115,97,109,101,32,97,110,100,32,111,114,32,110,111,116]⟩ : ByteArray)] ?_;(with_reducible refine (strings_Fields.calls (hT_:=?tab1) (⟨#[116,114,117,101,32,102,97,108,115,101,32,109,101,32,97,100,100,32,115,117,98,32,109,117,108,32,100,105,118,32,109,111,100,32,108,101,115,115,32,115,97,109,101,32,97,110,100,32,111,114,32,110,111,116]⟩ : ByteArray) t104 _ A1.out).mono ?_);(case tab1 => exact hT_.below (Up.Bx HB));rintro e w4 ⟨v105,rfl,ho0,hb⟩;refine ⟨_,rfl,?_⟩;have n0_:=Up.RB HO103 hb;have n1_:=Aside0.mk (Kd.R_lower ho0 (below_size (Up.Bup HB)));have n2_:=Up.BB HB hb;clear HO103 HB;have HO103:=n0_;have HO106:=n1_;have HB:=n2_;clear n0_ n1_ n2_;(try clear hb);(try clear hb2);(try clear hk);(try clear hi);(try clear ho0);obtain ⟨Ao5,co5,eo5⟩:=Kd.R_slice HO106.out;subst eo5))
 go_loopg [1,10] k (fun kq v1 v10 w' => ∃ (x1_1 : List (S46)) (x10_1 : Int),v10 = .int .i64 x10_1 ∧ Aside0 (impl_insForms.l0 kq x1_1 t104 (t104.length : Int) x10_1 = some r) ∧ Aside0 (kq ≤ k) ∧ Aside0 (Kd.R k46 46 w' w.heap.size (fun _ => True) v1 x1_1) ∧ Aside0 (Kd.R Kd.string 9 w' w.heap.size (fun _ => True) (.slice Ao5 t104.length co5) t104) ∧ Aside0 (Below w.heap.size w w'))
 case atStart => exact ⟨(y101),(0),(by first | rfl | (simp;done) | (simp [*];done)),H',⟨Nat.le_refl _⟩,⟨Up.Rup HO103⟩,⟨Up.Rup HO106⟩,⟨Up.Bup HB⟩⟩
 case round =>
  clear H'
  try clear p2
  try clear c3
  try clear c5
  obtain ⟨x1_1,x10_1,rfl,HA,HK1,HO_1,HO_8,HB⟩:=hrel
  cases gk with
  | zero => exact absurd HA.out (by simp [impl_insForms.l0])
  | succ k1 =>
   have H:=HA.out
   clear HA
   simp only [impl_insForms.l0] at H
   by_cases c6 : x10_1 < (t104.length : Int)
   ·rw [if_pos c6] at H
    have c6b0 : decide (x10_1 < (t104.length : Int)) = true:=decide_eq_true c6
    clear c6
    by_cases c7 : 0 ≤ x10_1
    ·rw [if_pos c7] at H
     have c7b0 : decide (0 ≤ x10_1) = true:=decide_eq_true c7
     clear c7
     by_cases c8 : x10_1 < (t104.length : Int)
     ·rw [if_pos c8] at H
      have c8b0 : decide (x10_1 < (t104.length : Int)) = true:=decide_eq_true c8
      clear c8
      by_cases c9 : x1_1.length < 4398046511104
      ·rw [if_pos c9] at H
       have LMc9:=Aside0.mk c9
       clear c9
       obtain ⟨y108,hy108⟩ : ∃ y_ : List (S46),y_ = (x1_1 ++ [(⟨rdOf ByteArray.empty t104 x10_1,0,0⟩ : S46)]):=⟨_,rfl⟩
       replace H : (impl_insForms.l0 k1 y108 t104 (t104.length : Int) (wrap64 (x10_1 + 1))) = some r:=by first | (rw [hy108];with_reducible exact H) | (have H2_:=(Option.bind_some _ _).symm.trans H;rw [hy108];with_reducible exact H2_) | (have H2_:=(Option.bind_some _ _).symm.trans H;with_reducible exact H2_) | with_reducible exact H | (rw [hy108];exact H) | exact H
       have Ny108:=Aside0.mk hy108
       clear hy108
       have H':=Aside0.mk H
       clear H
       have p107 : 0 ≤ (x10_1 : Int):=Up.od
       have q107 : x10_1 < (t104.length : Int):=Up.od
       obtain ⟨ad107,e107,hx107_0⟩:=Kd.at_string (Kd.R_reads' HO_8.out).2.2 x10_1 p107 q107
       cases e107
       replace p107:=eq_true p107
       replace q107:=eq_true q107
       go_wp2_with (first | ((with_reducible refine gate_builtin (b:=.append) (xs:=#[.tmp 14,.tmp 17]) rfl ?_);at_builtin;refine Kd.R_append k46 (w0:=w) w.heap.size rfl (.tmp 14) (.tmp 17) 49 46 (.agg #[(.string ⟨#[]⟩),(.int .i64 0),(.int .i64 0)]) 32 rfl Tryd.underlying49 info46 rfl (by decide) (by omega) u1 x1_1 (⟨rdOf ByteArray.empty t104 x10_1,0,0⟩ : S46) [.string (rdOf ByteArray.empty t104 x10_1),.int .i64 0,.int .i64 0] (fun _ => True) (fun _ => False) rfl rfl ?aP (fun _ hk => hk.elim) ?aF ?aO ?aB ?aS ?aL ?_;(case aP => exact k46_mkM _ _ _ (⟨rdOf ByteArray.empty t104 x10_1,0,0⟩ : S46));(case aB => exact (Up.Bup HB));(case aF => exact (fun _ _ => trivial));(case aO => exact (Up.Rup HO_1));(case aS => exact (below_size (Up.Bup HB)));(case aL => have:=LMc9.out;omega);intro v109 w10 ho hb hg hat;rw [← Ny108.out] at ho;have n0_:=Aside0.mk (Kd.R_over' (Up.Rup HO_8) (Kd.R_typed (Up.Rup HO_1)) (by decide) hg);have n1_:=Aside0.mk (hb);have n2_:=Aside0.mk (ho);clear HO_8 HB HO_1;have HO_8:=n0_;have HB:=n1_;have HO110:=n2_;clear n0_ n1_ n2_ ho hb hg hat))
       go_roundg k1
       case measure => have:=HK1.out;omega
       case rel => exact ⟨(y108),(wrap64 (x10_1 + 1)),(by first | rfl | (simp;done) | (simp [*];done)),H',⟨by have:=HK1.out;omega⟩,⟨Up.Rup HO110⟩,⟨Up.Rup HO_8⟩,⟨Up.Bup HB⟩⟩
      ·rw [if_neg c9] at H
       exact absurd H (by simp)
     ·rw [if_neg c8] at H
      exact absurd H (by simp)
    ·rw [if_neg c7] at H
     exact absurd H (by simp)
   ·rw [if_neg c6] at H
    have c6b0 : decide (x10_1 < (t104.length : Int)) = false:=decide_eq_false c6
    clear c6
    obtain ⟨y111,hy111⟩ : ∃ y_ : List (S46),y_ = (([(⟨(⟨#[99,111,112,121]⟩ : ByteArray),6,0⟩ : S46),(⟨(⟨#[109,111,118,101]⟩ : ByteArray),6,0⟩ : S46),(⟨(⟨#[112,117,116]⟩ : ByteArray),6,0⟩ : S46),(⟨(⟨#[100,114,111,112]⟩ : ByteArray),0,0⟩ : S46)] : List (S46))):=⟨_,rfl⟩
    replace H : (if x1_1.length + y111.length < 4398046511104 then ((some (x1_1 ++ y111 : List (S46))).bind fun y114 => ((some (([(⟨(⟨#[112,97,99,107]⟩ : ByteArray),3,0⟩ : S46),(⟨(⟨#[117,110,112,97,99,107]⟩ : ByteArray),3,0⟩ : S46),(⟨(⟨#[108,101,110,100]⟩ : ByteArray),6,0⟩ : S46),(⟨(⟨#[108,101,110,100,119]⟩ : ByteArray),6,0⟩ : S46),(⟨(⟨#[102,105,101,108,100]⟩ : ByteArray),3,3⟩ : S46)] : List (S46)) : List (S46))).bind fun y117 => (if y114.length + y117.length < 4398046511104 then ((some (y114 ++ y117 : List (S46))).bind fun y120 => ((some (([(⟨(⟨#[114,101,97,100]⟩ : ByteArray),0,0⟩ : S46),(⟨(⟨#[112,101,101,107]⟩ : ByteArray),0,0⟩ : S46),(⟨(⟨#[119,114,105,116,101]⟩ : ByteArray),0,0⟩ : S46),(⟨(⟨#[102,114,101,101,122,101]⟩ : ByteArray),0,0⟩ : S46)] : List (S46)) : List (S46))).bind fun y123 => (if y120.length + y123.length < 4398046511104 then ((strings_Fields.f (⟨#[107,101,101,112,32,116,97,107,101,32,104,97,115,32,115,101,101,32,115,101,101,119]⟩ : ByteArray)).bind fun t129 => (impl_insForms.l1 k1 (y120 ++ y123) t129 (t129.length : Int) 0)) else (none)))) else (none)))) else (none)) = some r:=by first | (rw [hy111];with_reducible exact H) | (have H2_:=(Option.bind_some _ _).symm.trans H;rw [hy111];with_reducible exact H2_) | (have H2_:=(Option.bind_some _ _).symm.trans H;with_reducible exact H2_) | with_reducible exact H | (rw [hy111];exact H) | exact H
    have Ny111:=Aside0.mk hy111
    clear hy111
    by_cases c11 : x1_1.length + y111.length < 4398046511104
    ·rw [if_pos c11] at H
     have LMc11:=Aside0.mk c11
     clear c11
     obtain ⟨y114,hy114⟩ : ∃ y_ : List (S46),y_ = (x1_1 ++ y111):=⟨_,rfl⟩
     replace H : ((some (([(⟨(⟨#[112,97,99,107]⟩ : ByteArray),3,0⟩ : S46),(⟨(⟨#[117,110,112,97,99,107]⟩ : ByteArray),3,0⟩ : S46),(⟨(⟨#[108,101,110,100]⟩ : ByteArray),6,0⟩ : S46),(⟨(⟨#[108,101,110,100,119]⟩ : ByteArray),6,0⟩ : S46),(⟨(⟨#[102,105,101,108,100]⟩ : ByteArray),3,3⟩ : S46)] : List (S46)) : List (S46))).bind fun y117 => (if y114.length + y117.length < 4398046511104 then ((some (y114 ++ y117 : List (S46))).bind fun y120 => ((some (([(⟨(⟨#[114,101,97,100]⟩ : ByteArray),0,0⟩ : S46),(⟨(⟨#[112,101,101,107]⟩ : ByteArray),0,0⟩ : S46),(⟨(⟨#[119,114,105,116,101]⟩ : ByteArray),0,0⟩ : S46),(⟨(⟨#[102,114,101,101,122,101]⟩ : ByteArray),0,0⟩ : S46)] : List (S46)) : List (S46))).bind fun y123 => (if y120.length + y123.length < 4398046511104 then ((strings_Fields.f (⟨#[107,101,101,112,32,116,97,107,101,32,104,97,115,32,115,101,101,32,115,101,101,119]⟩ : ByteArray)).bind fun t129 => (impl_insForms.l1 k1 (y120 ++ y123) t129 (t129.length : Int) 0)) else (none)))) else (none))) = some r:=by first | (rw [hy114];with_reducible exact H) | (have H2_:=(Option.bind_some _ _).symm.trans H;rw [hy114];with_reducible exact H2_) | (have H2_:=(Option.bind_some _ _).symm.trans H;with_reducible exact H2_) | with_reducible exact H | (rw [hy114];exact H) | exact H
     have Ny114:=Aside0.mk hy114
     clear hy114
     obtain ⟨y117,hy117⟩ : ∃ y_ : List (S46),y_ = (([(⟨(⟨#[112,97,99,107]⟩ : ByteArray),3,0⟩ : S46),(⟨(⟨#[117,110,112,97,99,107]⟩ : ByteArray),3,0⟩ : S46),(⟨(⟨#[108,101,110,100]⟩ : ByteArray),6,0⟩ : S46),(⟨(⟨#[108,101,110,100,119]⟩ : ByteArray),6,0⟩ : S46),(⟨(⟨#[102,105,101,108,100]⟩ : ByteArray),3,3⟩ : S46)] : List (S46))):=⟨_,rfl⟩
     replace H : (if y114.length + y117.length < 4398046511104 then ((some (y114 ++ y117 : List (S46))).bind fun y120 => ((some (([(⟨(⟨#[114,101,97,100]⟩ : ByteArray),0,0⟩ : S46),(⟨(⟨#[112,101,101,107]⟩ : ByteArray),0,0⟩ : S46),(⟨(⟨#[119,114,105,116,101]⟩ : ByteArray),0,0⟩ : S46),(⟨(⟨#[102,114,101,101,122,101]⟩ : ByteArray),0,0⟩ : S46)] : List (S46)) : List (S46))).bind fun y123 => (if y120.length + y123.length < 4398046511104 then ((strings_Fields.f (⟨#[107,101,101,112,32,116,97,107,101,32,104,97,115,32,115,101,101,32,115,101,101,119]⟩ : ByteArray)).bind fun t129 => (impl_insForms.l1 k1 (y120 ++ y123) t129 (t129.length : Int) 0)) else (none)))) else (none)) = some r:=by first | (rw [hy117];with_reducible exact H) | (have H2_:=(Option.bind_some _ _).symm.trans H;rw [hy117];with_reducible exact H2_) | (have H2_:=(Option.bind_some _ _).symm.trans H;with_reducible exact H2_) | with_reducible exact H | (rw [hy117];exact H) | exact H
     have Ny117:=Aside0.mk hy117
     clear hy117
     by_cases c12 : y114.length + y117.length < 4398046511104
     ·rw [if_pos c12] at H
      have LMc12:=Aside0.mk c12
      clear c12
      obtain ⟨y120,hy120⟩ : ∃ y_ : List (S46),y_ = (y114 ++ y117):=⟨_,rfl⟩
      replace H : ((some (([(⟨(⟨#[114,101,97,100]⟩ : ByteArray),0,0⟩ : S46),(⟨(⟨#[112,101,101,107]⟩ : ByteArray),0,0⟩ : S46),(⟨(⟨#[119,114,105,116,101]⟩ : ByteArray),0,0⟩ : S46),(⟨(⟨#[102,114,101,101,122,101]⟩ : ByteArray),0,0⟩ : S46)] : List (S46)) : List (S46))).bind fun y123 => (if y120.length + y123.length < 4398046511104 then ((strings_Fields.f (⟨#[107,101,101,112,32,116,97,107,101,32,104,97,115,32,115,101,101,32,115,101,101,119]⟩ : ByteArray)).bind fun t129 => (impl_insForms.l1 k1 (y120 ++ y123) t129 (t129.length : Int) 0)) else (none))) = some r:=by first | (rw [hy120];with_reducible exact H) | (have H2_:=(Option.bind_some _ _).symm.trans H;rw [hy120];with_reducible exact H2_) | (have H2_:=(Option.bind_some _ _).symm.trans H;with_reducible exact H2_) | with_reducible exact H | (rw [hy120];exact H) | exact H
      have Ny120:=Aside0.mk hy120
      clear hy120
      obtain ⟨y123,hy123⟩ : ∃ y_ : List (S46),y_ = (([(⟨(⟨#[114,101,97,100]⟩ : ByteArray),0,0⟩ : S46),(⟨(⟨#[112,101,101,107]⟩ : ByteArray),0,0⟩ : S46),(⟨(⟨#[119,114,105,116,101]⟩ : ByteArray),0,0⟩ : S46),(⟨(⟨#[102,114,101,101,122,101]⟩ : ByteArray),0,0⟩ : S46)] : List (S46))):=⟨_,rfl⟩
      replace H : (if y120.length + y123.length < 4398046511104 then ((strings_Fields.f (⟨#[107,101,101,112,32,116,97,107,101,32,104,97,115,32,115,101,101,32,115,101,101,119]⟩ : ByteArray)).bind fun t129 => (impl_insForms.l1 k1 (y120 ++ y123) t129 (t129.length : Int) 0)) else (none)) = some r:=by first | (rw [hy123];with_reducible exact H) | (have H2_:=(Option.bind_some _ _).symm.trans H;rw [hy123];with_reducible exact H2_) | (have H2_:=(Option.bind_some _ _).symm.trans H;with_reducible exact H2_) | with_reducible exact H | (rw [hy123];exact H) | exact H
      have Ny123:=Aside0.mk hy123
      clear hy123
      by_cases c13 : y120.length + y123.length < 4398046511104
      ·rw [if_pos c13] at H
       have LMc13:=Aside0.mk c13
       clear c13
       obtain ⟨y126,hy126⟩ : ∃ y_ : List (S46),y_ = (y120 ++ y123):=⟨_,rfl⟩
       replace H : ((strings_Fields.f (⟨#[107,101,101,112,32,116,97,107,101,32,104,97,115,32,115,101,101,32,115,101,101,119]⟩ : ByteArray)).bind fun t129 => (impl_insForms.l1 k1 y126 t129 (t129.length : Int) 0)) = some r:=by first | (rw [hy126];with_reducible exact H) | (have H2_:=(Option.bind_some _ _).symm.trans H;rw [hy126];with_reducible exact H2_) | (have H2_:=(Option.bind_some _ _).symm.trans H;with_reducible exact H2_) | with_reducible exact H | (rw [hy126];exact H) | exact H
       have Ny126:=Aside0.mk hy126
       clear hy126
       replace H:=Option.bind_eq_some_iff.mp H
       obtain ⟨t129,A140,H⟩:=H
       replace H : (impl_insForms.l1 k1 y126 t129 (t129.length : Int) 0) = some r:=H
       have A14:=Aside0.mk A140
       clear A140
       have H':=Aside0.mk H
       clear H
       go_wp2_with (first | ((with_reducible refine gate_dst (N:=25) rfl ?_);refine Kd.R_lit k46 _ 46 ?hg (N:=25) ?hd (xs:=([(⟨(⟨#[99,111,112,121]⟩ : ByteArray),6,0⟩ : S46),(⟨(⟨#[109,111,118,101]⟩ : ByteArray),6,0⟩ : S46),(⟨(⟨#[112,117,116]⟩ : ByteArray),6,0⟩ : S46),(⟨(⟨#[100,114,111,112]⟩ : ByteArray),0,0⟩ : S46)] : List (S46))) (inner:=[.string (⟨#[99,111,112,121]⟩ : ByteArray),.int .i64 6,.int .i64 0,.string (⟨#[109,111,118,101]⟩ : ByteArray),.int .i64 6,.int .i64 0,.string (⟨#[112,117,116]⟩ : ByteArray),.int .i64 6,.int .i64 0,.string (⟨#[100,114,111,112]⟩ : ByteArray),.int .i64 0,.int .i64 0]) (ok:=fun _ => True) (okp:=fun _ => True) ?hr ?hp (fun _ hk => hk) trivial (Below.refl _ _) (Nat.le_refl _) (by simp) ?_;(case hd => rfl);(case hg => rfl);(case hr => first | (go_simp;done) | (go_simp;rfl));(case hp => exact (Reps.c3 (show Kd.M k46 _ _ _ (⟨(⟨#[99,111,112,121]⟩ : ByteArray),6,0⟩ : S46) [.string (⟨#[99,111,112,121]⟩ : ByteArray),.int .i64 6,.int .i64 0] from (k46_mkM _ _ _ (⟨(⟨#[99,111,112,121]⟩ : ByteArray),6,0⟩ : S46) )) (Reps.c3 (show Kd.M k46 _ _ _ (⟨(⟨#[109,111,118,101]⟩ : ByteArray),6,0⟩ : S46) [.string (⟨#[109,111,118,101]⟩ : ByteArray),.int .i64 6,.int .i64 0] from (k46_mkM _ _ _ (⟨(⟨#[109,111,118,101]⟩ : ByteArray),6,0⟩ : S46) )) (Reps.c3 (show Kd.M k46 _ _ _ (⟨(⟨#[112,117,116]⟩ : ByteArray),6,0⟩ : S46) [.string (⟨#[112,117,116]⟩ : ByteArray),.int .i64 6,.int .i64 0] from (k46_mkM _ _ _ (⟨(⟨#[112,117,116]⟩ : ByteArray),6,0⟩ : S46) )) (Reps.c3 (show Kd.M k46 _ _ _ (⟨(⟨#[100,114,111,112]⟩ : ByteArray),0,0⟩ : S46) [.string (⟨#[100,114,111,112]⟩ : ByteArray),.int .i64 0,.int .i64 0] from (k46_mkM _ _ _ (⟨(⟨#[100,114,111,112]⟩ : ByteArray),0,0⟩ : S46) )) (Reps.none _ _))))));intro v112 w15 ho16 hb hg_ hnew_;clear hg_ hnew_;(first | rw [← Ny111.out] at ho16 | (simp only [Int.reduceToNat] at ho16;rw [← Ny111.out] at ho16));have n0_:=Aside0.mk (Kd.R_elder' (Up.Rup HO_1) (Kd.R_base ho16) hb);have n1_:=Up.RB HO_8 hb;have n2_:=Aside0.mk (Kd.R_lower (Kd.R_new' ho16 (Kd.R_lt (Up.Rup HO_1))) (below_size (Up.Bup HB)));have n3_:=Up.BB HB hb;clear HO_1 HO_8 HB;have HO_1:=n0_;have HO_8:=n1_;have HO113:=n2_;have HB:=n3_;clear n0_ n1_ n2_ n3_ hb ho16;obtain ⟨Ao18,co18,eo18⟩:=Kd.R_slice HO113.out;subst eo18) | ((with_reducible refine gate_builtin (b:=.append) (xs:=#[.tmp 20,.tmp 25]) rfl ?_);at_builtin;refine Kd.R_append_rows k46 (w0:=w) w.heap.size rfl (.tmp 20) (.tmp 25) 49 46 (.agg #[(.string ⟨#[]⟩),(.int .i64 0),(.int .i64 0)]) 32 rfl Tryd.underlying49 info46 rfl (by decide) (by omega) u1 x1_1 y111 _ _ _ (fun k_ => some k_ ≠ (.slice Ao18 y111.length co18 : Value).ownBlock) (fun _ => False) rfl rfl ?aO ?aR (fun _ _ h => h) (fun _ h => h.elim) ?aF ?aB ?aS ?aL ?_;(case aR => repeat (first | exact (Kd.R_reads' HO113.out).2.2 | (with_reducible refine Kd.C_alloc ?_ _) | (with_reducible refine Kd.C_drewN ?_ _) | (with_reducible refine Kd.C_drew ?_)));(case aB => exact (Up.Bup HB));(case aF => exact (fun k_ hk => Kd.fresh' (Kd.R_lt (Up.Rup HO113)) k_ hk));(case aO => exact (Up.Rq (Kd.R_mono HO_1.out (fun _ hk => hk.2))));(case aS => exact (below_size (Up.Bup HB)));(case aL => have:=LMc11.out;omega);intro v115 w17 ho hb hg hat;rw [← Ny114.out] at ho;have n0_:=Aside0.mk (Kd.R_over' (Up.Rup HO_8) (Kd.R_typed (Up.Rup HO_1)) (by decide) hg);have n1_:=Aside0.mk (Kd.R_after (ok:=(fun _ => True)) (Up.Rup HO113) hg hat);have n2_:=Aside0.mk (hb);have n3_:=Aside0.mk (ho);clear HO_8 HO113 HB HO_1;have HO_8:=n0_;have HO113:=n1_;have HB:=n2_;have HO116:=n3_;clear n0_ n1_ n2_ n3_ ho hb hg hat) | ((with_reducible refine gate_dst (N:=33) rfl ?_);refine Kd.R_lit k46 _ 46 ?hg (N:=33) ?hd (xs:=([(⟨(⟨#[112,97,99,107]⟩ : ByteArray),3,0⟩ : S46),(⟨(⟨#[117,110,112,97,99,107]⟩ : ByteArray),3,0⟩ : S46),(⟨(⟨#[108,101,110,100]⟩ : ByteArray),6,0⟩ : S46),(⟨(⟨#[108,101,110,100,119]⟩ : ByteArray),6,0⟩ : S46),(⟨(⟨#[102,105,101,108,100]⟩ : ByteArray),3,3⟩ : S46)] : List (S46))) (inner:=[.string (⟨#[112,97,99,107]⟩ : ByteArray),.int .i64 3,.int .i64 0,.string (⟨#[117,110,112,97,99,107]⟩ : ByteArray),.int .i64 3,.int .i64 0,.string (⟨#[108,101,110,100]⟩ : ByteArray),.int .i64 6,.int .i64 0,.string (⟨#[108,101,110,100,119]⟩ : ByteArray),.int .i64 6,.int .i64 0,.string (⟨#[102,105,101,108,100]⟩ : ByteArray),.int .i64 3,.int .i64 3]) (ok:=fun _ => True) (okp:=fun _ => True) ?hr ?hp (fun _ hk => hk) trivial (Below.refl _ _) (Nat.le_refl _) (by simp) ?_;(case hd => rfl);(case hg => rfl);(case hr => first | (go_simp;done) | (go_simp;rfl));(case hp => exact (Reps.c3 (show Kd.M k46 _ _ _ (⟨(⟨#[112,97,99,107]⟩ : ByteArray),3,0⟩ : S46) [.string (⟨#[112,97,99,107]⟩ : ByteArray),.int .i64 3,.int .i64 0] from (k46_mkM _ _ _ (⟨(⟨#[112,97,99,107]⟩ : ByteArray),3,0⟩ : S46) )) (Reps.c3 (show Kd.M k46 _ _ _ (⟨(⟨#[117,110,112,97,99,107]⟩ : ByteArray),3,0⟩ : S46) [.string (⟨#[117,110,112,97,99,107]⟩ : ByteArray),.int .i64 3,.int .i64 0] from (k46_mkM _ _ _ (⟨(⟨#[117,110,112,97,99,107]⟩ : ByteArray),3,0⟩ : S46) )) (Reps.c3 (show Kd.M k46 _ _ _ (⟨(⟨#[108,101,110,100]⟩ : ByteArray),6,0⟩ : S46) [.string (⟨#[108,101,110,100]⟩ : ByteArray),.int .i64 6,.int .i64 0] from (k46_mkM _ _ _ (⟨(⟨#[108,101,110,100]⟩ : ByteArray),6,0⟩ : S46) )) (Reps.c3 (show Kd.M k46 _ _ _ (⟨(⟨#[108,101,110,100,119]⟩ : ByteArray),6,0⟩ : S46) [.string (⟨#[108,101,110,100,119]⟩ : ByteArray),.int .i64 6,.int .i64 0] from (k46_mkM _ _ _ (⟨(⟨#[108,101,110,100,119]⟩ : ByteArray),6,0⟩ : S46) )) (Reps.c3 (show Kd.M k46 _ _ _ (⟨(⟨#[102,105,101,108,100]⟩ : ByteArray),3,3⟩ : S46) [.string (⟨#[102,105,101,108,100]⟩ : ByteArray),.int .i64 3,.int .i64 3] from (k46_mkM _ _ _ (⟨(⟨#[102,105,101,108,100]⟩ : ByteArray),3,3⟩ : S46) )) (Reps.none _ _)))))));intro v118 w19 ho20 hb hg_ hnew_;clear hg_ hnew_;(first | rw [← Ny117.out] at ho20 | (simp only [Int.reduceToNat] at ho20;rw [← Ny117.out] at ho20));have n0_:=Up.RB HO_8 hb;have n1_:=Aside0.mk (Kd.R_elder' (Up.Rup HO113) (Kd.R_base ho20) hb);have n2_:=Aside0.mk (Kd.R_elder' (Up.Rup HO116) (Kd.R_base ho20) hb);have n3_:=Aside0.mk (Kd.R_lower (Kd.R_new' (Kd.R_new' ho20 (Kd.R_lt (Up.Rup HO113))) (Kd.R_lt (Up.Rup HO116))) (below_size (Up.Bup HB)));have n4_:=Up.BB HB hb;clear HO_8 HO113 HO116 HB;have HO_8:=n0_;have HO113:=n1_;have HO116:=n2_;have HO119:=n3_;have HB:=n4_;clear n0_ n1_ n2_ n3_ n4_ hb ho20;obtain ⟨Ao22,co22,eo22⟩:=Kd.R_slice HO119.out;subst eo22) | ((with_reducible refine gate_builtin (b:=.append) (xs:=#[.tmp 27,.tmp 33]) rfl ?_);at_builtin;refine Kd.R_append_rows k46 (w0:=w) w.heap.size rfl (.tmp 27) (.tmp 33) 49 46 (.agg #[(.string ⟨#[]⟩),(.int .i64 0),(.int .i64 0)]) 32 rfl Tryd.underlying49 info46 rfl (by decide) (by omega) v115 y114 y117 _ _ _ (fun k_ => some k_ ≠ (.slice Ao18 y111.length co18 : Value).ownBlock ∧ some k_ ≠ (.slice Ao22 y117.length co22 : Value).ownBlock) (fun _ => False) rfl rfl ?aO ?aR (fun _ _ h => h) (fun _ h => h.elim) ?aF ?aB ?aS ?aL ?_;(case aR => repeat (first | exact (Kd.R_reads' HO119.out).2.2 | (with_reducible refine Kd.C_alloc ?_ _) | (with_reducible refine Kd.C_drewN ?_ _) | (with_reducible refine Kd.C_drew ?_)));(case aB => exact (Up.Bup HB));(case aF => exact (fun k_ hk => ⟨Kd.fresh' (Kd.R_lt (Up.Rup HO113)) k_ hk,Kd.fresh' (Kd.R_lt (Up.Rup HO119)) k_ hk⟩));(case aO => exact (Up.Rup HO116));(case aS => exact (below_size (Up.Bup HB)));(case aL => have:=LMc12.out;omega);intro v121 w21 ho hb hg hat;rw [← Ny120.out] at ho;have n0_:=Aside0.mk (Kd.R_over' (Up.Rup HO_8) (Kd.R_typed (Up.Rup HO116)) (by decide) hg);have n1_:=Aside0.mk (Kd.R_after (ok:=(fun k_ => some k_ ≠ (.slice Ao22 y117.length co22 : Value).ownBlock)) (Up.Rq (Kd.R_mono HO113.out (fun _ hk => ⟨hk.2,hk.1.2⟩))) hg hat);have n2_:=Aside0.mk (Kd.R_after (ok:=(fun k_ => some k_ ≠ (.slice Ao18 y111.length co18 : Value).ownBlock)) (Up.Rq (Kd.R_mono HO119.out (fun _ hk => ⟨hk.1.2,hk.2⟩))) hg hat);have n3_:=Aside0.mk (hb);have n4_:=Aside0.mk (ho);clear HO_8 HO113 HO119 HB HO116;have HO_8:=n0_;have HO113:=n1_;have HO119:=n2_;have HB:=n3_;have HO122:=n4_;clear n0_ n1_ n2_ n3_ n4_ ho hb hg hat) | ((with_reducible refine gate_dst (N:=40) rfl ?_);refine Kd.R_lit k46 _ 46 ?hg (N:=40) ?hd (xs:=([(⟨(⟨#[114,101,97,100]⟩ : ByteArray),0,0⟩ : S46),(⟨(⟨#[112,101,101,107]⟩ : ByteArray),0,0⟩ : S46),(⟨(⟨#[119,114,105,116,101]⟩ : ByteArray),0,0⟩ : S46),(⟨(⟨#[102,114,101,101,122,101]⟩ : ByteArray),0,0⟩ : S46)] : List (S46))) (inner:=[.string (⟨#[114,101,97,100]⟩ : ByteArray),.int .i64 0,.int .i64 0,.string (⟨#[112,101,101,107]⟩ : ByteArray),.int .i64 0,.int .i64 0,.string (⟨#[119,114,105,116,101]⟩ : ByteArray),.int .i64 0,.int .i64 0,.string (⟨#[102,114,101,101,122,101]⟩ : ByteArray),.int .i64 0,.int .i64 0]) (ok:=fun _ => True) (okp:=fun _ => True) ?hr ?hp (fun _ hk => hk) trivial (Below.refl _ _) (Nat.le_refl _) (by simp) ?_;(case hd => rfl);(case hg => rfl);(case hr => first | (go_simp;done) | (go_simp;rfl));(case hp => exact (Reps.c3 (show Kd.M k46 _ _ _ (⟨(⟨#[114,101,97,100]⟩ : ByteArray),0,0⟩ : S46) [.string (⟨#[114,101,97,100]⟩ : ByteArray),.int .i64 0,.int .i64 0] from (k46_mkM _ _ _ (⟨(⟨#[114,101,97,100]⟩ : ByteArray),0,0⟩ : S46) )) (Reps.c3 (show Kd.M k46 _ _ _ (⟨(⟨#[112,101,101,107]⟩ : ByteArray),0,0⟩ : S46) [.string (⟨#[112,101,101,107]⟩ : ByteArray),.int .i64 0,.int .i64 0] from (k46_mkM _ _ _ (⟨(⟨#[112,101,101,107]⟩ : ByteArray),0,0⟩ : S46) )) (Reps.c3 (show Kd.M k46 _ _ _ (⟨(⟨#[119,114,105,116,101]⟩ : ByteArray),0,0⟩ : S46) [.string (⟨#[119,114,105,116,101]⟩ : ByteArray),.int .i64 0,.int .i64 0] from (k46_mkM _ _ _ (⟨(⟨#[119,114,105,116,101]⟩ : ByteArray),0,0⟩ : S46) )) (Reps.c3 (show Kd.M k46 _ _ _ (⟨(⟨#[102,114,101,101,122,101]⟩ : ByteArray),0,0⟩ : S46) [.string (⟨#[102,114,101,101,122,101]⟩ : ByteArray),.int .i64 0,.int .i64 0] from (k46_mkM _ _ _ (⟨(⟨#[102,114,101,101,122,101]⟩ : ByteArray),0,0⟩ : S46) )) (Reps.none _ _))))));intro v124 w23 ho24 hb hg_ hnew_;clear hg_ hnew_;(first | rw [← Ny123.out] at ho24 | (simp only [Int.reduceToNat] at ho24;rw [← Ny123.out] at ho24));have n0_:=Up.RB HO_8 hb;have n1_:=Aside0.mk (Kd.R_elder' (Up.Rup HO113) (Kd.R_base ho24) hb);have n2_:=Aside0.mk (Kd.R_elder' (Up.Rup HO119) (Kd.R_base ho24) hb);have n3_:=Aside0.mk (Kd.R_elder' (Up.Rup HO122) (Kd.R_base ho24) hb);have n4_:=Aside0.mk (Kd.R_lower (Kd.R_new' (Kd.R_new' (Kd.R_new' ho24 (Kd.R_lt (Up.Rup HO113))) (Kd.R_lt (Up.Rup HO119))) (Kd.R_lt (Up.Rup HO122))) (below_size (Up.Bup HB)));have n5_:=Up.BB HB hb;clear HO_8 HO113 HO119 HO122 HB;have HO_8:=n0_;have HO113:=n1_;have HO119:=n2_;have HO122:=n3_;have HO125:=n4_;have HB:=n5_;clear n0_ n1_ n2_ n3_ n4_ n5_ hb ho24;obtain ⟨Ao26,co26,eo26⟩:=Kd.R_slice HO125.out;subst eo26) | ((with_reducible refine gate_builtin (b:=.append) (xs:=#[.tmp 35,.tmp 40]) rfl ?_);at_builtin;refine Kd.R_append_rows k46 (w0:=w) w.heap.size rfl (.tmp 35) (.tmp 40) 49 46 (.agg #[(.string ⟨#[]⟩),(.int .i64 0),(.int .i64 0)]) 32 rfl Tryd.underlying49 info46 rfl (by decide) (by omega) v121 y120 y123 _ _ _ (fun k_ => some k_ ≠ (.slice Ao18 y111.length co18 : Value).ownBlock ∧ some k_ ≠ (.slice Ao22 y117.length co22 : Value).ownBlock ∧ some k_ ≠ (.slice Ao26 y123.length co26 : Value).ownBlock) (fun _ => False) rfl rfl ?aO ?aR (fun _ _ h => h) (fun _ h => h.elim) ?aF ?aB ?aS ?aL ?_;(case aR => repeat (first | exact (Kd.R_reads' HO125.out).2.2 | (with_reducible refine Kd.C_alloc ?_ _) | (with_reducible refine Kd.C_drewN ?_ _) | (with_reducible refine Kd.C_drew ?_)));(case aB => exact (Up.Bup HB));(case aF => exact (fun k_ hk => ⟨Kd.fresh' (Kd.R_lt (Up.Rup HO113)) k_ hk,Kd.fresh' (Kd.R_lt (Up.Rup HO119)) k_ hk,Kd.fresh' (Kd.R_lt (Up.Rup HO125)) k_ hk⟩));(case aO => exact (Up.Rq (Kd.R_mono HO122.out (fun _ hk => ⟨hk.1.1,⟨hk.1.2,hk.2⟩⟩))));(case aS => exact (below_size (Up.Bup HB)));(case aL => have:=LMc13.out;omega);intro v127 w25 ho hb hg hat;rw [← Ny126.out] at ho;have n0_:=Aside0.mk (Kd.R_over' (Up.Rup HO_8) (Kd.R_typed (Up.Rup HO122)) (by decide) hg);have n1_:=Aside0.mk (Kd.R_after (ok:=(fun k_ => some k_ ≠ (.slice Ao22 y117.length co22 : Value).ownBlock ∧ some k_ ≠ (.slice Ao26 y123.length co26 : Value).ownBlock)) (Up.Rq (Kd.R_mono HO113.out (fun _ hk => ⟨⟨hk.1.1,hk.2⟩,hk.1.2⟩))) hg hat);have n2_:=Aside0.mk (Kd.R_after (ok:=(fun k_ => some k_ ≠ (.slice Ao18 y111.length co18 : Value).ownBlock ∧ some k_ ≠ (.slice Ao26 y123.length co26 : Value).ownBlock)) (Up.Rq (Kd.R_mono HO119.out (fun _ hk => ⟨⟨hk.1.1,hk.2⟩,hk.1.2⟩))) hg hat);have n3_:=Aside0.mk (Kd.R_after (ok:=(fun k_ => some k_ ≠ (.slice Ao18 y111.length co18 : Value).ownBlock ∧ some k_ ≠ (.slice Ao22 y117.length co22 : Value).ownBlock)) (Up.Rq (Kd.R_mono HO125.out (fun _ hk => ⟨⟨hk.1.1.2,hk.1.2⟩,hk.2⟩))) hg hat);have n4_:=Aside0.mk (hb);have n5_:=Aside0.mk (ho);clear HO_8 HO113 HO119 HO125 HB HO122;have HO_8:=n0_;have HO113:=n1_;have HO119:=n2_;have HO125:=n3_;have HB:=n4_;have HO128:=n5_;clear n0_ n1_ n2_ n3_ n4_ n5_ ho hb hg hat) | ((with_reducible refine gate_callee (f:=51) rfl ?_);refine Up.gl (some 42) Tryd.func51 #[.string (⟨#[107,101,101,112,32,116,97,107,101,32,104,97,115,32,115,101,101,32,115,101,101,119]⟩ : ByteArray)] ?_;(with_reducible refine (strings_Fields.calls (hT_:=?tab1) (⟨#[107,101,101,112,32,116,97,107,101,32,104,97,115,32,115,101,101,32,115,101,101,119]⟩ : ByteArray) t129 _ A14.out).mono ?_);(case tab1 => exact hT_.below (Up.Bx HB));rintro e w27 ⟨v130,rfl,ho0,hb⟩;refine ⟨_,rfl,?_⟩;have n0_:=Aside0.mk (Kd.R_elder' (Up.Rup HO_8) (Kd.R_base ho0) hb);have n1_:=Up.RB HO113 hb;have n2_:=Up.RB HO119 hb;have n3_:=Up.RB HO125 hb;have n4_:=Up.RB HO128 hb;have n5_:=Aside0.mk (Kd.R_lower (Kd.R_new' ho0 (Kd.R_lt (Up.Rup HO_8))) (below_size (Up.Bup HB)));have n6_:=Up.BB HB hb;clear HO_8 HO113 HO119 HO125 HO128 HB;have HO_8:=n0_;have HO113:=n1_;have HO119:=n2_;have HO125:=n3_;have HO128:=n4_;have HO131:=n5_;have HB:=n6_;clear n0_ n1_ n2_ n3_ n4_ n5_ n6_;(try clear hb);(try clear hb2);(try clear hk);(try clear hi);(try clear ho0);obtain ⟨Ao28,co28,eo28⟩:=Kd.R_slice HO131.out;subst eo28))
       go_loopg [1,44] k1 (fun kq v1 v44 w' => ∃ (x1_2 : List (S46)) (x44_2 : Int),v44 = .int .i64 x44_2 ∧ Aside0 (impl_insForms.l1 kq x1_2 t129 (t129.length : Int) x44_2 = some r) ∧ Aside0 (kq ≤ k1) ∧ Aside0 (Kd.R k46 46 w' w.heap.size (fun _ => True) v1 x1_2) ∧ Aside0 (Kd.R Kd.string 9 w' w.heap.size (fun _ => True) (.slice Ao28 t129.length co28) t129) ∧ Aside0 (Below w.heap.size w w'))
       case atStart => exact ⟨(y126),(0),(by first | rfl | (simp;done) | (simp [*];done)),H',⟨Nat.le_refl _⟩,⟨by (with_reducible repeat (first | apply Kd.R_alloc | apply Kd.R_drewN | apply Kd.R_drew));exact Kd.R_mono HO128.out (fun _ hk => trivial)⟩,⟨by (with_reducible repeat (first | apply Kd.R_alloc | apply Kd.R_drewN | apply Kd.R_drew));exact Kd.R_mono HO131.out (fun _ hk => trivial)⟩,⟨Up.Bup HB⟩⟩
       case round =>
        clear H'
        try clear c1
        try clear p1
        try clear q1
        try clear hx1
        try clear p2
        try clear c3
        try clear c5
        try clear c6
        try clear c6b0
        try clear p6
        try clear c7
        try clear c7b0
        try clear c8
        try clear c8b0
        try clear c9
        try clear p10
        try clear q10
        try clear hx10
        try clear c11
        try clear c12
        try clear c13
        try clear hx107_0
        try clear p107
        try clear p2
        try clear q107
        obtain ⟨x1_2,x44_2,rfl,HA,HK2,HO_1,HO_42,HB⟩:=hrel
        cases gk with
        | zero => exact absurd HA.out (by simp [impl_insForms.l1])
        | succ k2 =>
         have H:=HA.out
         clear HA
         simp only [impl_insForms.l1] at H
         by_cases c29 : x44_2 < (t129.length : Int)
         ·rw [if_pos c29] at H
          have c29b0 : decide (x44_2 < (t129.length : Int)) = true:=decide_eq_true c29
          clear c29
          by_cases c30 : 0 ≤ x44_2
          ·rw [if_pos c30] at H
           have c30b0 : decide (0 ≤ x44_2) = true:=decide_eq_true c30
           clear c30
           by_cases c31 : x44_2 < (t129.length : Int)
           ·rw [if_pos c31] at H
            have c31b0 : decide (x44_2 < (t129.length : Int)) = true:=decide_eq_true c31
            clear c31
            by_cases c32 : x1_2.length < 4398046511104
            ·rw [if_pos c32] at H
             have LMc32:=Aside0.mk c32
             clear c32
             obtain ⟨y133,hy133⟩ : ∃ y_ : List (S46),y_ = (x1_2 ++ [(⟨rdOf ByteArray.empty t129 x44_2,3,0⟩ : S46)]):=⟨_,rfl⟩
             replace H : (impl_insForms.l1 k2 y133 t129 (t129.length : Int) (wrap64 (x44_2 + 1))) = some r:=by first | (rw [hy133];with_reducible exact H) | (have H2_:=(Option.bind_some _ _).symm.trans H;rw [hy133];with_reducible exact H2_) | (have H2_:=(Option.bind_some _ _).symm.trans H;with_reducible exact H2_) | with_reducible exact H | (rw [hy133];exact H) | exact H
             have Ny133:=Aside0.mk hy133
             clear hy133
             have H':=Aside0.mk H
             clear H
             have p132 : 0 ≤ (x44_2 : Int):=Up.od
             have q132 : x44_2 < (t129.length : Int):=Up.od
             obtain ⟨ad132,e132,hx132_0⟩:=Kd.at_string (Kd.R_reads' HO_42.out).2.2 x44_2 p132 q132
             cases e132
             replace p132:=eq_true p132
             replace q132:=eq_true q132
             go_wp2_with (first | ((with_reducible refine gate_builtin (b:=.append) (xs:=#[.tmp 48,.tmp 51]) rfl ?_);at_builtin;refine Kd.R_append k46 (w0:=w) w.heap.size rfl (.tmp 48) (.tmp 51) 49 46 (.agg #[(.string ⟨#[]⟩),(.int .i64 0),(.int .i64 0)]) 32 rfl Tryd.underlying49 info46 rfl (by decide) (by omega) u1 x1_2 (⟨rdOf ByteArray.empty t129 x44_2,3,0⟩ : S46) [.string (rdOf ByteArray.empty t129 x44_2),.int .i64 3,.int .i64 0] (fun _ => True) (fun _ => False) rfl rfl ?aP (fun _ hk => hk.elim) ?aF ?aO ?aB ?aS ?aL ?_;(case aP => exact k46_mkM _ _ _ (⟨rdOf ByteArray.empty t129 x44_2,3,0⟩ : S46));(case aB => exact (Up.Bup HB));(case aF => exact (fun _ _ => trivial));(case aO => exact (Up.Rup HO_1));(case aS => exact (below_size (Up.Bup HB)));(case aL => have:=LMc32.out;omega);intro v134 w33 ho hb hg hat;rw [← Ny133.out] at ho;have n0_:=Aside0.mk (Kd.R_over' (Up.Rup HO_42) (Kd.R_typed (Up.Rup HO_1)) (by decide) hg);have n1_:=Aside0.mk (hb);have n2_:=Aside0.mk (ho);clear HO_42 HB HO_1;have HO_42:=n0_;have HB:=n1_;have HO135:=n2_;clear n0_ n1_ n2_ ho hb hg hat))
             go_roundg k2
             case measure => have:=HK1.out;have:=HK2.out;omega
             case rel => exact ⟨(y133),(wrap64 (x44_2 + 1)),(by first | rfl | (simp;done) | (simp [*];done)),H',⟨by have:=HK1.out;have:=HK2.out;omega⟩,⟨Up.Rup HO135⟩,⟨Up.Rup HO_42⟩,⟨Up.Bup HB⟩⟩
            ·rw [if_neg c32] at H
             exact absurd H (by simp)
           ·rw [if_neg c31] at H
            exact absurd H (by simp)
          ·rw [if_neg c30] at H
           exact absurd H (by simp)
         ·rw [if_neg c29] at H
          have c29b0 : decide (x44_2 < (t129.length : Int)) = false:=decide_eq_false c29
          clear c29
          obtain ⟨y136,hy136⟩ : ∃ y_ : List (S46),y_ = (([(⟨(⟨#[106,117,109,112]⟩ : ByteArray),40,0⟩ : S46),(⟨(⟨#[122,101,114,111]⟩ : ByteArray),40,0⟩ : S46),(⟨(⟨#[99,97,108,108]⟩ : ByteArray),3,4⟩ : S46),(⟨(⟨#[114,101,116]⟩ : ByteArray),0,0⟩ : S46),(⟨(⟨#[102,97,105,108]⟩ : ByteArray),0,0⟩ : S46)] : List (S46))):=⟨_,rfl⟩
          replace H : (if x1_2.length + y136.length < 4398046511104 then (some (x1_2 ++ y136)) else (none)) = some r:=by first | (rw [hy136];with_reducible exact H) | (have H2_:=(Option.bind_some _ _).symm.trans H;rw [hy136];with_reducible exact H2_) | (have H2_:=(Option.bind_some _ _).symm.trans H;with_reducible exact H2_) | with_reducible exact H | (rw [hy136];exact H) | exact H
          have Ny136:=Aside0.mk hy136
          clear hy136
          by_cases c34 : x1_2.length + y136.length < 4398046511104
          ·rw [if_pos c34] at H
           have LMc34:=Aside0.mk c34
           clear c34
           obtain ⟨y139,hy139⟩ : ∃ y_ : List (S46),y_ = (x1_2 ++ y136):=⟨_,rfl⟩
           replace H : (some y139) = some r:=by first | (rw [hy139];with_reducible exact H) | (have H2_:=(Option.bind_some _ _).symm.trans H;rw [hy139];with_reducible exact H2_) | (have H2_:=(Option.bind_some _ _).symm.trans H;with_reducible exact H2_) | with_reducible exact H | (rw [hy139];exact H) | exact H
           have Ny139:=Aside0.mk hy139
           clear hy139
           obtain rfl:=Option.some.inj H
           go_wp2_with (first | ((with_reducible refine gate_dst (N:=60) rfl ?_);refine Kd.R_lit k46 _ 46 ?hg (N:=60) ?hd (xs:=([(⟨(⟨#[106,117,109,112]⟩ : ByteArray),40,0⟩ : S46),(⟨(⟨#[122,101,114,111]⟩ : ByteArray),40,0⟩ : S46),(⟨(⟨#[99,97,108,108]⟩ : ByteArray),3,4⟩ : S46),(⟨(⟨#[114,101,116]⟩ : ByteArray),0,0⟩ : S46),(⟨(⟨#[102,97,105,108]⟩ : ByteArray),0,0⟩ : S46)] : List (S46))) (inner:=[.string (⟨#[106,117,109,112]⟩ : ByteArray),.int .i64 40,.int .i64 0,.string (⟨#[122,101,114,111]⟩ : ByteArray),.int .i64 40,.int .i64 0,.string (⟨#[99,97,108,108]⟩ : ByteArray),.int .i64 3,.int .i64 4,.string (⟨#[114,101,116]⟩ : ByteArray),.int .i64 0,.int .i64 0,.string (⟨#[102,97,105,108]⟩ : ByteArray),.int .i64 0,.int .i64 0]) (ok:=fun _ => True) (okp:=fun _ => True) ?hr ?hp (fun _ hk => hk) trivial (Below.refl _ _) (Nat.le_refl _) (by simp) ?_;(case hd => rfl);(case hg => rfl);(case hr => first | (go_simp;done) | (go_simp;rfl));(case hp => exact (Reps.c3 (show Kd.M k46 _ _ _ (⟨(⟨#[106,117,109,112]⟩ : ByteArray),40,0⟩ : S46) [.string (⟨#[106,117,109,112]⟩ : ByteArray),.int .i64 40,.int .i64 0] from (k46_mkM _ _ _ (⟨(⟨#[106,117,109,112]⟩ : ByteArray),40,0⟩ : S46) )) (Reps.c3 (show Kd.M k46 _ _ _ (⟨(⟨#[122,101,114,111]⟩ : ByteArray),40,0⟩ : S46) [.string (⟨#[122,101,114,111]⟩ : ByteArray),.int .i64 40,.int .i64 0] from (k46_mkM _ _ _ (⟨(⟨#[122,101,114,111]⟩ : ByteArray),40,0⟩ : S46) )) (Reps.c3 (show Kd.M k46 _ _ _ (⟨(⟨#[99,97,108,108]⟩ : ByteArray),3,4⟩ : S46) [.string (⟨#[99,97,108,108]⟩ : ByteArray),.int .i64 3,.int .i64 4] from (k46_mkM _ _ _ (⟨(⟨#[99,97,108,108]⟩ : ByteArray),3,4⟩ : S46) )) (Reps.c3 (show Kd.M k46 _ _ _ (⟨(⟨#[114,101,116]⟩ : ByteArray),0,0⟩ : S46) [.string (⟨#[114,101,116]⟩ : ByteArray),.int .i64 0,.int .i64 0] from (k46_mkM _ _ _ (⟨(⟨#[114,101,116]⟩ : ByteArray),0,0⟩ : S46) )) (Reps.c3 (show Kd.M k46 _ _ _ (⟨(⟨#[102,97,105,108]⟩ : ByteArray),0,0⟩ : S46) [.string (⟨#[102,97,105,108]⟩ : ByteArray),.int .i64 0,.int .i64 0] from (k46_mkM _ _ _ (⟨(⟨#[102,97,105,108]⟩ : ByteArray),0,0⟩ : S46) )) (Reps.none _ _)))))));intro v137 w35 ho36 hb hg_ hnew_;clear hg_ hnew_;(first | rw [← Ny136.out] at ho36 | (simp only [Int.reduceToNat] at ho36;rw [← Ny136.out] at ho36));have n0_:=Aside0.mk (Kd.R_elder' (Up.Rup HO_1) (Kd.R_base ho36) hb);have n1_:=Up.RB HO_42 hb;have n2_:=Aside0.mk (Kd.R_lower (Kd.R_new' ho36 (Kd.R_lt (Up.Rup HO_1))) (below_size (Up.Bup HB)));have n3_:=Up.BB HB hb;clear HO_1 HO_42 HB;have HO_1:=n0_;have HO_42:=n1_;have HO138:=n2_;have HB:=n3_;clear n0_ n1_ n2_ n3_ hb ho36;obtain ⟨Ao38,co38,eo38⟩:=Kd.R_slice HO138.out;subst eo38) | ((with_reducible refine gate_builtin (b:=.append) (xs:=#[.tmp 54,.tmp 60]) rfl ?_);at_builtin;refine Kd.R_append_rows k46 (w0:=w) w.heap.size rfl (.tmp 54) (.tmp 60) 49 46 (.agg #[(.string ⟨#[]⟩),(.int .i64 0),(.int .i64 0)]) 32 rfl Tryd.underlying49 info46 rfl (by decide) (by omega) u1 x1_2 y136 _ _ _ (fun k_ => some k_ ≠ (.slice Ao38 y136.length co38 : Value).ownBlock) (fun _ => False) rfl rfl ?aO ?aR (fun _ _ h => h) (fun _ h => h.elim) ?aF ?aB ?aS ?aL ?_;(case aR => repeat (first | exact (Kd.R_reads' HO138.out).2.2 | (with_reducible refine Kd.C_alloc ?_ _) | (with_reducible refine Kd.C_drewN ?_ _) | (with_reducible refine Kd.C_drew ?_)));(case aB => exact (Up.Bup HB));(case aF => exact (fun k_ hk => Kd.fresh' (Kd.R_lt (Up.Rup HO138)) k_ hk));(case aO => exact (Up.Rq (Kd.R_mono HO_1.out (fun _ hk => hk.2))));(case aS => exact (below_size (Up.Bup HB)));(case aL => have:=LMc34.out;omega);intro v140 w37 ho hb hg hat;rw [← Ny139.out] at ho;have n0_:=Aside0.mk (Kd.R_over' (Up.Rup HO_42) (Kd.R_typed (Up.Rup HO_1)) (by decide) hg);have n1_:=Aside0.mk (Kd.R_after (ok:=(fun _ => True)) (Up.Rup HO138) hg hat);have n2_:=Aside0.mk (hb);have n3_:=Aside0.mk (ho);clear HO_42 HO138 HB HO_1;have HO_42:=n0_;have HO138:=n1_;have HB:=n2_;have HO141:=n3_;clear n0_ n1_ n2_ n3_ ho hb hg hat))
           go_ret
           exact ⟨_,by first | rfl | (simp [errW_none,errW_some] <;> rfl) | (simp [*,errW_none,errW_some] <;> rfl),by (with_reducible repeat (first | apply Kd.R_alloc | apply Kd.R_drewN | apply Kd.R_drew));exact Kd.R_mono HO141.out (fun _ hk => trivial),Up.Bup HB⟩
          ·rw [if_neg c34] at H
           exact absurd H (by simp)
      ·rw [if_neg c13] at H
       exact absurd H (by simp)
     ·rw [if_neg c12] at H
      exact absurd H (by simp)
    ·rw [if_neg c11] at H
     exact absurd H (by simp)

/-! ### impl_formOf: function 32 -/
def impl_formOf.l0 : Nat → ByteArray → List (S46) → Int → Int → Option (ByteArray × Int × Int × Bool)
 | 0,_,_,_,_ => none
 | k + 1,x0,x6,x7,x8 => if x8 < x7 then (if 0 ≤ x8 then (if x8 < (x6.length : Int) then (if ((rd_T46 x6 x8).f0).toList = x0.toList then (some ((rd_T46 x6 x8).f0,(rd_T46 x6 x8).f1,(rd_T46 x6 x8).f2,true)) else (impl_formOf.l0 k x0 x6 x7 (wrap64 (x8 + 1)))) else (none)) else (none)) else (some ((⟨#[]⟩ : ByteArray),0,0,false))
def impl_formOf.f (k : Nat) (a0 : ByteArray) : Option (ByteArray × Int × Int × Bool):=(impl_insForms.f k).bind fun t143 => (impl_formOf.l0 k a0 t143 (t143.length : Int) 0)
theorem impl_formOf.mono_l : ∀ k,(∀ y0 y1 y2 y3,LeO (impl_formOf.l0 k y0 y1 y2 y3) (impl_formOf.l0 (k + 1) y0 y1 y2 y3))
 | 0 => fun _ _ _ _ r h => by simp [impl_formOf.l0] at h
 | k + 1 => by
  have ih0:=impl_formOf.mono_l k
  ·intro y0 y1 y2 y3
   unfold impl_formOf.l0
   repeat' first
   | (with_reducible exact ih0 _ _ _ _)
   | (with_reducible exact impl_insForms.mono _)
   | (with_reducible exact LeO.refl _)
   | (with_reducible exact LeO.none _)
   | (with_reducible refine LeO.ite ?_ ?_)
   | (with_reducible refine LeO.bind ?_ (fun _ => ?_))
   | exact ih0 _ _ _ _
   | exact impl_insForms.mono _
   | exact LeO.none _
   | refine LeO.ite ?_ ?_
   | refine LeO.bind ?_ (fun _ => ?_)
theorem impl_formOf.mono : ∀ a0 k,LeO (impl_formOf.f k a0) (impl_formOf.f (k + 1) a0):=by
 intro a0 k
 have ih0:=impl_formOf.mono_l k
 unfold impl_formOf.f
 repeat' first
   | (with_reducible exact ih0 _ _ _ _)
   | (with_reducible exact impl_insForms.mono _)
   | (with_reducible exact LeO.refl _)
   | (with_reducible exact LeO.none _)
   | (with_reducible refine LeO.ite ?_ ?_)
   | (with_reducible refine LeO.bind ?_ (fun _ => ?_))
   | exact ih0 _ _ _ _
   | exact impl_insForms.mono _
   | exact LeO.none _
   | refine LeO.ite ?_ ?_
   | refine LeO.bind ?_ (fun _ => ?_)
set_option maxHeartbeats 8000000 in
set_option maxRecDepth 100000 in
theorem impl_formOf.calls (k : Nat) (a0 : ByteArray) (r1 : ByteArray) (r2 : Int) (r3 : Int) (r4 : Bool) (w : World) (hT_ : Tab w) (h : impl_formOf.f k a0 = some (r1,r2,r3,r4)) :
  Calls Tryd.prog 32 #[.string a0] w fun e w' => e = .returned (.tuple #[.agg #[.string r1,.int .i64 r2,.int .i64 r3],.bool r4]) ∧ Below w.heap.size w w':=by
 have hu46:=Tryd.underlying46
 have HB:=Aside0.mk (Below.refl w.heap.size w)
 have H : ((impl_insForms.f k).bind fun t143 => (impl_formOf.l0 k a0 t143 (t143.length : Int) 0)) = some (r1,r2,r3,r4):=h
 clear h
 replace H:=Option.bind_eq_some_iff.mp H
 obtain ⟨t143,A20,H⟩:=H
 replace H : (impl_formOf.l0 k a0 t143 (t143.length : Int) 0) = some (r1,r2,r3,r4):=H
 have A2:=Aside0.mk A20
 clear A20
 have H':=Aside0.mk H
 clear H
 go_enter Tryd.func32,Tryd.ntmps32
 go_wp2_with (first | ((with_reducible refine gate_dst (N:=2) rfl ?_);refine Up.bx 2 46 #[.string (⟨#[]⟩ : ByteArray),.int .i64 0,.int .i64 0] ?_;intro gb142 hg w3 hbox hb;have n0_:=Up.BB HB hb;have n1_:=Aside0.mk (hbox);have n2_:=Up.gw hg HB;have n3_:=Up.gw hg HB;clear HB;have HB:=n0_;have BK142:=n1_;have GW142:=n2_;have GE142:=n3_;clear n0_ n1_ n2_ n3_ hb hbox hg) | ((with_reducible refine gate_callee (f:=34) rfl ?_);refine Up.gl (some 6) Tryd.func34 #[] ?_;(with_reducible refine (impl_insForms.calls (hT_:=?tab1) k  t143 _ A2.out).mono ?_);(case tab1 => exact hT_.below (Up.Bx HB));rintro e w4 ⟨v144,rfl,ho0,hb⟩;refine ⟨_,rfl,?_⟩;have n0_:=Aside0.mk (Kd.R_lower (Kd.R_newB ho0 (g:=gb142) (o:=.cells #[.string (⟨#[]⟩ : ByteArray),.int .i64 0,.int .i64 0] 46 (0,0)) (Up.Kup BK142)) (below_size (Up.Bx HB)));have n1_:=Up.KB BK142 hb;have n2_:=Aside0.mk (below_step (Up.Bx HB) hb);clear BK142 HB;have HO145:=n0_;have BK142:=n1_;have HB:=n2_;clear n0_ n1_ n2_;(try clear hb);(try clear hb2);(try clear hk);(try clear hi);(try clear ho0);obtain ⟨Ao5,co5,eo5⟩:=Kd.R_slice HO145.out;subst eo5))
 go_loopg [8] k (fun kq v8 w' => ∃ (x8_1 : Int) (x143000_1 : ByteArray) (x143001_1 : Int) (x143002_1 : Int),v8 = .int .i64 x8_1 ∧ Aside0 (impl_formOf.l0 kq a0 t143 (t143.length : Int) x8_1 = some (r1,r2,r3,r4)) ∧ Aside0 (kq ≤ k) ∧ Aside0 (Kd.R k46 46 w' w.heap.size (fun k_ => k_ ≠ gb142) (.slice Ao5 t143.length co5) t143) ∧ Aside0 (w'.heap[gb142]? = some (.cells #[.string x143000_1,.int .i64 x143001_1,.int .i64 x143002_1] 46 (0,0))) ∧ Aside0 (Below w.heap.size w w'))
 case atStart => exact ⟨(0),((⟨#[]⟩ : ByteArray)),(0),(0),(by first | rfl | (simp;done) | (simp [*];done)),H',⟨Nat.le_refl _⟩,⟨by (with_reducible repeat (first | apply Kd.R_alloc | apply Kd.R_drewN | apply Kd.R_drew));exact Kd.R_mono HO145.out (fun _ hk => hk.2)⟩,⟨by (with_reducible repeat (first | refine blk_drewN ?_ _ | refine blk_drew ?_ | refine blk_alloc ?_ _));exact BK142.out⟩,⟨Up.Bx HB⟩⟩
 case round =>
  clear H'
  try clear p2
  try clear c3
  obtain ⟨x8_1,x143000_1,x143001_1,x143002_1,rfl,HA,HK1,HO_6,BK142,HB⟩:=hrel
  cases gk with
  | zero => exact absurd HA.out (by simp [impl_formOf.l0])
  | succ k1 =>
   have H:=HA.out
   clear HA
   simp only [impl_formOf.l0] at H
   by_cases c6 : x8_1 < (t143.length : Int)
   ·rw [if_pos c6] at H
    have c6b0 : decide (x8_1 < (t143.length : Int)) = true:=decide_eq_true c6
    clear c6
    by_cases c7 : 0 ≤ x8_1
    ·rw [if_pos c7] at H
     have c7b0 : decide (0 ≤ x8_1) = true:=decide_eq_true c7
     clear c7
     by_cases c8 : x8_1 < (t143.length : Int)
     ·rw [if_pos c8] at H
      have c8b0 : decide (x8_1 < (t143.length : Int)) = true:=decide_eq_true c8
      clear c8
      by_cases c9 : ((rd_T46 t143 x8_1).f0).toList = a0.toList
      ·rw [if_pos c9] at H
       have c9b0 : (((rd_T46 t143 x8_1).f0).toList == a0.toList) = true:=beq_iff_eq.mpr c9
       have c9b1 : (((rd_T46 t143 x8_1).f0).toList != a0.toList) = false:=bne_eq_false_iff_eq.mpr c9
       clear c9
       simp only [Option.some.injEq,Prod.mk.injEq] at H
       obtain ⟨rfl,rfl,rfl,rfl⟩:=H
       have p146 : 0 ≤ (x8_1 : Int):=Up.od
       have q146 : x8_1 < (t143.length : Int):=Up.od
       obtain ⟨ad146,e146,hx146_0,hx146_1,hx146_2⟩:=at_T46 (Kd.R_reads' HO_6.out).2.2 x8_1 p146 q146
       cases e146
       replace p146:=eq_true p146
       replace q146:=eq_true q146
       go_wp2_with (first | ((with_reducible refine gate_dst (N:=5) rfl ?_);refine Up.bx 5 46 #[.string (⟨#[]⟩ : ByteArray),.int .i64 0,.int .i64 0] ?_;intro gb147 hg w10 hbox hb;have n0_:=Aside0.mk (Kd.R_below (Kd.R_elderB (Up.Rup HO_6) gb147 (Nat.le_of_eq hg.symm)) hb);have n1_:=Up.KB BK142 hb;have n2_:=Aside0.mk (below_step (Up.Bx HB) hb);have n3_:=Aside0.mk (hbox);have n4_:=Up.gw hg HB;have n5_:=Up.gw hg HB;have n6_:=Up.nl hg BK142;have n7_:=Up.ng hg BK142;clear HO_6 BK142 HB;have HO_6:=n0_;have BK142:=n1_;have HB:=n2_;have BK147:=n3_;have GW147:=n4_;have GE147:=n5_;have NB142_147:=n6_;have NB147_142:=n7_;clear n0_ n1_ n2_ n3_ n4_ n5_ n6_ n7_ hb hbox hg;have hnb11:=NB147_142.out;have hnc11:=NB142_147.out;have hcz12_0:=Up.c0 BK147;have hcz12_1:=Up.c1 BK147;have hcz12_2:=Up.c2 BK147;have hfz12_0:=blk_frozen BK147.out 0;have hfz12_1:=blk_frozen BK147.out 1;have hfz12_2:=blk_frozen BK147.out 2;have hcz13_0:=Up.c0 BK142;have hcz13_1:=Up.c1 BK142;have hcz13_2:=Up.c2 BK142;have hfz13_0:=blk_frozen BK142.out 0;have hfz13_1:=blk_frozen BK142.out 1;have hfz13_2:=blk_frozen BK142.out 2))
       refine bodyPost_ret (results_ct rfl _ _ gb142 46 #[.string ((rd_T46 t143 x8_1).f0),.int .i64 ((rd_T46 t143 x8_1).f1),.int .i64 ((rd_T46 t143 x8_1).f2)] (0,0) _ rfl (Up.Kx BK142) Tryd.underlying46 rfl (by kernel_rfl)) rfl ?_
       exact Up.e1 (Up.Bx HB)
      ·rw [if_neg c9] at H
       have c9b0 : (((rd_T46 t143 x8_1).f0).toList == a0.toList) = false:=beq_eq_false_iff_ne.mpr c9
       have c9b1 : (((rd_T46 t143 x8_1).f0).toList != a0.toList) = true:=bne_iff_ne.mpr c9
       have H':=Aside0.mk H
       clear H
       have p146 : 0 ≤ (x8_1 : Int):=Up.od
       have q146 : x8_1 < (t143.length : Int):=Up.od
       obtain ⟨ad146,e146,hx146_0,hx146_1,hx146_2⟩:=at_T46 (Kd.R_reads' HO_6.out).2.2 x8_1 p146 q146
       cases e146
       replace p146:=eq_true p146
       replace q146:=eq_true q146
       go_wp2_with (first | ((with_reducible refine gate_dst (N:=5) rfl ?_);refine Up.bx 5 46 #[.string (⟨#[]⟩ : ByteArray),.int .i64 0,.int .i64 0] ?_;intro gb147 hg w14 hbox hb;have n0_:=Aside0.mk (Kd.R_below (Kd.R_elderB (Up.Rup HO_6) gb147 (Nat.le_of_eq hg.symm)) hb);have n1_:=Up.KB BK142 hb;have n2_:=Aside0.mk (below_step (Up.Bx HB) hb);have n3_:=Aside0.mk (hbox);have n4_:=Up.gw hg HB;have n5_:=Up.gw hg HB;have n6_:=Up.nl hg BK142;have n7_:=Up.ng hg BK142;clear HO_6 BK142 HB;have HO_6:=n0_;have BK142:=n1_;have HB:=n2_;have BK147:=n3_;have GW147:=n4_;have GE147:=n5_;have NB142_147:=n6_;have NB147_142:=n7_;clear n0_ n1_ n2_ n3_ n4_ n5_ n6_ n7_ hb hbox hg;have hnb15:=NB147_142.out;have hnc15:=NB142_147.out;have hcz16_0:=Up.c0 BK147;have hcz16_1:=Up.c1 BK147;have hcz16_2:=Up.c2 BK147;have hfz16_0:=blk_frozen BK147.out 0;have hfz16_1:=blk_frozen BK147.out 1;have hfz16_2:=blk_frozen BK147.out 2))
       go_roundg k1
       case measure => have:=HK1.out;omega
       case rel => exact ⟨(wrap64 (x8_1 + 1)),(x143000_1),(x143001_1),(x143002_1),(by first | rfl | (simp;done) | (simp [*];done)),H',⟨by have:=HK1.out;omega⟩,⟨by (with_reducible repeat (first | apply Kd.R_alloc | apply Kd.R_drewN | apply Kd.R_drew));exact Kd.R_mono (Kd.R_far (p:=⟨gb147,2,none⟩) (Kd.R_far (p:=⟨gb147,1,none⟩) (Kd.R_far (p:=⟨gb147,0,none⟩) (Kd.R_mono HO_6.out (fun k_ hk => (⟨hk,hk.2⟩ : _ ∧ k_ ≠ gb147))) (fun _ hk => hk.2) (.string ((rd_T46 t143 x8_1).f0))) (fun _ hk => hk.2) (.int .i64 ((rd_T46 t143 x8_1).f1))) (fun _ hk => hk.2) (.int .i64 ((rd_T46 t143 x8_1).f2))) (fun _ hk => hk.1.1)⟩,⟨by (with_reducible repeat (first | refine blk_drewN ?_ _ | refine blk_drew ?_ | refine blk_alloc ?_ _));refine blk_far ?_ NB142_147.out _;(with_reducible repeat (first | refine blk_drewN ?_ _ | refine blk_drew ?_ | refine blk_alloc ?_ _));refine blk_far ?_ NB142_147.out _;(with_reducible repeat (first | refine blk_drewN ?_ _ | refine blk_drew ?_ | refine blk_alloc ?_ _));refine blk_far ?_ NB142_147.out _;(with_reducible repeat (first | refine blk_drewN ?_ _ | refine blk_drew ?_ | refine blk_alloc ?_ _));exact BK142.out⟩,⟨Up.Bx HB⟩⟩
     ·rw [if_neg c8] at H
      exact absurd H (by simp)
    ·rw [if_neg c7] at H
     exact absurd H (by simp)
   ·rw [if_neg c6] at H
    have c6b0 : decide (x8_1 < (t143.length : Int)) = false:=decide_eq_false c6
    clear c6
    simp only [Option.some.injEq,Prod.mk.injEq] at H
    obtain ⟨rfl,rfl,rfl,rfl⟩:=H
    have hcz17_0:=Up.c0 BK142
    have hcz17_1:=Up.c1 BK142
    have hcz17_2:=Up.c2 BK142
    have hfz17_0:=blk_frozen BK142.out 0
    have hfz17_1:=blk_frozen BK142.out 1
    have hfz17_2:=blk_frozen BK142.out 2
    go_wp2
    refine bodyPost_ret (results_ct rfl _ _ gb142 46 #[.string (⟨#[]⟩ : ByteArray),.int .i64 0,.int .i64 0] (0,0) _ rfl (Up.Kx BK142) Tryd.underlying46 rfl (by kernel_rfl)) rfl ?_
    exact Up.e1 (Up.Bx HB)

/-! ### impl_limitOk: function 33 -/
def impl_limitOk.f (a0 : Int) (a1 : Int) : Option (Bool):=if a1 = 0 then (some true) else (if a1 > 0 then (some (decide (a1 < a0))) else (some false))
set_option maxHeartbeats 8000000 in
set_option maxRecDepth 100000 in
theorem impl_limitOk.calls (a0 : Int) (a1 : Int) (r : Bool) (w : World) (h : impl_limitOk.f a0 a1 = some r) :
  Calls Tryd.prog 33 #[.int .i64 a0,.int .i64 a1] w fun e w' => e = .returned (.bool r) ∧ Drawn0 w w':=by
 have H : (if a1 = 0 then (some true) else (if a1 > 0 then (some (decide (a1 < a0))) else (some false))) = some r:=h
 clear h
 by_cases c3 : a1 = 0
 ·rw [if_pos c3] at H
  have c3b0 : (a1 == 0) = true:=beq_iff_eq.mpr c3
  have c3b1 : (a1 != 0) = false:=bne_eq_false_iff_eq.mpr c3
  clear c3
  obtain rfl:=Option.some.inj H
  go_enter Tryd.func33,Tryd.ntmps33
  go_wp2
  go_ret
  exact Up.e2
 ·rw [if_neg c3] at H
  have c3b0 : (a1 == 0) = false:=beq_eq_false_iff_ne.mpr c3
  have c3b1 : (a1 != 0) = true:=bne_iff_ne.mpr c3
  by_cases c4 : a1 > 0
  ·rw [if_pos c4] at H
   have c4b0 : decide (0 < a1) = true:=decide_eq_true c4
   clear c4
   obtain rfl:=Option.some.inj H
   go_enter Tryd.func33,Tryd.ntmps33
   go_wp2
   go_ret
   exact Up.e2
  ·rw [if_neg c4] at H
   have c4b0 : decide (0 < a1) = false:=decide_eq_false c4
   clear c4
   obtain rfl:=Option.some.inj H
   go_enter Tryd.func33,Tryd.ntmps33
   go_wp2
   go_ret
   exact Up.e2

/-! ### impl_InsOk: function 14 -/
def impl_InsOk.f (k : Nat) (a0_0 : ByteArray) (a0_1 : Int) (a0_2 : Int) : Option (Bool):=(impl_formOf.f k a0_0).bind fun bt149 => (if bt149.2.2.2 = true then ((impl_limitOk.f bt149.2.1 a0_1).bind fun t154 => (if t154 = true then ((impl_limitOk.f bt149.2.2.1 a0_2).bind fun t155 => (some t155)) else (some false))) else (some false))
theorem impl_InsOk.mono : ∀ a0 a1 a2 k,LeO (impl_InsOk.f k a0 a1 a2) (impl_InsOk.f (k + 1) a0 a1 a2):=by
 intro a0 a1 a2 k
 unfold impl_InsOk.f
 repeat' first
   | (with_reducible exact impl_formOf.mono _ _)
   | (with_reducible exact LeO.refl _)
   | (with_reducible exact LeO.none _)
   | (with_reducible refine LeO.ite ?_ ?_)
   | (with_reducible refine LeO.bind ?_ (fun _ => ?_))
   | exact impl_formOf.mono _ _
   | exact LeO.none _
   | refine LeO.ite ?_ ?_
   | refine LeO.bind ?_ (fun _ => ?_)
set_option maxHeartbeats 8000000 in
set_option maxRecDepth 100000 in
theorem impl_InsOk.calls (k : Nat) (a0_0 : ByteArray) (a0_1 : Int) (a0_2 : Int) (r : Bool) (w : World) (hT_ : Tab w) (h : impl_InsOk.f k a0_0 a0_1 a0_2 = some r) :
  Calls Tryd.prog 14 #[.agg #[.string a0_0,.int .i64 a0_1,.int .i64 a0_2]] w fun e w' => e = .returned (.bool r) ∧ Below w.heap.size w w':=by
 have hu26:=Tryd.underlying26
 have hu46:=Tryd.underlying46
 have HB:=Aside0.mk (Below.refl w.heap.size w)
 have H : ((impl_formOf.f k a0_0).bind fun bt149 => (if bt149.2.2.2 = true then ((impl_limitOk.f bt149.2.1 a0_1).bind fun t154 => (if t154 = true then ((impl_limitOk.f bt149.2.2.1 a0_2).bind fun t155 => (some t155)) else (some false))) else (some false))) = some r:=h
 clear h
 replace H:=Option.bind_eq_some_iff.mp H
 obtain ⟨⟨t149,t150,t151,t152⟩,A20,H⟩:=H
 replace H : (if t152 = true then ((impl_limitOk.f t150 a0_1).bind fun t154 => (if t154 = true then ((impl_limitOk.f t151 a0_2).bind fun t155 => (some t155)) else (some false))) else (some false)) = some r:=H
 have A2:=Aside0.mk A20
 clear A20
 by_cases c3 : t152 = true
 ·subst c3
  have H1 : ((impl_limitOk.f t150 a0_1).bind fun t154 => (if t154 = true then ((impl_limitOk.f t151 a0_2).bind fun t155 => (some t155)) else (some false))) = some r:=by rw [if_pos rfl] at H;exact H
  clear H
  have H:=H1
  clear H1
  replace H:=Option.bind_eq_some_iff.mp H
  obtain ⟨t154,A40,H⟩:=H
  replace H : (if t154 = true then ((impl_limitOk.f t151 a0_2).bind fun t155 => (some t155)) else (some false)) = some r:=H
  have A4:=Aside0.mk A40
  clear A40
  by_cases c5 : t154 = true
  ·subst c5
   have H1 : ((impl_limitOk.f t151 a0_2).bind fun t155 => (some t155)) = some r:=by rw [if_pos rfl] at H;exact H
   clear H
   have H:=H1
   clear H1
   replace H:=Option.bind_eq_some_iff.mp H
   obtain ⟨t155,A60,H⟩:=H
   replace H : (some t155) = some r:=H
   have A6:=Aside0.mk A60
   clear A60
   obtain rfl:=Option.some.inj H
   go_enter Tryd.func14,Tryd.ntmps14
   go_wp2_with (first | ((with_reducible refine gate_dst (N:=1) rfl ?_);refine Up.bx 1 26 #[.string a0_0,.int .i64 a0_1,.int .i64 a0_2] ?_;intro gb148 hg w7 hbox hb;have n0_:=Up.BB HB hb;have n1_:=Aside0.mk (hbox);have n2_:=Up.gw hg HB;have n3_:=Up.gw hg HB;clear HB;have HB:=n0_;have BK148:=n1_;have GW148:=n2_;have GE148:=n3_;clear n0_ n1_ n2_ n3_ hb hbox hg;have hcz8_0:=Up.c0 BK148;have hcz8_1:=Up.c1 BK148;have hcz8_2:=Up.c2 BK148;have hfz8_0:=blk_frozen BK148.out 0;have hfz8_1:=blk_frozen BK148.out 1;have hfz8_2:=blk_frozen BK148.out 2) | ((with_reducible refine gate_callee (f:=32) rfl ?_);refine Up.gl (some 8) Tryd.func32 #[.string a0_0] ?_;(with_reducible refine (impl_formOf.calls (hT_:=?tab1) k a0_0 t149 t150 t151 true _ A2.out).mono ?_);(case tab1 => exact hT_.below (Up.Bx HB));rintro e w9 ⟨rfl,hb⟩;refine ⟨_,rfl,?_⟩;have n0_:=Up.KB BK148 hb;have n1_:=Aside0.mk (below_step (Up.Bx HB) hb);clear BK148 HB;have BK148:=n0_;have HB:=n1_;clear n0_ n1_;(try clear hb);(try clear hb2);(try clear hk);(try clear hi)) | ((with_reducible refine gate_dst (N:=3) rfl ?_);refine Up.bx 3 46 #[.string (⟨#[]⟩ : ByteArray),.int .i64 0,.int .i64 0] ?_;intro gb153 hg w10 hbox hb;have n0_:=Up.KB BK148 hb;have n1_:=Aside0.mk (below_step (Up.Bx HB) hb);have n2_:=Aside0.mk (hbox);have n3_:=Up.gw hg HB;have n4_:=Up.gw hg HB;have n5_:=Up.nl hg BK148;have n6_:=Up.ng hg BK148;clear BK148 HB;have BK148:=n0_;have HB:=n1_;have BK153:=n2_;have GW153:=n3_;have GE153:=n4_;have NB148_153:=n5_;have NB153_148:=n6_;clear n0_ n1_ n2_ n3_ n4_ n5_ n6_ hb hbox hg;have hnb11:=NB153_148.out;have hnc11:=NB148_153.out;have hcz12_0:=Up.c0 BK153;have hcz12_1:=Up.c1 BK153;have hcz12_2:=Up.c2 BK153;have hfz12_0:=blk_frozen BK153.out 0;have hfz12_1:=blk_frozen BK153.out 1;have hfz12_2:=blk_frozen BK153.out 2;have hcz13_0:=Up.c0 BK148;have hcz13_1:=Up.c1 BK148;have hcz13_2:=Up.c2 BK148;have hfz13_0:=blk_frozen BK148.out 0;have hfz13_1:=blk_frozen BK148.out 1;have hfz13_2:=blk_frozen BK148.out 2) | (go_at_call 33;(with_reducible refine (impl_limitOk.calls t150 a0_1 true _ A4.out).mono ?_);rintro e w' ⟨rfl,⟨nd,rfl⟩⟩) | (go_at_call 33;(with_reducible refine (impl_limitOk.calls t151 a0_2 t155 _ A6.out).mono ?_);rintro e w' ⟨rfl,⟨nd,rfl⟩⟩))
   go_ret
   exact Up.e1 (Up.Bx HB)
  ·replace c5:=Bool.eq_false_iff.mpr c5
   subst c5
   have H1 : (some false) = some r:=by rw [if_neg (show ¬ (false = true) by decide)] at H;exact H
   clear H
   have H:=H1
   clear H1
   obtain rfl:=Option.some.inj H
   go_enter Tryd.func14,Tryd.ntmps14
   go_wp2_with (first | ((with_reducible refine gate_dst (N:=1) rfl ?_);refine Up.bx 1 26 #[.string a0_0,.int .i64 a0_1,.int .i64 a0_2] ?_;intro gb148 hg w14 hbox hb;have n0_:=Up.BB HB hb;have n1_:=Aside0.mk (hbox);have n2_:=Up.gw hg HB;have n3_:=Up.gw hg HB;clear HB;have HB:=n0_;have BK148:=n1_;have GW148:=n2_;have GE148:=n3_;clear n0_ n1_ n2_ n3_ hb hbox hg;have hcz15_0:=Up.c0 BK148;have hcz15_1:=Up.c1 BK148;have hcz15_2:=Up.c2 BK148;have hfz15_0:=blk_frozen BK148.out 0;have hfz15_1:=blk_frozen BK148.out 1;have hfz15_2:=blk_frozen BK148.out 2) | ((with_reducible refine gate_callee (f:=32) rfl ?_);refine Up.gl (some 8) Tryd.func32 #[.string a0_0] ?_;(with_reducible refine (impl_formOf.calls (hT_:=?tab1) k a0_0 t149 t150 t151 true _ A2.out).mono ?_);(case tab1 => exact hT_.below (Up.Bx HB));rintro e w16 ⟨rfl,hb⟩;refine ⟨_,rfl,?_⟩;have n0_:=Up.KB BK148 hb;have n1_:=Aside0.mk (below_step (Up.Bx HB) hb);clear BK148 HB;have BK148:=n0_;have HB:=n1_;clear n0_ n1_;(try clear hb);(try clear hb2);(try clear hk);(try clear hi)) | ((with_reducible refine gate_dst (N:=3) rfl ?_);refine Up.bx 3 46 #[.string (⟨#[]⟩ : ByteArray),.int .i64 0,.int .i64 0] ?_;intro gb153 hg w17 hbox hb;have n0_:=Up.KB BK148 hb;have n1_:=Aside0.mk (below_step (Up.Bx HB) hb);have n2_:=Aside0.mk (hbox);have n3_:=Up.gw hg HB;have n4_:=Up.gw hg HB;have n5_:=Up.nl hg BK148;have n6_:=Up.ng hg BK148;clear BK148 HB;have BK148:=n0_;have HB:=n1_;have BK153:=n2_;have GW153:=n3_;have GE153:=n4_;have NB148_153:=n5_;have NB153_148:=n6_;clear n0_ n1_ n2_ n3_ n4_ n5_ n6_ hb hbox hg;have hnb18:=NB153_148.out;have hnc18:=NB148_153.out;have hcz19_0:=Up.c0 BK153;have hcz19_1:=Up.c1 BK153;have hcz19_2:=Up.c2 BK153;have hfz19_0:=blk_frozen BK153.out 0;have hfz19_1:=blk_frozen BK153.out 1;have hfz19_2:=blk_frozen BK153.out 2;have hcz20_0:=Up.c0 BK148;have hcz20_1:=Up.c1 BK148;have hcz20_2:=Up.c2 BK148;have hfz20_0:=blk_frozen BK148.out 0;have hfz20_1:=blk_frozen BK148.out 1;have hfz20_2:=blk_frozen BK148.out 2) | (go_at_call 33;(with_reducible refine (impl_limitOk.calls t150 a0_1 false _ A4.out).mono ?_);rintro e w' ⟨rfl,⟨nd,rfl⟩⟩))
   go_ret
   exact Up.e1 (Up.Bx HB)
 ·replace c3:=Bool.eq_false_iff.mpr c3
  subst c3
  have H1 : (some false) = some r:=by rw [if_neg (show ¬ (false = true) by decide)] at H;exact H
  clear H
  have H:=H1
  clear H1
  obtain rfl:=Option.some.inj H
  go_enter Tryd.func14,Tryd.ntmps14
  go_wp2_with (first | ((with_reducible refine gate_dst (N:=1) rfl ?_);refine Up.bx 1 26 #[.string a0_0,.int .i64 a0_1,.int .i64 a0_2] ?_;intro gb148 hg w21 hbox hb;have n0_:=Up.BB HB hb;have n1_:=Aside0.mk (hbox);have n2_:=Up.gw hg HB;have n3_:=Up.gw hg HB;clear HB;have HB:=n0_;have BK148:=n1_;have GW148:=n2_;have GE148:=n3_;clear n0_ n1_ n2_ n3_ hb hbox hg;have hcz22_0:=Up.c0 BK148;have hcz22_1:=Up.c1 BK148;have hcz22_2:=Up.c2 BK148;have hfz22_0:=blk_frozen BK148.out 0;have hfz22_1:=blk_frozen BK148.out 1;have hfz22_2:=blk_frozen BK148.out 2) | ((with_reducible refine gate_callee (f:=32) rfl ?_);refine Up.gl (some 8) Tryd.func32 #[.string a0_0] ?_;(with_reducible refine (impl_formOf.calls (hT_:=?tab1) k a0_0 t149 t150 t151 false _ A2.out).mono ?_);(case tab1 => exact hT_.below (Up.Bx HB));rintro e w23 ⟨rfl,hb⟩;refine ⟨_,rfl,?_⟩;have n0_:=Up.KB BK148 hb;have n1_:=Aside0.mk (below_step (Up.Bx HB) hb);clear BK148 HB;have BK148:=n0_;have HB:=n1_;clear n0_ n1_;(try clear hb);(try clear hb2);(try clear hk);(try clear hi)) | ((with_reducible refine gate_dst (N:=3) rfl ?_);refine Up.bx 3 46 #[.string (⟨#[]⟩ : ByteArray),.int .i64 0,.int .i64 0] ?_;intro gb153 hg w24 hbox hb;have n0_:=Up.KB BK148 hb;have n1_:=Aside0.mk (below_step (Up.Bx HB) hb);have n2_:=Aside0.mk (hbox);have n3_:=Up.gw hg HB;have n4_:=Up.gw hg HB;have n5_:=Up.nl hg BK148;have n6_:=Up.ng hg BK148;clear BK148 HB;have BK148:=n0_;have HB:=n1_;have BK153:=n2_;have GW153:=n3_;have GE153:=n4_;have NB148_153:=n5_;have NB153_148:=n6_;clear n0_ n1_ n2_ n3_ n4_ n5_ n6_ hb hbox hg;have hnb25:=NB153_148.out;have hnc25:=NB148_153.out;have hcz26_0:=Up.c0 BK153;have hcz26_1:=Up.c1 BK153;have hcz26_2:=Up.c2 BK153;have hfz26_0:=blk_frozen BK153.out 0;have hfz26_1:=blk_frozen BK153.out 1;have hfz26_2:=blk_frozen BK153.out 2))
  go_ret
  exact Up.e1 (Up.Bx HB)

/-! ### impl_insForm_many: function 48 -/
def impl_insForm_many.f (a0_0 : ByteArray) (a0_1 : Int) (a0_2 : Int) : Option (Int):=if a0_1 = 0 then (some 0) else (if a0_2 = 0 then (some 1) else (some 2))
set_option maxHeartbeats 8000000 in
set_option maxRecDepth 100000 in
theorem impl_insForm_many.calls (a0_0 : ByteArray) (a0_1 : Int) (a0_2 : Int) (r : Int) (w : World) (h : impl_insForm_many.f a0_0 a0_1 a0_2 = some r) :
  Calls Tryd.prog 48 #[.agg #[.string a0_0,.int .i64 a0_1,.int .i64 a0_2]] w fun e w' => e = .returned (.int .i64 r) ∧ Below w.heap.size w w':=by
 have hu46:=Tryd.underlying46
 have HB:=Aside0.mk (Below.refl w.heap.size w)
 have H : (if a0_1 = 0 then (some 0) else (if a0_2 = 0 then (some 1) else (some 2))) = some r:=h
 clear h
 by_cases c2 : a0_1 = 0
 ·rw [if_pos c2] at H
  have c2b0 : (a0_1 == 0) = true:=beq_iff_eq.mpr c2
  have c2b1 : (a0_1 != 0) = false:=bne_eq_false_iff_eq.mpr c2
  clear c2
  obtain rfl:=Option.some.inj H
  go_enter Tryd.func48,Tryd.ntmps48
  go_wp2_with (first | ((with_reducible refine gate_dst (N:=1) rfl ?_);refine Up.bx 1 46 #[.string a0_0,.int .i64 a0_1,.int .i64 a0_2] ?_;intro gb156 hg w3 hbox hb;have n0_:=Up.BB HB hb;have n1_:=Aside0.mk (hbox);have n2_:=Up.gw hg HB;have n3_:=Up.gw hg HB;clear HB;have HB:=n0_;have BK156:=n1_;have GW156:=n2_;have GE156:=n3_;clear n0_ n1_ n2_ n3_ hb hbox hg;have hcz4_0:=Up.c0 BK156;have hcz4_1:=Up.c1 BK156;have hcz4_2:=Up.c2 BK156;have hfz4_0:=blk_frozen BK156.out 0;have hfz4_1:=blk_frozen BK156.out 1;have hfz4_2:=blk_frozen BK156.out 2))
  go_ret
  exact Up.e1 (Up.Bx HB)
 ·rw [if_neg c2] at H
  have c2b0 : (a0_1 == 0) = false:=beq_eq_false_iff_ne.mpr c2
  have c2b1 : (a0_1 != 0) = true:=bne_iff_ne.mpr c2
  by_cases c5 : a0_2 = 0
  ·rw [if_pos c5] at H
   have c5b0 : (a0_2 == 0) = true:=beq_iff_eq.mpr c5
   have c5b1 : (a0_2 != 0) = false:=bne_eq_false_iff_eq.mpr c5
   clear c5
   obtain rfl:=Option.some.inj H
   go_enter Tryd.func48,Tryd.ntmps48
   go_wp2_with (first | ((with_reducible refine gate_dst (N:=1) rfl ?_);refine Up.bx 1 46 #[.string a0_0,.int .i64 a0_1,.int .i64 a0_2] ?_;intro gb156 hg w6 hbox hb;have n0_:=Up.BB HB hb;have n1_:=Aside0.mk (hbox);have n2_:=Up.gw hg HB;have n3_:=Up.gw hg HB;clear HB;have HB:=n0_;have BK156:=n1_;have GW156:=n2_;have GE156:=n3_;clear n0_ n1_ n2_ n3_ hb hbox hg;have hcz7_0:=Up.c0 BK156;have hcz7_1:=Up.c1 BK156;have hcz7_2:=Up.c2 BK156;have hfz7_0:=blk_frozen BK156.out 0;have hfz7_1:=blk_frozen BK156.out 1;have hfz7_2:=blk_frozen BK156.out 2))
   go_ret
   exact Up.e1 (Up.Bx HB)
  ·rw [if_neg c5] at H
   have c5b0 : (a0_2 == 0) = false:=beq_eq_false_iff_ne.mpr c5
   have c5b1 : (a0_2 != 0) = true:=bne_iff_ne.mpr c5
   obtain rfl:=Option.some.inj H
   go_enter Tryd.func48,Tryd.ntmps48
   go_wp2_with (first | ((with_reducible refine gate_dst (N:=1) rfl ?_);refine Up.bx 1 46 #[.string a0_0,.int .i64 a0_1,.int .i64 a0_2] ?_;intro gb156 hg w8 hbox hb;have n0_:=Up.BB HB hb;have n1_:=Aside0.mk (hbox);have n2_:=Up.gw hg HB;have n3_:=Up.gw hg HB;clear HB;have HB:=n0_;have BK156:=n1_;have GW156:=n2_;have GE156:=n3_;clear n0_ n1_ n2_ n3_ hb hbox hg;have hcz9_0:=Up.c0 BK156;have hcz9_1:=Up.c1 BK156;have hcz9_2:=Up.c2 BK156;have hfz9_0:=blk_frozen BK156.out 0;have hfz9_1:=blk_frozen BK156.out 1;have hfz9_2:=blk_frozen BK156.out 2))
   go_ret
   exact Up.e1 (Up.Bx HB)

/-! ### strconv_Itoa: function 52 -/

def strconv_Itoa.f (n : Int) : Option ByteArray := if -9223372036854775808 ≤ n ∧ n ≤ 9223372036854775807 then some ⟨(Lib.itoa n).toArray⟩ else none
theorem below_grown_ (w : World) (k : Nat) (os : Array Obj) : Below w.heap.size w (Sort.grow (w.drewN k) os) :=
  ⟨rfl, rfl, rfl, by simp [Sort.grow, World.drewN], fun i hi => by simp [Sort.grow, World.drewN, Array.getElem?_append_left hi]⟩
theorem strconv_Itoa.calls (a0 : Int) (r : ByteArray) (w : World) (hT_ : Tab w) (h : strconv_Itoa.f a0 = some r) :
    Calls Tryd.prog 52 #[.int .i64 a0] w fun e w' => e = .returned (.string r) ∧ Below w.heap.size w w' := by
  unfold strconv_Itoa.f at h
  split at h
  · rename_i hc
    obtain rfl := Option.some.inj h
    refine (Tryd.strconv_Itoa a0 hc.1 hc.2 w hT_.f2).mono ?_
    rintro e w' ⟨rfl, k, os, rfl⟩
    exact ⟨rfl, below_grown_ _ k os⟩
  · cases h

/-! ### impl_insText: function 39 -/
def impl_insText.j0 : Nat → ByteArray → ByteArray → Int → Int → ByteArray → Int → Int → Option (ByteArray)
 | 0,_,_,_,_,_,_,_ => none
 | k + 1,x5,x158000,x158001,x158002,x163000,x163001,x163002 => (impl_insForm_many.f x163000 x163001 x163002).bind fun t165 => (if t165 > 1 then ((strconv_Itoa.f x158002).bind fun t166 => (if 1 + t166.size ≤ 9223372036854775807 then (if x5.size + ((⟨#[32]⟩ : ByteArray) ++ t166).size ≤ 9223372036854775807 then (some (x5 ++ ((⟨#[32]⟩ : ByteArray) ++ t166))) else (none)) else (none))) else (some x5))
def impl_insText.f (k : Nat) (a0_0 : ByteArray) (a0_1 : Int) (a0_2 : Int) : Option (ByteArray):=(impl_formOf.f k a0_0).bind fun bt158 => ((impl_insForm_many.f bt158.1 bt158.2.1 bt158.2.2.1).bind fun t163 => (if t163 > 0 then ((strconv_Itoa.f a0_1).bind fun t164 => (if 1 + t164.size ≤ 9223372036854775807 then (if a0_0.size + ((⟨#[32]⟩ : ByteArray) ++ t164).size ≤ 9223372036854775807 then (impl_insText.j0 k (a0_0 ++ ((⟨#[32]⟩ : ByteArray) ++ t164)) a0_0 a0_1 a0_2 bt158.1 bt158.2.1 bt158.2.2.1) else (none)) else (none))) else (impl_insText.j0 k a0_0 a0_0 a0_1 a0_2 bt158.1 bt158.2.1 bt158.2.2.1)))
theorem impl_insText.mono_l : ∀ k,(∀ y0 y1 y2 y3 y4 y5 y6,LeO (impl_insText.j0 k y0 y1 y2 y3 y4 y5 y6) (impl_insText.j0 (k + 1) y0 y1 y2 y3 y4 y5 y6))
 | 0 => fun _ _ _ _ _ _ _ r h => by simp [impl_insText.j0] at h
 | k + 1 => by
  have ih0:=impl_insText.mono_l k
  ·intro y0 y1 y2 y3 y4 y5 y6
   unfold impl_insText.j0
   repeat' first
   | (with_reducible exact ih0 _ _ _ _ _ _ _)
   | (with_reducible exact impl_formOf.mono _ _)
   | (with_reducible exact LeO.refl _)
   | (with_reducible exact LeO.none _)
   | (with_reducible refine LeO.ite ?_ ?_)
   | (with_reducible refine LeO.bind ?_ (fun _ => ?_))
   | exact ih0 _ _ _ _ _ _ _
   | exact impl_formOf.mono _ _
   | exact LeO.none _
   | refine LeO.ite ?_ ?_
   | refine LeO.bind ?_ (fun _ => ?_)
theorem impl_insText.mono : ∀ a0 a1 a2 k,LeO (impl_insText.f k a0 a1 a2) (impl_insText.f (k + 1) a0 a1 a2):=by
 intro a0 a1 a2 k
 have ih0:=impl_insText.mono_l k
 unfold impl_insText.f
 repeat' first
   | (with_reducible exact ih0 _ _ _ _ _ _ _)
   | (with_reducible exact impl_formOf.mono _ _)
   | (with_reducible exact LeO.refl _)
   | (with_reducible exact LeO.none _)
   | (with_reducible refine LeO.ite ?_ ?_)
   | (with_reducible refine LeO.bind ?_ (fun _ => ?_))
   | exact ih0 _ _ _ _ _ _ _
   | exact impl_formOf.mono _ _
   | exact LeO.none _
   | refine LeO.ite ?_ ?_
   | refine LeO.bind ?_ (fun _ => ?_)
set_option maxHeartbeats 8000000 in
set_option maxRecDepth 100000 in
theorem impl_insText.calls (k : Nat) (a0_0 : ByteArray) (a0_1 : Int) (a0_2 : Int) (r : ByteArray) (w : World) (hT_ : Tab w) (h : impl_insText.f k a0_0 a0_1 a0_2 = some r) :
  Calls Tryd.prog 39 #[.agg #[.string a0_0,.int .i64 a0_1,.int .i64 a0_2]] w fun e w' => e = .returned (.string r) ∧ Below w.heap.size w w':=by
 have hu26:=Tryd.underlying26
 have hu46:=Tryd.underlying46
 have HB:=Aside0.mk (Below.refl w.heap.size w)
 have H : ((impl_formOf.f k a0_0).bind fun bt158 => ((impl_insForm_many.f bt158.1 bt158.2.1 bt158.2.2.1).bind fun t163 => (if t163 > 0 then ((strconv_Itoa.f a0_1).bind fun t164 => (if 1 + t164.size ≤ 9223372036854775807 then (if a0_0.size + ((⟨#[32]⟩ : ByteArray) ++ t164).size ≤ 9223372036854775807 then (impl_insText.j0 k (a0_0 ++ ((⟨#[32]⟩ : ByteArray) ++ t164)) a0_0 a0_1 a0_2 bt158.1 bt158.2.1 bt158.2.2.1) else (none)) else (none))) else (impl_insText.j0 k a0_0 a0_0 a0_1 a0_2 bt158.1 bt158.2.1 bt158.2.2.1)))) = some r:=h
 clear h
 replace H:=Option.bind_eq_some_iff.mp H
 obtain ⟨⟨t158,t159,t160,t161⟩,A20,H⟩:=H
 replace H : ((impl_insForm_many.f t158 t159 t160).bind fun t163 => (if t163 > 0 then ((strconv_Itoa.f a0_1).bind fun t164 => (if 1 + t164.size ≤ 9223372036854775807 then (if a0_0.size + ((⟨#[32]⟩ : ByteArray) ++ t164).size ≤ 9223372036854775807 then (impl_insText.j0 k (a0_0 ++ ((⟨#[32]⟩ : ByteArray) ++ t164)) a0_0 a0_1 a0_2 t158 t159 t160) else (none)) else (none))) else (impl_insText.j0 k a0_0 a0_0 a0_1 a0_2 t158 t159 t160))) = some r:=H
 have A2:=Aside0.mk A20
 clear A20
 replace H:=Option.bind_eq_some_iff.mp H
 obtain ⟨t163,A30,H⟩:=H
 replace H : (if t163 > 0 then ((strconv_Itoa.f a0_1).bind fun t164 => (if 1 + t164.size ≤ 9223372036854775807 then (if a0_0.size + ((⟨#[32]⟩ : ByteArray) ++ t164).size ≤ 9223372036854775807 then (impl_insText.j0 k (a0_0 ++ ((⟨#[32]⟩ : ByteArray) ++ t164)) a0_0 a0_1 a0_2 t158 t159 t160) else (none)) else (none))) else (impl_insText.j0 k a0_0 a0_0 a0_1 a0_2 t158 t159 t160)) = some r:=H
 have A3:=Aside0.mk A30
 clear A30
 have HC4:=Aside0.mk H
 clear H
 go_enter Tryd.func39,Tryd.ntmps39
 go_upto_if 16 with (first | ((with_reducible refine gate_dst (N:=1) rfl ?_);refine Up.bx 1 26 #[.string a0_0,.int .i64 a0_1,.int .i64 a0_2] ?_;intro gb157 hg w5 hbox hb;have n0_:=Up.BB HB hb;have n1_:=Aside0.mk (hbox);have n2_:=Up.gw hg HB;have n3_:=Up.gw hg HB;clear HB;have HB:=n0_;have BK157:=n1_;have GW157:=n2_;have GE157:=n3_;clear n0_ n1_ n2_ n3_ hb hbox hg;have hcz6_0:=Up.c0 BK157;have hcz6_1:=Up.c1 BK157;have hcz6_2:=Up.c2 BK157;have hfz6_0:=blk_frozen BK157.out 0;have hfz6_1:=blk_frozen BK157.out 1;have hfz6_2:=blk_frozen BK157.out 2) | ((with_reducible refine gate_callee (f:=32) rfl ?_);refine Up.gl (some 9) Tryd.func32 #[.string a0_0] ?_;(with_reducible refine (impl_formOf.calls (hT_:=?tab1) k a0_0 t158 t159 t160 t161 _ A2.out).mono ?_);(case tab1 => exact hT_.below (Up.Bx HB));rintro e w7 ⟨rfl,hb⟩;refine ⟨_,rfl,?_⟩;have n0_:=Up.KB BK157 hb;have n1_:=Aside0.mk (below_step (Up.Bx HB) hb);clear BK157 HB;have BK157:=n0_;have HB:=n1_;clear n0_ n1_;(try clear hb);(try clear hb2);(try clear hk);(try clear hi)) | ((with_reducible refine gate_dst (N:=3) rfl ?_);refine Up.bx 3 46 #[.string (⟨#[]⟩ : ByteArray),.int .i64 0,.int .i64 0] ?_;intro gb162 hg w8 hbox hb;have n0_:=Up.KB BK157 hb;have n1_:=Aside0.mk (below_step (Up.Bx HB) hb);have n2_:=Aside0.mk (hbox);have n3_:=Up.gw hg HB;have n4_:=Up.gw hg HB;have n5_:=Up.nl hg BK157;have n6_:=Up.ng hg BK157;clear BK157 HB;have BK157:=n0_;have HB:=n1_;have BK162:=n2_;have GW162:=n3_;have GE162:=n4_;have NB157_162:=n5_;have NB162_157:=n6_;clear n0_ n1_ n2_ n3_ n4_ n5_ n6_ hb hbox hg;have hnb9:=NB162_157.out;have hnc9:=NB157_162.out;have hcz10_0:=Up.c0 BK162;have hcz10_1:=Up.c1 BK162;have hcz10_2:=Up.c2 BK162;have hfz10_0:=blk_frozen BK162.out 0;have hfz10_1:=blk_frozen BK162.out 1;have hfz10_2:=blk_frozen BK162.out 2;have hcz11_0:=Up.c0 BK157;have hcz11_1:=Up.c1 BK157;have hcz11_2:=Up.c2 BK157;have hfz11_0:=blk_frozen BK157.out 0;have hfz11_1:=blk_frozen BK157.out 1;have hfz11_2:=blk_frozen BK157.out 2) | ((with_reducible refine gate_callee (f:=48) rfl ?_);refine Up.gl (some 15) Tryd.func48 #[.agg #[.string t158,.int .i64 t159,.int .i64 t160]] ?_;(with_reducible refine (impl_insForm_many.calls t158 t159 t160 t163 _ A3.out).mono ?_);rintro e w12 ⟨rfl,hb⟩;refine ⟨_,rfl,?_⟩;have n0_:=Aside0.mk (blk_below (g:=gb157) (o:=.cells #[.string a0_0,.int .i64 a0_1,.int .i64 a0_2] 26 (0,0)) (Up.Kx BK157) hb);have n1_:=Aside0.mk (blk_below (g:=gb162) (o:=.cells #[.string t158,.int .i64 t159,.int .i64 t160] 46 (0,0)) (Up.Kx BK162) hb);have n2_:=Aside0.mk (below_step (Up.Bx HB) hb);clear BK157 BK162 HB;have BK157:=n0_;have BK162:=n1_;have HB:=n2_;clear n0_ n1_ n2_;(try clear hb);(try clear hb2);(try clear hk);(try clear hi)))
 (try simp only [Act.put,List.setIfInBounds_toArray,List.set_cons_zero,List.set_cons_succ])
 go_cut [5] (fun v5 wc => ∃ (kq : Nat) (x5_3 : ByteArray),v5 = .string x5_3 ∧ Aside0 (impl_insText.j0 kq x5_3 a0_0 a0_1 a0_2 t158 t159 t160 = some r) ∧ Aside0 (kq ≤ k) ∧ Aside0 (wc.heap[gb157]? = some (.cells #[.string a0_0,.int .i64 a0_1,.int .i64 a0_2] 26 (0,0))) ∧ Aside0 (wc.heap[gb162]? = some (.cells #[.string t158,.int .i64 t159,.int .i64 t160] 46 (0,0))) ∧ Aside0 (Below w.heap.size w wc))
 case first =>
  have H:=HC4.out
  clear HC4
  by_cases c13 : t163 > 0
  ·rw [if_pos c13] at H
   have c13b0 : decide (0 < t163) = true:=decide_eq_true c13
   clear c13
   (first | rw [c13b0] | (simp only [i64_w,i32_w];rw [c13b0]) | skip)
   replace H:=Option.bind_eq_some_iff.mp H
   obtain ⟨t164,A140,H⟩:=H
   replace H : (if 1 + t164.size ≤ 9223372036854775807 then (if a0_0.size + ((⟨#[32]⟩ : ByteArray) ++ t164).size ≤ 9223372036854775807 then (impl_insText.j0 k (a0_0 ++ ((⟨#[32]⟩ : ByteArray) ++ t164)) a0_0 a0_1 a0_2 t158 t159 t160) else (none)) else (none)) = some r:=H
   have A14:=Aside0.mk A140
   clear A140
   by_cases c15 : 1 + t164.size ≤ 9223372036854775807
   ·rw [if_pos c15] at H
    have c15b0:=eq_true c15
    have c15b1 : decide (1 + t164.size ≤ 9223372036854775807) = true:=decide_eq_true c15
    try have c15b2 : (9223372036854775807 < 1 + t164.size) = False:=eq_false (Nat.not_lt.2 c15)
    by_cases c16 : a0_0.size + ((⟨#[32]⟩ : ByteArray) ++ t164).size ≤ 9223372036854775807
    ·rw [if_pos c16] at H
     have hzc16_ : (9223372036854775807 < a0_0.size + (1 + t164.size)) = False:=eq_false (by have h_:=c16;simp only [ByteArray.size_append] at h_;have h0_ : (⟨#[32]⟩ : ByteArray).size = 1:=rfl;omega)
     have c16b0:=eq_true c16
     have c16b1 : decide (a0_0.size + ((⟨#[32]⟩ : ByteArray) ++ t164).size ≤ 9223372036854775807) = true:=decide_eq_true c16
     try have c16b2 : (9223372036854775807 < a0_0.size + ((⟨#[32]⟩ : ByteArray) ++ t164).size) = False:=eq_false (Nat.not_lt.2 c16)
     have H':=Aside0.mk H
     clear H
     have hnb17:=NB157_162.out
     have hnc17:=NB162_157.out
     have hcz18_0:=Up.c0 BK157
     have hcz18_1:=Up.c1 BK157
     have hcz18_2:=Up.c2 BK157
     have hfz18_0:=blk_frozen BK157.out 0
     have hfz18_1:=blk_frozen BK157.out 1
     have hfz18_2:=blk_frozen BK157.out 2
     go_wp2_with (first | ((with_reducible refine gate_callee (f:=52) rfl ?_);refine Up.gl (some 20) Tryd.func52 #[.int .i64 a0_1] ?_;(with_reducible refine (strconv_Itoa.calls (hT_:=?tab1) a0_1 t164 _ A14.out).mono ?_);(case tab1 => exact hT_.below (Up.Bx HB));rintro e w19 ⟨rfl,hb⟩;refine ⟨_,rfl,?_⟩;have n0_:=Up.KB BK157 hb;have n1_:=Up.KB BK162 hb;have n2_:=Aside0.mk (below_step (Up.Bx HB) hb);clear BK157 BK162 HB;have BK157:=n0_;have BK162:=n1_;have HB:=n2_;clear n0_ n1_ n2_;(try clear hb);(try clear hb2);(try clear hk);(try clear hi)))
     go_meet
     case rel => exact ⟨_,(a0_0 ++ ((⟨#[32]⟩ : ByteArray) ++ t164)),(by first | rfl | (simp;done) | (simp [*];done)),H',⟨by first | omega | exact Nat.le_refl _⟩,⟨by (with_reducible repeat (first | refine blk_drewN ?_ _ | refine blk_drew ?_ | refine blk_alloc ?_ _));exact BK157.out⟩,⟨by (with_reducible repeat (first | refine blk_drewN ?_ _ | refine blk_drew ?_ | refine blk_alloc ?_ _));exact BK162.out⟩,⟨Up.Bx HB⟩⟩
    ·rw [if_neg c16] at H
     exact absurd H (by simp)
   ·rw [if_neg c15] at H
    exact absurd H (by simp)
  ·rw [if_neg c13] at H
   have c13b0 : decide (0 < t163) = false:=decide_eq_false c13
   clear c13
   (first | rw [c13b0] | (simp only [i64_w,i32_w];rw [c13b0]) | skip)
   have H':=Aside0.mk H
   clear H
   go_wp2
   go_meet
   case rel => exact ⟨_,(a0_0),(by first | rfl | (simp;done) | (simp [*];done)),H',⟨by first | omega | exact Nat.le_refl _⟩,⟨by (with_reducible repeat (first | refine blk_drewN ?_ _ | refine blk_drew ?_ | refine blk_alloc ?_ _));exact BK157.out⟩,⟨by (with_reducible repeat (first | refine blk_drewN ?_ _ | refine blk_drew ?_ | refine blk_alloc ?_ _));exact BK162.out⟩,⟨Up.Bx HB⟩⟩
 case rest =>
  clear HC4
  try clear c1
  try clear p2
  try clear c3
  try clear c4
  try clear c5
  try clear c9
  try clear c13
  try clear c13b0
  try clear c15
  try clear c15b0
  try clear c15b1
  try clear c15b2
  try clear c16
  try clear c16b0
  try clear c16b1
  try clear c16b2
  try clear c17
  try clear hcz10_0
  try clear hcz10_1
  try clear hcz10_2
  try clear hcz11_0
  try clear hcz11_1
  try clear hcz11_2
  try clear hcz18_0
  try clear hcz18_1
  try clear hcz18_2
  try clear hcz6_0
  try clear hcz6_1
  try clear hcz6_2
  try clear hfz10_0
  try clear hfz10_1
  try clear hfz10_2
  try clear hfz11_0
  try clear hfz11_1
  try clear hfz11_2
  try clear hfz18_0
  try clear hfz18_1
  try clear hfz18_2
  try clear hfz6_0
  try clear hfz6_1
  try clear hfz6_2
  obtain ⟨kq,x5_3,rfl,HA,HJ3,BK157,BK162,HB⟩:=hcut
  cases kq with
  | zero => exact absurd HA.out (by simp [impl_insText.j0])
  | succ kj3 =>
   have H:=HA.out
   clear HA
   simp only [impl_insText.j0] at H
   replace H:=Option.bind_eq_some_iff.mp H
   obtain ⟨t165,A200,H⟩:=H
   replace H : (if t165 > 1 then ((strconv_Itoa.f a0_2).bind fun t166 => (if 1 + t166.size ≤ 9223372036854775807 then (if x5_3.size + ((⟨#[32]⟩ : ByteArray) ++ t166).size ≤ 9223372036854775807 then (some (x5_3 ++ ((⟨#[32]⟩ : ByteArray) ++ t166))) else (none)) else (none))) else (some x5_3)) = some r:=H
   have A20:=Aside0.mk A200
   clear A200
   by_cases c21 : t165 > 1
   ·rw [if_pos c21] at H
    have c21b0 : decide (1 < t165) = true:=decide_eq_true c21
    clear c21
    replace H:=Option.bind_eq_some_iff.mp H
    obtain ⟨t166,A220,H⟩:=H
    replace H : (if 1 + t166.size ≤ 9223372036854775807 then (if x5_3.size + ((⟨#[32]⟩ : ByteArray) ++ t166).size ≤ 9223372036854775807 then (some (x5_3 ++ ((⟨#[32]⟩ : ByteArray) ++ t166))) else (none)) else (none)) = some r:=H
    have A22:=Aside0.mk A220
    clear A220
    by_cases c23 : 1 + t166.size ≤ 9223372036854775807
    ·rw [if_pos c23] at H
     have c23b0:=eq_true c23
     have c23b1 : decide (1 + t166.size ≤ 9223372036854775807) = true:=decide_eq_true c23
     try have c23b2 : (9223372036854775807 < 1 + t166.size) = False:=eq_false (Nat.not_lt.2 c23)
     by_cases c24 : x5_3.size + ((⟨#[32]⟩ : ByteArray) ++ t166).size ≤ 9223372036854775807
     ·rw [if_pos c24] at H
      have hzc24_ : (9223372036854775807 < x5_3.size + (1 + t166.size)) = False:=eq_false (by have h_:=c24;simp only [ByteArray.size_append] at h_;have h0_ : (⟨#[32]⟩ : ByteArray).size = 1:=rfl;omega)
      have c24b0:=eq_true c24
      have c24b1 : decide (x5_3.size + ((⟨#[32]⟩ : ByteArray) ++ t166).size ≤ 9223372036854775807) = true:=decide_eq_true c24
      try have c24b2 : (9223372036854775807 < x5_3.size + ((⟨#[32]⟩ : ByteArray) ++ t166).size) = False:=eq_false (Nat.not_lt.2 c24)
      obtain rfl:=Option.some.inj H
      have hnb25:=NB162_157.out
      have hnc25:=NB157_162.out
      have hcz26_0:=Up.c0 BK162
      have hcz26_1:=Up.c1 BK162
      have hcz26_2:=Up.c2 BK162
      have hfz26_0:=blk_frozen BK162.out 0
      have hfz26_1:=blk_frozen BK162.out 1
      have hfz26_2:=blk_frozen BK162.out 2
      go_wp2_with (first | ((with_reducible refine gate_callee (f:=48) rfl ?_);refine Up.gl (some 24) Tryd.func48 #[.agg #[.string t158,.int .i64 t159,.int .i64 t160]] ?_;(with_reducible refine (impl_insForm_many.calls t158 t159 t160 t165 _ A20.out).mono ?_);rintro e w27 ⟨rfl,hb⟩;refine ⟨_,rfl,?_⟩;have n0_:=Up.KB BK157 hb;have n1_:=Up.KB BK162 hb;have n2_:=Aside0.mk (below_step (Up.Bx HB) hb);clear BK157 BK162 HB;have BK157:=n0_;have BK162:=n1_;have HB:=n2_;clear n0_ n1_ n2_;(try clear hb);(try clear hb2);(try clear hk);(try clear hi);have hcz28_0:=Up.c0 BK157;have hcz28_1:=Up.c1 BK157;have hcz28_2:=Up.c2 BK157;have hfz28_0:=blk_frozen BK157.out 0;have hfz28_1:=blk_frozen BK157.out 1;have hfz28_2:=blk_frozen BK157.out 2) | ((with_reducible refine gate_callee (f:=52) rfl ?_);refine Up.gl (some 29) Tryd.func52 #[.int .i64 a0_2] ?_;(with_reducible refine (strconv_Itoa.calls (hT_:=?tab1) a0_2 t166 _ A22.out).mono ?_);(case tab1 => exact hT_.below (Up.Bx HB));rintro e w29 ⟨rfl,hb⟩;refine ⟨_,rfl,?_⟩;have n0_:=Up.KB BK157 hb;have n1_:=Up.KB BK162 hb;have n2_:=Aside0.mk (below_step (Up.Bx HB) hb);clear BK157 BK162 HB;have BK157:=n0_;have BK162:=n1_;have HB:=n2_;clear n0_ n1_ n2_;(try clear hb);(try clear hb2);(try clear hk);(try clear hi)))
      go_ret
      exact Up.e1 (Up.Bx HB)
     ·rw [if_neg c24] at H
      exact absurd H (by simp)
    ·rw [if_neg c23] at H
     exact absurd H (by simp)
   ·rw [if_neg c21] at H
    have c21b0 : decide (1 < t165) = false:=decide_eq_false c21
    clear c21
    obtain rfl:=Option.some.inj H
    have hnb30:=NB162_157.out
    have hnc30:=NB157_162.out
    have hcz31_0:=Up.c0 BK162
    have hcz31_1:=Up.c1 BK162
    have hcz31_2:=Up.c2 BK162
    have hfz31_0:=blk_frozen BK162.out 0
    have hfz31_1:=blk_frozen BK162.out 1
    have hfz31_2:=blk_frozen BK162.out 2
    go_wp2_with (first | ((with_reducible refine gate_callee (f:=48) rfl ?_);refine Up.gl (some 24) Tryd.func48 #[.agg #[.string t158,.int .i64 t159,.int .i64 t160]] ?_;(with_reducible refine (impl_insForm_many.calls t158 t159 t160 t165 _ A20.out).mono ?_);rintro e w32 ⟨rfl,hb⟩;refine ⟨_,rfl,?_⟩;have n0_:=Up.KB BK157 hb;have n1_:=Up.KB BK162 hb;have n2_:=Aside0.mk (below_step (Up.Bx HB) hb);clear BK157 BK162 HB;have BK157:=n0_;have BK162:=n1_;have HB:=n2_;clear n0_ n1_ n2_;(try clear hb);(try clear hb2);(try clear hk);(try clear hi)))
    go_ret
    exact Up.e1 (Up.Bx HB)

end Go.Proofs.YtfkhjnmgaadomaaDoor.OFnInsRead
