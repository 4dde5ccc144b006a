-- Laid by a program of this session (wip/myprint.py): the kit's print of the functions, contracts of our own among them.
import Derived.Test.YtfkhjnmgaadomaaDoorOFnExactInsReadx0
import Derived.Test.YtfkhjnmgaadomaaDoorOFnExactInsReadx3
namespace Go.Proofs.YtfkhjnmgaadomaaDoor.OFnExactInsRead
open Go.RowKit Go.Proofs.YtfkhjnmgaadomaaDoorW.PrintWords Go.Proofs.YtfkhjnmgaadomaaDoorW.PrintLast Go.Proofs.YtfkhjnmgaadomaaDoorW.PrintMore
attribute [local go_sem] max2_int min2_int max_two min_two max_three min_three max_four min_four   -- for this text's walks alone
set_option linter.unusedVariables false
set_option linter.unusedSimpArgs false

/-! ### impl_limitOk: function 33 -/
def impl_limitOk.f (a0 : Int) (a1 : Int) : Option (Bool):=if a1 = 0 then (some true) else (if a1 > 0 then (some (decide (a1 < a0))) else (some false))
set_option maxHeartbeats 8000000 in
set_option maxRecDepth 100000 in
theorem impl_limitOk.calls (a0 : Int) (a1 : Int) (r : Bool) (w : World) (h : impl_limitOk.f a0 a1 = some r) :
  Calls Tryd.prog 33 #[.int .i64 a0,.int .i64 a1] w fun e w' => e = .returned (.bool r) ∧ Drawn0 w w':=by
 have H : (if a1 = 0 then (some true) else (if a1 > 0 then (some (decide (a1 < a0))) else (some false))) = some r:=h
 clear h
 by_cases c3 : a1 = 0
 ·rw [if_pos c3] at H
  have c3b0 : (a1 == 0) = true:=beq_iff_eq.mpr c3
  have c3b1 : (a1 != 0) = false:=bne_eq_false_iff_eq.mpr c3
  clear c3
  obtain rfl:=Option.some.inj H
  go_enter Tryd.func33,Tryd.ntmps33
  go_wp2
  go_ret
  exact Up.e2
 ·rw [if_neg c3] at H
  have c3b0 : (a1 == 0) = false:=beq_eq_false_iff_ne.mpr c3
  have c3b1 : (a1 != 0) = true:=bne_iff_ne.mpr c3
  by_cases c4 : a1 > 0
  ·rw [if_pos c4] at H
   have c4b0 : decide (0 < a1) = true:=decide_eq_true c4
   clear c4
   obtain rfl:=Option.some.inj H
   go_enter Tryd.func33,Tryd.ntmps33
   go_wp2
   go_ret
   exact Up.e2
  ·rw [if_neg c4] at H
   have c4b0 : decide (0 < a1) = false:=decide_eq_false c4
   clear c4
   obtain rfl:=Option.some.inj H
   go_enter Tryd.func33,Tryd.ntmps33
   go_wp2
   go_ret
   exact Up.e2

/-! ### impl_InsOk: function 14 -/
def impl_InsOk.f (k : Nat) (a0_0 : ByteArray) (a0_1 : Int) (a0_2 : Int) : Option (Bool):=(impl_formOf.f k a0_0).bind fun bt205 => (if bt205.2.2.2 = true then ((impl_limitOk.f bt205.2.1 a0_1).bind fun t210 => (if t210 = true then ((impl_limitOk.f bt205.2.2.1 a0_2).bind fun t211 => (some t211)) else (some false))) else (some false))
theorem impl_InsOk.mono : ∀ a0 a1 a2 k,LeO (impl_InsOk.f k a0 a1 a2) (impl_InsOk.f (k + 1) a0 a1 a2):=by
 intro a0 a1 a2 k
 unfold impl_InsOk.f
 repeat' first
   | (with_reducible exact impl_formOf.mono _ _)
   | (with_reducible exact LeO.refl _)
   | (with_reducible exact LeO.none _)
   | (with_reducible refine LeO.ite ?_ ?_)
   | (with_reducible refine LeO.bind ?_ (fun _ => ?_))
   | exact impl_formOf.mono _ _
   | exact LeO.none _
   | refine LeO.ite ?_ ?_
   | refine LeO.bind ?_ (fun _ => ?_)
set_option maxHeartbeats 8000000 in
set_option maxRecDepth 100000 in
theorem impl_InsOk.calls (k : Nat) (a0_0 : ByteArray) (a0_1 : Int) (a0_2 : Int) (r : Bool) (w : World) (hT_ : Tab w) (h : impl_InsOk.f k a0_0 a0_1 a0_2 = some r) :
  Calls Tryd.prog 14 #[.agg #[.string a0_0,.int .i64 a0_1,.int .i64 a0_2]] w fun e w' => e = .returned (.bool r) ∧ Below w.heap.size w w':=by
 have hu26:=Tryd.underlying26
 have hu46:=Tryd.underlying46
 have HB:=Aside0.mk (Below.refl w.heap.size w)
 have H : ((impl_formOf.f k a0_0).bind fun bt205 => (if bt205.2.2.2 = true then ((impl_limitOk.f bt205.2.1 a0_1).bind fun t210 => (if t210 = true then ((impl_limitOk.f bt205.2.2.1 a0_2).bind fun t211 => (some t211)) else (some false))) else (some false))) = some r:=h
 clear h
 replace H:=Option.bind_eq_some_iff.mp H
 obtain ⟨⟨t205,t206,t207,t208⟩,A20,H⟩:=H
 replace H : (if t208 = true then ((impl_limitOk.f t206 a0_1).bind fun t210 => (if t210 = true then ((impl_limitOk.f t207 a0_2).bind fun t211 => (some t211)) else (some false))) else (some false)) = some r:=H
 have A2:=Aside0.mk A20
 clear A20
 by_cases c3 : t208 = true
 ·subst c3
  have H1 : ((impl_limitOk.f t206 a0_1).bind fun t210 => (if t210 = true then ((impl_limitOk.f t207 a0_2).bind fun t211 => (some t211)) else (some false))) = some r:=by rw [if_pos rfl] at H;exact H
  clear H
  have H:=H1
  clear H1
  replace H:=Option.bind_eq_some_iff.mp H
  obtain ⟨t210,A40,H⟩:=H
  replace H : (if t210 = true then ((impl_limitOk.f t207 a0_2).bind fun t211 => (some t211)) else (some false)) = some r:=H
  have A4:=Aside0.mk A40
  clear A40
  by_cases c5 : t210 = true
  ·subst c5
   have H1 : ((impl_limitOk.f t207 a0_2).bind fun t211 => (some t211)) = some r:=by rw [if_pos rfl] at H;exact H
   clear H
   have H:=H1
   clear H1
   replace H:=Option.bind_eq_some_iff.mp H
   obtain ⟨t211,A60,H⟩:=H
   replace H : (some t211) = some r:=H
   have A6:=Aside0.mk A60
   clear A60
   obtain rfl:=Option.some.inj H
   go_enter Tryd.func14,Tryd.ntmps14
   go_wp2_with (first | ((with_reducible refine gate_dst (N:=1) rfl ?_);refine Up.bx 1 26 #[.string a0_0,.int .i64 a0_1,.int .i64 a0_2] ?_;intro gb204 hg w7 hbox hb;have n0_:=Up.BB HB hb;have n1_:=Aside0.mk (hbox);have n2_:=Up.gw hg HB;have n3_:=Up.gw hg HB;clear HB;have HB:=n0_;have BK204:=n1_;have GW204:=n2_;have GE204:=n3_;clear n0_ n1_ n2_ n3_ hb hbox hg;have hcz8_0:=Up.c0 BK204;have hcz8_1:=Up.c1 BK204;have hcz8_2:=Up.c2 BK204;have hfz8_0:=blk_frozen BK204.out 0;have hfz8_1:=blk_frozen BK204.out 1;have hfz8_2:=blk_frozen BK204.out 2) | ((with_reducible refine gate_callee (f:=32) rfl ?_);refine Up.gl (some 8) Tryd.func32 #[.string a0_0] ?_;(with_reducible refine (impl_formOf.calls (hT_:=?tab1) k a0_0 t205 t206 t207 true _ A2.out).mono ?_);(case tab1 => exact hT_.below (Up.Bx HB));rintro e w9 ⟨rfl,hb⟩;refine ⟨_,rfl,?_⟩;have n0_:=Up.KB BK204 hb;have n1_:=Aside0.mk (below_step (Up.Bx HB) hb);clear BK204 HB;have BK204:=n0_;have HB:=n1_;clear n0_ n1_;(try clear hb);(try clear hb2);(try clear hk);(try clear hi)) | ((with_reducible refine gate_dst (N:=3) rfl ?_);refine Up.bx 3 46 #[.string (⟨#[]⟩ : ByteArray),.int .i64 0,.int .i64 0] ?_;intro gb209 hg w10 hbox hb;have n0_:=Up.KB BK204 hb;have n1_:=Aside0.mk (below_step (Up.Bx HB) hb);have n2_:=Aside0.mk (hbox);have n3_:=Up.gw hg HB;have n4_:=Up.gw hg HB;have n5_:=Up.nl hg BK204;have n6_:=Up.ng hg BK204;clear BK204 HB;have BK204:=n0_;have HB:=n1_;have BK209:=n2_;have GW209:=n3_;have GE209:=n4_;have NB204_209:=n5_;have NB209_204:=n6_;clear n0_ n1_ n2_ n3_ n4_ n5_ n6_ hb hbox hg;have hnb11:=NB209_204.out;have hnc11:=NB204_209.out;have hcz12_0:=Up.c0 BK209;have hcz12_1:=Up.c1 BK209;have hcz12_2:=Up.c2 BK209;have hfz12_0:=blk_frozen BK209.out 0;have hfz12_1:=blk_frozen BK209.out 1;have hfz12_2:=blk_frozen BK209.out 2;have hcz13_0:=Up.c0 BK204;have hcz13_1:=Up.c1 BK204;have hcz13_2:=Up.c2 BK204;have hfz13_0:=blk_frozen BK204.out 0;have hfz13_1:=blk_frozen BK204.out 1;have hfz13_2:=blk_frozen BK204.out 2) | (go_at_call 33;(with_reducible refine (impl_limitOk.calls t206 a0_1 true _ A4.out).mono ?_);rintro e w' ⟨rfl,⟨nd,rfl⟩⟩) | (go_at_call 33;(with_reducible refine (impl_limitOk.calls t207 a0_2 t211 _ A6.out).mono ?_);rintro e w' ⟨rfl,⟨nd,rfl⟩⟩))
   go_ret
   exact Up.e1 (Up.Bx HB)
  ·replace c5:=Bool.eq_false_iff.mpr c5
   subst c5
   have H1 : (some false) = some r:=by rw [if_neg (show ¬ (false = true) by decide)] at H;exact H
   clear H
   have H:=H1
   clear H1
   obtain rfl:=Option.some.inj H
   go_enter Tryd.func14,Tryd.ntmps14
   go_wp2_with (first | ((with_reducible refine gate_dst (N:=1) rfl ?_);refine Up.bx 1 26 #[.string a0_0,.int .i64 a0_1,.int .i64 a0_2] ?_;intro gb204 hg w14 hbox hb;have n0_:=Up.BB HB hb;have n1_:=Aside0.mk (hbox);have n2_:=Up.gw hg HB;have n3_:=Up.gw hg HB;clear HB;have HB:=n0_;have BK204:=n1_;have GW204:=n2_;have GE204:=n3_;clear n0_ n1_ n2_ n3_ hb hbox hg;have hcz15_0:=Up.c0 BK204;have hcz15_1:=Up.c1 BK204;have hcz15_2:=Up.c2 BK204;have hfz15_0:=blk_frozen BK204.out 0;have hfz15_1:=blk_frozen BK204.out 1;have hfz15_2:=blk_frozen BK204.out 2) | ((with_reducible refine gate_callee (f:=32) rfl ?_);refine Up.gl (some 8) Tryd.func32 #[.string a0_0] ?_;(with_reducible refine (impl_formOf.calls (hT_:=?tab1) k a0_0 t205 t206 t207 true _ A2.out).mono ?_);(case tab1 => exact hT_.below (Up.Bx HB));rintro e w16 ⟨rfl,hb⟩;refine ⟨_,rfl,?_⟩;have n0_:=Up.KB BK204 hb;have n1_:=Aside0.mk (below_step (Up.Bx HB) hb);clear BK204 HB;have BK204:=n0_;have HB:=n1_;clear n0_ n1_;(try clear hb);(try clear hb2);(try clear hk);(try clear hi)) | ((with_reducible refine gate_dst (N:=3) rfl ?_);refine Up.bx 3 46 #[.string (⟨#[]⟩ : ByteArray),.int .i64 0,.int .i64 0] ?_;intro gb209 hg w17 hbox hb;have n0_:=Up.KB BK204 hb;have n1_:=Aside0.mk (below_step (Up.Bx HB) hb);have n2_:=Aside0.mk (hbox);have n3_:=Up.gw hg HB;have n4_:=Up.gw hg HB;have n5_:=Up.nl hg BK204;have n6_:=Up.ng hg BK204;clear BK204 HB;have BK204:=n0_;have HB:=n1_;have BK209:=n2_;have GW209:=n3_;have GE209:=n4_;have NB204_209:=n5_;have NB209_204:=n6_;clear n0_ n1_ n2_ n3_ n4_ n5_ n6_ hb hbox hg;have hnb18:=NB209_204.out;have hnc18:=NB204_209.out;have hcz19_0:=Up.c0 BK209;have hcz19_1:=Up.c1 BK209;have hcz19_2:=Up.c2 BK209;have hfz19_0:=blk_frozen BK209.out 0;have hfz19_1:=blk_frozen BK209.out 1;have hfz19_2:=blk_frozen BK209.out 2;have hcz20_0:=Up.c0 BK204;have hcz20_1:=Up.c1 BK204;have hcz20_2:=Up.c2 BK204;have hfz20_0:=blk_frozen BK204.out 0;have hfz20_1:=blk_frozen BK204.out 1;have hfz20_2:=blk_frozen BK204.out 2) | (go_at_call 33;(with_reducible refine (impl_limitOk.calls t206 a0_1 false _ A4.out).mono ?_);rintro e w' ⟨rfl,⟨nd,rfl⟩⟩))
   go_ret
   exact Up.e1 (Up.Bx HB)
 ·replace c3:=Bool.eq_false_iff.mpr c3
  subst c3
  have H1 : (some false) = some r:=by rw [if_neg (show ¬ (false = true) by decide)] at H;exact H
  clear H
  have H:=H1
  clear H1
  obtain rfl:=Option.some.inj H
  go_enter Tryd.func14,Tryd.ntmps14
  go_wp2_with (first | ((with_reducible refine gate_dst (N:=1) rfl ?_);refine Up.bx 1 26 #[.string a0_0,.int .i64 a0_1,.int .i64 a0_2] ?_;intro gb204 hg w21 hbox hb;have n0_:=Up.BB HB hb;have n1_:=Aside0.mk (hbox);have n2_:=Up.gw hg HB;have n3_:=Up.gw hg HB;clear HB;have HB:=n0_;have BK204:=n1_;have GW204:=n2_;have GE204:=n3_;clear n0_ n1_ n2_ n3_ hb hbox hg;have hcz22_0:=Up.c0 BK204;have hcz22_1:=Up.c1 BK204;have hcz22_2:=Up.c2 BK204;have hfz22_0:=blk_frozen BK204.out 0;have hfz22_1:=blk_frozen BK204.out 1;have hfz22_2:=blk_frozen BK204.out 2) | ((with_reducible refine gate_callee (f:=32) rfl ?_);refine Up.gl (some 8) Tryd.func32 #[.string a0_0] ?_;(with_reducible refine (impl_formOf.calls (hT_:=?tab1) k a0_0 t205 t206 t207 false _ A2.out).mono ?_);(case tab1 => exact hT_.below (Up.Bx HB));rintro e w23 ⟨rfl,hb⟩;refine ⟨_,rfl,?_⟩;have n0_:=Up.KB BK204 hb;have n1_:=Aside0.mk (below_step (Up.Bx HB) hb);clear BK204 HB;have BK204:=n0_;have HB:=n1_;clear n0_ n1_;(try clear hb);(try clear hb2);(try clear hk);(try clear hi)) | ((with_reducible refine gate_dst (N:=3) rfl ?_);refine Up.bx 3 46 #[.string (⟨#[]⟩ : ByteArray),.int .i64 0,.int .i64 0] ?_;intro gb209 hg w24 hbox hb;have n0_:=Up.KB BK204 hb;have n1_:=Aside0.mk (below_step (Up.Bx HB) hb);have n2_:=Aside0.mk (hbox);have n3_:=Up.gw hg HB;have n4_:=Up.gw hg HB;have n5_:=Up.nl hg BK204;have n6_:=Up.ng hg BK204;clear BK204 HB;have BK204:=n0_;have HB:=n1_;have BK209:=n2_;have GW209:=n3_;have GE209:=n4_;have NB204_209:=n5_;have NB209_204:=n6_;clear n0_ n1_ n2_ n3_ n4_ n5_ n6_ hb hbox hg;have hnb25:=NB209_204.out;have hnc25:=NB204_209.out;have hcz26_0:=Up.c0 BK209;have hcz26_1:=Up.c1 BK209;have hcz26_2:=Up.c2 BK209;have hfz26_0:=blk_frozen BK209.out 0;have hfz26_1:=blk_frozen BK209.out 1;have hfz26_2:=blk_frozen BK209.out 2))
  go_ret
  exact Up.e1 (Up.Bx HB)

/-! ### strings_Split: function 47 -/

def strings_Split.f (s sep : ByteArray) : Option (List ByteArray) := if s.size < 4000000000 ∧ 1 ≤ sep.size then some (Lib.splitB sep 0 (Lib.countB s sep) s) else none
theorem strings_Split.calls (a0 a1 : ByteArray) (r : List ByteArray) (w : World) (hT_ : Tab w) (h : strings_Split.f a0 a1 = some r) :
    Calls Tryd.prog 47 #[.string a0, .string a1] w fun e w' => ∃ v0_ : Value, e = .returned (v0_) ∧ Kd.V Kd.string 9 w' w.heap.size (fun k_ => (w.heap.size ≤ k_)) v0_ r ∧ Below w.heap.size w w' := by
  unfold strings_Split.f at h
  split at h
  · rename_i hc
    obtain rfl := Option.some.inj h
    obtain ⟨m, hm⟩ := hT_.f3
    refine (Tryd.strings_Split a0 a1 m w (by omega) hm hc.2).mono ?_
    rintro e w' ⟨rfl, rfl⟩
    have hl := Lib.splitB_all a1 hc.2 0 (Lib.countB a0 a1) a0 rfl
    have hb := Lib.countB_le a1 hc.2 a0.size a0 (Nat.le_refl _)
    rw [← hl]
    refine ⟨_, rfl, Kd.R_V (Kd.R_of_own (base := w.heap.size) ?_ (fun k_ hk_ => by have h_ : w.heap.size = k_ := Option.some.inj hk_; omega)), below_alloc (Below.refl _ _) _⟩
    refine ⟨by simp [encs_length], .inr ⟨w.heap.size, _, _, rfl, Nat.le_refl _, heap_alloc_new w _, Nat.le_refl _, ?_, ?_, ?_⟩⟩
    · have hm : (4000000001 : Nat) ≤ maxLen := by decide
      exact Nat.le_trans (by omega) hm
    · simp
    · rw [List.take_of_length_le (by simp)]
      simp [encs]
  · cases h

/-! ### impl_insForm_many: function 48 -/
def impl_insForm_many.f (a0_0 : ByteArray) (a0_1 : Int) (a0_2 : Int) : Option (Int):=if a0_1 = 0 then (some 0) else (if a0_2 = 0 then (some 1) else (some 2))
set_option maxHeartbeats 8000000 in
set_option maxRecDepth 100000 in
theorem impl_insForm_many.calls (a0_0 : ByteArray) (a0_1 : Int) (a0_2 : Int) (r : Int) (w : World) (h : impl_insForm_many.f a0_0 a0_1 a0_2 = some r) :
  Calls Tryd.prog 48 #[.agg #[.string a0_0,.int .i64 a0_1,.int .i64 a0_2]] w fun e w' => e = .returned (.int .i64 r) ∧ Below w.heap.size w w':=by
 have hu46:=Tryd.underlying46
 have HB:=Aside0.mk (Below.refl w.heap.size w)
 have H : (if a0_1 = 0 then (some 0) else (if a0_2 = 0 then (some 1) else (some 2))) = some r:=h
 clear h
 by_cases c2 : a0_1 = 0
 ·rw [if_pos c2] at H
  have c2b0 : (a0_1 == 0) = true:=beq_iff_eq.mpr c2
  have c2b1 : (a0_1 != 0) = false:=bne_eq_false_iff_eq.mpr c2
  clear c2
  obtain rfl:=Option.some.inj H
  go_enter Tryd.func48,Tryd.ntmps48
  go_wp2_with (first | ((with_reducible refine gate_dst (N:=1) rfl ?_);refine Up.bx 1 46 #[.string a0_0,.int .i64 a0_1,.int .i64 a0_2] ?_;intro gb212 hg w3 hbox hb;have n0_:=Up.BB HB hb;have n1_:=Aside0.mk (hbox);have n2_:=Up.gw hg HB;have n3_:=Up.gw hg HB;clear HB;have HB:=n0_;have BK212:=n1_;have GW212:=n2_;have GE212:=n3_;clear n0_ n1_ n2_ n3_ hb hbox hg;have hcz4_0:=Up.c0 BK212;have hcz4_1:=Up.c1 BK212;have hcz4_2:=Up.c2 BK212;have hfz4_0:=blk_frozen BK212.out 0;have hfz4_1:=blk_frozen BK212.out 1;have hfz4_2:=blk_frozen BK212.out 2))
  go_ret
  exact Up.e1 (Up.Bx HB)
 ·rw [if_neg c2] at H
  have c2b0 : (a0_1 == 0) = false:=beq_eq_false_iff_ne.mpr c2
  have c2b1 : (a0_1 != 0) = true:=bne_iff_ne.mpr c2
  by_cases c5 : a0_2 = 0
  ·rw [if_pos c5] at H
   have c5b0 : (a0_2 == 0) = true:=beq_iff_eq.mpr c5
   have c5b1 : (a0_2 != 0) = false:=bne_eq_false_iff_eq.mpr c5
   clear c5
   obtain rfl:=Option.some.inj H
   go_enter Tryd.func48,Tryd.ntmps48
   go_wp2_with (first | ((with_reducible refine gate_dst (N:=1) rfl ?_);refine Up.bx 1 46 #[.string a0_0,.int .i64 a0_1,.int .i64 a0_2] ?_;intro gb212 hg w6 hbox hb;have n0_:=Up.BB HB hb;have n1_:=Aside0.mk (hbox);have n2_:=Up.gw hg HB;have n3_:=Up.gw hg HB;clear HB;have HB:=n0_;have BK212:=n1_;have GW212:=n2_;have GE212:=n3_;clear n0_ n1_ n2_ n3_ hb hbox hg;have hcz7_0:=Up.c0 BK212;have hcz7_1:=Up.c1 BK212;have hcz7_2:=Up.c2 BK212;have hfz7_0:=blk_frozen BK212.out 0;have hfz7_1:=blk_frozen BK212.out 1;have hfz7_2:=blk_frozen BK212.out 2))
   go_ret
   exact Up.e1 (Up.Bx HB)
  ·rw [if_neg c5] at H
   have c5b0 : (a0_2 == 0) = false:=beq_eq_false_iff_ne.mpr c5
   have c5b1 : (a0_2 != 0) = true:=bne_iff_ne.mpr c5
   obtain rfl:=Option.some.inj H
   go_enter Tryd.func48,Tryd.ntmps48
   go_wp2_with (first | ((with_reducible refine gate_dst (N:=1) rfl ?_);refine Up.bx 1 46 #[.string a0_0,.int .i64 a0_1,.int .i64 a0_2] ?_;intro gb212 hg w8 hbox hb;have n0_:=Up.BB HB hb;have n1_:=Aside0.mk (hbox);have n2_:=Up.gw hg HB;have n3_:=Up.gw hg HB;clear HB;have HB:=n0_;have BK212:=n1_;have GW212:=n2_;have GE212:=n3_;clear n0_ n1_ n2_ n3_ hb hbox hg;have hcz9_0:=Up.c0 BK212;have hcz9_1:=Up.c1 BK212;have hcz9_2:=Up.c2 BK212;have hfz9_0:=blk_frozen BK212.out 0;have hfz9_1:=blk_frozen BK212.out 1;have hfz9_2:=blk_frozen BK212.out 2))
   go_ret
   exact Up.e1 (Up.Bx HB)

/-! ### impl_decimal: function 49 -/
mutual
def impl_decimal.j0 : Nat → ByteArray → Bool → Option (Int × Bool)
 | 0,_,_ => none
 | k + 1,x0,x22 => if x22 = true then (some (0,false)) else (impl_decimal.l0 k x0 0 (x0.size : Int) 0)
def impl_decimal.l0 : Nat → ByteArray → Int → Int → Int → Option (Int × Bool)
 | 0,_,_,_,_ => none
 | k + 1,x0,x4,x24,x25 => if x25 < x24 then (if 0 ≤ x25 then (if x25 < (x0.size : Int) then (if (bt x0 x25) < 48 then (some (0,false)) else (if (bt x0 x25) > 57 then (some (0,false)) else (impl_decimal.l0 k x0 (wrap64 ((wrap64 (10 * x4)) + (((bt x0 x25) - 48) % 256))) x24 (wrap64 (x25 + 1))))) else (none)) else (none)) else (some (x4,true))
end
def impl_decimal.f (k : Nat) (a0 : ByteArray) : Option (Int × Bool):=if a0.toList = ([] : List UInt8) then (impl_decimal.j0 k a0 true) else (if (a0.size : Int) > 9 then (impl_decimal.j0 k a0 true) else (if (a0.size : Int) > 1 then (if 0 < (a0.size : Int) then (impl_decimal.j0 k a0 ((bt a0 0) == 48)) else (none)) else (impl_decimal.j0 k a0 false)))
theorem impl_decimal.mono_l : ∀ k,(∀ y0 y1,LeO (impl_decimal.j0 k y0 y1) (impl_decimal.j0 (k + 1) y0 y1)) ∧ (∀ y0 y1 y2 y3,LeO (impl_decimal.l0 k y0 y1 y2 y3) (impl_decimal.l0 (k + 1) y0 y1 y2 y3))
 | 0 => ⟨fun _ _ r h => by simp [impl_decimal.j0] at h,fun _ _ _ _ r h => by simp [impl_decimal.l0] at h⟩
 | k + 1 => by
  obtain ⟨ih0,ih1⟩:=impl_decimal.mono_l k
  refine ⟨?_,?_⟩
  ·intro y0 y1
   unfold impl_decimal.j0
   repeat' first
   | (with_reducible exact ih0 _ _)
   | (with_reducible exact ih1 _ _ _ _)
   | (with_reducible exact LeO.refl _)
   | (with_reducible exact LeO.none _)
   | (with_reducible refine LeO.ite ?_ ?_)
   | (with_reducible refine LeO.bind ?_ (fun _ => ?_))
   | exact ih0 _ _
   | exact ih1 _ _ _ _
   | exact LeO.none _
   | refine LeO.ite ?_ ?_
   | refine LeO.bind ?_ (fun _ => ?_)
  ·intro y0 y1 y2 y3
   unfold impl_decimal.l0
   repeat' first
   | (with_reducible exact ih0 _ _)
   | (with_reducible exact ih1 _ _ _ _)
   | (with_reducible exact LeO.refl _)
   | (with_reducible exact LeO.none _)
   | (with_reducible refine LeO.ite ?_ ?_)
   | (with_reducible refine LeO.bind ?_ (fun _ => ?_))
   | exact ih0 _ _
   | exact ih1 _ _ _ _
   | exact LeO.none _
   | refine LeO.ite ?_ ?_
   | refine LeO.bind ?_ (fun _ => ?_)
theorem impl_decimal.mono : ∀ a0 k,LeO (impl_decimal.f k a0) (impl_decimal.f (k + 1) a0):=by
 intro a0 k
 obtain ⟨ih0,ih1⟩:=impl_decimal.mono_l k
 unfold impl_decimal.f
 repeat' first
   | (with_reducible exact ih0 _ _)
   | (with_reducible exact ih1 _ _ _ _)
   | (with_reducible exact LeO.refl _)
   | (with_reducible exact LeO.none _)
   | (with_reducible refine LeO.ite ?_ ?_)
   | (with_reducible refine LeO.bind ?_ (fun _ => ?_))
   | exact ih0 _ _
   | exact ih1 _ _ _ _
   | exact LeO.none _
   | refine LeO.ite ?_ ?_
   | refine LeO.bind ?_ (fun _ => ?_)
set_option maxHeartbeats 8000000 in
set_option maxRecDepth 100000 in
theorem impl_decimal.calls (k : Nat) (a0 : ByteArray) (r1 : Int) (r2 : Bool) (w : World) (h : impl_decimal.f k a0 = some (r1,r2)) :
  Calls Tryd.prog 49 #[.string a0] w fun e w' => e = .returned (.tuple #[.int .i64 r1,.bool r2]) ∧ Drawn0 w w':=by
 have H : (if a0.toList = ([] : List UInt8) then (impl_decimal.j0 k a0 true) else (if (a0.size : Int) > 9 then (impl_decimal.j0 k a0 true) else (if (a0.size : Int) > 1 then (if 0 < (a0.size : Int) then (impl_decimal.j0 k a0 ((bt a0 0) == 48)) else (none)) else (impl_decimal.j0 k a0 false)))) = some (r1,r2):=h
 clear h
 have HC2:=Aside0.mk H
 clear H
 go_enter Tryd.func49,Tryd.ntmps49
 go_upto_region 1 with (fail)
 go_cut [22] (fun v22 wc => ∃ (kq : Nat) (x22_1 : Bool),v22 = .bool x22_1 ∧ Aside0 (impl_decimal.j0 kq a0 x22_1 = some (r1,r2)) ∧ Aside0 (kq ≤ k) ∧ Drawn0 w wc)
 case first =>
  have H:=HC2.out
  clear HC2
  by_cases c3 : a0.toList = ([] : List UInt8)
  ·rw [if_pos c3] at H
   have c3b0 : (a0.toList == ([] : List UInt8)) = true:=beq_iff_eq.mpr c3
   have c3b1 : (a0.toList != ([] : List UInt8)) = false:=bne_eq_false_iff_eq.mpr c3
   clear c3
   (first | rw [c3b0] | (simp only [i64_w,i32_w];rw [c3b0]) | skip)
   have H':=Aside0.mk H
   clear H
   go_wp2
   go_meet
   case rel => exact ⟨_,(true),(by first | rfl | (simp;done) | (simp [*];done)),H',⟨by first | omega | exact Nat.le_refl _⟩,by repeat (first | exact Drawn0.refl _ | apply Drawn0.step)⟩
  ·rw [if_neg c3] at H
   have c3b0 : (a0.toList == ([] : List UInt8)) = false:=beq_eq_false_iff_ne.mpr c3
   have c3b1 : (a0.toList != ([] : List UInt8)) = true:=bne_iff_ne.mpr c3
   (first | rw [c3b0] | (simp only [i64_w,i32_w];rw [c3b0]) | skip)
   by_cases c4 : (a0.size : Int) > 9
   ·rw [if_pos c4] at H
    have c4b0 : decide (9 < (a0.size : Int)) = true:=decide_eq_true c4
    have c4b1 : decide (9 < a0.size) = true:=decide_eq_true (by omega)
    clear c4
    have H':=Aside0.mk H
    clear H
    go_wp2
    go_meet
    case rel => exact ⟨_,(true),(by first | rfl | (simp;done) | (simp [*];done)),H',⟨by first | omega | exact Nat.le_refl _⟩,by repeat (first | exact Drawn0.refl _ | apply Drawn0.step)⟩
   ·rw [if_neg c4] at H
    have c4b0 : decide (9 < (a0.size : Int)) = false:=decide_eq_false c4
    have c4b1 : decide (9 < a0.size) = false:=decide_eq_false (by omega)
    clear c4
    by_cases c5 : (a0.size : Int) > 1
    ·rw [if_pos c5] at H
     have c5b0 : decide (1 < (a0.size : Int)) = true:=decide_eq_true c5
     have c5b1 : decide (1 < a0.size) = true:=decide_eq_true (by omega)
     clear c5
     by_cases c6 : 0 < (a0.size : Int)
     ·rw [if_pos c6] at H
      have c6b0 : decide (0 < (a0.size : Int)) = true:=decide_eq_true c6
      have c6b1 : decide (0 < a0.size) = true:=decide_eq_true (by omega)
      clear c6
      have H':=Aside0.mk H
      clear H
      have p7 : 0 ≤ (0 : Int):=(by omega)
      have q7 : 0 < a0.size:=(by have : (0 : Int) < (a0.size : Int):=Up.od;omega)
      have hx7 : ∀ h : 0 < a0.size,((a0[0]'h).toNat : Int) = bt a0 0:=bt_at a0 0
      clear p7
      have qi7 : (0 < (a0.size : Int)) = True:=eq_true (Up.od)
      replace q7:=eq_true q7
      go_wp2
      go_meet
      case rel => exact ⟨_,(((bt a0 0) == 48)),(by first | rfl | (simp;done) | (simp [*];done)),H',⟨by first | omega | exact Nat.le_refl _⟩,by repeat (first | exact Drawn0.refl _ | apply Drawn0.step)⟩
     ·rw [if_neg c6] at H
      exact absurd H (by simp)
    ·rw [if_neg c5] at H
     have c5b0 : decide (1 < (a0.size : Int)) = false:=decide_eq_false c5
     have c5b1 : decide (1 < a0.size) = false:=decide_eq_false (by omega)
     clear c5
     have H':=Aside0.mk H
     clear H
     go_wp2
     go_meet
     case rel => exact ⟨_,(false),(by first | rfl | (simp;done) | (simp [*];done)),H',⟨by first | omega | exact Nat.le_refl _⟩,by repeat (first | exact Drawn0.refl _ | apply Drawn0.step)⟩
 case rest =>
  clear HC2
  try clear p2
  try clear c3
  try clear c3b0
  try clear c3b1
  try clear c4
  try clear c4b0
  try clear c4b1
  try clear c5
  try clear c5b0
  try clear c5b1
  try clear c6
  try clear c6b0
  try clear c6b1
  try clear p7
  try clear q7
  try clear hx7
  try clear qi7
  try clear p7
  try clear q7
  obtain ⟨kq,x22_1,rfl,HA,HJ1,⟨mc1,rfl⟩⟩:=hcut
  cases kq with
  | zero => exact absurd HA.out (by simp [impl_decimal.j0])
  | succ kj1 =>
   have H:=HA.out
   clear HA
   simp only [impl_decimal.j0] at H
   by_cases c8 : x22_1 = true
   ·subst c8
    have H1 : (some (0,false)) = some (r1,r2):=by rw [if_pos rfl] at H;exact H
    clear H
    have H:=H1
    clear H1
    simp only [Option.some.injEq,Prod.mk.injEq] at H
    obtain ⟨rfl,rfl⟩:=H
    go_wp2
    go_ret2
    exact Up.e2
   ·replace c8:=Bool.eq_false_iff.mpr c8
    subst c8
    have H1 : (impl_decimal.l0 kj1 a0 0 (a0.size : Int) 0) = some (r1,r2):=by rw [if_neg (show ¬ (false = true) by decide)] at H;exact H
    clear H
    have H:=H1
    clear H1
    have H':=Aside0.mk H
    clear H
    go_wp2
    go_loopg [4,25] kj1 (fun kq v4 v25 w' => ∃ (x4_2 : Int) (x25_2 : Int),v4 = .int .i64 x4_2 ∧ v25 = .int .i64 x25_2 ∧ Aside0 (impl_decimal.l0 kq a0 x4_2 (a0.size : Int) x25_2 = some (r1,r2)) ∧ Aside0 (kq ≤ kj1) ∧ Drawn0 w w')
    case atStart => exact ⟨(0),(0),(by first | rfl | (simp;done) | (simp [*];done)),(by first | rfl | (simp;done) | (simp [*];done)),H',⟨Nat.le_refl _⟩,by repeat (first | exact Drawn0.refl _ | apply Drawn0.step)⟩
    case round =>
     clear H'
     try clear c1
     try clear p2
     try clear c3
     try clear c3b0
     try clear c3b1
     try clear c4
     try clear c4b0
     try clear c4b1
     try clear c5
     try clear c5b0
     try clear c5b1
     try clear c6
     try clear c6b0
     try clear c6b1
     try clear p7
     try clear q7
     try clear hx7
     try clear qi7
     try clear c8
     try clear p2
     try clear p7
     try clear q7
     obtain ⟨x4_2,x25_2,rfl,rfl,HA,HK2,⟨m2,rfl⟩⟩:=hrel
     cases gk with
     | zero => exact absurd HA.out (by simp [impl_decimal.l0])
     | succ k2 =>
      have H:=HA.out
      clear HA
      simp only [impl_decimal.l0] at H
      by_cases c9 : x25_2 < (a0.size : Int)
      ·rw [if_pos c9] at H
       have c9b0 : decide (x25_2 < (a0.size : Int)) = true:=decide_eq_true c9
       clear c9
       by_cases c10 : 0 ≤ x25_2
       ·rw [if_pos c10] at H
        have c10b0 : decide (0 ≤ x25_2) = true:=decide_eq_true c10
        clear c10
        by_cases c11 : x25_2 < (a0.size : Int)
        ·rw [if_pos c11] at H
         have c11b0 : decide (x25_2 < (a0.size : Int)) = true:=decide_eq_true c11
         clear c11
         by_cases c13 : (bt a0 x25_2) < 48
         ·rw [if_pos c13] at H
          have c13b0 : decide ((bt a0 x25_2) < 48) = true:=decide_eq_true c13
          clear c13
          simp only [Option.some.injEq,Prod.mk.injEq] at H
          obtain ⟨rfl,rfl⟩:=H
          have p12 : 0 ≤ (x25_2 : Int):=Up.od
          have q12 : x25_2 < (a0.size : Int):=Up.od
          have hx12:=bt_at a0 x25_2
          replace p12:=eq_true p12
          replace q12:=eq_true q12
          go_wp2
          go_ret2
          exact Up.e2
         ·rw [if_neg c13] at H
          have c13b0 : decide ((bt a0 x25_2) < 48) = false:=decide_eq_false c13
          clear c13
          by_cases c15 : (bt a0 x25_2) > 57
          ·rw [if_pos c15] at H
           have c15b0 : decide (57 < (bt a0 x25_2)) = true:=decide_eq_true c15
           clear c15
           simp only [Option.some.injEq,Prod.mk.injEq] at H
           obtain ⟨rfl,rfl⟩:=H
           have p12 : 0 ≤ (x25_2 : Int):=Up.od
           have q12 : x25_2 < (a0.size : Int):=Up.od
           have hx12:=bt_at a0 x25_2
           replace p12:=eq_true p12
           replace q12:=eq_true q12
           have p14 : 0 ≤ (x25_2 : Int):=Up.od
           have q14 : x25_2 < (a0.size : Int):=Up.od
           have hx14:=bt_at a0 x25_2
           replace p14:=eq_true p14
           replace q14:=eq_true q14
           go_wp2
           go_ret2
           exact Up.e2
          ·rw [if_neg c15] at H
           have c15b0 : decide (57 < (bt a0 x25_2)) = false:=decide_eq_false c15
           clear c15
           have H':=Aside0.mk H
           clear H
           have p12 : 0 ≤ (x25_2 : Int):=Up.od
           have q12 : x25_2 < (a0.size : Int):=Up.od
           have hx12:=bt_at a0 x25_2
           replace p12:=eq_true p12
           replace q12:=eq_true q12
           have p14 : 0 ≤ (x25_2 : Int):=Up.od
           have q14 : x25_2 < (a0.size : Int):=Up.od
           have hx14:=bt_at a0 x25_2
           replace p14:=eq_true p14
           replace q14:=eq_true q14
           have p16 : 0 ≤ (x25_2 : Int):=Up.od
           have q16 : x25_2 < (a0.size : Int):=Up.od
           have hx16:=bt_at a0 x25_2
           replace p16:=eq_true p16
           replace q16:=eq_true q16
           go_wp2
           go_roundg k2
           case measure => have:=HJ1.out;have:=HK2.out;omega
           case rel => exact ⟨(wrap64 ((wrap64 (10 * x4_2)) + (((bt a0 x25_2) - 48) % 256))),(wrap64 (x25_2 + 1)),(by first | rfl | (simp;done) | (simp [*];done)),(by first | rfl | (simp;done) | (simp [*];done)),H',⟨by have:=HJ1.out;have:=HK2.out;omega⟩,by repeat (first | exact Drawn0.refl _ | apply Drawn0.step)⟩
        ·rw [if_neg c11] at H
         exact absurd H (by simp)
       ·rw [if_neg c10] at H
        exact absurd H (by simp)
      ·rw [if_neg c9] at H
       have c9b0 : decide (x25_2 < (a0.size : Int)) = false:=decide_eq_false c9
       clear c9
       simp only [Option.some.injEq,Prod.mk.injEq] at H
       obtain ⟨rfl,rfl⟩:=H
       go_wp2
       go_ret2
       exact Up.e2

end Go.Proofs.YtfkhjnmgaadomaaDoor.OFnExactInsRead
