/- The law FnExactModuleRead answers true, for every text: its functions are walked, and what they write is told cell by cell. -/
-- squeezed
import Derived.Test.YtmclgkljmlpfbaaGreatDoorHandFnExactModuleReada
import Derived.Test.YtmclgkljmlpfbaaGreatDoorHandFnExactModuleReadb
namespace Go.Proofs.YtmclgkljmlpfbaaGreatDoor.Hand
open Go.RowKit Go.Proofs.YtmclgkljmlpfbaaGreatDoorW.PrintWords Go.Proofs.YtmclgkljmlpfbaaGreatDoorW.PrintLast Go.Proofs.YtmclgkljmlpfbaaGreatDoorW.PrintMore Go.Proofs.YtmclgkljmlpfbaaGreatDoor Go.Proofs.YtmclgkljmlpfbaaGreatDoor.Pure Go.Proofs.YtmclgkljmlpfbaaGreatDoor.Base
set_option linter.unusedVariables false
set_option linter.unusedSimpArgs false
open OFnExactModuleRead
attribute [local go_sem] max2_int min2_int max_two min_two max_three min_three max_four min_four
structure Pts (W : World) (base : Nat) (ok : Nat → Prop) (gP : Nat) (A0 A1 A2 A3 : Option Addr) (c0 c1 c2 c3 : Nat) (p0 p1 p2 p3 : List ByteArray) : Prop where
 y0 : W.cell? ⟨gP,0,none⟩ = some (.slice A0 p0.length c0)
 y1 : W.cell? ⟨gP,1,none⟩ = some (.slice A1 p1.length c1)
 y2 : W.cell? ⟨gP,2,none⟩ = some (.slice A2 p2.length c2)
 y3 : W.cell? ⟨gP,3,none⟩ = some (.slice A3 p3.length c3)
 v0 : Kd.V Kd.string 9 W base ok (.slice A0 p0.length c0) p0
 v1 : Kd.V Kd.string 9 W base ok (.slice A1 p1.length c1) p1
 v2 : Kd.V Kd.string 9 W base ok (.slice A2 p2.length c2) p2
 v3 : Kd.V Kd.string 9 W base ok (.slice A3 p3.length c3) p3
theorem Pts.below {W W1 : World} {base : Nat} {ok : Nat → Prop} {gP : Nat} {A0 A1 A2 A3 : Option Addr} {c0 c1 c2 c3 : Nat} {p0 p1 p2 p3 : List ByteArray} (h : Pts W base ok gP A0 A1 A2 A3 c0 c1 c2 c3 p0 p1 p2 p3) (hb : Below W.heap.size W W1) : Pts W1 base ok gP A0 A1 A2 A3 c0 c1 c2 c3 p0 p1 p2 p3 :=
 ⟨(hb.cell (World.block_lt_of_cell? _ _ h.y0)).trans h.y0,(hb.cell (World.block_lt_of_cell? _ _ h.y1)).trans h.y1,(hb.cell (World.block_lt_of_cell? _ _ h.y2)).trans h.y2,(hb.cell (World.block_lt_of_cell? _ _ h.y3)).trans h.y3,Kd.V_below h.v0 hb,Kd.V_below h.v1 hb,Kd.V_below h.v2 hb,Kd.V_below h.v3 hb⟩
theorem four_parts {W : World} {base gP cP : Nat} {ok : Nat → Prop} {ps : List (List ByteArray)} (h : Kd.V (Kd.slice 9 Kd.string) 32 W base ok (.slice (some ⟨gP,0,none⟩) ps.length cP) ps) (h4 : ps.length = 4) :
  ∃ A0 c0 A1 c1 A2 c2 A3 c3,Pts W base ok gP A0 A1 A2 A3 c0 c1 c2 c3 (ps.getD 0 []) (ps.getD 1 []) (ps.getD 2 []) (ps.getD 3 []):=by
 have one : ∀ j : Nat,j < 4 → ∃ A c,W.cell? (Addr.add ⟨gP,0,none⟩ j) = some (.slice A (ps.getD j []).length c) ∧ Kd.V Kd.string 9 W base ok (.slice A (ps.getD j []).length c) (ps.getD j []):=by
  intro j hj
  obtain ⟨ce,hce,hMe,hcc⟩:=Kd.V_get h [] (j : Int) (by omega) (by omega)
  obtain ⟨ua,uc,rfl,ul,ge⟩:=Kd.FK_slice_open hMe
  have hv:=hcc 0 _ rfl
  rw [Nat.add_zero,show (Kd.slice 9 Kd.string).sz = 1 from rfl,Nat.mul_one,Int.toNat_natCast] at hv
  have hrd : ∀ l : List ByteArray,l = ps.getD j [] → l.length ≤ uc → Kd.string.F W ok ua l.length l → W.cell? (Addr.add ⟨gP,0,none⟩ j) = some (.slice ua l.length uc) → ∃ A c,W.cell? (Addr.add ⟨gP,0,none⟩ j) = some (.slice A (ps.getD j []).length c) ∧ Kd.V Kd.string 9 W base ok (.slice A (ps.getD j []).length c) (ps.getD j []):=by
   intro l hl h1 h2 h3
   subst hl
   exact ⟨ua,uc,h3,Kd.V_mk h1 h2⟩
  exact hrd _ (by first | rfl | simp) ul ge hv
 obtain ⟨A0,c0,x0,y0⟩:=one 0 (by omega)
 obtain ⟨A1,c1,x1,y1⟩:=one 1 (by omega)
 obtain ⟨A2,c2,x2,y2⟩:=one 2 (by omega)
 obtain ⟨A3,c3,x3,y3⟩:=one 3 (by omega)
 exact ⟨A0,c0,A1,c1,A2,c2,A3,c3,x0,x1,x2,x3,y0,y1,y2,y3⟩
theorem below_less {m n : Nat} {w w' : World} (h : Below n w w') (hm : m ≤ n) : Below m w w':=⟨h.os,h.tape,h.output,h.size,fun k hk=>h.block k (Nat.lt_of_lt_of_le hk hm)⟩
def StepP (gm : Nat) (w w' : World) (res : Option MO) (b : Bool) : Prop:=Below gm w w' ∧ ((b = true ∧ ∃ M' rr fr vR vF vN cl,res = some M' ∧ w'.heap[gm]? = some (.cells #[vR,vF,vN] 26 (0,0)) ∧ Md w' gm (fun k=>gm < k) rr fr vR vF vN cl M') ∨ (b = false ∧ res = none))
def EndP (gm : Nat) (w w' : World) (res : Option MO) (e : Ending) : Prop:=∃ b,e = .returned (.bool b) ∧ StepP gm w w' res b
theorem EndP.bad {gm : Nat} {w w' : World} {res : Option MO} {e : Ending} (he : e = .returned (.bool false)) (hb : Below w.heap.size w w') (hg : gm < w.heap.size) (hr : res = none) : EndP gm w w' res e:=⟨false,he,below_less hb (Nat.le_of_lt hg),.inr ⟨rfl,hr⟩⟩
set_option maxHeartbeats 4000000 in
set_option maxRecDepth 100000 in
theorem head_own (gm : Nat) (w : World) (rr fr : List (List Value)) (vR vF vN cl : Value) (M : MO) (AW : Option Addr) (cW : Nat) (ws : List ByteArray) (hgm : gm < w.heap.size) (hbox : w.heap[gm]? = some (.cells #[vR,vF,vN] 26 (0,0))) (hMd : Md w gm (fun k=>gm < k) rr fr vR vF vN cl M) (hlen : M.f.length ≤ 1000) (hW : Kd.C Kd.string w AW ws.length ws) (hWc : ws.length ≤ cW) (hne : 0 < ws.length) (hl : ws.length ≤ 100000) :
  Calls Tryz.prog 39 #[.pointer (some ⟨gm,0,none⟩),.slice AW ws.length cW] w fun e w'=>EndP gm w w' ((headFn ws).map fun f=>⟨M.r,M.f ++ [f],M.n⟩) e:=by
 have hu26:=Tryz.underlying26
 have hu55:=Tryz.underlying55
 obtain ⟨k1,h1⟩:=ev_some (ev_impl_short (wd ws 0))
 obtain ⟨seen,ok,hsh⟩ : ∃ a b,sh (wd ws 0) = (a,b):=⟨_,_,rfl⟩
 rw [hsh] at h1
 have A1:=Mk h1
 have SH:=Mk hsh
 have HB:=Mk (Below.refl w.heap.size w)
 have BM:=Mk hbox
 have MD:=Mk hMd
 have LM:=Mk hlen
 have GM:=Mk hgm
 obtain ⟨ad,ea,hx0⟩:=Kd.at_string hW 0 (by omega) (by omega)
 subst ea
 change _ = some (Value.string (wd ws 0)) at hx0
 rw [show ((0 : Int)).toNat = 0 from rfl,Addr.add_zero'] at hx0
 have p0 : (0 < ws.length) = True:=eq_true (by omega)
 have q2 : (1 : Int) ≤ (ws.length : Int):=by omega
 obtain ⟨i0,hi0,_,hsz0,_⟩:=info_parts info9
 have hcut:=cut_from (P:=Tryz.prog) 32 9 .i64 Tryz.underlying32 hi0 1 hsz0 (some ad) ws.length cW 1 (by omega) q2
 have hC9:=Kd.C_drop (m:=1) (c:=cW) hW (by omega) hWc
 have hl9 : (ws.drop 1).length ≤ cW - (1 : Int).toNat:=by rw [List.length_drop];exact Nat.sub_le_sub_right hWc _
 obtain ⟨AX,hAX⟩ : ∃ A1,A1 = (if cW = (1 : Int).toNat then (some ad) else (some ad : Option Addr).map (·.add ((1 : Int).toNat * 1))):=⟨_,rfl⟩
 obtain ⟨cX,hcX⟩ : ∃ c1,c1 = cW - (1 : Int).toNat:=⟨_,rfl⟩
 rw [← hAX,← hcX,show ws.length - (1 : Int).toNat = (ws.drop 1).length by rw [List.length_drop];rfl] at hcut
 have hC9 : Kd.string.C w AX (ws.drop 1).length (ws.drop 1):=by rw [hAX];exact hC9
 rw [← hcX] at hl9
 have HWS:=Mk (show headFn ws = if (sh (wd ws 0)).2 = true ∧ (splitF (ws.drop 1)).length = 4 ∧ forms ((splitF (ws.drop 1)).getD 0 []) = true ∧ forms ((splitF (ws.drop 1)).getD 1 []) = true ∧ forms ((splitF (ws.drop 1)).getD 2 []) = true ∧ numsOk ((splitF (ws.drop 1)).getD 3 []) = true then some ⟨(sh (wd ws 0)).1,(splitF (ws.drop 1)).getD 0 [],(splitF (ws.drop 1)).getD 1 [],(splitF (ws.drop 1)).getD 2 [],numsOf ((splitF (ws.drop 1)).getD 3 []),[]⟩ else none by rw [split_FC];rfl)
 rw [hsh] at HWS
 have HL0 : (ws.drop 1).length ≤ 100000:=by rw [List.length_drop];omega
 have q2t : ((1 : Int) ≤ (ws.length : Int)) = True:=eq_true q2
 have HW0:=Mk hx0
 generalize ws.drop 1 = l0 at hcut hC9 hl9 HWS HL0
 have HR0:=Mk hC9
 have HL:=Mk HL0
 clear hAX hcX hi0 hsz0 hC9 hl9 hbox hMd hlen hgm hW h1 hsh HL0
 go_enter Tryz.func39,Tryz.ntmps39
 go_wp2_with (first
  | ((with_reducible refine gate_callee (f:=37) rfl ?_);refine U.gl (some 16) Tryz.func37 #[.string (wd ws 0)] ?_;(with_reducible refine (impl_short.calls k1 (wd ws 0) seen ok _ A1.out).mono ?_);rintro e w' ⟨rfl,⟨nd,rfl⟩⟩;refine ⟨_,rfl,?_⟩;replace HB:=Mk (pw_below_drewN HB.out nd);clear hx0;(generalize w.drewN nd = w4 at HB ⊢))
  | ((with_reducible refine gate_dst (N:=19) rfl ?_);refine R_litW Kd.string w.heap.size 9 ?hg (N:=19) ?hd (xs:=([] : List ByteArray)) (inner:=[]) (ok:=fun k_=>w.heap.size ≤ k_) (okp:=fun _=>False) ?hr ?hp (fun _ hk=>hk.elim) HB.out.size HB.out.size (by simp) ?_;(case hd=>rfl);(case hg=>rfl);(case hr=>first | (go_simp;done) | (go_simp;rfl));(case hp=>exact (Reps.none _ _));intro v5 w5 ho5 hb hg_;have HO5:=Mk ho5;replace HB:=Mk (below_step HB.out hb);clear hb hg_ ho5;obtain ⟨A5,c5,e5⟩:=Kd.R_slice HO5.out;subst e5)
  | ((with_reducible refine gate_dst (N:=20) rfl ?_);refine R_litW (Kd.tag (fun _=>0) (Kd.slice 9 Kd.string)) w.heap.size 32 ?hg (N:=20) ?hd (xs:=[(([] : List ByteArray),0)]) (inner:=[.slice A5 ([] : List ByteArray).length c5]) (ok:=fun k_=>w.heap.size ≤ k_) (okp:=fun k_=>w.heap.size ≤ k_) ?hr ?hp (fun _ hk=>hk) HB.out.size HB.out.size (by simp) ?_;(case hd=>rfl);(case hg=>rfl);(case hr=>first | (go_simp;done) | (go_simp;rfl));(case hp=>exact (Reps.one (show (Kd.tag (fun _=>0) (Kd.slice 9 Kd.string)).M _ _ _ (([] : List ByteArray),0) [.slice A5 ([] : List ByteArray).length c5] from ⟨_,rfl,Kd.R_mono HO5.out (fun _ hk=>⟨hk,rfl⟩)⟩) (Reps.none _ _)));intro v6 w6 ho6 hb hg_;have HO : Aside0 (Kd.S (Kd.slice 9 Kd.string) 32 w6 w.heap.size (fun k_=>w.heap.size ≤ k_) v6 [[]]):=⟨⟨_,ho6⟩⟩;replace HB:=Mk (below_step HB.out hb);clear hb hg_ ho6 HO5))
 go_loopw [7,24] (fun v7 v24 wr=>∃ i : Nat,i ≤ l0.length ∧ v24 = .int .i64 i ∧ Aside0 (Kd.S (Kd.slice 9 Kd.string) 32 wr w.heap.size (fun k_=>w.heap.size ≤ k_) v7 (splitF (l0.take i))) ∧ Aside0 (Below w.heap.size w wr)) (fun _ v24 _=>l0.length - (intOf v24).toNat)
 case atStart=>exact ⟨0,Nat.zero_le _,rfl,HO,HB⟩
 case round =>
  clear HO HB
  obtain ⟨i,hi,rfl,HO,HB⟩:=hrel
  obtain ⟨hp1,hp2⟩:=splitF_pos (l0.take i) [[]] (by simp)
  have hL:=HL.out
  by_cases hlt : i < l0.length
  ·obtain ⟨aX,e0,hx⟩:=Kd.at_string HR0.out (i : Int) (by omega) (by omega)
   have hrd : rdOf ByteArray.empty l0 (i : Int) = l0[i]:=by simp [rdOf,hlt]
   rw [hrd,Int.toNat_natCast] at hx
   have hts:=splitF_take hlt
   have hrow:=splitF_row (l0.take i) [[]] 0 (by simp)
   have hlen : (l0.take i).length = i:=by rw [List.length_take];omega
   rw [hlen] at hp2 hrow
   change 1 ≤ (splitF (l0.take i)).length at hp1
   change (splitF (l0.take i)).length ≤ _ at hp2
   change ∀ p ∈ splitF (l0.take i),_ at hrow
   generalize splitF (l0.take i) = ps at HO hts hp1 hp2 hrow
   generalize l0[i] = x at hx hts
   replace hp2 : ps.length ≤ 1 + i:=hp2
   replace hrow : ∀ p ∈ ps,p.length ≤ i:=fun p hp=>by have:=hrow p hp;omega
   subst e0
   have hx:=(HB.out.cell (World.block_lt_of_cell? w _ hx)).trans hx
   have q0 : decide ((i : Int) < (l0.length : Int)) = true:=decide_eq_true (by omega)
   have p1 : (0 ≤ (i : Int)) = True:=eq_true (by omega)
   have p2 : ((i : Int) < (l0.length : Int)) = True:=eq_true (by omega)
   by_cases c1 : x.toList = ([58] : List UInt8)
   ·have c1b0 : (x.toList == ([58] : List UInt8)) = true:=beq_iff_eq.mpr c1
    have HTS:=Mk (show ps ++ [[]] = splitF (l0.take (i + 1)) by rw [hts];unfold stepF;rw [if_pos c1])
    clear hts
    go_wp2_with (first
     | ((with_reducible refine gate_dst (N:=31) rfl ?_);refine R_litW Kd.string w.heap.size 9 ?hg (N:=31) ?hd (xs:=([] : List ByteArray)) (inner:=[]) (ok:=fun k_=>wr.heap.size ≤ k_) (okp:=fun _=>False) ?hr ?hp (fun _ hk=>hk.elim) (Nat.le_refl _) HB.out.size (by simp) ?_;(case hd=>rfl);(case hg=>rfl);(case hr=>first | (go_simp;done) | (go_simp;rfl));(case hp=>exact (Reps.none _ _));intro v5 w5 ho5 hb hg_;have HO5:=Mk ho5;have HN:=Mk hb.size;replace HO:=Mk (Kd.S_mono (ok':=fun k_=>w.heap.size ≤ k_ ∧ k_ < wr.heap.size) (Kd.S_below (Kd.S_bound HO.out) hb) (fun k hk=>⟨hk.1,hk.2.2.1⟩));have HW:=Mk HB.out.size;replace HB:=Mk (below_step HB.out hb);clear hb hg_ ho5;obtain ⟨A5,c5,e5⟩:=Kd.R_slice HO5.out;subst e5)
     | ((with_reducible refine gate_builtin (b:=.append) (xs:=#[.tmp 30,.tmp 32]) rfl ?_);at_builtin;refine Kd.S_append (Kd.slice 9 Kd.string) (w0:=w) w.heap.size rfl (.tmp 30) (.tmp 32) 83 32 (.slice none 0 0) 24 rfl Tryz.underlying83 (show (Tryz.prog.info? 32).map (fun i=>(i.zero,i.size,i.bytes)) = some (some (.slice none 0 0),1,24) by kernel_rfl) rfl (by decide) (by omega) u7 ps [] [.slice A5 ([] : List ByteArray).length c5] (fun k=>w.heap.size ≤ k) (fun k=>wr.heap.size ≤ k) rfl rfl ?aP ?aX ?aF ?aO ?aB ?aS ?aL ?_;(case aP=>exact ⟨_,rfl,HO5.out⟩);(case aX=>exact fun k hk=>⟨Nat.le_trans HW.out hk,fun he=>by have:=(HO.out.choose_spec.1 k he.symm).2;omega⟩);(case aF=>exact fun k hk=>Nat.le_trans HB.out.size hk);(case aO=>exact Kd.S_mono HO.out (fun k hk=>⟨hk.1,fun h=>by have:=hk.2;omega⟩));(case aB=>exact HB.out);(case aS=>exact HB.out.size);(case aL=>omega);intro v15 w15 ho hb hgr hat;rw [HTS.out] at ho;replace HB:=Mk hb;replace HO:=Mk ho;clear ho hb hgr hat))
    go_roundw
    case rel=>exact ⟨i + 1,by omega,by go_num,HO,HB⟩
    case measure=>simp [intOf];omega
   ·have c1b0 : (x.toList == ([58] : List UInt8)) = false:=beq_eq_false_iff_ne.mpr c1
    have HTS:=Mk (show ps.set (ps.length - 1) (ps.getD (ps.length - 1) [] ++ [x]) = splitF (l0.take (i + 1)) by rw [hts];unfold stepF;rw [if_neg c1])
    clear hts
    obtain ⟨g4,c4,e4,hge,hglt,_⟩:=Kd.S_form HO.out (by omega)
    subst e4
    obtain ⟨m,hm⟩ : ∃ m : Nat,m + 1 = ps.length:=⟨ps.length - 1,by omega⟩
    obtain ⟨_,cu,hcu,hMu,hccu,_,_,_⟩:=Kd.S_elem HO.out [] (m : Int) (by omega) (by omega)
    obtain ⟨u0,rfl,hRu⟩:=hMu
    have hcell : wr.cell? ⟨g4,m,none⟩ = some u0:=by
     have:=hccu 0 u0 rfl
     rw [Int.toNat_natCast] at this
     simpa [Kd.slice] using this
    obtain ⟨B0,b0,eu⟩:=Kd.R_slice hRu
    generalize hx0 : ps.getD (m : Int).toNat [] = x0 at hRu eu
    have HX0:=Mk hx0
    have HRW:=Mk hrow
    have HGE:=Mk hge
    have HGL:=Mk hglt
    have HM:=Mk hm
    have em : m = ps.length - 1:=by omega
    clear hccu hx0 hrow hRu hge hglt hm
    subst eu
    rw [em] at hcell
    have EM:=Mk em
    clear em
    go_wp2_with (first
     | ((with_reducible refine gate_dst (N:=45) rfl ?_)
        refine R_litW Kd.string wr.heap.size 9 ?hg (N:=45) ?hd (xs:=[x]) (inner:=[.string x]) (ok:=fun k_=>wr.heap.size ≤ k_) (okp:=fun k_=>wr.heap.size ≤ k_) ?hr ?hp (fun _ hk=>hk) (Nat.le_refl _) (Nat.le_refl _) (by simp) ?_
        (case hd=>rfl)
        (case hg=>rfl)
        (case hr=>first | (go_simp;done) | (go_simp;rfl))
        (case hp=>exact Reps.one (show Kd.string.M _ _ _ x [.string x] from rfl) (Reps.none _ _))
        intro v36 w28 ho36 hb hg_
        replace HO:=Mk (Kd.S_mono (Kd.S_below (Kd.S_bound HO.out) hb) (ok':=fun k_=>w.heap.size ≤ k_ ∧ k_ < wr.heap.size) (fun _ h=>⟨h.1,h.2.2.1⟩))
        have hcell:=(hb.cell (World.block_lt_of_cell? _ _ hcell)).trans hcell
        have HL3:=Mk ho36
        have HW:=Mk HB.out.size
        have HT:=Mk hb.size
        replace HB:=Mk (below_step HB.out hb)
        clear hb hg_ ho36
        obtain ⟨B3,b3,e3⟩:=Kd.R_slice HL3.out;subst e3)
     | ((with_reducible refine gate_builtin (b:=.append) (xs:=#[.tmp 43,.tmp 45]) rfl ?_);at_builtin
        have hm8:=HM.out
        obtain ⟨oki,cu,_,hMu,hccu,_,hoki,hH⟩:=Kd.S_elem HO.out [] (m : Int) (by omega) (by omega)
        obtain ⟨u1,rfl,hRv⟩:=hMu
        have hccu0 : w28.cell? ⟨g4,ps.length - 1,none⟩ = some u1:=by
          have:=hccu 0 u1 rfl
          rw [Int.toNat_natCast,EM.out] at this
          simpa [Kd.slice] using this
        obtain rfl : u1 = .slice B0 x0.length b0:=Option.some.inj (hccu0.symm.trans hcell)
        rw [HX0.out] at hRv
        have hx1 : x0.length ≤ i:=by
          rw [← HX0.out]
          exact HRW.out _ (by rw [List.getD_eq_getElem?_getD,List.getElem?_eq_getElem (by rw [Int.toNat_natCast];have:=HM.out;omega)];exact List.getElem_mem _)
        refine Kd.R_append_rows Kd.string w.heap.size (by rfl) (.tmp 43) (.tmp 45) 32 9 (.string ⟨#[]⟩) 16 rfl Tryz.underlying32 info9 rfl (by decide) (by omega) (.slice B0 x0.length b0) x0 [x] _ _ _ (fun k_=>oki k_ ∨ wr.heap.size ≤ k_) (fun k_=>wr.heap.size ≤ k_) rfl rfl ?aO (R_readsM HL3.out) (fun _ _ h=>h) ?aK ?aF (Below.refl _ _) (Nat.le_trans HW.out HT.out) ?aL ?_
        (case aO=>exact Kd.R_mono hRv (fun _ h=>.inl h))
        (case aK=>exact fun k_ hk=>⟨.inr hk,fun he=>absurd (hoki k_ (hRv.1 k_ he.symm)).1.2 (Nat.not_lt.2 hk)⟩)
        (case aF=>exact fun k_ hk=>.inr (Nat.le_trans HT.out hk))
        (case aL=>simp only [List.length_cons,List.length_nil];omega)
        intro v37 w29 ho hb hg hat
        have hH2:=Kd.H_grown hH hg (fun k hk=>hRv.1 k hk)
        have hcell : w29.cell? ⟨g4,ps.length - 1,none⟩ = some (.slice B0 x0.length b0):=by
          obtain ⟨_,_,_,_,_,hc9,_⟩:=Kd.H_raw hH2 (by omega) (by have:=HM.out;omega)
          have:=hc9 0 _ rfl
          rw [Int.toNat_natCast,EM.out] at this
          simpa [Kd.slice] using this
        replace HB:=Mk (below_weaken HB.out (Nat.le_refl _) hb)
        have hfz : w29.frozen? ⟨g4,ps.length - 1,none⟩ = false:=by
          have hm8:=HM.out
          obtain ⟨_,_,hraw,_⟩:=Kd.H_raw hH2 (by omega) (by omega)
          obtain ⟨_,_,_,_,hf9⟩:=Kd.R_elem hraw [] (m : Int) (by omega) (by omega)
          have:=hf9 0
          rw [Int.toNat_natCast,EM.out] at this
          simpa [Kd.raw,Kd.slice] using this
        obtain ⟨B4,b4,e4⟩:=Kd.R_slice ho
        generalize hn4 : (x0 ++ [x]).length = n4 at e4
        subst e4
        have HH2:=Mk hH2
        have HOO:=Mk ho
        clear hn4 hH2 ho hb hg hat hccu hccu0 hRv hoki hH hx1 hm8))
    obtain ⟨hS9,_⟩:=Kd.S_seg (okg:=fun k=>wr.heap.size ≤ k) (ok:=fun k_=>w.heap.size ≤ k_) (okp:=fun k_=>oki k_ ∨ wr.heap.size ≤ k_) (seg:=[.slice B4 n4 b4]) (j:=0) (x':=x0 ++ [x]) (Kd.H_mono HH2.out (fun k hk=>⟨hk.1,Nat.not_le.2 hk.2⟩)) (by omega) (by have:=HM.out;omega) (Nat.le_refl _) ⟨_,rfl,HOO.out⟩ (fun _ h=>h) (fun k hk=>⟨Nat.le_trans HW.out hk,Nat.ne_of_gt (Nat.lt_of_lt_of_le HGL.out hk)⟩)
    have hS8 : Kd.S (Kd.slice 9 Kd.string) 32 (w29.setCell ⟨g4,ps.length - 1,none⟩ (.slice B4 n4 b4)) w.heap.size (fun k_=>w.heap.size ≤ k_) (.slice (some ⟨g4,0,none⟩) ps.length c4) (splitF (l0.take (i + 1))):=by
     rw [← HTS.out]
     have hm9 : ps.length - 1 = m:=by have:=HM.out;omega
     have:=hS9
     have hx0:=HX0.out
     rw [Int.toNat_natCast] at this hx0
     rw [hm9,hx0]
     simpa [World.setCells,Kd.slice] using this
    have hB9 : Below w.heap.size w (w29.setCell ⟨g4,ps.length - 1,none⟩ (.slice B4 n4 b4)):=below_set HB.out HGE.out
    go_roundw
    case rel=>exact ⟨i + 1,by omega,by go_num,⟨hS8⟩,⟨hB9⟩⟩
    case measure=>simp [intOf];omega
  ·have hie : i = l0.length:=by omega
   have q0 : decide ((i : Int) < (l0.length : Int)) = false:=decide_eq_false (by omega)
   replace HO:=Mk (show Kd.S (Kd.slice 9 Kd.string) 32 wr w.heap.size (fun k=>w.heap.size ≤ k) u7 (splitF l0) by have:=HO.out;rwa [hie,List.take_length] at this)
   clear hie hp1 hp2
   have HV:=Kd.N_V (base':=w.heap.size) (Kd.S_N HO.out)
   have hrow:=splitF_row l0 [[]] 0 (by simp)
   change ∀ p ∈ splitF l0,_ at hrow
   have hpp:=(splitF_pos l0 [[]] (by simp)).1
   change 1 ≤ (splitF l0).length at hpp
   generalize splitF l0 = ps at HO HV HWS hrow hpp
   obtain ⟨gP,cP,eP,hgP,_,_⟩:=Kd.S_form HO.out (by omega)
   subst eP
   have HGP:=Mk hgP
   clear hgP
   clear HO hpp
   cases ok with
   | false =>
    go_wp2
    go_ret
    exact EndP.bad rfl HB.out GM.out (by rw [HWS.out,if_neg (by simp)];rfl)
   | true =>
    by_cases h4 : ps.length = 4
    ·have q4 : ((ps.length : Int) != 4) = false:=bne_eq_false_iff_eq.mpr (by omega)
     have q5 : ((ps.length : Int) == 4) = true:=beq_iff_eq.mpr (by omega)
     obtain ⟨B0,b0,B1,b1,B2,b2,B3,b3,hP⟩:=four_parts HV h4
     clear HV
     have hq : ∀ j,(ps.getD j []).length ≤ 1000000:=fun j=>by
      rw [List.getD_eq_getElem?_getD]
      cases hh : ps[j]? with
      | none=>simp
      | some r=>have:=hrow r (List.mem_of_getElem? hh);simp;omega
     obtain ⟨kf0,e0⟩:=ev_some (ev_impl_forms (ps.getD 0 []) (hq 0))
     obtain ⟨kf1,e1⟩:=ev_some (ev_impl_forms (ps.getD 1 []) (hq 1))
     obtain ⟨kf2,e2⟩:=ev_some (ev_impl_forms (ps.getD 2 []) (hq 2))
     obtain ⟨kf3,e3⟩:=ev_some (ev_impl_shorts (ps.getD 3 []) (hq 3))
     clear hrow
     have hq3:=hq 3
     clear hq hi
     generalize ps.getD 0 [] = t0 at hP e0 HWS
     generalize ps.getD 1 [] = t1 at hP e1 HWS
     generalize ps.getD 2 [] = t2 at hP e2 HWS
     generalize ps.getD 3 [] = t3 at hP e3 HWS hq3
     generalize forms t0 = f0 at e0 HWS
     generalize forms t1 = f1 at e1 HWS
     generalize forms t2 = f2 at e2 HWS
     generalize numsOf t3 = ns at e3 HWS
     generalize numsOk t3 = fine at e3 HWS
     have F0:=Mk e0;have F1:=Mk e1;have F2:=Mk e2;have F3:=Mk e3
     have HP:=Mk hP
     have c1 : (0 : Int) < (ps.length : Int):=by omega
     have c2 : (1 : Int) < (ps.length : Int):=by omega
     have c3 : (2 : Int) < (ps.length : Int):=by omega
     have c4 : (3 : Int) < (ps.length : Int):=by omega
     have g0 : (0 < ps.length) = True:=eq_true (by omega)
     have g1 : (1 < ps.length) = True:=eq_true (by omega)
     have g2 : (2 < ps.length) = True:=eq_true (by omega)
     have g3 : (3 < ps.length) = True:=eq_true (by omega)
     obtain ⟨y0,y1,y2,y3,_,_,_,_⟩:=hP
     have H4:=Mk h4
     clear h4 e0 e1 e2 e3
     cases f0 with
     | false =>
      go_wp2_with (first
       | ((with_reducible refine gate_callee (f:=36) rfl ?_);refine wpList_step fun K hK=>?_;refine U.go Tryz.func36 #[.slice B0 t0.length b0] ?_;(with_reducible refine (impl_forms.calls kf0 _ _ t0 false _ (Kd.V_reads' HP.out.v0).2.2 (Kd.V_reads' HP.out.v0).2.1 F0.out).mono ?_);rintro e w' ⟨rfl,hd⟩;refine ⟨_,rfl,hK _ _ ?_⟩;clear hK;have hb:=Drawn0.below hd;clear hd;replace HP:=Mk (HP.out.below hb);replace HB:=Mk (below_step HB.out hb);clear hb y0 y1 y2 y3;obtain ⟨y0,y1,y2,y3,_,_,_,_⟩:=HP.out))
      go_ret
      exact EndP.bad rfl HB.out GM.out (by rw [HWS.out,if_neg (by simp)];rfl)
     | true =>
      cases f1 with
      | false =>
       go_wp2_with (first
        | ((with_reducible refine gate_callee (f:=36) rfl ?_);refine wpList_step fun K hK=>?_;refine U.go Tryz.func36 #[.slice B0 t0.length b0] ?_;(with_reducible refine (impl_forms.calls kf0 _ _ t0 true _ (Kd.V_reads' HP.out.v0).2.2 (Kd.V_reads' HP.out.v0).2.1 F0.out).mono ?_);rintro e w' ⟨rfl,hd⟩;refine ⟨_,rfl,hK _ _ ?_⟩;clear hK;have hb:=Drawn0.below hd;clear hd;replace HP:=Mk (HP.out.below hb);replace HB:=Mk (below_step HB.out hb);clear hb y0 y1 y2 y3;obtain ⟨y0,y1,y2,y3,_,_,_,_⟩:=HP.out)
        | ((with_reducible refine gate_callee (f:=36) rfl ?_);refine wpList_step fun K hK=>?_;refine U.go Tryz.func36 #[.slice B1 t1.length b1] ?_;(with_reducible refine (impl_forms.calls kf1 _ _ t1 false _ (Kd.V_reads' HP.out.v1).2.2 (Kd.V_reads' HP.out.v1).2.1 F1.out).mono ?_);rintro e w' ⟨rfl,hd⟩;refine ⟨_,rfl,hK _ _ ?_⟩;clear hK;have hb:=Drawn0.below hd;clear hd;replace HP:=Mk (HP.out.below hb);replace HB:=Mk (below_step HB.out hb);clear hb y0 y1 y2 y3;obtain ⟨y0,y1,y2,y3,_,_,_,_⟩:=HP.out))
       go_ret
       exact EndP.bad rfl HB.out GM.out (by rw [HWS.out,if_neg (by simp)];rfl)
      | true =>
       cases f2 with
       | false =>
        go_wp2_with (first
         | ((with_reducible refine gate_callee (f:=36) rfl ?_);refine wpList_step fun K hK=>?_;refine U.go Tryz.func36 #[.slice B0 t0.length b0] ?_;(with_reducible refine (impl_forms.calls kf0 _ _ t0 true _ (Kd.V_reads' HP.out.v0).2.2 (Kd.V_reads' HP.out.v0).2.1 F0.out).mono ?_);rintro e w' ⟨rfl,hd⟩;refine ⟨_,rfl,hK _ _ ?_⟩;clear hK;have hb:=Drawn0.below hd;clear hd;replace HP:=Mk (HP.out.below hb);replace HB:=Mk (below_step HB.out hb);clear hb y0 y1 y2 y3;obtain ⟨y0,y1,y2,y3,_,_,_,_⟩:=HP.out)
         | ((with_reducible refine gate_callee (f:=36) rfl ?_);refine wpList_step fun K hK=>?_;refine U.go Tryz.func36 #[.slice B1 t1.length b1] ?_;(with_reducible refine (impl_forms.calls kf1 _ _ t1 true _ (Kd.V_reads' HP.out.v1).2.2 (Kd.V_reads' HP.out.v1).2.1 F1.out).mono ?_);rintro e w' ⟨rfl,hd⟩;refine ⟨_,rfl,hK _ _ ?_⟩;clear hK;have hb:=Drawn0.below hd;clear hd;replace HP:=Mk (HP.out.below hb);replace HB:=Mk (below_step HB.out hb);clear hb y0 y1 y2 y3;obtain ⟨y0,y1,y2,y3,_,_,_,_⟩:=HP.out)
         | ((with_reducible refine gate_callee (f:=36) rfl ?_);refine wpList_step fun K hK=>?_;refine U.go Tryz.func36 #[.slice B2 t2.length b2] ?_;(with_reducible refine (impl_forms.calls kf2 _ _ t2 false _ (Kd.V_reads' HP.out.v2).2.2 (Kd.V_reads' HP.out.v2).2.1 F2.out).mono ?_);rintro e w' ⟨rfl,hd⟩;refine ⟨_,rfl,hK _ _ ?_⟩;clear hK;have hb:=Drawn0.below hd;clear hd;replace HP:=Mk (HP.out.below hb);replace HB:=Mk (below_step HB.out hb);clear hb y0 y1 y2 y3;obtain ⟨y0,y1,y2,y3,_,_,_,_⟩:=HP.out))
        go_ret
        exact EndP.bad rfl HB.out GM.out (by rw [HWS.out,if_neg (by simp)];rfl)
       | true =>
        go_upto_region 13 with (first
         | ((with_reducible refine gate_callee (f:=36) rfl ?_);refine wpList_step fun K hK=>?_;refine U.go Tryz.func36 #[.slice B0 t0.length b0] ?_;(with_reducible refine (impl_forms.calls kf0 _ _ t0 true _ (Kd.V_reads' HP.out.v0).2.2 (Kd.V_reads' HP.out.v0).2.1 F0.out).mono ?_);rintro e w' ⟨rfl,hd⟩;refine ⟨_,rfl,hK _ _ ?_⟩;clear hK;have hb:=Drawn0.below hd;clear hd;replace HP:=Mk (HP.out.below hb);replace HB:=Mk (below_step HB.out hb);clear hb y0 y1 y2 y3;obtain ⟨y0,y1,y2,y3,_,_,_,_⟩:=HP.out)
         | ((with_reducible refine gate_callee (f:=36) rfl ?_);refine wpList_step fun K hK=>?_;refine U.go Tryz.func36 #[.slice B1 t1.length b1] ?_;(with_reducible refine (impl_forms.calls kf1 _ _ t1 true _ (Kd.V_reads' HP.out.v1).2.2 (Kd.V_reads' HP.out.v1).2.1 F1.out).mono ?_);rintro e w' ⟨rfl,hd⟩;refine ⟨_,rfl,hK _ _ ?_⟩;clear hK;have hb:=Drawn0.below hd;clear hd;replace HP:=Mk (HP.out.below hb);replace HB:=Mk (below_step HB.out hb);clear hb y0 y1 y2 y3;obtain ⟨y0,y1,y2,y3,_,_,_,_⟩:=HP.out)
         | ((with_reducible refine gate_callee (f:=36) rfl ?_);refine wpList_step fun K hK=>?_;refine U.go Tryz.func36 #[.slice B2 t2.length b2] ?_;(with_reducible refine (impl_forms.calls kf2 _ _ t2 true _ (Kd.V_reads' HP.out.v2).2.2 (Kd.V_reads' HP.out.v2).2.1 F2.out).mono ?_);rintro e w' ⟨rfl,hd⟩;refine ⟨_,rfl,hK _ _ ?_⟩;clear hK;have hb:=Drawn0.below hd;clear hd;replace HP:=Mk (HP.out.below hb);replace HB:=Mk (below_step HB.out hb);clear hb y0 y1 y2 y3;obtain ⟨y0,y1,y2,y3,_,_,_,_⟩:=HP.out)
         | ((with_reducible refine gate_callee (f:=38) rfl ?_);refine wpList_step fun K hK=>?_;refine U.go Tryz.func38 #[.slice B3 t3.length b3] ?_;(with_reducible refine (impl_shorts.calls kf3 _ _ t3 ns fine _ (Kd.V_reads' HP.out.v3).2.2 (Kd.V_reads' HP.out.v3).2.1 F3.out).mono ?_);rintro e w12 ⟨v12,rfl,ho,hb⟩;refine ⟨_,rfl,hK _ _ ?_⟩;clear hK;obtain ⟨BT,bT,eT⟩:=Kd.R_slice ho;subst eT;have HT:=Mk (Kd.R_mono (ok':=fun k=>w.heap.size ≤ k) (Kd.R_lower (Kd.R_bound ho) HB.out.size) (fun k hk=>Nat.le_trans HB.out.size hk.2.1));replace HP:=Mk (HP.out.below hb);replace HB:=Mk (below_step HB.out hb);clear hb ho y0 y1 y2 y3;obtain ⟨y0,y1,y2,y3,_,_,_,_⟩:=HP.out))
        obtain ⟨AR,cR,AF,cF,AN,cN,eR,_,_,eF,_,_,eN,_,_⟩:=MD.out.reads
        subst eR;subst eF;subst eN
        have RL:=Mk (show fr.length = M.f.length from by
         obtain ⟨_,_,a3⟩:=Foot.now MD.out.rest
         rcases a3 with ⟨e1,e2⟩ | ⟨fs0,g,fr0,s,e1,e2,h1,h2⟩
         ·rw [e1,e2];rfl
         ·rw [e1,e2];simp [h1.1])
        have OR:=Mk (Kd.R_lt MD.out.recs)
        have OF:=Mk (Kd.R_lt MD.out.funs)
        replace HB:=Mk (below_drew1 HB.out)
        replace HP:=Mk (HP.out.below (below_drew (Below.refl _ _)))
        replace HT:=Mk (Kd.R_below HT.out (below_drew (Below.refl _ _)))
        replace MD:=Mk (MD.out.below HB.out)
        replace BM:=Mk (blk_below BM.out HB.out)
        clear y0 y1 y2 y3
        refine start_ (n:=22) (S:=fun w'=>w'.cell? ⟨gm,1,none⟩ = some (.slice AF M.f.length cF) ∧ w'.cell? ⟨gP,0,none⟩ = some (.slice B0 t0.length b0) ∧ w'.cell? ⟨gP,1,none⟩ = some (.slice B1 t1.length b1) ∧ w'.cell? ⟨gP,2,none⟩ = some (.slice B2 t2.length b2)) (ds:=[21]) #[false,false,false,false,false,false,false,false,false,false,false,false,false,false,false,false,false,false,false,false,false,false] (by kernel_rfl) rfl rfl ⟨U.c1 BM,HP.out.y0,HP.out.y1,HP.out.y2⟩ (fun hHeld=>?_)
        (generalize w12.drew = w18 at BM MD HB HP HT hHeld ⊢)
        refine U.pn 0 (some 84) ?_
        refine U.pn 1 (some 85) ?_
        refine U.pn 2 (some 86) ?_
        refine U.pn 3 (some 87) ?_
        refine U.pn 5 (some 89) ?_
        refine U.pn 6 (some 90) ?_
        refine U.pn 7 (some 91) ?_
        refine U.pn 9 (some 93) ?_
        refine U.pn 10 (some 94) ?_
        refine U.pn 12 (some 96) ?_
        refine U.pn 13 (some 97) ?_
        refine U.pn 15 (some 99) ?_
        refine take_ (i:=4) (N:=some 88) (v:=.slice AF M.f.length cF) #[true,true,true,true,true,true,true,true,false,true,true,false,true,true,false,true,false,false,false,false,false,false] rfl rfl (by kernel_rfl) (fun _ _ _ h=>h) (Or.inl ⟨by rfl,?_⟩) hHeld (by simp only [Act.put,List.setIfInBounds_toArray,List.set_cons_zero,List.set_cons_succ];rfl) ?_
        ·rintro w' ⟨s0,s1,s2,s3⟩
         go_simp
        refine take_ (i:=8) (N:=some 92) (v:=.slice B0 t0.length b0) #[true,true,true,true,true,true,true,true,true,true,true,false,true,true,false,true,false,false,false,false,false,false] rfl rfl (by kernel_rfl) (fun _ _ _ h=>h) (Or.inl ⟨by rfl,?_⟩) hHeld (by simp only [Act.put,List.setIfInBounds_toArray,List.set_cons_zero,List.set_cons_succ];rfl) ?_
        ·rintro w' ⟨s0,s1,s2,s3⟩
         go_simp
        refine take_ (i:=11) (N:=some 95) (v:=.slice B1 t1.length b1) #[true,true,true,true,true,true,true,true,true,true,true,true,true,true,false,true,false,false,false,false,false,false] rfl rfl (by kernel_rfl) (fun _ _ _ h=>h) (Or.inl ⟨by rfl,?_⟩) hHeld (by simp only [Act.put,List.setIfInBounds_toArray,List.set_cons_zero,List.set_cons_succ];rfl) ?_
        ·rintro w' ⟨s0,s1,s2,s3⟩
         go_simp
        refine take_ (i:=14) (N:=some 98) (v:=.slice B2 t2.length b2) #[true,true,true,true,true,true,true,true,true,true,true,true,true,true,true,true,false,false,false,false,false,false] rfl rfl (by kernel_rfl) (fun _ _ _ h=>h) (Or.inl ⟨by rfl,?_⟩) hHeld (by simp only [Act.put,List.setIfInBounds_toArray,List.set_cons_zero,List.set_cons_succ];rfl) ?_
        ·rintro w' ⟨s0,s1,s2,s3⟩
         go_simp
        refine U.pn 16 (some 100) ?_
        refine one_ (i:=17) (N:=some 101) #[true,true,true,true,true,true,true,true,true,true,true,true,true,true,true,true,true,true,false,false,false,false] rfl rfl (by kernel_rfl) (by decide) (fun K hK=>?_)
        refine R_litW_step (Kd.raw 6) w18.heap.size 55 ?hg (N:=101) ?hd (xs:=[[.int .i64 seen,.slice B0 t0.length b0,.slice B1 t1.length b1,.slice B2 t2.length b2,.slice BT ns.length bT,.slice none 0 0]]) (inner:=[.int .i64 seen,.slice B0 t0.length b0,.slice B1 t1.length b1,.slice B2 t2.length b2,.slice BT ns.length bT,.slice none 0 0]) (ok:=fun _=>True) (okp:=fun _=>True) ?hr ?hp (fun _ hk=>hk) trivial (Nat.le_refl _) (by simp) ?_
        (case hd=>rfl)
        (case hg=>rfl)
        (case hr=>first | (go_simp;done) | (go_simp;rfl))
        (case hp=>exact ⟨rfl,fun j p hj=>by
         rcases j with _ | j
         ·obtain rfl : _ = p:=Option.some.inj hj
          exact ⟨rfl,rfl,by intro u hu;change u ∈ [_,_,_,_,_,_] at hu;simp only [List.mem_cons,List.not_mem_nil,or_false] at hu;rcases hu with rfl | rfl | rfl | rfl | rfl | rfl<;>rfl⟩
         ·cases hj⟩)
        intro v101 w19 ho101 hb hg_
        have HL:=Mk ho101
        replace MD:=Mk (MD.out.below hb)
        replace BM:=Mk (blk_below BM.out hb)
        replace HP:=Mk (HP.out.below hb)
        replace HT:=Mk (Kd.R_below HT.out hb)
        replace HB:=Mk (below_step HB.out hb)
        clear hb hg_ ho101 hHeld
        obtain ⟨B9,b9,e9⟩:=Kd.R_slice HL.out;subst e9
        refine hK.out _ _ ⟨U.c1 BM,HP.out.y0,HP.out.y1,HP.out.y2⟩ (fun hHeld=>?_)
        clear hK K
        refine U.nm 101 ?_
        refine one_ (i:=18) (N:=some 102) #[true,true,true,true,true,true,true,true,true,true,true,true,true,true,true,true,true,true,true,false,false,false] rfl rfl (by kernel_rfl) (by decide) (fun K hK=>?_)
        refine Kd.R_append_rows_step (Kd.raw 6) gm (by rfl) (.tmp 88) (.tmp 101) 23 55 (.agg #[(.int .i64 0),(.slice none 0 0),(.slice none 0 0),(.slice none 0 0),(.slice none 0 0),(.slice none 0 0)]) 128 rfl Tryz.underlying23 info55 rfl (by decide) (by omega) (.slice AF M.f.length cF) fr [[.int .i64 seen,.slice B0 t0.length b0,.slice B1 t1.length b1,.slice B2 t2.length b2,.slice BT ns.length bT,.slice none 0 0]] _ _ _ (fun _=>True) (fun k=>some k ≠ (Value.slice AF M.f.length cF).ownBlock) rfl rfl (Kd.raw_any MD.out.funs) (R_readsM HL.out) (fun _ _ h=>⟨h.1,h.2⟩) (fun k hk=>⟨trivial,hk⟩) (fun _ _=>trivial) (Below.refl _ _) (Nat.le_trans (Nat.le_of_lt GM.out) HB.out.size) ?aL ?_
        (case aL=>have:=RL.out;have:=LM.out;simp only [List.length_cons,List.length_nil];omega)
        intro v102 w20 ho hb hg hat
        have ho:=Kd.raw_tight ho
        have nm:=Kd.R_ne MD.out.funs BM.out (by decide)
        have nP : some gP ≠ (Value.slice AF M.f.length cF).ownBlock:=fun he=>by have:=OF.out gP he.symm;have:=HGP.out;omega
        have lP : gP < w19.heap.size:=World.block_lt_of_cell? _ _ HP.out.y0
        have hblk : w20.heap[gP]? = w19.heap[gP]?:=hg.block gP lP nP
        have hcP : w20.cell? ⟨gP,0,none⟩ = some (.slice B0 t0.length b0) ∧ w20.cell? ⟨gP,1,none⟩ = some (.slice B1 t1.length b1) ∧ w20.cell? ⟨gP,2,none⟩ = some (.slice B2 t2.length b2):=by
         have y0:=HP.out.y0;have y1:=HP.out.y1;have y2:=HP.out.y2
         simp only [World.cell?,hblk] at y0 y1 y2 ⊢
         exact ⟨y0,y1,y2⟩
        have hg9 : ∀ k,w.heap.size ≤ k → OK3 (fun k=>gm < k) (.slice AR M.r.length cR) (.slice AF M.f.length cF) (.slice none 0 0) k:=fun k hk=>⟨Nat.lt_of_lt_of_le GM.out hk,fun he=>by have:=OR.out k he.symm;omega,fun he=>by have:=OF.out k he.symm;omega,fun he=>by simp [Value.ownBlock] at he⟩
        have HFR : Foot (fun W=>FnRow W ⟨seen,t0,t1,t2,ns,[]⟩ [.int .i64 seen,.slice B0 t0.length b0,.slice B1 t1.length b1,.slice B2 t2.length b2,.slice BT ns.length bT,.slice none 0 0] (.slice none 0 0)) w19 (OK3 (fun k=>gm < k) (.slice AR M.r.length cR) (.slice AF M.f.length cF) (.slice none 0 0)):=fun W hW=>⟨B0,b0,B1,b1,B2,b2,BT,bT,rfl,⟨(Kd.V_reads' HP.out.v0).2.1,Foot.mono (Kd.V_F HP.out.v0) hg9 W hW⟩,⟨(Kd.V_reads' HP.out.v1).2.1,Foot.mono (Kd.V_F HP.out.v1) hg9 W hW⟩,⟨(Kd.V_reads' HP.out.v2).2.1,Foot.mono (Kd.V_F HP.out.v2) hg9 W hW⟩,⟨(Kd.R_reads' HT.out).2.1,Foot.mono (Kd.R_F HT.out) hg9 W hW⟩⟩
        have nc:=Kd.R_ne MD.out.code BM.out (by decide)
        have MD2:=Mk (MD.out.addFun (f:=⟨seen,t0,t1,t2,ns,[]⟩) hg hat ho (Kd.R_nil _ _ _ _ _) (fun k hk=>Nat.lt_of_le_of_ne (Kd.R_base MD.out.code k hk.symm) (fun he=>nc (by rw [he];exact hk))) (fun k hk he=>by simp [Value.ownBlock] at he) HFR (Foot.mono MD.out.rest (fun k hk=>⟨hk.1,hk.2.1,hk.2.2.1,fun he=>by simp [Value.ownBlock] at he⟩)))
        replace BM:=Mk (blk_grown BM.out hg nm)
        have HB2:=Mk ((below_less HB.out (Nat.le_of_lt GM.out)).trans hb)
        obtain ⟨A84,c84,e84⟩:=Kd.R_slice ho
        generalize hn84 : (fr ++ [[Value.int .i64 seen,Value.slice B0 t0.length b0,Value.slice B1 t1.length b1,Value.slice B2 t2.length b2,Value.slice BT ns.length bT,Value.slice none 0 0]]).length = n84 at e84
        subst e84
        clear hn84 HL hat hg hb ho nm nP lP hblk hg9 HFR nc MD HP HT HB hHeld
        obtain ⟨hm0,hm1,hm2,hz0,hz1,hz2⟩:=U.d3 BM
        refine hK.out _ _ ⟨hm1,hcP⟩ (fun hHeld=>?_)
        clear hK K hcP
        refine U.nm 102 ?_
        refine U.pn 19 (some 103) ?_
        refine U.pn 20 (some 104) ?_
        refine last_ (i:=21) (N:=none) #[true,true,true,true,true,true,true,true,true,true,true,true,true,true,true,true,true,true,true,true,true,true] rfl rfl (by kernel_rfl) (by decide) (fun K hK=>?_)
        refine skip_ (w1:=w20.setCell ⟨gm,1,none⟩ (.slice A84 n84 c84)) (by rfl) rfl ?_ ?_
        ·go_simp
        refine hK.out _ _ ?_
        refine done_ (by kernel_rfl) ?_
        clear hK K hHeld hm0 hm1 hm2 hz0 hz1 hz2
        have MD3:=Mk (MD2.out.far (p:=⟨gm,1,none⟩) (fun k hk=>Nat.ne_of_gt hk) (Kd.R_ne MD2.out.recs BM.out (by decide)) (Kd.R_ne MD2.out.funs BM.out (by decide)) (Kd.R_ne MD2.out.code BM.out (by decide)) (.slice A84 n84 c84))
        have BN:=Mk (blk_put (cs:=#[.slice AR M.r.length cR,.slice AF M.f.length cF,.slice AN M.n.length cN]) BM.out 1 (.slice A84 n84 c84) rfl)
        have HB3:=Mk (HB2.out.setCell (p:=⟨gm,1,none⟩) (Nat.le_refl gm) (.slice A84 n84 c84))
        clear MD2 BM HB2
        (generalize w20.setCell ⟨gm,1,none⟩ (.slice A84 n84 c84) = w22 at MD3 BN HB3 ⊢)
        go_wp2
        go_ret
        refine ⟨fine,rfl,HB3.out,?_⟩
        cases fine with
        | true=>exact .inl ⟨rfl,_,_,_,_,_,_,_,by rw [HWS.out,if_pos (by first | exact ⟨trivial,H4.out,trivial,trivial,trivial,rfl⟩ | exact ⟨rfl,H4.out,rfl,rfl,rfl,rfl⟩ | exact ⟨trivial,H4.out,trivial,trivial,trivial,trivial⟩)];rfl,BN.out,MD3.out⟩
        | false=>exact .inr ⟨rfl,by rw [HWS.out,if_neg (by simp)];rfl⟩
    ·have q4 : ((ps.length : Int) != 4) = true:=bne_iff_ne.mpr (by omega)
     have q5 : ((ps.length : Int) == 4) = false:=beq_eq_false_iff_ne.mpr (by omega)
     go_wp2
     go_ret
     exact EndP.bad rfl HB.out GM.out (by rw [HWS.out,if_neg (fun h=>h4 h.2.1)];rfl)
set_option maxHeartbeats 4000000 in
set_option maxRecDepth 100000 in
theorem take_rec (gm : Nat) (w : World) (rr fr : List (List Value)) (vR vF vN cl : Value) (M : MO) (AW : Option Addr) (cW base : Nat) (ws : List ByteArray) (hgm : gm < w.heap.size) (hbox : w.heap[gm]? = some (.cells #[vR,vF,vN] 26 (0,0))) (hMd : Md w gm (fun k=>gm < k) rr fr vR vF vN cl M) (hr : M.r.length ≤ 1000) (hf : M.f.length ≤ 1000) (hW : Kd.V Kd.string 9 w base (OK3 (fun k=>gm < k) vR vF cl) (.slice AW ws.length cW) ws) (hne : 0 < ws.length) (hl : ws.length ≤ 5000) (c1 : (wd ws 0).toList = ([114,101,99,111,114,100] : List UInt8)) (res : Option MO) (hres : res = if 1 < ws.length ∧ M.r.length ≠ 3 ∧ M.f.length = 0 ∧ M.n.length = 0 ∧ forms (ws.drop 2) = true ∧ (sh (wd ws 1)).2 = true then some ⟨M.r ++ [⟨(sh (wd ws 1)).1,ws.drop 2⟩],M.f,M.n⟩ else none) :
  Calls Tryz.prog 13 #[.pointer (some ⟨gm,0,none⟩),.slice AW ws.length cW] w fun e w'=>EndP gm w w' (res) e:=by
 have hu26:=Tryz.underlying26
 have hu55:=Tryz.underlying55
 have hu50:=Tryz.underlying50
 have HB:=Mk (Below.refl w.heap.size w)
 obtain ⟨AR,cR,AF,cF,AN,cN,eR,_,_,eF,_,_,eN,_,_⟩:=hMd.reads
 subst eR;subst eF;subst eN
 have BM:=Mk hbox
 have MD:=Mk hMd
 have GM:=Mk hgm
 have HV:=Mk hW
 have LR:=Mk hr
 have LF:=Mk hf
 obtain ⟨ad,ea,hx0⟩:=Kd.at_string (Kd.V_reads' hW).2.2 0 (by omega) (by omega)
 subst ea
 change w.cell? _ = some (Value.string (wd ws 0)) at hx0
 rw [show ((0 : Int)).toNat = 0 from rfl,Addr.add_zero'] at hx0
 have p0 : (0 < ws.length) = True:=eq_true (by omega)
 obtain ⟨hm0,hm1,hm2,hz0,hz1,hz2⟩:=U.d3 BM
 clear hbox hMd hW hgm hr hf
 have HRES:=Mk hres
 clear hres
 have c1b0 : ((wd ws 0).toList == ([114,101,99,111,114,100] : List UInt8)) = true:=beq_iff_eq.mpr c1
 by_cases a1 : ws.length < 2
 ·have d1 : decide ((ws.length : Int) < 2) = true:=decide_eq_true (by omega)
  go_enter Tryz.func13,Tryz.ntmps13
  go_wp2
  go_ret
  exact EndP.bad rfl HB.out GM.out (by rw [HRES.out,if_neg (fun h=>by omega)])
 ·have d1 : decide ((ws.length : Int) < 2) = false:=decide_eq_false (by omega)
  by_cases a2 : M.r.length = 3
  ·have d2 : ((M.r.length : Int) == 3) = true:=beq_iff_eq.mpr (by omega)
   have A2:=Mk a2
   clear a2
   go_enter Tryz.func13,Tryz.ntmps13
   go_wp2
   go_ret
   exact EndP.bad rfl HB.out GM.out (by rw [HRES.out,if_neg (fun h=>h.2.1 A2.out)])
  ·have d2 : ((M.r.length : Int) == 3) = false:=beq_eq_false_iff_ne.mpr (by omega)
   by_cases a3 : 0 < M.f.length
   ·have d3 : decide ((M.f.length : Int) > 0) = true:=decide_eq_true (by omega)
    go_enter Tryz.func13,Tryz.ntmps13
    go_wp2
    go_ret
    exact EndP.bad rfl HB.out GM.out (by rw [HRES.out,if_neg (fun h=>by omega)])
   ·have d3 : decide ((M.f.length : Int) > 0) = false:=decide_eq_false (by omega)
    by_cases a4 : 0 < M.n.length
    ·have d4 : decide ((M.n.length : Int) > 0) = true:=decide_eq_true (by omega)
     go_enter Tryz.func13,Tryz.ntmps13
     go_wp2
     go_ret
     exact EndP.bad rfl HB.out GM.out (by rw [HRES.out,if_neg (fun h=>by omega)])
    ·have d4 : decide ((M.n.length : Int) > 0) = false:=decide_eq_false (by omega)
     have q2 : (2 : Int) ≤ (ws.length : Int):=by omega
     obtain ⟨i0,hi0,_,hsz0,_⟩:=info_parts info9
     have hroom : ws.length ≤ cW:=(Kd.V_reads' HV.out).2.1
     have hcut:=cut_from (P:=Tryz.prog) 32 9 .i64 Tryz.underlying32 hi0 1 hsz0 (some ad) ws.length cW 2 (by omega) q2
     have HF9:=Kd.F_cut (m:=2) (c:=cW) (Kd.V_F HV.out) (by omega) hroom
     obtain ⟨AX,hAX⟩ : ∃ A1,A1 = (if cW = (2 : Int).toNat then (some ad) else (some ad : Option Addr).map (·.add ((2 : Int).toNat * 1))):=⟨_,rfl⟩
     obtain ⟨cX,hcX⟩ : ∃ c1,c1 = cW - (2 : Int).toNat:=⟨_,rfl⟩
     have hlX3 : (ws.drop 2).length ≤ cX:=by rw [hcX,List.length_drop];exact Nat.sub_le_sub_right hroom _
     rw [← hAX,← hcX,show ws.length - (2 : Int).toNat = (ws.drop 2).length by rw [List.length_drop];rfl] at hcut
     have HVX:=Mk (show Kd.V Kd.string 9 w base (OK3 (fun k=>gm < k) (.slice AR M.r.length cR) (.slice AF M.f.length cF) cl) (.slice AX (ws.drop 2).length cX) (ws.drop 2) from Kd.V_mk hlX3 (by rw [hAX];exact HF9))
     have q2t : ((2 : Int) ≤ (ws.length : Int)) = True:=eq_true q2
     have hxl : (ws.drop 2).length ≤ 5000:=by rw [List.length_drop];omega
     clear hAX hcX hi0 hsz0 HF9 hlX3 hroom
     have FB:=Mk (show ∀ b,forms (ws.drop 2) = b → b = false → res = none from fun b h1 h2=>by rw [HRES.out,if_neg (fun h=>by rw [h1,h2] at h;exact absurd h.2.2.2.2.1 (by decide))])
     obtain ⟨kf,e0⟩:=ev_some (ev_impl_forms (ws.drop 2) (by omega))
     obtain ⟨k1,h1⟩:=ev_some (ev_impl_short (wd ws 1))
     obtain ⟨able,ok,hsh⟩ : ∃ a b,sh (wd ws 1) = (a,b):=⟨_,_,rfl⟩
     rw [hsh] at h1 HRES
     have A1:=Mk h1
     have HRES2:=Mk (show res = if forms (ws.drop 2) = true ∧ ok = true then some ⟨M.r ++ [⟨able,ws.drop 2⟩],M.f,M.n⟩ else none by
      rw [HRES.out]
      by_cases hh : forms (ws.drop 2) = true ∧ ok = true
      ·rw [if_pos hh,if_pos ⟨by omega,a2,by omega,by omega,hh.1,hh.2⟩]
      ·rw [if_neg hh,if_neg (fun h=>hh ⟨h.2.2.2.2.1,h.2.2.2.2.2⟩)])
     clear HRES FB h1 hsh a2
     obtain ⟨a1',e1',hx1⟩:=Kd.at_string (Kd.V_reads' HV.out).2.2 1 (by omega) (by omega)
     cases e1'
     change w.cell? _ = some (Value.string (wd ws 1)) at hx1
     simp only [show (1 : Int).toNat = 1 from rfl,Nat.reduceEqDiff,Go.Addr.add,↓reduceIte] at hx1
     have p1 : (1 < ws.length) = True:=eq_true (by omega)
     generalize ws.drop 2 = fs at hcut HVX hxl HRES2 e0
     generalize forms fs = f0 at e0 HRES2
     have F0:=Mk e0
     clear e0
     cases f0 with
     | false =>
      go_enter Tryz.func13,Tryz.ntmps13
      go_wp2_with (first
       | ((with_reducible refine gate_callee (f:=36) rfl ?_);refine wpList_step fun K hK=>?_;refine U.go Tryz.func36 #[.slice AX fs.length cX] ?_;(with_reducible refine (impl_forms.calls kf AX cX fs false _ (Kd.V_reads' HVX.out).2.2 (Kd.V_reads' HVX.out).2.1 F0.out).mono ?_);rintro e w4 ⟨rfl,hd⟩;refine ⟨_,rfl,hK _ _ ?_⟩;clear hK;have hb:=Drawn0.below hd;clear hd;replace HVX:=Mk (Kd.V_below HVX.out hb);replace BM:=Mk (blk_below BM.out hb);replace HB:=Mk (below_step HB.out hb);have hx1:=(hb.cell (World.block_lt_of_cell? _ _ hx1)).trans hx1;clear hb hm0 hm1 hm2 hz0 hz1 hz2;obtain ⟨hm0,hm1,hm2,hz0,hz1,hz2⟩:=U.d3 BM))
      go_ret
      exact EndP.bad rfl HB.out GM.out (by rw [HRES2.out,if_neg (by simp)])
     | true =>
      go_enter Tryz.func13,Tryz.ntmps13
      go_upto_region 6 with (first
       | ((with_reducible refine gate_callee (f:=36) rfl ?_);refine wpList_step fun K hK=>?_;refine U.go Tryz.func36 #[.slice AX fs.length cX] ?_;(with_reducible refine (impl_forms.calls kf AX cX fs true _ (Kd.V_reads' HVX.out).2.2 (Kd.V_reads' HVX.out).2.1 F0.out).mono ?_);rintro e w4 ⟨rfl,hd⟩;refine ⟨_,rfl,hK _ _ ?_⟩;clear hK;have hb:=Drawn0.below hd;clear hd;replace HVX:=Mk (Kd.V_below HVX.out hb);replace BM:=Mk (blk_below BM.out hb);replace HB:=Mk (below_step HB.out hb);have hx1:=(hb.cell (World.block_lt_of_cell? _ _ hx1)).trans hx1;clear hb hm0 hm1 hm2 hz0 hz1 hz2;obtain ⟨hm0,hm1,hm2,hz0,hz1,hz2⟩:=U.d3 BM)
       | ((with_reducible refine gate_callee (f:=37) rfl ?_);refine wpList_step fun K hK=>?_;refine U.go Tryz.func37 #[.string (wd ws 1)] ?_;(with_reducible refine (impl_short.calls k1 (wd ws 1) able ok _ A1.out).mono ?_);rintro e w5 ⟨rfl,hd⟩;refine ⟨_,rfl,hK _ _ ?_⟩;clear hK;have hb:=Drawn0.below hd;clear hd;replace HVX:=Mk (Kd.V_below HVX.out hb);replace BM:=Mk (blk_below BM.out hb);replace HB:=Mk (below_step HB.out hb);clear hb hx1 hm0 hm1 hm2 hz0 hz1 hz2;obtain ⟨hm0,hm1,hm2,hz0,hz1,hz2⟩:=U.d3 BM))
      have RL:=Mk (show rr.length = M.r.length from (Foot.now MD.out.rest).1.1)
      replace HB:=Mk (below_drew1 HB.out)
      replace HVX:=Mk (Kd.V_below HVX.out (below_drew (Below.refl _ _)))
      replace MD:=Mk (MD.out.below HB.out)
      replace BM:=Mk (blk_drew BM.out)
      clear hm0 hm1 hm2 hz0 hz1 hz2
      refine start_ (n:=14) (S:=fun w'=>w'.cell? ⟨gm,0,none⟩ = some (.slice AR M.r.length cR)) (ds:=[13]) #[false,false,false,false,false,false,false,false,false,false,false,false,false,false] (by kernel_rfl) rfl rfl (U.c0 BM) (fun hHeld=>?_)
      (generalize w5.drew = w18 at BM MD HB HVX hHeld ⊢)
      refine U.pn 0 (some 57) ?_
      refine U.pn 1 (some 58) ?_
      refine U.pn 2 (some 59) ?_
      refine U.pn 3 (some 60) ?_
      refine U.pn 5 (some 62) ?_
      refine U.pn 6 (some 63) ?_
      refine U.pn 7 (some 64) ?_
      refine take_ (i:=4) (N:=some 61) (v:=.slice AR M.r.length cR) #[true,true,true,true,true,true,true,true,false,false,false,false,false,false] rfl rfl (by kernel_rfl) (fun _ _ _ h=>h) (Or.inl ⟨by rfl,?_⟩) hHeld (by simp only [Act.put,List.setIfInBounds_toArray,List.set_cons_zero,List.set_cons_succ];rfl) ?_
      ·rintro w' s0
       go_simp
      refine U.pn 8 (some 65) ?_
      refine one_ (i:=9) (N:=some 66) #[true,true,true,true,true,true,true,true,true,true,false,false,false,false] rfl rfl (by kernel_rfl) (by decide) (fun K hK=>?_)
      refine R_litW_step (Kd.raw 2) w18.heap.size 50 ?hg (N:=66) ?hd (xs:=[[Value.int .i64 able,Value.slice AX fs.length cX]]) (inner:=[Value.int .i64 able,Value.slice AX fs.length cX]) (ok:=fun _=>True) (okp:=fun _=>True) ?hr ?hp (fun _ hk=>hk) trivial (Nat.le_refl _) (by simp) ?_
      (case hd=>rfl)
      (case hg=>rfl)
      (case hr=>first | (go_simp;done) | (go_simp;rfl))
      (case hp=>exact Reps.c2 (show (Kd.raw 2).M _ _ _ [Value.int .i64 able,Value.slice AX fs.length cX] [Value.int .i64 able,Value.slice AX fs.length cX] from ⟨rfl,rfl,by intro u hu;simp at hu;rcases hu with rfl | rfl<;>rfl⟩) (Reps.none _ _))
      intro v66 w19 ho66 hb hg_
      have HL:=Mk ho66
      replace MD:=Mk (MD.out.below hb)
      replace BM:=Mk (blk_below BM.out hb)
      replace HVX:=Mk (Kd.V_below HVX.out hb)
      replace HB:=Mk (below_step HB.out hb)
      clear hb hg_ ho66 hHeld
      obtain ⟨B9,b9,e9⟩:=Kd.R_slice HL.out;subst e9
      refine hK.out _ _ (U.c0 BM) (fun hHeld=>?_)
      clear hK K
      refine U.nm 66 ?_
      refine one_ (i:=10) (N:=some 67) #[true,true,true,true,true,true,true,true,true,true,true,false,false,false] rfl rfl (by kernel_rfl) (by decide) (fun K hK=>?_)
      refine Kd.R_append_rows_step (Kd.raw 2) gm (by rfl) (.tmp 61) (.tmp 66) 22 50 (.agg #[(.int .i64 0),(.slice none 0 0)]) 32 rfl Tryz.underlying22 info50 rfl (by decide) (by omega) (.slice AR M.r.length cR) rr [[Value.int .i64 able,Value.slice AX fs.length cX]] _ _ _ (fun _=>True) (fun k=>some k ≠ (Value.slice AR M.r.length cR).ownBlock) rfl rfl (Kd.raw_any MD.out.recs) (R_readsM HL.out) (fun _ _ h=>⟨h.1,h.2⟩) (fun k hk=>⟨trivial,hk⟩) (fun _ _=>trivial) (Below.refl _ _) (Nat.le_trans (Nat.le_of_lt GM.out) HB.out.size) ?aL ?_
      (case aL=>have:=RL.out;have:=LR.out;simp only [List.length_cons,List.length_nil];omega)
      intro v67 w20 ho hb hg hat
      have ho:=Kd.raw_tight ho
      have nm:=Kd.R_ne MD.out.recs BM.out (by decide)
      have MD2:=Mk (MD.out.addRec (x:=⟨able,fs⟩) hg hat ho (k50_mkF w19 (OK3 (fun k=>gm < k) (.slice AR M.r.length cR) (.slice AF M.f.length cF) cl) (⟨able,fs⟩ : S50) (A1:=AX) (c1:=cX) (Kd.V_reads' HVX.out).2.1 (Kd.V_F HVX.out)))
      replace BM:=Mk (blk_grown BM.out hg nm)
      have HB2:=Mk ((below_less HB.out (Nat.le_of_lt GM.out)).trans hb)
      obtain ⟨A84,c84,e84⟩:=Kd.R_slice ho
      generalize hn84 : (rr ++ [[Value.int .i64 able,Value.slice AX fs.length cX]]).length = n84 at e84
      have hn85 : n84 = (M.r ++ [(⟨able,fs⟩ : S50)]).length:=by rw [← hn84,List.length_append,List.length_append,RL.out];rfl
      subst e84
      clear hn84 hn85 HL hat hg hb ho nm MD HVX HB hHeld
      obtain ⟨hm0,hm1,hm2,hz0,hz1,hz2⟩:=U.d3 BM
      refine hK.out _ _ (hm0) (fun hHeld=>?_)
      clear hK K
      refine U.nm 67 ?_
      refine U.pn 11 (some 68) ?_
      refine U.pn 12 (some 69) ?_
      refine last_ (i:=13) (N:=none) #[true,true,true,true,true,true,true,true,true,true,true,true,true,true] rfl rfl (by kernel_rfl) (by decide) (fun K hK=>?_)
      refine skip_ (w1:=w20.setCell ⟨gm,0,none⟩ (.slice A84 n84 c84)) (by rfl) rfl ?_ ?_
      ·go_simp
      refine hK.out _ _ ?_
      refine done_ (by kernel_rfl) ?_
      clear hK K hHeld hm0 hm1 hm2 hz0 hz1 hz2
      have MD3:=Mk (MD2.out.far (p:=⟨gm,0,none⟩) (fun k hk=>Nat.ne_of_gt hk) (Kd.R_ne MD2.out.recs BM.out (by decide)) (Kd.R_ne MD2.out.funs BM.out (by decide)) (Kd.R_ne MD2.out.code BM.out (by decide)) (.slice A84 n84 c84))
      have BN:=Mk (blk_put (cs:=#[.slice AR M.r.length cR,.slice AF M.f.length cF,.slice AN M.n.length cN]) BM.out 0 (.slice A84 n84 c84) rfl)
      have HB3:=Mk (HB2.out.setCell (p:=⟨gm,0,none⟩) (Nat.le_refl gm) (.slice A84 n84 c84))
      clear MD2 BM HB2
      (generalize w20.setCell ⟨gm,0,none⟩ (.slice A84 n84 c84) = w22 at MD3 BN HB3 ⊢)
      go_wp2
      go_ret
      refine ⟨ok,rfl,HB3.out,?_⟩
      cases ok with
      | true=>exact .inl ⟨rfl,_,_,_,_,_,_,_,by rw [HRES2.out,if_pos (by first | exact ⟨trivial,rfl⟩ | exact ⟨rfl,rfl⟩ | exact ⟨trivial,trivial⟩)],BN.out,MD3.out⟩
      | false=>exact .inr ⟨rfl,by rw [HRES2.out,if_neg (by simp)]⟩
set_option maxHeartbeats 4000000 in
set_option maxRecDepth 100000 in
theorem take_fri (gm : Nat) (w : World) (rr fr : List (List Value)) (vR vF vN cl : Value) (M : MO) (AW : Option Addr) (cW base : Nat) (ws : List ByteArray) (hgm : gm < w.heap.size) (hbox : w.heap[gm]? = some (.cells #[vR,vF,vN] 26 (0,0))) (hMd : Md w gm (fun k=>gm < k) rr fr vR vF vN cl M) (hr : M.r.length ≤ 1000) (hf : M.f.length ≤ 1000) (hW : Kd.V Kd.string 9 w base (OK3 (fun k=>gm < k) vR vF cl) (.slice AW ws.length cW) ws) (hne : 0 < ws.length) (hl : ws.length ≤ 5000) (c1 : (wd ws 0).toList ≠ ([114,101,99,111,114,100] : List UInt8)) (c2 : (wd ws 0).toList = ([102,114,105,101,110,100] : List UInt8)) (res : Option MO) (hres : res = if numsOk (ws.drop 1) = true ∧ (numsOf (ws.drop 1)).length ≠ 0 ∧ M.f.length = 0 ∧ M.n.length = 0 then some ⟨M.r,M.f,numsOf (ws.drop 1)⟩ else none) :
  Calls Tryz.prog 13 #[.pointer (some ⟨gm,0,none⟩),.slice AW ws.length cW] w fun e w'=>EndP gm w w' (res) e:=by
 have hu26:=Tryz.underlying26
 have hu55:=Tryz.underlying55
 have hu50:=Tryz.underlying50
 have HB:=Mk (Below.refl w.heap.size w)
 obtain ⟨AR,cR,AF,cF,AN,cN,eR,_,_,eF,_,_,eN,_,_⟩:=hMd.reads
 subst eR;subst eF;subst eN
 have BM:=Mk hbox
 have MD:=Mk hMd
 have GM:=Mk hgm
 have HV:=Mk hW
 have LR:=Mk hr
 have LF:=Mk hf
 obtain ⟨ad,ea,hx0⟩:=Kd.at_string (Kd.V_reads' hW).2.2 0 (by omega) (by omega)
 subst ea
 change w.cell? _ = some (Value.string (wd ws 0)) at hx0
 rw [show ((0 : Int)).toNat = 0 from rfl,Addr.add_zero'] at hx0
 have p0 : (0 < ws.length) = True:=eq_true (by omega)
 obtain ⟨hm0,hm1,hm2,hz0,hz1,hz2⟩:=U.d3 BM
 clear hbox hMd hW hgm hr hf
 have HRES:=Mk hres
 clear hres
 have c1b0 : ((wd ws 0).toList == ([114,101,99,111,114,100] : List UInt8)) = false:=beq_eq_false_iff_ne.mpr c1
 have c2b0 : ((wd ws 0).toList == ([102,114,105,101,110,100] : List UInt8)) = true:=beq_iff_eq.mpr c2
 have q1n : (1 : Int) ≤ (ws.length : Int):=by omega
 have q2 : (1 : Int) ≤ (ws.length : Int):=by omega
 obtain ⟨i0,hi0,_,hsz0,_⟩:=info_parts info9
 have hroom : ws.length ≤ cW:=(Kd.V_reads' HV.out).2.1
 have hcut:=cut_from (P:=Tryz.prog) 32 9 .i64 Tryz.underlying32 hi0 1 hsz0 (some ad) ws.length cW 1 (by omega) q2
 have HF9:=Kd.F_cut (m:=1) (c:=cW) (Kd.V_F HV.out) (by omega) hroom
 obtain ⟨AX,hAX⟩ : ∃ A1,A1 = (if cW = (1 : Int).toNat then (some ad) else (some ad : Option Addr).map (·.add ((1 : Int).toNat * 1))):=⟨_,rfl⟩
 obtain ⟨cX,hcX⟩ : ∃ c1,c1 = cW - (1 : Int).toNat:=⟨_,rfl⟩
 have hlX3 : (ws.drop 1).length ≤ cX:=by rw [hcX,List.length_drop];exact Nat.sub_le_sub_right hroom _
 rw [← hAX,← hcX,show ws.length - (1 : Int).toNat = (ws.drop 1).length by rw [List.length_drop];rfl] at hcut
 have HVX:=Mk (show Kd.V Kd.string 9 w base (OK3 (fun k=>gm < k) (.slice AR M.r.length cR) (.slice AF M.f.length cF) cl) (.slice AX (ws.drop 1).length cX) (ws.drop 1) from Kd.V_mk hlX3 (by rw [hAX];exact HF9))
 have q2t : ((1 : Int) ≤ (ws.length : Int)) = True:=eq_true q2
 have hxl : (ws.drop 1).length ≤ 5000:=by rw [List.length_drop];omega
 clear hAX hcX hi0 hsz0 HF9 hlX3 hroom
 have OR:=Mk (Kd.R_lt MD.out.recs)
 have OF:=Mk (Kd.R_lt MD.out.funs)
 have OC:=Mk (Kd.R_lt MD.out.code)
 obtain ⟨k3,e3⟩:=ev_some (ev_impl_shorts (ws.drop 1) (by omega))
 generalize ws.drop 1 = fs at hcut HVX hxl HRES e3
 generalize numsOf fs = ns at e3 HRES
 generalize numsOk fs = ok at e3 HRES
 have F3:=Mk e3
 clear e3
 cases ok with
 | false =>
  go_enter Tryz.func13,Tryz.ntmps13
  go_wp2_with (first
   | ((with_reducible refine gate_callee (f:=38) rfl ?_);refine wpList_step fun K hK=>?_;refine U.go Tryz.func38 #[.slice AX fs.length cX] ?_;(with_reducible refine (impl_shorts.calls k3 AX cX fs ns false _ (Kd.V_reads' HVX.out).2.2 (Kd.V_reads' HVX.out).2.1 F3.out).mono ?_);rintro e w4 ⟨v12,rfl,ho,hb⟩;refine ⟨_,rfl,hK _ _ ?_⟩;clear hK;obtain ⟨BT,bT,eT⟩:=Kd.R_slice ho;subst eT;have HT:=Mk (Kd.R_mono (ok':=fun k=>w.heap.size ≤ k) (Kd.R_lower (Kd.R_bound ho) HB.out.size) (fun k hk=>Nat.le_trans HB.out.size hk.2.1));replace BM:=Mk (blk_below BM.out hb);replace HB:=Mk (below_step HB.out hb);clear hb ho hm0 hm1 hm2 hz0 hz1 hz2;obtain ⟨hm0,hm1,hm2,hz0,hz1,hz2⟩:=U.d3 BM))
  go_ret
  exact EndP.bad rfl HB.out GM.out (by rw [HRES.out,if_neg (fun h=>by simp at h)])
 | true =>
  by_cases a2 : ns.length = 0
  ·have d2 : ((ns.length : Int) == 0) = true:=beq_iff_eq.mpr (by omega)
   have A2:=Mk a2
   clear a2
   go_enter Tryz.func13,Tryz.ntmps13
   go_wp2_with (first
    | ((with_reducible refine gate_callee (f:=38) rfl ?_);refine wpList_step fun K hK=>?_;refine U.go Tryz.func38 #[.slice AX fs.length cX] ?_;(with_reducible refine (impl_shorts.calls k3 AX cX fs ns true _ (Kd.V_reads' HVX.out).2.2 (Kd.V_reads' HVX.out).2.1 F3.out).mono ?_);rintro e w4 ⟨v12,rfl,ho,hb⟩;refine ⟨_,rfl,hK _ _ ?_⟩;clear hK;obtain ⟨BT,bT,eT⟩:=Kd.R_slice ho;subst eT;have HT:=Mk (Kd.R_mono (ok':=fun k=>w.heap.size ≤ k) (Kd.R_lower (Kd.R_bound ho) HB.out.size) (fun k hk=>Nat.le_trans HB.out.size hk.2.1));replace BM:=Mk (blk_below BM.out hb);replace HB:=Mk (below_step HB.out hb);clear hb ho hm0 hm1 hm2 hz0 hz1 hz2;obtain ⟨hm0,hm1,hm2,hz0,hz1,hz2⟩:=U.d3 BM))
   go_ret
   exact EndP.bad rfl HB.out GM.out (by rw [HRES.out,if_neg (fun h=>h.2.1 A2.out)])
  ·have d2 : ((ns.length : Int) == 0) = false:=beq_eq_false_iff_ne.mpr (by omega)
   by_cases a3 : 0 < M.f.length
   ·have d3 : decide ((M.f.length : Int) > 0) = true:=decide_eq_true (by omega)
    go_enter Tryz.func13,Tryz.ntmps13
    go_wp2_with (first
     | ((with_reducible refine gate_callee (f:=38) rfl ?_);refine wpList_step fun K hK=>?_;refine U.go Tryz.func38 #[.slice AX fs.length cX] ?_;(with_reducible refine (impl_shorts.calls k3 AX cX fs ns true _ (Kd.V_reads' HVX.out).2.2 (Kd.V_reads' HVX.out).2.1 F3.out).mono ?_);rintro e w4 ⟨v12,rfl,ho,hb⟩;refine ⟨_,rfl,hK _ _ ?_⟩;clear hK;obtain ⟨BT,bT,eT⟩:=Kd.R_slice ho;subst eT;have HT:=Mk (Kd.R_mono (ok':=fun k=>w.heap.size ≤ k) (Kd.R_lower (Kd.R_bound ho) HB.out.size) (fun k hk=>Nat.le_trans HB.out.size hk.2.1));replace BM:=Mk (blk_below BM.out hb);replace HB:=Mk (below_step HB.out hb);clear hb ho hm0 hm1 hm2 hz0 hz1 hz2;obtain ⟨hm0,hm1,hm2,hz0,hz1,hz2⟩:=U.d3 BM))
    go_ret
    exact EndP.bad rfl HB.out GM.out (by rw [HRES.out,if_neg (fun h=>by omega)])
   ·have d3 : decide ((M.f.length : Int) > 0) = false:=decide_eq_false (by omega)
    by_cases a4 : 0 < M.n.length
    ·have d4 : decide ((M.n.length : Int) > 0) = true:=decide_eq_true (by omega)
     go_enter Tryz.func13,Tryz.ntmps13
     go_wp2_with (first
      | ((with_reducible refine gate_callee (f:=38) rfl ?_);refine wpList_step fun K hK=>?_;refine U.go Tryz.func38 #[.slice AX fs.length cX] ?_;(with_reducible refine (impl_shorts.calls k3 AX cX fs ns true _ (Kd.V_reads' HVX.out).2.2 (Kd.V_reads' HVX.out).2.1 F3.out).mono ?_);rintro e w4 ⟨v12,rfl,ho,hb⟩;refine ⟨_,rfl,hK _ _ ?_⟩;clear hK;obtain ⟨BT,bT,eT⟩:=Kd.R_slice ho;subst eT;have HT:=Mk (Kd.R_mono (ok':=fun k=>w.heap.size ≤ k) (Kd.R_lower (Kd.R_bound ho) HB.out.size) (fun k hk=>Nat.le_trans HB.out.size hk.2.1));replace BM:=Mk (blk_below BM.out hb);replace HB:=Mk (below_step HB.out hb);clear hb ho hm0 hm1 hm2 hz0 hz1 hz2;obtain ⟨hm0,hm1,hm2,hz0,hz1,hz2⟩:=U.d3 BM))
     go_ret
     exact EndP.bad rfl HB.out GM.out (by rw [HRES.out,if_neg (fun h=>by omega)])
    ·have d4 : decide ((M.n.length : Int) > 0) = false:=decide_eq_false (by omega)
     have HRES2:=Mk (show res = some ⟨M.r,M.f,ns⟩ by rw [HRES.out,if_pos ⟨rfl,a2,by omega,by omega⟩])
     clear HRES a2
     go_enter Tryz.func13,Tryz.ntmps13
     go_wp2_with (first
      | ((with_reducible refine gate_callee (f:=38) rfl ?_);refine wpList_step fun K hK=>?_;refine U.go Tryz.func38 #[.slice AX fs.length cX] ?_;(with_reducible refine (impl_shorts.calls k3 AX cX fs ns true _ (Kd.V_reads' HVX.out).2.2 (Kd.V_reads' HVX.out).2.1 F3.out).mono ?_);rintro e w4 ⟨v12,rfl,ho,hb⟩;refine ⟨_,rfl,hK _ _ ?_⟩;clear hK;obtain ⟨BT,bT,eT⟩:=Kd.R_slice ho;subst eT;have HT:=Mk (Kd.R_mono (ok':=fun k=>w.heap.size ≤ k) (Kd.R_lower (Kd.R_bound ho) HB.out.size) (fun k hk=>Nat.le_trans HB.out.size hk.2.1));replace BM:=Mk (blk_below BM.out hb);replace HB:=Mk (below_step HB.out hb);clear hb ho hm0 hm1 hm2 hz0 hz1 hz2;obtain ⟨hm0,hm1,hm2,hz0,hz1,hz2⟩:=U.d3 BM))
     replace MD:=Mk (MD.out.below HB.out)
     have MD2:=Mk (MD.out.setFri (vN':=.slice BT ns.length bT) (l:=ns) (Foot.imp (Foot.mono (Kd.R_F HT.out) (ok':=OK3 (fun k=>gm < k) (.slice AR M.r.length cR) (.slice AF M.f.length cF) cl) (fun k hk=>⟨Nat.lt_of_lt_of_le GM.out hk,fun he=>by have:=OR.out k he.symm;omega,fun he=>by have:=OF.out k he.symm;omega,fun he=>by have:=OC.out k he.symm;omega⟩)) (fun W' hC=>⟨BT,bT,rfl,(Kd.R_reads' HT.out).2.1,hC⟩)))
     have MD3:=Mk (MD2.out.far (p:=⟨gm,2,none⟩) (fun k hk=>Nat.ne_of_gt hk) (Kd.R_ne MD2.out.recs BM.out (by decide)) (Kd.R_ne MD2.out.funs BM.out (by decide)) (Kd.R_ne MD2.out.code BM.out (by decide)) (.slice BT ns.length bT))
     have BN:=Mk (blk_put (cs:=#[.slice AR M.r.length cR,.slice AF M.f.length cF,.slice AN M.n.length cN]) BM.out 2 (.slice BT ns.length bT) rfl)
     have HB3:=Mk ((below_less HB.out (Nat.le_of_lt GM.out)).setCell (p:=⟨gm,2,none⟩) (Nat.le_refl gm) (.slice BT ns.length bT))
     go_ret
     exact ⟨true,rfl,HB3.out,.inl ⟨rfl,_,_,_,_,_,_,_,HRES2.out,BN.out,MD3.out⟩⟩
set_option maxHeartbeats 4000000 in
set_option maxRecDepth 100000 in
theorem take_fun (gm : Nat) (w : World) (rr fr : List (List Value)) (vR vF vN cl : Value) (M : MO) (AW : Option Addr) (cW base : Nat) (ws : List ByteArray) (hgm : gm < w.heap.size) (hbox : w.heap[gm]? = some (.cells #[vR,vF,vN] 26 (0,0))) (hMd : Md w gm (fun k=>gm < k) rr fr vR vF vN cl M) (hr : M.r.length ≤ 1000) (hf : M.f.length ≤ 1000) (hW : Kd.V Kd.string 9 w base (OK3 (fun k=>gm < k) vR vF cl) (.slice AW ws.length cW) ws) (hne : 0 < ws.length) (hl : ws.length ≤ 5000) (c1 : (wd ws 0).toList ≠ ([114,101,99,111,114,100] : List UInt8)) (c2 : (wd ws 0).toList ≠ ([102,114,105,101,110,100] : List UInt8)) (c3 : (wd ws 0).toList = ([102,117,110,99] : List UInt8)) (res : Option MO) (hres : res = if 1 < ws.length ∧ M.f.length < 4 then (headFn (ws.drop 1)).map (fun f=>⟨M.r,M.f ++ [f],M.n⟩) else none) :
  Calls Tryz.prog 13 #[.pointer (some ⟨gm,0,none⟩),.slice AW ws.length cW] w fun e w'=>EndP gm w w' (res) e:=by
 have hu26:=Tryz.underlying26
 have hu55:=Tryz.underlying55
 have hu50:=Tryz.underlying50
 have HB:=Mk (Below.refl w.heap.size w)
 obtain ⟨AR,cR,AF,cF,AN,cN,eR,_,_,eF,_,_,eN,_,_⟩:=hMd.reads
 subst eR;subst eF;subst eN
 have BM:=Mk hbox
 have MD:=Mk hMd
 have GM:=Mk hgm
 have HV:=Mk hW
 have LR:=Mk hr
 have LF:=Mk hf
 obtain ⟨ad,ea,hx0⟩:=Kd.at_string (Kd.V_reads' hW).2.2 0 (by omega) (by omega)
 subst ea
 change w.cell? _ = some (Value.string (wd ws 0)) at hx0
 rw [show ((0 : Int)).toNat = 0 from rfl,Addr.add_zero'] at hx0
 have p0 : (0 < ws.length) = True:=eq_true (by omega)
 obtain ⟨hm0,hm1,hm2,hz0,hz1,hz2⟩:=U.d3 BM
 clear hbox hMd hW hgm hr hf
 have HRES:=Mk hres
 clear hres
 have c1b0 : ((wd ws 0).toList == ([114,101,99,111,114,100] : List UInt8)) = false:=beq_eq_false_iff_ne.mpr c1
 have c2b0 : ((wd ws 0).toList == ([102,114,105,101,110,100] : List UInt8)) = false:=beq_eq_false_iff_ne.mpr c2
 have c3b0 : ((wd ws 0).toList == ([102,117,110,99] : List UInt8)) = true:=beq_iff_eq.mpr c3
 by_cases a1 : 1 < ws.length
 ·have d1 : decide ((ws.length : Int) > 1) = true:=decide_eq_true (by omega)
  by_cases a2 : M.f.length < 4
  ·have d2 : decide ((M.f.length : Int) < 4) = true:=decide_eq_true (by omega)
   have q2 : (1 : Int) ≤ (ws.length : Int):=by omega
   obtain ⟨i0,hi0,_,hsz0,_⟩:=info_parts info9
   have hroom : ws.length ≤ cW:=(Kd.V_reads' HV.out).2.1
   have hcut:=cut_from (P:=Tryz.prog) 32 9 .i64 Tryz.underlying32 hi0 1 hsz0 (some ad) ws.length cW 1 (by omega) q2
   have HF9:=Kd.F_cut (m:=1) (c:=cW) (Kd.V_F HV.out) (by omega) hroom
   obtain ⟨AX,hAX⟩ : ∃ A1,A1 = (if cW = (1 : Int).toNat then (some ad) else (some ad : Option Addr).map (·.add ((1 : Int).toNat * 1))):=⟨_,rfl⟩
   obtain ⟨cX,hcX⟩ : ∃ c1,c1 = cW - (1 : Int).toNat:=⟨_,rfl⟩
   have hlX3 : (ws.drop 1).length ≤ cX:=by rw [hcX,List.length_drop];exact Nat.sub_le_sub_right hroom _
   rw [← hAX,← hcX,show ws.length - (1 : Int).toNat = (ws.drop 1).length by rw [List.length_drop];rfl] at hcut
   have HVX:=Mk (show Kd.V Kd.string 9 w base (OK3 (fun k=>gm < k) (.slice AR M.r.length cR) (.slice AF M.f.length cF) cl) (.slice AX (ws.drop 1).length cX) (ws.drop 1) from Kd.V_mk hlX3 (by rw [hAX];exact HF9))
   have q2t : ((1 : Int) ≤ (ws.length : Int)) = True:=eq_true q2
   have hxl : (ws.drop 1).length ≤ 5000:=by rw [List.length_drop];omega
   clear hAX hcX hi0 hsz0 HF9 hlX3 hroom
   have HRES2:=Mk (show res = (headFn (ws.drop 1)).map (fun f=>⟨M.r,M.f ++ [f],M.n⟩) by rw [HRES.out,if_pos ⟨a1,a2⟩])
   clear HRES
   have hx1 : 0 < (ws.drop 1).length:=by rw [List.length_drop];omega
   generalize ws.drop 1 = fs at hcut HVX hxl HRES2 hx1
   have HX:=Mk hx1
   clear hx1
   go_enter Tryz.func13,Tryz.ntmps13
   go_wp2_with (first
    | ((with_reducible refine gate_callee (f:=39) rfl ?_);refine wpList_step fun K hK=>?_;refine U.go Tryz.func39 #[.pointer (some ⟨gm,0,none⟩),.slice AX fs.length cX] ?_;(with_reducible refine (head_own gm w rr fr _ _ _ cl M AX cX fs GM.out BM.out MD.out LF.out (Kd.V_reads' HVX.out).2.2 (Kd.V_reads' HVX.out).2.1 HX.out (by omega)).mono ?_);rintro e w4 ⟨b,rfl,hS⟩;refine ⟨_,rfl,hK _ _ ?_⟩;clear hK;have HS:=Mk hS;clear hS))
   go_ret
   exact ⟨b,rfl,by rw [HRES2.out];exact HS.out⟩
  ·have d2 : decide ((M.f.length : Int) < 4) = false:=decide_eq_false (by omega)
   go_enter Tryz.func13,Tryz.ntmps13
   go_wp2
   go_ret
   exact EndP.bad rfl HB.out GM.out (by rw [HRES.out,if_neg (fun h=>a2 h.2)])
 ·have d1 : decide ((ws.length : Int) > 1) = false:=decide_eq_false (by omega)
  go_enter Tryz.func13,Tryz.ntmps13
  go_wp2
  go_ret
  exact EndP.bad rfl HB.out GM.out (by rw [HRES.out,if_neg (fun h=>a1 h.1)])
set_option maxHeartbeats 4000000 in
set_option maxRecDepth 100000 in
theorem take_ins (gm : Nat) (w : World) (rr fr : List (List Value)) (vR vF vN cl : Value) (M : MO) (AW : Option Addr) (cW base : Nat) (ws : List ByteArray) (hgm : gm < w.heap.size) (hbox : w.heap[gm]? = some (.cells #[vR,vF,vN] 26 (0,0))) (hMd : Md w gm (fun k=>gm < k) rr fr vR vF vN cl M) (hr : M.r.length ≤ 1000) (hf : M.f.length ≤ 1000) (hW : Kd.V Kd.string 9 w base (OK3 (fun k=>gm < k) vR vF cl) (.slice AW ws.length cW) ws) (hne : 0 < ws.length) (hl : ws.length ≤ 5000) (hT : Tab w) (hlc : (lastF M).f5.length ≤ 1000) (htx : (tx ws).size ≤ 100000) (c1 : (wd ws 0).toList ≠ ([114,101,99,111,114,100] : List UInt8)) (c2 : (wd ws 0).toList ≠ ([102,114,105,101,110,100] : List UInt8)) (c3 : (wd ws 0).toList ≠ ([102,117,110,99] : List UInt8)) (res : Option MO) (hres : res = if (readIns (tx ws)).2.2.2 = true ∧ M.f.length ≠ 0 ∧ (lastF M).f5.length + 1 ≤ 40 then some (addCode M ⟨(readIns (tx ws)).1,(readIns (tx ws)).2.1,(readIns (tx ws)).2.2.1⟩) else none) :
  Calls Tryz.prog 13 #[.pointer (some ⟨gm,0,none⟩),.slice AW ws.length cW] w fun e w'=>EndP gm w w' (res) e:=by
 have hu26:=Tryz.underlying26
 have hu55:=Tryz.underlying55
 have hu50:=Tryz.underlying50
 have HB:=Mk (Below.refl w.heap.size w)
 obtain ⟨AR,cR,AF,cF,AN,cN,eR,_,_,eF,_,_,eN,_,_⟩:=hMd.reads
 subst eR;subst eF;subst eN
 have BM:=Mk hbox
 have MD:=Mk hMd
 have GM:=Mk hgm
 have HV:=Mk hW
 have LR:=Mk hr
 have LF:=Mk hf
 obtain ⟨ad,ea,hx0⟩:=Kd.at_string (Kd.V_reads' hW).2.2 0 (by omega) (by omega)
 subst ea
 change w.cell? _ = some (Value.string (wd ws 0)) at hx0
 rw [show ((0 : Int)).toNat = 0 from rfl,Addr.add_zero'] at hx0
 have p0 : (0 < ws.length) = True:=eq_true (by omega)
 obtain ⟨hm0,hm1,hm2,hz0,hz1,hz2⟩:=U.d3 BM
 clear hbox hMd hW hgm hr hf
 have HRES:=Mk hres
 clear hres
 have c1b0 : ((wd ws 0).toList == ([114,101,99,111,114,100] : List UInt8)) = false:=beq_eq_false_iff_ne.mpr c1
 have c2b0 : ((wd ws 0).toList == ([102,114,105,101,110,100] : List UInt8)) = false:=beq_eq_false_iff_ne.mpr c2
 have c3b0 : ((wd ws 0).toList == ([102,117,110,99] : List UInt8)) = false:=beq_eq_false_iff_ne.mpr c3
 have TB:=Mk hT
 have LC:=Mk hlc
 have J1:=Mk (eq_join ws (by omega) htx)
 obtain ⟨k1,e1⟩:=ev_some (ev_impl_InsRead (tx ws) (by omega))
 generalize tx ws = T at J1 e1 HRES
 obtain ⟨x1,x2,x3,ok,hrd⟩ : ∃ a b c d,readIns T = (a,b,c,d):=⟨_,_,_,_,rfl⟩
 rw [hrd] at e1 HRES
 have I1:=Mk e1
 have OR:=Mk (Kd.R_lt MD.out.recs)
 have OF:=Mk (Kd.R_lt MD.out.funs)
 have OC:=Mk (Kd.R_lt MD.out.code)
 clear e1 hrd hT hlc htx
 cases ok with
 | false =>
  go_enter Tryz.func13,Tryz.ntmps13
  go_wp2_with (first
   | ((with_reducible refine gate_callee (f:=41) rfl ?_);refine wpList_step fun K hK=>?_;refine U.go Tryz.func41 #[.slice (some ad) ws.length cW,.string ⟨#[32]⟩] ?_;(with_reducible refine (strings_Join.calls (some ad) cW ws ⟨#[32]⟩ T _ (Kd.V_reads' HV.out).2.2 (Kd.V_reads' HV.out).2.1 J1.out).mono ?_);rintro e w4 ⟨rfl,hb⟩;refine ⟨_,rfl,hK _ _ ?_⟩;clear hK;replace BM:=Mk (blk_below BM.out hb);replace HB:=Mk (below_step HB.out hb);clear hb hx0 hm0 hm1 hm2 hz0 hz1 hz2;obtain ⟨hm0,hm1,hm2,hz0,hz1,hz2⟩:=U.d3 BM)
   | ((with_reducible refine gate_callee (f:=40) rfl ?_);refine wpList_step fun K hK=>?_;refine U.go Tryz.func40 #[.string T] ?_;(with_reducible refine (impl_InsRead.calls k1 T x1 x2 x3 false _ (TB.out.below HB.out) I1.out).mono ?_);rintro e w5 ⟨rfl,hb⟩;refine ⟨_,rfl,hK _ _ ?_⟩;clear hK;replace BM:=Mk (blk_below BM.out hb);replace HB:=Mk (below_step HB.out hb);clear hb hm0 hm1 hm2 hz0 hz1 hz2;obtain ⟨hm0,hm1,hm2,hz0,hz1,hz2⟩:=U.d3 BM)
   | ((with_reducible refine gate_dst (N:=9) rfl ?_);refine U.bx 9 59 #[.string ⟨#[]⟩,.int .i64 0,.int .i64 0] ?_;intro gx hg w6 hbox hb;have BX:=Mk hbox;have NX1:=Mk (show gm ≠ gx by rw [hg];exact Nat.ne_of_lt (blk_lt BM.out));have GX:=Mk (show w.heap.size ≤ gx by rw [hg];exact HB.out.size);replace BM:=Mk (blk_below BM.out hb);replace HB:=Mk (below_step HB.out hb);clear hg hbox hb hm0 hm1 hm2 hz0 hz1 hz2;obtain ⟨hm0,hm1,hm2,hz0,hz1,hz2⟩:=U.d3 BM;obtain ⟨x0,x1',x2',y0,y1,y2⟩:=U.d3 BX;have nx1:=NX1.out;have nx2:=NX1.out.symm))
  go_ret
  exact EndP.bad rfl (((HB.out.setCell (p:=⟨gx,0,none⟩) GX.out (.string x1)).setCell (p:=⟨gx,1,none⟩) GX.out (.int .i64 x2)).setCell (p:=⟨gx,2,none⟩) GX.out (.int .i64 x3)) GM.out (by rw [HRES.out,if_neg (fun h=>by simp at h)])
 | true =>
  by_cases a2 : M.f.length = 0
  ·have d2 : ((M.f.length : Int) == 0) = true:=beq_iff_eq.mpr (by omega)
   have A2:=Mk a2
   clear a2
   go_enter Tryz.func13,Tryz.ntmps13
   go_wp2_with (first
    | ((with_reducible refine gate_callee (f:=41) rfl ?_);refine wpList_step fun K hK=>?_;refine U.go Tryz.func41 #[.slice (some ad) ws.length cW,.string ⟨#[32]⟩] ?_;(with_reducible refine (strings_Join.calls (some ad) cW ws ⟨#[32]⟩ T _ (Kd.V_reads' HV.out).2.2 (Kd.V_reads' HV.out).2.1 J1.out).mono ?_);rintro e w4 ⟨rfl,hb⟩;refine ⟨_,rfl,hK _ _ ?_⟩;clear hK;replace BM:=Mk (blk_below BM.out hb);replace HB:=Mk (below_step HB.out hb);clear hb hx0 hm0 hm1 hm2 hz0 hz1 hz2;obtain ⟨hm0,hm1,hm2,hz0,hz1,hz2⟩:=U.d3 BM)
    | ((with_reducible refine gate_callee (f:=40) rfl ?_);refine wpList_step fun K hK=>?_;refine U.go Tryz.func40 #[.string T] ?_;(with_reducible refine (impl_InsRead.calls k1 T x1 x2 x3 true _ (TB.out.below HB.out) I1.out).mono ?_);rintro e w5 ⟨rfl,hb⟩;refine ⟨_,rfl,hK _ _ ?_⟩;clear hK;replace BM:=Mk (blk_below BM.out hb);replace HB:=Mk (below_step HB.out hb);clear hb hm0 hm1 hm2 hz0 hz1 hz2;obtain ⟨hm0,hm1,hm2,hz0,hz1,hz2⟩:=U.d3 BM)
    | ((with_reducible refine gate_dst (N:=9) rfl ?_);refine U.bx 9 59 #[.string ⟨#[]⟩,.int .i64 0,.int .i64 0] ?_;intro gx hg w6 hbox hb;have BX:=Mk hbox;have NX1:=Mk (show gm ≠ gx by rw [hg];exact Nat.ne_of_lt (blk_lt BM.out));have GX:=Mk (show w.heap.size ≤ gx by rw [hg];exact HB.out.size);replace BM:=Mk (blk_below BM.out hb);replace HB:=Mk (below_step HB.out hb);clear hg hbox hb hm0 hm1 hm2 hz0 hz1 hz2;obtain ⟨hm0,hm1,hm2,hz0,hz1,hz2⟩:=U.d3 BM;obtain ⟨x0,x1',x2',y0,y1,y2⟩:=U.d3 BX;have nx1:=NX1.out;have nx2:=NX1.out.symm))
   go_ret
   exact EndP.bad rfl (((HB.out.setCell (p:=⟨gx,0,none⟩) GX.out (.string x1)).setCell (p:=⟨gx,1,none⟩) GX.out (.int .i64 x2)).setCell (p:=⟨gx,2,none⟩) GX.out (.int .i64 x3)) GM.out (by rw [HRES.out,if_neg (fun h=>h.2.1 A2.out)])
  ·have d2 : ((M.f.length : Int) == 0) = false:=beq_eq_false_iff_ne.mpr (by omega)
   have HRES2:=Mk (show res = if (lastF M).f5.length + 1 ≤ 40 then some (addCode M ⟨x1,x2,x3⟩) else none by
    rw [HRES.out]
    by_cases hh : (lastF M).f5.length + 1 ≤ 40
    ·rw [if_pos hh,if_pos ⟨rfl,a2,hh⟩]
    ·rw [if_neg hh,if_neg (fun h=>hh h.2.2)])
   clear HRES
   go_enter Tryz.func13,Tryz.ntmps13
   go_upto_region 19 with (first
    | ((with_reducible refine gate_callee (f:=41) rfl ?_);refine wpList_step fun K hK=>?_;refine U.go Tryz.func41 #[.slice (some ad) ws.length cW,.string ⟨#[32]⟩] ?_;(with_reducible refine (strings_Join.calls (some ad) cW ws ⟨#[32]⟩ T _ (Kd.V_reads' HV.out).2.2 (Kd.V_reads' HV.out).2.1 J1.out).mono ?_);rintro e w4 ⟨rfl,hb⟩;refine ⟨_,rfl,hK _ _ ?_⟩;clear hK;replace BM:=Mk (blk_below BM.out hb);replace HB:=Mk (below_step HB.out hb);clear hb hx0 hm0 hm1 hm2 hz0 hz1 hz2;obtain ⟨hm0,hm1,hm2,hz0,hz1,hz2⟩:=U.d3 BM)
    | ((with_reducible refine gate_callee (f:=40) rfl ?_);refine wpList_step fun K hK=>?_;refine U.go Tryz.func40 #[.string T] ?_;(with_reducible refine (impl_InsRead.calls k1 T x1 x2 x3 true _ (TB.out.below HB.out) I1.out).mono ?_);rintro e w5 ⟨rfl,hb⟩;refine ⟨_,rfl,hK _ _ ?_⟩;clear hK;replace BM:=Mk (blk_below BM.out hb);replace HB:=Mk (below_step HB.out hb);clear hb hm0 hm1 hm2 hz0 hz1 hz2;obtain ⟨hm0,hm1,hm2,hz0,hz1,hz2⟩:=U.d3 BM)
    | ((with_reducible refine gate_dst (N:=9) rfl ?_);refine U.bx 9 59 #[.string ⟨#[]⟩,.int .i64 0,.int .i64 0] ?_;intro gx hg w6 hbox hb;have BX:=Mk hbox;have NX1:=Mk (show gm ≠ gx by rw [hg];exact Nat.ne_of_lt (blk_lt BM.out));have GX:=Mk (show w.heap.size ≤ gx by rw [hg];exact HB.out.size);replace BM:=Mk (blk_below BM.out hb);replace HB:=Mk (below_step HB.out hb);clear hg hbox hb hm0 hm1 hm2 hz0 hz1 hz2;obtain ⟨hm0,hm1,hm2,hz0,hz1,hz2⟩:=U.d3 BM;obtain ⟨x0,x1',x2',y0,y1,y2⟩:=U.d3 BX;have nx1:=NX1.out;have nx2:=NX1.out.symm))
   have hfar : ∀ k,k ≠ gx → (((w6.setCell ⟨gx,0,none⟩ (.string x1)).setCell ⟨gx,1,none⟩ (.int .i64 x2)).setCell ⟨gx,2,none⟩ (.int .i64 x3)).heap[k]? = w6.heap[k]?:=fun k h=>by rw [Below.heap_setCell _ _ _ k h,Below.heap_setCell _ _ _ k h,Below.heap_setCell _ _ _ k h]
   replace HB:=Mk (((HB.out.setCell (p:=⟨gx,0,none⟩) GX.out (.string x1)).setCell (p:=⟨gx,1,none⟩) GX.out (.int .i64 x2)).setCell (p:=⟨gx,2,none⟩) GX.out (.int .i64 x3))
   replace BX:=Mk (blk_put (cs:=#[.string x1,.int .i64 x2,.int .i64 0]) (blk_put (cs:=#[.string x1,.int .i64 0,.int .i64 0]) (blk_put (cs:=#[.string ⟨#[]⟩,.int .i64 0,.int .i64 0]) BX.out 0 (.string x1) rfl) 1 (.int .i64 x2) rfl) 2 (.int .i64 x3) rfl)
   replace BM:=Mk ((hfar gm NX1.out).trans BM.out)
   replace MD:=Mk (MD.out.below HB.out)
   clear hfar hm0 hm1 hm2 hz0 hz1 hz2 x0 x1' x2' y0 y1 y2
   (generalize (((w6.setCell ⟨gx,0,none⟩ (.string x1)).setCell ⟨gx,1,none⟩ (.int .i64 x2)).setCell ⟨gx,2,none⟩ (.int .i64 x3)) = w7 at MD BM BX HB ⊢)
   replace MD:=Mk (MD.out.below (below_drew (Below.refl _ _)))
   replace BM:=Mk (blk_drew BM.out)
   replace BX:=Mk (blk_drew BX.out)
   replace HB:=Mk (below_drew1 HB.out)
   obtain ⟨gF,cF',eF',_,hcl,hfz,hgF1,hgF2⟩:=MD.out.last (by omega)
   obtain ⟨rfl,rfl⟩ : AF = some ⟨gF,0,none⟩ ∧ cF = cF':=by injection eF' with x _ y;exact ⟨x,y⟩
   clear eF'
   obtain ⟨AC,cC,eC⟩:=Kd.R_slice MD.out.code
   subst eC
   obtain ⟨mm,hmm⟩ : ∃ m : Nat,m + 1 = M.f.length:=⟨M.f.length - 1,by omega⟩
   have lf9:=LF.out
   have hwm : wrap64 ((M.f.length : Int) - 1) = (mm : Int):=by unfold wrap64;omega
   have hwi : IntKind.i64.wrap ((M.f.length : Int) - 1) = (mm : Int):=(i64_w _).trans hwm
   have m1 : (0 ≤ (mm : Int)) = True:=eq_true (by omega)
   have m2 : ((mm : Int) < (M.f.length : Int)) = True:=eq_true (by omega)
   have m3 : (mm < M.f.length) = True:=eq_true (by omega)
   have em : M.f.length - 1 = mm:=by omega
   have EM:=Mk em
   rw [em] at hcl hfz
   have HCL:=Mk hcl
   have HGF:=Mk (And.intro hgF1 hgF2)
   have HMM:=Mk hmm
   clear em hcl hfz hgF1 hgF2 hmm lf9
   have NFM:=Mk (show gm ≠ gF from fun he=>Kd.R_ne MD.out.funs BM.out (by decide) (by simp [Value.ownBlock,he]))
   have FL:=Mk (show gF < w.heap.size from OF.out gF (by simp [Value.ownBlock]))
   have RL:=Mk (show fr.length = M.f.length from by
    obtain ⟨_,_,a3⟩:=Foot.now MD.out.rest
    rcases a3 with ⟨e1,e2⟩ | ⟨fs0,g,fr0,s,e1,e2,h1,h2⟩
    ·rw [e1,e2];rfl
    ·rw [e1,e2];simp [h1.1])
   refine start_ (n:=12) (S:=fun w'=>w'.cell? ⟨gm,1,none⟩ = some (.slice (some ⟨gF,0,none⟩) M.f.length cF)) (ds:=[]) #[false,false,false,false,false,false,false,false,false,false,false,false] (by kernel_rfl) rfl rfl (U.c1 BM) (fun hHeld=>?_)
   (generalize w7.drew = w18 at MD BM BX HB HCL HGF hHeld ⊢)
   refine U.pn 0 (some 141) ?_
   refine U.pn 1 (some 142) ?_
   refine U.pn 2 (some 143) ?_
   refine U.pn 4 (some 145) ?_
   refine U.pn 5 (some 146) ?_
   refine U.pn 6 (some 147) ?_
   refine take_ (i:=3) (N:=some 144) (v:=.slice (some ⟨gF,0,none⟩) M.f.length cF) #[true,true,true,true,true,true,true,false,false,false,false,false] rfl rfl (by kernel_rfl) (fun _ _ _ h=>h) (Or.inl ⟨by rfl,?_⟩) hHeld (by simp only [Act.put,List.setIfInBounds_toArray,List.set_cons_zero,List.set_cons_succ];rfl) ?_
   ·rintro w' s0
    go_simp
   refine take_ (i:=7) (N:=some 148) (v:=.slice (some ⟨gF,0,none⟩) M.f.length cF) #[true,true,true,true,true,true,true,true,false,false,false,false] rfl rfl (by kernel_rfl) (fun _ _ _ h=>h) (Or.inl ⟨by rfl,?_⟩) hHeld (by simp only [Act.put,List.setIfInBounds_toArray,List.set_cons_zero,List.set_cons_succ];rfl) ?_
   ·rintro w' s0
    go_simp
   refine U.pn 8 (some 149) ?_
   refine U.pn 9 (some 150) (v:=.int .i64 (mm : Int)) ?_ (hy:=by intro w';go_simp;first | done | exact hwi)
   refine U.pn 10 (some 151) (v:=.pointer (some ⟨gF,mm * 6,none⟩)) ?_ (hy:=by intro w';go_simp)
   refine U.pn 11 (some 11) ?_
   refine done_ (by kernel_rfl) ?_
   clear hHeld
   go_upto_region 20 with fail
   replace MD:=Mk (MD.out.below (below_drew (Below.refl _ _)))
   replace BM:=Mk (blk_drew BM.out)
   replace BX:=Mk (blk_drew BX.out)
   replace HB:=Mk (below_drew1 HB.out)
   have hcl : w18.drew.cell? ⟨gF,mm * 6 + 5,none⟩ = some (.slice AC (lastF M).f5.length cC):=HCL.out
   clear HCL
   refine start_ (n:=11) (S:=fun w'=>w'.cell? ⟨gF,mm * 6 + 5,none⟩ = some (.slice AC (lastF M).f5.length cC) ∧ w'.cell? ⟨gx,0,none⟩ = some (.string x1) ∧ w'.cell? ⟨gx,1,none⟩ = some (.int .i64 x2) ∧ w'.cell? ⟨gx,2,none⟩ = some (.int .i64 x3)) (ds:=[10]) #[false,false,false,false,false,false,false,false,false,false,false] (by kernel_rfl) rfl rfl (⟨hcl,U.c0 BX,U.c1 BX,U.c2 BX⟩) (fun hHeld=>?_)
   (generalize w18.drew = w19 at MD BM BX HB hcl hHeld ⊢)
   refine U.pn 0 (some 152) ?_
   refine U.pn 1 (some 153) ?_
   refine U.pn 2 (some 154) ?_
   refine U.pn 3 (some 155) ?_
   refine take_ (i:=4) (N:=some 156) (v:=.slice AC (lastF M).f5.length cC) #[true,true,true,true,true,false,false,false,false,false,false] rfl rfl (by kernel_rfl) (fun _ _ _ h=>h) (Or.inl ⟨by rfl,?_⟩) hHeld (by simp only [Act.put,List.setIfInBounds_toArray,List.set_cons_zero,List.set_cons_succ];rfl) ?_
   ·rintro w' ⟨s0,s1,s2,s3⟩
    go_simp
   refine take_ (i:=5) (N:=some 157) (v:=.agg #[.string x1,.int .i64 x2,.int .i64 x3]) #[true,true,true,true,true,true,false,false,false,false,false] rfl rfl (by kernel_rfl) (fun _ _ _ h=>h) (Or.inl ⟨by rfl,?_⟩) hHeld (by simp only [Act.put,List.setIfInBounds_toArray,List.set_cons_zero,List.set_cons_succ];rfl) ?_
   ·rintro w' ⟨s0,s1,s2,s3⟩
    go_simp
   refine one_ (i:=6) (N:=some 158) #[true,true,true,true,true,true,true,false,false,false,false] rfl rfl (by kernel_rfl) (by decide) (fun K hK=>?_)
   refine R_litW_step k59 w19.heap.size 59 ?hg (N:=158) ?hd (xs:=[(⟨x1,x2,x3⟩ : S59)]) (inner:=[.string x1,.int .i64 x2,.int .i64 x3]) (ok:=fun _=>True) (okp:=fun _=>True) ?hr ?hp (fun _ hk=>hk) trivial (Nat.le_refl _) (by simp) ?_
   (case hd=>rfl)
   (case hg=>rfl)
   (case hr=>first | (go_simp;done) | (go_simp;rfl))
   (case hp=>exact Reps.c3 (show k59.M _ _ _ (⟨x1,x2,x3⟩ : S59) [.string x1,.int .i64 x2,.int .i64 x3] from k59_mkM _ _ _ (⟨x1,x2,x3⟩ : S59)) (Reps.none _ _))
   intro v158 w20 ho158 hb hg_
   have HL:=Mk ho158
   replace MD:=Mk (MD.out.below hb)
   replace BM:=Mk (blk_below BM.out hb)
   replace BX:=Mk (blk_below BX.out hb)
   replace HB:=Mk (below_step HB.out hb)
   have hcl:=(hb.cell (World.block_lt_of_cell? _ _ hcl)).trans hcl
   clear hb hg_ ho158 hHeld
   obtain ⟨B9,b9,e9⟩:=Kd.R_slice HL.out;subst e9
   refine hK.out _ _ (⟨hcl,U.c0 BX,U.c1 BX,U.c2 BX⟩) (fun hHeld=>?_)
   clear hK K
   refine U.nm 158 ?_
   refine one_ (i:=7) (N:=some 159) #[true,true,true,true,true,true,true,true,false,false,false] rfl rfl (by kernel_rfl) (by decide) (fun K hK=>?_)
   refine Kd.R_append_rows_step k59 gm (by rfl) (.tmp 156) (.tmp 158) 53 59 (.agg #[(.string ⟨#[]⟩),(.int .i64 0),(.int .i64 0)]) 32 rfl Tryz.underlying53 info59 rfl (by decide) (by omega) (.slice AC (lastF M).f5.length cC) (lastF M).f5 [(⟨x1,x2,x3⟩ : S59)] _ _ _ (fun _=>True) (fun k=>some k ≠ (Value.slice AC (lastF M).f5.length cC).ownBlock) rfl rfl (Kd.R_mono MD.out.code (fun _ _=>trivial)) (R_readsM HL.out) (fun x cs h=>by rw [k59_openM h];exact k59_mkM _ _ _ x) (fun k hk=>⟨trivial,hk⟩) (fun _ _=>trivial) (Below.refl _ _) (Nat.le_trans (Nat.le_of_lt GM.out) HB.out.size) ?aL ?_
   (case aL=>have:=LC.out;simp only [List.length_cons,List.length_nil];omega)
   intro v159 w21 ho hb hg hat
   have hoT:=Kd.R_tight rfl ho
   obtain ⟨fr',MD2⟩:=MD.out.putCode (i:=(⟨x1,x2,x3⟩ : S59)) (by omega) hg hat hoT
   have MD2:=Mk MD2
   rw [EM.out] at MD2
   have nm:=Kd.R_ne MD.out.code BM.out (by decide)
   have nF : some gF ≠ (Value.slice AC (lastF M).f5.length cC).ownBlock:=own_ne MD.out.funs MD.out.code (by decide) gF (by simp [Value.ownBlock])
   have nX : some gx ≠ (Value.slice AC (lastF M).f5.length cC).ownBlock:=fun he=>by have:=OC.out gx he.symm;have:=GX.out;omega
   have ltF : gF < w20.heap.size:=Kd.R_lt MD.out.funs gF (by simp [Value.ownBlock])
   have hblk : w21.heap[gF]? = w20.heap[gF]?:=hg.block gF ltF nF
   have hcl3 : w21.cell? ⟨gF,mm * 6 + 5,none⟩ = some (.slice AC (lastF M).f5.length cC):=by
    rw [← hHeld.1]
    simp only [World.cell?,hblk]
   have hfz3 : w21.frozen? ⟨gF,mm * 6 + 5,none⟩ = false:=by
    have hlF:=RL.out
    have hm9:=HMM.out
    obtain ⟨_,_,_,_,hfr⟩:=Kd.R_elem (Kd.R_grown MD.out.funs hg (own_ne MD.out.funs MD.out.code (by decide))) [] (mm : Int) (by omega) (by omega)
    have:=hfr 5
    rw [Int.toNat_natCast] at this
    exact this
   replace BM:=Mk (blk_grown BM.out hg nm)
   replace BX:=Mk (blk_grown BX.out hg nX)
   have HB2:=Mk ((below_less HB.out (Nat.le_of_lt GM.out)).trans hb)
   obtain ⟨A28,c28,e28⟩:=Kd.R_slice ho
   generalize hn28 : ((lastF M).f5 ++ [(⟨x1,x2,x3⟩ : S59)]).length = n28 at e28
   have hn29 : n28 = (lastF M).f5.length + 1:=by rw [← hn28,List.length_append];rfl
   have HN29:=Mk hn29
   subst e28
   clear hn28 hn29 ho hb hg hat hoT hHeld hcl MD nm nF nX hblk ltF HL HB
   refine hK.out _ _ (⟨hcl3,U.c0 BX,U.c1 BX,U.c2 BX⟩) (fun hHeld=>?_)
   clear hK K
   refine U.nm 159 ?_
   refine U.pn 8 (some 160) ?_
   refine U.pn 9 (some 161) ?_
   refine last_ (i:=10) (N:=none) #[true,true,true,true,true,true,true,true,true,true,true] rfl rfl (by kernel_rfl) (by decide) (fun K hK=>?_)
   refine skip_ (w1:=w21.setCell ⟨gF,mm * 6 + 5,none⟩ (.slice A28 n28 c28)) (by rfl) rfl ?_ ?_
   ·go_simp
   refine hK.out _ _ ?_
   refine done_ (by kernel_rfl) ?_
   clear hcl3 hfz3 hHeld hK K
   have nfm:=NFM.out
   replace BM:=Mk ((Below.heap_setCell w21 ⟨gF,mm * 6 + 5,none⟩ (.slice A28 n28 c28) gm nfm).trans BM.out)
   have HB3:=Mk (HB2.out.setCell (p:=⟨gF,mm * 6 + 5,none⟩) HGF.out.1 (.slice A28 n28 c28))
   clear BX HB2
   (generalize w21.setCell ⟨gF,mm * 6 + 5,none⟩ (.slice A28 n28 c28) = w22 at MD2 BM HB3 ⊢)
   have hm9:=HMM.out
   obtain ⟨gF',cF'',eF',_,hcl,_,_,_⟩:=MD2.out.last (by show 0 < (M.f.set _ _).length;rw [List.length_set];omega)
   obtain rfl : gF = gF':=by injection eF' with x _ _;injection x with x;injection x
   have ecl : (addCode M ⟨x1,x2,x3⟩).f.length - 1 = mm:=by show (M.f.set _ _).length - 1 = mm;rw [List.length_set];omega
   rw [ecl] at hcl
   clear ecl eF' hm9
   by_cases a9 : n28 ≤ 40
   ·have d9 : decide ((n28 : Int) ≤ 40) = true:=decide_eq_true (by omega)
    have A9:=Mk a9
    clear a9
    go_wp2
    go_ret
    exact ⟨true,rfl,HB3.out,.inl ⟨rfl,_,_,_,_,_,_,_,by rw [HRES2.out,if_pos (by have:=HN29.out;have:=A9.out;omega)],BM.out,MD2.out⟩⟩
   ·have d9 : decide ((n28 : Int) ≤ 40) = false:=decide_eq_false (by omega)
    have A9:=Mk a9
    clear a9
    go_wp2
    go_ret
    exact ⟨false,rfl,HB3.out,.inr ⟨rfl,by rw [HRES2.out,if_neg (fun h=>by have:=HN29.out;have:=A9.out;omega)]⟩⟩
theorem take_own (gm : Nat) (w : World) (rr fr : List (List Value)) (vR vF vN cl : Value) (M : MO) (AW : Option Addr) (cW base : Nat) (ws : List ByteArray) (hgm : gm < w.heap.size) (hbox : w.heap[gm]? = some (.cells #[vR,vF,vN] 26 (0,0))) (hMd : Md w gm (fun k=>gm < k) rr fr vR vF vN cl M) (hr : M.r.length ≤ 1000) (hf : M.f.length ≤ 1000) (hW : Kd.V Kd.string 9 w base (OK3 (fun k=>gm < k) vR vF cl) (.slice AW ws.length cW) ws) (hne : 0 < ws.length) (hl : ws.length ≤ 5000) (hT : Tab w) (hlc : (lastF M).f5.length ≤ 1000) (htx : (tx ws).size ≤ 100000) :
  Calls Tryz.prog 13 #[.pointer (some ⟨gm,0,none⟩),.slice AW ws.length cW] w fun e w'=>EndP gm w w' (iStep M ws) e:=by
 obtain ⟨q1,q2,q3⟩:=kw_lists
 unfold iStep
 by_cases k1 : wd ws 0 = kwRecord
 ·rw [if_pos k1]
  exact take_rec gm w rr fr vR vF vN cl M AW cW base ws hgm hbox hMd hr hf hW hne hl ((kw_iff q1).1 k1) _ rfl
 ·rw [if_neg k1]
  have n1:=fun h=>k1 ((kw_iff q1).2 h)
  by_cases k2 : wd ws 0 = kwFriend
  ·rw [if_pos k2]
   exact take_fri gm w rr fr vR vF vN cl M AW cW base ws hgm hbox hMd hr hf hW hne hl n1 ((kw_iff q2).1 k2) _ rfl
  ·rw [if_neg k2]
   have n2:=fun h=>k2 ((kw_iff q2).2 h)
   by_cases k3 : wd ws 0 = kwFunc
   ·rw [if_pos k3]
    refine take_fun gm w rr fr vR vF vN cl M AW cW base ws hgm hbox hMd hr hf hW hne hl n1 n2 ((kw_iff q3).1 k3) _ ?_
    cases headFn (ws.drop 1)<;>rfl
   ·rw [if_neg k3]
    exact take_ins gm w rr fr vR vF vN cl M AW cW base ws hgm hbox hMd hr hf hW hne hl hT hlc htx n1 n2 (fun h=>k3 ((kw_iff q3).2 h)) _ rfl
theorem fold_ok : ∀ (ls : List ByteArray) (M M' : MO),okMod M → (∀ l ∈ ls,no10 l) → ls.foldlM sStep M = some M' → okMod M'
 | [],M,M',h,_,e=>by
  obtain rfl:=Option.some.inj e
  exact h
 | l :: ls,M,M',h,hn,e=>by
  rw [List.foldlM_cons] at e
  cases hs : sStep M l with
  | none=>rw [hs] at e;cases e
  | some M1 =>
   rw [hs] at e
   exact fold_ok ls M1 M' (stepB h (hn l List.mem_cons_self) hs) (fun x hx=>hn x (List.mem_cons_of_mem _ hx)) e
theorem fold_okI {s : ByteArray} {M : MO} (h : (linesOf s).1.foldlM istep emptyM = some M) : okMod M :=
 fold_ok _ _ _ ok_empty (lines_of s).1 (foldA _ _ _ ⟨by decide,by simp [emptyM]⟩ h).1
theorem lens_fold : ∀ (ls : List ByteArray) (M M' : MO),lensM M → ls.foldlM istep M = some M' → lensM M'
 | [],M,M',h,e=>by
  obtain rfl:=Option.some.inj e
  exact h
 | l :: ls,M,M',h,e=>by
  rw [List.foldlM_cons] at e
  cases hs : istep M l with
  | none=>rw [hs] at e;cases e
  | some M1 =>
   rw [hs] at e
   exact lens_fold ls M1 M' (lens_step h hs) e
theorem lens_last {M : MO} (h : lensM M) : (lastF M).f5.length ≤ 1000:=by
 by_cases h0 : M.f.length = 0
 ·unfold lastF
  rw [List.getD_eq_getElem?_getD,List.getElem?_eq_none (by omega)]
  exact Nat.zero_le _
 ·have:=h.2.2 _ (last_mem h0)
  omega
theorem okMod_lens {M : MO} (h : okMod M) : lens9 M:=by
 refine ⟨by have:=h.1.1;omega,fun x hx=>?_,by have:=h.2.2.1;omega,fun x hx=>?_,by have:=h.2.1.2;omega⟩
 ·have:=forms_len (h.1.2 x hx).2.2
  omega
 ·have:=okFun_lens (h.2.2.2 x hx)
  omega
theorem ModOwn.zero (w : World) (base : Nat) : ModOwn w base emptyM [.slice none 0 0,.slice none 0 0,.slice none 0 0] :=
 ModOwn.mk (A1:=none) (A2:=none) (A3:=none) (c1:=0) (c2:=0) (c3:=0) (b1:=base) (b2:=base) (b3:=base) emptyM (Nat.le_refl _) (Nat.le_refl _) (Nat.le_refl _) (Kd.S_nil _ _ _ _ _) (Kd.S_nil _ _ _ _ _) (Kd.S_nil _ _ _ _ _)
theorem nil_list : (⟨#[]⟩ : ByteArray).toList = []:=by decide +kernel
theorem ne_nil {s : ByteArray} (h : s.size ≠ 0) : (s.toList == ([] : List UInt8)) = false:=beq_eq_false_iff_ne.mpr (fun e=>h (by rw [bytes_ext (e.trans nil_list.symm)];rfl))
theorem rest_drop : ∀ (ls : List ByteArray) (i : Nat),(rest (ls.drop i)).size ≤ (rest ls).size
 | ls,0=>Nat.le_refl _
 | [],i + 1=>by simp
 | l :: ls,i + 1=>by
  rw [List.drop_succ_cons,rest_size]
  have:=rest_drop ls i
  omega
def strSize : Value → Nat
 | .string x=>x.size
 | _=>0
def ReadP (s : ByteArray) (w w' : World) (e : Ending) : Prop:=∃ B1 B2 B3 M b,e = .returned (.tuple #[.agg #[.slice B1 M.r.length M.r.length,.slice B2 M.f.length M.f.length,.slice B3 M.n.length M.n.length],.bool b]) ∧ ModOwn w' w.heap.size M [.slice B1 M.r.length M.r.length,.slice B2 M.f.length M.f.length,.slice B3 M.n.length M.n.length] ∧ Below w.heap.size w w' ∧ ((iRead s = some M ∧ b = true) ∨ (iRead s = none ∧ M = emptyM ∧ b = false))
theorem ReadP.bad {s : ByteArray} {w w' : World} {e : Ending} (he : e = .returned (.tuple #[.agg #[.slice none 0 0,.slice none 0 0,.slice none 0 0],.bool false])) (hb : Below w.heap.size w w') (hn : iRead s = none) : ReadP s w w' e:=⟨none,none,none,emptyM,false,he,ModOwn.zero _ _,hb,.inr ⟨hn,rfl,rfl⟩⟩
set_option maxHeartbeats 4000000 in
set_option maxRecDepth 100000 in
theorem implRead_own (s : ByteArray) (w : World) (hT : Tab w) (hs : s.size ≤ 1048576) : Calls Tryz.prog 5 #[.string s] w fun e w'=>ReadP s w w' e:=by
 have hu26:=Tryz.underlying26
 have HB:=Mk (Below.refl w.heap.size w)
 have TB:=Mk hT
 clear hT
 go_enter Tryz.func5,Tryz.ntmps5
 go_upto_region 1 with (first
  | ((with_reducible refine gate_dst (N:=2) rfl ?_);refine U.bx 2 26 #[.slice none 0 0,.slice none 0 0,.slice none 0 0] ?_;intro g2 hg w2 hbox hb;have B2:=Mk hbox;have G2:=Mk (show w.heap.size ≤ g2 by rw [hg];exact Nat.le_refl _);replace HB:=Mk (below_step HB.out hb);clear hg hbox hb))
 go_cut [20] (fun v20 wc=>∃ q : Bool,v20 = .bool q ∧ Aside0 ((q = true ∧ iRead s = none) ∨ (q = false ∧ s.size ≤ 4000 ∧ (linesOf s).2 = ⟨#[]⟩)) ∧ Aside0 (wc.heap[g2]? = some (.cells #[.slice none 0 0,.slice none 0 0,.slice none 0 0] 26 (0,0))) ∧ Aside0 (Below w.heap.size w wc))
 case first =>
  by_cases h4 : s.size > 4000
  ·have q0 : decide ((s.size : Int) > 4000) = true:=decide_eq_true (by omega)
   have HQ:=Mk (show iRead s = none by unfold iRead;rw [if_pos h4])
   clear h4
   go_wp2
   go_meet
   case rel=>exact ⟨true,rfl,⟨.inl ⟨rfl,HQ.out⟩⟩,B2,HB⟩
  ·have q0 : decide ((s.size : Int) > 4000) = false:=decide_eq_false (by omega)
   by_cases h5 : s.size = 0
   ·have he : s = ⟨#[]⟩:=by
     apply ByteArray.ext
     apply Array.toList_inj.1
     exact List.eq_nil_of_length_eq_zero (by rw [size_list];exact h5)
    have HQ:=Mk (show s.size ≤ 4000 ∧ (linesOf s).2 = ⟨#[]⟩ from ⟨by omega,by rw [he];rfl⟩)
    have HE:=Mk he
    have c0 : (s.toList == ([] : List UInt8)) = true:=by rw [he,nil_list];rfl
    clear h4 h5 he
    go_wp2
    go_meet
    case rel=>exact ⟨false,rfl,⟨.inr ⟨rfl,HQ.out⟩⟩,B2,HB⟩
   ·obtain ⟨l,c,hl,hbt⟩:=last_byte h5
    have hend:=lines_end hl
    have c0:=ne_nil h5
    have i0 : (0 : Int) ≤ (s.size : Int) - 1:=by omega
    have i1 : (s.size : Int) - 1 < (s.size : Int):=by omega
    have hg : ∀ h : s.size - 1 < s.size,(((s[s.size - 1]'h).toNat : Nat) : Int) = bt s ((s.size : Int) - 1):=fun h=>by
     have e : ((s.size : Int) - 1).toNat = s.size - 1:=by omega
     unfold bt
     rw [dif_pos (by omega)]
     simp only [e]
    have HG:=Mk hg
    clear hg
    by_cases hc : c = 10
    ·have HQ:=Mk (show s.size ≤ 4000 ∧ (linesOf s).2 = ⟨#[]⟩ from ⟨by omega,hend.2 hc⟩)
     have HB1:=Mk (show bt s ((s.size : Int) - 1) = 10 by rw [hbt,hc];rfl)
     clear hend hl hbt hc
     go_wp2
     go_meet
     case rel=>exact ⟨_,rfl,⟨.inr ⟨by rw [HG.out,HB1.out];rfl,HQ.out⟩⟩,B2,HB⟩
    ·have HQ:=Mk (show iRead s = none by unfold iRead;rw [if_neg h4,if_pos (fun e=>hc (hend.1 e))])
     have HB1:=Mk (show (bt s ((s.size : Int) - 1) != 10) = true from bne_iff_ne.mpr (fun e=>hc (by rw [hbt] at e;exact UInt8.toNat_inj.1 (by have : (10 : UInt8).toNat = 10:=rfl;omega))))
     clear hend hl hbt hc
     go_wp2
     go_meet
     case rel=>exact ⟨_,rfl,⟨.inl ⟨by rw [HG.out,HB1.out],HQ.out⟩⟩,B2,HB⟩
 case rest =>
  clear B2 HB
  obtain ⟨q,rfl,HQ,B2,HB⟩:=hcut
  obtain ⟨h20,h21,h22,f20,f21,f22⟩:=U.d3 B2
  cases q with
  | true =>
   have HN:=Mk (show iRead s = none by
    rcases HQ.out with h | h
    ·exact h.2
    ·cases h.1)
   clear HQ
   go_wp2
   have C3:=blk_put (cs:=#[.slice none 0 0,.slice none 0 0,.slice none 0 0]) (blk_put (cs:=#[.slice none 0 0,.slice none 0 0,.slice none 0 0]) (blk_put (cs:=#[.slice none 0 0,.slice none 0 0,.slice none 0 0]) B2.out 0 (.slice none 0 0) rfl) 1 (.slice none 0 0) rfl) 2 (.slice none 0 0) rfl
   have HB4:=((HB.out.setCell (p:=⟨g2,0,none⟩) G2.out (.slice none 0 0)).setCell (p:=⟨g2,1,none⟩) G2.out (.slice none 0 0)).setCell (p:=⟨g2,2,none⟩) G2.out (.slice none 0 0)
   refine bodyPost_ret (results_ct rfl _ _ g2 26 #[.slice none 0 0,.slice none 0 0,.slice none 0 0] (0,0) _ rfl C3 Tryz.underlying26 rfl (by kernel_rfl)) rfl ?_
   exact ReadP.bad rfl HB4 HN.out
  | false =>
   obtain ⟨hs4,hend⟩ : s.size ≤ 4000 ∧ (linesOf s).2 = ⟨#[]⟩:=by
    rcases HQ.out with h | h
    ·cases h.1
    ·exact h.2
   have HR:=Mk (show iRead s = (linesOf s).1.foldlM istep emptyM by unfold iRead;rw [if_neg (by omega),if_neg (fun h=>h hend)];rfl)
   have HO:=Mk (fun M=>fold_okI (s:=s) (M:=M))
   have hrest:=rest_all hend
   have ZN:=Mk (lines_of s).1
   clear HQ hend
   generalize (linesOf s).1 = ls at HR HO hrest ZN
   subst hrest
   go_wp2_with (first
    | ((with_reducible refine gate_dst (N:=4) rfl ?_);refine U.bx 4 26 #[.slice none 0 0,.slice none 0 0,.slice none 0 0] ?_;intro gm hg w3 hbox hb;have BM:=Mk hbox;have NM:=Mk (show g2 < gm by rw [hg];exact blk_lt B2.out);have GM:=Mk (show w.heap.size ≤ gm by rw [hg];exact HB.out.size);replace B2:=Mk (blk_below B2.out hb);replace HB:=Mk (below_step HB.out hb);clear hg hbox hb h20 h21 h22 f20 f21 f22;obtain ⟨hm0,hm1,hm2,hz0,hz1,hz2⟩:=U.d3 BM))
   have nm:=Nat.ne_of_lt NM.out
   replace B2:=Mk (blk_far (p:=⟨gm,2,none⟩) (blk_far (p:=⟨gm,1,none⟩) (blk_far (p:=⟨gm,0,none⟩) B2.out nm (.slice none 0 0)) nm (.slice none 0 0)) nm (.slice none 0 0))
   replace BM:=Mk (blk_put (cs:=#[.slice none 0 0,.slice none 0 0,.slice none 0 0]) (blk_put (cs:=#[.slice none 0 0,.slice none 0 0,.slice none 0 0]) (blk_put (cs:=#[.slice none 0 0,.slice none 0 0,.slice none 0 0]) BM.out 0 (.slice none 0 0) rfl) 1 (.slice none 0 0) rfl) 2 (.slice none 0 0) rfl)
   replace HB:=Mk (((HB.out.setCell (p:=⟨gm,0,none⟩) GM.out (.slice none 0 0)).setCell (p:=⟨gm,1,none⟩) GM.out (.slice none 0 0)).setCell (p:=⟨gm,2,none⟩) GM.out (.slice none 0 0))
   clear hm0 hm1 hm2 hz0 hz1 hz2 nm
   (generalize (((w3.setCell ⟨gm,0,none⟩ (.slice none 0 0)).setCell ⟨gm,1,none⟩ (.slice none 0 0)).setCell ⟨gm,2,none⟩ (.slice none 0 0)) = w4 at B2 BM HB ⊢)
   have HS4:=Mk hs4
   clear hs4 hs
   go_loopw [0] (fun v0 wr=>∃ (i : Nat) (M : MO) (rr fr : List (List Value)) (vR vF vN cl : Value),i ≤ ls.length ∧ v0 = .string (rest (ls.drop i)) ∧ Aside0 (Below w.heap.size w wr) ∧ Aside0 (wr.heap[g2]? = some (.cells #[.slice none 0 0,.slice none 0 0,.slice none 0 0] 26 (0,0))) ∧ Aside0 (wr.heap[gm]? = some (.cells #[vR,vF,vN] 26 (0,0))) ∧ Aside0 (Md wr gm (fun k=>gm < k) rr fr vR vF vN cl M) ∧ Aside0 ((ls.take i).foldlM istep emptyM = some M)) (fun v0 _=>strSize v0)
   case atStart=>exact ⟨0,emptyM,[],[],_,_,_,.slice none 0 0,Nat.zero_le _,rfl,HB,B2,BM,⟨Md.empty _ _ _⟩,⟨rfl⟩⟩
   case round =>
    clear HB B2 BM
    obtain ⟨i,M,rr,fr,vR,vF,vN,cl,hi,rfl,HB,B2,BM,MD,HF⟩:=hrel
    obtain ⟨AR,cR,AF,cF,AN,cN,eR,j1,C1,eF,j2,C2,eN,j3,C3⟩:=MD.out.reads
    subst eR;subst eF;subst eN
    by_cases hlt : i < ls.length
    ·have hd : ls.drop i = ls[i] :: ls.drop (i + 1):=List.drop_eq_getElem_cons hlt
     have hnl:=ZN.out _ (List.getElem_mem hlt)
     have HFT:=Mk (foldM_take hlt istep emptyM)
     have hz:=rest_drop ls i
     rw [hd] at hz ⊢
     have hsz:=rest_size ls[i] (ls.drop (i + 1))
     have hidx:=eq_index (rest_cons ls[i] (ls.drop (i + 1))) hnl
     rw [size_list] at hidx
     have hh:=rest_head ls[i] (ls.drop (i + 1))
     have ht:=rest_tail ls[i] (ls.drop (i + 1))
     have hs9:=HS4.out
     generalize rest (ls[i] :: ls.drop (i + 1)) = sr at hz hsz hidx hh ht ⊢
     obtain ⟨s2,hs2⟩ : ∃ x,x = rest (ls.drop (i + 1)):=⟨_,rfl⟩
     rw [← hs2] at ht hsz
     have S2:=Mk hs2
     generalize ls[i] = l at hsz hidx hh ht HFT hnl
     have HI:=Mk hidx
     have HNL:=Mk hnl
     have c0:=ne_nil (s:=sr) (by omega)
     have HHH:=Mk hh
     have HTT:=Mk ht
     have z1 : l.size ≤ sr.size:=by omega
     have z2 : l.size + 1 ≤ sr.size:=by omega
     have z3 : sr.size ≤ 4000:=by omega
     clear hs2 hidx hd hnl hz hs9 ht hh
     have hwl:=words_len l
     have hwp:=words_pos l
     have hes:=eq_split l (by omega)
     have htx:=tx_words l
     have LS:=Mk (lens_fold _ _ _ lens_empty HF.out)
     obtain ⟨ws,hws⟩ : ∃ x,x = wordsOf l:=⟨_,rfl⟩
     rw [← hws] at hwl hwp hes htx
     have WS:=Mk hws
     have ES:=Mk hes
     have TX:=Mk htx
     clear hws hes htx
     go_upto_if 32 with (first
      | ((with_reducible refine gate_callee (f:=12) rfl ?_);refine U.gl (some 26) Tryz.func12 #[.string sr,.string ⟨#[10]⟩] ?_;(with_reducible refine (strings_Index.calls sr ⟨#[10]⟩ l.size _ HI.out).mono ?_);rintro e w5 ⟨rfl,hb⟩;refine ⟨_,rfl,?_⟩;replace B2:=Mk (blk_below B2.out hb);replace BM:=Mk (blk_below BM.out hb);replace MD:=Mk (MD.out.below hb);replace HB:=Mk (below_step HB.out hb);clear hb)
      | ((with_reducible refine gate_callee (f:=14) rfl ?_);refine U.gl (some 30) Tryz.func14 #[.string (sr.extract 0 l.size),.string ⟨#[32]⟩] ?_;(rw [HHH.out]);(with_reducible refine (strings_Split.calls l ⟨#[32]⟩ ws _ (TB.out.below HB.out) ES.out).mono ?_);rintro e w6 ⟨vW,rfl,ho,hb⟩;refine ⟨_,rfl,?_⟩;obtain ⟨AW,cW,eW⟩:=Kd.V_slice ho;subst eW
         have HV:=Mk (Kd.V_mono (ok':=OK3 (fun k=>gm < k) (.slice AR M.r.length cR) (.slice AF M.f.length cF) cl) ho (fun k hk=>⟨Nat.lt_of_lt_of_le (blk_lt BM.out) hk,fun he=>by have:=Kd.R_lt MD.out.recs k he.symm;omega,fun he=>by have:=Kd.R_lt MD.out.funs k he.symm;omega,fun he=>by have:=Kd.R_lt MD.out.code k he.symm;omega⟩))
         replace B2:=Mk (blk_below B2.out hb);replace BM:=Mk (blk_below BM.out hb);replace MD:=Mk (MD.out.below hb);replace HB:=Mk (below_step HB.out hb);clear hb ho)
      | ((with_reducible refine gate_callee (f:=13) rfl ?_);refine U.gl (some 31) Tryz.func13 #[.pointer (some ⟨gm,0,none⟩),.slice AW ws.length cW] ?_;(refine (take_own gm w6 rr fr _ _ _ cl M AW cW w5.heap.size ws (blk_lt BM.out) BM.out MD.out (by have:=LS.out.1;omega) (by have:=LS.out.2.1;omega) HV.out hwp (by omega) (TB.out.below HB.out) (lens_last LS.out) (by rw [TX.out];omega)).mono ?_);rintro e w7 ⟨b,rfl,hS⟩;refine ⟨_,rfl,?_⟩;replace B2:=Mk ((hS.1.block g2 NM.out).trans B2.out);replace HB:=Mk (below_weaken HB.out GM.out hS.1);have HS:=Mk hS.2;clear hS HV BM MD))
     cases b with
     | false =>
      have HN:=Mk (show iRead (rest ls) = none by
       rcases HS.out with h | h
       ·cases h.1
       ·rw [HR.out]
        refine foldM_none (i:=i + 1) istep emptyM ?_
        rw [HFT.out,HF.out]
        show iStep M (wordsOf l) = none
        rw [← WS.out]
        exact h.2)
      clear HS
      obtain ⟨h20,h21,h22,f20,f21,f22⟩:=U.d3 B2
      go_wp2
      have C3:=blk_put (cs:=#[.slice none 0 0,.slice none 0 0,.slice none 0 0]) (blk_put (cs:=#[.slice none 0 0,.slice none 0 0,.slice none 0 0]) (blk_put (cs:=#[.slice none 0 0,.slice none 0 0,.slice none 0 0]) B2.out 0 (.slice none 0 0) rfl) 1 (.slice none 0 0) rfl) 2 (.slice none 0 0) rfl
      have HB4:=((HB.out.setCell (p:=⟨g2,0,none⟩) G2.out (.slice none 0 0)).setCell (p:=⟨g2,1,none⟩) G2.out (.slice none 0 0)).setCell (p:=⟨g2,2,none⟩) G2.out (.slice none 0 0)
      refine bodyPost_ret (results_ct rfl _ _ g2 26 #[.slice none 0 0,.slice none 0 0,.slice none 0 0] (0,0) _ rfl C3 Tryz.underlying26 rfl (by kernel_rfl)) rfl ?_
      exact ReadP.bad rfl HB4 HN.out
     | true =>
      obtain ⟨M',rr',fr',vR',vF',vN',cl',hs1,hs2,hs3⟩ : ∃ M' rr fr vR vF vN cl,iStep M ws = some M' ∧ w7.heap[gm]? = some (.cells #[vR,vF,vN] 26 (0,0)) ∧ Md w7 gm (fun k=>gm < k) rr fr vR vF vN cl M':=by
       rcases HS.out with h | h
       ·exact h.2
       ·cases h.1
      have HF2:=Mk (show (ls.take (i + 1)).foldlM istep emptyM = some M' by
       rw [HFT.out,HF.out]
       show iStep M (wordsOf l) = some M'
       rw [← WS.out]
       exact hs1)
      have BM:=Mk hs2
      have MD:=Mk hs3
      clear HS hs1 hs2 hs3
      go_wp2
      go_roundw
      case rel=>exact ⟨i + 1,M',rr',fr',vR',vF',vN',cl',by omega,by have ht:=HTT.out;rw [hsz] at ht;rw [ht,S2.out],HB,B2,BM,MD,HF2⟩
      case measure=>have ht:=HTT.out;rw [hsz] at ht;rw [ht];simp only [strSize];omega
    ·have hie : i = ls.length:=by omega
     have HF2:=Mk (show ls.foldlM istep emptyM = some M by have:=HF.out;rwa [hie,List.take_length] at this)
     have c0 : ((rest (ls.drop i)).toList == ([] : List UInt8)) = true:=by rw [hie,List.drop_length,show rest [] = ⟨#[]⟩ from rfl,nil_list];rfl
     generalize rest (ls.drop i) = s9 at c0 ⊢
     clear hie HF
     have OKM:=Mk (HO.out M HF2.out)
     have CR:=Mk C1
     have CF:=Mk C2
     have CN:=Mk C3
     have J1:=Mk j1
     have J2:=Mk j2
     have J3:=Mk j3
     clear C1 C2 C3 j1 j2 j3
     obtain ⟨hm0,hm1,hm2,hz0,hz1,hz2⟩:=U.d3 BM
     obtain ⟨h20,h21,h22,f20,f21,f22⟩:=U.d3 B2
     go_wp2_with (first
      | ((with_reducible refine gate_callee (f:=15) rfl ?_);refine U.gl (some 39) Tryz.func15 #[.agg #[.slice AR M.r.length cR,.slice AF M.f.length cF,.slice AN M.n.length cN]] ?_;(with_reducible refine (copyModule_own M AR AF AN cR cF cN _ CR.out J1.out CF.out J2.out CN.out J3.out (okMod_lens OKM.out)).mono ?_);rintro e w5 ⟨B1,B2',B3,rfl,ho,hb⟩;refine ⟨_,rfl,?_⟩;have HM:=Mk ho;have L5:=Mk (And.intro HB.out.size (blk_lt B2.out));replace B2:=Mk (blk_below B2.out hb);replace HB:=Mk (below_step HB.out hb);clear hb ho hm0 hm1 hm2 hz0 hz1 hz2 h20 h21 h22 f20 f21 f22;obtain ⟨h20,h21,h22,f20,f21,f22⟩:=U.d3 B2))
     have C3:=blk_put (cs:=#[.slice B1 M.r.length M.r.length,.slice B2' M.f.length M.f.length,.slice none 0 0]) (blk_put (cs:=#[.slice B1 M.r.length M.r.length,.slice none 0 0,.slice none 0 0]) (blk_put (cs:=#[.slice none 0 0,.slice none 0 0,.slice none 0 0]) B2.out 0 (.slice B1 M.r.length M.r.length) rfl) 1 (.slice B2' M.f.length M.f.length) rfl) 2 (.slice B3 M.n.length M.n.length) rfl
     have HB4:=((HB.out.setCell (p:=⟨g2,0,none⟩) G2.out (.slice B1 M.r.length M.r.length)).setCell (p:=⟨g2,1,none⟩) G2.out (.slice B2' M.f.length M.f.length)).setCell (p:=⟨g2,2,none⟩) G2.out (.slice B3 M.n.length M.n.length)
     refine bodyPost_ret (results_ct rfl _ _ g2 26 #[.slice B1 M.r.length M.r.length,.slice B2' M.f.length M.f.length,.slice B3 M.n.length M.n.length] (0,0) _ rfl C3 Tryz.underlying26 rfl (by kernel_rfl)) rfl ?_
     have l5:=L5.out
     refine ⟨B1,B2',B3,M,true,rfl,(ModOwn.step HM.out (fun k hk _=>?_)).lower l5.1,HB4,.inl ⟨HR.out.trans HF2.out,rfl⟩⟩
     have h : k ≠ g2:=by omega
     rw [Below.heap_setCell _ _ _ k h,Below.heap_setCell _ _ _ k h,Below.heap_setCell _ _ _ k h]
theorem eqM_any {M : MO} (h : okMod M) (B1 B2 B3 D1 D2 D3 : Option Addr) (e1 e2 e3 : Nat) (W : World) (h1 : ModC W M B1 B2 B3) (h2 : ModC W M D1 D2 D3) (l1 : M.r.length ≤ e1) (l2 : M.f.length ≤ e2) (l3 : M.n.length ≤ e3) :
  Calls Tryz.prog 6 #[.agg #[.slice B1 M.r.length M.r.length,.slice B2 M.f.length M.f.length,.slice B3 M.n.length M.n.length],.agg #[.slice D1 M.r.length e1,.slice D2 M.f.length e2,.slice D3 M.n.length e3]] W fun e w'=>e = .returned (.bool true) ∧ Below W.heap.size W w':=by
 obtain ⟨k,hk⟩:=okMod_eq h
 exact laws_eqModule.calls k B1 M.r.length M.r B2 M.f.length M.f B3 M.n.length M.n D1 e1 M.r D2 e2 M.f D3 e3 M.n true W h1.1 (Nat.le_refl _) h1.2.1 (Nat.le_refl _) h1.2.2 (Nat.le_refl _) h2.1 l1 h2.2.1 l2 h2.2.2 l3 hk
theorem ok_of {s : ByteArray} {M : MO} {b : Bool} (h : (iRead s = some M ∧ b = true) ∨ (iRead s = none ∧ M = emptyM ∧ b = false)) : okMod M:=by
 rcases h with ⟨h,_⟩ | ⟨_,rfl,_⟩
 ·unfold iRead at h
  split at h
  ·cases h
  ·split at h
   ·cases h
   ·exact fold_okI h
 ·exact ok_empty
theorem same_of {s : ByteArray} {M M2 : MO} {b b2 : Bool} (h : (iRead s = some M ∧ b = true) ∨ (iRead s = none ∧ M = emptyM ∧ b = false)) (h' : (iRead s = some M2 ∧ b2 = true) ∨ (iRead s = none ∧ M2 = emptyM ∧ b2 = false)) : M = M2 ∧ b = b2:=by
 rcases h with ⟨h1,h2⟩ | ⟨h1,h2,h3⟩<;>rcases h' with ⟨k1,k2⟩ | ⟨k1,k2,k3⟩
 ·rw [h1] at k1
  exact ⟨Option.some.inj k1,h2.trans k2.symm⟩
 ·rw [h1] at k1
  cases k1
 ·rw [h1] at k1
  cases k1
 ·exact ⟨h2.trans k2.symm,h3.trans k3.symm⟩
set_option maxHeartbeats 4000000 in
set_option maxRecDepth 100000 in
theorem law (s : ByteArray) (w : World) (hT : Tab w) : Calls Tryz.prog 3 #[.string s] w fun e w'=>e = .returned (.bool true) ∧ Below w.heap.size w w':=by
 have hu_:=Tryz.underlying26
 have HB:=Mk (Below.refl w.heap.size w)
 have HT0:=Mk hT
 clear hT
 by_cases hbig : s.size > 1048576
 ·have q0 : decide ((s.size : Int) > 1048576) = true:=decide_eq_true (by omega)
  go_enter Tryz.func3,Tryz.ntmps3
  go_wp2
  go_ret
  exact ⟨rfl,HB.out⟩
 ·have q0 : decide ((s.size : Int) > 1048576) = false:=decide_eq_false (by omega)
  have HSZ:=Mk (show s.size ≤ 1048576 by omega)
  clear hbig
  go_enter Tryz.func3,Tryz.ntmps3
  go_wp2_with fail
  refine (specRead_own s _ HSZ.out).mono ?_
  rintro e w3 ⟨rr,fr,vR,vF,vN,cl,M,b,rfl,hMd,hb,hres⟩
  rw [read_eq] at hres
  have HRES:=Mk hres
  have OKM:=Mk (ok_of hres)
  obtain ⟨D1,e1,D2,e2,D3,e3,eR,j1,C1,eF,j2,C2,eN,j3,C3⟩:=hMd.reads
  subst eR;subst eF;subst eN
  have HW:=Mk (show ModC w3 M D1 D2 D3 from ⟨C1,C2,C3⟩)
  have J:=Mk (And.intro j1 (And.intro j2 j3))
  replace HB:=Mk (below_step HB.out hb)
  clear hb hMd C1 C2 C3 j1 j2 j3 hres
  go_wp2_with fail
  obtain ⟨g8,hg8⟩ : ∃ g,g = w3.heap.size:=⟨_,rfl⟩
  obtain ⟨y3,hy3⟩ : ∃ W,W = w3.alloc (.cells #[.slice D1 M.r.length e1,.slice D2 M.f.length e2,.slice D3 M.n.length e3] 26):=⟨_,rfl⟩
  rw [← hy3]
  try rw [← hg8]
  have BK8:=Mk (show y3.heap[g8]? = some (.cells #[.slice D1 M.r.length e1,.slice D2 M.f.length e2,.slice D3 M.n.length e3] 26 (0,0)) by rw [hy3,hg8];exact heap_alloc_new w3 _)
  have hb3 : Below w3.heap.size w3 y3:=by rw [hy3];exact below_alloc (Below.refl _ _) _
  replace HW:=Mk (HW.out.below hb3)
  replace HB:=Mk (below_step HB.out hb3)
  have HBw:=Mk (Below.refl y3.heap.size y3)
  have HL3:=Mk (show w.heap.size ≤ y3.heap.size from HB.out.size)
  have GL8:=Mk (blk_lt BK8.out)
  clear hy3 hg8 hb3
  refine (implRead_own s _ (HT0.out.below HB.out) HSZ.out).mono ?_
  rintro e w5 ⟨B1,B2,B3,M2,b2,rfl,hs,hb,hres⟩
  obtain ⟨rfl,rfl⟩ : M = M2 ∧ b = b2:=same_of HRES.out hres
  clear hres
  replace HB:=Mk (below_step HB.out hb)
  replace HBw:=Mk (below_step HBw.out hb)
  have HG:=Mk hs
  clear hs hb
  obtain ⟨t1,t2,t3,r1,r2,r3,hin,hnd,hct⟩:=HG.out.slots
  have HR1:=Mk r1
  have HR2:=Mk r2
  have HR3:=Mk r3
  have HI5:=Mk (show ∀ q ∈ t1 ++ t2 ++ t3,y3.heap.size ≤ q.1 ∧ q.1 < w5.heap.size from fun q hq=>by
   refine ⟨hin q hq,?_⟩
   rcases List.mem_append.1 hq with hq | hq
   ·rcases List.mem_append.1 hq with hq | hq
    ·exact RowOf.mem r1 q hq
    ·exact RowOf.mem r2 q hq
   ·exact RowOf.mem r3 q hq)
  have HD5:=Mk (show ((t1 ++ t2 ++ t3).map key).Nodup from hnd)
  have HT5:=Mk (show 1 + (t1 ++ t2 ++ t3).length ≤ 9000000 by rw [hct];have:=mod_count (okMod_lens OKM.out);omega)
  have HTP:=Mk (TP.refl w5)
  clear r1 r2 r3 hin hnd hct
  replace BK8:=Mk ((HBw.out.block g8 GL8.out).trans BK8.out)
  have hx0:=U.c0 BK8
  have hx1:=U.c1 BK8
  have hx2:=U.c2 BK8
  have hlt8 : g8 < w5.heap.size:=blk_lt BK8.out
  go_wp2_with fail
  clear hx0 hx1 hx2 hlt8
  obtain ⟨g11,hg11⟩ : ∃ g,g = w5.heap.size:=⟨_,rfl⟩
  obtain ⟨y5,hy5⟩ : ∃ W,W = w5.alloc (.cells #[.slice B1 M.r.length M.r.length,.slice B2 M.f.length M.f.length,.slice B3 M.n.length M.n.length] 26):=⟨_,rfl⟩
  rw [← hy5]
  try rw [← hg11]
  have BK11:=Mk (show y5.heap[g11]? = some (.cells #[.slice B1 M.r.length M.r.length,.slice B2 M.f.length M.f.length,.slice B3 M.n.length M.n.length] 26 (0,0)) by rw [hy5,hg11];exact heap_alloc_new w5 _)
  have hb : Below w5.heap.size w5 y5:=by rw [hy5];exact below_alloc (Below.refl _ _) _
  have GE11:=Mk (show w5.heap.size ≤ g11 from Nat.le_of_eq hg11.symm)
  clear hg11 hy5
  replace HB:=Mk (below_step HB.out hb)
  replace HBw:=Mk (below_step HBw.out hb)
  replace BK8:=Mk (blk_below BK8.out hb)
  replace HTP:=Mk (HTP.out.trans (TP.of_below hb))
  replace HG:=Mk (HG.out.step (fun k _ hlt=>hb.block k hlt))
  clear hb
  refine (eqM_any OKM.out B1 B2 B3 D1 D2 D3 e1 e2 e3 _ HG.out.reads (HW.out.below HBw.out) J.out.1 J.out.2.1 J.out.2.2).mono ?_
  rintro e w6 ⟨rfl,hb⟩
  replace HB:=Mk (below_step HB.out hb)
  replace HBw:=Mk (below_step HBw.out hb)
  replace BK8:=Mk (blk_below BK8.out hb)
  replace HTP:=Mk (HTP.out.trans (TP.of_below hb))
  replace BK11:=Mk (blk_below BK11.out hb)
  clear hb HG
  have hy0:=U.c0 BK11
  have hy1:=U.c1 BK11
  have hy2:=U.c2 BK11
  go_wp2_with fail
  clear hy0 hy1 hy2
  refine (markModule_any _ t1 _ t2 _ t3 1 rfl _ (HR1.out.tp HTP.out) (HR2.out.tp HTP.out) (HR3.out.tp HTP.out) (Nat.le_refl _) HT5.out).mono ?_
  rintro e w11 ⟨rfl,hm⟩
  replace HB:=Mk (hm.below_of (fun p hp=>Nat.le_trans HL3.out (HI5.out p hp).1) HB.out HB.out.size)
  replace HBw:=Mk (hm.below_of (fun p hp=>(HI5.out p hp).1) HBw.out HBw.out.size)
  replace BK8:=Mk ((hm.far g8 (blk_lt BK8.out) (fun p hp he=>by have h1:=(HI5.out p hp).1;have h2:=GL8.out;omega)).trans BK8.out)
  replace BK11:=Mk ((hm.far g11 (blk_lt BK11.out) (fun p hp he=>by have h1:=(HI5.out p hp).2;have h2:=GE11.out;omega)).trans BK11.out)
  replace HTP:=Mk (HTP.out.trans hm.tp)
  have HH:=Mk (hm.held HD5.out)
  have HB5:=Mk (Below.refl w11.heap.size w11)
  obtain ⟨N5,hN5⟩ : ∃ N,N = 1 + (t1 ++ t2 ++ t3).length:=⟨_,rfl⟩
  have HN5:=Mk hN5
  rw [← hN5]
  clear hm hN5 HD5 HI5
  have hy0:=U.c0 BK11
  have hy1:=U.c1 BK11
  have hy2:=U.c2 BK11
  go_wp2_with fail
  clear hy0 hy1 hy2
  refine (heldModule_any _ t1 _ t2 _ t3 1 rfl _ (HR1.out.tp HTP.out) (HR2.out.tp HTP.out) (HR3.out.tp HTP.out) (Nat.le_refl _) HT5.out (HH.out.below HB5.out)).mono ?_
  rintro e w12 ⟨rfl,hb⟩
  rw [← HN5.out]
  replace HB:=Mk (below_step HB.out hb)
  replace HBw:=Mk (below_step HBw.out hb)
  replace BK8:=Mk (blk_below BK8.out hb)
  replace HTP:=Mk (HTP.out.trans (TP.of_below hb))
  replace HB5:=Mk (below_step HB5.out hb)
  replace BK11:=Mk (blk_below BK11.out hb)
  clear hb
  have hN5 : ¬ ((N5 : Int) < 0):=by omega
  go_wp2_with fail
  refine (implRead_own s _ (HT0.out.below HB.out) HSZ.out).mono ?_
  rintro e w14 ⟨G1,G2,G3,M3,b3,rfl,hs,hb,hres⟩
  obtain ⟨rfl,rfl⟩ : M = M3 ∧ b = b3:=same_of HRES.out hres
  have HG:=Mk hs
  replace HB:=Mk (below_step HB.out hb)
  replace HBw:=Mk (below_step HBw.out hb)
  replace BK8:=Mk (blk_below BK8.out hb)
  replace HTP:=Mk (HTP.out.trans (TP.of_below hb))
  replace HB5:=Mk (below_step HB5.out hb)
  replace BK11:=Mk (blk_below BK11.out hb)
  clear hs hb hres
  have hx0:=U.c0 BK8
  have hx1:=U.c1 BK8
  have hx2:=U.c2 BK8
  have hlt8 : g8 < w14.heap.size:=blk_lt BK8.out
  go_wp2_with fail
  clear hx0 hx1 hx2 hlt8
  obtain ⟨g16,hg16⟩ : ∃ g,g = w14.heap.size:=⟨_,rfl⟩
  obtain ⟨y14,hy14⟩ : ∃ W,W = w14.alloc (.cells #[.slice G1 M.r.length M.r.length,.slice G2 M.f.length M.f.length,.slice G3 M.n.length M.n.length] 26):=⟨_,rfl⟩
  rw [← hy14]
  try rw [← hg16]
  have hb : Below w14.heap.size w14 y14:=by rw [hy14];exact below_alloc (Below.refl _ _) _
  clear hg16 hy14
  replace HB:=Mk (below_step HB.out hb)
  replace HBw:=Mk (below_step HBw.out hb)
  replace BK8:=Mk (blk_below BK8.out hb)
  replace HTP:=Mk (HTP.out.trans (TP.of_below hb))
  replace HB5:=Mk (below_step HB5.out hb)
  replace BK11:=Mk (blk_below BK11.out hb)
  replace HG:=Mk (HG.out.step (fun k _ hlt=>hb.block k hlt))
  clear hb
  refine (eqM_any OKM.out G1 G2 G3 D1 D2 D3 e1 e2 e3 _ HG.out.reads (HW.out.below HBw.out) J.out.1 J.out.2.1 J.out.2.2).mono ?_
  rintro e w15 ⟨rfl,hb⟩
  replace HB:=Mk (below_step HB.out hb)
  replace HB5:=Mk (below_step HB5.out hb)
  replace BK11:=Mk (blk_below BK11.out hb)
  replace HTP:=Mk (HTP.out.trans (TP.of_below hb))
  clear hb HG HBw BK8
  have hy0:=U.c0 BK11
  have hy1:=U.c1 BK11
  have hy2:=U.c2 BK11
  go_wp2_with fail
  clear hy0 hy1 hy2
  refine (heldModule_any _ t1 _ t2 _ t3 1 rfl _ (HR1.out.tp HTP.out) (HR2.out.tp HTP.out) (HR3.out.tp HTP.out) (Nat.le_refl _) HT5.out (HH.out.below HB5.out)).mono ?_
  rintro e w16 ⟨rfl,hb⟩
  rw [← HN5.out]
  replace HB:=Mk (below_step HB.out hb)
  clear hb
  go_wp2
  go_ret
  exact ⟨rfl,HB.out⟩
theorem fin (s : ByteArray) (w : World) (hT : Tab w) (_ : gStr s) : Calls Tryz.prog 3 #[.string s] w fun e w'=>e = .returned (.bool true) ∧ Below w.heap.size w w':=law s w hT
end Go.Proofs.YtmclgkljmlpfbaaGreatDoor.Hand
