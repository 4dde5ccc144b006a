/- The law FnExactModuleRead answers true, for every text: its functions are walked, and what they write is told cell by cell. -/
-- squeezed
import Derived.Test.YtmclgkljmlpfbaaGreatDoorOFnExactModuleReadx0
import Derived.Test.YtmclgkljmlpfbaaGreatDoorOFnExactModuleReadx1
import Derived.Test.YtmclgkljmlpfbaaGreatDoorOFnExactModuleReadx2
import Derived.Test.YtmclgkljmlpfbaaGreatDoorOFnExactModuleReadx3
import Derived.Test.YtmclgkljmlpfbaaGreatDoorOFnExactModuleReadx4
import Derived.Test.YtmclgkljmlpfbaaGreatDoorPureFnExactModuleRead
namespace Go.Proofs.YtmclgkljmlpfbaaGreatDoor.Hand
open Go.RowKit Go.Proofs.YtmclgkljmlpfbaaGreatDoorW.PrintWords Go.Proofs.YtmclgkljmlpfbaaGreatDoorW.PrintLast Go.Proofs.YtmclgkljmlpfbaaGreatDoorW.PrintMore Go.Proofs.YtmclgkljmlpfbaaGreatDoor Go.Proofs.YtmclgkljmlpfbaaGreatDoor.Pure Go.Proofs.YtmclgkljmlpfbaaGreatDoor.Base
set_option linter.unusedVariables false
set_option linter.unusedSimpArgs false
open OFnExactModuleRead
attribute [local go_sem] max2_int min2_int max_two min_two max_three min_three max_four min_four
abbrev Fn:=S55
abbrev Rc:=S50
theorem ev_some {α : Type} {g : Nat → Option α} {r : α} (h : EvP g (· = r)) : ∃ k,g k = some r:=h.eq.rounds
def Fa {α β : Type} (R : α → β → Prop) (xs : List α) (rs : List β) : Prop:=rs.length = xs.length ∧ ∀ (j : Nat) (x : α) (r : β),xs[j]? = some x → rs[j]? = some r → R x r
theorem Fa.snoc {α β : Type} {R : α → β → Prop} {xs : List α} {rs : List β} {x : α} {r : β} (h : Fa R xs rs) (hx : R x r) : Fa R (xs ++ [x]) (rs ++ [r]):=by
 refine ⟨by simp [h.1],fun j y s hy hs=>?_⟩
 rcases Nat.lt_trichotomy j xs.length with hj | hj | hj
 ·rw [List.getElem?_append_left hj] at hy
  rw [List.getElem?_append_left (by rw [h.1];exact hj)] at hs
  exact h.2 j y s hy hs
 ·rw [hj,List.getElem?_concat_length] at hy
  rw [hj,← h.1,List.getElem?_concat_length] at hs
  injection hy with hy
  injection hs with hs
  rw [← hy,← hs]
  exact hx
 ·rw [List.getElem?_eq_none (by simp;omega)] at hy
  cases hy
theorem Fa.nil {α β : Type} {R : α → β → Prop} : Fa R ([] : List α) ([] : List β):=⟨rfl,fun j x r h=>by simp at h⟩
def FnRow (W : World) (f : Fn) (r : List Value) (hc : Value) : Prop:=∃ A1 c1 A2 c2 A3 c3 A4 c4,r = [.int .i64 f.f0,.slice A1 f.f1.length c1,.slice A2 f.f2.length c2,.slice A3 f.f3.length c3,.slice A4 f.f4.length c4,hc] ∧ (f.f1.length ≤ c1 ∧ Kd.string.C W A1 f.f1.length f.f1) ∧ (f.f2.length ≤ c2 ∧ Kd.string.C W A2 f.f2.length f.f2) ∧ (f.f3.length ≤ c3 ∧ Kd.string.C W A3 f.f3.length f.f3) ∧ (f.f4.length ≤ c4 ∧ (Kd.int .i64).C W A4 f.f4.length f.f4)
theorem FnRow.full {W : World} {f : Fn} {r : List Value} {A5 : Option Addr} {c5 : Nat} (h : FnRow W f r (.slice A5 f.f5.length c5)) (hl : f.f5.length ≤ c5) (hC : k59.C W A5 f.f5.length f.f5) : k55.K W f r:=by
 obtain ⟨A1,c1,A2,c2,A3,c3,A4,c4,rfl,h1,h2,h3,h4⟩:=h
 exact k55_mk W f h1.1 h1.2 h2.1 h2.2 h3.1 h3.2 h4.1 h4.2 hl hC
def FnRows (W : World) (cl : Value) (fs : List Fn) (fr : List (List Value)) : Prop:=(fs = [] ∧ fr = []) ∨ ∃ fs0 g fr0 r,fs = fs0 ++ [g] ∧ fr = fr0 ++ [r] ∧ Fa (k55.K W) fs0 fr0 ∧ FnRow W g r cl
def RO (W : World) (rr fr : List (List Value)) (vN cl : Value) (M : MO) : Prop :=
 Fa (k50.K W) M.r rr ∧ (∃ A c,vN = .slice A M.n.length c ∧ M.n.length ≤ c ∧ (Kd.int .i64).C W A M.n.length M.n) ∧ FnRows W cl M.f fr
def OK3 (X : Nat → Prop) (vR vF cl : Value) (k : Nat) : Prop:=X k ∧ some k ≠ vR.ownBlock ∧ some k ≠ vF.ownBlock ∧ some k ≠ cl.ownBlock
structure Md (w : World) (base : Nat) (X : Nat → Prop) (rr fr : List (List Value)) (vR vF vN cl : Value) (M : MO) : Prop where
 recs : (Kd.raw 2).R 50 w base (fun k=>some k = vR.ownBlock) vR rr
 funs : (Kd.raw 6).R 55 w base (fun k=>some k = vF.ownBlock) vF fr
 code : Kd.R k59 59 w base (fun k=>some k = cl.ownBlock) cl (lastF M).f5
 rest : Foot (fun W=>RO W rr fr vN cl M) w (OK3 X vR vF cl)
theorem own_ne {α β : Type} {d : Kd α} {d' : Kd β} {e e' : Nat} {w : World} {base base' : Nat} {ok ok' : Nat → Prop} {u v : Value} {xs : List α} {ys : List β} (h : d.R e w base ok u xs) (h' : d'.R e' w base' ok' v ys) (hne : e ≠ e') : ∀ k,some k = u.ownBlock → some k ≠ v.ownBlock:=by
 intro k h1 h2
 obtain ⟨c1,e1⟩:=Kd.R_typed h k h1.symm
 obtain ⟨c2,e2⟩:=Kd.R_typed h' k h2.symm
 rw [e1] at e2
 injection e2 with e2
 injection e2 with _ e2
 exact hne e2
theorem Md.below {w w1 : World} {base : Nat} {X : Nat → Prop} {rr fr : List (List Value)} {vR vF vN cl : Value} {M : MO} (h : Md w base X rr fr vR vF vN cl M) (hb : Below w.heap.size w w1) : Md w1 base X rr fr vR vF vN cl M :=
 ⟨Kd.R_below h.recs hb,Kd.R_below h.funs hb,Kd.R_below h.code hb,Foot.step h.rest (fun k _ hlt=>hb.block k hlt)⟩
theorem Md.mono {w : World} {base : Nat} {X X' : Nat → Prop} {rr fr : List (List Value)} {vR vF vN cl : Value} {M : MO} (h : Md w base X rr fr vR vF vN cl M) (hx : ∀ k,X k → X' k) : Md w base X' rr fr vR vF vN cl M :=
 ⟨h.recs,h.funs,h.code,Foot.mono h.rest (fun k hk=>⟨hx k hk.1,hk.2⟩)⟩
theorem Md.bound {w : World} {base : Nat} {X : Nat → Prop} {rr fr : List (List Value)} {vR vF vN cl : Value} {M : MO} (h : Md w base X rr fr vR vF vN cl M) : Md w base (fun k=>X k ∧ k < w.heap.size) rr fr vR vF vN cl M :=
 ⟨h.recs,h.funs,h.code,Foot.mono (Foot.bound h.rest) (fun k hk=>⟨⟨hk.1.1,hk.2⟩,hk.1.2⟩)⟩
theorem Md.far {w : World} {base : Nat} {X : Nat → Prop} {rr fr : List (List Value)} {vR vF vN cl : Value} {M : MO} (h : Md w base X rr fr vR vF vN cl M) {p : Addr} (hX : ∀ k,X k → k ≠ p.block) (h1 : some p.block ≠ vR.ownBlock) (h2 : some p.block ≠ vF.ownBlock) (h3 : some p.block ≠ cl.ownBlock) (u : Value) : Md (w.setCell p u) base X rr fr vR vF vN cl M :=
 ⟨Kd.R_far h.recs (fun k hk he=>h1 (by rw [← he];exact hk)) u,Kd.R_far h.funs (fun k hk he=>h2 (by rw [← he];exact hk)) u,Kd.R_far h.code (fun k hk he=>h3 (by rw [← he];exact hk)) u,Foot.step h.rest (fun k hk _=>Below.heap_setCell w p u k (hX k hk.1))⟩
theorem after_ne {v v1 : Value} {w : World} {k : Nat} (hat : v1.ownBlock = v.ownBlock ∨ ∃ b,v1.ownBlock = some b ∧ w.heap.size ≤ b) (hk : some k ≠ v.ownBlock) (hlt : k < w.heap.size) : some k ≠ v1.ownBlock:=by
 rcases hat with hat | ⟨b,hb,hle⟩
 ·rw [hat];exact hk
 ·rw [hb]
  intro he
  injection he with he
  omega
theorem Md.addRec {w w1 : World} {base : Nat} {X : Nat → Prop} {rr fr : List (List Value)} {vR vF vN cl v1 : Value} {M : MO} (h : Md w base X rr fr vR vF vN cl M) {x : Rc} {c : List Value} (hg : w.grownBy w1 vR.ownBlock) (hat : v1.ownBlock = vR.ownBlock ∨ ∃ b,v1.ownBlock = some b ∧ w.heap.size ≤ b)
  (hR : (Kd.raw 2).R 50 w1 base (fun k=>some k = v1.ownBlock) v1 (rr ++ [c])) (hc : Foot (fun W=>k50.K W x c) w (OK3 X vR vF cl)) : Md w1 base X (rr ++ [c]) fr v1 vF vN cl ⟨M.r ++ [x],M.f,M.n⟩:=by
 refine ⟨hR,Kd.R_grown h.funs hg (own_ne h.funs h.recs (by decide)),Kd.R_grown h.code hg (own_ne h.code h.recs (by decide)),?_⟩
 have h2 : Foot (fun W=>RO W (rr ++ [c]) fr vN cl ⟨M.r ++ [x],M.f,M.n⟩) w (OK3 X vR vF cl):=fun W hW=>by
  obtain ⟨a1,a2,a3⟩:=h.rest W hW
  exact ⟨a1.snoc (hc W hW),a2,a3⟩
 exact Foot.mono (Foot.step (Foot.bound h2) (fun k hk hlt=>hg.block k hlt hk.1.2.1)) (fun k hk=>⟨hk.1.1,after_ne hat hk.1.2.1 hk.2,hk.1.2.2⟩)
theorem Md.setFri {w : World} {base : Nat} {X : Nat → Prop} {rr fr : List (List Value)} {vR vF vN vN' cl : Value} {M : MO} {l : List Int} (h : Md w base X rr fr vR vF vN cl M) (hn : Foot (fun W=>∃ A c,vN' = .slice A l.length c ∧ l.length ≤ c ∧ (Kd.int .i64).C W A l.length l) w (OK3 X vR vF cl)) : Md w base X rr fr vR vF vN' cl ⟨M.r,M.f,l⟩ :=
 ⟨h.recs,h.funs,h.code,fun W hW=>⟨(h.rest W hW).1,hn W hW,(h.rest W hW).2.2⟩⟩
theorem FnRows.snoc {W : World} {cl : Value} {fs : List Fn} {fr : List (List Value)} {f : Fn} {r : List Value} {hc : Value} (h : FnRows W cl fs fr) (hcl : ∀ g,fs.getLast? = some g → ∃ A5 c5,cl = .slice A5 g.f5.length c5 ∧ g.f5.length ≤ c5 ∧ k59.C W A5 g.f5.length g.f5) (hr : FnRow W f r hc) : FnRows W hc (fs ++ [f]) (fr ++ [r]):=by
 refine .inr ⟨fs,f,fr,r,rfl,rfl,?_,hr⟩
 rcases h with ⟨rfl,rfl⟩ | ⟨fs0,g,fr0,s,rfl,rfl,h1,h2⟩
 ·exact Fa.nil
 ·obtain ⟨A5,c5,rfl,h3,h4⟩:=hcl g (by simp)
  exact h1.snoc (h2.full h3 h4)
theorem lastF_snoc (R : List Rc) (fs : List Fn) (g : Fn) (N : List Int) : lastF ⟨R,fs ++ [g],N⟩ = g:=by
 unfold lastF
 simp [List.getD_eq_getElem?_getD]
theorem lastF_get {M : MO} {g : Fn} (h : M.f.getLast? = some g) : lastF M = g:=by
 unfold lastF
 rw [List.getLast?_eq_getElem?] at h
 rw [List.getD_eq_getElem?_getD,h]
 rfl
theorem Md.addFun {w w1 : World} {base : Nat} {X : Nat → Prop} {rr fr : List (List Value)} {vR vF vN cl cl1 v1 : Value} {M : MO} (h : Md w base X rr fr vR vF vN cl M) {f : Fn} {r : List Value} (hg : w.grownBy w1 vF.ownBlock) (hat : v1.ownBlock = vF.ownBlock ∨ ∃ b,v1.ownBlock = some b ∧ w.heap.size ≤ b)
  (hF : (Kd.raw 6).R 55 w1 base (fun k=>some k = v1.ownBlock) v1 (fr ++ [r])) (hC : Kd.R k59 59 w base (fun k=>some k = cl1.ownBlock) cl1 f.f5) (hcX : ∀ k,some k = cl.ownBlock → X k) (hne : ∀ k,some k = cl.ownBlock → some k ≠ cl1.ownBlock)
  (hr : Foot (fun W=>FnRow W f r cl1) w (OK3 X vR vF cl1)) (hold : Foot (fun W=>RO W rr fr vN cl M) w (OK3 X vR vF cl1)) : Md w1 base X rr (fr ++ [r]) vR v1 vN cl1 ⟨M.r,M.f ++ [f],M.n⟩:=by
 refine ⟨Kd.R_grown h.recs hg (own_ne h.recs h.funs (by decide)),hF,by rw [lastF_snoc];exact Kd.R_grown hC hg (own_ne hC h.funs (by decide)),?_⟩
 have hcode : Foot (fun W=>∃ A5 c5,cl = .slice A5 (lastF M).f5.length c5 ∧ (lastF M).f5.length ≤ c5 ∧ k59.C W A5 (lastF M).f5.length (lastF M).f5) w (OK3 X vR vF cl1):=by
  obtain ⟨A5,c5,rfl⟩:=Kd.R_slice h.code
  have hF5:=Kd.R_F h.code
  refine Foot.imp (Foot.mono hF5 (fun k hk=>⟨hcX k hk,own_ne h.code h.recs (by decide) k hk,own_ne h.code h.funs (by decide) k hk,hne k hk⟩)) (fun W' hC=>⟨A5,c5,rfl,(Kd.R_reads' h.code).2.1,hC⟩)
 have h2 : Foot (fun W=>RO W rr (fr ++ [r]) vN cl1 ⟨M.r,M.f ++ [f],M.n⟩) w (OK3 X vR vF cl1):=fun W hW=>by
  obtain ⟨a1,a2,a3⟩:=hold W hW
  refine ⟨a1,a2,a3.snoc (fun g hgl=>?_) (hr W hW)⟩
  have:=hcode W hW
  rw [lastF_get hgl] at this
  exact this
 exact Foot.mono (Foot.step (Foot.bound h2) (fun k hk hlt=>hg.block k hlt hk.1.2.2.1)) (fun k hk=>⟨hk.1.1,hk.1.2.1,after_ne hat hk.1.2.2.1 hk.2,hk.1.2.2.2⟩)
theorem Md.reads {w : World} {base : Nat} {X : Nat → Prop} {rr fr : List (List Value)} {vR vF vN cl : Value} {M : MO} (h : Md w base X rr fr vR vF vN cl M) : ∃ AR cR AF cF AN cN,vR = .slice AR M.r.length cR ∧ M.r.length ≤ cR ∧ k50.C w AR M.r.length M.r ∧ vF = .slice AF M.f.length cF ∧ M.f.length ≤ cF ∧ k55.C w AF M.f.length M.f ∧ vN = .slice AN M.n.length cN ∧ M.n.length ≤ cN ∧ (Kd.int .i64).C w AN M.n.length M.n:=by
 obtain ⟨a1,⟨AN,cN,rfl,hN1,hN2⟩,a3⟩:=Foot.now h.rest
 obtain ⟨AR,cR,eR,hR1,hR2⟩:=Kd.R_reads h.recs
 obtain ⟨AF,cF,eF,hF1,hF2⟩:=Kd.R_reads h.funs
 have lR : rr.length = M.r.length:=a1.1
 have key : ∀ {α : Type} {d : Kd α} {A : Option Addr} {rows : List (List Value)} {xs : List α} {sz : Nat} (hsz : d.sz = sz),Fa (d.K w) xs rows → (Kd.raw sz).C w A rows.length rows → d.C w A xs.length xs:=by
  intro α d A rows xs sz hsz hfa hC
  refine ⟨rfl,by rw [← hfa.1];exact hC.2.1,fun hp=>?_⟩
  obtain ⟨ad,ha,hc⟩:=hC.2.2 (by rw [hfa.1];exact hp)
  refine ⟨ad,ha,fun j x hx=>?_⟩
  have hj : j < rows.length:=by rw [hfa.1];exact (List.getElem?_eq_some_iff.1 hx).1
  obtain ⟨c,h1,h2,h3⟩:=hc j _ (List.getElem?_eq_getElem hj)
  have h4 : c = rows[j]:=h2.1
  refine ⟨c,by rw [hsz];exact h1,?_,by rw [hsz];exact h3⟩
  rw [h4]
  exact hfa.2 j x _ hx (List.getElem?_eq_getElem hj)
 have lF : fr.length = M.f.length ∧ Fa (k55.K w) M.f fr:=by
  rcases a3 with ⟨e1,e2⟩ | ⟨fs0,g,fr0,s,e1,e2,h1,h2⟩
  ·rw [e1,e2]
   exact ⟨rfl,Fa.nil⟩
  ·have hl : lastF M = g:=lastF_get (by rw [e1];simp)
   have hc:=h.code
   rw [hl] at hc
   obtain ⟨A5,c5,e5,h5,h6⟩:=Kd.R_reads hc
   subst e5
   have:=h1.snoc (h2.full h5 h6)
   rw [e1,e2]
   exact ⟨this.1,this⟩
 refine ⟨AR,cR,AF,cF,AN,cN,by rw [eR,lR],by rw [← lR];exact hR1,key rfl a1 hR2,by rw [eF,lF.1],by rw [← lF.1];exact hF1,key rfl lF.2 hF2,rfl,hN1,hN2⟩
theorem Md.last {w : World} {base : Nat} {X : Nat → Prop} {rr fr : List (List Value)} {vR vF vN cl : Value} {M : MO} (h : Md w base X rr fr vR vF vN cl M) (hf : 0 < M.f.length) : ∃ gF cF,vF = .slice (some ⟨gF,0,none⟩) M.f.length cF ∧ fr.length = M.f.length ∧ w.cell? ⟨gF,(M.f.length - 1) * 6 + 5,none⟩ = some cl ∧ w.frozen? ⟨gF,(M.f.length - 1) * 6 + 5,none⟩ = false ∧ base ≤ gF ∧ gF < w.heap.size:=by
 obtain ⟨_,_,a3⟩:=Foot.now h.rest
 rcases a3 with ⟨e1,_⟩ | ⟨fs0,g,fr0,s,e1,e2,h1,h2⟩
 ·rw [e1] at hf
  exact absurd hf (Nat.lt_irrefl _)
 ·have hl : fr.length = M.f.length:=by rw [e1,e2];simp [h1.1]
  obtain ⟨gF,cF,e3,hb,hlt,_⟩:=Kd.R_form h.funs (by rw [hl];exact hf)
  subst e3
  obtain ⟨c,hcl,hM,hcc,hfr⟩:=Kd.R_elem h.funs [] (((M.f.length - 1 : Nat)) : Int) (by omega) (by rw [hl];omega)
  have h0 : fr.getD ((M.f.length - 1 : Nat) : Int).toNat [] = s:=by
   rw [Int.toNat_natCast,e1,e2,List.getD_eq_getElem?_getD]
   simp [h1.1]
  rw [h0] at hM
  have hcs : c = s:=hM.1
  obtain ⟨A1,c1,A2,c2,A3,c3,A4,c4,es,_⟩:=h2
  refine ⟨gF,cF,by rw [hl],hl,?_,?_,hb,hlt⟩
  ·have:=hcc 5 cl (by rw [hcs,es];rfl)
   rw [Int.toNat_natCast] at this
   exact this
  ·have:=hfr 5
   rw [Int.toNat_natCast] at this
   exact this
theorem set_last {α : Type} (xs : List α) (x y : α) : (xs ++ [x]).set ((xs ++ [x]).length - 1) y = xs ++ [y]:=by simp [List.set_append]
theorem Md.putCode {w w1 : World} {base : Nat} {X : Nat → Prop} {rr fr : List (List Value)} {vR vN cl v1 : Value} {M : MO} {gF cF : Nat} (h : Md w base X rr fr vR (.slice (some ⟨gF,0,none⟩) M.f.length cF) vN cl M) (hf : 0 < M.f.length) {i : S59} (hg : w.grownBy w1 cl.ownBlock) (hat : v1.ownBlock = cl.ownBlock ∨ ∃ b,v1.ownBlock = some b ∧ w.heap.size ≤ b)
  (hC : Kd.R k59 59 w1 base (fun k=>some k = v1.ownBlock) v1 ((lastF M).f5 ++ [i])) : ∃ fr',Md (w1.setCell ⟨gF,(M.f.length - 1) * 6 + 5,none⟩ v1) base X rr fr' vR (.slice (some ⟨gF,0,none⟩) M.f.length cF) vN v1 (addCode M i):=by
 obtain ⟨a1,a2,a3⟩:=Foot.now h.rest
 rcases a3 with ⟨e1,_⟩ | ⟨fs0,g,fr0,s,e1,e2,h1,h2⟩
 ·rw [e1] at hf
  exact absurd hf (Nat.lt_irrefl _)
 have hl : fr.length = M.f.length:=by rw [e1,e2];simp [h1.1]
 have hlast : lastF M = g:=lastF_get (by rw [e1];simp)
 have hF1:=Kd.R_grown h.funs hg (own_ne h.funs h.code (by decide))
 have hgF : some gF = (Value.slice (some ⟨gF,0,none⟩) M.f.length cF).ownBlock:=by simp [Value.ownBlock]
 obtain ⟨c,hcl,hM,hcc,hfr⟩:=Kd.R_elem hF1 [] (((M.f.length - 1 : Nat)) : Int) (by omega) (by omega)
 have h0 : fr.getD ((M.f.length - 1 : Nat) : Int).toNat [] = s:=by
  rw [Int.toNat_natCast,e1,e2,List.getD_eq_getElem?_getD]
  simp [h1.1]
 rw [h0] at hM
 have hcs : c = s:=hM.1
 subst hcs
 obtain ⟨A1,c1,A2,c2,A3,c3,A4,c4,es,q1,q2,q3,q4⟩:=h2
 subst es
 have hone : v1.oneCell' = true:=(Kd.R_val hC).2
 obtain ⟨hS,hSg⟩:=Kd.R_seg (d:=Kd.raw 6) hF1 (((M.f.length - 1 : Nat)) : Int) (by omega) (by omega) hcl hcc (seg:=[v1]) (j:=5) (x':=[.int .i64 g.f0,.slice A1 g.f1.length c1,.slice A2 g.f2.length c2,.slice A3 g.f3.length c3,.slice A4 g.f4.length c4,v1]) (okp:=fun _=>False) (Nat.le_refl _) ⟨rfl,rfl,by
  intro u hu
  change u ∈ [.int .i64 g.f0,.slice A1 g.f1.length c1,.slice A2 g.f2.length c2,.slice A3 g.f3.length c3,.slice A4 g.f4.length c4,v1] at hu
  simp only [List.mem_cons,List.not_mem_nil,or_false] at hu
  rcases hu with rfl | rfl | rfl | rfl | rfl | rfl
  ·rfl
  ·rfl
  ·rfl
  ·rfl
  ·rfl
  ·exact hone⟩ (fun _ hk=>hk.elim)
 rw [Int.toNat_natCast] at hS hSg
 have hset : w1.setCells gF ((M.f.length - 1) * 6 + 5) [v1] = w1.setCell ⟨gF,(M.f.length - 1) * 6 + 5,none⟩ v1:=rfl
 refine ⟨fr0 ++ [[.int .i64 g.f0,.slice A1 g.f1.length c1,.slice A2 g.f2.length c2,.slice A3 g.f3.length c3,.slice A4 g.f4.length c4,v1]],?_,?_,?_,?_⟩
 ·exact Kd.R_far (Kd.R_grown h.recs hg (own_ne h.recs h.code (by decide))) (p:=⟨gF,(M.f.length - 1) * 6 + 5,none⟩) (fun k hk he=>own_ne h.recs h.funs (by decide) k hk (by rw [← hgF];exact congrArg some he)) v1
 ·have e3 : fr.set (M.f.length - 1) [.int .i64 g.f0,.slice A1 g.f1.length c1,.slice A2 g.f2.length c2,.slice A3 g.f3.length c3,.slice A4 g.f4.length c4,v1] = fr0 ++ [[.int .i64 g.f0,.slice A1 g.f1.length c1,.slice A2 g.f2.length c2,.slice A3 g.f3.length c3,.slice A4 g.f4.length c4,v1]]:=by
   rw [← hl,e2]
   exact set_last _ _ _
  rw [← e3]
  exact hS
 ·have e4 : lastF (addCode M i) = ⟨g.f0,g.f1,g.f2,g.f3,g.f4,g.f5 ++ [i]⟩:=by
   unfold addCode
   rw [hlast]
   have : M.f.set (M.f.length - 1) (⟨g.f0,g.f1,g.f2,g.f3,g.f4,g.f5 ++ [i]⟩ : S55) = fs0 ++ [⟨g.f0,g.f1,g.f2,g.f3,g.f4,g.f5 ++ [i]⟩]:=by rw [e1];exact set_last _ _ _
   rw [this]
   exact lastF_snoc _ _ _ _
  rw [e4]
  rw [hlast] at hC
  refine Kd.R_far hC (p:=⟨gF,(M.f.length - 1) * 6 + 5,none⟩) (fun k hk he=>?_) v1
  obtain ⟨c8,e8⟩:=Kd.R_typed hC k hk.symm
  obtain ⟨c9,e9⟩:=Kd.R_typed hF1 gF hgF.symm
  have he : k = gF:=he
  rw [he,e9] at e8
  injection e8 with e8
  injection e8 with _ e8
  exact absurd e8 (by decide)
 ·have h2' : Foot (fun W=>RO W rr (fr0 ++ [[.int .i64 g.f0,.slice A1 g.f1.length c1,.slice A2 g.f2.length c2,.slice A3 g.f3.length c3,.slice A4 g.f4.length c4,v1]]) vN v1 (addCode M i)) w (OK3 X vR (.slice (some ⟨gF,0,none⟩) M.f.length cF) cl):=fun W hW=>by
   obtain ⟨b1,b2,b3⟩:=h.rest W hW
   refine ⟨b1,b2,?_⟩
   rcases b3 with ⟨e9,_⟩ | ⟨fs1,g1,fr1,s1,d1,d2,d3,d4⟩
   ·rw [e9] at hf
    exact absurd hf (Nat.lt_irrefl _)
   ·rw [e1] at d1
    rw [e2] at d2
    obtain ⟨rfl,hg1⟩:=List.append_inj' d1 rfl
    obtain ⟨rfl,hs1⟩:=List.append_inj' d2 rfl
    injection hg1 with hg1
    injection hs1 with hs1
    subst hg1
    subst hs1
    refine .inr ⟨fs0,⟨g.f0,g.f1,g.f2,g.f3,g.f4,g.f5 ++ [i]⟩,fr0,_,?_,rfl,d3,?_⟩
    ·unfold addCode
     rw [hlast]
     show M.f.set (M.f.length - 1) _ = _
     rw [e1]
     exact set_last _ _ _
    ·obtain ⟨B1,k1,B2,k2,B3,k3,B4,k4,es,q1,q2,q3,q4⟩:=d4
     injection es with _ es
     injection es with u1 es
     injection es with u2 es
     injection es with u3 es
     injection es with u4 es
     obtain ⟨x1,y1⟩ : A1 = B1 ∧ c1 = k1:=by injection u1 with x _ y;exact ⟨x,y⟩
     obtain ⟨x2,y2⟩ : A2 = B2 ∧ c2 = k2:=by injection u2 with x _ y;exact ⟨x,y⟩
     obtain ⟨x3,y3⟩ : A3 = B3 ∧ c3 = k3:=by injection u3 with x _ y;exact ⟨x,y⟩
     obtain ⟨x4,y4⟩ : A4 = B4 ∧ c4 = k4:=by injection u4 with x _ y;exact ⟨x,y⟩
     subst x1;subst y1;subst x2;subst y2;subst x3;subst y3;subst x4;subst y4
     exact ⟨A1,c1,A2,c2,A3,c3,A4,c4,rfl,q1,q2,q3,q4⟩
  have h3':=Foot.mono (Foot.step (Foot.bound h2') (W1:=w1) (fun k hk hlt=>hg.block k hlt hk.1.2.2.2)) (ok':=OK3 X vR (.slice (some ⟨gF,0,none⟩) M.f.length cF) v1) (fun k hk=>⟨hk.1.1,hk.1.2.1,hk.1.2.2.1,after_ne hat hk.1.2.2.2 hk.2⟩)
  exact Foot.step h3' (fun k hk _=>Below.heap_setCell w1 ⟨gF,(M.f.length - 1) * 6 + 5,none⟩ v1 k (fun he=>hk.2.2.1 (by rw [← hgF];exact congrArg some he)))
theorem Md.off {w w1 : World} {base : Nat} {X : Nat → Prop} {rr fr : List (List Value)} {vR vF vN cl : Value} {M : MO} (h : Md w base X rr fr vR vF vN cl M) {g : Nat} (hm : ∀ k,k ≠ g → w1.heap[k]? = w.heap[k]?) (hX : ∀ k,X k → k ≠ g) (h1 : some g ≠ vR.ownBlock) (h2 : some g ≠ vF.ownBlock) (h3 : some g ≠ cl.ownBlock) : Md w1 base X rr fr vR vF vN cl M :=
 ⟨Kd.R_move h.recs (fun k hk=>hm k (fun he=>h1 (by rw [← he];exact hk))),Kd.R_move h.funs (fun k hk=>hm k (fun he=>h2 (by rw [← he];exact hk))),Kd.R_move h.code (fun k hk=>hm k (fun he=>h3 (by rw [← he];exact hk))),Foot.step h.rest (fun k hk _=>hm k (hX k hk.1))⟩
set_option maxHeartbeats 4000000 in
set_option maxRecDepth 100000 in
theorem read_rec (base : Nat) (w0 w : World) (rr fr : List (List Value)) (vR vF vN cl : Value) (M : MO) (line : ByteArray) (ws : List ByteArray) (s : Int) (b : Bool) (hb0 : base = w0.heap.size) (hMd : Md w base (fun k=>base ≤ k) rr fr vR vF vN cl M) (hB0 : Below w0.heap.size w0 w) (hlen : M.r.length ≤ 1000)
  (h1 : ∃ k,spec_l3Words.f k line = some ws) (hw2 : ws.length ≤ 5000) (c1 : (wd ws 0).toList = ([114,101,99,111,114,100] : List UInt8)) (c2 : 1 < ws.length) (h2 : ∃ k,spec_l4Small.f k (wd ws 1) = some s) (h3 : ∃ k,spec_l4Fields.f k (ws.drop 2) = some b) :
  Calls Tryz.prog 10 #[.agg #[vR,vF,vN],.string line] w fun e w'=>∃ rr' vR',e = .returned (.tuple #[.agg #[vR',vF,vN],.bool (decide (0 ≤ s) && (b && decide (M.r.length ≤ 2)))]) ∧ Md w' base (fun k=>base ≤ k) rr' fr vR' vF vN cl ⟨M.r ++ [⟨s,ws.drop 2⟩],M.f,M.n⟩ ∧ Below w0.heap.size w0 w':=by
 have hu26:=Tryz.underlying26
 have hu55:=Tryz.underlying55
 have hu50:=Tryz.underlying50
 obtain ⟨AR,cR,AF,cF,AN,cN,eR,lR,CR,eF,lF,CF,eN,lN,CN⟩:=hMd.reads
 subst eR;subst eF;subst eN
 obtain ⟨k1,h1⟩:=h1;obtain ⟨k2,h2⟩:=h2;obtain ⟨k3,h3⟩:=h3
 have A1:=Mk h1;have A2:=Mk h2;have A3:=Mk h3
 have MD:=Mk (hMd.bound.mono (X':=fun k=>base ≤ k ∧ k < w.heap.size) (fun k hk=>hk))
 have OR:=Mk (Kd.R_lt hMd.recs)
 have OF:=Mk (Kd.R_lt hMd.funs)
 have OC:=Mk (Kd.R_lt hMd.code)
 have RL:=Mk (Foot.now hMd.rest).1.1
 have HB:=Mk hB0
 have HW:=Mk hB0.size
 have HB0:=Mk hb0
 clear hb0
 clear h1 h2 h3 hMd hB0 CR CF CN lR lF lN
 have c1b0 : ((wd ws 0).toList == ([114,101,99,111,114,100] : List UInt8)) = true:=beq_iff_eq.mpr c1
 have c2b0 : decide ((1 : Int) < (ws.length : Int)) = true:=decide_eq_true (by omega)
 have c2b1 : decide (1 < ws.length) = true:=decide_eq_true c2
 go_enter Tryz.func10,Tryz.ntmps10
 go_upto_if 28 with (first
  | ((with_reducible refine gate_dst (N:=2) rfl ?_);refine U.bx 2 26 #[.slice AR M.r.length cR,.slice AF M.f.length cF,.slice AN M.n.length cN] ?_;intro gm hg w1 hbox hb;have BM:=Mk hbox;have GM:=Mk (show w.heap.size ≤ gm by rw [hg];exact Nat.le_refl _);replace MD:=Mk (MD.out.below hb);replace HB:=Mk (below_step HB.out hb);have HN:=Mk hb.size;clear hg hbox hb)
  | ((with_reducible refine gate_dst (N:=4) rfl ?_);refine U.bx 4 26 #[.slice none 0 0,.slice none 0 0,.slice none 0 0] ?_;intro g2 hg w2 hbox hb;have B2:=Mk hbox;have G2:=Mk (show w.heap.size ≤ g2 by rw [hg];exact HN.out);have NM2:=Mk (show gm ≠ g2 by rw [hg];exact Nat.ne_of_lt (blk_lt BM.out));replace BM:=Mk (blk_below BM.out hb);replace MD:=Mk (MD.out.below hb);replace HB:=Mk (below_step HB.out hb);replace HN:=Mk (Nat.le_trans HN.out hb.size);clear hg hbox hb)
  | ((with_reducible refine gate_callee (f:=25) rfl ?_);refine U.gl (some 16) Tryz.func25 #[.string line] ?_;(with_reducible refine (spec_l3Words.calls k1 line ws _ A1.out).mono ?_);rintro e w3 ⟨vW,rfl,ho,hb⟩;refine ⟨_,rfl,?_⟩;have HWd:=Mk (Kd.R_mono (ok':=fun k=>w.heap.size ≤ k ∧ k ≠ gm ∧ k ≠ g2 ∧ base ≤ k) (Kd.R_bound ho) (fun k hk=>⟨Nat.le_trans HN.out hk.2.1,fun he=>by have:=blk_lt BM.out;have:=hk.2.1;omega,fun he=>by have:=blk_lt B2.out;have:=hk.2.1;omega,by rw [HB0.out];exact Nat.le_trans HW.out (Nat.le_trans HN.out hk.2.1)⟩));replace BM:=Mk (blk_below BM.out hb);replace B2:=Mk (blk_below B2.out hb);replace MD:=Mk ((MD.out.below hb).mono (X':=fun k=>k ≠ gm ∧ k ≠ g2 ∧ base ≤ k) (fun k hk=>⟨Nat.ne_of_lt (Nat.lt_of_lt_of_le hk.2 GM.out),Nat.ne_of_lt (Nat.lt_of_lt_of_le hk.2 G2.out),hk.1⟩));replace HB:=Mk (below_step HB.out hb);replace HN:=Mk (Nat.le_trans HN.out hb.size);clear ho hb;obtain ⟨gw,cW,eW,_,_,_⟩:=Kd.R_form HWd.out (by omega);subst eW;obtain ⟨ad,ea,hx0⟩:=Kd.at_string (Kd.R_reads' HWd.out).2.2 0 (by omega) (by omega);cases ea;obtain ⟨ad,ea,hx1⟩:=Kd.at_string (Kd.R_reads' HWd.out).2.2 1 (by omega) (by omega);cases ea;(change _ = some (Value.string (wd ws 0)) at hx0);(change _ = some (Value.string (wd ws 1)) at hx1);(change World.cell? _ ⟨gw,0,none⟩ = _ at hx0);(change World.cell? _ ⟨gw,1,none⟩ = _ at hx1);have p0 : (0 < ws.length) = True:=eq_true (by omega);have p1 : (1 < ws.length) = True:=eq_true (by omega);obtain ⟨hm0,hm1,hm2,hz0,hz1,hz2⟩:=U.d3 BM))
 have q2 : (2 : Int) ≤ (ws.length : Int):=by omega
 obtain ⟨i0,hi0,_,hsz0,_⟩:=info_parts info9
 have hroom : ws.length ≤ cW:=(Kd.R_reads' HWd.out).2.1
 have hcut:=cut_from (P:=Tryz.prog) 32 9 .i64 Tryz.underlying32 hi0 1 hsz0 (some ⟨gw,0,none⟩) ws.length cW 2 (by omega) q2
 obtain ⟨AX,hAX⟩ : ∃ A1,A1 = (if cW = (2 : Int).toNat then (some ⟨gw,0,none⟩) else (some ⟨gw,0,none⟩ : Option Addr).map (·.add ((2 : Int).toNat * 1))):=⟨_,rfl⟩
 obtain ⟨cX,hcX⟩ : ∃ c1,c1 = cW - (2 : Int).toNat:=⟨_,rfl⟩
 obtain ⟨lX,hlX⟩ : ∃ n1,n1 = ws.length - (2 : Int).toNat:=⟨_,rfl⟩
 rw [← hAX,← hcX,← hlX] at hcut
 have hlX2 : (ws.drop 2).length = lX:=by rw [hlX,List.length_drop];rfl
 have HFX:=Mk (Kd.F_cut (m:=2) (c:=cW) (Kd.R_F HWd.out) (by omega) hroom)
 have q2t : ((2 : Int) ≤ (ws.length : Int)) = True:=eq_true q2
 have KA:=Mk hAX
 have KC:=Mk hcX
 have KL:=Mk hlX
 have KL2:=Mk hlX2
 clear hAX hcX hlX hlX2
 go_upto_region 5 with (first
  | ((with_reducible refine gate_callee (f:=26) rfl ?_);refine U.gl (some 32) Tryz.func26 #[.string (wd ws 1)] ?_;(with_reducible refine (spec_l4Small.calls k2 (wd ws 1) s _ A2.out).mono ?_);rintro e w' ⟨rfl,⟨nd,rfl⟩⟩;refine ⟨_,rfl,?_⟩))
 have hb9 : Below w3.heap.size w3 (w3.drewN nd).drew:=below_drew (pw_below_drewN (Below.refl _ _) nd)
 replace BM:=Mk (blk_below BM.out hb9)
 replace B2:=Mk (blk_below B2.out hb9)
 replace MD:=Mk (MD.out.below hb9)
 replace HB:=Mk (below_step HB.out hb9)
 replace HWd:=Mk (Kd.R_below HWd.out hb9)
 replace HFX:=Mk (Kd.F_below HFX.out hb9)
 replace HN:=Mk (Nat.le_trans HN.out hb9.size)
 clear hx0 hx1 hm0 hm1 hm2 hz0 hz1 hz2
 refine start_ (n:=10) (S:=fun w'=>w'.cell? ⟨gm,0,none⟩ = some (.slice AR M.r.length cR)) (ds:=[9]) #[false,false,false,false,false,false,false,false,false,false] (by kernel_rfl) rfl rfl (U.c0 BM) (fun hHeld=>?_)
 (generalize (w3.drewN nd).drew = w18 at BM B2 MD HB HWd HFX HN hHeld ⊢)
 clear hb9
 refine U.pn 0 (some 33) ?_
 refine U.pn 2 (some 35) ?_
 refine U.pn 3 (some 36) ?_
 refine U.pn 4 (some 37) ?_
 refine U.pn 5 (some 38) ?_
 refine take_ (i:=1) (N:=some 34) (v:=.slice AR M.r.length cR) #[true,true,true,true,true,true,false,false,false,false] rfl rfl (by kernel_rfl) (fun _ _ _ h=>h) (Or.inl ⟨by rfl,?_⟩) hHeld (by simp only [Act.put,List.setIfInBounds_toArray,List.set_cons_zero,List.set_cons_succ];rfl) ?_
 ·rintro w' s0
  go_simp
 refine one_ (i:=6) (N:=some 39) #[true,true,true,true,true,true,true,false,false,false] rfl rfl (by kernel_rfl) (by decide) (fun K hK=>?_)
 refine R_litW_step (Kd.raw 2) w18.heap.size 50 ?hg (N:=39) ?hd (xs:=[[.int .i64 s,.slice AX lX cX]]) (inner:=[.int .i64 s,.slice AX lX cX]) (ok:=fun _=>True) (okp:=fun _=>True) ?hr ?hp (fun _ hk=>hk) trivial (Nat.le_refl _) (by simp) ?_
 (case hd=>rfl)
 (case hg=>rfl)
 (case hr=>first | (go_simp;done) | (go_simp;rfl))
 (case hp=>exact Reps.c2 (show (Kd.raw 2).M _ _ _ [.int .i64 s,.slice AX lX cX] [.int .i64 s,.slice AX lX cX] from ⟨rfl,rfl,by intro u hu;simp at hu;rcases hu with rfl | rfl<;>rfl⟩) (Reps.none _ _))
 intro v39 w19 ho39 hb hg_
 replace BM:=Mk (blk_below BM.out hb)
 replace B2:=Mk (blk_below B2.out hb)
 replace MD:=Mk (MD.out.below hb)
 replace HB:=Mk (below_step HB.out hb)
 replace HWd:=Mk (Kd.R_below HWd.out hb)
 replace HFX:=Mk (Kd.F_below HFX.out hb)
 replace HN:=Mk (Nat.le_trans HN.out hb.size)
 have HL:=Mk ho39
 clear hb hg_ ho39 hHeld
 obtain ⟨B3,b3,e3⟩:=Kd.R_slice HL.out;subst e3
 refine hK.out _ _ (U.c0 BM) (fun hHeld=>?_)
 clear hK K
 refine U.nm 39 ?_
 refine one_ (i:=7) (N:=some 40) #[true,true,true,true,true,true,true,true,false,false] rfl rfl (by kernel_rfl) (by decide) (fun K hK=>?_)
 have hbs : base ≤ w19.heap.size:=by rw [HB0.out];exact HB.out.size
 refine Kd.R_append_rows_step (Kd.raw 2) base (by rfl) (.tmp 34) (.tmp 39) 22 50 (.agg #[(.int .i64 0),(.slice none 0 0)]) 32 rfl Tryz.underlying22 info50 rfl (by decide) (by omega) (.slice AR M.r.length cR) rr [[.int .i64 s,.slice AX lX cX]] _ _ _ (fun _=>True) (fun k=>some k ≠ (Value.slice AR M.r.length cR).ownBlock) rfl rfl (Kd.raw_any MD.out.recs) (R_readsM HL.out) (fun _ _ h=>⟨h.1,h.2⟩) (fun k hk=>⟨trivial,hk⟩) (fun _ _=>trivial) (Below.refl _ _) hbs ?aL ?_
 (case aL=>have:=RL.out;simp only [List.length_cons,List.length_nil];omega)
 intro v40 w20 ho hb hg hat
 have ho:=Kd.raw_tight ho
 have hne : some gm ≠ (Value.slice AR M.r.length cR).ownBlock:=Kd.R_ne MD.out.recs BM.out (by decide)
 have hlX3 : (ws.drop 2).length ≤ cX:=by rw [KL2.out,KL.out,KC.out];exact Nat.sub_le_sub_right hroom _
 have MD2:=Mk (MD.out.addRec (x:=⟨s,ws.drop 2⟩) hg hat ho (by
  have hc:=k50_mkF w19 (fun k=>w.heap.size ≤ k ∧ k ≠ gm ∧ k ≠ g2 ∧ base ≤ k) (⟨s,ws.drop 2⟩ : S50) (A1:=AX) (c1:=cX) hlX3 (by
   have h9:=HFX.out
   rw [KA.out]
   exact h9)
  rw [show (⟨s,ws.drop 2⟩ : S50).f1.length = lX from KL2.out] at hc
  exact Foot.mono hc (fun k hk=>⟨hk.2,fun he=>by have:=OR.out k he.symm;have:=hk.1;omega,fun he=>by have:=OF.out k he.symm;have:=hk.1;omega,fun he=>by have:=OC.out k he.symm;have:=hk.1;omega⟩)))
 have ne2 : some g2 ≠ (Value.slice AR M.r.length cR).ownBlock:=Kd.R_ne MD.out.recs B2.out (by decide)
 replace BM:=Mk (blk_grown BM.out hg hne)
 replace B2:=Mk (blk_grown B2.out hg ne2)
 replace HB:=Mk (below_weaken HB.out (Nat.le_of_eq HB0.out.symm) hb)
 obtain ⟨A40,c40,e40⟩:=Kd.R_slice ho
 generalize hn40 : (rr ++ [[Value.int IntKind.i64 s,Value.slice AX lX cX]]).length = n40 at e40
 subst e40
 have hn41 : n40 = M.r.length + 1:=by rw [← hn40,List.length_append,RL.out];rfl
 have HN41:=Mk hn41
 clear hn41 hn40
 replace HFX:=Mk (Kd.F_grown (Kd.F_mono HFX.out (ok':=fun k=>w.heap.size ≤ k ∧ k ≠ gm ∧ k ≠ g2 ∧ base ≤ k) (fun _ h=>h)) hg (fun k hk he=>by have:=OR.out k he.symm;have:=hk.1;omega))
 clear MD HWd HL hat hg hb ho hHeld
 refine hK.out _ _ (U.c0 BM) (fun hHeld=>?_)
 clear hK K
 refine U.nm 40 ?_
 refine U.pn 8 (some 41) ?_
 refine last_ (i:=9) (N:=none) #[true,true,true,true,true,true,true,true,true,true] rfl rfl (by kernel_rfl) (by decide) (fun K hK=>?_)
 have hs0:=U.c0 BM
 have hf0:=blk_frozen BM.out 0
 refine skip_ (w1:=w20.setCell ⟨gm,0,none⟩ (.slice A40 n40 c40)) (by rfl) rfl ?_ ?_
 ·go_simp
 refine hK.out _ _ ?_
 refine done_ (by kernel_rfl) ?_
 clear hs0 hf0 hHeld hK K
 have MD3:=Mk (MD2.out.far (p:=⟨gm,0,none⟩) (fun k hk=>hk.1) (Kd.R_ne MD2.out.recs BM.out (by decide)) (Kd.R_ne MD2.out.funs BM.out (by decide)) (Kd.R_ne MD2.out.code BM.out (by decide)) (.slice A40 n40 c40))
 have BN:=Mk (blk_put (cs:=#[.slice AR M.r.length cR,.slice AF M.f.length cF,.slice AN M.n.length cN]) BM.out 0 (.slice A40 n40 c40) rfl)
 have C2:=Mk (show (w20.setCell ⟨gm,0,none⟩ (.slice A40 n40 c40)).heap[g2]? = _ from (Below.heap_setCell w20 ⟨gm,0,none⟩ _ g2 NM2.out.symm).trans B2.out)
 replace HFX:=Mk (Kd.F_far (p:=⟨gm,0,none⟩) HFX.out (fun k hk=>hk.2.1) (.slice A40 n40 c40))
 replace HB:=Mk (HB.out.setCell (p:=⟨gm,0,none⟩) (Nat.le_trans HW.out GM.out) (.slice A40 n40 c40))
 clear BM B2 MD2
 (generalize w20.setCell ⟨gm,0,none⟩ (.slice A40 n40 c40) = w22 at MD3 BN C2 HB HFX ⊢)
 go_upto_region 6 with fail
 replace MD3:=Mk (MD3.out.below (below_drew (Below.refl _ _)))
 replace BN:=Mk (blk_drew BN.out)
 replace HFX:=Mk (Kd.F_drew HFX.out)
 replace C2:=Mk (blk_drew C2.out)
 replace HB:=Mk (below_drew1 HB.out)
 refine start_ (n:=16) (S:=fun w'=>w'.cell? ⟨gm,0,none⟩ = some (.slice A40 n40 c40) ∧ w'.cell? ⟨gm,1,none⟩ = some (.slice AF M.f.length cF) ∧ w'.cell? ⟨gm,2,none⟩ = some (.slice AN M.n.length cN)) (ds:=[]) #[false,false,false,false,false,false,false,false,false,false,false,false,false,false,false,false] (by kernel_rfl) rfl rfl ⟨U.c0 BN,U.c1 BN,U.c2 BN⟩ (fun hHeld=>?_)
 (generalize w22.drew = w24 at MD3 BN C2 HB HFX hHeld ⊢)
 refine take_ (i:=0) (N:=some 42) (v:=.agg #[.slice A40 n40 c40,.slice AF M.f.length cF,.slice AN M.n.length cN]) #[true,false,false,false,false,false,false,false,false,false,false,false,false,false,false,false] rfl rfl (by kernel_rfl) (fun _ _ _ h=>h) (Or.inl ⟨by rfl,?_⟩) hHeld (by simp only [Act.put,List.setIfInBounds_toArray,List.set_cons_zero,List.set_cons_succ];rfl) ?_
 ·rintro w' ⟨s0,s1,s2⟩
  go_simp
 refine U.pn 1 (some 43) ?_
 by_cases hs : 0 ≤ s
 ·have hsb : decide (0 ≤ s) = true:=decide_eq_true hs
  refine U.pn 2 (some 44) (v:=.bool true) ?_ (hy:=by intro w';go_simp)
  refine U.pn 3 (some 45) ?_
  refine U.pn 4 (some 46) ?_
  refine U.pn 5 (some 47) ?_
  refine one_ (i:=6) (N:=some 48) #[true,true,true,true,true,true,true,false,false,false,false,false,false,false,false,false] rfl rfl (by kernel_rfl) (by decide) (fun K hK=>?_)
  refine U.go Tryz.func27 #[.slice AX lX cX] ?_
  have hC9 : Kd.string.C w24 AX (ws.drop 2).length (ws.drop 2):=by
   have:=Kd.F_now HFX.out
   rw [KA.out]
   exact this
  rw [← KL2.out]
  (with_reducible refine (spec_l4Fields.calls k3 AX cX (ws.drop 2) b _ hC9 hlX3 A3.out).mono ?_)
  rintro e w' ⟨rfl,⟨nd2,rfl⟩⟩
  refine ⟨_,rfl,?_⟩
  have hb9 : Below w24.heap.size w24 (w24.drewN nd2):=pw_below_drewN (Below.refl _ _) nd2
  replace BN:=Mk (blk_below BN.out hb9)
  replace C2:=Mk (blk_below C2.out hb9)
  replace MD3:=Mk (MD3.out.below hb9)
  replace HB:=Mk (below_step HB.out hb9)
  refine hK.out _ _ ⟨U.c0 BN,U.c1 BN,U.c2 BN⟩ (fun hHeld=>?_)
  clear hK K
  refine U.nm 48 ?_
  cases b with
  | false =>
   refine U.pn 7 (some 49) ?_
   refine U.pn 8 (some 50) ?_
   refine U.pz 9 (some 51) ⟨rfl⟩ ?_
   refine U.pz 10 (some 52) ⟨rfl⟩ ?_
   refine U.pz 11 (some 53) ⟨rfl⟩ ?_
   refine U.pz 12 (some 54) ⟨rfl⟩ ?_
   refine U.pn 13 (some 55) ?_
   refine one_ (i:=14) (N:=none) #[true,true,true,true,true,true,true,true,true,true,true,true,true,true,true,false] rfl rfl (by kernel_rfl) (by decide) (fun K hK=>?_)
   have hs0:=U.c0 C2
   have hf0:=blk_frozen C2.out 0
   have hs1:=U.c1 C2
   have hf1:=blk_frozen C2.out 1
   have hs2:=U.c2 C2
   have hf2:=blk_frozen C2.out 2
   refine skip_ (w1:=(((w24.drewN nd2).setCell ⟨g2,0,none⟩ (.slice A40 n40 c40)).setCell ⟨g2,1,none⟩ (.slice AF M.f.length cF)).setCell ⟨g2,2,none⟩ (.slice AN M.n.length cN)) (by rfl) rfl ?_ ?_
   ·go_simp
   have BN4:=Mk (show ((((w24.drewN nd2).setCell ⟨g2,0,none⟩ (.slice A40 n40 c40)).setCell ⟨g2,1,none⟩ (.slice AF M.f.length cF)).setCell ⟨g2,2,none⟩ (.slice AN M.n.length cN)).heap[gm]? = _ from (Below.heap_setCell _ ⟨g2,2,none⟩ _ gm NM2.out).trans ((Below.heap_setCell _ ⟨g2,1,none⟩ _ gm NM2.out).trans ((Below.heap_setCell _ ⟨g2,0,none⟩ _ gm NM2.out).trans BN.out)))
   refine hK.out _ _ ⟨U.c0 BN4,U.c1 BN4,U.c2 BN4⟩ (fun _=>?_)
   clear hs0 hf0 hs1 hf1 hs2 hf2
   refine U.pn 15 (some 5) ?_
   refine done_ (by kernel_rfl) ?_
   have C3:=Mk (blk_put (cs:=#[.slice A40 n40 c40,.slice AF M.f.length cF,.slice none 0 0]) (blk_put (cs:=#[.slice A40 n40 c40,.slice none 0 0,.slice none 0 0]) (blk_put (cs:=#[.slice none 0 0,.slice none 0 0,.slice none 0 0]) C2.out 0 (.slice A40 n40 c40) rfl) 1 (.slice AF M.f.length cF) rfl) 2 (.slice AN M.n.length cN) rfl)
   have MD4:=(((MD3.out.far (p:=⟨g2,0,none⟩) (fun k hk=>hk.2.1) (Kd.R_ne MD3.out.recs C2.out (by decide)) (Kd.R_ne MD3.out.funs C2.out (by decide)) (Kd.R_ne MD3.out.code C2.out (by decide)) (.slice A40 n40 c40)).far (p:=⟨g2,1,none⟩) (fun k hk=>hk.2.1) (Kd.R_ne MD3.out.recs C2.out (by decide)) (Kd.R_ne MD3.out.funs C2.out (by decide)) (Kd.R_ne MD3.out.code C2.out (by decide)) (.slice AF M.f.length cF)).far (p:=⟨g2,2,none⟩) (fun k hk=>hk.2.1) (Kd.R_ne MD3.out.recs C2.out (by decide)) (Kd.R_ne MD3.out.funs C2.out (by decide)) (Kd.R_ne MD3.out.code C2.out (by decide)) (.slice AN M.n.length cN)).mono (X':=fun k=>base ≤ k) (fun k hk=>hk.2.2)
   have hg2:=Nat.le_trans HW.out G2.out
   have HB4:=((HB.out.setCell (p:=⟨g2,0,none⟩) hg2 (.slice A40 n40 c40)).setCell (p:=⟨g2,1,none⟩) hg2 (.slice AF M.f.length cF)).setCell (p:=⟨g2,2,none⟩) hg2 (.slice AN M.n.length cN)
   go_wp2
   refine bodyPost_ret (results_ct rfl _ _ g2 26 #[.slice A40 n40 c40,.slice AF M.f.length cF,.slice AN M.n.length cN] (0,0) _ rfl C3.out Tryz.underlying26 rfl (by kernel_rfl)) rfl ?_
   exact ⟨_,.slice A40 n40 c40,by first | rfl | (simp only [hsb,Bool.true_and,Bool.false_and,Bool.and_false];rfl),MD4,HB4⟩
  | true =>
   refine U.pn 7 (some 49) ?_
   refine U.pn 8 (some 50) ?_
   refine U.pn 9 (some 51) ?_
   refine take_ (i:=10) (N:=some 52) (v:=.slice A40 n40 c40) #[true,true,true,true,true,true,true,true,true,true,true,false,false,false,false,false] rfl rfl (by kernel_rfl) (fun _ _ _ h=>h) (Or.inl ⟨by rfl,?_⟩) hHeld (by simp only [Act.put,List.setIfInBounds_toArray,List.set_cons_zero,List.set_cons_succ];rfl) ?_
   ·rintro w' ⟨s0,s1,s2⟩
    go_simp
   refine U.pn 11 (some 53) ?_
   have hn9 : decide ((n40 : Int) ≤ 3) = decide (M.r.length ≤ 2):=by rw [HN41.out];exact decide_eq_decide.2 (by omega)
   refine U.pn 12 (some 54) (v:=.bool (decide (M.r.length ≤ 2))) ?_ (hy:=by intro w';go_simp;first | done | exact hn9)
   refine U.pn 13 (some 55) ?_
   refine one_ (i:=14) (N:=none) #[true,true,true,true,true,true,true,true,true,true,true,true,true,true,true,false] rfl rfl (by kernel_rfl) (by decide) (fun K hK=>?_)
   have hs0:=U.c0 C2
   have hf0:=blk_frozen C2.out 0
   have hs1:=U.c1 C2
   have hf1:=blk_frozen C2.out 1
   have hs2:=U.c2 C2
   have hf2:=blk_frozen C2.out 2
   refine skip_ (w1:=(((w24.drewN nd2).setCell ⟨g2,0,none⟩ (.slice A40 n40 c40)).setCell ⟨g2,1,none⟩ (.slice AF M.f.length cF)).setCell ⟨g2,2,none⟩ (.slice AN M.n.length cN)) (by rfl) rfl ?_ ?_
   ·go_simp
   have BN4:=Mk (show ((((w24.drewN nd2).setCell ⟨g2,0,none⟩ (.slice A40 n40 c40)).setCell ⟨g2,1,none⟩ (.slice AF M.f.length cF)).setCell ⟨g2,2,none⟩ (.slice AN M.n.length cN)).heap[gm]? = _ from (Below.heap_setCell _ ⟨g2,2,none⟩ _ gm NM2.out).trans ((Below.heap_setCell _ ⟨g2,1,none⟩ _ gm NM2.out).trans ((Below.heap_setCell _ ⟨g2,0,none⟩ _ gm NM2.out).trans BN.out)))
   refine hK.out _ _ ⟨U.c0 BN4,U.c1 BN4,U.c2 BN4⟩ (fun _=>?_)
   clear hs0 hf0 hs1 hf1 hs2 hf2
   refine U.pn 15 (some 5) ?_
   refine done_ (by kernel_rfl) ?_
   have C3:=Mk (blk_put (cs:=#[.slice A40 n40 c40,.slice AF M.f.length cF,.slice none 0 0]) (blk_put (cs:=#[.slice A40 n40 c40,.slice none 0 0,.slice none 0 0]) (blk_put (cs:=#[.slice none 0 0,.slice none 0 0,.slice none 0 0]) C2.out 0 (.slice A40 n40 c40) rfl) 1 (.slice AF M.f.length cF) rfl) 2 (.slice AN M.n.length cN) rfl)
   have MD4:=(((MD3.out.far (p:=⟨g2,0,none⟩) (fun k hk=>hk.2.1) (Kd.R_ne MD3.out.recs C2.out (by decide)) (Kd.R_ne MD3.out.funs C2.out (by decide)) (Kd.R_ne MD3.out.code C2.out (by decide)) (.slice A40 n40 c40)).far (p:=⟨g2,1,none⟩) (fun k hk=>hk.2.1) (Kd.R_ne MD3.out.recs C2.out (by decide)) (Kd.R_ne MD3.out.funs C2.out (by decide)) (Kd.R_ne MD3.out.code C2.out (by decide)) (.slice AF M.f.length cF)).far (p:=⟨g2,2,none⟩) (fun k hk=>hk.2.1) (Kd.R_ne MD3.out.recs C2.out (by decide)) (Kd.R_ne MD3.out.funs C2.out (by decide)) (Kd.R_ne MD3.out.code C2.out (by decide)) (.slice AN M.n.length cN)).mono (X':=fun k=>base ≤ k) (fun k hk=>hk.2.2)
   have hg2:=Nat.le_trans HW.out G2.out
   have HB4:=((HB.out.setCell (p:=⟨g2,0,none⟩) hg2 (.slice A40 n40 c40)).setCell (p:=⟨g2,1,none⟩) hg2 (.slice AF M.f.length cF)).setCell (p:=⟨g2,2,none⟩) hg2 (.slice AN M.n.length cN)
   go_wp2
   refine bodyPost_ret (results_ct rfl _ _ g2 26 #[.slice A40 n40 c40,.slice AF M.f.length cF,.slice AN M.n.length cN] (0,0) _ rfl C3.out Tryz.underlying26 rfl (by kernel_rfl)) rfl ?_
   exact ⟨_,.slice A40 n40 c40,by first | rfl | (simp only [hsb,Bool.true_and,Bool.false_and,Bool.and_false];rfl),MD4,HB4⟩
 ·have hsb : decide (0 ≤ s) = false:=decide_eq_false hs
  refine U.pn 2 (some 44) (v:=.bool false) ?_ (hy:=by intro w';go_simp)
  refine U.pn 3 (some 45) ?_
  refine U.pz 4 (some 46) ⟨rfl⟩ ?_
  refine U.pz 5 (some 47) ⟨rfl⟩ ?_
  refine U.pz 6 (some 48) ⟨rfl⟩ ?_
  refine U.pn 7 (some 49) ?_
  refine U.pn 8 (some 50) ?_
  refine U.pz 9 (some 51) ⟨rfl⟩ ?_
  refine U.pz 10 (some 52) ⟨rfl⟩ ?_
  refine U.pz 11 (some 53) ⟨rfl⟩ ?_
  refine U.pz 12 (some 54) ⟨rfl⟩ ?_
  refine U.pn 13 (some 55) ?_
  refine one_ (i:=14) (N:=none) #[true,true,true,true,true,true,true,true,true,true,true,true,true,true,true,false] rfl rfl (by kernel_rfl) (by decide) (fun K hK=>?_)
  have hs0:=U.c0 C2
  have hf0:=blk_frozen C2.out 0
  have hs1:=U.c1 C2
  have hf1:=blk_frozen C2.out 1
  have hs2:=U.c2 C2
  have hf2:=blk_frozen C2.out 2
  refine skip_ (w1:=((w24.setCell ⟨g2,0,none⟩ (.slice A40 n40 c40)).setCell ⟨g2,1,none⟩ (.slice AF M.f.length cF)).setCell ⟨g2,2,none⟩ (.slice AN M.n.length cN)) (by rfl) rfl ?_ ?_
  ·go_simp
  have BN4:=Mk (show (((w24.setCell ⟨g2,0,none⟩ (.slice A40 n40 c40)).setCell ⟨g2,1,none⟩ (.slice AF M.f.length cF)).setCell ⟨g2,2,none⟩ (.slice AN M.n.length cN)).heap[gm]? = _ from (Below.heap_setCell _ ⟨g2,2,none⟩ _ gm NM2.out).trans ((Below.heap_setCell _ ⟨g2,1,none⟩ _ gm NM2.out).trans ((Below.heap_setCell _ ⟨g2,0,none⟩ _ gm NM2.out).trans BN.out)))
  refine hK.out _ _ ⟨U.c0 BN4,U.c1 BN4,U.c2 BN4⟩ (fun _=>?_)
  clear hs0 hf0 hs1 hf1 hs2 hf2
  refine U.pn 15 (some 5) ?_
  refine done_ (by kernel_rfl) ?_
  have C3:=Mk (blk_put (cs:=#[.slice A40 n40 c40,.slice AF M.f.length cF,.slice none 0 0]) (blk_put (cs:=#[.slice A40 n40 c40,.slice none 0 0,.slice none 0 0]) (blk_put (cs:=#[.slice none 0 0,.slice none 0 0,.slice none 0 0]) C2.out 0 (.slice A40 n40 c40) rfl) 1 (.slice AF M.f.length cF) rfl) 2 (.slice AN M.n.length cN) rfl)
  have MD4:=(((MD3.out.far (p:=⟨g2,0,none⟩) (fun k hk=>hk.2.1) (Kd.R_ne MD3.out.recs C2.out (by decide)) (Kd.R_ne MD3.out.funs C2.out (by decide)) (Kd.R_ne MD3.out.code C2.out (by decide)) (.slice A40 n40 c40)).far (p:=⟨g2,1,none⟩) (fun k hk=>hk.2.1) (Kd.R_ne MD3.out.recs C2.out (by decide)) (Kd.R_ne MD3.out.funs C2.out (by decide)) (Kd.R_ne MD3.out.code C2.out (by decide)) (.slice AF M.f.length cF)).far (p:=⟨g2,2,none⟩) (fun k hk=>hk.2.1) (Kd.R_ne MD3.out.recs C2.out (by decide)) (Kd.R_ne MD3.out.funs C2.out (by decide)) (Kd.R_ne MD3.out.code C2.out (by decide)) (.slice AN M.n.length cN)).mono (X':=fun k=>base ≤ k) (fun k hk=>hk.2.2)
  have hg2:=Nat.le_trans HW.out G2.out
  have HB4:=((HB.out.setCell (p:=⟨g2,0,none⟩) hg2 (.slice A40 n40 c40)).setCell (p:=⟨g2,1,none⟩) hg2 (.slice AF M.f.length cF)).setCell (p:=⟨g2,2,none⟩) hg2 (.slice AN M.n.length cN)
  go_wp2
  refine bodyPost_ret (results_ct rfl _ _ g2 26 #[.slice A40 n40 c40,.slice AF M.f.length cF,.slice AN M.n.length cN] (0,0) _ rfl C3.out Tryz.underlying26 rfl (by kernel_rfl)) rfl ?_
  exact ⟨_,.slice A40 n40 c40,by first | rfl | (simp only [hsb,Bool.true_and,Bool.false_and,Bool.and_false];rfl),MD4,HB4⟩
set_option maxHeartbeats 4000000 in
set_option maxRecDepth 100000 in
theorem read_fri (base : Nat) (w0 w : World) (rr fr : List (List Value)) (vR vF vN cl : Value) (M : MO) (line : ByteArray) (ws : List ByteArray) (r1 : List Int) (r2 : Bool) (hb0 : base = w0.heap.size) (hMd : Md w base (fun k=>base ≤ k) rr fr vR vF vN cl M) (hB0 : Below w0.heap.size w0 w)
  (h1 : ∃ k,spec_l3Words.f k line = some ws) (hw2 : ws.length ≤ 5000) (hw1 : 1 ≤ ws.length) (c1 : (wd ws 0).toList = ([102,114,105,101,110,100] : List UInt8)) (h2 : ∃ k,spec_l4ReadNumbers.f k (ws.drop 1) = some (r1,r2)) :
  Calls Tryz.prog 10 #[.agg #[vR,vF,vN],.string line] w fun e w'=>∃ vN',e = .returned (.tuple #[.agg #[vR,vF,vN'],.bool r2]) ∧ Md w' base (fun k=>base ≤ k) rr fr vR vF vN' cl ⟨M.r,M.f,r1⟩ ∧ Below w0.heap.size w0 w':=by
 have hu26:=Tryz.underlying26
 have hu55:=Tryz.underlying55
 have hu50:=Tryz.underlying50
 obtain ⟨AR,cR,AF,cF,AN,cN,eR,lR,CR,eF,lF,CF,eN,lN,CN⟩:=hMd.reads
 subst eR;subst eF;subst eN
 obtain ⟨k1,h1⟩:=h1;obtain ⟨k2,h2⟩:=h2
 have A1:=Mk h1;have A2:=Mk h2
 have MD:=Mk (hMd.bound.mono (X':=fun k=>base ≤ k ∧ k < w.heap.size) (fun k hk=>hk))
 have OR:=Mk (Kd.R_lt hMd.recs)
 have OF:=Mk (Kd.R_lt hMd.funs)
 have OC:=Mk (Kd.R_lt hMd.code)
 have HB:=Mk hB0
 have HW:=Mk hB0.size
 have HB0:=Mk hb0
 clear hb0
 clear h1 h2 hMd hB0 CR CF CN lR lF lN
 have c1b0 : ((wd ws 0).toList == ([114,101,99,111,114,100] : List UInt8)) = false:=by rw [c1];rfl
 have c2b0 : ((wd ws 0).toList == ([102,114,105,101,110,100] : List UInt8)) = true:=beq_iff_eq.mpr c1
 go_enter Tryz.func10,Tryz.ntmps10
 go_upto_if 59 with (first
  | ((with_reducible refine gate_dst (N:=2) rfl ?_);refine U.bx 2 26 #[.slice AR M.r.length cR,.slice AF M.f.length cF,.slice AN M.n.length cN] ?_;intro gm hg w1 hbox hb;have BM:=Mk hbox;have GM:=Mk (show w.heap.size ≤ gm by rw [hg];exact Nat.le_refl _);replace MD:=Mk (MD.out.below hb);replace HB:=Mk (below_step HB.out hb);have HN:=Mk hb.size;clear hg hbox hb)
  | ((with_reducible refine gate_dst (N:=4) rfl ?_);refine U.bx 4 26 #[.slice none 0 0,.slice none 0 0,.slice none 0 0] ?_;intro g2 hg w2 hbox hb;have B2:=Mk hbox;have G2:=Mk (show w.heap.size ≤ g2 by rw [hg];exact HN.out);have NM2:=Mk (show gm ≠ g2 by rw [hg];exact Nat.ne_of_lt (blk_lt BM.out));replace BM:=Mk (blk_below BM.out hb);replace MD:=Mk (MD.out.below hb);replace HB:=Mk (below_step HB.out hb);replace HN:=Mk (Nat.le_trans HN.out hb.size);clear hg hbox hb)
  | ((with_reducible refine gate_callee (f:=25) rfl ?_);refine U.gl (some 16) Tryz.func25 #[.string line] ?_;(with_reducible refine (spec_l3Words.calls k1 line ws _ A1.out).mono ?_);rintro e w3 ⟨vW,rfl,ho,hb⟩;refine ⟨_,rfl,?_⟩;have HWd:=Mk (Kd.R_mono (ok':=fun k=>w.heap.size ≤ k ∧ k ≠ gm ∧ k ≠ g2 ∧ base ≤ k) (Kd.R_bound ho) (fun k hk=>⟨Nat.le_trans HN.out hk.2.1,fun he=>by have:=blk_lt BM.out;have:=hk.2.1;omega,fun he=>by have:=blk_lt B2.out;have:=hk.2.1;omega,by rw [HB0.out];exact Nat.le_trans HW.out (Nat.le_trans HN.out hk.2.1)⟩));replace BM:=Mk (blk_below BM.out hb);replace B2:=Mk (blk_below B2.out hb);replace MD:=Mk ((MD.out.below hb).mono (X':=fun k=>k ≠ gm ∧ k ≠ g2 ∧ base ≤ k) (fun k hk=>⟨Nat.ne_of_lt (Nat.lt_of_lt_of_le hk.2 GM.out),Nat.ne_of_lt (Nat.lt_of_lt_of_le hk.2 G2.out),hk.1⟩));replace HB:=Mk (below_step HB.out hb);replace HN:=Mk (Nat.le_trans HN.out hb.size);clear ho hb;obtain ⟨gw,cW,eW,_,_,_⟩:=Kd.R_form HWd.out (by omega);subst eW;obtain ⟨ad,ea,hx0⟩:=Kd.at_string (Kd.R_reads' HWd.out).2.2 0 (by omega) (by omega);cases ea;(change _ = some (Value.string (wd ws 0)) at hx0);(change World.cell? _ ⟨gw,0,none⟩ = _ at hx0);have p0 : (0 < ws.length) = True:=eq_true (by omega);obtain ⟨hm0,hm1,hm2,hz0,hz1,hz2⟩:=U.d3 BM))
 have q2 : (1 : Int) ≤ (ws.length : Int):=by omega
 obtain ⟨i0,hi0,_,hsz0,_⟩:=info_parts info9
 have hroom : ws.length ≤ cW:=(Kd.R_reads' HWd.out).2.1
 have hcut:=cut_from (P:=Tryz.prog) 32 9 .i64 Tryz.underlying32 hi0 1 hsz0 (some ⟨gw,0,none⟩) ws.length cW 1 (by omega) q2
 obtain ⟨AX,hAX⟩ : ∃ A1,A1 = (if cW = (1 : Int).toNat then (some ⟨gw,0,none⟩) else (some ⟨gw,0,none⟩ : Option Addr).map (·.add ((1 : Int).toNat * 1))):=⟨_,rfl⟩
 obtain ⟨cX,hcX⟩ : ∃ c1,c1 = cW - (1 : Int).toNat:=⟨_,rfl⟩
 obtain ⟨lX,hlX⟩ : ∃ n1,n1 = ws.length - (1 : Int).toNat:=⟨_,rfl⟩
 rw [← hAX,← hcX,← hlX] at hcut
 have hlX2 : (ws.drop 1).length = lX:=by rw [hlX,List.length_drop];rfl
 have HFX:=Mk (Kd.F_cut (m:=1) (c:=cW) (Kd.R_F HWd.out) (by omega) hroom)
 have hlX3 : (ws.drop 1).length ≤ cX:=by rw [hlX2,hlX,hcX];exact Nat.sub_le_sub_right hroom _
 have q2t : ((1 : Int) ≤ (ws.length : Int)) = True:=eq_true q2
 have KA:=Mk hAX
 have KL2:=Mk hlX2
 clear hAX hcX hlX hlX2
 have hC9 : Kd.string.C w3 AX (ws.drop 1).length (ws.drop 1):=by
  have:=Kd.F_now HFX.out
  rw [KA.out]
  exact this
 rw [KL2.out] at hC9 hlX3
 have HC9:=Mk hC9
 clear hC9
 go_wp2_with (first
  | ((with_reducible refine gate_callee (f:=28) rfl ?_);refine U.gl (some 63) Tryz.func28 #[.slice AX lX cX] ?_;(rw [← KL2.out]);(with_reducible refine (spec_l4ReadNumbers.calls k2 AX cX (ws.drop 1) r1 r2 _ (by rw [KL2.out];exact HC9.out) (by rw [KL2.out];exact hlX3) A2.out).mono ?_);rintro e w5 ⟨v5,rfl,ho,hb⟩;refine ⟨_,rfl,?_⟩;have HR5:=Mk (Kd.R_mono (ok':=fun k=>w.heap.size ≤ k ∧ k ≠ gm ∧ k ≠ g2 ∧ base ≤ k) (Kd.R_bound ho) (fun k hk=>⟨Nat.le_trans HN.out hk.2.1,fun he=>by have:=blk_lt BM.out;have:=hk.2.1;omega,fun he=>by have:=blk_lt B2.out;have:=hk.2.1;omega,by rw [HB0.out];exact Nat.le_trans HW.out (Nat.le_trans HN.out hk.2.1)⟩));replace BM:=Mk (blk_below BM.out hb);replace B2:=Mk (blk_below B2.out hb);replace MD:=Mk (MD.out.below hb);replace HB:=Mk (below_step HB.out hb);clear ho hb hx0 hm0 hm1 hm2 hz0 hz1 hz2;obtain ⟨A5,c5,e5⟩:=Kd.R_slice HR5.out;subst e5;obtain ⟨hm0,hm1,hm2,hz0,hz1,hz2⟩:=U.d3 BM;obtain ⟨h20,h21,h22,f20,f21,f22⟩:=U.d3 B2;have nm2:=NM2.out;have nm3:=NM2.out.symm))
 have MD2:=MD.out.setFri (vN':=.slice A5 r1.length c5) (l:=r1) (Foot.imp (Foot.mono (Kd.R_F HR5.out) (ok':=OK3 (fun k=>k ≠ gm ∧ k ≠ g2 ∧ base ≤ k) (.slice AR M.r.length cR) (.slice AF M.f.length cF) cl) (fun k hk=>⟨hk.2,fun he=>by have:=OR.out k he.symm;have:=hk.1;omega,fun he=>by have:=OF.out k he.symm;have:=hk.1;omega,fun he=>by have:=OC.out k he.symm;have:=hk.1;omega⟩)) (fun W' hC=>⟨A5,c5,rfl,(Kd.R_reads' HR5.out).2.1,hC⟩))
 have n1:=Kd.R_ne MD2.recs BM.out (by decide)
 have n2:=Kd.R_ne MD2.funs BM.out (by decide)
 have n3:=Kd.R_ne MD2.code BM.out (by decide)
 have o1:=Kd.R_ne MD2.recs B2.out (by decide)
 have o2:=Kd.R_ne MD2.funs B2.out (by decide)
 have o3:=Kd.R_ne MD2.code B2.out (by decide)
 have MD4:=((((MD2.far (p:=⟨gm,2,none⟩) (fun k hk=>hk.1) n1 n2 n3 (.slice A5 r1.length c5)).far (p:=⟨g2,0,none⟩) (fun k hk=>hk.2.1) o1 o2 o3 (.slice AR M.r.length cR)).far (p:=⟨g2,1,none⟩) (fun k hk=>hk.2.1) o1 o2 o3 (.slice AF M.f.length cF)).far (p:=⟨g2,2,none⟩) (fun k hk=>hk.2.1) o1 o2 o3 (.slice A5 r1.length c5)).mono (X':=fun k=>base ≤ k) (fun k hk=>hk.2.2)
 have hgm:=Nat.le_trans HW.out GM.out
 have hg2:=Nat.le_trans HW.out G2.out
 have HB4:=(((HB.out.setCell (p:=⟨gm,2,none⟩) hgm (.slice A5 r1.length c5)).setCell (p:=⟨g2,0,none⟩) hg2 (.slice AR M.r.length cR)).setCell (p:=⟨g2,1,none⟩) hg2 (.slice AF M.f.length cF)).setCell (p:=⟨g2,2,none⟩) hg2 (.slice A5 r1.length c5)
 have C2 : (w5.setCell ⟨gm,2,none⟩ (.slice A5 r1.length c5)).heap[g2]? = some (.cells #[.slice none 0 0,.slice none 0 0,.slice none 0 0] 26 (0,0)):=(Below.heap_setCell w5 ⟨gm,2,none⟩ _ g2 NM2.out.symm).trans B2.out
 have C3:=blk_put (cs:=#[.slice AR M.r.length cR,.slice AF M.f.length cF,.slice none 0 0]) (blk_put (cs:=#[.slice AR M.r.length cR,.slice none 0 0,.slice none 0 0]) (blk_put (cs:=#[.slice none 0 0,.slice none 0 0,.slice none 0 0]) C2 0 (.slice AR M.r.length cR) rfl) 1 (.slice AF M.f.length cF) rfl) 2 (.slice A5 r1.length c5) rfl
 refine bodyPost_ret (results_ct rfl _ _ g2 26 #[.slice AR M.r.length cR,.slice AF M.f.length cF,.slice A5 r1.length c5] (0,0) _ rfl C3 Tryz.underlying26 rfl (by kernel_rfl)) rfl ?_
 exact ⟨.slice A5 r1.length c5,rfl,MD4,HB4⟩
set_option maxHeartbeats 4000000 in
set_option maxRecDepth 100000 in
theorem read_fun (base : Nat) (w0 w : World) (rr fr : List (List Value)) (vR vF vN cl : Value) (M : MO) (line : ByteArray) (ws : List ByteArray) (f : Fn) (ok : Bool) (hlen : M.f.length ≤ 1000) (hb0 : base = w0.heap.size) (hMd : Md w base (fun k=>base ≤ k) rr fr vR vF vN cl M) (hB0 : Below w0.heap.size w0 w)
  (h1 : ∃ k,spec_l3Words.f k line = some ws) (hw2 : ws.length ≤ 5000) (hw1 : 1 ≤ ws.length) (c1 : (wd ws 0).toList = ([102,117,110,99] : List UInt8)) (h2 : ∃ k,spec_l4ReadFunc.f k (ws.drop 1) = some (f.f0,f.f1,f.f2,f.f3,f.f4,f.f5,ok)) :
  Calls Tryz.prog 10 #[.agg #[vR,vF,vN],.string line] w fun e w'=>∃ fr' vF' cl',e = .returned (.tuple #[.agg #[vR,vF',vN],.bool (ok && decide (M.f.length < 4))]) ∧ Md w' base (fun k=>base ≤ k) rr fr' vR vF' vN cl' ⟨M.r,M.f ++ [f],M.n⟩ ∧ Below w0.heap.size w0 w':=by
 have hu26:=Tryz.underlying26
 have hu55:=Tryz.underlying55
 have hu50:=Tryz.underlying50
 obtain ⟨AR,cR,AF,cF,AN,cN,eR,lR,CR,eF,lF,CF,eN,lN,CN⟩:=hMd.reads
 subst eR;subst eF;subst eN
 obtain ⟨k1,h1⟩:=h1;obtain ⟨k2,h2⟩:=h2
 have A1:=Mk h1;have A2:=Mk h2
 have MD:=Mk (hMd.bound.mono (X':=fun k=>base ≤ k ∧ k < w.heap.size) (fun k hk=>hk))
 have OR:=Mk (Kd.R_lt hMd.recs)
 have OF:=Mk (Kd.R_lt hMd.funs)
 have OC:=Mk (Kd.R_lt hMd.code)
 have HB:=Mk hB0
 have HW:=Mk hB0.size
 have HB0:=Mk hb0
 clear hb0
 have c1b0 : ((wd ws 0).toList == ([114,101,99,111,114,100] : List UInt8)) = false:=by rw [c1];rfl
 have c2b0 : ((wd ws 0).toList == ([102,114,105,101,110,100] : List UInt8)) = false:=by rw [c1];rfl
 have c3b0 : ((wd ws 0).toList == ([102,117,110,99] : List UInt8)) = true:=beq_iff_eq.mpr c1
 have RL:=Mk (show fr.length = M.f.length from by
  obtain ⟨_,_,a3⟩:=Foot.now hMd.rest
  rcases a3 with ⟨e1,e2⟩ | ⟨fs0,g,fr0,s,e1,e2,h1,h2⟩
  ·rw [e1,e2];rfl
  ·rw [e1,e2];simp [h1.1])
 clear h1 h2 hMd hB0 CR CF CN lR lF lN
 go_enter Tryz.func10,Tryz.ntmps10
 go_upto_if 73 with (first
  | ((with_reducible refine gate_dst (N:=2) rfl ?_);refine U.bx 2 26 #[.slice AR M.r.length cR,.slice AF M.f.length cF,.slice AN M.n.length cN] ?_;intro gm hg w1 hbox hb;have BM:=Mk hbox;have GM:=Mk (show w.heap.size ≤ gm by rw [hg];exact Nat.le_refl _);replace MD:=Mk (MD.out.below hb);replace HB:=Mk (below_step HB.out hb);have HN:=Mk hb.size;clear hg hbox hb)
  | ((with_reducible refine gate_dst (N:=4) rfl ?_);refine U.bx 4 26 #[.slice none 0 0,.slice none 0 0,.slice none 0 0] ?_;intro g2 hg w2 hbox hb;have B2:=Mk hbox;have G2:=Mk (show w.heap.size ≤ g2 by rw [hg];exact HN.out);have NM2:=Mk (show gm ≠ g2 by rw [hg];exact Nat.ne_of_lt (blk_lt BM.out));replace BM:=Mk (blk_below BM.out hb);replace MD:=Mk (MD.out.below hb);replace HB:=Mk (below_step HB.out hb);replace HN:=Mk (Nat.le_trans HN.out hb.size);clear hg hbox hb)
  | ((with_reducible refine gate_callee (f:=25) rfl ?_);refine U.gl (some 16) Tryz.func25 #[.string line] ?_;(with_reducible refine (spec_l3Words.calls k1 line ws _ A1.out).mono ?_);rintro e w3 ⟨vW,rfl,ho,hb⟩;refine ⟨_,rfl,?_⟩;have HWd:=Mk (Kd.R_mono (ok':=fun k=>w.heap.size ≤ k ∧ k ≠ gm ∧ k ≠ g2 ∧ base ≤ k) (Kd.R_bound ho) (fun k hk=>⟨Nat.le_trans HN.out hk.2.1,fun he=>by have:=blk_lt BM.out;have:=hk.2.1;omega,fun he=>by have:=blk_lt B2.out;have:=hk.2.1;omega,by rw [HB0.out];exact Nat.le_trans HW.out (Nat.le_trans HN.out hk.2.1)⟩));replace BM:=Mk (blk_below BM.out hb);replace B2:=Mk (blk_below B2.out hb);replace MD:=Mk ((MD.out.below hb).mono (X':=fun k=>k ≠ gm ∧ k ≠ g2 ∧ base ≤ k) (fun k hk=>⟨Nat.ne_of_lt (Nat.lt_of_lt_of_le hk.2 GM.out),Nat.ne_of_lt (Nat.lt_of_lt_of_le hk.2 G2.out),hk.1⟩));replace HB:=Mk (below_step HB.out hb);replace HN:=Mk (Nat.le_trans HN.out hb.size);clear ho hb;obtain ⟨gw,cW,eW,_,_,_⟩:=Kd.R_form HWd.out (by omega);subst eW;obtain ⟨ad,ea,hx0⟩:=Kd.at_string (Kd.R_reads' HWd.out).2.2 0 (by omega) (by omega);cases ea;(change _ = some (Value.string (wd ws 0)) at hx0);(change World.cell? _ ⟨gw,0,none⟩ = _ at hx0);have p0 : (0 < ws.length) = True:=eq_true (by omega);obtain ⟨hm0,hm1,hm2,hz0,hz1,hz2⟩:=U.d3 BM))
 have q2 : (1 : Int) ≤ (ws.length : Int):=by omega
 obtain ⟨i0,hi0,_,hsz0,_⟩:=info_parts info9
 have hroom : ws.length ≤ cW:=(Kd.R_reads' HWd.out).2.1
 have hcut:=cut_from (P:=Tryz.prog) 32 9 .i64 Tryz.underlying32 hi0 1 hsz0 (some ⟨gw,0,none⟩) ws.length cW 1 (by omega) q2
 obtain ⟨AX,hAX⟩ : ∃ A1,A1 = (if cW = (1 : Int).toNat then (some ⟨gw,0,none⟩) else (some ⟨gw,0,none⟩ : Option Addr).map (·.add ((1 : Int).toNat * 1))):=⟨_,rfl⟩
 obtain ⟨cX,hcX⟩ : ∃ c1,c1 = cW - (1 : Int).toNat:=⟨_,rfl⟩
 obtain ⟨lX,hlX⟩ : ∃ n1,n1 = ws.length - (1 : Int).toNat:=⟨_,rfl⟩
 rw [← hAX,← hcX,← hlX] at hcut
 have hlX2 : (ws.drop 1).length = lX:=by rw [hlX,List.length_drop];rfl
 have HFX:=Mk (Kd.F_cut (m:=1) (c:=cW) (Kd.R_F HWd.out) (by omega) hroom)
 have hlX3 : (ws.drop 1).length ≤ cX:=by rw [hlX2,hlX,hcX];exact Nat.sub_le_sub_right hroom _
 have q2t : ((1 : Int) ≤ (ws.length : Int)) = True:=eq_true q2
 have KA:=Mk hAX
 have KL2:=Mk hlX2
 clear hAX hcX hlX hlX2
 have hC9 : Kd.string.C w3 AX (ws.drop 1).length (ws.drop 1):=by
  have:=Kd.F_now HFX.out
  rw [KA.out]
  exact this
 rw [KL2.out] at hC9 hlX3
 have HC9:=Mk hC9
 clear hC9
 go_upto_region 13 with (first
  | ((with_reducible refine gate_callee (f:=29) rfl ?_);refine U.gl (some 77) Tryz.func29 #[.slice AX lX cX] ?_;(rw [← KL2.out]);(with_reducible refine (spec_l4ReadFunc.calls k2 AX cX (ws.drop 1) f.f0 f.f1 f.f2 f.f3 f.f4 f.f5 ok _ (by rw [KL2.out];exact HC9.out) (by rw [KL2.out];exact hlX3) A2.out).mono ?_);rintro e w5 ⟨v1,v2,v3,v4,v5,rfl,q1,q2,q3,q4,q5,hb⟩;refine ⟨_,rfl,?_⟩
     obtain ⟨B1,b1,e1⟩:=Kd.V_slice q1;subst e1;obtain ⟨B2',b2,e2⟩:=Kd.V_slice q2;subst e2;obtain ⟨B3,b3,e3⟩:=Kd.V_slice q3;subst e3;obtain ⟨B4,b4,e4⟩:=Kd.R_slice q4;subst e4;obtain ⟨B5,b5,e5⟩:=Kd.R_slice q5;subst e5
     have ltm:=blk_lt BM.out;have lt2:=blk_lt B2.out
     have HC5:=Mk (Kd.R_lower (Kd.R_tight rfl q5) (show base ≤ w3.heap.size by rw [HB0.out];exact HB.out.size))
     have bs5:=Kd.R_base q5
     have nw : ∀ k,w3.heap.size ≤ k → (k ≠ gm ∧ k ≠ g2 ∧ base ≤ k) ∧ some k ≠ (Value.slice AR M.r.length cR).ownBlock ∧ some k ≠ (Value.slice AF M.f.length cF).ownBlock:=fun k hk=>⟨⟨fun he=>by omega,fun he=>by omega,by rw [HB0.out];exact Nat.le_trans HB.out.size hk⟩,fun he=>by have:=OR.out k he.symm;have:=HN.out;omega,fun he=>by have:=OF.out k he.symm;have:=HN.out;omega⟩
     have HFR:=Mk (show Foot (fun W=>FnRow W f [.int .i64 f.f0,.slice B1 f.f1.length b1,.slice B2' f.f2.length b2,.slice B3 f.f3.length b3,.slice B4 f.f4.length b4,.slice B5 f.f5.length b5] (.slice B5 f.f5.length b5)) w5 (OK3 (fun k=>k ≠ gm ∧ k ≠ g2 ∧ base ≤ k) (.slice AR M.r.length cR) (.slice AF M.f.length cF) (.slice B5 f.f5.length b5)) from fun W hW=>by
       have g : ∀ k,w3.heap.size ≤ k ∧ some k ≠ (Value.slice B4 f.f4.length b4).ownBlock ∧ some k ≠ (Value.slice B5 f.f5.length b5).ownBlock → OK3 (fun k=>k ≠ gm ∧ k ≠ g2 ∧ base ≤ k) (.slice AR M.r.length cR) (.slice AF M.f.length cF) (.slice B5 f.f5.length b5) k:=fun k hk=>⟨(nw k hk.1).1,(nw k hk.1).2.1,(nw k hk.1).2.2,hk.2.2⟩
       exact ⟨B1,b1,B2',b2,B3,b3,B4,b4,rfl,⟨(Kd.V_reads' q1).2.1,Foot.mono (Kd.V_F q1) g W hW⟩,⟨(Kd.V_reads' q2).2.1,Foot.mono (Kd.V_F q2) g W hW⟩,⟨(Kd.V_reads' q3).2.1,Foot.mono (Kd.V_F q3) g W hW⟩,⟨(Kd.R_reads' q4).2.1,Foot.mono (Kd.R_F (Kd.R_tight rfl q4)) (fun k hk=>⟨(nw k (Kd.R_base q4 k hk.symm)).1,(nw k (Kd.R_base q4 k hk.symm)).2.1,(nw k (Kd.R_base q4 k hk.symm)).2.2,own_ne q4 q5 (by decide) k hk⟩) W hW⟩⟩)
     replace MD:=Mk ((MD.out.bound.mono (X':=fun k=>(k ≠ gm ∧ k ≠ g2 ∧ base ≤ k) ∧ some k ≠ (Value.slice B5 f.f5.length b5).ownBlock) (fun k hk=>⟨hk.1,fun he=>by have:=bs5 k he.symm;have:=hk.2;omega⟩)).below hb)
     have NC:=Mk (show ∀ k,some k = cl.ownBlock → some k ≠ (Value.slice B5 f.f5.length b5).ownBlock from fun k hk he=>by have:=OC.out k hk.symm;have:=bs5 k he.symm;have:=HN.out;omega)
     replace BM:=Mk (blk_below BM.out hb);replace B2:=Mk (blk_below B2.out hb);replace HB:=Mk (below_step HB.out hb);replace HN:=Mk (Nat.le_trans HN.out hb.size);clear hb hx0 hm0 hm1 hm2 hz0 hz1 hz2 q1 q2 q3 q4 q5 nw bs5 ltm lt2;obtain ⟨hm0,hm1,hm2,hz0,hz1,hz2⟩:=U.d3 BM)
  | ((with_reducible refine gate_dst (N:=11) rfl ?_);refine U.bx 11 55 #[.int .i64 0,.slice none 0 0,.slice none 0 0,.slice none 0 0,.slice none 0 0,.slice none 0 0] ?_;intro gx hg w6 hbox hb;have BX:=Mk hbox
     replace MD:=Mk ((MD.out.bound.mono (X':=fun k=>((k ≠ gm ∧ k ≠ g2 ∧ base ≤ k) ∧ some k ≠ (Value.slice B5 f.f5.length b5).ownBlock) ∧ k ≠ gx) (fun k hk=>⟨hk.1,by rw [hg];exact Nat.ne_of_lt hk.2⟩)).below hb)
     replace HFR:=Mk (Foot.step (Foot.mono (Foot.bound HFR.out) (ok':=OK3 (fun k=>(k ≠ gm ∧ k ≠ g2 ∧ base ≤ k) ∧ k ≠ gx) (.slice AR M.r.length cR) (.slice AF M.f.length cF) (.slice B5 f.f5.length b5)) (fun k hk=>⟨⟨hk.1.1,by rw [hg];exact Nat.ne_of_lt hk.2⟩,hk.1.2⟩)) (fun k _ hlt=>hb.block k hlt))
     have NX1:=Mk (show gm ≠ gx by rw [hg];exact Nat.ne_of_lt (blk_lt BM.out));have NX2:=Mk (show g2 ≠ gx by rw [hg];exact Nat.ne_of_lt (blk_lt B2.out));have GX:=Mk (show w.heap.size ≤ gx by rw [hg];exact HN.out)
     replace HC5:=Mk (Kd.R_below HC5.out hb);replace BM:=Mk (blk_below BM.out hb);replace B2:=Mk (blk_below B2.out hb);replace HB:=Mk (below_step HB.out hb);replace HN:=Mk (Nat.le_trans HN.out hb.size);clear hg hbox hb hm0 hm1 hm2 hz0 hz1 hz2;obtain ⟨hm0,hm1,hm2,hz0,hz1,hz2⟩:=U.d3 BM;have x0:=U.c0 BX;have y0:=blk_frozen BX.out 0;have x1:=U.c1 BX;have y1:=blk_frozen BX.out 1;have x2:=U.c2 BX;have y2:=blk_frozen BX.out 2;have x3:=U.c3 BX;have y3:=blk_frozen BX.out 3;have x4:=U.c4 BX;have y4:=blk_frozen BX.out 4;have x5:=U.c5 BX;have y5:=blk_frozen BX.out 5;have nx1:=NX1.out;have nx2:=NX1.out.symm))
 have hfar : ∀ k,k ≠ gx → ((((((w6.setCell ⟨gx,0,none⟩ (.int .i64 f.f0)).setCell ⟨gx,1,none⟩ (.slice B1 f.f1.length b1)).setCell ⟨gx,2,none⟩ (.slice B2' f.f2.length b2)).setCell ⟨gx,3,none⟩ (.slice B3 f.f3.length b3)).setCell ⟨gx,4,none⟩ (.slice B4 f.f4.length b4)).setCell ⟨gx,5,none⟩ (.slice B5 f.f5.length b5)).heap[k]? = w6.heap[k]?:=fun k h=>by rw [Below.heap_setCell _ _ _ k h,Below.heap_setCell _ _ _ k h,Below.heap_setCell _ _ _ k h,Below.heap_setCell _ _ _ k h,Below.heap_setCell _ _ _ k h,Below.heap_setCell _ _ _ k h]
 have hgx:=Nat.le_trans HW.out GX.out
 have HB7:=(((((HB.out.setCell (p:=⟨gx,0,none⟩) hgx (.int .i64 f.f0)).setCell (p:=⟨gx,1,none⟩) hgx (.slice B1 f.f1.length b1)).setCell (p:=⟨gx,2,none⟩) hgx (.slice B2' f.f2.length b2)).setCell (p:=⟨gx,3,none⟩) hgx (.slice B3 f.f3.length b3)).setCell (p:=⟨gx,4,none⟩) hgx (.slice B4 f.f4.length b4)).setCell (p:=⟨gx,5,none⟩) hgx (.slice B5 f.f5.length b5)
 have BX7:=blk_put (cs:=#[.int .i64 f.f0,.slice B1 f.f1.length b1,.slice B2' f.f2.length b2,.slice B3 f.f3.length b3,.slice B4 f.f4.length b4,.slice none 0 0]) (blk_put (cs:=#[.int .i64 f.f0,.slice B1 f.f1.length b1,.slice B2' f.f2.length b2,.slice B3 f.f3.length b3,.slice none 0 0,.slice none 0 0]) (blk_put (cs:=#[.int .i64 f.f0,.slice B1 f.f1.length b1,.slice B2' f.f2.length b2,.slice none 0 0,.slice none 0 0,.slice none 0 0]) (blk_put (cs:=#[.int .i64 f.f0,.slice B1 f.f1.length b1,.slice none 0 0,.slice none 0 0,.slice none 0 0,.slice none 0 0]) (blk_put (cs:=#[.int .i64 f.f0,.slice none 0 0,.slice none 0 0,.slice none 0 0,.slice none 0 0,.slice none 0 0]) (blk_put (cs:=#[.int .i64 0,.slice none 0 0,.slice none 0 0,.slice none 0 0,.slice none 0 0,.slice none 0 0]) BX.out 0 (.int .i64 f.f0) rfl) 1 (.slice B1 f.f1.length b1) rfl) 2 (.slice B2' f.f2.length b2) rfl) 3 (.slice B3 f.f3.length b3) rfl) 4 (.slice B4 f.f4.length b4) rfl) 5 (.slice B5 f.f5.length b5) rfl
 have nb5:=Kd.R_ne HC5.out BX.out (by decide)
 replace BX:=Mk BX7
 replace HB:=Mk HB7
 replace MD:=Mk (MD.out.off hfar (fun k hk=>hk.2) (by
  intro he
  have:=OR.out gx he.symm
  have:=GX.out
  omega) (by
  intro he
  have:=OF.out gx he.symm
  have:=GX.out
  omega) (by
  intro he
  have:=OC.out gx he.symm
  have:=GX.out
  omega))
 replace HFR:=Mk (Foot.step HFR.out (fun k hk _=>hfar k hk.1.2))
 replace BM:=Mk ((hfar gm NX1.out).trans BM.out)
 replace B2:=Mk ((hfar g2 NX2.out).trans B2.out)
 have HC6:=Mk (Kd.R_move HC5.out (w1:=((((((w6.setCell ⟨gx,0,none⟩ (.int .i64 f.f0)).setCell ⟨gx,1,none⟩ (.slice B1 f.f1.length b1)).setCell ⟨gx,2,none⟩ (.slice B2' f.f2.length b2)).setCell ⟨gx,3,none⟩ (.slice B3 f.f3.length b3)).setCell ⟨gx,4,none⟩ (.slice B4 f.f4.length b4)).setCell ⟨gx,5,none⟩ (.slice B5 f.f5.length b5))) (fun k hk=>hfar k (fun he=>nb5 (by rw [← he];exact hk))))
 clear hfar HB7 BX7 HC5 x0 x1 x2 x3 x4 x5 y0 y1 y2 y3 y4 y5 hm0 hm1 hm2 hz0 hz1 hz2
 (generalize ((((((w6.setCell ⟨gx,0,none⟩ (.int .i64 f.f0)).setCell ⟨gx,1,none⟩ (.slice B1 f.f1.length b1)).setCell ⟨gx,2,none⟩ (.slice B2' f.f2.length b2)).setCell ⟨gx,3,none⟩ (.slice B3 f.f3.length b3)).setCell ⟨gx,4,none⟩ (.slice B4 f.f4.length b4)).setCell ⟨gx,5,none⟩ (.slice B5 f.f5.length b5)) = w7 at MD HFR BM B2 BX HB HC6 ⊢)
 obtain ⟨hm0,hm1,hm2,hz0,hz1,hz2⟩:=U.d3 BM
 have x0:=U.c0 BX;have x1:=U.c1 BX;have x2:=U.c2 BX;have x3:=U.c3 BX;have x4:=U.c4 BX;have x5:=U.c5 BX
 clear nb5
 go_upto_region 14 with (first
  | ((with_reducible refine gate_dst (N:=83) rfl ?_);refine R_litW (Kd.raw 6) w7.heap.size 55 ?hg (N:=83) ?hd (xs:=[[.int .i64 f.f0,.slice B1 f.f1.length b1,.slice B2' f.f2.length b2,.slice B3 f.f3.length b3,.slice B4 f.f4.length b4,.slice B5 f.f5.length b5]]) (inner:=[.int .i64 f.f0,.slice B1 f.f1.length b1,.slice B2' f.f2.length b2,.slice B3 f.f3.length b3,.slice B4 f.f4.length b4,.slice B5 f.f5.length b5]) (ok:=fun _=>True) (okp:=fun _=>True) ?hr ?hp (fun _ hk=>hk) trivial (Nat.le_refl _) (by simp) ?_;(case hd=>rfl);(case hg=>rfl);(case hr=>first | (go_simp;done) | (go_simp;rfl));(case hp=>exact ⟨rfl,fun j p hj=>by
       rcases j with _ | j
       · obtain rfl : _ = p:=Option.some.inj hj
         exact ⟨rfl,rfl,by intro u hu;change u ∈ [_,_,_,_,_,_] at hu;simp only [List.mem_cons,List.not_mem_nil,or_false] at hu;rcases hu with rfl | rfl | rfl | rfl | rfl | rfl<;>rfl⟩
       · cases hj⟩);intro v83 w8 ho83 hb hg_;have HL:=Mk ho83;replace MD:=Mk (MD.out.below hb);replace HFR:=Mk (Foot.step HFR.out (fun k _ hlt=>hb.block k hlt));replace HC6:=Mk (Kd.R_below HC6.out hb);replace BM:=Mk (blk_below BM.out hb);replace B2:=Mk (blk_below B2.out hb);replace HB:=Mk (below_step HB.out hb);clear hb hg_ ho83 hm0 hm1 hm2 hz0 hz1 hz2 x0 x1 x2 x3 x4 x5;obtain ⟨B9,b9,e9⟩:=Kd.R_slice HL.out;subst e9)
  | ((with_reducible refine gate_builtin (b:=.append) (xs:=#[.tmp 81,.tmp 83]) rfl ?_);at_builtin;refine Kd.R_append_rows (Kd.raw 6) base rfl (.tmp 81) (.tmp 83) 23 55 (.agg #[(.int .i64 0),(.slice none 0 0),(.slice none 0 0),(.slice none 0 0),(.slice none 0 0),(.slice none 0 0)]) 128 rfl Tryz.underlying23 info55 rfl (by decide) (by omega) (.slice AF M.f.length cF) fr [[.int .i64 f.f0,.slice B1 f.f1.length b1,.slice B2' f.f2.length b2,.slice B3 f.f3.length b3,.slice B4 f.f4.length b4,.slice B5 f.f5.length b5]] _ _ _ (fun _=>True) (fun k=>some k ≠ (Value.slice AF M.f.length cF).ownBlock) rfl rfl (Kd.raw_any MD.out.funs) (R_readsM HL.out) (fun _ _ h=>⟨h.1,h.2⟩) (fun k hk=>⟨trivial,hk⟩) (fun _ _=>trivial) (Below.refl _ _) (by rw [HB0.out];exact HB.out.size) ?aL ?_;(case aL=>have:=RL.out;simp only [List.length_cons,List.length_nil];omega);intro v84 w9 ho hb hg hat
     have ho:=Kd.raw_tight ho
     have nm:=Kd.R_ne MD.out.funs BM.out (by decide)
     have n2:=Kd.R_ne MD.out.funs B2.out (by decide)
     replace BM:=Mk (blk_grown BM.out hg nm);replace B2:=Mk (blk_grown B2.out hg n2);replace HB:=Mk (below_weaken HB.out (Nat.le_of_eq HB0.out.symm) hb)
     obtain ⟨A84,c84,e84⟩:=Kd.R_slice ho
     generalize hn84 : (fr ++ [[Value.int IntKind.i64 f.f0,Value.slice B1 f.f1.length b1,Value.slice B2' f.f2.length b2,Value.slice B3 f.f3.length b3,Value.slice B4 f.f4.length b4,Value.slice B5 f.f5.length b5]]).length = n84 at e84
     subst e84
     have HO9:=Mk ho;have HG9:=Mk hg;have HAT9:=Mk hat
     clear hn84 HL hat hg hb ho nm n2
     obtain ⟨hm0,hm1,hm2,hz0,hz1,hz2⟩:=U.d3 BM))
 have MD2:=Mk (MD.out.addFun (f:=f) HG9.out HAT9.out HO9.out HC6.out (fun k hk=>⟨⟨⟨fun he=>by have:=OC.out k hk.symm;have:=GM.out;omega,fun he=>by have:=OC.out k hk.symm;have:=G2.out;omega,Kd.R_base MD.out.code k hk.symm⟩,NC.out k hk⟩,fun he=>by have:=OC.out k hk.symm;have:=GX.out;omega⟩) NC.out (Foot.mono HFR.out (fun k hk=>⟨⟨⟨hk.1.1,hk.2.2.2⟩,hk.1.2⟩,hk.2⟩)) (Foot.mono MD.out.rest (fun k hk=>⟨hk.1,hk.2.1,hk.2.2.1,hk.1.1.2⟩)))
 have hgm:=Nat.le_trans HW.out GM.out
 have MD3:=Mk (MD2.out.far (p:=⟨gm,1,none⟩) (fun k hk=>hk.1.1.1) (Kd.R_ne MD2.out.recs BM.out (by decide)) (Kd.R_ne MD2.out.funs BM.out (by decide)) (Kd.R_ne MD2.out.code BM.out (by decide)) (.slice A84 n84 c84))
 have BN:=Mk (blk_put (cs:=#[.slice AR M.r.length cR,.slice AF M.f.length cF,.slice AN M.n.length cN]) BM.out 1 (.slice A84 n84 c84) rfl)
 have C2:=Mk (show (w9.setCell ⟨gm,1,none⟩ (.slice A84 n84 c84)).heap[g2]? = _ from (Below.heap_setCell w9 ⟨gm,1,none⟩ _ g2 NM2.out.symm).trans B2.out)
 replace HB:=Mk (HB.out.setCell (p:=⟨gm,1,none⟩) hgm (.slice A84 n84 c84))
 clear BM B2 MD2 HO9 HG9 HAT9 MD HFR HC6 hm0 hm1 hm2 hz0 hz1 hz2
 (generalize w9.setCell ⟨gm,1,none⟩ (.slice A84 n84 c84) = w22 at MD3 BN C2 HB ⊢)
 obtain ⟨hm0,hm1,hm2,hz0,hz1,hz2⟩:=U.d3 BN
 obtain ⟨h20,h21,h22,f20,f21,f22⟩:=U.d3 C2
 have nm2:=NM2.out
 have nm3:=NM2.out.symm
 cases ok with
 | false =>
  go_wp2
  have C3:=Mk (blk_put (cs:=#[.slice AR M.r.length cR,.slice A84 n84 c84,.slice none 0 0]) (blk_put (cs:=#[.slice AR M.r.length cR,.slice none 0 0,.slice none 0 0]) (blk_put (cs:=#[.slice none 0 0,.slice none 0 0,.slice none 0 0]) C2.out 0 (.slice AR M.r.length cR) rfl) 1 (.slice A84 n84 c84) rfl) 2 (.slice AN M.n.length cN) rfl)
  have o1:=Kd.R_ne MD3.out.recs C2.out (by decide)
  have o2:=Kd.R_ne MD3.out.funs C2.out (by decide)
  have o3:=Kd.R_ne MD3.out.code C2.out (by decide)
  have MD4:=(((MD3.out.far (p:=⟨g2,0,none⟩) (fun k hk=>hk.1.1.2.1) o1 o2 o3 (.slice AR M.r.length cR)).far (p:=⟨g2,1,none⟩) (fun k hk=>hk.1.1.2.1) o1 o2 o3 (.slice A84 n84 c84)).far (p:=⟨g2,2,none⟩) (fun k hk=>hk.1.1.2.1) o1 o2 o3 (.slice AN M.n.length cN)).mono (X':=fun k=>base ≤ k) (fun k hk=>hk.1.1.2.2)
  have hg2:=Nat.le_trans HW.out G2.out
  have HB4:=((HB.out.setCell (p:=⟨g2,0,none⟩) hg2 (.slice AR M.r.length cR)).setCell (p:=⟨g2,1,none⟩) hg2 (.slice A84 n84 c84)).setCell (p:=⟨g2,2,none⟩) hg2 (.slice AN M.n.length cN)
  refine bodyPost_ret (results_ct rfl _ _ g2 26 #[.slice AR M.r.length cR,.slice A84 n84 c84,.slice AN M.n.length cN] (0,0) _ rfl C3.out Tryz.underlying26 rfl (by kernel_rfl)) rfl ?_
  exact ⟨_,.slice A84 n84 c84,.slice B5 f.f5.length b5,by first | rfl | (simp only [Bool.true_and,Bool.false_and];rfl),MD4,HB4⟩
 | true =>
  have hn9 : decide ((M.f.length : Int) < 4) = decide (M.f.length < 4):=decide_eq_decide.2 (by omega)
  go_wp2
  have C3:=Mk (blk_put (cs:=#[.slice AR M.r.length cR,.slice A84 n84 c84,.slice none 0 0]) (blk_put (cs:=#[.slice AR M.r.length cR,.slice none 0 0,.slice none 0 0]) (blk_put (cs:=#[.slice none 0 0,.slice none 0 0,.slice none 0 0]) C2.out 0 (.slice AR M.r.length cR) rfl) 1 (.slice A84 n84 c84) rfl) 2 (.slice AN M.n.length cN) rfl)
  have o1:=Kd.R_ne MD3.out.recs C2.out (by decide)
  have o2:=Kd.R_ne MD3.out.funs C2.out (by decide)
  have o3:=Kd.R_ne MD3.out.code C2.out (by decide)
  have MD4:=(((MD3.out.far (p:=⟨g2,0,none⟩) (fun k hk=>hk.1.1.2.1) o1 o2 o3 (.slice AR M.r.length cR)).far (p:=⟨g2,1,none⟩) (fun k hk=>hk.1.1.2.1) o1 o2 o3 (.slice A84 n84 c84)).far (p:=⟨g2,2,none⟩) (fun k hk=>hk.1.1.2.1) o1 o2 o3 (.slice AN M.n.length cN)).mono (X':=fun k=>base ≤ k) (fun k hk=>hk.1.1.2.2)
  have hg2:=Nat.le_trans HW.out G2.out
  have HB4:=((HB.out.setCell (p:=⟨g2,0,none⟩) hg2 (.slice AR M.r.length cR)).setCell (p:=⟨g2,1,none⟩) hg2 (.slice A84 n84 c84)).setCell (p:=⟨g2,2,none⟩) hg2 (.slice AN M.n.length cN)
  refine bodyPost_ret (results_ct rfl _ _ g2 26 #[.slice AR M.r.length cR,.slice A84 n84 c84,.slice AN M.n.length cN] (0,0) _ rfl C3.out Tryz.underlying26 rfl (by kernel_rfl)) rfl ?_
  exact ⟨_,.slice A84 n84 c84,.slice B5 f.f5.length b5,by first | rfl | (simp only [Bool.true_and,Bool.false_and];rfl),MD4,HB4⟩
set_option maxHeartbeats 4000000 in
set_option maxRecDepth 100000 in
theorem read_ins (base : Nat) (w0 w : World) (rr fr : List (List Value)) (vR vF vN cl : Value) (M : MO) (line : ByteArray) (ws : List ByteArray) (x1 : ByteArray) (x2 x3 : Int) (hlen : M.f.length ≤ 1000) (hf0 : 0 < M.f.length) (hlc : (lastF M).f5.length ≤ 1000) (h40 : (lastF M).f5.length ≠ 40) (hb0 : base = w0.heap.size) (hMd : Md w base (fun k=>base ≤ k) rr fr vR vF vN cl M) (hB0 : Below w0.heap.size w0 w)
  (h1 : ∃ k,spec_l3Words.f k line = some ws) (hw2 : ws.length ≤ 5000) (hw1 : 1 ≤ ws.length) (c1 : (wd ws 0).toList ≠ ([114,101,99,111,114,100] : List UInt8)) (c2 : (wd ws 0).toList ≠ ([102,114,105,101,110,100] : List UInt8)) (c3 : (wd ws 0).toList ≠ ([102,117,110,99] : List UInt8)) (h2 : ∃ k,spec_InsRead.f k line = some (x1,x2,x3,true)) :
  Calls Tryz.prog 10 #[.agg #[vR,vF,vN],.string line] w fun e w'=>∃ fr' cl',e = .returned (.tuple #[.agg #[vR,vF,vN],.bool true]) ∧ Md w' base (fun k=>base ≤ k) rr fr' vR vF vN cl' (addCode M ⟨x1,x2,x3⟩) ∧ Below w0.heap.size w0 w':=by
 have hu26:=Tryz.underlying26
 have hu55:=Tryz.underlying55
 have hu50:=Tryz.underlying50
 obtain ⟨AR,cR,AF,cF,AN,cN,eR,lR,CR,eF,lF,CF,eN,lN,CN⟩:=hMd.reads
 subst eR;subst eF;subst eN
 obtain ⟨k1,h1⟩:=h1;obtain ⟨k2,h2⟩:=h2
 have A1:=Mk h1;have A2:=Mk h2
 have MD:=Mk (hMd.bound.mono (X':=fun k=>base ≤ k ∧ k < w.heap.size) (fun k hk=>hk))
 have OR:=Mk (Kd.R_lt hMd.recs)
 have OF:=Mk (Kd.R_lt hMd.funs)
 have OC:=Mk (Kd.R_lt hMd.code)
 have HB:=Mk hB0
 have HW:=Mk hB0.size
 have HB0:=Mk hb0
 clear hb0
 have c1b0 : ((wd ws 0).toList == ([114,101,99,111,114,100] : List UInt8)) = false:=beq_eq_false_iff_ne.mpr c1
 have c2b0 : ((wd ws 0).toList == ([102,114,105,101,110,100] : List UInt8)) = false:=beq_eq_false_iff_ne.mpr c2
 have c3b0 : ((wd ws 0).toList == ([102,117,110,99] : List UInt8)) = false:=beq_eq_false_iff_ne.mpr c3
 have z0 : ((M.f.length : Int) == 0) = false:=beq_eq_false_iff_ne.mpr (by omega)
 have z1 : (((lastF M).f5.length : Int) == 40) = false:=beq_eq_false_iff_ne.mpr (by omega)
 obtain ⟨mm,hmm⟩ : ∃ m : Nat,m + 1 = M.f.length:=⟨M.f.length - 1,by omega⟩
 have hwm : wrap64 ((M.f.length : Int) - 1) = (mm : Int):=by unfold wrap64;omega
 have hwi : IntKind.i64.wrap ((M.f.length : Int) - 1) = (mm : Int):=(i64_w _).trans hwm
 have m1 : (0 ≤ (mm : Int)) = True:=eq_true (by omega)
 have m2 : ((mm : Int) < (M.f.length : Int)) = True:=eq_true (by omega)
 have RL:=Mk (show fr.length = M.f.length from by
  obtain ⟨_,_,a3⟩:=Foot.now hMd.rest
  rcases a3 with ⟨e1,e2⟩ | ⟨fs0,g,fr0,s,e1,e2,h1,h2⟩
  ·rw [e1,e2];rfl
  ·rw [e1,e2];simp [h1.1])
 clear h1 h2 hMd hB0 CR CF CN lR lF lN
 go_enter Tryz.func10,Tryz.ntmps10
 go_upto_region 15 with (first
  | ((with_reducible refine gate_dst (N:=2) rfl ?_);refine U.bx 2 26 #[.slice AR M.r.length cR,.slice AF M.f.length cF,.slice AN M.n.length cN] ?_;intro gm hg w1 hbox hb;have BM:=Mk hbox;have GM:=Mk (show w.heap.size ≤ gm by rw [hg];exact Nat.le_refl _);replace MD:=Mk (MD.out.below hb);replace HB:=Mk (below_step HB.out hb);have HN:=Mk hb.size;clear hg hbox hb)
  | ((with_reducible refine gate_dst (N:=4) rfl ?_);refine U.bx 4 26 #[.slice none 0 0,.slice none 0 0,.slice none 0 0] ?_;intro g2 hg w2 hbox hb;have B2:=Mk hbox;have G2:=Mk (show w.heap.size ≤ g2 by rw [hg];exact HN.out);have NM2:=Mk (show gm ≠ g2 by rw [hg];exact Nat.ne_of_lt (blk_lt BM.out));replace BM:=Mk (blk_below BM.out hb);replace MD:=Mk (MD.out.below hb);replace HB:=Mk (below_step HB.out hb);replace HN:=Mk (Nat.le_trans HN.out hb.size);clear hg hbox hb)
  | ((with_reducible refine gate_callee (f:=25) rfl ?_);refine U.gl (some 16) Tryz.func25 #[.string line] ?_;(with_reducible refine (spec_l3Words.calls k1 line ws _ A1.out).mono ?_);rintro e w3 ⟨vW,rfl,ho,hb⟩;refine ⟨_,rfl,?_⟩;have HWd:=Mk (Kd.R_mono (ok':=fun k=>w.heap.size ≤ k ∧ k ≠ gm ∧ k ≠ g2 ∧ base ≤ k) (Kd.R_bound ho) (fun k hk=>⟨Nat.le_trans HN.out hk.2.1,fun he=>by have:=blk_lt BM.out;have:=hk.2.1;omega,fun he=>by have:=blk_lt B2.out;have:=hk.2.1;omega,by rw [HB0.out];exact Nat.le_trans HW.out (Nat.le_trans HN.out hk.2.1)⟩));replace BM:=Mk (blk_below BM.out hb);replace B2:=Mk (blk_below B2.out hb);replace MD:=Mk ((MD.out.below hb).mono (X':=fun k=>k ≠ gm ∧ k ≠ g2 ∧ base ≤ k) (fun k hk=>⟨Nat.ne_of_lt (Nat.lt_of_lt_of_le hk.2 GM.out),Nat.ne_of_lt (Nat.lt_of_lt_of_le hk.2 G2.out),hk.1⟩));replace HB:=Mk (below_step HB.out hb);replace HN:=Mk (Nat.le_trans HN.out hb.size);clear ho hb;obtain ⟨gw,cW,eW,_,_,_⟩:=Kd.R_form HWd.out (by omega);subst eW;obtain ⟨ad,ea,hx0⟩:=Kd.at_string (Kd.R_reads' HWd.out).2.2 0 (by omega) (by omega);cases ea;(change _ = some (Value.string (wd ws 0)) at hx0);(change World.cell? _ ⟨gw,0,none⟩ = _ at hx0);have p0 : (0 < ws.length) = True:=eq_true (by omega);obtain ⟨hm0,hm1,hm2,hz0,hz1,hz2⟩:=U.d3 BM))
 have MDL:=MD.out.last hf0
 obtain ⟨gF,cF',eF',_,hcl,hfz,hgF1,hgF2⟩:=MDL
 obtain ⟨rfl,rfl⟩ : AF = some ⟨gF,0,none⟩ ∧ cF = cF':=by injection eF' with x _ y;exact ⟨x,y⟩
 clear eF'
 obtain ⟨AC,cC,eC⟩:=Kd.R_slice MD.out.code
 subst eC
 have em : M.f.length - 1 = mm:=by omega
 have EM:=Mk em
 rw [em] at hcl hfz
 clear em
 have HWF:=Mk (show w.heap.size ≤ gm ∧ w.heap.size ≤ g2 from ⟨GM.out,G2.out⟩)
 have FL:=Mk (show gF < w.heap.size from OF.out gF (by simp [Value.ownBlock]))
 clear hx0 hm0 hm1 hm2 hz0 hz1 hz2 hcl hfz
 go_upto_region 18 with (first
  | ((with_reducible refine gate_callee (f:=30) rfl ?_);refine U.gl (some 94) Tryz.func30 #[.string line] ?_;(with_reducible refine (spec_InsRead.calls k2 line x1 x2 x3 true _ A2.out).mono ?_);rintro e w5 ⟨rfl,hb⟩;refine ⟨_,rfl,?_⟩;replace BM:=Mk (blk_below BM.out hb);replace B2:=Mk (blk_below B2.out hb);replace MD:=Mk (MD.out.below hb);replace HB:=Mk (below_step HB.out hb);replace HN:=Mk (Nat.le_trans HN.out hb.size);clear hb)
  | ((with_reducible refine gate_dst (N:=13) rfl ?_);refine U.bx 13 59 #[.string ⟨#[]⟩,.int .i64 0,.int .i64 0] ?_;intro gx hg w6 hbox hb;have BX:=Mk hbox;replace MD:=Mk ((MD.out.bound.mono (X':=fun k=>(k ≠ gm ∧ k ≠ g2 ∧ base ≤ k) ∧ k ≠ gx) (fun k hk=>⟨hk.1,by rw [hg];exact Nat.ne_of_lt hk.2⟩)).below hb);have NX1:=Mk (show gm ≠ gx by rw [hg];exact Nat.ne_of_lt (blk_lt BM.out));have NX2:=Mk (show g2 ≠ gx by rw [hg];exact Nat.ne_of_lt (blk_lt B2.out));have GX:=Mk (show w.heap.size ≤ gx by rw [hg];exact HN.out);replace BM:=Mk (blk_below BM.out hb);replace B2:=Mk (blk_below B2.out hb);replace HB:=Mk (below_step HB.out hb);clear hg hbox hb;obtain ⟨hm0,hm1,hm2,hz0,hz1,hz2⟩:=U.d3 BM;obtain ⟨x0,x1',x2',y0,y1,y2⟩:=U.d3 BX;obtain ⟨gF',cF',eF',_,hcl,hfz,_,_⟩:=MD.out.last hf0;(obtain rfl : gF = gF':=by injection eF' with x _ _;injection x with x;injection x);clear eF';rw [EM.out] at hcl hfz;have nx1:=NX1.out;have nx2:=NX1.out.symm;have nf1 : gF ≠ gx:=(fun he=>by have:=FL.out;have:=GX.out;omega);have nf2 : gF ≠ gm:=(fun he=>by have:=FL.out;have:=GM.out;omega)))
 have hfar : ∀ k,k ≠ gx → (((w6.setCell ⟨gx,0,none⟩ (.string x1)).setCell ⟨gx,1,none⟩ (.int .i64 x2)).setCell ⟨gx,2,none⟩ (.int .i64 x3)).heap[k]? = w6.heap[k]?:=fun k h=>by rw [Below.heap_setCell _ _ _ k h,Below.heap_setCell _ _ _ k h,Below.heap_setCell _ _ _ k h]
 have hgx:=Nat.le_trans HW.out GX.out
 replace HB:=Mk (((HB.out.setCell (p:=⟨gx,0,none⟩) hgx (.string x1)).setCell (p:=⟨gx,1,none⟩) hgx (.int .i64 x2)).setCell (p:=⟨gx,2,none⟩) hgx (.int .i64 x3))
 replace BX:=Mk (blk_put (cs:=#[.string x1,.int .i64 x2,.int .i64 0]) (blk_put (cs:=#[.string x1,.int .i64 0,.int .i64 0]) (blk_put (cs:=#[.string ⟨#[]⟩,.int .i64 0,.int .i64 0]) BX.out 0 (.string x1) rfl) 1 (.int .i64 x2) rfl) 2 (.int .i64 x3) rfl)
 replace MD:=Mk (MD.out.off hfar (fun k hk=>hk.2) (by
  intro he
  have:=OR.out gx he.symm
  have:=GX.out
  omega) (by
  intro he
  have:=OF.out gx he.symm
  have:=GX.out
  omega) (by
  intro he
  have:=OC.out gx he.symm
  have:=GX.out
  omega))
 replace BM:=Mk ((hfar gm NX1.out).trans BM.out)
 replace B2:=Mk ((hfar g2 NX2.out).trans B2.out)
 clear hfar hm0 hm1 hm2 hz0 hz1 hz2 x0 x1' x2' y0 y1 y2 hcl hfz
 (generalize (((w6.setCell ⟨gx,0,none⟩ (.string x1)).setCell ⟨gx,1,none⟩ (.int .i64 x2)).setCell ⟨gx,2,none⟩ (.int .i64 x3)) = w7 at MD BM B2 BX HB ⊢)
 replace MD:=Mk (MD.out.below (below_drew (Below.refl _ _)))
 replace BM:=Mk (blk_drew BM.out)
 replace B2:=Mk (blk_drew B2.out)
 replace BX:=Mk (blk_drew BX.out)
 replace HB:=Mk (below_drew1 HB.out)
 obtain ⟨gF',cF',eF',_,hcl,hfz,_,_⟩:=MD.out.last hf0
 (obtain rfl : gF = gF':=by injection eF' with x _ _;injection x with x;injection x)
 clear eF'
 rw [EM.out] at hcl hfz
 refine start_ (n:=17) (S:=fun w'=>w'.cell? ⟨gm,1,none⟩ = some (.slice (some ⟨gF,0,none⟩) M.f.length cF) ∧ w'.cell? ⟨gF,mm * 6 + 5,none⟩ = some (.slice AC (lastF M).f5.length cC) ∧ w'.cell? ⟨gx,0,none⟩ = some (.string x1) ∧ w'.cell? ⟨gx,1,none⟩ = some (.int .i64 x2) ∧ w'.cell? ⟨gx,2,none⟩ = some (.int .i64 x3)) (ds:=[16]) #[false,false,false,false,false,false,false,false,false,false,false,false,false,false,false,false,false] (by kernel_rfl) rfl rfl ⟨U.c1 BM,hcl,U.c0 BX,U.c1 BX,U.c2 BX⟩ (fun hHeld=>?_)
 (generalize w7.drew = w18 at MD BM B2 BX HB hcl hfz hHeld ⊢)
 refine U.pn 0 (some 115) ?_
 refine U.pn 2 (some 117) ?_
 refine U.pn 3 (some 118) (v:=.int .i64 (mm : Int)) ?_ (hy:=by intro w';go_simp;first | done | exact hwi)
 refine U.pn 4 (some 119) ?_
 refine U.pn 6 (some 121) ?_
 refine U.pn 7 (some 122) (v:=.int .i64 (mm : Int)) ?_ (hy:=by intro w';go_simp;first | done | exact hwi)
 refine take_ (i:=1) (N:=some 116) (v:=.slice (some ⟨gF,0,none⟩) M.f.length cF) #[true,true,true,true,true,false,true,true,false,false,false,false,false,false,false,false,false] rfl rfl (by kernel_rfl) (fun _ _ _ h=>h) (Or.inl ⟨by rfl,?_⟩) hHeld (by simp only [Act.put,List.setIfInBounds_toArray,List.set_cons_zero,List.set_cons_succ];rfl) ?_
 ·rintro w' ⟨s0,s1,s2,s3,s4⟩
  go_simp
 refine take_ (i:=5) (N:=some 120) (v:=.slice (some ⟨gF,0,none⟩) M.f.length cF) #[true,true,true,true,true,true,true,true,false,false,false,false,false,false,false,false,false] rfl rfl (by kernel_rfl) (fun _ _ _ h=>h) (Or.inl ⟨by rfl,?_⟩) hHeld (by simp only [Act.put,List.setIfInBounds_toArray,List.set_cons_zero,List.set_cons_succ];rfl) ?_
 ·rintro w' ⟨s0,s1,s2,s3,s4⟩
  go_simp
 refine U.pn 8 (some 123) ?_
 refine U.pn 9 (some 124) ?_
 refine take_ (i:=10) (N:=some 125) (v:=.slice AC (lastF M).f5.length cC) #[true,true,true,true,true,true,true,true,true,true,true,false,false,false,false,false,false] rfl rfl (by kernel_rfl) (fun _ _ _ h=>h) (Or.inl ⟨by rfl,?_⟩) hHeld (by simp only [Act.put,List.setIfInBounds_toArray,List.set_cons_zero,List.set_cons_succ];rfl) ?_
 ·rintro w' ⟨s0,s1,s2,s3,s4⟩
  go_simp
 refine take_ (i:=11) (N:=some 126) (v:=.agg #[.string x1,.int .i64 x2,.int .i64 x3]) #[true,true,true,true,true,true,true,true,true,true,true,true,false,false,false,false,false] rfl rfl (by kernel_rfl) (fun _ _ _ h=>h) (Or.inl ⟨by rfl,?_⟩) hHeld (by simp only [Act.put,List.setIfInBounds_toArray,List.set_cons_zero,List.set_cons_succ];rfl) ?_
 ·rintro w' ⟨s0,s1,s2,s3,s4⟩
  go_simp
 refine one_ (i:=12) (N:=some 127) #[true,true,true,true,true,true,true,true,true,true,true,true,true,false,false,false,false] rfl rfl (by kernel_rfl) (by decide) (fun K hK=>?_)
 refine R_litW_step k59 w18.heap.size 59 ?hg (N:=127) ?hd (xs:=[(⟨x1,x2,x3⟩ : S59)]) (inner:=[.string x1,.int .i64 x2,.int .i64 x3]) (ok:=fun _=>True) (okp:=fun _=>True) ?hr ?hp (fun _ hk=>hk) trivial (Nat.le_refl _) (by simp) ?_
 (case hd=>rfl)
 (case hg=>rfl)
 (case hr=>first | (go_simp;done) | (go_simp;rfl))
 (case hp=>exact Reps.c3 (show k59.M _ _ _ (⟨x1,x2,x3⟩ : S59) [.string x1,.int .i64 x2,.int .i64 x3] from k59_mkM _ _ _ (⟨x1,x2,x3⟩ : S59)) (Reps.none _ _))
 intro v127 w19 ho127 hb hg_
 have HL:=Mk ho127
 replace MD:=Mk (MD.out.below hb)
 replace BM:=Mk (blk_below BM.out hb)
 replace B2:=Mk (blk_below B2.out hb)
 replace BX:=Mk (blk_below BX.out hb)
 replace HB:=Mk (below_step HB.out hb)
 have hcl2:=(hb.cell (World.block_lt_of_cell? _ _ hcl)).trans hcl
 clear hb hg_ ho127 hHeld hcl hfz
 obtain ⟨B9,b9,e9⟩:=Kd.R_slice HL.out;subst e9
 refine hK.out _ _ ⟨U.c1 BM,hcl2,U.c0 BX,U.c1 BX,U.c2 BX⟩ (fun hHeld=>?_)
 clear hK K
 refine U.nm 127 ?_
 refine one_ (i:=13) (N:=some 128) #[true,true,true,true,true,true,true,true,true,true,true,true,true,true,false,false,false] rfl rfl (by kernel_rfl) (by decide) (fun K hK=>?_)
 refine Kd.R_append_rows_step k59 base (by rfl) (.tmp 125) (.tmp 127) 53 59 (.agg #[(.string ⟨#[]⟩),(.int .i64 0),(.int .i64 0)]) 32 rfl Tryz.underlying53 info59 rfl (by decide) (by omega) (.slice AC (lastF M).f5.length cC) (lastF M).f5 [(⟨x1,x2,x3⟩ : S59)] _ _ _ (fun _=>True) (fun k=>some k ≠ (Value.slice AC (lastF M).f5.length cC).ownBlock) rfl rfl (Kd.R_mono MD.out.code (fun _ _=>trivial)) (R_readsM HL.out) (fun x cs h=>by rw [k59_openM h];exact k59_mkM _ _ _ x) (fun k hk=>⟨trivial,hk⟩) (fun _ _=>trivial) (Below.refl _ _) (by rw [HB0.out];exact HB.out.size) ?aL ?_
 (case aL=>simp only [List.length_cons,List.length_nil];omega)
 intro v128 w20 ho hb hg hat
 have hoT:=Kd.R_tight rfl ho
 obtain ⟨fr',MD2⟩:=MD.out.putCode (i:=(⟨x1,x2,x3⟩ : S59)) hf0 hg hat hoT
 have MD2:=Mk MD2
 rw [EM.out] at MD2
 have nm:=Kd.R_ne MD.out.code BM.out (by decide)
 have n2:=Kd.R_ne MD.out.code B2.out (by decide)
 have nF : some gF ≠ (Value.slice AC (lastF M).f5.length cC).ownBlock:=own_ne MD.out.funs MD.out.code (by decide) gF (by simp [Value.ownBlock])
 have nX : some gx ≠ (Value.slice AC (lastF M).f5.length cC).ownBlock:=fun he=>by have:=OC.out gx he.symm;have:=GX.out;omega
 have ltF : gF < w19.heap.size:=Kd.R_lt MD.out.funs gF (by simp [Value.ownBlock])
 have hblk : w20.heap[gF]? = w19.heap[gF]?:=hg.block gF ltF nF
 have hcl3 : w20.cell? ⟨gF,mm * 6 + 5,none⟩ = some (.slice AC (lastF M).f5.length cC):=by
  rw [← hHeld.2.1]
  simp only [World.cell?,hblk]
 have hfz3 : w20.frozen? ⟨gF,mm * 6 + 5,none⟩ = false:=by
  have hlF:=RL.out
  obtain ⟨_,_,_,_,hfr⟩:=Kd.R_elem (Kd.R_grown MD.out.funs hg (own_ne MD.out.funs MD.out.code (by decide))) [] (mm : Int) (by omega) (by omega)
  have:=hfr 5
  rw [Int.toNat_natCast] at this
  exact this
 replace BM:=Mk (blk_grown BM.out hg nm)
 replace B2:=Mk (blk_grown B2.out hg n2)
 replace BX:=Mk (blk_grown BX.out hg nX)
 replace HB:=Mk (below_weaken HB.out (Nat.le_of_eq HB0.out.symm) hb)
 obtain ⟨A28,c28,e28⟩:=Kd.R_slice ho
 generalize hn28 : ((lastF M).f5 ++ [(⟨x1,x2,x3⟩ : S59)]).length = n28 at e28
 subst e28
 clear hn28 ho hb hg hat hoT hHeld hcl2 MD nm n2 nF nX hblk ltF HL
 refine hK.out _ _ ⟨U.c1 BM,hcl3,U.c0 BX,U.c1 BX,U.c2 BX⟩ (fun hHeld=>?_)
 clear hK K
 refine U.nm 128 ?_
 refine U.pn 14 (some 129) ?_
 refine U.pn 15 (some 130) ?_
 refine last_ (i:=16) (N:=none) #[true,true,true,true,true,true,true,true,true,true,true,true,true,true,true,true,true] rfl rfl (by kernel_rfl) (by decide) (fun K hK=>?_)
 refine skip_ (w1:=w20.setCell ⟨gF,mm * 6 + 5,none⟩ (.slice A28 n28 c28)) (by rfl) rfl ?_ ?_
 ·go_simp
 refine hK.out _ _ ?_
 refine done_ (by kernel_rfl) ?_
 clear hcl3 hfz3 hHeld hK K
 have nfm : gm ≠ gF:=fun he=>by have:=FL.out;have:=GM.out;omega
 have nf3 : g2 ≠ gF:=fun he=>by have:=FL.out;have:=G2.out;omega
 replace BM:=Mk ((Below.heap_setCell w20 ⟨gF,mm * 6 + 5,none⟩ (.slice A28 n28 c28) gm nfm).trans BM.out)
 replace B2:=Mk ((Below.heap_setCell w20 ⟨gF,mm * 6 + 5,none⟩ (.slice A28 n28 c28) g2 nf3).trans B2.out)
 replace HB:=Mk (HB.out.setCell (p:=⟨gF,mm * 6 + 5,none⟩) (by rw [← HB0.out];exact hgF1) (.slice A28 n28 c28))
 clear BX
 (generalize w20.setCell ⟨gF,mm * 6 + 5,none⟩ (.slice A28 n28 c28) = w22 at MD2 BM B2 HB ⊢)
 obtain ⟨hm0,hm1,hm2,hz0,hz1,hz2⟩:=U.d3 BM
 obtain ⟨h20,h21,h22,f20,f21,f22⟩:=U.d3 B2
 have nm2:=NM2.out
 have nm3:=NM2.out.symm
 go_wp2
 have C3:=Mk (blk_put (cs:=#[.slice AR M.r.length cR,.slice (some ⟨gF,0,none⟩) M.f.length cF,.slice none 0 0]) (blk_put (cs:=#[.slice AR M.r.length cR,.slice none 0 0,.slice none 0 0]) (blk_put (cs:=#[.slice none 0 0,.slice none 0 0,.slice none 0 0]) B2.out 0 (.slice AR M.r.length cR) rfl) 1 (.slice (some ⟨gF,0,none⟩) M.f.length cF) rfl) 2 (.slice AN M.n.length cN) rfl)
 have o1:=Kd.R_ne MD2.out.recs B2.out (by decide)
 have o2:=Kd.R_ne MD2.out.funs B2.out (by decide)
 have o3:=Kd.R_ne MD2.out.code B2.out (by decide)
 have MD4:=(((MD2.out.far (p:=⟨g2,0,none⟩) (fun k hk=>hk.1.2.1) o1 o2 o3 (.slice AR M.r.length cR)).far (p:=⟨g2,1,none⟩) (fun k hk=>hk.1.2.1) o1 o2 o3 (.slice (some ⟨gF,0,none⟩) M.f.length cF)).far (p:=⟨g2,2,none⟩) (fun k hk=>hk.1.2.1) o1 o2 o3 (.slice AN M.n.length cN)).mono (X':=fun k=>base ≤ k) (fun k hk=>hk.1.2.2)
 have hg2:=Nat.le_trans HW.out G2.out
 have HB4:=((HB.out.setCell (p:=⟨g2,0,none⟩) hg2 (.slice AR M.r.length cR)).setCell (p:=⟨g2,1,none⟩) hg2 (.slice (some ⟨gF,0,none⟩) M.f.length cF)).setCell (p:=⟨g2,2,none⟩) hg2 (.slice AN M.n.length cN)
 refine bodyPost_ret (results_ct rfl _ _ g2 26 #[.slice AR M.r.length cR,.slice (some ⟨gF,0,none⟩) M.f.length cF,.slice AN M.n.length cN] (0,0) _ rfl C3.out Tryz.underlying26 rfl (by kernel_rfl)) rfl ?_
 exact ⟨_,_,rfl,MD4,HB4⟩
def Ag3 (x : Value) : Prop:=∃ A1 l1 c1 A2 l2 c2 A3 l3 c3,x = .agg #[.slice A1 l1 c1,.slice A2 l2 c2,.slice A3 l3 c3]
set_option maxHeartbeats 4000000 in
set_option maxRecDepth 100000 in
theorem bad_a (base : Nat) (w0 w : World) (rr fr : List (List Value)) (vR vF vN cl : Value) (M : MO) (line : ByteArray) (ws : List ByteArray) (x1 : ByteArray) (x2 x3 : Int) (hlen : M.f.length ≤ 1000)  (hb0 : base = w0.heap.size) (hMd : Md w base (fun _=>True) rr fr vR vF vN cl M) (hB0 : Below w0.heap.size w0 w)
  (h1 : ∃ k,spec_l3Words.f k line = some ws) (hw2 : ws.length ≤ 5000) (hw1 : 1 ≤ ws.length) (c1 : (wd ws 0).toList ≠ ([114,101,99,111,114,100] : List UInt8)) (c2 : (wd ws 0).toList ≠ ([102,114,105,101,110,100] : List UInt8)) (c3 : (wd ws 0).toList ≠ ([102,117,110,99] : List UInt8)) (h2 : ∃ k,spec_InsRead.f k line = some (x1,x2,x3,false)) :
  Calls Tryz.prog 10 #[.agg #[vR,vF,vN],.string line] w fun e w'=>∃ x,Ag3 x ∧ e = .returned (.tuple #[x,.bool false]) ∧ Below w0.heap.size w0 w':=by
 have hu26:=Tryz.underlying26
 have hu55:=Tryz.underlying55
 have hu50:=Tryz.underlying50
 obtain ⟨AR,cR,AF,cF,AN,cN,eR,lR,CR,eF,lF,CF,eN,lN,CN⟩:=hMd.reads
 subst eR;subst eF;subst eN
 obtain ⟨k1,h1⟩:=h1;obtain ⟨k2,h2⟩:=h2
 have A1:=Mk h1;have A2:=Mk h2
 have MD:=Mk (hMd.bound.mono (X':=fun k=>k < w.heap.size) (fun k hk=>hk.2))
 have OR:=Mk (Kd.R_lt hMd.recs)
 have OF:=Mk (Kd.R_lt hMd.funs)
 have OC:=Mk (Kd.R_lt hMd.code)
 have HB:=Mk hB0
 have HW:=Mk hB0.size
 have HB0:=Mk hb0
 clear hb0
 have c1b0 : ((wd ws 0).toList == ([114,101,99,111,114,100] : List UInt8)) = false:=beq_eq_false_iff_ne.mpr c1
 have c2b0 : ((wd ws 0).toList == ([102,114,105,101,110,100] : List UInt8)) = false:=beq_eq_false_iff_ne.mpr c2
 have c3b0 : ((wd ws 0).toList == ([102,117,110,99] : List UInt8)) = false:=beq_eq_false_iff_ne.mpr c3
 have RL:=Mk (show fr.length = M.f.length from by
  obtain ⟨_,_,a3⟩:=Foot.now hMd.rest
  rcases a3 with ⟨e1,e2⟩ | ⟨fs0,g,fr0,s,e1,e2,h1,h2⟩
  ·rw [e1,e2];rfl
  ·rw [e1,e2];simp [h1.1])
 clear h1 h2 hMd hB0 CR CF CN lR lF lN
 go_enter Tryz.func10,Tryz.ntmps10
 go_upto_region 15 with (first
  | ((with_reducible refine gate_dst (N:=2) rfl ?_);refine U.bx 2 26 #[.slice AR M.r.length cR,.slice AF M.f.length cF,.slice AN M.n.length cN] ?_;intro gm hg w1 hbox hb;have BM:=Mk hbox;have GM:=Mk (show w.heap.size ≤ gm by rw [hg];exact Nat.le_refl _);replace MD:=Mk (MD.out.below hb);replace HB:=Mk (below_step HB.out hb);have HN:=Mk hb.size;clear hg hbox hb)
  | ((with_reducible refine gate_dst (N:=4) rfl ?_);refine U.bx 4 26 #[.slice none 0 0,.slice none 0 0,.slice none 0 0] ?_;intro g2 hg w2 hbox hb;have B2:=Mk hbox;have G2:=Mk (show w.heap.size ≤ g2 by rw [hg];exact HN.out);have NM2:=Mk (show gm ≠ g2 by rw [hg];exact Nat.ne_of_lt (blk_lt BM.out));replace BM:=Mk (blk_below BM.out hb);replace MD:=Mk (MD.out.below hb);replace HB:=Mk (below_step HB.out hb);replace HN:=Mk (Nat.le_trans HN.out hb.size);clear hg hbox hb)
  | ((with_reducible refine gate_callee (f:=25) rfl ?_);refine U.gl (some 16) Tryz.func25 #[.string line] ?_;(with_reducible refine (spec_l3Words.calls k1 line ws _ A1.out).mono ?_);rintro e w3 ⟨vW,rfl,ho,hb⟩;refine ⟨_,rfl,?_⟩;have HWd:=Mk (Kd.R_mono (ok':=fun k=>w.heap.size ≤ k ∧ k ≠ gm ∧ k ≠ g2) (Kd.R_bound ho) (fun k hk=>⟨Nat.le_trans HN.out hk.2.1,fun he=>by have:=blk_lt BM.out;have:=hk.2.1;omega,fun he=>by have:=blk_lt B2.out;have:=hk.2.1;omega⟩));replace BM:=Mk (blk_below BM.out hb);replace B2:=Mk (blk_below B2.out hb);replace MD:=Mk ((MD.out.below hb).mono (X':=fun k=>k ≠ gm ∧ k ≠ g2) (fun k hk=>⟨Nat.ne_of_lt (Nat.lt_of_lt_of_le hk GM.out),Nat.ne_of_lt (Nat.lt_of_lt_of_le hk G2.out)⟩));replace HB:=Mk (below_step HB.out hb);replace HN:=Mk (Nat.le_trans HN.out hb.size);clear ho hb;obtain ⟨gw,cW,eW,_,_,_⟩:=Kd.R_form HWd.out (by omega);subst eW;obtain ⟨ad,ea,hx0⟩:=Kd.at_string (Kd.R_reads' HWd.out).2.2 0 (by omega) (by omega);cases ea;(change _ = some (Value.string (wd ws 0)) at hx0);(change World.cell? _ ⟨gw,0,none⟩ = _ at hx0);have p0 : (0 < ws.length) = True:=eq_true (by omega);obtain ⟨hm0,hm1,hm2,hz0,hz1,hz2⟩:=U.d3 BM))
 have HWF:=Mk (show w.heap.size ≤ gm ∧ w.heap.size ≤ g2 from ⟨GM.out,G2.out⟩)
 clear hx0 hm0 hm1 hm2 hz0 hz1 hz2
 go_wp2_with (first
  | ((with_reducible refine gate_callee (f:=30) rfl ?_);refine U.gl (some 94) Tryz.func30 #[.string line] ?_;(with_reducible refine (spec_InsRead.calls k2 line x1 x2 x3 false _ A2.out).mono ?_);rintro e w5 ⟨rfl,hb⟩;refine ⟨_,rfl,?_⟩;replace BM:=Mk (blk_below BM.out hb);replace B2:=Mk (blk_below B2.out hb);replace MD:=Mk (MD.out.below hb);replace HB:=Mk (below_step HB.out hb);replace HN:=Mk (Nat.le_trans HN.out hb.size);clear hb)
  | ((with_reducible refine gate_dst (N:=13) rfl ?_);refine U.bx 13 59 #[.string ⟨#[]⟩,.int .i64 0,.int .i64 0] ?_;intro gx hg w6 hbox hb;have BX:=Mk hbox;replace MD:=Mk ((MD.out.bound.mono (X':=fun k=>(k ≠ gm ∧ k ≠ g2) ∧ k ≠ gx) (fun k hk=>⟨hk.1,by rw [hg];exact Nat.ne_of_lt hk.2⟩)).below hb);have NX1:=Mk (show gm ≠ gx by rw [hg];exact Nat.ne_of_lt (blk_lt BM.out));have NX2:=Mk (show g2 ≠ gx by rw [hg];exact Nat.ne_of_lt (blk_lt B2.out));have GX:=Mk (show w.heap.size ≤ gx by rw [hg];exact HN.out);replace BM:=Mk (blk_below BM.out hb);replace B2:=Mk (blk_below B2.out hb);replace HB:=Mk (below_step HB.out hb);clear hg hbox hb;obtain ⟨hm0,hm1,hm2,hz0,hz1,hz2⟩:=U.d3 BM;obtain ⟨x0,x1',x2',y0,y1,y2⟩:=U.d3 BX;obtain ⟨h20,h21,h22,f20,f21,f22⟩:=U.d3 B2;have nm2:=NM2.out;have nm3:=NM2.out.symm;have nx3:=NX2.out;have nx4:=NX2.out.symm;have nx1:=NX1.out;have nx2:=NX1.out.symm))
 have hfar : ∀ k,k ≠ gx → (((w6.setCell ⟨gx,0,none⟩ (.string x1)).setCell ⟨gx,1,none⟩ (.int .i64 x2)).setCell ⟨gx,2,none⟩ (.int .i64 x3)).heap[k]? = w6.heap[k]?:=fun k h=>by rw [Below.heap_setCell _ _ _ k h,Below.heap_setCell _ _ _ k h,Below.heap_setCell _ _ _ k h]
 have hgx:=Nat.le_trans HW.out GX.out
 have hg2:=Nat.le_trans HW.out G2.out
 have HB4:=(((((HB.out.setCell (p:=⟨gx,0,none⟩) hgx (.string x1)).setCell (p:=⟨gx,1,none⟩) hgx (.int .i64 x2)).setCell (p:=⟨gx,2,none⟩) hgx (.int .i64 x3)).setCell (p:=⟨g2,0,none⟩) hg2 (.slice AR M.r.length cR)).setCell (p:=⟨g2,1,none⟩) hg2 (.slice AF M.f.length cF)).setCell (p:=⟨g2,2,none⟩) hg2 (.slice AN M.n.length cN)
 replace B2:=Mk ((hfar g2 NX2.out).trans B2.out)
 have C3:=Mk (blk_put (cs:=#[.slice AR M.r.length cR,.slice AF M.f.length cF,.slice none 0 0]) (blk_put (cs:=#[.slice AR M.r.length cR,.slice none 0 0,.slice none 0 0]) (blk_put (cs:=#[.slice none 0 0,.slice none 0 0,.slice none 0 0]) B2.out 0 (.slice AR M.r.length cR) rfl) 1 (.slice AF M.f.length cF) rfl) 2 (.slice AN M.n.length cN) rfl)
 refine bodyPost_ret (results_ct rfl _ _ g2 26 #[.slice AR M.r.length cR,.slice AF M.f.length cF,.slice AN M.n.length cN] (0,0) _ rfl C3.out Tryz.underlying26 rfl (by kernel_rfl)) rfl ?_
 exact ⟨_,⟨_,_,_,_,_,_,_,_,_,rfl⟩,rfl,HB4⟩
set_option maxHeartbeats 4000000 in
set_option maxRecDepth 100000 in
theorem bad_b (base : Nat) (w0 w : World) (rr fr : List (List Value)) (vR vF vN cl : Value) (M : MO) (line : ByteArray) (ws : List ByteArray) (x1 : ByteArray) (x2 x3 : Int) (hlen : M.f.length ≤ 1000) (hf0 : M.f.length = 0) (hb0 : base = w0.heap.size) (hMd : Md w base (fun _=>True) rr fr vR vF vN cl M) (hB0 : Below w0.heap.size w0 w)
  (h1 : ∃ k,spec_l3Words.f k line = some ws) (hw2 : ws.length ≤ 5000) (hw1 : 1 ≤ ws.length) (c1 : (wd ws 0).toList ≠ ([114,101,99,111,114,100] : List UInt8)) (c2 : (wd ws 0).toList ≠ ([102,114,105,101,110,100] : List UInt8)) (c3 : (wd ws 0).toList ≠ ([102,117,110,99] : List UInt8)) (h2 : ∃ k,spec_InsRead.f k line = some (x1,x2,x3,true)) :
  Calls Tryz.prog 10 #[.agg #[vR,vF,vN],.string line] w fun e w'=>∃ x,Ag3 x ∧ e = .returned (.tuple #[x,.bool false]) ∧ Below w0.heap.size w0 w':=by
 have hu26:=Tryz.underlying26
 have hu55:=Tryz.underlying55
 have hu50:=Tryz.underlying50
 obtain ⟨AR,cR,AF,cF,AN,cN,eR,lR,CR,eF,lF,CF,eN,lN,CN⟩:=hMd.reads
 subst eR;subst eF;subst eN
 obtain ⟨k1,h1⟩:=h1;obtain ⟨k2,h2⟩:=h2
 have A1:=Mk h1;have A2:=Mk h2
 have MD:=Mk (hMd.bound.mono (X':=fun k=>k < w.heap.size) (fun k hk=>hk.2))
 have OR:=Mk (Kd.R_lt hMd.recs)
 have OF:=Mk (Kd.R_lt hMd.funs)
 have OC:=Mk (Kd.R_lt hMd.code)
 have HB:=Mk hB0
 have HW:=Mk hB0.size
 have HB0:=Mk hb0
 clear hb0
 have c1b0 : ((wd ws 0).toList == ([114,101,99,111,114,100] : List UInt8)) = false:=beq_eq_false_iff_ne.mpr c1
 have c2b0 : ((wd ws 0).toList == ([102,114,105,101,110,100] : List UInt8)) = false:=beq_eq_false_iff_ne.mpr c2
 have c3b0 : ((wd ws 0).toList == ([102,117,110,99] : List UInt8)) = false:=beq_eq_false_iff_ne.mpr c3
 have z0 : ((M.f.length : Int) == 0) = true:=beq_iff_eq.mpr (by omega)
 have RL:=Mk (show fr.length = M.f.length from by
  obtain ⟨_,_,a3⟩:=Foot.now hMd.rest
  rcases a3 with ⟨e1,e2⟩ | ⟨fs0,g,fr0,s,e1,e2,h1,h2⟩
  ·rw [e1,e2];rfl
  ·rw [e1,e2];simp [h1.1])
 clear hf0
 clear h1 h2 hMd hB0 CR CF CN lR lF lN
 go_enter Tryz.func10,Tryz.ntmps10
 go_upto_region 15 with (first
  | ((with_reducible refine gate_dst (N:=2) rfl ?_);refine U.bx 2 26 #[.slice AR M.r.length cR,.slice AF M.f.length cF,.slice AN M.n.length cN] ?_;intro gm hg w1 hbox hb;have BM:=Mk hbox;have GM:=Mk (show w.heap.size ≤ gm by rw [hg];exact Nat.le_refl _);replace MD:=Mk (MD.out.below hb);replace HB:=Mk (below_step HB.out hb);have HN:=Mk hb.size;clear hg hbox hb)
  | ((with_reducible refine gate_dst (N:=4) rfl ?_);refine U.bx 4 26 #[.slice none 0 0,.slice none 0 0,.slice none 0 0] ?_;intro g2 hg w2 hbox hb;have B2:=Mk hbox;have G2:=Mk (show w.heap.size ≤ g2 by rw [hg];exact HN.out);have NM2:=Mk (show gm ≠ g2 by rw [hg];exact Nat.ne_of_lt (blk_lt BM.out));replace BM:=Mk (blk_below BM.out hb);replace MD:=Mk (MD.out.below hb);replace HB:=Mk (below_step HB.out hb);replace HN:=Mk (Nat.le_trans HN.out hb.size);clear hg hbox hb)
  | ((with_reducible refine gate_callee (f:=25) rfl ?_);refine U.gl (some 16) Tryz.func25 #[.string line] ?_;(with_reducible refine (spec_l3Words.calls k1 line ws _ A1.out).mono ?_);rintro e w3 ⟨vW,rfl,ho,hb⟩;refine ⟨_,rfl,?_⟩;have HWd:=Mk (Kd.R_mono (ok':=fun k=>w.heap.size ≤ k ∧ k ≠ gm ∧ k ≠ g2) (Kd.R_bound ho) (fun k hk=>⟨Nat.le_trans HN.out hk.2.1,fun he=>by have:=blk_lt BM.out;have:=hk.2.1;omega,fun he=>by have:=blk_lt B2.out;have:=hk.2.1;omega⟩));replace BM:=Mk (blk_below BM.out hb);replace B2:=Mk (blk_below B2.out hb);replace MD:=Mk ((MD.out.below hb).mono (X':=fun k=>k ≠ gm ∧ k ≠ g2) (fun k hk=>⟨Nat.ne_of_lt (Nat.lt_of_lt_of_le hk GM.out),Nat.ne_of_lt (Nat.lt_of_lt_of_le hk G2.out)⟩));replace HB:=Mk (below_step HB.out hb);replace HN:=Mk (Nat.le_trans HN.out hb.size);clear ho hb;obtain ⟨gw,cW,eW,_,_,_⟩:=Kd.R_form HWd.out (by omega);subst eW;obtain ⟨ad,ea,hx0⟩:=Kd.at_string (Kd.R_reads' HWd.out).2.2 0 (by omega) (by omega);cases ea;(change _ = some (Value.string (wd ws 0)) at hx0);(change World.cell? _ ⟨gw,0,none⟩ = _ at hx0);have p0 : (0 < ws.length) = True:=eq_true (by omega);obtain ⟨hm0,hm1,hm2,hz0,hz1,hz2⟩:=U.d3 BM))
 have HWF:=Mk (show w.heap.size ≤ gm ∧ w.heap.size ≤ g2 from ⟨GM.out,G2.out⟩)
 clear hx0 hm0 hm1 hm2 hz0 hz1 hz2
 go_wp2_with (first
  | ((with_reducible refine gate_callee (f:=30) rfl ?_);refine U.gl (some 94) Tryz.func30 #[.string line] ?_;(with_reducible refine (spec_InsRead.calls k2 line x1 x2 x3 true _ A2.out).mono ?_);rintro e w5 ⟨rfl,hb⟩;refine ⟨_,rfl,?_⟩;replace BM:=Mk (blk_below BM.out hb);replace B2:=Mk (blk_below B2.out hb);replace MD:=Mk (MD.out.below hb);replace HB:=Mk (below_step HB.out hb);replace HN:=Mk (Nat.le_trans HN.out hb.size);clear hb)
  | ((with_reducible refine gate_dst (N:=13) rfl ?_);refine U.bx 13 59 #[.string ⟨#[]⟩,.int .i64 0,.int .i64 0] ?_;intro gx hg w6 hbox hb;have BX:=Mk hbox;replace MD:=Mk ((MD.out.bound.mono (X':=fun k=>(k ≠ gm ∧ k ≠ g2) ∧ k ≠ gx) (fun k hk=>⟨hk.1,by rw [hg];exact Nat.ne_of_lt hk.2⟩)).below hb);have NX1:=Mk (show gm ≠ gx by rw [hg];exact Nat.ne_of_lt (blk_lt BM.out));have NX2:=Mk (show g2 ≠ gx by rw [hg];exact Nat.ne_of_lt (blk_lt B2.out));have GX:=Mk (show w.heap.size ≤ gx by rw [hg];exact HN.out);replace BM:=Mk (blk_below BM.out hb);replace B2:=Mk (blk_below B2.out hb);replace HB:=Mk (below_step HB.out hb);clear hg hbox hb;obtain ⟨hm0,hm1,hm2,hz0,hz1,hz2⟩:=U.d3 BM;obtain ⟨x0,x1',x2',y0,y1,y2⟩:=U.d3 BX;obtain ⟨h20,h21,h22,f20,f21,f22⟩:=U.d3 B2;have nm2:=NM2.out;have nm3:=NM2.out.symm;have nx3:=NX2.out;have nx4:=NX2.out.symm;have nx1:=NX1.out;have nx2:=NX1.out.symm))
 have hfar : ∀ k,k ≠ gx → (((w6.setCell ⟨gx,0,none⟩ (.string x1)).setCell ⟨gx,1,none⟩ (.int .i64 x2)).setCell ⟨gx,2,none⟩ (.int .i64 x3)).heap[k]? = w6.heap[k]?:=fun k h=>by rw [Below.heap_setCell _ _ _ k h,Below.heap_setCell _ _ _ k h,Below.heap_setCell _ _ _ k h]
 have hgx:=Nat.le_trans HW.out GX.out
 have hg2:=Nat.le_trans HW.out G2.out
 have HB4:=(((((HB.out.setCell (p:=⟨gx,0,none⟩) hgx (.string x1)).setCell (p:=⟨gx,1,none⟩) hgx (.int .i64 x2)).setCell (p:=⟨gx,2,none⟩) hgx (.int .i64 x3)).setCell (p:=⟨g2,0,none⟩) hg2 (.slice AR M.r.length cR)).setCell (p:=⟨g2,1,none⟩) hg2 (.slice AF M.f.length cF)).setCell (p:=⟨g2,2,none⟩) hg2 (.slice AN M.n.length cN)
 replace B2:=Mk ((hfar g2 NX2.out).trans B2.out)
 have C3:=Mk (blk_put (cs:=#[.slice AR M.r.length cR,.slice AF M.f.length cF,.slice none 0 0]) (blk_put (cs:=#[.slice AR M.r.length cR,.slice none 0 0,.slice none 0 0]) (blk_put (cs:=#[.slice none 0 0,.slice none 0 0,.slice none 0 0]) B2.out 0 (.slice AR M.r.length cR) rfl) 1 (.slice AF M.f.length cF) rfl) 2 (.slice AN M.n.length cN) rfl)
 refine bodyPost_ret (results_ct rfl _ _ g2 26 #[.slice AR M.r.length cR,.slice AF M.f.length cF,.slice AN M.n.length cN] (0,0) _ rfl C3.out Tryz.underlying26 rfl (by kernel_rfl)) rfl ?_
 exact ⟨_,⟨_,_,_,_,_,_,_,_,_,rfl⟩,rfl,HB4⟩
set_option maxHeartbeats 4000000 in
set_option maxRecDepth 100000 in
theorem bad_c (base : Nat) (w0 w : World) (rr fr : List (List Value)) (vR vF vN cl : Value) (M : MO) (line : ByteArray) (ws : List ByteArray) (x1 : ByteArray) (x2 x3 : Int) (hlen : M.f.length ≤ 1000) (hf0 : 0 < M.f.length) (h40 : (lastF M).f5.length = 40) (hb0 : base = w0.heap.size) (hMd : Md w base (fun _=>True) rr fr vR vF vN cl M) (hB0 : Below w0.heap.size w0 w)
  (h1 : ∃ k,spec_l3Words.f k line = some ws) (hw2 : ws.length ≤ 5000) (hw1 : 1 ≤ ws.length) (c1 : (wd ws 0).toList ≠ ([114,101,99,111,114,100] : List UInt8)) (c2 : (wd ws 0).toList ≠ ([102,114,105,101,110,100] : List UInt8)) (c3 : (wd ws 0).toList ≠ ([102,117,110,99] : List UInt8)) (h2 : ∃ k,spec_InsRead.f k line = some (x1,x2,x3,true)) :
  Calls Tryz.prog 10 #[.agg #[vR,vF,vN],.string line] w fun e w'=>∃ x,Ag3 x ∧ e = .returned (.tuple #[x,.bool false]) ∧ Below w0.heap.size w0 w':=by
 have hu26:=Tryz.underlying26
 have hu55:=Tryz.underlying55
 have hu50:=Tryz.underlying50
 obtain ⟨AR,cR,AF,cF,AN,cN,eR,lR,CR,eF,lF,CF,eN,lN,CN⟩:=hMd.reads
 subst eR;subst eF;subst eN
 obtain ⟨k1,h1⟩:=h1;obtain ⟨k2,h2⟩:=h2
 have A1:=Mk h1;have A2:=Mk h2
 have MD:=Mk (hMd.bound.mono (X':=fun k=>k < w.heap.size) (fun k hk=>hk.2))
 have OR:=Mk (Kd.R_lt hMd.recs)
 have OF:=Mk (Kd.R_lt hMd.funs)
 have OC:=Mk (Kd.R_lt hMd.code)
 have HB:=Mk hB0
 have HW:=Mk hB0.size
 have HB0:=Mk hb0
 clear hb0
 have c1b0 : ((wd ws 0).toList == ([114,101,99,111,114,100] : List UInt8)) = false:=beq_eq_false_iff_ne.mpr c1
 have c2b0 : ((wd ws 0).toList == ([102,114,105,101,110,100] : List UInt8)) = false:=beq_eq_false_iff_ne.mpr c2
 have c3b0 : ((wd ws 0).toList == ([102,117,110,99] : List UInt8)) = false:=beq_eq_false_iff_ne.mpr c3
 have z0 : ((M.f.length : Int) == 0) = false:=beq_eq_false_iff_ne.mpr (by omega)
 have z1 : (((lastF M).f5.length : Int) == 40) = true:=beq_iff_eq.mpr (by omega)
 obtain ⟨mm,hmm⟩ : ∃ m : Nat,m + 1 = M.f.length:=⟨M.f.length - 1,by omega⟩
 have hwm : wrap64 ((M.f.length : Int) - 1) = (mm : Int):=by unfold wrap64;omega
 have hwi : IntKind.i64.wrap ((M.f.length : Int) - 1) = (mm : Int):=(i64_w _).trans hwm
 have m1 : (0 ≤ (mm : Int)) = True:=eq_true (by omega)
 have m2 : ((mm : Int) < (M.f.length : Int)) = True:=eq_true (by omega)
 have RL:=Mk (show fr.length = M.f.length from by
  obtain ⟨_,_,a3⟩:=Foot.now hMd.rest
  rcases a3 with ⟨e1,e2⟩ | ⟨fs0,g,fr0,s,e1,e2,h1,h2⟩
  ·rw [e1,e2];rfl
  ·rw [e1,e2];simp [h1.1])
 clear h1 h2 hMd hB0 CR CF CN lR lF lN
 go_enter Tryz.func10,Tryz.ntmps10
 go_upto_region 15 with (first
  | ((with_reducible refine gate_dst (N:=2) rfl ?_);refine U.bx 2 26 #[.slice AR M.r.length cR,.slice AF M.f.length cF,.slice AN M.n.length cN] ?_;intro gm hg w1 hbox hb;have BM:=Mk hbox;have GM:=Mk (show w.heap.size ≤ gm by rw [hg];exact Nat.le_refl _);replace MD:=Mk (MD.out.below hb);replace HB:=Mk (below_step HB.out hb);have HN:=Mk hb.size;clear hg hbox hb)
  | ((with_reducible refine gate_dst (N:=4) rfl ?_);refine U.bx 4 26 #[.slice none 0 0,.slice none 0 0,.slice none 0 0] ?_;intro g2 hg w2 hbox hb;have B2:=Mk hbox;have G2:=Mk (show w.heap.size ≤ g2 by rw [hg];exact HN.out);have NM2:=Mk (show gm ≠ g2 by rw [hg];exact Nat.ne_of_lt (blk_lt BM.out));replace BM:=Mk (blk_below BM.out hb);replace MD:=Mk (MD.out.below hb);replace HB:=Mk (below_step HB.out hb);replace HN:=Mk (Nat.le_trans HN.out hb.size);clear hg hbox hb)
  | ((with_reducible refine gate_callee (f:=25) rfl ?_);refine U.gl (some 16) Tryz.func25 #[.string line] ?_;(with_reducible refine (spec_l3Words.calls k1 line ws _ A1.out).mono ?_);rintro e w3 ⟨vW,rfl,ho,hb⟩;refine ⟨_,rfl,?_⟩;have HWd:=Mk (Kd.R_mono (ok':=fun k=>w.heap.size ≤ k ∧ k ≠ gm ∧ k ≠ g2) (Kd.R_bound ho) (fun k hk=>⟨Nat.le_trans HN.out hk.2.1,fun he=>by have:=blk_lt BM.out;have:=hk.2.1;omega,fun he=>by have:=blk_lt B2.out;have:=hk.2.1;omega⟩));replace BM:=Mk (blk_below BM.out hb);replace B2:=Mk (blk_below B2.out hb);replace MD:=Mk ((MD.out.below hb).mono (X':=fun k=>k ≠ gm ∧ k ≠ g2) (fun k hk=>⟨Nat.ne_of_lt (Nat.lt_of_lt_of_le hk GM.out),Nat.ne_of_lt (Nat.lt_of_lt_of_le hk G2.out)⟩));replace HB:=Mk (below_step HB.out hb);replace HN:=Mk (Nat.le_trans HN.out hb.size);clear ho hb;obtain ⟨gw,cW,eW,_,_,_⟩:=Kd.R_form HWd.out (by omega);subst eW;obtain ⟨ad,ea,hx0⟩:=Kd.at_string (Kd.R_reads' HWd.out).2.2 0 (by omega) (by omega);cases ea;(change _ = some (Value.string (wd ws 0)) at hx0);(change World.cell? _ ⟨gw,0,none⟩ = _ at hx0);have p0 : (0 < ws.length) = True:=eq_true (by omega);obtain ⟨hm0,hm1,hm2,hz0,hz1,hz2⟩:=U.d3 BM))
 have MDL:=MD.out.last hf0
 obtain ⟨gF,cF',eF',_,hcl,hfz,hgF1,hgF2⟩:=MDL
 obtain ⟨rfl,rfl⟩ : AF = some ⟨gF,0,none⟩ ∧ cF = cF':=by injection eF' with x _ y;exact ⟨x,y⟩
 clear eF'
 obtain ⟨AC,cC,eC⟩:=Kd.R_slice MD.out.code
 subst eC
 have em : M.f.length - 1 = mm:=by omega
 have EM:=Mk em
 rw [em] at hcl hfz
 clear em
 have HWF:=Mk (show w.heap.size ≤ gm ∧ w.heap.size ≤ g2 from ⟨GM.out,G2.out⟩)
 have FL:=Mk (show gF < w.heap.size from OF.out gF (by simp [Value.ownBlock]))
 clear hx0 hm0 hm1 hm2 hz0 hz1 hz2 hcl hfz
 go_wp2_with (first
  | ((with_reducible refine gate_callee (f:=30) rfl ?_);refine U.gl (some 94) Tryz.func30 #[.string line] ?_;(with_reducible refine (spec_InsRead.calls k2 line x1 x2 x3 true _ A2.out).mono ?_);rintro e w5 ⟨rfl,hb⟩;refine ⟨_,rfl,?_⟩;replace BM:=Mk (blk_below BM.out hb);replace B2:=Mk (blk_below B2.out hb);replace MD:=Mk (MD.out.below hb);replace HB:=Mk (below_step HB.out hb);replace HN:=Mk (Nat.le_trans HN.out hb.size);clear hb)
  | ((with_reducible refine gate_dst (N:=13) rfl ?_);refine U.bx 13 59 #[.string ⟨#[]⟩,.int .i64 0,.int .i64 0] ?_;intro gx hg w6 hbox hb;have BX:=Mk hbox;replace MD:=Mk ((MD.out.bound.mono (X':=fun k=>(k ≠ gm ∧ k ≠ g2) ∧ k ≠ gx) (fun k hk=>⟨hk.1,by rw [hg];exact Nat.ne_of_lt hk.2⟩)).below hb);have NX1:=Mk (show gm ≠ gx by rw [hg];exact Nat.ne_of_lt (blk_lt BM.out));have NX2:=Mk (show g2 ≠ gx by rw [hg];exact Nat.ne_of_lt (blk_lt B2.out));have GX:=Mk (show w.heap.size ≤ gx by rw [hg];exact HN.out);replace BM:=Mk (blk_below BM.out hb);replace B2:=Mk (blk_below B2.out hb);replace HB:=Mk (below_step HB.out hb);clear hg hbox hb;obtain ⟨hm0,hm1,hm2,hz0,hz1,hz2⟩:=U.d3 BM;obtain ⟨x0,x1',x2',y0,y1,y2⟩:=U.d3 BX;obtain ⟨h20,h21,h22,f20,f21,f22⟩:=U.d3 B2;have nm2:=NM2.out;have nm3:=NM2.out.symm;have nx3:=NX2.out;have nx4:=NX2.out.symm;obtain ⟨gF',cF',eF',_,hcl,hfz,_,_⟩:=MD.out.last hf0;(obtain rfl : gF = gF':=by injection eF' with x _ _;injection x with x;injection x);clear eF';rw [EM.out] at hcl hfz;have nx1:=NX1.out;have nx2:=NX1.out.symm;have nf1 : gF ≠ gx:=(fun he=>by have:=FL.out;have:=GX.out;omega);have nf2 : gF ≠ gm:=(fun he=>by have:=FL.out;have:=GM.out;omega)))
 have hfar : ∀ k,k ≠ gx → (((w6.setCell ⟨gx,0,none⟩ (.string x1)).setCell ⟨gx,1,none⟩ (.int .i64 x2)).setCell ⟨gx,2,none⟩ (.int .i64 x3)).heap[k]? = w6.heap[k]?:=fun k h=>by rw [Below.heap_setCell _ _ _ k h,Below.heap_setCell _ _ _ k h,Below.heap_setCell _ _ _ k h]
 have hgx:=Nat.le_trans HW.out GX.out
 have hg2:=Nat.le_trans HW.out G2.out
 have HB4:=(((((HB.out.setCell (p:=⟨gx,0,none⟩) hgx (.string x1)).setCell (p:=⟨gx,1,none⟩) hgx (.int .i64 x2)).setCell (p:=⟨gx,2,none⟩) hgx (.int .i64 x3)).setCell (p:=⟨g2,0,none⟩) hg2 (.slice AR M.r.length cR)).setCell (p:=⟨g2,1,none⟩) hg2 (.slice (some ⟨gF,0,none⟩) M.f.length cF)).setCell (p:=⟨g2,2,none⟩) hg2 (.slice AN M.n.length cN)
 replace B2:=Mk ((hfar g2 NX2.out).trans B2.out)
 have C3:=Mk (blk_put (cs:=#[.slice AR M.r.length cR,.slice (some ⟨gF,0,none⟩) M.f.length cF,.slice none 0 0]) (blk_put (cs:=#[.slice AR M.r.length cR,.slice none 0 0,.slice none 0 0]) (blk_put (cs:=#[.slice none 0 0,.slice none 0 0,.slice none 0 0]) B2.out 0 (.slice AR M.r.length cR) rfl) 1 (.slice (some ⟨gF,0,none⟩) M.f.length cF) rfl) 2 (.slice AN M.n.length cN) rfl)
 refine bodyPost_ret (results_ct rfl _ _ g2 26 #[.slice AR M.r.length cR,.slice (some ⟨gF,0,none⟩) M.f.length cF,.slice AN M.n.length cN] (0,0) _ rfl C3.out Tryz.underlying26 rfl (by kernel_rfl)) rfl ?_
 exact ⟨_,⟨_,_,_,_,_,_,_,_,_,rfl⟩,rfl,HB4⟩
set_option maxHeartbeats 4000000 in
set_option maxRecDepth 100000 in
theorem badr_a (base : Nat) (w0 w : World) (rr fr : List (List Value)) (vR vF vN cl : Value) (M : MO) (line : ByteArray) (ws : List ByteArray) (x1 : ByteArray) (x2 x3 : Int) (hlen : M.f.length ≤ 1000)  (hb0 : base = w0.heap.size) (hMd : Md w base (fun _=>True) rr fr vR vF vN cl M) (hB0 : Below w0.heap.size w0 w)
  (h1 : ∃ k,spec_l3Words.f k line = some ws) (hw2 : ws.length ≤ 5000) (hw1 : 1 ≤ ws.length) (c1 : (wd ws 0).toList = ([114,101,99,111,114,100] : List UInt8)) (c9 : ws.length = 1) (h2 : ∃ k,spec_InsRead.f k line = some (x1,x2,x3,false)) :
  Calls Tryz.prog 10 #[.agg #[vR,vF,vN],.string line] w fun e w'=>∃ x,Ag3 x ∧ e = .returned (.tuple #[x,.bool false]) ∧ Below w0.heap.size w0 w':=by
 have hu26:=Tryz.underlying26
 have hu55:=Tryz.underlying55
 have hu50:=Tryz.underlying50
 obtain ⟨AR,cR,AF,cF,AN,cN,eR,lR,CR,eF,lF,CF,eN,lN,CN⟩:=hMd.reads
 subst eR;subst eF;subst eN
 obtain ⟨k1,h1⟩:=h1;obtain ⟨k2,h2⟩:=h2
 have A1:=Mk h1;have A2:=Mk h2
 have MD:=Mk (hMd.bound.mono (X':=fun k=>k < w.heap.size) (fun k hk=>hk.2))
 have OR:=Mk (Kd.R_lt hMd.recs)
 have OF:=Mk (Kd.R_lt hMd.funs)
 have OC:=Mk (Kd.R_lt hMd.code)
 have HB:=Mk hB0
 have HW:=Mk hB0.size
 have HB0:=Mk hb0
 clear hb0
 have c1b0 : ((wd ws 0).toList == ([114,101,99,111,114,100] : List UInt8)) = true:=beq_iff_eq.mpr c1
 have c2b0 : ((wd ws 0).toList == ([102,114,105,101,110,100] : List UInt8)) = false:=by rw [c1];rfl
 have c3b0 : ((wd ws 0).toList == ([102,117,110,99] : List UInt8)) = false:=by rw [c1];rfl
 have c9b0 : decide ((1 : Int) < (ws.length : Int)) = false:=decide_eq_false (by omega)
 have c9b1 : decide (1 < ws.length) = false:=decide_eq_false (by omega)
 have RL:=Mk (show fr.length = M.f.length from by
  obtain ⟨_,_,a3⟩:=Foot.now hMd.rest
  rcases a3 with ⟨e1,e2⟩ | ⟨fs0,g,fr0,s,e1,e2,h1,h2⟩
  ·rw [e1,e2];rfl
  ·rw [e1,e2];simp [h1.1])
 clear h1 h2 hMd hB0 CR CF CN lR lF lN
 go_enter Tryz.func10,Tryz.ntmps10
 go_upto_region 15 with (first
  | ((with_reducible refine gate_dst (N:=2) rfl ?_);refine U.bx 2 26 #[.slice AR M.r.length cR,.slice AF M.f.length cF,.slice AN M.n.length cN] ?_;intro gm hg w1 hbox hb;have BM:=Mk hbox;have GM:=Mk (show w.heap.size ≤ gm by rw [hg];exact Nat.le_refl _);replace MD:=Mk (MD.out.below hb);replace HB:=Mk (below_step HB.out hb);have HN:=Mk hb.size;clear hg hbox hb)
  | ((with_reducible refine gate_dst (N:=4) rfl ?_);refine U.bx 4 26 #[.slice none 0 0,.slice none 0 0,.slice none 0 0] ?_;intro g2 hg w2 hbox hb;have B2:=Mk hbox;have G2:=Mk (show w.heap.size ≤ g2 by rw [hg];exact HN.out);have NM2:=Mk (show gm ≠ g2 by rw [hg];exact Nat.ne_of_lt (blk_lt BM.out));replace BM:=Mk (blk_below BM.out hb);replace MD:=Mk (MD.out.below hb);replace HB:=Mk (below_step HB.out hb);replace HN:=Mk (Nat.le_trans HN.out hb.size);clear hg hbox hb)
  | ((with_reducible refine gate_callee (f:=25) rfl ?_);refine U.gl (some 16) Tryz.func25 #[.string line] ?_;(with_reducible refine (spec_l3Words.calls k1 line ws _ A1.out).mono ?_);rintro e w3 ⟨vW,rfl,ho,hb⟩;refine ⟨_,rfl,?_⟩;have HWd:=Mk (Kd.R_mono (ok':=fun k=>w.heap.size ≤ k ∧ k ≠ gm ∧ k ≠ g2) (Kd.R_bound ho) (fun k hk=>⟨Nat.le_trans HN.out hk.2.1,fun he=>by have:=blk_lt BM.out;have:=hk.2.1;omega,fun he=>by have:=blk_lt B2.out;have:=hk.2.1;omega⟩));replace BM:=Mk (blk_below BM.out hb);replace B2:=Mk (blk_below B2.out hb);replace MD:=Mk ((MD.out.below hb).mono (X':=fun k=>k ≠ gm ∧ k ≠ g2) (fun k hk=>⟨Nat.ne_of_lt (Nat.lt_of_lt_of_le hk GM.out),Nat.ne_of_lt (Nat.lt_of_lt_of_le hk G2.out)⟩));replace HB:=Mk (below_step HB.out hb);replace HN:=Mk (Nat.le_trans HN.out hb.size);clear ho hb;obtain ⟨gw,cW,eW,_,_,_⟩:=Kd.R_form HWd.out (by omega);subst eW;obtain ⟨ad,ea,hx0⟩:=Kd.at_string (Kd.R_reads' HWd.out).2.2 0 (by omega) (by omega);cases ea;(change _ = some (Value.string (wd ws 0)) at hx0);(change World.cell? _ ⟨gw,0,none⟩ = _ at hx0);have p0 : (0 < ws.length) = True:=eq_true (by omega);obtain ⟨hm0,hm1,hm2,hz0,hz1,hz2⟩:=U.d3 BM))
 have HWF:=Mk (show w.heap.size ≤ gm ∧ w.heap.size ≤ g2 from ⟨GM.out,G2.out⟩)
 clear hx0 hm0 hm1 hm2 hz0 hz1 hz2
 go_wp2_with (first
  | ((with_reducible refine gate_callee (f:=30) rfl ?_);refine U.gl (some 94) Tryz.func30 #[.string line] ?_;(with_reducible refine (spec_InsRead.calls k2 line x1 x2 x3 false _ A2.out).mono ?_);rintro e w5 ⟨rfl,hb⟩;refine ⟨_,rfl,?_⟩;replace BM:=Mk (blk_below BM.out hb);replace B2:=Mk (blk_below B2.out hb);replace MD:=Mk (MD.out.below hb);replace HB:=Mk (below_step HB.out hb);replace HN:=Mk (Nat.le_trans HN.out hb.size);clear hb)
  | ((with_reducible refine gate_dst (N:=13) rfl ?_);refine U.bx 13 59 #[.string ⟨#[]⟩,.int .i64 0,.int .i64 0] ?_;intro gx hg w6 hbox hb;have BX:=Mk hbox;replace MD:=Mk ((MD.out.bound.mono (X':=fun k=>(k ≠ gm ∧ k ≠ g2) ∧ k ≠ gx) (fun k hk=>⟨hk.1,by rw [hg];exact Nat.ne_of_lt hk.2⟩)).below hb);have NX1:=Mk (show gm ≠ gx by rw [hg];exact Nat.ne_of_lt (blk_lt BM.out));have NX2:=Mk (show g2 ≠ gx by rw [hg];exact Nat.ne_of_lt (blk_lt B2.out));have GX:=Mk (show w.heap.size ≤ gx by rw [hg];exact HN.out);replace BM:=Mk (blk_below BM.out hb);replace B2:=Mk (blk_below B2.out hb);replace HB:=Mk (below_step HB.out hb);clear hg hbox hb;obtain ⟨hm0,hm1,hm2,hz0,hz1,hz2⟩:=U.d3 BM;obtain ⟨x0,x1',x2',y0,y1,y2⟩:=U.d3 BX;obtain ⟨h20,h21,h22,f20,f21,f22⟩:=U.d3 B2;have nm2:=NM2.out;have nm3:=NM2.out.symm;have nx3:=NX2.out;have nx4:=NX2.out.symm;have nx1:=NX1.out;have nx2:=NX1.out.symm))
 have hfar : ∀ k,k ≠ gx → (((w6.setCell ⟨gx,0,none⟩ (.string x1)).setCell ⟨gx,1,none⟩ (.int .i64 x2)).setCell ⟨gx,2,none⟩ (.int .i64 x3)).heap[k]? = w6.heap[k]?:=fun k h=>by rw [Below.heap_setCell _ _ _ k h,Below.heap_setCell _ _ _ k h,Below.heap_setCell _ _ _ k h]
 have hgx:=Nat.le_trans HW.out GX.out
 have hg2:=Nat.le_trans HW.out G2.out
 have HB4:=(((((HB.out.setCell (p:=⟨gx,0,none⟩) hgx (.string x1)).setCell (p:=⟨gx,1,none⟩) hgx (.int .i64 x2)).setCell (p:=⟨gx,2,none⟩) hgx (.int .i64 x3)).setCell (p:=⟨g2,0,none⟩) hg2 (.slice AR M.r.length cR)).setCell (p:=⟨g2,1,none⟩) hg2 (.slice AF M.f.length cF)).setCell (p:=⟨g2,2,none⟩) hg2 (.slice AN M.n.length cN)
 replace B2:=Mk ((hfar g2 NX2.out).trans B2.out)
 have C3:=Mk (blk_put (cs:=#[.slice AR M.r.length cR,.slice AF M.f.length cF,.slice none 0 0]) (blk_put (cs:=#[.slice AR M.r.length cR,.slice none 0 0,.slice none 0 0]) (blk_put (cs:=#[.slice none 0 0,.slice none 0 0,.slice none 0 0]) B2.out 0 (.slice AR M.r.length cR) rfl) 1 (.slice AF M.f.length cF) rfl) 2 (.slice AN M.n.length cN) rfl)
 refine bodyPost_ret (results_ct rfl _ _ g2 26 #[.slice AR M.r.length cR,.slice AF M.f.length cF,.slice AN M.n.length cN] (0,0) _ rfl C3.out Tryz.underlying26 rfl (by kernel_rfl)) rfl ?_
 exact ⟨_,⟨_,_,_,_,_,_,_,_,_,rfl⟩,rfl,HB4⟩
theorem kw_lists : kwRecord.toList = ([114,101,99,111,114,100] : List UInt8) ∧ kwFriend.toList = ([102,114,105,101,110,100] : List UInt8) ∧ kwFunc.toList = ([102,117,110,99] : List UInt8):=by
 refine ⟨?_,?_,?_⟩<;>decide +kernel
theorem kw_iff {x y : ByteArray} {l : List UInt8} (h : y.toList = l) : x = y ↔ x.toList = l:=⟨fun e=>by rw [e,h],fun e=>bytes_ext (e.trans h.symm)⟩
theorem words_len (s : ByteArray) : (wordsOf s).length ≤ 1 + s.size:=by
 have h:=(fold_len s.data.toList [⟨#[]⟩]).2
 have e : s.data.toList.length = s.size:=by simp
 rw [e] at h
 exact h
theorem Md.ag3 {w : World} {base : Nat} {X : Nat → Prop} {rr fr : List (List Value)} {vR vF vN cl : Value} {M : MO} (h : Md w base X rr fr vR vF vN cl M) : Ag3 (.agg #[vR,vF,vN]):=by
 obtain ⟨AR,cR,AF,cF,AN,cN,rfl,_,_,rfl,_,_,rfl,_,_⟩:=h.reads
 exact ⟨_,_,_,_,_,_,_,_,_,rfl⟩
theorem l4Read_own (base : Nat) (w0 w : World) (rr fr : List (List Value)) (vR vF vN cl : Value) (M : MO) (line : ByteArray) (hb0 : base = w0.heap.size) (hMd : Md w base (fun k=>base ≤ k) rr fr vR vF vN cl M) (hB0 : Below w0.heap.size w0 w) (hr : M.r.length ≤ 1000) (hf : M.f.length ≤ 1000) (hcl : (lastF M).f5.length ≤ 1000) (hs : line.size ≤ 4000) :
  Calls Tryz.prog 10 #[.agg #[vR,vF,vN],.string line] w fun e w'=>Below w0.heap.size w0 w' ∧ ((∃ M' rr' fr' vR' vF' vN' cl',sStep M line = some M' ∧ e = .returned (.tuple #[.agg #[vR',vF',vN'],.bool true]) ∧ Md w' base (fun k=>base ≤ k) rr' fr' vR' vF' vN' cl' M') ∨ (sStep M line = none ∧ ∃ x,Ag3 x ∧ e = .returned (.tuple #[x,.bool false]))):=by
 have hk:=ev_some (ev_spec_l3Words line (by omega))
 have hp:=words_pos line
 have hl:=words_len line
 have hi:=ev_some (ev_spec_InsRead line)
 unfold sStep
 have hrw:=fun h=>read_word (s:=line) h
 generalize wordsOf line = ws at hk hp hl hrw ⊢
 obtain ⟨q1,q2,q3⟩:=kw_lists
 by_cases k1 : wd ws 0 = kwRecord
 ·by_cases k2 : 1 < ws.length
  ·rw [if_pos ⟨k1,k2⟩]
   refine (read_rec base w0 w rr fr vR vF vN cl M line ws (sm (wd ws 1)) (forms (ws.drop 2)) hb0 hMd hB0 hr hk (by omega) ((kw_iff q1).1 k1) k2 (ev_some (ev_spec_l4Small _)) (ev_some (ev_spec_l4Fields _ (by rw [List.length_drop];omega)))).mono ?_
   rintro e w' ⟨rr',vR',rfl,h1,h2⟩
   refine ⟨h2,?_⟩
   by_cases hc : 0 ≤ sm (wd ws 1) ∧ forms (ws.drop 2) = true ∧ M.r.length < 3
   ·refine .inl ⟨_,_,_,_,_,_,_,if_pos hc,?_,h1⟩
    rw [decide_eq_true hc.1,hc.2.1,decide_eq_true (by omega : M.r.length ≤ 2)]
    rfl
   ·refine .inr ⟨if_neg hc,.agg #[vR',vF,vN],h1.ag3,?_⟩
    have : (decide (0 ≤ sm (wd ws 1)) && (forms (ws.drop 2) && decide (M.r.length ≤ 2))) = false:=by
     rw [← Bool.not_eq_true]
     intro hh
     rw [Bool.and_eq_true,Bool.and_eq_true] at hh
     exact hc ⟨of_decide_eq_true hh.1,hh.2.1,by have:=of_decide_eq_true hh.2.2;omega⟩
    rw [this]
  ·rw [if_neg (fun hh=>k2 hh.2),if_neg (by rw [k1];decide),if_neg (by rw [k1];decide)]
   have hno : (readIns line).2.2.2 = false:=by
    rw [← Bool.not_eq_true]
    intro hh
    have:=hrw hh
    rw [k1,look_kw.1] at this
    cases this
   rw [if_neg (fun hh=>by rw [hno] at hh;exact absurd hh.1 (by decide))]
   refine (badr_a base w0 w rr fr vR vF vN cl M line ws (readIns line).1 (readIns line).2.1 (readIns line).2.2.1 hf hb0 (hMd.mono (fun _ _=>trivial)) hB0 hk (by omega) hp ((kw_iff q1).1 k1) (by omega) (by rw [← hno];exact hi)).mono ?_
   rintro e w' ⟨x,hx,rfl,h2⟩
   exact ⟨h2,.inr ⟨rfl,x,hx,rfl⟩⟩
 ·rw [if_neg (fun hh=>k1 hh.1)]
  have n1:=fun h=>k1 ((kw_iff q1).2 h)
  by_cases k2 : wd ws 0 = kwFriend
  ·rw [if_pos k2]
   refine (read_fri base w0 w rr fr vR vF vN cl M line ws (numsOf (ws.drop 1)) (numsOk (ws.drop 1)) hb0 hMd hB0 hk (by omega) hp ((kw_iff q2).1 k2) (ev_some (ev_spec_l4ReadNumbers _ (by rw [List.length_drop];omega)))).mono ?_
   rintro e w' ⟨vN',rfl,h1,h2⟩
   refine ⟨h2,?_⟩
   by_cases hc : numsOk (ws.drop 1) = true
   ·refine .inl ⟨_,_,_,_,_,_,_,if_pos hc,?_,h1⟩
    rw [hc]
   ·refine .inr ⟨if_neg hc,.agg #[vR,vF,vN'],h1.ag3,?_⟩
    rw [Bool.not_eq_true] at hc
    rw [hc]
  ·rw [if_neg k2]
   have n2:=fun h=>k2 ((kw_iff q2).2 h)
   by_cases k3 : wd ws 0 = kwFunc
   ·rw [if_pos k3]
    obtain ⟨⟨r1,r2,r3,r4,r5,r6,r7⟩,hev,hrf⟩:=ev_spec_l4ReadFunc (ws.drop 1) (by rw [List.length_drop];omega)
    refine (read_fun base w0 w rr fr vR vF vN cl M line ws ⟨r1,r2,r3,r4,r5,r6⟩ r7 hf hb0 hMd hB0 hk (by omega) hp ((kw_iff q3).1 k3) hev.rounds).mono ?_
    rintro e w' ⟨fr',vF',cl',rfl,h1,h2⟩
    refine ⟨h2,?_⟩
    rw [hrf]
    cases r7 with
    | false=>exact .inr ⟨rfl,_,h1.ag3,rfl⟩
    | true =>
     by_cases hc : M.f.length < 4
     ·refine .inl ⟨_,_,_,_,_,_,_,if_pos hc,?_,h1⟩
      rw [decide_eq_true hc]
      rfl
     ·refine .inr ⟨if_neg hc,.agg #[vR,vF',vN],h1.ag3,?_⟩
      rw [decide_eq_false hc]
      rfl
   ·rw [if_neg k3]
    have n3:=fun h=>k3 ((kw_iff q3).2 h)
    by_cases c1 : (readIns line).2.2.2 = true
    ·by_cases c2 : M.f.length = 0
     ·rw [if_neg (fun hh=>hh.2.1 c2)]
      refine (bad_b base w0 w rr fr vR vF vN cl M line ws (readIns line).1 (readIns line).2.1 (readIns line).2.2.1 hf c2 hb0 (hMd.mono (fun _ _=>trivial)) hB0 hk (by omega) hp n1 n2 n3 (by rw [← c1];exact hi)).mono ?_
      rintro e w' ⟨x,hx,rfl,h2⟩
      exact ⟨h2,.inr ⟨rfl,x,hx,rfl⟩⟩
     ·by_cases c3 : (lastF M).f5.length = 40
      ·rw [if_neg (fun hh=>hh.2.2 c3)]
       refine (bad_c base w0 w rr fr vR vF vN cl M line ws (readIns line).1 (readIns line).2.1 (readIns line).2.2.1 hf (by omega) c3 hb0 (hMd.mono (fun _ _=>trivial)) hB0 hk (by omega) hp n1 n2 n3 (by rw [← c1];exact hi)).mono ?_
       rintro e w' ⟨x,hx,rfl,h2⟩
       exact ⟨h2,.inr ⟨rfl,x,hx,rfl⟩⟩
      ·rw [if_pos ⟨c1,c2,c3⟩]
       refine (read_ins base w0 w rr fr vR vF vN cl M line ws (readIns line).1 (readIns line).2.1 (readIns line).2.2.1 hf (by omega) hcl c3 hb0 hMd hB0 hk (by omega) hp n1 n2 n3 (by rw [← c1];exact hi)).mono ?_
       rintro e w' ⟨fr',cl',rfl,h1,h2⟩
       exact ⟨h2,.inl ⟨_,_,_,_,_,_,_,rfl,rfl,h1⟩⟩
    ·rw [if_neg (fun hh=>c1 hh.1)]
     refine (bad_a base w0 w rr fr vR vF vN cl M line ws (readIns line).1 (readIns line).2.1 (readIns line).2.2.1 hf hb0 (hMd.mono (fun _ _=>trivial)) hB0 hk (by omega) hp n1 n2 n3 (by rw [Bool.not_eq_true] at c1;rw [← c1];exact hi)).mono ?_
     rintro e w' ⟨x,hx,rfl,h2⟩
     exact ⟨h2,.inr ⟨rfl,x,hx,rfl⟩⟩
theorem Md.lower {w : World} {base base' : Nat} {X : Nat → Prop} {rr fr : List (List Value)} {vR vF vN cl : Value} {M : MO} (h : Md w base X rr fr vR vF vN cl M) (hb : base' ≤ base) : Md w base' X rr fr vR vF vN cl M :=
 ⟨Kd.R_lower h.recs hb,Kd.R_lower h.funs hb,Kd.R_lower h.code hb,h.rest⟩
theorem Md.empty (w : World) (base : Nat) (X : Nat → Prop) : Md w base X [] [] (.slice none 0 0) (.slice none 0 0) (.slice none 0 0) (.slice none 0 0) emptyM :=
 ⟨Kd.R_nil _ _ _ _ _,Kd.R_nil _ _ _ _ _,Kd.R_nil _ _ _ _ _,fun W _=>⟨Fa.nil,⟨none,0,rfl,Nat.le_refl _,Kd.C_nil _ _⟩,.inl ⟨rfl,rfl⟩⟩⟩
theorem ok_empty : okMod emptyM:=⟨⟨by decide,by simp [emptyM]⟩,⟨by simp [emptyM],by decide⟩,by decide,by simp [emptyM]⟩
theorem ok_sizes {M : MO} (h : okMod M) : M.r.length ≤ 1000 ∧ M.f.length ≤ 1000 ∧ (lastF M).f5.length ≤ 1000:=by
 obtain ⟨⟨r1,_⟩,_,f1,f2⟩:=h
 refine ⟨by omega,by omega,?_⟩
 by_cases h0 : M.f.length = 0
 ·unfold lastF
  rw [List.getD_eq_getElem?_getD,List.getElem?_eq_none (by omega)]
  exact Nat.zero_le _
 ·have:=(f2 _ (last_mem h0)).2.2.2.2.2.1
  omega
theorem mem_unl : ∀ (ls : List ByteArray) (x : ByteArray),x ∈ ls → x.size + 1 ≤ (unl ls).length
 | [],x,h=>by cases h
 | l :: ls,x,h=>by
  rw [unl_cons,List.length_append,List.length_cons,size_list]
  rcases List.mem_cons.1 h with rfl | h
  ·omega
  ·have:=mem_unl ls x h
   omega
theorem len_unl : ∀ ls : List ByteArray,ls.length ≤ (unl ls).length
 | []=>Nat.zero_le _
 | l :: ls=>by
  have:=len_unl ls
  rw [unl_cons,List.length_append,List.length_cons,List.length_cons]
  omega
theorem lines_small (s : ByteArray) : (linesOf s).1.length ≤ s.size ∧ ∀ x ∈ (linesOf s).1,x.size ≤ s.size:=by
 have h:=congrArg List.length (lines_of s).2
 rw [List.length_append,size_list,size_list] at h
 refine ⟨by have:=len_unl (linesOf s).1;omega,fun x hx=>by have:=mem_unl _ x hx;omega⟩
theorem foldM_take {ls : List ByteArray} {i : Nat} (hi : i < ls.length) (st : MO → ByteArray → Option MO) (M0 : MO) : (ls.take (i + 1)).foldlM st M0 = ((ls.take i).foldlM st M0).bind fun M=>st M ls[i]:=by
 rw [List.take_succ_eq_append_getElem hi,List.foldlM_append]
 cases (ls.take i).foldlM st M0 with
 | none=>rfl
 | some M =>
  show [ls[i]].foldlM st M = st M ls[i]
  rw [List.foldlM_cons]
  cases st M ls[i] with
  | none=>rfl
  | some M'=>rfl
theorem foldM_none {ls : List ByteArray} {i : Nat} (st : MO → ByteArray → Option MO) (M0 : MO) (h : (ls.take i).foldlM st M0 = none) : ls.foldlM st M0 = none:=by
 rw [← List.take_append_drop i ls,List.foldlM_append,h]
 rfl
def Low (b : Nat) (w w' : World) : Prop:=(∀ (n : Nat) (wE : World),Below n wE w → n ≤ b → wE.heap.size ≤ b → Below n wE w') ∧ (∀ k,k < b → w'.heap[k]? = w.heap[k]?) ∧ b ≤ w'.heap.size
theorem low_cut (w : World) (b : Nat) (h : b ≤ w.heap.size) : ∃ w0 : World,b = w0.heap.size ∧ Below w0.heap.size w0 w ∧ ∀ w',Below w0.heap.size w0 w' → Low b w w':=by
 have hz : b = (w.heap.extract 0 b).size:=by rw [Array.size_extract];omega
 have hg : ∀ k,k < b → (w.heap.extract 0 b)[k]? = w.heap[k]?:=fun k hk=>by
  rw [Array.getElem?_extract]
  simp
  omega
 refine ⟨{ w with heap:=w.heap.extract 0 b },hz,⟨rfl,rfl,rfl,by show (w.heap.extract 0 b).size ≤ _;rw [← hz];exact h,fun k hk=>(hg k (by rw [hz];exact hk)).symm⟩,fun w' hB=>?_⟩
 have hblk : ∀ k,k < b → w'.heap[k]? = w.heap[k]?:=fun k hk=>(hB.block k (by rw [← hz];exact hk)).trans (hg k hk)
 have hsz : b ≤ w'.heap.size:=Nat.le_trans (Nat.le_of_eq hz) hB.size
 exact ⟨fun n wE hE hn hw=>⟨hB.os.trans hE.os,hB.tape.trans hE.tape,hB.output.trans hE.output,Nat.le_trans hw hsz,fun k hk=>(hblk k (Nat.lt_of_lt_of_le hk hn)).trans (hE.block k hk)⟩,hblk,hsz⟩
theorem l4Read_at (base : Nat) (w : World) (rr fr : List (List Value)) (vR vF vN cl : Value) (M : MO) (line : ByteArray) (hb0 : base ≤ w.heap.size) (hMd : Md w base (fun k=>base ≤ k) rr fr vR vF vN cl M) (hO : okMod M) (hn : no10 line) (hs : line.size ≤ 4000) :
  Calls Tryz.prog 10 #[.agg #[vR,vF,vN],.string line] w fun e w'=>∃ A1 l1 c1 A2 l2 c2 A3 l3 c3 b,e = .returned (.tuple #[.agg #[.slice A1 l1 c1,.slice A2 l2 c2,.slice A3 l3 c3],.bool b]) ∧ Low base w w' ∧ ((b = true ∧ ∃ M' rr' fr' cl',sStep M line = some M' ∧ okMod M' ∧ Md w' base (fun k=>base ≤ k) rr' fr' (.slice A1 l1 c1) (.slice A2 l2 c2) (.slice A3 l3 c3) cl' M') ∨ (b = false ∧ sStep M line = none)):=by
 obtain ⟨w0,e0,hB,hlow⟩:=low_cut w base hb0
 obtain ⟨o1,o2,o3⟩:=ok_sizes hO
 refine (l4Read_own base w0 w rr fr vR vF vN cl M line e0 hMd hB o1 o2 o3 hs).mono ?_
 rintro e w' ⟨hb,⟨M',rr',fr',vR',vF',vN',cl',hM,rfl,hMd'⟩ | ⟨hM,x,⟨A1,l1,c1,A2,l2,c2,A3,l3,c3,rfl⟩,rfl⟩⟩
 ·obtain ⟨AR,cR,AF,cF,AN,cN,rfl,_,_,rfl,_,_,rfl,_,_⟩:=hMd'.reads
  exact ⟨_,_,_,_,_,_,_,_,_,true,rfl,hlow w' hb,.inl ⟨rfl,M',rr',fr',cl',hM,stepB hO hn hM,hMd'⟩⟩
 ·exact ⟨_,_,_,_,_,_,_,_,_,false,rfl,hlow w' hb,.inr ⟨rfl,hM⟩⟩
set_option maxHeartbeats 4000000 in
set_option maxRecDepth 100000 in
theorem specRead_own (s : ByteArray) (w : World) (hs : s.size ≤ 1048576) : Calls Tryz.prog 4 #[.string s] w fun e w'=>∃ rr fr vR vF vN cl M b,e = .returned (.tuple #[.agg #[vR,vF,vN],.bool b]) ∧ Md w' w.heap.size (fun k=>w.heap.size ≤ k) rr fr vR vF vN cl M ∧ Below w.heap.size w w' ∧ ((sRead s = some M ∧ b = true) ∨ (sRead s = none ∧ M = emptyM ∧ b = false)):=by
 have hu26:=Tryz.underlying26
 have HB:=Mk (Below.refl w.heap.size w)
 by_cases h4 : s.size > 4000
 ·have q0 : decide ((s.size : Int) > 4000) = true:=decide_eq_true (by omega)
  have q1 : ((s.size : Int) > 4000) = True:=eq_true (by omega)
  have HS:=Mk (show sRead s = none by unfold sRead;rw [if_pos h4])
  have H4:=Mk h4
  clear h4
  go_enter Tryz.func4,Tryz.ntmps4
  go_wp2_with (first
   | ((with_reducible refine gate_dst (N:=2) rfl ?_);refine U.bx 2 26 #[.slice none 0 0,.slice none 0 0,.slice none 0 0] ?_;intro g2 hg w2 hbox hb;have B2:=Mk hbox;have G2:=Mk (show w.heap.size ≤ g2 by rw [hg];exact Nat.le_refl _);replace HB:=Mk (below_step HB.out hb);clear hg hbox hb;obtain ⟨h20,h21,h22,f20,f21,f22⟩:=U.d3 B2))
  have C3:=blk_put (cs:=#[.slice none 0 0,.slice none 0 0,.slice none 0 0]) (blk_put (cs:=#[.slice none 0 0,.slice none 0 0,.slice none 0 0]) (blk_put (cs:=#[.slice none 0 0,.slice none 0 0,.slice none 0 0]) B2.out 0 (.slice none 0 0) rfl) 1 (.slice none 0 0) rfl) 2 (.slice none 0 0) rfl
  have HB4:=((HB.out.setCell (p:=⟨g2,0,none⟩) G2.out (.slice none 0 0)).setCell (p:=⟨g2,1,none⟩) G2.out (.slice none 0 0)).setCell (p:=⟨g2,2,none⟩) G2.out (.slice none 0 0)
  refine bodyPost_ret (results_ct rfl _ _ g2 26 #[.slice none 0 0,.slice none 0 0,.slice none 0 0] (0,0) _ rfl C3 Tryz.underlying26 rfl (by kernel_rfl)) rfl ?_
  exact ⟨_,_,_,_,_,_,_,_,rfl,Md.empty _ _ _,HB4,.inr ⟨HS.out,rfl,rfl⟩⟩
 ·have q0 : decide ((s.size : Int) > 4000) = false:=decide_eq_false (by omega)
  have hk:=ev_some (ev_spec_l4Lines s (by omega))
  obtain ⟨k1,h1⟩:=hk
  have AL1:=Mk h1
  obtain ⟨z1,z2⟩:=lines_small s
  have z3:=(lines_of s).1
  have HR : Aside0 (sRead s = if (linesOf s).2 ≠ ⟨#[]⟩ then none else ((linesOf s).1.foldlM sStep emptyM).bind fun M=>if mText M = s then some M else none):=⟨by unfold sRead;rw [if_neg h4]⟩
  have H4:=Mk h4
  clear h1 h4
  generalize (linesOf s).1 = ls at AL1 z1 z2 z3 HR
  obtain ⟨ok0,hok0⟩ : ∃ b,b = decide ((linesOf s).2 = ⟨#[]⟩):=⟨_,rfl⟩
  rw [← hok0] at AL1
  have OK0:=Mk hok0
  have ZS:=Mk (show ∀ x ∈ ls,x.size ≤ 4000 from fun x hx=>by have:=z2 x hx;have:=H4.out;omega)
  have ZL:=Mk (show ls.length ≤ 4000 by have:=H4.out;omega)
  have ZN:=Mk z3
  clear hok0 z1 z2 z3
  go_enter Tryz.func4,Tryz.ntmps4
  go_wp2_with (first
   | ((with_reducible refine gate_dst (N:=2) rfl ?_);refine U.bx 2 26 #[.slice none 0 0,.slice none 0 0,.slice none 0 0] ?_;intro g2 hg w2 hbox hb;have B2:=Mk hbox;have G2:=Mk (show w.heap.size ≤ g2 by rw [hg];exact Nat.le_refl _);replace HB:=Mk (below_step HB.out hb);clear hg hbox hb)
   | ((with_reducible refine gate_dst (N:=4) rfl ?_);refine U.bx 4 26 #[.slice none 0 0,.slice none 0 0,.slice none 0 0] ?_;intro gm hg w3 hbox hb;have BM:=Mk hbox;have NM:=Mk (show g2 ≠ gm by rw [hg];exact Nat.ne_of_lt (blk_lt B2.out));have GM:=Mk (show w.heap.size ≤ gm by rw [hg];exact HB.out.size);replace B2:=Mk (blk_below B2.out hb);replace HB:=Mk (below_step HB.out hb);clear hg hbox hb;obtain ⟨hm0,hm1,hm2,hz0,hz1,hz2⟩:=U.d3 BM)
   | ((with_reducible refine gate_callee (f:=9) rfl ?_)
      replace B2:=Mk (blk_far (p:=⟨gm,2,none⟩) (blk_far (p:=⟨gm,1,none⟩) (blk_far (p:=⟨gm,0,none⟩) B2.out NM.out (.slice none 0 0)) NM.out (.slice none 0 0)) NM.out (.slice none 0 0))
      replace BM:=Mk (blk_put (cs:=#[.slice none 0 0,.slice none 0 0,.slice none 0 0]) (blk_put (cs:=#[.slice none 0 0,.slice none 0 0,.slice none 0 0]) (blk_put (cs:=#[.slice none 0 0,.slice none 0 0,.slice none 0 0]) BM.out 0 (.slice none 0 0) rfl) 1 (.slice none 0 0) rfl) 2 (.slice none 0 0) rfl)
      replace HB:=Mk (((HB.out.setCell (p:=⟨gm,0,none⟩) GM.out (.slice none 0 0)).setCell (p:=⟨gm,1,none⟩) GM.out (.slice none 0 0)).setCell (p:=⟨gm,2,none⟩) GM.out (.slice none 0 0))
      clear hm0 hm1 hm2 hz0 hz1 hz2
      (generalize (((w3.setCell ⟨gm,0,none⟩ (.slice none 0 0)).setCell ⟨gm,1,none⟩ (.slice none 0 0)).setCell ⟨gm,2,none⟩ (.slice none 0 0)) = w4 at B2 BM HB ⊢)
      refine U.gl (some 15) Tryz.func9 #[.string s] ?_
      (with_reducible refine (spec_l4Lines.calls k1 s ls ok0 _ AL1.out).mono ?_)
      rintro e w5 ⟨vL,rfl,ho,hb⟩
      refine ⟨_,rfl,?_⟩
      have HL:=Mk (Kd.R_lower (Kd.R_tight rfl ho) HB.out.size)
      have NL:=Mk (show (∀ k,some k = vL.ownBlock → k ≠ gm) ∧ (∀ k,some k = vL.ownBlock → k ≠ g2) ∧ (∀ k,some k = vL.ownBlock → k < w5.heap.size) from ⟨fun k hk he=>by have:=Kd.R_base ho k hk.symm;have:=blk_lt BM.out;omega,fun k hk he=>by have:=Kd.R_base ho k hk.symm;have:=blk_lt B2.out;omega,fun k hk=>Kd.R_lt ho k hk.symm⟩)
      replace B2:=Mk (blk_below B2.out hb);replace BM:=Mk (blk_below BM.out hb);replace HB:=Mk (below_step HB.out hb)
      clear ho hb
      obtain ⟨AL,cL,eL⟩:=Kd.R_slice HL.out
      subst eL))
  obtain ⟨b0,hb0⟩ : ∃ b,b = w5.heap.size:=⟨_,rfl⟩
  have LM:=Mk (show gm < b0 ∧ g2 < b0 ∧ w.heap.size ≤ b0 from ⟨by rw [hb0];exact blk_lt BM.out,by rw [hb0];exact blk_lt B2.out,by rw [hb0];exact HB.out.size⟩)
  have B0:=Mk hb0
  clear hb0
  go_loopw [6,7] (fun v6 v7 wr=>∃ (i : Nat) (b : Bool) (A1 : Option Addr) (l1 c1 : Nat) (A2 : Option Addr) (l2 c2 : Nat) (A3 : Option Addr) (l3 c3 : Nat),i ≤ ls.length ∧ v7 = .int .i64 i ∧ v6 = .bool b ∧ Aside0 (Below w.heap.size w wr) ∧ Aside0 (b0 ≤ wr.heap.size) ∧ Aside0 (Kd.R Kd.string 9 wr w.heap.size (fun k=>some k = (Value.slice AL ls.length cL).ownBlock) (.slice AL ls.length cL) ls) ∧ Aside0 (wr.heap[gm]? = some (.cells #[.slice A1 l1 c1,.slice A2 l2 c2,.slice A3 l3 c3] 26 (0,0))) ∧ Aside0 (wr.heap[g2]? = some (.cells #[.slice none 0 0,.slice none 0 0,.slice none 0 0] 26 (0,0))) ∧ Aside0 ((b = true ∧ ok0 = true ∧ ∃ M rr fr cl,(ls.take i).foldlM sStep emptyM = some M ∧ okMod M ∧ Md wr b0 (fun k=>b0 ≤ k) rr fr (.slice A1 l1 c1) (.slice A2 l2 c2) (.slice A3 l3 c3) cl M) ∨ (b = false ∧ sRead s = none))) (fun _ v7 _=>ls.length - (intOf v7).toNat)
  case atStart =>
   refine ⟨0,ok0,_,_,_,_,_,_,_,_,_,Nat.zero_le _,rfl,rfl,HB,⟨Nat.le_of_eq B0.out⟩,HL,BM,B2,⟨?_⟩⟩
   cases ok0 with
   | true=>exact .inl ⟨rfl,rfl,emptyM,[],[],.slice none 0 0,rfl,ok_empty,Md.empty _ _ _⟩
   | false=>exact .inr ⟨rfl,by rw [HR.out,if_pos (of_decide_eq_false OK0.out.symm)]⟩
  case round =>
   clear HB HL BM B2
   obtain ⟨i,b,A1,l1,c1,A2,l2,c2,A3,l3,c3,hi,rfl,rfl,HB,HZ,HL,BM,B2,HS⟩:=hrel
   by_cases hlt : i < ls.length
   ·have d0 : decide ((i : Int) < (ls.length : Int)) = true:=decide_eq_true (by omega)
    cases b with
    | true =>
     obtain ⟨M,rr,fr,cl,HF,HO,MD⟩ : ∃ M rr fr cl,Aside0 ((ls.take i).foldlM sStep emptyM = some M) ∧ Aside0 (okMod M) ∧ Aside0 (Md wr b0 (fun k=>b0 ≤ k) rr fr (.slice A1 l1 c1) (.slice A2 l2 c2) (.slice A3 l3 c3) cl M):=by
      rcases HS.out with ⟨_,_,M,rr,fr,cl,h1,h2,h3⟩ | ⟨h,_⟩
      ·exact ⟨M,rr,fr,cl,⟨h1⟩,⟨h2⟩,⟨h3⟩⟩
      ·cases h
     go_upto_region 8 with fail
     obtain ⟨ad,ea,hx⟩:=Kd.at_string (Kd.R_reads' HL.out).2.2 (i : Int) (by omega) (by omega)
     have hrd : rdOf ByteArray.empty ls (i : Int) = ls[i]:=getDn hlt
     rw [hrd,Int.toNat_natCast] at hx
     have HFT:=Mk (foldM_take hlt sStep emptyM)
     have HNX:=Mk (show no10 ls[i] ∧ ls[i].size ≤ 4000 from ⟨ZN.out _ (List.getElem_mem hlt),ZS.out _ (List.getElem_mem hlt)⟩)
     generalize ls[i] = x at hx HFT HNX
     cases ea
     have HAD:=Mk (show (ad.add i).block < b0 by
      obtain ⟨gL,cL',eL,_,_,_⟩:=Kd.R_form HL.out (by omega)
      injection eL with x _ _
      injection x with x
      subst x
      rw [B0.out]
      have hlt9:=NL.out.2.2 gL (by simp [Value.ownBlock])
      have e9 : (Addr.add ⟨gL,0,none⟩ i).block = gL:=by simp only [Addr.add];split<;>rfl
      rw [e9]
      exact hlt9)
     have p1 : (0 ≤ (i : Int)) = True:=eq_true (by omega)
     have p2 : ((i : Int) < (ls.length : Int)) = True:=eq_true (by omega)
     replace HL:=Mk (Kd.R_below HL.out (below_drew (Below.refl wr.heap.size wr)))
     replace MD:=Mk (MD.out.below (below_drew (Below.refl _ _)))
     replace BM:=Mk (blk_drew BM.out)
     replace B2:=Mk (blk_drew B2.out)
     replace HB:=Mk (below_drew1 HB.out)
     have hx : wr.drew.cell? (ad.add i) = some (.string x):=hx
     replace HZ:=Mk (show b0 ≤ wr.drew.heap.size from HZ.out)
     refine start_ (n:=11) (S:=fun w'=>(w'.cell? ⟨gm,0,none⟩ = some (.slice A1 l1 c1) ∧ w'.cell? ⟨gm,1,none⟩ = some (.slice A2 l2 c2) ∧ w'.cell? ⟨gm,2,none⟩ = some (.slice A3 l3 c3)) ∧ w'.cell? (ad.add i) = some (.string x)) (ds:=[9]) #[false,false,false,false,false,false,false,false,false,false,false] (by kernel_rfl) rfl rfl ⟨⟨U.c0 BM,U.c1 BM,U.c2 BM⟩,hx⟩ (fun hHeld=>?_)
     (generalize wr.drew = w18 at HL MD BM B2 HB HZ hHeld hx ⊢)
     refine U.pn 1 (some 29) ?_
     refine U.pn 2 (some 30) ?_
     refine U.pn 3 (some 31) ?_
     refine take_ (i:=0) (N:=some 28) (v:=.agg #[.slice A1 l1 c1,.slice A2 l2 c2,.slice A3 l3 c3]) #[true,true,true,true,false,false,false,false,false,false,false] rfl rfl (by kernel_rfl) (fun _ _ _ h=>h) (Or.inl ⟨by rfl,?_⟩) hHeld (by simp only [Act.put,List.setIfInBounds_toArray,List.set_cons_zero,List.set_cons_succ];rfl) ?_
     ·rintro w' ⟨⟨s0,s1,s2⟩,s3⟩
      go_simp
     refine take_ (i:=4) (N:=some 32) (v:=.string x) #[true,true,true,true,true,false,false,false,false,false,false] rfl rfl (by kernel_rfl) (fun _ _ _ h=>h) (Or.inl ⟨by rfl,?_⟩) hHeld (by simp only [Act.put,List.setIfInBounds_toArray,List.set_cons_zero,List.set_cons_succ];rfl) ?_
     ·rintro w' ⟨⟨s0,s1,s2⟩,s3⟩
      go_simp
     refine one_ (i:=5) (N:=some 33) #[true,true,true,true,true,true,false,false,false,false,false] rfl rfl (by kernel_rfl) (by decide) (fun K hK=>?_)
     refine U.go Tryz.func10 #[.agg #[.slice A1 l1 c1,.slice A2 l2 c2,.slice A3 l3 c3],.string x] ?_
     (with_reducible refine (l4Read_at b0 w18 rr fr _ _ _ cl M x HZ.out MD.out HO.out HNX.out.1 HNX.out.2).mono ?_)
     rintro e w26 ⟨B1,m1,d1,B2',m2,d2,B3,m3,d3,b,rfl,hL,hres⟩
     refine ⟨_,rfl,?_⟩
     obtain ⟨hLB,hLk,hLz⟩:=hL
     have hgm:=(hLk gm LM.out.1).trans BM.out
     have hg2:=(hLk g2 LM.out.2.1).trans B2.out
     have hx26 : w26.cell? (ad.add i) = some (.string x):=by
      rw [← hx]
      simp only [World.cell?]
      rw [hLk _ HAD.out]
     replace HL:=Mk (Kd.R_move HL.out (fun k hk=>hLk k (by rw [B0.out];exact NL.out.2.2 k hk)))
     replace BM:=Mk hgm
     replace B2:=Mk hg2
     replace HB:=Mk (hLB _ _ HB.out LM.out.2.2 LM.out.2.2)
     replace HZ:=Mk hLz
     have HRS:=Mk hres
     clear hLB hLk hLz hgm hg2 hres hHeld MD
     refine hK.out _ _ ⟨⟨U.c0 BM,U.c1 BM,U.c2 BM⟩,hx26⟩ (fun hHeld=>?_)
     clear hK K
     refine U.nm 33 ?_
     refine U.pn 6 (some 27) ?_
     refine U.pn 7 (some 34) ?_
     refine U.pn 8 (some 35) ?_
     refine last_ (i:=9) (N:=none) #[true,true,true,true,true,true,true,true,true,true,false] rfl rfl (by kernel_rfl) (by decide) (fun K hK=>?_)
     obtain ⟨hm0,hm1,hm2,hz0,hz1,hz2⟩:=U.d3 BM
     refine skip_ (w1:=((w26.setCell ⟨gm,0,none⟩ (.slice B1 m1 d1)).setCell ⟨gm,1,none⟩ (.slice B2' m2 d2)).setCell ⟨gm,2,none⟩ (.slice B3 m3 d3)) (by rfl) rfl ?_ ?_
     ·go_simp
     refine hK.out _ _ ?_
     clear hK K
     refine U.pn 10 (some 6) ?_
     refine done_ (by kernel_rfl) ?_
     have hgm:=LM.out.1
     replace HL:=Mk (Kd.R_far (p:=⟨gm,2,none⟩) (Kd.R_far (p:=⟨gm,1,none⟩) (Kd.R_far (p:=⟨gm,0,none⟩) HL.out NL.out.1 (.slice B1 m1 d1)) NL.out.1 (.slice B2' m2 d2)) NL.out.1 (.slice B3 m3 d3))
     replace B2:=Mk (blk_far (p:=⟨gm,2,none⟩) (blk_far (p:=⟨gm,1,none⟩) (blk_far (p:=⟨gm,0,none⟩) B2.out NM.out (.slice B1 m1 d1)) NM.out (.slice B2' m2 d2)) NM.out (.slice B3 m3 d3))
     replace BM:=Mk (blk_put (cs:=#[.slice B1 m1 d1,.slice B2' m2 d2,.slice A3 l3 c3]) (blk_put (cs:=#[.slice B1 m1 d1,.slice A2 l2 c2,.slice A3 l3 c3]) (blk_put (cs:=#[.slice A1 l1 c1,.slice A2 l2 c2,.slice A3 l3 c3]) BM.out 0 (.slice B1 m1 d1) rfl) 1 (.slice B2' m2 d2) rfl) 2 (.slice B3 m3 d3) rfl)
     replace HB:=Mk (((HB.out.setCell (p:=⟨gm,0,none⟩) GM.out (.slice B1 m1 d1)).setCell (p:=⟨gm,1,none⟩) GM.out (.slice B2' m2 d2)).setCell (p:=⟨gm,2,none⟩) GM.out (.slice B3 m3 d3))
     replace HZ:=Mk (show b0 ≤ (((w26.setCell ⟨gm,0,none⟩ (.slice B1 m1 d1)).setCell ⟨gm,1,none⟩ (.slice B2' m2 d2)).setCell ⟨gm,2,none⟩ (.slice B3 m3 d3)).heap.size from Nat.le_trans HZ.out ((((Below.refl 0 w26).setCell (p:=⟨gm,0,none⟩) (Nat.zero_le _) (.slice B1 m1 d1)).setCell (p:=⟨gm,1,none⟩) (Nat.zero_le _) (.slice B2' m2 d2)).setCell (p:=⟨gm,2,none⟩) (Nat.zero_le _) (.slice B3 m3 d3)).size)
     have HS2 : Aside0 ((b = true ∧ ok0 = true ∧ ∃ M rr fr cl,(ls.take (i + 1)).foldlM sStep emptyM = some M ∧ okMod M ∧ Md (((w26.setCell ⟨gm,0,none⟩ (.slice B1 m1 d1)).setCell ⟨gm,1,none⟩ (.slice B2' m2 d2)).setCell ⟨gm,2,none⟩ (.slice B3 m3 d3)) b0 (fun k=>b0 ≤ k) rr fr (.slice B1 m1 d1) (.slice B2' m2 d2) (.slice B3 m3 d3) cl M) ∨ (b = false ∧ sRead s = none)):=⟨by
      have hft:=HFT.out
      rw [HF.out] at hft
      have hft : (ls.take (i + 1)).foldlM sStep emptyM = sStep M x:=hft
      rcases HRS.out with ⟨e1,M',rr',fr',cl',e2,e3,e4⟩ | ⟨e1,e2⟩
      ·refine .inl ⟨e1,?_,M',rr',fr',cl',hft.trans e2,e3,?_⟩
       ·rcases HS.out with h | h
        ·exact h.2.1
        ·cases h.1
       ·have n0 : ∀ k,b0 ≤ k → k ≠ gm:=fun k hk he=>by omega
        have n1 : some gm ≠ (Value.slice B1 m1 d1).ownBlock:=fun he=>by have:=Kd.R_base e4.recs gm he.symm;omega
        have n2 : some gm ≠ (Value.slice B2' m2 d2).ownBlock:=fun he=>by have:=Kd.R_base e4.funs gm he.symm;omega
        have n3 : some gm ≠ cl'.ownBlock:=fun he=>by have:=Kd.R_base e4.code gm he.symm;omega
        exact ((e4.far (p:=⟨gm,0,none⟩) n0 n1 n2 n3 _).far (p:=⟨gm,1,none⟩) n0 n1 n2 n3 _).far (p:=⟨gm,2,none⟩) n0 n1 n2 n3 _
      ·refine .inr ⟨e1,?_⟩
       rw [HR.out,foldM_none sStep emptyM (hft.trans e2)]
       split<;>rfl⟩
     clear HRS hm0 hm1 hm2 hz0 hz1 hz2 hgm hx26 hx hHeld
     (generalize ((w26.setCell ⟨gm,0,none⟩ (.slice B1 m1 d1)).setCell ⟨gm,1,none⟩ (.slice B2' m2 d2)).setCell ⟨gm,2,none⟩ (.slice B3 m3 d3) = w27 at HL BM B2 HB HZ HS2 ⊢)
     have hzl:=ZL.out
     go_wp2
     go_roundw
     case rel=>exact ⟨i + 1,b,B1,m1,d1,B2',m2,d2,B3,m3,d3,by omega,by go_num,rfl,HB,HZ,HL,BM,B2,HS2⟩
     case measure=>simp [intOf];omega
    | false =>
     have HN:=Mk (show sRead s = none by
      rcases HS.out with h | h
      ·cases h.1
      ·exact h.2)
     clear HS
     obtain ⟨h20,h21,h22,f20,f21,f22⟩:=U.d3 B2
     go_wp2
     have C3:=blk_put (cs:=#[.slice none 0 0,.slice none 0 0,.slice none 0 0]) (blk_put (cs:=#[.slice none 0 0,.slice none 0 0,.slice none 0 0]) (blk_put (cs:=#[.slice none 0 0,.slice none 0 0,.slice none 0 0]) B2.out 0 (.slice none 0 0) rfl) 1 (.slice none 0 0) rfl) 2 (.slice none 0 0) rfl
     have HB4:=((HB.out.setCell (p:=⟨g2,0,none⟩) G2.out (.slice none 0 0)).setCell (p:=⟨g2,1,none⟩) G2.out (.slice none 0 0)).setCell (p:=⟨g2,2,none⟩) G2.out (.slice none 0 0)
     refine bodyPost_ret (results_ct rfl _ _ g2 26 #[.slice none 0 0,.slice none 0 0,.slice none 0 0] (0,0) _ rfl C3 Tryz.underlying26 rfl (by kernel_rfl)) rfl ?_
     exact ⟨_,_,_,_,_,_,_,_,rfl,Md.empty _ _ _,HB4,.inr ⟨HN.out,rfl,rfl⟩⟩
   ·have d0 : decide ((i : Int) < (ls.length : Int)) = false:=decide_eq_false (by omega)
    obtain ⟨h20,h21,h22,f20,f21,f22⟩:=U.d3 B2
    cases b with
    | false =>
     have HN:=Mk (show sRead s = none by
      rcases HS.out with h | h
      ·cases h.1
      ·exact h.2)
     clear HS
     go_wp2
     have C3:=blk_put (cs:=#[.slice none 0 0,.slice none 0 0,.slice none 0 0]) (blk_put (cs:=#[.slice none 0 0,.slice none 0 0,.slice none 0 0]) (blk_put (cs:=#[.slice none 0 0,.slice none 0 0,.slice none 0 0]) B2.out 0 (.slice none 0 0) rfl) 1 (.slice none 0 0) rfl) 2 (.slice none 0 0) rfl
     have HB4:=((HB.out.setCell (p:=⟨g2,0,none⟩) G2.out (.slice none 0 0)).setCell (p:=⟨g2,1,none⟩) G2.out (.slice none 0 0)).setCell (p:=⟨g2,2,none⟩) G2.out (.slice none 0 0)
     refine bodyPost_ret (results_ct rfl _ _ g2 26 #[.slice none 0 0,.slice none 0 0,.slice none 0 0] (0,0) _ rfl C3 Tryz.underlying26 rfl (by kernel_rfl)) rfl ?_
     exact ⟨_,_,_,_,_,_,_,_,rfl,Md.empty _ _ _,HB4,.inr ⟨HN.out,rfl,rfl⟩⟩
    | true =>
     obtain ⟨M,rr,fr,cl,HF,HO,MD⟩ : ∃ M rr fr cl,Aside0 (ls.foldlM sStep emptyM = some M) ∧ Aside0 (okMod M) ∧ Aside0 (Md wr b0 (fun k=>b0 ≤ k) rr fr (.slice A1 l1 c1) (.slice A2 l2 c2) (.slice A3 l3 c3) cl M):=by
      rcases HS.out with ⟨_,_,M,rr,fr,cl,h1,h2,h3⟩ | ⟨h,_⟩
      ·exact ⟨M,rr,fr,cl,⟨by rwa [List.take_of_length_le (by omega)] at h1⟩,⟨h2⟩,⟨h3⟩⟩
      ·cases h
     have HSR:=Mk (show sRead s = if mText M = s then some M else none by
      rw [HR.out,HF.out]
      rw [if_neg]
      ·rfl
      ·rcases HS.out with ⟨_,h,_⟩ | ⟨h,_⟩
       ·exact fun hh=>hh (of_decide_eq_true (OK0.out.symm.trans h))
       ·cases h)
     clear HS
     obtain ⟨AR,cR,AF,cF,AN,cN,e1,j1,C1,e2,j2,C2,e3,j3,C3⟩:=MD.out.reads
     obtain ⟨rfl,rfl,rfl⟩ : A1 = AR ∧ l1 = M.r.length ∧ c1 = cR:=by injection e1 with x y z;exact ⟨x,y,z⟩
     obtain ⟨rfl,rfl,rfl⟩ : A2 = AF ∧ l2 = M.f.length ∧ c2 = cF:=by injection e2 with x y z;exact ⟨x,y,z⟩
     obtain ⟨rfl,rfl,rfl⟩ : A3 = AN ∧ l3 = M.n.length ∧ c3 = cN:=by injection e3 with x y z;exact ⟨x,y,z⟩
     clear e1 e2 e3
     obtain ⟨kt,ht⟩:=ev_some (ev_spec_ModuleText HO.out)
     have AT:=Mk ht
     have CR:=Mk C1
     have CF:=Mk C2
     have CN:=Mk C3
     have J1:=Mk j1
     have J2:=Mk j2
     have J3:=Mk j3
     clear ht C1 C2 C3 j1 j2 j3
     obtain ⟨hm0,hm1,hm2,hz0,hz1,hz2⟩:=U.d3 BM
     have nm2:=NM.out
     have nm3:=NM.out.symm
     generalize hT : mText M = T at AT HSR
     by_cases hc : T = s
     ·have HSR2:=Mk (show sRead s = some M by rw [HSR.out,if_pos hc])
      clear HSR
      subst hc
      go_wp2_with (first
       | ((with_reducible refine gate_callee (f:=11) rfl ?_)
          refine wpList_step fun K hK=>?_
          refine U.go Tryz.func11 #[.agg #[.slice A1 M.r.length c1,.slice A2 M.f.length c2,.slice A3 M.n.length c3]] ?_
          (with_reducible refine (spec_ModuleText.calls kt A1 c1 M.r A2 c2 M.f A3 c3 M.n T wr CR.out J1.out CF.out J2.out CN.out J3.out AT.out).mono ?_)
          rintro e w30 ⟨rfl,hb⟩
          refine ⟨_,rfl,hK _ _ ?_⟩
          clear hK
          replace MD:=Mk (MD.out.below hb)
          replace BM:=Mk (blk_below BM.out hb)
          replace B2:=Mk (blk_below B2.out hb)
          replace HB:=Mk (below_step HB.out hb)
          clear hb hm0 hm1 hm2 hz0 hz1 hz2 h20 h21 h22 f20 f21 f22
          obtain ⟨hm0,hm1,hm2,hz0,hz1,hz2⟩:=U.d3 BM
          obtain ⟨h20,h21,h22,f20,f21,f22⟩:=U.d3 B2))
      have C3:=Mk (blk_put (cs:=#[.slice A1 M.r.length c1,.slice A2 M.f.length c2,.slice none 0 0]) (blk_put (cs:=#[.slice A1 M.r.length c1,.slice none 0 0,.slice none 0 0]) (blk_put (cs:=#[.slice none 0 0,.slice none 0 0,.slice none 0 0]) B2.out 0 (.slice A1 M.r.length c1) rfl) 1 (.slice A2 M.f.length c2) rfl) 2 (.slice A3 M.n.length c3) rfl)
      have o1:=Kd.R_ne MD.out.recs B2.out (by decide)
      have o2:=Kd.R_ne MD.out.funs B2.out (by decide)
      have o3:=Kd.R_ne MD.out.code B2.out (by decide)
      have n0 : ∀ k,b0 ≤ k → k ≠ g2:=fun k hk he=>by have:=LM.out.2.1;omega
      have MD4:=((MD.out.far (p:=⟨g2,0,none⟩) n0 o1 o2 o3 (.slice A1 M.r.length c1)).far (p:=⟨g2,1,none⟩) n0 o1 o2 o3 (.slice A2 M.f.length c2)).far (p:=⟨g2,2,none⟩) n0 o1 o2 o3 (.slice A3 M.n.length c3)
      have HB4:=((HB.out.setCell (p:=⟨g2,0,none⟩) G2.out (.slice A1 M.r.length c1)).setCell (p:=⟨g2,1,none⟩) G2.out (.slice A2 M.f.length c2)).setCell (p:=⟨g2,2,none⟩) G2.out (.slice A3 M.n.length c3)
      refine bodyPost_ret (results_ct rfl _ _ g2 26 #[.slice A1 M.r.length c1,.slice A2 M.f.length c2,.slice A3 M.n.length c3] (0,0) _ rfl C3.out Tryz.underlying26 rfl (by kernel_rfl)) rfl ?_
      exact ⟨rr,fr,_,_,_,cl,M,true,rfl,(MD4.lower LM.out.2.2).mono (fun k hk=>Nat.le_trans LM.out.2.2 hk),HB4,.inl ⟨HSR2.out,rfl⟩⟩
     ·have HN:=Mk (show sRead s = none by rw [HSR.out,if_neg hc])
      clear HSR
      have hcb : (T.toList == s.toList) = false:=beq_eq_false_iff_ne.mpr (fun h=>hc (bytes_ext h))
      go_wp2_with (first
       | ((with_reducible refine gate_callee (f:=11) rfl ?_)
          refine wpList_step fun K hK=>?_
          refine U.go Tryz.func11 #[.agg #[.slice A1 M.r.length c1,.slice A2 M.f.length c2,.slice A3 M.n.length c3]] ?_
          (with_reducible refine (spec_ModuleText.calls kt A1 c1 M.r A2 c2 M.f A3 c3 M.n T wr CR.out J1.out CF.out J2.out CN.out J3.out AT.out).mono ?_)
          rintro e w30 ⟨rfl,hb⟩
          refine ⟨_,rfl,hK _ _ ?_⟩
          clear hK
          replace MD:=Mk (MD.out.below hb)
          replace BM:=Mk (blk_below BM.out hb)
          replace B2:=Mk (blk_below B2.out hb)
          replace HB:=Mk (below_step HB.out hb)
          clear hb hm0 hm1 hm2 hz0 hz1 hz2 h20 h21 h22 f20 f21 f22
          obtain ⟨hm0,hm1,hm2,hz0,hz1,hz2⟩:=U.d3 BM
          obtain ⟨h20,h21,h22,f20,f21,f22⟩:=U.d3 B2))
      have C3:=blk_put (cs:=#[.slice none 0 0,.slice none 0 0,.slice none 0 0]) (blk_put (cs:=#[.slice none 0 0,.slice none 0 0,.slice none 0 0]) (blk_put (cs:=#[.slice none 0 0,.slice none 0 0,.slice none 0 0]) B2.out 0 (.slice none 0 0) rfl) 1 (.slice none 0 0) rfl) 2 (.slice none 0 0) rfl
      have HB4:=((HB.out.setCell (p:=⟨g2,0,none⟩) G2.out (.slice none 0 0)).setCell (p:=⟨g2,1,none⟩) G2.out (.slice none 0 0)).setCell (p:=⟨g2,2,none⟩) G2.out (.slice none 0 0)
      refine bodyPost_ret (results_ct rfl _ _ g2 26 #[.slice none 0 0,.slice none 0 0,.slice none 0 0] (0,0) _ rfl C3 Tryz.underlying26 rfl (by kernel_rfl)) rfl ?_
      exact ⟨_,_,_,_,_,_,_,_,rfl,Md.empty _ _ _,HB4,.inr ⟨HN.out,rfl,rfl⟩⟩
end Go.Proofs.YtmclgkljmlpfbaaGreatDoor.Hand
