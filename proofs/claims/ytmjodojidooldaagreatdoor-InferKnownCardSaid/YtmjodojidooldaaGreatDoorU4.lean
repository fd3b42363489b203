/-
  A part of the proof of the tied card of usufructlaw18.InferKnown: UfDraw6, UfDraw7, UfOrc, UfMem, UfGlob, UfWrap.
-/
import Derived.Test.YtmjodojidooldaaGreatDoorU3
import Derived.Test.YtmjodojidooldaaGreatDoorU2
import Derived.ProofKit
import Derived.LaidMore
import Derived.OpenShut
import Derived.Stop.Joined
import Derived.HandedShaped
set_option linter.all false
set_option linter.unusedVariables false
set_option linter.unusedSimpArgs false
/-
  Regions that draw their order: whatever the order, it comes to the same.
-/
noncomputable section
namespace Go.Uf
open Go.RowKit (Below)

variable {E : Env} {P : Program} {B0 : Nat} {φ : Phi} {H : AH} {w : World} {fr : AFr} {a : Act} {ops : Array Oper}

theorem HR.congr {G G' : AH} (hR : HR E B0 φ G w) (hn : G'.nx = G.nx) (hg : ∀ i, G'.get i = G.get i) : HR E B0 φ G' w where
  inv := hR.inv
  low := hR.low
  dom i u Q e := by rw [hn]; exact hR.dom i u Q e
  res i h := by rw [hn]; exact hR.res i h
  pl := hR.pl
  pb := hR.pb
  fresh i h := by rw [hg]; exact hR.fresh i (by rw [← hn]; exact h)
  obj i u Q o e h := hR.obj i u Q o e (by rw [← hg]; exact h)
  sep := hR.sep
  same i u v Q1 Q2 t top wv fl sz c h := hR.same i u v Q1 Q2 t top wv fl sz c (by rw [← hg]; exact h)
  glo := hR.glo

/-- ids that are kept free -/
def RS (φ0 : Phi) (fr' : AFr) (L : Nat → Prop) (pre : List Info) (i : Nat) : Prop := φ0.R i ∨ ∃ x ∈ pre, ¬ L x.i ∧ RefI fr' x i

def HG (E : Env) (B0 : Nat) (grp : List Info) (tg : Nat → Nat) (H' : AH) (L : Nat → Prop) (φ : Phi) (G : AH) (w : World) : Prop :=
  ∃ Hc, HR E B0 φ Hc w ∧ Hc.nx = G.nx ∧ (∀ i, (∀ g ∈ grp, L g.i → tg g.i ≠ i) → Hc.get i = G.get i) ∧ ∀ g ∈ grp, L g.i → Hc.get (tg g.i) = H'.get (tg g.i)

def TR (l : List Info) (fr fr' : AFr) (L : Nat → Prop) (φ : Phi) (ts : Array Value) : Prop :=
  ts.size = fr.nt ∧ (∀ y ∈ l, L y.i → ∀ d v, y.o.dst = some d → fr'.get d = some v → VR φ v (ts.getD d Go.undef)) ∧
    ∀ t, (∀ y ∈ l, L y.i → y.o.dst ≠ some t) → ∀ v, fr.get t = some v → VR φ v (ts.getD t Go.undef)

/-- what is given once for a region's run -/
structure Gv (E : Env) (P : Program) (B0 : Nat) (rec : Task → Option Out) (ops : Array Oper) (l grp S : List Info) (fr fr' : AFr) (H : AH) (Fm : AFr) (Gm H' : AH) (tg : Nat → Nat) : Prop where
  hE : E.Ok P
  hc : SndCall E P B0 rec
  hr : SndRound E P B0 rec
  cx : Cx ops l
  all : ∀ x ∈ l, x ∈ S
  sub : ∀ x ∈ S, x ∈ l
  leg : LegalF [] S
  st : Steps E rec ops S fr fr'
  go : GrpOk E rec ops l grp fr fr' Fm Gm H' tg

structure Inv (E : Env) (B0 : Nat) (rec : Task → Option Out) (ops : Array Oper) (l grp : List Info) (fr fr' : AFr) (H : AH) (Fm : AFr) (Gm H' : AH) (tg : Nat → Nat) (φ0 : Phi) (w0 : World) (D0 : List Deferred)
    (L : Nat → Prop) (a : Act) (w : World) (p : Option Info) (pre : List Info) (F : AFr) (G : AH) (es : List Info) : Prop where
  run : Run E rec ops l grp fr fr' H Fm Gm p pre F G es
  clo : ∀ x ∈ l, L x.i → ∀ j, inMask x.m j = true → L j
  pl : ∀ e, p = some e → e ∈ l ∧ L e.i
  el : ∀ e ∈ es, ¬ L e.i
  c3 : ∀ x ∈ l, x.c = 3 → ¬ L x.i → x ∈ es ∨ x ∈ grp
  df : a.defers = D0
  st : ∃ φ : Phi, φ0.sub φ ∧ (∀ i, φ.R i ↔ RS φ0 fr' L pre i) ∧ HG E B0 grp tg H' L φ G w ∧ TR l fr fr' L φ a.tmps ∧ Below B0 w0 w

section
variable {rec : Task → Option Out} {l grp S : List Info} {fr' Fm : AFr} {Gm H' : AH} {tg : Nat → Nat} {φ0 : Phi} {w0 : World} {D0 : List Deferred} {L : Nat → Prop}
  {p : Option Info} {pre : List Info} {F : AFr} {G : AH} {es : List Info}

theorem Gv.lt (gv : Gv E P B0 rec ops l grp S fr fr' H Fm Gm H' tg) {x : Info} (hx : x ∈ l) {d : Nat} (hd : x.o.dst = some d) : d < fr.nt := gv.st.lt x (gv.all x hx) d hd

theorem TR.reads (h : TR l fr fr' L φ a.tmps) (hclo : ∀ x ∈ l, L x.i → ∀ j, inMask x.m j = true → L j) {x : Info} (hxL : ¬ L x.i) (hm : ∀ j, inMask x.m j = true → L j) {f : AFr}
    (hr : ReadsAll ops l fr fr' x f) : ∀ t ∈ x.o.looksAt ops, ∀ v, f.get t = some v → VR φ v (a.tmps.getD t Go.undef) := by
  intro t ht v hv
  rcases hr t ht with ⟨y, hy, hd, hmy, e⟩ | ⟨hn, e⟩
  · exact h.2.1 y hy (hm _ hmy) t v hd (by rw [← e]; exact hv)
  · refine h.2.2 t (fun y hy hLy hd => ?_) v (by rw [← e]; exact hv)
    rcases hn y hy hd with e2 | e2
    · exact hxL (e2 ▸ hLy)
    · exact hxL (hclo y hy hLy _ e2)

theorem getD_put {ts : Array Value} {d t : Nat} {u : Value} : (ts.setIfInBounds d u).getD t Go.undef = if d = t ∧ t < ts.size then u else ts.getD t Go.undef := by
  simp only [Array.getD_eq_getD_getElem?, Array.getElem?_setIfInBounds]
  by_cases e : d = t
  · subst e
    by_cases h : d < ts.size
    · simp [h]
    · simp [h]
  · simp [e]

theorem TR.put (gv : Gv E P B0 rec ops l grp S fr fr' H Fm Gm H' tg) (h : TR l fr fr' L φ a.tmps) {ψ : Phi} (hs : φ.sub ψ) {x : Info} (hx : x ∈ l) {v : AV} {u : Value} (hu : VR ψ v u) (hv : ∀ d, x.o.dst = some d → fr'.get d = some v) :
    TR l fr fr' (fun j => j = x.i ∨ L j) ψ (a.put x.o.dst u).tmps := by
  cases hd : x.o.dst with
  | none =>
    refine ⟨h.1, fun y hy hLy d v' e1 e2 => ?_, fun t ht v' e2 => ?_⟩
    · rcases hLy with e | hLy
      · rw [gv.cx.inj y hy x hx e, hd] at e1; simp at e1
      · exact VR.sub hs _ _ (h.2.1 y hy hLy d v' e1 e2)
    · exact VR.sub hs _ _ (h.2.2 t (fun y hy hLy => ht y hy (.inr hLy)) v' e2)
  | some d =>
    have hlt := gv.lt hx hd
    have hvd := hv d hd
    refine ⟨by simp [Act.put, h.1], fun y hy hLy d' v' e1 e2 => ?_, fun t ht v' e2 => ?_⟩
    · show VR ψ v' ((a.tmps.setIfInBounds d u).getD d' Go.undef)
      rw [getD_put]
      by_cases e : y.i = x.i
      · rw [gv.cx.inj y hy x hx e, hd] at e1
        cases e1
        rw [hvd] at e2; cases e2
        rw [if_pos ⟨rfl, by rw [h.1]; exact hlt⟩]
        exact hu
      · rcases hLy with e' | hLy
        · exact absurd e' e
        · have hne := gv.cx.dst_ne hx hy e e1
          rw [hd] at hne
          rw [if_neg (fun c => hne (by rw [c.1]))]
          exact VR.sub hs _ _ (h.2.1 y hy hLy d' v' e1 e2)
    · show VR ψ v' ((a.tmps.setIfInBounds d u).getD t Go.undef)
      rw [getD_put]
      have hne := ht x hx (.inl rfl)
      rw [hd] at hne
      rw [if_neg (fun c => hne (by rw [c.1]))]
      exact VR.sub hs _ _ (h.2.2 t (fun y hy hLy => ht y hy (.inr hLy)) v' e2)

theorem HG.heap (h : HG E B0 grp tg H' L φ G w) (hn : ∀ g ∈ grp, ¬ L g.i) : HR E B0 φ G w := by
  obtain ⟨Hc, h1, h2, h3, _⟩ := h
  exact h1.congr h2.symm fun i => (h3 i fun g hg hL => absurd hL (hn g hg)).symm

theorem HG.of_heap (h : HR E B0 φ G w) (hn : ∀ g ∈ grp, ¬ L g.i) : HG E B0 grp tg H' L φ G w :=
  ⟨G, h, rfl, fun _ _ => rfl, fun g hg hL => absurd hL (hn g hg)⟩

theorem RS.other (cx : Cx ops l) (hp : ∀ y ∈ pre, y ∈ l) {x : Info} (hx : x ∈ l) (hn : ∀ i, ¬ RefI fr' x i) (i : Nat) : RS φ0 fr' L pre i ↔ RS φ0 fr' (fun j => j = x.i ∨ L j) pre i := by
  unfold RS
  constructor
  · rintro (h | ⟨y, hy, hL, hi⟩)
    · exact .inl h
    · refine .inr ⟨y, hy, fun c => ?_, hi⟩
      rcases c with c | c
      · rw [cx.inj y (hp y hy) x hx c] at hi; exact hn i hi
      · exact hL c
  · rintro (h | ⟨y, hy, hL, hi⟩)
    · exact .inl h
    · exact .inr ⟨y, hy, fun c => hL (.inr c), hi⟩

theorem Inv.grpNone (gv : Gv E P B0 rec ops l grp S fr fr' H Fm Gm H' tg) (inv : Inv E B0 rec ops l grp fr fr' H Fm Gm H' tg φ0 w0 D0 L a w p pre F G es) {x : Info} (hxL : ¬ L x.i)
    (h : ∀ g ∈ grp, inMask g.m x.i = true) : ∀ g ∈ grp, ¬ L g.i := fun g hg hL => hxL (inv.clo g (gv.go.st g hg).1 hL _ (h g hg))

/-- one operation comes up -/
theorem step_ok (gv : Gv E P B0 rec ops l grp S fr fr' H Fm Gm H' tg) (h0 : ∀ i, φ0.R i → i < H.nx) (inv : Inv E B0 rec ops l grp fr fr' H Fm Gm H' tg φ0 w0 D0 L a w p pre F G es) {x : Info} (hx : x ∈ l) (hxL : ¬ L x.i) (hm : ∀ j, inMask x.m j = true → L j)
    (ro : Option Nat) (k : Nat) (Q : Exit → Act → World → Prop) (K : Act → World → Prop)
    (hK : ∀ a' w' p' pre' F' G' es', Inv E B0 rec ops l grp fr fr' H Fm Gm H' tg φ0 w0 D0 (fun j => j = x.i ∨ L j) a' w' p' pre' F' G' es' → K a' w') :
    if Region.wanted x.o (yielded ops a.tmps) then x.o.wpIn (FW ro) k P a w K Q else (∀ f, x.o.about P w a.eval = some f → (FW ro).fn f) ∧ K (a.put x.o.dst undef) w := by
  obtain ⟨φ, hsub, hRS, hG, hT, hB⟩ := inv.st
  have hfact := inv.run.fact
  have hdefers : ∀ (d : Option Tmp) (u : Value), (a.put d u).defers = D0 := fun d u => by rw [← inv.df]; cases d <;> rfl
  have hclo' : ∀ y ∈ l, y.i = x.i ∨ L y.i → ∀ j, inMask y.m j = true → j = x.i ∨ L j := fun y hy hL j hj => by
    rcases hL with e | hL
    · rw [gv.cx.inj y hy x hx e] at hj; exact .inr (hm j hj)
    · exact .inr (inv.clo y hy hL j hj)
  have hpl' : ∀ e, p = some e → e ∈ l ∧ (e.i = x.i ∨ L e.i) := fun e he => ⟨(inv.pl e he).1, .inr (inv.pl e he).2⟩
  -- an operation that is no effect and lays no object
  have plain : ∀ (f : AFr) (Hc : AH) (v : AV), f.nt = fr.nt → ReadsAll ops l fr fr' x f → x.c ≠ 3 → (∀ i, ¬ RefI fr' x i) → HR E B0 φ Hc w → Hc.nx = G.nx → (∀ i, (∀ g ∈ grp, L g.i → tg g.i ≠ i) → Hc.get i = G.get i) → (∀ g ∈ grp, L g.i → Hc.get (tg g.i) = H'.get (tg g.i)) →
      valA E rec ops x.o f Hc = some (v, Hc) → (∀ d, x.o.dst = some d → fr'.get d = some v) →
      if Region.wanted x.o (yielded ops a.tmps) then x.o.wpIn (FW ro) k P a w K Q else (∀ f, x.o.about P w a.eval = some f → (FW ro).fn f) ∧ K (a.put x.o.dst undef) w := by
    intro f Hc v hfn hrd hc hnr hRc e1 e2 e3 hval hdst
    refine val_ok gv.hE gv.hc gv.hr hRc (by rw [hT.1, hfn]) (hT.reads inv.clo hxL hm hrd) hval ro k Q K fun ψ u w' hle hR' hu hB' => ?_
    refine hK _ _ p pre F G es ⟨inv.run, hclo', hpl', fun e he hL => ?_, fun y hy hc3 hL => inv.c3 y hy hc3 fun c => hL (.inr c), hdefers _ _, ψ, fun i u P e => hle _ _ _ (hsub i u P e), fun i => ?_, ⟨Hc, hR', e1, fun i hi => e2 i fun g hg hL => hi g hg (.inr hL), fun g hg hL => ?_⟩, hT.put gv hle.app hx hu hdst, hB.trans hB'⟩
    · rcases hL with c | c
      · -- x is no effect
        have hel : e ∈ l ∧ e.c = 3 := by
          have : ∀ {p pre F G es}, Run E rec ops l grp fr fr' H Fm Gm p pre F G es → ∀ e ∈ es, e ∈ l ∧ e.c = 3 := by
            intro p pre F G es r
            induction r with
            | last _ => intro e he; simp at he
            | more _ h1 h2 _ _ _ _ _ _ _ _ ih =>
              intro e he
              rcases List.mem_cons.1 he with rfl | he
              · exact ⟨h1, h2⟩
              · exact ih e he
          exact this inv.run e he
        rw [gv.cx.inj e hel.1 x hx c] at hel
        exact hc hel.2
      · exact inv.el e he c
    · rw [hle.res, hRS, RS.other gv.cx hfact.sub hx hnr]
    · rcases hL with c | c
      · have hg' := gv.go.st g hg
        rw [gv.cx.inj g hg'.1 x hx c] at hg'
        exact absurd hg'.2.1 hc
      · exact e3 g hg c
  obtain ⟨Hc, hRc, e1, e2, e3⟩ := hG
  by_cases hc0 : x.c = 0
  · obtain ⟨f1, v, hf1, hrd, hval, hdst⟩ := canon0 gv.cx gv.sub gv.leg gv.st (gv.all x hx) hc0
    exact plain f1 Hc v hf1 hrd (by omega) (fun i hi => by have := hi.1; omega) hRc e1 e2 e3 (hval Hc) hdst
  by_cases hc3 : x.c = 3
  · rcases inv.c3 x hx hc3 hxL with hes | hgrp
    · -- the next effect
      obtain ⟨run, clo, pl, el, c3, _, _⟩ := inv
      cases run with
      | last f => simp at hes
      | more f hel hec hrd hch hgm hv hd hnx hq r =>
        rename_i e es v H1 q F2 G2
        have hxe : x = e := by
          rcases List.mem_cons.1 hes with h | h
          · exact h
          · exact absurd (hm _ (hch x h)) (el e (by simp))
        subst hxe
        have hno : ∀ g ∈ grp, ¬ L g.i := fun g hg hL => hxL (clo g (gv.go.st g hg).1 hL _ (hgm g hg))
        have hRG : HR E B0 φ G w := HG.heap ⟨Hc, hRc, e1, e2, e3⟩ hno
        refine val_ok gv.hE gv.hc gv.hr hRG (by rw [hT.1, f.nt]) (hT.reads clo hxL hm hrd) hv ro k Q K fun ψ u w' hle hR' hu hB' => ?_
        have hnoref : ∀ i, ¬ RefI fr' x i := fun i hi => by have := hi.1; omega
        have hpsi : ∀ i, ψ.R i ↔ RS φ0 fr' L pre i := fun i => by rw [hle.res, hRS]
        have hnext : ∀ i, RS φ0 fr' (fun j => j = x.i ∨ L j) (pre ++ x :: q) i → ψ.R i ∨ (H1.nx ≤ i ∧ i < G2.nx) := by
          rintro i (h | ⟨y, hy, hL, hi⟩)
          · exact .inl ((hpsi i).2 (.inl h))
          · rcases List.mem_append.1 hy with hy | hy
            · exact .inl ((hpsi i).2 (.inr ⟨y, hy, fun c => hL (.inr c), hi⟩))
            · rcases List.mem_cons.1 hy with rfl | hy
              · exact absurd hi (hnoref i)
              · exact .inr (hq.ids y hy i hi)
        have hR2 := hR'.widen hq.le hq.old (hq.fresh hR'.fresh) (RS φ0 fr' (fun j => j = x.i ∨ L j) (pre ++ x :: q)) hnext
        have hno' : ∀ g ∈ grp, ¬ (g.i = x.i ∨ L g.i) := fun g hg hL => by
          rcases hL with c | c
          · -- an effect does not come before itself
            have hgx := gv.cx.inj g (gv.go.st g hg).1 x hx c
            have := hm _ (hgx ▸ hgm g hg)
            exact hxL (c ▸ this)
          · exact hno g hg c
        have hu' : VR ⟨ψ.f, RS φ0 fr' (fun j => j = x.i ∨ L j) (pre ++ x :: q)⟩ v u := VR.sub (φ := ψ) (ψ := ⟨ψ.f, RS φ0 fr' (fun j => j = x.i ∨ L j) (pre ++ x :: q)⟩) (fun _ _ _ h => h) _ _ hu
        refine hK _ _ (some x) (pre ++ x :: q) F2 G2 es ⟨r, hclo', fun e he => by cases he; exact ⟨hx, .inl rfl⟩, fun e he hL => ?_, fun y hy hyc hL => ?_, hdefers _ _, ⟨ψ.f, RS φ0 fr' (fun j => j = x.i ∨ L j) (pre ++ x :: q)⟩, fun i u P e => hle _ _ _ (hsub i u P e), fun i => Iff.rfl, HG.of_heap hR2 hno', hT.put gv (ψ := ⟨ψ.f, RS φ0 fr' (fun j => j = x.i ∨ L j) (pre ++ x :: q)⟩) (fun i u P e => hle _ _ _ e) hx hu' hd, hB.trans hB'⟩
        · rcases hL with c | c
          · have hel2 : e ∈ l := by
              have : ∀ {p pre F G es}, Run E rec ops l grp fr fr' H Fm Gm p pre F G es → ∀ e ∈ es, e ∈ l := by
                intro p pre F G es r
                induction r with
                | last _ => intro e he; simp at he
                | more _ h1 _ _ _ _ _ _ _ _ _ ih =>
                  intro e he
                  rcases List.mem_cons.1 he with rfl | he
                  · exact h1
                  · exact ih e he
              exact this r e he
            have hex := gv.cx.inj e hel2 x hx c
            have := hm _ (hex ▸ hch e he)
            exact hxL this
          · exact el e (List.mem_cons_of_mem _ he) c
        · rcases c3 y hy hyc (fun c => hL (.inr c)) with h | h
          · rcases List.mem_cons.1 h with rfl | h
            · exact absurd (.inl rfl) hL
            · exact .inl h
          · exact .inr h
    · -- one of the last stores
      obtain ⟨hgl, _, hgd, hgr, _, o, ho1, ho2⟩ := gv.go.st x hgrp
      obtain ⟨run, clo, pl, el, c3, hdf, _⟩ := inv
      cases run with
      | more f hel hec hrd hch hgm hv hd hnx hq r => exact absurd (hm _ (hgm x hgrp)) (el _ (by simp))
      | last f =>
        have hget : Hc.get (tg x.i) = Gm.get (tg x.i) := e2 _ fun g hg hL e => hxL (gv.go.one g hg x hgrp e ▸ hL)
        refine val_ok gv.hE gv.hc gv.hr hRc (by rw [hT.1, f.nt]) (hT.reads clo hxL hm hgr) (ho2 Hc hget) ro k Q K fun ψ u w' hle hR' hu hB' => ?_
        refine hK _ _ p pre Fm Gm [] ⟨.last f, hclo', hpl', fun e he => by simp at he, fun y hy hyc hL => c3 y hy hyc fun c => hL (.inr c), hdefers _ _, ψ, fun i u P e => hle _ _ _ (hsub i u P e), fun i => ?_, ⟨_, hR', by rw [AH.nx_put]; exact e1, fun i hi => ?_, fun g hg hL => ?_⟩, hT.put gv hle.app hx hu (fun d hd => by rw [hgd] at hd; simp at hd), hB.trans hB'⟩
        · rw [hle.res, hRS, RS.other gv.cx hfact.sub hx (fun i hi => by have := hi.1; omega)]
        · rw [AH.get_put, if_neg (fun e => hi x hgrp (.inl rfl) e.symm)]
          exact e2 i fun g hg hL => hi g hg (.inr hL)
        · rw [AH.get_put]
          by_cases e : tg g.i = tg x.i
          · rw [if_pos e, e, ho1]
          · rw [if_neg e]
            rcases hL with c | c
            · exact absurd (by rw [c]) e
            · exact e3 g hg c
  · -- reads and new objects
    have hc12 : x.c = 1 ∨ x.c = 2 := by
      have : x.c = cls x.o.op := (gv.cx.good x hx).2
      have h4 : cls x.o.op ≤ 3 := by
        unfold cls
        split <;> first
          | omega
          | (split <;> omega)
      omega
    have hno : ∀ g ∈ grp, ¬ L g.i := inv.grpNone gv hxL fun g hg => (gv.go.st g hg).2.2.2.2.1 x hx hc12
    have hRG : HR E B0 φ G w := HG.heap ⟨Hc, hRc, e1, e2, e3⟩ hno
    rcases hfact.rev x hx hc12 with ⟨e, he, hme⟩ | ⟨e, he, hme⟩ | ⟨hpre, hrd, d, v, hd, hfv, hor⟩
    · obtain ⟨h1, h2⟩ := inv.pl e he
      exact absurd (inv.clo e h1 h2 _ hme) hxL
    · have hes : e ∈ es := List.mem_of_mem_head? (by rw [he]; rfl)
      exact absurd (hm _ hme) (inv.el e hes)
    · have hdst : ∀ d', x.o.dst = some d' → fr'.get d' = some v := fun d' hd' => by rw [hd] at hd'; cases hd'; exact hfv
      rcases hor with ⟨hrf, hval⟩ | ⟨hc2, hwant, v', G', hop, hveq, hlt, hob⟩
      · refine plain F G v hfact.nt hrd hc3 (fun i hi => ?_) hRG rfl (fun _ _ => rfl) (fun g hg hL => absurd hL (hno g hg)) hval hdst
        obtain ⟨h2, d', v2, k1, k2, k3⟩ := hi
        rw [hdst d' k1] at k2
        cases k2
        rw [hrf h2] at k3; simp at k3
      · -- a new object
        have hF := cutF_FT (by rw [hT.1, hfact.nt]) (hT.reads inv.clo hxL hm hrd)
        have hcut : ∀ t ∈ x.o.looksAt ops, F.get t = (cutF F (x.o.looksAt ops)).get t := fun t ht => (cutF_get ht).symm
        rw [wantedA_congr hcut] at hwant
        rw [opA_congr (AgreeR.operands hcut)] at hop
        rw [wanted_ok hF hwant]
        simp only [if_true]
        refine ⟨fun f _ => FW_fn ro f, ?_⟩
        rw [Oper.semAt_eq _ _ _ (opA_defer hop)]
        have hcls : cls x.o.op = 2 := by rw [← (gv.cx.good x hx).2]; exact hc2
        obtain ⟨_, hrf'⟩ := opA_new hcls hop
        obtain ⟨o, b, Pq, u, hG', hrun, hN, hval, _, _⟩ := new_ok gv.hE hRG hF hcls hop
        rw [hrun]
        have hrv : refOf v = some (idOf v) := by rw [hveq]; exact (refOf_reid hrf').trans (by rw [← hveq])
        have hRefI : RefI fr' x (idOf v) := ⟨hc2, d, v, hd, hfv, hrv⟩
        obtain ⟨o2, ho2⟩ : ∃ o2, G.get (idOf v) = some o2 := by
          cases hq : G.get (idOf v) with
          | some o2 => exact ⟨o2, rfl⟩
          | none =>
            rw [hq] at hob
            cases hG2 : G'.get G.nx with
            | none => rw [hG2] at hob; simp [eqAO] at hob
            | some y => rw [hG2] at hob; cases y <;> simp [eqAO] at hob
        have hG'get : G'.get G.nx = some o := by rw [hG', AH.get_new, if_pos rfl]
        rw [ho2, hG'get] at hob
        have hN' : NewOk B0 φ w b Pq o2 := ⟨hN.1, hN.2.1, hN.2.2.1, fun χ hχ => eqAO_or hob (hN.2.2.2 χ hχ)⟩
        have hRid : φ.R (idOf v) := (hRS _).2 (.inr ⟨x, hpre, hxL, hRefI⟩)
        obtain ⟨k1, k2, k3⟩ := hRG.newAt hlt ho2 (hRG.res _ hRid).2 hN' (RS φ0 fr' (fun j => j = x.i ∨ L j) pre) (fun i hi => by
            rw [hRS]
            rcases hi with h | ⟨y, hy, hL, hi⟩
            · exact .inl h
            · exact .inr ⟨y, hy, fun c => hL (.inr c), hi⟩) (fun hi => by
            rcases hi with h | ⟨y, hy, hL, hi⟩
            · have := h0 _ h
              have := (hfact.lo x hpre _ hRefI).1
              omega
            · exact hL (.inl (hfact.one y hy x hpre _ hi hRefI)))
        refine hK _ _ p pre F G es ⟨inv.run, hclo', hpl', fun e he hL => ?_, fun y hy hyc hL => inv.c3 y hy hyc fun c => hL (.inr c), hdefers _ _, ⟨(φ.ext (idOf v) 0 Pq).f, RS φ0 fr' (fun j => j = x.i ∨ L j) pre⟩, fun i u P e => k1 _ _ _ (hsub i u P e), fun i => Iff.rfl, HG.of_heap k2 (fun g hg hL => ?_), hT.put gv k1 hx (v := v) ?_ hdst, hB.trans k3⟩
        · rcases hL with c | c
          · have hee : e ∈ l ∧ e.c = 3 := by
              have : ∀ {p pre F G es}, Run E rec ops l grp fr fr' H Fm Gm p pre F G es → ∀ e ∈ es, e ∈ l ∧ e.c = 3 := by
                intro p pre F G es r
                induction r with
                | last _ => intro e he; simp at he
                | more _ h1 h2 _ _ _ _ _ _ _ _ ih =>
                  intro e he
                  rcases List.mem_cons.1 he with rfl | he
                  · exact ⟨h1, h2⟩
                  · exact ih e he
              exact this inv.run e he
            rw [gv.cx.inj e hee.1 x hx c] at hee
            exact hc3 hee.2
          · exact inv.el e he c
        · rcases hL with c | c
          · have hg' := gv.go.st g hg
            rw [gv.cx.inj g hg'.1 x hx c] at hg'
            exact hc3 hg'.2.1
          · exact hno g hg c
        · have hvr := hval ⟨(φ.ext (idOf v) 0 Pq).f, RS φ0 fr' (fun j => j = x.i ∨ L j) pre⟩ (idOf v) (by simp [Phi.ext])
          rw [← hveq] at hvr
          exact hvr

end
end Go.Uf
end

/-
  Regions that draw their order: the law.
-/
noncomputable section
namespace Go.Uf
open Go.RowKit (Below)

variable {E : Env} {P : Program} {B0 : Nat} {φ : Phi} {H : AH} {w : World} {fr : AFr} {a : Act} {ops : Array Oper}

def cntF : Nat → (Nat → Bool) → Nat
  | 0, _ => 0
  | n + 1, f => cntF n f + (match f n with | true => 0 | false => 1)

theorem cntF_le (f : Nat → Bool) : ∀ n, cntF n f ≤ n
  | 0 => Nat.le_refl _
  | n + 1 => by
    have := cntF_le f n
    unfold cntF
    cases f n <;> simp only <;> omega
theorem cntF_congr {f g : Nat → Bool} : ∀ {n : Nat}, (∀ j, j < n → f j = g j) → cntF n f = cntF n g
  | 0, _ => rfl
  | n + 1, h => by
    simp only [cntF]
    rw [cntF_congr (fun j hj => h j (by omega)), h n (by omega)]
theorem cntF_set {f g : Nat → Bool} {i : Nat} (hf : f i = false) (hg : g i = true) (hgf : ∀ j, j ≠ i → g j = f j) : ∀ {n : Nat}, i < n → cntF n f = cntF n g + 1
  | 0, h => by omega
  | n + 1, h => by
    by_cases e : i = n
    · subst e
      simp only [cntF, hf, hg]
      rw [cntF_congr (f := f) (g := g) fun j hj => (hgf j (by omega)).symm]
    · simp only [cntF]
      rw [cntF_set hf hg hgf (show i < n by omega), hgf n (fun c => e c.symm)]
      omega
theorem cntF_zero {f : Nat → Bool} : ∀ {n : Nat}, cntF n f = 0 → ∀ i, i < n → f i = true
  | 0, _, i, h => by omega
  | n + 1, h, i, hi => by
    simp only [cntF] at h
    by_cases e : i = n
    · subst e
      cases hq : f i with
      | true => rfl
      | false => rw [hq] at h; simp at h
    · exact cntF_zero (n := n) (by omega) i (by omega)

theorem binds_any (e : Edge) : Region.binds .any e = bindsAny e := by
  unfold Region.binds bindsAny
  cases e.ground <;> rfl

section
variable {rec : Task → Option Out} {l grp S : List Info} {fr' Fm : AFr} {Gm H' : AH} {tg : Nat → Nat} {φ0 : Phi} {w0 : World} {D0 : List Deferred} {L : Nat → Prop}
  {p : Option Info} {pre : List Info} {F : AFr} {G : AH} {es : List Info}

/-- all operations have come up -/
theorem fin_ok (gv : Gv E P B0 rec ops l grp S fr fr' H Fm Gm H' tg) (inv : Inv E B0 rec ops l grp fr fr' H Fm Gm H' tg φ0 w0 D0 L a w p pre F G es) (hall : ∀ x ∈ l, L x.i) (hel : ∀ e ∈ es, e ∈ l)
    {next : Act → World → Prop} (hn : Goes E B0 φ0 w0 fr' H' D0 next) : next a w := by
  obtain ⟨run, clo, pl, el, c3, df, φ, hsub, hRS, ⟨Hc, hRc, e1, e2, e3⟩, hT, hB⟩ := inv
  cases run with
  | more f hl1 => exact absurd (hall _ hl1) (el _ (by simp))
  | last f =>
    have hR : φ.R = φ0.R := by
      funext i
      refine propext ((hRS i).trans ⟨fun h => ?_, .inl⟩)
      rcases h with h | ⟨x, hx, hL, _⟩
      · exact h
      · exact absurd (hall x (f.sub x hx)) hL
    refine hn φ a w ⟨hsub, hR⟩ (hRc.congr (by rw [gv.go.nx, e1]) fun i => ?_) ⟨by rw [hT.1, gv.st.nt.1], fun t v e => ?_⟩ df hB
    · by_cases h : ∃ g ∈ grp, tg g.i = i
      · obtain ⟨g, hg, rfl⟩ := h
        exact (e3 g hg (hall g (gv.go.st g hg).1)).symm
      · have h' : ∀ g ∈ grp, tg g.i ≠ i := fun g hg e => h ⟨g, hg, e⟩
        rw [gv.go.out i h', e2 i fun g hg _ => h' g hg]
    · by_cases h : ∃ y ∈ l, y.o.dst = some t
      · obtain ⟨y, hy, hd⟩ := h
        exact hT.2.1 y hy (hall y hy) t v hd e
      · have h' : ∀ y ∈ l, y.o.dst ≠ some t := fun y hy e => h ⟨y, hy, e⟩
        rw [gv.st.other fun y hy => h' y (gv.sub y hy)] at e
        exact hT.2.2 t (fun y hy _ => h' y hy) v e

theorem Run.mem {p : Option Info} {pre : List Info} {F : AFr} {G : AH} {es : List Info} (r : Run E rec ops l grp fr fr' H Fm Gm p pre F G es) : ∀ e ∈ es, e ∈ l := by
  induction r with
  | last _ => intro e he; simp at he
  | more _ h1 _ _ _ _ _ _ _ _ _ ih =>
    intro e he
    rcases List.mem_cons.1 he with rfl | he
    · exact h1
    · exact ih e he

theorem any_ok (gv : Gv E P B0 rec ops l grp S fr fr' H Fm Gm H' tg) (h0 : ∀ i, φ0.R i → i < H.nx) (ro : Option Nat) (k : Nat) (Q : Exit → Act → World → Prop) (hn : Goes E B0 φ0 w0 fr' H' D0 (Q .normal)) :
    ∀ (fuel : Nat) (listed : Array Bool) (a : Act) (w : World) (p : Option Info) (pre : List Info) (F : AFr) (G : AH) (es : List Info), listed.size = ops.size → cntF ops.size (fun j => listed.getD j false) ≤ fuel →
      Inv E B0 rec ops l grp fr fr' H Fm Gm H' tg φ0 w0 D0 (fun j => listed.getD j false = true) a w p pre F G es → wpAnyIn (FW ro) k P .any ops Q fuel listed a w := by
  intro fuel
  induction fuel with
  | zero =>
    intro listed a w p pre F G es hsz hcnt inv
    have hall := cntF_zero (Nat.le_zero.1 hcnt)
    have hl : ∀ x ∈ l, listed.getD x.i false = true := fun x hx => hall x.i (Array.getElem?_eq_some_iff.1 (gv.cx.good x hx).1).1
    refine ⟨?_, fin_ok gv inv hl inv.run.mem hn⟩
    cases hr : Region.ready .any ops listed with
    | nil => rfl
    | cons i r =>
      have hi : i ∈ Region.ready .any ops listed := by rw [hr]; simp
      obtain ⟨h1, o, h2, _⟩ := mem_ready.1 hi
      have := hall i (Array.getElem?_eq_some_iff.1 h2).1
      have hlt : i < listed.size := by rw [hsz]; exact (Array.getElem?_eq_some_iff.1 h2).1
      simp only [Array.getD, hlt, dif_pos] at h1 this
      rw [this] at h1; simp at h1
  | succ fuel ih =>
    intro listed a w p pre F G es hsz hcnt inv
    refine ⟨fun hr => ?_, fun i hi => ?_⟩
    · -- none is ready: all have come up
      have hall : ∀ i, i < ops.size → listed.getD i false = true := by
        intro i
        induction i using Nat.strongRecOn with
        | _ i ih2 =>
          intro hi
          cases hq : listed.getD i false with
          | true => rfl
          | false =>
            exfalso
            obtain ⟨o, ho⟩ : ∃ o, ops[i]? = some o := ⟨_, Array.getElem?_eq_getElem hi⟩
            obtain ⟨x, hx, rfl⟩ := gv.cx.cover i o ho
            have hxo := (gv.cx.good x hx).1
            rw [ho] at hxo
            cases hxo
            have hmem : x.i ∈ Region.ready .any ops listed := by
              refine mem_ready.2 ⟨?_, x.o, ho, fun e he hb => ?_⟩
              · have hlt : x.i < listed.size := by omega
                simp only [Array.getD, hlt, dif_pos] at hq ⊢
                exact hq
              · rw [binds_any] at hb
                have := gv.cx.low x hx e (by simpa using he) hb
                exact ih2 e.on this (by omega)
            rw [hr] at hmem
            simp at hmem
      exact fin_ok gv inv (fun x hx => hall x.i (Array.getElem?_eq_some_iff.1 (gv.cx.good x hx).1).1) inv.run.mem hn
    · obtain ⟨h1, o, ho, hafter⟩ := mem_ready.1 hi
      obtain ⟨x, hx, rfl⟩ := gv.cx.cover i o ho
      have hxo := (gv.cx.good x hx).1
      rw [ho] at hxo
      cases hxo
      have hxlt : x.i < ops.size := (Array.getElem?_eq_some_iff.1 ho).1
      have hlt : x.i < listed.size := by omega
      have hf : listed.getD x.i false = false := by
        simp only [Array.getD, hlt, dif_pos] at h1 ⊢
        exact h1
      have hxL : ¬ listed.getD x.i false = true := by rw [hf]; simp
      have hm : ∀ j, inMask x.m j = true → listed.getD j false = true := fun j hj => by
        obtain ⟨e, he, hb, hor⟩ := gv.cx.anc x hx j hj
        have hon := hafter e (by simpa using he) (by rw [binds_any]; exact hb)
        rcases hor with rfl | ⟨y, hy, hye, hyj⟩
        · exact hon
        · exact inv.clo y hy (by rw [hye]; exact hon) j hyj
      have hset : ∀ j, (listed.setIfInBounds x.i true).getD j false = true ↔ j = x.i ∨ listed.getD j false = true := fun j => by
        simp only [Array.getD_eq_getD_getElem?, Array.getElem?_setIfInBounds]
        by_cases e : x.i = j
        · subst e; simp [hlt]
        · have : ¬ j = x.i := fun c => e c.symm
          simp [e, this]
      unfold wpOpIn
      rw [ho]
      refine step_ok gv h0 inv hx hxL hm ro k Q _ fun a' w' p' pre' F' G' es' inv' => ?_
      refine ih (listed.setIfInBounds x.i true) a' w' p' pre' F' G' es' (by simpa using hsz) ?_ ?_
      · have := cntF_set (f := fun j => listed.getD j false) (g := fun j => (listed.setIfInBounds x.i true).getD j false) (i := x.i) hf ((hset x.i).2 (.inl rfl)) (fun j hj => by
          have h := hset j
          cases hq : listed.getD j false with
          | true => exact h.2 (.inr hq)
          | false =>
            cases hq2 : (listed.setIfInBounds x.i true).getD j false with
            | false => rfl
            | true =>
              rcases h.1 hq2 with c | c
              · exact absurd c hj
              · rw [hq] at c; simp at c) hxlt
        omega
      · have : (fun j => (listed.setIfInBounds x.i true).getD j false = true) = (fun j => j = x.i ∨ listed.getD j false = true) := by
          funext j
          exact propext (hset j)
        rw [this]
        exact inv'

theorem flatS_mem : ∀ {qs : List (List Info)} {es : List Info} {x : Info}, x ∈ flatS qs es → (∃ q ∈ qs, x ∈ q) ∨ x ∈ es
  | [], es, x, h => by simp [flatS] at h
  | q :: qs, es, x, h => by
    simp only [flatS, List.mem_append] at h
    rcases h with h | h
    · exact .inl ⟨q, by simp, h⟩
    · cases es with
      | nil => simp at h
      | cons e es =>
        simp only [List.mem_cons] at h
        rcases h with rfl | h
        · exact .inr (by simp)
        · rcases flatS_mem h with ⟨q', hq', hx⟩ | h
          · exact .inl ⟨q', List.mem_cons_of_mem _ hq', hx⟩
          · exact .inr (List.mem_cons_of_mem _ h)

theorem LegalF.pairwise : ∀ {l p : List Info}, LegalF p l → l.Pairwise (fun x y => x.i ≠ y.i)
  | [], _, _ => List.Pairwise.nil
  | x :: l, p, h => List.Pairwise.cons (fun y hy => h.2.2.ne x (by simp) y hy) h.2.2.pairwise

theorem runQ0 : ∀ {q : List Info} {f f1 : AFr} {h h1 : AH}, (∀ x ∈ q, x.c = 0 ∧ x.c = cls x.o.op) → runQ E ops q f h = some (f1, h1) → h1 = h
  | [], f, f1, h, h1, _, hr => by
    simp only [runQ, Option.some.injEq, Prod.mk.injEq] at hr
    exact hr.2.symm
  | x :: q, f, f1, h, h1, hq, hr => by
    simp only [runQ] at hr
    split at hr
    case h_2 => simp at hr
    rename_i f2 h2 hx
    have h4 := runQ0 (fun y hy => hq y (List.mem_cons_of_mem _ hy)) hr
    obtain ⟨v, _, hcase, _⟩ := doQ_cases (rec := fun _ => none) (hq x (by simp)).2 hx
    rcases hcase with ⟨e, _⟩ | ⟨e, _⟩
    · rw [h4, e]
    · have := (hq x (by simp)).1; omega

end

theorem draw_ok (hE : E.Ok P) : DrawLaw E P B0 := by
  intro rec hc hr id ops fr H fr' H' h
  unfold drawA at h
  split at h
  · simp at h
  rename_i pl hpl
  split at h
  · simp at h
  rename_i Fm Gm hst
  split at h
  · simp at h
  rename_i is hts
  split at h
  · simp at h
  rename_i f3 H3 hgr
  unfold planOf at hpl
  split at hpl
  · simp at hpl
  rename_i ms hms
  split at hpl
  case h_2 => simp at hpl
  rename_i hchk
  simp only [Option.some.injEq] at hpl
  rw [Bool.and_eq_true] at hchk
  have cx := Cx.of hms hchk.1
  have hchk := hchk.2
  generalize hl : infos 0 ops.toList ms.reverse = l at cx hchk hpl
  have hpo := mkPlan_ok l
  rw [hpl] at hchk hpo
  unfold chkPlan at hchk
  rw [Bool.and_eq_true] at hchk
  obtain ⟨hcg, hcs⟩ := hchk
  split at hcs
  · simp at hcs
  rename_i D hD
  split at hcs
  · simp at hcs
  rename_i D2 hD2
  have hfull : D2 = 2 ^ ops.toList.length - 1 := Nat.eq_of_beq_eq_true hcs
  obtain ⟨l1, m1⟩ := chkSt_ok hD MaskOf.zero
  obtain ⟨l2, m2⟩ := legalB_ok hD2 m1
  rw [List.nil_append] at l2 m2
  unfold chkGrp at hcg
  rw [Bool.and_eq_true, List.all_eq_true, List.all_eq_true] at hcg
  obtain ⟨htl0, hcg⟩ := hcg
  have htl : ∀ x ∈ pl.tail, x.c = 0 := fun x hx => Nat.eq_of_beq_eq_true (htl0 x hx)
  have hgood : ∀ x ∈ l, x.c = cls x.o.op := fun x hx => (cx.good x hx).2
  have hgdst : ∀ g ∈ pl.grp, g.o.dst = none := fun g hg => by
    have := hcg g hg
    simp only [Bool.and_eq_true] at this
    have := this.1.2
    split at this
    · assumption
    · simp at this
  have hges : ∀ g ∈ pl.grp, ∀ e ∈ pl.es, inMask g.m e.i = true := fun g hg e he => by
    have := hcg g hg
    simp only [Bool.and_eq_true, List.all_eq_true] at this
    exact this.2.1 e he
  have hg12 : ∀ g ∈ pl.grp, ∀ x ∈ l, x.c = 1 ∨ x.c = 2 → inMask g.m x.i = true := fun g hg x hx hc12 => by
    have := hcg g hg
    simp only [Bool.and_eq_true, List.all_eq_true] at this
    have := this.2.2 x hx
    have h12 : (Nat.beq x.c 1 || Nat.beq x.c 2) = true := by rcases hc12 with e | e <;> rw [e] <;> rfl
    rw [h12] at this
    simpa using this
  have hfl : ∀ x ∈ flatS pl.qs pl.es, x ∈ l := fun x hx => by
    rcases flatS_mem hx with ⟨q, hq, hx⟩ | hx
    · exact (hpo.qs q hq x hx).1
    · exact (hpo.es x hx).1
  have hT : ∀ x ∈ pl.grp ++ pl.tail, x ∈ l := fun x hx => by
    rcases List.mem_append.1 hx with h | h
    · exact (hpo.grp x h).1
    · exact hpo.tl x h
  have hS : ∀ x ∈ flatS pl.qs pl.es ++ (pl.grp ++ pl.tail), x ∈ l := fun x hx => by
    rcases List.mem_append.1 hx with h | h
    · exact hfl x h
    · exact hT x h
  have hleg : LegalF [] (flatS pl.qs pl.es ++ (pl.grp ++ pl.tail)) := LegalF.append.2 ⟨l1, by rw [List.nil_append]; exact l2⟩
  have hall : ∀ x ∈ l, x ∈ flatS pl.qs pl.es ++ (pl.grp ++ pl.tail) := fun x hx => by
    have hlt : x.i < ops.toList.length := by
      have := (Array.getElem?_eq_some_iff.1 (cx.good x hx).1).1
      simpa using this
    have hin : inMask D2 x.i = true := by rw [hfull]; exact inMask_full hlt
    obtain ⟨y, hy, e⟩ := (m2 x.i).1 hin
    rw [← cx.inj y (hS y hy) x hx e]
    exact hy
  obtain ⟨l3, _⟩ := LegalF.append.1 l2
  obtain ⟨g1, g2, g3, tg, k1, k2, k3, k4⟩ := grp_run hgdst (fun x hx y hy e => cx.inj x (hpo.grp x hx).1 y (hpo.grp y hy).1 e) l3.pairwise hts hgr
  subst g1
  have hH : H' = H3 := runQ0 (fun x hx => ⟨htl x hx, hgood x (hpo.tl x hx)⟩) h
  subst hH
  have sg : Steps E rec ops pl.grp f3 f3 := runIs_steps (fun x hx e => by have := (hpo.grp x hx).2; omega) hgr
  have stl : Steps E rec ops pl.tail f3 fr' := runQ_steps (hg := hgood) hpo.tl h
  have sT : Steps E rec ops (pl.grp ++ pl.tail) f3 fr' := Steps.append.2 ⟨f3, sg, stl⟩
  have sF : Steps E rec ops (flatS pl.qs pl.es) fr f3 := runSt_steps (hg := hgood) (fun q hq x hx => (hpo.qs q hq x hx).1) (fun e he h0 => by have := (hpo.es e he).2; omega) hst
  have sS : Steps E rec ops (flatS pl.qs pl.es ++ (pl.grp ++ pl.tail)) fr fr' := Steps.append.2 ⟨f3, sF, sT⟩
  obtain ⟨q0, F, G, hQ, hrun⟩ := run_of cx (H := H) (p := none) (pre := []) hT sT hpo.qs hpo.es hges hfl hD MaskOf.zero hpo.re (fun x hx => by simp at hx) (by simpa using hleg) rfl (fun x hx => by simp at hx) (fun x hx => by simp at hx) (Nat.le_refl _) hst
  rw [List.nil_append] at hrun
  have hgo : GrpOk E rec ops l pl.grp fr fr' f3 Gm H' tg := by
    refine ⟨g2, fun i hi => g3 i fun hin => ?_, fun g hg g' hg' => k2 g hg g' hg', fun g hg => ⟨(hpo.grp g hg).1, (hpo.grp g hg).2, hgdst g hg, ?_, hg12 g hg, k4 g hg⟩⟩
    · obtain ⟨x, hx, e⟩ := k3 i hin
      exact hi x hx e
    · refine reads_ok cx hfl hT hleg sF sT (hpo.grp g hg).1 (fun y hy hmy hdy => ?_) (.inl fun y hy => l2.ne y hy g (by simp [hg]))
      obtain ⟨p1, p2, hp12⟩ := List.append_of_mem hg
      rw [hp12, List.append_assoc] at l2
      have l4 := (LegalF.append.1 l2).2
      obtain ⟨z, hz, ez⟩ := l4.1 _ hmy
      have hzl : z ∈ l := by
        rcases List.mem_append.1 hz with hz | hz
        · exact hfl z hz
        · exact (hpo.grp z (by rw [hp12]; simp [hz])).1
      have hzy := cx.inj z hzl y hy ez
      subst hzy
      rcases List.mem_append.1 hz with hz | hz
      · exact hz
      · exact absurd (hgdst z (by rw [hp12]; simp [hz])) hdy
  refine ⟨sS.nt.2, fun k φ a w ro Q hR hF hn => wpIn_region_any hE.mixed ?_⟩
  have gv : Gv E P B0 rec ops l pl.grp (flatS pl.qs pl.es ++ (pl.grp ++ pl.tail)) fr fr' H f3 Gm H' tg := ⟨hE, hc, hr, cx, hall, hS, hleg, sS, hgo⟩
  have hrep : ∀ j, ¬ (Array.replicate ops.size false).getD j false = true := fun j => by
    rw [Array.getD_eq_getD_getElem?, Array.getElem?_replicate]
    split <;> simp
  refine any_ok (φ0 := φ) (w0 := w) (D0 := a.defers) gv (fun i hi => (hR.res i hi).1) ro k Q hn ops.size _ a _ none q0 F G pl.es (by simp) (cntF_le _ _) ⟨hrun, fun x _ hL => absurd hL (hrep _), fun e he => by simp at he, fun e _ => hrep _, fun x hx hc3 _ => hpo.all3 x hx hc3, rfl, ?_⟩
  have hRw : HR E B0 φ H { w with drawn := w.drawn + 1 } := hR.heap rfl
  have hwid := hRw.widen hQ.le hQ.old (hQ.fresh hRw.fresh) (RS φ fr' (fun j => (Array.replicate ops.size false).getD j false = true) q0) (fun i hi => by
    rcases hi with h | ⟨x, hx, _, hi⟩
    · exact .inl h
    · exact .inr (hQ.ids x hx i hi))
  have hsub : φ.sub ⟨φ.f, RS φ fr' (fun j => (Array.replicate ops.size false).getD j false = true) q0⟩ := fun i u P e => e
  refine ⟨⟨φ.f, RS φ fr' (fun j => (Array.replicate ops.size false).getD j false = true) q0⟩, hsub, fun i => Iff.rfl, HG.of_heap hwid (fun g _ => hrep _), ⟨hF.1, fun y _ hL => absurd hL (hrep _), fun t _ v e => VR.sub hsub _ _ (hF.2 t v e)⟩, ⟨rfl, rfl, rfl, Nat.le_refl _, fun _ _ => rfl⟩⟩

end Go.Uf
end

/-
  A call that has been run for itself, from the base heap with the ids of the caller's next objects, is known: what it comes to wherever it is called.
-/
noncomputable section
namespace Go.Uf
open Go.RowKit (Below)

variable {E : Env} {P : Program} {B0 : Nat} {φ : Phi} {H G : AH} {w : World}

/-! ### the references of a value -/
mutual
def refOk (K : Nat → Nat → Bool) : AV → Bool
  | .p i u _ _ => K i u
  | .sl i u _ _ _ _ => K i u
  | .m i => K i 0
  | .ch i => K i 0
  | .fn _ a c => match refsOk K a with
    | true => refsOk K c
    | false => false
  | .yl i => K i 0
  | .ifc _ x => refOk K x
  | .agg l => refsOk K l
  | .tup l => refsOk K l
  | .b _ => true
  | .i _ _ => true
  | .s _ _ => true
  | .np => true
  | .nsl => true
  | .nm => true
  | .nch => true
  | .nfn => true
  | .ni => true
def refsOk (K : Nat → Nat → Bool) : List AV → Bool
  | [] => true
  | x :: l => match refOk K x with
    | true => refsOk K l
    | false => false
end

mutual
theorem VR.part {φ ψ : Phi} {K : Nat → Nat → Bool} {s : Nat → Nat} (h : ∀ i u P, K i u = true → φ i u = some P → ψ (s i) u = some P) : ∀ (x : AV) (v : Value), refOk K x = true → VR φ x v → VR ψ (shV s x) v
  | .b _, _, _, k => by simpa [VR, shV] using k
  | .i _ _, _, _, k => by simpa [VR, shV] using k
  | .s _ _, _, _, k => by simpa [VR, shV] using k
  | .p _ _ _ _, _, q, k => by
    simp only [VR, shV] at k ⊢
    obtain ⟨P, hp, r⟩ := k
    exact ⟨P, h _ _ _ (by simpa [refOk] using q) hp, r⟩
  | .np, _, _, k => by simpa [VR, shV] using k
  | .sl _ _ _ _ _ _, _, q, k => by
    simp only [VR, shV] at k ⊢
    obtain ⟨P, A, cap, hp, r⟩ := k
    exact ⟨P, A, cap, h _ _ _ (by simpa [refOk] using q) hp, r⟩
  | .nsl, _, _, k => by simpa [VR, shV] using k
  | .m _, _, q, k => by
    simp only [VR, shV] at k ⊢
    obtain ⟨P, hp, r⟩ := k
    exact ⟨P, h _ _ _ (by simpa [refOk] using q) hp, r⟩
  | .nm, _, _, k => by simpa [VR, shV] using k
  | .ch _, _, q, k => by
    simp only [VR, shV] at k ⊢
    obtain ⟨P, hp, r⟩ := k
    exact ⟨P, h _ _ _ (by simpa [refOk] using q) hp, r⟩
  | .nch, _, _, k => by simpa [VR, shV] using k
  | .fn _ a c, _, q, k => by
    simp only [VR, shV] at k ⊢
    obtain ⟨a', c', e, hf, ha, hc⟩ := k
    have q' : refsOk K a = true ∧ refsOk K c = true := by
      simp only [refOk] at q
      split at q
      · rename_i q1; exact ⟨q1, q⟩
      · simp at q
    exact ⟨a', c', e, hf, VRs.part h a _ q'.1 ha, VRs.part h c _ q'.2 hc⟩
  | .yl _, _, q, k => by
    simp only [VR, shV] at k ⊢
    obtain ⟨P, hp, r⟩ := k
    exact ⟨P, h _ _ _ (by simpa [refOk] using q) hp, r⟩
  | .nfn, _, _, k => by simpa [VR, shV] using k
  | .ifc _ x, _, q, k => by
    simp only [VR, shV] at k ⊢
    obtain ⟨y, e, hy⟩ := k
    exact ⟨y, e, VR.part h x _ (by simpa [refOk] using q) hy⟩
  | .ni, _, _, k => by simpa [VR, shV] using k
  | .agg l, _, q, k => by
    simp only [VR, shV] at k ⊢
    obtain ⟨a, e, ha⟩ := k
    exact ⟨a, e, VRs.part h l _ (by simpa [refOk] using q) ha⟩
  | .tup l, _, q, k => by
    simp only [VR, shV] at k ⊢
    obtain ⟨a, e, ha⟩ := k
    exact ⟨a, e, VRs.part h l _ (by simpa [refOk] using q) ha⟩
theorem VRs.part {φ ψ : Phi} {K : Nat → Nat → Bool} {s : Nat → Nat} (h : ∀ i u P, K i u = true → φ i u = some P → ψ (s i) u = some P) : ∀ (x : List AV) (v : List Value), refsOk K x = true → VRs φ x v → VRs ψ (shVs s x) v
  | [], _, _, k => by simpa [VRs, shVs] using k
  | x :: xs, _, q, k => by
    simp only [VRs, shVs] at k ⊢
    obtain ⟨v, t, e, hv, ht⟩ := k
    have q' : refOk K x = true ∧ refsOk K xs = true := by
      simp only [refsOk] at q
      split at q
      · rename_i q1; exact ⟨q1, q⟩
      · simp at q
    exact ⟨v, t, e, VR.part h x _ q'.1 hv, VRs.part h xs _ q'.2 ht⟩
end

mutual
theorem VR.ground {φ ψ : Phi} {K : Nat → Nat → Bool} (hK : ∀ i u, K i u = false) : ∀ (x : AV) (v : Value), refOk K x = true → VR φ x v → VR ψ x v
  | .b _, _, _, k => by simpa [VR] using k
  | .i _ _, _, _, k => by simpa [VR] using k
  | .s _ _, _, _, k => by simpa [VR] using k
  | .p _ _ _ _, _, q, _ => by simp [refOk, hK] at q
  | .np, _, _, k => by simpa [VR] using k
  | .sl _ _ _ _ _ _, _, q, _ => by simp [refOk, hK] at q
  | .nsl, _, _, k => by simpa [VR] using k
  | .m _, _, q, _ => by simp [refOk, hK] at q
  | .nm, _, _, k => by simpa [VR] using k
  | .ch _, _, q, _ => by simp [refOk, hK] at q
  | .nch, _, _, k => by simpa [VR] using k
  | .fn _ a c, _, q, k => by
    simp only [VR] at k ⊢
    obtain ⟨a', c', e, hf, ha, hc⟩ := k
    have q' : refsOk K a = true ∧ refsOk K c = true := by
      simp only [refOk] at q
      split at q
      · rename_i q1; exact ⟨q1, q⟩
      · simp at q
    exact ⟨a', c', e, hf, VRs.ground hK a _ q'.1 ha, VRs.ground hK c _ q'.2 hc⟩
  | .yl _, _, q, _ => by simp [refOk, hK] at q
  | .nfn, _, _, k => by simpa [VR] using k
  | .ifc _ x, _, q, k => by
    simp only [VR] at k ⊢
    obtain ⟨y, e, hy⟩ := k
    exact ⟨y, e, VR.ground hK x _ (by simpa [refOk] using q) hy⟩
  | .ni, _, _, k => by simpa [VR] using k
  | .agg l, _, q, k => by
    simp only [VR] at k ⊢
    obtain ⟨a, e, ha⟩ := k
    exact ⟨a, e, VRs.ground hK l _ (by simpa [refOk] using q) ha⟩
  | .tup l, _, q, k => by
    simp only [VR] at k ⊢
    obtain ⟨a, e, ha⟩ := k
    exact ⟨a, e, VRs.ground hK l _ (by simpa [refOk] using q) ha⟩
/-- values without references hold under any places -/
theorem VRs.ground {φ ψ : Phi} {K : Nat → Nat → Bool} (hK : ∀ i u, K i u = false) : ∀ (x : List AV) (v : List Value), refsOk K x = true → VRs φ x v → VRs ψ x v
  | [], _, _, k => by simpa [VRs] using k
  | x :: xs, _, q, k => by
    simp only [VRs] at k ⊢
    obtain ⟨v, t, e, hv, ht⟩ := k
    have q' : refOk K x = true ∧ refsOk K xs = true := by
      simp only [refsOk] at q
      split at q
      · rename_i q1; exact ⟨q1, q⟩
      · simp at q
    exact ⟨v, t, e, VR.ground hK x _ q'.1 hv, VRs.ground hK xs _ q'.2 ht⟩
end

/-! ### the objects that are kept -/
def allT (p : AV → Bool) : T AV → Bool
  | .nil => true
  | .node v l r => match (match v with | none => true | some x => p x) with
    | true => match allT p l with
      | true => allT p r
      | false => false
    | false => false

theorem allT_get {p : AV → Bool} : ∀ {t : T AV} {k : Nat} {x : AV}, allT p t = true → t.get k = some x → p x = true
  | .nil, k, x, _, h => by rw [T.get_nil] at h; simp at h
  | .node v l r, k, x, q, h => by
    simp only [allT] at q
    split at q
    case h_2 => simp at q
    rename_i q1
    split at q
    case h_2 => simp at q
    rename_i q2
    cases k with
    | zero =>
      rw [T.get_node_zero] at h
      subst h
      exact q1
    | succ k =>
      rw [T.get_node_succ] at h
      split at h
      · exact allT_get q2 h
      · exact allT_get q h

def keptO (t : T AO) (i u : Nat) : Bool := match t.get i with
  | some (.cells _ _ wv _ _ _) => Nat.ble wv u
  | some (.map _ _) => Nat.beq u 0
  | _ => false
def noK (_ _ : Nat) : Bool := false
def entsOk (K : Nat → Nat → Bool) : List (AV × AV × Nat) → Bool
  | [] => true
  | (k, v, _) :: l => match refOk K k with
    | true => match refOk K v with
      | true => entsOk K l
      | false => false
    | false => false
def okO (K : Nat → Nat → Bool) : AO → Bool
  | .cells _ _ _ _ _ c => allT (refOk K) c
  | .map es _ => entsOk K es
  | _ => false
def flO : AO → Bool
  | .cells _ _ _ fl _ _ => Nat.ble fl 1
  | _ => true
def oksO (K : Nat → Nat → Bool) (base nx : Nat) : List (Nat × Bool × AO) → Bool
  | [] => true
  | (i, g, o) :: l => match Nat.ble base i && Nat.blt i nx && (match g with | true => okO noK o | false => okO K o) && flO o with
    | true => oksO K base nx l
    | false => false
def gather (H : AH) : List (Nat × Bool) → Option (List (Nat × Bool × AO))
  | [] => some []
  | (i, g) :: l => match H.get i with
    | none => none
    | some o => match gather H l with
      | none => none
      | some r => some ((i, g, o) :: r)
def layI : List (Nat × Bool × AO) → T AO → T AO
  | [], os => os
  | (i, _, o) :: l, os => layI l (os.set i o)
/-- what is kept of a run -/
def orcOf (base : Nat) (ids : List (Nat × Bool)) : Option Out → Option Orc
  | some (.ret v H1) => match gather H1 ids with
    | none => none
    | some obs => match Nat.ble base H1.nx && refOk (keptO (layI obs .nil)) v && oksO (keptO (layI obs .nil)) base H1.nx obs with
      | true => some ⟨v, base, H1.nx, obs⟩
      | false => none
  | _ => none

theorem gather_mem : ∀ {ids : List (Nat × Bool)} {obs : List (Nat × Bool × AO)}, gather H ids = some obs → ∀ i g o, (i, g, o) ∈ obs → H.get i = some o
  | [], obs, h, i, g, o, hp => by simp [gather] at h; subst h; simp at hp
  | (j, g') :: ids, obs, h, i, g, o, hp => by
    simp only [gather] at h
    split at h
    · simp at h
    rename_i o' ho
    split at h
    · simp at h
    rename_i r hr
    simp only [Option.some.injEq] at h
    subst h
    rcases List.mem_cons.1 hp with e | hp
    · simp only [Prod.mk.injEq] at e
      obtain ⟨rfl, rfl, rfl⟩ := e
      exact ho
    · exact gather_mem hr i g o hp

def pickO (s : Nat → Nat) (g : Bool) (o : AO) : AO := match g with | true => o | false => shO s o

theorem layO_get (s : Nat → Nat) : ∀ (l : List (Nat × Bool × AO)) (t : T AO) (j : Nat), (layO s l t).get j = t.get j ∨ ∃ i g o, (i, g, o) ∈ l ∧ j = s i ∧ (layO s l t).get j = some (pickO s g o)
  | [], t, j => .inl rfl
  | (i, g, o) :: l, t, j => by
    simp only [layO]
    rcases layO_get s l (t.set (s i) (pickO s g o)) j with h | ⟨i', g', o', h1, h2, h3⟩
    · rw [T.get_set] at h
      by_cases e : j = s i
      · rw [if_pos e] at h
        exact .inr ⟨i, g, o, by simp, e, h⟩
      · rw [if_neg e] at h; exact .inl h
    · exact .inr ⟨i', g', o', List.mem_cons_of_mem _ h1, h2, h3⟩
theorem layO_hit (s : Nat → Nat) : ∀ (l : List (Nat × Bool × AO)) (t : T AO) (j : Nat), (∃ i g o, (i, g, o) ∈ l ∧ j = s i) → ∃ i g o, (i, g, o) ∈ l ∧ j = s i ∧ (layO s l t).get j = some (pickO s g o)
  | [], t, j, h => by obtain ⟨_, _, _, h, _⟩ := h; simp at h
  | (i, g, o) :: l, t, j, h => by
    simp only [layO]
    by_cases hm : ∃ i g o, (i, g, o) ∈ l ∧ j = s i
    · obtain ⟨i', g', o', h1, h2, h3⟩ := layO_hit s l (t.set (s i) (pickO s g o)) j hm
      exact ⟨i', g', o', List.mem_cons_of_mem _ h1, h2, h3⟩
    · have hi : j = s i := by
        obtain ⟨i', g', o', h1, h2⟩ := h
        rcases List.mem_cons.1 h1 with e | h1
        · simp only [Prod.mk.injEq] at e
          rw [h2, e.1]
        · exact absurd ⟨i', g', o', h1, h2⟩ hm
      rcases layO_get s l (t.set (s i) (pickO s g o)) j with h1 | ⟨i', g', o', h1, h2, _⟩
      · refine ⟨i, g, o, by simp, hi, ?_⟩
        rw [T.get_set, if_pos hi] at h1
        exact h1
      · exact absurd ⟨i', g', o', h1, h2⟩ hm
theorem layI_get : ∀ (l : List (Nat × Bool × AO)) (t : T AO) (i : Nat), (layI l t).get i = t.get i ∨ ∃ g o, (i, g, o) ∈ l ∧ (layI l t).get i = some o
  | [], t, i => .inl rfl
  | (j, g, o) :: l, t, i => by
    simp only [layI]
    rcases layI_get l (t.set j o) i with h | ⟨g', o', h1, h2⟩
    · rw [T.get_set] at h
      by_cases e : i = j
      · rw [if_pos e] at h
        exact .inr ⟨g, o, by rw [e]; simp, h⟩
      · rw [if_neg e] at h; exact .inl h
    · exact .inr ⟨g', o', List.mem_cons_of_mem _ h1, h2⟩
theorem oksO_mem {K : Nat → Nat → Bool} {base nx : Nat} : ∀ {l : List (Nat × Bool × AO)}, oksO K base nx l = true → ∀ i g o, (i, g, o) ∈ l → base ≤ i ∧ i < nx ∧ (match g with | true => okO noK o = true | false => okO K o = true) ∧ flO o = true
  | [], _, i, g, o, h => by simp at h
  | (j, g', o') :: l, q, i, g, o, h => by
    simp only [oksO] at q
    split at q
    case h_2 => simp at q
    rename_i q1
    simp only [Bool.and_eq_true, Nat.ble_eq, Nat.blt_eq] at q1
    rcases List.mem_cons.1 h with e | h
    · simp only [Prod.mk.injEq] at e
      obtain ⟨rfl, rfl, rfl⟩ := e
      refine ⟨q1.1.1.1, q1.1.1.2, ?_, q1.2⟩
      cases g <;> exact q1.1.2
    · exact oksO_mem q i g o h

theorem get_shT {s : Nat → Nat} : ∀ (t : T AV) (k : Nat), (shT s t).get k = (t.get k).map (shV s)
  | .nil, k => by simp [shT, T.get_nil]
  | .node v l r, 0 => by
    simp only [shT, T.get_node_zero]
    cases v <;> rfl
  | .node v l r, k + 1 => by
    simp only [shT, T.get_node_succ]
    split
    · exact get_shT l _
    · exact get_shT r _
theorem one_shV {s : Nat → Nat} {x : AV} (h : x.one = true) : (shV s x).one = true := by
  cases x <;> first | rfl | (simp [AV.one] at h)

theorem ER.part {φ ψ : Phi} {K : Nat → Nat → Bool} {s : Nat → Nat} (h : ∀ i u P, K i u = true → φ i u = some P → ψ (s i) u = some P) : ∀ {l : List (AV × AV × Nat)} {es : List MapEntry}, entsOk K l = true → ER φ l es → ER ψ (shE s l) es
  | [], _, _, k => k
  | (x, v, b) :: l, _, q, k => by
    simp only [entsOk] at q
    split at q
    case h_2 => simp at q
    rename_i q1
    split at q
    case h_2 => simp at q
    rename_i q2
    obtain ⟨e, r, he, h1, h2, h3, h4⟩ := k
    exact ⟨e, r, he, VR.part h _ _ q1 h1, VR.part h _ _ q2 h2, h3, ER.part h q h4⟩
theorem ER.ground {φ ψ : Phi} : ∀ {l : List (AV × AV × Nat)} {es : List MapEntry}, entsOk noK l = true → ER φ l es → ER ψ l es
  | [], _, _, k => k
  | (x, v, b) :: l, _, q, k => by
    simp only [entsOk] at q
    split at q
    case h_2 => simp at q
    rename_i q1
    split at q
    case h_2 => simp at q
    rename_i q2
    obtain ⟨e, r, he, h1, h2, h3, h4⟩ := k
    exact ⟨e, r, he, VR.ground (fun _ _ => rfl) _ _ q1 h1, VR.ground (fun _ _ => rfl) _ _ q2 h2, h3, ER.ground q h4⟩

/-- an object of the run, as the caller sees it -/
theorem OR.part {φ ψ : Phi} {K : Nat → Nat → Bool} {s : Nat → Nat} {B0 B1 : Nat} (hB : B0 ≤ B1) (h : ∀ i u P, K i u = true → φ i u = some P → ψ (s i) u = some P) {w : World} {u : Nat} {P : Pl} {g : Bool} {o : AO}
    (hk : match g with | true => okO noK o = true | false => okO K o = true) (k : OR B1 φ w u P o) : OR B0 ψ w u P (pickO s g o) := by
  cases o with
  | cells t top wv fl sz c =>
    obtain ⟨b1, b2, b3⟩ := k
    have key : ∀ c', (∀ k x v, c.get k = some x → x.one = true → VR φ x v → ∃ y, c'.get k = some y ∧ VR ψ y v ∧ y.one = true) → OR B0 ψ w u P (.cells t top wv fl sz c') := fun c' hc => by
      refine ⟨b1, b2, fun hw => ?_⟩
      obtain ⟨arr, fz, a1, a2, a3, a4, a5, a6, a7, a8, a9, a10⟩ := b3 hw
      refine ⟨arr, fz, a1, a2, a3, a4, a5, a6, fun k hk1 hk2 => ?_, fun hf => Nat.le_trans hB (a8 hf), a9, a10⟩
      obtain ⟨x, y, e1, e2, e3, e4⟩ := a7 k hk1 hk2
      obtain ⟨z, f1, f2, f3⟩ := hc k x y e1 e4 e3
      exact ⟨z, y, f1, e2, f2, f3⟩
    cases g with
    | true => exact key c fun k x v e1 e2 e3 => ⟨x, e1, VR.ground (fun _ _ => rfl) x v (allT_get hk e1) e3, e2⟩
    | false => exact key (shT s c) fun k x v e1 e2 e3 => ⟨shV s x, by rw [get_shT, e1]; rfl, VR.part h x v (allT_get hk e1) e3, one_shV e2⟩
  | map es c =>
    obtain ⟨b1, b2, es', b3, b4⟩ := k
    cases g with
    | true => exact ⟨b1, Nat.le_trans hB b2, es', b3, ER.ground hk b4⟩
    | false => exact ⟨b1, Nat.le_trans hB b2, es', b3, ER.part h hk b4⟩
  | _ => cases g <;> simp [okO] at hk

/-- the caller's places and the kept ones of the run -/
def Phi.join (φ : Phi) (d base : Nat) (K : Nat → Nat → Bool) (χ : Phi) : Phi :=
  ⟨fun i u => if i < d then φ i u else if K (i - d + base) u = true then χ (i - d + base) u else none, φ.R⟩

theorem orc_ok (hE : E.Ok P) {H0 : AH} {φ0 : Phi} (hbase : ∀ (w : World) (n : Nat), H0.nx ≤ n → E.J w → HR E w.heap.size φ0 ⟨n, H0.os⟩ w)
    {f : Nat} {args : List AV} {base : Nat} {ids : List (Nat × Bool)} {n : Nat} {r : Orc} (hn : H0.nx ≤ base) (hg : refsOk noK args = true)
    (hrun : orcOf base ids (runF E n (.call f args ⟨base, H0.os⟩)) = some r) :
    ∀ (k B0 : Nat) (φ : Phi) (H : AH) (w : World) (us : Array Value), HR E B0 φ H w → VRs φ args us.toList →
    CallsIn Fence.wide k P f us w fun e w' => ∃ v', e = .returned v' ∧ ∃ ψ : Phi, φ.le ψ ∧ HR E B0 ψ (r.heap H) w' ∧ VR ψ (shV (r.sh H) r.v) v' ∧ Below B0 w w' := by
  intro k B0 φ H w us hR hus
  rw [runF_eq] at hrun
  unfold orcOf at hrun
  split at hrun
  case h_2 => simp at hrun
  rename_i v H1 h1
  split at hrun
  · simp at hrun
  rename_i obs hobs
  split at hrun
  case h_2 => simp at hrun
  rename_i hchk
  simp only [Option.some.injEq] at hrun
  subst hrun
  simp only [Bool.and_eq_true, Nat.ble_eq] at hchk
  obtain ⟨⟨hbn, hv⟩, hos⟩ := hchk
  have hJ : E.J w := hR.inv w ⟨Nat.le_refl _, fun _ _ => rfl⟩
  have hS := (sound (B0 := w.heap.size) hE (draw_ok hE) n).2.1
  refine CallsIn.mono (hS f args _ v H1 h1 k φ0 w us (hbase w base hn hJ) (VRs.ground (fun _ _ => rfl) _ _ hg hus)) fun e w' hp => ?_
  obtain ⟨ψ1, v', rfl, hle1, hR1, hv1, hB1⟩ : ∃ ψ1 v', e = .returned v' ∧ φ0.le ψ1 ∧ HR E w.heap.size ψ1 H1 w' ∧ VR ψ1 v v' ∧ Below w.heap.size w w' := by
    cases e <;> simp only [CallPost] at hp <;> try exact hp.elim
    obtain ⟨ψ1, h2, h3, h4, h5⟩ := hp
    exact ⟨ψ1, _, rfl, h2, h3, h4, h5⟩
  obtain ⟨K, hK⟩ : ∃ K, K = keptO (layI obs .nil) := ⟨_, rfl⟩
  rw [← hK] at hv hos
  obtain ⟨d, hd⟩ : ∃ d, d = H.nx := ⟨_, rfl⟩
  obtain ⟨s, hs⟩ : ∃ s : Nat → Nat, s = fun i => Nat.add (Nat.sub i base) d := ⟨_, rfl⟩
  have hsi : ∀ i, s i = i - base + d := fun i => by rw [hs]; rfl
  have hsh : (⟨v, base, H1.nx, obs⟩ : Orc).sh H = s := by rw [hs, hd]; cases H; rfl
  obtain ⟨ψ, hψ⟩ : ∃ ψ, ψ = φ.join d base K ψ1 := ⟨_, rfl⟩
  -- what is kept
  have kept : ∀ i u, K i u = true → ∃ g o, (i, g, o) ∈ obs ∧ (layI obs .nil).get i = some o := fun i u hk => by
    rcases layI_get obs .nil i with h | ⟨g, o, h2, h3⟩
    · rw [T.get_nil] at h
      rw [hK] at hk
      simp [keptO, h] at hk
    · exact ⟨g, o, h2, h3⟩
  have kin : ∀ i u, K i u = true → base ≤ i ∧ i < H1.nx := fun i u hk => by
    obtain ⟨g, o, h2, _⟩ := kept i u hk
    exact ⟨(oksO_mem hos i g o h2).1, (oksO_mem hos i g o h2).2.1⟩
  have part : ∀ i u Q, K i u = true → ψ1 i u = some Q → ψ (s i) u = some Q := fun i u Q hk hq => by
    have := (kin i u hk).1
    rw [hψ, hsi]
    simp only [Phi.join]
    rw [if_neg (by omega), show i - base + d - d + base = i by omega, if_pos hk, hq]
  have cases' : ∀ j u Q, ψ j u = some Q → (j < d ∧ φ j u = some Q) ∨ ∃ i, j = s i ∧ d ≤ j ∧ base ≤ i ∧ i < H1.nx ∧ K i u = true ∧ ψ1 i u = some Q := fun j u Q h => by
    rw [hψ] at h
    simp only [Phi.join] at h
    split at h
    · exact .inl ⟨by assumption, h⟩
    · split at h
      · rename_i hk
        exact .inr ⟨_, by rw [hsi]; omega, by omega, (kin _ u hk).1, (kin _ u hk).2, hk, h⟩
      · simp at h
  have hle : φ.le ψ := by
    refine ⟨fun i u Q h => ?_, by rw [hψ]; rfl⟩
    rw [hψ]
    simp only [Phi.join]
    rw [if_pos (by have := (hR.dom i u Q h).1; omega), h]
  have hheap : (⟨v, base, H1.nx, obs⟩ : Orc).heap H = ⟨H1.nx - base + d, layO s obs H.os⟩ := by rw [hs, hd]; cases H; rfl
  have getN : ∀ i, i < d → (⟨H1.nx - base + d, layO s obs H.os⟩ : AH).get i = H.get i := fun i hi => by
    show (layO s obs H.os).get i = _
    rcases layO_get s obs H.os i with h | ⟨i', g, o, h2, h3, _⟩
    · rw [h]; cases H; rfl
    · rw [hsi] at h3; omega
  have getK : ∀ i u, K i u = true → ∃ g o, (i, g, o) ∈ obs ∧ (⟨H1.nx - base + d, layO s obs H.os⟩ : AH).get (s i) = some (pickO s g o) ∧ H1.get i = some o ∧ (layI obs .nil).get i = some o := fun i u hk => by
    obtain ⟨g, o, h2, h3⟩ := kept i u hk
    obtain ⟨i', g', o', f1, f2, f3⟩ := layO_hit s obs H.os (s i) ⟨i, g, o, h2, rfl⟩
    have e1 := (oksO_mem hos i g o h2).1
    have e2 := (oksO_mem hos i' g' o' f1).1
    rw [hsi, hsi] at f2
    obtain rfl : i = i' := by omega
    have e3 := gather_mem hobs i g o h2
    have e4 := gather_mem hobs i g' o' f1
    obtain rfl : o = o' := Option.some.inj (e3.symm.trans e4)
    exact ⟨g', o, f1, f3, e3, h3⟩
  -- a kept place lies in a block of the run
  have kblk : ∀ i u Q, K i u = true → ψ1 i u = some Q → w.heap.size ≤ Q.B := fun i u Q hk hq => by
    obtain ⟨g, o, h2, _, h4, h5⟩ := getK i u hk
    have ho := hR1.obj i u Q o hq h4
    obtain ⟨_, _, h6, h7⟩ := oksO_mem hos i g o h2
    rw [hK] at hk
    simp only [keptO, h5] at hk
    cases o with
    | cells t top wv fl sz c =>
      simp only [flO, Nat.ble_eq] at h7
      simp only [Nat.ble_eq] at hk
      obtain ⟨_, _, ho⟩ := ho
      obtain ⟨arr, fz, _, _, _, _, _, _, _, a8, _⟩ := ho hk
      exact a8 h7
    | map es c => exact ho.2.1
    | _ => cases g <;> simp [okO] at h6
  have low := hR.low
  have hgrow : Grown B0 w w' := Grown.of_below (hB1.mono low)
  refine ⟨v', rfl, ψ, hle, ?_, by rw [hsh]; exact VR.part part v v' hv hv1, hB1.mono low⟩
  have sz := hB1.size
  rw [hheap]
  constructor
  · exact fun u h => hR.inv u (hgrow.trans h)
  · omega
  · intro i u Q h
    show i < H1.nx - base + d ∧ _
    rcases cases' i u Q h with ⟨hi, h⟩ | ⟨i', rfl, hi, hi1, hi2, hk, h⟩
    · have := hR.dom i u Q h; omega
    · have := hR1.dom i' u Q h
      rw [hsi]; omega
  · intro i hi
    have hi' : φ.R i := by rw [hψ] at hi; exact hi
    obtain ⟨a, b⟩ := hR.res i hi'
    refine ⟨by show i < H1.nx - base + d; omega, fun u => ?_⟩
    rw [hψ]
    simp only [Phi.join]
    rw [if_pos (by omega), b u]
  · intro i u Q h
    rcases cases' i u Q h with ⟨hi, h⟩ | ⟨i', rfl, hi, hi1, hi2, hk, h⟩
    · exact hR.pl i u Q h
    · exact hR1.pl i' u Q h
  · intro i u Q h hB
    rcases cases' i u Q h with ⟨hi, h⟩ | ⟨i', rfl, hi, hi1, hi2, hk, h⟩
    · exact hR.pb i u Q h hB
    · exact hR1.pb i' u Q h (kblk i' u Q hk h)
  · intro i hi
    simp only at hi
    show (layO s obs H.os).get i = none
    rcases layO_get s obs H.os i with h | ⟨i', g, o, h2, h3, _⟩
    · rw [h]
      have := hR.fresh i (by omega)
      cases H; exact this
    · have := (oksO_mem hos i' g o h2).2.1
      have := (oksO_mem hos i' g o h2).1
      rw [hsi] at h3
      omega
  · intro i u Q o h ho
    rcases cases' i u Q h with ⟨hi, h⟩ | ⟨i', rfl, hi, hi1, hi2, hk, h⟩
    · rw [getN i hi] at ho
      exact ((hR.obj i u Q o h ho).mono hle).of_block (hB1.block Q.B (hR.dom i u Q h).2)
    · obtain ⟨g, o', h2, h3, h4, h5⟩ := getK i' u hk
      rw [h3] at ho
      obtain e' := Option.some.inj ho
      rw [← e']
      exact OR.part low part (oksO_mem hos i' g o' h2).2.2.1 (hR1.obj i' u Q o' h h4)
  · intro i j u v Q1 Q2 e1 e2 hne hB
    rcases cases' i u Q1 e1 with ⟨hi, h⟩ | ⟨i', rfl, hi, hi1, hi2, hk, h⟩
    · rcases cases' j v Q2 e2 with ⟨hj, h'⟩ | ⟨j', rfl, hj, hj1, hj2, hk', h'⟩
      · exact hR.sep i j u v Q1 Q2 h h' hne hB
      · have a := kblk j' v Q2 hk' h'
        have b := (hR.dom i u Q1 h).2
        omega
    · have a := kblk i' u Q1 hk h
      rcases cases' j v Q2 e2 with ⟨hj, h'⟩ | ⟨j', rfl, hj, hj1, hj2, hk', h'⟩
      · have b := (hR.dom j v Q2 h').2
        omega
      · exact hR1.sep i' j' u v Q1 Q2 h h' (fun e => hne (by rw [e])) a
  · intro i u v Q1 Q2 t top wv fl sz c ho h1 h2 e1 e2 hB
    rcases cases' i u Q1 e1 with ⟨hi, h⟩ | ⟨i', hi0, hi, hi1, hi2, hk, h⟩
    · rcases cases' i v Q2 e2 with ⟨_, h'⟩ | ⟨j', hj0, hj, _⟩
      · rw [getN i hi] at ho
        exact hR.same i u v Q1 Q2 t top wv fl sz c ho h1 h2 h h' hB
      · omega
    · rcases cases' i v Q2 e2 with ⟨hj, _⟩ | ⟨j', hj0, hj, hj1, hj2, hk', h'⟩
      · omega
      obtain rfl : i' = j' := by rw [hsi] at hi0 hj0; omega
      subst hi0
      obtain ⟨g, o', _, h3, h4, _⟩ := getK i' u hk
      rw [h3] at ho
      have ho' := Option.some.inj ho
      cases o' with
      | cells t' top' wv' fl' sz' c0 =>
        cases g with
        | true =>
          simp only [pickO, AO.cells.injEq] at ho'
          obtain ⟨rfl, rfl, rfl, rfl, rfl, rfl⟩ := ho'
          exact hR1.same i' u v Q1 Q2 _ _ _ _ _ _ h4 h1 h2 h h' hB
        | false =>
          simp only [pickO, shO, AO.cells.injEq] at ho'
          obtain ⟨rfl, rfl, rfl, rfl, rfl, rfl⟩ := ho'
          exact hR1.same i' u v Q1 Q2 _ _ _ _ _ _ h4 h1 h2 h h' hB
      | _ => cases g <;> simp [pickO, shO] at ho'
  · intro g sz hg
    obtain ⟨Q, e, rr⟩ := hR.glo g sz hg
    exact ⟨Q, hle _ _ _ e, rr⟩

end Go.Uf
end

/-
  A call that has been run for itself from one heap is known wherever the heap holds those objects; what is not kept behind it is dropped.
-/
noncomputable section
namespace Go.Uf
open Go.RowKit (Below)

variable {E : Env} {P : Program} {B0 : Nat} {φ : Phi} {H : AH} {w : World}

def eqOV : Option AV → Option AV → Bool
  | none, none => true
  | some x, some y => eqAV x y
  | _, _ => false
def eqTr : T AV → T AV → Bool
  | .nil, .nil => true
  | .node v l r, .node v' l' r' => match eqOV v v' with
    | true => match eqTr l l' with
      | true => eqTr r r'
      | false => false
    | false => false
  | _, _ => false
def eqEs : List (AV × AV × Nat) → List (AV × AV × Nat) → Bool
  | [], [] => true
  | (k, v, b) :: l, (k', v', b') :: l' => match eqAV k k' with
    | true => match eqAV v v' with
      | true => match Nat.beq b b' with
        | true => eqEs l l'
        | false => false
      | false => false
    | false => false
  | _, _ => false
def eqO : AO → AO → Bool
  | .cells t top w fl sz c, .cells t' top' w' fl' sz' c' => match Nat.beq t t' && Nat.beq top top' && Nat.beq w w' && Nat.beq fl fl' && Nat.beq sz sz' with
    | true => eqTr c c'
    | false => false
  | .map es c, .map es' c' => match Nat.beq c c' with
    | true => eqEs es es'
    | false => false
  | .chan n l, .chan n' l' => match Nat.beq n n' with
    | true => eqAVs l l'
    | false => false
  | .dfr b, .dfr b' => match b with
    | true => b'
    | false => match b' with | true => false | false => true
  | _, _ => false

theorem eqOV_eq {x y : Option AV} (h : eqOV x y = true) : x = y := by
  cases x <;> cases y <;> simp only [eqOV] at h
  · rfl
  · simp at h
  · simp at h
  · rw [eqAV_eq h]
theorem eqTr_eq : ∀ {x y : T AV}, eqTr x y = true → x = y
  | .nil, .nil, _ => rfl
  | .nil, .node _ _ _, h => by simp [eqTr] at h
  | .node _ _ _, .nil, h => by simp [eqTr] at h
  | .node v l r, .node v' l' r', h => by
    simp only [eqTr] at h
    split at h
    case h_2 => simp at h
    rename_i h1
    split at h
    case h_2 => simp at h
    rename_i h2
    rw [eqOV_eq h1, eqTr_eq h2, eqTr_eq h]
theorem eqEs_eq : ∀ {x y : List (AV × AV × Nat)}, eqEs x y = true → x = y
  | [], [], _ => rfl
  | [], _ :: _, h => by simp [eqEs] at h
  | _ :: _, [], h => by simp [eqEs] at h
  | (k, v, b) :: l, (k', v', b') :: l', h => by
    simp only [eqEs] at h
    split at h
    case h_2 => simp at h
    rename_i h1
    split at h
    case h_2 => simp at h
    rename_i h2
    split at h
    case h_2 => simp at h
    rename_i h3
    rw [eqAV_eq h1, eqAV_eq h2, Nat.eq_of_beq_eq_true h3, eqEs_eq h]
theorem eqO_eq {x y : AO} (h : eqO x y = true) : x = y := by
  cases x <;> cases y <;> (try (simp [eqO] at h; done))
  · simp only [eqO] at h
    split at h
    case h_2 => simp at h
    rename_i h1
    simp only [Bool.and_eq_true, Nat.beq_eq] at h1
    obtain ⟨⟨⟨⟨a, b⟩, c⟩, d⟩, e⟩ := h1
    rw [a, b, c, d, e, eqTr_eq h]
  · simp only [eqO] at h
    split at h
    case h_2 => simp at h
    rename_i h1
    rw [Nat.eq_of_beq_eq_true h1, eqEs_eq h]
  · rename_i b b'
    cases b <;> cases b' <;> first | rfl | (simp [eqO] at h)
  · simp only [eqO] at h
    split at h
    case h_2 => simp at h
    rename_i h1
    rw [Nat.eq_of_beq_eq_true h1, eqAVs_eq h]

structure Mem where
  args : List AV
  base : Nat
  pre : List (Nat × AO)
  v : AV
  nx : Nat
  post : List (Nat × AO)

def layP : List (Nat × AO) → T AO
  | [] => .nil
  | (i, o) :: l => (layP l).set i o
def allIn (H : AH) : List (Nat × AO) → Bool
  | [] => true
  | (i, o) :: l => match H.get i with
    | some o' => match eqO o' o with
      | true => allIn H l
      | false => false
    | none => false
def Mem.fits (m : Mem) (args : List AV) (H : AH) : Bool := match Nat.beq H.nx m.base with
  | true => match eqAVs args m.args with
    | true => allIn H m.pre
    | false => false
  | false => false
def memL : List Mem → List AV → AH → Option (AV × AH)
  | [], _, _ => none
  | m :: l, args, H => match m.fits args H with
    | true => some (m.v, ⟨m.nx, layP m.post⟩)
    | false => memL l args H
def memT (t : T (List Mem)) (f : Nat) : Option (List AV → AH → Option (AV × AH)) := match t.get f with
  | none => none
  | some l => some (memL l)
/-- what a run comes to is what is told of it -/
def Mem.told (m : Mem) : Option Out → Bool
  | some (.ret v H1) => match eqAV v m.v with
    | true => match Nat.beq H1.nx m.nx with
      | true => allIn H1 m.post
      | false => false
    | false => false
  | _ => false

theorem layP_mem : ∀ {l : List (Nat × AO)} {i : Nat} {o : AO}, (layP l).get i = some o → (i, o) ∈ l
  | [], i, o, h => by simp [layP, T.get_nil] at h
  | (j, o') :: l, i, o, h => by
    simp only [layP, T.get_set] at h
    split at h
    · rename_i e
      simp only [Option.some.injEq] at h
      rw [e, h]; simp
    · exact List.mem_cons_of_mem _ (layP_mem h)
theorem allIn_mem : ∀ {l : List (Nat × AO)}, allIn H l = true → ∀ i o, (i, o) ∈ l → H.get i = some o
  | [], _, i, o, hm => by simp at hm
  | (j, o') :: l, h, i, o, hm => by
    simp only [allIn] at h
    split at h
    case h_2 => simp at h
    rename_i o2 h1
    split at h
    case h_2 => simp at h
    rename_i h2
    rcases List.mem_cons.1 hm with e | hm
    · simp only [Prod.mk.injEq] at e
      obtain ⟨rfl, rfl⟩ := e
      rw [h1, eqO_eq h2]
    · exact allIn_mem h i o hm

def MemOk (E : Env) (P : Program) (f : Nat) (m : Mem) : Prop := ∀ H, m.fits m.args H = true → ∀ (k B0 : Nat) (φ : Phi) (w : World) (us : Array Value), HR E B0 φ H w → VRs φ m.args us.toList →
    CallsIn Fence.wide k P f us w fun e w' => ∃ v', e = .returned v' ∧ ∃ ψ : Phi, φ.le ψ ∧ HR E B0 ψ ⟨m.nx, layP m.post⟩ w' ∧ VR ψ m.v v' ∧ Below B0 w w'

theorem mem_ok (hE : E.Ok P) {f n : Nat} {m : Mem} (hrun : m.told (runF E n (.call f m.args ⟨m.base, layP m.pre⟩)) = true) : MemOk E P f m := by
  intro H hf k B0 φ w us hR hus
  rw [runF_eq] at hrun
  unfold Mem.told at hrun
  split at hrun
  case h_2 => simp at hrun
  rename_i v H1 h1
  split at hrun
  case h_2 => simp at hrun
  rename_i hv
  split at hrun
  case h_2 => simp at hrun
  rename_i hn
  unfold Mem.fits at hf
  split at hf
  case h_2 => simp at hf
  rename_i hb
  split at hf
  case h_2 => simp at hf
  have hR0 : HR E B0 φ ⟨m.base, layP m.pre⟩ w := hR.less (Nat.eq_of_beq_eq_true hb).symm fun i o h => allIn_mem hf i o (layP_mem h)
  refine CallsIn.mono ((sound (B0 := B0) hE (draw_ok hE) n).2.1 f m.args _ v H1 h1 k φ w us hR0 hus) fun e w' hp => ?_
  cases e <;> simp only [CallPost] at hp <;> try exact hp.elim
  obtain ⟨ψ, h2, h3, h4, h5⟩ := hp
  rw [eqAV_eq hv] at h4
  exact ⟨_, rfl, ψ, h2, h3.less (Nat.eq_of_beq_eq_true hn).symm fun i o h => allIn_mem hrun i o (layP_mem h), h4, h5⟩

def MemsOk (E : Env) (P : Program) (t : T (List Mem)) : Prop := ∀ f l, t.get f = some l → ∀ m ∈ l, MemOk E P f m
def addM (t : T (List Mem)) (f : Nat) (m : Mem) : T (List Mem) := t.set f (m :: (match t.get f with | some l => l | none => []))
theorem MemsOk.nil : MemsOk E P .nil := fun f l h => by simp [T.get_nil] at h
theorem MemsOk.add {t : T (List Mem)} (h : MemsOk E P t) {f : Nat} {m : Mem} (hr : MemOk E P f m) : MemsOk E P (addM t f m) := by
  intro g l hl p hp
  unfold addM at hl
  rw [T.get_set] at hl
  split at hl
  · rename_i e
    subst e
    simp only [Option.some.injEq] at hl
    subst hl
    rcases List.mem_cons.1 hp with rfl | hp
    · exact hr
    · cases hg : t.get g with
      | none => simp [hg] at hp
      | some l => rw [hg] at hp; exact h g l hg p hp
  · exact h g l hl p hp
theorem memL_mem : ∀ {l : List Mem} {args : List AV} {H : AH} {v : AV} {H' : AH}, memL l args H = some (v, H') → ∃ m ∈ l, m.fits args H = true ∧ args = m.args ∧ v = m.v ∧ H' = ⟨m.nx, layP m.post⟩
  | [], args, H, v, H', h => by simp [memL] at h
  | m :: l, args, H, v, H', h => by
    simp only [memL] at h
    split at h
    · rename_i hf
      simp only [Option.some.injEq, Prod.mk.injEq] at h
      refine ⟨m, by simp, hf, ?_, h.1.symm, h.2.symm⟩
      unfold Mem.fits at hf
      split at hf
      case h_2 => simp at hf
      split at hf
      case h_2 => simp at hf
      rename_i h2
      exact eqAVs_eq h2
    · obtain ⟨m', h1, h2⟩ := memL_mem h
      exact ⟨m', List.mem_cons_of_mem _ h1, h2⟩

end Go.Uf
end

/-
  The base heap: the plain package-level variables; environments with known calls.
-/
noncomputable section
namespace Go.Uf
open Go.RowKit (Below)

/-- a variable of plain cells: number, type, how many cells, the cells -/
structure GL where
  g : Nat
  t : Nat
  sz : Nat
  c : T AV

def GL.obj (x : GL) : AO := .cells x.t 0 0 2 x.sz x.c
def baseT : List GL → T AO
  | [] => .nil
  | x :: l => (baseT l).set x.g x.obj
def baseG : List GL → T Nat
  | [] => .nil
  | x :: l => (baseG l).set x.g x.sz
def Phi.zero : Phi := ⟨fun _ _ => none, fun _ => False⟩
def findG : List GL → Nat → Option GL
  | [], _ => none
  | x :: l, i => if i = x.g then some x else findG l i
def phiG (l : List GL) : Phi := ⟨fun i u => if u = 0 then (findG l i).map fun x => ⟨x.g, 0, 0, x.sz, x.sz⟩ else none, fun _ => False⟩
def JL (l : List GL) (w : World) : Prop := ∀ x ∈ l, ∃ arr fz, w.heap[x.g]? = some (.cells arr x.t fz) ∧ x.sz ≤ arr.size ∧
  ∀ k, k < x.sz → ∃ y v, x.c.get k = some y ∧ arr[k]? = some v ∧ VR Phi.zero y v ∧ y.one = true

theorem baseT_get : ∀ (l : List GL) (i : Nat), (baseT l).get i = (findG l i).map GL.obj
  | [], i => rfl
  | x :: l, i => by
    simp only [baseT, findG, T.get_set]
    split
    · rfl
    · exact baseT_get l i
theorem baseG_get : ∀ (l : List GL) (i : Nat), (baseG l).get i = (findG l i).map GL.sz
  | [], i => rfl
  | x :: l, i => by
    simp only [baseG, findG, T.get_set]
    split
    · rfl
    · exact baseG_get l i
theorem findG_mem : ∀ {l : List GL} {i : Nat} {x : GL}, findG l i = some x → x ∈ l ∧ x.g = i
  | [], i, x, h => by simp [findG] at h
  | y :: l, i, x, h => by
    simp only [findG] at h
    split at h
    · rename_i e
      simp only [Option.some.injEq] at h
      subst h
      exact ⟨by simp, e.symm⟩
    · exact ⟨List.mem_cons_of_mem _ (findG_mem h).1, (findG_mem h).2⟩
theorem JL.grown {l : List GL} {w w' : World} (h : JL l w) (k : Grown w.heap.size w w') : JL l w' := fun x hx => by
  obtain ⟨arr, fz, h1, h2⟩ := h x hx
  refine ⟨arr, fz, ?_, h2⟩
  rw [k.block x.g (Array.getElem?_eq_some_iff.1 h1).1]
  exact h1

theorem phiG_get {l : List GL} {i u : Nat} {P : Pl} (h : phiG l i u = some P) : u = 0 ∧ ∃ x, x ∈ l ∧ x.g = i ∧ findG l i = some x ∧ P = ⟨x.g, 0, 0, x.sz, x.sz⟩ := by
  simp only [phiG] at h
  split at h
  · rename_i e
    cases hx : findG l i with
    | none => simp [hx] at h
    | some x =>
      simp only [hx, Option.map_some, Option.some.injEq] at h
      exact ⟨e, x, (findG_mem hx).1, (findG_mem hx).2, rfl, h.symm⟩
  · simp at h

theorem base_ok {E : Env} {l : List GL} (hJ : E.J = JL l) (hG : E.G = baseG l) (n0 : Nat) (hn : ∀ x ∈ l, x.g < n0) {w : World} {n : Nat} (h0 : n0 ≤ n) (h : E.J w) :
    HR E w.heap.size (phiG l) ⟨n, baseT l⟩ w := by
  rw [hJ] at h
  have get : ∀ i, (⟨n, baseT l⟩ : AH).get i = (findG l i).map GL.obj := fun i => baseT_get l i
  constructor
  · intro w' k; rw [hJ]; exact h.grown k
  · exact Nat.le_refl _
  · intro i u P hp
    obtain ⟨_, x, hx, rfl, _, rfl⟩ := phiG_get hp
    obtain ⟨arr, fz, h1, _⟩ := h x hx
    exact ⟨by have := hn x hx; show x.g < n; omega, (Array.getElem?_eq_some_iff.1 h1).1⟩
  · intro i hi; exact hi.elim
  · intro i u P hp
    obtain ⟨_, x, hx, rfl, _, rfl⟩ := phiG_get hp
    exact ⟨Nat.zero_le _, by simp⟩
  · intro i u P hp _
    obtain ⟨_, x, hx, rfl, _, rfl⟩ := phiG_get hp
    rfl
  · intro i hi
    rw [get]
    cases hf : findG l i with
    | none => rfl
    | some x =>
      obtain ⟨hx, e⟩ := findG_mem hf
      have := hn x hx
      have hi' : n ≤ i := hi
      omega
  · intro i u P o hp ho
    obtain ⟨rfl, x, hx, rfl, hf, rfl⟩ := phiG_get hp
    rw [get, hf] at ho
    simp only [Option.map_some, Option.some.injEq] at ho
    subst ho
    obtain ⟨arr, fz, h1, h2, h3⟩ := h x hx
    refine ⟨Nat.le_refl _, Nat.le_refl _, fun _ => ⟨arr, fz, h1, Nat.zero_le _, Nat.le_refl _, fun _ => rfl, by simp, h2, fun k _ hk => ?_, fun hf => by omega, fun hf => by omega, fun hf => by omega⟩⟩
    obtain ⟨y, v, e1, e2, e3, e4⟩ := h3 k hk
    exact ⟨y, v, e1, by simpa using e2, VR.sub (fun i u P hp => by simp [Phi.zero] at hp) y v e3, e4⟩
  · intro i j u v P Q hp _ _ hB
    obtain ⟨_, x, hx, rfl, _, rfl⟩ := phiG_get hp
    obtain ⟨arr, fz, h1, _⟩ := h x hx
    have := (Array.getElem?_eq_some_iff.1 h1).1
    exact absurd hB (by show ¬ w.heap.size ≤ x.g; omega)
  · intro i u v P Q t top wv fl sz c _ _ _ hp hq _
    obtain ⟨rfl, x, _, _, hf, rfl⟩ := phiG_get hp
    obtain ⟨rfl, y, _, _, hf', rfl⟩ := phiG_get hq
    rw [hf] at hf'
    cases hf'
    exact ⟨rfl, rfl, rfl, Nat.le_refl _⟩
  · intro g sz hg
    rw [hG, baseG_get] at hg
    cases hf : findG l g with
    | none => simp [hf] at hg
    | some x =>
      simp only [hf, Option.map_some, Option.some.injEq] at hg
      refine ⟨⟨x.g, 0, 0, x.sz, x.sz⟩, by simp [phiG, hf], (findG_mem hf).2, rfl, rfl, hg⟩

/-! ### known calls -/
def orcL : List (List AV × Orc) → List AV → Option Orc
  | [], _ => none
  | (a, r) :: l, args => match eqAVs a args with
    | true => some r
    | false => orcL l args
def orcT (t : T (List (List AV × Orc))) (f : Nat) (args : List AV) : Option Orc := match t.get f with
  | none => none
  | some l => orcL l args
def addO (t : T (List (List AV × Orc))) (f : Nat) (args : List AV) (r : Orc) : T (List (List AV × Orc)) :=
  t.set f ((args, r) :: (match t.get f with | some l => l | none => []))

def OrcOk (E : Env) (P : Program) (f : Nat) (args : List AV) (r : Orc) : Prop := ∀ (k B0 : Nat) (φ : Phi) (H : AH) (w : World) (us : Array Value), HR E B0 φ H w → VRs φ args us.toList →
    CallsIn Fence.wide k P f us w fun e w' => ∃ v', e = .returned v' ∧ ∃ ψ : Phi, φ.le ψ ∧ HR E B0 ψ (r.heap H) w' ∧ VR ψ (shV (r.sh H) r.v) v' ∧ Below B0 w w'
def TabOk (E : Env) (P : Program) (t : T (List (List AV × Orc))) : Prop := ∀ f l, t.get f = some l → ∀ p ∈ l, OrcOk E P f p.1 p.2

theorem HR.env {E E' : Env} (hJ : E'.J = E.J) (hG : E'.G = E.G) {B0 : Nat} {φ : Phi} {H : AH} {w : World} (h : HR E B0 φ H w) : HR E' B0 φ H w :=
  ⟨by rw [hJ]; exact h.inv, h.low, h.dom, h.res, h.pl, h.pb, h.fresh, h.obj, h.sep, h.same, by rw [hG]; exact h.glo⟩
theorem OrcOk.env {E E' : Env} {P : Program} (hJ : E'.J = E.J) (hG : E'.G = E.G) {f : Nat} {args : List AV} {r : Orc} (h : OrcOk E P f args r) : OrcOk E' P f args r := fun k B0 φ H w us hR hv =>
  (h k B0 φ H w us (hR.env hJ.symm hG.symm) hv).mono fun e w' ⟨v', e1, ψ, e2, e3, e4⟩ => ⟨v', e1, ψ, e2, e3.env hJ hG, e4⟩

theorem orcL_mem : ∀ {l : List (List AV × Orc)} {args : List AV} {r : Orc}, orcL l args = some r → (args, r) ∈ l
  | [], args, r, h => by simp [orcL] at h
  | (a, r') :: l, args, r, h => by
    simp only [orcL] at h
    split at h
    · rename_i e
      simp only [Option.some.injEq] at h
      subst h
      rw [eqAVs_eq e]; simp
    · exact List.mem_cons_of_mem _ (orcL_mem h)

theorem TabOk.nil {E : Env} {P : Program} : TabOk E P .nil := fun f l h => by simp [T.get_nil] at h
theorem TabOk.add {E : Env} {P : Program} {t : T (List (List AV × Orc))} (h : TabOk E P t) {f : Nat} {args : List AV} {r : Orc} (hr : OrcOk E P f args r) : TabOk E P (addO t f args r) := by
  intro g l hl p hp
  unfold addO at hl
  rw [T.get_set] at hl
  split at hl
  · rename_i e
    subst e
    simp only [Option.some.injEq] at hl
    subst hl
    rcases List.mem_cons.1 hp with rfl | hp
    · exact hr
    · cases hg : t.get g with
      | none => simp [hg] at hp
      | some l => rw [hg] at hp; exact h g l hg p hp
  · exact h g l hl p hp

/-- the program's tables -/
structure Tabs where
  P : Program
  F : T Func
  I : T TypeInfo
  X : T Nat
  gl : List GL
  n0 : Nat
structure Tabs.Ok (t : Tabs) : Prop where
  funcs : t.F = T.ofList t.P.funcs.toList
  infos : t.I = T.ofList t.P.types.toList
  mixed : t.P.follows .mixedOrders = true
  low : ∀ x ∈ t.gl, x.g < t.n0

noncomputable def Tabs.env (t : Tabs) (o : T (List (List AV × Orc))) (ms : T (List Mem)) : Env := ⟨t.P, t.F, t.I, t.X, baseG t.gl, orcT o, memT ms, JL t.gl⟩
/-- what all environments of a program have in common -/
noncomputable def Tabs.env0 (t : Tabs) : Env := t.env .nil .nil
def Tabs.base (t : Tabs) (n : Nat) : AH := ⟨n, baseT t.gl⟩

theorem MemOk.env {E E' : Env} {P : Program} (hJ : E'.J = E.J) (hG : E'.G = E.G) {f : Nat} {m : Mem} (h : MemOk E P f m) : MemOk E' P f m := fun H hf k B0 φ w us hR hv =>
  (h H hf k B0 φ w us (hR.env hJ.symm hG.symm) hv).mono fun _ _ ⟨v', e1, ψ, e2, e3, e4⟩ => ⟨v', e1, ψ, e2, e3.env hJ hG, e4⟩

theorem Tabs.env_ok {t : Tabs} (h : t.Ok) {o : T (List (List AV × Orc))} {ms : T (List Mem)} (ho : TabOk t.env0 t.P o) (hm : MemsOk t.env0 t.P ms) : (t.env o ms).Ok t.P where
  prog := rfl
  funcs f fn hf := by
    have : (t.env o ms).F = T.ofList t.P.funcs.toList := h.funcs
    rw [this, T.get_ofList] at hf
    simpa using hf
  infos f fn hf := by
    have : (t.env o ms).I = T.ofList t.P.types.toList := h.infos
    rw [this, T.get_ofList] at hf
    have hf' : t.P.types[f]? = some fn := by simpa using hf
    show t.P.toTables.info? f = some fn
    unfold Tables.info?
    rw [if_pos (Array.getElem?_eq_some_iff.1 hf').1]
    exact hf'
  mixed := h.mixed
  orc f args r hr := by
    have hr' : orcT o f args = some r := hr
    unfold orcT at hr'
    split at hr'
    · simp at hr'
    rename_i l hl
    exact OrcOk.env (E := t.env0) (E' := t.env o ms) rfl rfl (ho f l hl _ (orcL_mem hr'))
  mem f m args H v H' hr hr2 := by
    have hr' : memT ms f = some m := hr
    unfold memT at hr'
    split at hr'
    · simp at hr'
    rename_i l hl
    simp only [Option.some.injEq] at hr'
    subst hr'
    obtain ⟨m, h1, h2, rfl, rfl, rfl⟩ := memL_mem hr2
    exact MemOk.env (E := t.env0) (E' := t.env o ms) rfl rfl (hm f l hl m h1) H h2

/-- a call that was run is known -/
theorem Tabs.add {t : Tabs} (h : t.Ok) {o o' : T (List (List AV × Orc))} {ms : T (List Mem)} (ho : TabOk t.env0 t.P o) (hm : MemsOk t.env0 t.P ms) (ho' : TabOk t.env0 t.P o') {f : Nat} {args : List AV} {base : Nat} {ids : List (Nat × Bool)} {n : Nat} {r : Orc}
    (hn : Nat.ble t.n0 base = true) (hg : refsOk noK args = true) (hrun : orcOf base ids (runF (t.env o ms) n (.call f args (t.base base))) = some r) : TabOk t.env0 t.P (addO o' f args r) :=
  ho'.add (OrcOk.env (E := t.env o ms) (E' := t.env0) rfl rfl
    (orc_ok (H0 := t.base t.n0) (φ0 := phiG t.gl) (t.env_ok h ho hm) (fun w n hn hJ => base_ok (E := t.env o ms) rfl rfl t.n0 h.low hn hJ) (Nat.le_of_ble_eq_true hn) hg hrun))

theorem Tabs.addM {t : Tabs} (h : t.Ok) {o : T (List (List AV × Orc))} {ms ms' : T (List Mem)} (ho : TabOk t.env0 t.P o) (hm : MemsOk t.env0 t.P ms) (hm' : MemsOk t.env0 t.P ms') {f n : Nat} {m : Mem}
    (hrun : m.told (runF (t.env o ms) n (.call f m.args ⟨m.base, layP m.pre⟩)) = true) : MemsOk t.env0 t.P (Uf.addM ms' f m) :=
  hm'.add (MemOk.env (E := t.env o ms) (E' := t.env0) rfl rfl (mem_ok (t.env_ok h ho hm) hrun))

def isTrue : Option Out → Bool
  | some (.ret (.b true) _) => true
  | _ => false

theorem Tabs.call {t : Tabs} (h : t.Ok) {o : T (List (List AV × Orc))} {ms : T (List Mem)} (ho : TabOk t.env0 t.P o) (hm : MemsOk t.env0 t.P ms) {f n : Nat} (hrun : isTrue (runF (t.env o ms) n (.call f [] (t.base t.n0))) = true)
    (w : World) (hw : JL t.gl w) (k : Nat) : CallsIn Fence.wide k t.P f #[] w fun e w' => e = .returned (.bool true) ∧ Below w.heap.size w w' := by
  rw [runF_eq] at hrun
  unfold isTrue at hrun
  split at hrun
  case h_2 => simp at hrun
  rename_i H1 h1
  have hE := t.env_ok h ho hm
  refine CallsIn.mono ((sound (B0 := w.heap.size) hE (draw_ok hE) n).2.1 f [] _ _ H1 h1 k (phiG t.gl) w #[] (base_ok rfl rfl t.n0 h.low (Nat.le_refl _) hw) VRs.nil) fun e w' hp => ?_
  cases e <;> simp only [CallPost] at hp <;> try exact hp.elim
  obtain ⟨ψ1, h2, h3, h4, h5⟩ := hp
  simp only [VR] at h4
  exact ⟨by rw [h4], h5⟩

end Go.Uf
end

/-
  A law without arguments whose row lists variables: from what a call comes to, to what its row says. The world's shape is handed on.
-/
noncomputable section
namespace Go.Uf
open Go.RowKit (Below)
open Go.ChangeShapes Go.WideShapes Go.ChangeAt Go.WideMaps Go.WideElems Go.RowKit
variable {H : Type} {enc : TypeId × Value → H}

theorem returnsInHanded_of_change_and_shaped {a : Assume} {C : Checked} {os : Os} {f : FuncId} {fn : Func} {s : ChangeSpec} {conds : List PathCond} {apart fresh handsOn again : Bool} {X : World → Array Value → Prop}
    (hX : ∀ (w w' : World) (args : Array Value), w.heap = w'.heap → X w args → X w' args)
    (own : ownKnob C.prog.godebug = none) (started : os.Started) (noInit : C.prog.inits.idxOf? f = none) (hfn : C.prog.funcs[f]? = some fn)
    (witness : ∃ (w : World) (tape : Tape) (i : Input), w.os = os ∧ (w.forCall tape i).Shaped C.prog ∧ i.vars = [] ∧ Input.okWide C.prog (w.forCall tape i) .any w.heap.size f i ∧
      ((s.pre enc C.prog fn conds apart (w.forCall tape i).memory i.args ∧ X (w.forCall tape i).memory i.args) ∧ sizedMet enc C.prog fn (OpenSpec.ofChange s) apart (w.forCall tape i).memory i.args) ∧ a.holds C.prog (lone (Frame.enter C.prog f i.args .normal) [] (w.forCall tape i)))
    (contract : ∀ (W : World) (base : Nat) (args : Array Value) (ds gs : List (DataW H)) (before : List MemPlace),
      (∀ (j : Nat) t v, fn.params[j]? = some t → args[j]? = some v → Value.okWide C.prog W .any base t v) →
      DataW.Whole enc C.prog fn.params.toList s.vars apart W args.toList ds gs before →
      conds.all (PathCond.test C.prog ⟨fn.params.toList, ds, s.plain.varTypes C.prog, gs⟩) = true →
      (DataW.weightsEach C.prog (fn.params.toList ++ s.plain.varTypes C.prog) (ds ++ gs)).all (· ≤ reachBytes) = true → X W args →
      W.ShapedOpen C.prog →
      a.holds C.prog (lone (Frame.enter C.prog f args .normal) [] W) →
      Calls C.prog f args W fun e W' => ∃ v, e = .returned v ∧ s.post enc C.prog fn apart fresh handsOn again W args v W') :
    ReturnsInHanded a C os f .any (fun w args => (s.pre enc C.prog fn conds apart w args ∧ X w args) ∧ sizedMet enc C.prog fn (OpenSpec.ofChange s) apart w args) (s.post enc C.prog fn apart fresh handsOn again) := by
  refine returnsInHanded_of_calls own started noInit witness ?_
  intro w tape i _ hsh _ hok hpre hholds
  obtain ⟨_, _, _, fn', hfn', _, _, _, _, hval⟩ := hok
  have e : fn' = fn := Option.some.inj (hfn'.symm.trans hfn)
  subst e
  obtain ⟨⟨⟨ds, gs, before, hw, hc⟩, hx⟩, hz⟩ := hpre
  have hw' := DataW.Whole.of_heap (w' := w.forCall tape i) (by rfl) hw
  refine (contract (w.forCall tape i) w.heap.size i.args ds gs before hval hw' hc (hz.weights hw) (hX _ _ _ (by rfl) hx) hsh hholds).mono fun e W' ⟨v, he, hp⟩ => ?_
  subst he
  exact ChangeSpec.post_blind hp


/-- the cells of a datum of plain integers -/
def avs : DataW Unit → List AV
  | .agg l => l.map fun
    | .lit (.int k n) => .i k n
    | _ => .np
  | _ => []

theorem laidVars_mem {P : Program} {w : World} : ∀ {l : List (String × DataW Unit)} {ps : List MemPlace} {n : String} {d : DataW Unit}, DataW.LaidVars P w l ps → (n, d) ∈ l →
    ∃ g t cs fuel p, P.globalNamed n = some g ∧ (P.globals[g]?).map (·.type) = some t ∧ w.var? P n = some cs ∧ DataW.trod (fun _ => ()) P w 0 (fun _ => true) false fuel t cs.toList = some (d, p)
  | [], _, n, d, _, hm => by simp at hm
  | (n', d') :: l, ps, n, d, h, hm => by
    obtain ⟨g, t, cs, fuel, p, q, h1, h2, h3, h4, h5, _⟩ := h
    rcases List.mem_cons.1 hm with e | hm
    · simp only [Prod.mk.injEq] at e
      obtain ⟨rfl, rfl⟩ := e
      exact ⟨g, t, cs, fuel, p, h1, h2, h3, h4⟩
    · exact laidVars_mem h5 hm

/-- an array of integers that a row lists -/
theorem glob_ints {P : Program} {w : World} {l : List (String × DataW Unit)} {nm : String} {d : DataW Unit} {g t e n : Nat} {k : IntKind} (hl : laidMet P l w) (hsh : w.ShapedOpen P)
    (hm : (nm, d) ∈ l) (hg : P.globalNamed nm = some g) (hlt : g < P.globals.size) (hty : (P.globals[g]?).map (·.type) = some t)
    (hrow : (((begin P (fun _ _ => 0) default).world.heap[g]?).bind Obj.row?).map (·.2) = some t)
    (ht : P.underlying t = some (.array n e)) (he : P.underlying e = some (.int k)) (hc : P.cellsOf t = n) (hce : P.cellsOf e = 1) {c : T AV} (hcc : c = T.ofList (avs d)) :
    ∃ arr fz, w.heap[g]? = some (.cells arr t fz) ∧ n ≤ arr.size ∧ ∀ j, j < n → ∃ y v, c.get j = some y ∧ arr[j]? = some v ∧ VR Phi.zero y v ∧ y.one = true := by
  obtain ⟨ps, hps, _⟩ := hl
  obtain ⟨g', t', cs, fuel, p, h1, h2, h3, h4⟩ := laidVars_mem hps hm
  obtain rfl := Option.some.inj (hg.symm.trans h1)
  obtain rfl := Option.some.inj (hty.symm.trans h2)
  obtain ⟨z, hz⟩ : ∃ z, ((begin P (fun _ _ => 0) default).world.heap[g]?).bind Obj.row? = some (z, t) := by
    cases hb : ((begin P (fun _ _ => 0) default).world.heap[g]?).bind Obj.row? with
    | none => rw [hb] at hrow; simp at hrow
    | some x =>
      rw [hb] at hrow
      simp only [Option.map_some, Option.some.injEq] at hrow
      exact ⟨x.1, by rw [← hrow]⟩
  obtain ⟨arr, harr, _⟩ := hsh.1 g z t hlt hz
  have e0 : arr = cs := by
    simp only [World.var?, hg, Option.bind_some, harr] at h3
    simpa using h3
  subst e0
  obtain ⟨xs, m, rfl, hx, hlen, hxn, hel⟩ := DataW.trod_array ht h4
  have hsz : arr.size = n := by rw [← hc, ← hlen]; simp
  refine ⟨arr, _, harr, by omega, fun j hj => ?_⟩
  have hx1 := hel j hj
  obtain ⟨x, hxj⟩ : ∃ x, xs[j]? = some x := ⟨xs[j], List.getElem?_eq_getElem (by omega)⟩
  rw [hxj, hce, Nat.mul_one] at hx1
  obtain ⟨i, e1, e2, _⟩ := DataW.trod_int he hx1
  have hv : arr[j]? = some (.int k i) := by
    have := congrArg (fun l => l[0]?) e1
    simpa [List.getElem?_take] using this
  refine ⟨.i k i, .int k i, ?_, hv, by simp [VR], rfl⟩
  rw [hcc, T.get_ofList]
  have hd : d = .agg (xs.map (·.1)) := by
    have := congrArg Prod.fst hx
    simpa using this
  rw [hd]
  simp [avs, hxj, e2]

end Go.Uf
end

