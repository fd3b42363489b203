/-
  A part of the proof of the tied card of usufructlaw18.InferKnown: UfFast3, UfFastG, UfFast4, UfNew, UfNew2, UfDraw, UfDraw2, UfDraw3, UfDraw4, UfDraw5.
-/
import Derived.Test.YtmjodojidooldaaGreatDoorU2
import Derived.OrdersIn
set_option linter.all false
set_option linter.unusedVariables false
set_option linter.unusedSimpArgs false
/-
  Operations with effects, and operations in a row, written for the kernel.
-/
noncomputable section
namespace Go.Uf
noncomputable section

abbrev CK := (Task → Option Out) → AFr → AH → (AFr → AH → KO) → KO
abbrev PK := AV → AFr → (AFr → KO) → KO

def withD (dst : Option Nat) (F : PK → Option CK) : Option CK := match dst with
  | some d => F fun v fr k => putF d v fr k
  | none => F fun _ fr k => k fr
theorem withD_ok {dst : Option Nat} {F : PK → Option CK} {f : CK} (h : withD dst F = some f) : ∃ P : PK, F P = some f ∧ ∀ v fr k, P v fr k = (fr.put dst v).bind k := by
  unfold withD at h
  cases dst with
  | some d => exact ⟨_, h, fun v fr k => putF_eq d v fr k⟩
  | none =>
    refine ⟨_, h, fun v fr k => ?_⟩
    obtain ⟨nt, ex, tm, lo, ms⟩ := fr
    rfl

def oneB (v : AV) : Bool := AV.rec (motive_1 := fun _ => Bool) (motive_2 := fun _ => Unit) (fun _ => true) (fun _ _ => true) (fun _ _ => true) (fun _ _ _ _ => true) (true) (fun _ _ _ _ _ _ => true) (true) (fun _ => true) (true) (fun _ => true) (true) (fun _ _ _ _ _ => true) (fun _ => true) (true) (fun _ _ _ => true) (true) (fun _ _ => false) (fun _ _ => false) () (fun _ _ _ _ => ()) v
theorem oneB_eq (v : AV) : oneB v = v.one := by cases v <;> rfl
theorem one_cells {v : AV} (h : v.one = true) : v.cells = [v] := by cases v <;> first | rfl | simp [AV.one] at h

def st1W (nx : Nat) (os : T AO) (i t top fl sz : Nat) (c : T AV) (k : AH → KO) : KO := T.rec (motive := fun _ => Nat → T AO → Nat → Nat → Nat → Nat → Nat → (AH → KO) → KO) (fun _ _ _ _ _ _ _ _ => none)
  (fun a l r' _ _ nx os i t top fl sz k => T.rec (motive := fun _ => Nat → (AH → KO) → KO) (fun _ _ => none) (fun a2 l2 r2 _ _ nx k => k ⟨nx, .node a2 l2 r2⟩) (os.set i (.cells t top top fl sz (.node a l r'))) nx k) c nx os i t top fl sz k
def st1K (H : AH) (v : AV) (k : AH → KO) (i u o r : Nat) : KO := Bool.rec (motive := fun _ => KO) none (AH.rec (motive := fun _ => AV → (AH → KO) → Nat → Nat → Nat → KO) (fun nx os v k i u o => Option.rec (motive := fun _ => KO) none (fun ob =>
  AO.rec (motive := fun _ => Nat → T AO → AV → (AH → KO) → Nat → Nat → Nat → KO) (fun t top w fl sz c nx os v k i u o => Bool.rec (motive := fun _ => KO) none (st1W nx os i t top fl sz (c.set o v) k)
      (andB (andB (andB (Nat.beq u top) (Nat.ble w u)) (Nat.beq fl 0)) (Nat.ble (Nat.succ o) sz)))
    (fun _ _ _ _ _ _ _ _ _ => none) (fun _ _ _ _ _ _ _ _ _ _ => none) (fun _ _ _ _ _ _ _ _ _ _ _ => none) (fun _ _ _ _ _ _ _ _ _ _ _ _ _ => none) (fun _ _ _ _ _ _ _ _ => none) (fun _ _ _ _ _ _ _ _ _ => none) ob nx os v k i u o) (os.get i)) H v k i u o) (Nat.ble 1 r)
def slowSt (E : Env) (t : Nat) (p v : AV) (H : AH) (k : AH → KO) : KO := match stA E t p v H with
  | some H' => fH H' k
  | none => none
theorem slowSt_eq (E : Env) (t : Nat) (p v : AV) (H : AH) (k : AH → KO) : slowSt E t p v H k = (stA E t p v H).bind k := by
  unfold slowSt
  cases stA E t p v H <;> simp

theorem set_node {α : Type} {x : α} (t : T α) (k : Nat) : ∃ a l r, t.set k x = .node a l r := by
  cases h : t.set k x with
  | nil =>
    have := T.get_set_same t k x
    rw [h, T.get_nil] at this
    cases this
  | node a l r => exact ⟨a, l, r, rfl⟩

theorem st1K_eq {E : Env} {t : Nat} (hn : E.size t = some 1) (H : AH) {v : AV} (hv : v.one = true) (k : AH → KO) (i u o r : Nat) : st1K H v k i u o r = (stA E t (.p i u o r) v H).bind k := by
  obtain ⟨nx, os⟩ := H
  have hget : (⟨nx, os⟩ : AH).get i = os.get i := rfl
  have hall : allOne [v] = true := by simp [allOne, hv]
  unfold stA
  simp only [hn, one_cells hv, List.length_singleton]
  have hb : Nat.beq 1 1 = true := rfl
  rw [hb, Bool.true_and]
  unfold st1K
  cases Nat.ble 1 r with
  | false => rfl
  | true =>
    show Option.rec (motive := fun _ => KO) none _ (os.get i) = _
    simp only
    unfold AH.wr
    rw [hget]
    cases os.get i with
    | none => rfl
    | some ob =>
      cases ob with
      | cells t' top w fl sz c =>
        simp only [hall, Bool.and_true, List.length_singleton]
        obtain ⟨a, l, r', hs⟩ := set_node (x := v) c o
        obtain ⟨a2, l2, r2, hs2⟩ := set_node (x := (.cells t' top top fl sz (.node a l r') : AO)) os i
        show Bool.rec (motive := fun _ => KO) none (st1W nx os i t' top fl sz (c.set o v) k) (andB (andB (andB (Nat.beq u top) (Nat.ble w u)) (Nat.beq fl 0)) (Nat.ble (Nat.succ o) sz)) = _
        simp only [andB_eq]
        have : Nat.ble (Nat.succ o) sz = Nat.ble (o + 1) sz := rfl
        rw [this]
        cases Nat.beq u top && Nat.ble w u && Nat.beq fl 0 && Nat.ble (o + 1) sz with
        | false => rfl
        | true =>
          simp only [putO_eq, Option.bind_some]
          rw [show T.lay c o [v] = c.set o v from rfl, show (⟨nx, os⟩ : AH).put i (.cells t' top top fl sz (c.set o v)) = ⟨nx, os.set i (.cells t' top top fl sz (c.set o v))⟩ from rfl, hs]
          show T.rec (motive := fun _ => Nat → (AH → KO) → KO) (fun _ _ => none) (fun a2 l2 r2 _ _ nx k => k ⟨nx, .node a2 l2 r2⟩) (os.set i (.cells t' top top fl sz (.node a l r'))) nx k = _
          rw [hs2]
      | _ => rfl

def newK (ob : AO) (H : AH) (k : Nat → AH → KO) : KO := AH.rec (motive := fun _ => AO → (Nat → AH → KO) → KO) (fun nx os ob k => T.rec (motive := fun _ => Nat → (Nat → AH → KO) → KO) (fun _ _ => none) (fun a l r _ _ nx k => fNK (Nat.succ nx) fun m => k nx ⟨m, .node a l r⟩) (os.set nx ob) nx k) H ob k
theorem newK_eq (ob : AO) (H : AH) (k : Nat → AH → KO) : newK ob H k = k H.nx (H.new ob) := by
  obtain ⟨nx, os⟩ := H
  obtain ⟨a, l, r, hs⟩ := set_node (x := ob) os nx
  show T.rec (motive := fun _ => Nat → (Nat → AH → KO) → KO) (fun _ _ => none) (fun a l r _ _ nx k => fNK (Nat.succ nx) fun m => k nx ⟨m, .node a l r⟩) (os.set nx ob) nx k = k nx ⟨Nat.succ nx, os.set nx ob⟩
  rw [hs]
  show fNK (Nat.succ nx) (fun m => k nx ⟨m, .node a l r⟩) = _
  rw [fNK_eq]

def callK (x : Option Out) (k : AV → AH → KO) : KO := Option.rec (motive := fun _ => (AV → AH → KO) → KO) (fun _ => none) (fun out k => Out.rec (motive := fun _ => (AV → AH → KO) → KO) (fun _ _ _ _ => none) (fun v H k => k v H) out k) x k
def evsD (E : Env) : List Operand → Option (AFr → (List AV → KO) → KO)
  | [] => some fun _ k => k []
  | x :: l => match evD E x, evsD E l with
    | some f, some g => some fun fr k => f fr fun v => g fr fun vs => k (v :: vs)
    | _, _ => none
theorem evsD_ok {E : Env} : ∀ {l : List Operand} {f : AFr → (List AV → KO) → KO}, evsD E l = some f → ∀ fr k, f fr k = (evs E fr l).bind k
  | [], f, h, fr, k => by
    simp only [evsD, Option.some.injEq] at h
    subst h
    rfl
  | x :: l, f, h, fr, k => by
    simp only [evsD] at h
    split at h
    case h_2 => simp at h
    rename_i f1 g1 hf hg
    simp only [Option.some.injEq] at h
    subst h
    simp only [evD_ok hf, evsD_ok hg, evs]
    cases ev E fr x with
    | none => rfl
    | some v =>
      simp only [Option.bind_some]
      cases evs E fr l <;> rfl

def slowBox (t : Nat) (v : AV) (H : AH) (k : Nat → Nat → AH → KO) : KO := match allOne v.cells with
  | true => newCells H t v.cells fun H1 => fH H1 fun H1 => k H.nx v.cells.length H1
  | false => none

def effD (E : Env) (o : Oper) : Option CK := withD o.dst fun P => match o.op with
  | .store t a x => match evD E a, evD E x, E.size t with
    | some fa, some fx, some n => match Nat.beq n 1 with
      | true => some fun _ fr H k => fa fr fun p => fx fr fun v => Bool.rec (motive := fun _ => KO) (slowSt E t p v H fun H => P (.tup []) fr fun fr => k fr H) (asP (st1K H v fun H => P (.tup []) fr fun fr => k fr H) p) (oneB v)
      | false => some fun _ fr H k => fa fr fun p => fx fr fun v => slowSt E t p v H fun H => P (.tup []) fr fun fr => k fr H
    | _, _, _ => none
  | .call c => match c.callee with
    | .value (.func f) => match E.F.get f, evsD E c.args.toList with
      | some fn, some g => match fn.body, decide (fn.name = "runtime.NumGoroutine") with
        | some _, false => some fun rec fr H k => g fr fun l => callK (rec (.call f l H)) fun v H => P v fr fun fr => k fr H
        | _, _ => none
      | _, _ => none
    | _ => none
  | .alloc t => match E.zero t with
    | some z => match allOne z.cells with
      | true => fA (.cells t 0 0 0 z.cells.length (T.ofList z.cells)) fun ob => fN z.cells.length fun n => some fun _ fr H k => newK ob H fun nx H => P (.p nx 0 0 n) fr fun fr => k fr H
      | false => none
    | none => none
  | .box t x => match evD E x with
    | some f => some fun _ fr H k => f fr fun v => Bool.rec (motive := fun _ => KO) (slowBox t v H fun nx n H => P (.p nx 0 0 n) fr fun fr => k fr H)
        (newK (.cells t 0 0 0 1 (.node (some v) .nil .nil)) H fun nx H => P (.p nx 0 0 1) fr fun fr => k fr H) (oneB v)
    | none => none
  | _ => none

abbrev kk (x : Option (AFr × AH)) (k : AFr → AH → KO) : KO := x.bind fun p => k p.1 p.2

theorem doOpX_of {E : Env} {rec : Task → Option Out} {ops : Array Oper} {o : Oper} {fr : AFr} {H : AH} (hs : spcOf o = none) (hg : o.guard = none) : doOpX E rec ops o fr H = finR rec o fr H (opA E fr H o) := by
  unfold doOpX doOp wantedA
  rw [hs, hg]
  simp only [opF_eq]

theorem fin_kk {o : Oper} {fr : AFr} {v : AV} {H : AH} (k : AFr → AH → KO) : kk (fin o fr v H) k = (fr.put o.dst v).bind fun fr => k fr H := by
  unfold fin
  cases fr.put o.dst v <;> rfl

theorem effD_ok {E : Env} {o : Oper} {f : CK} (h : effD E o = some f) (hg : o.guard = none) (rec : Task → Option Out) (ops : Array Oper) (fr : AFr) (H : AH) (k : AFr → AH → KO) :
    f rec fr H k = kk (doOpX E rec ops o fr H) k := by
  obtain ⟨P, h, hP⟩ := withD_ok h
  cases ho : o.op <;> simp only [ho] at h
  case store t a x =>
    have hs : spcOf o = none := by unfold spcOf; rw [ho]
    rw [doOpX_of hs hg]
    have hop : opA E fr H o = op_store E fr H t a x := by unfold opA; rw [ho]
    rw [hop]
    split at h
    case h_2 => simp at h
    rename_i fa fx n hfa hfx hn
    have slow : ∀ p v, slowSt E t p v H (fun H => P (.tup []) fr fun fr => k fr H) = kk (finR rec o fr H (oH (stA E t p v H))) k := fun p v => by
      rw [slowSt_eq]
      cases stA E t p v H with
      | none => rfl
      | some H' => simp only [oH, finR, fH_eq, fin_kk, Option.bind_some, hP]
    have both : ∀ (g : AV → AV → KO), (∀ p v, g p v = kk (finR rec o fr H (oH (stA E t p v H))) k) → ((ev E fr a).bind fun p => (ev E fr x).bind fun v => g p v) = kk (finR rec o fr H (op_store E fr H t a x)) k := fun g hgg => by
      unfold op_store
      cases ev E fr a with
      | none => rfl
      | some p =>
        cases ev E fr x with
        | none => rfl
        | some v => exact hgg p v
    split at h
    · rename_i h1
      have h1 : n = 1 := Nat.eq_of_beq_eq_true h1
      subst h1
      simp only [Option.some.injEq] at h; subst h
      simp only [evD_ok hfa, evD_ok hfx]
      refine both _ fun p v => ?_
      rw [oneB_eq]
      cases hv : v.one with
      | false => exact slow p v
      | true =>
        show asP (st1K H v fun H => P (.tup []) fr fun fr => k fr H) p = _
        cases p with
        | p i u q r =>
          show st1K H v (fun H => P (.tup []) fr fun fr => k fr H) i u q r = _
          rw [st1K_eq hn H hv, ← slow, slowSt_eq]
        | _ => rfl
    · simp only [Option.some.injEq] at h; subst h
      simp only [evD_ok hfa, evD_ok hfx]
      exact both _ slow
  case call c =>
    have hs : spcOf o = none := by unfold spcOf; rw [ho]
    rw [doOpX_of hs hg]
    have hop : opA E fr H o = op_call E fr H c o.type := by unfold opA; rw [ho]
    rw [hop]
    split at h
    case h_2 => simp at h
    rename_i f' hcal
    split at h
    case h_2 => simp at h
    rename_i fn g hfn hgs
    split at h
    case h_2 => simp at h
    rename_i body hb hname
    simp only [Option.some.injEq] at h; subst h
    simp only [evsD_ok hgs]
    unfold op_call
    rw [hcal]
    cases evs E fr c.args.toList with
    | none => rfl
    | some l =>
      simp only [ev, callA, hfn, hb, hname, Option.bind_some, List.nil_append, List.append_nil, finR]
      cases rec (.call f' l H) with
      | none => rfl
      | some out =>
        cases out with
        | code e fr' H' => rfl
        | ret v H' =>
          show P v fr (fun fr => k fr H') = kk (fin o fr v H') k
          rw [fin_kk, hP]
  case alloc t =>
    have hs : spcOf o = none := by unfold spcOf; rw [ho]
    rw [doOpX_of hs hg]
    have hop : opA E fr H o = op_alloc E fr H t := by unfold opA; rw [ho]
    rw [hop]
    split at h
    case h_2 => simp at h
    rename_i z hz
    split at h
    case h_2 => simp at h
    rename_i h1
    simp only [fA_eq, fN_eq, Option.some.injEq] at h; subst h
    unfold op_alloc
    simp only [hz, h1, newCells, newO_eq, finR, fH_eq, fin_kk, newK_eq, hP]
  case box t x =>
    have hs : spcOf o = none := by unfold spcOf; rw [ho]
    rw [doOpX_of hs hg]
    have hop : opA E fr H o = op_box E fr H t x := by unfold opA; rw [ho]
    rw [hop]
    split at h
    case h_2 => simp at h
    rename_i f' hf
    simp only [Option.some.injEq] at h; subst h
    simp only [evD_ok hf]
    unfold op_box
    cases ev E fr x with
    | none => rfl
    | some v =>
      simp only [Option.bind_some]
      rw [oneB_eq]
      cases hv : v.one with
      | false =>
        show slowBox t v H _ = _
        unfold slowBox
        cases allOne v.cells with
        | false => rfl
        | true => simp only [newCells, newO_eq, finR, fH_eq, fin_kk, hP]
      | true =>
        show newK _ H _ = _
        rw [newK_eq, one_cells hv]
        have hall : allOne [v] = true := by simp [allOne, hv]
        simp only [hall, newCells, newO_eq, finR, fH_eq, fin_kk, hP, List.length_singleton]
        rfl
  all_goals (simp at h; done)

/-- an operation's own law, found once -/
def opD (E : Env) (o : Oper) : Option CK := match o.guard with
  | some _ => none
  | none => match valD E o.op with
    | some g => withD o.dst fun P => some fun _ fr H k => g fr H fun v => P v fr fun fr => k fr H
    | none => effD E o
theorem opD_ok {E : Env} {o : Oper} {f : CK} (h : opD E o = some f) (rec : Task → Option Out) (ops : Array Oper) (fr : AFr) (H : AH) (k : AFr → AH → KO) :
    f rec fr H k = kk (doOpX E rec ops o fr H) k := by
  unfold opD at h
  split at h
  · simp at h
  rename_i hg
  split at h
  · rename_i g hv
    obtain ⟨P, h, hP⟩ := withD_ok h
    simp only [Option.some.injEq] at h; subst h
    obtain ⟨hs, x, hx, hgk⟩ := valD_ok hv rfl fr H
    rw [doOpX_of hs hg, hx]
    show g fr H (fun v => P v fr fun fr => k fr H) = _
    rw [hgk]
    cases x with
    | none => rfl
    | some v =>
      simp only [Option.map_some, finR, fin_kk, Option.bind_some, hP]
  · exact effD_ok h hg rec ops fr H k

def slowOp (x : Option (AFr × AH)) (k : AFr → AH → KO) : KO := match x with
  | some p => k p.1 p.2
  | none => none
def opsK (E : Env) (rec : Task → Option Out) (ops : Array Oper) : List Oper → AFr → AH → (AFr → AH → KO) → KO := List.rec (motive := fun _ => AFr → AH → (AFr → AH → KO) → KO) (fun fr H k => k fr H)
  (fun o _ ih fr H k => Option.rec (motive := fun _ => KO) (slowOp (doOpX E rec ops o fr H) fun fr H => ih fr H k) (fun f => f rec fr H fun fr H => ih fr H k) (opD E o))
theorem opsK_eq (E : Env) (rec : Task → Option Out) (ops : Array Oper) : ∀ (l : List Oper) (fr : AFr) (H : AH) (k : AFr → AH → KO), opsK E rec ops l fr H k = kk (doOps E rec ops l fr H) k
  | [], fr, H, k => rfl
  | o :: l, fr, H, k => by
    have ih : (fun fr H => opsK E rec ops l fr H k) = fun fr H => kk (doOps E rec ops l fr H) k := by
      funext fr H
      exact opsK_eq E rec ops l fr H k
    show Option.rec (motive := fun _ => KO) (slowOp (doOpX E rec ops o fr H) fun fr H => opsK E rec ops l fr H k) (fun f => f rec fr H fun fr H => opsK E rec ops l fr H k) (opD E o) = _
    rw [ih]
    simp only [doOps]
    cases ho : opD E o with
    | none =>
      show slowOp _ _ = _
      unfold slowOp
      cases doOpX E rec ops o fr H with
      | none => rfl
      | some p => rfl
    | some f =>
      show f rec fr H _ = _
      rw [opD_ok ho rec ops fr H]
      cases doOpX E rec ops o fr H with
      | none => rfl
      | some p => rfl

end
end Go.Uf
end

/-
  Guards; operations in a row; regions that draw their order: written for the kernel, each found once.
-/
noncomputable section
namespace Go.Uf
noncomputable section

def wK (want : Bool) (run skip : KO) (v : AV) : KO := AV.casesOn (motive_1 := fun _ => KO) v
  (fun b => Bool.rec (motive := fun _ => KO) (Bool.rec (motive := fun _ => KO) run skip b) (Bool.rec (motive := fun _ => KO) skip run b) want) (fun _ _ => skip) (fun _ _ => skip) (fun _ _ _ _ => skip) skip (fun _ _ _ _ _ _ => skip) skip (fun _ => skip) skip (fun _ => skip) skip
  (fun _ _ _ => skip) (fun _ => skip) skip (fun _ _ => skip) skip (fun _ => skip) (fun _ => skip)
def bare (o : Oper) : Oper := { o with guard := none }
def gTmp (ops : Array Oper) (j : Nat) : Option Nat := match ops.toList[j]? with
  | some p => p.dst
  | none => none

/-- an operation under a guard -/
def withG (ops : Array Oper) (o : Oper) (F : Oper → Option CK) : Option CK := match o.guard with
  | none => F o
  | some (j, want) => match gTmp ops j, F (bare o) with
    | some d, some f => withD o.dst fun P => some fun rec fr H k => getF d fr fun v => wK want (f rec fr H k) (P (.tup []) fr fun fr => k fr H) v
    | _, _ => none

theorem wK_eq (want : Bool) (run skip : KO) (v : AV) : wK want run skip v = (match (match v with | .b x => x == want | _ => false) with | true => run | false => skip) := by
  cases v with
  | b x => cases x <;> cases want <;> rfl
  | _ => rfl

/-- what a guard says, and then -/
theorem withG_ok {ops : Array Oper} {o : Oper} {F : Oper → Option CK} {f : CK} (h : withG ops o F = some f) {rec : Task → Option Out} {fr : AFr} {H : AH} {k : AFr → AH → KO} {run : KO}
    (hF : ∀ f, F (bare o) = some f → f rec fr H k = run) : f rec fr H k = (match wantedA ops o fr with
      | none => none
      | some b => match b with
        | false => kk (fin o fr (.tup []) H) k
        | true => run) := by
  unfold withG at h
  unfold wantedA
  cases hg : o.guard with
  | none =>
    rw [hg] at h
    have : bare o = o := by unfold bare; rw [← hg]
    exact hF f (by rw [this]; exact h)
  | some x =>
    obtain ⟨j, want⟩ := x
    rw [hg] at h
    simp only at h ⊢
    split at h
    case h_2 => simp at h
    rename_i d f' hd hf
    obtain ⟨P, h, hP⟩ := withD_ok h
    simp only [Option.some.injEq] at h; subst h
    have hrun := hF f' hf
    show getF d fr (fun v => wK want (f' rec fr H k) (P (.tup []) fr fun fr => k fr H) v) = _
    unfold gTmp at hd
    rw [getF_eq, hrun]
    cases ho : ops.toList[j]? with
    | none => rw [ho] at hd; simp at hd
    | some p =>
      rw [ho] at hd
      simp only at hd
      simp only [hd]
      cases fr.get d with
      | none => rfl
      | some v =>
        simp only [Option.bind_some, wK_eq, hP, fin_kk]
        cases v with
        | b x => cases hx : (x == want) <;> simp only [hx]
        | _ => rfl

def opG (E : Env) (ops : Array Oper) (o : Oper) : Option CK := withG ops o (opD E)

theorem opA_bare (E : Env) (fr : AFr) (H : AH) (o : Oper) : opA E fr H (bare o) = opA E fr H o := by
  obtain ⟨dst, op, type, pos, after, guard⟩ := o
  rfl
theorem finR_bare (rec : Task → Option Out) (o : Oper) (fr : AFr) (H : AH) (r : Option R1) : finR rec (bare o) fr H r = finR rec o fr H r := rfl
theorem spcOf_bare (o : Oper) : spcOf (bare o) = spcOf o := rfl
theorem doSpc_bare (E : Env) (o : Oper) (fr : AFr) (H : AH) (s : Spc) : doSpc E (bare o) fr H s = doSpc E o fr H s := rfl

theorem opG_ok {E : Env} {ops : Array Oper} {o : Oper} {f : CK} (h : opG E ops o = some f) (rec : Task → Option Out) (fr : AFr) (H : AH) (k : AFr → AH → KO) : f rec fr H k = kk (doOpX E rec ops o fr H) k := by
  rw [withG_ok h (run := kk (doOpX E rec ops (bare o) fr H) k) fun f' hf => opD_ok hf rec ops fr H k]
  have hb : doOpX E rec ops (bare o) fr H = (match spcOf o with
      | none => finR rec o fr H (opA E fr H o)
      | some s => doSpc E o fr H s) := by
    unfold doOpX
    rw [spcOf_bare]
    cases spcOf o with
    | none => unfold doOp wantedA; simp only [opF_eq, opA_bare, finR_bare]; rfl
    | some s => unfold wantedA; rfl
  rw [hb]
  unfold doOpX
  cases hs : spcOf o with
  | none =>
    unfold doOp
    simp only [opF_eq]
    cases wantedA ops o fr with
    | none => rfl
    | some b => cases b <;> rfl
  | some s =>
    simp only
    cases wantedA ops o fr with
    | none => rfl
    | some b => cases b <;> rfl

theorem slowOp_eq (x : Option (AFr × AH)) (k : AFr → AH → KO) : slowOp x k = kk x k := by cases x <;> rfl
/-- one operation, by its own law or by the common one -/
def opX (E : Env) (ops : Array Oper) (o : Oper) : Option CK := match opG E ops o with
  | some f => some f
  | none => some fun rec fr H k => slowOp (doOpX E rec ops o fr H) k
theorem opX_ok {E : Env} {ops : Array Oper} {o : Oper} {f : CK} (h : opX E ops o = some f) (rec : Task → Option Out) (fr : AFr) (H : AH) (k : AFr → AH → KO) : f rec fr H k = kk (doOpX E rec ops o fr H) k := by
  unfold opX at h
  cases ho : opG E ops o with
  | some g =>
    rw [ho] at h
    simp only [Option.some.injEq] at h; subst h
    exact opG_ok ho rec fr H k
  | none =>
    rw [ho] at h
    simp only [Option.some.injEq] at h; subst h
    exact slowOp_eq _ k
/-- operations in a row, as one -/
def opsD (E : Env) (ops : Array Oper) : List Oper → Option CK
  | [] => some fun _ fr H k => k fr H
  | o :: l => match opX E ops o, opsD E ops l with
    | some f, some g => some fun rec fr H k => f rec fr H fun fr H => g rec fr H k
    | _, _ => none
theorem opsD_ok {E : Env} {ops : Array Oper} : ∀ {l : List Oper} {f : CK}, opsD E ops l = some f → ∀ (rec : Task → Option Out) (fr : AFr) (H : AH) (k : AFr → AH → KO), f rec fr H k = kk (doOps E rec ops l fr H) k
  | [], f, h, rec, fr, H, k => by
    simp only [opsD, Option.some.injEq] at h; subst h
    rfl
  | o :: l, f, h, rec, fr, H, k => by
    simp only [opsD] at h
    split at h
    case h_2 => simp at h
    rename_i f1 g1 hf hg
    simp only [Option.some.injEq] at h; subst h
    simp only [opX_ok hf, opsD_ok hg, doOps]
    cases doOpX E rec ops o fr H <;> rfl

/-! ### regions that draw -/
def qB (E : Env) (c : Nat) (o : Oper) : Option CK := match Nat.beq c 2 with
  | true => match o.op with
    | .alloc _ => opD E o
    | .box _ _ => opD E o
    | _ => none
  | false => match valD E o.op with
    | some _ => opD E o
    | none => none
def qD (E : Env) (ops : Array Oper) (x : Info) : Option CK := withG ops x.o (qB E x.c)

theorem valD_alloc {E : Env} {t : Nat} : valD E (.alloc t) = none := rfl

theorem qD_ok {E : Env} {ops : Array Oper} {x : Info} {f : CK} (h : qD E ops x = some f) (rec : Task → Option Out) (fr : AFr) (H : AH) (k : AFr → AH → KO) : f rec fr H k = kk (doQ E ops x fr H) k := by
  rw [withG_ok h (run := (match opA E fr H x.o with
      | some r => match r with
        | .pure v => match Nat.beq x.c 2 with
          | true => none
          | false => kk (fin x.o fr v H) k
        | .val v H' => match Nat.beq x.c 2 with
          | true => kk (fin x.o fr v H') k
          | false => none
        | _ => none
      | none => none)) ?_]
  · unfold doQ
    simp only [opF_eq]
    cases wantedA ops x.o fr with
    | none => rfl
    | some b =>
      cases b with
      | false => rfl
      | true =>
        simp only
        cases opA E fr H x.o with
        | none => rfl
        | some r =>
          cases r with
          | pure v => simp only; cases Nat.beq x.c 2 <;> rfl
          | val v H' => simp only [fH_eq]; cases Nat.beq x.c 2 <;> rfl
          | _ => rfl
  · intro f' hf
    unfold qB at hf
    have main : opD E (bare x.o) = some f' → f' rec fr H k = kk (doOpX E rec ops (bare x.o) fr H) k := fun h => opD_ok h rec ops fr H k
    split at hf
    · rename_i hc
      have val : ∀ (r : Option R1), opA E fr H x.o = r → (∀ y, r = some y → ∃ v H', y = .val v H') → opD E (bare x.o) = some f' → spcOf x.o = none → f' rec fr H k = (match opA E fr H x.o with
          | some r => match r with
            | .pure _ => none
            | .val v H' => kk (fin x.o fr v H') k
            | _ => none
          | none => none) := by
        intro r hr hv hd hs
        rw [main hd, doOpX_of (by rw [spcOf_bare]; exact hs) rfl, opA_bare, finR_bare, hr]
        cases r with
        | none => rfl
        | some y =>
          obtain ⟨v, H', rfl⟩ := hv y rfl
          simp only [finR, fH_eq]
      split at hf
      · rename_i t ho
        have ho' : x.o.op = .alloc t := ho
        refine val _ rfl (fun y hy => ?_) hf (by unfold spcOf; rw [ho'])
        unfold opA at hy
        rw [ho'] at hy
        simp only [op_alloc] at hy
        split at hy
        · split at hy
          · simp only [newCells, newO_eq, Option.some.injEq] at hy
            exact ⟨_, _, hy.symm⟩
          · simp at hy
        · simp at hy
      · rename_i t y' ho
        have ho' : x.o.op = .box t y' := ho
        refine val _ rfl (fun y hy => ?_) hf (by unfold spcOf; rw [ho'])
        unfold opA at hy
        rw [ho'] at hy
        simp only [op_box] at hy
        split at hy
        · split at hy
          · simp only [newCells, newO_eq, Option.some.injEq] at hy
            exact ⟨_, _, hy.symm⟩
          · simp at hy
        · simp at hy
      · simp at hf
    · rename_i hc
      split at hf
      case h_2 => simp at hf
      rename_i g hv
      obtain ⟨hs, y, hy, _⟩ := valD_ok hv (o := x.o) rfl fr H
      rw [main hf, doOpX_of (by rw [spcOf_bare]; exact hs) rfl, opA_bare, finR_bare, hy]
      cases y <;> rfl

def qX (E : Env) (ops : Array Oper) (x : Info) : Option CK := match qD E ops x with
  | some f => some f
  | none => some fun _ fr H k => slowOp (doQ E ops x fr H) k
theorem qX_ok {E : Env} {ops : Array Oper} {x : Info} {f : CK} (h : qX E ops x = some f) (rec : Task → Option Out) (fr : AFr) (H : AH) (k : AFr → AH → KO) : f rec fr H k = kk (doQ E ops x fr H) k := by
  unfold qX at h
  cases ho : qD E ops x with
  | some g =>
    rw [ho] at h
    simp only [Option.some.injEq] at h; subst h
    exact qD_ok ho rec fr H k
  | none =>
    rw [ho] at h
    simp only [Option.some.injEq] at h; subst h
    exact slowOp_eq _ k
def qsD (E : Env) (ops : Array Oper) : List Info → Option CK
  | [] => some fun _ fr H k => k fr H
  | x :: l => match qX E ops x, qsD E ops l with
    | some f, some g => some fun rec fr H k => f rec fr H fun fr H => g rec fr H k
    | _, _ => none
theorem qsD_ok {E : Env} {ops : Array Oper} : ∀ {l : List Info} {f : CK}, qsD E ops l = some f → ∀ (rec : Task → Option Out) (fr : AFr) (H : AH) (k : AFr → AH → KO), f rec fr H k = kk (runQ E ops l fr H) k
  | [], f, h, rec, fr, H, k => by
    simp only [qsD, Option.some.injEq] at h; subst h
    rfl
  | x :: l, f, h, rec, fr, H, k => by
    simp only [qsD] at h
    split at h
    case h_2 => simp at h
    rename_i f1 g1 hf hg
    simp only [Option.some.injEq] at h; subst h
    simp only [qX_ok hf, qsD_ok hg, runQ]
    cases doQ E ops x fr H <;> rfl

def beqB (a b : Bool) : Bool := Bool.rec (motive := fun _ => Bool) (Bool.rec (motive := fun _ => Bool) true false b) b a
/-- values held against each other, the plain ones at once -/
def eqR (v w : AV) : Bool := AV.casesOn (motive_1 := fun _ => Bool) v
  (fun a => AV.casesOn (motive_1 := fun _ => Bool) w (fun b => beqB a b) (fun _ _ => false) (fun _ _ => false) (fun _ _ _ _ => false) false (fun _ _ _ _ _ _ => false) false (fun _ => false) false (fun _ => false) false (fun _ _ _ => false) (fun _ => false) false (fun _ _ => false) false (fun _ => false) (fun _ => false))
  (fun s n => AV.casesOn (motive_1 := fun _ => Bool) w (fun _ => false) (fun s' m => andB (keq s s') (ieqR n m)) (fun _ _ => false) (fun _ _ _ _ => false) false (fun _ _ _ _ _ _ => false) false (fun _ => false) false (fun _ => false) false (fun _ _ _ => false) (fun _ => false) false (fun _ _ => false) false (fun _ => false) (fun _ => false))
  (fun n x => AV.casesOn (motive_1 := fun _ => Bool) w (fun _ => false) (fun _ _ => false) (fun m y => andB (Nat.beq n m) (Nat.beq x y)) (fun _ _ _ _ => false) false (fun _ _ _ _ _ _ => false) false (fun _ => false) false (fun _ => false) false (fun _ _ _ => false) (fun _ => false) false (fun _ _ => false) false (fun _ => false) (fun _ => false))
  (fun i u o r => AV.casesOn (motive_1 := fun _ => Bool) w (fun _ => false) (fun _ _ => false) (fun _ _ => false) (fun i' u' o' r' => andB (andB (andB (Nat.beq i i') (Nat.beq u u')) (Nat.beq o o')) (Nat.beq r r')) false (fun _ _ _ _ _ _ => false) false (fun _ => false) false (fun _ => false) false (fun _ _ _ => false) (fun _ => false) false (fun _ _ => false) false (fun _ => false) (fun _ => false))
  (eqAV v w) (fun _ _ _ _ _ _ => eqAV v w) (eqAV v w) (fun _ => eqAV v w) (eqAV v w) (fun _ => eqAV v w) (eqAV v w) (fun _ _ _ => eqAV v w) (fun _ => eqAV v w) (eqAV v w) (fun _ _ => eqAV v w) (eqAV v w) (fun _ => eqAV v w) (fun _ => eqAV v w)
theorem eqR_eq (v w : AV) : eqR v w = eqAV v w := by
  have ha : ∀ a b, andB a b = (a && b) := fun a b => by cases a <;> rfl
  have hb : ∀ a b, beqB a b = (a == b) := fun a b => by cases a <;> cases b <;> rfl
  cases v with
  | b a => cases w <;> simp [eqR, eqAV, hb]
  | i s n => cases w <;> simp [eqR, eqAV, ha, ieqR_eq]
  | s n x => cases w <;> simp [eqR, eqAV, ha]
  | p i u o r => cases w <;> simp [eqR, eqAV, ha]
  | _ => rfl

/-- what is read once more -/
def aD (E : Env) (x : Info) : Option (AFr → AH → KO → KO) := match x.o.dst, x.o.guard with
  | some d, none => match Nat.beq x.c 1, valD E x.o.op with
    | true, some g => some fun fr H k => getF d fr fun v => g fr H fun w => Bool.rec (motive := fun _ => KO) none k (eqR v w)
    | _, _ => none
  | _, _ => none
theorem aD_ok {E : Env} {ops : Array Oper} {x : Info} {f : AFr → AH → KO → KO} (h : aD E x = some f) (fr : AFr) (H : AH) (k : KO) : f fr H k = (match again E ops fr H x with | true => k | false => none) := by
  unfold aD at h
  split at h
  case h_2 => simp at h
  rename_i d hd hg
  split at h
  case h_2 => simp at h
  rename_i g hc hv
  simp only [Option.some.injEq] at h; subst h
  obtain ⟨hs, y, hy, hgk⟩ := valD_ok hv (o := x.o) rfl fr H
  simp only [getF_eq, hgk]
  unfold again wantedA
  simp only [hd, hg, opF_eq, hy]
  cases fr.get d with
  | none => rfl
  | some v =>
    cases y with
    | none => rfl
    | some w =>
      simp only [Option.bind_some, Option.map_some, hc, Bool.true_and, eqR_eq]
      cases eqAV v w <;> rfl

def asD (E : Env) (ops : Array Oper) : List Info → Option (AFr → AH → KO → KO)
  | [] => some fun _ _ k => k
  | x :: l => match asD E ops l with
    | none => none
    | some g => match aD E x with
      | some f => some fun fr H k => f fr H (g fr H k)
      | none => some fun fr H k => Bool.rec (motive := fun _ => KO) none (g fr H k) (again E ops fr H x)
theorem asD_ok {E : Env} {ops : Array Oper} : ∀ {l : List Info} {f : AFr → AH → KO → KO}, asD E ops l = some f → ∀ (fr : AFr) (H : AH) (k : KO), f fr H k = (match againAll E ops fr H l with | true => k | false => none)
  | [], f, h, fr, H, k => by
    simp only [asD, Option.some.injEq] at h; subst h
    rfl
  | x :: l, f, h, fr, H, k => by
    simp only [asD] at h
    split at h
    · simp at h
    rename_i g hg
    have ih := asD_ok hg fr H k
    simp only [againAll]
    split at h
    · rename_i f' ho
      simp only [Option.some.injEq] at h; subst h
      simp only [ih, aD_ok (ops := ops) ho]
      cases again E ops fr H x <;> rfl
    · simp only [Option.some.injEq] at h; subst h
      simp only [ih]
      cases again E ops fr H x <;> rfl

def effK (E : Env) (ops : Array Oper) (o : Oper) : Option CK := match opG E ops o, spcOf o with
  | some f, none => some f
  | _, _ => some fun rec fr H k => slowOp (doOp E rec ops o fr H) k
theorem effK_ok {E : Env} {ops : Array Oper} {o : Oper} {f : CK} (h : effK E ops o = some f) (rec : Task → Option Out) (fr : AFr) (H : AH) (k : AFr → AH → KO) : f rec fr H k = kk (doOp E rec ops o fr H) k := by
  unfold effK at h
  cases hf : opG E ops o with
  | none =>
    rw [hf] at h
    simp only [Option.some.injEq] at h; subst h
    exact slowOp_eq _ k
  | some g =>
    cases hs : spcOf o with
    | some s =>
      rw [hf, hs] at h
      simp only [Option.some.injEq] at h; subst h
      exact slowOp_eq _ k
    | none =>
      rw [hf, hs] at h
      simp only [Option.some.injEq] at h; subst h
      rw [opG_ok hf]
      unfold doOpX
      rw [hs]

def stD (E : Env) (ops : Array Oper) : List (List Info) → List (List Info) → List Info → Option CK
  | q :: qs, r :: rs, es => match qsD E ops q, asD E ops r with
    | some f, some g => match es with
      | [] => some fun rec fr H k => f rec fr H fun fr H => g fr H (k fr H)
      | e :: es => match effK E ops e.o, stD E ops qs rs es with
        | some h, some t => some fun rec fr H k => f rec fr H fun fr H => g fr H (h rec fr H fun fr H1 => Bool.rec (motive := fun _ => KO) none (t rec fr H1 k) (Nat.ble H.nx H1.nx))
        | _, _ => none
    | _, _ => none
  | _, _, _ => none
theorem stD_ok {E : Env} {ops : Array Oper} : ∀ {qs rs : List (List Info)} {es : List Info} {f : CK}, stD E ops qs rs es = some f → ∀ (rec : Task → Option Out) (fr : AFr) (H : AH) (k : AFr → AH → KO), f rec fr H k = kk (runSt E rec ops qs rs es fr H) k
  | q :: qs, r :: rs, es, f, h, rec, fr, H, k => by
    simp only [stD] at h
    split at h
    case h_2 => simp at h
    rename_i f1 g1 hf hg
    cases es with
    | nil =>
      simp only [Option.some.injEq] at h; subst h
      simp only [runSt, qsD_ok hf, asD_ok hg]
      cases runQ E ops q fr H with
      | none => rfl
      | some p =>
        obtain ⟨fr1, H1⟩ := p
        simp only [Option.bind_some]
        cases againAll E ops fr1 H1 r <;> rfl
    | cons e es =>
      simp only at h
      split at h
      case h_2 => simp at h
      rename_i h1 t1 hh ht
      simp only [Option.some.injEq] at h; subst h
      have ih : ∀ fr H, t1 rec fr H k = kk (runSt E rec ops qs rs es fr H) k := fun fr H => stD_ok ht rec fr H k
      simp only [runSt, qsD_ok hf, asD_ok hg, effK_ok hh, ih]
      cases runQ E ops q fr H with
      | none => rfl
      | some p =>
        obtain ⟨fr1, H1⟩ := p
        simp only [Option.bind_some]
        cases againAll E ops fr1 H1 r with
        | false => rfl
        | true =>
          simp only
          cases doOp E rec ops e.o fr1 H1 with
          | none => rfl
          | some p =>
            obtain ⟨fr2, H2⟩ := p
            simp only [Option.bind_some]
            cases Nat.ble H1.nx H2.nx <;> rfl
  | [], _, _, f, h, _, _, _, _ => by simp [stD] at h
  | _ :: _, [], _, f, h, _, _, _, _ => by simp [stD] at h

def grpK (E : Env) (rec : Task → Option Out) (ops : Array Oper) (p : Plan) (fr : AFr) (H : AH) (k : AFr → AH → KO) : KO := slowOp (match tgts E ops fr p.grp with
  | none => none
  | some _ => match runIs E rec ops p.grp fr H with
    | none => none
    | some (fr, H) => runQ E ops p.tail fr H) k
/-- a region that draws, as one -/
def drawD (E : Env) (ops : Array Oper) : Option CK := match planOf ops with
  | none => none
  | some p => match stD E ops p.qs p.re p.es with
    | none => none
    | some f => match p.grp with
      | [] => match qsD E ops p.tail with
        | some g => some fun rec fr H k => f rec fr H fun fr H => g rec fr H k
        | none => none
      | _ => some fun rec fr H k => f rec fr H fun fr H => grpK E rec ops p fr H k
theorem drawD_ok {E : Env} {ops : Array Oper} {f : CK} (h : drawD E ops = some f) (rec : Task → Option Out) (fr : AFr) (H : AH) (k : AFr → AH → KO) : f rec fr H k = kk (drawA E rec ops fr H) k := by
  unfold drawD at h
  unfold drawA
  cases hp : planOf ops with
  | none => rw [hp] at h; simp at h
  | some p =>
    rw [hp] at h
    simp only at h ⊢
    split at h
    · simp at h
    rename_i f1 hf
    split at h
    · rename_i hg
      split at h
      case h_2 => simp at h
      rename_i g1 hq
      simp only [Option.some.injEq] at h; subst h
      simp only [stD_ok hf, qsD_ok hq, hg]
      cases runSt E rec ops p.qs p.re p.es fr H with
      | none => rfl
      | some q => rfl
    · simp only [Option.some.injEq] at h; subst h
      simp only [stD_ok hf, grpK, slowOp_eq]
      cases runSt E rec ops p.qs p.re p.es fr H with
      | none => rfl
      | some q =>
        obtain ⟨fr1, H1⟩ := q
        simp only [Option.bind_some]
        cases tgts E ops fr1 p.grp with
        | none => rfl
        | some _ =>
          simp only
          cases runIs E rec ops p.grp fr1 H1 <;> rfl

end
end Go.Uf
end

/-
  Code and calls, written for the kernel.
-/
noncomputable section
namespace Go.Uf
noncomputable section

def seqK (k : AFr → AH → KO) (x : Option Out) : KO := Option.rec (motive := fun _ => (AFr → AH → KO) → KO) (fun _ => none) (fun out k => Out.rec (motive := fun _ => (AFr → AH → KO) → KO)
  (fun e fr H k => Ex.rec (motive := fun _ => AFr → AH → (AFr → AH → KO) → KO) (fun fr H k => k fr H) (fun id fr H _ => some (.code (.exit id) fr H)) (fun fr H _ => some (.code .ret fr H)) e fr H k) (fun v H _ => some (.ret v H)) out k) x k
def blockK (id : Nat) (x : Option Out) : KO := Option.rec (motive := fun _ => Nat → KO) (fun _ => none) (fun out id => Out.rec (motive := fun _ => Nat → KO)
  (fun e fr H id => Ex.rec (motive := fun _ => AFr → AH → Nat → KO) (fun fr H _ => some (.code .normal fr H)) (fun j fr H id => Bool.rec (motive := fun _ => KO) (some (.code (.exit j) fr H)) (some (.code .normal fr H)) (Nat.beq j id)) (fun fr H _ => some (.code .ret fr H)) e fr H id) (fun v H _ => some (.ret v H)) out id) x id
def doneK (fr : AFr) (H : AH) : KO := some (.code .normal fr H)
def regK (f : CK) (rec : Task → Option Out) (fr : AFr) (H : AH) : KO := AFr.rec (motive := fun _ => CK → (Task → Option Out) → AH → KO) (fun nt ex tm _ ms f rec H => f rec ⟨nt, ex, tm, [], ms⟩ H doneK) fr f rec H
/-- as it is, but found once -/
def once (f : CK) : Option CK := some f

abbrev DK := (Task → Option Out) → AFr → Option Nat → AH → KO
def dispF (E : Env) (c : Code) : Option DK := match c with
  | .skip => some fun _ fr _ H => some (.code .normal fr H)
  | .label _ => some fun _ fr _ H => some (.code .normal fr H)
  | .region _ ops draw => match draw with
    | false => match opsD E ops ops.toList with
      | none => none
      | some f => match noDfr ops with
        | true => some fun rec fr _ H => regK f rec fr H
        | false => some fun rec fr rnd H => Option.rec (motive := fun _ => KO) (regK f rec fr H) (fun _ => none) rnd
    | true => match drawD E ops with
      | some f => some fun rec fr _ H => regK f rec fr H
      | none => none
  | .seq a b => some fun rec fr rnd H => seqK (fun fr H => rec (.code b fr rnd H)) (rec (.code a fr rnd H))
  | .cond c a b => match evD E c with
    | some f => some fun rec fr rnd H => f fr (asB fun t => Bool.rec (motive := fun _ => KO) (rec (.code b fr rnd H)) (rec (.code a fr rnd H)) t)
    | none => none
  | .block id c => some fun rec fr rnd H => blockK id (rec (.code c fr rnd H))
  | .loop c => some fun rec fr rnd H => seqK (fun fr H => rec (.code (.loop c) fr rnd H)) (rec (.code c fr rnd H))
  | .exit id => some fun _ fr _ H => some (.code (.exit id) fr H)
  | .ret => some fun _ fr _ H => some (.code .ret fr H)
  | .rangeFunc f ps assign body => some fun rec fr rnd H => c_rangeFunc E rec f ps assign body fr rnd H
  | _ => none

theorem seqK_seq (rec : Task → Option Out) (b : Code) (rnd : Option Nat) (x : Option Out) : seqK (fun fr H => rec (.code b fr rnd H)) x = (match x with
    | some (.code .normal fr H) => rec (.code b fr rnd H)
    | r => r) := by
  cases x with
  | none => rfl
  | some out =>
    cases out with
    | code e fr H => cases e <;> rfl
    | ret v H => rfl

theorem regK_eq {E : Env} {ops : Array Oper} {f : CK} (hf : opsD E ops ops.toList = some f) (rec : Task → Option Out) (fr : AFr) (rnd : Option Nat) (H : AH) (h : mayRun rnd ops = true) : regK f rec fr H = c_region E rec ops false fr rnd H := by
  obtain ⟨nt, ex, tm, lo, ms⟩ := fr
  show f rec ⟨nt, ex, tm, [], ms⟩ H _ = _
  rw [opsD_ok hf]
  simp only [c_region, h]
  cases doOps E rec ops ops.toList ⟨nt, ex, tm, [], ms⟩ H <;> rfl
theorem regD_eq {E : Env} {ops : Array Oper} {f : CK} (hf : drawD E ops = some f) (rec : Task → Option Out) (fr : AFr) (rnd : Option Nat) (H : AH) : regK f rec fr H = c_region E rec ops true fr rnd H := by
  obtain ⟨nt, ex, tm, lo, ms⟩ := fr
  show f rec ⟨nt, ex, tm, [], ms⟩ H _ = _
  rw [drawD_ok hf]
  simp only [c_region]
  cases drawA E rec ops ⟨nt, ex, tm, [], ms⟩ H <;> rfl

theorem dispF_ok {E : Env} {c : Code} {f : DK} (h : dispF E c = some f) (rec : Task → Option Out) (fr : AFr) (rnd : Option Nat) (H : AH) : f rec fr rnd H = codeA E rec c fr rnd H := by
  unfold dispF at h
  cases c <;> simp only at h
  case skip => simp only [Option.some.injEq] at h; subst h; rfl
  case label l => simp only [Option.some.injEq] at h; subst h; rfl
  case region id ops draw =>
    split at h
    · split at h
      · simp at h
      rename_i f' hf
      split at h
      · rename_i hnd
        simp only [Option.some.injEq] at h; subst h
        exact regK_eq hf rec fr rnd H (by cases rnd <;> simp [mayRun, hnd])
      · rename_i hnd
        simp only [Option.some.injEq] at h; subst h
        cases rnd with
        | none => exact regK_eq hf rec fr none H rfl
        | some l =>
          show none = c_region E rec ops false fr (some l) H
          simp only [c_region, mayRun, hnd]
    · split at h
      · rename_i f' hf
        simp only [Option.some.injEq] at h; subst h
        exact regD_eq hf rec fr rnd H
      · simp at h
  case seq a b =>
    simp only [Option.some.injEq] at h; subst h
    exact seqK_seq rec b rnd _
  case cond c a b =>
    split at h
    · rename_i f' hf
      simp only [Option.some.injEq] at h; subst h
      simp only [evD_ok hf]
      show _ = c_cond E rec c a b fr rnd H
      unfold c_cond
      cases ev E fr c with
      | none => rfl
      | some v =>
        cases v with
        | b t => cases t <;> rfl
        | _ => rfl
    · simp at h
  case block id c =>
    simp only [Option.some.injEq] at h; subst h
    show blockK id (rec (.code c fr rnd H)) = c_block rec id c fr rnd H
    unfold c_block
    cases rec (.code c fr rnd H) with
    | none => rfl
    | some out =>
      cases out with
      | code e fr H =>
        cases e with
        | exit j =>
          show Bool.rec (motive := fun _ => KO) _ _ (Nat.beq j id) = _
          simp only
          cases Nat.beq j id <;> rfl
        | _ => rfl
      | ret v H => rfl
  case loop c =>
    simp only [Option.some.injEq] at h; subst h
    exact seqK_seq rec (.loop c) rnd _
  case exit id => simp only [Option.some.injEq] at h; subst h; rfl
  case ret => simp only [Option.some.injEq] at h; subst h; rfl
  case rangeFunc f ps x y => simp only [Option.some.injEq] at h; subst h; rfl
  all_goals (simp at h; done)

/-! ### calls -/
def layT {α : Type} : List α → T α → Nat → T α := List.rec (motive := fun _ => T α → Nat → T α) (fun t _ => t) (fun x _ ih t n => ih (t.set n x) (Nat.succ n))
theorem layT_eq {α : Type} : ∀ (l : List α) (t : T α) (n : Nat), layT l t n = T.lay t n l
  | [], t, n => rfl
  | x :: l, t, n => by
    show layT l (t.set n x) (Nat.succ n) = _
    rw [layT_eq l]
    rfl
def lenR {α : Type} : List α → Nat := List.rec (motive := fun _ => Nat) 0 (fun _ _ ih => Nat.succ ih)
theorem lenR_eq {α : Type} : ∀ l : List α, lenR l = l.length
  | [] => rfl
  | x :: l => by
    show Nat.succ (lenR l) = _
    rw [lenR_eq l]
    rfl
/-- how a function's results are told, found once -/
def resD (l : List ResultVar) : Option (AFr → AH → KO) := match l with
  | [] => some fun _ H => some (.ret (.tup []) H)
  | [.tmp t] => some fun fr H => getF t fr fun v => some (.ret v H)
  | _ => none
theorem resD_ok {E : Env} {fn : Func} {f : AFr → AH → KO} (h : resD fn.results.toList = some f) (fr : AFr) (H : AH) : f fr H = retV H (resultsA E fn fr H) := by
  unfold resD at h
  unfold resultsA
  split at h
  · rename_i hl
    simp only [Option.some.injEq] at h; subst h
    rw [hl]
    rfl
  · rename_i t hl
    simp only [Option.some.injEq] at h; subst h
    show getF t fr (fun v => some (Out.ret v H)) = _
    rw [hl, getF_eq]
    simp only [resA]
    cases fr.get t <;> rfl
  · simp at h
def endK (E : Env) (rec : Task → Option Out) (fn : Func) (fr : AFr) (H : AH) (f : AFr → AH → KO) : KO := AFr.rec (motive := fun _ => KO) (fun nt ex tm lo ms => List.rec (motive := fun _ => KO) (f ⟨nt, ex, tm, lo, []⟩ H) (fun d l _ => retS E rec fn ⟨nt, ex, tm, lo, d :: l⟩ H) ms) fr
def retK (E : Env) (rec : Task → Option Out) (fn : Func) (f : AFr → AH → KO) (x : Option Out) : KO := Option.rec (motive := fun _ => KO) none (fun out => Out.rec (motive := fun _ => KO)
  (fun e fr H => Ex.rec (motive := fun _ => KO) (endK E rec fn fr H f) (fun _ => none) (endK E rec fn fr H f) e) (fun _ _ => none) out) x
theorem endK_eq {E : Env} {rec : Task → Option Out} {fn : Func} {f : AFr → AH → KO} (h : resD fn.results.toList = some f) (fr : AFr) (H : AH) : endK E rec fn fr H f = retS E rec fn fr H := by
  obtain ⟨nt, ex, tm, lo, ms⟩ := fr
  cases ms with
  | nil =>
    show f ⟨nt, ex, tm, lo, []⟩ H = _
    rw [resD_ok (E := E) h]
    rfl
  | cons d l => rfl
theorem retK_eq {E : Env} {rec : Task → Option Out} {fn : Func} {f : AFr → AH → KO} (h : resD fn.results.toList = some f) (x : Option Out) : retK E rec fn f x = retA E rec fn x := by
  cases x with
  | none => rfl
  | some out =>
    cases out with
    | code e fr H =>
      cases e with
      | normal => exact endK_eq h fr H
      | ret => exact endK_eq h fr H
      | exit id => rfl
    | ret v H => rfl

/-- a function's call, found once -/
def callD (E : Env) (f : Nat) : Option ((Task → Option Out) → List AV → AH → KO) := match E.F.get f with
  | some fn => match fn.body, resD fn.results.toList with
    | some c, some r => fN fn.ntmps fun nt => fN (match E.X.get f with | some m => m | none => 2 ^ fn.ntmps - 1) fun ex => some fun rec args H =>
      Bool.rec (motive := fun _ => KO) none (T.rec (motive := fun _ => KO) (retK E rec fn r (rec (.code c ⟨nt, ex, .nil, [], []⟩ none H))) (fun a l r' _ _ => retK E rec fn r (rec (.code c ⟨nt, ex, .node a l r', [], []⟩ none H))) (layT args .nil 0)) (Nat.ble (lenR args) nt)
    | _, _ => none
  | none => none
theorem callD_ok {E : Env} {f : Nat} {g : (Task → Option Out) → List AV → AH → KO} (h : callD E f = some g) (rec : Task → Option Out) (args : List AV) (H : AH) : g rec args H = callN E rec f args H := by
  unfold callD at h
  unfold callN
  split at h
  case h_2 => simp at h
  rename_i fn hfn
  split at h
  case h_2 => simp at h
  rename_i c r hb hr
  simp only [fN_eq, Option.some.injEq] at h; subst h
  simp only [hfn, hb, lenR_eq, fT_eq]
  cases Nat.ble args.length fn.ntmps with
  | false => rfl
  | true =>
    simp only
    rw [layT_eq, show T.ofList args = T.lay .nil 0 args from rfl]
    cases T.lay .nil 0 args with
    | nil => exact retK_eq hr _
    | node a l r' => exact retK_eq hr _

def callQ (E : Env) (rec : Task → Option Out) (f : Nat) (args : List AV) (H : AH) : Option Out := Option.rec (motive := fun _ => KO) (callN E rec f args H) (fun g => g rec args H) (callD E f)
def memK (E : Env) (rec : Task → Option Out) (f : Nat) (args : List AV) (H : AH) (m : List AV → AH → Option (AV × AH)) : Option Out :=
  Option.rec (motive := fun _ => KO) (callQ E rec f args H) (fun p => fV p.1 fun v => fH p.2 fun H => some (.ret v H)) (m args H)
def memF (E : Env) (rec : Task → Option Out) (f : Nat) (args : List AV) (H : AH) : Option Out := Option.rec (motive := fun _ => KO) (callQ E rec f args H) (memK E rec f args H) (E.mem f)
theorem callK_eq (E : Env) (rec : Task → Option Out) (f : Nat) (args : List AV) (H : AH) : callQ E rec f args H = callN E rec f args H := by
  unfold callQ
  cases h : callD E f with
  | none => rfl
  | some g => exact callD_ok h rec args H

def stepF (E : Env) (rec : Task → Option Out) (t : Task) : Option Out := Task.rec (motive := fun _ => KO)
  (fun c fr rnd H => Option.rec (motive := fun _ => KO) (codeA E rec c fr rnd H) (fun f => f rec fr rnd H) (dispF E c))
  (fun f args H => Option.rec (motive := fun _ => KO) (memF E rec f args H) (fun r => fV (shV (r.sh H) r.v) fun v => fH (r.heap H) fun H => some (.ret v H)) (E.orc f args))
  (fun l args H => stepA E rec (.round l args H)) (fun f args H => stepA E rec (.dcall f args H)) t
theorem stepF_eq (E : Env) (rec : Task → Option Out) (t : Task) : stepF E rec t = stepA E rec t := by
  cases t with
  | code c fr rnd H =>
    show Option.rec (motive := fun _ => KO) (codeA E rec c fr rnd H) (fun f => f rec fr rnd H) (dispF E c) = codeF E rec c fr rnd H
    rw [codeF_eq]
    cases h : dispF E c with
    | none => rfl
    | some f => exact dispF_ok h rec fr rnd H
  | call f args H =>
    show Option.rec (motive := fun _ => KO) (memF E rec f args H) _ (E.orc f args) = _
    simp only [stepA]
    cases E.orc f args with
    | some r => simp only [fV_eq, fH_eq]
    | none =>
      simp only [memF]
      cases hm : E.mem f with
      | none => exact callK_eq E rec f args H
      | some m =>
        simp only [memK]
        cases hp : m args H with
        | none => exact callK_eq E rec f args H
        | some p => simp only [fV_eq, fH_eq]
  | round l args H => rfl
  | dcall f args H => rfl

/-- n deep at most -/
def runF (E : Env) (n : Nat) : Task → Option Out := Nat.rec (motive := fun _ => Task → Option Out) (fun _ => none) (fun _ ih => stepF E ih) n
theorem runF_eq (E : Env) (n : Nat) : runF E n = runA E n := by
  induction n with
  | zero => rfl
  | succ n ih =>
    funext t
    show stepF E (runF E n) t = stepA E (runA E n) t
    rw [ih, stepF_eq]

end
end Go.Uf
end

/-
  Operations that lay one new object: what they lay.
-/
noncomputable section
namespace Go.Uf
open Go.RowKit (Below)

variable {E : Env} {P : Program} {B0 : Nat} {φ : Phi} {H : AH} {w : World} {fr : AFr} {a : Act}

/-- a new block holds a new object -/
def NewOk (B0 : Nat) (φ : Phi) (w : World) (b : Obj) (Q : Pl) (o : AO) : Prop :=
  Q.B = w.heap.size ∧ (Q.d ≤ Q.s ∧ Q.b + (Q.s - Q.d) ≤ Q.l) ∧ Q.b = 0 ∧ ∀ χ : Phi, φ.sub χ → OR B0 χ { w with heap := w.heap.push b } 0 Q o

def NR (B0 : Nat) (φ : Phi) (H : AH) (w : World) (v : AV) (H' : AH) (r : Result Next) : Prop :=
  ∃ o b Q u, H' = H.new o ∧ r = .ok (.value u) { w with heap := w.heap.push b } ∧ NewOk B0 φ w b Q o ∧ (∀ (χ : Phi) (n : Nat), χ n 0 = some Q → VR χ (reid n v) u) ∧ idOf v = H.nx ∧ reid H.nx v = v

theorem NewOk.cells (hR : HR E B0 φ H w) (t : TypeId) {l : List AV} {arr : Array Value} (hl : allOne l = true) (hv : VRs φ l (arr.toList.take l.length)) :
    NewOk B0 φ w (.cells arr t (0, 0)) ⟨w.heap.size, 0, 0, l.length, arr.size⟩ (.cells t 0 0 0 l.length (T.ofList l)) := by
  have hsz : l.length ≤ arr.size := by have := VRs.length hv; simp at this; omega
  refine ⟨rfl, ⟨Nat.zero_le _, by simpa using hsz⟩, rfl, fun χ hs => ?_⟩
  refine ⟨Nat.le_refl _, Nat.le_refl _, fun _ => ⟨arr, (0, 0), by simp, Nat.zero_le _, Nat.le_refl _, fun _ => rfl, by simpa using hsz, Nat.le_refl _, ?_, fun _ => hR.low, fun _ j _ hj => by simp [unfrozen], fun h _ => absurd h (by omega)⟩⟩
  intro k _ hk
  simp only at hk
  obtain ⟨x, hx⟩ : ∃ x, l[k]? = some x := ⟨l[k], List.getElem?_eq_getElem hk⟩
  obtain ⟨v, hv1, hv2⟩ := VRs.get hv hx
  refine ⟨x, v, by rw [T.get_ofList]; exact hx, ?_, VR.sub hs _ _ hv2, allOne_mem hl x (List.mem_of_getElem? hx)⟩
  rw [List.getElem?_take] at hv1
  rw [if_pos hk] at hv1
  simpa using hv1

theorem alloc_new (hE : E.Ok P) (hR : HR E B0 φ H w) {o : Oper} {t : Nat} (ho : o.op = .alloc t) {v0 : AV} {H0 : AH} (h : op_alloc E fr H t = some (.val v0 H0)) :
    NR B0 φ H w v0 H0 ((execOp a.eval o).run P w) := by
  unfold op_alloc at h
  split at h
  case h_2 => simp at h
  rename_i z hz
  split at h
  case h_2 => simp at h
  rename_i h1
  simp only [newCells, newO_eq, Option.some.injEq, R1.val.injEq] at h
  obtain ⟨rfl, rfl⟩ := h
  obtain ⟨v, hv, hzv⟩ := zero_ok hE hz
  have hc := cells_ok (hzv φ)
  have hN := NewOk.cells hR t (arr := v.cells) h1 (by rw [List.take_of_length_le (by have := VRs.length hc; omega)]; exact hc)
  refine ⟨_, _, _, .pointer (some ⟨w.heap.size, 0, none⟩), rfl, ?_, hN, fun χ n hχ => ?_, rfl, rfl⟩
  · unfold execOp; rw [ho]
    simp [Instr.alloc, hv, newVar, newRow]
  · simp only [reid, VR]
    exact ⟨_, hχ, by simp, by simp, by simp⟩

theorem box_new (hR : HR E B0 φ H w) (hF : FT φ fr a.tmps) {o : Oper} {t : Nat} {x : Operand} (ho : o.op = .box t x) {v0 : AV} {H0 : AH} (h : op_box E fr H t x = some (.val v0 H0)) :
    NR B0 φ H w v0 H0 ((execOp a.eval o).run P w) := by
  unfold op_box at h
  split at h
  case h_2 => simp at h
  rename_i v hv
  split at h
  case h_2 => simp at h
  rename_i h1
  simp only [newCells, newO_eq, Option.some.injEq, R1.val.injEq] at h
  obtain ⟨rfl, rfl⟩ := h
  have hc := cells_ok (ev_ok hR hF hv)
  have hN := NewOk.cells hR t (arr := (a.eval x).cells) h1 (by rw [List.take_of_length_le (by have := VRs.length hc; omega)]; exact hc)
  refine ⟨_, _, _, .pointer (some ⟨w.heap.size, 0, none⟩), rfl, ?_, hN, fun χ n hχ => ?_, rfl, rfl⟩
  · unfold execOp; rw [ho]
    simp [Instr.box, newVar, newRow]
  · simp only [reid, VR]
    exact ⟨_, hχ, by simp, by simp, by simp⟩

theorem makeMap_new (hE : E.Ok P) (hR : HR E B0 φ H w) (hF : FT φ fr a.tmps) {o : Oper} {t : Nat} {x : Option Operand} (ho : o.op = .makeMap t x) {v0 : AV} {H0 : AH} (h : op_makeMap E fr H t x = some (.val v0 H0)) :
    NR B0 φ H w v0 H0 ((execOp a.eval o).run P w) := by
  have fin : NR B0 φ H w (.m H.nx) (H.new (.map [] 0)) (.ok (.value (.map (some w.heap.size))) { w with heap := w.heap.push (.map #[] 0) }) :=
    ⟨_, _, ⟨w.heap.size, 0, 0, 0, 0⟩, _, rfl, rfl, ⟨rfl, ⟨Nat.le_refl _, Nat.le_refl _⟩, rfl, fun χ _ => ⟨rfl, hR.low, #[], by simp, rfl⟩⟩, fun χ n hχ => by simp only [reid, VR]; exact ⟨_, hχ, rfl⟩, rfl, rfl⟩
  unfold op_makeMap at h
  split at h
  · rename_i hx
    simp only [newO_eq, Option.some.injEq, R1.val.injEq] at h
    obtain ⟨rfl, rfl⟩ := h
    have : x = none := by
      cases x with
      | none => rfl
      | some y =>
        simp only [evo] at hx
        split at hx <;> simp at hx
    subst this
    unfold execOp; rw [ho]
    simpa [Instr.makeMap] using fin
  · rename_i k n key elem hx hd
    simp only [newO_eq, Option.some.injEq, R1.val.injEq] at h
    obtain ⟨rfl, rfl⟩ := h
    cases x with
    | none => simp [evo] at hx
    | some y =>
      simp only [evo] at hx
      split at hx
      · simp at hx
      · rename_i v hv
        simp only [Option.some.injEq] at hx
        subst hx
        have := ev_ok hR hF hv
        simp only [VR] at this
        unfold execOp; rw [ho]
        simpa [Instr.makeMap, this, run_underlying_of (desc_ok hE hd), asInt, asIntOf] using fin
  · simp at h

theorem buildSlice_new (hE : E.Ok P) (hR : HR E B0 φ H w) (hF : FT φ fr a.tmps) {o : Oper} {t n : Nat} {ps : Array (Nat × Operand)} (ho : o.op = .buildSlice t n ps) {v0 : AV} {H0 : AH} (h : op_buildSlice E fr H t n ps = some (.val v0 H0)) :
    NR B0 φ H w v0 H0 ((execOp a.eval o).run P w) := by
  unfold op_buildSlice at h
  split at h
  case h_2 => simp at h
  rename_i l hl
  obtain ⟨v, H', hv, hvh⟩ := oP_some h
  simp only [R1.val.injEq] at hvh
  obtain ⟨rfl, rfl⟩ := hvh
  have hps := evps_ok hR hF hl
  have hmap : (ps.map fun x => match x with | (i, x) => (i, a.eval x)).toList = ps.toList.map fun x => (x.1, a.eval x.2) := by simp
  unfold buildSl at hv
  split at hv
  case h_2 => simp at hv
  rename_i e ht
  split at hv
  case h_2 => simp at hv
  rename_i z zv hz hzv
  split at hv
  case h_2 => simp at hv
  rename_i hb
  simp only [Bool.and_eq_true, Nat.ble_eq, Nat.beq_eq] at hb
  split at hv
  case h_2 => simp at hv
  rename_i l' hl'
  split at hv
  case h_2 => simp at hv
  rename_i h1
  simp only [newCells, newO_eq, Option.some.injEq, Prod.mk.injEq] at hv
  obtain ⟨rfl, rfl⟩ := hv
  obtain ⟨zu, hzr, hzu⟩ := zero_ok hE hzv
  have hlen : l'.length = n * (z + 1) := by rw [fillA_length hl', rep_length, hb.2]
  have hne : ¬ n * (z + 1) > 2 ^ 24 := by omega
  have main : ∀ cs : Array Value, VRs φ (rep zv.cells n) cs.toList →
      ∃ cells', Instr.fill (fun i => some (i * (z + 1), z + 1)) cs (ps.map fun x => match x with | (i, x) => (i, a.eval x)).toList = some cells' ∧
        NR B0 φ H w (.sl H.nx 0 0 n (z + 1) (some n)) (H.new (.cells e 0 0 0 l'.length (T.ofList l'))) (.ok (.value (.slice (some ⟨w.heap.size, 0, none⟩) n n)) { w with heap := w.heap.push (.cells cells' e (0, 0)) }) := by
    intro cs hcs
    obtain ⟨cells', f1, f2⟩ := fill_ok (pc := fun i => some (i * (z + 1), z + 1)) (fun i q e => e) hcs hps hl'
    have hl2 := VRs.length f2
    rw [Array.length_toList] at hl2
    have hN := NewOk.cells hR e (arr := cells') h1 (by rw [List.take_of_length_le (by simp; omega)]; exact f2)
    refine ⟨cells', by rw [hmap]; exact f1, _, _, _, _, rfl, rfl, hN, fun χ n' hq => ?_, rfl, rfl⟩
    simp only [reid, VR]
    exact ⟨_, _, _, hq, by simp, by simp; omega, rfl, fun _ => by simp, Nat.le_refl _, by simp; omega, fun k hk => by cases hk; rfl, by omega⟩
  unfold execOp; rw [ho]
  simp only [Instr.buildSlice, Sem.run_bind, run_underlying_of (desc_ok hE ht), Result.andThen_ok, run_sizeOf_of hE hz, hne, if_false]
  by_cases hn : n = 0
  · subst hn
    obtain ⟨cells', f1, f2⟩ := main #[] (by simp [rep]; exact VRs.nil)
    simp only [Nat.zero_mul, if_true, Sem.run_bind, Sem.run_pure, Result.andThen_ok, Array.range_zero', Array.map_empty, f1, newRow, run_newObj]
    exact f2
  · obtain ⟨cells', f1, f2⟩ := main _ (rep_ok (n := n) (cells_ok (hzu φ)) hb.2 (by omega))
    have h0 : ¬ n * (z + 1) = 0 := by
      have : 0 < n * (z + 1) := Nat.mul_pos (by omega) (by omega)
      omega
    simp only [h0, if_false, Sem.run_bind, hzr, Sem.run_pure, Result.andThen_ok, f1, newRow, run_newObj]
    exact f2

theorem makeSlice_new (hE : E.Ok P) (hR : HR E B0 φ H w) (hF : FT φ fr a.tmps) {o : Oper} {t : Nat} {l c : Operand} (ho : o.op = .makeSlice t l c) {v0 : AV} {H0 : AH} (h : op_makeSlice E fr H t l c = some (.val v0 H0)) :
    NR B0 φ H w v0 H0 ((execOp a.eval o).run P w) := by
  unfold op_makeSlice at h
  split at h
  case h_2 => simp at h
  rename_i lv cv hl hc
  obtain ⟨v, H', hv, hvh⟩ := oP_some h
  simp only [R1.val.injEq] at hvh
  obtain ⟨rfl, rfl⟩ := hvh
  unfold makeSl at hv
  split at hv
  case h_2 => simp at hv
  rename_i e k1 n k2 m ht
  split at hv
  case h_2 => simp at hv
  rename_i z zv inf hz hzv hinf
  split at hv
  case h_2 => simp at hv
  rename_i hb
  simp only [Bool.and_eq_true, Nat.ble_eq, Nat.beq_eq] at hb
  obtain ⟨⟨⟨⟨hnm, hm⟩, hby⟩, hlen⟩, h1⟩ := hb
  simp only [newCells, newO_eq, Option.some.injEq, Prod.mk.injEq] at hv
  obtain ⟨rfl, rfl⟩ := hv
  obtain ⟨zu, hzr, hzu⟩ := zero_ok hE hzv
  have hlv := ev_ok hR hF hl
  have hcv := ev_ok hR hF hc
  simp only [VR, Int.ofNat_eq_natCast] at hlv hcv
  have hone : ∀ k, allOne (rep zv.cells k) = true := by
    intro k
    induction k with
    | zero => rfl
    | succ k ih => rw [rep]; exact allOne_append h1 ih
  have main : ∀ cs : Array Value, VRs φ (rep zv.cells m) cs.toList →
      NR B0 φ H w (.sl H.nx 0 0 n (z + 1) (some m)) (H.new (.cells e 0 0 0 (rep zv.cells m).length (T.ofList (rep zv.cells m)))) (.ok (.value (.slice (some ⟨w.heap.size, 0, none⟩) n m)) { w with heap := w.heap.push (.cells cs e (0, 0)) }) := by
    intro cs hcs
    have hl2 := VRs.length hcs
    rw [Array.length_toList] at hl2
    have hl3 := rep_length zv.cells m
    rw [hlen] at hl3
    have hN := NewOk.cells hR e (arr := cs) (hone m) (by rw [List.take_of_length_le (by simp; omega)]; exact hcs)
    refine ⟨_, _, _, _, rfl, rfl, hN, fun χ n' hq => ?_, rfl, rfl⟩
    simp only [reid, VR]
    have : n * (z + 1) ≤ m * (z + 1) := Nat.mul_le_mul_right _ hnm
    exact ⟨_, _, _, hq, by simp, by simp; omega, rfl, fun _ => by simp, hnm, by simp; omega, fun k hk => by cases hk; rfl, by omega⟩
  unfold execOp; rw [ho]
  have w1 : IntKind.i64.wrap (n : Int) = n := IntWalk.i64_in _ (by omega)
  have w2 : IntKind.i64.wrap (m : Int) = m := IntWalk.i64_in _ (by omega)
  have tl : (decide ((m : Int) < 0) || decide (((inf.bytes : Nat) : Int) * (m : Int) > 2 ^ 48)) = false := by
    have : ((inf.bytes * m : Nat) : Int) ≤ ((140737488355328 : Nat) : Int) := Int.ofNat_le.2 hby
    rw [Int.natCast_mul] at this
    have e48 : (2 : Int) ^ 48 = 281474976710656 := by decide
    rw [e48]
    simp only [Bool.or_eq_false_iff, decide_eq_false_iff_not]
    omega
  have ti : (typeInfo e).run P w = .ok inf w := run_typeInfo_of (hE.infos e inf hinf)
  have g1 : decide ((n : Int) < 0) = false := by simp
  have g2 : decide ((n : Int) > (m : Int)) = false := by simp; omega
  simp only [Instr.makeSlice, Sem.run_bind, run_underlying_of (desc_ok hE ht), Result.andThen_ok, asInt, asIntOf, hlv, hcv, Sem.run_pure, ti, w1, w2, tl, g1, g2, Bool.or_self, Bool.false_eq_true, if_false, run_askRoom, run_sizeOf_of hE hz, Int.toNat_natCast]
  by_cases hn : m = 0
  · subst hn
    have := main #[] (by simp [rep]; exact VRs.nil)
    simp only [Nat.zero_mul, if_true, Sem.run_bind, Sem.run_pure, Result.andThen_ok, Array.range_zero', Array.map_empty, newRow, run_newObj]
    exact this
  · have := main _ (rep_ok (n := m) (cells_ok (hzu φ)) hlen (by omega))
    have h0 : ¬ m * (z + 1) = 0 := by
      have : 0 < m * (z + 1) := Nat.mul_pos (by omega) (by omega)
      omega
    simp only [h0, if_false, Sem.run_bind, hzr, Sem.run_pure, Result.andThen_ok, newRow, run_newObj]
    exact this


end Go.Uf
end

/-
  Objects laid in another order; values that are said to be equal.
-/
noncomputable section
namespace Go.Uf
open Go.RowKit (Below)

variable {E : Env} {P : Program} {B0 : Nat} {φ : Phi} {H G : AH} {w : World} {fr : AFr} {a : Act}

mutual
theorem eqAV_eq : ∀ {x y : AV}, eqAV x y = true → x = y := by
  intro x y h
  cases x <;> cases y <;> (try (simp [eqAV] at h; done))
  case b.b => simp only [eqAV, beq_iff_eq] at h; rw [h]
  case i.i => 
    simp only [eqAV, Bool.and_eq_true] at h
    rw [(keq_eq _ _).1 h.1]
    have := h.2
    rw [ieq_eq] at this
    simp only [decide_eq_true_eq, beq_iff_eq] at this
    rw [this]
  case s.s =>
    simp only [eqAV, Bool.and_eq_true, Nat.beq_eq] at h
    rw [h.1, h.2]
  case p.p =>
    simp only [eqAV, Bool.and_eq_true, Nat.beq_eq] at h
    obtain ⟨⟨⟨h1, h2⟩, h3⟩, h4⟩ := h
    rw [h1, h2, h3, h4]
  case np.np => rfl
  case sl.sl i u o n e c i' u' o' n' e' c' =>
    simp only [eqAV, Bool.and_eq_true, Nat.beq_eq] at h
    obtain ⟨⟨⟨⟨⟨h1, h2⟩, h3⟩, h4⟩, h5⟩, h6⟩ := h
    have : c = c' := by
      cases c <;> cases c' <;> first | rfl | (simp at h6; done) | (simp only [Nat.beq_eq] at h6; rw [h6])
    rw [h1, h2, h3, h4, h5, this]
  case nsl.nsl => rfl
  case m.m => simp only [eqAV, Nat.beq_eq] at h; rw [h]
  case nm.nm => rfl
  case nfn.nfn => rfl
  case ni.ni => rfl
  case yl.yl => simp only [eqAV, Nat.beq_eq] at h; rw [h]
  case ifc.ifc =>
    simp only [eqAV, Bool.and_eq_true, Nat.beq_eq] at h
    rw [h.1, eqAV_eq h.2]
  case fn.fn f l c f' l' c' =>
    cases f <;> cases f' <;> (try (simp [eqAV] at h; done))
    simp only [eqAV, Bool.and_eq_true, Nat.beq_eq] at h
    obtain ⟨⟨h1, h2⟩, h3⟩ := h
    rw [h1, eqAVs_eq h2, eqAVs_eq h3]
  case agg.agg => simp only [eqAV] at h; rw [eqAVs_eq h]
  case tup.tup => simp only [eqAV] at h; rw [eqAVs_eq h]
theorem eqAVs_eq : ∀ {l k : List AV}, eqAVs l k = true → l = k := by
  intro l k h
  cases l <;> cases k <;> (try (simp [eqAVs] at h; done))
  · rfl
  · simp only [eqAVs, Bool.and_eq_true] at h
    rw [eqAV_eq h.1, eqAVs_eq h.2]
end

theorem eqN_get {c c' : T AV} : ∀ {n : Nat}, eqN c c' n = true → ∀ k, k < n → ∃ x, c.get k = some x ∧ c'.get k = some x
  | 0, _, k, hk => by omega
  | n + 1, h, k, hk => by
    simp only [eqN, Bool.and_eq_true] at h
    obtain ⟨h1, h2⟩ := h
    by_cases e : k = n
    · subst e
      split at h1
      · rename_i x y hx hy
        exact ⟨x, hx, by rw [hy, eqAV_eq h1]⟩
      · simp at h1
    · exact eqN_get h2 k (by omega)

/-- an object that is as another reads as that -/
theorem eqAO_or {o o' : AO} (h : eqAO (some o) (some o') = true) {u : Nat} {Q : Pl} (k : OR B0 φ w u Q o) : OR B0 φ w u Q o' := by
  cases o <;> cases o' <;> (try (simp [eqAO] at h; done))
  case cells.cells t top wv fl sz c t' top' wv' fl' sz' c' =>
    simp only [eqAO, Bool.and_eq_true, Nat.beq_eq] at h
    obtain ⟨⟨⟨⟨⟨rfl, rfl⟩, rfl⟩, rfl⟩, rfl⟩, h6⟩ := h
    obtain ⟨k1, k2, k3⟩ := k
    refine ⟨k1, k2, fun hw => ?_⟩
    obtain ⟨arr, fz, a1, a2, a3, a4, a5, a6, a7, a8, a9, a10⟩ := k3 hw
    refine ⟨arr, fz, a1, a2, a3, a4, a5, a6, fun j hj hj' => ?_, a8, a9, a10⟩
    obtain ⟨x, v, e1, e2, e3, e4⟩ := a7 j hj hj'
    obtain ⟨y, f1, f2⟩ := eqN_get h6 j (by omega)
    rw [f1] at e1
    cases e1
    exact ⟨x, v, f2, e2, e3, e4⟩
  case map.map es c es' c' =>
    cases es <;> cases es' <;> (try (simp [eqAO] at h; done))
    simp only [eqAO, Nat.beq_eq] at h
    subst h
    exact k

/-- an object that the heap has already gets its block -/
theorem HR.newAt (hR : HR E B0 φ G w) {id : Nat} {o : AO} {b : Obj} {Q : Pl} (hid : id < G.nx) (hg : G.get id = some o) (hn : ∀ u, φ id u = Option.none) (hN : NewOk B0 φ w b Q o) (R' : Nat → Prop) (hR' : ∀ i, R' i → φ.R i) (hid' : ¬ R' id) :
    φ.sub ⟨(φ.ext id 0 Q).f, R'⟩ ∧ HR E B0 ⟨(φ.ext id 0 Q).f, R'⟩ G { w with heap := w.heap.push b } ∧ Below B0 w { w with heap := w.heap.push b } := by
  obtain ⟨hQB, hQl, hQb, hor⟩ := hN
  have hsub : φ.sub ⟨(φ.ext id 0 Q).f, R'⟩ := fun j v T e => (Phi.le_ext (P := Q) (hn 0)).app j v T e
  have inv : ∀ j v T, (φ.ext id 0 Q).f j v = some T → (j = id ∧ v = 0 ∧ T = Q) ∨ (j ≠ id ∧ φ j v = some T) := by
    intro j v T e
    by_cases c : j = id ∧ v = 0
    · left; refine ⟨c.1, c.2, ?_⟩
      simp [Phi.ext, c] at e; exact e.symm
    · right
      have e' : φ j v = some T := by simpa [Phi.ext, c] using e
      exact ⟨fun x => (by subst x; rw [hn] at e'; exact absurd e' (by simp)), e'⟩
  have hbel : Below B0 w { w with heap := w.heap.push b } := by
    refine ⟨rfl, rfl, rfl, by simp, fun k hk => ?_⟩
    show (w.heap.push b)[k]? = _
    have := hR.low
    rw [Array.getElem?_push, if_neg (by omega)]
  refine ⟨hsub, ⟨fun u h => hR.inv u ((Grown.of_below hbel).trans h), ?_, ?_, ?_, ?_, ?_, ?_, ?_, ?_, ?_, ?_⟩, hbel⟩
  · have := hR.low; simp; omega
  · intro j v T e
    rcases inv j v T e with ⟨rfl, rfl, rfl⟩ | ⟨hj, e⟩
    · exact ⟨hid, by simp [hQB]⟩
    · have := hR.dom j v T e; simp; omega
  · intro j hj
    obtain ⟨r1, r2⟩ := hR.res j (hR' j hj)
    refine ⟨r1, fun v => ?_⟩
    have : ¬ j = id := fun e => hid' (by rw [← e]; exact hj)
    show (φ.ext id 0 Q).f j v = Option.none
    simpa [Phi.ext, this] using r2 v
  · intro j v T e
    rcases inv j v T e with ⟨rfl, rfl, rfl⟩ | ⟨hj, e⟩
    · exact hQl
    · exact hR.pl j v T e
  · intro j v T e
    rcases inv j v T e with ⟨rfl, rfl, rfl⟩ | ⟨hj, e⟩
    · exact fun _ => hQb
    · exact hR.pb j v T e
  · exact hR.fresh
  · intro j v T o2 e hg2
    rcases inv j v T e with ⟨rfl, rfl, rfl⟩ | ⟨hj, e⟩
    · rw [hg] at hg2; cases hg2
      exact hor _ hsub
    · refine ((hR.obj j v T o2 e hg2).sub hsub).of_block ?_
      have := (hR.dom j v T e).2
      show (w.heap.push b)[T.B]? = _
      rw [Array.getElem?_push, if_neg (by omega)]
  · intro j k v1 v2 Q1 Q2 e1 e2 hne hB
    rcases inv j v1 Q1 e1 with ⟨rfl, rfl, rfl⟩ | ⟨hj, f1⟩
    · rcases inv k v2 Q2 e2 with ⟨rfl, rfl, rfl⟩ | ⟨hk, f2⟩
      · exact absurd rfl hne
      · have := (hR.dom k v2 Q2 f2).2; omega
    · rcases inv k v2 Q2 e2 with ⟨rfl, rfl, rfl⟩ | ⟨hk, f2⟩
      · have := (hR.dom j v1 Q1 f1).2; omega
      · exact hR.sep j k v1 v2 Q1 Q2 f1 f2 hne hB
  · intro j v1 v2 Q1 Q2 t top wv fl sz c hg' hw hv e1 e2 hB
    rcases inv j v1 Q1 e1 with ⟨rfl, rfl, rfl⟩ | ⟨hj, f1⟩
    · rcases inv _ v2 Q2 e2 with ⟨_, rfl, rfl⟩ | ⟨hk, f2⟩
      · exact ⟨rfl, rfl, rfl, Nat.le_refl _⟩
      · exact absurd rfl hk
    · rcases inv _ v2 Q2 e2 with ⟨rfl, rfl, rfl⟩ | ⟨hk, f2⟩
      · exact absurd rfl hj
      · exact hR.same j v1 v2 Q1 Q2 t top wv fl sz c hg' hw hv f1 f2 hB
  · intro g s hgs
    obtain ⟨T, e, r⟩ := hR.glo g s hgs
    exact ⟨T, hsub _ _ _ e, r⟩

/-- the heap has more objects, whose ids are kept free -/
theorem HR.widen (hR : HR E B0 φ H w) (hnx : H.nx ≤ G.nx) (hget : ∀ i, i < H.nx → G.get i = H.get i) (hfr : ∀ i, G.nx ≤ i → G.get i = Option.none) (R' : Nat → Prop)
    (h1 : ∀ i, R' i → φ.R i ∨ (H.nx ≤ i ∧ i < G.nx)) : HR E B0 ⟨φ.f, R'⟩ G w where
  inv := hR.inv
  low := hR.low
  dom i u Q e := by have := hR.dom i u Q e; exact ⟨by omega, this.2⟩
  res i hi := by
    rcases h1 i hi with h | ⟨h, h'⟩
    · have := hR.res i h; exact ⟨by omega, this.2⟩
    · exact ⟨h', fun u => hR.none h u⟩
  pl := hR.pl
  pb := hR.pb
  fresh := hfr
  obj i u Q o e hg := by
    rw [hget i (hR.dom i u Q e).1] at hg
    exact OR.sub (φ := φ) (ψ := ⟨φ.f, R'⟩) (fun _ _ _ h => h) (hR.obj i u Q o e hg)
  sep := hR.sep
  same i u v Q1 Q2 t top wv fl sz c hg hw hv e1 e2 hB := by
    rw [hget i (hR.dom i u Q1 e1).1] at hg
    exact hR.same i u v Q1 Q2 t top wv fl sz c hg hw hv e1 e2 hB
  glo := hR.glo

end Go.Uf
end

/-
  An operation looks at its operands' temporaries alone.
-/
noncomputable section
namespace Go.Uf
open Go.RowKit (Below)

variable {E : Env} {P : Program} {B0 : Nat} {φ : Phi} {H : AH} {w : World} {fr gr : AFr} {a : Act}

def Agree (fr gr : AFr) (l : List Operand) : Prop := ∀ t, Operand.tmp t ∈ l → fr.get t = gr.get t

theorem ev_congr {x : Operand} {l : List Operand} (h : Agree fr gr l) (hx : x ∈ l) : ev E fr x = ev E gr x := by
  cases x with
  | tmp t => exact h t hx
  | _ => rfl

theorem evs_congr {l : List Operand} (h : Agree fr gr l) : ∀ {k : List Operand}, (∀ x ∈ k, x ∈ l) → evs E fr k = evs E gr k
  | [], _ => rfl
  | x :: k, hk => by
    simp only [evs]
    rw [ev_congr h (hk x (by simp)), evs_congr h (k := k) (fun y hy => hk y (List.mem_cons_of_mem _ hy))]

theorem evo_congr {l : List Operand} (h : Agree fr gr l) {x : Option Operand} (hk : ∀ y, x = some y → y ∈ l) : evo E fr x = evo E gr x := by
  cases x with
  | none => rfl
  | some y => simp only [evo]; rw [ev_congr h (hk y rfl)]

theorem evps_congr {l : List Operand} (h : Agree fr gr l) : ∀ {k : List (Nat × Operand)}, (∀ x ∈ k, x.2 ∈ l) → evps E fr k = evps E gr k
  | [], _ => rfl
  | (i, x) :: k, hk => by
    simp only [evps]
    rw [ev_congr h (hk (i, x) (by simp)), evps_congr h (k := k) (fun y hy => hk y (List.mem_cons_of_mem _ hy))]

theorem opA_congr {o : Oper} (h : Agree fr gr o.op.operands.toList) : opA E fr H o = opA E gr H o := by
  unfold opA
  cases ho : o.op <;> simp only [ho, Op.operands] at h ⊢
  case move x => simp only [op_move, ev_congr (E := E) h (show x ∈ _ by simp)]
  case assign x => simp only [op_assign, ev_congr (E := E) h (show x ∈ _ by simp)]
  case pick c x y => simp only [op_pick, ev_congr (E := E) h (show c ∈ _ by simp), ev_congr (E := E) h (show x ∈ _ by simp), ev_congr (E := E) h (show y ∈ _ by simp)]
  case load t x => simp only [op_load, ev_congr (E := E) h (show x ∈ _ by simp)]
  case store t x y => simp only [op_store, ev_congr (E := E) h (show x ∈ _ by simp), ev_congr (E := E) h (show y ∈ _ by simp)]
  case fieldAddr s x f => simp only [op_fieldAddr, ev_congr (E := E) h (show x ∈ _ by simp)]
  case indexAddr t x y => simp only [op_indexAddr, ev_congr (E := E) h (show x ∈ _ by simp), ev_congr (E := E) h (show y ∈ _ by simp)]
  case nilCheck x => simp only [op_nilCheck, ev_congr (E := E) h (show x ∈ _ by simp)]
  case binOp op t x y yt => simp only [op_binOp, ev_congr (E := E) h (show x ∈ _ by simp), ev_congr (E := E) h (show y ∈ _ by simp)]
  case unOp op t x => simp only [op_unOp, ev_congr (E := E) h (show x ∈ _ by simp)]
  case alloc t => simp only [op_alloc]
  case box t x => simp only [op_box, ev_congr (E := E) h (show x ∈ _ by simp)]
  case build t ps => simp only [op_build]; rw [evps_congr h (fun x hx => by simp only [List.mem_map]; exact ⟨x, hx, rfl⟩)]
  case buildSlice t n ps => simp only [op_buildSlice]; rw [evps_congr h (fun x hx => by simp only [List.mem_map]; exact ⟨x, hx, rfl⟩)]
  case convert s d x => simp only [op_convert, ev_congr (E := E) h (show x ∈ _ by simp)]
  case makeInterface t x => simp only [op_makeInterface, ev_congr (E := E) h (show x ∈ _ by simp)]
  case makeFunc f x y =>
    simp only [op_makeFunc]
    rw [evs_congr h (k := x.toList) (fun z hz => by simp only [Array.toList_append, List.mem_append]; exact .inl hz), evs_congr h (k := y.toList) (fun z hz => by simp only [Array.toList_append, List.mem_append]; exact .inr hz)]
  case makeMap t r => simp only [op_makeMap]; rw [evo_congr h (fun y hy => by subst hy; simp)]
  case makeChan t x => simp only [op_makeChan, ev_congr (E := E) h (show x ∈ _ by simp)]
  case mapEntry t x y => simp only [op_mapEntry, ev_congr (E := E) h (show x ∈ _ by simp), ev_congr (E := E) h (show y ∈ _ by simp)]
  case entryStore t x y z => simp only [op_entryStore, ev_congr (E := E) h (show x ∈ _ by simp), ev_congr (E := E) h (show y ∈ _ by simp), ev_congr (E := E) h (show z ∈ _ by simp)]
  case makeSlice t x y => simp only [op_makeSlice, ev_congr (E := E) h (show x ∈ _ by simp), ev_congr (E := E) h (show y ∈ _ by simp)]
  case slice t x lo hi mx =>
    simp only [op_slice]
    rw [ev_congr h (x := x) (by simp), evo_congr h (x := lo) (fun y hy => by subst hy; simp), evo_congr h (x := hi) (fun y hy => by subst hy; simp), evo_congr h (x := mx) (fun y hy => by subst hy; simp)]
  case field t x f => simp only [op_field, ev_congr (E := E) h (show x ∈ _ by simp)]
  case index t x y => simp only [op_index, ev_congr (E := E) h (show x ∈ _ by simp), ev_congr (E := E) h (show y ∈ _ by simp)]
  case lookup t x y ok => simp only [op_lookup, ev_congr (E := E) h (show x ∈ _ by simp), ev_congr (E := E) h (show y ∈ _ by simp)]
  case mapUpdate t x y z => simp only [op_mapUpdate, ev_congr (E := E) h (show x ∈ _ by simp), ev_congr (E := E) h (show y ∈ _ by simp), ev_congr (E := E) h (show z ∈ _ by simp)]
  case range t x => simp only [op_range, ev_congr (E := E) h (show x ∈ _ by simp)]
  case next x s => simp only [op_next, ev_congr (E := E) h (show x ∈ _ by simp)]
  case extract x i => simp only [op_extract, ev_congr (E := E) h (show x ∈ _ by simp)]
  case typeAssert x t t' ok => simp only [op_typeAssert, ev_congr (E := E) h (show x ∈ _ by simp)]
  case call c =>
    simp only [op_call]
    rw [evs_congr h (k := c.args.toList) (fun z hz => by simp only [Call.operands, Array.toList_append, List.mem_append]; exact .inr hz)]
    cases hc : c.callee with
    | builtin b => rfl
    | invoke r n => rfl
    | value f =>
      simp only
      rw [ev_congr h (x := f) (by simp [Call.operands, hc])]

end Go.Uf
end

/-
  An operation's value and heap, the frame apart.
-/
noncomputable section
namespace Go.Uf
open Go.RowKit (Below)

variable {E : Env} {P : Program} {B0 : Nat} {φ : Phi} {H : AH} {w : World} {fr gr : AFr} {a : Act}

def retO : Option Out → Option (AV × AH)
  | some (.ret v H) => some (v, H)
  | _ => none
def valR (rec : Task → Option Out) (H : AH) : R1 → Option (AV × AH)
  | .pure v => some (v, H)
  | .val v H1 => some (v, H1)
  | .skip H1 => some (.tup [], H1)
  | .enter f args H1 => retO (rec (.call f args H1))
  | .round l args H1 => retO (rec (.round l args H1))
def valA (E : Env) (rec : Task → Option Out) (ops : Array Oper) (o : Oper) (fr : AFr) (H : AH) : Option (AV × AH) := match wantedA ops o fr with
  | none => none
  | some b => match b with
    | false => some (.tup [], H)
    | true => match opA E fr H o with
      | none => none
      | some r => valR rec H r

theorem doOp_val {rec : Task → Option Out} {ops : Array Oper} {o : Oper} {fr' : AFr} {H' : AH} (h : doOp E rec ops o fr H = some (fr', H')) :
    ∃ v, valA E rec ops o fr H = some (v, H') ∧ fr.put o.dst v = some fr' := by
  have fin' : ∀ {v : AV} {H1 : AH}, fin o fr v H1 = some (fr', H') → H1 = H' ∧ fr.put o.dst v = some fr' := by
    intro v H1 hf
    unfold fin at hf
    split at hf
    case h_2 => simp at hf
    rename_i f2 h2
    simp only [Option.some.injEq, Prod.mk.injEq] at hf
    obtain ⟨rfl, rfl⟩ := hf
    exact ⟨rfl, h2⟩
  have finO' : ∀ {x : Option Out}, finO o fr x = some (fr', H') → ∃ v, retO x = some (v, H') ∧ fr.put o.dst v = some fr' := by
    intro x hf
    unfold finO at hf
    split at hf
    case h_2 => simp at hf
    rename_i v H1
    obtain ⟨rfl, h2⟩ := fin' hf
    exact ⟨v, rfl, h2⟩
  unfold doOp at h
  simp only [opF_eq] at h
  unfold valA
  cases hw : wantedA ops o fr with
  | none => rw [hw] at h; simp at h
  | some b =>
    rw [hw] at h
    cases b with
    | false =>
      obtain ⟨rfl, h2⟩ := fin' h
      exact ⟨_, rfl, h2⟩
    | true =>
      simp only at h ⊢
      cases ho : opA E fr H o with
      | none => rw [ho] at h; simp [finR] at h
      | some r =>
        rw [ho] at h
        simp only [finR] at h ⊢
        cases r with
        | pure v => obtain ⟨rfl, h2⟩ := fin' h; exact ⟨_, rfl, h2⟩
        | val v H1 => simp only [fH_eq] at h; obtain ⟨rfl, h2⟩ := fin' h; exact ⟨_, rfl, h2⟩
        | skip H1 => simp only [fH_eq] at h; obtain ⟨rfl, h2⟩ := fin' h; exact ⟨_, rfl, h2⟩
        | enter f args H1 => exact finO' h
        | round l args H1 => exact finO' h

/-- what an operation reads -/
def AgreeR (ops : Array Oper) (o : Oper) (fr gr : AFr) : Prop := ∀ t, t ∈ o.looksAt ops → fr.get t = gr.get t

theorem AgreeR.operands {ops : Array Oper} {o : Oper} (h : AgreeR ops o fr gr) : Agree fr gr o.op.operands.toList := fun t ht => by
  refine h t ?_
  unfold Oper.looksAt
  exact List.mem_append_left _ (List.mem_filterMap.2 ⟨.tmp t, ht, rfl⟩)

theorem wantedA_congr {ops : Array Oper} {o : Oper} (h : AgreeR ops o fr gr) : wantedA ops o fr = wantedA ops o gr := by
  unfold wantedA
  cases hg : o.guard with
  | none => rfl
  | some x =>
    obtain ⟨j, want⟩ := x
    simp only
    have hl : ops.toList[j]? = ops[j]? := by simp
    cases ho : ops[j]? with
    | none => rw [hl, ho]
    | some p =>
      rw [hl, ho]
      simp only
      cases hd : p.dst with
      | none => rfl
      | some d =>
        simp only
        rw [h d (by unfold Oper.looksAt; refine List.mem_append_right _ ?_; rw [hg]; simp [ho, hd])]

theorem valA_congr {rec : Task → Option Out} {ops : Array Oper} {o : Oper} (h : AgreeR ops o fr gr) : valA E rec ops o fr H = valA E rec ops o gr H := by
  unfold valA
  rw [wantedA_congr h, opA_congr h.operands]

/-- a frame cut down to some temporaries -/
def cutF (fr : AFr) (l : List Nat) : AFr := ⟨fr.nt, 0, .nil, l.filterMap fun t => (fr.get t).map fun v => (t, v), []⟩

theorem inMask_zero (t : Nat) : inMask 0 t = false := by
  unfold inMask
  simp
  rfl

theorem lookL_cut (fr : AFr) (t : Nat) : ∀ l : List Nat, lookL t (l.filterMap fun t => (fr.get t).map fun v => (t, v)) = if t ∈ l then fr.get t else none
  | [] => rfl
  | s :: l => by
    rw [List.filterMap_cons]
    by_cases e : s = t
    · subst e
      cases hs : fr.get s with
      | none =>
        simp only [Option.map_none]
        rw [lookL_cut fr s l, hs]
        simp
      | some v => simp [lookL]
    · have hb : Nat.beq s t = false := by
        cases hq : Nat.beq s t with
        | false => rfl
        | true => exact absurd (Nat.eq_of_beq_eq_true hq) e
      have hm : (t ∈ s :: l) = (t ∈ l) := by simp [show ¬ t = s from fun h => e h.symm]
      cases fr.get s with
      | none => simp only [Option.map_none, hm]; exact lookL_cut fr t l
      | some v => simp only [Option.map_some, lookL, hb, hm]; exact lookL_cut fr t l

theorem cutF_eq (fr : AFr) (l : List Nat) (t : Nat) : (cutF fr l).get t = if t ∈ l then fr.get t else none := by
  have : (cutF fr l).get t = lookL t (l.filterMap fun t => (fr.get t).map fun v => (t, v)) := by
    show (match inMask 0 t with | true => _ | false => lookL t _) = _
    rw [inMask_zero]
  rw [this, lookL_cut]

theorem cutF_get {l : List Nat} {t : Nat} (h : t ∈ l) : (cutF fr l).get t = fr.get t := by
  rw [cutF_eq, if_pos h]

theorem cutF_mem {l : List Nat} {t : Nat} {v : AV} (h : (cutF fr l).get t = some v) : t ∈ l := by
  rw [cutF_eq] at h
  split at h
  · assumption
  · cases h

theorem cutF_FT {l : List Nat} {ts : Array Value} (hsz : ts.size = fr.nt) (h : ∀ t ∈ l, ∀ v, fr.get t = some v → VR φ v (ts.getD t Go.undef)) : FT φ (cutF fr l) ts := by
  refine ⟨hsz, fun t v e => ?_⟩
  have hm := cutF_mem e
  rw [cutF_get hm] at e
  exact h t hm v e

/-- one operation whose operands alone hold what they should -/
theorem val_ok (hE : E.Ok P) {rec : Task → Option Out} (hc : SndCall E P B0 rec) (hr : SndRound E P B0 rec) (hR : HR E B0 φ H w) {ops : Array Oper} {o : Oper} (hsz : a.tmps.size = fr.nt)
    (hA : ∀ t ∈ o.looksAt ops, ∀ v, fr.get t = some v → VR φ v (a.tmps.getD t Go.undef)) {v : AV} {H' : AH} (h : valA E rec ops o fr H = some (v, H')) (ro : Option Nat) (k : Nat) (Q : Exit → Act → World → Prop) (K : Act → World → Prop)
    (hK : ∀ (ψ : Phi) (u : Value) (w' : World), φ.le ψ → HR E B0 ψ H' w' → VR ψ v u → Below B0 w w' → K (a.put o.dst u) w') :
    if Region.wanted o (yielded ops a.tmps) then o.wpIn (FW ro) k P a w K Q else (∀ f, o.about P w a.eval = some f → (FW ro).fn f) ∧ K (a.put o.dst undef) w := by
  have hF := cutF_FT hsz hA
  rw [valA_congr (gr := cutF fr (o.looksAt ops)) (fun t ht => (cutF_get ht).symm)] at h
  unfold valA at h
  split at h
  · simp at h
  rename_i b hb
  rw [wanted_ok hF hb]
  have hundef : ∀ ψ : Phi, VR ψ (.tup []) undef := fun ψ => by simp [VR, VRs, undef]
  split at h
  · simp only [Bool.false_eq_true, if_false]
    simp only [Option.some.injEq, Prod.mk.injEq] at h
    obtain ⟨rfl, rfl⟩ := h
    exact ⟨fun f _ => FW_fn ro f, hK φ _ _ (Phi.le_refl _) hR (hundef φ) (Below.refl' w)⟩
  · simp only [if_true]
    split at h
    · simp at h
    rename_i r hop
    have hok := op_ok hE hR hF hop
    refine ⟨fun f _ => FW_fn ro f, ?_⟩
    rw [Oper.semAt_eq _ _ _ (opA_defer hop)]
    cases r with
    | pure v1 =>
      simp only [valR, Option.some.injEq, Prod.mk.injEq] at h
      obtain ⟨rfl, rfl⟩ := h
      obtain ⟨v', e, hv⟩ := hok
      rw [e]
      exact hK φ _ _ (Phi.le_refl _) hR hv (Below.refl' w)
    | val v1 H1 =>
      simp only [valR, Option.some.injEq, Prod.mk.injEq] at h
      obtain ⟨rfl, rfl⟩ := h
      obtain ⟨v', w', ψ, e, hle, hR', hv, hB⟩ := hok
      rw [e]
      exact hK ψ _ _ hle hR' hv hB
    | skip H1 =>
      simp only [valR, Option.some.injEq, Prod.mk.injEq] at h
      obtain ⟨rfl, rfl⟩ := h
      obtain ⟨w', e, hR', hB⟩ := hok
      rw [e]
      exact hK φ _ _ (Phi.le_refl _) hR' (hundef φ) hB
    | enter f args H1 =>
      obtain ⟨rfl, us, e, hus⟩ := hok
      rw [e]
      simp only [valR] at h
      unfold retO at h
      split at h
      case h_2 => simp at h
      rename_i v2 H2 hrec
      simp only [Option.some.injEq, Prod.mk.injEq] at h
      obtain ⟨rfl, rfl⟩ := h
      refine ⟨fun hd => absurd hd (FW_depth ro), ?_⟩
      refine CallsIn.mono (F := FW ro) (show CallsIn (FW ro) (k - 1) P f us w _ from hc f args _ _ _ hrec (k - 1) φ w us hR hus) fun e w' hpost => ?_
      cases e with
      | returned v' =>
        obtain ⟨ψ, hle, hR', hv, hB⟩ := hpost
        exact hK ψ _ _ hle hR' hv hB
      | panicked c => exact hpost.elim
      | outgrown => exact hpost.elim
    | round l args H1 =>
      obtain ⟨rfl, Qp, us, hq, hus, e⟩ := hok
      simp only [valR] at h
      unfold retO at h
      split at h
      case h_2 => simp at h
      rename_i v2 H2 hrec
      simp only [Option.some.injEq, Prod.mk.injEq] at h
      obtain ⟨rfl, rfl⟩ := h
      obtain ⟨f, tmps, assign, body, e2, hround⟩ := hr l args _ _ _ hrec (k - 1) φ w us Qp hq hR hus
      rw [e, e2]
      refine ⟨fun hd => absurd hd (FW_depth ro), ?_⟩
      refine RoundIn.mono (hround ro) fun e w' hpost => ?_
      cases e with
      | returned v' =>
        obtain ⟨ψ, hle, hR', hv, hB⟩ := hpost
        exact hK ψ _ _ hle hR' hv hB
      | panicked c => exact hpost.elim
      | outgrown => exact hpost.elim

end Go.Uf
end

/-
  Regions that draw their order: what a plan says of the operations.
-/
noncomputable section
namespace Go.Uf
open Go.RowKit (Below)

variable {ops : Array Oper}

/-! ### masks -/
theorem inMask_eq (m t : Nat) : inMask m t = m.testBit t := by
  have h1 : inMask m t = Nat.beq ((m >>> t) &&& 1) 1 := rfl
  have h2 : m.testBit t = ((1 &&& (m >>> t)) != 0) := rfl
  rw [h1, h2, Nat.and_comm 1, Nat.and_one_is_mod]
  rcases Nat.mod_two_eq_zero_or_one (m >>> t) with h | h <;> rw [h] <;> rfl

theorem inMask_lor (x y j : Nat) : inMask (Nat.lor x y) j = (inMask x j || inMask y j) := by
  simp only [inMask_eq]
  exact Nat.testBit_or x y j

theorem inMask_land (x y j : Nat) : inMask (Nat.land x y) j = (inMask x j && inMask y j) := by
  simp only [inMask_eq]
  exact Nat.testBit_and x y j

theorem inMask_pow (i j : Nat) : inMask (2 ^ i) j = decide (i = j) := by
  rw [inMask_eq, Nat.testBit_two_pow]

theorem inMask_full {n j : Nat} (h : j < n) : inMask (2 ^ n - 1) j = true := by
  rw [inMask_eq, Nat.testBit_two_pow_sub_one]
  simpa using h

/-! ### the masks of what must come before -/
theorem nthM_get : ∀ (l : List Nat) (k : Nat), nthM l k = (l[k]?).getD 0
  | [], k => by simp [nthM]
  | m :: l, 0 => by simp [nthM]
  | m :: l, k + 1 => by simp [nthM, nthM_get l k]

theorem ancOf_spec {n : Nat} {ms : List Nat} : ∀ {es : List Edge} {m : Nat}, ancOf n ms es = some m →
    (∀ j, inMask m j = true → ∃ e ∈ es, bindsAny e = true ∧ e.on < n ∧ (j = e.on ∨ inMask (nthM ms (n - 1 - e.on)) j = true)) ∧ ∀ e ∈ es, bindsAny e = true → e.on < n
  | [], m, h => by
    simp only [ancOf, Option.some.injEq] at h
    subst h
    exact ⟨fun j hj => by rw [inMask_zero] at hj; simp at hj, fun e he => by simp at he⟩
  | e :: l, m, h => by
    simp only [ancOf] at h
    split at h
    · simp at h
    rename_i m0 h0
    obtain ⟨i1, i2⟩ := ancOf_spec h0
    split at h
    · rename_i hb
      simp only [Option.some.injEq] at h
      subst h
      refine ⟨fun j hj => ?_, fun e' he' hb' => ?_⟩
      · obtain ⟨e', he', r⟩ := i1 j hj
        exact ⟨e', List.mem_cons_of_mem _ he', r⟩
      · rcases List.mem_cons.1 he' with rfl | he'
        · rw [hb] at hb'; simp at hb'
        · exact i2 e' he' hb'
    · rename_i hb
      split at h
      · simp at h
      rename_i hlt
      have hlt : e.on < n := by simpa [Nat.blt_eq] using hlt
      simp only [Option.some.injEq] at h
      subst h
      refine ⟨fun j hj => ?_, fun e' he' hb' => ?_⟩
      · rw [inMask_lor, inMask_lor, inMask_pow] at hj
        simp only [Bool.or_eq_true, decide_eq_true_eq] at hj
        rcases hj with hj | hj | hj
        · obtain ⟨e', he', r⟩ := i1 j hj
          exact ⟨e', List.mem_cons_of_mem _ he', r⟩
        · exact ⟨e, by simp, hb, hlt, .inr hj⟩
        · exact ⟨e, by simp, hb, hlt, .inl hj.symm⟩
      · rcases List.mem_cons.1 he' with rfl | he'
        · exact hlt
        · exact i2 e' he' hb'

theorem ancs_spec : ∀ (l : List Oper) (n : Nat) (ms ms' : List Nat), ms.length = n → ancs n ms l = some ms' →
    ms'.length = n + l.length ∧ ms'.reverse.take n = ms.reverse ∧
    ∀ i o, l[i]? = some o → ∃ m ms0, ms'.reverse[n + i]? = some m ∧ ms0.reverse = ms'.reverse.take (n + i) ∧ ancOf (n + i) ms0 o.after.toList = some m
  | [], n, ms, ms', hn, h => by
    simp only [ancs, Option.some.injEq] at h
    subst h
    refine ⟨by simp [hn], by rw [List.take_of_length_le (by simp [hn])], fun i o hi => by simp at hi⟩
  | o :: l, n, ms, ms', hn, h => by
    simp only [ancs] at h
    split at h
    · simp at h
    rename_i m hm
    rw [fN_eq] at h
    obtain ⟨h1, h2, h3⟩ := ancs_spec l (n + 1) (m :: ms) ms' (by simp [hn]) h
    simp only [List.reverse_cons] at h2
    have h4 : ms'.reverse.take n = ms.reverse := by
      have := congrArg (List.take n) h2
      rw [List.take_take, Nat.min_eq_left (by omega), List.take_left' (by simp [hn])] at this
      exact this
    refine ⟨by simp; omega, h4, fun i o' hi => ?_⟩
    cases i with
    | zero =>
      simp only [List.getElem?_cons_zero, Option.some.injEq] at hi
      subst hi
      refine ⟨m, ms, ?_, h4.symm, hm⟩
      have := congrArg (fun k : List Nat => k[n]?) h2
      rw [List.getElem?_take, if_pos (by omega), List.getElem?_append_right (by simp [hn])] at this
      simpa [hn] using this
    | succ i =>
      simp only [List.getElem?_cons_succ] at hi
      obtain ⟨m', ms0, k1, k2, k3⟩ := h3 i o' hi
      rw [show n + 1 + i = n + (i + 1) by omega] at k1 k2 k3
      exact ⟨m', ms0, k1, k2, k3⟩

theorem infos_get : ∀ (l : List Oper) (ms : List Nat) (n i : Nat) (x : Info), (infos n l ms)[i]? = some x →
    ∃ o m, l[i]? = some o ∧ ms[i]? = some m ∧ x = ⟨n + i, o, cls o.op, m⟩
  | [], ms, n, i, x, h => by simp [infos] at h
  | o :: l, [], n, i, x, h => by simp [infos] at h
  | o :: l, m :: ms, n, i, x, h => by
    simp only [infos] at h
    cases i with
    | zero =>
      simp only [List.getElem?_cons_zero, Option.some.injEq] at h
      exact ⟨o, m, by simp, by simp, by simp [h]⟩
    | succ i =>
      simp only [List.getElem?_cons_succ] at h
      obtain ⟨o', m', h1, h2, h3⟩ := infos_get l ms (n + 1) i x h
      exact ⟨o', m', by simpa using h1, by simpa using h2, by rw [h3]; congr 1; omega⟩
theorem infos_some : ∀ (l : List Oper) (ms : List Nat) (n i : Nat) (o : Oper) (m : Nat), l[i]? = some o → ms[i]? = some m → (infos n l ms)[i]? = some ⟨n + i, o, cls o.op, m⟩
  | [], ms, n, i, o, m, h, _ => by simp at h
  | o' :: l, [], n, i, o, m, _, h => by simp at h
  | o' :: l, m' :: ms, n, i, o, m, h1, h2 => by
    simp only [infos]
    cases i with
    | zero => simp at h1 h2 ⊢; simp [h1, h2]
    | succ i =>
      simp only [List.getElem?_cons_succ] at h1 h2 ⊢
      rw [infos_some l ms (n + 1) i o m h1 h2]
      congr 2; omega

/-- what is known of a region's operations -/
structure Cx (ops : Array Oper) (l : List Info) : Prop where
  good : ∀ x ∈ l, ops[x.i]? = some x.o ∧ x.c = cls x.o.op
  inj : ∀ x ∈ l, ∀ y ∈ l, x.i = y.i → x = y
  cover : ∀ i o, ops[i]? = some o → ∃ x ∈ l, x.i = i
  low : ∀ x ∈ l, ∀ e ∈ x.o.after.toList, bindsAny e = true → e.on < x.i
  anc : ∀ x ∈ l, ∀ j, inMask x.m j = true → ∃ e ∈ x.o.after.toList, bindsAny e = true ∧ (j = e.on ∨ ∃ y ∈ l, y.i = e.on ∧ inMask y.m j = true)
  bnd : ∀ x ∈ l, ∀ y ∈ l, bound ops x y = true

theorem Cx.of {ms : List Nat} (h : ancs 0 [] ops.toList = some ms) (hb : allBound ops (infos 0 ops.toList ms.reverse) = true) : Cx ops (infos 0 ops.toList ms.reverse) := by
  obtain ⟨h1, _, h3⟩ := ancs_spec ops.toList 0 [] ms rfl h
  have key : ∀ x ∈ infos 0 ops.toList ms.reverse, ops.toList[x.i]? = some x.o ∧ ms.reverse[x.i]? = some x.m ∧ x.c = cls x.o.op ∧ (infos 0 ops.toList ms.reverse)[x.i]? = some x := by
    intro x hx
    obtain ⟨i, hi⟩ := List.mem_iff_getElem?.1 hx
    obtain ⟨o, m, k1, k2, k3⟩ := infos_get _ _ _ _ _ hi
    subst k3
    simp only [Nat.zero_add] at *
    exact ⟨k1, k2, trivial, hi⟩
  refine ⟨fun x hx => ?_, fun x hx y hy e => ?_, fun i o ho => ?_, fun x hx e he hbe => ?_, fun x hx j hj => ?_, fun x hx y hy => ?_⟩
  · obtain ⟨k1, _, k3, _⟩ := key x hx
    exact ⟨by simpa using k1, k3⟩
  · obtain ⟨_, _, _, k4⟩ := key x hx
    obtain ⟨_, _, _, l4⟩ := key y hy
    rw [e, l4] at k4
    exact (Option.some.inj k4).symm
  · have ho' : ops.toList[i]? = some o := by simpa using ho
    obtain ⟨m, _, k1, _⟩ := h3 i o ho'
    rw [Nat.zero_add] at k1
    have := infos_some _ _ 0 _ _ _ ho' k1
    exact ⟨_, List.mem_of_getElem? this, by simp⟩
  · obtain ⟨k1, k2, _, _⟩ := key x hx
    obtain ⟨m, ms0, l1, l2, l3⟩ := h3 _ _ k1
    rw [Nat.zero_add] at l1 l3
    exact (ancOf_spec l3).2 e he hbe
  · obtain ⟨k1, k2, _, _⟩ := key x hx
    obtain ⟨m, ms0, l1, l2, l3⟩ := h3 _ _ k1
    rw [Nat.zero_add] at l1 l2 l3
    rw [l1] at k2
    cases k2
    obtain ⟨e, he, hbe, hlt, hor⟩ := (ancOf_spec l3).1 j hj
    refine ⟨e, he, hbe, ?_⟩
    rcases hor with rfl | hor
    · exact .inl rfl
    · right
      have hxlt : x.i < ops.toList.length := (List.getElem?_eq_some_iff.1 k1).1
      obtain ⟨o', ho'⟩ : ∃ o', ops.toList[e.on]? = some o' := ⟨_, List.getElem?_eq_getElem (by omega)⟩
      obtain ⟨m', _, n1, _, _⟩ := h3 _ _ ho'
      rw [Nat.zero_add] at n1
      have hy := infos_some _ _ 0 _ _ _ ho' n1
      refine ⟨_, List.mem_of_getElem? hy, by simp, ?_⟩
      have hlen : ms0.length = x.i := by
        have := congrArg List.length l2
        simp only [List.length_reverse, List.length_take] at this
        omega
      have e2 : ms0[x.i - 1 - e.on]? = some m' := by
        have h5 : ms0.reverse[e.on]? = some m' := by
          rw [l2, List.getElem?_take, if_pos hlt]; exact n1
        rw [List.getElem?_reverse (by omega)] at h5
        rw [hlen] at h5
        exact h5
      rw [nthM_get, e2] at hor
      exact hor
  · unfold allBound at hb
    rw [List.all_eq_true] at hb
    have := hb x hx
    rw [List.all_eq_true] at this
    exact this y hy

theorem Cx.dst_ne {l : List Info} (cx : Cx ops l) {x y : Info} (hx : x ∈ l) (hy : y ∈ l) (hne : y.i ≠ x.i) {d : Nat} (hd : y.o.dst = some d) : x.o.dst ≠ some d := by
  have h := cx.bnd x hx y hy
  unfold bound at h
  rw [hd] at h
  have hb : Nat.beq y.i x.i = false := by
    cases hq : Nat.beq y.i x.i with
    | false => rfl
    | true => exact absurd (Nat.eq_of_beq_eq_true hq) hne
  simp only [hb, Bool.and_eq_true] at h
  intro e
  rw [e] at h
  simp at h

theorem Cx.look {l : List Info} (cx : Cx ops l) {x y : Info} (hx : x ∈ l) (hy : y ∈ l) {d : Nat} (hd : y.o.dst = some d) (ht : d ∈ x.o.looksAt ops) :
    (y.i = x.i ∧ x.c ≠ 1 ∧ x.c ≠ 2) ∨ (y.i ≠ x.i ∧ (inMask x.m y.i = true ∨ (inMask y.m x.i = true ∧ x.c ≠ 1 ∧ x.c ≠ 2))) := by
  have h := cx.bnd x hx y hy
  have ne : ∀ {n : Nat}, Nat.beq x.c n = false → x.c ≠ n := fun hq e => by rw [e] at hq; simp at hq
  unfold bound at h
  rw [hd] at h
  have hc : (readsOf ops x.o).contains d = true := by simpa [readsOf] using ht
  cases hb : Nat.beq y.i x.i with
  | true =>
    simp only [hb, hc, Bool.not_true, Bool.false_or, Bool.and_eq_true, Bool.not_eq_true'] at h
    exact .inl ⟨Nat.eq_of_beq_eq_true hb, ne h.1, ne h.2⟩
  | false =>
    simp only [hb, hc, Bool.not_true, Bool.false_or, Bool.and_eq_true, Bool.or_eq_true, Bool.not_eq_true'] at h
    refine .inr ⟨fun e => by rw [e] at hb; simp at hb, ?_⟩
    rcases h.2 with h | ⟨⟨h, h1⟩, h2⟩
    · exact .inl h
    · exact .inr ⟨h, ne h1, ne h2⟩

/-! ### each behind what must come before it -/
def LegalF : List Info → List Info → Prop
  | _, [] => True
  | p, x :: l => (∀ j, inMask x.m j = true → ∃ y ∈ p, y.i = j) ∧ (∀ y ∈ p, y.i ≠ x.i) ∧ LegalF (p ++ [x]) l

def MaskOf (D : Nat) (p : List Info) : Prop := ∀ j, inMask D j = true ↔ ∃ y ∈ p, y.i = j

theorem MaskOf.zero : MaskOf 0 [] := fun j => by rw [inMask_zero]; simp
theorem MaskOf.snoc {D : Nat} {p : List Info} (h : MaskOf D p) (x : Info) : MaskOf (Nat.lor D (2 ^ x.i)) (p ++ [x]) := fun j => by
  rw [inMask_lor, inMask_pow, Bool.or_eq_true, decide_eq_true_eq, h j]
  constructor
  · rintro (⟨y, hy, e⟩ | e)
    · exact ⟨y, by simp [hy], e⟩
    · exact ⟨x, by simp, e⟩
  · rintro ⟨y, hy, e⟩
    rcases List.mem_append.1 hy with hy | hy
    · exact .inl ⟨y, hy, e⟩
    · simp only [List.mem_singleton] at hy
      subst hy
      exact .inr e

theorem legalB_ok : ∀ {l p : List Info} {D D' : Nat}, legalB D l = some D' → MaskOf D p → LegalF p l ∧ MaskOf D' (p ++ l)
  | [], p, D, D', h, hm => by
    simp only [legalB, Option.some.injEq] at h
    subst h
    exact ⟨trivial, by simpa using hm⟩
  | x :: l, p, D, D', h, hm => by
    simp only [legalB] at h
    split at h
    case h_2 => simp at h
    rename_i hb
    simp only [Bool.and_eq_true, Nat.beq_eq, Bool.not_eq_true'] at hb
    rw [fN_eq] at h
    obtain ⟨h1, h2⟩ := legalB_ok h (hm.snoc x)
    refine ⟨⟨fun j hj => ?_, fun y hy e => ?_, h1⟩, by simpa using h2⟩
    · rw [← hb.1, inMask_land, Bool.and_eq_true] at hj
      exact (hm j).1 hj.2
    · have := (hm x.i).2 ⟨y, hy, e⟩
      rw [hb.2] at this; simp at this

theorem LegalF.append {k : List Info} : ∀ {l p : List Info}, LegalF p (l ++ k) ↔ LegalF p l ∧ LegalF (p ++ l) k
  | [], p => by simp [LegalF]
  | x :: l, p => by
    simp only [List.cons_append, LegalF]
    rw [LegalF.append (l := l) (p := p ++ [x])]
    simp only [List.append_assoc, List.cons_append, List.nil_append]
    constructor
    · rintro ⟨a, b, c, d⟩; exact ⟨⟨a, b, c⟩, d⟩
    · rintro ⟨⟨a, b, c⟩, d⟩; exact ⟨a, b, c, d⟩

theorem LegalF.ne : ∀ {l p : List Info}, LegalF p l → ∀ y ∈ p, ∀ z ∈ l, y.i ≠ z.i
  | [], _, _, _, _, z, hz => by simp at hz
  | x :: l, p, h, y, hy, z, hz => by
    obtain ⟨_, h2, h3⟩ := h
    rcases List.mem_cons.1 hz with rfl | hz
    · exact h2 y hy
    · exact h3.ne y (by simp [hy]) z hz

theorem LegalF.closed : ∀ {l p : List Info}, LegalF p l → ∀ x ∈ l, ∀ j, inMask x.m j = true → ∃ y ∈ p ++ l, y.i = j
  | [], _, _, x, hx, _, _ => by simp at hx
  | x :: l, p, h, z, hz, j, hj => by
    obtain ⟨h1, _, h3⟩ := h
    rcases List.mem_cons.1 hz with rfl | hz
    · obtain ⟨y, hy, e⟩ := h1 j hj
      exact ⟨y, by simp [hy], e⟩
    · obtain ⟨y, hy, e⟩ := h3.closed z hz j hj
      exact ⟨y, by simpa using hy, e⟩

/-- the operations in one order -/
def flatS : List (List Info) → List Info → List Info
  | q :: qs, es => q ++ (match es with
    | [] => []
    | e :: es => e :: flatS qs es)
  | [], _ => []

theorem chkSt_ok : ∀ {qs rs : List (List Info)} {es p : List Info} {D D' : Nat}, chkSt D qs rs es = some D' → MaskOf D p → LegalF p (flatS qs es) ∧ MaskOf D' (p ++ flatS qs es)
  | q :: qs, r :: rs, es, p, D, D', h, hm => by
    simp only [chkSt] at h
    split at h
    · simp at h
    rename_i D1 h1
    obtain ⟨l1, m1⟩ := legalB_ok h1 hm
    split at h
    · simp at h
    split at h
    · simp only [Option.some.injEq] at h
      subst h
      simpa [flatS] using ⟨l1, m1⟩
    · rename_i e es
      split at h
      · simp at h
      split at h
      · simp at h
      rename_i D2 h2
      obtain ⟨l2, m2⟩ := legalB_ok h2 m1
      obtain ⟨l3, m3⟩ := chkSt_ok h m2
      simp only [flatS]
      refine ⟨LegalF.append.2 ⟨l1, ?_⟩, by simpa using m3⟩
      rw [show e :: flatS qs es = [e] ++ flatS qs es from rfl]
      exact LegalF.append.2 ⟨l2, l3⟩
  | [], _, _, _, _, _, h, _ => by simp [chkSt] at h
  | _ :: _, [], _, _, _, _, h, _ => by simp [chkSt] at h

/-! ### the parts of a plan -/
theorem chain_append : ∀ (p : Option Info) (l : List Info), (chain p l).1 ++ (chain p l).2 = l
  | p, [] => by cases p <;> simp [chain]
  | none, e :: l => by
    have := chain_append (some e) l
    simp only [chain]
    generalize chain (some e) l = c at this ⊢
    obtain ⟨x, y⟩ := c
    simpa using this
  | some p, e :: l => by
    have := chain_append (some e) l
    simp only [chain]
    split
    · generalize chain (some e) l = c at this ⊢
      obtain ⟨x, y⟩ := c
      simpa using this
    · rfl
theorem dropLast1_append : ∀ (l : List Info), (dropLast1 l).1 ++ (dropLast1 l).2 = l
  | [] => rfl
  | [x] => rfl
  | x :: y :: l => by
    have := dropLast1_append (y :: l)
    simp only [dropLast1]
    generalize dropLast1 (y :: l) = c at this ⊢
    obtain ⟨u, v⟩ := c
    simpa using this

theorem layQ_mem {qs es : List Info} : ∀ {n k : Nat} {q : List Info}, q ∈ layQ qs es n k → ∀ x ∈ q, x ∈ qs
  | 0, _, _, h, _, _ => by simp [layQ] at h
  | n + 1, k, q, h, x, hx => by
    simp only [layQ, List.mem_cons] at h
    rcases h with rfl | h
    · exact (List.mem_filter.1 hx).1
    · exact layQ_mem h x hx

structure PlanOk (l : List Info) (p : Plan) : Prop where
  qs : ∀ q ∈ p.qs, ∀ x ∈ q, x ∈ l ∧ x.c ≠ 3
  es : ∀ x ∈ p.es, x ∈ l ∧ x.c = 3
  grp : ∀ x ∈ p.grp, x ∈ l ∧ x.c = 3
  tl : ∀ x ∈ p.tail, x ∈ l
  all3 : ∀ x ∈ l, x.c = 3 → x ∈ p.es ∨ x ∈ p.grp
  re : p.re = layR l none p.es

theorem mkPlan_ok (l : List Info) : PlanOk l (mkPlan l) := by
  have ne3 : ∀ {x : Info}, (!Nat.beq x.c 3) = true → x.c ≠ 3 := fun hq e => by rw [e] at hq; simp at hq
  have ef : ∀ {x : Info}, x ∈ l.filter (fun x => Nat.beq x.c 3) ↔ x ∈ l ∧ x.c = 3 := by
    intro x
    rw [List.mem_filter]
    constructor
    · rintro ⟨h1, h2⟩; exact ⟨h1, Nat.eq_of_beq_eq_true h2⟩
    · rintro ⟨h1, h2⟩; exact ⟨h1, by rw [h2]; rfl⟩
  have qf : ∀ {x : Info}, x ∈ l.filter (fun x => !Nat.beq x.c 3) → x ∈ l ∧ x.c ≠ 3 := fun h => ⟨(List.mem_filter.1 h).1, ne3 (List.mem_filter.1 h).2⟩
  have hap := chain_append none (l.filter fun x => Nat.beq x.c 3)
  unfold mkPlan
  simp only
  generalize hch : chain none (l.filter fun x => Nat.beq x.c 3) = c at hap ⊢
  obtain ⟨es, rest⟩ := c
  simp only at hap
  cases rest with
  | nil =>
    simp only
    rw [List.append_nil] at hap
    refine ⟨fun q hq x hx => qf (layQ_mem hq x hx), fun x hx => ef.1 (hap ▸ hx), fun x hx => by simp at hx, fun x hx => by simp at hx, fun x hx hc => .inl (hap.symm ▸ ef.2 ⟨hx, hc⟩), rfl⟩
  | cons r rest =>
    simp only
    have hdl := dropLast1_append es
    generalize dropLast1 es = c at hdl ⊢
    obtain ⟨es', last⟩ := c
    simp only at hdl ⊢
    have hmem : ∀ {x : Info}, x ∈ es' ∨ x ∈ last ++ r :: rest ↔ x ∈ l ∧ x.c = 3 := by
      intro x
      rw [← ef, ← hap, ← hdl]
      simp
    refine ⟨fun q hq x hx => qf (List.mem_filter.1 (layQ_mem hq x hx)).1, fun x hx => hmem.1 (.inl hx), fun x hx => hmem.1 (.inr hx), fun x hx => (qf (List.mem_filter.1 hx).1).1, fun x hx hc => hmem.2 ⟨hx, hc⟩, rfl⟩

end Go.Uf
end

/-
  Regions that draw their order: the abstract run as data.
-/
noncomputable section
namespace Go.Uf
open Go.RowKit (Below)

variable {E : Env} {P : Program} {B0 : Nat} {φ : Phi} {H : AH} {w : World} {fr : AFr} {a : Act} {ops : Array Oper}

def refOf : AV → Option Nat
  | .p i _ _ _ => some i
  | .sl i _ _ _ _ _ => some i
  | .m i => some i
  | _ => none

theorem refOf_id {v : AV} {i : Nat} (h : refOf v = some i) : idOf v = i := by
  cases v <;> simp [refOf, idOf] at h ⊢ <;> exact h
theorem refOf_reid {v : AV} {i n : Nat} (h : refOf v = some i) : refOf (reid n v) = some n := by
  cases v <;> simp [refOf, reid] at h ⊢

/-- an operation of the first class does not look at the heap -/
theorem opA_indep {o : Oper} (hc : cls o.op = 0) (H1 H2 : AH) : opA E fr H1 o = opA E fr H2 o := by
  unfold opA
  cases ho : o.op <;> simp only [ho, cls] at hc ⊢ <;> first
    | rfl
    | (simp at hc; done)
    | skip
  rename_i c
  cases hcc : c.callee with
  | builtin b =>
    rw [hcc] at hc
    cases b <;> first
      | (simp at hc; done)
      | (simp only [op_call, hcc]
         cases evs E fr c.args.toList with
         | none => rfl
         | some args =>
           generalize c.argTypes.toList = ts
           rcases args with _ | ⟨x, _ | ⟨y, _ | ⟨z, r⟩⟩⟩ <;> rcases ts with _ | ⟨t, _ | ⟨t2, _ | ⟨t3, ts⟩⟩⟩ <;> rfl)
  | value f => rw [hcc] at hc; simp at hc
  | invoke r n => rw [hcc] at hc; simp at hc

/-- one of the third class lays one new object -/
theorem opA_new {o : Oper} (hc : cls o.op = 2) {v : AV} {H' : AH} (h : opA E fr H o = some (.val v H')) : (∃ obj, H' = H.new obj) ∧ refOf v = some H.nx := by
  unfold opA at h
  cases ho : o.op <;> rw [ho] at hc h <;> simp only [cls] at hc <;> (try (simp at hc; done))
  case alloc t =>
    simp only [op_alloc] at h
    split at h
    · split at h
      · simp only [newCells, newO_eq, Option.some.injEq, R1.val.injEq] at h
        obtain ⟨rfl, rfl⟩ := h
        exact ⟨⟨_, rfl⟩, rfl⟩
      · simp at h
    · simp at h
  case box t x =>
    simp only [op_box] at h
    split at h
    · split at h
      · simp only [newCells, newO_eq, Option.some.injEq, R1.val.injEq] at h
        obtain ⟨rfl, rfl⟩ := h
        exact ⟨⟨_, rfl⟩, rfl⟩
      · simp at h
    · simp at h
  case buildSlice t n ps =>
    simp only [op_buildSlice] at h
    split at h
    · obtain ⟨v1, H1, hv, e⟩ := oP_some h
      simp only [R1.val.injEq] at e
      obtain ⟨rfl, rfl⟩ := e
      unfold buildSl at hv
      split at hv
      case h_2 => simp at hv
      split at hv
      case h_2 => simp at hv
      split at hv
      case h_2 => simp at hv
      split at hv
      case h_2 => simp at hv
      split at hv
      case h_2 => simp at hv
      simp only [newCells, newO_eq, Option.some.injEq, Prod.mk.injEq] at hv
      obtain ⟨rfl, rfl⟩ := hv
      exact ⟨⟨_, rfl⟩, rfl⟩
    · simp at h
  case makeMap t x =>
    simp only [op_makeMap] at h
    split at h
    · simp only [newO_eq, Option.some.injEq, R1.val.injEq] at h
      obtain ⟨rfl, rfl⟩ := h
      exact ⟨⟨_, rfl⟩, rfl⟩
    · simp only [newO_eq, Option.some.injEq, R1.val.injEq] at h
      obtain ⟨rfl, rfl⟩ := h
      exact ⟨⟨_, rfl⟩, rfl⟩
    · simp at h
  case makeSlice t l c =>
    simp only [op_makeSlice] at h
    split at h
    · obtain ⟨v1, H1, hv, e⟩ := oP_some h
      simp only [R1.val.injEq] at e
      obtain ⟨rfl, rfl⟩ := e
      unfold makeSl at hv
      split at hv
      case h_2 => simp at hv
      split at hv
      case h_2 => simp at hv
      split at hv
      case h_2 => simp at hv
      simp only [newCells, newO_eq, Option.some.injEq, Prod.mk.injEq] at hv
      obtain ⟨rfl, rfl⟩ := hv
      exact ⟨⟨_, rfl⟩, rfl⟩
    · simp at h
  case call c =>
    exfalso
    split at hc
    · rename_i b hb
      cases b <;> simp at hc
    all_goals simp at hc

theorem new_ok (hE : E.Ok P) (hR : HR E B0 φ H w) (hF : FT φ fr a.tmps) {o : Oper} (hc : cls o.op = 2) {v : AV} {H' : AH} (h : opA E fr H o = some (.val v H')) :
    NR B0 φ H w v H' ((execOp a.eval o).run P w) := by
  unfold opA at h
  cases ho : o.op <;> rw [ho] at hc h <;> simp only [cls] at hc <;> (try (simp at hc; done))
  case alloc t => exact alloc_new hE hR ho h
  case box t x => exact box_new hR hF ho h
  case buildSlice t n ps => exact buildSlice_new hE hR hF ho h
  case makeMap t x => exact makeMap_new hE hR hF ho h
  case makeSlice t l c => exact makeSlice_new hE hR hF ho h
  case call c =>
    exfalso
    split at hc
    · rename_i b hb
      cases b <;> simp at hc
    all_goals simp at hc

/-! ### frames along a run -/
def Steps (E : Env) (rec : Task → Option Out) (ops : Array Oper) : List Info → AFr → AFr → Prop
  | [], f, g => f = g
  | x :: l, f, g => ∃ f1 v, f.put x.o.dst v = some f1 ∧ (x.c = 0 → ∀ Hc, valA E rec ops x.o f Hc = some (v, Hc)) ∧ Steps E rec ops l f1 g

theorem AFr.put_none {f f1 : AFr} {v : AV} (h : f.put none v = some f1) : f1 = f := by
  obtain ⟨nt, ex, tm, lo, ms⟩ := f
  simpa [AFr.put] using h.symm

theorem put_nt {f f1 : AFr} {dst : Option Nat} {v : AV} (h : f.put dst v = some f1) : f1.nt = f.nt ∧ f1.marks = f.marks := by
  cases dst with
  | none => rw [AFr.put_none h]; exact ⟨rfl, rfl⟩
  | some d => exact ⟨(AFr.get_put h).1, (AFr.get_put h).2.2.1⟩
theorem put_other {f f1 : AFr} {dst : Option Nat} {v : AV} (h : f.put dst v = some f1) {t : Nat} (ht : dst ≠ some t) : f1.get t = f.get t := by
  cases dst with
  | none => rw [AFr.put_none h]
  | some d => rw [(AFr.get_put h).2.2.2, if_neg (fun e => ht (by rw [e]))]
theorem put_same {f f1 : AFr} {d : Nat} {v : AV} (h : f.put (some d) v = some f1) : f1.get d = some v := by
  rw [(AFr.get_put h).2.2.2, if_pos rfl]

theorem Steps.append {rec : Task → Option Out} {k : List Info} : ∀ {l : List Info} {f g : AFr}, Steps E rec ops (l ++ k) f g ↔ ∃ h, Steps E rec ops l f h ∧ Steps E rec ops k h g
  | [], f, g => by simp [Steps]
  | x :: l, f, g => by
    simp only [List.cons_append, Steps]
    constructor
    · rintro ⟨f1, v, h1, h2, h3⟩
      obtain ⟨h, h4, h5⟩ := Steps.append.1 h3
      exact ⟨h, ⟨f1, v, h1, h2, h4⟩, h5⟩
    · rintro ⟨h, ⟨f1, v, h1, h2, h4⟩, h5⟩
      exact ⟨f1, v, h1, h2, Steps.append.2 ⟨h, h4, h5⟩⟩

theorem Steps.nt {rec : Task → Option Out} : ∀ {l : List Info} {f g : AFr}, Steps E rec ops l f g → g.nt = f.nt ∧ g.marks = f.marks
  | [], f, g, h => by simp only [Steps] at h; subst h; exact ⟨rfl, rfl⟩
  | x :: l, f, g, h => by
    obtain ⟨f1, v, h1, _, h3⟩ := h
    have := h3.nt
    rw [this.1, this.2]
    exact put_nt h1

theorem Steps.other {rec : Task → Option Out} {t : Nat} : ∀ {l : List Info} {f g : AFr}, Steps E rec ops l f g → (∀ x ∈ l, x.o.dst ≠ some t) → g.get t = f.get t
  | [], f, g, h, _ => by simp only [Steps] at h; subst h; rfl
  | x :: l, f, g, h, hx => by
    obtain ⟨f1, v, h1, _, h3⟩ := h
    rw [h3.other fun y hy => hx y (List.mem_cons_of_mem _ hy)]
    exact put_other h1 (hx x (by simp))

section
variable {rec : Task → Option Out} {l : List Info} {fr' : AFr} (cx : Cx ops l)
include cx

/-- what is laid stays -/
theorem persist {pre suf : List Info} (hp : ∀ x ∈ pre, x ∈ l) (hs : ∀ x ∈ suf, x ∈ l) (hleg : LegalF pre suf) {F : AFr} (h : Steps E rec ops suf F fr') {y : Info} (hy : y ∈ pre) {t : Nat} (hd : y.o.dst = some t) : F.get t = fr'.get t :=
  (h.other fun z hz => cx.dst_ne (hs z hz) (hp y hy) (hleg.ne y hy z hz) hd).symm

def ReadsAt (l : List Info) (fr fr' : AFr) (x : Info) (f : AFr) (t : Nat) : Prop :=
  (∃ y ∈ l, y.o.dst = some t ∧ inMask x.m y.i = true ∧ f.get t = fr'.get t) ∨ ((∀ y ∈ l, y.o.dst = some t → y.i = x.i ∨ inMask y.m x.i = true) ∧ f.get t = fr.get t)
def ReadsAll (ops : Array Oper) (l : List Info) (fr fr' : AFr) (x : Info) (f : AFr) : Prop := ∀ t ∈ x.o.looksAt ops, ReadsAt l fr fr' x f t

theorem reads_ok {pre suf : List Info} (hp : ∀ x ∈ pre, x ∈ l) (hs : ∀ x ∈ suf, x ∈ l) (hleg : LegalF [] (pre ++ suf)) {F : AFr} (h1 : Steps E rec ops pre fr F) (h2 : Steps E rec ops suf F fr')
    {x : Info} (hx : x ∈ l) (hm : ∀ y ∈ l, inMask x.m y.i = true → y.o.dst ≠ none → y ∈ pre) (hn : (∀ y ∈ pre, y.i ≠ x.i) ∨ x.c = 1 ∨ x.c = 2) : ReadsAll ops l fr fr' x F := by
  obtain ⟨hl1, hl2⟩ := LegalF.append.1 hleg
  rw [List.nil_append] at hl2
  intro t ht
  by_cases hw : ∃ y ∈ l, y.o.dst = some t
  · obtain ⟨y, hy, hd⟩ := hw
    have uniq : ∀ y' ∈ l, y'.o.dst = some t → y' = y := fun y' hy' hd' => by
      by_cases e : y'.i = y.i
      · exact cx.inj y' hy' y hy e
      · exact absurd hd (cx.dst_ne hy hy' e hd')
    rcases cx.look hx hy hd ht with ⟨e, c1, c2⟩ | ⟨e, hor⟩
    · right
      refine ⟨fun y' hy' hd' => .inl (by rw [uniq y' hy' hd', e]), h1.other fun z hz hzd => ?_⟩
      rcases hn with hn | hn | hn
      · exact hn z hz (by rw [uniq z (hp z hz) hzd, e])
      · exact c1 hn
      · exact c2 hn
    · rcases hor with hor | ⟨hor, c1, c2⟩
      · left
        have hz := hm y hy hor (by rw [hd]; simp)
        exact ⟨y, hy, hd, hor, persist cx hp hs hl2 h2 hz hd⟩
      · right
        refine ⟨fun y' hy' hd' => .inr (by rw [uniq y' hy' hd']; exact hor), h1.other fun z hz hzd => ?_⟩
        have hzy := uniq z (hp z hz) hzd
        subst hzy
        rcases hn with hn | hn | hn
        · obtain ⟨u, hu, eu⟩ := hl1.closed z hz _ hor
          exact hn u (by simpa using hu) eu
        · exact c1 hn
        · exact c2 hn
  · right
    exact ⟨fun y hy hd => absurd ⟨y, hy, hd⟩ hw, h1.other fun z hz hzd => hw ⟨z, hp z hz, hzd⟩⟩

theorem of_mask {pre : List Info} (hp : ∀ x ∈ pre, x ∈ l) {m : Nat} (h : ∀ j, inMask m j = true → ∃ y ∈ pre, y.i = j) : ∀ y ∈ l, inMask m y.i = true → y.o.dst ≠ none → y ∈ pre := fun y hy hm _ => by
  obtain ⟨z, hz, e⟩ := h _ hm
  rw [← cx.inj z (hp z hz) y hy e]
  exact hz

/-- operations of the first class, wherever they come up -/
theorem canon0 {S : List Info} (hS : ∀ x ∈ S, x ∈ l) (hleg : LegalF [] S) (h : Steps E rec ops S fr fr') {x : Info} (hx : x ∈ S) (hc : x.c = 0) :
    ∃ f1 v, f1.nt = fr.nt ∧ ReadsAll ops l fr fr' x f1 ∧ (∀ Hc, valA E rec ops x.o f1 Hc = some (v, Hc)) ∧ ∀ d, x.o.dst = some d → fr'.get d = some v := by
  obtain ⟨p1, p2, rfl⟩ := List.append_of_mem hx
  obtain ⟨f1, h1, h2⟩ := Steps.append.1 h
  have hl := (LegalF.append.1 hleg).2
  rw [List.nil_append] at hl
  have h2' := h2
  obtain ⟨f2, v, h3, h4, h5⟩ := h2'
  refine ⟨f1, v, h1.nt.1, ?_, h4 hc, fun d hd => ?_⟩
  · exact reads_ok cx (fun y hy => hS y (by simp [hy])) (fun y hy => hS y (List.mem_append_right _ hy)) hleg h1 h2 (hS x hx) (of_mask cx (fun y hy => hS y (by simp [hy])) hl.1) (.inl hl.2.1)
  · rw [hd] at h3
    rw [← put_same h3]
    have hl3 := hl.2.2
    exact (persist cx (pre := p1 ++ [x]) (suf := p2) (fun y hy => hS y (by rcases List.mem_append.1 hy with h | h <;> simp_all)) (fun y hy => hS y (by simp [hy])) hl3 h5 (by simp) hd).symm

/-! ### operations without effects -/
/-- the id of the object that an operation lays -/
def RefI (fr' : AFr) (x : Info) (i : Nat) : Prop := x.c = 2 ∧ ∃ d v, x.o.dst = some d ∧ fr'.get d = some v ∧ refOf v = some i

omit cx in
theorem RefI.eq {x : Info} {i j : Nat} (h : RefI fr' x i) (k : RefI fr' x j) : i = j := by
  obtain ⟨_, d, v, h1, h2, h3⟩ := h
  obtain ⟨_, d', v', k1, k2, k3⟩ := k
  rw [h1] at k1; cases k1
  rw [h2] at k2; cases k2
  rw [h3] at k3; exact Option.some.inj k3

structure Quiet (fr' : AFr) (q : List Info) (H0 G : AH) : Prop where
  le : H0.nx ≤ G.nx
  old : ∀ i, i < H0.nx → G.get i = H0.get i
  fresh : (∀ i, H0.nx ≤ i → H0.get i = none) → ∀ i, G.nx ≤ i → G.get i = none
  ids : ∀ x ∈ q, ∀ i, RefI fr' x i → H0.nx ≤ i ∧ i < G.nx
  one : ∀ x ∈ q, ∀ y ∈ q, ∀ i, RefI fr' x i → RefI fr' y i → x.i = y.i

omit cx in
theorem doQ_cases {x : Info} {f f1 : AFr} {h h1 : AH} (hg : x.c = cls x.o.op) (hq : doQ E ops x f h = some (f1, h1)) :
    ∃ v, f.put x.o.dst v = some f1 ∧ ((h1 = h ∧ (x.c = 2 → refOf v = none)) ∨ (x.c = 2 ∧ (∃ obj, h1 = h.new obj) ∧ refOf v = some h.nx)) ∧
      (x.c = 0 → ∀ Hc, valA E rec ops x.o f Hc = some (v, Hc)) := by
  have fin' : ∀ {v : AV} {H1 : AH}, fin x.o f v H1 = some (f1, h1) → H1 = h1 ∧ f.put x.o.dst v = some f1 := by
    intro v H1 hf
    unfold fin at hf
    split at hf
    case h_2 => simp at hf
    rename_i f2 h2
    simp only [Option.some.injEq, Prod.mk.injEq] at hf
    obtain ⟨rfl, rfl⟩ := hf
    exact ⟨rfl, h2⟩
  unfold doQ at hq
  simp only [opF_eq] at hq
  split at hq
  · simp at hq
  rename_i b hb
  split at hq
  · obtain ⟨rfl, h2⟩ := fin' hq
    exact ⟨_, h2, .inl ⟨rfl, fun _ => rfl⟩, fun _ Hc => by unfold valA; rw [hb]⟩
  · split at hq
    case h_2 => simp at hq
    rename_i r hop
    split at hq
    · rename_i v
      split at hq
      · simp at hq
      rename_i hc
      obtain ⟨rfl, h2⟩ := fin' hq
      have hc' : x.c ≠ 2 := fun e => by rw [e] at hc; simp at hc
      refine ⟨v, h2, .inl ⟨rfl, fun e => absurd e hc'⟩, fun h0 Hc => ?_⟩
      unfold valA
      rw [hb]
      simp only
      rw [(opA_indep (by rw [← hg, h0]) Hc _).trans hop]
      rfl
    · rename_i v H1
      split at hq
      · rename_i hc
        rw [fH_eq] at hq
        obtain ⟨rfl, h2⟩ := fin' hq
        have hc' : x.c = 2 := Nat.eq_of_beq_eq_true hc
        obtain ⟨k1, k2⟩ := opA_new (by rw [← hg, hc']) hop
        exact ⟨v, h2, .inr ⟨hc', k1, k2⟩, fun h0 => by rw [hc'] at h0; simp at h0⟩
      · simp at hq
    · simp at hq

theorem quiet_ok {suf : List Info} (hs : ∀ x ∈ suf, x ∈ l) {F : AFr} {G : AH} : ∀ {q pre : List Info} {f : AFr} {h : AH}, (∀ x ∈ q, x ∈ l) → (∀ x ∈ pre, x ∈ l) → LegalF pre (q ++ suf) → Steps E rec ops suf F fr' →
    runQ E ops q f h = some (F, G) → Quiet fr' q h G ∧ Steps E rec ops q f F
  | [], pre, f, h, _, _, _, _, hr => by
    simp only [runQ, Option.some.injEq, Prod.mk.injEq] at hr
    obtain ⟨rfl, rfl⟩ := hr
    exact ⟨⟨Nat.le_refl _, fun _ _ => rfl, fun h => h, fun x hx => by simp at hx, fun x hx => by simp at hx⟩, rfl⟩
  | x :: q, pre, f, h, hq, hp, hleg, hst, hr => by
    simp only [runQ] at hr
    split at hr
    case h_2 => simp at hr
    rename_i f1 h1 hx1
    simp only [List.cons_append] at hleg
    have hp' : ∀ y ∈ pre ++ [x], y ∈ l := fun y hy => by
      rcases List.mem_append.1 hy with hy | hy
      · exact hp y hy
      · simp only [List.mem_singleton] at hy; subst hy; exact hq y (by simp)
    obtain ⟨hQ, hS⟩ := quiet_ok hs (pre := pre ++ [x]) (fun y hy => hq y (List.mem_cons_of_mem _ hy)) hp' hleg.2.2 hst hr
    obtain ⟨v, hput, hcase, h0⟩ := doQ_cases (rec := rec) (cx.good x (hq x (by simp))).2 hx1
    have hall : Steps E rec ops (q ++ suf) f1 fr' := Steps.append.2 ⟨F, hS, hst⟩
    have hval : ∀ d, x.o.dst = some d → fr'.get d = some v := fun d hd => by
      rw [hd] at hput
      rw [← put_same hput]
      exact (persist cx hp' (fun y hy => by
        rcases List.mem_append.1 hy with hy | hy
        · exact hq y (List.mem_cons_of_mem _ hy)
        · exact hs y hy) hleg.2.2 hall (by simp) hd).symm
    have hrx : ∀ i, RefI fr' x i → refOf v = some i := by
      rintro i ⟨_, d, v', e1, e2, e3⟩
      rw [hval d e1] at e2
      cases e2
      exact e3
    refine ⟨?_, f1, v, hput, h0, hS⟩
    rcases hcase with ⟨rfl, hn⟩ | ⟨h2, ⟨obj, rfl⟩, hrf⟩
    · have hno : ∀ i, ¬ RefI fr' x i := fun i hi => by have := hrx i hi; rw [hn hi.1] at this; simp at this
      refine ⟨hQ.le, hQ.old, hQ.fresh, fun y hy i hi => ?_, fun y hy z hz i hi hj => ?_⟩
      · rcases List.mem_cons.1 hy with rfl | hy
        · exact absurd hi (hno i)
        · exact hQ.ids y hy i hi
      · rcases List.mem_cons.1 hy with rfl | hy
        · exact absurd hi (hno i)
        · rcases List.mem_cons.1 hz with rfl | hz
          · exact absurd hj (hno i)
          · exact hQ.one y hy z hz i hi hj
    · have hle := hQ.le
      rw [AH.nx_new] at hle
      have hxi : ∀ i, RefI fr' x i → i = h.nx := fun i hi => by
        have := hrx i hi
        rw [hrf] at this
        exact (Option.some.inj this).symm
      have hqi : ∀ y ∈ q, ∀ i, RefI fr' y i → h.nx < i ∧ i < G.nx := fun y hy i hi => by
        have := hQ.ids y hy i hi
        rw [AH.nx_new] at this
        exact ⟨by omega, this.2⟩
      refine ⟨by omega, fun i hi => ?_, fun hfr i hi => ?_, fun y hy i hi => ?_, fun y hy z hz i hi hj => ?_⟩
      · rw [hQ.old i (by rw [AH.nx_new]; omega), AH.get_new, if_neg (by omega)]
      · refine hQ.fresh (fun j hj => ?_) i hi
        rw [AH.nx_new] at hj
        rw [AH.get_new, if_neg (by omega)]
        exact hfr j (by omega)
      · rcases List.mem_cons.1 hy with e | hy2
        · rw [hxi i (e ▸ hi)]; omega
        · have := hqi y hy2 i hi
          omega
      · rcases List.mem_cons.1 hy with e | hy2
        · rcases List.mem_cons.1 hz with e' | hz2
          · rw [e, e']
          · have := hxi i (e ▸ hi)
            have := hqi z hz2 i hj
            omega
        · rcases List.mem_cons.1 hz with e' | hz2
          · have := hxi i (e' ▸ hj)
            have := hqi y hy2 i hi
            omega
          · exact hQ.one y hy2 z hz2 i hi hj

omit cx in
theorem doOp_steps {o : Info} (h3 : o.c ≠ 0) {f f1 : AFr} {h h1 : AH} (hd : doOp E rec ops o.o f h = some (f1, h1)) : Steps E rec ops [o] f f1 := by
  obtain ⟨v, _, hp⟩ := doOp_val hd
  exact ⟨f1, v, hp, fun e => absurd e h3, rfl⟩

omit cx in
theorem runIs_steps : ∀ {g : List Info} {f f1 : AFr} {h h1 : AH}, (∀ x ∈ g, x.c ≠ 0) → runIs E rec ops g f h = some (f1, h1) → Steps E rec ops g f f1
  | [], f, f1, h, h1, _, hr => by
    simp only [runIs, Option.some.injEq, Prod.mk.injEq] at hr
    exact hr.1
  | x :: g, f, f1, h, h1, hg, hr => by
    simp only [runIs] at hr
    split at hr
    case h_2 => simp at hr
    rename_i f2 h2 hx
    rw [show x :: g = [x] ++ g from rfl]
    exact Steps.append.2 ⟨f2, doOp_steps (hg x (by simp)) hx, runIs_steps (fun y hy => hg y (List.mem_cons_of_mem _ hy)) hr⟩

omit cx in
theorem runQ_steps {hg : ∀ x ∈ l, x.c = cls x.o.op} : ∀ {q : List Info} {f f1 : AFr} {h h1 : AH}, (∀ x ∈ q, x ∈ l) → runQ E ops q f h = some (f1, h1) → Steps E rec ops q f f1
  | [], f, f1, h, h1, _, hr => by
    simp only [runQ, Option.some.injEq, Prod.mk.injEq] at hr
    exact hr.1
  | x :: g, f, f1, h, h1, hq, hr => by
    simp only [runQ] at hr
    split at hr
    case h_2 => simp at hr
    rename_i f2 h2 hx
    obtain ⟨v, hput, _, h0⟩ := doQ_cases (rec := rec) (hg x (hq x (by simp))) hx
    exact ⟨f2, v, hput, h0, runQ_steps (hg := hg) (fun y hy => hq y (List.mem_cons_of_mem _ hy)) hr⟩

omit cx in
theorem runSt_steps {hg : ∀ x ∈ l, x.c = cls x.o.op} : ∀ {qs rs : List (List Info)} {es : List Info} {f f1 : AFr} {h h1 : AH}, (∀ q ∈ qs, ∀ x ∈ q, x ∈ l) → (∀ e ∈ es, e.c ≠ 0) → runSt E rec ops qs rs es f h = some (f1, h1) → Steps E rec ops (flatS qs es) f f1
  | q :: qs, r :: rs, es, f, f1, h, h1, hq, he, hr => by
    simp only [runSt] at hr
    split at hr
    · simp at hr
    rename_i f2 h2 hx
    have s1 := runQ_steps (rec := rec) (hg := hg) (hq q (by simp)) hx
    split at hr
    · simp at hr
    split at hr
    · simp only [Option.some.injEq, Prod.mk.injEq] at hr
      obtain ⟨rfl, rfl⟩ := hr
      simpa [flatS] using s1
    · rename_i e es
      split at hr
      · simp at hr
      rename_i f3 h3 hd
      split at hr
      · simp at hr
      simp only [flatS]
      refine Steps.append.2 ⟨f2, s1, ?_⟩
      rw [show e :: flatS qs es = [e] ++ flatS qs es from rfl]
      exact Steps.append.2 ⟨f3, doOp_steps (he e (by simp)) hd, runSt_steps (hg := hg) (fun q' hq' => hq q' (List.mem_cons_of_mem _ hq')) (fun e' he' => he e' (List.mem_cons_of_mem _ he')) hr⟩
  | [], _, _, _, _, _, _, _, _, h => by simp [runSt] at h
  | _ :: _, [], _, _, _, _, _, _, _, h => by simp [runSt] at h

end
end Go.Uf
end

/-
  Regions that draw their order: the stages.
-/
noncomputable section
namespace Go.Uf
open Go.RowKit (Below)

variable {E : Env} {P : Program} {B0 : Nat} {φ : Phi} {H : AH} {w : World} {fr : AFr} {a : Act} {ops : Array Oper}

/-- what is read or laid again at a stage's end -/
def Rev (E : Env) (rec : Task → Option Out) (ops : Array Oper) (l : List Info) (fr fr' : AFr) (pre : List Info) (F : AFr) (G : AH) (x : Info) : Prop :=
  x ∈ pre ∧ ReadsAll ops l fr fr' x F ∧ ∃ d v, x.o.dst = some d ∧ fr'.get d = some v ∧
    (((x.c = 2 → refOf v = none) ∧ valA E rec ops x.o F G = some (v, G)) ∨
     (x.c = 2 ∧ wantedA ops x.o F = some true ∧ ∃ v' G', opA E F G x.o = some (.val v' G') ∧ v = reid (idOf v) v' ∧ idOf v < G.nx ∧ eqAO (G'.get G.nx) (G.get (idOf v)) = true))

structure Fact (E : Env) (rec : Task → Option Out) (ops : Array Oper) (l : List Info) (fr fr' : AFr) (H : AH) (pre : List Info) (F : AFr) (G : AH) (p n : Option Info) : Prop where
  sub : ∀ x ∈ pre, x ∈ l
  nt : F.nt = fr.nt
  lo : ∀ x ∈ pre, ∀ i, RefI fr' x i → H.nx ≤ i ∧ i < G.nx
  one : ∀ x ∈ pre, ∀ y ∈ pre, ∀ i, RefI fr' x i → RefI fr' y i → x.i = y.i
  rev : ∀ x ∈ l, x.c = 1 ∨ x.c = 2 → (∃ e, p = some e ∧ inMask e.m x.i = true) ∨ (∃ e, n = some e ∧ inMask x.m e.i = true) ∨ Rev E rec ops l fr fr' pre F G x

inductive Run (E : Env) (rec : Task → Option Out) (ops : Array Oper) (l grp : List Info) (fr fr' : AFr) (H : AH) (Fm : AFr) (Gm : AH) : Option Info → List Info → AFr → AH → List Info → Prop where
  | last {p : Option Info} {pre : List Info} (f : Fact E rec ops l fr fr' H pre Fm Gm p none) : Run E rec ops l grp fr fr' H Fm Gm p pre Fm Gm []
  | more {p : Option Info} {pre : List Info} {F : AFr} {G : AH} {e : Info} {es : List Info} {v : AV} {H1 : AH} {q : List Info} {F2 : AFr} {G2 : AH}
      (f : Fact E rec ops l fr fr' H pre F G p (some e)) (hel : e ∈ l) (hc : e.c = 3) (hrd : ReadsAll ops l fr fr' e F) (hch : ∀ e' ∈ es, inMask e'.m e.i = true) (hg : ∀ g ∈ grp, inMask g.m e.i = true)
      (hv : valA E rec ops e.o F G = some (v, H1)) (hd : ∀ d, e.o.dst = some d → fr'.get d = some v) (hnx : G.nx ≤ H1.nx) (hq : Quiet fr' q H1 G2)
      (r : Run E rec ops l grp fr fr' H Fm Gm (some e) (pre ++ e :: q) F2 G2 es) : Run E rec ops l grp fr fr' H Fm Gm p pre F G (e :: es)

theorem Run.fact {rec : Task → Option Out} {l grp : List Info} {fr' Fm F : AFr} {Gm G : AH} {p : Option Info} {pre es : List Info} (r : Run E rec ops l grp fr fr' H Fm Gm p pre F G es) :
    Fact E rec ops l fr fr' H pre F G p es.head? := by
  cases r with
  | last f => exact f
  | more f => exact f

theorem againAll_mem {F : AFr} {G : AH} : ∀ {r : List Info}, againAll E ops F G r = true → ∀ x ∈ r, again E ops F G x = true
  | [], _, x, hx => by simp at hx
  | y :: r, h, x, hx => by
    simp only [againAll] at h
    split at h
    · rename_i hy
      rcases List.mem_cons.1 hx with rfl | hx
      · exact hy
      · exact againAll_mem h x hx
    · simp at h

theorem needR_no {p n : Option Info} {x : Info} (hc : x.c = 1 ∨ x.c = 2) (h : ¬ needR p n x = true) : (∃ e, p = some e ∧ inMask e.m x.i = true) ∨ (∃ e, n = some e ∧ inMask x.m e.i = true) := by
  have h12 : (Nat.beq x.c 1 || Nat.beq x.c 2) = true := by rcases hc with e | e <;> rw [e] <;> rfl
  unfold needR at h
  rw [h12, Bool.true_and] at h
  cases p with
  | none =>
    cases n with
    | none => simp at h
    | some e => exact .inr ⟨e, rfl, by simpa using h⟩
  | some e =>
    cases n with
    | none => exact .inl ⟨e, rfl, by simpa using h⟩
    | some e' =>
      cases hq : inMask e.m x.i with
      | true => exact .inl ⟨e, rfl, hq⟩
      | false => exact .inr ⟨e', rfl, by simpa [hq] using h⟩
theorem needR_c {p n : Option Info} {x : Info} (h : needR p n x = true) : x.c = 1 ∨ x.c = 2 := by
  unfold needR at h
  simp only [Bool.and_eq_true, Bool.or_eq_true] at h
  rcases h.1 with h | h
  · exact .inl (Nat.eq_of_beq_eq_true h)
  · exact .inr (Nat.eq_of_beq_eq_true h)

theorem again_rev {rec : Task → Option Out} {l pre : List Info} {fr' F : AFr} {G : AH} {x : Info} (hx : x ∈ pre) (hr : ReadsAll ops l fr fr' x F) (hp : ∀ d, x.o.dst = some d → F.get d = fr'.get d)
    (h : again E ops F G x = true) : Rev E rec ops l fr fr' pre F G x := by
  unfold again at h
  simp only [opF_eq] at h
  split at h
  · simp at h
  rename_i d hd
  split at h
  case h_2 => simp at h
  rename_i v b hv hb
  refine ⟨hx, hr, d, v, hd, by rw [← hp d hd, hv], ?_⟩
  split at h
  · left
    split at h
    · exact ⟨fun _ => rfl, by unfold valA; rw [hb]⟩
    · simp at h
  · split at h
    case h_2 => simp at h
    rename_i r hop
    split at h
    · rename_i v'
      left
      simp only [Bool.and_eq_true, Nat.beq_eq] at h
      have := eqAV_eq h.2
      subst this
      refine ⟨fun e => by omega, ?_⟩
      unfold valA
      rw [hb]
      simp only [hop]
      rfl
    · rename_i v' G'
      right
      simp only [Bool.and_eq_true, Nat.beq_eq] at h
      obtain ⟨h1, ⟨h2, h3⟩, h4⟩ := h
      exact ⟨h1, hb, v', G', hop, eqAV_eq h3, by simpa [Nat.blt_eq] using h2, h4⟩
    · simp at h

section
variable {rec : Task → Option Out} {l : List Info} {fr' : AFr} (cx : Cx ops l)
include cx

theorem run_of {T : List Info} {Fm : AFr} {Gm : AH} {grp : List Info} (hT : ∀ x ∈ T, x ∈ l) (hTs : Steps E rec ops T Fm fr') : ∀ {qs rs : List (List Info)} {es : List Info} {p : Option Info} {pre : List Info} {D D' : Nat} {F0 : AFr} {H0 : AH},
    (∀ q ∈ qs, ∀ x ∈ q, x ∈ l ∧ x.c ≠ 3) → (∀ e ∈ es, e ∈ l ∧ e.c = 3) → (∀ g ∈ grp, ∀ e ∈ es, inMask g.m e.i = true) → (∀ x ∈ flatS qs es, x ∈ l) →
    chkSt D qs rs es = some D' → MaskOf D pre → rs = layR l p es → (∀ x ∈ pre, x ∈ l) → LegalF [] (pre ++ (flatS qs es ++ T)) → Steps E rec ops pre fr F0 →
    (∀ x ∈ pre, ∀ i, RefI fr' x i → H.nx ≤ i ∧ i < H0.nx) → (∀ x ∈ pre, ∀ y ∈ pre, ∀ i, RefI fr' x i → RefI fr' y i → x.i = y.i) → H.nx ≤ H0.nx →
    runSt E rec ops qs rs es F0 H0 = some (Fm, Gm) → ∃ q F G, Quiet fr' q H0 G ∧ Run E rec ops l grp fr fr' H Fm Gm p (pre ++ q) F G es
  | q :: qs, r :: rs, es, p, pre, D, D', F0, H0, hqs, hes, hgrp, hfl, hchk, hD, hrs, hpre, hleg, hst, hlo, hone, hnx, hrun => by
    simp only [runSt] at hrun
    split at hrun
    · simp at hrun
    rename_i F1 G1 hq1
    split at hrun
    · simp at hrun
    rename_i hag
    simp only [chkSt] at hchk
    split at hchk
    · simp at hchk
    rename_i D1 hD1
    obtain ⟨_, hM1⟩ := legalB_ok hD1 hD
    split at hchk
    · simp at hchk
    rename_i hall
    have hgc : ∀ x ∈ l, x.c = cls x.o.op := fun x hx => (cx.good x hx).2
    have hql : ∀ x ∈ q, x ∈ l := fun x hx => (hqs q (by simp) x hx).1
    -- the rest, whatever it is
    have key : ∀ (suf : List Info) (n : Option Info), (∀ x ∈ suf, x ∈ l) → LegalF [] (pre ++ (q ++ suf)) → Steps E rec ops suf F1 fr' → r = l.filter (needR p n) →
        Quiet fr' q H0 G1 ∧ Steps E rec ops (pre ++ q) fr F1 ∧ Fact E rec ops l fr fr' H (pre ++ q) F1 G1 p n ∧ (∀ x ∈ pre ++ q, x ∈ l) := by
      intro suf n hsl hlg hsuf hr
      have hlg2 := (LegalF.append.1 hlg).2
      rw [List.nil_append] at hlg2
      obtain ⟨hQ, hS⟩ := quiet_ok cx hsl hql hpre hlg2 hsuf hq1
      have hpq : ∀ x ∈ pre ++ q, x ∈ l := fun x hx => by
        rcases List.mem_append.1 hx with h | h
        · exact hpre x h
        · exact hql x h
      have hSp : Steps E rec ops (pre ++ q) fr F1 := Steps.append.2 ⟨F0, hst, hS⟩
      have hlg3 : LegalF [] ((pre ++ q) ++ suf) := by rw [List.append_assoc]; exact hlg
      have hlg4 := (LegalF.append.1 hlg3).2
      rw [List.nil_append] at hlg4
      refine ⟨hQ, hSp, ⟨hpq, hSp.nt.1, fun x hx i hi => ?_, fun x hx y hy i hi hj => ?_, fun x hx hc => ?_⟩, hpq⟩
      · rcases List.mem_append.1 hx with h | h
        · have := hlo x h i hi
          have := hQ.le
          omega
        · have := hQ.ids x h i hi
          omega
      · rcases List.mem_append.1 hx with h | h <;> rcases List.mem_append.1 hy with k | k
        · exact hone x h y k i hi hj
        · have := hlo x h i hi
          have := hQ.ids y k i hj
          omega
        · have := hlo y k i hj
          have := hQ.ids x h i hi
          omega
        · exact hQ.one x h y k i hi hj
      · by_cases hn : needR p n x = true
        · right; right
          have hxr : x ∈ r := by rw [hr]; exact List.mem_filter.2 ⟨hx, hn⟩
          rw [List.all_eq_true] at hall
          obtain ⟨y, hy, e⟩ := (hM1 x.i).1 (hall x hxr)
          have hyx : y = x := cx.inj y (hpq y hy) x hx e
          subst hyx
          refine again_rev hy ?_ (fun d hd => persist cx hpq hsl hlg4 hsuf hy hd) (againAll_mem hag y hxr)
          refine reads_ok cx hpq hsl hlg3 hSp hsuf hx (of_mask cx hpq fun j hj => ?_) (.inr hc)
          obtain ⟨z, hz, ez⟩ := (LegalF.append.1 hlg3).1.closed y hy j hj
          exact ⟨z, by simpa using hz, ez⟩
        · rcases needR_no hc hn with h | h
          · exact .inl h
          · exact .inr (.inl h)
    cases es with
    | nil =>
      simp only [Option.some.injEq, Prod.mk.injEq] at hrun
      obtain ⟨rfl, rfl⟩ := hrun
      simp only [layR, List.cons.injEq] at hrs
      simp only [flatS, List.append_nil] at hleg
      obtain ⟨hQ, _, hf, _⟩ := key T none hT hleg hTs hrs.1
      exact ⟨q, F1, G1, hQ, .last hf⟩
    | cons e es =>
      simp only at hrun hchk
      split at hrun
      · simp at hrun
      rename_i F2 H2 hdo
      split at hrun
      · simp at hrun
      rename_i hble
      have hble : G1.nx ≤ H2.nx := by simpa [Nat.ble_eq] using hble
      split at hchk
      · simp at hchk
      rename_i hch
      split at hchk
      · simp at hchk
      rename_i D2 hD2
      obtain ⟨_, hM2⟩ := legalB_ok hD2 hM1
      simp only [layR, List.cons.injEq] at hrs
      obtain ⟨hel, hec⟩ := hes e (by simp)
      have hes' : ∀ e' ∈ es, e' ∈ l ∧ e'.c = 3 := fun e' he' => hes e' (List.mem_cons_of_mem _ he')
      have hqs' : ∀ q' ∈ qs, ∀ x ∈ q', x ∈ l ∧ x.c ≠ 3 := fun q' hq' => hqs q' (List.mem_cons_of_mem _ hq')
      simp only [flatS] at hleg hfl
      have hst2 : Steps E rec ops (flatS qs es) F2 Fm := runSt_steps (hg := hgc) (fun q' hq' x hx => (hqs' q' hq' x hx).1) (fun e' he' h0 => by have := (hes' e' he').2; omega) hrun
      have hst1 : Steps E rec ops [e] F1 F2 := doOp_steps (by omega) hdo
      have hsuf : Steps E rec ops (e :: flatS qs es ++ T) F1 fr' := by
        rw [show e :: flatS qs es ++ T = [e] ++ (flatS qs es ++ T) by simp]
        exact Steps.append.2 ⟨F2, hst1, Steps.append.2 ⟨Fm, hst2, hTs⟩⟩
      have hfl' : ∀ x ∈ flatS qs es, x ∈ l := fun x hx => hfl x (by simp [hx])
      have hsl : ∀ x ∈ e :: flatS qs es ++ T, x ∈ l := fun x hx => by
        rcases List.mem_append.1 hx with h | h
        · rcases List.mem_cons.1 h with rfl | h
          · exact hel
          · exact hfl' x h
        · exact hT x h
      rw [List.append_assoc] at hleg
      obtain ⟨hQ, hSp, hf, hpq⟩ := key _ (some e) hsl hleg hsuf hrs.1
      have hleg1 : LegalF [] ((pre ++ q) ++ (e :: flatS qs es ++ T)) := by rw [List.append_assoc]; exact hleg
      have hle := (LegalF.append.1 hleg1).2
      rw [List.nil_append] at hle
      simp only [List.cons_append, LegalF] at hle
      have hleg2 : LegalF [] ((pre ++ q ++ [e]) ++ (flatS qs es ++ T)) := by
        rw [show (pre ++ q ++ [e]) ++ (flatS qs es ++ T) = (pre ++ q) ++ (e :: flatS qs es ++ T) by simp]
        exact hleg1
      have hpe : ∀ x ∈ pre ++ q ++ [e], x ∈ l := fun x hx => by
        rcases List.mem_append.1 hx with h | h
        · exact hpq x h
        · simp only [List.mem_singleton] at h; subst h; exact hel
      have hnoref : ∀ i, ¬ RefI fr' e i := fun i hi => by have := hi.1; omega
      obtain ⟨q2, F3, G3, hQ2, hR2⟩ := run_of hT hTs (grp := grp) (p := some e) (pre := pre ++ q ++ [e]) hqs' hes' (fun g hg e' he' => hgrp g hg e' (List.mem_cons_of_mem _ he')) hfl' hchk hM2 hrs.2 hpe hleg2
        (Steps.append.2 ⟨F1, hSp, hst1⟩)
        (fun x hx i hi => by
          rcases List.mem_append.1 hx with h | h
          · have := hf.lo x h i hi; omega
          · simp only [List.mem_singleton] at h; subst h; exact absurd hi (hnoref i))
        (fun x hx y hy i hi hj => by
          rcases List.mem_append.1 hx with h | h
          · rcases List.mem_append.1 hy with k | k
            · exact hf.one x h y k i hi hj
            · simp only [List.mem_singleton] at k; subst k; exact absurd hj (hnoref i)
          · simp only [List.mem_singleton] at h; subst h; exact absurd hi (hnoref i))
        (by have := hQ.le; omega) hrun
      obtain ⟨v, hval, hput⟩ := doOp_val hdo
      refine ⟨q, F1, G1, hQ, .more hf hel hec ?_ (by simpa [List.all_eq_true] using hch) (fun g hg => hgrp g hg e (by simp)) hval (fun d hd => ?_) hble hQ2 (by simpa using hR2)⟩
      · exact reads_ok cx hpq hsl hleg1 hSp hsuf hel (of_mask cx hpq hle.1) (.inl hle.2.1)
      · rw [hd] at hput
        rw [← put_same hput]
        exact (persist cx hpe (suf := flatS qs es ++ T) (fun x hx => by
          rcases List.mem_append.1 hx with h | h
          · exact hfl' x h
          · exact hT x h) hle.2.2 (Steps.append.2 ⟨Fm, hst2, hTs⟩) (by simp) hd).symm
  | [], _, _, _, _, _, _, _, _, _, _, _, _, h, _, _, _, _, _, _, _, _, _ => by simp [chkSt] at h
  | _ :: _, [], _, _, _, _, _, _, _, _, _, _, _, h, _, _, _, _, _, _, _, _, _ => by simp [chkSt] at h

omit cx in
theorem Steps.lt {rec : Task → Option Out} : ∀ {S : List Info} {f g : AFr}, Steps E rec ops S f g → ∀ x ∈ S, ∀ d, x.o.dst = some d → d < f.nt
  | [], _, _, _, x, hx, _, _ => by simp at hx
  | y :: S, f, g, h, x, hx, d, hd => by
    obtain ⟨f1, v, h1, _, h3⟩ := h
    rcases List.mem_cons.1 hx with rfl | hx
    · rw [hd] at h1
      exact (AFr.get_put h1).2.1
    · have := h3.lt x hx d hd
      rw [(put_nt h1).1] at this
      exact this

/-! ### the last stores -/
structure GrpOk (E : Env) (rec : Task → Option Out) (ops : Array Oper) (l grp : List Info) (fr fr' Fm : AFr) (Gm H' : AH) (tg : Nat → Nat) : Prop where
  nx : H'.nx = Gm.nx
  out : ∀ i, (∀ g ∈ grp, tg g.i ≠ i) → H'.get i = Gm.get i
  one : ∀ g ∈ grp, ∀ g' ∈ grp, tg g.i = tg g'.i → g.i = g'.i
  st : ∀ g ∈ grp, g ∈ l ∧ g.c = 3 ∧ g.o.dst = none ∧ ReadsAll ops l fr fr' g Fm ∧ (∀ x ∈ l, x.c = 1 ∨ x.c = 2 → inMask g.m x.i = true) ∧
    ∃ o, H'.get (tg g.i) = some o ∧ ∀ Hc, Hc.get (tg g.i) = Gm.get (tg g.i) → valA E rec ops g.o Fm Hc = some (.tup [], Hc.put (tg g.i) o)

omit cx in
theorem wr_local {Hc Hd : AH} {i u o : Nat} {k : List AV} (e : Hc.get i = Hd.get i) {H2 : AH} (h : Hd.wr i u o k = some H2) : ∃ b, H2 = Hd.put i b ∧ Hc.wr i u o k = some (Hc.put i b) := by
  unfold AH.wr at h ⊢
  rw [e]
  split at h
  case h_2 => simp at h
  split at h
  case h_2 => simp at h
  rename_i hb
  simp only [putO_eq, Option.some.injEq] at h
  subst h
  exact ⟨_, rfl, by simp only [putO_eq]⟩

omit cx in
theorem store_local {o : Oper} {t : Nat} {ax x : Operand} (ho : o.op = .store t ax x) {f : AFr} {i u q r : Nat} (ha : ev E f ax = some (.p i u q r)) {Hd H2 : AH} {v : AV} (hw : wantedA ops o f = some true)
    (h : valA E rec ops o f Hd = some (v, H2)) : v = .tup [] ∧ ∃ b, H2 = Hd.put i b ∧ ∀ Hc : AH, Hc.get i = Hd.get i → valA E rec ops o f Hc = some (.tup [], Hc.put i b) := by
  have hv : ∀ Hc, valA E rec ops o f Hc = match oH (match ev E f x with | some y => stA E t (.p i u q r) y Hc | none => none) with | none => none | some r => valR rec Hc r := by
    intro Hc
    unfold valA opA
    rw [hw, ho]
    simp only [op_store, ha]
    cases ev E f x <;> rfl
  rw [hv] at h
  cases hx : ev E f x with
  | none => rw [hx] at h; simp [oH] at h
  | some y =>
    rw [hx] at h
    simp only at h
    cases hs : stA E t (.p i u q r) y Hd with
    | none => rw [hs] at h; simp [oH] at h
    | some H3 =>
      rw [hs] at h
      simp only [oH, valR, Option.some.injEq, Prod.mk.injEq] at h
      obtain ⟨rfl, rfl⟩ := h
      refine ⟨rfl, ?_⟩
      unfold stA at hs
      simp only at hs
      split at hs
      case h_2 => simp at hs
      rename_i n hn
      split at hs
      case h_2 => simp at hs
      rename_i hb
      obtain ⟨b, e1, _⟩ := wr_local (Hc := Hd) rfl hs
      refine ⟨b, e1, fun Hc e => ?_⟩
      obtain ⟨b', e1', e2'⟩ := wr_local e hs
      have hbb : b' = b := by
        have h1 : (Hd.put i b).get i = (Hd.put i b').get i := by rw [← e1, ← e1']
        rw [AH.get_put, AH.get_put, if_pos rfl, if_pos rfl] at h1
        exact (Option.some.inj h1).symm
      subst hbb
      rw [hv, hx]
      simp only [stA, hn, hb, e2', oH, valR]

omit cx in
/-- the group's stores in a row -/
theorem grp_run : ∀ {g : List Info} {Fm f1 : AFr} {Gm H' : AH} {is : List Nat}, (∀ x ∈ g, x.o.dst = none) → (∀ x ∈ g, ∀ y ∈ g, x.i = y.i → x = y) → g.Pairwise (fun x y => x.i ≠ y.i) → tgts E ops Fm g = some is → runIs E rec ops g Fm Gm = some (f1, H') →
    f1 = Fm ∧ H'.nx = Gm.nx ∧ (∀ i, i ∉ is → H'.get i = Gm.get i) ∧ ∃ tg : Nat → Nat, (∀ x ∈ g, tg x.i ∈ is) ∧ (∀ x ∈ g, ∀ y ∈ g, tg x.i = tg y.i → x.i = y.i) ∧ (∀ i ∈ is, ∃ x ∈ g, tg x.i = i) ∧
      ∀ x ∈ g, ∃ o, H'.get (tg x.i) = some o ∧ ∀ Hc : AH, Hc.get (tg x.i) = Gm.get (tg x.i) → valA E rec ops x.o Fm Hc = some (.tup [], Hc.put (tg x.i) o)
  | [], Fm, f1, Gm, H', is, _, _, _, ht, hr => by
    simp only [runIs, Option.some.injEq, Prod.mk.injEq] at hr
    obtain ⟨rfl, rfl⟩ := hr
    simp only [tgts, Option.some.injEq] at ht
    subst ht
    exact ⟨rfl, rfl, fun _ _ => rfl, fun _ => 0, by simp, by simp, by simp, by simp⟩
  | x :: g, Fm, f1, Gm, H', is, hdst, hinj, hpw, ht, hr => by
    simp only [runIs] at hr
    split at hr
    case h_2 => simp at hr
    rename_i f2 H2 hx
    obtain ⟨v, hval, hput⟩ := doOp_val hx
    rw [hdst x (by simp)] at hput
    have := AFr.put_none hput
    subst this
    simp only [tgts] at ht
    split at ht
    case h_2 => simp at ht
    rename_i t ax y hw ho
    split at ht
    case h_2 => simp at ht
    rename_i i u q r is' ha ht'
    split at ht
    · simp at ht
    rename_i hnin
    simp only [Option.some.injEq] at ht
    subst ht
    have hnin : i ∉ is' := by simpa using hnin
    obtain ⟨rfl, b, rfl, hloc⟩ := store_local (E := E) (rec := rec) (ops := ops) ho ha hw hval
    rw [List.pairwise_cons] at hpw
    obtain ⟨h1, h2, h3, tg, k1, k2, k3, k4⟩ := grp_run (fun y hy => hdst y (List.mem_cons_of_mem _ hy)) (fun y hy z hz => hinj y (List.mem_cons_of_mem _ hy) z (List.mem_cons_of_mem _ hz)) hpw.2 ht' hr
    have hne : ∀ y ∈ g, y.i ≠ x.i := fun y hy e => hpw.1 y hy e.symm
    refine ⟨h1, by rw [h2, AH.nx_put], fun j hj => ?_, fun n => if n = x.i then i else tg n, fun y hy => ?_, fun y hy z hz e => ?_, fun j hj => ?_, fun y hy => ?_⟩
    · simp only [List.mem_cons, not_or] at hj
      rw [h3 j hj.2, AH.get_put, if_neg hj.1]
    · rcases List.mem_cons.1 hy with e | hy2
      · simp [e]
      · simp [hne y hy2, k1 y hy2]
    · simp only at e
      rcases List.mem_cons.1 hy with ey | hy2 <;> rcases List.mem_cons.1 hz with ez | hz2
      · rw [ey, ez]
      · rw [ey, if_pos rfl, if_neg (hne z hz2)] at e
        exact absurd (e ▸ k1 z hz2) hnin
      · rw [ez, if_pos rfl, if_neg (hne y hy2)] at e
        exact absurd (e ▸ k1 y hy2) hnin
      · rw [if_neg (hne y hy2), if_neg (hne z hz2)] at e
        exact k2 y hy2 z hz2 e
    · rcases List.mem_cons.1 hj with e | hj2
      · exact ⟨x, by simp, by simp [e]⟩
      · obtain ⟨y, hy, e⟩ := k3 j hj2
        exact ⟨y, List.mem_cons_of_mem _ hy, by simp [hne y hy, e]⟩
    · rcases List.mem_cons.1 hy with e | hy2
      · subst e
        refine ⟨b, ?_, fun Hc hHc => ?_⟩
        · simp only [if_true]
          rw [h3 i hnin, AH.get_put, if_pos rfl]
        · simp only [if_true] at hHc ⊢
          exact hloc Hc hHc
      · obtain ⟨o, o1, o2⟩ := k4 y hy2
        simp only [if_neg (hne y hy2)]
        refine ⟨o, o1, fun Hc hHc => o2 Hc ?_⟩
        have hne2 : tg y.i ≠ i := fun e => hnin (e ▸ k1 y hy2)
        rw [AH.get_put, if_neg hne2]
        exact hHc

end
end Go.Uf
end

