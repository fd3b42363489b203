/-
  A part of the proof of the tied card of usufructlaw18.InferKnown: UfOps16, UfOps17, UfOps18, UfOps19, UfCode, UfCode2, UfCode3, UfSpc, UfSpc2, UfCode4, UfCode5, UfCode6, UfFast, UfFast2.
-/
import Derived.Test.YtmjodojidooldaaGreatDoorU1
import Derived.Lib.UnsafeStr
import Derived.Conc.SmallLaws
import Derived.Test.YtmjodojidooldaaGreatDoorU0
import Derived.RangeFuncLeaves
import Derived.RangeFuncRecord
import Derived.DefersIn
import Derived.Conc.LoneCalls
set_option linter.all false
set_option linter.unusedVariables false
set_option linter.unusedSimpArgs false
/-
  The other builtins.
-/
noncomputable section
namespace Go.Uf
open Go.RowKit (Below)

variable {E : Env} {P : Program} {B0 : Nat} {φ : Phi} {H : AH} {w : World} {fr : AFr} {a : Act}

theorem ER.length : ∀ {es : List (AV × AV × Nat)} {cs : List MapEntry}, ER φ es cs → cs.length = es.length
  | [], _, h => by simp only [ER] at h; subst h; rfl
  | (_, _, _) :: es, _, h => by
    obtain ⟨e, t, rfl, _, _, _, h4⟩ := h
    simp [ER.length h4]

theorem len_ok (hE : E.Ok P) (hR : HR E B0 φ H w) {t tt : Nat} {ats : Array TypeId} {x : AV} {xu : Value} (hx : VR φ x xu) (h0 : ats[0]? = some t) {v : AV}
    (h : lenA E t x H = some v) : R1V E P B0 φ H w (.pure v) (Builtin.len_ ats tt #[xu]) := by
  unfold lenA at h
  split at h
  · rename_i n s ht
    simp only [Option.some.injEq] at h; subst h
    simp only [VR] at hx
    obtain ⟨bs, rfl, hn, hp⟩ := hx
    refine R1V.pure (v' := goInt bs.size) ?_ (by simp [VR, goInt, hn])
    simp [Builtin.len_, h0, run_underlying_of (desc_ok hE ht)]
  · rename_i n e ht
    simp only [Option.some.injEq] at h; subst h
    refine R1V.pure (v' := goInt n) ?_ (by simp [VR, goInt])
    simp [Builtin.len_, h0, run_underlying_of (desc_ok hE ht)]
  · rename_i e i u o n ez c ht
    simp only [Option.some.injEq] at h; subst h
    simp only [VR] at hx
    obtain ⟨Q, A, cap, _, _, _, rfl, _⟩ := hx
    refine R1V.pure (v' := goInt n) ?_ (by simp [VR, goInt])
    simp [Builtin.len_, h0, run_underlying_of (desc_ok hE ht)]
  · rename_i e ht
    simp only [Option.some.injEq] at h; subst h
    simp only [VR] at hx
    subst hx
    refine R1V.pure (v' := goInt 0) ?_ (by simp [VR, goInt])
    simp [Builtin.len_, h0, run_underlying_of (desc_ok hE ht)]
  · rename_i k e ht
    simp only [Option.some.injEq] at h; subst h
    simp only [VR] at hx
    subst hx
    refine R1V.pure (v' := goInt 0) ?_ (by simp [VR, goInt])
    simp [Builtin.len_, h0, run_underlying_of (desc_ok hE ht)]
  · rename_i k e i ht
    split at h
    case h_2 => simp at h
    rename_i es c hg
    simp only [Option.some.injEq] at h; subst h
    simp only [VR] at hx
    obtain ⟨Q, hq, rfl⟩ := hx
    obtain ⟨_, _, cs, hB, hER⟩ := hR.obj i 0 Q _ hq hg
    have hl := hER.length
    rw [Array.length_toList] at hl
    refine R1V.pure (v' := goInt cs.size) ?_ (by simp [VR, goInt, hl])
    simp [Builtin.len_, h0, run_underlying_of (desc_ok hE ht), run_getObj_of hB]
  · rename_i e ht
    split at h
    case h_2 => simp at h
    rename_i n e' he
    simp only [Option.some.injEq] at h; subst h
    refine R1V.pure (v' := goInt n) ?_ (by simp [VR, goInt])
    simp only [Builtin.len_, h0, Sem.run_bind, run_underlying_of (desc_ok hE ht), Result.andThen_ok, List.getElem?_toArray, List.getElem?_cons_zero]
    simp [run_underlying_of (desc_ok hE he)]
  · rename_i d e i ht
    split at h
    case h_2 => simp at h
    rename_i cap l hg
    simp only [Option.some.injEq] at h; subst h
    simp only [VR] at hx
    obtain ⟨Q, hq, rfl⟩ := hx
    obtain ⟨_, _, buf, s, r, hB, hv⟩ := hR.obj i 0 Q _ hq hg
    have hl := VRs.length hv
    rw [Array.length_toList] at hl
    refine R1V.pure (v' := goInt buf.size) ?_ (by simp [VR, goInt, hl])
    simp [Builtin.len_, h0, run_underlying_of (desc_ok hE ht), run_getObj_of hB]
  · simp at h

theorem copy_ok (hE : E.Ok P) (hR : HR E B0 φ H w) {t tt : Nat} {ats : Array TypeId} {x y : AV} {xu yu : Value} (hx : VR φ x xu) (hy : VR φ y yu) (h0 : ats[0]? = some t) {v : AV} {H' : AH}
    (h : copyA E t x y H = some (v, H')) : R1V E P B0 φ H w (.val v H') (Builtin.copy_ ats tt #[xu, yu]) := by
  unfold copyA at h
  split at h
  case h_2 => simp at h
  rename_i e ht
  split at h
  case h_2 => simp at h
  rename_i z hz
  split at h
  · simp at h
  rename_i m new hnew
  obtain ⟨n1, n2, n3⟩ := newOf_ok hR (P := P) hy hnew
  have hzr : (Go.sizeOf e).run P w = .ok (z + 1) w := run_sizeOf_of hE hz
  split at h
  · simp only [Option.some.injEq, Prod.mk.injEq] at h
    obtain ⟨rfl, rfl⟩ := h
    simp only [VR] at hx
    subst hx
    obtain ⟨vs, hv1, hv2⟩ := n3 0 (Nat.zero_le _)
    refine R1V.val (v' := goInt 0) (w' := w) (ψ := φ) ?_ (Phi.le_refl _) hR (by simp [VR, goInt]) (Below.refl' w)
    simp [Builtin.copy_, h0, run_underlying_of (desc_ok hE ht), n1, hzr, hv2 w rfl]
  · rename_i i u o n ez c
    split at h
    · simp at h
    rename_i he
    have he := Nat.eq_of_beq_eq_true he
    subst he
    simp only [VR] at hx
    obtain ⟨Q, A, cap, hq, q1, q2, rfl, hA, hnc, _⟩ := hx
    have fin : ∀ (k : Nat) (l : List AV), Nat.min m n = k → l = new.take (k * (z + 1)) → (match (k, l) with
        | (0, _) => some (AV.i .i64 0, H)
        | (k + 1, l) => match H.wr i u o l with
          | some H' => some (.i .i64 (.ofNat (k + 1)), H')
          | none => none) = some (v, H') → R1V E P B0 φ H w (.val v H') (Builtin.copy_ ats tt #[.slice (some A) n cap, yu]) := by
      intro k l hk hl h
      have hkm : k ≤ m := by rw [← hk]; exact Nat.min_le_left _ _
      have hkn : k ≤ n := by rw [← hk]; exact Nat.min_le_right _ _
      obtain ⟨vs, hv1, hv2⟩ := n3 k hkm
      rw [← hl] at hv1
      have hrun : (Builtin.copy_ ats tt #[.slice (some A) n cap, yu]).run P w = (storeCells A vs.toList >>= fun _ => pure (goInt k)).run P w := by
        simp only [Builtin.copy_, h0, Sem.run_bind, run_underlying_of (desc_ok hE ht), Result.andThen_ok, n1, hk, hzr, hv2 w rfl, List.getElem?_toArray, List.getElem?_cons_zero, List.getElem?_cons_succ]
      cases k with
      | zero =>
        simp only [Option.some.injEq, Prod.mk.injEq] at h
        obtain ⟨rfl, rfl⟩ := h
        have : vs.toList = [] := by
          rw [hl] at hv1
          simpa [VRs] using hv1
        refine R1V.val (v' := goInt 0) (w' := w) (ψ := φ) ?_ (Phi.le_refl _) hR (by simp [VR, goInt]) (Below.refl' w)
        rw [hrun, this]; rfl
      | succ k =>
        simp only at h
        split at h
        case h_2 => simp at h
        rename_i H2 hw
        simp only [Option.some.injEq, Prod.mk.injEq] at h
        obtain ⟨rfl, rfl⟩ := h
        have hll : l.length ≤ n * (z + 1) := by
          have : (k + 1) * (z + 1) ≤ n * (z + 1) := Nat.mul_le_mul_right _ hkn
          rw [hl, List.length_take]; omega
        obtain ⟨w', hr, hR', hB⟩ := hR.wr (Pr := P) hw hq q1 (by omega) hv1
        refine R1V.val (v' := goInt (k + 1 : Nat)) (w' := w') (ψ := φ) ?_ (Phi.le_refl _) hR' (by simp [VR, goInt]) hB
        rw [hrun, Sem.run_bind, hA (by omega), hr]
        rfl
    by_cases hmn : m ≤ n
    · have hb : Nat.ble m n = true := Nat.ble_eq_true_of_le hmn
      rw [hb] at h
      refine fin m new (Nat.min_eq_left hmn) ?_ h
      rw [List.take_of_length_le (by omega)]
    · have hb : Nat.ble m n = false := by
        cases e : Nat.ble m n with
        | false => rfl
        | true => exact absurd (Nat.le_of_ble_eq_true e) hmn
      rw [hb] at h
      exact fin n _ (Nat.min_eq_right (by omega)) rfl h
  · simp at h

theorem maxL_ok {gt : Bool} : ∀ {l : List AV} {x v : AV} {xu : Value} {ls : List Value}, VR φ x xu → VRs φ l ls → maxL gt x l = some v →
    ∃ v', (ls.foldlM (if gt then Builtin.max2 else Builtin.min2) xu).run P w = .ok v' w ∧ VR φ v v'
  | [], x, v, xu, ls, hx, hl, h => by
    simp only [maxL, Option.some.injEq] at h
    subst h
    simp only [VRs] at hl; subst hl
    exact ⟨xu, by simp, hx⟩
  | y :: l, x, v, xu, ls, hx, hl, h => by
    simp only [VRs] at hl
    obtain ⟨yu, t, rfl, hy, ht⟩ := hl
    unfold maxL at h
    split at h
    · rename_i heq; cases heq
    · rename_i k p k' q l' heq
      cases heq
      simp only [VR] at hx hy
      subst hx; subst hy
      rw [List.foldlM_cons, Sem.run_bind]
      cases gt
      · simp only [ilt_eq] at h
        by_cases c : q < p
        · simp only [c, decide_true] at h
          obtain ⟨v', h1, h2⟩ := maxL_ok (ls := t) (xu := .int k q) (by simp only [VR]) ht h
          exact ⟨v', by simpa [Builtin.min2, c] using h1, h2⟩
        · simp only [c, decide_false] at h
          obtain ⟨v', h1, h2⟩ := maxL_ok (ls := t) (xu := .int k p) (by simp only [VR]) ht h
          exact ⟨v', by simpa [Builtin.min2, c] using h1, h2⟩
      · simp only [ilt_eq] at h
        by_cases c : p < q
        · simp only [c, decide_true] at h
          obtain ⟨v', h1, h2⟩ := maxL_ok (ls := t) (xu := .int k q) (by simp only [VR]) ht h
          exact ⟨v', by simpa [Builtin.max2, c] using h1, h2⟩
        · simp only [c, decide_false] at h
          obtain ⟨v', h1, h2⟩ := maxL_ok (ls := t) (xu := .int k p) (by simp only [VR]) ht h
          exact ⟨v', by simpa [Builtin.max2, c] using h1, h2⟩
    · simp at h

end Go.Uf
end

/-
  The rest of the builtins; calls.
-/
noncomputable section
namespace Go.Uf
open Go.RowKit (Below)

variable {E : Env} {P : Program} {B0 : Nat} {φ : Phi} {H : AH} {w : World} {fr : AFr} {a : Act}

theorem set_same_heap {B : Nat} {b : Obj} (h : w.heap[B]? = some b) : ({ w with heap := w.heap.setIfInBounds B b } : World) = w := by
  have : w.heap.setIfInBounds B b = w.heap := by
    apply Array.ext_getElem?
    intro i
    by_cases hi : i = B
    · subst hi
      have hlt := (Array.getElem?_eq_some_iff.1 h).1
      rw [Array.getElem?_setIfInBounds_self_of_lt hlt, h]
    · rw [Array.getElem?_setIfInBounds_ne (by omega)]
  rw [this]

theorem eraseIdx_toList (cs : Array MapEntry) (j : Nat) : (cs.eraseIdxIfInBounds j).toList = cs.toList.eraseIdx j := by
  unfold Array.eraseIdxIfInBounds
  split
  · exact Array.toList_eraseIdx
  · rename_i h
    rw [List.eraseIdx_of_length_le (by simpa using h)]

theorem delete_ok (hE : E.Ok P) (hR : HR E B0 φ H w) {t tt : Nat} {ats : Array TypeId} {m k : AV} {mu ku : Value} (vm : VR φ m mu) (vk : VR φ k ku) (h0 : ats[0]? = some t) {r : R1}
    (h : delA E t m k H = some r) : R1V E P B0 φ H w r (Builtin.delete_ ats tt #[mu, ku]) := by
  unfold delA at h
  split at h
  case h_2 => simp at h
  rename_i kt et ht
  split at h
  · simp at h
  rename_i hok
  have hun := run_underlying_of (w := w) (desc_ok hE ht)
  obtain ⟨td, htd⟩ := keyOk_desc hok
  have hunk := run_underlying_of (w := w) (desc_ok hE htd)
  split at h
  · simp only [Option.some.injEq] at h
    subst h
    simp only [VR] at vm
    subst vm
    refine R1V.pure (v' := .tuple #[]) ?_ (by simp [VR, VRs])
    simp only [Builtin.delete_, h0, Sem.run_bind, hun, Result.andThen_ok, checkKey_ok hE hok vk, Sem.run_pure, List.getElem?_toArray, List.getElem?_cons_zero, List.getElem?_cons_succ]
  · rename_i i
    split at h
    case h_2 => simp at h
    rename_i es c hg
    simp only [VR] at vm
    obtain ⟨Q, hq, rfl⟩ := vm
    obtain ⟨_, hlow, cs, hB, hER⟩ := hR.obj i 0 Q _ hq hg
    split at h
    · simp at h
    · rename_i hf
      simp only [Option.some.injEq] at h
      subst h
      have hfn := find_ok hE htd hok vk 0 hER hf
      have hfk : (Instr.findKey kt ku cs.toList).run P w = .ok none w := by
        simp only [Instr.findKey, Sem.run_bind, hunk, Result.andThen_ok, hfn, Sem.run_pure]
      refine R1V.pure (v' := .tuple #[]) ?_ (by simp [VR, VRs])
      simp only [Builtin.delete_, h0, Sem.run_bind, hun, Result.andThen_ok, run_getObj_of hB (by simp), checkKey_ok hE hok vk, hfk, run_setObj_of hB (by simp), set_same_heap hB, Sem.run_pure, List.getElem?_toArray, List.getElem?_cons_zero, List.getElem?_cons_succ]
    · rename_i v0 hf
      simp only [putO_eq, Option.some.injEq] at h
      subst h
      obtain ⟨j, e, a1, a2, a3, _, a5⟩ := put_ok (v := .b true) (uv := .bool true) hE htd hok vk (by simp [VR]) 0 hER hf
      have hfk : (Instr.findKey kt ku cs.toList).run P w = .ok (some (j, e.val)) w := by
        simp only [Instr.findKey, Sem.run_bind, hunk, Result.andThen_ok, a2, Sem.run_pure, Nat.zero_add]
      obtain ⟨hR', hBel⟩ := hR.putObj (o' := .map (delM k es) c) (b := .map (cs.eraseIdxIfInBounds j) c) hq hg (by simp) (by simp) hB
        ⟨rfl, hlow, _, get_set_heap hB, by rw [eraseIdx_toList]; exact a5⟩
      refine R1V.val (v' := .tuple #[]) ?_ (Phi.le_refl _) hR' (by simp [VR, VRs]) hBel
      simp only [Builtin.delete_, h0, Sem.run_bind, hun, Result.andThen_ok, run_getObj_of hB (by simp), checkKey_ok hE hok vk, hfk, run_setObj_of hB (by simp), Sem.run_pure, List.getElem?_toArray, List.getElem?_cons_zero, List.getElem?_cons_succ]
  · simp at h

theorem clear_ok (hE : E.Ok P) (hR : HR E B0 φ H w) {t tt : Nat} {ts : List Nat} {ats : Array TypeId} {x : AV} {xu : Value} (hx : VR φ x xu) (h0 : ats[0]? = some t) {r : R1}
    (h : builtA E .clear (t :: ts) tt [x] H = some r) : R1V E P B0 φ H w r (Builtin.clear_ ats tt #[xu]) := by
  simp only [builtA] at h
  split at h
  · rename_i e ht
    simp only [Option.some.injEq] at h
    subst h
    simp only [VR] at hx
    subst hx
    refine R1V.pure (v' := .tuple #[]) ?_ (by simp [VR, VRs])
    simp only [Builtin.clear_, h0, Sem.run_bind, run_underlying_of (desc_ok hE ht), Result.andThen_ok, Sem.run_pure, List.getElem?_toArray, List.getElem?_cons_zero]
  · rename_i e i u o n z c ht
    simp only [VR] at hx
    obtain ⟨Q, A, cap, hq, q1, q2, rfl, hA, hnc, _, _, hz0⟩ := hx
    split at h
    · simp only [Option.some.injEq] at h
      subst h
      refine R1V.pure (v' := .tuple #[]) ?_ (by simp [VR, VRs])
      simp only [Builtin.clear_, h0, Sem.run_bind, run_underlying_of (desc_ok hE ht), Result.andThen_ok, Sem.run_pure, List.getElem?_toArray, List.getElem?_cons_zero]
    · rename_i hn0
      split at h
      case h_2 => simp at h
      rename_i z' zv hz hzv
      split at h
      case h_2 => simp at h
      rename_i hb
      simp only [Bool.and_eq_true, Nat.beq_eq] at hb
      obtain ⟨rfl, hzl⟩ := hb
      split at h
      case h_2 => simp at h
      rename_i H' hw
      simp only [Option.some.injEq] at h
      subst h
      obtain ⟨zu, hzr, hzu⟩ := zero_ok hE hzv
      have hzc := cells_ok (hzu φ)
      have hrep : VRs φ (rep zv.cells n) (Builtin.zeroCells zu.cells n).toList := by
        have hzs : zu.cells.size = z := by have := VRs.length hzc; rw [Array.length_toList] at this; omega
        have := rep_ok (n := n) hzc hzl hz0
        rw [← hzs] at this
        exact this
      obtain ⟨w', hr, hR', hB⟩ := hR.wr (Pr := P) hw hq q1 (by rw [rep_length, hzl]; exact q2) hrep
      have hcap : 0 < cap := by
        have : n ≠ 0 := fun e => hn0 e
        omega
      refine R1V.val (v' := .tuple #[]) ?_ (Phi.le_refl _) hR' (by simp [VR, VRs]) hB
      rw [hA hcap]
      obtain ⟨n, rfl⟩ : ∃ k, n = k + 1 := ⟨n - 1, by have : n ≠ 0 := fun e => hn0 e; omega⟩
      simp only [Builtin.clear_, h0, Sem.run_bind, run_underlying_of (desc_ok hE ht), Result.andThen_ok, Sem.run_pure, List.getElem?_toArray, List.getElem?_cons_zero, hzr, hr]
  · simp at h

theorem cap_ok (hE : E.Ok P) {t tt : Nat} {ats : Array TypeId} {x : AV} {xu : Value} (hx : VR φ x xu) (h0 : ats[0]? = some t) {r : R1}
    {ts : List Nat} (h : builtA E .cap (t :: ts) tt [x] H = some r) : R1V E P B0 φ H w r (Builtin.cap_ ats tt #[xu]) := by
  simp only [builtA] at h
  split at h
  · rename_i i u o n z k e ht
    simp only [Option.some.injEq] at h
    subst h
    simp only [VR] at hx
    obtain ⟨Q, A, cap, _, _, _, rfl, _, _, _, hc, _⟩ := hx
    have := hc k rfl
    subst this
    refine R1V.pure (v' := goInt cap) ?_ (by simp [VR, goInt])
    simp [Builtin.cap_, h0, run_underlying_of (desc_ok hE ht)]
  · rename_i e ht
    simp only [Option.some.injEq] at h
    subst h
    simp only [VR] at hx
    subst hx
    refine R1V.pure (v' := goInt 0) ?_ (by simp [VR, goInt])
    simp [Builtin.cap_, h0, run_underlying_of (desc_ok hE ht)]
  · simp at h

theorem sliceData_ok {tt : Nat} {ts : List Nat} {ats : Array TypeId} {x : AV} {xu : Value} (hx : VR φ x xu) {r : R1}
    (h : builtA E .unsafeSliceData ts tt [x] H = some r) : R1V E P B0 φ H w r (Builtin.unsafeSliceData_ ats tt #[xu]) := by
  simp only [builtA, fN_eq] at h
  split at h
  · simp only [Option.some.injEq] at h
    subst h
    simp only [VR] at hx
    subst hx
    exact R1V.pure (v' := .pointer none) rfl (by simp [VR])
  · rename_i i u o n z c
    simp only [Option.some.injEq] at h
    subst h
    simp only [VR] at hx
    obtain ⟨Q, A, cap, hq, q1, q2, rfl, hA, hnc, _⟩ := hx
    refine R1V.pure (v' := .pointer (some A)) ?_ (by simp only [VR]; exact ⟨Q, hq, q1, q2, by rw [hA (by omega)]⟩)
    exact Lib.run_unsafeSliceData_row w ats tt A n cap (by omega) |>.trans rfl
  · simp at h

theorem freeze_ok {B o n : Nat} {arr : Array Value} {t : TypeId} {fz : Nat × Nat} (h : w.heap[B]? = some (.cells arr t fz)) :
    ∃ fz', Only B w (w.freeze ⟨B, o, none⟩ n) ∧ (w.freeze ⟨B, o, none⟩ n).heap[B]? = some (.cells arr t fz') := by
  unfold World.freeze
  split
  · exact ⟨fz, Only.refl _ _, h⟩
  · refine ⟨if fz.1 == fz.2 then (o, o + n) else (min fz.1 o, max fz.2 (o + n)), ⟨rfl, rfl, rfl, by simp, fun k hk => ?_⟩, ?_⟩
    · simp only [Array.getElem?_modify]
      rw [if_neg (by omega)]
    · simp [Array.getElem?_modify, h]

theorem string_ok (hE : E.Ok P) (hR : HR E B0 φ H w) {pt it tt : Nat} {x y : AV} {xu yu : Value} (hx : VR φ x xu) (hy : VR φ y yu) {r : R1}
    (h : strA E pt x y H = some r) : R1V E P B0 φ H w r (Builtin.unsafeString_ #[pt, it] tt #[xu, yu]) := by
  unfold strA at h
  split at h
  · simp only [Option.some.injEq] at h
    subst h
    simp only [VR] at hx hy
    subst hx
    subst hy
    exact R1V.pure (v' := .string ByteArray.empty) (Lib.run_unsafeString_none w pt it tt none) (by simp only [VR]; exact ⟨_, rfl, rfl, rfl⟩)
  · rename_i i u o r' n
    simp only [VR] at hx hy
    obtain ⟨Q, hq, q1, q2, rfl⟩ := hx
    subst hy
    split at h
    case h_2 => simp at h
    rename_i t top wv fl sz c e hg hpt
    split at h
    case h_2 => simp at h
    rename_i he
    split at h
    case h_2 => simp at h
    rename_i hb
    simp only [Bool.and_eq_true, Nat.beq_eq, Nat.ble_eq] at hb
    obtain ⟨⟨⟨⟨⟨⟨rfl, hw⟩, rfl⟩, hfl⟩, hn⟩, rfl⟩, hmax⟩ := hb
    split at h
    case h_2 => simp at h
    rename_i l hl
    split at h
    case h_2 => simp at h
    rename_i m s hs
    simp only [putO_eq, Option.some.injEq] at h
    subst h
    obtain ⟨r1, r2, r3⟩ := hR.obj i u Q _ hq hg
    obtain ⟨arr, fz, a1, a2, a3, a4, a5, a6, a7, a8, a9, a10⟩ := r3 hw
    clear r3
    have hB0 := a8 hfl
    have hb0 := hR.pb i u Q hq hB0
    have hoff : Q.b + (0 - Q.d) = 0 := by omega
    have hrd : H.rd i u 0 (n + 1) = some l := by
      unfold AH.rd
      have e : (Nat.ble wv u && Nat.ble (0 + (n + 1)) sz) = true := by
        simp only [Bool.and_eq_true, Nat.ble_eq]
        exact ⟨hw, by omega⟩
      rw [hg]
      simp only [e]
      exact hl
    obtain ⟨vs, v1, v2, v3, v4, v5⟩ := hR.rd hrd hq q1 (by omega)
    obtain ⟨ns, e1, e2, e3, hby⟩ := strOfBytes_ok v3 hs
    have hsz : n + 1 ≤ arr.size := by omega
    obtain ⟨inf, hi1, hi2⟩ := size_ok hE he
    have hcells : P.cellsOf e = 1 := by simp [Program.cellsOf, hi1, hi2]
    obtain ⟨fz', f1, f2⟩ := freeze_ok (o := 0) (n := n + 1) a1
    have hlen : ns.length = n + 1 := by rw [e1, List.length_map] at v1; omega
    have hmn : m = n + 1 := by omega
    subst hmn
    -- the bytes
    obtain ⟨bs, hbs⟩ : ∃ bs : List UInt8, ns = bs.map fun b => (b.toNat : Int) := by
      clear e1 e2 e3 hlen
      induction ns with
      | nil => exact ⟨[], rfl⟩
      | cons z ns ih =>
        obtain ⟨bs, h1⟩ := ih (fun z hz => hby z (List.mem_cons_of_mem _ hz))
        obtain ⟨b, h2⟩ := hby z (by simp)
        exact ⟨b :: bs, by rw [h1, h2]; rfl⟩
    subst hbs
    rw [List.length_map] at hlen
    have hpk : pack bs = s := by
      rw [← e3]
      congr 1
      rw [List.map_map]
      have : (fun z : Int => UInt8.ofNat z.toNat) ∘ (fun b : UInt8 => (b.toNat : Int)) = id := by
        funext b; simp
      rw [this, List.map_id]
    have hrun := Lib.run_unsafeString_row (P := P) w pt it tt e (desc_ok hE hpt) hcells Q.B arr.size (shape_of a1) bs (by intro h; rw [h] at hlen; simp at hlen) (by omega) (by omega)
      (fun j x hj => by
        rw [add_eq]
        have := v5 j (.int .u8 (x.toNat : Int)) (by rw [e1]; simp [hj])
        rw [hoff] at this
        simpa using this)
    rw [hlen] at hrun
    refine R1V.val (v' := .string ⟨bs.toArray⟩) (w' := w.freeze ⟨Q.B, 0, none⟩ (n + 1)) (ψ := φ) ?_ (Phi.le_refl _) ?_ ?_ (f1.below hB0)
    · rw [hoff]
      exact_mod_cast hrun
    · refine hR.set f1 hB0 hq rfl (fun u' P' hP' => ?_) (fun u' v' P' Q' t' top' wv' fl' sz' c' he' h1 h2 h3 h4 h5 => ?_)
      · obtain ⟨s1, s2, s3⟩ := hR.obj i u' P' _ hP' hg
        refine ⟨s1, s2, fun hal => ?_⟩
        obtain ⟨arr', fz2, b1, b2, b3, b4, b5, b6, b7, b8, b9, b10⟩ := s3 hal
        have hblk : ∃ fz3, (w.freeze ⟨Q.B, 0, none⟩ (n + 1)).heap[P'.B]? = some (.cells arr' e fz3) := by
          by_cases hPQ : P'.B = Q.B
          · rw [hPQ, a1] at b1
            cases b1
            exact ⟨fz', by rw [hPQ]; exact f2⟩
          · exact ⟨fz2, by rw [f1.other _ hPQ]; exact b1⟩
        obtain ⟨fz3, hblk⟩ := hblk
        exact ⟨arr', fz3, hblk, b2, b3, b4, b5, b6, b7, fun h => absurd h (by omega), fun h => absurd h (by omega), fun h => absurd h (by omega)⟩
      · cases he'
        exact hR.same i u' v' P' Q' _ _ _ _ _ _ hg h1 h2 h3 h4 h5
    · simp only [VR]
      exact ⟨_, rfl, by simpa [ByteArray.size] using hlen, by simpa using hpk⟩
  · simp at h

end Go.Uf
end

/-
  Builtins and calls, joined; every operation.
-/
noncomputable section
namespace Go.Uf
open Go.RowKit (Below)

variable {E : Env} {P : Program} {B0 : Nat} {φ : Phi} {H : AH} {w : World} {fr : AFr} {a : Act}

theorem VRs.inv1 {x : AV} {vs : List Value} (h : VRs φ [x] vs) : ∃ v, vs = [v] ∧ VR φ x v := by
  simp only [VRs] at h
  obtain ⟨v, t, rfl, hv, ht⟩ := h
  exact ⟨v, by rw [ht], hv⟩
theorem VRs.inv2 {x y : AV} {vs : List Value} (h : VRs φ [x, y] vs) : ∃ v u, vs = [v, u] ∧ VR φ x v ∧ VR φ y u := by
  simp only [VRs] at h
  obtain ⟨v, t, rfl, hv, u, s, rfl, hu, hs⟩ := h
  exact ⟨v, u, by rw [hs], hv, hu⟩

theorem head_of {l : List Nat} {t : Nat} {ts : List Nat} {ats : Array TypeId} (h : ats.toList = t :: ts) : ats[0]? = some t ∧ ats[1]? = ts.head? := by
  have e : ats = (t :: ts).toArray := by rw [← h]
  rw [e]
  refine ⟨by simp, ?_⟩
  cases ts <;> simp

theorem builtin_ok (hE : E.Ok P) (hR : HR E B0 φ H w) {b : Builtin} {ats : Array TypeId} {tt : Nat} {consts : Array Bool} {args : List AV} {us : Array Value} (hus : VRs φ args us.toList) {r : R1}
    (h : builtA E b ats.toList tt args H = some r) : R1R E P B0 φ H w r ((builtin b ats tt consts us).run P w) := by
  unfold builtA at h
  obtain ⟨ul⟩ := us
  simp only at hus
  split at h
  · rename_i t ts x hts
    obtain ⟨xu, rfl, hx⟩ := hus.inv1
    obtain ⟨v, hv, rfl⟩ := oW_some h
    exact len_ok hE hR hx (head_of (l := []) hts).1 hv
  · rename_i t ts x y hts
    obtain ⟨xu, yu, rfl, hx, hy⟩ := hus.inv2
    obtain ⟨v, H', hv, rfl⟩ := oP_some h
    rw [← (head_of (l := []) hts).2] at hv
    exact append_ok hE hR hx hy (head_of (l := []) hts).1 hv
  · rename_i t ts x y hts
    obtain ⟨xu, yu, rfl, hx, hy⟩ := hus.inv2
    obtain ⟨v, H', hv, rfl⟩ := oP_some h
    exact copy_ok hE hR hx hy (head_of (l := []) hts).1 hv
  · rename_i x l
    simp only [VRs] at hus
    obtain ⟨xu, t, rfl, hx, ht⟩ := hus
    obtain ⟨v, hv, rfl⟩ := oW_some h
    obtain ⟨v', h1, h2⟩ := maxL_ok (P := P) (w := w) hx ht hv
    exact R1V.pure (v' := v') (s := Builtin.max_ ats tt ⟨xu :: t⟩) (by simpa [Builtin.max_] using h1) h2
  · rename_i x l
    simp only [VRs] at hus
    obtain ⟨xu, t, rfl, hx, ht⟩ := hus
    obtain ⟨v, hv, rfl⟩ := oW_some h
    obtain ⟨v', h1, h2⟩ := maxL_ok (P := P) (w := w) hx ht hv
    exact R1V.pure (v' := v') (s := Builtin.min_ ats tt ⟨xu :: t⟩) (by simpa [Builtin.min_] using h1) h2
  · rename_i t ts m k hts
    obtain ⟨xu, yu, rfl, hx, hy⟩ := hus.inv2
    exact delete_ok hE hR hx hy (head_of (l := []) hts).1 h
  · rename_i t ts x hts
    obtain ⟨xu, rfl, hx⟩ := hus.inv1
    exact clear_ok (ts := ts) hE hR hx (head_of (l := []) hts).1 (by simpa only [builtA] using h)
  · rename_i t ts x hts
    obtain ⟨xu, rfl, hx⟩ := hus.inv1
    exact cap_ok (ts := ts) hE hx (head_of (l := []) hts).1 (by simpa only [builtA] using h)
  · rename_i x
    obtain ⟨xu, rfl, hx⟩ := hus.inv1
    exact sliceData_ok (ts := []) (tt := tt) (ats := ats) (H := H) (E := E) hx (by simpa only [builtA] using h)
  · rename_i pt it x y hts
    obtain ⟨xu, yu, rfl, hx, hy⟩ := hus.inv2
    have e : ats = #[pt, it] := by
      have := congrArg List.toArray hts
      simpa using this
    subst e
    exact string_ok hE hR hx hy h
  · simp at h

theorem findNext_noEscape {fn : Func} (h : fn.name = "internal/abi.NoEscape") (h2 : fn.origin = "") : Extern.findNext fn = none := by
  unfold Extern.findNext
  rw [h, h2]
  rfl
theorem find_noEscape {fn : Func} (h : fn.name = "internal/abi.NoEscape") : Extern.find fn = some Extern.AbiNoEscape.same := by
  unfold Extern.find
  rw [h]
  rfl
theorem findNext_clone {fn : Func} (h : fn.name = "maps.clone") (h2 : fn.origin = "") : Extern.findNext fn = none := by
  unfold Extern.findNext
  rw [h, h2]
  rfl
theorem find_clone {fn : Func} (h : fn.name = "maps.clone") : Extern.find fn = some Extern.MapsClone.clone := by
  unfold Extern.find
  rw [h]
  rfl

theorem run_ext {f : FuncId} {fn : Func} {us : Array Value} {e : Array Value → Sem Value} (hf : P.funcs[f]? = some fn) (hb : fn.body = none) (hn : fn.name ≠ "runtime.NumGoroutine") (h1 : Extern.findNext fn = none)
    (h2 : Extern.find fn = some e) : (callFunc f us).run P w = (do pure (Next.value (← e us)) : Sem Next).run P w := by
  have hn' : (fn.name == "runtime.NumGoroutine") = false := by simpa using hn
  simp only [callFunc, Sem.run_bind, run_program, Result.andThen_ok, hf, hn', Bool.false_eq_true, if_false, hb, Option.isNone_none, if_true, run_mark, h1, h2, Sem.run_pure]

theorem ext_ok (hR : HR E B0 φ H w) {f : FuncId} {fn : Func} {args : List AV} {us : Array Value} (hus : VRs φ args us.toList) (hf : P.funcs[f]? = some fn) (hb : fn.body = none) {r : R1}
    (h : extA fn args H = some r) : R1R E P B0 φ H w r ((callFunc f us).run P w) := by
  unfold extA at h
  obtain ⟨ul⟩ := us
  simp only at hus
  split at h
  · simp at h
  rename_i ho
  have ho : fn.origin = "" := by simpa using ho
  split at h
  · rename_i hn
    have hn : fn.name = "internal/abi.NoEscape" := by simpa using hn
    rw [run_ext hf hb (by rw [hn]; decide) (findNext_noEscape hn ho) (find_noEscape hn)]
    split at h
    case h_2 => simp at h
    rename_i x
    simp only [Option.some.injEq] at h
    subst h
    obtain ⟨xu, rfl, hx⟩ := hus.inv1
    exact R1V.pure (v' := xu) rfl hx
  · split at h
    case h_2 => simp at h
    rename_i hn
    have hn : fn.name = "maps.clone" := by simpa using hn
    rw [run_ext hf hb (by rw [hn]; decide) (findNext_clone hn ho) (find_clone hn)]
    split at h
    case h_2 => simp at h
    rename_i t i
    split at h
    case h_2 => simp at h
    rename_i es c hg
    simp only [newO_eq, Option.some.injEq] at h
    subst h
    obtain ⟨xu, rfl, hx⟩ := hus.inv1
    simp only [VR] at hx
    obtain ⟨y, rfl, Q, hq, rfl⟩ := hx
    obtain ⟨_, hlow, cs, hB, hER⟩ := hR.obj i 0 Q _ hq hg
    have hle0 : φ.le (φ.ext H.nx 0 ⟨w.heap.size, 0, 0, 0, 0⟩) := Phi.le_ext (hR.none (Nat.le_refl _) 0)
    obtain ⟨h1, h2, h3⟩ := hR.new (o := .map es c) (b := .map cs c) (P := ⟨w.heap.size, 0, 0, 0, 0⟩) rfl ⟨Nat.le_refl _, Nat.le_refl _⟩ rfl
      ⟨rfl, hR.low, cs, by simp, hER.mono hle0⟩
    refine R1V.val (v' := .iface t (.map (some w.heap.size))) ?_ h1 h2 ?_ h3
    · have hdef : Extern.MapsClone.clone (List.toArray [Value.iface t (.map (some Q.B))]) = (getObj Q.B >>= fun
          | .map entries clock => newObj (.map entries clock) >>= fun r => pure (Value.iface t (.map (some r)))
          | _ => stuck "maps.clone: a map expected") := rfl
      rw [hdef]
      simp only [Sem.run_bind, run_getObj_of hB (by simp), Result.andThen_ok, run_newObj, Sem.run_pure]
    · simp only [VR]
      exact ⟨_, rfl, _, Phi.ext_same _ _ _ _, rfl⟩

theorem callF_ok (hE : E.Ok P) (hR : HR E B0 φ H w) {f : AV} {fu : Value} {args : List AV} {us : Array Value} (hf : VR φ f fu) (hus : VRs φ args us.toList) {r : R1}
    (h : callA E f args H = some r) : R1R E P B0 φ H w r ((do let d ← Deferred.ofValue fu us; invoke d.target d.args : Sem Next).run P w) := by
  unfold callA at h
  split at h
  · rename_i g av c
    simp only [VR] at hf
    obtain ⟨a', c', rfl, _, ha, hc⟩ := hf
    have hall : VRs φ (av ++ args ++ c) (a' ++ us ++ c').toList := by
      simp only [Array.toList_append]
      exact VRs.append (VRs.append ha hus) hc
    split at h
    · simp at h
    rename_i fn hfn
    have hfp := hE.funcs g fn hfn
    have hrun : (do let d ← Deferred.ofValue (.func (.func g) a' c') us; invoke d.target d.args : Sem Next).run P w = (callFunc g (a' ++ us ++ c')).run P w := by
      simp only [Deferred.ofValue, Sem.run_bind, Sem.run_pure, Result.andThen_ok, invoke]
    rw [hrun]
    split at h
    · rename_i body hbody
      split at h
      · simp at h
      rename_i hn
      have hn : ¬ fn.name = "runtime.NumGoroutine" := by simpa using hn
      have hn' : (fn.name == "runtime.NumGoroutine") = false := by simpa using hn
      simp only [Option.some.injEq] at h
      subst h
      refine ⟨rfl, a' ++ us ++ c', ?_, hall⟩
      simp only [callFunc, Sem.run_bind, run_program, Result.andThen_ok, hfp, hn', Bool.false_eq_true, if_false, hbody, Option.isNone_some, Sem.run_pure]
    · rename_i hbody
      exact ext_ok hR hall hfp hbody h
  · rename_i l
    simp only [VR] at hf
    obtain ⟨Q, hq, rfl⟩ := hf
    simp only [Option.some.injEq] at h
    subst h
    refine ⟨rfl, Q, us, hq, hus, ?_⟩
    simp only [Deferred.ofValue, Sem.run_bind, Sem.run_pure, Result.andThen_ok, invoke]
    simp
  · simp at h

theorem call_ok (hE : E.Ok P) (hR : HR E B0 φ H w) (hF : FT φ fr a.tmps) {o : Oper} {c : Call} (ho : o.op = .call c) {r : R1} (h : op_call E fr H c o.type = some r) :
    R1R E P B0 φ H w r ((execOp a.eval o).run P w) := by
  unfold op_call at h
  split at h
  · simp at h
  rename_i args hargs
  have hus := evs_ok (a := a) hR hF hargs
  have hus' : VRs φ args (c.args.map a.eval).toList := by simpa using hus
  have hrun : (execOp a.eval o).run P w = (do let d ← resolve a.eval c o.type; invoke d.target d.args : Sem Next).run P w := by
    unfold execOp; rw [ho]
  rw [hrun]
  split at h
  · rename_i b hb
    have := builtin_ok (P := P) (consts := c.args.map fun | .const _ => true | _ => false) hE hR hus' h
    simp only [resolve, hb, Sem.run_bind, Sem.run_pure, Result.andThen_ok, invoke]
    exact this
  · rename_i f hb
    split at h
    case h_2 => simp at h
    rename_i fv hfv
    have := callF_ok (P := P) hE hR (ev_ok (a := a) hR hF hfv) hus' h
    simp only [resolve, hb]
    exact this
  · simp at h

end Go.Uf
end

/-
  Every operation: what it comes to abstractly it comes to in the world.
-/
noncomputable section
namespace Go.Uf
open Go.RowKit (Below)

variable {E : Env} {P : Program} {B0 : Nat} {φ : Phi} {H : AH} {w : World} {fr : AFr} {a : Act}

theorem makeChan_ok (hE : E.Ok P) (hR : HR E B0 φ H w) (hF : FT φ fr a.tmps) {o : Oper} {t : Nat} {x : Operand} (ho : o.op = .makeChan t x) {r : R1} (h : op_makeChan E fr H t x = some r) :
    R1R E P B0 φ H w r ((execOp a.eval o).run P w) := by
  unfold op_makeChan at h
  split at h
  case h_2 => simp at h
  rename_i k n d e hx ht
  split at h
  case h_2 => simp at h
  rename_i inf hi
  split at h
  case h_2 => simp at h
  rename_i hb
  simp only [Bool.and_eq_true, Nat.ble_eq] at hb
  simp only [newO_eq, Option.some.injEq] at h
  subst h
  have vx := ev_ok hR hF hx
  simp only [VR, Int.ofNat_eq_natCast] at vx
  obtain ⟨hle, hR', hB⟩ := hR.new (o := .chan n []) (b := .chan n #[] false 0 0 false) (P := ⟨w.heap.size, 0, 0, 0, 0⟩) rfl ⟨Nat.le_refl _, Nat.le_refl _⟩ rfl
    ⟨rfl, hR.low, #[], 0, 0, by simp, VRs.nil⟩
  refine ⟨.chan (some w.heap.size), _, _, ?_, hle, hR', by simp only [VR]; exact ⟨_, Phi.ext_same _ _ _ _, rfl⟩, hB⟩
  have hbb : ((inf.bytes * n : Nat) : Int) ≤ ((140737488355328 : Nat) : Int) := Int.ofNat_le.2 hb.2
  rw [Int.natCast_mul] at hbb
  unfold execOp; rw [ho]
  simp only [vx, Sem.run_bind, Go.Conc.run_makeChan (desc_ok hE ht) (hE.infos e inf hi) k n (by omega) (by omega), Result.andThen_ok, Sem.run_pure]
  rfl

theorem mapEntry_ok (hE : E.Ok P) (hR : HR E B0 φ H w) (hF : FT φ fr a.tmps) {o : Oper} {t : Nat} {m k : Operand} (ho : o.op = .mapEntry t m k) {r : R1} (h : op_mapEntry E fr H t m k = some r) :
    R1R E P B0 φ H w r ((execOp a.eval o).run P w) := by
  unfold op_mapEntry at h
  split at h
  case h_2 => simp at h
  rename_i i kv kt et hm hk ht
  split at h
  · simp at h
  rename_i hok
  split at h
  case h_2 => simp at h
  rename_i es c z hg hz
  split at h
  case h_2 => simp at h
  rename_i hf
  simp only [putO_eq, fN_eq, Option.some.injEq] at h
  subst h
  have vm := ev_ok hR hF hm
  have vk := ev_ok hR hF hk
  have hrun : ∀ v w', (Instr.mapEntry t (a.eval m) (a.eval k)).run P w = .ok v w' → (execOp a.eval o).run P w = .ok (.value v) w' := fun v z e => by
    unfold execOp; rw [ho]; simp [e]
  generalize a.eval m = mu at vm hrun
  generalize a.eval k = ku at vk hrun
  simp only [VR] at vm
  obtain ⟨Q, hq, rfl⟩ := vm
  obtain ⟨_, hlow, cs, hB, hER⟩ := hR.obj i 0 Q _ hq hg
  obtain ⟨td, htd⟩ := keyOk_desc hok
  obtain ⟨zu, hzr, hzu⟩ := zero_ok hE hz
  have hun := run_underlying_of (w := w) (desc_ok hE ht)
  have hunk := run_underlying_of (w := w) (desc_ok hE htd)
  have chk : (Instr.checkKey false 10000 kt ku).run P w = .ok () w := checkKey_ok hE hok vk
  have hfn := find_ok hE htd hok vk 0 hER hf
  have hfk : (Instr.findKey kt ku cs.toList).run P w = .ok none w := by
    simp only [Instr.findKey, Sem.run_bind, hunk, Result.andThen_ok, hfn, Sem.run_pure]
  obtain ⟨hR', hBel⟩ := hR.putObj (o' := .map (es ++ [(kv, z, c)]) (c + 1)) (b := .map (cs.push { key := ku, val := zu, born := c }) (c + 1)) hq hg (by simp) (by simp) hB
    ⟨rfl, hlow, _, get_set_heap hB, by rw [Array.toList_push]; exact hER.append vk (hzu φ) rfl⟩
  refine ⟨.tuple #[zu, goInt c], _, φ, hrun _ _ ?_, Phi.le_refl _, hR', ?_, hBel⟩
  · simp only [Instr.mapEntry, Sem.run_bind, hun, Result.andThen_ok, run_getObj_of hB (by simp), chk, hfk, hzr, run_setObj_of hB (by simp), Sem.run_pure]
  · simp only [VR]
    exact ⟨_, rfl, VRs.cons (hzu φ) (VRs.cons (by simp [VR, goInt]) VRs.nil)⟩

theorem setB_ok {b : Nat} {x : AV} {u : Value} (hx : VR φ x u) : ∀ {es es' : List (AV × AV × Nat)} {cs : List MapEntry}, setB b x es = some es' → ER φ es cs →
    ∃ j, cs.findIdx? (fun e => (e.born : Int) == (b : Int)) = some j ∧ ER φ es' (cs.modify j fun e => { e with val := u })
  | [], es', cs, h, _ => by simp [setB] at h
  | (k, v, b') :: l, es', cs, h, hE => by
    obtain ⟨e, r, rfl, h1, h2, h3, h4⟩ := hE
    simp only [setB] at h
    split at h
    · rename_i hb
      have hb : b' = b := Nat.eq_of_beq_eq_true hb
      simp only [Option.some.injEq] at h
      subst h
      refine ⟨0, by simp [List.findIdx?_cons, h3, hb], ?_⟩
      simp only [List.modify_zero_cons, ER]
      exact ⟨_, r, rfl, h1, hx, h3, h4⟩
    · rename_i hb
      have hb : b' ≠ b := fun c => by rw [c] at hb; simp at hb
      split at h
      · simp at h
      rename_i l' hl'
      simp only [Option.some.injEq] at h
      subst h
      obtain ⟨j, j1, j2⟩ := setB_ok hx hl' h4
      have hne : ¬ ((e.born : Int) = (b : Int)) := fun c => hb (by rw [← h3]; exact Int.ofNat_inj.1 c)
      refine ⟨j + 1, by simp [List.findIdx?_cons, hne, j1], ?_⟩
      simp only [List.modify_succ_cons, ER]
      exact ⟨e, _, rfl, h1, h2, h3, j2⟩

theorem entryStore_ok (hR : HR E B0 φ H w) (hF : FT φ fr a.tmps) {o : Oper} {t : Nat} {m s x : Operand} (ho : o.op = .entryStore t m s x) {r : R1} (h : op_entryStore E fr H m s x = some r) :
    R1R E P B0 φ H w r ((execOp a.eval o).run P w) := by
  unfold op_entryStore at h
  split at h
  case h_2 => simp at h
  rename_i i k b v hm hs hx
  split at h
  case h_2 => simp at h
  rename_i es c hg
  split at h
  case h_2 => simp at h
  rename_i es' hes
  simp only [putO_eq, Option.some.injEq] at h
  subst h
  have vm := ev_ok hR hF hm
  have vs := ev_ok hR hF hs
  have vx := ev_ok hR hF hx
  simp only [VR, Int.ofNat_eq_natCast] at vm vs
  obtain ⟨Q, hq, hmu⟩ := vm
  obtain ⟨_, hlow, cs, hB, hER⟩ := hR.obj i 0 Q _ hq hg
  obtain ⟨j, j1, j2⟩ := setB_ok vx hes hER
  have j1' : cs.findIdx? (fun e => (e.born : Int) == (b : Int)) = some j := by
    obtain ⟨l⟩ := cs
    simpa using j1
  obtain ⟨hR', hBel⟩ := hR.putObj (o' := .map es' c) (b := .map (cs.modify j fun e => { e with val := a.eval x }) c) hq hg (by simp) (by simp) hB
    ⟨rfl, hlow, _, get_set_heap hB, by rw [Array.toList_modify]; exact j2⟩
  refine ⟨_, ?_, hR', hBel⟩
  unfold execOp; rw [ho]
  simp only [hmu, vs, Instr.entryStore, Sem.run_bind, run_getObj_of hB (by simp), Result.andThen_ok, asInt, asIntOf, Sem.run_pure, j1', run_setObj_of hB (by simp)]

theorem op_ok (hE : E.Ok P) (hR : HR E B0 φ H w) (hF : FT φ fr a.tmps) {o : Oper} {r : R1} (h : opA E fr H o = some r) :
    R1R E P B0 φ H w r ((execOp a.eval o).run P w) := by
  unfold opA at h
  split at h
  · rename_i ho; exact move_ok hR hF (.inl ho) h
  · rename_i ho; exact move_ok hR hF (.inr ho) h
  · rename_i ho; exact pick_ok hR hF ho h
  · rename_i ho; exact load_ok hE hR hF ho h
  · rename_i ho; exact store_ok hE hR hF ho h
  · rename_i ho; exact fieldAddr_ok hE hR hF ho h
  · rename_i ho; exact indexAddr_ok hE hR hF ho h
  · rename_i ho; exact nilCheck_ok hR hF ho h
  · rename_i ho; exact binOp_ok hE hR hF ho h
  · rename_i ho; exact unOp_ok hR hF ho h
  · rename_i ho; exact alloc_ok hE hR ho h
  · rename_i ho; exact box_ok hR hF ho h
  · rename_i ho; exact build_ok hE hR hF ho h
  · rename_i ho; exact buildSlice_ok hE hR hF ho h
  · rename_i ho; exact convert_ok hE hR hF ho h
  · rename_i ho; exact makeInterface_ok hE hR hF ho h
  · rename_i ho; exact makeFunc_ok hR hF ho h
  · rename_i ho; exact makeMap_ok hE hR hF ho h
  · rename_i ho; exact makeChan_ok hE hR hF ho h
  · rename_i ho; exact mapEntry_ok hE hR hF ho h
  · rename_i ho; exact entryStore_ok hR hF ho h
  · rename_i ho; exact makeSlice_ok hE hR hF ho h
  · rename_i ho; exact slice_ok hE hR hF ho h
  · rename_i ho; exact field_ok hE hR hF ho h
  · rename_i ho; exact index_ok hE hR hF ho h
  · rename_i ho; exact lookup_ok hE hR hF ho h
  · rename_i ho; exact mapUpdate_ok hE hR hF ho h
  · rename_i ho; exact range_ok hE hR hF ho h
  · rename_i ho; exact next_ok hR hF ho h
  · rename_i ho; exact extract_ok hR hF ho h
  · rename_i ho; exact typeAssert_ok hE hR hF ho h
  · rename_i ho; exact call_ok hE hR hF ho h
  · simp at h

end Go.Uf
end

/-
  Operations in a row.
-/
noncomputable section
namespace Go.Uf
open Go.RowKit (Below)

variable {E : Env} {P : Program} {B0 : Nat} {φ : Phi} {H : AH} {w : World} {fr : AFr} {a : Act}

/-- every frame is let in -/
def FW (ro : Option Nat) : Fence := { Fence.wide with round := ro }

theorem FW_fn (ro : Option Nat) (f : FuncId) : (FW ro).fn f := trivial
theorem FW_depth (ro : Option Nat) : ¬ ((FW ro).depth.isSome = true) := by simp [FW, Fence.wide]

theorem AFr.get_put {f f' : AFr} {d : Nat} {v : AV} (h : f.put (some d) v = some f') : f'.nt = f.nt ∧ d < f.nt ∧ f'.marks = f.marks ∧
    ∀ t, f'.get t = if t = d then some v else f.get t := by
  obtain ⟨nt, ex, tm, lo, ms⟩ := f
  simp only [AFr.put] at h
  split at h
  case h_2 => simp at h
  rename_i hb
  have hb : d < nt := by simpa [Nat.blt_eq] using hb
  split at h
  · rename_i hm
    simp only [fT_eq, Option.some.injEq] at h
    subst h
    refine ⟨rfl, hb, rfl, fun t => ?_⟩
    simp only [AFr.get]
    by_cases e : t = d
    · subst e
      rw [if_pos rfl, hm, T.get_set_same]
    · rw [if_neg e, T.get_set_ne _ _ e]
  · rename_i hm
    simp only [Option.some.injEq] at h
    subst h
    refine ⟨rfl, hb, rfl, fun t => ?_⟩
    simp only [AFr.get]
    by_cases e : t = d
    · subst e
      rw [if_pos rfl, hm]
      simp [lookL]
    · rw [if_neg e]
      split
      · rfl
      · have : Nat.beq d t = false := by
          cases hq : Nat.beq d t with
          | false => rfl
          | true => exact absurd (Nat.eq_of_beq_eq_true hq).symm e
        simp [lookL, this]

theorem FT.put {f f' : AFr} {ts : Array Value} (h : FT φ f ts) {d : Nat} {x : AV} {v : Value} (hv : VR φ x v) (hp : f.put (some d) x = some f') : FT φ f' (ts.setIfInBounds d v) := by
  obtain ⟨h1, h2, _, h3⟩ := AFr.get_put hp
  refine ⟨by simp [h1, h.1], fun t y hy => ?_⟩
  rw [h3] at hy
  by_cases e : t = d
  · subst e
    rw [if_pos rfl] at hy
    cases hy
    have : t < ts.size := by rw [h.1]; exact h2
    simp [Array.getD, this]
    exact hv
  · rw [if_neg e] at hy
    have := h.2 t y hy
    have e2 : (ts.setIfInBounds d v).getD t Go.undef = ts.getD t Go.undef := by
      simp [Array.getD_eq_getD_getElem?, Array.getElem?_setIfInBounds_ne (fun h => e h.symm)]
    rw [e2]
    exact this

theorem FT.fin {o : Oper} {f f' : AFr} {x : AV} {v : Value} {H' : AH} (h : FT φ f a.tmps) (hv : VR φ x v) (hp : fin o f x H = some (f', H')) : FT φ f' (a.put o.dst v).tmps ∧ H' = H ∧ f'.marks = f.marks ∧ (a.put o.dst v).defers = a.defers := by
  unfold Uf.fin at hp
  split at hp
  case h_2 => simp at hp
  rename_i f2 hf
  simp only [Option.some.injEq, Prod.mk.injEq] at hp
  obtain ⟨rfl, rfl⟩ := hp
  cases hd : o.dst with
  | none =>
    rw [hd] at hf
    have : f2 = f := by
      obtain ⟨nt, ex, tm, lo, ms⟩ := f
      simpa [AFr.put] using hf.symm
    subst this
    exact ⟨h, rfl, rfl, rfl⟩
  | some d =>
    rw [hd] at hf
    exact ⟨h.put hv hf, rfl, (AFr.get_put hf).2.2.1, rfl⟩

theorem wanted_ok {ops : Array Oper} {o : Oper} {b : Bool} (hF : FT φ fr a.tmps) (h : wantedA ops o fr = some b) : Region.wanted o (yielded ops a.tmps) = b := by
  unfold wantedA at h
  unfold Region.wanted
  split at h
  · rename_i hg
    rw [hg]
    simpa using h
  · rename_i j want hg
    rw [hg]
    simp only [yielded]
    have hl : ops.toList[j]? = ops[j]? := by simp
    rw [hl] at h
    split at h
    · rename_i d hd
      have hd' : (ops[j]?).bind (·.dst) = some d := by
        cases e : ops[j]? with
        | none => rw [e] at hd; simp at hd
        | some p => rw [e] at hd; simpa using hd
      rw [hd']
      simp only [Option.bind_some]
      split at h
      · simp at h
      · rename_i x hx
        have hv := hF.2 d _ hx
        simp only [VR] at hv
        have hb : a.tmps[d]? = some (.bool x) := by
          by_cases hlt : d < a.tmps.size
          · rw [Array.getElem?_eq_getElem hlt]
            simpa [Array.getD, hlt] using hv
          · simp [Array.getD, hlt, Go.undef] at hv
        rw [hb]
        simp only [Option.some.injEq] at h
        subst h
        cases x <;> cases want <;> rfl
      · rename_i x hx hxx
        have hv := hF.2 d _ hxx
        simp only [Option.some.injEq] at h
        subst h
        have : ∀ y, a.tmps[d]? ≠ some (.bool y) := by
          intro y hy
          have hlt := (Array.getElem?_eq_some_iff.1 hy).1
          have e2 : a.tmps.getD d Go.undef = .bool y := by
            rw [Array.getD_eq_getD_getElem?, hy]; rfl
          rw [e2] at hv
          cases x <;> simp only [VR] at hv <;> first
            | (exact hx _ rfl)
            | (cases hv; done)
            | (obtain ⟨_, _, _, _, hq⟩ := hv; cases hq; done)
            | (obtain ⟨_, hq, _⟩ := hv; cases hq; done)
            | (obtain ⟨_, _, _, _, _, _, hq, _⟩ := hv; cases hq; done)
            | (obtain ⟨_, _, hq⟩ := hv; cases hq; done)
            | (obtain ⟨_, _, hq, _⟩ := hv; cases hq; done)
        split
        · rename_i y hy
          exact absurd hy (this y)
        · rfl
    · rename_i hd
      simp only [Option.some.injEq] at h
      subst h
      have hd' : (ops[j]?).bind (·.dst) = none := by
        cases e : ops[j]? with
        | none => rfl
        | some p => rw [e] at hd; simpa using hd
      rw [hd']
      rfl

end Go.Uf
end

/-
  Operations in a row, walked.
-/
noncomputable section
namespace Go.Uf
open Go.RowKit (Below)

variable {E : Env} {P : Program} {B0 : Nat} {φ : Phi} {H : AH} {w : World} {fr : AFr} {a : Act}

def CallPost (E : Env) (B0 : Nat) (φ : Phi) (w : World) (v : AV) (H' : AH) : Ending → World → Prop
  | .returned v', w' => ∃ ψ : Phi, φ.le ψ ∧ HR E B0 ψ H' w' ∧ VR ψ v v' ∧ Below B0 w w'
  | _, _ => False

def SndCall (E : Env) (P : Program) (B0 : Nat) (rec : Task → Option Out) : Prop :=
  ∀ f args H v H', rec (.call f args H) = some (.ret v H') → ∀ (k : Nat) (φ : Phi) (w : World) (us : Array Value), HR E B0 φ H w → VRs φ args us.toList → CallsIn Fence.wide k P f us w (CallPost E B0 φ w v H')

def SndRound (E : Env) (P : Program) (B0 : Nat) (rec : Task → Option Out) : Prop :=
  ∀ l args H v H', rec (.round l args H) = some (.ret v H') → ∀ (k : Nat) (φ : Phi) (w : World) (us : Array Value) (Q : Pl), φ l 0 = some Q → HR E B0 φ H w → VRs φ args us.toList →
    ∃ f tmps assign body, (Instr.yield Q.B us).run P w = .ok (.round Q.B f tmps assign body) w ∧ ∀ ro, RoundIn (FW ro) k P Q.B f tmps assign body w (CallPost E B0 φ w v H')

theorem opA_defer {o : Oper} {r : R1} (h : opA E fr H o = some r) : ∀ c, o.op ≠ .defer c := by
  intro c e
  unfold opA at h
  rw [e] at h
  simp at h

theorem Below.trans' {B0 : Nat} {a b c : World} (h : Below B0 a b) (k : Below B0 b c) : Below B0 a c := h.trans k

/-- what is asked behind an operation -/
def Goes (E : Env) (B0 : Nat) (φ : Phi) (w : World) (fr' : AFr) (H' : AH) (D : List Deferred) (next : Act → World → Prop) : Prop :=
  ∀ (ψ : Phi) (a' : Act) (w' : World), φ.le ψ → HR E B0 ψ H' w' → FT ψ fr' a'.tmps → a'.defers = D → Below B0 w w' → next a' w'

theorem doOp_ok (hE : E.Ok P) {rec : Task → Option Out} (hc : SndCall E P B0 rec) (hr : SndRound E P B0 rec) (hR : HR E B0 φ H w) (hF : FT φ fr a.tmps) {ops : Array Oper} {o : Oper} {fr' : AFr} {H' : AH}
    (h : doOp E rec ops o fr H = some (fr', H')) (ro : Option Nat) (k : Nat) (Q : Exit → Act → World → Prop) (next : Act → World → Prop) (hn : Goes E B0 φ w fr' H' a.defers next) :
    if Region.wanted o (yielded ops a.tmps) then o.wpIn (FW ro) k P a w next Q else (∀ f, o.about P w a.eval = some f → (FW ro).fn f) ∧ next (a.put o.dst undef) w := by
  unfold doOp at h
  simp only [opF_eq] at h
  split at h
  · simp at h
  rename_i b hb
  rw [wanted_ok hF hb]
  have hundef : ∀ ψ : Phi, VR ψ (.tup []) undef := fun ψ => by simp [VR, VRs, undef]
  split at h
  · -- not wanted
    simp only [Bool.false_eq_true, if_false]
    obtain ⟨h1, rfl, h3, h4⟩ := hF.fin (hundef φ) h
    exact ⟨fun f _ => FW_fn ro f, hn φ _ _ (Phi.le_refl _) hR h1 h4 (Below.refl' w)⟩
  · simp only [if_true]
    unfold finR at h
    split at h
    · simp at h
    rename_i r hop
    have hok := op_ok hE hR hF hop
    refine ⟨fun f _ => FW_fn ro f, ?_⟩
    rw [Oper.semAt_eq _ _ _ (opA_defer hop)]
    split at h
    · rename_i v
      obtain ⟨v', e, hv⟩ := hok
      obtain ⟨h1, rfl, h3, h4⟩ := hF.fin hv h
      rw [e]
      exact hn φ _ _ (Phi.le_refl _) hR h1 h4 (Below.refl' w)
    · rename_i v H1
      obtain ⟨v', w', ψ, e, hle, hR', hv, hB⟩ := hok
      simp only [fH_eq] at h
      obtain ⟨h1, rfl, h3, h4⟩ := (hF.mono hle).fin hv h
      rw [e]
      exact hn ψ _ _ hle hR' h1 h4 hB
    · rename_i H1
      obtain ⟨w', e, hR', hB⟩ := hok
      simp only [fH_eq] at h
      obtain ⟨h1, rfl, h3, h4⟩ := hF.fin (hundef φ) h
      rw [e]
      exact hn φ _ _ (Phi.le_refl _) hR' h1 h4 hB
    · rename_i f args H1
      obtain ⟨rfl, us, e, hus⟩ := hok
      rw [e]
      unfold finO at h
      split at h
      case h_2 => simp at h
      rename_i v H2 hrec
      refine ⟨fun hd => absurd hd (FW_depth ro), ?_⟩
      have hcall := hc f args H1 v H2 hrec (k - 1) φ w us hR hus
      refine CallsIn.mono (F := FW ro) (show CallsIn (FW ro) (k - 1) P f us w _ from hcall) fun e w' hpost => ?_
      cases e with
      | returned v' =>
        obtain ⟨ψ, hle, hR', hv, hB⟩ := hpost
        obtain ⟨h1, rfl, h3, h4⟩ := (hF.mono hle).fin hv h
        exact hn ψ _ _ hle hR' h1 h4 hB
      | panicked c => exact hpost.elim
      | outgrown => exact hpost.elim
    · rename_i l args H1
      obtain ⟨rfl, Qp, us, hq, hus, e⟩ := hok
      unfold finO at h
      split at h
      case h_2 => simp at h
      rename_i v H2 hrec
      obtain ⟨f, tmps, assign, body, e2, hround⟩ := hr l args H1 v H2 hrec (k - 1) φ w us Qp hq hR hus
      rw [e, e2]
      refine ⟨fun hd => absurd hd (FW_depth ro), ?_⟩
      refine RoundIn.mono (hround ro) fun e w' hpost => ?_
      cases e with
      | returned v' =>
        obtain ⟨ψ, hle, hR', hv, hB⟩ := hpost
        obtain ⟨h1, rfl, h3, h4⟩ := (hF.mono hle).fin hv h
        exact hn ψ _ _ hle hR' h1 h4 hB
      | panicked c => exact hpost.elim
      | outgrown => exact hpost.elim

theorem fin_marks {o : Oper} {f f' : AFr} {x : AV} {H' : AH} (hp : fin o f x H = some (f', H')) : f'.marks = f.marks := by
  unfold Uf.fin at hp
  split at hp
  case h_2 => simp at hp
  rename_i f2 hf
  simp only [Option.some.injEq, Prod.mk.injEq] at hp
  obtain ⟨rfl, rfl⟩ := hp
  cases hd : o.dst with
  | none =>
    rw [hd] at hf
    obtain ⟨nt, ex, tm, lo, ms⟩ := f
    simp only [AFr.put, Option.some.injEq] at hf
    rw [← hf]
  | some d =>
    rw [hd] at hf
    exact (AFr.get_put hf).2.2.1

theorem doOp_marks {rec : Task → Option Out} {ops : Array Oper} {o : Oper} {fr' : AFr} {H' : AH} (h : doOp E rec ops o fr H = some (fr', H')) : fr'.marks = fr.marks := by
  unfold doOp at h
  split at h
  · simp at h
  split at h
  · exact fin_marks h
  · unfold finR at h
    split at h
    · simp at h
    split at h
    · exact fin_marks h
    · simp only [fH_eq] at h; exact fin_marks h
    · simp only [fH_eq] at h; exact fin_marks h
    · unfold finO at h
      split at h
      · exact fin_marks h
      · simp at h
    · unfold finO at h
      split at h
      · exact fin_marks h
      · simp at h

end Go.Uf
end

/-
  Results; marks; the record of a loop.
-/
noncomputable section
namespace Go.Uf
open Go.RowKit (Below)

variable {E : Env} {P : Program} {B0 : Nat} {φ : Phi} {H : AH} {w : World} {fr : AFr} {a : Act}

theorem ldv_ok (hE : E.Ok P) (hR : HR E B0 φ H w) {t : Nat} {x v : AV} {u : Value} (hx : VR φ x u) (h : ldA E t x H = some v) :
    ∃ v', (do loadVar t (← asAddr u) : Sem Value).run P w = .ok v' w ∧ VR φ v v' := by
  obtain ⟨v', e, hv⟩ := ld_ok hE hR hx h
  refine ⟨v', ?_, hv⟩
  unfold ldA at h
  split at h
  case h_2 => simp at h
  simp only [VR] at hx
  obtain ⟨Q, _, _, _, rfl⟩ := hx
  rw [← e]
  simp only [Instr.loadAt, Instr.sureAddr, asAddr, Sem.run_bind, Sem.run_pure, Result.andThen_ok]

def resOf (tmps : Array Value) : ResultVar → Sem Value
  | .tmp t => pure (tmps.getD t undef)
  | .cell a t => do loadVar t (← asAddr (tmps.getD a undef))

theorem res_ok (hE : E.Ok P) (hR : HR E B0 φ H w) {ts : Array Value} (hF : FT φ fr ts) : ∀ {l : List ResultVar} {vs : List AV}, resA E fr H l = some vs →
    ∃ us, (l.mapM (resOf ts)).run P w = .ok us w ∧ VRs φ vs us
  | [], vs, h => by
    simp only [resA, Option.some.injEq] at h
    subst h
    exact ⟨[], by simp, VRs.nil⟩
  | .tmp t :: l, vs, h => by
    simp only [resA] at h
    split at h
    case h_2 => simp at h
    rename_i v vs' hv hvs
    simp only [Option.some.injEq] at h
    subst h
    obtain ⟨us, h1, h2⟩ := res_ok hE hR hF hvs
    exact ⟨_, by simp only [List.mapM_cons, resOf, Sem.run_bind, Sem.run_pure, Result.andThen_ok, h1], VRs.cons (hF.2 t v hv) h2⟩
  | .cell b t :: l, vs, h => by
    simp only [resA] at h
    split at h
    · simp at h
    rename_i p hp
    split at h
    case h_2 => simp at h
    rename_i v vs' hv hvs
    simp only [Option.some.injEq] at h
    subst h
    obtain ⟨us, h1, h2⟩ := res_ok hE hR hF hvs
    obtain ⟨u, h3, h4⟩ := ldv_ok hE hR (hF.2 b p hp) hv
    exact ⟨u :: us, by
      simp only [List.mapM_cons, Sem.run_bind]
      rw [show (resOf ts (.cell b t)) = (do loadVar t (← asAddr (ts.getD b undef)) : Sem Value) from rfl, h3]
      simp only [Result.andThen_ok, h1, Sem.run_pure], VRs.cons h4 h2⟩

theorem results_ok (hE : E.Ok P) (hR : HR E B0 φ H w) {ts : Array Value} (hF : FT φ fr ts) {fn : Func} {v : AV} (h : resultsA E fn fr H = some v) :
    ∃ u, (results fn ts).run P w = .ok u w ∧ VR φ v u := by
  unfold resultsA at h
  have hrun : ∀ us : List Value, (fn.results.toList.mapM (resOf ts)).run P w = .ok us w →
      (results fn ts).run P w = .ok (if h : us.toArray.size = 1 then us.toArray[0] else .tuple us.toArray) w := by
    intro us hus
    have e : results fn ts = (fn.results.mapM (resOf ts) >>= fun vs => pure (if h : vs.size = 1 then vs[0] else .tuple vs)) := by
      unfold results
      congr 1
    rw [e, Array.mapM_eq_mapM_toList]
    simp only [map_eq_pure_bind, Sem.run_bind, hus, Result.andThen_ok, Sem.run_pure]
  split at h
  · rename_i x hx
    simp only [Option.some.injEq] at h
    subst h
    obtain ⟨us, h1, h2⟩ := res_ok hE hR hF hx
    obtain ⟨u, rfl, hu⟩ := h2.inv1
    exact ⟨u, by rw [hrun _ h1]; simp, hu⟩
  · rename_i vs hne hx
    simp only [Option.some.injEq] at h
    subst h
    obtain ⟨us, h1, h2⟩ := res_ok hE hR hF hx
    refine ⟨.tuple us.toArray, ?_, by simp only [VR]; exact ⟨_, rfl, by simpa using h2⟩⟩
    rw [hrun _ h1]
    have hl := VRs.length h2
    have : ¬ us.toArray.size = 1 := by
      intro h
      simp at h
      rw [hl] at h
      obtain ⟨x, rfl⟩ := List.length_eq_one_iff.1 h
      exact hne x rfl
    rw [dif_neg this]
  · simp at h

/-- what was put off, among a frame's deferred calls -/
def MR (P : Program) (φ : Phi) : List AD → List Deferred → Prop
  | [], ds => ds = []
  | .mark i :: l, ds => ∃ d r Q, ds = d :: r ∧ d.target = .collected Q.B ∧ φ i 0 = some Q ∧ MR P φ l r
  | .call f args :: l, ds => ∃ (d : Deferred) (r : List Deferred) (cap us : Array Value), ds = d :: r ∧ d.target = .fn (.func f) cap ∧ (∀ w, (invoke d.target d.args).run P w = .ok (.enter f us) w) ∧ VRs φ args us.toList ∧ MR P φ l r

theorem MR.mono {φ ψ : Phi} (h : φ.le ψ) : ∀ {l : List AD} {ds : List Deferred}, MR P φ l ds → MR P ψ l ds
  | [], _, k => k
  | .mark i :: l, _, k => by
    obtain ⟨d, r, Q, e, h1, h2, h3⟩ := k
    exact ⟨d, r, Q, e, h1, h _ _ _ h2, h3.mono h⟩
  | .call f args :: l, _, k => by
    obtain ⟨d, r, cap, us, e, h1, h2, h3, h4⟩ := k
    exact ⟨d, r, cap, us, e, h1, h2, VRs.mono h _ _ h3, h4.mono h⟩

theorem FT.marks {f g : AFr} {ts : Array Value} (h : FT φ f ts) (hn : g.nt = f.nt) (hg : ∀ t, g.get t = f.get t) : FT φ g ts :=
  ⟨by rw [hn]; exact h.1, fun t v e => h.2 t v (by rw [← hg]; exact e)⟩

def SndDCall (E : Env) (P : Program) (B0 : Nat) (rec : Task → Option Out) : Prop :=
  ∀ f args H v H', rec (.dcall f args H) = some (.ret v H') → ∀ (k : Nat) (φ : Phi) (w : World) (us : Array Value), HR E B0 φ H w → VRs φ args us.toList →
    CallsDIn Fence.wide k P f us .returning w fun e u' w' => u' = .returning ∧ CallPost E B0 φ w v H' e w'

theorem shut_ok (hE : E.Ok P) {rec : Task → Option Out} (hd : SndDCall E P B0 rec) {fn : Func} {ts : Array Value} {v : AV} {H' : AH} {w0 : World} {φ0 : Phi} (k : Nat) :
    ∀ (l : List AD) (ds : List Deferred) (φ : Phi) (H : AH) (w : World), φ0.le φ → HR E B0 φ H w → FT φ fr ts → MR P φ l ds → Below B0 w0 w → shutA rec l H = some H' → resultsA E fn fr H' = some v →
      LeavesInM Fence.wide k P fn ts (CallPost E B0 φ0 w0 v H') ds .returning w
  | [], ds, φ, H, w, hle, hR, hF, hM, hB, h, hr => by
    simp only [MR] at hM
    subst hM
    simp only [shutA, Option.some.injEq] at h
    subst h
    obtain ⟨u, h1, h2⟩ := results_ok hE hR hF hr
    exact ⟨u, h1, φ, hle, hR, h2, hB⟩
  | .mark i :: l, ds, φ, H, w, hle, hR, hF, hM, hB, h, hr => by
    obtain ⟨d, r, Q, rfl, h1, h2, h3⟩ := hM
    simp only [shutA] at h
    split at h
    case h_2 => simp at h
    rename_i hg
    obtain ⟨_, hlow, hheap⟩ := hR.obj i 0 Q _ h2 hg
    simp only at hheap
    obtain ⟨hR', hB'⟩ := hR.putObj (o' := .dfr false) (b := .deferred none) h2 hg (by simp) (by simp) hheap ⟨rfl, hlow, get_set_heap hheap⟩
    refine ⟨by simp, .inl ⟨Q.B, _, h1, run_takeDeferred hheap, ?_⟩⟩
    exact shut_ok hE hd k l r φ _ _ hle hR' hF h3 (hB.trans hB') h hr
  | .call f args :: l, ds, φ, H, w, hle, hR, hF, hM, hB, h, hr => by
    obtain ⟨d, r, cap, us, rfl, h1, h2, h3, h4⟩ := hM
    simp only [shutA] at h
    split at h
    case h_2 => simp at h
    rename_i v2 H2 hrec
    refine ⟨by simp, .inr ⟨fun hdep => absurd hdep (FW_depth none), .func f, cap, f, us, h1, h2 w, fun g _ => trivial, ?_⟩⟩
    refine CallsDIn.mono (hd f args H v2 H2 hrec (k - 1) φ w us hR h3) fun e u' w' hp => ?_
    obtain ⟨rfl, hp⟩ := hp
    cases e with
    | returned v' =>
      obtain ⟨ψ, hle2, hR', _, hB'⟩ := hp
      exact shut_ok hE hd k l r ψ _ _ (Phi.le_trans hle hle2) hR' (hF.mono hle2) (h4.mono hle2) (hB.trans hB') h hr
    | panicked c => exact hp.elim
    | outgrown => exact hp.elim

theorem ret_ok (hE : E.Ok P) {rec : Task → Option Out} (hd : SndDCall E P B0 rec) (hR : HR E B0 φ H w) {fn : Func} {ts : Array Value} {v : AV} {H' : AH} {w0 : World} {φ0 : Phi} (k : Nat) {ds : List Deferred} (hle : φ0.le φ) (hF : FT φ fr ts) (hM : MR P φ fr.marks ds)
    (hB : Below B0 w0 w) (h : retS E rec fn fr H = some (.ret v H')) : LeavesInM Fence.wide k P fn ts (CallPost E B0 φ0 w0 v H') ds .returning w := by
  unfold retS at h
  split at h
  · rename_i hm
    unfold retV at h
    split at h
    case h_2 => simp at h
    rename_i v' hv
    simp only [Option.some.injEq, Out.ret.injEq] at h
    obtain ⟨rfl, rfl⟩ := h
    exact shut_ok hE hd k [] ds φ H w hle hR hF (by rw [hm] at hM; exact hM) hB rfl hv
  · rename_i l hm
    split at h
    case h_2 => simp at h
    rename_i H1 h1
    unfold retV at h
    split at h
    case h_2 => simp at h
    rename_i v' hv
    simp only [Option.some.injEq, Out.ret.injEq] at h
    obtain ⟨rfl, rfl⟩ := h
    exact shut_ok hE hd k _ ds φ H w hle hR hF hM hB h1 hv

/-! ### a deferred call's own leave -/
def MarksTo (P : Program) (fn : Func) (tmps : Array Value) (R : Ending → World → Prop) : List Deferred → World → Prop
  | [], w => ∃ v, (results fn tmps).run P w = .ok v w ∧ R (.returned v) w
  | d :: ds, w => ∃ r w', d.target = .collected r ∧ (Instr.takeDeferred r).run P w = .ok [] w' ∧ MarksTo P fn tmps R ds w'

theorem marks_steps {fn : Func} {tmps : Array Value} {R : Ending → World → Prop} : ∀ (ds : List Deferred) (w : World) (fr : Frame) (cs : List Frame), fr.mode = .returning → fr.defers = ds → MarksTo P fn tmps R ds w →
    ∃ v w', R (.returned v) w' ∧ (results fn tmps).run P w' = .ok v w' ∧ Steps P (lone fr cs w) (lone { fr with defers := [] } cs w')
  | [], w, fr, cs, _, hd, h => by
    obtain ⟨v, h1, h2⟩ := h
    refine ⟨v, w, h2, h1, ?_⟩
    rw [← hd]
    exact Steps.refl _ _
  | d :: ds, w, fr, cs, hm, hd, h => by
    obtain ⟨r, w', h1, h2, h3⟩ := h
    have hs := step_collected (cs := cs) (by rw [hm]; simp) hd h1 h2
    obtain ⟨v, w'', k1, k2, k3⟩ := marks_steps ds w' { fr with defers := [] ++ ds } cs hm rfl h3
    exact ⟨v, w'', k1, k2, Steps.head hs k3⟩

/-- a function that puts off no call of its own, entered as a deferred call -/
theorem callsDIn_marks {n : Nat} {f : FuncId} {fn : Func} {c : Code} {args : Array Value} {w : World} {R : Ending → World → Prop}
    (hf : P.funcs[f]? = some fn) (hb : fn.body = some c)
    (h : c.wpIn Fence.wide n P (fun e a w => (e = .normal ∨ e = .ret) ∧ MarksTo P fn a.tmps R a.defers w) { tmps := args ++ Array.replicate (fn.ntmps - args.size) undef, defers := [] } w) :
    CallsDIn Fence.wide n P f args .returning w fun e u' w' => u' = .returning ∧ R e w' := by
  refine ⟨trivial, fun c₀ cs hu hr => ?_⟩
  let b : Frame := { (default : Frame) with fn := f, kind := .deferred, roundOf := none }
  have henter : Frame.enter P f args .deferred = b.atR { tmps := args ++ Array.replicate (fn.ntmps - args.size) undef, defers := [] } [.code c] := by
    simp [Frame.enter, Frame.atR, hf, hb, b]
  have hc : ({ c₀ with mode := .returning } : Frame) = c₀ := by rw [← hu]
  obtain ⟨e, a', w', ⟨he, hq⟩, harr⟩ := h b [] (c₀ :: cs) rfl trivial hr
  rw [← henter] at harr
  have main : ∀ todo, StepsIn (Machine.fenced P Fence.wide) P (lone (Frame.enter P f args .deferred) (c₀ :: cs) w) (lone { b.atR a' todo with mode := .returning } (c₀ :: cs) w') →
      ∃ e u' w'' fr, (u' = FrameMode.returning ∧ R e w'') ∧ ComesIn (Machine.fenced P Fence.wide) P (lone (Frame.enter P f args .deferred) (c₀ :: cs) w) (lone fr ({ c₀ with mode := u' } :: cs) w'') e ∧ fr.kind = .deferred ∧ fr.fn = f ∧ fr.going P w'' e := by
    intro todo hs
    obtain ⟨v, w'', k1, k2, k3⟩ := marks_steps a'.defers w' { b.atR a' todo with mode := .returning } (c₀ :: cs) rfl rfl hq
    refine ⟨.returned v, .returning, w'', { ({ b.atR a' todo with mode := .returning } : Frame) with defers := [] }, ⟨rfl, k1⟩, ?_, ?_, ?_, ?_⟩
    · rw [hc]
      exact StepsIn.trans hs (stepsIn_wide.2 k3)
    · rfl
    · rfl
    · exact ⟨rfl, rfl, fn, hf, k2⟩
  rcases he with rfl | rfl
  · exact main [] (StepsIn.trans harr (stepsIn_wide.2 (Steps.one (stepR_end rfl))))
  · obtain ⟨todo, hs⟩ := harr.1 rfl
    exact main todo hs

theorem shutD_ok {fn : Func} {ts : Array Value} {R : Ending → World → Prop} {H' : AH} {w0 : World} {φ0 : Phi} :
    ∀ (l : List AD) (ds : List Deferred) (H : AH) (w : World), φ0.le φ → HR E B0 φ H w → MR P φ l ds → Below B0 w0 w → shutA (fun _ => none) l H = some H' →
      (∀ w', HR E B0 φ H' w' → Below B0 w0 w' → ∃ v, (results fn ts).run P w' = .ok v w' ∧ R (.returned v) w') → MarksTo P fn ts R ds w
  | [], ds, H, w, hle, hR, hM, hB, h, hr => by
    simp only [MR] at hM
    subst hM
    simp only [shutA, Option.some.injEq] at h
    subst h
    exact hr w hR hB
  | .mark i :: l, ds, H, w, hle, hR, hM, hB, h, hr => by
    obtain ⟨d, r, Q, rfl, h1, h2, h3⟩ := hM
    simp only [shutA] at h
    split at h
    case h_2 => simp at h
    rename_i hg
    obtain ⟨_, hlow, hheap⟩ := hR.obj i 0 Q _ h2 hg
    simp only at hheap
    obtain ⟨hR', hB'⟩ := hR.putObj (o' := .dfr false) (b := .deferred none) h2 hg (by simp) (by simp) hheap ⟨rfl, hlow, get_set_heap hheap⟩
    exact ⟨Q.B, _, h1, run_takeDeferred hheap, shutD_ok l r _ _ hle hR' h3 (hB.trans hB') h hr⟩
  | .call f args :: l, ds, H, w, _, _, _, _, h, _ => by
    simp [shutA] at h

theorem retD_ok (hE : E.Ok P) (hR : HR E B0 φ H w) {fn : Func} {ts : Array Value} {v : AV} {H' : AH} {w0 : World} {φ0 : Phi} {ds : List Deferred} (hle : φ0.le φ) (hF : FT φ fr ts) (hM : MR P φ fr.marks ds)
    (hB : Below B0 w0 w) (h : retS E (fun _ => none) fn fr H = some (.ret v H')) : MarksTo P fn ts (CallPost E B0 φ0 w0 v H') ds w := by
  have fin : ∀ l H1, fr.marks = l → shutA (fun _ => none) l H = some H1 → retV H1 (resultsA E fn fr H1) = some (.ret v H') → MarksTo P fn ts (CallPost E B0 φ0 w0 v H') ds w := by
    intro l H1 hm h1 h2
    unfold retV at h2
    split at h2
    case h_2 => simp at h2
    rename_i v' hv
    simp only [Option.some.injEq, Out.ret.injEq] at h2
    obtain ⟨rfl, rfl⟩ := h2
    refine shutD_ok l ds H w hle hR (by rw [hm] at hM; exact hM) hB h1 fun w' hR' hB' => ?_
    obtain ⟨u, k1, k2⟩ := results_ok hE hR' hF hv
    exact ⟨u, k1, φ, hle, hR', k2, hB'⟩
  unfold retS at h
  split at h
  · rename_i hm
    exact fin [] H hm rfl h
  · rename_i l hm
    split at h
    case h_2 => simp at h
    rename_i H1 h1
    exact fin _ H1 rfl h1 h

end Go.Uf
end

/-
  Operations in a row, by the machine's own steps: communication among them, calls that are put off.
-/
noncomputable section
namespace Go.Uf
open Go.RowKit (Below)

variable {E : Env} {P : Program} {B0 : Nat} {φ : Phi} {H : AH} {w : World} {fr : AFr} {a : Act} {ops : Array Oper} {Q : Exit → Act → World → Prop}

/-- where the operations of a list lead -/
def OpsTo (F : Fence) (n : Nat) (P : Program) (ops : Array Oper) (Q : Exit → Act → World → Prop) (l : List Nat) (a : Act) (w : World) : Prop :=
  ∀ (b : Frame) (k : List Item) (cs : List Frame), b.roundOf = F.round → F.fn b.fn → F.room (cs.length + 1 + n) →
    ∃ e a' w', Q e a' w' ∧ ArrivesIn (Machine.fenced P F) P (lone (b.atR a (.inRegion ops l :: k)) cs w) b k cs e a' w'

theorem OpsTo.nil {F : Fence} {n : Nat} (h : Q .normal a w) : OpsTo F n P ops Q [] a w := wp_opsIn (F := F) (n := n) (P := P) (ops := ops) [] a w h

theorem OpsTo.region {F : Fence} {n : Nat} {id : Nat} (h : OpsTo F n P ops Q (List.range ops.size) a w) : (Code.region id ops false).wpIn F n P Q a w :=
  fun b k cs hro hb hr => let ⟨e, a', w', q, r⟩ := h b k cs hro hb hr; ⟨e, a', w', q, .of_steps (.one (fenced_calm hb hr rfl) stepR_region) r⟩

/-- one step of the machine's, behind which the operation has its value -/
theorem OpsTo.value {ro : Option Nat} {n i : Nat} {rest : List Nat} {o : Oper} (ho : ops[i]? = some o) {a' : Act} {v : Value} {w' : World}
    (hs : ∀ (b : Frame) (k : List Item) (cs : List Frame), b.roundOf = ro → step P (lone (b.atR a (.inRegion ops (i :: rest) :: k)) cs w) = .next (lone ((b.atR a' (.inRegion ops (i :: rest) :: k)).finish v) cs w'))
    (h : OpsTo (FW ro) n P ops Q rest (a'.put o.dst v) w') : OpsTo (FW ro) n P ops Q (i :: rest) a w := by
  intro b k cs hro hb hr
  obtain ⟨e, a2, w2, hq, harr⟩ := h b k cs hro hb hr
  refine ⟨e, a2, w2, hq, .of_steps (.one (fenced_oper hb hr ho fun _ _ => trivial) ?_) harr⟩
  rw [hs b k cs hro, Frame.finish_atR, ho]
  rfl

/-- one operation, by its own law -/
theorem OpsTo.op {ro : Option Nat} {n i : Nat} {rest : List Nat} {o : Oper} (ho : ops[i]? = some o)
    (h : if Region.wanted o (yielded ops a.tmps) then o.wpIn (FW ro) n P a w (OpsTo (FW ro) n P ops Q rest) Q else (∀ f, o.about P w a.eval = some f → (FW ro).fn f) ∧ OpsTo (FW ro) n P ops Q rest (a.put o.dst undef) w) :
    OpsTo (FW ro) n P ops Q (i :: rest) a w := by
  by_cases hw : Region.wanted o (yielded ops a.tmps) = true
  · rw [if_pos hw] at h
    obtain ⟨_, h⟩ := h
    have hg : ∀ (b : Frame) (k : List Item) (cs : List Frame), b.roundOf = ro → stepG P true { frame := b.atR a (.inRegion ops (i :: rest) :: k), callers := cs, status := .running, dying := none } w =
        stepG.apply P true (b.atR a (.inRegion ops (i :: rest) :: k)) cs none (o.semAt ro a.eval) w := fun b k cs hro => by
      rw [← hro]; exact stepGR_op (P := P) (b := b) (k := k) (cs := cs) (w := w) (rest := rest) ho hw
    generalize hres : (o.semAt (FW ro).round a.eval).run P w = res at h
    have hres' : (o.semAt ro a.eval).run P w = res := hres
    cases res with
    | ok x w' =>
      cases x with
      | value v =>
        refine OpsTo.value (a' := a) (v := v) (w' := w') ho (fun b k cs hro => step_lone_go ?_) h
        rw [hg b k cs hro]; simp [stepG.apply, hres']
      | skip =>
        refine OpsTo.value (a' := a) (v := undef) (w' := w') ho (fun b k cs hro => step_lone_go ?_) h
        rw [hg b k cs hro]; simp [stepG.apply, hres']
      | enter f args =>
        simp only [Oper.uponIn] at h
        obtain ⟨_, _, h⟩ := h
        intro b k cs hro hb hr
        obtain ⟨e, w'', fr', hR, hsteps, hfn, hleave⟩ := h (b.atR a (.inRegion ops (i :: rest) :: k) :: cs) (room_wide _)
        have h0 : (lone (b.atR a (.inRegion ops (i :: rest) :: k)) cs w).fenced P (FW ro) := fenced_oper hb hr ho fun _ _ => trivial
        have henter : step P (lone (b.atR a (.inRegion ops (i :: rest) :: k)) cs w) = .next (lone (Frame.enter P f args .normal) (b.atR a (.inRegion ops (i :: rest) :: k) :: cs) w') :=
          step_lone_go (by rw [hg b k cs hro]; simp [stepG.apply, hres', Frame.atR])
        cases e with
        | returned v =>
          have hl : (lone fr' (b.atR a (.inRegion ops (i :: rest) :: k) :: cs) w'').fenced P (FW ro) := fenced_leaving (n := 0) trivial (room_wide _) hleave
          obtain ⟨e2, a2, w3, hq, harr⟩ := hR b k cs hro hb hr
          refine ⟨e2, a2, w3, hq, .of_steps (.head h0 henter (StepsIn.trans hsteps (.one hl ?_))) harr⟩
          rw [step_leave_returned hleave, Frame.finish_atR, ho]
          rfl
        | panicked chain =>
          have hl : (lone fr' (b.atR a (.inRegion ops (i :: rest) :: k) :: cs) w'').fenced P (FW ro) := fenced_leaving (n := 0) trivial (room_wide _) hleave
          refine ⟨.panic chain, a, w'', hR, .inRegion ops (i :: rest) :: k, .head h0 henter (StepsIn.trans hsteps (.one hl ?_))⟩
          rw [← Frame.raise_atR]; exact step_leave_panicked hleave
        | outgrown =>
          obtain ⟨a0, w0, hq⟩ := hR
          exact ⟨.outgrown, a0, w0, hq, .inr (Outgrown.of_steps (.one henter) hsteps)⟩
      | round l f tmps assign body =>
        simp only [Oper.uponIn] at h
        obtain ⟨_, _, h⟩ := h
        intro b k cs hro hb hr
        obtain ⟨e, w'', hR, hsteps⟩ := h (b.atR a (.inRegion ops (i :: rest) :: k)) cs (room_wide _)
        have h0 : (lone (b.atR a (.inRegion ops (i :: rest) :: k)) cs w).fenced P (FW ro) := fenced_oper hb hr ho fun _ _ => trivial
        have henter : step P (lone (b.atR a (.inRegion ops (i :: rest) :: k)) cs w) = .next (lone (Frame.round l f tmps assign body .normal) (b.atR a (.inRegion ops (i :: rest) :: k) :: cs) w') :=
          step_lone_go (by rw [hg b k cs hro]; simp [stepG.apply, hres', Frame.atR])
        cases e with
        | returned v =>
          obtain ⟨e2, a2, w3, hq, harr⟩ := hR b k cs hro hb hr
          refine ⟨e2, a2, w3, hq, .of_steps (.head h0 henter ?_) harr⟩
          have := Frame.finish_atR b a ops i rest k v
          rw [ho] at this
          rw [show ((some o).bind fun o => o.dst) = o.dst from rfl] at this
          rw [← this]
          exact hsteps
        | panicked chain =>
          refine ⟨.panic chain, a, w'', hR, .inRegion ops (i :: rest) :: k, .head h0 henter ?_⟩
          rw [← Frame.raise_atR]; exact hsteps
        | outgrown =>
          obtain ⟨a0, w0, hq⟩ := hR
          exact ⟨.outgrown, a0, w0, hq, .inr (Outgrown.of_steps (.one henter) hsteps)⟩
      | row r args =>
        simp only [Oper.uponIn] at h
        obtain ⟨_, h⟩ := h
        intro b k cs hro hb hr
        obtain ⟨v, w'', hR, hsteps⟩ := h (b.atR a (.inRegion ops (i :: rest) :: k)) cs (room_wide _)
        have h0 : (lone (b.atR a (.inRegion ops (i :: rest) :: k)) cs w).fenced P (FW ro) := fenced_oper hb hr ho fun _ _ => trivial
        have henter : step P (lone (b.atR a (.inRegion ops (i :: rest) :: k)) cs w) = .next (lone (Frame.ofRow P r args .normal) (b.atR a (.inRegion ops (i :: rest) :: k) :: cs) w') :=
          step_lone_go (by rw [hg b k cs hro]; simp [stepG.apply, hres', Frame.atR])
        obtain ⟨e2, a2, w3, hq, harr⟩ := hR b k cs hro hb hr
        refine ⟨e2, a2, w3, hq, .of_steps (.head h0 henter ?_) harr⟩
        have := Frame.finish_atR b a ops i rest k v
        rw [ho] at this
        rw [show ((some o).bind fun o => o.dst) = o.dst from rfl] at this
        rw [← this]
        exact hsteps
      | defer d =>
        simp only [Oper.uponIn] at h
        refine OpsTo.value (a' := { a with defers := d :: a.defers }) (v := undef) (w' := w') ho (fun b k cs hro => step_lone_go ?_) h
        rw [hg b k cs hro]
        simp only [stepG.apply, Sem.runT_eq, hres', GStep.bare_after]
        rfl
      | _ => exact h.elim
    | halt x w' =>
      cases x with
      | panic v =>
        intro b k cs hro hb hr
        refine ⟨_, a, w', h, .inRegion ops (i :: rest) :: k, .one (fenced_oper hb hr ho fun _ _ => trivial) (step_lone_go ?_)⟩
        rw [hg b k cs hro, ← Frame.raise_atR]; simp [stepG.apply, hres']
      | _ => exact h.elim
  · rw [if_neg hw] at h
    obtain ⟨_, h⟩ := h
    intro b k cs hro hb hr
    obtain ⟨e, a2, w2, hq, harr⟩ := h b k cs hro hb hr
    have hs := stepR_op_skip (P := P) (b := b) (a := a) (k := k) (cs := cs) (w := w) (ops := ops) (i := i) (rest := rest) (by simp [ho]; simpa using hw)
    simp only [ho, Option.bind_some] at hs
    exact ⟨e, a2, w2, hq, .of_steps (.one (fenced_oper hb hr ho fun _ _ => trivial) hs) harr⟩

/-- what is asked behind operations, what was put off with it -/
def GoesM (E : Env) (P : Program) (B0 : Nat) (φ : Phi) (w : World) (fr' : AFr) (H' : AH) (next : Act → World → Prop) : Prop :=
  ∀ (ψ : Phi) (a' : Act) (w' : World), φ.le ψ → HR E B0 ψ H' w' → FT ψ fr' a'.tmps → MR P ψ fr'.marks a'.defers → Below B0 w w' → next a' w'

end Go.Uf
end

/-
  Operations in a row: each one's law.
-/
noncomputable section
namespace Go.Uf
open Go.RowKit (Below)

variable {E : Env} {P : Program} {B0 : Nat} {φ : Phi} {H : AH} {w : World} {fr : AFr} {a : Act} {ops : Array Oper} {Q : Exit → Act → World → Prop}

theorem FT.later {g : Nat} {l : List AV} {ts : Array Value} (h : FT φ fr ts) : FT φ (fr.later g l) ts := by
  obtain ⟨nt, ex, tm, lo, ms⟩ := fr
  exact ⟨h.1, h.2⟩
theorem later_marks {g : Nat} {l : List AV} : (fr.later g l).marks = .call g l :: fr.marks := by cases fr; rfl

theorem callA_enter (hE : E.Ok P) {f : AV} {fu : Value} {args : List AV} {us : Array Value} (hf : VR φ f fu) (hargs : VRs φ args us.toList) {g : Nat} {l : List AV} {H1 : AH} (h : callA E f args H = some (.enter g l H1)) :
    ∃ (cap as : Array Value), (∀ w, (Deferred.ofValue fu us).run P w = .ok { target := .fn (.func g) cap, args := as } w) ∧ (∀ w, (invoke (.fn (.func g) cap) as).run P w = .ok (.enter g (as ++ cap)) w) ∧ VRs φ l (as ++ cap).toList := by
  unfold callA at h
  split at h
  case h_2 => simp at h
  case h_3 => simp at h
  rename_i g' a0 c0
  split at h
  · simp at h
  rename_i fn hfn
  split at h
  · rename_i c hbody
    split at h
    · simp at h
    rename_i hname
    simp only [Option.some.injEq, R1.enter.injEq] at h
    obtain ⟨rfl, rfl, rfl⟩ := h
    simp only [VR] at hf
    obtain ⟨a', c', rfl, _, ha, hc⟩ := hf
    have hn' : (fn.name == "runtime.NumGoroutine") = false := by
      simpa using hname
    refine ⟨c', a' ++ us, fun w => by simp [Deferred.ofValue], fun w => ?_, ?_⟩
    · simp only [invoke, callFunc, Sem.run_bind, run_program, Result.andThen_ok, hE.funcs _ _ hfn, hn', Bool.false_eq_true, if_false, hbody, Option.isNone_some, Sem.run_pure]
    · simp only [Array.toList_append]
      exact (ha.append hargs).append hc
  · -- without a body it is entered by no call
    rename_i hbody
    exfalso
    unfold extA at h
    repeat' (first | (simp at h; done) | split at h | (simp only [newO_eq] at h))

theorem put_goes {o : Oper} {fr2 fr' : AFr} {v : AV} {u : Value} {H1 H' : AH} (hF : FT φ fr2 a.tmps) (hv : VR φ v u) (h : fin o fr2 v H1 = some (fr', H')) : FT φ fr' (a.put o.dst u).tmps ∧ H' = H1 ∧ fr'.marks = fr2.marks ∧ (a.put o.dst u).defers = a.defers :=
  hF.fin hv h

theorem doOpX_ok (hE : E.Ok P) {rec : Task → Option Out} (hc : SndCall E P B0 rec) (hr : SndRound E P B0 rec) (hR : HR E B0 φ H w) (hF : FT φ fr a.tmps) (hM : MR P φ fr.marks a.defers) {o : Oper} {fr' : AFr} {H' : AH}
    (h : doOpX E rec ops o fr H = some (fr', H')) {i : Nat} (ho : ops[i]? = some o) {rest : List Nat} (ro : Option Nat) (hro : ro = none ∨ ∀ c, o.op ≠ .defer c) (k : Nat)
    (hn : GoesM E P B0 φ w fr' H' (OpsTo (FW ro) k P ops Q rest)) : OpsTo (FW ro) k P ops Q (i :: rest) a w := by
  have hundef : ∀ ψ : Phi, VR ψ (.tup []) undef := fun ψ => by simp [VR, VRs, undef]
  unfold doOpX at h
  split at h
  · -- its own law
    refine OpsTo.op ho (doOp_ok hE hc hr hR hF h ro k Q (OpsTo (FW ro) k P ops Q rest) fun ψ a' w' hle hR' hF' hd hB => hn ψ a' w' hle hR' hF' ?_ hB)
    rw [doOp_marks h, hd]
    exact hM.mono hle
  rename_i s hs
  split at h
  · simp at h
  rename_i b hb
  have hwan := wanted_ok hF hb
  split at h
  · refine OpsTo.op ho ?_
    rw [hwan]
    simp only [Bool.false_eq_true, if_false]
    obtain ⟨h1, rfl, h3, h4⟩ := put_goes hF (hundef φ) h
    exact ⟨fun f _ => FW_fn ro f, hn φ _ _ (Phi.le_refl _) hR h1 (by rw [h3, h4]; exact hM) (Below.refl' w)⟩
  · unfold spcOf at hs
    cases s with
    | dfr c =>
      have hop : o.op = .defer c := by
        split at hs <;> first
          | (simp at hs; done)
          | (rename_i c' e; simp only [Option.some.injEq, Spc.dfr.injEq] at hs; rw [e, hs])
          | (split at hs <;> simp at hs)
      have hnone : ro = none := hro.resolve_right fun hx => hx c hop
      subst hnone
      simp only [doSpc] at h
      unfold s_dfr at h
      split at h
      case h_2 => simp at h
      rename_i f hcal
      split at h
      case h_2 => simp at h
      rename_i fv args hf hargs
      split at h
      case h_2 => simp at h
      rename_i g l H1 hcall
      have vf := ev_ok hR hF hf
      have vargs := evs_ok hR hF hargs
      have vargs' : VRs φ args (c.args.map a.eval).toList := by rw [Array.toList_map]; exact vargs
      obtain ⟨cap, as, k1, k2, k3⟩ := callA_enter hE vf vargs' hcall
      refine OpsTo.op ho ?_
      rw [hwan]
      simp only [if_true]
      refine ⟨fun _ _ => trivial, ?_⟩
      have hexec : (o.semAt (FW none).round a.eval).run P w = .ok (.defer { target := .fn (.func g) cap, args := as }) w := by
        show (o.semAt none a.eval).run P w = _
        rw [Oper.semAt_none]
        unfold execOp; rw [hop]
        simp only [resolve, hcal, Sem.run_bind, k1, Result.andThen_ok, Sem.run_pure]
      rw [hexec]
      obtain ⟨h1, rfl, h3, h4⟩ := put_goes (a := { a with defers := { target := .fn (.func g) cap, args := as } :: a.defers }) (hF.later (g := g) (l := l)) (hundef φ) h
      refine hn φ _ _ (Phi.le_refl _) hR h1 ?_ (Below.refl' w)
      rw [h3, h4, later_marks]
      exact ⟨_, _, cap, as ++ cap, rfl, rfl, k2, k3, hM⟩
    | send ch x =>
      have hop : o.op = .send ch x := by
        split at hs <;> first
          | (simp at hs; done)
          | (rename_i c' e d; simp only [Option.some.injEq, Spc.send.injEq] at hs; rw [d, hs.1, hs.2])
          | (split at hs <;> simp at hs)
      simp only [doSpc] at h
      unfold s_send at h
      split at h
      case h_2 => simp at h
      rename_i c v hch hx
      split at h
      case h_2 => simp at h
      rename_i cp buf hg
      split at h
      case h_2 => simp at h
      rename_i hlt
      have hlt : buf.length < cp := by simpa [Nat.blt_eq] using hlt
      rw [putO_eq] at h
      have vch := ev_ok (a := a) hR hF hch
      have vx := ev_ok (a := a) hR hF hx
      simp only [VR] at vch
      obtain ⟨Qc, hq, hchu⟩ := vch
      obtain ⟨_, hlow, bu, s, r, hheap, hbu⟩ := hR.obj c 0 Qc _ hq hg
      have hlen := VRs.length hbu
      rw [Array.length_toList] at hlen
      obtain ⟨hR', hB'⟩ := hR.putObj (o' := .chan cp (buf ++ [v])) (b := .chan cp (bu.push (a.eval x)) false (s + 1) r false) hq hg (by simp) (by simp) hheap
        ⟨rfl, hlow, _, _, _, get_set_heap hheap, by rw [Array.toList_push]; exact hbu.append (VRs.cons vx VRs.nil)⟩
      obtain ⟨h1, rfl, h3, h4⟩ := put_goes hF (hundef φ) h
      refine OpsTo.value (a' := a) (v := undef) ho (fun b k' cs hbr => ?_) (hn φ _ _ (Phi.le_refl _) hR' h1 (by rw [h3, h4]; exact hM) hB')
      have hg1 := stepGR_op (P := P) (b := b) (k := k') (cs := cs) (w := w) (rest := rest) ho hwan
      rw [Oper.semAt_eq _ _ _ (fun c e => by rw [hop] at e; cases e)] at hg1
      have hexec : execOp a.eval o = pure (.comm #[Conc.scase Qc.B (a.eval x) (.tuple #[])] true .send) := by
        unfold execOp; rw [hop]
        simp only [hchu]
        rfl
      rw [hexec] at hg1
      have hcomm : ∃ es, stepG P true (Conc.G (b.atR a (.inRegion ops (i :: rest) :: k')) cs) w = .comm (Conc.G (b.atR a (.inRegion ops (i :: rest) :: k')) cs) #[Conc.scase Qc.B (a.eval x) (.tuple #[])] true .send w es := by
        show ∃ es, stepG P true { frame := b.atR a (.inRegion ops (i :: rest) :: k'), callers := cs, status := .running, dying := none } w = .comm (Conc.G (b.atR a (.inRegion ops (i :: rest) :: k')) cs) #[Conc.scase Qc.B (a.eval x) (.tuple #[])] true .send w es
        rw [hg1]
        exact ⟨_, rfl⟩
      obtain ⟨es, hcomm⟩ := hcomm
      exact Conc.step_lone_send_room hcomm hheap (by omega)
    | recv t ch =>
      have hop : o.op = .recv t ch false := by
        split at hs <;> first
          | (simp at hs; done)
          | (split at hs <;> first
              | (simp at hs; done)
              | (rename_i d; simp only [Option.some.injEq, Spc.recv.injEq] at hs; rw [d, hs.1, hs.2]))
      simp only [doSpc] at h
      unfold s_recv at h
      split at h
      case h_2 => simp at h
      rename_i c d e hch ht
      split at h
      case h_2 => simp at h
      rename_i cp v buf z hg hz
      rw [putO_eq] at h
      have vch := ev_ok (a := a) hR hF hch
      simp only [VR] at vch
      obtain ⟨Qc, hq, hchu⟩ := vch
      obtain ⟨_, hlow, bu, s, r, hheap, hbu⟩ := hR.obj c 0 Qc _ hq hg
      obtain ⟨zu, hzr, _⟩ := zero_ok hE hz
      simp only [VRs] at hbu
      obtain ⟨u, us, hul, hvu, hus⟩ := hbu
      obtain ⟨bl⟩ := bu
      simp only at hul
      subst hul
      have hext : ((⟨u :: us⟩ : Array Value).extract 1 (⟨u :: us⟩ : Array Value).size) = ⟨us⟩ := by
        apply Array.ext'
        simp
      obtain ⟨hR', hB'⟩ := hR.putObj (o' := .chan cp buf) (b := .chan cp ⟨us⟩ false s (r + 1) false) hq hg (by simp) (by simp) hheap
        ⟨rfl, hlow, _, _, _, get_set_heap hheap, hus⟩
      obtain ⟨h1, rfl, h3, h4⟩ := put_goes hF hvu h
      refine OpsTo.value (a' := a) (v := u) ho (fun b k' cs hbr => ?_) (hn φ _ _ (Phi.le_refl _) hR' h1 (by rw [h3, h4]; exact hM) hB')
      have hg1 := stepGR_op (P := P) (b := b) (k := k') (cs := cs) (w := w) (rest := rest) ho hwan
      rw [Oper.semAt_eq _ _ _ (fun c e => by rw [hop] at e; cases e)] at hg1
      have hexec : (execOp a.eval o).run P w = .ok (.comm #[Conc.rcase Qc.B zu] true (.recv false)) w := by
        unfold execOp; rw [hop]
        simp only [hchu, Sem.run_bind, run_underlying_of (desc_ok hE ht), Result.andThen_ok, hzr, Sem.run_pure]
        rfl
      have hcomm : ∃ es, stepG P true (Conc.G (b.atR a (.inRegion ops (i :: rest) :: k')) cs) w = .comm (Conc.G (b.atR a (.inRegion ops (i :: rest) :: k')) cs) #[Conc.rcase Qc.B zu] true (.recv false) w es := by
        show ∃ es, stepG P true { frame := b.atR a (.inRegion ops (i :: rest) :: k'), callers := cs, status := .running, dying := none } w = .comm (Conc.G (b.atR a (.inRegion ops (i :: rest) :: k')) cs) #[Conc.rcase Qc.B zu] true (.recv false) w es
        rw [hg1]
        simp only [stepG.apply, Sem.runT_eq, hexec]
        exact ⟨_, rfl⟩
      obtain ⟨es, hcomm⟩ := hcomm
      have hst := Conc.step_lone_recv_buf false hcomm hheap (by simp)
      rw [hext] at hst
      exact hst

end Go.Uf
end

/-
  Code, but for loops over functions.
-/
noncomputable section
namespace Go.Uf
open Go.RowKit (Below)

variable {E : Env} {P : Program} {B0 : Nat} {φ : Phi} {H : AH} {w : World} {fr : AFr} {a : Act}

def exA : Ex → Exit
  | .normal => .normal
  | .exit id => .exit id
  | .ret => .ret

def CodePost (E : Env) (P : Program) (B0 : Nat) (φ : Phi) (w : World) (e : Ex) (fr' : AFr) (H' : AH) : Exit → Act → World → Prop :=
  fun e' a' w' => e' = exA e ∧ ∃ ψ : Phi, φ.le ψ ∧ HR E B0 ψ H' w' ∧ FT ψ fr' a'.tmps ∧ MR P ψ fr'.marks a'.defers ∧ Below B0 w w'

theorem CodePost.of {ψ : Phi} {w1 : World} {e : Ex} {fr' : AFr} {H' : AH} (hle : φ.le ψ) (hB : Below B0 w w1) {e' : Exit} {a' : Act} {w' : World} (h : CodePost E P B0 ψ w1 e fr' H' e' a' w') :
    CodePost E P B0 φ w e fr' H' e' a' w' := by
  obtain ⟨h1, χ, h2, h3, h4, h5, h6⟩ := h
  exact ⟨h1, χ, Phi.le_trans hle h2, h3, h4, h5, hB.trans h6⟩

/-- the round that code runs in -/
def RO (φ : Phi) : Option Nat → Option Nat → Prop
  | none, none => True
  | some l, some b => ∃ Q, φ l 0 = some Q ∧ Q.B = b
  | _, _ => False

theorem RO.mono {φ ψ : Phi} (h : φ.le ψ) {l b : Option Nat} (k : RO φ l b) : RO ψ l b := by
  cases l <;> cases b <;> simp only [RO] at k ⊢
  obtain ⟨Q, h1, h2⟩ := k
  exact ⟨Q, h _ _ _ h1, h2⟩

def SndCode (E : Env) (P : Program) (B0 : Nat) (rec : Task → Option Out) : Prop :=
  ∀ c fr rnd H e fr' H', rec (.code c fr rnd H) = some (.code e fr' H') → ∀ (k : Nat) (φ : Phi) (a : Act) (w : World) (ro : Option Nat), HR E B0 φ H w → FT φ fr a.tmps → MR P φ fr.marks a.defers → RO φ rnd ro →
    c.wpIn (FW ro) k P (CodePost E P B0 φ w e fr' H') a w

def SndDraw (E : Env) (P : Program) (B0 : Nat) (rec : Task → Option Out) : Prop :=
  ∀ (id : Nat) (ops : Array Oper) fr H fr' H', drawA E rec ops fr H = some (fr', H') → fr'.marks = fr.marks ∧ ∀ (k : Nat) (φ : Phi) (a : Act) (w : World) (ro : Option Nat) (Q : Exit → Act → World → Prop), HR E B0 φ H w → FT φ fr a.tmps →
    Goes E B0 φ w fr' H' a.defers (Q .normal) → (Code.region id ops true).wpIn (FW ro) k P Q a w

theorem FT.clear {nt ex : Nat} {tm : T AV} {lo : List (Nat × AV)} {ms ms' : List AD} {ts : Array Value} (h : FT φ ⟨nt, ex, tm, lo, ms⟩ ts) : FT φ ⟨nt, ex, tm, [], ms'⟩ ts := by
  refine ⟨h.1, fun t v e => h.2 t v ?_⟩
  simp only [AFr.get] at e ⊢
  split at e
  · exact e
  · simp [lookL] at e

theorem range_map (ops : Array Oper) : (List.range ops.size).map (fun i => ops[i]?) = ops.toList.map some := by
  apply List.ext_getElem?
  intro i
  simp only [List.getElem?_map]
  by_cases h : i < ops.size
  · rw [List.getElem?_range h]
    simp [h]
  · rw [List.getElem?_eq_none (by simp; omega), List.getElem?_eq_none (by simp; omega)]
    rfl

theorem doOps_ok (hE : E.Ok P) {rec : Task → Option Out} (hc : SndCall E P B0 rec) (hr : SndRound E P B0 rec) {ops : Array Oper} (ro : Option Nat) (k : Nat) (Q : Exit → Act → World → Prop) {fr' : AFr} {H' : AH} :
    ∀ (l : List Oper) (is : List Nat) (φ : Phi) (fr : AFr) (H : AH) (a : Act) (w : World), is.map (fun i => ops[i]?) = l.map some → HR E B0 φ H w → FT φ fr a.tmps → MR P φ fr.marks a.defers → (ro = none ∨ ∀ o ∈ l, ∀ c, o.op ≠ .defer c) →
      doOps E rec ops l fr H = some (fr', H') → GoesM E P B0 φ w fr' H' (Q .normal) → OpsTo (FW ro) k P ops Q is a w
  | [], [], φ, fr, H, a, w, _, hR, hF, hM, _, h, hn => by
    simp only [doOps, Option.some.injEq, Prod.mk.injEq] at h
    obtain ⟨rfl, rfl⟩ := h
    exact OpsTo.nil (hn φ a w (Phi.le_refl _) hR hF hM (Below.refl' w))
  | o :: l, i :: is, φ, fr, H, a, w, hm, hR, hF, hM, hro, h, hn => by
    simp only [List.map_cons, List.cons.injEq] at hm
    obtain ⟨hi, hm⟩ := hm
    simp only [doOps] at h
    split at h
    case h_2 => simp at h
    rename_i fr1 H1 h1
    refine doOpX_ok hE hc hr hR hF hM h1 hi ro (hro.imp id fun hx => hx o (by simp)) k fun ψ a' w' hle hR' hF' hM' hB => ?_
    refine doOps_ok hE hc hr ro k Q l is ψ fr1 H1 a' w' hm hR' hF' hM' (hro.imp id fun hx o' ho' => hx o' (List.mem_cons_of_mem _ ho')) h fun χ a2 w2 hle2 hR2 hF2 hM2 hB2 => ?_
    exact hn χ a2 w2 (Phi.le_trans hle hle2) hR2 hF2 hM2 (hB.trans hB2)
  | [], _ :: _, _, _, _, _, _, hm, _, _, _, _, _, _ => by simp at hm
  | _ :: _, [], _, _, _, _, _, hm, _, _, _, _, _, _ => by simp at hm

theorem noDfr_ok {ops : Array Oper} (h : noDfr ops = true) : ∀ o ∈ ops.toList, ∀ c, o.op ≠ .defer c := by
  unfold noDfr at h
  rw [List.all_eq_true] at h
  intro o ho c e
  have := h o ho
  rw [e] at this
  simp at this

theorem region_ok (hE : E.Ok P) {rec : Task → Option Out} (hc : SndCall E P B0 rec) (hr : SndRound E P B0 rec) (hR : HR E B0 φ H w) (hF : FT φ fr a.tmps) (hM : MR P φ fr.marks a.defers) {id : Nat} {ops : Array Oper} {fr' : AFr} {H' : AH}
    (h : doOps E rec ops ops.toList fr H = some (fr', H')) (k : Nat) (ro : Option Nat) (hro : ro = none ∨ ∀ o ∈ ops.toList, ∀ c, o.op ≠ .defer c) : (Code.region id ops false).wpIn (FW ro) k P (CodePost E P B0 φ w .normal fr' H') a w :=
  OpsTo.region (doOps_ok hE hc hr ro k _ ops.toList _ φ fr H a w (range_map ops) hR hF hM hro h fun ψ _ _ hle hR' hF' hM' hB => ⟨rfl, ψ, hle, hR', hF', hM', hB⟩)

theorem cond_ok (hR : HR E B0 φ H w) (hF : FT φ fr a.tmps) {c : Operand} {t : Bool} (h : ev E fr c = some (.b t)) : a.eval c = .bool t := by
  have := ev_ok hR hF h
  simpa [VR] using this

open Classical in
theorem wpIn_loop_J {F : Fence} {n : Nat} {c : Code} {Q : Exit → Act → World → Prop} {J : Nat → Act → World → Prop} {n0 : Nat} (h0 : J n0 a w)
    (round : ∀ m a w, J m a w → c.wpIn F n P (Exit.then (fun a' w' => ∃ m', m' < m ∧ J m' a' w') Q) a w) : (Code.loop c).wpIn F n P Q a w := by
  have least : ∀ a w, (∃ m, J m a w) → ∃ m, J m a w ∧ ∀ k, J k a w → m ≤ k := by
    intro a w ⟨m, hm⟩
    induction m using Nat.strongRecOn with
    | _ m ih =>
      by_cases h : ∃ k, k < m ∧ J k a w
      · obtain ⟨k, hk, hj⟩ := h
        exact ih k hk hj
      · exact ⟨m, hm, fun k hk => Nat.le_of_not_lt fun hlt => h ⟨k, hlt, hk⟩⟩
  let μ : Act → World → Nat := fun a w => if h : ∃ m, J m a w then Classical.choose (least a w h) else 0
  have hμ : ∀ a w, (∃ m, J m a w) → J (μ a w) a w ∧ ∀ k, J k a w → μ a w ≤ k := by
    intro a w h
    have := Classical.choose_spec (least a w h)
    simp only [μ, dif_pos h]
    exact this
  refine wpIn_loop (fun a w => ∃ m, J m a w) μ ⟨n0, h0⟩ fun a w h => ?_
  obtain ⟨h1, h2⟩ := hμ a w h
  refine wpIn_mono (round _ a w h1) fun e a' w' hp => ?_
  cases e with
  | normal =>
    obtain ⟨m', hlt, hj⟩ := hp
    exact ⟨⟨m', hj⟩, Nat.lt_of_le_of_lt ((hμ a' w' ⟨m', hj⟩).2 m' hj) hlt⟩
  | ret => exact hp
  | exit id => exact hp
  | goto l => exact hp
  | panic c => exact hp
  | outgrown => exact hp

/-- all but 'rangeFunc' and 'loop' -/
theorem code_ok (hE : E.Ok P) {rec : Task → Option Out} (hc : SndCall E P B0 rec) (hr : SndRound E P B0 rec) (hs : SndCode E P B0 rec) (hd : SndDraw E P B0 rec) {c : Code} (hnr : ∀ f ps x y, c ≠ .rangeFunc f ps x y) (hnl : ∀ x, c ≠ .loop x)
    {rnd : Option Nat} {e : Ex} {fr' : AFr} {H' : AH} (h : codeA E rec c fr rnd H = some (.code e fr' H')) (k : Nat) (ro : Option Nat) (hR : HR E B0 φ H w) (hF : FT φ fr a.tmps) (hM : MR P φ fr.marks a.defers) (hro : RO φ rnd ro) :
    c.wpIn (FW ro) k P (CodePost E P B0 φ w e fr' H') a w := by
  unfold codeA at h
  split at h
  · simp only [Option.some.injEq, Out.code.injEq] at h
    obtain ⟨rfl, rfl, rfl⟩ := h
    exact wpIn_skip ⟨rfl, φ, Phi.le_refl _, hR, hF, hM, Below.refl' w⟩
  · simp only [Option.some.injEq, Out.code.injEq] at h
    obtain ⟨rfl, rfl, rfl⟩ := h
    exact wpIn_label ⟨rfl, φ, Phi.le_refl _, hR, hF, hM, Below.refl' w⟩
  · rename_i id ops draw
    obtain ⟨nt, ex, tm, lo, ms⟩ := fr
    have hF2 : FT φ ⟨nt, ex, tm, [], ms⟩ a.tmps := hF.clear
    unfold c_region at h
    split at h
    · split at h
      · simp at h
      rename_i hmay
      simp only at h
      unfold outN at h
      split at h
      case h_2 => simp at h
      rename_i fr1 H1 h1
      simp only [Option.some.injEq, Out.code.injEq] at h
      obtain ⟨rfl, rfl, rfl⟩ := h
      refine region_ok hE hc hr hR hF2 hM h1 k ro ?_
      cases rnd with
      | none =>
        cases ro with
        | none => exact .inl rfl
        | some b => exact hro.elim
      | some l => exact .inr (noDfr_ok hmay)
    · simp only at h
      unfold outN at h
      split at h
      case h_2 => simp at h
      rename_i fr1 H1 h1
      simp only [Option.some.injEq, Out.code.injEq] at h
      obtain ⟨rfl, rfl, rfl⟩ := h
      obtain ⟨hm, hw⟩ := hd id ops _ _ _ _ h1
      refine hw k φ a w ro _ hR hF2 fun ψ a' w' hle hR' hF' hdf hB => ⟨rfl, ψ, hle, hR', hF', ?_, hB⟩
      rw [hm, hdf]
      exact hM.mono hle
  · rename_i x y
    refine wpIn_seq ?_
    unfold c_seq at h
    split at h
    · rename_i fr1 H1 h1
      refine wpIn_mono (hs _ _ _ _ _ _ _ h1 k φ a w ro hR hF hM hro) fun e1 a1 w1 hp => ?_
      obtain ⟨rfl, ψ, hle, hR1, hF1, hM1, hB1⟩ := hp
      show y.wpIn (FW ro) k P _ a1 w1
      exact wpIn_mono (hs _ _ _ _ _ _ _ h k ψ a1 w1 ro hR1 hF1 hM1 (hro.mono hle)) fun _ _ _ hp => hp.of hle hB1
    · rename_i hne
      refine wpIn_mono (hs _ _ _ _ _ _ _ h k φ a w ro hR hF hM hro) fun e1 a1 w1 hp => ?_
      obtain ⟨rfl, hp⟩ := hp
      cases e with
      | normal => exact absurd h (hne _ _)
      | exit id => exact ⟨rfl, hp⟩
      | ret => exact ⟨rfl, hp⟩
  · rename_i x y z
    unfold c_cond at h
    split at h
    · rename_i hcv
      exact wpIn_cond_true (cond_ok hR hF hcv) (hs _ _ _ _ _ _ _ h k φ a w ro hR hF hM hro)
    · rename_i hcv
      exact wpIn_cond_false (cond_ok hR hF hcv) (hs _ _ _ _ _ _ _ h k φ a w ro hR hF hM hro)
    · simp at h
  · rename_i id x
    refine wpIn_block ?_
    unfold c_block at h
    split at h
    · rename_i j fr1 H1 h1
      refine wpIn_mono (hs _ _ _ _ _ _ _ h1 k φ a w ro hR hF hM hro) fun e1 a1 w1 hp => ?_
      obtain ⟨rfl, hp⟩ := hp
      split at h
      · rename_i hj
        have hj := Nat.eq_of_beq_eq_true hj
        subst hj
        simp only [Option.some.injEq, Out.code.injEq] at h
        obtain ⟨rfl, rfl, rfl⟩ := h
        show Exit.inBlock j _ (.exit j) a1 w1
        simp only [Exit.inBlock, if_true]
        exact ⟨rfl, hp⟩
      · rename_i hj
        have hj : ¬ j = id := fun e => by subst e; simp at hj
        simp only [Option.some.injEq, Out.code.injEq] at h
        obtain ⟨rfl, rfl, rfl⟩ := h
        show Exit.inBlock id _ (.exit j) a1 w1
        simp only [Exit.inBlock, hj, if_false]
        exact ⟨rfl, hp⟩
    · rename_i hne
      refine wpIn_mono (hs _ _ _ _ _ _ _ h k φ a w ro hR hF hM hro) fun e1 a1 w1 hp => ?_
      obtain ⟨rfl, hp⟩ := hp
      cases e with
      | normal => exact ⟨rfl, hp⟩
      | exit j => exact absurd h (hne _ _ _)
      | ret => exact ⟨rfl, hp⟩
  · exact absurd rfl (hnl _)
  · simp only [Option.some.injEq, Out.code.injEq] at h
    obtain ⟨rfl, rfl, rfl⟩ := h
    exact wpIn_exit ⟨rfl, φ, Phi.le_refl _, hR, hF, hM, Below.refl' w⟩
  · simp only [Option.some.injEq, Out.code.injEq] at h
    obtain ⟨rfl, rfl, rfl⟩ := h
    exact wpIn_ret ⟨rfl, φ, Phi.le_refl _, hR, hF, hM, Below.refl' w⟩
  · exact absurd rfl (hnr _ _ _ _)
  · simp at h

end Go.Uf
end

/-
  Loops over functions; calls; rounds.
-/
noncomputable section
namespace Go.Uf
open Go.RowKit (Below)

variable {E : Env} {P : Program} {B0 : Nat} {φ : Phi} {H : AH} {w : World} {fr : AFr} {a : Act}

/-- a loop's record is laid -/
theorem HR.newLoop (hR : HR E B0 φ H w) (hF : FT φ fr a.tmps) (ps : Array Nat) (assign body : Code) (fn D : Nat) :
    ∃ ψ : Phi, φ.le ψ ∧ ψ H.nx 0 = some ⟨w.heap.size, 0, 0, 0, 0⟩ ∧ HR E B0 ψ (H.new (.loop .ready Option.none fr ps.toList assign body)) (w.alloc (.loop { state := .ready, pending := Option.none, fn := fn, tmps := a.tmps, params := ps, assign, body, defers := D })) ∧
      Below B0 w (w.alloc (.loop { state := .ready, pending := Option.none, fn := fn, tmps := a.tmps, params := ps, assign, body, defers := D })) := by
  have hle0 : φ.le (φ.ext H.nx 0 ⟨w.heap.size, 0, 0, 0, 0⟩) := Phi.le_ext (hR.none (Nat.le_refl _) 0)
  obtain ⟨h1, h2, h3⟩ := hR.new (o := .loop .ready Option.none fr ps.toList assign body) (b := .loop { state := .ready, pending := Option.none, fn := fn, tmps := a.tmps, params := ps, assign, body, defers := D })
    (P := ⟨w.heap.size, 0, 0, 0, 0⟩) rfl ⟨Nat.le_refl _, Nat.le_refl _⟩ rfl ⟨rfl, hR.low, a.tmps, D, fn, by simp, hF.mono hle0⟩
  exact ⟨_, h1, Phi.ext_same _ _ _ _, h2, h3⟩

theorem HR.newDfr (hR : HR E B0 φ H w) :
    ∃ ψ : Phi, φ.le ψ ∧ ψ H.nx 0 = some ⟨w.heap.size, 0, 0, 0, 0⟩ ∧ HR E B0 ψ (H.new (.dfr true)) (w.alloc (.deferred (some []))) ∧ Below B0 w (w.alloc (.deferred (some []))) := by
  obtain ⟨h1, h2, h3⟩ := hR.new (o := .dfr true) (b := .deferred (some [])) (P := ⟨w.heap.size, 0, 0, 0, 0⟩) rfl ⟨Nat.le_refl _, Nat.le_refl _⟩ rfl ⟨rfl, hR.low, by simp⟩
  exact ⟨_, h1, Phi.ext_same _ _ _ _, h2, h3⟩

theorem AFr.get_mark (f : AFr) (i t : Nat) : (f.mark i).get t = f.get t := by cases f; rfl
@[simp] theorem AFr.nt_mark (f : AFr) (i : Nat) : (f.mark i).nt = f.nt := by cases f; rfl
@[simp] theorem AFr.marks_mark (f : AFr) (i : Nat) : (f.mark i).marks = .mark i :: f.marks := by cases f; rfl

/-- what 'enterLoop' does -/
theorem enter_ok (hR : HR E B0 φ H w) (hF : FT φ fr a.tmps) (hM : MR P φ fr.marks a.defers) {rnd ro : Option Nat} (hro : RO φ rnd ro) (fn : Nat) (ps : Array Nat) (assign body : Code) {K : AFr → AH → Option Out} {out : Out} (h : markA rnd fr H K = some out) :
    ∃ (fr1 : AFr) (H0 : AH) (ψ : Phi) (mark : List Deferred) (w1 : World) (L : Nat), K fr1 H0 = some out ∧ (Instr.enterLoop fn a.tmps ps assign body ro).run P w = .ok (L, mark) w1 ∧
      φ.le ψ ∧ ψ H0.nx 0 = some ⟨L, 0, 0, 0, 0⟩ ∧ HR E B0 ψ (H0.new (.loop .ready none fr ps.toList assign body)) w1 ∧ FT ψ fr1 a.tmps ∧ MR P ψ fr1.marks (mark ++ a.defers) ∧ Below B0 w w1 := by
  cases rnd with
  | none =>
    cases ro with
    | some b => exact hro.elim
    | none =>
      simp only [markA, fN_eq] at h
      obtain ⟨ψ, hle, hq, hR1, hB1⟩ := hR.newDfr
      obtain ⟨χ, hle2, hq2, hR2, hB2⟩ := hR1.newLoop (hF.mono hle) ps assign body fn w.heap.size
      refine ⟨_, _, χ, _, _, _, h, run_enterLoop_outer fn a.tmps ps assign body, Phi.le_trans hle hle2, ?_, hR2, ?_, ?_, hB1.trans hB2⟩
      · rw [World.size_alloc] at hq2
        exact hq2
      · exact (hF.mono (Phi.le_trans hle hle2)).marks (by simp) (AFr.get_mark fr H.nx)
      · simp only [AFr.marks_mark, List.cons_append, List.nil_append]
        exact ⟨_, _, _, rfl, rfl, hle2 _ _ _ hq, hM.mono (Phi.le_trans hle hle2)⟩
  | some l =>
    cases ro with
    | none => exact hro.elim
    | some b =>
      obtain ⟨Q, hq, rfl⟩ := hro
      simp only [markA] at h
      split at h
      case h_2 => simp at h
      rename_i st pe fr0 ps0 as0 bd0 hg
      obtain ⟨_, hlow, ts, D, fn0, hheap, hF0⟩ := hR.obj l 0 Q _ hq hg
      obtain ⟨χ, hle2, hq2, hR2, hB2⟩ := hR.newLoop hF ps assign body fn D
      refine ⟨_, _, χ, [], _, w.heap.size, h, ?_, hle2, hq2, hR2, hF.mono hle2, ?_, hB2⟩
      · unfold Instr.enterLoop
        simp only [Sem.run_bind, run_getLoop hheap, Result.andThen_ok, Sem.run_pure, run_newObj_alloc]
      · rw [List.nil_append]
        exact hM.mono hle2

theorem range_ok' (hE : E.Ok P) {rec : Task → Option Out} (hc : SndCall E P B0 rec) (hs : SndCode E P B0 rec) {f : Operand} {ps : Array Nat} {assign body : Code} {rnd : Option Nat} {e : Ex} {fr' : AFr} {H' : AH}
    (h : codeA E rec (.rangeFunc f ps assign body) fr rnd H = some (.code e fr' H')) (k : Nat) (ro : Option Nat) (hR : HR E B0 φ H w) (hF : FT φ fr a.tmps) (hM : MR P φ fr.marks a.defers) (hro : RO φ rnd ro) :
    (Code.rangeFunc f ps assign body).wpIn (FW ro) k P (CodePost E P B0 φ w e fr' H') a w := by
  simp only [codeA] at h
  unfold c_rangeFunc at h
  split at h
  · simp at h
  rename_i g hg
  have vg := ev_ok (a := a) hR hF hg
  refine wpIn_rangeFunc fun fn _ => ?_
  obtain ⟨fr1, H0, ψ, mark, w1, L, h, hrun, hle, hq, hR1, hF1, hM1, hB1⟩ := enter_ok (P := P) hR hF hM hro fn ps assign body h
  simp only [fN_eq] at h
  split at h
  case h_2 => simp at h
  rename_i hh args H1 hcall
  have hus : VRs ψ [.yl H0.nx] #[Value.func (.yield L) #[] #[]].toList := VRs.cons (by simp only [VR]; exact ⟨_, hq, rfl⟩) VRs.nil
  have hok := callF_ok (P := P) hE hR1 (VR.mono hle _ _ vg) hus hcall
  obtain ⟨rfl, us, hinv, hus2⟩ := hok
  rw [Sem.run_bind] at hinv
  have hres : resolve a.eval (rangeCall f L) 0 = Deferred.ofValue (a.eval f) #[Value.func (.yield L) #[] #[]] := by
    simp [resolve, Act.eval]
  cases hd : (Deferred.ofValue (a.eval f) #[Value.func (.yield L) #[] #[]]).run P w1 with
  | halt r w2 => rw [hd] at hinv; simp [Result.andThen] at hinv
  | ok d w2 =>
    rw [hd] at hinv
    simp only [Result.andThen_ok] at hinv
    refine ⟨L, mark, w1, d, w2, hh, us, w1, hrun, by rw [hres]; exact hd, fun f' _ => FW_fn ro f', hinv, fun hx => absurd hx (FW_depth ro), ?_⟩
    split at h
    case h_2 => simp at h
    rename_i v H2 hrec
    have hcl := hc hh args _ v H2 hrec (k - 1) ψ w1 us hR1 hus2
    refine CallsIn.mono (F := FW ro) (show CallsIn (FW ro) (k - 1) P hh us w1 _ from hcl) fun e1 w3 hpost => ?_
    cases e1 with
    | panicked c => exact hpost.elim
    | outgrown => exact hpost.elim
    | returned v' =>
      obtain ⟨χ, hle2, hR3, hv3, hB3⟩ := hpost
      split at h
      case h_2 => simp at h
      rename_i st pend fr3 ps3 as3 bd3 hg3
      have hq3 := hle2 _ _ _ hq
      obtain ⟨_, hlow, ts3, D3, fn3, hheap3, hF3⟩ := hR3.obj _ 0 _ _ hq3 hg3
      have hst : st ≠ .busy := by intro e; subst e; simp at h
      have hend := run_endLoop (P := P) hheap3 hst
      obtain ⟨hR4, hB4⟩ := hR3.putObj (o' := .loop .exhausted pend fr3 ps3 as3 bd3)
        (b := .loop { state := .exhausted, pending := pend, fn := fn3, tmps := ts3, params := ps3.toArray, assign := as3, body := bd3, defers := D3 }) hq3 hg3 (by simp) (by simp) hheap3
        ⟨rfl, hlow, ts3, D3, fn3, get_set_heap hheap3, hF3⟩
      have hleT := Phi.le_trans hle hle2
      have hBT := (hB1.trans hB3).trans hB4
      refine ⟨pend, _, hend, ?_⟩
      cases pend with
      | none =>
        have h : some (Out.code .normal fr1 (H2.put H0.nx (.loop .exhausted none fr3 ps3 as3 bd3))) = some (.code e fr' H') := by
          cases st <;> first | exact h | exact absurd rfl hst
        simp only [Option.some.injEq, Out.code.injEq] at h
        obtain ⟨rfl, rfl, rfl⟩ := h
        exact ⟨rfl, χ, hleT, hR4, hF1.mono hle2, hM1.mono hle2, hBT⟩
      | some c =>
        have h : rec (.code c fr1 rnd (H2.put H0.nx (.loop .exhausted (some c) fr3 ps3 as3 bd3))) = some (.code e fr' H') := by
          cases st <;> first | exact h | exact absurd rfl hst
        exact wpIn_mono (hs _ _ _ _ _ _ _ h k χ { a with defers := mark ++ a.defers } _ ro hR4 (hF1.mono hle2) (hM1.mono hle2) (hro.mono hleT)) fun _ _ _ hp => hp.of hleT hBT

end Go.Uf
end

/-
  Calls; rounds; the induction on the fuel.
-/
noncomputable section
namespace Go.Uf
open Go.RowKit (Below)

variable {E : Env} {P : Program} {B0 : Nat} {φ : Phi} {H : AH} {w : World} {fr : AFr} {a : Act}

theorem first_FT {args : List AV} {us : Array Value} (h : VRs φ args us.toList) {nt ex : Nat} (hn : args.length ≤ nt) :
    FT φ ⟨nt, ex, T.ofList args, [], []⟩ (us ++ Array.replicate (nt - us.size) undef) := by
  have hl := VRs.length h
  rw [Array.length_toList] at hl
  refine ⟨by simp; omega, fun t v e => ?_⟩
  simp only [AFr.get] at e
  split at e
  · rw [T.get_ofList] at e
    by_cases ht : t < args.length
    · obtain ⟨x, hx⟩ : ∃ x, args[t]? = some x := ⟨_, List.getElem?_eq_getElem ht⟩
      rw [hx] at e
      simp only [Option.some.injEq] at e
      subst e
      obtain ⟨u, hu1, hu2⟩ := VRs.get h hx
      have : (us ++ Array.replicate (nt - us.size) undef).getD t Go.undef = u := by
        rw [Array.getD_eq_getD_getElem?, Array.getElem?_append_left (by omega)]
        have : us[t]? = some u := by simpa using hu1
        rw [this]; rfl
      rw [this]; exact hu2
    · rw [List.getElem?_eq_none (by omega)] at e
      simp only [Option.some.injEq] at e
      subst e
      have : (us ++ Array.replicate (nt - us.size) undef).getD t Go.undef = undef := by
        rw [Array.getD_eq_getD_getElem?]
        by_cases h2 : t < nt
        · rw [Array.getElem?_append_right (by omega), Array.getElem?_replicate]
          split <;> rfl
        · rw [Array.getElem?_eq_none (by simp; omega)]; rfl
      rw [this]
      simp [VR, VRs, undef]
  · simp [lookL] at e

theorem call_stepN (hE : E.Ok P) {rec : Task → Option Out} (hs : SndCode E P B0 rec) (hd : SndDCall E P B0 rec) {f : Nat} {args : List AV} {H H' : AH} {v : AV} (h : callN E rec f args H = some (.ret v H'))
    {k : Nat} {φ : Phi} {w : World} {us : Array Value} (hR : HR E B0 φ H w) (hus : VRs φ args us.toList) : CallsIn Fence.wide k P f us w (CallPost E B0 φ w v H') := by
  unfold callN at h
  split at h
  · simp at h
  rename_i fn hfn
  split at h
  · simp at h
  rename_i c hb
  split at h
  · simp at h
  rename_i hle
  have hle : args.length ≤ fn.ntmps := by simpa using hle
  simp only [fT_eq] at h
  unfold retA at h
  split at h
  case h_2 => simp at h
  rename_i e fr1 H1 h1
  refine callsIn_of_wp_marks (hE.funcs f fn hfn) hb trivial ?_
  refine wpIn_mono (F := FW none) (hs _ _ _ _ _ _ _ h1 k φ _ w none hR (first_FT hus hle) rfl trivial) fun e1 a1 w1 hp => ?_
  obtain ⟨rfl, ψ, hle2, hR1, hF1, hM1, hB1⟩ := hp
  cases e with
  | normal => exact ret_ok hE hd hR1 k hle2 hF1 hM1 hB1 h
  | ret => exact ret_ok hE hd hR1 k hle2 hF1 hM1 hB1 h
  | exit id => simp at h

theorem call_step (hE : E.Ok P) {rec : Task → Option Out} (hs : SndCode E P B0 rec) (hd : SndDCall E P B0 rec) : SndCall E P B0 (stepA E rec) := by
  intro f args H v H' h k φ w us hR hus
  simp only [stepA] at h
  split at h
  · rename_i r hr
    simp only [Option.some.injEq, Out.ret.injEq] at h
    obtain ⟨rfl, rfl⟩ := h
    refine CallsIn.mono (hE.orc f args r hr k B0 φ H w us hR hus) fun e w' hp => ?_
    obtain ⟨v', rfl, ψ, h1, h2, h3, h4⟩ := hp
    exact ⟨ψ, h1, h2, h3, h4⟩
  have key : callN E rec f args H = some (.ret v H') → CallsIn Fence.wide k P f us w (CallPost E B0 φ w v H') := fun h => call_stepN hE hs hd h hR hus
  split at h
  · exact key h
  rename_i m hm
  split at h
  · rename_i v0 H0 hmm
    simp only [Option.some.injEq, Out.ret.injEq] at h
    obtain ⟨rfl, rfl⟩ := h
    refine CallsIn.mono (hE.mem f m args H v0 H0 hm hmm k B0 φ w us hR hus) fun e w' hp => ?_
    obtain ⟨v', rfl, ψ, h1, h2, h3, h4⟩ := hp
    exact ⟨ψ, h1, h2, h3, h4⟩
  · exact key h

theorem dcall_step (hE : E.Ok P) {rec : Task → Option Out} (hs : SndCode E P B0 rec) : SndDCall E P B0 (stepA E rec) := by
  intro f args H v H' h k φ w us hR hus
  simp only [stepA] at h
  split at h
  · simp at h
  rename_i fn hfn
  split at h
  · simp at h
  rename_i c hb
  split at h
  · simp at h
  rename_i hle
  have hle : args.length ≤ fn.ntmps := by simpa using hle
  simp only [fT_eq] at h
  unfold retA at h
  split at h
  case h_2 => simp at h
  rename_i e fr1 H1 h1
  refine callsDIn_marks (hE.funcs f fn hfn) hb ?_
  refine wpIn_mono (F := FW none) (hs _ _ _ _ _ _ _ h1 k φ _ w none hR (first_FT hus hle) rfl trivial) fun e1 a1 w1 hp => ?_
  obtain ⟨rfl, ψ, hle2, hR1, hF1, hM1, hB1⟩ := hp
  cases e with
  | normal => exact ⟨.inl rfl, retD_ok hE hR1 hle2 hF1 hM1 hB1 h⟩
  | ret => exact ⟨.inr rfl, retD_ok hE hR1 hle2 hF1 hM1 hB1 h⟩
  | exit id => simp at h

theorem setPs_ok : ∀ {ps : List Nat} {args : List AV} {f f' : AFr} {ts : Array Value} {us : List Value}, FT φ f ts → VRs φ args us → setPs ps args f = some f' →
    us.length = ps.length ∧ FT φ f' ((ps.zip us).foldl (fun tmps x => tmps.setIfInBounds x.1 x.2) ts)
  | [], [], f, f', ts, us, hF, hus, h => by
    simp only [setPs, Option.some.injEq] at h
    subst h
    simp only [VRs] at hus
    subst hus
    exact ⟨rfl, hF⟩
  | p :: ps, x :: args, f, f', ts, us, hF, hus, h => by
    simp only [VRs] at hus
    obtain ⟨v, t, rfl, hv, ht⟩ := hus
    simp only [setPs] at h
    split at h
    case h_2 => simp at h
    rename_i f1 h1
    obtain ⟨h2, h3⟩ := setPs_ok (hF.put hv h1) ht h
    exact ⟨by simp [h2], h3⟩
  | [], _ :: _, _, _, _, _, _, _, h => by simp [setPs] at h
  | _ :: _, [], _, _, _, _, _, _, h => by simp [setPs] at h

theorem endL_ok (hR : HR E B0 φ H w) {l : Nat} {Q : Pl} (hq : φ l 0 = some Q) {j : Option Code} {v : AV} {H' : AH} (h : endL l j H = some (.ret v H')) {w0 : World} {φ0 : Phi} (hle : φ0.le φ) (hB : Below B0 w0 w) :
    ∃ v' w', (Instr.endRound Q.B j).run P w = .ok v' w' ∧ CallPost E B0 φ0 w0 v H' (.returned v') w' := by
  unfold endL at h
  split at h
  case h_2 => simp at h
  rename_i st pe fr0 ps0 as0 bd0 hg
  obtain ⟨_, hlow, ts, D, fn0, hheap, hF0⟩ := hR.obj l 0 Q _ hq hg
  refine ⟨_, _, run_endRound j hheap, ?_⟩
  cases j with
  | none =>
    simp only [Option.some.injEq, Out.ret.injEq] at h
    obtain ⟨rfl, rfl⟩ := h
    obtain ⟨hR', hB'⟩ := hR.putObj (o' := .loop .ready none fr0 ps0 as0 bd0) (b := .loop { state := .ready, pending := none, fn := fn0, tmps := ts, params := ps0.toArray, assign := as0, body := bd0, defers := D }) hq hg (by simp) (by simp) hheap
      ⟨rfl, hlow, ts, D, fn0, get_set_heap hheap, hF0⟩
    exact ⟨φ, hle, hR', by simp [VR], hB.trans hB'⟩
  | some c =>
    simp only [Option.some.injEq, Out.ret.injEq] at h
    obtain ⟨rfl, rfl⟩ := h
    obtain ⟨hR', hB'⟩ := hR.putObj (o' := .loop .done (some c) fr0 ps0 as0 bd0) (b := .loop { state := .done, pending := some c, fn := fn0, tmps := ts, params := ps0.toArray, assign := as0, body := bd0, defers := D }) hq hg (by simp) (by simp) hheap
      ⟨rfl, hlow, ts, D, fn0, get_set_heap hheap, hF0⟩
    exact ⟨φ, hle, hR', by simp [VR], hB.trans hB'⟩

theorem round_step {rec : Task → Option Out} (hs : SndCode E P B0 rec) : SndRound E P B0 (stepA E rec) := by
  intro l args H v H' h k φ w us Q hq hR hus
  simp only [stepA] at h
  split at h
  case h_2 => simp at h
  rename_i st pe fr0 ps0 as0 bd0 hg
  obtain ⟨_, hlow, ts, D, fn0, hheap, hF0⟩ := hR.obj l 0 Q _ hq hg
  split at h
  · simp at h
  rename_i nt ex tm lo ms hset
  obtain ⟨hlen, hF1⟩ := setPs_ok hF0 hus hset
  have hsz : us.size = ps0.toArray.size := by simpa using hlen
  refine ⟨_, _, _, _, run_yield hheap hsz, fun ro => ?_⟩
  have hts : (ps0.toArray.zip us).foldl (fun tmps (x : Nat × Value) => match x with | (t, a) => tmps.setIfInBounds t a) ts = (ps0.zip us.toList).foldl (fun tmps x => tmps.setIfInBounds x.1 x.2) ts := by
    rw [← Array.foldl_toList]
    simp
  split at h
  case h_2 => simp at h
  rename_i fr2 H1 h1
  split at h
  case h_2 => simp at h
  rename_i pe1 fr1' ps1 as1 bd1 hg1
  refine roundIn_of_wpIn (FW_fn ro fn0) ?_
  have hF1' : FT φ ⟨nt, ex, tm, lo, []⟩ ((ps0.zip us.toList).foldl (fun tmps x => tmps.setIfInBounds x.1 x.2) ts) := hF1.marks rfl (fun t => rfl)
  refine wpIn_mono (F := FW (some Q.B)) (hs _ _ _ _ _ _ _ h1 k φ { tmps := _, defers := [] } w (some Q.B) hR (by rw [← hts] at hF1'; exact hF1') rfl ⟨Q, hq, rfl⟩) fun e1 a1 w1 hp => ?_
  obtain ⟨rfl, ψ, hle, hR1, hF2, hM2, hB1⟩ := hp
  have hq1 := hle _ _ _ hq
  obtain ⟨_, hlow1, ts1, D1, fn1, hheap1, hFl1⟩ := hR1.obj l 0 Q _ hq1 hg1
  obtain ⟨hR2, hB2⟩ := hR1.putObj (o' := .loop .busy pe1 fr1' ps1 as1 bd1) (b := .loop { state := .busy, pending := pe1, fn := fn1, tmps := ts1, params := ps1.toArray, assign := as1, body := bd1, defers := D1 }) hq1 hg1 (by simp) (by simp) hheap1
    ⟨rfl, hlow1, ts1, D1, fn1, get_set_heap hheap1, hFl1⟩
  refine ⟨_, run_beginRound hheap1 rfl, ?_⟩
  unfold endA at h
  split at h
  case h_2 => simp at h
  rename_i e3 fr3 H3 h3
  refine wpIn_mono (F := FW (some Q.B)) (hs _ _ _ _ _ _ _ h3 k ψ a1 _ (some Q.B) hR2 hF2 hM2 ⟨Q, hq1, rfl⟩) fun e4 a4 w4 hp => ?_
  obtain ⟨rfl, χ, hle3, hR3, hF3, hM3, hB3⟩ := hp
  have hleT := Phi.le_trans hle hle3
  have hBT := (hB1.trans hB2).trans hB3
  cases e3 with
  | normal => exact endL_ok hR3 (hle3 _ _ _ hq1) h hleT hBT
  | ret => exact endL_ok hR3 (hle3 _ _ _ hq1) h hleT hBT
  | exit id => exact endL_ok hR3 (hle3 _ _ _ hq1) h hleT hBT

/-- what draw regions owe -/
def DrawLaw (E : Env) (P : Program) (B0 : Nat) : Prop := ∀ rec : Task → Option Out, SndCall E P B0 rec → SndRound E P B0 rec → SndDraw E P B0 rec

theorem loop_ok {c : Code} {rnd : Option Nat} {e : Ex} {fr' : AFr} {H' : AH} (n : Nat) (hs : ∀ m, m < n → SndCode E P B0 (runA E m)) (h : runA E n (.code (.loop c) fr rnd H) = some (.code e fr' H')) (k : Nat) (ro : Option Nat)
    (hR : HR E B0 φ H w) (hF : FT φ fr a.tmps) (hM : MR P φ fr.marks a.defers) (hro : RO φ rnd ro) : (Code.loop c).wpIn (FW ro) k P (CodePost E P B0 φ w e fr' H') a w := by
  let J : Nat → Act → World → Prop := fun m a1 w1 => m ≤ n ∧ ∃ (ψ : Phi) (fr1 : AFr) (H1 : AH), runA E m (.code (.loop c) fr1 rnd H1) = some (.code e fr' H') ∧ φ.le ψ ∧ HR E B0 ψ H1 w1 ∧ FT ψ fr1 a1.tmps ∧ MR P ψ fr1.marks a1.defers ∧ Below B0 w w1
  refine wpIn_loop_J (J := J) (n0 := n) ⟨Nat.le_refl _, φ, fr, H, h, Phi.le_refl _, hR, hF, hM, Below.refl' w⟩ fun m a1 w1 hJ => ?_
  obtain ⟨hmn, ψ, fr1, H1, h1, hle, hR1, hF1, hM1, hB1⟩ := hJ
  cases m with
  | zero => simp [runA] at h1
  | succ m =>
    have h2 : codeA E (runA E m) (.loop c) fr1 rnd H1 = some (.code e fr' H') := by rw [← codeF_eq]; exact h1
    simp only [codeA] at h2
    unfold c_loop at h2
    have hs' := hs m (by omega)
    split at h2
    · rename_i fr2 H2 h3
      refine wpIn_mono (hs' _ _ _ _ _ _ _ h3 k ψ a1 w1 ro hR1 hF1 hM1 (hro.mono hle)) fun e2 a2 w2 hp => ?_
      obtain ⟨rfl, χ, hle2, hR2, hF2, hM2, hB2⟩ := hp
      exact ⟨m, by omega, by omega, χ, fr2, H2, h2, Phi.le_trans hle hle2, hR2, hF2, hM2, hB1.trans hB2⟩
    · rename_i hne
      refine wpIn_mono (hs' _ _ _ _ _ _ _ h2 k ψ a1 w1 ro hR1 hF1 hM1 (hro.mono hle)) fun e2 a2 w2 hp => ?_
      have hp' := hp.of hle hB1
      obtain ⟨rfl, hp''⟩ := hp'
      cases e with
      | normal => exact absurd h2 (hne _ _)
      | exit id => exact ⟨rfl, hp''⟩
      | ret => exact ⟨rfl, hp''⟩

/-- THE INTERPRETER IS SOUND -/
theorem sound (hE : E.Ok P) (hd : DrawLaw E P B0) : ∀ n, SndCode E P B0 (runA E n) ∧ SndCall E P B0 (runA E n) ∧ SndRound E P B0 (runA E n) ∧ SndDCall E P B0 (runA E n) := by
  intro n
  induction n using Nat.strongRecOn with
  | _ n ih =>
    cases n with
    | zero =>
      refine ⟨fun c fr rnd H e fr' H' h => ?_, fun f args H v H' h => ?_, fun l args H v H' h => ?_, fun f args H v H' h => ?_⟩ <;> simp [runA] at h
    | succ n =>
      obtain ⟨hs, hc, hr, hdc⟩ := ih n (by omega)
      refine ⟨fun c fr rnd H e fr' H' h k φ a w ro hR hF hM hro => ?_, call_step hE hs hdc, round_step hs, dcall_step hE hs⟩
      have h' : codeA E (runA E n) c fr rnd H = some (.code e fr' H') := by rw [← codeF_eq]; exact h
      by_cases h1 : ∃ x, c = .loop x
      · obtain ⟨x, rfl⟩ := h1
        exact loop_ok (n + 1) (fun m hm => (ih m hm).1) h k ro hR hF hM hro
      · by_cases h2 : ∃ f ps x y, c = .rangeFunc f ps x y
        · obtain ⟨f, ps, x, y, rfl⟩ := h2
          exact range_ok' hE hc hs h' k ro hR hF hM hro
        · exact code_ok hE hc hr hs (hd _ hc hr) (fun f ps x y e => h2 ⟨f, ps, x, y, e⟩) (fun x e => h1 ⟨x, e⟩) h' k ro hR hF hM hro

end Go.Uf
end

/-
  The abstract run, written for the kernel: values handed on, recursors in the place of matches; what it comes to is what the abstract run comes to.
-/
noncomputable section
namespace Go.Uf
noncomputable section

/-! ### values taken apart -/
section
variable {α : Type}
def fNK (n : Nat) (k : Nat → Option α) : Option α := Nat.rec (motive := fun _ => Option α) (k 0) (fun m _ => k (Nat.succ m)) n
@[simp] theorem fNK_eq (n : Nat) (k : Nat → Option α) : fNK n k = k n := by cases n <;> rfl
def asP (k : Nat → Nat → Nat → Nat → Option α) (v : AV) : Option α := AV.rec (motive_1 := fun _ => (Nat → Nat → Nat → Nat → Option α) → Option α) (motive_2 := fun _ => Unit) (fun _ _ => none) (fun _ _ _ => none) (fun _ _ _ => none) (fun i u o r k => k i u o r) (fun _ => none) (fun _ _ _ _ _ _ _ => none) (fun _ => none) (fun _ _ => none) (fun _ => none) (fun _ _ => none) (fun _ => none) (fun _ _ _ _ _ _ => none) (fun _ _ => none) (fun _ => none) (fun _ _ _ _ => none) (fun _ => none) (fun _ _ _ => none) (fun _ _ _ => none) () (fun _ _ _ _ => ()) v k
def asI (k : IntKind → Int → Option α) (v : AV) : Option α := AV.rec (motive_1 := fun _ => (IntKind → Int → Option α) → Option α) (motive_2 := fun _ => Unit) (fun _ _ => none) (fun t n k => k t n) (fun _ _ _ => none) (fun _ _ _ _ _ => none) (fun _ => none) (fun _ _ _ _ _ _ _ => none) (fun _ => none) (fun _ _ => none) (fun _ => none) (fun _ _ => none) (fun _ => none) (fun _ _ _ _ _ _ => none) (fun _ _ => none) (fun _ => none) (fun _ _ _ _ => none) (fun _ => none) (fun _ _ _ => none) (fun _ _ _ => none) () (fun _ _ _ _ => ()) v k
def asB (k : Bool → Option α) (v : AV) : Option α := AV.rec (motive_1 := fun _ => (Bool → Option α) → Option α) (motive_2 := fun _ => Unit) (fun x k => k x) (fun _ _ _ => none) (fun _ _ _ => none) (fun _ _ _ _ _ => none) (fun _ => none) (fun _ _ _ _ _ _ _ => none) (fun _ => none) (fun _ _ => none) (fun _ => none) (fun _ _ => none) (fun _ => none) (fun _ _ _ _ _ _ => none) (fun _ _ => none) (fun _ => none) (fun _ _ _ _ => none) (fun _ => none) (fun _ _ _ => none) (fun _ _ _ => none) () (fun _ _ _ _ => ()) v k
def asS (k : Nat → Nat → Option α) (v : AV) : Option α := AV.rec (motive_1 := fun _ => (Nat → Nat → Option α) → Option α) (motive_2 := fun _ => Unit) (fun _ _ => none) (fun _ _ _ => none) (fun n x k => k n x) (fun _ _ _ _ _ => none) (fun _ => none) (fun _ _ _ _ _ _ _ => none) (fun _ => none) (fun _ _ => none) (fun _ => none) (fun _ _ => none) (fun _ => none) (fun _ _ _ _ _ _ => none) (fun _ _ => none) (fun _ => none) (fun _ _ _ _ => none) (fun _ => none) (fun _ _ _ => none) (fun _ _ _ => none) () (fun _ _ _ _ => ()) v k
def asSl (k : Nat → Nat → Nat → Nat → Nat → Option α) (v : AV) : Option α := AV.rec (motive_1 := fun _ => (Nat → Nat → Nat → Nat → Nat → Option α) → Option α) (motive_2 := fun _ => Unit) (fun _ _ => none) (fun _ _ _ => none) (fun _ _ _ => none) (fun _ _ _ _ _ => none) (fun _ => none) (fun i u o n e _ k => k i u o n e) (fun _ => none) (fun _ _ => none) (fun _ => none) (fun _ _ => none) (fun _ => none) (fun _ _ _ _ _ _ => none) (fun _ _ => none) (fun _ => none) (fun _ _ _ _ => none) (fun _ => none) (fun _ _ _ => none) (fun _ _ _ => none) () (fun _ _ _ _ => ()) v k
def isI (v : AV) : Bool := AV.rec (motive_1 := fun _ => Bool) (motive_2 := fun _ => Unit) (fun _ => false) (fun _ _ => true) (fun _ _ => false) (fun _ _ _ _ => false) (false) (fun _ _ _ _ _ _ => false) (false) (fun _ => false) (false) (fun _ => false) (false) (fun _ _ _ _ _ => false) (fun _ => false) (false) (fun _ _ _ => false) (false) (fun _ _ => false) (fun _ _ => false) () (fun _ _ _ _ => ()) v
def andB (a b : Bool) : Bool := Bool.rec (motive := fun _ => Bool) false b a
/-- two numbers, or else -/
def asI2 (a b : AV) (e : Option α) (k : IntKind → Int → IntKind → Int → Option α) : Option α := Bool.rec (motive := fun _ => Option α) e (asI (fun t n => asI (fun t' m => k t n t' m) b) a) (andB (isI a) (isI b))
def lenK (k : Nat → Option α) (v : AV) : Option α := AV.rec (motive_1 := fun _ => (Nat → Option α) → Option α) (motive_2 := fun _ => Unit) (fun _ _ => none) (fun _ _ _ => none) (fun _ _ _ => none) (fun _ _ _ _ _ => none) (fun _ => none) (fun _ _ _ n _ _ k => k n) (fun k => k 0) (fun _ _ => none) (fun _ => none) (fun _ _ => none) (fun _ => none) (fun _ _ _ _ _ _ => none) (fun _ _ => none) (fun _ => none) (fun _ _ _ _ => none) (fun _ => none) (fun _ _ _ => none) (fun _ _ _ => none) () (fun _ _ _ _ => ()) v k
/-- what is not nil for sure, or else -/
def nilK (e : Option α) (k : AV → Option α) (v : AV) : Option α := AV.rec (motive_1 := fun _ => Option α → (AV → Option α) → Option α) (motive_2 := fun _ => Unit) (fun _ e _ => e) (fun _ _ e _ => e) (fun _ _ e _ => e) (fun i u o r _ k => k (.p i u o r)) (fun _ _ => none) (fun _ _ _ _ _ _ e _ => e) (fun e _ => e) (fun _ e _ => e) (fun e _ => e) (fun _ e _ => e) (fun e _ => e) (fun _ _ _ _ _ e _ => e) (fun _ e _ => e) (fun e _ => e) (fun _ _ _ e _ => e) (fun e _ => e) (fun _ _ e _ => e) (fun _ _ e _ => e) () (fun _ _ _ _ => ()) v e k
def lookK (t : Nat) (k : AV → Option α) : List (Nat × AV) → Option α := List.rec (motive := fun _ => Option α) none (fun p _ ih => Prod.rec (motive := fun _ => Option α) (fun u v => Bool.rec (motive := fun _ => Option α) ih (k v) (Nat.beq u t)) p)
def optK (e : Option α) {β : Type} (k : β → Option α) (x : Option β) : Option α := Option.rec (motive := fun _ => Option α) e k x
def getF (t : Nat) (fr : AFr) (k : AV → Option α) : Option α := AFr.rec (motive := fun _ => Nat → (AV → Option α) → Option α)
  (fun _ ex tm lo _ t k => Bool.rec (motive := fun _ => Option α) (lookK t k lo) (Option.rec (motive := fun _ => Option α) (k (.tup [])) k (tm.get t)) (inMask ex t)) fr t k
def putF (d : Nat) (v : AV) (fr : AFr) (k : AFr → Option α) : Option α := AFr.rec (motive := fun _ => Nat → AV → (AFr → Option α) → Option α)
  (fun nt ex tm lo ms d v k => Bool.rec (motive := fun _ => Option α) none (Bool.rec (motive := fun _ => Option α) (k ⟨nt, ex, tm, (d, v) :: lo, ms⟩)
    (T.rec (motive := fun _ => Nat → Nat → List (Nat × AV) → List AD → (AFr → Option α) → Option α) (fun _ _ _ _ _ => none) (fun a l r _ _ nt ex lo ms k => k ⟨nt, ex, .node a l r, lo, ms⟩) (tm.set d v) nt ex lo ms k) (inMask ex d)) (Nat.blt d nt)) fr d v k

theorem lookK_eq (t : Nat) (k : AV → Option α) : ∀ l, lookK t k l = (lookL t l).bind k
  | [] => rfl
  | (u, v) :: l => by
    show Bool.rec (motive := fun _ => Option α) (lookK t k l) (k v) (Nat.beq u t) = _
    rw [lookK_eq t k l]
    simp only [lookL]
    cases Nat.beq u t <;> rfl
theorem getF_eq (t : Nat) (fr : AFr) (k : AV → Option α) : getF t fr k = (fr.get t).bind k := by
  obtain ⟨nt, ex, tm, lo, ms⟩ := fr
  show Bool.rec (motive := fun _ => Option α) (lookK t k lo) (Option.rec (motive := fun _ => Option α) (k (.tup [])) k (tm.get t)) (inMask ex t) = _
  simp only [AFr.get]
  cases inMask ex t with
  | false => exact lookK_eq t k lo
  | true => cases tm.get t <;> rfl
theorem set_not_nil {x : AV} : ∀ (t : T AV) (k : Nat), t.set k x ≠ .nil := by
  intro t k e
  have := T.get_set_same t k x
  rw [e, T.get_nil] at this
  cases this
theorem putF_eq (d : Nat) (v : AV) (fr : AFr) (k : AFr → Option α) : putF d v fr k = (fr.put (some d) v).bind k := by
  obtain ⟨nt, ex, tm, lo, ms⟩ := fr
  show Bool.rec (motive := fun _ => Option α) none (Bool.rec (motive := fun _ => Option α) (k ⟨nt, ex, tm, (d, v) :: lo, ms⟩)
    (T.rec (motive := fun _ => Nat → Nat → List (Nat × AV) → List AD → (AFr → Option α) → Option α) (fun _ _ _ _ _ => none) (fun a l r _ _ nt ex lo ms k => k ⟨nt, ex, .node a l r, lo, ms⟩) (tm.set d v) nt ex lo ms k) (inMask ex d)) (Nat.blt d nt) = _
  simp only [AFr.put]
  cases Nat.blt d nt with
  | false => rfl
  | true =>
    cases inMask ex d with
    | false => rfl
    | true =>
      simp only [fT_eq]
      have := set_not_nil (x := v) tm d
      cases hs : tm.set d v with
      | nil => exact absurd hs this
      | node a l r => rfl
end

abbrev KO := Option Out
/-- an operand, found once -/
def evD (E : Env) (x : Operand) : Option (AFr → (AV → KO) → KO) := match x with
  | .tmp t => some fun fr k => getF t fr k
  | .const v => match ofV v with
    | some x => fV x fun x => some fun _ k => k x
    | none => none
  | .global g => match E.G.get g with
    | some sz => fN sz fun sz => some fun _ k => k (.p g 0 0 sz)
    | none => none
  | .func f => some fun _ k => k (.fn (.func f) [] [])
theorem evD_ok {E : Env} {x : Operand} {f : AFr → (AV → KO) → KO} (h : evD E x = some f) (fr : AFr) (k : AV → KO) : f fr k = (ev E fr x).bind k := by
  unfold evD at h
  cases x with
  | tmp t =>
    simp only [Option.some.injEq] at h
    subst h
    exact getF_eq t fr k
  | const v =>
    simp only at h
    split at h
    · rename_i y hy
      simp only [fV_eq, Option.some.injEq] at h
      subst h
      simp [ev, hy]
    · simp at h
  | global g =>
    simp only at h
    split at h
    · rename_i sz hsz
      simp only [fN_eq, Option.some.injEq] at h
      subst h
      simp [ev, hsz]
    · simp at h
  | func f =>
    simp only [Option.some.injEq] at h
    subst h
    simp [ev]

/-! ### numbers -/
def iltR (n m : Int) : Bool := Int.rec (motive := fun _ => Bool) (fun a => Int.rec (motive := fun _ => Bool) (fun b => Nat.blt a b) (fun _ => false) m) (fun a => Int.rec (motive := fun _ => Bool) (fun _ => true) (fun b => Nat.blt b a) m) n
def ieqR (n m : Int) : Bool := Int.rec (motive := fun _ => Bool) (fun a => Int.rec (motive := fun _ => Bool) (fun b => Nat.beq a b) (fun _ => false) m) (fun a => Int.rec (motive := fun _ => Bool) (fun _ => false) (fun b => Nat.beq a b) m) n
theorem iltR_eq (n m : Int) : iltR n m = ilt n m := by cases n <;> cases m <;> rfl
theorem ieqR_eq (n m : Int) : ieqR n m = ieq n m := by cases n <;> cases m <;> rfl
def bK (k : AV → KO) (b : Bool) : KO := Bool.rec (motive := fun _ => KO) (k (.b false)) (k (.b true)) b
def nbK (k : AV → KO) (b : Bool) : KO := Bool.rec (motive := fun _ => KO) (k (.b true)) (k (.b false)) b
theorem bK_eq (k : AV → KO) (b : Bool) : bK k b = k (.b b) := by cases b <;> rfl
theorem nbK_eq (k : AV → KO) (b : Bool) : nbK k b = k (.b !b) := by cases b <;> rfl
def addK (t : IntKind) (n m : Int) (k : AV → KO) : KO := Int.rec (motive := fun _ => Int → IntKind → (AV → KO) → KO)
  (fun a m t k => Int.rec (motive := fun _ => Nat → IntKind → (AV → KO) → KO) (fun b a t k => Bool.rec (motive := fun _ => KO) (fI (wrapF t (Int.ofNat a + Int.ofNat b)) fun r => k (.i t r)) (fNK (Nat.add a b) fun c => k (.i t (.ofNat c))) (Nat.blt (Nat.add a b) (lim t)))
    (fun b a t k => fI (wrapF t (Int.ofNat a + Int.negSucc b)) fun r => k (.i t r)) m a t k) (fun a m t k => fI (wrapF t (Int.negSucc a + m)) fun r => k (.i t r)) n m t k
theorem addK_eq (t : IntKind) (n m : Int) (k : AV → KO) : addK t n m k = k (.i t (wrapF t (n + m))) := by
  cases n with
  | negSucc a =>
    show fI (wrapF t (Int.negSucc a + m)) (fun r => k (.i t r)) = _
    rw [fI_eq]
  | ofNat a =>
    cases m with
    | negSucc b =>
      show fI (wrapF t (Int.ofNat a + Int.negSucc b)) (fun r => k (.i t r)) = _
      rw [fI_eq]
    | ofNat b =>
      show Bool.rec (motive := fun _ => KO) (fI (wrapF t (Int.ofNat a + Int.ofNat b)) fun r => k (.i t r)) (fNK (Nat.add a b) fun c => k (.i t (.ofNat c))) (Nat.blt (Nat.add a b) (lim t)) = _
      cases hb : Nat.blt (Nat.add a b) (lim t) with
      | false => simp only [fI_eq]
      | true =>
        simp only [fNK_eq]
        congr 2
        show _ = wrapF t (Int.ofNat (Nat.add a b))
        simp only [wrapF, hb]
/-- an operation on two numbers of one kind -/
def iopD (op : BinOp) : Option (IntKind → Int → Int → (AV → KO) → KO) := match op with
  | .add => some fun t n m k => addK t n m k
  | .eql => some fun _ n m k => bK k (ieqR n m)
  | .neq => some fun _ n m k => nbK k (ieqR n m)
  | .lss => some fun _ n m k => bK k (iltR n m)
  | .leq => some fun _ n m k => nbK k (iltR m n)
  | .gtr => some fun _ n m k => bK k (iltR m n)
  | .geq => some fun _ n m k => nbK k (iltR n m)
  | _ => none
theorem iopD_ok {op : BinOp} {f : IntKind → Int → Int → (AV → KO) → KO} (h : iopD op = some f) (t : IntKind) (n m : Int) (k : AV → KO) : f t n m k = (intOp op t n m).bind k ∧ op ≠ .shl ∧ op ≠ .shr := by
  unfold iopD at h
  cases op <;> simp only [Option.some.injEq] at h <;> first
    | (simp at h; done)
    | (subst h
       refine ⟨?_, by simp, by simp⟩
       simp [intOp, addK_eq, bK_eq, nbK_eq, iltR_eq, ieqR_eq])

/-! ### the heap -/
def cellK (H : AH) (i u o : Nat) (k : AV → KO) : KO := AH.rec (motive := fun _ => Nat → Nat → Nat → (AV → KO) → KO) (fun _ os i u o k => Option.rec (motive := fun _ => Nat → Nat → (AV → KO) → KO) (fun _ _ _ => none) (fun ob u o k =>
  AO.rec (motive := fun _ => Nat → Nat → (AV → KO) → KO) (fun _ _ w _ sz c u o k => Bool.rec (motive := fun _ => KO) none (Option.rec (motive := fun _ => KO) none k (c.get o)) (andB (Nat.ble w u) (Nat.ble (Nat.succ o) sz)))
    (fun _ _ _ _ _ => none) (fun _ _ _ _ _ _ => none) (fun _ _ _ _ _ _ _ => none) (fun _ _ _ _ _ _ _ _ _ => none) (fun _ _ _ _ => none) (fun _ _ _ _ _ => none) ob u o k) (os.get i) u o k) H i u o k
theorem andB_eq (a b : Bool) : andB a b = (a && b) := by cases a <;> rfl
theorem cellK_eq (H : AH) (i u o : Nat) (k : AV → KO) : cellK H i u o k = (match H.rd i u o 1 with | some (y :: _) => k y | _ => none) := by
  obtain ⟨nx, os⟩ := H
  have hget : (⟨nx, os⟩ : AH).get i = os.get i := rfl
  unfold AH.rd
  rw [hget]
  have hc : cellK ⟨nx, os⟩ i u o k = (match os.get i with | some (.cells _ _ w _ sz c) => Bool.rec (motive := fun _ => KO) none (Option.rec (motive := fun _ => KO) none k (c.get o)) (andB (Nat.ble w u) (Nat.ble (Nat.succ o) sz)) | _ => none) := by
    show Option.rec (motive := fun _ => Nat → Nat → (AV → KO) → KO) _ _ (os.get i) u o k = _
    cases os.get i with
    | none => rfl
    | some ob => cases ob <;> rfl
  rw [hc]
  cases os.get i with
  | none => rfl
  | some ob =>
    cases ob with
    | cells t top w fl sz c =>
      simp only [andB_eq]
      have : Nat.ble (Nat.succ o) sz = Nat.ble (o + 1) sz := rfl
      rw [this]
      cases Nat.ble w u && Nat.ble (o + 1) sz with
      | false => rfl
      | true =>
        simp only [getN]
        cases c.get o <;> rfl
    | _ => rfl

end
end Go.Uf
end

/-
  Operations, written for the kernel.
-/
noncomputable section
namespace Go.Uf
noncomputable section

def ldK (H : AH) (n : Nat) (k : AV → KO) (i u o r : Nat) : KO := Bool.rec (motive := fun _ => KO) none (Bool.rec (motive := fun _ => KO) none (cellK H i u o k) (Nat.ble 1 r)) (Nat.ble n r)
def faK (m off z : Nat) (k : AV → KO) (i u o r : Nat) : KO := Bool.rec (motive := fun _ => KO) none (fNK (Nat.add o off) fun o => k (.p i u o z)) (Nat.ble m r)
def ixK (z i u o n ez : Nat) (k : AV → KO) (j : Int) : KO := Int.rec (motive := fun _ => KO)
  (fun j => Bool.rec (motive := fun _ => KO) none (Bool.rec (motive := fun _ => KO) none (fNK (Nat.add o (Nat.mul j z)) fun o => k (.p i u o z)) (Nat.beq ez z)) (Nat.blt j n)) (fun _ => none) j
def byK (n s : Nat) (k : AV → KO) (j : Int) : KO := Int.rec (motive := fun _ => KO)
  (fun j => Bool.rec (motive := fun _ => KO) none (fNK (Nat.mod (Nat.div s (Nat.pow 2 (Nat.mul 8 j))) 256) fun b => k (.i .u8 (.ofNat b))) (Nat.blt j n)) (fun _ => none) j
def slowB (E : Env) (op : BinOp) (t : Nat) (x y : Operand) (a b : AV) (k : AV → KO) : KO := match binA E op t x y a b with
  | some v => fV v k
  | none => none
def slowN (v : AV) (k : AV → KO) : KO := match nilOk v with
  | true => k v
  | false => none
def slowL (E : Env) (t : Nat) (x : AV) (H : AH) (k : AV → KO) : KO := match ldA E t x H with
  | some v => k v
  | none => none

/-- what an operation without effects comes to, found once -/
def valD (E : Env) (op : Op) : Option (AFr → AH → (AV → KO) → KO) := match op with
  | .move x => match evD E x with
    | some f => some fun fr _ k => f fr k
    | none => none
  | .assign x => match evD E x with
    | some f => some fun fr _ k => f fr k
    | none => none
  | .pick c a b => match evD E c, evD E a, evD E b with
    | some c, some a, some b => some fun fr _ k => c fr (asB fun t => Bool.rec (motive := fun _ => KO) (b fr k) (a fr k) t)
    | _, _, _ => none
  | .load t a => match evD E a, E.desc t, E.size t with
    | some f, some d, some n => match TypeDesc.isAgg d with
      | false => some fun fr H k => f fr (asP (ldK H n k))
      | true => some fun fr H k => f fr fun x => slowL E t x H k
    | _, _, _ => none
  | .fieldAddr s x fi => match evD E x, E.desc s with
    | some f, some (.struct fs) => match fs.toList[fi]? with
      | some fd => match E.size fd.type with
        | some (z + 1) => fN (fd.offset + (z + 1)) fun m => fN fd.offset fun off => fN (z + 1) fun z1 => some fun fr _ k => f fr (asP (faK m off z1 k))
        | _ => none
      | none => none
    | _, _ => none
  | .indexAddr t x ix => match evD E x, evD E ix, E.desc t with
    | some f, some g, some (.slice e) => match E.size e with
      | some (z + 1) => fN (z + 1) fun z1 => some fun fr _ k => f fr (asSl fun i u o n ez => g fr (asI fun _ j => ixK z1 i u o n ez k j))
      | _ => none
    | _, _, _ => none
  | .nilCheck x => match evD E x with
    | some f => some fun fr _ k => f fr fun v => nilK (slowN v k) k v
    | none => none
  | .binOp op t x y _ => match evD E x, evD E y with
    | some f, some g => match iopD op with
      | some h => some fun fr _ k => f fr fun a => g fr fun b => asI2 a b (slowB E op t x y a b k) fun s n s' m => Bool.rec (motive := fun _ => KO) none (h s n m k) (keq s s')
      | none => some fun fr _ k => f fr fun a => g fr fun b => slowB E op t x y a b k
    | _, _ => none
  | .unOp .not _ x => match evD E x with
    | some f => some fun fr _ k => f fr (asB (nbK k))
    | none => none
  | .index t x ix => match evD E x, evD E ix, E.desc t with
    | some f, some g, some .string => some fun fr _ k => f fr (asS fun n s => g fr (asI fun _ j => byK n s k j))
    | _, _, _ => none
  | .call c => match c.callee, c.args.toList, c.argTypes.toList with
    | .builtin .len, [x], t :: _ => match evD E x, E.desc t with
      | some f, some (.slice _) => some fun fr _ k => f fr (lenK fun n => k (.i .i64 (.ofNat n)))
      | some f, some .string => some fun fr _ k => f fr (asS fun n _ => k (.i .i64 (.ofNat n)))
      | _, _ => none
    | _, _, _ => none
  | _ => none

theorem bind_map {α β : Type} (x : Option α) (f : α → β) : (x.bind fun a => some (f a)) = x.map f := by cases x <;> rfl

theorem byteAt_R (s j : Nat) : Nat.mod (Nat.div s (Nat.pow 2 (Nat.mul 8 j))) 256 = byteAt s j := rfl

theorem valD_ok {E : Env} {op : Op} {g : AFr → AH → (AV → KO) → KO} (h : valD E op = some g) {o : Oper} (hop : o.op = op) (fr : AFr) (H : AH) :
    spcOf o = none ∧ ∃ x : Option AV, opA E fr H o = x.map R1.pure ∧ ∀ k, g fr H k = x.bind k := by
  subst hop
  unfold valD at h
  cases ho : o.op <;> simp only [ho] at h
  case move x =>
    refine ⟨by unfold spcOf; rw [ho], ev E fr x, by unfold opA; rw [ho]; simp only [op_move]; cases ev E fr x <;> rfl, fun k => ?_⟩
    split at h
    · rename_i f hf
      simp only [Option.some.injEq] at h; subst h
      exact evD_ok hf fr k
    · simp at h
  case assign x =>
    refine ⟨by unfold spcOf; rw [ho], ev E fr x, by unfold opA; rw [ho]; simp only [op_assign]; cases ev E fr x <;> rfl, fun k => ?_⟩
    split at h
    · rename_i f hf
      simp only [Option.some.injEq] at h; subst h
      exact evD_ok hf fr k
    · simp at h
  case pick c x y =>
    split at h
    case h_2 => simp at h
    rename_i fc fx fy hc hx hy
    simp only [Option.some.injEq] at h; subst h
    refine ⟨by unfold spcOf; rw [ho], (match ev E fr c with | some (.b true) => ev E fr x | some (.b false) => ev E fr y | _ => none), ?_, fun k => ?_⟩
    · unfold opA; rw [ho]; simp only [op_pick]
      cases ev E fr c with
      | none => rfl
      | some v =>
        cases v with
        | b t =>
          cases t with
          | true => cases ev E fr x <;> rfl
          | false => cases ev E fr y <;> rfl
        | _ => rfl
    · simp only [evD_ok hc, evD_ok hx, evD_ok hy]
      cases ev E fr c with
      | none => rfl
      | some v =>
        cases v with
        | b t => cases t <;> rfl
        | _ => rfl
  case load t x =>
    split at h
    case h_2 => simp at h
    rename_i f d n hf hd hn
    refine ⟨by unfold spcOf; rw [ho], (ev E fr x).bind fun v => ldA E t v H, ?_, fun k => ?_⟩
    · unfold opA; rw [ho]; simp only [op_load]
      cases ev E fr x with
      | none => rfl
      | some v => simp only [Option.bind_some]; cases ldA E t v H <;> rfl
    · split at h
      · rename_i hag
        simp only [Option.some.injEq] at h; subst h
        simp only [evD_ok hf]
        cases ev E fr x with
        | none => rfl
        | some v =>
          cases v with
          | p i u o r =>
            show ldK H n k i u o r = (ldA E t (.p i u o r) H).bind k
            simp only [ldK, ldA, hd, hn, hag, cellK_eq]
            cases Nat.ble n r with
            | false => rfl
            | true =>
              cases Nat.ble 1 r with
              | false => rfl
              | true =>
                simp only
                cases H.rd i u o 1 with
                | none => rfl
                | some l => cases l <;> rfl
          | _ => rfl
      · simp only [Option.some.injEq] at h; subst h
        simp only [evD_ok hf]
        cases ev E fr x with
        | none => rfl
        | some v => simp only [Option.bind_some, slowL]; cases ldA E t v H <;> rfl
  case fieldAddr s x fi =>
    split at h
    case h_2 => simp at h
    rename_i f fs hf hs
    split at h
    case h_2 => simp at h
    rename_i fd hfd
    split at h
    case h_2 => simp at h
    rename_i z hz
    simp only [fN_eq, Option.some.injEq] at h; subst h
    refine ⟨by unfold spcOf; rw [ho], (match ev E fr x with | some (.p i u o r) => (match Nat.ble (fd.offset + (z + 1)) r with | true => some (.p i u (o + fd.offset) (z + 1)) | false => none) | _ => none), ?_, fun k => ?_⟩
    · unfold opA; rw [ho]; simp only [op_fieldAddr, hs]
      cases ev E fr x with
      | none => rfl
      | some v =>
        cases v with
        | p i u o r =>
          simp only [hfd, hz, fN_eq]
          cases Nat.ble (fd.offset + (z + 1)) r <;> rfl
        | _ => rfl
    · simp only [evD_ok hf]
      cases ev E fr x with
      | none => rfl
      | some v =>
        cases v with
        | p i u o r =>
          show faK _ _ _ k i u o r = _
          simp only [faK, fNK_eq]
          cases Nat.ble (fd.offset + (z + 1)) r <;> rfl
        | _ => rfl
  case indexAddr t x ix =>
    split at h
    case h_2 => simp at h
    rename_i f g' e hf hg he
    split at h
    case h_2 => simp at h
    rename_i z hz
    simp only [fN_eq, Option.some.injEq] at h; subst h
    refine ⟨by unfold spcOf; rw [ho], (match ev E fr x, ev E fr ix with
      | some (.sl i u o n ez _), some (.i _ (.ofNat j)) => (match Nat.blt j n && Nat.beq ez (z + 1) with | true => some (.p i u (o + j * (z + 1)) (z + 1)) | false => none)
      | _, _ => none), ?_, fun k => ?_⟩
    · unfold opA; rw [ho]; simp only [op_indexAddr, he]
      cases ev E fr x with
      | none => rfl
      | some v =>
        cases v with
        | sl i u o n ez c =>
          cases ev E fr ix with
          | none => rfl
          | some w =>
            cases w with
            | i t' j =>
              cases j with
              | ofNat j =>
                simp only [hz, fN_eq]
                cases Nat.blt j n && Nat.beq ez (z + 1) <;> rfl
              | negSucc j => rfl
            | _ => rfl
        | _ =>
          cases ev E fr ix with
          | none => rfl
          | some w => first | rfl | (cases w with | i t' j => cases j <;> rfl | _ => rfl)
    · simp only [evD_ok hf]
      cases ev E fr x with
      | none => rfl
      | some v =>
        cases v with
        | sl i u o n ez c =>
          show g' fr (asI fun _ j => ixK (z + 1) i u o n ez k j) = _
          rw [evD_ok hg]
          cases ev E fr ix with
          | none => rfl
          | some w =>
            cases w with
            | i t' j =>
              show ixK (z + 1) i u o n ez k j = _
              cases j with
              | ofNat j =>
                show Bool.rec (motive := fun _ => KO) none (Bool.rec (motive := fun _ => KO) none (fNK (Nat.add o (Nat.mul j (z + 1))) fun o => k (.p i u o (z + 1))) (Nat.beq ez (z + 1))) (Nat.blt j n) = _
                simp only [fNK_eq]
                cases Nat.blt j n with
                | false => rfl
                | true => cases Nat.beq ez (z + 1) <;> rfl
              | negSucc j => rfl
            | _ => rfl
        | _ => rfl
  case nilCheck x =>
    split at h
    case h_2 => simp at h
    rename_i f hf
    simp only [Option.some.injEq] at h; subst h
    refine ⟨by unfold spcOf; rw [ho], (ev E fr x).bind fun v => (match nilOk v with | true => some v | false => none), ?_, fun k => ?_⟩
    · unfold opA; rw [ho]; simp only [op_nilCheck]
      cases ev E fr x with
      | none => rfl
      | some v => simp only [Option.bind_some]; cases nilOk v <;> rfl
    · simp only [evD_ok hf]
      cases ev E fr x with
      | none => rfl
      | some v =>
        have key : nilK (slowN v k) k v = slowN v k := by cases v <;> rfl
        show nilK (slowN v k) k v = _
        rw [key]
        simp only [slowN, Option.bind_some]
        cases nilOk v <;> rfl
  case binOp op t x y yt =>
    split at h
    case h_2 => simp at h
    rename_i f g' hf hg
    have slow : ∀ a b k, slowB E op t x y a b k = (binA E op t x y a b).bind k := fun a b k => by
      unfold slowB
      cases binA E op t x y a b <;> simp
    refine ⟨by unfold spcOf; rw [ho], (ev E fr x).bind fun a => (ev E fr y).bind fun b => binA E op t x y a b, ?_, fun k => ?_⟩
    · unfold opA; rw [ho]; simp only [op_binOp]
      cases ev E fr x with
      | none => rfl
      | some a =>
        cases ev E fr y with
        | none => rfl
        | some b =>
          simp only [Option.bind_some]
          cases binA E op t x y a b with
          | none => rfl
          | some v => simp [oW]
    · split at h
      · rename_i hh hi
        simp only [Option.some.injEq] at h; subst h
        simp only [evD_ok hf, evD_ok hg]
        cases ev E fr x with
        | none => rfl
        | some a =>
          cases ev E fr y with
          | none => rfl
          | some b =>
            simp only [Option.bind_some]
            by_cases hab : (∃ s n, a = .i s n) ∧ ∃ s m, b = .i s m
            · obtain ⟨⟨s, n, rfl⟩, s', m, rfl⟩ := hab
              show Bool.rec (motive := fun _ => KO) none (hh s n m k) (keq s s') = _
              obtain ⟨h1, h2, h3⟩ := iopD_ok hi s n m k
              have hbin : binA E op t x y (.i s n) (.i s' m) = (match keq s s' with | true => intOp op s n m | false => none) := by
                unfold binA
                cases op <;> first | rfl | exact absurd rfl h2 | exact absurd rfl h3
              rw [hbin, h1]
              cases keq s s' <;> rfl
            · have key : asI2 a b (slowB E op t x y a b k) (fun s n s' m => Bool.rec (motive := fun _ => KO) none (hh s n m k) (keq s s')) = slowB E op t x y a b k := by
                cases a <;> first
                  | rfl
                  | (cases b <;> first | rfl | exact absurd ⟨⟨_, _, rfl⟩, _, _, rfl⟩ hab)
              rw [key, slow]
      · simp only [Option.some.injEq] at h; subst h
        simp only [evD_ok hf, evD_ok hg, slow]
        cases ev E fr x with
        | none => rfl
        | some a => cases ev E fr y <;> rfl
  case unOp op t x =>
    cases op <;> simp only at h <;> (try (simp at h; done))
    split at h
    case h_2 => simp at h
    rename_i f hf
    simp only [Option.some.injEq] at h; subst h
    refine ⟨by unfold spcOf; rw [ho], (ev E fr x).bind fun a => unA .not a, ?_, fun k => ?_⟩
    · unfold opA; rw [ho]; simp only [op_unOp]
      cases ev E fr x with
      | none => rfl
      | some v =>
        simp only [Option.bind_some]
        cases v <;> first | rfl | simp [unA, oW]
    · simp only [evD_ok hf]
      cases ev E fr x with
      | none => rfl
      | some v =>
        cases v with
        | b t => exact nbK_eq k t
        | _ => rfl
  case index t x ix =>
    split at h
    case h_2 => simp at h
    rename_i f g' hf hg he
    simp only [Option.some.injEq] at h; subst h
    refine ⟨by unfold spcOf; rw [ho], (match ev E fr x, ev E fr ix with
      | some (.s n s), some (.i _ (.ofNat j)) => (match Nat.blt j n with | true => some (.i .u8 (.ofNat (byteAt s j))) | false => none)
      | _, _ => none), ?_, fun k => ?_⟩
    · unfold opA; rw [ho]; simp only [op_index, he]
      cases ev E fr x with
      | none => rfl
      | some v =>
        cases v with
        | s n s =>
          cases ev E fr ix with
          | none => rfl
          | some w =>
            cases w with
            | i t' j =>
              cases j with
              | ofNat j =>
                simp only [fN_eq]
                cases Nat.blt j n <;> rfl
              | negSucc j => rfl
            | _ => rfl
        | _ =>
          cases ev E fr ix with
          | none => rfl
          | some w => first | rfl | (cases w with | i t' j => cases j <;> rfl | _ => rfl)
    · simp only [evD_ok hf]
      cases ev E fr x with
      | none => rfl
      | some v =>
        cases v with
        | s n s =>
          show g' fr (asI fun _ j => byK n s k j) = _
          rw [evD_ok hg]
          cases ev E fr ix with
          | none => rfl
          | some w =>
            cases w with
            | i t' j =>
              show byK n s k j = _
              cases j with
              | ofNat j =>
                show Bool.rec (motive := fun _ => KO) none (fNK (Nat.mod (Nat.div s (Nat.pow 2 (Nat.mul 8 j))) 256) fun b => k (.i .u8 (.ofNat b))) (Nat.blt j n) = _
                rw [fNK_eq, byteAt_R]
                cases hb : Nat.blt j n <;> simp only [hb] <;> rfl
              | negSucc j => rfl
            | _ => rfl
        | _ => rfl
  case call c =>
    split at h
    case h_2 => simp at h
    rename_i x t ts hcal hargs hts
    refine ⟨by unfold spcOf; rw [ho], ?_⟩
    have hop : opA E fr H o = (match ev E fr x with | some v => oW (lenA E t v H) | none => none) := by
      unfold opA; rw [ho]; simp only [op_call, hcal, hargs, hts, evs]
      cases ev E fr x <;> rfl
    rw [hop]
    split at h
    · rename_i f e hf he
      simp only [Option.some.injEq] at h; subst h
      refine ⟨(ev E fr x).bind fun v => lenA E t v H, ?_, fun k => ?_⟩
      · cases ev E fr x with
        | none => rfl
        | some v =>
          simp only [Option.bind_some]
          cases lenA E t v H with
          | none => rfl
          | some y => simp [oW]
      · simp only [evD_ok hf]
        cases ev E fr x with
        | none => rfl
        | some v =>
          simp only [Option.bind_some, lenA, he]
          cases v <;> rfl
    · rename_i f hf he
      simp only [Option.some.injEq] at h; subst h
      refine ⟨(ev E fr x).bind fun v => lenA E t v H, ?_, fun k => ?_⟩
      · cases ev E fr x with
        | none => rfl
        | some v =>
          simp only [Option.bind_some]
          cases lenA E t v H with
          | none => rfl
          | some y => simp [oW]
      · simp only [evD_ok hf]
        cases ev E fr x with
        | none => rfl
        | some v =>
          simp only [Option.bind_some, lenA, he]
          cases v <;> rfl
    · simp at h
  all_goals (simp at h; done)

end
end Go.Uf
end

