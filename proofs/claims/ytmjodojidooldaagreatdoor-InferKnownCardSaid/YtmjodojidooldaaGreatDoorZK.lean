/-
  PROVED HERE: the tied card of usufructlaw18.InferKnown: WHATEVER THE WORLD that fits the row, the call returns true; no argument.
  CONDITIONS: those of the card and no more (what the row lists as laid). The run is one abstract run, in parts, each reduced by the kernel; that abstract runs tell the truth of every tape is proved in the texts U0 ..
-/
import Derived.Test.YtmjodojidooldaaGreatDoorCards
import Derived.LaidByTextLater
import Derived.LaidOnce
import Derived.LaidMore
import Derived.SevenTiedAt
import Derived.Test.YtmjodojidooldaaGreatDoorU4
import Derived.Test.YtmjodojidooldaaGreatDoorZC
import Derived.Test.YtmjodojidooldaaGreatDoorZY0
import Derived.Test.YtmjodojidooldaaGreatDoorZJ
import Derived.Test.YtmjodojidooldaaGreatDoorHa
import Derived.Test.YtmjodojidooldaaGreatDoorZH5
import Derived.Test.YtmjodojidooldaaGreatDoorZY1
import Derived.Test.YtmjodojidooldaaGreatDoorZY2
import Derived.Test.YtmjodojidooldaaGreatDoorZY3
import Derived.Test.YtmjodojidooldaaGreatDoorZY4
import Derived.Test.YtmjodojidooldaaGreatDoorZD1
import Derived.Test.YtmjodojidooldaaGreatDoorZD2
import Derived.Test.YtmjodojidooldaaGreatDoorZD3
import Derived.Test.YtmjodojidooldaaGreatDoorZD4
set_option linter.all false
set_option linter.unusedVariables false
set_option linter.unusedSimpArgs false
noncomputable section
namespace Go.Proofs.YtmjodojidooldaaGreatDoor
open Go Go.ChangeShapes Go.WideShapes Go.ChangeAt Go.WideMaps Go.WideElems Go.RowKit
set_option maxRecDepth 100000

theorem once_and {α : Type} {M : Nat} {r : Option (α × List MemPlace)} {f : List MemPlace → Bool} (a : r.map (fun x => nodupBits M x.2 0) = some true) (b : r.map (fun x => f x.2) = some true) :
    r.map (fun x => decide x.2.Nodup && f x.2) = some true := by
  cases r with
  | none => simp at a
  | some x =>
    simp only [Option.map_some, Option.some.injEq] at a b ⊢
    rw [b, Bool.and_true]
    exact decide_eq_true (nodupBits_sound a).1

theorem tie : Tryz.prog.laidByTextLater ([("unicode/utf8.acceptRanges", Rows.laid_unicode_utf8_acceptRanges), ("strings.asciiSpace", Rows.laid_strings_asciiSpace), ("unicode.White_Space", Rows.laid_unicode_White_Space), ("strconv.ErrSyntax", Rows.laid_strconv_ErrSyntax), ("strconv.ErrRange", Rows.laid_strconv_ErrRange), ("internal/strconv.uint64pow10", Rows.laid_internal_strconv_uint64pow10), ("math/bits.deBruijn32tab", Rows.laid_math_bits_deBruijn32tab), ("math/bits.deBruijn64tab", Rows.laid_math_bits_deBruijn64tab)] : List (String × DataW Unit)) [.data, .data, .listed, .sentinel, .sentinel, .data, .data, .data] true :=
  Program.laidByTextLater_by_run 400 8 w1 w2 w3 hk hg hn hd h1 (fun os tape => once_and (h2 os tape) (h3 os tape))

theorem pin_laid_unicode_utf8_first : Tryz.pinned.checked.prog.pinnedFits "unicode/utf8.first" = true := by kernel_rfl
theorem noOwnUnsafe : Tryz.pinned.checked.prog.headLifts.contains "ownunsafe" = false := by kernel_rfl
theorem fits1 : Tryz.pinned.checked.prog.listedFits ([("unicode/utf8.first", Rows.laid_unicode_utf8_first), ("unicode/utf8.acceptRanges", Rows.laid_unicode_utf8_acceptRanges), ("strings.asciiSpace", Rows.laid_strings_asciiSpace), ("unicode.White_Space", Rows.laid_unicode_White_Space), ("strconv.ErrSyntax", Rows.laid_strconv_ErrSyntax), ("strconv.ErrRange", Rows.laid_strconv_ErrRange), ("internal/strconv.uint64pow10", Rows.laid_internal_strconv_uint64pow10), ("math/bits.deBruijn32tab", Rows.laid_math_bits_deBruijn32tab), ("math/bits.deBruijn64tab", Rows.laid_math_bits_deBruijn64tab)] : List (String × DataW Unit)) = true := by
  unfold Program.listedFits
  rw [noOwnUnsafe]
  kernel_rfl
theorem row_tie : Rows.inferKnownRow.laidByTextAt .later Tryz.pinned [.pinned, .data, .data, .listed, .sentinel, .sentinel, .data, .data, .data] true :=
  OpenClaim.laidByTextAt_pinned rfl rfl tie rfl rfl rfl rfl (fun y hy _e => by
    simp only [Rows.inferKnownRow, List.zip_cons_cons, List.zip_nil_right, List.mem_cons, List.mem_nil_iff, or_false] at hy
    rcases hy with rfl | rfl | rfl | rfl | rfl | rfl | rfl | rfl | rfl
    · exact ⟨pin_laid_unicode_utf8_first, by kernel_rfl⟩
    · cases _e
    · cases _e
    · cases _e
    · cases _e
    · cases _e
    · cases _e
    · cases _e
    · cases _e) fits1

theorem own : ownKnob Tryz.prog.godebug = none := by kernel_rfl

theorem door_met (os : Os) : laidMetH Tryz.prog Rows.inferKnownRow.laid ((doorW os).forCall (fun _ _ => 0) ⟨#[], #[], []⟩).memory := by
  rw [MakeChecks.laidMetH_plain _ _ _ (by kernel_rfl)]
  exact laidMet_of_run' 8 (d1 os) (once_and (d2 os) (d3 os))

theorem under547 : Tryz.prog.underlying 547 = some (.array 256 5) := by kernel_rfl
theorem underE : Tryz.prog.underlying 5 = some (.int .u8) := by kernel_rfl
theorem of_laid {w : World} (hl : laidMetH Tryz.prog Rows.inferKnownRow.laid w) (hsh : w.ShapedOpen Tryz.prog) : Uf.JL Uf.gl w := by
  rw [MakeChecks.laidMetH_plain _ _ _ (by kernel_rfl)] at hl
  intro x hx
  have hx' : x ∈ [Uf.G4] := hx
  rw [List.mem_singleton] at hx'
  subst hx'
  exact Uf.glob_ints (nm := "strings.asciiSpace") (d := Rows.laid_strings_asciiSpace) (g := 4) (t := 547) (e := 5) (n := 256) (k := .u8) hl hsh (by simp [Rows.inferKnownRow]) (by kernel_rfl) (of_decide_eq_true (by kernel_rfl)) (by kernel_rfl) (by kernel_rfl)
    under547 underE (by kernel_rfl) (by kernel_rfl) (by kernel_rfl)

theorem lifted (os : Os) (started : os.Started) (H : Type) (enc : TypeId × Value → H) :
    ReturnsInHanded {} Tryz.checked os 3 .any (fun w args => (Rows.inferKnownSpec.pre enc Tryz.prog Tryz.f3 [] false w args ∧ laidMetH Tryz.prog Rows.inferKnownRow.laid w) ∧ sizedMet enc Tryz.prog Tryz.f3 (OpenSpec.ofChange Rows.inferKnownSpec) false w args)
      (Rows.inferKnownSpec.post enc Tryz.prog Tryz.f3 false true false false) := by
  refine Uf.returnsInHanded_of_change_and_shaped (C := Tryz.checked) (X := fun w _ => laidMetH Tryz.prog Rows.inferKnownRow.laid w) (fun _ _ _ hh h => h.of_heap hh) own started (by kernel_rfl) Tryz.func3
    (ChangeSpec.witness_shaped (enc := enc) (C := Tryz.checked) (os := os) (X := fun w _ => laidMetH Tryz.prog Rows.inferKnownRow.laid w) false (doorW os) #[] 8 rfl (d4 os) (d5 os) (d6 H enc os) (d7 H enc os) (door_met os)) ?_
  intro W base args ds gs before hval hW _ _ hL hsh _
  have hW' := hW
  obtain ⟨p, q, hA0, hV, rfl, hfz, hnd⟩ := hW
  have hA : DataW.TrodAll enc Tryz.prog W 0 (fun _ => true) true Tryz.f3.params.toList args.toList ds p := hA0
  rw [show Tryz.f3.params.toList = [] by kernel_rfl] at hA
  obtain ⟨ha, rfl, rfl⟩ := trodAll_nil hA
  obtain ⟨rfl, rfl⟩ := trodVars_none hV
  obtain rfl : args = #[] := Array.toList_inj.1 ha
  have hcall := callsIn_wide.1 (Uf.called W (of_laid hL hsh) 0)
  refine hcall.mono fun e W' ⟨he, hB⟩ => ?_
  subst he
  refine ⟨_, rfl, [], [], [], [], [], [], hW', ?_, ?_, ?_, hB.frame _, fun h => by cases h⟩
  · show DataW.TrodAll enc Tryz.prog W' _ _ _ Tryz.f3.resultTypes.toList ((Value.bool true).resultList Tryz.f3.resultTypes.size) [.lit (.bool true)] []
    rw [show Tryz.f3.resultTypes = #[4] by kernel_rfl]
    exact trodAll_mk1 (shut_bool (show Tryz.prog.underlying 4 = some .bool by kernel_rfl) _)
  · show DataW.TrodAll enc Tryz.prog W' _ _ _ Tryz.f3.params.toList [] [] []
    rw [show Tryz.f3.params.toList = [] by kernel_rfl]
    rfl
  · rfl

theorem inferKnown_holds : Rows.InferKnownSaid :=
  OpenClaim.holds_of_wide 3 Tryz.f3 rfl rfl rfl rfl rfl rfl rfl ⟨rfl, rfl, rfl, rfl, rfl⟩ rfl rfl rfl rfl rfl c8 Tryz.func3 c1 c2 c3
    (fun os started H enc _ => lifted os started H enc)

theorem card_holds : Rows.InferKnownCardSaid :=
  Claim7.holds_tied_plain_at .later [] [.pinned, .data, .data, .listed, .sentinel, .sentinel, .data, .data, .data] true (true, "321fad0fb33de13f983864cc6460c3323e1307ce35eb0707c7573546c0c1c47e") true
    inferKnown_holds (fun _ h => by cases h) c4 (fun _ h => by cases h) row_tie rfl ⟨rfl, rfl⟩ c7 rfl
    (fun f fn hf hfn => by
      obtain rfl : f = 3 := Option.some.inj (c8.symm.trans hf) |>.symm
      obtain rfl : fn = Tryz.f3 := (Option.some.inj (Tryz.func3.symm.trans hfn)).symm
      exact ⟨c5, fun j t ht => by
        rw [show Tryz.f3.params = #[] by kernel_rfl] at ht
        simp at ht⟩)
    c6
#print axioms card_holds
end Go.Proofs.YtmjodojidooldaaGreatDoor
end

