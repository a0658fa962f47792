/- TopQuiet: the closed facts of its row, each by itself. -/
import Derived.Test.YtldoocndhfgjhaaGreatRows
import Derived.WalkKit
import Derived.ProofKit
import Derived.JoinedOf
namespace Go.Proofs.YtldoocndhfgjhaaGreat.topQuiet
open Go.RowKit
set_option linter.unusedVariables false

theorem joined_parts {P : Program} {f : FuncId} {fn : Func} {s : ChangeSpec} {c : OpenClaim}
    (k1 : (c.wf (OpenSpec.ofChange s)) = true)
    (k2 : (laidOutB P) = true)
    (k3 : (mapsRowed P) = true)
    (k4 : (fn.params.all (P.readableRec ·)) = true)
    (k5 : (namedTie P c.named s.vars) = true)
    (k6 : ((c.stops == [])) = true)
    (k7 : ((P.stops == [])) = true)
    (k8 : ((c.knobs == [])) = true)
    (k9 : ((P.stopKnobs == [])) = true)
    (k10 : ((c.inPlace == P.inPlace f)) = true)
    (k11 : ((c.unfollowed == P.unfollowed f)) = true)
    (k12 : ((c.recurses == P.recurses f)) = true)
    (k13 : ((c.named == P.varsNamed f)) = true)
    (k14 : ((c.maps == (fn.params.toList ++ s.plain.varTypes P).any (P.mapsRec ·))) = true)
    (k15 : ((c.ifaces == (fn.params.toList ++ s.plain.varTypes P).any (P.ifacesRec ·))) = true)
    (k16 : ((c.mapsOut == P.mapsAmong fn.resultTypes.toList)) = true)
    (k17 : ((c.loops == (fn.params.toList ++ s.plain.varTypes P).any (P.loopsFrom ·))) = true)
    (k18 : ((c.wideKeys == (fn.params.toList ++ s.plain.varTypes P ++ fn.resultTypes.toList).any (P.wideKeysFrom ·))) = true)
    (k19 : (s.vars.all (P.varReadable ·)) = true)
    (k20 : (fn.resultTypes.all (fun t => P.readableRec t && decide (t < P.types.size))) = true)
    (k21 : ((c.ifacesOut == fn.resultTypes.toList.any (P.ifacesRec ·))) = true)
    (k22 : ((c.loopsOut == fn.resultTypes.toList.any (P.loopsFrom ·))) = true)
    (k23 : ((c.plainKeys == P.plainKeys)) = true)
    (k24 : (c.shortTexts.isNone) = true)
    (k25 : (P.stopsHeard) = true)
    (k26 : (P.mayEnter) = true)
    (k27 : ((c.lifted == P.liftsFinal)) = true)
    (k28 : ((P.make == some c.make)) = true)
    (k29 : ((c.kinds == (if c.domain.isEmpty then [] else fn.params.toList.map fun t => match P.underlying t with | some (.int k) => some k | _ => none))) = true)
    (k30 : ((c.pinned == c.pinnedBy)) = true)
    (k31 : ((c.veiled == (fn.params.toList ++ s.plain.varTypes P ++ fn.resultTypes.toList).any (P.veiledRec ·))) = true)
    (k32 : (c.veiledFits P fn.params.toList (fn.params.toList ++ s.plain.varTypes P ++ fn.resultTypes.toList)) = true) : joinedFacts P f fn s c = true := by
  unfold joinedFacts
  simp only [Bool.and_eq_true]
  exact ⟨⟨⟨⟨⟨⟨⟨⟨⟨⟨⟨⟨⟨⟨⟨⟨⟨⟨⟨⟨⟨⟨⟨⟨⟨⟨⟨⟨⟨⟨⟨k1, k2⟩, k3⟩, k4⟩, k5⟩, k6⟩, k7⟩, k8⟩, k9⟩, k10⟩, k11⟩, k12⟩, k13⟩, k14⟩, k15⟩, k16⟩, k17⟩, k18⟩, k19⟩, k20⟩, k21⟩, k22⟩, k23⟩, k24⟩, k25⟩, k26⟩, k27⟩, k28⟩, k29⟩, k30⟩, k31⟩, k32⟩
theorem f1_ : (Rows.topQuietRow.wf (OpenSpec.ofChange Rows.topQuietSpec)) = true := by kernel_rfl
theorem f2_ : (laidOutB Tryz.pinned.checked.prog) = true := by kernel_rfl
theorem f3_ : (mapsRowed Tryz.pinned.checked.prog) = true := by kernel_rfl
theorem f4_ : (Tryz.f3.params.all (Tryz.pinned.checked.prog.readableRec ·)) = true := by kernel_rfl
theorem f5_ : (namedTie Tryz.pinned.checked.prog Rows.topQuietRow.named Rows.topQuietSpec.vars) = true := by kernel_rfl
theorem f6_ : ((Rows.topQuietRow.stops == [])) = true := by kernel_rfl
theorem f7_ : ((Tryz.pinned.checked.prog.stops == [])) = true := by kernel_rfl
theorem f8_ : ((Rows.topQuietRow.knobs == [])) = true := by kernel_rfl
theorem f9_ : ((Tryz.pinned.checked.prog.stopKnobs == [])) = true := by kernel_rfl
theorem f10_ : ((Rows.topQuietRow.inPlace == Tryz.pinned.checked.prog.inPlace 3)) = true := by kernel_rfl
theorem f11_ : ((Rows.topQuietRow.unfollowed == Tryz.pinned.checked.prog.unfollowed 3)) = true := by kernel_rfl
theorem f12_ : ((Rows.topQuietRow.recurses == Tryz.pinned.checked.prog.recurses 3)) = true := by kernel_rfl
theorem f13_ : ((Rows.topQuietRow.named == Tryz.pinned.checked.prog.varsNamed 3)) = true := by kernel_rfl
theorem f14_ : ((Rows.topQuietRow.maps == (Tryz.f3.params.toList ++ Rows.topQuietSpec.plain.varTypes Tryz.pinned.checked.prog).any (Tryz.pinned.checked.prog.mapsRec ·))) = true := by kernel_rfl
theorem f15_ : ((Rows.topQuietRow.ifaces == (Tryz.f3.params.toList ++ Rows.topQuietSpec.plain.varTypes Tryz.pinned.checked.prog).any (Tryz.pinned.checked.prog.ifacesRec ·))) = true := by kernel_rfl
theorem f16_ : ((Rows.topQuietRow.mapsOut == Tryz.pinned.checked.prog.mapsAmong Tryz.f3.resultTypes.toList)) = true := by kernel_rfl
theorem f17_ : ((Rows.topQuietRow.loops == (Tryz.f3.params.toList ++ Rows.topQuietSpec.plain.varTypes Tryz.pinned.checked.prog).any (Tryz.pinned.checked.prog.loopsFrom ·))) = true := by kernel_rfl
theorem f18_ : ((Rows.topQuietRow.wideKeys == (Tryz.f3.params.toList ++ Rows.topQuietSpec.plain.varTypes Tryz.pinned.checked.prog ++ Tryz.f3.resultTypes.toList).any (Tryz.pinned.checked.prog.wideKeysFrom ·))) = true := by kernel_rfl
theorem f19_ : (Rows.topQuietSpec.vars.all (Tryz.pinned.checked.prog.varReadable ·)) = true := by kernel_rfl
theorem f20_ : (Tryz.f3.resultTypes.all (fun t => Tryz.pinned.checked.prog.readableRec t && decide (t < Tryz.pinned.checked.prog.types.size))) = true := by kernel_rfl
theorem f21_ : ((Rows.topQuietRow.ifacesOut == Tryz.f3.resultTypes.toList.any (Tryz.pinned.checked.prog.ifacesRec ·))) = true := by kernel_rfl
theorem f22_ : ((Rows.topQuietRow.loopsOut == Tryz.f3.resultTypes.toList.any (Tryz.pinned.checked.prog.loopsFrom ·))) = true := by kernel_rfl
theorem f23_ : ((Rows.topQuietRow.plainKeys == Tryz.pinned.checked.prog.plainKeys)) = true := by kernel_rfl
theorem f24_ : (Rows.topQuietRow.shortTexts.isNone) = true := by kernel_rfl
theorem f25_ : (Tryz.pinned.checked.prog.stopsHeard) = true := by kernel_rfl
theorem f26_ : (Tryz.pinned.checked.prog.mayEnter) = true := by kernel_rfl
theorem f27_ : ((Rows.topQuietRow.lifted == Tryz.pinned.checked.prog.liftsFinal)) = true := by kernel_rfl
theorem f28_ : ((Tryz.pinned.checked.prog.make == some Rows.topQuietRow.make)) = true := by kernel_rfl
theorem f29_ : ((Rows.topQuietRow.kinds == (if Rows.topQuietRow.domain.isEmpty then [] else Tryz.f3.params.toList.map fun t => match Tryz.pinned.checked.prog.underlying t with | some (.int k) => some k | _ => none))) = true := by kernel_rfl
theorem f30_ : ((Rows.topQuietRow.pinned == Rows.topQuietRow.pinnedBy)) = true := by kernel_rfl
theorem f31_ : ((Rows.topQuietRow.veiled == (Tryz.f3.params.toList ++ Rows.topQuietSpec.plain.varTypes Tryz.pinned.checked.prog ++ Tryz.f3.resultTypes.toList).any (Tryz.pinned.checked.prog.veiledRec ·))) = true := by kernel_rfl
theorem f32_ : (Rows.topQuietRow.veiledFits Tryz.pinned.checked.prog Tryz.f3.params.toList (Tryz.f3.params.toList ++ Rows.topQuietSpec.plain.varTypes Tryz.pinned.checked.prog ++ Tryz.f3.resultTypes.toList)) = true := by kernel_rfl
theorem facts : joinedFacts Tryz.pinned.checked.prog 3 Tryz.f3 Rows.topQuietSpec Rows.topQuietRow = true :=
  joined_parts f1_ f2_ f3_ f4_ f5_ f6_ f7_ f8_ f9_ f10_ f11_ f12_ f13_ f14_ f15_ f16_ f17_ f18_ f19_ f20_ f21_ f22_ f23_ f24_ f25_ f26_ f27_ f28_ f29_ f30_ f31_ f32_
theorem name_ : Tryz.pinned.checked.prog.funcNamed Rows.topQuietRow.func = some 3 := by kernel_rfl
theorem inst_ : Tryz.f3.isInstance Tryz.pinned.checked.prog Rows.topQuietRow.origin Rows.topQuietRow.targs := of_decide_eq_true (by kernel_rfl)
theorem wrap_ : Tryz.f3.isWrapper Tryz.pinned.checked.prog Rows.topQuietRow.wrapper Rows.topQuietRow.mainSum := by
  unfold Func.isWrapper
  first | (rw [if_pos (by decide +kernel)]; kernel_rfl) | (rw [if_neg (by decide +kernel)]; exact ⟨rfl, rfl⟩)
end Go.Proofs.YtldoocndhfgjhaaGreat.topQuiet
