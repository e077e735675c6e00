import Derived.JoinedOf
namespace Go.Sh
open Go
/-- the facts of a row that are light -/
def jfLight (P : Program) (fn : Func) (s : ChangeSpec) (c : OpenClaim) : Bool :=
  c.wf (OpenSpec.ofChange s) && fn.params.all (P.readableRec ·) && namedTie P c.named s.vars && (c.stops == []) && (c.knobs == []) &&
  (c.maps == (fn.params.toList ++ s.plain.varTypes P).any (P.mapsRec ·)) && (c.ifaces == (fn.params.toList ++ s.plain.varTypes P).any (P.ifacesRec ·)) && (c.mapsOut == P.mapsAmong fn.resultTypes.toList) &&
  (c.loops == (fn.params.toList ++ s.plain.varTypes P).any (P.loopsFrom ·)) && (c.wideKeys == (fn.params.toList ++ s.plain.varTypes P ++ fn.resultTypes.toList).any (P.wideKeysFrom ·)) &&
  s.vars.all (P.varReadable ·) && fn.resultTypes.all (fun t => P.readableRec t && decide (t < P.types.size)) && (c.ifacesOut == fn.resultTypes.toList.any (P.ifacesRec ·)) && (c.loopsOut == fn.resultTypes.toList.any (P.loopsFrom ·)) && c.shortTexts.isNone &&
  (c.kinds == (if c.domain.isEmpty then [] else fn.params.toList.map fun t => match P.underlying t with | some (.int k) => some k | _ => none)) && (c.pinned == c.pinnedBy) &&
  (c.veiled == (fn.params.toList ++ s.plain.varTypes P ++ fn.resultTypes.toList).any (P.veiledRec ·)) && c.veiledFits P fn.params.toList (fn.params.toList ++ s.plain.varTypes P ++ fn.resultTypes.toList)
theorem jf_of {P : Program} {f : FuncId} {fn : Func} {s : ChangeSpec} {c : OpenClaim} (a2 : laidOutB P = true) (a3 : mapsRowed P = true) (a7 : P.stops = []) (a9 : P.stopKnobs = [])
    (a10 : P.inPlace f = c.inPlace) (a11 : P.unfollowed f = c.unfollowed) (a12 : P.recurses f = c.recurses) (a13 : P.varsNamed f = c.named) (a23 : P.plainKeys = c.plainKeys) (a25 : P.stopsHeard = true) (a26 : P.mayEnter = true) (a27 : P.liftsFinal = c.lifted) (a28 : P.make = some c.make)
    (h : jfLight P fn s c = true) : joinedFacts P f fn s c = true := by
  unfold jfLight at h
  unfold joinedFacts
  simp only [Bool.and_eq_true] at h
  obtain ⟨⟨⟨⟨⟨⟨⟨⟨⟨⟨⟨⟨⟨⟨⟨⟨⟨⟨h1, h4⟩, h5⟩, h6⟩, h8⟩, h14⟩, h15⟩, h16⟩, h17⟩, h18⟩, h19⟩, h20⟩, h21⟩, h22⟩, h24⟩, h29⟩, h30⟩, h31⟩, h32⟩ := h
  simp only [Bool.and_eq_true]
  exact ⟨⟨⟨⟨⟨⟨⟨⟨⟨⟨⟨⟨⟨⟨⟨⟨⟨⟨⟨⟨⟨⟨⟨⟨⟨⟨⟨⟨⟨⟨⟨h1, a2⟩, a3⟩, h4⟩, h5⟩, h6⟩, (by rw [a7]; simp)⟩, h8⟩, (by rw [a9]; simp)⟩, (by rw [a10]; simp)⟩, (by rw [a11]; simp)⟩, (by rw [a12]; simp)⟩, (by rw [a13]; simp)⟩, h14⟩, h15⟩, h16⟩, h17⟩, h18⟩, h19⟩, h20⟩, h21⟩, h22⟩, (by rw [a23]; simp)⟩, h24⟩, a25⟩, a26⟩, (by rw [a27]; simp)⟩, (by rw [a28]; simp)⟩, h29⟩, h30⟩, h31⟩, h32⟩
end Go.Sh
