/-
  NARROWER THAN 'FOR EVERY INPUT', by the rows' own cells (each row's printed sentence says how): CodeWorks: loops · CodeChecks: loops · CodeJoins: loops · CodeNames: loops · CodeSets: loops · CodeGets: loops · CodeWalks: loops · CodeAlone: loops · CodeCopies: loops · CodeUses: loops · CodeFree: loops.
  DERIVED. THE GIVEN ROWS OF THIS SEAT. 13 by the template 'for every input the law returns true; each argument reads behind the call as it read before'; 0 by the template 'total and deterministic' (their statements: YtljiamlnpmhpmaaTotals.lean).
  GIVEN WITH THE SEED: the statements are not yours to turn. If you find one false, say at which input.
  Laid BY PROGRAM, IN A SANDBOX (cutbox-rows.mjs): the forced cells as the released guide's own fill.sh prints them over the translation 939d5002c382fbb5… (all of the seat's roots in one cut). By AI agents, Wed Nov 11 2026. No macro, syntax, notation, axiom, sorry.
-/
import Derived.Test.YtljiamlnpmhpmaaChecked
import GoSem.Claim
import GoSem.ClaimJoined
import GoSem.ClaimMapViews
import Derived.JoinedTies
import Derived.KernelRfl
namespace Go.Proofs.Ytljiamlnpmhpmaa
/- THE CELL 'sum', in the pinned program and in every row, IS THE sha256 OF THE DUMP (.gsa) THAT YtljiamlnpmhpmaaProg.lean LOADS. Nothing in Lean hashes anything: it is a label: what it is worth is what the hold of that sum in a sandbox is worth. -/
noncomputable def Try.pinned : Pinned := { name := "ytljiamlnpmhpmaa", sum := "939d5002c382fbb5fa575664277e0f2f17511e32c69bb04b2ea6ae507c0e3033", checked := Try.checked }
namespace Rows
def none {H : Type} : Left H := { results := [], args := [] }

/-- 'posternlaw16.CodeWorks': WHATEVER THE INPUT: true; the input reads as it did. -/
def codeWorksSpec : ChangeSpec := { name := "codeWorks", fn := fun _ => fun
  | [d1, d2] => { results := [.lit (.bool true)], args := [d1, d2] }
  | _ => none }
def codeWorksRow : OpenClaim := { program := "ytljiamlnpmhpmaa", sum := "939d5002c382fbb5fa575664277e0f2f17511e32c69bb04b2ea6ae507c0e3033", func := "postern/posternlaw16.CodeWorks", spec := "codeWorks", unfollowed := true, recurses := true, loops := true, apart := false }
def CodeWorksSaid : Prop := codeWorksRow.holds Try.pinned (OpenSpec.ofChange codeWorksSpec)

/-- ITS FALSE NEIGHBOUR: 'it returns false'. Refute it at one input. -/
def codeWorksWrong : ChangeSpec := { name := "codeWorks", fn := fun _ => fun
  | [d1, d2] => { results := [.lit (.bool false)], args := [d1, d2] }
  | _ => none }
def CodeWorksWrongFalsely : Prop := codeWorksRow.holds Try.pinned (OpenSpec.ofChange codeWorksWrong)

/-- 'posternlaw16.CodeNumbers': WHATEVER THE INPUT: true; the input reads as it did. -/
def codeNumbersSpec : ChangeSpec := { name := "codeNumbers", fn := fun _ => fun
  | [] => { results := [.lit (.bool true)], args := [] }
  | _ => none }
def codeNumbersRow : OpenClaim := { program := "ytljiamlnpmhpmaa", sum := "939d5002c382fbb5fa575664277e0f2f17511e32c69bb04b2ea6ae507c0e3033", func := "postern/posternlaw16.CodeNumbers", spec := "codeNumbers", unfollowed := true, recurses := true, apart := false }
def CodeNumbersSaid : Prop := codeNumbersRow.holds Try.pinned (OpenSpec.ofChange codeNumbersSpec)

/-- ITS FALSE NEIGHBOUR: 'it returns false'. Refute it at one input. -/
def codeNumbersWrong : ChangeSpec := { name := "codeNumbers", fn := fun _ => fun
  | [] => { results := [.lit (.bool false)], args := [] }
  | _ => none }
def CodeNumbersWrongFalsely : Prop := codeNumbersRow.holds Try.pinned (OpenSpec.ofChange codeNumbersWrong)

/-- 'posternlaw16.CodeChecks': WHATEVER THE INPUT: true; the input reads as it did. -/
def codeChecksSpec : ChangeSpec := { name := "codeChecks", fn := fun _ => fun
  | [d] => { results := [.lit (.bool true)], args := [d] }
  | _ => none }
def codeChecksRow : OpenClaim := { program := "ytljiamlnpmhpmaa", sum := "939d5002c382fbb5fa575664277e0f2f17511e32c69bb04b2ea6ae507c0e3033", func := "postern/posternlaw16.CodeChecks", spec := "codeChecks", unfollowed := true, recurses := true, loops := true, apart := false }
def CodeChecksSaid : Prop := codeChecksRow.holds Try.pinned (OpenSpec.ofChange codeChecksSpec)

/-- ITS FALSE NEIGHBOUR: 'it returns false'. Refute it at one input. -/
def codeChecksWrong : ChangeSpec := { name := "codeChecks", fn := fun _ => fun
  | [d] => { results := [.lit (.bool false)], args := [d] }
  | _ => none }
def CodeChecksWrongFalsely : Prop := codeChecksRow.holds Try.pinned (OpenSpec.ofChange codeChecksWrong)

/-- 'posternlaw16.CodeJoins': WHATEVER THE INPUT: true; the input reads as it did. -/
def codeJoinsSpec : ChangeSpec := { name := "codeJoins", fn := fun _ => fun
  | [d1, d2] => { results := [.lit (.bool true)], args := [d1, d2] }
  | _ => none }
def codeJoinsRow : OpenClaim := { program := "ytljiamlnpmhpmaa", sum := "939d5002c382fbb5fa575664277e0f2f17511e32c69bb04b2ea6ae507c0e3033", func := "postern/posternlaw16.CodeJoins", spec := "codeJoins", unfollowed := true, recurses := true, loops := true, apart := false }
def CodeJoinsSaid : Prop := codeJoinsRow.holds Try.pinned (OpenSpec.ofChange codeJoinsSpec)

/-- ITS FALSE NEIGHBOUR: 'it returns false'. Refute it at one input. -/
def codeJoinsWrong : ChangeSpec := { name := "codeJoins", fn := fun _ => fun
  | [d1, d2] => { results := [.lit (.bool false)], args := [d1, d2] }
  | _ => none }
def CodeJoinsWrongFalsely : Prop := codeJoinsRow.holds Try.pinned (OpenSpec.ofChange codeJoinsWrong)

/-- 'posternlaw16.CodeNames': WHATEVER THE INPUT: true; the input reads as it did. -/
def codeNamesSpec : ChangeSpec := { name := "codeNames", fn := fun _ => fun
  | [d1, d2, d3] => { results := [.lit (.bool true)], args := [d1, d2, d3] }
  | _ => none }
def codeNamesRow : OpenClaim := { program := "ytljiamlnpmhpmaa", sum := "939d5002c382fbb5fa575664277e0f2f17511e32c69bb04b2ea6ae507c0e3033", func := "postern/posternlaw16.CodeNames", spec := "codeNames", unfollowed := true, recurses := true, loops := true, apart := false }
def CodeNamesSaid : Prop := codeNamesRow.holds Try.pinned (OpenSpec.ofChange codeNamesSpec)

/-- ITS FALSE NEIGHBOUR: 'it returns false'. Refute it at one input. -/
def codeNamesWrong : ChangeSpec := { name := "codeNames", fn := fun _ => fun
  | [d1, d2, d3] => { results := [.lit (.bool false)], args := [d1, d2, d3] }
  | _ => none }
def CodeNamesWrongFalsely : Prop := codeNamesRow.holds Try.pinned (OpenSpec.ofChange codeNamesWrong)

/-- 'posternlaw16.CodeSets': WHATEVER THE INPUT: true; the input reads as it did. -/
def codeSetsSpec : ChangeSpec := { name := "codeSets", fn := fun _ => fun
  | [d1, d2, d3] => { results := [.lit (.bool true)], args := [d1, d2, d3] }
  | _ => none }
def codeSetsRow : OpenClaim := { program := "ytljiamlnpmhpmaa", sum := "939d5002c382fbb5fa575664277e0f2f17511e32c69bb04b2ea6ae507c0e3033", func := "postern/posternlaw16.CodeSets", spec := "codeSets", unfollowed := true, recurses := true, loops := true, apart := false }
def CodeSetsSaid : Prop := codeSetsRow.holds Try.pinned (OpenSpec.ofChange codeSetsSpec)

/-- ITS FALSE NEIGHBOUR: 'it returns false'. Refute it at one input. -/
def codeSetsWrong : ChangeSpec := { name := "codeSets", fn := fun _ => fun
  | [d1, d2, d3] => { results := [.lit (.bool false)], args := [d1, d2, d3] }
  | _ => none }
def CodeSetsWrongFalsely : Prop := codeSetsRow.holds Try.pinned (OpenSpec.ofChange codeSetsWrong)

/-- 'posternlaw16.CodeGets': WHATEVER THE INPUT: true; the input reads as it did. -/
def codeGetsSpec : ChangeSpec := { name := "codeGets", fn := fun _ => fun
  | [d1, d2, d3] => { results := [.lit (.bool true)], args := [d1, d2, d3] }
  | _ => none }
def codeGetsRow : OpenClaim := { program := "ytljiamlnpmhpmaa", sum := "939d5002c382fbb5fa575664277e0f2f17511e32c69bb04b2ea6ae507c0e3033", func := "postern/posternlaw16.CodeGets", spec := "codeGets", unfollowed := true, recurses := true, loops := true, apart := false }
def CodeGetsSaid : Prop := codeGetsRow.holds Try.pinned (OpenSpec.ofChange codeGetsSpec)

/-- ITS FALSE NEIGHBOUR: 'it returns false'. Refute it at one input. -/
def codeGetsWrong : ChangeSpec := { name := "codeGets", fn := fun _ => fun
  | [d1, d2, d3] => { results := [.lit (.bool false)], args := [d1, d2, d3] }
  | _ => none }
def CodeGetsWrongFalsely : Prop := codeGetsRow.holds Try.pinned (OpenSpec.ofChange codeGetsWrong)

/-- 'posternlaw16.CodeMany': WHATEVER THE INPUT: true; the input reads as it did. -/
def codeManySpec : ChangeSpec := { name := "codeMany", fn := fun _ => fun
  | [] => { results := [.lit (.bool true)], args := [] }
  | _ => none }
def codeManyRow : OpenClaim := { program := "ytljiamlnpmhpmaa", sum := "939d5002c382fbb5fa575664277e0f2f17511e32c69bb04b2ea6ae507c0e3033", func := "postern/posternlaw16.CodeMany", spec := "codeMany", unfollowed := true, recurses := true, apart := false }
def CodeManySaid : Prop := codeManyRow.holds Try.pinned (OpenSpec.ofChange codeManySpec)

/-- ITS FALSE NEIGHBOUR: 'it returns false'. Refute it at one input. -/
def codeManyWrong : ChangeSpec := { name := "codeMany", fn := fun _ => fun
  | [] => { results := [.lit (.bool false)], args := [] }
  | _ => none }
def CodeManyWrongFalsely : Prop := codeManyRow.holds Try.pinned (OpenSpec.ofChange codeManyWrong)

/-- 'posternlaw16.CodeWalks': WHATEVER THE INPUT: true; the input reads as it did. -/
def codeWalksSpec : ChangeSpec := { name := "codeWalks", fn := fun _ => fun
  | [d1, d2] => { results := [.lit (.bool true)], args := [d1, d2] }
  | _ => none }
def codeWalksRow : OpenClaim := { program := "ytljiamlnpmhpmaa", sum := "939d5002c382fbb5fa575664277e0f2f17511e32c69bb04b2ea6ae507c0e3033", func := "postern/posternlaw16.CodeWalks", spec := "codeWalks", unfollowed := true, recurses := true, loops := true, apart := false }
def CodeWalksSaid : Prop := codeWalksRow.holds Try.pinned (OpenSpec.ofChange codeWalksSpec)

/-- ITS FALSE NEIGHBOUR: 'it returns false'. Refute it at one input. -/
def codeWalksWrong : ChangeSpec := { name := "codeWalks", fn := fun _ => fun
  | [d1, d2] => { results := [.lit (.bool false)], args := [d1, d2] }
  | _ => none }
def CodeWalksWrongFalsely : Prop := codeWalksRow.holds Try.pinned (OpenSpec.ofChange codeWalksWrong)

/-- 'posternlaw16.CodeAlone': WHATEVER THE INPUT: true; the input reads as it did. -/
def codeAloneSpec : ChangeSpec := { name := "codeAlone", fn := fun _ => fun
  | [d] => { results := [.lit (.bool true)], args := [d] }
  | _ => none }
def codeAloneRow : OpenClaim := { program := "ytljiamlnpmhpmaa", sum := "939d5002c382fbb5fa575664277e0f2f17511e32c69bb04b2ea6ae507c0e3033", func := "postern/posternlaw16.CodeAlone", spec := "codeAlone", unfollowed := true, recurses := true, loops := true, apart := false }
def CodeAloneSaid : Prop := codeAloneRow.holds Try.pinned (OpenSpec.ofChange codeAloneSpec)

/-- ITS FALSE NEIGHBOUR: 'it returns false'. Refute it at one input. -/
def codeAloneWrong : ChangeSpec := { name := "codeAlone", fn := fun _ => fun
  | [d] => { results := [.lit (.bool false)], args := [d] }
  | _ => none }
def CodeAloneWrongFalsely : Prop := codeAloneRow.holds Try.pinned (OpenSpec.ofChange codeAloneWrong)

/-- 'posternlaw16.CodeCopies': WHATEVER THE INPUT: true; the input reads as it did. -/
def codeCopiesSpec : ChangeSpec := { name := "codeCopies", fn := fun _ => fun
  | [d1, d2] => { results := [.lit (.bool true)], args := [d1, d2] }
  | _ => none }
def codeCopiesRow : OpenClaim := { program := "ytljiamlnpmhpmaa", sum := "939d5002c382fbb5fa575664277e0f2f17511e32c69bb04b2ea6ae507c0e3033", func := "postern/posternlaw16.CodeCopies", spec := "codeCopies", unfollowed := true, recurses := true, loops := true, apart := false }
def CodeCopiesSaid : Prop := codeCopiesRow.holds Try.pinned (OpenSpec.ofChange codeCopiesSpec)

/-- ITS FALSE NEIGHBOUR: 'it returns false'. Refute it at one input. -/
def codeCopiesWrong : ChangeSpec := { name := "codeCopies", fn := fun _ => fun
  | [d1, d2] => { results := [.lit (.bool false)], args := [d1, d2] }
  | _ => none }
def CodeCopiesWrongFalsely : Prop := codeCopiesRow.holds Try.pinned (OpenSpec.ofChange codeCopiesWrong)

/-- 'posternlaw16.CodeUses': WHATEVER THE INPUT: true; the input reads as it did. -/
def codeUsesSpec : ChangeSpec := { name := "codeUses", fn := fun _ => fun
  | [d] => { results := [.lit (.bool true)], args := [d] }
  | _ => none }
def codeUsesRow : OpenClaim := { program := "ytljiamlnpmhpmaa", sum := "939d5002c382fbb5fa575664277e0f2f17511e32c69bb04b2ea6ae507c0e3033", func := "postern/posternlaw16.CodeUses", spec := "codeUses", unfollowed := true, recurses := true, loops := true, apart := false }
def CodeUsesSaid : Prop := codeUsesRow.holds Try.pinned (OpenSpec.ofChange codeUsesSpec)

/-- ITS FALSE NEIGHBOUR: 'it returns false'. Refute it at one input. -/
def codeUsesWrong : ChangeSpec := { name := "codeUses", fn := fun _ => fun
  | [d] => { results := [.lit (.bool false)], args := [d] }
  | _ => none }
def CodeUsesWrongFalsely : Prop := codeUsesRow.holds Try.pinned (OpenSpec.ofChange codeUsesWrong)

/-- 'posternlaw16.CodeFree': WHATEVER THE INPUT: true; the input reads as it did. -/
def codeFreeSpec : ChangeSpec := { name := "codeFree", fn := fun _ => fun
  | [d1, d2] => { results := [.lit (.bool true)], args := [d1, d2] }
  | _ => none }
def codeFreeRow : OpenClaim := { program := "ytljiamlnpmhpmaa", sum := "939d5002c382fbb5fa575664277e0f2f17511e32c69bb04b2ea6ae507c0e3033", func := "postern/posternlaw16.CodeFree", spec := "codeFree", unfollowed := true, recurses := true, loops := true, apart := false }
def CodeFreeSaid : Prop := codeFreeRow.holds Try.pinned (OpenSpec.ofChange codeFreeSpec)

/-- ITS FALSE NEIGHBOUR: 'it returns false'. Refute it at one input. -/
def codeFreeWrong : ChangeSpec := { name := "codeFree", fn := fun _ => fun
  | [d1, d2] => { results := [.lit (.bool false)], args := [d1, d2] }
  | _ => none }
def CodeFreeWrongFalsely : Prop := codeFreeRow.holds Try.pinned (OpenSpec.ofChange codeFreeWrong)

/- THE SECOND FORM. 'bulk': how many values and letters a reading holds, each counted each time it is reached (what is shared counts as often as it is met; a slice's spare places count too). A statement '..UptoSaid' is the law's where the arguments, and the package variables that the reading takes, are together of bulk at most 1048576: NARROWER than '..Said'. Prove '..Said' where nothing that the law and all that it calls make is longer than what came in: it says more and counts as full. Else prove '..UptoSaid'. A law counts once. -/
mutual
def uptoBulk {H : Type} : DataW H → Nat
  | .lit (.string bytes) => bytes.length + 1
  | .lit _ => 1
  | .nil => 1
  | .ptr d => uptoBulk d + 1
  | .slice elems spare => uptoBulkAll elems + uptoBulkAll spare + 1
  | .agg parts => uptoBulkAll parts + 1
  | .iface _ d => uptoBulk d + 1
  | .map entries => uptoBulkEntries entries + 1
  | .held _ => 1
def uptoBulkAll {H : Type} : List (DataW H) → Nat
  | [] => 0
  | d :: r => uptoBulk d + uptoBulkAll r
def uptoBulkEntries {H : Type} : List (Lit × DataW H) → Nat
  | [] => 0
  | x :: r => uptoBulkEntry x + uptoBulkEntries r
def uptoBulkEntry {H : Type} : Lit × DataW H → Nat
  | (.string bytes, d) => bytes.length + uptoBulk d + 1
  | (_, d) => uptoBulk d + 1
 end
def uptoSmall : (H : Type) → List (DataW H) → Bool := fun _ ds => decide (uptoBulkAll ds ≤ 1048576)
def OpenSpec.upto (s : _root_.Go.ChangeSpec) : _root_.Go.OpenSpec := { _root_.Go.OpenSpec.ofChange s with cond := some uptoSmall }

/-- 'posternlaw16.CodeWorks', WHERE WHAT IT READS IS OF BULK AT MOST 1048576: true; the input reads as it did. -/
def codeWorksUptoRow : OpenClaim := { program := "ytljiamlnpmhpmaa", sum := "939d5002c382fbb5fa575664277e0f2f17511e32c69bb04b2ea6ae507c0e3033", func := "postern/posternlaw16.CodeWorks", spec := "codeWorks", unfollowed := true, recurses := true, loops := true, apart := false, narrowed := true }
def CodeWorksUptoSaid : Prop := codeWorksUptoRow.holds Try.pinned (OpenSpec.upto codeWorksSpec)

/-- 'posternlaw16.CodeNumbers', WHERE WHAT IT READS IS OF BULK AT MOST 1048576: true; the input reads as it did. -/
def codeNumbersUptoRow : OpenClaim := { program := "ytljiamlnpmhpmaa", sum := "939d5002c382fbb5fa575664277e0f2f17511e32c69bb04b2ea6ae507c0e3033", func := "postern/posternlaw16.CodeNumbers", spec := "codeNumbers", unfollowed := true, recurses := true, apart := false, narrowed := true }
def CodeNumbersUptoSaid : Prop := codeNumbersUptoRow.holds Try.pinned (OpenSpec.upto codeNumbersSpec)

/-- 'posternlaw16.CodeChecks', WHERE WHAT IT READS IS OF BULK AT MOST 1048576: true; the input reads as it did. -/
def codeChecksUptoRow : OpenClaim := { program := "ytljiamlnpmhpmaa", sum := "939d5002c382fbb5fa575664277e0f2f17511e32c69bb04b2ea6ae507c0e3033", func := "postern/posternlaw16.CodeChecks", spec := "codeChecks", unfollowed := true, recurses := true, loops := true, apart := false, narrowed := true }
def CodeChecksUptoSaid : Prop := codeChecksUptoRow.holds Try.pinned (OpenSpec.upto codeChecksSpec)

/-- 'posternlaw16.CodeJoins', WHERE WHAT IT READS IS OF BULK AT MOST 1048576: true; the input reads as it did. -/
def codeJoinsUptoRow : OpenClaim := { program := "ytljiamlnpmhpmaa", sum := "939d5002c382fbb5fa575664277e0f2f17511e32c69bb04b2ea6ae507c0e3033", func := "postern/posternlaw16.CodeJoins", spec := "codeJoins", unfollowed := true, recurses := true, loops := true, apart := false, narrowed := true }
def CodeJoinsUptoSaid : Prop := codeJoinsUptoRow.holds Try.pinned (OpenSpec.upto codeJoinsSpec)

/-- 'posternlaw16.CodeNames', WHERE WHAT IT READS IS OF BULK AT MOST 1048576: true; the input reads as it did. -/
def codeNamesUptoRow : OpenClaim := { program := "ytljiamlnpmhpmaa", sum := "939d5002c382fbb5fa575664277e0f2f17511e32c69bb04b2ea6ae507c0e3033", func := "postern/posternlaw16.CodeNames", spec := "codeNames", unfollowed := true, recurses := true, loops := true, apart := false, narrowed := true }
def CodeNamesUptoSaid : Prop := codeNamesUptoRow.holds Try.pinned (OpenSpec.upto codeNamesSpec)

/-- 'posternlaw16.CodeSets', WHERE WHAT IT READS IS OF BULK AT MOST 1048576: true; the input reads as it did. -/
def codeSetsUptoRow : OpenClaim := { program := "ytljiamlnpmhpmaa", sum := "939d5002c382fbb5fa575664277e0f2f17511e32c69bb04b2ea6ae507c0e3033", func := "postern/posternlaw16.CodeSets", spec := "codeSets", unfollowed := true, recurses := true, loops := true, apart := false, narrowed := true }
def CodeSetsUptoSaid : Prop := codeSetsUptoRow.holds Try.pinned (OpenSpec.upto codeSetsSpec)

/-- 'posternlaw16.CodeGets', WHERE WHAT IT READS IS OF BULK AT MOST 1048576: true; the input reads as it did. -/
def codeGetsUptoRow : OpenClaim := { program := "ytljiamlnpmhpmaa", sum := "939d5002c382fbb5fa575664277e0f2f17511e32c69bb04b2ea6ae507c0e3033", func := "postern/posternlaw16.CodeGets", spec := "codeGets", unfollowed := true, recurses := true, loops := true, apart := false, narrowed := true }
def CodeGetsUptoSaid : Prop := codeGetsUptoRow.holds Try.pinned (OpenSpec.upto codeGetsSpec)

/-- 'posternlaw16.CodeMany', WHERE WHAT IT READS IS OF BULK AT MOST 1048576: true; the input reads as it did. -/
def codeManyUptoRow : OpenClaim := { program := "ytljiamlnpmhpmaa", sum := "939d5002c382fbb5fa575664277e0f2f17511e32c69bb04b2ea6ae507c0e3033", func := "postern/posternlaw16.CodeMany", spec := "codeMany", unfollowed := true, recurses := true, apart := false, narrowed := true }
def CodeManyUptoSaid : Prop := codeManyUptoRow.holds Try.pinned (OpenSpec.upto codeManySpec)

/-- 'posternlaw16.CodeWalks', WHERE WHAT IT READS IS OF BULK AT MOST 1048576: true; the input reads as it did. -/
def codeWalksUptoRow : OpenClaim := { program := "ytljiamlnpmhpmaa", sum := "939d5002c382fbb5fa575664277e0f2f17511e32c69bb04b2ea6ae507c0e3033", func := "postern/posternlaw16.CodeWalks", spec := "codeWalks", unfollowed := true, recurses := true, loops := true, apart := false, narrowed := true }
def CodeWalksUptoSaid : Prop := codeWalksUptoRow.holds Try.pinned (OpenSpec.upto codeWalksSpec)

/-- 'posternlaw16.CodeAlone', WHERE WHAT IT READS IS OF BULK AT MOST 1048576: true; the input reads as it did. -/
def codeAloneUptoRow : OpenClaim := { program := "ytljiamlnpmhpmaa", sum := "939d5002c382fbb5fa575664277e0f2f17511e32c69bb04b2ea6ae507c0e3033", func := "postern/posternlaw16.CodeAlone", spec := "codeAlone", unfollowed := true, recurses := true, loops := true, apart := false, narrowed := true }
def CodeAloneUptoSaid : Prop := codeAloneUptoRow.holds Try.pinned (OpenSpec.upto codeAloneSpec)

/-- 'posternlaw16.CodeCopies', WHERE WHAT IT READS IS OF BULK AT MOST 1048576: true; the input reads as it did. -/
def codeCopiesUptoRow : OpenClaim := { program := "ytljiamlnpmhpmaa", sum := "939d5002c382fbb5fa575664277e0f2f17511e32c69bb04b2ea6ae507c0e3033", func := "postern/posternlaw16.CodeCopies", spec := "codeCopies", unfollowed := true, recurses := true, loops := true, apart := false, narrowed := true }
def CodeCopiesUptoSaid : Prop := codeCopiesUptoRow.holds Try.pinned (OpenSpec.upto codeCopiesSpec)

/-- 'posternlaw16.CodeUses', WHERE WHAT IT READS IS OF BULK AT MOST 1048576: true; the input reads as it did. -/
def codeUsesUptoRow : OpenClaim := { program := "ytljiamlnpmhpmaa", sum := "939d5002c382fbb5fa575664277e0f2f17511e32c69bb04b2ea6ae507c0e3033", func := "postern/posternlaw16.CodeUses", spec := "codeUses", unfollowed := true, recurses := true, loops := true, apart := false, narrowed := true }
def CodeUsesUptoSaid : Prop := codeUsesUptoRow.holds Try.pinned (OpenSpec.upto codeUsesSpec)

/-- 'posternlaw16.CodeFree', WHERE WHAT IT READS IS OF BULK AT MOST 1048576: true; the input reads as it did. -/
def codeFreeUptoRow : OpenClaim := { program := "ytljiamlnpmhpmaa", sum := "939d5002c382fbb5fa575664277e0f2f17511e32c69bb04b2ea6ae507c0e3033", func := "postern/posternlaw16.CodeFree", spec := "codeFree", unfollowed := true, recurses := true, loops := true, apart := false, narrowed := true }
def CodeFreeUptoSaid : Prop := codeFreeUptoRow.holds Try.pinned (OpenSpec.upto codeFreeSpec)

end Rows
end Go.Proofs.Ytljiamlnpmhpmaa
