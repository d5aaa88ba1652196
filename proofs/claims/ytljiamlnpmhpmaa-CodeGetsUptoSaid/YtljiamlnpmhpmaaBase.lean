/- What the decompiled texts share: a call table with one answer laid down; what code.forms answers. -/
import Derived.Test.YtljiamlnpmhpmaaCfg
set_option linter.unusedVariables false
namespace Go.Ev.T
open Go Go.Ev
def ovr (g : Nat) (r : List AV × List AObj) (X : Call') : Call' := fun f args h =>
  match args, h with
  | [], [] => bif Nat.beq f g then some r else X f [] []
  | args, h => X f args h
def formsR : List AV × List AObj := ([AV.map 0], [AObj.mp 134 [(AV.int IntKind.u8 1, AV.func (some 138) []), (AV.int IntKind.u8 2, AV.func (some 139) []), (AV.int IntKind.u8 3, AV.func (some 141) []), (AV.int IntKind.u8 4, AV.func (some 142) []), (AV.int IntKind.u8 5, AV.func (some 143) []), (AV.int IntKind.u8 6, AV.func (some 144) []), (AV.int IntKind.u8 7, AV.func (some 146) []), (AV.int IntKind.u8 8, AV.func (some 147) []), (AV.int IntKind.u8 9, AV.func (some 148) [])]])
end Go.Ev.T
