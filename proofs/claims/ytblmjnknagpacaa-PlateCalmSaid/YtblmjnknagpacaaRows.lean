/-
  No cell of these rows narrows 'for every input' (looked for: loops, veiled, ifaces, maps, wideKeys, modest, calm, conditions, laid).
  DERIVED. THE GIVEN ROWS OF THIS SEAT. 3 by the template 'for every input the law returns true; each argument reads behind the call as it read before'; 0 by the template 'total and deterministic' (their statements: YtblmjnknagpacaaTotals.lean).
  GIVEN WITH THE SEED: the statements are not yours to turn. If you find one false, say at which input.
  Laid BY PROGRAM, IN A SANDBOX (cutbox-rows.mjs): the forced cells as the released guide's own fill.sh prints them over the translation e47571d909a620e9… (all of the seat's roots in one cut). By AI agents, Wed Nov 11 2026. No macro, syntax, notation, axiom, sorry.
-/
import Derived.Test.YtblmjnknagpacaaChecked
import GoSem.Claim
import GoSem.ClaimJoined
import GoSem.ClaimMapViews
import Derived.JoinedTies
import Derived.KernelRfl
namespace Go.Proofs.Ytblmjnknagpacaa
/- THE CELL 'sum', in the pinned program and in every row, IS THE sha256 OF THE DUMP (.gsa) THAT YtblmjnknagpacaaProg.lean LOADS. Nothing in Lean hashes anything: it is a label: what it is worth is what the hold of that sum in a sandbox is worth. -/
noncomputable def Try.pinned : Pinned := { name := "ytblmjnknagpacaa", sum := "e47571d909a620e9c1b72c63e64f1c428858a853a9cf186c00b2ee83f315ebf9", checked := Try.checked }
namespace Rows
def none {H : Type} : Left H := { results := [], args := [] }

/-- 'broadsheetlaw01.PlateMany': WHATEVER THE INPUT: true; the input reads as it did. -/
def plateManySpec : ChangeSpec := { name := "plateMany", fn := fun _ => fun
  | [d] => { results := [.lit (.bool true)], args := [d] }
  | _ => none }
def plateManyRow : OpenClaim := { program := "ytblmjnknagpacaa", sum := "e47571d909a620e9c1b72c63e64f1c428858a853a9cf186c00b2ee83f315ebf9", func := "broadsheet/broadsheetlaw01.PlateMany", spec := "plateMany", inPlace := ["maps.clone"], unfollowed := true, recurses := true, apart := false }
def PlateManySaid : Prop := plateManyRow.holds Try.pinned (OpenSpec.ofChange plateManySpec)

/-- ITS FALSE NEIGHBOUR: 'it returns false'. Refute it at one input. -/
def plateManyWrong : ChangeSpec := { name := "plateMany", fn := fun _ => fun
  | [d] => { results := [.lit (.bool false)], args := [d] }
  | _ => none }
def PlateManyWrongFalsely : Prop := plateManyRow.holds Try.pinned (OpenSpec.ofChange plateManyWrong)

/-- 'broadsheetlaw01.PlateKeeps': WHATEVER THE INPUT: true; the input reads as it did. -/
def plateKeepsSpec : ChangeSpec := { name := "plateKeeps", fn := fun _ => fun
  | [d1, d2, d3] => { results := [.lit (.bool true)], args := [d1, d2, d3] }
  | _ => none }
def plateKeepsRow : OpenClaim := { program := "ytblmjnknagpacaa", sum := "e47571d909a620e9c1b72c63e64f1c428858a853a9cf186c00b2ee83f315ebf9", func := "broadsheet/broadsheetlaw01.PlateKeeps", spec := "plateKeeps", inPlace := ["maps.clone"], unfollowed := true, recurses := true, apart := false }
def PlateKeepsSaid : Prop := plateKeepsRow.holds Try.pinned (OpenSpec.ofChange plateKeepsSpec)

/-- ITS FALSE NEIGHBOUR: 'it returns false'. Refute it at one input. -/
def plateKeepsWrong : ChangeSpec := { name := "plateKeeps", fn := fun _ => fun
  | [d1, d2, d3] => { results := [.lit (.bool false)], args := [d1, d2, d3] }
  | _ => none }
def PlateKeepsWrongFalsely : Prop := plateKeepsRow.holds Try.pinned (OpenSpec.ofChange plateKeepsWrong)

/-- 'broadsheetlaw01.PlateCalm': WHATEVER THE INPUT: true; the input reads as it did. -/
def plateCalmSpec : ChangeSpec := { name := "plateCalm", fn := fun _ => fun
  | [d1, d2, d3] => { results := [.lit (.bool true)], args := [d1, d2, d3] }
  | _ => none }
def plateCalmRow : OpenClaim := { program := "ytblmjnknagpacaa", sum := "e47571d909a620e9c1b72c63e64f1c428858a853a9cf186c00b2ee83f315ebf9", func := "broadsheet/broadsheetlaw01.PlateCalm", spec := "plateCalm", inPlace := ["maps.clone"], unfollowed := true, recurses := true, apart := false }
def PlateCalmSaid : Prop := plateCalmRow.holds Try.pinned (OpenSpec.ofChange plateCalmSpec)

/-- ITS FALSE NEIGHBOUR: 'it returns false'. Refute it at one input. -/
def plateCalmWrong : ChangeSpec := { name := "plateCalm", fn := fun _ => fun
  | [d1, d2, d3] => { results := [.lit (.bool false)], args := [d1, d2, d3] }
  | _ => none }
def PlateCalmWrongFalsely : Prop := plateCalmRow.holds Try.pinned (OpenSpec.ofChange plateCalmWrong)

/- THE SECOND FORM. 'bulk': how many values and letters a reading holds, each counted each time it is reached (what is shared counts as often as it is met; a slice's spare places count too). A statement '..UptoSaid' is the law's where the arguments, and the package variables that the reading takes, are together of bulk at most 1048576: NARROWER than '..Said'. Prove '..Said' where nothing that the law and all that it calls make is longer than what came in: it says more and counts as full. Else prove '..UptoSaid'. A law counts once. -/
mutual
def uptoBulk {H : Type} : DataW H → Nat
  | .lit (.string bytes) => bytes.length + 1
  | .lit _ => 1
  | .nil => 1
  | .ptr d => uptoBulk d + 1
  | .slice elems spare => uptoBulkAll elems + uptoBulkAll spare + 1
  | .agg parts => uptoBulkAll parts + 1
  | .iface _ d => uptoBulk d + 1
  | .map entries => uptoBulkEntries entries + 1
  | .held _ => 1
def uptoBulkAll {H : Type} : List (DataW H) → Nat
  | [] => 0
  | d :: r => uptoBulk d + uptoBulkAll r
def uptoBulkEntries {H : Type} : List (Lit × DataW H) → Nat
  | [] => 0
  | x :: r => uptoBulkEntry x + uptoBulkEntries r
def uptoBulkEntry {H : Type} : Lit × DataW H → Nat
  | (.string bytes, d) => bytes.length + uptoBulk d + 1
  | (_, d) => uptoBulk d + 1
 end
def uptoSmall : (H : Type) → List (DataW H) → Bool := fun _ ds => decide (uptoBulkAll ds ≤ 1048576)
def OpenSpec.upto (s : _root_.Go.ChangeSpec) : _root_.Go.OpenSpec := { _root_.Go.OpenSpec.ofChange s with cond := some uptoSmall }

/-- 'broadsheetlaw01.PlateMany', WHERE WHAT IT READS IS OF BULK AT MOST 1048576: true; the input reads as it did. -/
def plateManyUptoRow : OpenClaim := { program := "ytblmjnknagpacaa", sum := "e47571d909a620e9c1b72c63e64f1c428858a853a9cf186c00b2ee83f315ebf9", func := "broadsheet/broadsheetlaw01.PlateMany", spec := "plateMany", inPlace := ["maps.clone"], unfollowed := true, recurses := true, apart := false, narrowed := true }
def PlateManyUptoSaid : Prop := plateManyUptoRow.holds Try.pinned (OpenSpec.upto plateManySpec)

/-- 'broadsheetlaw01.PlateKeeps', WHERE WHAT IT READS IS OF BULK AT MOST 1048576: true; the input reads as it did. -/
def plateKeepsUptoRow : OpenClaim := { program := "ytblmjnknagpacaa", sum := "e47571d909a620e9c1b72c63e64f1c428858a853a9cf186c00b2ee83f315ebf9", func := "broadsheet/broadsheetlaw01.PlateKeeps", spec := "plateKeeps", inPlace := ["maps.clone"], unfollowed := true, recurses := true, apart := false, narrowed := true }
def PlateKeepsUptoSaid : Prop := plateKeepsUptoRow.holds Try.pinned (OpenSpec.upto plateKeepsSpec)

/-- 'broadsheetlaw01.PlateCalm', WHERE WHAT IT READS IS OF BULK AT MOST 1048576: true; the input reads as it did. -/
def plateCalmUptoRow : OpenClaim := { program := "ytblmjnknagpacaa", sum := "e47571d909a620e9c1b72c63e64f1c428858a853a9cf186c00b2ee83f315ebf9", func := "broadsheet/broadsheetlaw01.PlateCalm", spec := "plateCalm", inPlace := ["maps.clone"], unfollowed := true, recurses := true, apart := false, narrowed := true }
def PlateCalmUptoSaid : Prop := plateCalmUptoRow.holds Try.pinned (OpenSpec.upto plateCalmSpec)

end Rows
end Go.Proofs.Ytblmjnknagpacaa
