/-
  No cell of these rows narrows 'for every input' (looked for: loops, veiled, ifaces, maps, wideKeys, modest, calm, conditions, laid).
  DERIVED. THE GIVEN ROWS OF THIS SEAT. 13 by the template 'for every input the law returns true; each argument reads behind the call as it read before'; 0 by the template 'total and deterministic' (their statements: YtpadgcomncljmaaTotals.lean).
  GIVEN WITH THE SEED: the statements are not yours to turn. If you find one false, say at which input.
  Laid BY PROGRAM, IN A SANDBOX (cutbox-rows.mjs): the forced cells as the released guide's own fill.sh prints them over the translation f736b3dcfdd27b3c… (all of the seat's roots in one cut). By AI agents, Wed Nov 11 2026. No macro, syntax, notation, axiom, sorry.
-/
import Derived.Test.YtpadgcomncljmaaChecked
import GoSem.Claim
import GoSem.ClaimJoined
import GoSem.ClaimMapViews
import Derived.JoinedTies
import Derived.KernelRfl
namespace Go.Proofs.Ytpadgcomncljmaa
/- THE CELL 'sum', in the pinned program and in every row, IS THE sha256 OF THE DUMP (.gsa) THAT YtpadgcomncljmaaProg.lean LOADS. Nothing in Lean hashes anything: it is a label: what it is worth is what the hold of that sum in a sandbox is worth. -/
noncomputable def Try.pinned : Pinned := { name := "ytpadgcomncljmaa", sum := "f736b3dcfdd27b3cad3b5cda4b3a20668331d15a94890416533c893243249864", checked := Try.checked }
namespace Rows
def none {H : Type} : Left H := { results := [], args := [] }

/-- 'hairpinlaw09.AppealSplits': WHATEVER THE INPUT: true; the input reads as it did. -/
def appealSplitsSpec : ChangeSpec := { name := "appealSplits", fn := fun _ => fun
  | [d1, d2] => { results := [.lit (.bool true)], args := [d1, d2] }
  | _ => none }
def appealSplitsRow : OpenClaim := { program := "ytpadgcomncljmaa", sum := "f736b3dcfdd27b3cad3b5cda4b3a20668331d15a94890416533c893243249864", func := "hairpin/hairpinlaw09.AppealSplits", spec := "appealSplits", unfollowed := true, recurses := true, apart := false }
def AppealSplitsSaid : Prop := appealSplitsRow.holds Try.pinned (OpenSpec.ofChange appealSplitsSpec)

/-- ITS FALSE NEIGHBOUR: 'it returns false'. Refute it at one input. -/
def appealSplitsWrong : ChangeSpec := { name := "appealSplits", fn := fun _ => fun
  | [d1, d2] => { results := [.lit (.bool false)], args := [d1, d2] }
  | _ => none }
def AppealSplitsWrongFalsely : Prop := appealSplitsRow.holds Try.pinned (OpenSpec.ofChange appealSplitsWrong)

/-- 'hairpinlaw09.AppealActs': WHATEVER THE INPUT: true; the input reads as it did. -/
def appealActsSpec : ChangeSpec := { name := "appealActs", fn := fun _ => fun
  | [d1, d2] => { results := [.lit (.bool true)], args := [d1, d2] }
  | _ => none }
def appealActsRow : OpenClaim := { program := "ytpadgcomncljmaa", sum := "f736b3dcfdd27b3cad3b5cda4b3a20668331d15a94890416533c893243249864", func := "hairpin/hairpinlaw09.AppealActs", spec := "appealActs", unfollowed := true, recurses := true, apart := false }
def AppealActsSaid : Prop := appealActsRow.holds Try.pinned (OpenSpec.ofChange appealActsSpec)

/-- ITS FALSE NEIGHBOUR: 'it returns false'. Refute it at one input. -/
def appealActsWrong : ChangeSpec := { name := "appealActs", fn := fun _ => fun
  | [d1, d2] => { results := [.lit (.bool false)], args := [d1, d2] }
  | _ => none }
def AppealActsWrongFalsely : Prop := appealActsRow.holds Try.pinned (OpenSpec.ofChange appealActsWrong)

/-- 'hairpinlaw09.AppealStates': WHATEVER THE INPUT: true; the input reads as it did. -/
def appealStatesSpec : ChangeSpec := { name := "appealStates", fn := fun _ => fun
  | [d1, d2, d3, d4, d5] => { results := [.lit (.bool true)], args := [d1, d2, d3, d4, d5] }
  | _ => none }
def appealStatesRow : OpenClaim := { program := "ytpadgcomncljmaa", sum := "f736b3dcfdd27b3cad3b5cda4b3a20668331d15a94890416533c893243249864", func := "hairpin/hairpinlaw09.AppealStates", spec := "appealStates", unfollowed := true, recurses := true, apart := false }
def AppealStatesSaid : Prop := appealStatesRow.holds Try.pinned (OpenSpec.ofChange appealStatesSpec)

/-- ITS FALSE NEIGHBOUR: 'it returns false'. Refute it at one input. -/
def appealStatesWrong : ChangeSpec := { name := "appealStates", fn := fun _ => fun
  | [d1, d2, d3, d4, d5] => { results := [.lit (.bool false)], args := [d1, d2, d3, d4, d5] }
  | _ => none }
def AppealStatesWrongFalsely : Prop := appealStatesRow.holds Try.pinned (OpenSpec.ofChange appealStatesWrong)

/-- 'hairpinlaw09.AppealSettles': WHATEVER THE INPUT: true; the input reads as it did. -/
def appealSettlesSpec : ChangeSpec := { name := "appealSettles", fn := fun _ => fun
  | [d1, d2] => { results := [.lit (.bool true)], args := [d1, d2] }
  | _ => none }
def appealSettlesRow : OpenClaim := { program := "ytpadgcomncljmaa", sum := "f736b3dcfdd27b3cad3b5cda4b3a20668331d15a94890416533c893243249864", func := "hairpin/hairpinlaw09.AppealSettles", spec := "appealSettles", unfollowed := true, recurses := true, apart := false }
def AppealSettlesSaid : Prop := appealSettlesRow.holds Try.pinned (OpenSpec.ofChange appealSettlesSpec)

/-- ITS FALSE NEIGHBOUR: 'it returns false'. Refute it at one input. -/
def appealSettlesWrong : ChangeSpec := { name := "appealSettles", fn := fun _ => fun
  | [d1, d2] => { results := [.lit (.bool false)], args := [d1, d2] }
  | _ => none }
def AppealSettlesWrongFalsely : Prop := appealSettlesRow.holds Try.pinned (OpenSpec.ofChange appealSettlesWrong)

/-- 'hairpinlaw09.AppealCodes': WHATEVER THE INPUT: true; the input reads as it did. -/
def appealCodesSpec : ChangeSpec := { name := "appealCodes", fn := fun _ => fun
  | [d1, d2, d3] => { results := [.lit (.bool true)], args := [d1, d2, d3] }
  | _ => none }
def appealCodesRow : OpenClaim := { program := "ytpadgcomncljmaa", sum := "f736b3dcfdd27b3cad3b5cda4b3a20668331d15a94890416533c893243249864", func := "hairpin/hairpinlaw09.AppealCodes", spec := "appealCodes", unfollowed := true, recurses := true, apart := false }
def AppealCodesSaid : Prop := appealCodesRow.holds Try.pinned (OpenSpec.ofChange appealCodesSpec)

/-- ITS FALSE NEIGHBOUR: 'it returns false'. Refute it at one input. -/
def appealCodesWrong : ChangeSpec := { name := "appealCodes", fn := fun _ => fun
  | [d1, d2, d3] => { results := [.lit (.bool false)], args := [d1, d2, d3] }
  | _ => none }
def AppealCodesWrongFalsely : Prop := appealCodesRow.holds Try.pinned (OpenSpec.ofChange appealCodesWrong)

/-- 'hairpinlaw09.AppealReplays': WHATEVER THE INPUT: true; the input reads as it did. -/
def appealReplaysSpec : ChangeSpec := { name := "appealReplays", fn := fun _ => fun
  | [d1, d2, d3, d4] => { results := [.lit (.bool true)], args := [d1, d2, d3, d4] }
  | _ => none }
def appealReplaysRow : OpenClaim := { program := "ytpadgcomncljmaa", sum := "f736b3dcfdd27b3cad3b5cda4b3a20668331d15a94890416533c893243249864", func := "hairpin/hairpinlaw09.AppealReplays", spec := "appealReplays", unfollowed := true, recurses := true, apart := false }
def AppealReplaysSaid : Prop := appealReplaysRow.holds Try.pinned (OpenSpec.ofChange appealReplaysSpec)

/-- ITS FALSE NEIGHBOUR: 'it returns false'. Refute it at one input. -/
def appealReplaysWrong : ChangeSpec := { name := "appealReplays", fn := fun _ => fun
  | [d1, d2, d3, d4] => { results := [.lit (.bool false)], args := [d1, d2, d3, d4] }
  | _ => none }
def AppealReplaysWrongFalsely : Prop := appealReplaysRow.holds Try.pinned (OpenSpec.ofChange appealReplaysWrong)

/-- 'hairpinlaw09.AppealMany': WHATEVER THE INPUT: true; the input reads as it did. -/
def appealManySpec : ChangeSpec := { name := "appealMany", fn := fun _ => fun
  | [d] => { results := [.lit (.bool true)], args := [d] }
  | _ => none }
def appealManyRow : OpenClaim := { program := "ytpadgcomncljmaa", sum := "f736b3dcfdd27b3cad3b5cda4b3a20668331d15a94890416533c893243249864", func := "hairpin/hairpinlaw09.AppealMany", spec := "appealMany", unfollowed := true, recurses := true, apart := false }
def AppealManySaid : Prop := appealManyRow.holds Try.pinned (OpenSpec.ofChange appealManySpec)

/-- ITS FALSE NEIGHBOUR: 'it returns false'. Refute it at one input. -/
def appealManyWrong : ChangeSpec := { name := "appealMany", fn := fun _ => fun
  | [d] => { results := [.lit (.bool false)], args := [d] }
  | _ => none }
def AppealManyWrongFalsely : Prop := appealManyRow.holds Try.pinned (OpenSpec.ofChange appealManyWrong)

/-- 'hairpinlaw09.AppealFees': WHATEVER THE INPUT: true; the input reads as it did. -/
def appealFeesSpec : ChangeSpec := { name := "appealFees", fn := fun _ => fun
  | [d1, d2, d3, d4] => { results := [.lit (.bool true)], args := [d1, d2, d3, d4] }
  | _ => none }
def appealFeesRow : OpenClaim := { program := "ytpadgcomncljmaa", sum := "f736b3dcfdd27b3cad3b5cda4b3a20668331d15a94890416533c893243249864", func := "hairpin/hairpinlaw09.AppealFees", spec := "appealFees", unfollowed := true, recurses := true, apart := false }
def AppealFeesSaid : Prop := appealFeesRow.holds Try.pinned (OpenSpec.ofChange appealFeesSpec)

/-- ITS FALSE NEIGHBOUR: 'it returns false'. Refute it at one input. -/
def appealFeesWrong : ChangeSpec := { name := "appealFees", fn := fun _ => fun
  | [d1, d2, d3, d4] => { results := [.lit (.bool false)], args := [d1, d2, d3, d4] }
  | _ => none }
def AppealFeesWrongFalsely : Prop := appealFeesRow.holds Try.pinned (OpenSpec.ofChange appealFeesWrong)

/-- 'hairpinlaw09.AppealClashes': WHATEVER THE INPUT: true; the input reads as it did. -/
def appealClashesSpec : ChangeSpec := { name := "appealClashes", fn := fun _ => fun
  | [d1, d2, d3] => { results := [.lit (.bool true)], args := [d1, d2, d3] }
  | _ => none }
def appealClashesRow : OpenClaim := { program := "ytpadgcomncljmaa", sum := "f736b3dcfdd27b3cad3b5cda4b3a20668331d15a94890416533c893243249864", func := "hairpin/hairpinlaw09.AppealClashes", spec := "appealClashes", unfollowed := true, recurses := true, apart := false }
def AppealClashesSaid : Prop := appealClashesRow.holds Try.pinned (OpenSpec.ofChange appealClashesSpec)

/-- ITS FALSE NEIGHBOUR: 'it returns false'. Refute it at one input. -/
def appealClashesWrong : ChangeSpec := { name := "appealClashes", fn := fun _ => fun
  | [d1, d2, d3] => { results := [.lit (.bool false)], args := [d1, d2, d3] }
  | _ => none }
def AppealClashesWrongFalsely : Prop := appealClashesRow.holds Try.pinned (OpenSpec.ofChange appealClashesWrong)

/-- 'hairpinlaw09.AppealPast': WHATEVER THE INPUT: true; the input reads as it did. -/
def appealPastSpec : ChangeSpec := { name := "appealPast", fn := fun _ => fun
  | [d1, d2, d3, d4, d5] => { results := [.lit (.bool true)], args := [d1, d2, d3, d4, d5] }
  | _ => none }
def appealPastRow : OpenClaim := { program := "ytpadgcomncljmaa", sum := "f736b3dcfdd27b3cad3b5cda4b3a20668331d15a94890416533c893243249864", func := "hairpin/hairpinlaw09.AppealPast", spec := "appealPast", unfollowed := true, recurses := true, apart := false }
def AppealPastSaid : Prop := appealPastRow.holds Try.pinned (OpenSpec.ofChange appealPastSpec)

/-- ITS FALSE NEIGHBOUR: 'it returns false'. Refute it at one input. -/
def appealPastWrong : ChangeSpec := { name := "appealPast", fn := fun _ => fun
  | [d1, d2, d3, d4, d5] => { results := [.lit (.bool false)], args := [d1, d2, d3, d4, d5] }
  | _ => none }
def AppealPastWrongFalsely : Prop := appealPastRow.holds Try.pinned (OpenSpec.ofChange appealPastWrong)

/-- 'hairpinlaw09.AppealGrounds': WHATEVER THE INPUT: true; the input reads as it did. -/
def appealGroundsSpec : ChangeSpec := { name := "appealGrounds", fn := fun _ => fun
  | [d1, d2, d3, d4] => { results := [.lit (.bool true)], args := [d1, d2, d3, d4] }
  | _ => none }
def appealGroundsRow : OpenClaim := { program := "ytpadgcomncljmaa", sum := "f736b3dcfdd27b3cad3b5cda4b3a20668331d15a94890416533c893243249864", func := "hairpin/hairpinlaw09.AppealGrounds", spec := "appealGrounds", unfollowed := true, recurses := true, apart := false }
def AppealGroundsSaid : Prop := appealGroundsRow.holds Try.pinned (OpenSpec.ofChange appealGroundsSpec)

/-- ITS FALSE NEIGHBOUR: 'it returns false'. Refute it at one input. -/
def appealGroundsWrong : ChangeSpec := { name := "appealGrounds", fn := fun _ => fun
  | [d1, d2, d3, d4] => { results := [.lit (.bool false)], args := [d1, d2, d3, d4] }
  | _ => none }
def AppealGroundsWrongFalsely : Prop := appealGroundsRow.holds Try.pinned (OpenSpec.ofChange appealGroundsWrong)

/-- 'hairpinlaw09.AppealRests': WHATEVER THE INPUT: true; the input reads as it did. -/
def appealRestsSpec : ChangeSpec := { name := "appealRests", fn := fun _ => fun
  | [d1, d2, d3, d4] => { results := [.lit (.bool true)], args := [d1, d2, d3, d4] }
  | _ => none }
def appealRestsRow : OpenClaim := { program := "ytpadgcomncljmaa", sum := "f736b3dcfdd27b3cad3b5cda4b3a20668331d15a94890416533c893243249864", func := "hairpin/hairpinlaw09.AppealRests", spec := "appealRests", unfollowed := true, recurses := true, apart := false }
def AppealRestsSaid : Prop := appealRestsRow.holds Try.pinned (OpenSpec.ofChange appealRestsSpec)

/-- ITS FALSE NEIGHBOUR: 'it returns false'. Refute it at one input. -/
def appealRestsWrong : ChangeSpec := { name := "appealRests", fn := fun _ => fun
  | [d1, d2, d3, d4] => { results := [.lit (.bool false)], args := [d1, d2, d3, d4] }
  | _ => none }
def AppealRestsWrongFalsely : Prop := appealRestsRow.holds Try.pinned (OpenSpec.ofChange appealRestsWrong)

/-- 'hairpinlaw09.AppealNil': WHATEVER THE INPUT: true; the input reads as it did. -/
def appealNilSpec : ChangeSpec := { name := "appealNil", fn := fun _ => fun
  | [d1, d2, d3] => { results := [.lit (.bool true)], args := [d1, d2, d3] }
  | _ => none }
def appealNilRow : OpenClaim := { program := "ytpadgcomncljmaa", sum := "f736b3dcfdd27b3cad3b5cda4b3a20668331d15a94890416533c893243249864", func := "hairpin/hairpinlaw09.AppealNil", spec := "appealNil", unfollowed := true, recurses := true, apart := false }
def AppealNilSaid : Prop := appealNilRow.holds Try.pinned (OpenSpec.ofChange appealNilSpec)

/-- ITS FALSE NEIGHBOUR: 'it returns false'. Refute it at one input. -/
def appealNilWrong : ChangeSpec := { name := "appealNil", fn := fun _ => fun
  | [d1, d2, d3] => { results := [.lit (.bool false)], args := [d1, d2, d3] }
  | _ => none }
def AppealNilWrongFalsely : Prop := appealNilRow.holds Try.pinned (OpenSpec.ofChange appealNilWrong)

/- THE SECOND FORM. 'bulk': how many values and letters a reading holds, each counted each time it is reached (what is shared counts as often as it is met; a slice's spare places count too). A statement '..UptoSaid' is the law's where the arguments, and the package variables that the reading takes, are together of bulk at most 1048576: NARROWER than '..Said'. Prove '..Said' where nothing that the law and all that it calls make is longer than what came in: it says more and counts as full. Else prove '..UptoSaid'. A law counts once. -/
mutual
def uptoBulk {H : Type} : DataW H → Nat
  | .lit (.string bytes) => bytes.length + 1
  | .lit _ => 1
  | .nil => 1
  | .ptr d => uptoBulk d + 1
  | .slice elems spare => uptoBulkAll elems + uptoBulkAll spare + 1
  | .agg parts => uptoBulkAll parts + 1
  | .iface _ d => uptoBulk d + 1
  | .map entries => uptoBulkEntries entries + 1
  | .held _ => 1
def uptoBulkAll {H : Type} : List (DataW H) → Nat
  | [] => 0
  | d :: r => uptoBulk d + uptoBulkAll r
def uptoBulkEntries {H : Type} : List (Lit × DataW H) → Nat
  | [] => 0
  | x :: r => uptoBulkEntry x + uptoBulkEntries r
def uptoBulkEntry {H : Type} : Lit × DataW H → Nat
  | (.string bytes, d) => bytes.length + uptoBulk d + 1
  | (_, d) => uptoBulk d + 1
 end
def uptoSmall : (H : Type) → List (DataW H) → Bool := fun _ ds => decide (uptoBulkAll ds ≤ 1048576)
def OpenSpec.upto (s : _root_.Go.ChangeSpec) : _root_.Go.OpenSpec := { _root_.Go.OpenSpec.ofChange s with cond := some uptoSmall }

/-- 'hairpinlaw09.AppealSplits', WHERE WHAT IT READS IS OF BULK AT MOST 1048576: true; the input reads as it did. -/
def appealSplitsUptoRow : OpenClaim := { program := "ytpadgcomncljmaa", sum := "f736b3dcfdd27b3cad3b5cda4b3a20668331d15a94890416533c893243249864", func := "hairpin/hairpinlaw09.AppealSplits", spec := "appealSplits", unfollowed := true, recurses := true, apart := false, narrowed := true }
def AppealSplitsUptoSaid : Prop := appealSplitsUptoRow.holds Try.pinned (OpenSpec.upto appealSplitsSpec)

/-- 'hairpinlaw09.AppealActs', WHERE WHAT IT READS IS OF BULK AT MOST 1048576: true; the input reads as it did. -/
def appealActsUptoRow : OpenClaim := { program := "ytpadgcomncljmaa", sum := "f736b3dcfdd27b3cad3b5cda4b3a20668331d15a94890416533c893243249864", func := "hairpin/hairpinlaw09.AppealActs", spec := "appealActs", unfollowed := true, recurses := true, apart := false, narrowed := true }
def AppealActsUptoSaid : Prop := appealActsUptoRow.holds Try.pinned (OpenSpec.upto appealActsSpec)

/-- 'hairpinlaw09.AppealStates', WHERE WHAT IT READS IS OF BULK AT MOST 1048576: true; the input reads as it did. -/
def appealStatesUptoRow : OpenClaim := { program := "ytpadgcomncljmaa", sum := "f736b3dcfdd27b3cad3b5cda4b3a20668331d15a94890416533c893243249864", func := "hairpin/hairpinlaw09.AppealStates", spec := "appealStates", unfollowed := true, recurses := true, apart := false, narrowed := true }
def AppealStatesUptoSaid : Prop := appealStatesUptoRow.holds Try.pinned (OpenSpec.upto appealStatesSpec)

/-- 'hairpinlaw09.AppealSettles', WHERE WHAT IT READS IS OF BULK AT MOST 1048576: true; the input reads as it did. -/
def appealSettlesUptoRow : OpenClaim := { program := "ytpadgcomncljmaa", sum := "f736b3dcfdd27b3cad3b5cda4b3a20668331d15a94890416533c893243249864", func := "hairpin/hairpinlaw09.AppealSettles", spec := "appealSettles", unfollowed := true, recurses := true, apart := false, narrowed := true }
def AppealSettlesUptoSaid : Prop := appealSettlesUptoRow.holds Try.pinned (OpenSpec.upto appealSettlesSpec)

/-- 'hairpinlaw09.AppealCodes', WHERE WHAT IT READS IS OF BULK AT MOST 1048576: true; the input reads as it did. -/
def appealCodesUptoRow : OpenClaim := { program := "ytpadgcomncljmaa", sum := "f736b3dcfdd27b3cad3b5cda4b3a20668331d15a94890416533c893243249864", func := "hairpin/hairpinlaw09.AppealCodes", spec := "appealCodes", unfollowed := true, recurses := true, apart := false, narrowed := true }
def AppealCodesUptoSaid : Prop := appealCodesUptoRow.holds Try.pinned (OpenSpec.upto appealCodesSpec)

/-- 'hairpinlaw09.AppealReplays', WHERE WHAT IT READS IS OF BULK AT MOST 1048576: true; the input reads as it did. -/
def appealReplaysUptoRow : OpenClaim := { program := "ytpadgcomncljmaa", sum := "f736b3dcfdd27b3cad3b5cda4b3a20668331d15a94890416533c893243249864", func := "hairpin/hairpinlaw09.AppealReplays", spec := "appealReplays", unfollowed := true, recurses := true, apart := false, narrowed := true }
def AppealReplaysUptoSaid : Prop := appealReplaysUptoRow.holds Try.pinned (OpenSpec.upto appealReplaysSpec)

/-- 'hairpinlaw09.AppealMany', WHERE WHAT IT READS IS OF BULK AT MOST 1048576: true; the input reads as it did. -/
def appealManyUptoRow : OpenClaim := { program := "ytpadgcomncljmaa", sum := "f736b3dcfdd27b3cad3b5cda4b3a20668331d15a94890416533c893243249864", func := "hairpin/hairpinlaw09.AppealMany", spec := "appealMany", unfollowed := true, recurses := true, apart := false, narrowed := true }
def AppealManyUptoSaid : Prop := appealManyUptoRow.holds Try.pinned (OpenSpec.upto appealManySpec)

/-- 'hairpinlaw09.AppealFees', WHERE WHAT IT READS IS OF BULK AT MOST 1048576: true; the input reads as it did. -/
def appealFeesUptoRow : OpenClaim := { program := "ytpadgcomncljmaa", sum := "f736b3dcfdd27b3cad3b5cda4b3a20668331d15a94890416533c893243249864", func := "hairpin/hairpinlaw09.AppealFees", spec := "appealFees", unfollowed := true, recurses := true, apart := false, narrowed := true }
def AppealFeesUptoSaid : Prop := appealFeesUptoRow.holds Try.pinned (OpenSpec.upto appealFeesSpec)

/-- 'hairpinlaw09.AppealClashes', WHERE WHAT IT READS IS OF BULK AT MOST 1048576: true; the input reads as it did. -/
def appealClashesUptoRow : OpenClaim := { program := "ytpadgcomncljmaa", sum := "f736b3dcfdd27b3cad3b5cda4b3a20668331d15a94890416533c893243249864", func := "hairpin/hairpinlaw09.AppealClashes", spec := "appealClashes", unfollowed := true, recurses := true, apart := false, narrowed := true }
def AppealClashesUptoSaid : Prop := appealClashesUptoRow.holds Try.pinned (OpenSpec.upto appealClashesSpec)

/-- 'hairpinlaw09.AppealPast', WHERE WHAT IT READS IS OF BULK AT MOST 1048576: true; the input reads as it did. -/
def appealPastUptoRow : OpenClaim := { program := "ytpadgcomncljmaa", sum := "f736b3dcfdd27b3cad3b5cda4b3a20668331d15a94890416533c893243249864", func := "hairpin/hairpinlaw09.AppealPast", spec := "appealPast", unfollowed := true, recurses := true, apart := false, narrowed := true }
def AppealPastUptoSaid : Prop := appealPastUptoRow.holds Try.pinned (OpenSpec.upto appealPastSpec)

/-- 'hairpinlaw09.AppealGrounds', WHERE WHAT IT READS IS OF BULK AT MOST 1048576: true; the input reads as it did. -/
def appealGroundsUptoRow : OpenClaim := { program := "ytpadgcomncljmaa", sum := "f736b3dcfdd27b3cad3b5cda4b3a20668331d15a94890416533c893243249864", func := "hairpin/hairpinlaw09.AppealGrounds", spec := "appealGrounds", unfollowed := true, recurses := true, apart := false, narrowed := true }
def AppealGroundsUptoSaid : Prop := appealGroundsUptoRow.holds Try.pinned (OpenSpec.upto appealGroundsSpec)

/-- 'hairpinlaw09.AppealRests', WHERE WHAT IT READS IS OF BULK AT MOST 1048576: true; the input reads as it did. -/
def appealRestsUptoRow : OpenClaim := { program := "ytpadgcomncljmaa", sum := "f736b3dcfdd27b3cad3b5cda4b3a20668331d15a94890416533c893243249864", func := "hairpin/hairpinlaw09.AppealRests", spec := "appealRests", unfollowed := true, recurses := true, apart := false, narrowed := true }
def AppealRestsUptoSaid : Prop := appealRestsUptoRow.holds Try.pinned (OpenSpec.upto appealRestsSpec)

/-- 'hairpinlaw09.AppealNil', WHERE WHAT IT READS IS OF BULK AT MOST 1048576: true; the input reads as it did. -/
def appealNilUptoRow : OpenClaim := { program := "ytpadgcomncljmaa", sum := "f736b3dcfdd27b3cad3b5cda4b3a20668331d15a94890416533c893243249864", func := "hairpin/hairpinlaw09.AppealNil", spec := "appealNil", unfollowed := true, recurses := true, apart := false, narrowed := true }
def AppealNilUptoSaid : Prop := appealNilUptoRow.holds Try.pinned (OpenSpec.upto appealNilSpec)

end Rows
end Go.Proofs.Ytpadgcomncljmaa
