/-
  No cell of these rows narrows 'for every input' (looked for: loops, veiled, ifaces, maps, wideKeys, modest, calm, conditions, laid).
  DERIVED. THE GIVEN ROWS OF THIS SEAT. 13 by the template 'for every input the law returns true; each argument reads behind the call as it read before'; 0 by the template 'total and deterministic' (their statements: YtenbhladboofeaaTotals.lean).
  GIVEN WITH THE SEED: the statements are not yours to turn. If you find one false, say at which input.
  Laid BY PROGRAM, IN A SANDBOX (cutbox-rows.mjs): the forced cells as the released guide's own fill.sh prints them over the translation a4d22ba459085616… (all of the seat's roots in one cut). By AI agents, Wed Nov 11 2026. No macro, syntax, notation, axiom, sorry.
-/
import Derived.Test.YtenbhladboofeaaChecked
import GoSem.Claim
import GoSem.ClaimJoined
import GoSem.ClaimMapViews
import Derived.JoinedTies
import Derived.KernelRfl
namespace Go.Proofs.Ytenbhladboofeaa
/- THE CELL 'sum', in the pinned program and in every row, IS THE sha256 OF THE DUMP (.gsa) THAT YtenbhladboofeaaProg.lean LOADS. Nothing in Lean hashes anything: it is a label: what it is worth is what the hold of that sum in a sandbox is worth. -/
noncomputable def Try.pinned : Pinned := { name := "ytenbhladboofeaa", sum := "a4d22ba459085616f0ce1c704dcb09d6f2f4ee74ca17f29b9e3907460ec158fd", checked := Try.checked }
namespace Rows
def none {H : Type} : Left H := { results := [], args := [] }

/-- 'bastionlaw2.Books': WHATEVER THE INPUT: true; the input reads as it did. -/
def booksSpec : ChangeSpec := { name := "books", fn := fun _ => fun
  | [d1, d2, d3] => { results := [.lit (.bool true)], args := [d1, d2, d3] }
  | _ => none }
def booksRow : OpenClaim := { program := "ytenbhladboofeaa", sum := "a4d22ba459085616f0ce1c704dcb09d6f2f4ee74ca17f29b9e3907460ec158fd", func := "bastion/bastionlaw2.Books", spec := "books", apart := false }
def BooksSaid : Prop := booksRow.holds Try.pinned (OpenSpec.ofChange booksSpec)

/-- ITS FALSE NEIGHBOUR: 'it returns false'. Refute it at one input. -/
def booksWrong : ChangeSpec := { name := "books", fn := fun _ => fun
  | [d1, d2, d3] => { results := [.lit (.bool false)], args := [d1, d2, d3] }
  | _ => none }
def BooksWrongFalsely : Prop := booksRow.holds Try.pinned (OpenSpec.ofChange booksWrong)

/-- 'bastionlaw2.BookOnce': WHATEVER THE INPUT: true; the input reads as it did. -/
def bookOnceSpec : ChangeSpec := { name := "bookOnce", fn := fun _ => fun
  | [d] => { results := [.lit (.bool true)], args := [d] }
  | _ => none }
def bookOnceRow : OpenClaim := { program := "ytenbhladboofeaa", sum := "a4d22ba459085616f0ce1c704dcb09d6f2f4ee74ca17f29b9e3907460ec158fd", func := "bastion/bastionlaw2.BookOnce", spec := "bookOnce", apart := false }
def BookOnceSaid : Prop := bookOnceRow.holds Try.pinned (OpenSpec.ofChange bookOnceSpec)

/-- ITS FALSE NEIGHBOUR: 'it returns false'. Refute it at one input. -/
def bookOnceWrong : ChangeSpec := { name := "bookOnce", fn := fun _ => fun
  | [d] => { results := [.lit (.bool false)], args := [d] }
  | _ => none }
def BookOnceWrongFalsely : Prop := bookOnceRow.holds Try.pinned (OpenSpec.ofChange bookOnceWrong)

/-- 'bastionlaw2.BookForms': WHATEVER THE INPUT: true; the input reads as it did. -/
def bookFormsSpec : ChangeSpec := { name := "bookForms", fn := fun _ => fun
  | [d1, d2] => { results := [.lit (.bool true)], args := [d1, d2] }
  | _ => none }
def bookFormsRow : OpenClaim := { program := "ytenbhladboofeaa", sum := "a4d22ba459085616f0ce1c704dcb09d6f2f4ee74ca17f29b9e3907460ec158fd", func := "bastion/bastionlaw2.BookForms", spec := "bookForms", apart := false }
def BookFormsSaid : Prop := bookFormsRow.holds Try.pinned (OpenSpec.ofChange bookFormsSpec)

/-- ITS FALSE NEIGHBOUR: 'it returns false'. Refute it at one input. -/
def bookFormsWrong : ChangeSpec := { name := "bookForms", fn := fun _ => fun
  | [d1, d2] => { results := [.lit (.bool false)], args := [d1, d2] }
  | _ => none }
def BookFormsWrongFalsely : Prop := bookFormsRow.holds Try.pinned (OpenSpec.ofChange bookFormsWrong)

/-- 'bastionlaw2.BookRows': WHATEVER THE INPUT: true; the input reads as it did. -/
def bookRowsSpec : ChangeSpec := { name := "bookRows", fn := fun _ => fun
  | [d] => { results := [.lit (.bool true)], args := [d] }
  | _ => none }
def bookRowsRow : OpenClaim := { program := "ytenbhladboofeaa", sum := "a4d22ba459085616f0ce1c704dcb09d6f2f4ee74ca17f29b9e3907460ec158fd", func := "bastion/bastionlaw2.BookRows", spec := "bookRows", apart := false }
def BookRowsSaid : Prop := bookRowsRow.holds Try.pinned (OpenSpec.ofChange bookRowsSpec)

/-- ITS FALSE NEIGHBOUR: 'it returns false'. Refute it at one input. -/
def bookRowsWrong : ChangeSpec := { name := "bookRows", fn := fun _ => fun
  | [d] => { results := [.lit (.bool false)], args := [d] }
  | _ => none }
def BookRowsWrongFalsely : Prop := bookRowsRow.holds Try.pinned (OpenSpec.ofChange bookRowsWrong)

/-- 'bastionlaw18.Halves': WHATEVER THE INPUT: true; the input reads as it did. -/
def halvesSpec : ChangeSpec := { name := "halves", fn := fun _ => fun
  | [d1, d2, d3, d4, d5] => { results := [.lit (.bool true)], args := [d1, d2, d3, d4, d5] }
  | _ => none }
def halvesRow : OpenClaim := { program := "ytenbhladboofeaa", sum := "a4d22ba459085616f0ce1c704dcb09d6f2f4ee74ca17f29b9e3907460ec158fd", func := "bastion/bastionlaw18.Halves", spec := "halves", unfollowed := true, recurses := true, apart := false }
def HalvesSaid : Prop := halvesRow.holds Try.pinned (OpenSpec.ofChange halvesSpec)

/-- ITS FALSE NEIGHBOUR: 'it returns false'. Refute it at one input. -/
def halvesWrong : ChangeSpec := { name := "halves", fn := fun _ => fun
  | [d1, d2, d3, d4, d5] => { results := [.lit (.bool false)], args := [d1, d2, d3, d4, d5] }
  | _ => none }
def HalvesWrongFalsely : Prop := halvesRow.holds Try.pinned (OpenSpec.ofChange halvesWrong)

/-- 'bastionlaw18.HalfWalks': WHATEVER THE INPUT: true; the input reads as it did. -/
def halfWalksSpec : ChangeSpec := { name := "halfWalks", fn := fun _ => fun
  | [d1, d2] => { results := [.lit (.bool true)], args := [d1, d2] }
  | _ => none }
def halfWalksRow : OpenClaim := { program := "ytenbhladboofeaa", sum := "a4d22ba459085616f0ce1c704dcb09d6f2f4ee74ca17f29b9e3907460ec158fd", func := "bastion/bastionlaw18.HalfWalks", spec := "halfWalks", unfollowed := true, recurses := true, apart := false }
def HalfWalksSaid : Prop := halfWalksRow.holds Try.pinned (OpenSpec.ofChange halfWalksSpec)

/-- ITS FALSE NEIGHBOUR: 'it returns false'. Refute it at one input. -/
def halfWalksWrong : ChangeSpec := { name := "halfWalks", fn := fun _ => fun
  | [d1, d2] => { results := [.lit (.bool false)], args := [d1, d2] }
  | _ => none }
def HalfWalksWrongFalsely : Prop := halfWalksRow.holds Try.pinned (OpenSpec.ofChange halfWalksWrong)

/-- 'bastionlaw18.HalfForms': WHATEVER THE INPUT: true; the input reads as it did. -/
def halfFormsSpec : ChangeSpec := { name := "halfForms", fn := fun _ => fun
  | [d1, d2] => { results := [.lit (.bool true)], args := [d1, d2] }
  | _ => none }
def halfFormsRow : OpenClaim := { program := "ytenbhladboofeaa", sum := "a4d22ba459085616f0ce1c704dcb09d6f2f4ee74ca17f29b9e3907460ec158fd", func := "bastion/bastionlaw18.HalfForms", spec := "halfForms", unfollowed := true, recurses := true, apart := false }
def HalfFormsSaid : Prop := halfFormsRow.holds Try.pinned (OpenSpec.ofChange halfFormsSpec)

/-- ITS FALSE NEIGHBOUR: 'it returns false'. Refute it at one input. -/
def halfFormsWrong : ChangeSpec := { name := "halfForms", fn := fun _ => fun
  | [d1, d2] => { results := [.lit (.bool false)], args := [d1, d2] }
  | _ => none }
def HalfFormsWrongFalsely : Prop := halfFormsRow.holds Try.pinned (OpenSpec.ofChange halfFormsWrong)

/-- 'bastionlaw18.HalfRows': WHATEVER THE INPUT: true; the input reads as it did. -/
def halfRowsSpec : ChangeSpec := { name := "halfRows", fn := fun _ => fun
  | [d] => { results := [.lit (.bool true)], args := [d] }
  | _ => none }
def halfRowsRow : OpenClaim := { program := "ytenbhladboofeaa", sum := "a4d22ba459085616f0ce1c704dcb09d6f2f4ee74ca17f29b9e3907460ec158fd", func := "bastion/bastionlaw18.HalfRows", spec := "halfRows", unfollowed := true, recurses := true, apart := false }
def HalfRowsSaid : Prop := halfRowsRow.holds Try.pinned (OpenSpec.ofChange halfRowsSpec)

/-- ITS FALSE NEIGHBOUR: 'it returns false'. Refute it at one input. -/
def halfRowsWrong : ChangeSpec := { name := "halfRows", fn := fun _ => fun
  | [d] => { results := [.lit (.bool false)], args := [d] }
  | _ => none }
def HalfRowsWrongFalsely : Prop := halfRowsRow.holds Try.pinned (OpenSpec.ofChange halfRowsWrong)

/-- 'bastionlaw16.Pools': WHATEVER THE INPUT: true; the input reads as it did. -/
def poolsSpec : ChangeSpec := { name := "pools", fn := fun _ => fun
  | [d1, d2, d3, d4, d5] => { results := [.lit (.bool true)], args := [d1, d2, d3, d4, d5] }
  | _ => none }
def poolsRow : OpenClaim := { program := "ytenbhladboofeaa", sum := "a4d22ba459085616f0ce1c704dcb09d6f2f4ee74ca17f29b9e3907460ec158fd", func := "bastion/bastionlaw16.Pools", spec := "pools", unfollowed := true, recurses := true, apart := false }
def PoolsSaid : Prop := poolsRow.holds Try.pinned (OpenSpec.ofChange poolsSpec)

/-- ITS FALSE NEIGHBOUR: 'it returns false'. Refute it at one input. -/
def poolsWrong : ChangeSpec := { name := "pools", fn := fun _ => fun
  | [d1, d2, d3, d4, d5] => { results := [.lit (.bool false)], args := [d1, d2, d3, d4, d5] }
  | _ => none }
def PoolsWrongFalsely : Prop := poolsRow.holds Try.pinned (OpenSpec.ofChange poolsWrong)

/-- 'bastionlaw16.PoolWalks': WHATEVER THE INPUT: true; the input reads as it did. -/
def poolWalksSpec : ChangeSpec := { name := "poolWalks", fn := fun _ => fun
  | [d] => { results := [.lit (.bool true)], args := [d] }
  | _ => none }
def poolWalksRow : OpenClaim := { program := "ytenbhladboofeaa", sum := "a4d22ba459085616f0ce1c704dcb09d6f2f4ee74ca17f29b9e3907460ec158fd", func := "bastion/bastionlaw16.PoolWalks", spec := "poolWalks", unfollowed := true, recurses := true, apart := false }
def PoolWalksSaid : Prop := poolWalksRow.holds Try.pinned (OpenSpec.ofChange poolWalksSpec)

/-- ITS FALSE NEIGHBOUR: 'it returns false'. Refute it at one input. -/
def poolWalksWrong : ChangeSpec := { name := "poolWalks", fn := fun _ => fun
  | [d] => { results := [.lit (.bool false)], args := [d] }
  | _ => none }
def PoolWalksWrongFalsely : Prop := poolWalksRow.holds Try.pinned (OpenSpec.ofChange poolWalksWrong)

/-- 'bastionlaw16.PoolForms': WHATEVER THE INPUT: true; the input reads as it did. -/
def poolFormsSpec : ChangeSpec := { name := "poolForms", fn := fun _ => fun
  | [d1, d2] => { results := [.lit (.bool true)], args := [d1, d2] }
  | _ => none }
def poolFormsRow : OpenClaim := { program := "ytenbhladboofeaa", sum := "a4d22ba459085616f0ce1c704dcb09d6f2f4ee74ca17f29b9e3907460ec158fd", func := "bastion/bastionlaw16.PoolForms", spec := "poolForms", unfollowed := true, recurses := true, apart := false }
def PoolFormsSaid : Prop := poolFormsRow.holds Try.pinned (OpenSpec.ofChange poolFormsSpec)

/-- ITS FALSE NEIGHBOUR: 'it returns false'. Refute it at one input. -/
def poolFormsWrong : ChangeSpec := { name := "poolForms", fn := fun _ => fun
  | [d1, d2] => { results := [.lit (.bool false)], args := [d1, d2] }
  | _ => none }
def PoolFormsWrongFalsely : Prop := poolFormsRow.holds Try.pinned (OpenSpec.ofChange poolFormsWrong)

/-- 'bastionlaw16.PoolRanks': WHATEVER THE INPUT: true; the input reads as it did. -/
def poolRanksSpec : ChangeSpec := { name := "poolRanks", fn := fun _ => fun
  | [d1, d2, d3] => { results := [.lit (.bool true)], args := [d1, d2, d3] }
  | _ => none }
def poolRanksRow : OpenClaim := { program := "ytenbhladboofeaa", sum := "a4d22ba459085616f0ce1c704dcb09d6f2f4ee74ca17f29b9e3907460ec158fd", func := "bastion/bastionlaw16.PoolRanks", spec := "poolRanks", unfollowed := true, recurses := true, apart := false }
def PoolRanksSaid : Prop := poolRanksRow.holds Try.pinned (OpenSpec.ofChange poolRanksSpec)

/-- ITS FALSE NEIGHBOUR: 'it returns false'. Refute it at one input. -/
def poolRanksWrong : ChangeSpec := { name := "poolRanks", fn := fun _ => fun
  | [d1, d2, d3] => { results := [.lit (.bool false)], args := [d1, d2, d3] }
  | _ => none }
def PoolRanksWrongFalsely : Prop := poolRanksRow.holds Try.pinned (OpenSpec.ofChange poolRanksWrong)

/-- 'bastionlaw16.PoolApart': WHATEVER THE INPUT: true; the input reads as it did. -/
def poolApartSpec : ChangeSpec := { name := "poolApart", fn := fun _ => fun
  | [d] => { results := [.lit (.bool true)], args := [d] }
  | _ => none }
def poolApartRow : OpenClaim := { program := "ytenbhladboofeaa", sum := "a4d22ba459085616f0ce1c704dcb09d6f2f4ee74ca17f29b9e3907460ec158fd", func := "bastion/bastionlaw16.PoolApart", spec := "poolApart", unfollowed := true, recurses := true, apart := false }
def PoolApartSaid : Prop := poolApartRow.holds Try.pinned (OpenSpec.ofChange poolApartSpec)

/-- ITS FALSE NEIGHBOUR: 'it returns false'. Refute it at one input. -/
def poolApartWrong : ChangeSpec := { name := "poolApart", fn := fun _ => fun
  | [d] => { results := [.lit (.bool false)], args := [d] }
  | _ => none }
def PoolApartWrongFalsely : Prop := poolApartRow.holds Try.pinned (OpenSpec.ofChange poolApartWrong)

/- THE SECOND FORM. 'bulk': how many values and letters a reading holds, each counted each time it is reached (what is shared counts as often as it is met; a slice's spare places count too). A statement '..UptoSaid' is the law's where the arguments, and the package variables that the reading takes, are together of bulk at most 1048576: NARROWER than '..Said'. Prove '..Said' where nothing that the law and all that it calls make is longer than what came in: it says more and counts as full. Else prove '..UptoSaid'. A law counts once. -/
mutual
def uptoBulk {H : Type} : DataW H → Nat
  | .lit (.string bytes) => bytes.length + 1
  | .lit _ => 1
  | .nil => 1
  | .ptr d => uptoBulk d + 1
  | .slice elems spare => uptoBulkAll elems + uptoBulkAll spare + 1
  | .agg parts => uptoBulkAll parts + 1
  | .iface _ d => uptoBulk d + 1
  | .map entries => uptoBulkEntries entries + 1
  | .held _ => 1
def uptoBulkAll {H : Type} : List (DataW H) → Nat
  | [] => 0
  | d :: r => uptoBulk d + uptoBulkAll r
def uptoBulkEntries {H : Type} : List (Lit × DataW H) → Nat
  | [] => 0
  | x :: r => uptoBulkEntry x + uptoBulkEntries r
def uptoBulkEntry {H : Type} : Lit × DataW H → Nat
  | (.string bytes, d) => bytes.length + uptoBulk d + 1
  | (_, d) => uptoBulk d + 1
 end
def uptoSmall : (H : Type) → List (DataW H) → Bool := fun _ ds => decide (uptoBulkAll ds ≤ 1048576)
def OpenSpec.upto (s : _root_.Go.ChangeSpec) : _root_.Go.OpenSpec := { _root_.Go.OpenSpec.ofChange s with cond := some uptoSmall }

/-- 'bastionlaw2.Books', WHERE WHAT IT READS IS OF BULK AT MOST 1048576: true; the input reads as it did. -/
def booksUptoRow : OpenClaim := { program := "ytenbhladboofeaa", sum := "a4d22ba459085616f0ce1c704dcb09d6f2f4ee74ca17f29b9e3907460ec158fd", func := "bastion/bastionlaw2.Books", spec := "books", apart := false, narrowed := true }
def BooksUptoSaid : Prop := booksUptoRow.holds Try.pinned (OpenSpec.upto booksSpec)

/-- 'bastionlaw2.BookOnce', WHERE WHAT IT READS IS OF BULK AT MOST 1048576: true; the input reads as it did. -/
def bookOnceUptoRow : OpenClaim := { program := "ytenbhladboofeaa", sum := "a4d22ba459085616f0ce1c704dcb09d6f2f4ee74ca17f29b9e3907460ec158fd", func := "bastion/bastionlaw2.BookOnce", spec := "bookOnce", apart := false, narrowed := true }
def BookOnceUptoSaid : Prop := bookOnceUptoRow.holds Try.pinned (OpenSpec.upto bookOnceSpec)

/-- 'bastionlaw2.BookForms', WHERE WHAT IT READS IS OF BULK AT MOST 1048576: true; the input reads as it did. -/
def bookFormsUptoRow : OpenClaim := { program := "ytenbhladboofeaa", sum := "a4d22ba459085616f0ce1c704dcb09d6f2f4ee74ca17f29b9e3907460ec158fd", func := "bastion/bastionlaw2.BookForms", spec := "bookForms", apart := false, narrowed := true }
def BookFormsUptoSaid : Prop := bookFormsUptoRow.holds Try.pinned (OpenSpec.upto bookFormsSpec)

/-- 'bastionlaw2.BookRows', WHERE WHAT IT READS IS OF BULK AT MOST 1048576: true; the input reads as it did. -/
def bookRowsUptoRow : OpenClaim := { program := "ytenbhladboofeaa", sum := "a4d22ba459085616f0ce1c704dcb09d6f2f4ee74ca17f29b9e3907460ec158fd", func := "bastion/bastionlaw2.BookRows", spec := "bookRows", apart := false, narrowed := true }
def BookRowsUptoSaid : Prop := bookRowsUptoRow.holds Try.pinned (OpenSpec.upto bookRowsSpec)

/-- 'bastionlaw18.Halves', WHERE WHAT IT READS IS OF BULK AT MOST 1048576: true; the input reads as it did. -/
def halvesUptoRow : OpenClaim := { program := "ytenbhladboofeaa", sum := "a4d22ba459085616f0ce1c704dcb09d6f2f4ee74ca17f29b9e3907460ec158fd", func := "bastion/bastionlaw18.Halves", spec := "halves", unfollowed := true, recurses := true, apart := false, narrowed := true }
def HalvesUptoSaid : Prop := halvesUptoRow.holds Try.pinned (OpenSpec.upto halvesSpec)

/-- 'bastionlaw18.HalfWalks', WHERE WHAT IT READS IS OF BULK AT MOST 1048576: true; the input reads as it did. -/
def halfWalksUptoRow : OpenClaim := { program := "ytenbhladboofeaa", sum := "a4d22ba459085616f0ce1c704dcb09d6f2f4ee74ca17f29b9e3907460ec158fd", func := "bastion/bastionlaw18.HalfWalks", spec := "halfWalks", unfollowed := true, recurses := true, apart := false, narrowed := true }
def HalfWalksUptoSaid : Prop := halfWalksUptoRow.holds Try.pinned (OpenSpec.upto halfWalksSpec)

/-- 'bastionlaw18.HalfForms', WHERE WHAT IT READS IS OF BULK AT MOST 1048576: true; the input reads as it did. -/
def halfFormsUptoRow : OpenClaim := { program := "ytenbhladboofeaa", sum := "a4d22ba459085616f0ce1c704dcb09d6f2f4ee74ca17f29b9e3907460ec158fd", func := "bastion/bastionlaw18.HalfForms", spec := "halfForms", unfollowed := true, recurses := true, apart := false, narrowed := true }
def HalfFormsUptoSaid : Prop := halfFormsUptoRow.holds Try.pinned (OpenSpec.upto halfFormsSpec)

/-- 'bastionlaw18.HalfRows', WHERE WHAT IT READS IS OF BULK AT MOST 1048576: true; the input reads as it did. -/
def halfRowsUptoRow : OpenClaim := { program := "ytenbhladboofeaa", sum := "a4d22ba459085616f0ce1c704dcb09d6f2f4ee74ca17f29b9e3907460ec158fd", func := "bastion/bastionlaw18.HalfRows", spec := "halfRows", unfollowed := true, recurses := true, apart := false, narrowed := true }
def HalfRowsUptoSaid : Prop := halfRowsUptoRow.holds Try.pinned (OpenSpec.upto halfRowsSpec)

/-- 'bastionlaw16.Pools', WHERE WHAT IT READS IS OF BULK AT MOST 1048576: true; the input reads as it did. -/
def poolsUptoRow : OpenClaim := { program := "ytenbhladboofeaa", sum := "a4d22ba459085616f0ce1c704dcb09d6f2f4ee74ca17f29b9e3907460ec158fd", func := "bastion/bastionlaw16.Pools", spec := "pools", unfollowed := true, recurses := true, apart := false, narrowed := true }
def PoolsUptoSaid : Prop := poolsUptoRow.holds Try.pinned (OpenSpec.upto poolsSpec)

/-- 'bastionlaw16.PoolWalks', WHERE WHAT IT READS IS OF BULK AT MOST 1048576: true; the input reads as it did. -/
def poolWalksUptoRow : OpenClaim := { program := "ytenbhladboofeaa", sum := "a4d22ba459085616f0ce1c704dcb09d6f2f4ee74ca17f29b9e3907460ec158fd", func := "bastion/bastionlaw16.PoolWalks", spec := "poolWalks", unfollowed := true, recurses := true, apart := false, narrowed := true }
def PoolWalksUptoSaid : Prop := poolWalksUptoRow.holds Try.pinned (OpenSpec.upto poolWalksSpec)

/-- 'bastionlaw16.PoolForms', WHERE WHAT IT READS IS OF BULK AT MOST 1048576: true; the input reads as it did. -/
def poolFormsUptoRow : OpenClaim := { program := "ytenbhladboofeaa", sum := "a4d22ba459085616f0ce1c704dcb09d6f2f4ee74ca17f29b9e3907460ec158fd", func := "bastion/bastionlaw16.PoolForms", spec := "poolForms", unfollowed := true, recurses := true, apart := false, narrowed := true }
def PoolFormsUptoSaid : Prop := poolFormsUptoRow.holds Try.pinned (OpenSpec.upto poolFormsSpec)

/-- 'bastionlaw16.PoolRanks', WHERE WHAT IT READS IS OF BULK AT MOST 1048576: true; the input reads as it did. -/
def poolRanksUptoRow : OpenClaim := { program := "ytenbhladboofeaa", sum := "a4d22ba459085616f0ce1c704dcb09d6f2f4ee74ca17f29b9e3907460ec158fd", func := "bastion/bastionlaw16.PoolRanks", spec := "poolRanks", unfollowed := true, recurses := true, apart := false, narrowed := true }
def PoolRanksUptoSaid : Prop := poolRanksUptoRow.holds Try.pinned (OpenSpec.upto poolRanksSpec)

/-- 'bastionlaw16.PoolApart', WHERE WHAT IT READS IS OF BULK AT MOST 1048576: true; the input reads as it did. -/
def poolApartUptoRow : OpenClaim := { program := "ytenbhladboofeaa", sum := "a4d22ba459085616f0ce1c704dcb09d6f2f4ee74ca17f29b9e3907460ec158fd", func := "bastion/bastionlaw16.PoolApart", spec := "poolApart", unfollowed := true, recurses := true, apart := false, narrowed := true }
def PoolApartUptoSaid : Prop := poolApartUptoRow.holds Try.pinned (OpenSpec.upto poolApartSpec)

end Rows
end Go.Proofs.Ytenbhladboofeaa
