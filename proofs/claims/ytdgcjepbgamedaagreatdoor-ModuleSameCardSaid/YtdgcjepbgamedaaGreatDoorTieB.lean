/- The row's tie to the program's text, each closed fact by itself. Conditions: none. -/
import Derived.Test.YtdgcjepbgamedaaGreatDoorRows
import Derived.LaidByTextLater
import Derived.SevenTiedAt
import Derived.LaidSub
import Derived.LaidOnce
import Derived.KernelRfl
namespace Go.Proofs.YtdgcjepbgamedaaGreatDoor
open Go
set_option maxRecDepth 100000
noncomputable def laidL : List (String × DataW Unit) := [("armillary/lex.signs", Rows.laid_armillary_lex_signs), ("armillary/lex.keys", Rows.laid_armillary_lex_keys), ("strconv.ErrSyntax", Rows.laid_strconv_ErrSyntax), ("strconv.ErrRange", Rows.laid_strconv_ErrRange), ("internal/strconv.uint64pow10", Rows.laid_internal_strconv_uint64pow10), ("math/bits.deBruijn32tab", Rows.laid_math_bits_deBruijn32tab), ("math/bits.deBruijn64tab", Rows.laid_math_bits_deBruijn64tab)]
theorem tw1 : Tryz.prog.worded (varsWordLater true) = true := by kernel_rfl
theorem tw2 : Tryz.prog.worded (varsWordLater !true) = false := by kernel_rfl
theorem tw3 : Tryz.prog.worded rootWordLater = true := by kernel_rfl
theorem kb0 : Tryz.prog.kindBase "armillary/lex.signs" = some .data := by kernel_rfl
theorem kb1 : Tryz.prog.kindBase "armillary/lex.keys" = some .data := by kernel_rfl
theorem kb2 : Tryz.prog.kindBase "strconv.ErrSyntax" = some .sentinel := by kernel_rfl
theorem kb3 : Tryz.prog.kindBase "strconv.ErrRange" = some .sentinel := by kernel_rfl
theorem kb4 : Tryz.prog.kindBase "internal/strconv.uint64pow10" = some .data := by kernel_rfl
theorem kb5 : Tryz.prog.kindBase "math/bits.deBruijn32tab" = some .data := by kernel_rfl
theorem kb6 : Tryz.prog.kindBase "math/bits.deBruijn64tab" = some .data := by kernel_rfl
theorem tw4 : laidL.map (fun x => Tryz.prog.kindOfLater x.1) = (([.data, .data, .sentinel, .sentinel, .data, .data, .data] : List LaidKind)).map some := by
  simp only [laidL, List.map_cons, List.map_nil, Program.kindOfLater, kb0, kb1, kb2, kb3, kb4, kb5, kb6]
theorem tw5 : (Tryz.prog.funcNamed "gosem.cut.vars").isSome = true := by kernel_rfl
theorem tw6 : varsNamedLaterB Tryz.prog (varsId Tryz.prog) laidL = true := by
  unfold varsNamedLaterB laidL
  simp only [List.all_cons, List.all_nil, kb0, kb1, kb2, kb3, kb4, kb5, kb6]
  kernel_rfl
theorem tw7 : ∀ os tape, doorLeaves Tryz.prog 72 8 65 laidL os tape = some (laidL.filter fun x => x.2.handleName?.isNone, (funcsListed laidL).map (·.2.funcsOut)) := fun _ _ => by kernel_rfl
theorem tieB : Tryz.prog.laidByTextLater laidL [.data, .data, .sentinel, .sentinel, .data, .data, .data] true := Program.laidByTextLater_by_one 72 8 65 tw1 tw2 tw3 tw4 tw5 tw6 tw7
theorem noOwnUnsafeB : Tryz.pinned.checked.prog.headLifts.contains "ownunsafe" = false := by kernel_rfl
theorem row_tieB : Rows.moduleSameRow.laidByTextAt .later Tryz.pinned [.data, .data, .sentinel, .sentinel, .data, .data, .data] true := OpenClaim.laidByTextAt_later rfl rfl tieB noOwnUnsafeB
end Go.Proofs.YtdgcjepbgamedaaGreatDoor
