/- The tie: each variable is laid once, in order. -/
import Derived.Test.YtcinnankefollaaGreatDoorTk0
namespace Go.Proofs.YtcinnankefollaaGreatDoor
open Go
theorem tk6A : (match (Tryz.prog.funcs[810]?).bind (·.body) with | some code => (match code.laysInOrder [] with | some stored => (stored.eraseDups.length == stored.length) | none => false) | none => false) = true := by kernel_rfl
noncomputable def tkAt (x : String × DataW Unit) : Bool := match (Tryz.prog.funcs[810]?).bind (·.body) with | some code => (match code.laysInOrder [] with | some stored => ((Tryz.prog.globalNamed x.1).any fun v => (stored.contains v == (Tryz.prog.kindBase x.1 != some .zero)) && callsFit code v (Tryz.prog.kindBase x.1) && ((code.storedByHandle Tryz.prog).contains v == (Tryz.prog.kindBase x.1 == some .handle)) && (x.2.handleName?.isSome == (Tryz.prog.kindBase x.1 == some .handle || Tryz.prog.kindBase x.1 == some .funcs)) && (Tryz.prog.kindBase x.1 != some .handle || handlePair x) && (x.2.funcsIn?.isSome == (Tryz.prog.kindBase x.1 == some .funcs)) && mapsFit code v x.2 (Tryz.prog.kindBase x.1)) | none => false) | none => false
theorem tk6X0 : tkAt ("internal/strconv.uint64pow10", Rows.laid_internal_strconv_uint64pow10) = true := by kernel_rfl
theorem tk6X1 : tkAt ("math/bits.deBruijn32tab", Rows.laid_math_bits_deBruijn32tab) = true := by kernel_rfl
theorem tk6X2 : tkAt ("math/bits.deBruijn64tab", Rows.laid_math_bits_deBruijn64tab) = true := by kernel_rfl
theorem tk6X3 : tkAt ("pedigree/lex.signs", Rows.laid_pedigree_lex_signs) = true := by kernel_rfl
theorem tk6X4 : tkAt ("strconv.ErrSyntax", Rows.laid_strconv_ErrSyntax) = true := by kernel_rfl
theorem tk6X5 : tkAt ("strconv.ErrRange", Rows.laid_strconv_ErrRange) = true := by kernel_rfl
theorem tk6X6 : tkAt ("pedigree/lex.keywords", Rows.laid_pedigree_lex_keywords) = true := by kernel_rfl
theorem tk6X7 : tkAt ("errors.errorType", Rows.laid_errors_errorType) = true := by kernel_rfl
theorem tk6X8 : tkAt ("pedigree/parse.errDeep", Rows.laid_pedigree_parse_errDeep) = true := by kernel_rfl
theorem tk6X9 : tkAt ("pedigree/parse.errMany", Rows.laid_pedigree_parse_errMany) = true := by kernel_rfl
theorem tk6X10 : tkAt ("pedigree/parse.errGround", Rows.laid_pedigree_parse_errGround) = true := by kernel_rfl
theorem tk6X11 : tkAt ("pedigree/parse.errSyntax", Rows.laid_pedigree_parse_errSyntax) = true := by kernel_rfl
theorem tk6X12 : tkAt ("pedigree/parse.relations", Rows.laid_pedigree_parse_relations) = true := by kernel_rfl
theorem tk6X13 : tkAt ("pedigree/parse.operators", Rows.laid_pedigree_parse_operators) = true := by kernel_rfl
theorem tk6X14 : tkAt ("pedigree/print.folds", Rows.laid_pedigree_print_folds) = true := by kernel_rfl
theorem tk6X15 : tkAt ("pedigree/print.rels", Rows.laid_pedigree_print_rels) = true := by kernel_rfl
theorem tk6X16 : tkAt ("pedigree/print.hold", Rows.laid_pedigree_print_hold) = true := by kernel_rfl
theorem tk6X17 : tkAt ("pedigree/print.words", Rows.laid_pedigree_print_words) = true := by kernel_rfl
theorem tk6X18 : tkAt ("pedigree/print.signs", Rows.laid_pedigree_print_signs) = true := by kernel_rfl
theorem tk6X19 : tkAt ("pedigree/value.takes", Rows.laid_pedigree_value_takes) = true := by kernel_rfl
end Go.Proofs.YtcinnankefollaaGreatDoor
