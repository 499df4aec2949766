/- The tie's list. -/
import Derived.Test.YtcinnankefollaaGreatDoorRows
import Derived.LaidByTextLater
import Derived.SevenTiedAt
import Derived.KernelRfl
namespace Go.Proofs.YtcinnankefollaaGreatDoor
open Go
def tieLaid : List (String × DataW Unit) := [("internal/strconv.uint64pow10", Rows.laid_internal_strconv_uint64pow10), ("math/bits.deBruijn32tab", Rows.laid_math_bits_deBruijn32tab), ("math/bits.deBruijn64tab", Rows.laid_math_bits_deBruijn64tab), ("pedigree/lex.signs", Rows.laid_pedigree_lex_signs), ("strconv.ErrSyntax", Rows.laid_strconv_ErrSyntax), ("strconv.ErrRange", Rows.laid_strconv_ErrRange), ("pedigree/lex.keywords", Rows.laid_pedigree_lex_keywords), ("errors.errorType", Rows.laid_errors_errorType), ("pedigree/parse.errDeep", Rows.laid_pedigree_parse_errDeep), ("pedigree/parse.errMany", Rows.laid_pedigree_parse_errMany), ("pedigree/parse.errGround", Rows.laid_pedigree_parse_errGround), ("pedigree/parse.errSyntax", Rows.laid_pedigree_parse_errSyntax), ("pedigree/parse.relations", Rows.laid_pedigree_parse_relations), ("pedigree/parse.operators", Rows.laid_pedigree_parse_operators), ("pedigree/print.folds", Rows.laid_pedigree_print_folds), ("pedigree/print.rels", Rows.laid_pedigree_print_rels), ("pedigree/print.hold", Rows.laid_pedigree_print_hold), ("pedigree/print.words", Rows.laid_pedigree_print_words), ("pedigree/print.signs", Rows.laid_pedigree_print_signs), ("pedigree/value.takes", Rows.laid_pedigree_value_takes)]
def tieKinds : List LaidKind := [.data, .data, .data, .data, .sentinel, .sentinel, .data, .handle, .sentinel, .sentinel, .sentinel, .sentinel, .data, .data, .data, .data, .data, .data, .data, .data]
end Go.Proofs.YtcinnankefollaaGreatDoor
