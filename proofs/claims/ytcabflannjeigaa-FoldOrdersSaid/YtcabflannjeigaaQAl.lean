/-
  Plain laws: all edits, one by one; the reference.
-/
import Derived.Test.YtcabflannjeigaaMAl
import Derived.Test.YtcabflannjeigaaC3
import Derived.Test.YtcabflannjeigaaQIn
import Derived.Test.YtcabflannjeigaaC5
namespace Ab
open Go
set_option linter.unusedVariables false
set_option linter.unusedSimpArgs false

/-! ### edit by edit -/

end Ab
