import Derived.Test.YtcabflannjeigaaDoorB2
import Derived.KernelRfl
import Derived.Test.YtcabflannjeigaaDoorC1
section
namespace Ab
open Go
set_option linter.unusedVariables false
set_option maxRecDepth 100000

/- tallyhall/tallyref1.Size -/
/- tallyhall/tallyref1.Where -/
/- tallyhall/tallyref1.Name -/
/- tallyhall/tallyref1.Dim -/
/- tallyhall/tallyref1.Outline -/
/- tallyhall/tallyref1.Parts -/
/- tallyhall/tallyref1.Leaf -/
/- tallyhall/tallyref1.Weight -/
/- tallyhall/tallyref1.Leafs -/
end Ab
end

section
namespace Ab
open Go
set_option linter.unusedVariables false
set_option maxRecDepth 100000

/- tallyhall/tallyref1.Place -/
/- tallyhall/tallyref1.Right -/
/- tallyhall/tallyref1.LeafPlace -/
/- tallyhall/tallyref1.Less -/
/- tallyhall/tallyref1.Entries -/
/- tallyhall/tallyref1.PlaceWeight -/
/- tallyhall/tallyref1.Number -/
/- tallyhall/tallyref1.At -/
/- tallyhall/tallyref1.Roll -/
/- tallyhall/tallyref1.RollLeafs -/
end Ab
end

section
namespace Ab
open Go
set_option linter.unusedVariables false
set_option maxRecDepth 100000

/- tallyhall/tallyref1.Find -/
/- tallyhall/tallyref1.Input -/
/- tallyhall/tallyref1.Edit -/
/- tallyhall/tallysame.Entries -/
/- tallyhall/tallyref1.Edits -/
end Ab
end
