/- The package-level tables that the program reads: none. No condition of its own. -/
import Derived.Test.YtocnfflklfeocaaEng
namespace Go.Den
instance ctx0 : Ctx := ⟨[], [], false⟩
abbrev ctxUp : Ctx := ⟨[], [], true⟩
end Go.Den
