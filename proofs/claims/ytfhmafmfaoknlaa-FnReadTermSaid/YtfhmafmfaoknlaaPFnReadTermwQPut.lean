-- Made by a program of this session (wip/tools/trimwords.py) out of the printer's words; cut to what this law names.
import Derived.Test.YtfhmafmfaoknlaaPFnReadTermwWords
import Derived.Test.YtfhmafmfaoknlaaPFnReadTermwLast
namespace Go.Proofs.YtfhmafmfaoknlaaW.PrintWords
open Go.RowKit
namespace Kd
end Kd
end Go.Proofs.YtfhmafmfaoknlaaW.PrintWords
