/- Plain lemmas on the helpers of the law FnSites: sizes, copies, equality with itself, marks and what holds them. Written by a program of this session. -/
import Derived.Test.YtdpkidjddlnafaaGen
import Derived.Test.YtdpkidjddlnafaaMFnSitesx0
import Derived.Test.YtdpkidjddlnafaaMFnSitesx1
import Derived.Test.YtdpkidjddlnafaaMFnSitesx2
import Derived.Test.YtdpkidjddlnafaaMFnSitesx3
import Derived.Test.YtdpkidjddlnafaaMFnSitesx4
import Derived.Test.YtdpkidjddlnafaaMFnSitesx5
import Derived.Test.YtdpkidjddlnafaaMFnSitesx6
namespace Go.Proofs.Ytdpkidjddlnafaa.MFnSites
open Go.RowKit Go.Proofs.YtdpkidjddlnafaaW.PrintWords Go.Proofs.YtdpkidjddlnafaaW.PrintLast Go.Proofs.YtdpkidjddlnafaaW.PrintMore Go.Proofs.Ytdpkidjddlnafaa.Gen
set_option linter.unusedVariables false
set_option linter.unusedSimpArgs false


end Go.Proofs.Ytdpkidjddlnafaa.MFnSites
