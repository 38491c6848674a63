/- The program's DiskNew returns what the reference's DiskNew returns, in memory of its own; no conditions. -/
import Derived.Test.YtanjldhhcnfibaaPFnExactDiskNewx3
namespace Go.Proofs.Ytanjldhhcnfibaa.Pure
open Go.RowKit Go.Proofs.Ytanjldhhcnfibaa.PFnExactDiskNew Go.Proofs.YtanjldhhcnfibaaW.PrintWords Go.Proofs.YtanjldhhcnfibaaW.PrintLast

theorem FnExactDiskNew : laws_FnExactDiskNew.Pure := ⟨60, by kernel_rfl⟩

end Go.Proofs.Ytanjldhhcnfibaa.Pure
