import PyProof.Rows.All
import Wide.All
import OpenK.AllK
import Wide.FinOn
import PySem.Challenge.RW_wheretrue_k38_signs_that_fit
open PySem PySem.W PySem.W.X PyProof.Rows
set_option Elab.async false
set_option maxRecDepth 100000 in
set_option maxHeartbeats 0 in
theorem PySem.Challenge.cw_wheretrue_k38_signs_that_fit_holds : PySem.Challenge.rw_wheretrue_k38_signs_that_fit.Holds := by
  open_z
