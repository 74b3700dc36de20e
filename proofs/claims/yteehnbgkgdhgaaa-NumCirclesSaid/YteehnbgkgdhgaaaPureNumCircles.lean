/-
  Proved: for every int the law NumCircles returns true: the squares of sine and cosine, opposite angles and full turns. No conditions.
-/
import Derived.Test.YteehnbgkgdhgaaaNp4
