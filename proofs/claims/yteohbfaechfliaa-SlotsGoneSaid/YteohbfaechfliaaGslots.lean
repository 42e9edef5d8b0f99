/-
  PRINTED BY PROGRAM: the printed texts of one package.
-/
import Derived.Test.YteohbfaechfliaaGslotsP1
import Derived.Test.YteohbfaechfliaaGslotsP2
