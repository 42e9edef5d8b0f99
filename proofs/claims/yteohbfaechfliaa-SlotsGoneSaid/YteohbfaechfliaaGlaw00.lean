/-
  PRINTED BY PROGRAM: the printed texts of one package.
-/
import Derived.Test.YteohbfaechfliaaGlaw00P1
import Derived.Test.YteohbfaechfliaaGlaw00P2
