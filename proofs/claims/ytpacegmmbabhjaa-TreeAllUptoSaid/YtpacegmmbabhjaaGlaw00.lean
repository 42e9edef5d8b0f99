/-
  PRINTED BY PROGRAM: the printed texts of one package.
-/
import Derived.Test.YtpacegmmbabhjaaGlaw00P1
import Derived.Test.YtpacegmmbabhjaaGlaw00P2
