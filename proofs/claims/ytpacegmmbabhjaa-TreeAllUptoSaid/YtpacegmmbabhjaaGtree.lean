/-
  PRINTED BY PROGRAM: the printed texts of one package.
-/
import Derived.Test.YtpacegmmbabhjaaGtreeP1
import Derived.Test.YtpacegmmbabhjaaGtreeP2
import Derived.Test.YtpacegmmbabhjaaGtreeP3
