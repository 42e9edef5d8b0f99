/-
  PRINTED BY PROGRAM: the printed texts of one package.
-/
import Derived.Test.YtpacegmmbabhjaaGref05P1
import Derived.Test.YtpacegmmbabhjaaGref05P2
