/-
  PRINTED BY PROGRAM: all printed texts of this seat.
-/
import Derived.Test.YtpacegmmbabhjaaG1
import Derived.Test.YtpacegmmbabhjaaG2
import Derived.Test.YtpacegmmbabhjaaG3
import Derived.Test.YtpacegmmbabhjaaG4
import Derived.Test.YtpacegmmbabhjaaG5
import Derived.Test.YtpacegmmbabhjaaG6
import Derived.Test.YtpacegmmbabhjaaG7
import Derived.Test.YtpacegmmbabhjaaG8
import Derived.Test.YtpacegmmbabhjaaG9
