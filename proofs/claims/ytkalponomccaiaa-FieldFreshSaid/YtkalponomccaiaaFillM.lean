/- Rows that are filled place by place. -/
import Derived.Test.YtkalponomccaiaaMem
import Derived.Test.YtkalponomccaiaaFill
