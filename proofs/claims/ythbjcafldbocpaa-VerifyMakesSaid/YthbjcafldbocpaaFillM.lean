/- Rows that are filled place by place. -/
import Derived.Test.YthbjcafldbocpaaMem
import Derived.Test.YthbjcafldbocpaaFill
