/- Rows that are filled place by place. -/
import Derived.Test.YtgcgajeagdaenaaMem
import Derived.Test.YtgcgajeagdaenaaFill
