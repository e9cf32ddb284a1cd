/- The pure part of MacBytes: both seals are one function. -/
import Derived.Test.YtdnkhdkflemkeaaDm2
