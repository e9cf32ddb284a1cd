/- The pure part of MacOf: both seals are one function. -/
import Derived.Test.YtdnkhdkflemkeaaDm2
