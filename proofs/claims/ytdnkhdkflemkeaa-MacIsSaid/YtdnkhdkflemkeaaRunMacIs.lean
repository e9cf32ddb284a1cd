/- The pure part of MacIs: both seals are one function. -/
import Derived.Test.YtdnkhdkflemkeaaDm2
