/- The pure part of DigestOf: both digests are one function. -/
import Derived.Test.YtdnkhdkflemkeaaDg9
