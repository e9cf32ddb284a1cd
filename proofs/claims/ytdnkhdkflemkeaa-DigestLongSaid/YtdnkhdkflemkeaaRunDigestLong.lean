/- The pure part of DigestLong: both digests are one function. -/
import Derived.Test.YtdnkhdkflemkeaaDg9
