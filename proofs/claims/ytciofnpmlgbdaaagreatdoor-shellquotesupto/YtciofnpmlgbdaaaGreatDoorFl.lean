/- What the plain laws stand on. -/
import Derived.Test.YtciofnpmlgbdaaaGreatDoorF
import Derived.Test.YtciofnpmlgbdaaaGreatDoorSb
import Derived.Test.YtciofnpmlgbdaaaGreatDoorSh
