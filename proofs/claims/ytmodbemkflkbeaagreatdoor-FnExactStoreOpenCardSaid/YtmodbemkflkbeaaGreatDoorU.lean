/- What the walks of this seat's functions use of the print's words: how values are told of memory, and steps of walks. Each statement bears its conditions. -/
import Derived.Test.YtmodbemkflkbeaaGreatDoorV
