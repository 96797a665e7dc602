/-
  A part of the proof: lemmas on which the theorem leans; nothing is claimed here by itself.
-/
import Derived.Test.YtgofdjfokfgnhaaGreatDoorTab0
import Derived.Test.YtgofdjfokfgnhaaGreatDoorTab1
import Derived.Test.YtgofdjfokfgnhaaGreatDoorTab2
import Derived.Test.YtgofdjfokfgnhaaGreatDoorTab3
