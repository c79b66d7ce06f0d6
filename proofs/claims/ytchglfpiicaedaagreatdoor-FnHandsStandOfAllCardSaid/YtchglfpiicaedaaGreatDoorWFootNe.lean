-- WRITTEN BY A PROGRAM OF THIS SESSION (wip/tools/shake.py): words of the kit's print, those that this claim doesn't need left out.
import Derived.Test.YtchglfpiicaedaaGreatDoorWN
