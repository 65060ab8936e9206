/- Declarations that the closing texts need, part 2: joined by tools/slim.py. -/
import Derived.Test.YtmbelkfkhclnkaaGreatDoorZS1
import Derived.WalkKit
set_option linter.unusedVariables false
set_option linter.unusedSimpArgs false
namespace Go.AM
def tabB : List Int:= [0,1,56,2,57,49,28,3,61,58,42,50,38,29,17,4,62,47,59,36,45,43,51,22,53,39,33,30,24,18,12,5,63,55,48,27,60,41,37,16,46,35,44,21,52,32,23,11,54,26,40,15,34,20,31,10,25,14,19,9,13,8,7,6]
def tabP : List Int:= [1,10,100,1000,10000,100000,1000000,10000000,100000000,1000000000,10000000000,100000000000,1000000000000,10000000000000,100000000000000,1000000000000000,10000000000000000,100000000000000000,1000000000000000000,10000000000000000000]
def tabs : List (Nat×IntKind×List Int):= [(5,.u8,tabB),(1,.u64,tabP)]
def TN : List (Nat×Array Value):=tabs.map fun p=>(p.1,(p.2.2.map (Value.int p.2.1)).toArray)
def Rw : List Nat:= [3]
def uA : Prop:=True
end Go.AM
