/- Part 2 of what the claim stands on: an abstract calculus of the program's steps, what each function computes, and the plain law. -/
import Derived.Test.YtmdmpichmdfmcaaGreatDoorA1
set_option linter.all false
namespace Go.Abs
theorem tZ:rW 11 []=some true:=by kernel_rfl
theorem pB:SC P 11 [] [] (.d (.bool true)) []:=sR tZ
end Go.Abs
