/- MADE BY PROGRAM (annot.py): for each function which slots are given up where, and which live at the heads of loops. -/
import Derived.Test.YtlcebaejlnpdeaaJa1
import Derived.Test.YtlcebaejlnpdeaaJa3
import Derived.Test.YtlcebaejlnpdeaaProg
import Derived.KernelRfl
import Derived.IntWalk
import Derived.ProofKit
import Derived.Deep.Slices
import Derived.ChangeStays
import Derived.Below
import Derived.WalkKit
set_option linter.unusedSimpArgs false
set_option linter.unusedVariables false
set_option linter.unusedSectionVars false
namespace Go.Proofs.Ytlcebaejlnpdeaa.Ab
open Go
abbrev o_ : Bool := false
abbrev i_ : Bool := true
abbrev t1_ : OpAnn := { takes := [true] }
abbrev t2_ : OpAnn := { takes := [true, true] }
def ann2 : FAnn := { ops := [[{ mode := 3 }]] }
def ann3 : FAnn := { ops := [[t1_], [{}, { mode := 3 }, t1_, {}, { mode := 3 }, { takes := [true, false, true] }], [{ mode := 3 }, t1_], [{}, {}, { mode := 3 }, t1_, {}, t1_, t1_, t1_], [{}, {}, { mode := 3 }, t1_, {}, t1_, t1_, t1_], [{}, {}, { mode := 3 }, t1_, {}, t1_, t1_, t1_], [{}, t1_, { mode := 3 }, t1_, {}, t1_, t1_, t1_], [{}, { mode := 3 }, {}, { mode := 3 }, t2_, t1_, t1_, t1_, t2_, { takes := [false, true] }, t1_, t1_, t1_, t2_, { takes := [false, true] }, t1_, t1_, t1_, { mode := 3 }, { takes := [false, true] }, t1_, t1_, t1_, t2_, { takes := [false, true] }, t1_, { mode := 3 }, { takes := [false, true] }, t1_]] }
def ann4 : FAnn := { ops := [[t1_], [{}, { mode := 3 }, t1_, {}, { mode := 3 }, { takes := [true, false, true] }], [{ mode := 3 }, t1_], [{}, {}, { mode := 3 }, t1_, {}, t1_, t1_, t1_], [{}, {}, { mode := 3 }, t1_, {}, t1_, t1_, t1_], [{}, {}, { mode := 3 }, t1_, {}, t1_, t1_, t1_], [t1_, t1_, { mode := 3 }, t1_, {}, t1_, t1_, t1_], [t1_, t1_, { mode := 3 }, t1_, t1_, t1_, t2_, t2_, t1_, t1_, t1_, t2_, t2_, t1_, t1_, t1_, t2_, t2_, t1_, { mode := 3 }, t2_, t1_]] }
def ann5 : FAnn := { ops := [[t1_], [{}, { mode := 3 }], [{ mode := 3 }, t1_], [{}, { mode := 3 }, t1_, {}, t1_, t1_, t1_], [{}, { mode := 3 }, t1_, {}, t1_, t1_, t1_], [{}, { mode := 3 }, t1_, {}, t1_, t1_, t1_], [{}, { mode := 3 }, t1_, {}, t1_, t1_, t1_], [{}, {}, { mode := 3 }, t1_, {}, t1_, t1_, t1_], [t1_, t1_, { mode := 3 }, t1_, {}, t1_, t1_, t1_], [t1_, t1_, t2_, t1_, t1_, t1_, t2_, t2_, t1_, t1_, t1_, { mode := 3 }, t2_, t1_, t1_, t1_, t2_, t2_, t1_, t1_, t1_, t2_, t2_, t1_, t1_, t1_, t2_, t2_, t1_, { mode := 3 }, t2_, t1_]] }
def ann6 : FAnn := { ops := [[t1_], [{}, { mode := 3 }], [{ mode := 3 }, t1_], [{}, {}, { mode := 3 }, t1_, {}, t1_, t1_, t1_], [{}, {}, { mode := 3 }, t1_, {}, t1_, t1_, t1_], [{}, {}, { mode := 3 }, t1_, {}, t1_, t1_, t1_], [t1_, t1_, { mode := 3 }, t1_, {}, t1_, t1_, t1_], [t1_, t1_, { mode := 3 }, t1_, t1_, t1_, t2_, t2_, t1_, t1_, t1_, { mode := 3 }, t2_, t1_, t1_, t1_, t2_, t2_, t1_, { mode := 3 }, t2_, t1_]] }
def ann7 : FAnn := { ops := [[t1_], [{}, { mode := 3 }], [{ mode := 3 }, t1_], [{}, { mode := 3 }, t1_, {}, t1_, t1_, t1_], [{}, { mode := 3 }, t1_, {}, t1_, t1_, t1_], [{}, {}, { mode := 3 }, t1_, {}, t1_, t1_, t1_], [{}, {}, { mode := 3 }, t1_], [t1_, t1_, t2_, t1_, t1_, t1_, t2_, { takes := [true, false, true] }, t1_, t1_, {}, t2_, { takes := [true, false, true] }], [], [t1_, t1_], [t1_, t1_, t1_, t1_, { mode := 3 }, t2_, t1_], [{}, { mode := 3 }], [], [t1_, t1_, { mode := 3 }, t1_, {}, t1_, t1_, t1_], [t1_, t1_, t1_, t1_, t1_, t2_, t2_, t1_, { mode := 3 }, t2_, t1_]] }
def ann8 : FAnn := { ops := [[t1_], [{}, { mode := 3 }, t1_, t1_, {}, t1_, t1_, { takes := [true, false, true] }], [{ mode := 3 }, t1_], [{}, { mode := 3 }, t1_, {}, t1_, t1_, t1_], [{}, t1_, { mode := 3 }, t1_], [{}, {}, { mode := 3 }, t1_, {}, t1_, t1_, t1_], [{}, t1_, { mode := 3 }, t1_, {}, t1_, t1_, t1_], [t1_, t1_, t1_, t1_, t1_, { takes := [true, false, true] }, t1_, t1_, {}, t2_, { takes := [true, false, true] }, t1_, t1_, t1_, { takes := [true, false, true] }, t1_, {}, t1_, {}, t1_, t1_, t2_, { takes := [true, false, true] }], [], [], [], [{}, t1_, {}, t1_, t1_, t2_], [t1_, t1_, t1_], [{}, {}, { mode := 3 }, t1_, {}, t1_, t1_, t1_], [{}, {}, { mode := 3 }, t1_, {}, t1_, t1_, t1_], [{}, {}, t1_, { mode := 3 }, t1_, {}, t1_, t1_, t1_], [t1_, t1_, t1_, t1_, t1_, { takes := [false, false, true] }, t1_, t1_, t1_, { takes := [false, false, true] }, t1_, {}, t1_, { takes := [false, false, true] }, t1_, {}, {}, {}, t2_, t1_, {}, {}, t1_, t2_, t1_, { mode := 3 }, t2_, { takes := [false, false, true] }], [], [], [{}, {}, t1_, t2_], [t1_, t1_, t1_], [{}, {}, {}, t2_, t1_, { mode := 3 }, t1_, {}, {}, t2_, t1_, {}, {}, t2_, t1_, { mode := 3 }, t1_, t1_, {}, {}, t1_, t2_, t1_, {}, {}, t2_, t1_, { mode := 3 }, t1_, { takes := [false, false, true] }, { takes := [false, true] }], [], [t1_, t1_, t2_, t1_, t1_, t1_, { mode := 3 }, t2_, t1_, t1_], [t1_, {}, t2_, t1_, t1_, t1_, t2_, t2_, t1_, { mode := 3 }, t2_, t1_]], keepL := [(0, [o_,o_,i_,o_,o_,i_,o_,o_,o_,o_,i_,o_,i_,i_,i_,o_,o_,o_,o_,o_,o_,o_,o_,o_,o_,o_,o_,o_,o_,o_,o_,o_,o_,o_,o_,o_,o_,o_,o_,o_,o_,o_,o_,o_,o_,o_,o_,o_,o_,o_,o_,o_,o_,o_,o_,o_,o_,o_,o_,o_,o_,o_,o_,o_,o_,o_,o_,o_,o_,o_,o_,o_,o_,o_,o_,o_,o_,o_,o_,o_,o_,o_,o_,o_,o_,o_,o_,o_,o_,o_,o_,o_,o_,o_,o_,o_,o_,o_,o_,o_,o_,o_,o_,o_,o_,o_,o_,o_,o_,o_,o_,o_,o_,o_,o_,o_,o_,o_,o_,o_,o_,o_,o_,o_,o_,o_,o_,o_,o_,o_,o_,o_,o_,o_,o_,o_,o_,o_,o_,o_,o_,o_,o_,o_,o_,o_,o_,o_,o_,o_,o_,o_,o_,o_,o_,o_,o_,o_,o_,o_,o_,o_,o_,o_,o_,o_,o_,o_,o_,o_,o_,o_,o_,o_,o_,o_,o_,o_,o_,o_,o_,o_,o_,o_,o_]), (2, [o_,o_,i_,o_,o_,i_,o_,o_,o_,o_,i_,o_,i_,i_,i_,i_,o_,i_,o_,i_,o_,i_,o_,o_,o_,o_,o_,o_,o_,o_,o_,o_,o_,o_,o_,o_,o_,o_,o_,o_,o_,o_,o_,o_,o_,o_,o_,o_,o_,o_,o_,o_,o_,o_,o_,o_,o_,o_,o_,o_,o_,o_,o_,o_,o_,o_,o_,o_,o_,o_,o_,o_,o_,o_,o_,o_,o_,o_,o_,o_,o_,o_,o_,o_,o_,o_,o_,o_,o_,o_,o_,o_,o_,o_,o_,o_,o_,o_,o_,o_,o_,o_,o_,o_,o_,o_,o_,o_,o_,o_,o_,o_,o_,o_,o_,o_,o_,o_,o_,o_,o_,o_,o_,o_,o_,o_,o_,o_,o_,o_,o_,o_,o_,o_,o_,o_,o_,o_,o_,o_,o_,o_,o_,o_,o_,o_,o_,o_,o_,o_,o_,o_,o_,o_,o_,o_,o_,o_,o_,o_,o_,o_,o_,o_,o_,o_,o_,o_,o_,o_,o_,o_,o_,o_,o_,o_,o_,o_,o_,o_,o_,o_,o_,o_,o_])] }
def ann9 : FAnn := { ops := [[t1_], [{}, { mode := 3 }, t1_, t1_, {}, t1_, t1_, { takes := [true, false, true] }], [{ mode := 3 }, t1_], [t1_, t1_, {}, t1_, t1_, t2_, t1_], [{}, t1_, {}, t2_, t1_, { mode := 3 }, t1_], [{}, {}, t1_, { mode := 3 }, { mode := 3 }, t1_, {}, {}, t1_, t1_], [{}, {}, { mode := 3 }, t1_, {}, t1_, t1_, t1_], [{}, {}, { mode := 3 }, t1_, {}, t1_, t1_, t1_], [t1_, t1_, t1_, t1_, t1_, { takes := [false, false, true] }, t1_, t1_, t1_, { takes := [false, false, true] }, t1_, {}, t1_, {}, t1_, t1_, t2_, { takes := [false, false, true] }, t1_, {}, {}, t2_, t1_, t1_, {}, t1_, {}, t2_, t1_, t1_, t1_, t2_, { takes := [false, false, true] }, t1_, {}, t1_, t1_, { takes := [false, false, true] }, t1_, {}, t1_, t1_, { takes := [false, false, true] }], [], [], [{}, {}, {}, t2_, t1_, t1_, t2_], [t1_, t1_, t1_], [{}, {}, {}, t2_, t1_, {}, t2_, t1_, { mode := 3 }, t1_, t1_, {}, t1_, t1_, {}, {}, t2_, t1_, {}, t2_, t1_, {}, {}, t2_, t1_, {}, t1_, t2_, t1_, t2_, { takes := [false, true] }, { takes := [false, false, true] }], [], [], [{}, {}, t1_, t2_], [t1_, t1_, t1_], [{}, {}, t2_, t1_, t1_, t1_, {}, {}, t2_, t1_, {}, t2_, { takes := [true, false, true] }, t1_, {}, {}, {}, {}, t2_, t1_, t2_, { mode := 3 }, t1_, { takes := [true, false, true] }], [], [], [{}, {}, t1_, t2_], [t1_, t1_, t1_], [{}, {}, t2_, t1_, {}, {}, t2_, t1_, { mode := 3 }, t1_, t1_, {}, {}, t2_, t1_, t1_, { takes := [false, false, true] }, t1_, {}, {}, t2_, t1_, {}, t2_, { takes := [false, false, true] }, t1_, {}, {}, {}, {}, t2_, t1_, t2_, { mode := 3 }, t1_, { takes := [false, false, true] }], [], [{ mode := 3 }, t1_]], keepL := [(0, [o_,o_,o_,o_,o_,o_,o_,i_,i_,i_,o_,i_,o_,i_,o_,i_,o_,o_,o_,o_,o_,o_,o_,o_,o_,o_,o_,o_,o_,o_,o_,o_,o_,o_,o_,o_,o_,o_,o_,o_,o_,o_,o_,o_,o_,o_,o_,o_,o_,o_,o_,o_,o_,o_,o_,o_,o_,o_,o_,o_,o_,o_,o_,o_,o_,o_,o_,o_,o_,o_,o_,o_,o_,o_,o_,o_,o_,o_,o_,o_,o_,o_,o_,o_,o_,o_,o_,o_,o_,o_,o_,o_,o_,o_,o_,o_,o_,o_,o_,o_,o_,o_,o_,o_,o_,o_,o_,o_,o_,o_,o_,o_,o_,o_,o_,o_,o_,o_,o_,o_,o_,o_,o_,o_,o_,o_,o_,o_,o_,o_,o_,o_,o_,o_,o_,o_,o_,o_,o_,o_,o_,o_,o_,o_,o_,o_,o_,o_,o_,o_,o_,o_,o_,o_,o_,o_,o_,o_,o_,o_,o_,o_,o_,o_,o_,o_,o_,o_,o_,o_,o_,o_,o_,o_,o_,o_,o_,o_,o_,o_,o_,o_,o_,o_,o_,o_,o_,o_,o_,o_,o_,o_,o_,o_,o_,o_,o_,o_,o_,o_,o_,o_,o_,o_,o_,o_,o_,o_,o_,o_,o_,o_,o_,o_,o_,o_]), (2, [o_,o_,o_,o_,o_,o_,o_,i_,i_,i_,o_,i_,o_,i_,o_,o_,i_,o_,o_,o_,o_,o_,o_,o_,o_,o_,o_,o_,o_,o_,o_,o_,o_,o_,o_,o_,o_,o_,o_,o_,o_,o_,o_,o_,o_,o_,o_,o_,o_,o_,o_,o_,o_,o_,o_,o_,o_,o_,o_,o_,o_,o_,o_,o_,o_,o_,o_,o_,o_,o_,o_,o_,o_,o_,o_,o_,o_,o_,o_,o_,o_,o_,o_,o_,o_,o_,o_,o_,o_,o_,o_,o_,o_,o_,o_,o_,o_,o_,o_,o_,o_,o_,o_,o_,o_,o_,o_,o_,o_,o_,o_,o_,o_,o_,o_,o_,o_,o_,o_,o_,o_,o_,o_,o_,o_,o_,o_,o_,o_,o_,o_,o_,o_,o_,o_,o_,o_,o_,o_,o_,o_,o_,o_,o_,o_,o_,o_,o_,o_,o_,o_,o_,o_,o_,o_,o_,o_,o_,o_,o_,o_,o_,o_,o_,o_,o_,o_,o_,o_,o_,o_,o_,o_,o_,o_,o_,o_,o_,o_,o_,o_,o_,o_,o_,o_,o_,o_,o_,o_,o_,o_,o_,o_,o_,o_,o_,o_,o_,o_,o_,o_,o_,o_,o_,o_,o_,o_,o_,o_,o_,o_,o_,o_,o_,o_,o_]), (4, [o_,o_,o_,o_,o_,o_,o_,i_,i_,i_,o_,o_,o_,i_,o_,o_,o_,i_,o_,o_,o_,o_,o_,o_,o_,o_,o_,o_,o_,o_,o_,o_,o_,o_,o_,o_,o_,o_,o_,o_,o_,o_,o_,o_,o_,o_,o_,o_,o_,o_,o_,o_,o_,o_,o_,o_,o_,o_,o_,o_,o_,o_,o_,o_,o_,o_,o_,o_,o_,o_,o_,o_,o_,o_,o_,o_,o_,o_,o_,o_,o_,o_,o_,o_,o_,o_,o_,o_,o_,o_,o_,o_,o_,o_,o_,o_,o_,o_,o_,o_,o_,o_,o_,o_,o_,o_,o_,o_,o_,o_,o_,o_,o_,o_,o_,o_,o_,o_,o_,o_,o_,o_,o_,o_,o_,o_,o_,o_,o_,o_,o_,o_,o_,o_,o_,o_,o_,o_,o_,o_,o_,o_,o_,o_,o_,o_,o_,o_,o_,o_,o_,o_,o_,o_,o_,o_,o_,o_,o_,o_,o_,o_,o_,o_,o_,o_,o_,o_,o_,o_,o_,o_,o_,o_,o_,o_,o_,o_,o_,o_,o_,o_,o_,o_,o_,o_,o_,o_,o_,o_,o_,o_,o_,o_,o_,o_,o_,o_,o_,o_,o_,o_,o_,o_,o_,o_,o_,o_,o_,o_,o_,o_,o_,o_,o_,o_])] }
def ann10 : FAnn := { ops := [[t1_], [{}, { mode := 3 }, t1_], [{ mode := 3 }, t1_], [t1_, t1_, {}, t1_, t1_, t2_, t1_], [], [], [], [{}, {}, t1_, {}, t2_, t1_, t1_, t2_], [t1_, t1_, t1_], [{}, {}, t2_, t1_, t1_], [t1_, {}, t1_, t2_, t1_, {}, t1_, {}, t2_, t1_, {}, t2_, t1_, t2_, t1_, t1_], [t1_, {}, t1_, t2_, t1_], [{}, { mode := 3 }, t1_], [{ takes := [true], mode := 1 }, {}, {}, {}, t2_, {}, t2_, t2_, t2_], [{}, t1_, { mode := 3 }, t1_, {}, t1_, t1_, t1_], [{}, {}, { mode := 3 }, t1_, {}, t1_, t1_, t1_], [t1_, t1_, t1_, t1_, t1_, { takes := [true, false, true] }, t1_, {}, t1_, t1_, t1_, t1_, t2_, { takes := [true, false, true] }], [], [t1_, t1_, t1_, t1_, t1_, t1_, t1_, { takes := [true, false, true] }], [t1_, t1_, { mode := 3 }, t1_, t1_, { mode := 3 }, t2_, t1_], [t1_, t1_, t2_, t1_, {}, { mode := 3 }, t1_, t1_, t1_, { mode := 3 }, t2_, t1_, { mode := 3 }, t2_, t1_]], keepL := [(0, [o_,o_,i_,i_,o_,o_,o_,i_,i_,i_,i_,i_,o_,o_,o_,o_,o_,o_,o_,o_,o_,o_,o_,o_,o_,o_,o_,o_,o_,o_,o_,o_,o_,o_,o_,o_,o_,o_,o_,o_,o_,o_,o_,o_,o_,o_,o_,o_,o_,o_,o_,o_,o_,o_,o_,o_,o_,o_,o_,o_,o_,o_,o_,o_,o_,o_,o_,o_,o_,o_,o_,o_,o_,o_,o_,o_,o_,o_,o_,o_,o_,o_,o_,o_,o_,o_,o_,o_,o_,o_,o_,o_,o_,o_,o_,o_,o_,o_,o_,o_,o_,o_,o_,o_,o_,o_,o_,o_,o_,o_,o_,o_,o_,o_,o_,o_,o_,o_,o_,o_,o_,o_,o_,o_,o_])] }
def ann11 : FAnn := { ops := [[t1_], [{}, { mode := 3 }, t1_, t1_, {}, t1_, t1_, { takes := [true, false, true] }], [{ mode := 3 }, t1_], [{}, { mode := 3 }, t1_, {}, t1_, t1_, t1_], [{}, { mode := 3 }, t1_, {}, t1_, t1_, t1_], [{}, t1_, { mode := 3 }, t1_], [{}, {}, { mode := 3 }, t1_, {}, t1_, t1_, t1_], [t1_, t1_, { mode := 3 }, t1_, {}, t1_, t1_, t1_], [t1_, t1_, t1_, t2_, t1_, t1_, t1_, t2_, t1_, t1_, t1_, t2_, t1_, {}, t1_, t2_, t1_, {}, {}, t2_, t2_, t1_, t1_, t1_, t1_, t1_, t2_, t2_, t1_, t1_, t1_, t1_, t1_, t2_, t2_, t1_, { mode := 3 }, t2_, t1_]] }
def ann12 : FAnn := { ops := [[t1_], [{}, { mode := 3 }, t1_, t1_, {}, t1_, t1_, { takes := [true, false, true] }], [{ mode := 3 }, t1_], [{}, t1_, { mode := 3 }, t1_], [], [], [{}, {}, t1_, t2_], [t1_, t1_, t1_], [t1_, {}, {}, t2_, t1_, { mode := 3 }, t1_, t2_, t1_], [{}, t1_, t1_, t1_, { mode := 3 }, t1_], [{}, {}, { mode := 3 }, t1_, {}, t1_, t1_, t1_], [{}, {}, { mode := 3 }, t1_, {}, t1_, t1_, t1_], [{}, {}, { mode := 3 }, t1_, {}, t1_, t1_, t1_], [{}, {}, { mode := 3 }, t1_, {}, t1_, t1_, t1_], [{}, {}, { mode := 3 }, t1_, {}, t1_, t1_, t1_], [{}, {}, { mode := 3 }, t1_, {}, t1_, t1_, t1_], [{}, {}, { mode := 3 }, t1_, {}, t1_, t1_, t1_], [t1_, t1_, { mode := 3 }, t1_, {}, t1_, t1_, t1_], [t1_, t1_, t1_, t1_, t1_, { takes := [true, false, true] }, t1_, t1_, t1_, { takes := [true, false, true] }, t1_, t1_, t1_, { takes := [true, false, true] }, t1_, t1_, t1_, { takes := [true, false, true] }, t1_, t1_, t1_, { takes := [true, false, true] }, t1_, t1_, t1_, { takes := [true, false, true] }, t1_, t1_, t1_, { takes := [true, false, true] }, t1_, t1_, t1_, t2_, { takes := [true, false, true] }, t1_, t1_, t1_, t2_, { takes := [true, false, true] }, t1_, {}, t1_, {}, t1_, t2_, { takes := [true, false, true] }, t1_, {}, t1_, {}, t1_, t2_, { takes := [true, false, true] }, t1_, {}, t1_, t1_, t1_, t2_, { takes := [true, false, true] }], [], [], [{}, {}, t1_, t2_], [t1_, t1_, t1_], [{}, {}, t2_, t1_, t1_, t1_, {}, {}, t2_, t1_, {}, t2_, { takes := [false, false, true] }, t1_, {}, {}, t1_, t1_, {}, t2_, t2_, t1_, {}, {}, {}, t2_, t1_, t2_, t2_, { takes := [false, false, true] }], [], [], [{}, {}, t1_, t2_], [t1_, t1_, t1_], [{}, {}, t2_, t1_, t1_, {}, {}, t2_, t1_, t1_, t2_], [], [], [{}, {}, {}, t2_, t1_, t1_, t2_], [t1_, t1_, t1_], [{}, {}, t2_, t1_, {}, t2_, t1_, t1_, t1_, {}, {}, t2_, t1_, {}, t2_, t1_, {}, t2_, { takes := [false, false, true] }, t1_, {}, {}, t2_, t1_, {}, {}, t2_, t1_, t1_, t1_, {}, t2_, t2_, t1_, {}, {}, {}, t2_, t1_, {}, t2_, t1_, t2_, t2_, { takes := [false, false, true] }], [], [{ mode := 3 }, t1_]], keepL := [(0, [o_,o_,i_,o_,o_,i_,i_,i_,o_,o_,o_,o_,o_,o_,o_,o_,o_,o_,o_,o_,o_,o_,o_,o_,o_,o_,o_,o_,o_,o_,o_,o_,o_,o_,o_,o_,o_,o_,o_,o_,o_,o_,o_,o_,o_,o_,o_,o_,o_,o_,o_,o_,o_,o_,o_,o_,o_,o_,o_,o_,o_,o_,o_,o_,o_,o_,o_,o_,o_,o_,o_,o_,o_,o_,o_,o_,o_,o_,o_,o_,o_,o_,o_,o_,o_,o_,o_,o_,o_,o_,o_,o_,o_,o_,o_,o_,o_,o_,o_,o_,o_,o_,o_,o_,o_,o_,o_,o_,o_,o_,o_,o_,o_,o_,o_,o_,o_,o_,o_,o_,o_,o_,o_,o_,o_,o_,o_,o_,o_,o_,o_,o_,o_,o_,o_,o_,o_,o_,o_,o_,o_,o_,o_,o_,o_,o_,o_,o_,o_,o_,o_,o_,o_,o_,o_,o_,o_,o_,o_,o_,o_,o_,o_,o_,o_,o_,o_,o_,o_,o_,o_,o_,o_,o_,o_,o_,o_,o_,o_,o_,o_,o_,o_,o_,o_,o_,o_,o_,o_,o_,o_,o_,o_,o_,o_,o_,o_,o_,o_,o_,o_,o_,o_,o_,o_,o_,o_,o_,o_,o_,o_,o_,o_,o_,o_,o_,o_,o_,o_,o_,o_,o_,o_,o_,o_,o_,o_,o_,o_,o_,o_,o_,o_,o_,o_,o_,o_,o_,o_,o_,o_,o_,o_,o_,o_,o_,o_,o_,o_,o_,o_,o_,o_,o_,o_,o_,o_,o_,o_,o_,o_,o_,o_,o_,o_,o_,o_,o_,o_,o_,o_,o_,o_,o_,o_,o_]), (2, [o_,o_,o_,o_,o_,o_,o_,o_,i_,o_,o_,o_,o_,o_,o_,o_,o_,i_,o_,i_,o_,i_,o_,i_,o_,i_,o_,o_,o_,o_,o_,o_,o_,o_,o_,o_,o_,o_,o_,o_,o_,o_,o_,o_,o_,o_,o_,o_,o_,o_,o_,o_,o_,o_,o_,o_,o_,o_,o_,o_,o_,o_,o_,o_,o_,o_,o_,o_,o_,o_,o_,o_,o_,o_,o_,o_,o_,o_,o_,o_,o_,o_,o_,o_,o_,o_,o_,o_,o_,o_,o_,o_,o_,o_,o_,o_,o_,o_,o_,o_,o_,o_,o_,o_,o_,o_,o_,o_,o_,o_,o_,o_,o_,o_,o_,o_,o_,o_,o_,o_,o_,o_,o_,o_,o_,o_,o_,o_,o_,o_,o_,o_,o_,o_,o_,o_,o_,o_,o_,o_,o_,o_,o_,o_,o_,o_,o_,o_,o_,o_,o_,o_,o_,o_,o_,o_,o_,o_,o_,o_,o_,o_,o_,o_,o_,o_,o_,o_,o_,o_,o_,o_,o_,o_,o_,o_,o_,o_,o_,o_,o_,o_,o_,o_,o_,o_,o_,o_,o_,o_,o_,o_,o_,o_,o_,o_,o_,o_,o_,o_,o_,o_,o_,o_,o_,o_,o_,o_,o_,o_,o_,o_,o_,o_,o_,o_,o_,o_,o_,o_,o_,o_,o_,o_,o_,o_,o_,o_,o_,o_,o_,o_,o_,o_,o_,o_,o_,o_,o_,o_,o_,o_,o_,o_,o_,o_,o_,o_,o_,o_,o_,o_,o_,o_,o_,o_,o_,o_,o_,o_,o_,o_,o_,o_,o_,o_,o_,o_,o_,o_,o_,o_,o_,o_,o_,o_]), (4, [o_,o_,o_,o_,o_,o_,o_,o_,i_,o_,o_,o_,o_,o_,o_,o_,o_,o_,o_,o_,o_,i_,o_,i_,o_,o_,i_,o_,o_,o_,o_,o_,o_,o_,o_,o_,o_,o_,o_,o_,o_,o_,o_,o_,o_,o_,o_,o_,o_,o_,o_,o_,o_,o_,o_,o_,o_,o_,o_,o_,o_,o_,o_,o_,o_,o_,o_,o_,o_,o_,o_,o_,o_,o_,o_,o_,o_,o_,o_,o_,o_,o_,o_,o_,o_,o_,o_,o_,o_,o_,o_,o_,o_,o_,o_,o_,o_,o_,o_,o_,o_,o_,o_,o_,o_,o_,o_,o_,o_,o_,o_,o_,o_,o_,o_,o_,o_,o_,o_,o_,o_,o_,o_,o_,o_,o_,o_,o_,o_,o_,o_,o_,o_,o_,o_,o_,o_,o_,o_,o_,o_,o_,o_,o_,o_,o_,o_,o_,o_,o_,o_,o_,o_,o_,o_,o_,o_,o_,o_,o_,o_,o_,o_,o_,o_,o_,o_,o_,o_,o_,o_,o_,o_,o_,o_,o_,o_,o_,o_,o_,o_,o_,o_,o_,o_,o_,o_,o_,o_,o_,o_,o_,o_,o_,o_,o_,o_,o_,o_,o_,o_,o_,o_,o_,o_,o_,o_,o_,o_,o_,o_,o_,o_,o_,o_,o_,o_,o_,o_,o_,o_,o_,o_,o_,o_,o_,o_,o_,o_,o_,o_,o_,o_,o_,o_,o_,o_,o_,o_,o_,o_,o_,o_,o_,o_,o_,o_,o_,o_,o_,o_,o_,o_,o_,o_,o_,o_,o_,o_,o_,o_,o_,o_,o_,o_,o_,o_,o_,o_,o_,o_,o_,o_,o_,o_,o_]), (6, [o_,o_,o_,o_,o_,o_,o_,o_,i_,o_,o_,o_,o_,o_,o_,o_,o_,o_,o_,o_,o_,i_,o_,i_,o_,o_,i_,i_,o_,o_,o_,o_,o_,o_,o_,o_,o_,o_,o_,o_,o_,o_,o_,o_,o_,o_,o_,o_,o_,o_,o_,o_,o_,o_,o_,o_,o_,o_,o_,o_,o_,o_,o_,o_,o_,o_,o_,o_,o_,o_,o_,o_,o_,o_,o_,o_,o_,o_,o_,o_,o_,o_,o_,o_,o_,o_,o_,o_,o_,o_,o_,o_,o_,o_,o_,o_,o_,o_,o_,o_,o_,o_,o_,o_,o_,o_,o_,o_,o_,o_,o_,o_,o_,o_,o_,o_,o_,o_,o_,o_,o_,o_,o_,o_,o_,o_,o_,o_,o_,o_,o_,o_,o_,o_,o_,o_,o_,o_,o_,o_,o_,o_,o_,o_,o_,o_,o_,o_,o_,o_,o_,o_,o_,o_,o_,o_,o_,o_,o_,o_,o_,o_,o_,o_,o_,o_,o_,o_,o_,o_,o_,o_,o_,o_,o_,o_,o_,o_,o_,o_,o_,o_,o_,o_,o_,o_,o_,o_,o_,o_,o_,o_,o_,o_,o_,o_,o_,o_,o_,o_,o_,o_,o_,o_,o_,o_,o_,o_,o_,o_,o_,o_,o_,o_,o_,o_,o_,o_,o_,o_,o_,o_,o_,o_,o_,o_,o_,o_,o_,o_,o_,o_,o_,o_,o_,o_,o_,o_,o_,o_,o_,o_,o_,o_,o_,o_,o_,o_,o_,o_,o_,o_,o_,o_,o_,o_,o_,o_,o_,o_,o_,o_,o_,o_,o_,o_,o_,o_,o_,o_,o_,o_,o_,o_,o_,o_])] }
def ann13 : FAnn := { ops := [[t1_], [{}, { mode := 3 }, t1_], [{ mode := 3 }, t1_], [], [{}, t1_, t1_, t1_], [{}, t1_, t1_], [{}, t1_], [t1_, t1_, t1_], [{}, { takes := [true], mode := 1 }, {}, t1_, {}, t2_, t1_, t1_, t2_, {}, t2_], [{}, { mode := 3 }, t1_, {}, t1_, t1_, t1_], [{}, { mode := 3 }, t1_, {}, t1_, t1_, t1_], [{}, { mode := 3 }, t1_, {}, t1_, t1_, t1_], [{}, { mode := 3 }, t1_, {}, t1_, t1_, t1_], [t1_, t1_, {}, t1_, t2_, t1_], [t1_, {}, { mode := 3 }, t1_, {}, t1_, t1_, t1_], [t1_, t1_, t1_, t1_, t2_, { mode := 3 }, t1_, {}, t1_, t1_, t1_], [t1_, t1_, t1_, t2_, t1_, t1_, t2_, t1_, t1_, t2_, t1_, t1_, t1_, t2_, t2_, t1_, t1_, t1_, t2_, t2_, t1_, t1_, t1_, t2_, t1_, t1_, t1_, t2_, t1_, t1_, t1_, t2_, t2_, t1_, { mode := 3 }, t2_, t1_]], keepL := [(0, [o_,i_,i_,o_,o_,i_,i_,i_,o_,o_,o_,o_,o_,o_,o_,o_,o_,o_,o_,o_,o_,o_,o_,o_,o_,o_,o_,o_,o_,o_,o_,o_,o_,o_,o_,o_,o_,o_,o_,o_,o_,o_,o_,o_,o_,o_,o_,o_,o_,o_,o_,o_,o_,o_,o_,o_,o_,o_,o_,o_,o_,o_,o_,o_,o_,o_,o_,o_,o_,o_,o_,o_,o_,o_,o_,o_,o_,o_,o_,o_,o_,o_,o_,o_,o_,o_,o_,o_,o_,o_,o_,o_,o_,o_,o_,o_,o_,o_,o_,o_,o_,o_,o_,o_,o_,o_,o_,o_,o_,o_,o_,o_,o_,o_,o_,o_,o_,o_,o_,o_])] }
def ann14 : FAnn := { ops := [[t1_], [{}, { mode := 3 }, t1_, t1_, {}, t1_, t1_, { takes := [true, false, true] }], [{ mode := 3 }, t1_], [t1_, t1_, t1_, { takes := [false, true] }, t1_], [], [], [{}, {}, t1_, t1_, t2_], [t1_, t1_, t1_], [], [], [{}, {}, t1_, {}, t2_, t1_, t1_, t2_], [t1_, t1_, t1_], [t1_, {}, {}, t1_, {}, t2_, t1_, {}, t2_, t1_, t2_, t1_, t2_, t1_], [{}, { takes := [true], mode := 1 }, t1_, t1_, t2_, {}, t2_], [{}, { mode := 3 }, t1_], [{ mode := 3 }, t1_], [{}, t1_, { mode := 3 }, t1_], [{}, {}, { mode := 3 }, t1_, {}, t1_, t1_, t1_], [{}, {}, { mode := 3 }, t1_, {}, t1_, t1_, t1_], [{}, {}, { mode := 3 }, t1_, {}, t1_, t1_, t1_], [{}, t1_, { mode := 3 }, t1_, {}, t1_, t1_, t1_], [{}, { mode := 3 }, t1_, {}, t1_, t1_, t1_], [{}, { mode := 3 }, t1_, {}, t1_, t1_, t1_], [{}, { mode := 3 }, t1_, {}, t1_, t1_, t1_], [t1_, { mode := 3 }, t1_, {}, t1_, t1_, t1_], [t1_, t1_, t1_, t1_, { mode := 3 }, t1_], [t1_, t1_, t1_, t2_, t1_, t1_, t2_, t1_, t1_, t2_, t1_, t1_, t1_, t2_, t1_, t1_, t1_, t2_, t1_, t1_, t1_, t2_, t1_, t1_, t1_, t2_, t1_, t1_, t1_, t2_, t2_, t1_, {}, t1_, t2_, t1_, {}, t1_, t2_, t2_, t1_, t1_, {}, t1_, t2_, t2_, t2_, t1_, t1_, t1_, t2_, t2_, t1_, t1_, t1_, t1_, t2_, t2_, t2_, t1_, { mode := 3 }, t2_, t1_]], keepL := [(0, [o_,i_,o_,i_,o_,o_,o_,i_,i_,i_,o_,o_,o_,o_,o_,o_,o_,o_,o_,o_,o_,o_,o_,o_,o_,o_,o_,o_,o_,o_,o_,o_,o_,o_,o_,o_,o_,o_,o_,o_,o_,o_,o_,o_,o_,o_,o_,o_,o_,o_,o_,o_,o_,o_,o_,o_,o_,o_,o_,o_,o_,o_,o_,o_,o_,o_,o_,o_,o_,o_,o_,o_,o_,o_,o_,o_,o_,o_,o_,o_,o_,o_,o_,o_,o_,o_,o_,o_,o_,o_,o_,o_,o_,o_,o_,o_,o_,o_,o_,o_,o_,o_,o_,o_,o_,o_,o_,o_,o_,o_,o_,o_,o_,o_,o_,o_,o_,o_,o_,o_,o_,o_,o_,o_,o_,o_,o_,o_,o_,o_,o_,o_,o_,o_,o_,o_,o_,o_,o_,o_,o_,o_,o_,o_,o_,o_,o_,o_,o_,o_,o_,o_,o_,o_,o_,o_,o_,o_,o_,o_,o_,o_,o_,o_,o_,o_,o_,o_,o_,o_,o_,o_,o_,o_,o_,o_,o_,o_,o_,o_,o_,o_,o_,o_,o_,o_,o_,o_,o_,o_,o_,o_,o_,o_,o_,o_,o_]), (2, [o_,i_,o_,i_,o_,o_,o_,i_,i_,i_,i_,i_,o_,o_,o_,o_,o_,o_,o_,o_,o_,o_,o_,o_,o_,o_,o_,o_,o_,o_,o_,o_,o_,o_,o_,o_,o_,o_,o_,o_,o_,o_,o_,o_,o_,o_,o_,o_,o_,o_,o_,o_,o_,o_,o_,o_,o_,o_,o_,o_,o_,o_,o_,o_,o_,o_,o_,o_,o_,o_,o_,o_,o_,o_,o_,o_,o_,o_,o_,o_,o_,o_,o_,o_,o_,o_,o_,o_,o_,o_,o_,o_,o_,o_,o_,o_,o_,o_,o_,o_,o_,o_,o_,o_,o_,o_,o_,o_,o_,o_,o_,o_,o_,o_,o_,o_,o_,o_,o_,o_,o_,o_,o_,o_,o_,o_,o_,o_,o_,o_,o_,o_,o_,o_,o_,o_,o_,o_,o_,o_,o_,o_,o_,o_,o_,o_,o_,o_,o_,o_,o_,o_,o_,o_,o_,o_,o_,o_,o_,o_,o_,o_,o_,o_,o_,o_,o_,o_,o_,o_,o_,o_,o_,o_,o_,o_,o_,o_,o_,o_,o_,o_,o_,o_,o_,o_,o_,o_,o_,o_,o_,o_,o_,o_,o_,o_,o_])] }
def ann15 : FAnn := { ops := [[t1_], [{}, { mode := 3 }, t1_], [{ mode := 3 }, t1_], [{}, t1_, t1_, t1_], [{}, { mode := 3 }, t1_, {}, t1_, t1_, t1_], [{}, { mode := 3 }, t1_, {}, t1_, t1_, t1_], [t1_, t1_, t1_, t1_, t1_, { takes := [true, false, true] }], [], [{}, t1_], [{}, t1_, {}, t1_, t2_, t1_, {}, { takes := [false, true] }], [{}, { mode := 3 }, t1_, {}, t1_, t1_, t1_], [t1_, { mode := 3 }, t1_, {}, t1_, t1_, t1_], [t1_, t1_, t1_, t1_, t1_, { takes := [true, false, true] }, t1_, t1_, {}, t2_, { takes := [true, false, true] }, t1_, t1_, t1_, t2_, { takes := [true, false, true] }], [], [{}, t1_], [{ mode := 3 }, t1_], [{}, {}, t1_, t2_, {}, t1_, {}, t1_, t2_, t1_, t1_, t2_, t1_, {}, { takes := [false, true] }], [t1_, { mode := 3 }, t1_, {}, t1_, t1_, t1_], [t1_, t1_, {}, {}, t2_, t2_, t1_, t1_, t1_, t1_, t1_, t1_, t1_, t2_, t1_, t1_, t2_, t1_, t2_, t2_, t1_, { mode := 3 }, t2_, t1_]] }
def ann16 : FAnn := { ops := [[], [{}, t1_, t1_], [{ mode := 3 }, t1_], [t1_, t1_, t1_, { takes := [false, true] }, t1_, t1_, t1_, { takes := [false, true] }, t1_, t1_], [t1_, t1_, t1_, { takes := [false, true] }, t1_], [{}, { takes := [false, true], mode := 1 }, {}, { takes := [false, true], mode := 1 }, t1_, t1_], [], [{}, {}, t2_], [t1_, t1_, t1_], [{ takes := [true], mode := 1 }, {}, {}, {}, t2_, t2_, t2_], [], [{}, {}, t2_], [t1_, t1_, t1_], [{ takes := [true], mode := 1 }, {}, {}, {}, t2_, t2_, t2_], [{}, {}, t2_, { mode := 3 }, {}, { takes := [false, true] }], [{}, { mode := 3 }, t1_, {}, t1_, t1_, t1_], [{}, { mode := 3 }, t1_, {}, t1_, t1_, t1_], [{}, { mode := 3 }, t1_, {}, t1_, t1_, t1_], [{}, {}, t1_, { mode := 3 }, { mode := 3 }, t1_, {}, {}, t1_, t1_], [t1_, t1_, t1_, t1_, t1_, { takes := [true, false, true] }, t1_, t1_, t1_, { takes := [true, false, true] }, t1_, t1_, t1_, { takes := [true, false, true] }, t1_, {}, t1_, {}, t1_, t2_, { takes := [true, false, true] }, t1_, {}, t1_, {}, t1_, t2_, { takes := [true, false, true] }, t1_, {}, t1_, t2_, { takes := [true, false, true] }], [], [], [], [{}, {}, t2_], [t1_, t1_, t1_], [{}, {}, t1_, t2_, t1_, {}, {}, t1_, t1_, t2_, t2_], [], [{}, {}, t1_, t2_, t1_, {}, t1_, t1_, t2_, t1_], [t1_, t1_, t1_], [], [{}, {}, t2_], [t1_, t1_, t1_], [{}, {}, t1_, t2_, t1_, {}, {}, t1_, t1_, t2_, t2_], [], [t1_, t1_, t2_, t1_, { mode := 3 }, t2_, t1_]], keepL := [(0, [o_,o_,o_,i_,o_,o_,o_,o_,o_,i_,i_,i_,i_,i_,i_,o_,o_,o_,o_,o_,o_,o_,o_,o_,o_,o_,o_,o_,o_,o_,o_,o_,o_,o_,o_,o_,o_,o_,o_,o_,o_,o_,o_,o_,o_,o_,o_,o_,o_,o_,o_,o_,o_,o_,o_,o_,o_,o_,o_,o_,o_,o_,o_,o_,o_,o_,o_,o_,o_,o_,o_,o_,o_,o_,o_,o_,o_,o_,o_,o_,o_,o_,o_,o_,o_,o_,o_,o_,o_,o_,o_,o_,o_,o_,o_,o_,o_,o_,o_,o_,o_,o_,o_,o_,o_,o_,o_,o_,o_,o_,o_,o_,o_,o_,o_,o_,o_,o_,o_,o_,o_,o_,o_,o_,o_,o_,o_,o_,o_,o_,o_,o_,o_,o_,o_,o_,o_,o_,o_,o_,o_,o_,o_,o_,o_,o_,o_,o_,o_,o_,o_,o_,o_,o_,o_,o_,o_,o_,o_,o_,o_,o_,o_,o_,o_,o_,o_,o_,o_,o_,o_,o_,o_,o_,o_,o_,o_,o_,o_,o_]), (2, [o_,o_,o_,i_,o_,o_,o_,o_,o_,i_,i_,i_,i_,i_,o_,i_,o_,o_,o_,o_,o_,o_,o_,o_,o_,o_,o_,o_,o_,o_,o_,o_,o_,o_,o_,o_,o_,o_,o_,o_,o_,o_,o_,o_,o_,o_,o_,o_,o_,o_,o_,o_,o_,o_,o_,o_,o_,o_,o_,o_,o_,o_,o_,o_,o_,o_,o_,o_,o_,o_,o_,o_,o_,o_,o_,o_,o_,o_,o_,o_,o_,o_,o_,o_,o_,o_,o_,o_,o_,o_,o_,o_,o_,o_,o_,o_,o_,o_,o_,o_,o_,o_,o_,o_,o_,o_,o_,o_,o_,o_,o_,o_,o_,o_,o_,o_,o_,o_,o_,o_,o_,o_,o_,o_,o_,o_,o_,o_,o_,o_,o_,o_,o_,o_,o_,o_,o_,o_,o_,o_,o_,o_,o_,o_,o_,o_,o_,o_,o_,o_,o_,o_,o_,o_,o_,o_,o_,o_,o_,o_,o_,o_,o_,o_,o_,o_,o_,o_,o_,o_,o_,o_,o_,o_,o_,o_,o_,o_,o_,o_]), (4, [o_,o_,o_,o_,o_,o_,o_,o_,o_,i_,i_,o_,i_,i_,o_,o_,o_,i_,o_,i_,o_,i_,o_,o_,o_,i_,i_,o_,o_,o_,o_,o_,o_,o_,o_,o_,o_,o_,o_,o_,o_,o_,o_,o_,o_,o_,o_,o_,o_,o_,o_,o_,o_,o_,o_,o_,o_,o_,o_,o_,o_,o_,o_,o_,o_,o_,o_,o_,o_,o_,o_,o_,o_,o_,o_,o_,o_,o_,o_,o_,o_,o_,o_,o_,o_,o_,o_,o_,o_,o_,o_,o_,o_,o_,o_,o_,o_,o_,o_,o_,o_,o_,o_,o_,o_,o_,o_,o_,o_,o_,o_,o_,o_,o_,o_,o_,o_,o_,o_,o_,o_,o_,o_,o_,o_,o_,o_,o_,o_,o_,o_,o_,o_,o_,o_,o_,o_,o_,o_,o_,o_,o_,o_,o_,o_,o_,o_,o_,o_,o_,o_,o_,o_,o_,o_,o_,o_,o_,o_,o_,o_,o_,o_,o_,o_,o_,o_,o_,o_,o_,o_,o_,o_,o_,o_,o_,o_,o_,o_,o_]), (6, [o_,o_,o_,o_,o_,o_,o_,o_,o_,o_,i_,o_,o_,i_,o_,o_,o_,o_,o_,i_,o_,i_,o_,o_,o_,i_,o_,i_,o_,o_,o_,o_,o_,o_,o_,o_,o_,o_,o_,o_,o_,o_,o_,o_,o_,o_,o_,o_,o_,o_,o_,o_,o_,o_,o_,o_,o_,o_,o_,o_,o_,o_,o_,o_,o_,o_,o_,o_,o_,o_,o_,o_,o_,o_,o_,o_,o_,o_,o_,o_,o_,o_,o_,o_,o_,o_,o_,o_,o_,o_,o_,o_,o_,o_,o_,o_,o_,o_,o_,o_,o_,o_,o_,o_,o_,o_,o_,o_,o_,o_,o_,o_,o_,o_,o_,o_,o_,o_,o_,o_,o_,o_,o_,o_,o_,o_,o_,o_,o_,o_,o_,o_,o_,o_,o_,o_,o_,o_,o_,o_,o_,o_,o_,o_,o_,o_,o_,o_,o_,o_,o_,o_,o_,o_,o_,o_,o_,o_,o_,o_,o_,o_,o_,o_,o_,o_,o_,o_,o_,o_,o_,o_,o_,o_,o_,o_,o_,o_,o_,o_])] }
def ann17 : FAnn := { ops := [[], [{ mode := 3 }, { mode := 3 }, {}, {}, { takes := [false, true] }, { takes := [false, true] }], [{}, {}, { mode := 3 }, {}, { mode := 3 }, t2_, { mode := 3 }, { mode := 3 }, t1_, {}, {}, t1_, t1_], [{}, { mode := 3 }, t1_, {}, t1_, t1_, t1_], [{}, { mode := 3 }, t1_, {}, t1_, t1_, t1_], [{}, { mode := 3 }, t1_, {}, t1_, t1_, t1_], [t1_, { mode := 3 }, t1_, {}, t1_, t1_, t1_], [{}, { mode := 3 }, t1_, {}, t1_, t1_, t1_], [t1_, t1_, t1_, t1_, t1_, t2_, t1_, t1_, t1_, t2_, t1_, t1_, t1_, t2_, t1_, t1_, t1_, t2_, t1_, t1_, {}, { mode := 3 }, {}, { mode := 3 }, {}, { mode := 3 }, { takes := [true, true, true] }, { mode := 3 }, { mode := 3 }, t2_, t1_, t1_, t1_, t2_, t1_, t1_, t1_, t2_, t1_, t1_, t1_, t2_, t1_, t1_, t1_, t1_, t2_, t1_, t1_, t1_, t2_, t1_, t1_, t1_, t2_, t1_, t1_, { mode := 3 }, t1_, t2_, t1_, { mode := 3 }, t2_, t1_]] }
def ann18 : FAnn := { ops := [[t1_], [{}, t1_, t1_, t1_], [], [{}, {}, t1_, t1_, t2_], [t1_, t1_, t1_], [t1_, {}, t1_, {}, t2_, t1_, t1_, t2_, t1_], [t1_, t1_, t1_]], keepL := [(0, [o_,i_,o_,i_,i_,o_,o_,o_,o_,o_,o_,o_,o_,o_,o_,o_,o_,o_,o_,o_,o_,o_,o_,o_,o_])] }
def ann19 : FAnn := { ops := [[], [{}, t1_, t1_], [], [{}, {}, t1_, t2_], [t1_, t1_, t1_], [t1_, {}, {}, t2_, t1_, t1_, t2_, t1_], [t1_, t1_, t1_]], keepL := [(0, [i_,o_,o_,i_,i_,o_,o_,o_,o_,o_,o_,o_,o_,o_,o_,o_,o_,o_,o_,o_,o_,o_])] }
def ann20 : FAnn := { ops := [[], [{ mode := 3 }, { mode := 3 }, {}, {}, { takes := [false, true] }, { takes := [false, true] }], [{}, { mode := 3 }, {}, { mode := 3 }, t2_, { mode := 3 }, t1_], [{}, {}, { mode := 3 }, t1_, {}, t1_, t1_, t1_], [{}, {}, { mode := 3 }, {}, { mode := 3 }, t2_, { mode := 3 }, { mode := 3 }, t1_, {}, {}, t1_, t1_], [{}, {}, { mode := 3 }, t1_, { mode := 3 }, { mode := 3 }, t1_, {}, {}, t1_, t1_], [{}, {}, { mode := 3 }, {}, { mode := 3 }, t2_, { mode := 3 }, { mode := 3 }, t1_, {}, {}, t1_, t1_], [{}, {}, { mode := 3 }, t1_, {}, t1_, t1_, t1_], [{}, t1_, { mode := 3 }, t1_, {}, t1_, t1_, t1_], [{}, {}, { mode := 3 }, {}, { mode := 3 }, t2_, { mode := 3 }, { mode := 3 }, t1_, {}, {}, t1_, t1_], [{}, { mode := 3 }, t1_, {}, t1_, t1_, t1_], [{}, { mode := 3 }, t1_, {}, t1_, t1_, t1_], [{}, { mode := 3 }, t1_, {}, t1_, t1_, t1_], [t1_, { mode := 3 }, t1_, {}, t1_, t1_, t1_], [{}, { mode := 3 }, t1_, {}, t1_, t1_, t1_], [{}, { mode := 3 }, t1_, {}, t1_, t1_, t1_], [{}, { mode := 3 }, t1_, {}, t1_, t1_, t1_], [{}, { mode := 3 }, t1_, {}, t1_, t1_, t1_], [{}, { mode := 3 }, t1_, {}, t1_, t1_, t1_], [{}, { mode := 3 }, t1_, {}, t1_, t1_, t1_], [{}, { mode := 3 }, t1_, {}, t1_, t1_, t1_], [t1_, t1_, t1_, t1_, t1_, { takes := [true, false, true] }, t1_, t1_, t1_, { takes := [true, false, true] }, t1_, t1_, t1_, { takes := [true, false, true] }, t1_, t1_, t1_, { takes := [true, false, true] }, t1_, t1_, t1_, { takes := [true, false, true] }, t1_, t1_, t1_, { takes := [true, false, true] }, t1_, t1_, t1_, { takes := [true, false, true] }, t1_, t1_, t1_, { takes := [true, false, true] }, t1_, t1_, t1_, { takes := [true, false, true] }, t1_, t1_, t1_, { takes := [true, false, true] }, t1_, t1_, t1_, { takes := [true, false, true] }, t1_, t1_, t1_, { takes := [true, false, true] }, t1_, t1_, t1_, { takes := [true, false, true] }, t1_, t1_, t1_, { takes := [true, false, true] }, t1_, t1_, t1_, { takes := [true, false, true] }, t1_, t1_, t1_, { takes := [true, false, true] }, t1_, t1_, t1_, { takes := [true, false, true] }], [], [t1_, t1_, t1_, t1_, t1_, { takes := [false, false, true] }, t1_, {}, t1_, t1_, { takes := [false, false, true] }, t1_, {}, t1_, t1_, {}, { mode := 3 }, { mode := 3 }, t1_, { takes := [false, false, true] }, t1_, {}, t1_, t1_, {}, { mode := 3 }, { mode := 3 }, t1_, { takes := [false, false, true] }, t1_, t1_, {}, { mode := 3 }, { mode := 3 }, t1_, { takes := [false, false, true] }, t1_, t1_, t1_, { takes := [false, false, true] }, t1_, t1_, t1_, { takes := [false, false, true] }, t1_, t1_, {}, { mode := 3 }, {}, { mode := 3 }, t2_, { mode := 3 }, { mode := 3 }, t1_, { takes := [false, false, true] }, t1_, t1_, t1_, { takes := [false, false, true] }], [], [t1_, t1_, { mode := 3 }, t1_, {}, t1_, t1_, t1_], [t1_, {}, { mode := 3 }, { mode := 3 }, t1_, t1_, {}, { mode := 3 }, { mode := 3 }, t2_, t1_, t1_, t1_, t2_, t1_, t1_, t1_, t2_, t1_, t1_, t1_, t2_, t1_]] }
def ann21 : FAnn := { ops := [[t1_], [t1_, t1_, { mode := 3 }, t1_, {}, t1_, t1_, t1_], [{}, t1_], [t1_, {}, t1_], [t1_, { mode := 2 }, t1_, t1_]] }
def ann22 : FAnn := { ops := [[t1_], [{}, {}, { mode := 3 }, t1_], [t1_, t1_, { mode := 3 }, {}, t1_], [t1_, t1_, { mode := 3 }, t1_], [], [], [{}, {}, t1_, t2_], [t1_, t1_, t1_], [t1_, {}, {}, t1_, t2_, t1_, {}, {}, t2_, t1_, { mode := 3 }, t2_, t1_], [t1_, t1_]], keepL := [(0, [o_,o_,o_,o_,o_,o_,i_,i_,i_,o_,o_,o_,o_,o_,o_,o_,o_,o_,o_,o_,o_,o_,o_,o_,o_,o_,o_,o_,o_,o_,o_,o_,o_,o_,o_,o_,o_,o_])] }
def ann23 : FAnn := { ops := [[t1_], [t1_, t1_, { mode := 3 }, {}, t1_, t1_, t1_]] }
def ann24 : FAnn := { ops := [[t1_], [{}, {}, { mode := 3 }, t1_], [t1_, t1_, { mode := 3 }, {}, t1_], [t1_, t1_, { mode := 3 }, t1_]] }
def ann25 : FAnn := { ops := [[t1_], [], [], [{}, t1_, t1_, t1_, { mode := 3 }, t1_, t1_, {}, t1_, t1_, { mode := 3 }, { takes := [true, false, true] }, t1_], [], [{}, t1_, t1_, { mode := 3 }, t1_], [], [{}, t1_, t1_, { mode := 6 }, t1_], [], []] }
def ann26 : FAnn := { ops := [[t1_], [{}, t1_, t1_, t1_, t1_, {}, t1_, t1_, t1_, { takes := [true, false, true] }], [], [], [{}, {}, t1_, t1_, t2_], [t1_, t1_, t1_], [{}, t1_, {}, t2_, t1_, t1_, t1_, t1_, {}, t1_, {}, t2_, t1_, t1_, t1_, { takes := [true, false, true] }], [], [], [{}, {}, t1_, t1_, t2_], [t1_, t1_, t1_], [], [{}, {}, t1_, {}, t2_, t1_, t1_, t2_], [t1_, t1_, t1_], [{}, t1_, {}, t2_, t1_, {}, t2_, t1_, t1_, t1_, {}, t1_, {}, t2_, t1_, {}, t2_, t1_, t1_, { takes := [true, false, true] }], [], [], [{}, {}, t1_, t1_, t2_], [t1_, t1_, t1_], [{}, t1_, {}, t2_, t1_, { mode := 3 }, {}, t1_, t1_, t1_, { mode := 3 }, t2_], [], []], keepL := [(0, [o_,i_,o_,i_,o_,o_,o_,o_,o_,o_,o_,o_,o_,o_,o_,o_,o_,o_,o_,o_,o_,o_,o_,o_,o_,o_,o_,o_,o_,o_,o_,o_,o_,o_,o_,o_,o_,o_,o_,o_,o_,o_,o_,o_,o_,o_,o_,o_,o_,o_,o_,o_,o_,o_,o_,o_,o_,o_,o_,o_,o_,o_,o_,o_,o_,o_,o_,o_,o_,o_,o_,o_,o_,o_,o_,o_,o_,o_,o_,o_,o_,o_,o_,o_,o_,o_,o_,o_,o_,o_,o_,o_,o_,o_,o_,o_]), (2, [o_,i_,o_,o_,i_,o_,o_,o_,o_,o_,o_,o_,o_,o_,o_,o_,o_,o_,o_,o_,o_,o_,o_,o_,o_,o_,o_,o_,o_,o_,o_,o_,o_,o_,o_,o_,o_,o_,o_,o_,o_,o_,o_,o_,o_,o_,o_,o_,o_,o_,o_,o_,o_,o_,o_,o_,o_,o_,o_,o_,o_,o_,o_,o_,o_,o_,o_,o_,o_,o_,o_,o_,o_,o_,o_,o_,o_,o_,o_,o_,o_,o_,o_,o_,o_,o_,o_,o_,o_,o_,o_,o_,o_,o_,o_,o_]), (4, [o_,i_,o_,o_,i_,i_,o_,o_,o_,o_,o_,o_,o_,o_,o_,o_,o_,o_,o_,o_,o_,o_,o_,o_,o_,o_,o_,o_,o_,o_,o_,o_,o_,o_,o_,o_,o_,o_,o_,o_,o_,o_,o_,o_,o_,o_,o_,o_,o_,o_,o_,o_,o_,o_,o_,o_,o_,o_,o_,o_,o_,o_,o_,o_,o_,o_,o_,o_,o_,o_,o_,o_,o_,o_,o_,o_,o_,o_,o_,o_,o_,o_,o_,o_,o_,o_,o_,o_,o_,o_,o_,o_,o_,o_,o_,o_]), (6, [o_,i_,o_,o_,o_,o_,i_,o_,o_,o_,o_,o_,o_,o_,o_,o_,o_,o_,o_,o_,o_,o_,o_,o_,o_,o_,o_,o_,o_,o_,o_,o_,o_,o_,o_,o_,o_,o_,o_,o_,o_,o_,o_,o_,o_,o_,o_,o_,o_,o_,o_,o_,o_,o_,o_,o_,o_,o_,o_,o_,o_,o_,o_,o_,o_,o_,o_,o_,o_,o_,o_,o_,o_,o_,o_,o_,o_,o_,o_,o_,o_,o_,o_,o_,o_,o_,o_,o_,o_,o_,o_,o_,o_,o_,o_,o_])] }
def ann27 : FAnn := { ops := [[], [{}, t1_, {}, t1_, t2_], [], [], [{}, {}, t1_, t2_], [t1_, t1_, t1_], [{}, {}, t2_, t1_, {}, {}, t2_, t1_, { mode := 3 }, t1_], [], []], keepL := [(0, [i_,i_,o_,o_,o_,i_,o_,o_,o_,o_,o_,o_,o_,o_,o_,o_,o_,o_,o_,o_,o_,o_,o_,o_,o_,o_,o_])] }
def ann28 : FAnn := { ops := [[t1_], [t1_, t1_, { mode := 3 }, t1_, {}, t1_, t1_, t1_], [{}, t1_], [t1_, {}, t1_], [], [{}, t1_, t1_], [], [{}, t1_, t1_], [{}, t1_], [], [{}, t1_, t1_], [t1_, {}, { mode := 3 }, t1_], [t1_, t1_], [{}, {}, t1_, t1_, t1_, { takes := [true, true, true] }, t1_, t1_, t2_, t1_], [t1_, t1_], [t1_, t1_]], keepL := [(0, [o_,o_,o_,o_,o_,o_,i_,o_,i_,o_,o_,o_,o_,o_,o_,o_,o_,o_,o_,o_,o_,o_,o_,o_,i_,i_,i_,o_,o_,o_,o_,o_,o_,o_,o_,o_,o_,o_,o_,o_,o_,o_,o_,o_,o_,o_,o_,o_,o_,o_,o_,o_,o_]), (2, [o_,o_,o_,o_,o_,o_,i_,o_,i_,o_,i_,o_,o_,o_,o_,o_,o_,o_,o_,o_,o_,o_,o_,o_,i_,i_,i_,o_,o_,o_,o_,i_,i_,i_,o_,o_,o_,o_,o_,o_,o_,o_,o_,o_,o_,o_,o_,o_,o_,o_,o_,o_,o_])] }
def ann29 : FAnn := { ops := [[t1_], [{}, {}, { mode := 3 }, t1_], [t1_, t1_, { mode := 3 }, {}, t1_], [t1_, t1_, { mode := 3 }, t1_], [], [], [{}, {}, t1_, t1_, t1_, t2_], [t1_, t1_, t1_], [], [], [{}, {}, t1_, t2_], [t1_, t1_, t1_], [t1_, t1_, {}, {}, t2_, t1_, {}, t1_, t1_, {}, t2_, t1_, { mode := 3 }, { takes := [false, true] }, t1_], [t1_], [t1_, {}, t1_, t1_, {}, t2_, t1_, t1_, t2_, t1_], [t1_, t1_]], keepL := [(0, [o_,o_,o_,o_,o_,o_,i_,i_,i_,o_,o_,o_,o_,o_,o_,o_,o_,o_,o_,o_,o_,o_,o_,o_,o_,o_,o_,o_,o_,o_,o_,o_,o_,o_,o_,o_,o_,o_,o_,o_,o_,o_,o_,o_,o_,o_,o_,o_,o_,o_,o_,o_,o_,o_,o_,o_,o_,o_,o_,o_]), (2, [o_,o_,o_,o_,o_,o_,i_,i_,i_,i_,i_,o_,o_,o_,o_,o_,o_,o_,o_,o_,o_,o_,o_,o_,o_,o_,o_,o_,o_,o_,o_,o_,o_,o_,o_,o_,o_,o_,o_,o_,o_,o_,o_,o_,o_,o_,o_,o_,o_,o_,o_,o_,o_,o_,o_,o_,o_,o_,o_,o_])] }
def ann30 : FAnn := { ops := [[t1_], [{}, t1_, { mode := 3 }, t1_, {}, t1_, t1_, t1_], [{}, t1_], [t1_, {}, t1_], [t1_, t1_, t1_, t1_, { mode := 3 }, t1_], [{}, t1_, t1_], [], [{}, t1_], [{}, {}, {}, t2_, t1_, {}, {}, t1_, t2_, t1_, {}, { mode := 3 }, t2_, t1_], [t1_, t1_], [t1_, t1_]], keepL := [(0, [o_,o_,o_,o_,o_,o_,i_,o_,i_,o_,o_,o_,o_,o_,o_,o_,o_,o_,o_,o_,o_,o_,o_,o_,o_,o_,i_,i_,o_,o_,o_,o_,o_,o_,o_,o_,o_,o_,o_,o_,o_,o_,o_,o_,o_])] }
def ann31 : FAnn := { ops := [[t1_], [{}, {}, { mode := 3 }, t1_], [t1_, t1_, { mode := 3 }, {}, t1_], [{}, t1_, { mode := 3 }, t1_], [t1_, t1_, t1_, t1_, { mode := 3 }, t1_], [], [{}, {}, t1_, t2_], [t1_, t1_, t1_], [{}, {}, t1_, t2_, t1_, {}, {}, t2_, t1_, t1_, { mode := 3 }, t1_], [t1_, t1_]], keepL := [(0, [o_,o_,o_,o_,o_,o_,i_,i_,i_,o_,o_,o_,o_,o_,o_,o_,o_,o_,o_,o_,o_,o_,o_,o_,o_,o_,o_,o_,o_,o_,o_,o_,o_,o_,o_,o_,o_,o_,o_,o_,o_,o_])] }
def ann32 : FAnn := { ops := [[], [{}, t1_, {}, t1_, t2_], [], [], [{}, {}, t1_, t2_], [t1_, t1_, t1_], [{}, {}, t2_, t1_, {}, {}, t2_, t1_, t2_], [], []], keepL := [(0, [i_,i_,o_,o_,o_,i_,o_,o_,o_,o_,o_,o_,o_,o_,o_,o_,o_,o_,o_,o_,o_,o_,o_,o_,o_,o_])] }
def ann33 : FAnn := { ops := [[t1_], [t1_, { mode := 3 }, t1_, {}, t1_, t1_, t1_], [{}, t1_], [t1_, {}, t1_], [{}, t1_, { mode := 3 }, { mode := 3 }, { mode := 2 }, t1_, t1_]] }
def ann34 : FAnn := { ops := [[t1_], [{}, { mode := 3 }, t1_], [t1_, { mode := 3 }, {}, t1_], [t1_, { mode := 3 }, t1_]] }
def ann35 : FAnn := { ops := [[t1_], [t1_, { mode := 3 }, t1_, {}, t1_, t1_, t1_], [{}, t1_], [t1_, {}, t1_], [t1_, { mode := 3 }, t1_]] }
def ann36 : FAnn := { ops := [[t1_], [{}, { mode := 3 }, t1_], [t1_, { mode := 3 }, {}, t1_], [{}, { mode := 3 }, t1_], [{}, { mode := 3 }, t1_], [], [], [], [{}, {}, t1_, t1_, t2_], [t1_, t1_, t1_], [{}, t1_, {}, t2_, t1_, t1_, { mode := 3 }, {}, t1_, {}, t2_, t1_, { mode := 3 }, t1_, t1_], [], [{}, {}, t1_, t2_], [t1_, t1_, t1_], [{}, {}, {}, t2_, t1_, { mode := 3 }, t1_], [t1_, {}, {}, t2_, t1_, {}, t2_, t1_, t2_, {}, t2_], [t1_, t1_, {}, t2_, t1_, t1_, t2_, t1_, {}, t2_, t1_, {}, {}, t2_, t1_, {}, t2_, t1_, t1_, t1_, t1_], [t1_, t1_]], keepL := [(0, [o_,i_,o_,o_,i_,i_,i_,i_,i_,o_,o_,o_,o_,o_,o_,o_,o_,o_,o_,o_,o_,o_,o_,o_,o_,o_,o_,o_,o_,o_,o_,o_,o_,o_,o_,o_,o_,o_,o_,o_,o_,o_,o_,o_,o_,o_,o_,o_,o_,o_,o_,o_,o_,o_,o_,o_,o_,o_,o_,o_,o_,o_,o_,o_,o_,o_,o_,o_,o_,o_,o_,o_,o_,o_,o_,o_,o_,o_,o_,o_,o_,o_,o_,o_]), (2, [o_,i_,o_,o_,i_,i_,i_,i_,i_,i_,i_,i_,o_,o_,o_,o_,o_,o_,o_,o_,o_,o_,o_,o_,o_,o_,o_,o_,o_,o_,o_,o_,o_,o_,o_,o_,o_,o_,o_,o_,o_,o_,o_,o_,o_,o_,o_,o_,o_,o_,o_,o_,o_,o_,o_,o_,o_,o_,o_,o_,o_,o_,o_,o_,o_,o_,o_,o_,o_,o_,o_,o_,o_,o_,o_,o_,o_,o_,o_,o_,o_,o_,o_,o_])] }
def ann37 : FAnn := { ops := [[t1_], [{}, {}, t1_, { mode := 3 }, t1_, {}, t1_, t1_, t1_], [{}, t1_], [t1_, {}, t1_], [{}, {}, t1_, t1_, t1_, t2_], [], [t1_, t1_, {}, t1_, t1_, { takes := [true, true, true] }, t1_, { mode := 3 }, {}, t1_, t1_, t1_]] }
def ann38 : FAnn := { ops := [[t1_], [{}, { mode := 3 }, t1_], [t1_, { mode := 3 }, {}, t1_], [{}, t1_, t1_, {}, {}, t1_, t1_, t1_, t2_, { takes := [true, false, true] }], [], [t1_, t1_, { mode := 3 }, t1_]] }
def ann39 : FAnn := { ops := [[], [{}, t1_, {}, t1_, t2_], [], [], [{}, {}, t1_, t2_], [t1_, t1_, t1_], [{}, {}, t2_, t1_, t1_, {}, {}, t2_, t1_, t1_, t2_], [], [], [{}, {}, {}, t2_, t1_, t1_, t2_], [t1_, t1_, t1_], [{}, {}, t2_, t1_, {}, t2_, t1_, {}, {}, t2_, t1_, {}, t2_, t1_, t2_], [], []], keepL := [(0, [i_,i_,o_,o_,o_,i_,o_,o_,o_,o_,o_,o_,o_,o_,o_,o_,o_,o_,o_,o_,o_,o_,o_,o_,o_,o_,o_,o_,o_,o_,o_,o_,o_,o_,o_,o_,o_,o_,o_,o_,o_,o_,o_,o_,o_,o_,o_,o_,o_,o_,o_,o_,o_]), (2, [i_,i_,o_,o_,o_,i_,i_,o_,o_,o_,o_,o_,o_,o_,o_,o_,o_,o_,o_,o_,o_,o_,o_,o_,o_,o_,o_,o_,o_,o_,o_,o_,o_,o_,o_,o_,o_,o_,o_,o_,o_,o_,o_,o_,o_,o_,o_,o_,o_,o_,o_,o_,o_])] }
def ann40 : FAnn := { ops := [[t1_], [t1_, {}, t1_, { mode := 3 }, t1_, {}, t1_, t1_, t1_], [{}, t1_], [t1_, {}, t1_], [t1_, t1_, { mode := 3 }, t1_], [{}, t1_, { takes := [false, true] }, t1_], [{}, t1_, t2_], [t1_, t1_]] }
def ann41 : FAnn := { ops := [[t1_], [{}, {}, { mode := 3 }, t1_], [t1_, t1_, { mode := 3 }, {}, t1_], [t1_, t1_, t1_, t2_, t1_, { mode := 3 }, t1_]] }
def ann42 : FAnn := { ops := [[t1_, t1_], [t1_, {}, t1_, { mode := 3 }, t1_, {}, t1_, {}, { takes := [false, true] }, t1_], [{}, t1_], [t1_, {}, t1_], [{}, {}, { mode := 2 }, {}, { takes := [false, true] }], [{}, {}, { mode := 3 }], [t1_], [t1_, t1_, t1_, { mode := 3 }, {}, { takes := [false, true] }], [{}, t1_, { takes := [false, true, true], mode := 1 }, t2_], [t1_, t1_]] }
def ann43 : FAnn := { ops := [[t1_], [{}, {}, { mode := 3 }, t1_], [t1_, t1_, { mode := 3 }, {}, t1_], [t1_, t1_, t1_, t2_, t1_, { mode := 3 }, t1_]] }
def ann44 : FAnn := { ops := [[t1_], [t1_, { mode := 3 }, t1_, {}, t1_, t1_, t1_], [{}, t1_], [t1_, {}, t1_], [t1_, { mode := 3 }, t1_, t1_]] }
def ann45 : FAnn := { ops := [[t1_], [{}, { mode := 3 }, t1_], [t1_, { mode := 3 }, {}, t1_], [t1_, { mode := 3 }, t1_]] }
def ann46 : FAnn := { ops := [[t1_], [t1_, { mode := 3 }, t1_, {}, t1_, t1_, t1_], [{}, t1_, t1_], [t1_, {}, t1_], [{}, t1_, t1_], [], [t1_, { mode := 3 }, {}, { takes := [false, true] }], [t1_, {}, t1_, t2_], [], [t1_, t1_, t1_]] }
def ann47 : FAnn := { ops := [[t1_], [{}, { mode := 3 }, t1_], [t1_, { mode := 3 }, t1_], [{}, t1_], [], [t1_, t1_, { mode := 3 }, t2_], [], []] }
def ann48 : FAnn := { ops := [[t1_], [{}, { mode := 3 }, t1_, t1_, t1_, { mode := 3 }, t1_, t2_, t1_]] }
def ann49 : FAnn := { ops := [[t1_], [{}, { mode := 3 }, t1_, {}, t1_, t1_, t1_], [{}, { mode := 3 }, t1_, {}, t1_, t1_, t1_], [t1_, t1_, t1_, t1_, t1_, { takes := [true, false, true] }, t1_, {}, { mode := 3 }, { takes := [true, false, true] }], [t1_, t1_], [{}, {}, { mode := 3 }, t1_, {}, t1_, t1_, t1_], [t1_, t1_, { mode := 3 }, t1_, {}, t1_, t1_, t1_], [{}, t1_, t1_, t1_, t1_, t1_, t2_, t1_, t1_, {}, t2_, t2_, t1_, t1_, t1_, t2_, t2_, t1_, t1_]] }
def ann50 : FAnn := { ops := [[t1_], [], [], [], [{}, {}, t1_, t1_, t2_], [t1_, t1_, t1_], [], [], [{}, {}, t1_, {}, t2_, t1_, t1_, t2_], [t1_, t1_, t1_], [t1_, {}, t1_, t2_, t1_], [{}, t1_, t1_], [], [{}, t1_, t1_], [{}, {}, {}, t1_, t2_, t2_, t1_, t1_, {}, t1_, t2_, t1_], [t1_, t1_, t1_], [t1_, {}, {}, t2_, t1_, t1_, t2_, t1_], [{}, {}, {}, t2_, t2_, {}, {}, t1_, t2_, t2_, t1_], [t1_, t1_, t1_, t2_, t1_], [t1_, t1_]], keepL := [(0, [o_,i_,i_,o_,o_,i_,i_,i_,o_,o_,o_,o_,o_,o_,o_,o_,o_,o_,o_,o_,o_,o_,o_,o_,o_,o_,o_,o_,o_,o_,o_,o_,o_,o_,o_,o_,o_,o_,o_,o_,o_,o_,o_,o_,o_,o_,o_,o_,o_,o_,o_,o_,o_,o_,o_,o_,o_,o_,o_,o_,o_,o_,o_,o_,o_,o_,o_,o_,o_,o_,o_,o_,o_,o_]), (2, [o_,i_,i_,o_,o_,i_,i_,i_,i_,i_,i_,o_,o_,o_,o_,o_,o_,o_,o_,o_,o_,o_,o_,o_,o_,o_,o_,o_,o_,o_,o_,o_,o_,o_,o_,o_,o_,o_,o_,o_,o_,o_,o_,o_,o_,o_,o_,o_,o_,o_,o_,o_,o_,o_,o_,o_,o_,o_,o_,o_,o_,o_,o_,o_,o_,o_,o_,o_,o_,o_,o_,o_,o_,o_]), (4, [o_,i_,i_,o_,o_,i_,i_,i_,i_,i_,o_,o_,o_,o_,o_,o_,o_,o_,o_,o_,o_,o_,o_,o_,o_,o_,o_,o_,o_,o_,o_,o_,o_,o_,o_,o_,o_,o_,o_,o_,o_,o_,o_,o_,o_,o_,o_,o_,o_,o_,o_,o_,o_,o_,o_,o_,o_,o_,o_,o_,o_,o_,o_,o_,o_,o_,o_,o_,o_,o_,o_,o_,o_,o_])] }
def ann51 : FAnn := { ops := [[], [], [], [{}, {}, t1_, t2_], [t1_, t1_, t1_], [{}, {}, {}, t2_, t1_, { mode := 3 }], [t1_, t1_, t1_], [t1_, t1_]], keepL := [(0, [i_,i_,o_,o_,o_,i_,i_,o_,o_,o_,o_,o_,o_,o_,o_,o_,o_,o_,o_,o_,o_,o_])] }
def ann52 : FAnn := { ops := [[], [], [{}, {}, t1_, t2_], [t1_, t1_, t1_], [{}, {}, t2_, t1_, {}, t2_], [], []], keepL := [(0, [i_,i_,o_,o_,o_,i_,o_,o_,o_,o_,o_,o_,o_,o_,o_,o_,o_,o_])] }
def ann53 : FAnn := { ops := [[], [], [], [{}, {}, t1_, t2_], [t1_, t1_, t1_], [t1_, {}, {}, t2_, t1_, t2_, t1_], [t1_, t1_]], keepL := [(0, [i_,o_,o_,i_,i_,o_,o_,o_,o_,o_,o_,o_,o_,o_,o_,o_,o_,o_])] }
def ann54 : FAnn := { ops := [[t1_], [{}, { mode := 3 }, t1_, {}, t1_, t1_, t1_], [t1_, t1_, t1_, {}, t1_, { takes := [true, false, true] }, t1_, {}, {}, t1_, t1_, t1_, { mode := 3 }, t2_, { takes := [true, false, true] }], [t1_, t1_], [{}, {}, { mode := 3 }, t1_, {}, t1_, t1_, t1_], [{}, {}, t1_, { mode := 3 }, t1_, {}, t1_, t1_, t1_], [t1_, t1_, t1_, t1_, t1_, { takes := [true, false, true] }, t1_, {}, { mode := 3 }, { takes := [true, false, true] }], [t1_, t1_], [{}, {}, { mode := 3 }, t1_, {}, t1_, t1_, t1_], [t1_, t1_, { mode := 3 }, t1_, {}, t1_, t1_, t1_], [{}, t1_, t1_, t1_, t1_, t1_, t2_, t1_, t1_, {}, t2_, t2_, t1_, t1_, t1_, t2_, t2_, t1_, t1_]] }
def ann55 : FAnn := { ops := [[], [], [{}, t1_, t1_, t1_], [{}, t1_], [t1_, t1_, t1_], [t1_, {}, {}, t2_, t1_, t1_, t2_, t1_], [t1_, t1_]], keepL := [(0, [i_,o_,o_,i_,i_,o_,o_,o_,o_,o_,o_,o_,o_,o_,o_,o_,o_,o_,o_,o_])] }
def ann56 : FAnn := { ops := [[], [t1_, t1_, { takes := [false, true] }]] }
def ann57 : FAnn := { ops := [[], [{}, { mode := 3 }, {}, { mode := 3 }, t2_, { mode := 3 }, { takes := [false, true] }]] }
def ann58 : FAnn := { ops := [[], [{}, { mode := 3 }, {}, { mode := 3 }, {}, { mode := 3 }, { takes := [true, true, true] }, { mode := 3 }, { takes := [false, true] }]] }
def ann59 : FAnn := { ops := [[], [t1_, t1_]] }
def ann60 : FAnn := { ops := [[], [t1_, t1_]] }
def ann61 : FAnn := { ops := [[], [t1_, t1_]] }
def ann62 : FAnn := { ops := [[t1_], [{}, { mode := 3 }, t1_, {}, t1_, t1_, t1_], [{}, t1_, t1_], [t1_, {}, t1_], [{}, t1_, t1_, t1_, t1_, t2_, t1_], [], [{}, t1_, t1_], [], [t1_], [], [{}, {}, t1_, t1_, t1_], [{}, {}, {}, { mode := 3 }, t1_], [], [t1_, {}, t1_, t1_, { mode := 3 }, t1_, t2_, t1_], [t1_, t1_], [t1_, t1_]], keepL := [(1, [o_,o_,o_,o_,o_,o_,i_,o_,i_,i_,o_,o_,o_,o_,o_,o_,o_,o_,o_,o_,o_,o_,o_,o_,o_,o_,o_,o_,o_,o_,i_,i_,i_,o_,o_,o_,o_,o_,o_,o_,o_,o_,o_,o_,o_,o_,o_,o_,o_,o_,o_])] }
def ann63 : FAnn := { ops := [[], [{}, t1_], [], [], [{}, {}, t1_, t1_, t1_], [t1_], [], [{}, t1_, t1_], [{}, {}, t1_, t2_, t2_], [t1_, t1_], [t1_, t1_], [{}, t1_], [{}, t1_], [{}, t1_, {}, { takes := [false, true] }], [{}, t1_, t1_, {}, t1_, t2_, t1_, {}, {}, t1_, t1_, t2_, t1_, {}, t1_, { mode := 3 }, t1_, { takes := [false, false, true] }], [{}, t1_, t2_], [t1_, t1_]], keepL := [(0, [i_,o_,o_,i_,o_,o_,o_,o_,o_,o_,i_,i_,i_,o_,o_,o_,o_,o_,o_,o_,o_,o_,o_,o_,o_,o_,o_,o_,o_,o_,o_,o_,o_,o_,o_,o_,o_,o_,o_,o_,o_,o_,o_,o_,o_,o_,o_,o_,o_,o_,o_,o_,o_,o_,o_,o_]), (2, [i_,o_,o_,i_,i_,o_,o_,o_,o_,o_,i_,i_,i_,o_,o_,o_,o_,i_,i_,i_,o_,o_,o_,o_,o_,o_,o_,o_,o_,o_,o_,o_,o_,o_,o_,o_,o_,o_,o_,o_,o_,o_,o_,o_,o_,o_,o_,o_,o_,o_,o_,o_,o_,o_,o_,o_]), (4, [i_,o_,o_,i_,o_,o_,o_,o_,o_,o_,o_,o_,o_,o_,o_,o_,o_,o_,o_,o_,o_,o_,o_,o_,o_,o_,o_,o_,o_,o_,i_,o_,o_,o_,o_,o_,o_,o_,o_,o_,o_,o_,o_,o_,o_,o_,o_,o_,o_,o_,o_,o_,o_,o_,o_,o_])] }
def ann64 : FAnn := { ops := [[t1_], [{}, { mode := 3 }, t1_], [t1_, { mode := 3 }, t1_], [{}, t1_, {}, t1_, t1_, t2_], [], [], [{}, {}, t1_, t2_], [t1_, t1_, t1_], [{}, {}, t2_, t1_, {}, t1_, {}, t2_, t1_, t1_, { mode := 3 }, t1_], [], []], keepL := [(0, [o_,i_,i_,o_,o_,i_,o_,o_,o_,o_,o_,o_,o_,o_,o_,o_,o_,o_,o_,o_,o_,o_,o_,o_,o_,o_,o_,o_,o_,o_,o_,o_,o_,o_,o_])] }
def ann65 : FAnn := { ops := [[t1_], [], [], [{}, {}, t1_, t2_], [t1_, t1_, t1_], [t1_, {}, t1_, {}, t2_, t1_, {}, {}, t2_, t1_, { mode := 3 }, t1_, t2_, t1_], [t1_, t1_]], keepL := [(0, [o_,i_,i_,o_,o_,i_,i_,o_,o_,o_,o_,o_,o_,o_,o_,o_,o_,o_,o_,o_,o_,o_,o_,o_,o_,o_,o_])] }
def ann66 : FAnn := { ops := [[], [t1_, t1_, t1_, { mode := 3 }, t1_, t1_]] }
def ann67 : FAnn := { ops := [[t1_, t1_], [t1_, t2_, { mode := 6 }, t1_, t1_]] }
def ann68 : FAnn := { ops := [[], [t1_, { mode := 3 }, t1_, t1_]] }
def ann69 : FAnn := { ops := [[], [t1_, t1_, { mode := 6 }, t1_, t1_]] }
def ann70 : FAnn := { ops := [[], [t1_, { mode := 3 }, t1_, t1_, t1_, t1_, { mode := 3 }, t2_, t1_]] }
def ann71 : FAnn := { ops := [[], [], [t1_], [], [{}, t1_, t1_], [t1_, t1_, t2_, t1_], [t1_, t1_], [t1_, t1_]], keepL := [(0, [o_,o_,o_,i_,o_,o_,i_,i_,i_,o_,o_,o_,o_,o_,o_,o_,o_])] }
def ann72 : FAnn := { ops := [[], [t1_, t1_, { mode := 3 }, t1_, t1_]] }
def ann73 : FAnn := { ops := [[], [t1_, t1_], [t1_], [], [{}, t1_, t1_], [], [], [{}, t1_, t1_], [t1_, {}, {}, t2_, t1_, {}, t2_, t2_, t2_, t1_], [t1_, t1_], [t1_, t1_], [t1_, t1_]], keepL := [(0, [o_,i_,o_,o_,o_,o_,o_,i_,o_,o_,o_,o_,o_,i_,i_,i_,o_,o_,o_,o_,o_,o_,o_,o_,o_,o_,o_,o_,o_,o_,o_,o_,o_,o_,o_,o_,o_]), (2, [o_,i_,o_,o_,o_,o_,o_,i_,o_,i_,o_,o_,o_,i_,i_,i_,o_,o_,o_,i_,i_,i_,o_,o_,o_,o_,o_,o_,o_,o_,o_,o_,o_,o_,o_,o_,o_])] }
def ann74 : FAnn := { ops := [[], [], [{}, {}, t1_, t2_], [t1_, t1_, t1_], [], [{}, {}, t1_, t2_], [t1_, t1_, t1_], [t1_, {}, {}, t2_, t1_, {}, {}, t2_, t1_, t2_, {}, {}, t2_, t1_, {}, {}, t2_, t1_, t2_, t2_, t2_, t1_], [t1_, t1_]], keepL := [(0, [i_,i_,i_,o_,o_,o_,o_,i_,o_,o_,o_,o_,o_,o_,o_,o_,o_,o_,o_,o_,o_,o_,o_,o_,o_,o_,o_,o_,o_,o_,o_,o_,o_,o_,o_,o_,o_,o_,o_,o_,o_,o_,o_]), (2, [i_,i_,i_,o_,o_,o_,o_,i_,i_,o_,o_,o_,o_,o_,o_,o_,o_,o_,o_,o_,o_,o_,o_,o_,o_,o_,o_,o_,o_,o_,o_,o_,o_,o_,o_,o_,o_,o_,o_,o_,o_,o_,o_])] }
def ann75 : FAnn := { ops := [[t1_], [{}, { mode := 3 }, t1_], [{}, t1_], [t1_, {}, t1_], [t1_], [], [{}, t1_, t1_], [{}, t1_, t1_, t1_, t1_, t1_, { mode := 3 }, t1_], [], [t1_, t1_], [t1_, t1_, t1_, t1_]], keepL := [(0, [o_,o_,i_,o_,o_,o_,o_,o_,o_,o_,o_,o_,o_,o_,i_,i_,i_,o_,o_,o_,o_,o_,o_,o_,o_,o_,o_,o_,o_,o_,o_,o_])] }
def ann76 : FAnn := { ops := [[], [], [t1_], [], [{}, {}, t1_, t1_, t1_], [t1_, {}, t1_, t1_, { mode := 3 }, t1_, t2_, t1_], [t1_, t1_], [t1_, t1_]], keepL := [(0, [i_,o_,o_,o_,o_,i_,o_,o_,i_,i_,i_,o_,o_,o_,o_,o_,o_,o_,o_,o_,o_,o_,o_,o_])] }
def ann77 : FAnn := { ops := [[t1_], [{}, t1_, {}, { takes := [false, true] }], [], [{}, t1_, t1_, t1_, t1_, t1_, t1_, {}, { takes := [false, true] }], [{}, t1_], [{}, t1_, { takes := [false, true] }], [], [{}, {}, { mode := 3 }], [t1_], [t1_, t1_, {}, { mode := 3 }, t1_], [], [t1_], [], [{}, t1_, {}, { takes := [false, true] }], [{}, t1_, t1_], [], [], [{}, t1_, t1_], [{}, t1_, t1_, { mode := 3 }], [t1_, t1_, t1_], [t1_, t1_], [t1_, t1_, t1_, t1_, t2_, t1_, t2_, t1_], [t1_, t1_], [t1_, t1_, { mode := 3 }, {}, { takes := [false, true] }], [{ mode := 1 }, t1_, t1_, {}, t1_, t2_, { mode := 3 }, t1_, {}, t1_, { takes := [true, true, true] }, t1_, t2_, { takes := [false, true] }], [t1_, { takes := [false, true] }], [t1_], [{}, { takes := [false, true] }], [t1_, t1_, { mode := 3 }, t1_, t1_]], keepL := [(0, [o_,i_,o_,i_,i_,i_,o_,o_,o_,o_,o_,o_,o_,o_,o_,o_,o_,o_,o_,o_,o_,o_,o_,o_,o_,o_,o_,o_,o_,o_,o_,o_,o_,o_,o_,o_,o_,o_,o_,o_,o_,o_,o_,o_,o_,o_,o_,o_,o_,o_,o_,o_,o_,o_,o_,o_,o_,o_,o_,o_,o_,o_,o_,o_,o_,o_,o_,o_,o_,o_,o_,o_,o_,o_,o_,o_,o_,o_,o_,o_,o_,o_,o_,o_,o_,o_,o_,o_]), (4, [o_,o_,o_,o_,i_,o_,i_,i_,i_,i_,o_,o_,o_,o_,o_,o_,o_,o_,o_,o_,o_,o_,o_,o_,o_,o_,o_,o_,o_,o_,o_,o_,o_,o_,o_,o_,o_,i_,i_,i_,o_,o_,o_,o_,o_,o_,o_,o_,o_,o_,o_,o_,o_,o_,o_,o_,o_,o_,o_,o_,o_,o_,o_,o_,o_,o_,o_,o_,o_,o_,o_,o_,o_,o_,o_,o_,o_,o_,o_,o_,o_,o_,o_,o_,o_,o_,o_,o_]), (6, [o_,o_,o_,o_,i_,o_,i_,i_,i_,i_,o_,i_,i_,o_,o_,o_,o_,o_,o_,o_,o_,o_,o_,o_,o_,o_,o_,o_,o_,o_,o_,o_,o_,o_,o_,o_,o_,i_,i_,i_,o_,o_,o_,o_,o_,i_,i_,i_,o_,o_,o_,o_,o_,o_,o_,o_,o_,o_,o_,o_,o_,o_,o_,o_,o_,o_,o_,o_,o_,o_,o_,o_,o_,o_,o_,o_,o_,o_,o_,o_,o_,o_,o_,o_,o_,o_,o_,o_])] }
def ann78 : FAnn := { ops := [[t1_], [t1_, { mode := 3 }, t1_, t1_, t1_], [{}, t1_, t1_, t1_], [], [{}, {}, t1_, t2_], [t1_, t1_, t1_], [t1_, {}, {}, t2_, t1_, t2_, t1_], [t1_, t1_]], keepL := [(0, [o_,o_,o_,i_,i_,i_,o_,o_,o_,o_,o_,o_,o_,o_,o_,o_,o_,o_,o_,o_,o_,o_,o_,o_,o_,o_])] }
def ann79 : FAnn := { ops := [[t1_], [{}, t1_, t1_, t1_], [{}, { takes := [false, true] }, t1_], [{}, {}, t1_, {}, t1_, {}, t1_, t2_, t1_, t1_, { mode := 3 }, t1_, { takes := [false, true], mode := 1 }, t2_, t2_], [t1_, t1_, t1_], [{}, t1_], [t1_, t1_, t1_], [{}, t1_, {}, t2_, t1_, { mode := 3 }, {}, t1_, {}, t1_, t2_, t1_, { mode := 3 }, t1_, t1_], [], [{}, {}, t1_, t2_], [t1_, t1_, t1_], [], [], [{}, {}, t1_, t2_], [t1_, t1_, t1_], [t1_, {}, {}, t2_, t1_, {}, {}, t2_, t1_, { mode := 3 }, {}, {}, t1_, t2_, t1_, {}, t2_, t1_, t2_, t2_, t1_], [{}, {}, {}, {}, t2_, { takes := [true], mode := 1 }, t1_, t1_, t2_, t2_, t2_], [t1_, t1_]], keepL := [(0, [o_,i_,o_,o_,i_,i_,o_,o_,o_,o_,o_,o_,o_,o_,o_,o_,o_,o_,o_,o_,o_,o_,o_,o_,o_,o_,o_,o_,o_,o_,o_,o_,o_,o_,o_,o_,o_,o_,o_,o_,o_,o_,o_,o_,o_,o_,o_,o_,o_,o_,o_,o_,o_,o_,o_,o_,o_,o_,o_,o_,o_,o_,o_,o_,o_,o_,o_,o_,o_,o_,o_,o_,o_,o_,o_,o_,o_,o_,o_,o_,o_,o_,o_,o_,o_,o_,o_,o_,o_,o_,o_,o_]), (2, [o_,i_,o_,o_,i_,i_,i_,i_,i_,o_,o_,o_,o_,o_,o_,o_,o_,o_,o_,o_,o_,o_,o_,o_,o_,o_,o_,o_,o_,o_,o_,o_,o_,o_,o_,o_,o_,o_,o_,o_,o_,o_,o_,o_,o_,o_,o_,o_,o_,o_,o_,o_,o_,o_,o_,o_,o_,o_,o_,o_,o_,o_,o_,o_,o_,o_,o_,o_,o_,o_,o_,o_,o_,o_,o_,o_,o_,o_,o_,o_,o_,o_,o_,o_,o_,o_,o_,o_,o_,o_,o_,o_]), (4, [o_,i_,o_,o_,i_,i_,i_,i_,i_,i_,i_,o_,o_,o_,o_,o_,o_,o_,o_,o_,o_,o_,o_,o_,o_,o_,o_,o_,o_,o_,o_,o_,o_,o_,o_,o_,o_,o_,o_,o_,o_,o_,o_,o_,o_,o_,o_,o_,o_,o_,o_,o_,o_,o_,o_,o_,o_,o_,o_,o_,o_,o_,o_,o_,o_,o_,o_,o_,o_,o_,o_,o_,o_,o_,o_,o_,o_,o_,o_,o_,o_,o_,o_,o_,o_,o_,o_,o_,o_,o_,o_,o_])] }
def ann80 : FAnn := { ops := [[], [t1_, { mode := 3 }, t1_]] }
def ann81 : FAnn := { ops := [[], [{}, t1_, { mode := 3 }, t1_], [], [], [{}, {}, t1_, t2_], [t1_, t1_, t1_], [t1_, {}, {}, {}, t2_, t1_, { mode := 3 }, t1_, t2_, t1_], [t1_, t1_]], keepL := [(0, [i_,o_,o_,i_,i_,i_,o_,o_,o_,o_,o_,o_,o_,o_,o_,o_,o_,o_,o_,o_,o_,o_,o_,o_,o_])] }
def ann82 : FAnn := { ops := [[t1_], [t1_, t1_, {}, t1_, t1_, { takes := [true, true, true] }, t1_, { mode := 3 }, t1_]] }
def ann83 : FAnn := { ops := [[], [], [t1_, t1_, t1_, t1_, t1_, t1_, t2_, t1_, t1_], [], [{}, {}, t1_, { takes := [false, true] }, t1_, t2_], [t1_, t1_, t1_], [], [], [], [{}, {}, t1_, t1_, t1_], [t1_, t1_, {}, t1_, t2_, t1_, t2_, t2_, t1_], [t1_, t1_], [t1_, t1_, t1_, t2_, t1_], [{ takes := [true], mode := 1 }, { takes := [false, true], mode := 1 }], [t1_, { takes := [false, true], mode := 1 }, t1_]], keepL := [(0, [o_,o_,o_,o_,o_,i_,i_,i_,o_,o_,o_,o_,o_,o_,o_,o_,o_,o_,o_,o_,o_,o_,o_,o_,o_,o_,o_,o_,o_,o_,o_,o_,o_,o_,o_,o_,o_,o_,o_,o_,o_,o_,o_,o_,o_,o_,o_,o_,o_,o_,o_]), (2, [o_,o_,o_,o_,o_,i_,i_,i_,i_,o_,o_,o_,o_,o_,o_,o_,o_,o_,o_,o_,o_,o_,o_,o_,o_,o_,o_,i_,i_,i_,o_,o_,o_,o_,o_,o_,o_,o_,o_,o_,o_,o_,o_,o_,o_,o_,o_,o_,o_,o_,o_])] }
def ann84 : FAnn := { ops := [[t1_], [{}, { mode := 3 }, t1_], [t1_, { mode := 3 }, t1_], [{}, t1_, t1_, t1_, t1_, t1_, t1_, t2_, { takes := [true, false, true] }], [], []] }
def ann85 : FAnn := { ops := [[], [t1_, { mode := 3 }, t1_]] }
def ann86 : FAnn := { ops := [[t1_, t1_], [t2_, t1_]] }
def ann87 : FAnn := { ops := [[], [], [], [{}, t1_, t1_, t1_, t2_], [], [{}, t1_, t1_], [t1_, {}, t1_, t1_, t1_, t1_, {}, t2_, t1_, t1_, t2_, t1_, t2_, t1_], [t1_, {}, t1_, t2_, t1_], [t1_, t1_], [t1_, t1_]], keepL := [(0, [i_,i_,o_,o_,o_,o_,o_,i_,i_,o_,o_,o_,o_,o_,o_,i_,i_,i_,o_,o_,o_,o_,o_,o_,o_,o_,o_,o_,o_,o_,o_,o_,o_,o_,o_,o_,o_,o_,o_,o_])] }
def ann88 : FAnn := { ops := [[], [{}, {}, { mode := 6 }, t1_], [{}, t1_], [t1_, t1_], [{}, t1_, t1_], [{}, {}, t1_, t2_], [t1_, t1_, t1_], [{}, {}, t2_, t1_, t1_], [{}, {}, { mode := 6 }, t1_], [{}, {}, t1_, t2_, t2_], [t1_, t1_, t1_], [{}, {}, t2_, t1_], [t1_, t1_, t2_, t1_]], keepL := [(0, [i_,i_,o_,o_,o_,i_,i_,o_,o_,o_,o_,o_,o_,o_,o_,o_,o_,o_,o_,o_,o_,o_,o_,o_,o_,o_,o_,o_,o_,o_,o_,o_,o_,o_,o_,o_,o_,o_,o_,o_,o_,o_])] }
def ann89 : FAnn := { ops := [[], [t1_, t1_, { mode := 3 }, t1_, t1_]] }
def ann90 : FAnn := { ops := [[], [{}, t1_, t1_, { mode := 3 }, t1_, { mode := 3 }, t1_]] }
def ann91 : FAnn := { ops := [[t1_], [{}, t1_, t1_, t1_, t1_, t1_, t1_, { mode := 3 }, {}, { takes := [false, true] }], [{}, t1_, t1_, {}, { takes := [false, true] }], [], [{}, t1_, t1_, t1_, t1_, t1_], [], [{}, {}, { takes := [false, true] }], [], [{}, {}, { mode := 3 }], [t1_], [t1_, t1_, {}, { mode := 3 }, t1_], [], [t1_], [], [{}, t1_, {}, { takes := [false, true] }], [t1_, {}, t1_, {}, t1_, {}, t1_, {}, {}, { mode := 3 }, t2_, t2_, t1_, t2_, t1_], [t1_, t1_], [t1_, t1_, { mode := 3 }, {}, { takes := [false, true] }], [{ mode := 1 }, {}, t1_, {}, t1_, t1_, {}, t1_, t1_, { takes := [true, true, true] }, t1_, t1_, t2_, t1_, {}, t1_, { takes := [true, true, true] }, t1_, t2_, { takes := [false, true] }], [t1_, { takes := [false, true] }], [t1_, t1_], [t1_, t1_, { mode := 3 }, { takes := [false, true] }]], keepL := [(0, [o_,i_,i_,i_,i_,i_,o_,o_,o_,o_,o_,o_,o_,o_,o_,o_,o_,o_,o_,o_,o_,o_,o_,o_,o_,o_,o_,o_,o_,o_,i_,i_,o_,o_,o_,o_,o_,o_,o_,o_,o_,o_,o_,o_,o_,o_,o_,o_,o_,o_,o_,o_,o_,o_,o_,o_,o_,o_,o_,o_,o_,o_,o_,o_,o_,o_,o_,o_,o_,o_,o_,o_,o_,o_,o_,o_,o_,o_,o_,o_,o_,o_,o_,o_,o_,o_,o_,o_,o_,o_]), (4, [o_,o_,o_,i_,o_,i_,o_,i_,i_,i_,i_,o_,o_,o_,o_,o_,o_,o_,o_,o_,o_,o_,o_,o_,o_,o_,o_,o_,o_,o_,o_,o_,o_,o_,o_,o_,o_,o_,o_,o_,o_,o_,i_,i_,i_,o_,o_,o_,o_,o_,o_,o_,o_,o_,o_,o_,o_,o_,o_,o_,o_,o_,o_,o_,o_,o_,o_,o_,o_,o_,o_,o_,o_,o_,o_,o_,o_,o_,o_,o_,o_,o_,o_,o_,o_,o_,o_,o_,o_,o_])] }
def ann92 : FAnn := { ops := [[t1_], [{}, t1_, t1_, t1_, { mode := 3 }, t1_], [], [], [{}, {}, t1_, t2_], [t1_, t1_, t1_], [t1_, {}, t1_, t1_, t1_, { mode := 3 }, t1_, t2_, t1_], [], [{}, {}, t1_, t1_, t2_], [t1_, t1_, t1_], [{}, t1_, {}, t2_, t1_, { mode := 3 }, t1_], [], [], [{}, {}, t1_, t2_], [t1_, t1_, t1_], [], [], [{}, {}, t1_, t2_], [t1_, t1_, t1_], [{}, {}, t2_, t1_, {}, t2_], [t1_, {}, {}, t2_, t1_, {}, {}, t2_, t1_, {}, {}, t2_, t1_, { mode := 3 }, t2_, t1_], [t1_, t1_, t1_, t2_, t1_], [t1_, t1_, t1_, t1_], [], [], [{}, {}, t1_, t2_], [t1_, t1_, t1_], [t1_, {}, {}, t2_, t1_, t2_, t1_], [t1_, t1_]], keepL := [(0, [o_,i_,o_,i_,i_,i_,o_,o_,o_,o_,o_,o_,o_,o_,o_,o_,o_,o_,o_,o_,o_,o_,o_,o_,o_,o_,o_,o_,o_,o_,o_,o_,o_,o_,o_,o_,o_,o_,o_,o_,o_,o_,o_,o_,o_,o_,o_,o_,o_,o_,o_,o_,o_,o_,o_,o_,o_,o_,o_,o_,o_,o_,o_,o_,o_,o_,o_,o_,o_,o_,o_,o_,o_,o_,o_,o_,o_,o_,o_,o_,o_,o_,o_,o_,o_,o_,o_,o_,o_,o_,o_,o_,o_,o_,o_,o_,o_,o_]), (2, [o_,i_,o_,i_,i_,o_,i_,o_,o_,o_,o_,o_,o_,o_,o_,o_,o_,o_,o_,o_,o_,o_,o_,o_,o_,o_,o_,o_,o_,o_,o_,o_,o_,o_,o_,o_,o_,o_,o_,o_,o_,o_,o_,o_,o_,o_,o_,o_,o_,o_,o_,o_,o_,o_,o_,o_,o_,o_,o_,o_,o_,o_,o_,o_,o_,o_,o_,o_,o_,o_,o_,o_,o_,o_,o_,o_,o_,o_,o_,o_,o_,o_,o_,o_,o_,o_,o_,o_,o_,o_,o_,o_,o_,o_,o_,o_,o_,o_]), (4, [o_,i_,o_,i_,i_,o_,i_,i_,i_,i_,o_,o_,o_,o_,o_,o_,o_,o_,o_,o_,o_,o_,o_,o_,o_,o_,o_,o_,o_,o_,o_,o_,o_,o_,o_,o_,o_,o_,o_,o_,o_,o_,o_,o_,o_,o_,o_,o_,o_,o_,o_,o_,o_,o_,o_,o_,o_,o_,o_,o_,o_,o_,o_,o_,o_,o_,o_,o_,o_,o_,o_,o_,o_,o_,o_,o_,o_,o_,o_,o_,o_,o_,o_,o_,o_,o_,o_,o_,o_,o_,o_,o_,o_,o_,o_,o_,o_,o_]), (6, [o_,i_,o_,i_,i_,o_,i_,i_,i_,i_,i_,i_,o_,o_,o_,o_,o_,o_,o_,o_,o_,o_,o_,o_,o_,o_,o_,o_,o_,o_,o_,o_,o_,o_,o_,o_,o_,o_,o_,o_,o_,o_,o_,o_,o_,o_,o_,o_,o_,o_,o_,o_,o_,o_,o_,o_,o_,o_,o_,o_,o_,o_,o_,o_,o_,o_,o_,o_,o_,o_,o_,o_,o_,o_,o_,o_,o_,o_,o_,o_,o_,o_,o_,o_,o_,o_,o_,o_,o_,o_,o_,o_,o_,o_,o_,o_,o_,o_]), (8, [o_,o_,o_,o_,i_,o_,o_,o_,o_,o_,o_,o_,i_,i_,o_,o_,o_,o_,o_,o_,o_,o_,o_,o_,o_,o_,o_,o_,o_,o_,o_,o_,o_,o_,o_,o_,o_,o_,o_,o_,o_,o_,o_,o_,o_,o_,o_,o_,o_,o_,o_,o_,o_,o_,o_,o_,o_,o_,o_,o_,o_,o_,o_,o_,o_,o_,o_,o_,o_,o_,o_,o_,o_,o_,o_,o_,o_,o_,o_,o_,o_,o_,o_,o_,o_,o_,o_,o_,o_,o_,o_,o_,o_,o_,o_,o_,o_,o_])] }
def ann93 : FAnn := { ops := [[], [], [{}, t1_], [], [], [{}, t1_, t1_], [{}, t1_, t1_, t1_, t1_, {}, t2_, t1_, t1_, t1_, {}, t1_, { mode := 3 }, t1_, t1_, {}, { takes := [false, true] }, t1_, t1_, { takes := [true, false, true] }], [], [t1_, { takes := [false, true] }, t1_], [t1_, t1_], [t1_, {}, t2_, t1_, t1_, t1_, t1_, t1_, t1_, t1_, t1_, t1_, t2_, t1_, t1_, t2_, t2_, t1_]], keepL := [(0, [i_,i_,i_,o_,o_,o_,o_,i_,o_,o_,o_,i_,i_,i_,o_,o_,o_,o_,o_,o_,o_,o_,o_,o_,o_,o_,o_,o_,o_,o_,o_,o_,o_,o_,o_,o_,o_,o_,o_,o_,o_,o_,o_,o_,o_,o_,o_,o_,o_,o_,o_,o_,o_,o_,o_,o_,o_])] }
def ann94 : FAnn := { ops := [[], [{}, t1_, {}, t2_], [], [], [{}, {}, t2_], [t1_, t1_, t1_], [{}, {}, t2_, t1_, t1_, t1_, {}, {}, t2_, t1_, {}, t2_, { takes := [false, false, true] }, t1_, {}, {}, t2_, {}, {}, t2_, t1_, { mode := 3 }, { takes := [false, false, true] }], [], []], keepL := [(0, [i_,i_,o_,o_,o_,i_,o_,o_,o_,o_,o_,o_,o_,o_,o_,o_,o_,o_,o_,o_,o_,o_,o_,o_,o_,o_,o_,o_,o_,o_,o_,o_,o_,o_,o_,o_,o_,o_])] }
def ann95 : FAnn := { ops := [[], [], [], [], [{}, t1_, {}, t1_, t2_], [t1_, t1_, t1_], [t1_, {}, {}, {}, t2_, t1_, t2_, t1_, t2_, t1_], [t1_, {}, t1_, t2_, t1_], [t1_, t1_]], keepL := [(0, [i_,i_,o_,o_,o_,i_,i_,i_,o_,o_,o_,o_,o_,o_,o_,o_,o_,o_,o_,o_,o_,o_,o_,o_,o_,o_,o_,o_,o_])] }
def ann96 : FAnn := { ops := [[], [t1_, t1_, { mode := 6 }, t1_, t1_]] }
def ann97 : FAnn := { ops := [[], [{}, t1_, t2_, t1_, t1_, t1_, t2_, { takes := [true, false, true] }, t1_]] }
def ann98 : FAnn := { ops := [[], [{}, t1_], [], [{}, t1_], [{}, {}, {}, t2_, t1_, { mode := 6 }], [t1_, t1_], [t1_, t1_], []], keepL := [(0, [i_,i_,o_,o_,o_,o_,o_,i_,i_,o_,o_,o_,o_,o_,o_,o_,o_,o_,o_])] }
def ann99 : FAnn := { ops := [[], [{}, t1_], [], [{}, t1_], [{}, {}, {}, t2_, t1_, t2_], [t1_, t1_], [t1_, t1_], []], keepL := [(0, [i_,i_,o_,o_,o_,o_,o_,i_,i_,o_,o_,o_,o_,o_,o_,o_,o_,o_,o_])] }
def ann100 : FAnn := { ops := [[t1_, t1_], [t1_, t1_, t1_, t1_, t2_, t1_]] }
def ann101 : FAnn := { ops := [[], [{}, t1_, t1_, {}, { takes := [false, true] }], [t1_, t1_], [], [{}, t1_, {}, { takes := [false, true] }], [{}, {}, {}, { mode := 6 }], [t1_, { takes := [false, true] }], [t1_, t1_], [t1_, { takes := [false, true] }]], keepL := [(0, [o_,i_,o_,o_,i_,i_,o_,o_,o_,o_,o_,o_,i_,i_,i_,o_,o_,o_,o_,o_,o_,o_,o_,o_,o_])] }
def ann102 : FAnn := { ops := [[], [], [], [], [{}, t1_, t1_], [t1_, t1_, t1_, t2_, t1_], [{}, t1_], [{}, t1_], [t1_, t1_], [t1_, {}, t1_], [t1_], [], [{}, t1_, t1_], [t1_, t1_, t2_, t1_], [t1_, t1_], [t1_, t1_]], keepL := [(0, [i_,o_,o_,i_,o_,o_,o_,o_,o_,i_,i_,i_,o_,o_,o_,o_,o_,o_,o_,o_,o_,o_,o_,o_,o_,o_,o_,o_,o_,o_,o_,o_,o_,o_,o_,o_]), (2, [o_,o_,o_,o_,o_,o_,i_,o_,o_,o_,o_,o_,o_,o_,o_,o_,o_,o_,o_,o_,o_,o_,o_,o_,o_,i_,i_,i_,o_,o_,o_,o_,o_,o_,o_,o_])] }
def ann103 : FAnn := { ops := [[], [{}, t1_, {}, t2_], [t1_, t1_, t1_], [], [], [{}, {}, t2_], [t1_, t1_, t1_], [{}, {}, { mode := 3 }, t1_], [t1_, {}, {}, {}, t2_, {}, t1_, t2_, { mode := 3 }, t2_, t1_], [t1_, t1_]], keepL := [(0, [i_,i_,o_,o_,o_,i_,i_,o_,o_,o_,o_,o_,o_,o_,o_,o_,o_,o_,o_,o_,o_,o_,o_,o_,o_,o_,o_,o_,o_,o_,o_,o_,o_])] }
def ann104 : FAnn := { ops := [[{}, t1_, t1_], [t1_, {}, t1_, t1_, { mode := 3 }, { takes := [false, true, false, true, true], mode := 1 }]] }
def ann105 : FAnn := { ops := [[], [{}, t1_, t1_], [t1_, t1_], [], [{}, {}, t1_, t2_], [t1_, t1_, t1_], [{}, {}, t2_, t1_, {}, {}, t1_, t2_, t1_, t2_], [{}, {}, t2_, t1_], [], [{}, {}, t1_, t2_], [t1_, t1_, t1_], [{}, {}, t2_, t1_, {}, {}, t1_, t2_, t1_, t2_], [{}, {}, {}, {}, t2_, t1_, t2_, t2_], [t1_, t1_, t1_], [{}, {}, t2_, t1_], [t1_, t1_, t2_, t1_], [t1_, t1_]], keepL := [(0, [i_,o_,o_,i_,o_,o_,o_,o_,o_,o_,o_,o_,o_,o_,o_,o_,o_,o_,o_,o_,o_,o_,o_,o_,o_,o_,o_,o_,o_,o_,o_,o_,o_,o_,o_,o_,o_,o_,o_,o_,o_,o_,o_,o_,o_,o_,o_,o_,o_,o_,o_,o_,o_,o_,o_,o_,o_,o_,o_,o_,o_]), (2, [i_,o_,o_,i_,i_,i_,o_,o_,o_,o_,o_,o_,o_,o_,o_,o_,o_,o_,o_,o_,o_,o_,o_,o_,o_,o_,o_,o_,o_,o_,o_,o_,o_,o_,o_,o_,o_,o_,o_,o_,o_,o_,o_,o_,o_,o_,o_,o_,o_,o_,o_,o_,o_,o_,o_,o_,o_,o_,o_,o_,o_])] }
def ann106 : FAnn := { ops := [[], [{}, { mode := 3 }, t1_], [], [], [{}, {}, { mode := 3 }, t2_], [t1_, t1_, t1_], [], [], [{}, {}, t1_, t2_], [t1_, t1_, t1_], [{}, {}, t2_, t1_, {}, { mode := 3 }], [t1_, t1_, t1_], [t1_, {}, t2_], [t1_, {}, t1_, t2_, t1_], [t1_, t1_]], keepL := [(0, [i_,i_,o_,o_,o_,i_,i_,i_,o_,o_,o_,o_,o_,o_,o_,o_,o_,o_,o_,o_,o_,o_,o_,o_,o_,o_,o_,o_,o_,o_,o_,o_,o_,o_,o_,o_,o_,o_,o_,o_]), (2, [i_,i_,o_,o_,o_,i_,i_,i_,i_,i_,o_,o_,o_,o_,o_,o_,o_,o_,o_,o_,o_,o_,o_,o_,o_,o_,o_,o_,o_,o_,o_,o_,o_,o_,o_,o_,o_,o_,o_,o_])] }
def ann107 : FAnn := { ops := [[], [t1_, t1_, t1_, t1_, t1_, t1_, t2_, t1_, t1_], [], [{}, t1_], [{}, {}, t1_, t1_, t1_, { takes := [true, true, true] }, t1_, t1_, t2_, t1_], [t1_, t1_], [{}, { takes := [true], mode := 1 }, { mode := 6 }, { takes := [true, true], mode := 1 }, t1_], [{}, t1_, t1_, t1_], [{}, t1_, t1_, {}, {}, t2_, t1_, {}, {}, t1_, t2_, t1_, t2_, { takes := [false, true] }], [t1_, t1_, t1_], [{}, t1_], [{}, t1_, t1_, t1_], [{}, {}, t2_, t1_, {}, {}, t2_, t1_, t2_], [t1_, t1_, t1_], [{}, {}, {}, {}, {}, {}, t2_, t1_, {}, {}, t2_, t1_, t2_, t2_, t2_, t2_], [{}, t1_, t1_, t2_, { takes := [false, true], mode := 1 }]], keepL := [(0, [i_,o_,o_,o_,i_,o_,o_,o_,o_,o_,o_,o_,o_,o_,o_,o_,i_,i_,o_,o_,o_,o_,o_,o_,o_,o_,o_,o_,o_,o_,o_,o_,o_,o_,o_,o_,o_,o_,o_,o_,o_,o_,o_,o_,o_,o_,o_,o_,o_,o_,o_,o_,o_,o_,o_,o_,o_,o_,o_,o_,o_,o_,o_,o_,o_,o_,o_,o_,o_,o_,o_,o_,o_,o_,o_,o_,o_,o_,o_,o_,o_,o_,o_,o_,o_,o_,o_,o_,o_]), (2, [i_,o_,o_,o_,i_,o_,o_,o_,o_,o_,o_,o_,o_,o_,o_,o_,o_,o_,o_,o_,o_,o_,o_,o_,o_,o_,o_,o_,o_,o_,o_,o_,o_,o_,o_,o_,o_,o_,o_,o_,o_,o_,o_,o_,o_,o_,o_,o_,o_,o_,o_,o_,o_,o_,o_,o_,o_,o_,o_,o_,o_,o_,o_,o_,o_,o_,o_,o_,o_,o_,o_,o_,o_,o_,o_,o_,o_,o_,o_,o_,o_,o_,o_,o_,o_,o_,o_,o_,o_]), (4, [i_,o_,o_,o_,i_,o_,i_,o_,o_,o_,o_,o_,o_,o_,o_,o_,o_,o_,o_,o_,o_,o_,o_,o_,o_,o_,o_,o_,o_,o_,o_,o_,o_,o_,o_,o_,o_,o_,o_,o_,o_,o_,o_,o_,o_,o_,o_,o_,o_,o_,o_,o_,o_,o_,o_,o_,o_,o_,o_,o_,o_,o_,o_,o_,o_,o_,o_,o_,o_,o_,o_,o_,o_,o_,o_,o_,o_,o_,o_,o_,o_,o_,o_,o_,o_,o_,o_,o_,o_]), (6, [i_,o_,o_,o_,i_,o_,i_,i_,o_,o_,o_,o_,o_,o_,o_,o_,o_,o_,o_,o_,o_,o_,o_,o_,o_,o_,o_,o_,o_,o_,o_,o_,o_,o_,o_,o_,o_,o_,o_,o_,o_,o_,o_,o_,o_,o_,o_,o_,o_,o_,o_,o_,o_,o_,o_,o_,o_,o_,o_,o_,o_,o_,o_,o_,o_,o_,o_,o_,o_,o_,o_,o_,o_,o_,o_,o_,o_,o_,o_,o_,o_,o_,o_,o_,o_,o_,o_,o_,o_])] }
def ann108 : FAnn := { ops := [[], [{}, t1_], [], [{}, t1_, t2_, t1_]] }
def ann109 : FAnn := { ops := [[{}, t1_, t1_, {}, t1_], [{}, {}, t2_], [t1_, t1_, t1_, t1_, t1_, t1_], [{}, {}, {}, {}, {}, {}, t2_, t1_, {}, {}, t2_, t1_, t2_, t2_, t2_, t2_]], keepL := [(0, [i_,o_,i_,i_,o_,o_,o_,o_,o_,o_,o_,o_,o_,o_,o_,o_,o_,o_,o_,o_,o_,o_,o_,o_,o_,o_,o_,o_])] }
def ann110 : FAnn := { ops := [[], [{}, t1_], [], [{}, t1_], [{}, {}, {}, t2_, t1_, { mode := 6 }], [t1_, t1_], [t1_, t1_], []], keepL := [(0, [i_,i_,o_,o_,o_,o_,o_,i_,i_,o_,o_,o_,o_,o_,o_,o_,o_,o_,o_])] }
def ann111 : FAnn := { ops := [[t1_, t1_], [t1_, t1_, t1_, t1_, t2_, t1_]] }
def ann112 : FAnn := { ops := [[], [], [{}, {}, t1_, t2_], [t1_, t1_, t1_], [{}, {}, t2_, t1_, {}, t2_], [], []], keepL := [(0, [i_,i_,o_,o_,o_,i_,o_,o_,o_,o_,o_,o_,o_,o_,o_,o_,o_,o_])] }
def ann113 : FAnn := { ops := [[], [{}, t1_], [{}, t1_], [t1_, {}, t1_, {}, t1_, t2_, t2_, t1_], [{}, t1_], [{}, {}, t1_, t2_, t1_, t2_, t1_, t1_, t2_, t1_], [t1_, t1_]] }
def ann114 : FAnn := { ops := [[], [], [{}, {}, t2_, t1_], [{}, t1_], [t1_, t1_, t1_, { takes := [false, true, true, true], mode := 1 }], [{}, t1_], [t1_, t1_, t1_, { takes := [false, true, true, true], mode := 1 }], [{}, t1_], [{}, {}, {}, { takes := [false, true, true, true], mode := 1 }], [t1_, t1_, t1_], [{}, {}, {}, { takes := [false, true, true, true], mode := 1 }, t1_, {}, t1_, t1_, t1_], [{}, t1_], [{}, {}, {}, { takes := [false, true, true, true], mode := 1 }], [{}, t1_, t1_, {}, t2_, t2_, t1_], [], [{}, t1_, {}, t2_, t1_, t1_, t1_, t2_], [{}, {}, {}, { takes := [false, true, true, true], mode := 1 }], [{}, t1_, t1_, {}, {}, t1_, t2_, t1_, {}, {}, t2_, t1_, { mode := 3 }, t1_, { takes := [false, true] }], [{}, t1_, {}, t1_, { takes := [false, true, true, true, true], mode := 1 }, t1_], [t1_, t1_], [{}, {}, {}, t1_, { takes := [false, true, true, true, true], mode := 1 }, t1_, {}, t1_, t1_, t1_], [t1_, t1_], [{}, {}, t2_, {}, {}, t2_, t1_, t1_], [t1_, t1_, t1_], [{}, {}, t2_], [t1_, t1_, t2_, t1_], [{}, t1_, {}, {}, { takes := [false, true, true, true, true], mode := 1 }], [t1_, t1_, t1_], [t1_, t1_, t2_, t1_], [{}, {}, t1_, t1_, {}, { takes := [false, true, true, true, true], mode := 1 }], [t1_, t1_]], keepL := [(0, [i_,i_,i_,i_,o_,o_,o_,o_,i_,i_,o_,o_,o_,o_,o_,o_,o_,o_,o_,o_,o_,o_,o_,o_,o_,o_,o_,o_,o_,o_,o_,o_,o_,o_,o_,o_,o_,o_,o_,o_,o_,o_,o_,o_,o_,o_,o_,o_,o_,o_,o_,o_,o_,o_,o_,o_,o_,o_,o_,o_,o_,o_,o_,o_,o_,o_,o_,o_,o_,o_,o_,o_,o_,o_,o_,o_,o_,o_,o_,o_,o_,o_,o_,o_,o_,o_,o_,o_,o_,o_,o_,o_,o_,o_,o_,o_,o_,o_,o_,o_,o_,o_,o_,o_,o_,o_,o_,o_,o_,o_,o_,o_,o_,o_,o_,o_,o_,o_,o_,o_,o_,o_,o_,o_,o_,o_,o_,o_,o_,o_,o_,o_,o_,o_])] }
def ann115 : FAnn := { ops := [[], [t1_, t1_, { mode := 3 }, t1_], [t1_, { mode := 3 }, t1_]] }
def ann116 : FAnn := { ops := [[{}, t1_, t1_], [{}, {}, t2_], [t1_, t1_, t1_], [{}, t1_], [{}, {}, t2_, t1_, {}, {}, t2_, t1_, {}, {}, t1_, t2_, t1_, { mode := 3 }, { takes := [false, true] }], [t1_, t1_, t1_], [{}, {}, {}, {}, t1_, {}, {}, t1_, t2_, t1_, {}, {}, t2_, t1_, t2_, t2_, t2_, t2_]], keepL := [(0, [i_,i_,i_,o_,o_,o_,i_,o_,o_,o_,o_,o_,o_,o_,o_,o_,o_,o_,o_,o_,o_,o_,o_,o_,o_,o_,o_,o_,o_,o_,o_,o_,o_,o_,o_,o_,o_,o_,o_,o_,o_,o_,o_,o_,o_,o_,o_,o_,o_]), (2, [i_,i_,i_,o_,o_,o_,i_,i_,o_,o_,o_,o_,o_,o_,o_,o_,o_,o_,o_,o_,o_,o_,o_,o_,o_,o_,o_,o_,o_,o_,o_,o_,o_,o_,o_,o_,o_,o_,o_,o_,o_,o_,o_,o_,o_,o_,o_,o_,o_])] }
def ann117 : FAnn := { ops := [[{}, t1_], [], [t1_, t1_, t2_, t1_], [{}, t1_, t1_, t1_], [{}, t1_], [t1_, t1_, t1_], [{}, {}, {}, {}, { takes := [false, true, true, true, true], mode := 1 }], [t1_, t1_, t1_], [{}, t1_], [t1_, t1_, t1_], [{}, {}, {}, {}, {}, t2_, {}, {}, {}, t2_, t2_, t1_, {}, {}, t2_, t1_, t2_, t2_, t2_, t2_], [{}, {}, {}, {}, { takes := [false, true, true, true, true], mode := 1 }]], keepL := [(0, [i_,o_,o_,o_,o_,o_,i_,i_,i_,i_,o_,o_,o_,o_,o_,o_,o_,o_,o_,o_,o_,o_,o_,o_,o_,o_,o_,o_,o_,o_,o_,o_,o_,o_,o_,o_,o_,o_,o_,o_,o_,o_,o_,o_,o_,o_,o_,o_,o_,o_,o_,o_,o_,o_,o_,o_]), (2, [i_,o_,o_,o_,o_,o_,i_,i_,o_,o_,i_,o_,o_,o_,o_,o_,o_,o_,o_,o_,o_,o_,o_,o_,o_,o_,o_,o_,o_,o_,o_,o_,o_,o_,o_,o_,o_,o_,o_,o_,o_,o_,o_,o_,o_,o_,o_,o_,o_,o_,o_,o_,o_,o_,o_,o_])] }
def ann118 : FAnn := { ops := [[t1_, {}, t2_, t1_], [{}, t1_], [{}, t1_, {}, { takes := [false, true] }], [{}, { mode := 3 }, t1_], [{}, {}, t1_, t1_, t2_, t1_, t1_], [{}, {}, {}, t1_, t1_, t2_, t1_, t2_], [t1_, t1_, t1_], [{ mode := 1 }, {}, t1_, t2_, t1_, t1_], [{}, {}, t2_], [t1_, {}, t2_, t1_], [{}, {}, {}, {}, {}, t2_, {}, {}, {}, t2_, t2_, t1_, {}, {}, t2_, t1_, t2_, t2_, t2_, t2_]], keepL := [(0, [i_,i_,o_,o_,o_,o_,i_,i_,i_,i_,o_,o_,o_,o_,o_,o_,o_,o_,o_,o_,o_,o_,o_,o_,o_,o_,o_,o_,o_,o_,o_,o_,o_,o_,o_,o_,o_,o_,o_,o_,o_,o_,o_,o_,o_,o_,o_,o_,o_,o_,o_,o_,o_,o_,o_,o_,o_,o_,o_,o_,o_,o_,o_,o_,o_])] }
def ann119 : FAnn := { ops := [[], [t1_, {}, t2_, t1_], [], [{}, {}, t1_, t1_, t2_, t1_], [{}, {}, t1_, t1_, t2_, t1_], [t1_, {}, t1_, t1_, t2_, t1_], [{}, t1_], [t1_, t1_], [{}, t1_, { takes := [false, true, true], mode := 1 }, t1_], [{}, t1_, { takes := [false, true, true], mode := 1 }, t1_], [{}, t1_, { takes := [false, true, true], mode := 1 }, t1_], [t1_, t1_, t1_, t1_, { takes := [false, true, true, true, true], mode := 1 }, t1_], [t1_], [t1_, t1_], [{}, t1_], [t1_, t1_], [t1_, t1_], [t1_, t1_]] }
def ann120 : FAnn := { ops := [[t1_, t1_], [t1_, t1_, t1_], [{}, {}, t2_], [{}, {}, {}, {}, {}, {}, t2_, t1_, {}, {}, t2_, t1_, t2_, t2_, t2_, t2_], [t1_, t1_, t1_], [t1_, t1_, t1_]], keepL := [(0, [i_,o_,o_,o_,o_,o_,i_,i_,o_,o_,o_,o_,o_,o_,o_,o_,o_,o_,o_,o_,o_,o_,o_,o_,o_,o_,o_,o_,o_,o_,o_,o_])] }
def ann121 : FAnn := { ops := [[], [{}, t1_, t1_], [], [{}, t1_], [t1_, t1_, t1_], [{}, {}, t2_, t1_, {}, {}, t2_, t1_, {}, {}, t1_, t2_, t1_, { mode := 3 }, t1_, { takes := [false, true] }], [t1_, t1_, t1_], [{}, {}, t2_], [], [{}, {}, t2_, t1_], [], [{}, {}, {}, {}, t1_, {}, {}, t1_, t2_, t1_, {}, {}, t2_, t1_, t2_, t2_, t2_, t2_], [{}, {}, t2_, t1_], [{}, t1_, t1_], [{}, t1_], [t1_, t1_, t1_], [{}, {}, t2_, t1_, {}, {}, t1_, t2_, t1_, { mode := 3 }, t1_], [{}, {}, {}, {}, t1_, {}, {}, t1_, t2_, t1_, {}, {}, t2_, t1_, t2_, t2_, t2_, t2_], [{}, {}, t2_, t1_], [{}, t1_, t1_], [{}, {}, t2_], [t1_, t1_, t1_], [{}, {}, t2_, t1_, {}, {}, t1_, t2_, t1_, { mode := 3 }, t1_], [{}, {}, {}, {}, t1_, {}, {}, t1_, t2_, t1_, {}, {}, t2_, t1_, t2_, t2_, t2_, t2_], []], keepL := [(0, [i_,i_,i_,o_,o_,o_,o_,i_,i_,o_,o_,o_,o_,o_,o_,o_,o_,o_,o_,o_,o_,o_,o_,o_,o_,o_,o_,o_,o_,o_,o_,o_,o_,o_,o_,o_,o_,o_,o_,o_,o_,o_,o_,o_,o_,o_,o_,o_,o_,o_,o_,o_,o_,o_,o_,o_,o_,o_,o_,o_,o_,o_,o_,o_,o_,o_,o_,o_,o_,o_,o_,o_,o_,o_,o_,o_,o_,o_,o_,o_,o_,o_,o_,o_,o_,o_,o_,o_,o_,o_,o_,o_,o_,o_,o_,o_,o_,o_,o_,o_,o_,o_,o_,o_,o_,o_,o_,o_,o_,o_,o_,o_,o_,o_,o_,o_,o_,o_,o_,o_,o_,o_,o_,o_,o_,o_,o_,o_,o_,o_,o_,o_,o_]), (2, [i_,i_,i_,o_,o_,o_,o_,i_,i_,o_,o_,o_,o_,o_,o_,o_,o_,o_,o_,o_,o_,o_,o_,o_,o_,o_,o_,o_,o_,o_,o_,o_,o_,o_,o_,o_,o_,o_,o_,o_,o_,o_,o_,o_,o_,o_,o_,o_,o_,o_,o_,o_,o_,o_,o_,o_,o_,o_,o_,o_,o_,o_,o_,o_,o_,o_,o_,o_,o_,o_,o_,o_,o_,o_,o_,o_,o_,o_,o_,o_,o_,o_,o_,o_,o_,o_,o_,o_,o_,o_,o_,o_,o_,o_,o_,o_,o_,o_,o_,o_,o_,o_,o_,o_,o_,o_,o_,o_,o_,o_,o_,o_,o_,o_,o_,o_,o_,o_,o_,o_,o_,o_,o_,o_,o_,o_,o_,o_,o_,o_,o_,o_,o_]), (4, [i_,i_,i_,o_,o_,o_,o_,i_,i_,i_,o_,o_,o_,o_,o_,o_,o_,o_,o_,o_,o_,o_,o_,o_,o_,o_,o_,o_,o_,o_,o_,o_,o_,o_,o_,o_,o_,o_,o_,o_,o_,o_,o_,o_,o_,o_,o_,o_,o_,o_,o_,o_,o_,o_,o_,o_,o_,o_,o_,o_,o_,o_,o_,o_,o_,o_,o_,o_,o_,o_,o_,o_,o_,o_,o_,o_,o_,o_,o_,o_,o_,o_,o_,o_,o_,o_,o_,o_,o_,o_,o_,o_,o_,o_,o_,o_,o_,o_,o_,o_,o_,o_,o_,o_,o_,o_,o_,o_,o_,o_,o_,o_,o_,o_,o_,o_,o_,o_,o_,o_,o_,o_,o_,o_,o_,o_,o_,o_,o_,o_,o_,o_,o_]), (6, [i_,i_,i_,o_,o_,o_,o_,i_,i_,o_,i_,o_,o_,o_,o_,o_,o_,o_,o_,o_,o_,o_,o_,o_,o_,o_,o_,o_,o_,o_,o_,o_,o_,o_,o_,o_,o_,o_,o_,o_,o_,o_,o_,o_,o_,o_,o_,o_,o_,o_,o_,o_,o_,o_,o_,o_,o_,o_,o_,o_,o_,o_,o_,o_,o_,o_,o_,o_,o_,o_,o_,o_,o_,o_,o_,o_,o_,o_,o_,o_,o_,o_,o_,o_,o_,o_,o_,o_,o_,o_,o_,o_,o_,o_,o_,o_,o_,o_,o_,o_,o_,o_,o_,o_,o_,o_,o_,o_,o_,o_,o_,o_,o_,o_,o_,o_,o_,o_,o_,o_,o_,o_,o_,o_,o_,o_,o_,o_,o_,o_,o_,o_,o_])] }
def ann122 : FAnn := { ops := [[], [{}, { mode := 3 }, t1_, {}, { mode := 3 }, t1_, t2_, t1_, t1_, t1_, t2_, { takes := [true, false, true] }, t1_]] }
def ann123 : FAnn := { ops := [[], [{}, {}, {}, {}, {}, {}, t2_, t1_, {}, {}, t2_, t1_, t2_, t2_, t2_, t2_], [{}, t1_, t1_, t1_, t1_, t1_], [{}, {}, t2_, t1_, {}, {}, t2_, t1_, {}, {}, t2_, t1_, { mode := 3 }, t1_, { takes := [false, true] }], [t1_, t1_, t1_], [{}, {}, t2_, t1_, {}, {}, t2_, t1_, {}, {}, t2_, t1_, { mode := 3 }, { takes := [false, true] }], [t1_, t1_, t1_], [{}, {}, t2_], [{}, {}, {}, {}, {}, {}, t2_, t1_, {}, {}, t2_, t1_, t2_, t2_, t2_, t2_], [t1_, t1_, t1_], [t1_, t1_, t1_], [t1_, t1_]], keepL := [(0, [i_,i_,o_,o_,o_,o_,o_,o_,o_,i_,i_,o_,o_,o_,o_,o_,o_,o_,o_,o_,o_,o_,o_,o_,o_,o_,o_,o_,o_,o_,o_,o_,o_,o_,o_,o_,o_,o_,o_,o_,o_,o_,o_,o_,o_,o_,o_,o_,o_,o_,o_,o_,o_,o_,o_,o_,o_,o_,o_,o_,o_,o_,o_,o_,o_,o_,o_,o_,o_,o_,o_,o_,o_,o_,o_,o_,o_,o_,o_,o_,o_,o_,o_,o_]), (2, [i_,i_,o_,o_,o_,o_,o_,o_,o_,i_,i_,o_,o_,o_,o_,o_,o_,o_,o_,o_,o_,o_,o_,o_,o_,o_,o_,o_,o_,o_,o_,o_,o_,o_,o_,o_,o_,o_,o_,o_,o_,o_,o_,o_,o_,o_,o_,o_,o_,o_,o_,o_,o_,o_,o_,o_,o_,o_,o_,o_,o_,o_,o_,o_,o_,o_,o_,o_,o_,o_,o_,o_,o_,o_,o_,o_,o_,o_,o_,o_,o_,o_,o_,o_]), (4, [i_,i_,o_,o_,o_,o_,o_,o_,o_,i_,i_,o_,o_,o_,o_,o_,o_,o_,o_,o_,o_,o_,o_,o_,o_,o_,o_,o_,o_,o_,o_,o_,o_,o_,o_,o_,o_,o_,o_,o_,o_,o_,o_,o_,o_,o_,o_,o_,o_,o_,o_,o_,o_,o_,o_,o_,o_,o_,o_,o_,o_,o_,o_,o_,o_,o_,o_,o_,o_,o_,o_,o_,o_,o_,o_,o_,o_,o_,o_,o_,o_,o_,o_,o_])] }
def ann124 : FAnn := { ops := [[], [{}, {}, {}, {}, {}, {}, t2_, t1_, {}, {}, t2_, t1_, t2_, t2_, t2_, t2_], [{}, t1_, t1_, t1_, t1_, t1_], [{}, {}, t2_, t1_, {}, {}, t2_, t1_, {}, {}, t2_, t1_, { mode := 3 }, { takes := [false, true] }], [t1_, t1_, t1_], [{}, {}, t2_, t1_, {}, {}, t2_, t1_, {}, {}, t2_, t1_, { mode := 3 }, t1_, { takes := [false, true] }], [t1_, t1_, t1_], [{}, {}, t2_], [{}, {}, {}, {}, {}, {}, t2_, t1_, {}, {}, t2_, t1_, t2_, t2_, t2_, t2_], [t1_, t1_], [{}, {}, {}, {}, {}, {}, t2_, t1_, {}, {}, t2_, t1_, t2_, t2_, t2_, t2_], [t1_, t1_, t1_], [t1_, t1_, t1_], [{}, {}, t2_, t1_, {}, {}, t2_, t1_, {}, {}, t2_, t1_, { mode := 3 }, { takes := [false, true] }], [t1_, t1_, t1_], [{}, {}, t2_, t1_, {}, {}, t2_, t1_, {}, {}, t2_, t1_, { mode := 3 }, t1_, { takes := [false, true] }], [t1_, t1_, t1_], [{}, {}, t2_], [{}, {}, {}, {}, {}, {}, t2_, t1_, {}, {}, t2_, t1_, t2_, t2_, t2_, t2_], [t1_, t1_, t1_], [t1_, t1_, t1_], [{}, {}, {}, {}, {}, {}, t2_, t1_, {}, {}, t2_, t1_, t2_, t2_, t2_, t2_], [t1_, t1_]], keepL := [(0, [i_,i_,o_,o_,o_,o_,o_,o_,o_,o_,i_,i_,o_,o_,o_,o_,o_,o_,o_,o_,o_,o_,o_,o_,o_,o_,o_,o_,o_,o_,o_,o_,o_,o_,o_,o_,o_,o_,o_,o_,o_,o_,o_,o_,o_,o_,o_,o_,o_,o_,o_,o_,o_,o_,o_,o_,o_,o_,o_,o_,o_,o_,o_,o_,o_,o_,o_,o_,o_,o_,o_,o_,o_,o_,o_,o_,o_,o_,o_,o_,o_,o_,o_,o_,o_,o_,o_,o_,o_,o_,o_,o_,o_,o_,o_,o_,o_,o_,o_,o_,o_,o_,o_,o_,o_,o_,o_,o_,o_,o_,o_,o_,o_,o_,o_,o_,o_,o_,o_,o_,o_,o_,o_,o_,o_,o_,o_,o_,o_,o_,o_,o_,o_,o_,o_,o_,o_,o_,o_,o_,o_,o_,o_,o_,o_,o_,o_,o_,o_,o_,o_,o_,o_,o_,o_,o_,o_,o_,o_,o_,o_,o_,o_,o_,o_,o_,o_,o_]), (2, [i_,i_,o_,o_,o_,o_,o_,o_,o_,o_,i_,i_,o_,o_,o_,o_,o_,o_,o_,o_,o_,o_,o_,o_,o_,o_,o_,o_,o_,o_,o_,o_,o_,o_,o_,o_,o_,o_,o_,o_,o_,o_,o_,o_,o_,o_,o_,o_,o_,o_,o_,o_,o_,o_,o_,o_,o_,o_,o_,o_,o_,o_,o_,o_,o_,o_,o_,o_,o_,o_,o_,o_,o_,o_,o_,o_,o_,o_,o_,o_,o_,o_,o_,o_,o_,o_,o_,o_,o_,o_,o_,o_,o_,o_,o_,o_,o_,o_,o_,o_,o_,o_,o_,o_,o_,o_,o_,o_,o_,o_,o_,o_,o_,o_,o_,o_,o_,o_,o_,o_,o_,o_,o_,o_,o_,o_,o_,o_,o_,o_,o_,o_,o_,o_,o_,o_,o_,o_,o_,o_,o_,o_,o_,o_,o_,o_,o_,o_,o_,o_,o_,o_,o_,o_,o_,o_,o_,o_,o_,o_,o_,o_,o_,o_,o_,o_,o_,o_]), (4, [i_,i_,o_,o_,o_,o_,o_,o_,o_,o_,i_,i_,o_,o_,o_,o_,o_,o_,o_,o_,o_,o_,o_,o_,o_,o_,o_,o_,o_,o_,o_,o_,o_,o_,o_,o_,o_,o_,o_,o_,o_,o_,o_,o_,o_,o_,o_,o_,o_,o_,o_,o_,o_,o_,o_,o_,o_,o_,o_,o_,o_,o_,o_,o_,o_,o_,o_,o_,o_,o_,o_,o_,o_,o_,o_,o_,o_,o_,o_,o_,o_,o_,o_,o_,o_,o_,o_,o_,o_,o_,o_,o_,o_,o_,o_,o_,o_,o_,o_,o_,o_,o_,o_,o_,o_,o_,o_,o_,o_,o_,o_,o_,o_,o_,o_,o_,o_,o_,o_,o_,o_,o_,o_,o_,o_,o_,o_,o_,o_,o_,o_,o_,o_,o_,o_,o_,o_,o_,o_,o_,o_,o_,o_,o_,o_,o_,o_,o_,o_,o_,o_,o_,o_,o_,o_,o_,o_,o_,o_,o_,o_,o_,o_,o_,o_,o_,o_,o_]), (6, [i_,i_,o_,o_,o_,o_,o_,o_,o_,o_,i_,i_,o_,o_,o_,o_,o_,o_,o_,o_,o_,o_,o_,o_,o_,o_,o_,o_,o_,o_,o_,o_,o_,o_,o_,o_,o_,o_,o_,o_,o_,o_,o_,o_,o_,o_,o_,o_,o_,o_,o_,o_,o_,o_,o_,o_,o_,o_,o_,o_,o_,o_,o_,o_,o_,o_,o_,o_,o_,o_,o_,o_,o_,o_,o_,o_,o_,o_,o_,o_,o_,o_,o_,o_,o_,o_,o_,o_,o_,o_,o_,o_,o_,o_,o_,o_,o_,o_,o_,o_,o_,o_,o_,o_,o_,o_,o_,o_,o_,o_,o_,o_,o_,o_,o_,o_,o_,o_,o_,o_,o_,o_,o_,o_,o_,o_,o_,o_,o_,o_,o_,o_,o_,o_,o_,o_,o_,o_,o_,o_,o_,o_,o_,o_,o_,o_,o_,o_,o_,o_,o_,o_,o_,o_,o_,o_,o_,o_,o_,o_,o_,o_,o_,o_,o_,o_,o_,o_]), (8, [i_,i_,o_,o_,o_,o_,o_,o_,o_,o_,i_,i_,o_,o_,o_,o_,o_,o_,o_,o_,o_,o_,o_,o_,o_,o_,o_,o_,o_,o_,o_,o_,o_,o_,o_,o_,o_,o_,o_,o_,o_,o_,o_,o_,o_,o_,o_,o_,o_,o_,o_,o_,o_,o_,o_,o_,o_,o_,o_,o_,o_,o_,o_,o_,o_,o_,o_,o_,o_,o_,o_,o_,o_,o_,o_,o_,o_,o_,o_,o_,o_,o_,o_,o_,o_,o_,o_,o_,o_,o_,o_,o_,o_,o_,o_,o_,o_,o_,o_,o_,o_,o_,o_,o_,o_,o_,o_,o_,o_,o_,o_,o_,o_,o_,o_,o_,o_,o_,o_,o_,o_,o_,o_,o_,o_,o_,o_,o_,o_,o_,o_,o_,o_,o_,o_,o_,o_,o_,o_,o_,o_,o_,o_,o_,o_,o_,o_,o_,o_,o_,o_,o_,o_,o_,o_,o_,o_,o_,o_,o_,o_,o_,o_,o_,o_,o_,o_,o_])] }
def ann125 : FAnn := { ops := [[], [{}, t1_], [t1_, t1_, t1_], [], [{}, t1_], [t1_, t1_, t1_], [t1_, t1_, t1_], [t1_, t1_, t1_, { takes := [false, true] }, t1_, t2_, t1_]] }
def ann126 : FAnn := { ops := [[], [{}, t1_], [t1_, t1_, t1_], [], [{}, t1_], [t1_, t1_, t1_], [t1_, t1_, t1_], [{}, t1_], [t1_, t1_, t1_], [t1_, t1_, t1_], [t1_, t1_, t1_, { takes := [false, true] }, t1_, t2_, t1_]] }
def ann127 : FAnn := { ops := [[t1_, t1_], [{}, { takes := [false, true] }, t1_, t1_], [{}, {}, t2_], [{}, t1_, {}, t2_, t1_, {}, {}, {}, t2_, t2_, t1_, {}, {}, {}, t2_, t1_, t2_, t1_, { mode := 3 }, { takes := [false, true] }], [t1_, t1_, t1_], [{}, {}, {}, t2_, t2_, t1_, {}, {}, {}, t2_, t2_, t1_, { mode := 3 }, t1_], [{}, {}, {}, t2_, {}, {}, {}, t2_, {}, {}, {}, t2_, t2_, t1_, {}, {}, {}, t2_, t2_, t1_, t2_, t2_, t2_, t2_], [t1_, t1_]], keepL := [(0, [i_,o_,i_,i_,o_,o_,o_,o_,i_,o_,o_,o_,o_,o_,o_,o_,o_,o_,o_,o_,o_,o_,o_,o_,o_,o_,o_,o_,o_,o_,o_,o_,o_,o_,o_,o_,o_,o_,o_,o_,o_,o_,o_,o_,o_,o_,o_,o_,o_,o_,o_,o_,o_,o_,o_,o_,o_,o_,o_,o_,o_,o_,o_,o_,o_,o_,o_,o_,o_,o_,o_,o_,o_,o_,o_,o_])] }
def ann128 : FAnn := { ops := [[], [t1_, t1_, { mode := 3 }, { takes := [false, true] }, t1_]] }
def ann129 : FAnn := { ops := [[], [{}, {}, t1_, {}, t1_, t1_, t1_, t2_, {}, t2_], [{}, {}, t1_, {}, t1_, t1_, t1_, t2_, {}, t2_], [{}, {}, t1_, {}, t1_, t1_, t1_, t2_, {}, t2_], [t1_, t1_, t1_, t1_]] }
def ann130 : FAnn := { ops := [[], [t1_, {}, t1_, {}, t1_, t1_, t1_, { takes := [false, true, true, true, true, true], mode := 1 }, t1_]] }
def ann131 : FAnn := { ops := [[], [{}, t1_, t1_, {}, { takes := [false, true, true, true, true], mode := 1 }, t1_, {}, t1_, t1_, t1_], [{}, t1_, t1_, {}, { takes := [false, true, true, true, true], mode := 1 }, t1_, {}, t1_, t1_, t1_], [t1_, t1_, t1_, t1_, { takes := [false, true, true, true, true], mode := 1 }, t1_, {}, t1_, t1_, t1_], [t1_, t1_]] }
def ann132 : FAnn := { ops := [[], [{}, t1_, t2_, t1_]] }
def ann133 : FAnn := { ops := [[], [{}, {}, t2_, t1_, {}, {}, t2_, t1_, { mode := 3 }], [t1_, {}, t1_, t1_, t1_, t2_], [t1_, t1_, t1_, t1_], [t1_, t1_, t1_, t1_]] }
def annL : List FAnn := [{}, {}, ann2, ann3, ann4, ann5, ann6, ann7, ann8, ann9, ann10, ann11, ann12, ann13, ann14, ann15, ann16, ann17, ann18, ann19, ann20, ann21, ann22, ann23, ann24, ann25, ann26, ann27, ann28, ann29, ann30, ann31, ann32, ann33, ann34, ann35, ann36, ann37, ann38, ann39, ann40, ann41, ann42, ann43, ann44, ann45, ann46, ann47, ann48, ann49, ann50, ann51, ann52, ann53, ann54, ann55, ann56, ann57, ann58, ann59, ann60, ann61, ann62, ann63, ann64, ann65, ann66, ann67, ann68, ann69, ann70, ann71, ann72, ann73, ann74, ann75, ann76, ann77, ann78, ann79, ann80, ann81, ann82, ann83, ann84, ann85, ann86, ann87, ann88, ann89, ann90, ann91, ann92, ann93, ann94, ann95, ann96, ann97, ann98, ann99, ann100, ann101, ann102, ann103, ann104, ann105, ann106, ann107, ann108, ann109, ann110, ann111, ann112, ann113, ann114, ann115, ann116, ann117, ann118, ann119, ann120, ann121, ann122, ann123, ann124, ann125, ann126, ann127, ann128, ann129, ann130, ann131, ann132, ann133, {}, {}, {}, {}, {}, {}, {}, {}, {}, {}, {}, {}, {}, {}, {}, {}]
def ann (k : FuncId) : FAnn := annL.getD k {}
end Go.Proofs.Ytlcebaejlnpdeaa.Ab

/- MADE BY PROGRAM (rc.py): functions, looked up. -/
namespace Go.Proofs.Ytlcebaejlnpdeaa.Ab
open Go
noncomputable def rc21 : RC :=
  .seq (.reg false [I_ 2 [.tk 0] .box, I_ 4 [.cv (.int .i64 0)] .mv, I_ 5 [.cv (.int .i64 0)] .mv]) (.seq (.reg false [I_ 9 [.tv 2] (.ld (.str 1)), I_ 10 [.tk 1] .mv, I_ 11 [.cv (.func 62 [] []), .sl 9, .sl 10] (.call 3), I_ 8 [.tk
  11] .mv, I_ 12 [.sl 8] (.ext 0), I_ 13 [.tv 8] (.ext 1), I_ 6 [.tk 12] .mv, I_ 7 [.tk 13] .mv]) (.seq (.seq (.reg false [I_ 14 [.sl 7] .mv, I_ 15 [.tv 14, .cv (.int .i64 0)] (.bin .neq)]) (.cond (.sl 15) (.seq (.reg false [I_
  16 [.tk 7] .mv, I_ 4 [.cv (.int .i64 0)] .mv, I_ 5 [.tk 16] .mv]) .ret) .skip)) (.seq (.reg false [I_ 17 [.tk 6] .mv, I_ 18 [.cv (.func 63 [] []), .sl 17] (.call 2), I_ 19 [.tk 18] .lenM, I_ 4 [.tk 19] .mv, I_ 5 [.cv (.int .i64
  0)] .mv]) .ret)))
theorem lk21 : linkF Go.Proofs.Try.prog ann21 21 = some (rc21, 20, [.tmp 4, .tmp 5]) := by kernel_rfl
noncomputable def rc25 : RC :=
  .seq (.reg false [I_ 1 [.tk 0] .box, I_ 2 [.cv (.int .i64 0)] .mv]) (.seq (.reg false [I_ 3 [.cv (.func 66 [] [])] .mv]) (.seq (.reg false [I_ 4 [.cv (.func 68 [] [])] .mv]) (.seq (.block 0 (.seq (.reg false [I_ 6 [.sl 1] (.fa
  0), I_ 7 [.tv 6] (.ld .one), I_ 8 [.tk 7] .lenS, I_ 9 [.tv 8] (.buildS 1 1 [.int .i64 0] [0]), I_ 10 [.cv (.func 67 [] []), .cv (.int .i64 2), .cv (.int .i64 4), .sl 9] (.call 3), I_ 11 [.tv 10] (.un .not), I_ 12 [.tk 11] .mv,
  ⟨some 13, [.sl 1], some (12, false), none, .fa 0⟩, ⟨some 14, [.tv 13], some (12, false), none, .ld .one⟩, ⟨some 15, [.tk 3], some (12, false), none, .mv⟩, ⟨some 16, [.cv (.func 69 [] []), .sl 14, .sl 15], some (12, false),
  none, .call 3⟩, I_ 17 [.tv 12, .cv (.bool true), .tv 16] .pick, I_ 5 [.tk 17] .mv]) (.cond (.sl 5) (.seq (.reg false [I_ 2 [.cv (.int .i64 6)] .mv]) .ret) (.seq (.reg false [I_ 19 [.sl 1] (.fa 0), I_ 20 [.tv 19] (.ld .one), I_
  21 [.tk 4] .mv, I_ 22 [.cv (.func 69 [] []), .sl 20, .sl 21] (.call 3), I_ 18 [.tk 22] .mv]) (.cond (.sl 18) (.seq (.reg false [I_ 2 [.cv (.int .i64 3)] .mv]) .ret) (.seq (.reg false [I_ 24 [.sl 1] (.fa 0), I_ 25 [.tv 24] (.ld
  .one), I_ 26 [.tv 1] (.mkF 70 0 1), I_ 27 [.cv (.func 69 [] []), .sl 25, .sl 26] (.call 6), I_ 23 [.tk 27] .mv]) (.cond (.sl 23) (.seq (.reg false [I_ 2 [.cv (.int .i64 15)] .mv]) .ret) .skip))))))) (.seq (.reg false [I_ 2 [.cv
  (.int .i64 0)] .mv]) .ret))))
theorem lk25 : linkF Go.Proofs.Try.prog ann25 25 = some (rc25, 28, [.tmp 2]) := by kernel_rfl
noncomputable def rc33 : RC :=
  .seq (.reg false [I_ 1 [.tk 0] .box, I_ 2 [.cv (.int .i64 0)] .mv, I_ 3 [.cv (.int .i64 0)] .mv]) (.seq (.reg false [I_ 7 [.tv 1] (.ld (.str 1)), I_ 8 [.cv (.func 75 [] []), .sl 7, .cv (.lst [] 0 .full)] (.call 3), I_ 6 [.tk 8]
  .mv, I_ 9 [.sl 6] (.ext 0), I_ 10 [.tv 6] (.ext 1), I_ 4 [.tk 9] .mv, I_ 5 [.tk 10] .mv]) (.seq (.seq (.reg false [I_ 11 [.sl 5] .mv, I_ 12 [.tv 11, .cv (.int .i64 0)] (.bin .neq)]) (.cond (.sl 12) (.seq (.reg false [I_ 13 [.tk
  5] .mv, I_ 2 [.cv (.int .i64 0)] .mv, I_ 3 [.tk 13] .mv]) .ret) .skip)) (.seq (.reg false [I_ 14 [.sl 4] .mv, I_ 15 [.tk 4] .mv, I_ 16 [.cv (.func 77 [] []), .sl 15] (.call 3), I_ 17 [.cv (.func 76 [] []), .sl 14, .sl 16]
  (.call 3), I_ 18 [.cv (.func 63 [] []), .sl 17] (.call 2), I_ 19 [.tk 18] .lenM, I_ 2 [.tk 19] .mv, I_ 3 [.cv (.int .i64 0)] .mv]) .ret)))
theorem lk33 : linkF Go.Proofs.Try.prog ann33 33 = some (rc33, 20, [.tmp 2, .tmp 3]) := by kernel_rfl
noncomputable def rc37 : RC :=
  .seq (.reg false [I_ 2 [.tk 0] .box, I_ 4 [.cv (.int .i64 0)] .mv, I_ 5 [.cv (.int .i64 0)] .mv]) (.seq (.seq (.reg false [I_ 9 [.sl 2] (.ld (.str 1)), I_ 10 [.sl 1] .mv, I_ 11 [.tv 10] (.buildS 1 1 [.int .i64 0] [0]), I_ 12 [.cv
  (.func 75 [] []), .sl 9, .sl 11] (.call 3), I_ 8 [.tk 12] .mv, I_ 13 [.sl 8] (.ext 0), I_ 14 [.tv 8] (.ext 1), I_ 6 [.tk 13] .mv, I_ 7 [.tk 14] .mv]) (.seq (.reg false [I_ 15 [.sl 7] .mv, I_ 16 [.tv 15, .cv (.int .i64 0)] (.bin
  .neq)]) (.cond (.sl 16) (.seq (.reg false [I_ 17 [.tk 7] .mv, I_ 4 [.cv (.int .i64 0)] .mv, I_ 5 [.tk 17] .mv]) .ret) .skip))) (.seq (.seq (.reg false [I_ 18 [.sl 1] .mv, I_ 19 [.sl 2] (.fa 0), I_ 20 [.tv 19] (.ld .one), I_ 21
  [.tk 20] .lenS, I_ 22 [.tv 21, .cv (.int .i64 1)] (.bin .sub), I_ 23 [.tv 18, .tv 22] (.bin .eql)]) (.cond (.sl 23) (.seq (.reg false [I_ 4 [.cv (.int .i64 0)] .mv, I_ 5 [.cv (.int .i64 2)] .mv]) .ret) .skip)) (.seq (.reg false
  [I_ 24 [.tv 2] (.fa 0), I_ 25 [.tv 24] (.ld .one), I_ 26 [.sl 1] .mv, I_ 27 [.tk 1] .mv, I_ 28 [.tv 27, .cv (.int .i64 2)] (.bin .add), I_ 29 [.tk 25, .tk 26, .tk 28] (.slS 1 true true false), I_ 30 [.tv 29] (.build [.lst [] 0
  .full] [(0, 1)]), I_ 31 [.cv (.func 33 [] []), .sl 30] (.call 3), I_ 32 [.sl 31] (.ext 0), I_ 33 [.tv 31] (.ext 1), I_ 4 [.tk 32] .mv, I_ 5 [.tk 33] .mv]) .ret)))
theorem lk37 : linkF Go.Proofs.Try.prog ann37 37 = some (rc37, 34, [.tmp 4, .tmp 5]) := by kernel_rfl
noncomputable def rc40 : RC :=
  .seq (.reg false [I_ 2 [.tk 0] .box, I_ 4 [.cv (.lst [] 0 .full)] (.nil 1), I_ 5 [.cv (.int .i64 0)] .mv]) (.seq (.reg false [I_ 11 [.tv 2] (.ld (.str 1)), I_ 12 [.sl 1] .mv, I_ 13 [.tv 12] (.buildS 1 1 [.int .i64 0] [0]), I_ 14
  [.cv (.func 75 [] []), .sl 11, .sl 13] (.call 3), I_ 10 [.tk 14] .mv, I_ 15 [.sl 10] (.ext 0), I_ 16 [.tv 10] (.ext 1), I_ 6 [.tk 15] .mv, I_ 7 [.tk 16] .mv]) (.seq (.seq (.reg false [I_ 17 [.sl 7] .mv, I_ 18 [.tv 17, .cv (.int
  .i64 0)] (.bin .neq)]) (.cond (.sl 18) (.seq (.reg false [I_ 19 [.tk 7] .mv, I_ 4 [.cv (.lst [] 0 .full)] (.nil 1), I_ 5 [.tk 19] .mv]) .ret) .skip)) (.seq (.reg false [I_ 20 [.tk 6] .mv, I_ 21 [.tk 1] .mv, I_ 22 [.cv (.func 83
  [] []), .sl 20, .sl 21] (.call 3), I_ 8 [.tk 22] .mv]) (.seq (.reg false [I_ 23 [.sl 8] .mv, I_ 24 [.tk 23] .lenS, I_ 25 [.sl 24, .tv 24] (.mkS [.int .i64 0] 1 8), I_ 9 [.tk 25] .mv]) (.seq (.reg false [I_ 26 [.sl 9] .mv, I_ 27
  [.tk 8] .mv, I_ 28 [.tk 26, .tk 27] (.other (Oper.mk (some 28) (Op.call (Call.mk (Callee.builtin Builtin.copy) (Array.mk [Operand.tmp 26, Operand.tmp 27]) (Array.mk [37, 37]))) 3 "seam.go:153" (Array.mk [Edge.mk 0 Ground.data,
  Edge.mk 1 Ground.data]) none) 0)]) (.seq (.reg false [I_ 29 [.tk 9] .mv, I_ 4 [.tk 29] .mv, I_ 5 [.cv (.int .i64 0)] .mv]) .ret))))))
theorem lk40 : linkF Go.Proofs.Try.prog ann40 40 = some (rc40, 30, [.tmp 4, .tmp 5]) := by kernel_rfl
noncomputable def rc42 : RC :=
  .seq (.reg false [I_ 2 [.tk 0] .box, I_ 3 [.tk 1] .box, I_ 4 [.cv (.lst [] 0 .full)] (.nil 1), I_ 5 [.cv (.int .i64 0)] .mv]) (.seq (.reg false [I_ 12 [.tv 2] (.ld (.str 1)), I_ 13 [.sl 3] (.ld .one), I_ 14 [.tv 13] (.buildS 1 1
  [.int .i64 0] [0]), I_ 15 [.cv (.func 75 [] []), .sl 12, .sl 14] (.call 3), I_ 11 [.tk 15] .mv, I_ 16 [.sl 11] (.ext 0), I_ 17 [.tv 11] (.ext 1), I_ 6 [] (.alloc [.nilp]), ⟨none, [.sl 6, .tk 16], none, none, .st 1⟩, I_ 7 [.tk
  17] .mv]) (.seq (.seq (.reg false [I_ 18 [.sl 7] .mv, I_ 19 [.tv 18, .cv (.int .i64 0)] (.bin .neq)]) (.cond (.sl 19) (.seq (.reg false [I_ 20 [.tk 7] .mv, I_ 4 [.cv (.lst [] 0 .full)] (.nil 1), I_ 5 [.tk 20] .mv]) .ret)
  .skip)) (.seq (.reg false [I_ 21 [.sl 6] (.ld .one), I_ 22 [.sl 3] (.ld .one), I_ 23 [.cv (.func 83 [] []), .sl 21, .sl 22] (.call 2), I_ 8 [] (.alloc [.lst [] 0 .full]), ⟨none, [.sl 8, .tk 23], none, none, .st 1⟩]) (.seq (.seq
  (.reg false [I_ 24 [.sl 6] (.ld .one), I_ 25 [.sl 3] (.ld .one), I_ 26 [.cv (.func 86 [] []), .sl 24, .sl 25] (.call 3)]) (.block 0 (.rng (.sl 26) [27] (rngA Go.Proofs.Try.prog 42 0) (rngB Go.Proofs.Try.prog 42 0)))) (.seq
  (.reg false [I_ 35 [.tv 8] (.ld .one), I_ 4 [.tk 35] .mv, I_ 5 [.cv (.int .i64 0)] .mv]) .ret)))))
theorem lk42 : linkF Go.Proofs.Try.prog ann42 42 = some (rc42, 36, [.tmp 4, .tmp 5]) := by kernel_rfl
noncomputable def rc50 : RC :=
  .seq (.reg false [I_ 2 [.tk 0] .box, I_ 4 [.cv (.lst [] 0 .full)] (.nil 1)]) (.seq (.reg false [I_ 5 [.cv (.lst [] 0 .full)] (.nil 1)]) (.seq (.reg false [I_ 6 [.cv (.int .i64 0)] .mv]) (.seq (.seq (.reg false [I_ 7 [.cv (.int
  .i64 0)] .mv]) (.block 0 (.loop (some [o_,i_,i_,o_,o_,i_,i_,i_,o_,o_,o_,o_,o_,o_,o_,o_,o_,o_,o_,o_,o_,o_,o_,o_,o_,o_,o_,o_,o_,o_,o_,o_,o_,o_,o_,o_,o_,o_,o_,o_,o_,o_,o_,o_,o_,o_,o_,o_,o_,o_,o_,o_,o_,o_,o_,o_,o_,o_,o_,o_,o_,o_,o_,o_,o_,o_,o_,o_,o_,o_,o_,o_,o_,o_]) (.seq (.seq (.reg false [I_ 12 [.sl 7] .mv, I_ 13 [.sl 2] (.fa 0), I_ 14 [.tv 13] (.ld .one), I_ 15 [.tk 14] .lenS, I_ 16
  [.tv 12, .tv 15] (.bin .lss)]) (.cond (.sl 16) .skip (.exit 0))) (.seq (.block 1 (.seq (.reg false [I_ 8 [.cv (.lst [] 0 .full)] (.nil 1), I_ 9 [.cv (.lst [] 0 .full)] (.nil 1)]) (.seq (.seq (.reg false [I_ 10 [.cv (.int .i64
  0)] .mv]) (.block 2 (.loop (some [o_,i_,i_,o_,o_,i_,i_,i_,i_,i_,i_,o_,o_,o_,o_,o_,o_,o_,o_,o_,o_,o_,o_,o_,o_,o_,o_,o_,o_,o_,o_,o_,o_,o_,o_,o_,o_,o_,o_,o_,o_,o_,o_,o_,o_,o_,o_,o_,o_,o_,o_,o_,o_,o_,o_,o_,o_,o_,o_,o_,o_,o_,o_,o_,o_,o_,o_,o_,o_,o_,o_,o_,o_,o_]) (.seq (.seq (.reg false [I_ 19 [.sl 10] .mv, I_ 20 [.sl 2] (.fa 0), I_ 21 [.tv 20] (.ld .one), I_ 22 [.sl 7] .mv, I_ 23 [.tv 21,
  .tv 22] (.ia 1), I_ 24 [.tv 23] (.ld .one), I_ 25 [.tk 24] .lenS, I_ 26 [.tv 19, .tv 25] (.bin .lss)]) (.cond (.sl 26) .skip (.exit 2))) (.seq (.block 3 (.reg false [I_ 29 [.tk 8] .mv, I_ 30 [.sl 10] .mv, I_ 31 [.tv 30]
  (.buildS 1 1 [.int .i64 0] [0]), I_ 32 [.tk 29, .tk 31] (.app 1 8), I_ 8 [.tk 32] .mv])) (.reg false [I_ 27 [.tk 10] .mv, I_ 28 [.tv 27, .cv (.int .i64 1)] (.bin .add), I_ 10 [.tk 28] .mv])))))) (.seq (.block 4 (.loop (some
  [o_,i_,i_,o_,o_,i_,i_,i_,i_,i_,o_,o_,o_,o_,o_,o_,o_,o_,o_,o_,o_,o_,o_,o_,o_,o_,o_,o_,o_,o_,o_,o_,o_,o_,o_,o_,o_,o_,o_,o_,o_,o_,o_,o_,o_,o_,o_,o_,o_,o_,o_,o_,o_,o_,o_,o_,o_,o_,o_,o_,o_,o_,o_,o_,o_,o_,o_,o_,o_,o_,o_,o_,o_,o_]) (.seq (.seq (.reg false [I_ 33 [.sl 8] .mv, I_ 34 [.tk 33] .lenS, I_ 35 [.tv 34, .cv (.int .i64 0)] (.bin .gtr)]) (.cond (.sl 35) .skip (.exit 4))) (.block 5 (.seq
  (.reg false [I_ 11 [.cv (.int .i64 0)] .mv]) (.seq (.seq (.reg false [I_ 36 [.sl 1] .mv, I_ 37 [.tk 36] .lenS, I_ 38 [.tv 37, .cv (.int .i64 0)] (.bin .gtr)]) (.cond (.sl 38) (.seq (.reg false [I_ 39 [.sl 1] .mv, I_ 40 [.sl 6]
  .mv, I_ 41 [.sl 1] .mv, I_ 42 [.tk 41] .lenS, I_ 43 [.tv 40, .tv 42] (.bin .rem), I_ 44 [.tv 39, .tv 43] (.ia 1), I_ 45 [.tv 44] (.ld .one), I_ 46 [.tv 45] (.conv .i64), I_ 47 [.sl 8] .mv, I_ 48 [.tk 47] .lenS, I_ 49 [.tv 46,
  .tv 48] (.bin .rem), I_ 11 [.tk 49] .mv]) (.reg false [I_ 50 [.tk 6] .mv, I_ 51 [.tv 50, .cv (.int .i64 1)] (.bin .add), I_ 6 [.tk 51] .mv])) .skip)) (.seq (.reg false [I_ 52 [.tk 9] .mv, I_ 53 [.sl 8] .mv, I_ 54 [.sl 11] .mv,
  I_ 55 [.tv 53, .tv 54] (.ia 1), I_ 56 [.tv 55] (.ld .one), I_ 57 [.tv 56] (.buildS 1 1 [.int .i64 0] [0]), I_ 58 [.tk 52, .tk 57] (.app 1 8), I_ 9 [.tk 58] .mv]) (.reg true [I_ 59 [] (.buildS 0 1 [.int .i64 0] []), I_ 60 [.sl
  8] .mv, I_ 61 [.sl 11] .mv, I_ 62 [.tk 60, .tk 61] (.slS 1 false true false), I_ 63 [.tk 59, .tk 62] (.app 1 8), I_ 64 [.sl 8] .mv, I_ 65 [.sl 11] .mv, I_ 66 [.tv 65, .cv (.int .i64 1)] (.bin .add), I_ 67 [.tk 64, .tk 66] (.slS
  1 true false false), I_ 68 [.tk 63, .tk 67] (.app 1 8), I_ 8 [.tk 68] .mv])))))))) (.reg false [I_ 69 [.tk 5] .mv, I_ 70 [.tk 9] .mv, I_ 71 [.tv 70] (.buildS 1 1 [.lst [] 0 .full] [0]), I_ 72 [.tk 69, .tk 71] (.app 1 24), I_ 5
  [.tk 72] .mv]))))) (.reg false [I_ 17 [.tk 7] .mv, I_ 18 [.tv 17, .cv (.int .i64 1)] (.bin .add), I_ 7 [.tk 18] .mv])))))) (.seq (.reg false [I_ 73 [.tk 5] .mv, I_ 4 [.tk 73] .mv]) .ret))))
theorem lk50 : linkF Go.Proofs.Try.prog ann50 50 = some (rc50, 74, [.tmp 4]) := by kernel_rfl
noncomputable def rc56 : RC :=
  .seq (.reg false [I_ 2 [] (.alloc [.lst [] 0 .full])]) (.seq (.reg false [I_ 3 [.tk 0] .mv, I_ 4 [.tv 3] (.build [.lst [] 0 .full] [(0, 1)]), ⟨none, [.sl 2, .tk 4], none, none, .st 1⟩]) .ret)
theorem lk56 : linkF Go.Proofs.Try.prog ann56 56 = some (rc56, 5, [.cell 2 (.str 1)]) := by kernel_rfl
end Go.Proofs.Ytlcebaejlnpdeaa.Ab

/- MADE BY PROGRAM (rc.py): functions, looked up. -/
namespace Go.Proofs.Ytlcebaejlnpdeaa.Ab
open Go
noncomputable def rc62 : RC :=
  .seq (.reg false [I_ 2 [.tk 0] .box, I_ 4 [.cv (.lst [] 0 .full)] (.nil 1), I_ 5 [.cv (.int .i64 0)] .mv]) (.seq (.reg false [I_ 13 [.sl 2] (.ld (.str 1)), I_ 14 [.cv (.func 75 [] []), .sl 13, .cv (.lst [] 0 .full)] (.call 3), I_
  12 [.tk 14] .mv, I_ 15 [.sl 12] (.ext 0), I_ 16 [.tv 12] (.ext 1), I_ 6 [.tk 15] .mv, I_ 7 [.tk 16] .mv]) (.seq (.block 0 (.seq (.reg false [I_ 18 [.sl 7] .mv, I_ 19 [.tv 18, .cv (.int .i64 0)] (.bin .neq), I_ 17 [.tk 19] .mv])
  (.cond (.sl 17) (.seq (.reg false [I_ 20 [.tk 7] .mv, I_ 4 [.cv (.lst [] 0 .full)] (.nil 1), I_ 5 [.tk 20] .mv]) .ret) (.seq (.reg false [I_ 22 [.sl 1] .mv, I_ 23 [.tk 22] .lenS, I_ 24 [.tv 2] (.fa 0), I_ 25 [.tv 24] (.ld
  .one), I_ 26 [.tk 25] .lenS, I_ 27 [.tv 23, .tv 26] (.bin .neq), I_ 21 [.tk 27] .mv]) (.cond (.sl 21) (.seq (.reg false [I_ 4 [.cv (.lst [] 0 .full)] (.nil 1), I_ 5 [.cv (.int .i64 15)] .mv]) .ret) .skip))))) (.seq (.reg false
  [I_ 28 [.sl 6] .mv, I_ 29 [.tv 28] (.mkF 93 1 0), I_ 8 [.tk 29] .mv]) (.seq (.reg false [I_ 9 [.cv (.lst [] 0 .full)] (.nil 1)]) (.seq (.seq (.reg false [I_ 30 [.tk 1] .mv, I_ 31 [.sl 30] .lenS, I_ 32 [.cv (.int .i64 0)] .mv])
  (.block 1 (.loop (some [o_,o_,o_,o_,o_,o_,i_,o_,i_,i_,o_,o_,o_,o_,o_,o_,o_,o_,o_,o_,o_,o_,o_,o_,o_,o_,o_,o_,o_,o_,i_,i_,i_,o_,o_,o_,o_,o_,o_,o_,o_,o_,o_,o_,o_,o_,o_,o_,o_,o_,o_]) (.seq (.reg false [I_ 33 [.sl 32, .sl 31] (.bin .lss)]) (.seq (.cond (.sl
  33) .skip (.exit 1)) (.seq (.block 2 (.seq (.reg false [I_ 34 [.sl 32] .mv, I_ 35 [.sl 30, .sl 32] (.ia 1), I_ 36 [.tv 35] (.ld .one), I_ 10 [.tk 34] .mv, I_ 11 [.tk 36] .mv]) (.seq (.seq (.reg false [I_ 37 [.sl 8] .mv, I_ 38
  [.sl 10] .mv, I_ 39 [.sl 11] .mv, I_ 40 [.sl 37, .sl 38, .sl 39] (.call 3), I_ 41 [.tv 40] (.un .not)]) (.cond (.sl 41) (.seq (.reg false [I_ 4 [.cv (.lst [] 0 .full)] (.nil 1), I_ 5 [.cv (.int .i64 16)] .mv]) .ret) .skip))
  (.reg false [I_ 42 [.tk 9] .mv, I_ 43 [.sl 6] .mv, I_ 44 [.tk 10] .mv, I_ 45 [.tk 11] .mv, I_ 46 [.cv (.func 87 [] []), .sl 43, .sl 44, .sl 45] (.call 3), I_ 47 [.tv 46] (.buildS 1 1 [.lst [] 0 .full] [0]), I_ 48 [.tk 42, .tk
  47] (.app 1 24), I_ 9 [.tk 48] .mv])))) (.reg false [I_ 49 [.tv 32, .cv (.int .i64 1)] (.bin .add), I_ 32 [.tk 49] .mv]))))))) (.seq (.reg false [I_ 50 [.tk 9] .mv, I_ 4 [.tk 50] .mv, I_ 5 [.cv (.int .i64 0)] .mv]) .ret))))))
theorem lk62 : linkF Go.Proofs.Try.prog ann62 62 = some (rc62, 51, [.tmp 4, .tmp 5]) := by kernel_rfl
noncomputable def rc63 : RC :=
  .seq (.reg false [I_ 2 [.cv .junk] .mv]) (.seq (.reg false [I_ 9 [] .mkM, I_ 3 [.tk 9] .mv]) (.seq (.seq (.reg false [I_ 10 [.sl 0] .mv, I_ 11 [.sl 10] .lenS, I_ 12 [.cv (.int .i64 0)] .mv]) (.block 0 (.loop (some [i_,o_,o_,i_,o_,o_,o_,o_,o_,o_,i_,i_,i_,o_,o_,o_,o_,o_,o_,o_,o_,o_,o_,o_,o_,o_,o_,o_,o_,o_,o_,o_,o_,o_,o_,o_,o_,o_,o_,o_,o_,o_,o_,o_,o_,o_,o_,o_,o_,o_,o_,o_,o_,o_,o_,o_]) (.seq (.reg false [I_ 13 [.sl 12, .sl 11] (.bin .lss)]) (.seq (.cond (.sl 13)
  .skip (.exit 0)) (.seq (.block 1 (.seq (.reg false [I_ 14 [.sl 12] .mv, I_ 15 [.sl 10, .sl 12] (.ia 1), I_ 16 [.tv 15] (.ld .one), I_ 4 [.tk 14] .mv, I_ 5 [.tk 16] .mv]) (.seq (.reg false [I_ 17 [.tk 5] .mv, I_ 18 [.sl 17]
  .lenS, I_ 19 [.cv (.int .i64 0)] .mv]) (.block 2 (.loop (some [i_,o_,o_,i_,i_,o_,o_,o_,o_,o_,i_,i_,i_,o_,o_,o_,o_,i_,i_,i_,o_,o_,o_,o_,o_,o_,o_,o_,o_,o_,o_,o_,o_,o_,o_,o_,o_,o_,o_,o_,o_,o_,o_,o_,o_,o_,o_,o_,o_,o_,o_,o_,o_,o_,o_,o_])
  (.seq (.reg false [I_ 20 [.sl 19, .sl 18] (.bin .lss)]) (.seq (.cond (.sl 20) .skip (.exit 2)) (.seq (.block 3 (.seq (.reg false [I_ 21 [.sl 17, .sl 19] (.ia 1), I_ 22 [.tv 21] (.ld .one), I_ 7 [.tk 22] .mv]) (.reg false [I_ 23
  [.sl 3] .mv, I_ 24 [.sl 4] .mv, I_ 25 [.tk 7] .mv, I_ 26 [.tv 24, .tv 25] (.build [.int .i64 0, .int .i64 0] [(0, 1), (1, 1)]), ⟨none, [.tv 23, .tv 26, .cv (.int .i64 1)], none, none, .mUp (.str 2)⟩]))) (.reg false [I_ 27 [.tv
  19, .cv (.int .i64 1)] (.bin .add), I_ 19 [.tk 27] .mv]))))))))) (.reg false [I_ 28 [.tv 12, .cv (.int .i64 1)] (.bin .add), I_ 12 [.tk 28] .mv]))))))) (.seq (.seq (.reg false [I_ 29 [.sl 3] .mv, I_ 30 [.tv 29] .rngM]) (.block
  4 (.loop (some [i_,o_,o_,i_,o_,o_,o_,o_,o_,o_,o_,o_,o_,o_,o_,o_,o_,o_,o_,o_,o_,o_,o_,o_,o_,o_,o_,o_,o_,o_,i_,o_,o_,o_,o_,o_,o_,o_,o_,o_,o_,o_,o_,o_,o_,o_,o_,o_,o_,o_,o_,o_,o_,o_,o_,o_]) (.seq (.nxt 30 (some 31) [I_ 32 [.tv 31]
  (.ext 0)]) (.seq (.cond (.sl 32) .skip (.exit 4)) (.block 5 (.seq (.reg false [I_ 33 [.sl 30] .ent, I_ 34 [.tv 33] (.ext 0), I_ 8 [] (.alloc [.int .i64 0, .int .i64 0]), ⟨none, [.sl 8, .tk 34], none, none, .st 2⟩]) (.seq (.reg
  true [I_ 35 [.sl 8] (.fa 0), I_ 36 [.tv 35] (.ld .one), I_ 37 [.tv 36, .cv (.int .i64 1)] (.bin .add), I_ 38 [.sl 0] .mv, I_ 39 [.tk 38] .lenS, I_ 40 [.tv 37, .tv 39] (.bin .eql), I_ 41 [.tk 40] .mv, ⟨some 42, [.sl 0], some
  (41, false), none, .mv⟩, ⟨some 43, [.sl 8], some (41, false), none, .fa 0⟩, ⟨some 44, [.tv 43], some (41, false), none, .ld .one⟩, ⟨some 45, [.tv 44, .cv (.int .i64 1)], some (41, false), none, .bin .add⟩, ⟨some 46, [.tv 42,
  .tv 45], some (41, false), none, .ia 1⟩, ⟨some 47, [.tv 46], some (41, false), none, .ld .one⟩, ⟨some 48, [.sl 8], some (41, false), none, .fa 1⟩, ⟨some 49, [.tv 48], some (41, false), none, .ld .one⟩, ⟨some 50, [.cv (.func 72
  [] []), .sl 47, .sl 49], some (41, false), none, .call 3⟩, ⟨some 51, [.tv 50], some (41, false), none, .un .not⟩, I_ 52 [.sl 41, .cv (.bool true), .tv 51] .pick]) (.cond (.sl 52) (.reg false [I_ 53 [.sl 3] .mv, I_ 54 [.tv 8]
  (.ld (.str 2)), ⟨none, [.tk 53, .tk 54], none, none, .mDel (.str 2)⟩]) .skip))))))))) (.seq (.reg false [I_ 55 [.tk 3] .mv, I_ 2 [.tk 55] .mv]) .ret))))
theorem lk63 : linkF Go.Proofs.Try.prog ann63 63 = some (rc63, 56, [.tmp 2]) := by kernel_rfl
noncomputable def rc66 : RC :=
  .seq (.reg false [I_ 2 [.cv (.bool false)] .mv]) (.seq (.reg false [I_ 3 [.tk 0] .mv, I_ 4 [.tk 3] .lenS, I_ 5 [.tv 4] (.buildS 1 1 [.int .i64 0] [0]), I_ 6 [.cv (.func 67 [] []), .cv (.int .i64 1), .cv (.int .i64 5), .sl 5]
  (.call 3), I_ 7 [.tv 6] (.un .not), I_ 2 [.tk 7] .mv]) .ret)
theorem lk66 : linkF Go.Proofs.Try.prog ann66 66 = some (rc66, 8, [.tmp 2]) := by kernel_rfl
noncomputable def rc67 : RC :=
  .seq (.reg false [I_ 3 [.tk 0] .box, I_ 4 [.tk 1] .box, I_ 6 [.cv (.bool false)] .mv]) (.seq (.reg false [I_ 7 [.tk 2] .mv, I_ 8 [.tv 3, .tv 4] (.mkF 97 0 2), I_ 9 [.cv (.func 96 [] []), .sl 7, .sl 8] (.call 6), I_ 10 [.tv 9]
  (.un .not), I_ 6 [.tk 10] .mv]) .ret)
theorem lk67 : linkF Go.Proofs.Try.prog ann67 67 = some (rc67, 11, [.tmp 6]) := by kernel_rfl
noncomputable def rc68 : RC :=
  .seq (.reg false [I_ 2 [.cv (.bool false)] .mv]) (.seq (.reg false [I_ 3 [.tk 0] .mv, I_ 4 [.cv (.func 67 [] []), .cv (.int .i64 1), .cv (.int .i64 100), .sl 3] (.call 3), I_ 5 [.tv 4] (.un .not), I_ 2 [.tk 5] .mv]) .ret)
theorem lk68 : linkF Go.Proofs.Try.prog ann68 68 = some (rc68, 6, [.tmp 2]) := by kernel_rfl
noncomputable def rc69 : RC :=
  .seq (.reg false [I_ 4 [.cv (.bool false)] .mv]) (.seq (.reg false [I_ 5 [.tk 0] .mv, I_ 6 [.tk 1] .mv, I_ 7 [.cv (.func 98 [] []), .sl 5, .sl 6] (.call 6), I_ 8 [.tv 7, .cv (.int .i64 0)] (.bin .geq), I_ 4 [.tk 8] .mv]) .ret)
theorem lk69 : linkF Go.Proofs.Try.prog ann69 69 = some (rc69, 9, [.tmp 4]) := by kernel_rfl
noncomputable def rc70 : RC :=
  .seq (.reg false [I_ 3 [.cv (.bool false)] .mv]) (.seq (.reg true [I_ 4 [.tk 0] .mv, I_ 5 [.cv (.func 71 [] []), .sl 4] (.call 3), I_ 6 [.tv 1] (.fa 0), I_ 7 [.tv 6] (.ld .one), I_ 8 [.tv 7, .cv (.int .i64 0)] (.ia 1), I_ 9 [.tv
  8] (.ld .one), I_ 10 [.cv (.func 71 [] []), .sl 9] (.call 3), I_ 11 [.tv 5, .tv 10] (.bin .neq), I_ 3 [.tk 11] .mv]) .ret)
theorem lk70 : linkF Go.Proofs.Try.prog ann70 70 = some (rc70, 12, [.tmp 3]) := by kernel_rfl
noncomputable def rc71 : RC :=
  .seq (.reg false [I_ 2 [.cv (.int .i64 0)] .mv]) (.seq (.reg false [I_ 3 [.cv (.int .i64 0)] .mv]) (.seq (.seq (.reg false [I_ 6 [.tk 0] .mv, I_ 7 [.sl 6] .lenS, I_ 8 [.cv (.int .i64 0)] .mv]) (.block 0 (.loop (some [o_,o_,o_,i_,o_,o_,i_,i_,i_,o_,o_,o_,o_,o_,o_,o_,o_]) (.seq (.reg false [I_ 9 [.sl 8, .sl 7] (.bin .lss)]) (.seq (.cond (.sl 9) .skip (.exit 0)) (.seq (.block 1 (.seq (.reg
  false [I_ 10 [.sl 6, .sl 8] (.ia 1), I_ 11 [.tv 10] (.ld .one), I_ 5 [.tk 11] .mv]) (.reg false [I_ 12 [.tk 3] .mv, I_ 13 [.tk 5] .mv, I_ 14 [.tv 12, .tv 13] (.bin .add), I_ 3 [.tk 14] .mv]))) (.reg false [I_ 15 [.tv 8, .cv
  (.int .i64 1)] (.bin .add), I_ 8 [.tk 15] .mv]))))))) (.seq (.reg false [I_ 16 [.tk 3] .mv, I_ 2 [.tk 16] .mv]) .ret)))
theorem lk71 : linkF Go.Proofs.Try.prog ann71 71 = some (rc71, 17, [.tmp 2]) := by kernel_rfl
noncomputable def rc72 : RC :=
  .seq (.reg false [I_ 4 [.cv (.bool false)] .mv]) (.seq (.reg false [I_ 5 [.tk 0] .mv, I_ 6 [.tk 1] .mv, I_ 7 [.cv (.func 99 [] []), .sl 5, .sl 6] (.call 3), I_ 8 [.tv 7, .cv (.int .i64 0)] (.bin .geq), I_ 4 [.tk 8] .mv]) .ret)
theorem lk72 : linkF Go.Proofs.Try.prog ann72 72 = some (rc72, 9, [.tmp 4]) := by kernel_rfl
noncomputable def rc75 : RC :=
  .seq (.reg false [I_ 2 [.tk 0] .box, I_ 4 [.cv .nilp] .mv, I_ 5 [.cv (.int .i64 0)] .mv]) (.seq (.seq (.reg false [I_ 9 [.sl 2] (.ld (.str 1)), I_ 10 [.cv (.func 25 [] []), .sl 9] (.call 3), I_ 6 [.tk 10] .mv]) (.seq (.reg false
  [I_ 11 [.sl 6] .mv, I_ 12 [.tv 11, .cv (.int .i64 0)] (.bin .neq)]) (.cond (.sl 12) (.seq (.reg false [I_ 13 [.tk 6] .mv, I_ 4 [.cv .nilp] .mv, I_ 5 [.tk 13] .mv]) .ret) .skip))) (.seq (.seq (.reg false [I_ 14 [.tk 1] .mv, I_
  15 [.sl 14] .lenS, I_ 16 [.cv (.int .i64 0)] .mv]) (.block 0 (.loop (some [o_,o_,i_,o_,o_,o_,o_,o_,o_,o_,o_,o_,o_,o_,i_,i_,i_,o_,o_,o_,o_,o_,o_,o_,o_,o_,o_,o_,o_,o_,o_,o_]) (.seq (.reg false [I_ 17 [.sl 16, .sl 15] (.bin .lss)]) (.seq (.cond (.sl 17) .skip (.exit 0)) (.seq (.block 1 (.seq (.reg false [I_ 18 [.sl 14, .sl 16]
  (.ia 1), I_ 19 [.tv 18] (.ld .one), I_ 8 [.tk 19] .mv]) (.seq (.reg false [I_ 20 [.sl 2] (.fa 0), I_ 21 [.tv 20] (.ld .one), I_ 22 [.tk 21] .lenS, I_ 23 [.tv 22, .cv (.int .i64 1)] (.bin .sub), I_ 24 [.tk 8] .mv, I_ 25 [.tv 24]
  (.buildS 1 1 [.int .i64 0] [0]), I_ 26 [.cv (.func 67 [] []), .cv (.int .i64 0), .sl 23, .sl 25] (.call 3), I_ 27 [.tv 26] (.un .not)]) (.cond (.sl 27) (.seq (.reg false [I_ 4 [.cv .nilp] .mv, I_ 5 [.cv (.int .i64 2)] .mv])
  .ret) .skip)))) (.reg false [I_ 28 [.tv 16, .cv (.int .i64 1)] (.bin .add), I_ 16 [.tk 28] .mv]))))))) (.seq (.reg false [I_ 29 [.tv 2] (.ld (.str 1)), I_ 30 [.tv 29] (.build [.lst [] 0 .full] [(0, 1)]), I_ 31 [.tk 30] .box, I_
  4 [.tk 31] .mv, I_ 5 [.cv (.int .i64 0)] .mv]) .ret)))
theorem lk75 : linkF Go.Proofs.Try.prog ann75 75 = some (rc75, 32, [.tmp 4, .tmp 5]) := by kernel_rfl
noncomputable def rc76 : RC :=
  .seq (.reg false [I_ 4 [.cv (.lst [] 0 .full)] (.nil 1)]) (.seq (.reg false [I_ 5 [.cv (.lst [] 0 .full)] (.nil 1)]) (.seq (.seq (.reg false [I_ 8 [.tk 1] .mv, I_ 9 [.sl 8] .lenS, I_ 10 [.cv (.int .i64 0)] .mv]) (.block 0 (.loop
  (some [i_,o_,o_,o_,o_,i_,o_,o_,i_,i_,i_,o_,o_,o_,o_,o_,o_,o_,o_,o_,o_,o_,o_,o_]) (.seq (.reg false [I_ 11 [.sl 10, .sl 9] (.bin .lss)])
  (.seq (.cond (.sl 11) .skip (.exit 0)) (.seq (.block 1 (.seq (.reg false [I_ 12 [.sl 10] .mv, I_ 13 [.sl 8, .sl 10] (.ia 1), I_ 14 [.tv 13] (.ld .one), I_ 6 [.tk 12] .mv, I_ 7 [.tk 14] .mv]) (.reg false [I_ 15 [.tk 5] .mv, I_
  16 [.sl 0] .mv, I_ 17 [.tk 6] .mv, I_ 18 [.tk 7] .mv, I_ 19 [.cv (.func 87 [] []), .sl 16, .sl 17, .sl 18] (.call 3), I_ 20 [.tv 19] (.buildS 1 1 [.lst [] 0 .full] [0]), I_ 21 [.tk 15, .tk 20] (.app 1 24), I_ 5 [.tk 21] .mv])))
  (.reg false [I_ 22 [.tv 10, .cv (.int .i64 1)] (.bin .add), I_ 10 [.tk 22] .mv]))))))) (.seq (.reg false [I_ 23 [.tk 5] .mv, I_ 4 [.tk 23] .mv]) .ret)))
theorem lk76 : linkF Go.Proofs.Try.prog ann76 76 = some (rc76, 24, [.tmp 4]) := by kernel_rfl
noncomputable def rc77 : RC :=
  .seq (.reg false [I_ 1 [.tk 0] .box, I_ 2 [.cv (.lst [] 0 .full)] (.nil 1)]) (.seq (.reg false [I_ 16 [] (.build [.lst [] 0 .full, .lst [] 0 .full, .int .i64 0, .int .i64 0] []), I_ 17 [.tv 16] (.buildS 1 4 [.lst [] 0 .full, .lst
  [] 0 .full, .int .i64 0, .int .i64 0] [0]), I_ 3 [] (.alloc [.lst [] 0 .full]), ⟨none, [.sl 3, .tk 17], none, none, .st 1⟩]) (.seq (.reg false [I_ 4 [] (.alloc [.junk]), ⟨none, [.sl 4, .cv (.func 100 [] [])], none, none, .st
  1⟩]) (.seq (.seq (.reg false [I_ 18 [.sl 1] (.ld .one), I_ 19 [.tv 18] .nilc, I_ 20 [.tv 19] (.fa 0), I_ 21 [.tv 20] (.fa 0), I_ 22 [.tv 21] (.ld .one), I_ 23 [.tk 22] .lenS, I_ 24 [.tv 23, .cv (.int .i64 1)] (.bin .sub), I_ 5
  [] (.alloc [.int .i64 0]), ⟨none, [.sl 5, .tk 24], none, none, .st 1⟩]) (.block 0 (.loop (some [o_,i_,o_,i_,i_,i_,o_,o_,o_,o_,o_,o_,o_,o_,o_,o_,o_,o_,o_,o_,o_,o_,o_,o_,o_,o_,o_,o_,o_,o_,o_,o_,o_,o_,o_,o_,o_,o_,o_,o_,o_,o_,o_,o_,o_,o_,o_,o_,o_,o_,o_,o_,o_,o_,o_,o_,o_,o_,o_,o_,o_,o_,o_,o_,o_,o_,o_,o_,o_,o_,o_,o_,o_,o_,o_,o_,o_,o_,o_,o_,o_,o_,o_,o_,o_,o_,o_,o_]) (.seq (.seq (.reg false [I_ 25 [.sl 5] (.ld .one), I_ 26 [.tv 25, .cv (.int .i64 0)] (.bin .geq)]) (.cond (.sl 26) .skip (.exit 0))) (.seq (.block 1 (.seq (.reg false [I_ 6 [] (.alloc [.lst
  [] 0 .full])]) (.seq (.seq (.reg false [I_ 29 [.sl 1] (.ld .one), I_ 30 [.sl 5] (.ld .one), I_ 31 [.cv (.func 86 [] []), .sl 29, .sl 30] (.call 3)]) (.block 2 (.rng (.sl 31) [32] (rngA Go.Proofs.Try.prog 77 0) (rngB
  Go.Proofs.Try.prog 77 0)))) (.reg false [I_ 82 [.tv 6] (.ld .one), ⟨none, [.sl 3, .tk 82], none, none, .st 1⟩])))) (.seq (.seq (.reg false [I_ 83 [.tv 5] (.ld .one)]) (.reg false [I_ 5 [] (.alloc [.int .i64 0]), ⟨none, [.sl 5,
  .tk 83], none, none, .st 1⟩])) (.reg false [I_ 27 [.sl 5] (.ld .one), I_ 28 [.tv 27, .cv (.int .i64 1)] (.bin .sub), ⟨none, [.sl 5, .tk 28], none, none, .st 1⟩]))))))) (.seq (.reg false [I_ 84 [.tv 3] (.ld .one), I_ 85 [.tv 4]
  (.ld .one), I_ 86 [.cv (.func 101 [] []), .sl 84, .sl 85] (.call 3), I_ 87 [.tv 86] (.fld 0 .one), I_ 2 [.tk 87] .mv]) .ret))))
theorem lk77 : linkF Go.Proofs.Try.prog ann77 77 = some (rc77, 88, [.tmp 2]) := by kernel_rfl
noncomputable def rc86 : RC :=
  .seq (.reg false [I_ 2 [.tk 0] .box, I_ 3 [.tk 1] .box, I_ 4 [.cv .junk] .mv]) (.seq (.reg false [I_ 5 [.tv 2, .tv 3] (.mkF 107 0 2), I_ 4 [.tk 5] .mv]) .ret)
theorem lk86 : linkF Go.Proofs.Try.prog ann86 86 = some (rc86, 6, [.tmp 4]) := by kernel_rfl
noncomputable def rc87 : RC :=
  .seq (.reg false [I_ 6 [.cv (.lst [] 0 .full)] (.nil 1)]) (.seq (.reg false [I_ 7 [.cv (.lst [] 0 .full)] (.nil 1)]) (.seq (.reg false [I_ 8 [.cv (.int .i64 0)] .mv]) (.seq (.seq (.reg false [I_ 11 [.sl 2] .mv, I_ 12 [.tk 2] .mv,
  I_ 13 [.tk 12] .lenS, I_ 14 [.tv 13, .cv (.int .i64 1)] (.bin .sub), I_ 15 [.tk 11, .tk 14] (.slS 1 false true false), I_ 16 [.sl 15] .lenS, I_ 17 [.cv (.int .i64 0)] .mv]) (.block 0 (.loop (some [i_,i_,o_,o_,o_,o_,o_,i_,i_,o_,o_,o_,o_,o_,o_,i_,i_,i_,o_,o_,o_,o_,o_,o_,o_,o_,o_,o_,o_,o_,o_,o_,o_,o_,o_,o_,o_,o_,o_,o_]) (.seq (.reg false [I_ 18 [.sl 17, .sl 16] (.bin .lss)]) (.seq (.cond (.sl 18) .skip (.exit 0)) (.seq (.block 1 (.seq (.reg false [I_ 19 [.sl 15, .sl 17] (.ia 1), I_ 20 [.tv 19] (.ld .one), I_ 10 [.tk 20]
  .mv]) (.seq (.reg false [I_ 21 [.tk 8] .mv, I_ 22 [.sl 0] .mv, I_ 23 [.tv 22] .nilc, I_ 24 [.tv 23] (.fa 0), I_ 25 [.tv 24] (.fa 0), I_ 26 [.tv 25] (.ld .one), I_ 27 [.sl 1] .mv, I_ 28 [.tv 26, .tv 27] (.ia 1), I_ 29 [.tv 28]
  (.ld .one), I_ 30 [.tk 10] .mv, I_ 31 [.tv 29, .tv 30] (.ia 1), I_ 32 [.tv 31] (.ld .one), I_ 33 [.tv 21, .tv 32] (.bin .add), I_ 8 [.tk 33] .mv]) (.reg false [I_ 34 [.tk 7] .mv, I_ 35 [.sl 8] .mv, I_ 36 [.tv 35] (.buildS 1 1
  [.int .i64 0] [0]), I_ 37 [.tk 34, .tk 36] (.app 1 8), I_ 7 [.tk 37] .mv])))) (.reg false [I_ 38 [.tv 17, .cv (.int .i64 1)] (.bin .add), I_ 17 [.tk 38] .mv]))))))) (.seq (.reg false [I_ 39 [.tk 7] .mv, I_ 6 [.tk 39] .mv])
  .ret))))
theorem lk87 : linkF Go.Proofs.Try.prog ann87 87 = some (rc87, 40, [.tmp 6]) := by kernel_rfl
noncomputable def rc89 : RC :=
  .seq (.reg false [I_ 3 [.cv (.bool false)] .mv]) (.seq (.reg false [I_ 4 [.tv 1] (.ld .one), I_ 5 [.tk 0] .mv, I_ 6 [.cv (.func 72 [] []), .sl 4, .sl 5] (.call 3), I_ 7 [.tv 6] (.un .not), I_ 3 [.tk 7] .mv]) .ret)
theorem lk89 : linkF Go.Proofs.Try.prog ann89 89 = some (rc89, 8, [.tmp 3]) := by kernel_rfl
noncomputable def rc93 : RC :=
  .seq (.reg false [I_ 6 [.cv (.bool false)] .mv]) (.seq (.reg false [I_ 7 [] (.alloc [.int .i64 0, .int .i64 0, .int .i64 0, .int .i64 0, .int .i64 0])]) (.seq (.reg false [I_ 10 [.sl 7] (.other (Oper.mk (some 10) (Op.slice 127
  (Operand.tmp 7) none none none) 63 "bench.go:27" (Array.mk []) none) 0), ⟨none, [.tk 10], none, none, .other (Oper.mk none (Op.call (Call.mk (Callee.builtin Builtin.clear) (Array.mk [Operand.tmp 10]) (Array.mk [63]))) 0
  "bench.go:27" (Array.mk [Edge.mk 0 Ground.data]) none) 0⟩]) (.seq (.seq (.reg false [I_ 11 [.sl 2] .mv, I_ 12 [.sl 11] .lenS, I_ 13 [.cv (.int .i64 0)] .mv]) (.block 0 (.loop (some [i_,i_,i_,o_,o_,o_,o_,i_,o_,o_,o_,i_,i_,i_,o_,o_,o_,o_,o_,o_,o_,o_,o_,o_,o_,o_,o_,o_,o_,o_,o_,o_,o_,o_,o_,o_,o_,o_,o_,o_,o_,o_,o_,o_,o_,o_,o_,o_,o_,o_,o_,o_,o_,o_,o_,o_,o_]) (.seq (.reg false [I_ 14 [.sl 13, .sl 12] (.bin .lss)]) (.seq (.cond (.sl 14) .skip (.exit 0)) (.seq
  (.block 1 (.seq (.reg false [I_ 15 [.sl 11, .sl 13] (.ia 1), I_ 16 [.tv 15] (.ld .one), I_ 9 [.tk 16] .mv]) (.seq (.seq (.reg false [I_ 17 [.sl 0] .mv, I_ 18 [.tv 17] .nilc, I_ 19 [.tv 18] (.fa 0), I_ 20 [.tv 19] (.fa 0), I_ 21
  [.tv 20] (.ld .one), I_ 22 [.sl 1] .mv, I_ 23 [.tv 21, .tv 22] (.ia 1), I_ 24 [.tv 23] (.ld .one), I_ 25 [.tk 24] .lenS, I_ 26 [.tv 25, .cv (.int .i64 1)] (.bin .sub), I_ 27 [.sl 9] .mv, I_ 28 [.tv 27] (.buildS 1 1 [.int .i64
  0] [0]), I_ 29 [.cv (.func 67 [] []), .cv (.int .i64 0), .sl 26, .sl 28] (.call 3), I_ 30 [.tv 29] (.un .not), I_ 31 [.tk 30] .mv, ⟨some 32, [.sl 9], some (31, false), none, .mv⟩, ⟨some 33, [.sl 7, .tv 32], some (31, false),
  none, .iaA 5 1⟩, ⟨some 34, [.tv 33], some (31, false), none, .ld .one⟩, ⟨some 35, [.tv 34, .cv (.int .i64 0)], some (31, false), none, .bin .gtr⟩, I_ 36 [.tv 31, .cv (.bool true), .tv 35] .pick]) (.cond (.sl 36) (.seq (.reg
  false [I_ 6 [.cv (.bool false)] .mv]) .ret) .skip)) (.reg false [I_ 37 [.tk 9] .mv, I_ 38 [.sl 7, .tv 37] (.iaA 5 1), ⟨none, [.tk 38, .cv (.int .i64 1)], none, none, .st 1⟩])))) (.reg false [I_ 39 [.tv 13, .cv (.int .i64 1)]
  (.bin .add), I_ 13 [.tk 39] .mv]))))))) (.seq (.reg false [I_ 40 [.tv 7] (.ld (.arr 5)), I_ 41 [] (.build [.int .i64 0, .int .i64 0, .int .i64 0, .int .i64 0, .int .i64 0] []), I_ 42 [.tv 40, .tv 41] (.other (Oper.mk (some 42)
  (Op.binOp .neq 127 (Operand.tmp 40) (Operand.tmp 41) 127) 4 "bench.go:34" (Array.mk [Edge.mk 0 Ground.data, Edge.mk 1 Ground.data]) none) 0), I_ 43 [.tk 42] .mv, ⟨some 44, [.tk 2], some (43, true), none, .mv⟩, ⟨some 45, [.tk
  44], some (43, true), none, .lenS⟩, ⟨some 46, [.tk 0], some (43, true), none, .mv⟩, ⟨some 47, [.tv 46], some (43, true), none, .nilc⟩, ⟨some 48, [.tv 47], some (43, true), none, .fa 0⟩, ⟨some 49, [.tv 48], some (43, true),
  none, .fa 0⟩, ⟨some 50, [.tv 49], some (43, true), none, .ld .one⟩, ⟨some 51, [.tk 1], some (43, true), none, .mv⟩, ⟨some 52, [.tv 50, .tv 51], some (43, true), none, .ia 1⟩, ⟨some 53, [.tv 52], some (43, true), none, .ld
  .one⟩, ⟨some 54, [.tk 53], some (43, true), none, .lenS⟩, ⟨some 55, [.tv 45, .tv 54], some (43, true), none, .bin .eql⟩, I_ 56 [.tv 43, .tv 55, .cv (.bool false)] .pick, I_ 6 [.tk 56] .mv]) .ret))))
theorem lk93 : linkF Go.Proofs.Try.prog ann93 93 = some (rc93, 57, [.tmp 6]) := by kernel_rfl
noncomputable def rc96 : RC :=
  .seq (.reg false [I_ 4 [.cv (.bool false)] .mv]) (.seq (.reg false [I_ 5 [.tk 0] .mv, I_ 6 [.tk 1] .mv, I_ 7 [.cv (.func 110 [] []), .sl 5, .sl 6] (.call 6), I_ 8 [.tv 7, .cv (.int .i64 0)] (.bin .geq), I_ 4 [.tk 8] .mv]) .ret)
theorem lk96 : linkF Go.Proofs.Try.prog ann96 96 = some (rc96, 9, [.tmp 4]) := by kernel_rfl
noncomputable def rc97 : RC :=
  .seq (.reg false [I_ 4 [.cv (.bool false)] .mv]) (.seq (.reg false [I_ 5 [.sl 0] .mv, I_ 6 [.tv 1] (.ld .one), I_ 7 [.tv 5, .tv 6] (.bin .lss), I_ 8 [.tk 7] .mv, ⟨some 9, [.tk 0], some (8, false), none, .mv⟩, ⟨some 10, [.tv 2],
  some (8, false), none, .ld .one⟩, ⟨some 11, [.tv 9, .tv 10], some (8, false), none, .bin .gtr⟩, I_ 12 [.tv 8, .cv (.bool true), .tv 11] .pick, I_ 4 [.tk 12] .mv]) .ret)
theorem lk97 : linkF Go.Proofs.Try.prog ann97 97 = some (rc97, 13, [.tmp 4]) := by kernel_rfl
noncomputable def rc98 : RC :=
  .seq (.reg false [I_ 4 [.cv (.int .i64 0)] .mv]) (.seq (.seq (.reg false [I_ 6 [.sl 0] .mv, I_ 7 [.tk 6] .lenS, I_ 8 [.cv (.int .i64 0)] .mv]) (.block 0 (.loop (some [i_,i_,o_,o_,o_,o_,o_,i_,i_,o_,o_,o_,o_,o_,o_,o_,o_,o_,o_]) (.seq (.reg false [I_ 9 [.sl 8, .sl 7] (.bin .lss)]) (.seq (.cond (.sl 9) .skip (.exit 0)) (.seq (.block 1 (.seq (.reg false [I_ 10 [.sl 8] .mv, I_ 5 [.tk
  10] .mv]) (.seq (.reg false [I_ 11 [.sl 1] .mv, I_ 12 [.sl 0] .mv, I_ 13 [.sl 5] .mv, I_ 14 [.tv 12, .tv 13] (.ia 1), I_ 15 [.tv 14] (.ld .one), I_ 16 [.sl 11, .sl 15] (.call 6)]) (.cond (.sl 16) (.seq (.reg false [I_ 17 [.tk
  5] .mv, I_ 4 [.tk 17] .mv]) .ret) .skip)))) (.reg false [I_ 18 [.tv 8, .cv (.int .i64 1)] (.bin .add), I_ 8 [.tk 18] .mv]))))))) (.seq (.reg false [I_ 4 [.cv (.int .i64 (-1))] .mv]) .ret))
theorem lk98 : linkF Go.Proofs.Try.prog ann98 98 = some (rc98, 19, [.tmp 4]) := by kernel_rfl
noncomputable def rc99 : RC :=
  .seq (.reg false [I_ 4 [.cv (.int .i64 0)] .mv]) (.seq (.seq (.reg false [I_ 6 [.sl 0] .mv, I_ 7 [.tk 6] .lenS, I_ 8 [.cv (.int .i64 0)] .mv]) (.block 0 (.loop (some [i_,i_,o_,o_,o_,o_,o_,i_,i_,o_,o_,o_,o_,o_,o_,o_,o_,o_,o_]) (.seq (.reg false [I_ 9 [.sl 8, .sl 7] (.bin .lss)]) (.seq (.cond (.sl 9) .skip (.exit 0)) (.seq (.block 1 (.seq (.reg false [I_ 10 [.sl 8] .mv, I_ 5 [.tk
  10] .mv]) (.seq (.reg false [I_ 11 [.sl 1] .mv, I_ 12 [.sl 0] .mv, I_ 13 [.sl 5] .mv, I_ 14 [.tv 12, .tv 13] (.ia 1), I_ 15 [.tv 14] (.ld .one), I_ 16 [.tv 11, .tv 15] (.bin .eql)]) (.cond (.sl 16) (.seq (.reg false [I_ 17 [.tk
  5] .mv, I_ 4 [.tk 17] .mv]) .ret) .skip)))) (.reg false [I_ 18 [.tv 8, .cv (.int .i64 1)] (.bin .add), I_ 8 [.tk 18] .mv]))))))) (.seq (.reg false [I_ 4 [.cv (.int .i64 (-1))] .mv]) .ret))
theorem lk99 : linkF Go.Proofs.Try.prog ann99 99 = some (rc99, 19, [.tmp 4]) := by kernel_rfl
noncomputable def rc100 : RC :=
  .seq (.reg false [I_ 2 [.tk 0] .box, I_ 3 [.tk 1] .box, I_ 4 [.cv (.bool false)] .mv]) (.seq (.reg false [I_ 5 [.tv 2] (.fa 2), I_ 6 [.tv 5] (.ld .one), I_ 7 [.tv 3] (.fa 2), I_ 8 [.tv 7] (.ld .one), I_ 9 [.tv 6, .tv 8] (.bin
  .lss), I_ 4 [.tk 9] .mv]) .ret)
theorem lk100 : linkF Go.Proofs.Try.prog ann100 100 = some (rc100, 10, [.tmp 4]) := by kernel_rfl
noncomputable def rc101 : RC :=
  .seq (.reg false [I_ 4 [] (.alloc [.lst [] 0 .full, .lst [] 0 .full, .int .i64 0, .int .i64 0])]) (.seq (.reg false [I_ 8 [.sl 0] .mv, I_ 9 [.tv 8, .cv (.int .i64 0)] (.ia 4), I_ 10 [.tv 9] (.ld (.str 4)), I_ 5 [] (.alloc [.lst
  [] 0 .full, .lst [] 0 .full, .int .i64 0, .int .i64 0]), ⟨none, [.sl 5, .tk 10], none, none, .st 4⟩]) (.seq (.seq (.reg false [I_ 11 [.tk 0] .mv, I_ 12 [.tk 11, .cv (.int .i64 1)] (.slS 4 true false false), I_ 13 [.sl 12]
  .lenS, I_ 14 [.cv (.int .i64 0)] .mv]) (.block 0 (.loop (some [o_,i_,o_,o_,i_,i_,o_,o_,o_,o_,o_,o_,i_,i_,i_,o_,o_,o_,o_,o_,o_,o_,o_,o_,o_]) (.seq (.reg false [I_ 15 [.sl 14, .sl 13] (.bin .lss)]) (.seq (.cond (.sl 15) .skip (.exit 0)) (.seq (.block 1 (.seq (.reg false [I_ 16 [.sl 12, .sl 14] (.ia 4), I_ 17 [.tv 16] (.ld (.str 4)), I_ 7 [] (.alloc [.lst [] 0
  .full, .lst [] 0 .full, .int .i64 0, .int .i64 0]), ⟨none, [.sl 7, .tk 17], none, none, .st 4⟩]) (.seq (.reg false [I_ 18 [.sl 1] .mv, I_ 19 [.sl 7] (.ld (.str 4)), I_ 20 [.sl 5] (.ld (.str 4)), I_ 21 [.sl 18, .sl 19, .sl 20]
  (.call 6)]) (.cond (.sl 21) (.reg false [I_ 22 [.tv 7] (.ld (.str 4)), ⟨none, [.sl 5, .tk 22], none, none, .st 4⟩]) .skip)))) (.reg false [I_ 23 [.tv 14, .cv (.int .i64 1)] (.bin .add), I_ 14 [.tk 23] .mv]))))))) (.seq (.reg
  false [I_ 24 [.tv 5] (.ld (.str 4)), ⟨none, [.sl 4, .tk 24], none, none, .st 4⟩]) .ret)))
theorem lk101 : linkF Go.Proofs.Try.prog ann101 101 = some (rc101, 25, [.cell 4 (.str 4)]) := by kernel_rfl
noncomputable def rc102 : RC :=
  .seq (.reg false [I_ 2 [.cv (.lst [] 0 .full)] (.nil 1)]) (.seq (.reg false [I_ 3 [.cv (.int .i64 0)] .mv]) (.seq (.seq (.reg false [I_ 9 [.sl 0] .mv, I_ 10 [.sl 9] .lenS, I_ 11 [.cv (.int .i64 0)] .mv]) (.block 0 (.loop (some
  [i_,o_,o_,i_,o_,o_,o_,o_,o_,i_,i_,i_,o_,o_,o_,o_,o_,o_,o_,o_,o_,o_,o_,o_,o_,o_,o_,o_,o_,o_,o_,o_,o_,o_,o_,o_]) (.seq (.reg false [I_ 12 [.sl 11, .sl 10] (.bin .lss)]) (.seq (.cond (.sl 12) .skip (.exit 0)) (.seq (.block 1 (.seq (.reg false [I_ 13 [.sl 9, .sl 11] (.ia 1), I_ 14 [.tv 13] (.ld .one), I_ 5 [.tk 14]
  .mv]) (.seq (.reg false [I_ 15 [.tk 3] .mv, I_ 16 [.tk 5] .mv, I_ 17 [.tk 16] .lenS, I_ 18 [.tv 15, .tv 17] (.bin .add), I_ 3 [.tk 18] .mv]) (.seq (.reg false [I_ 19 [.sl 3] .mv, I_ 20 [.tv 19, .cv (.int .i64 0)] (.bin .lss)])
  (.cond (.sl 20) (.reg false [I_ 21 [.cv (.str (ByteArray.mk (Array.mk [108, 101, 110, 32, 111, 117, 116, 32, 111, 102, 32, 114, 97, 110, 103, 101])))] (.other (Oper.mk (some 21) (Op.makeInterface 9 (Operand.const (Value.string
  (ByteArray.mk (Array.mk [108, 101, 110, 32, 111, 117, 116, 32, 111, 102, 32, 114, 97, 110, 103, 101]))))) 20 "slices.go:496" (Array.mk []) none) 0), ⟨none, [.tv 21], none, none, .other (Oper.mk none (Op.panic (Operand.tmp 21))
  0 "slices.go:496" (Array.mk [Edge.mk 0 Ground.data]) none) 0⟩]) .skip))))) (.reg false [I_ 22 [.tv 11, .cv (.int .i64 1)] (.bin .add), I_ 11 [.tk 22] .mv]))))))) (.seq (.reg false [I_ 23 [.tk 3] .mv, I_ 24 [.cv (.func 113 []
  []), .cv (.lst [] 0 .full), .sl 23] (.call 0), I_ 6 [.tk 24] .mv]) (.seq (.seq (.reg false [I_ 25 [.tk 0] .mv, I_ 26 [.sl 25] .lenS, I_ 27 [.cv (.int .i64 0)] .mv]) (.block 2 (.loop (some [o_,o_,o_,o_,o_,o_,i_,o_,o_,o_,o_,o_,o_,o_,o_,o_,o_,o_,o_,o_,o_,o_,o_,o_,o_,i_,i_,i_,o_,o_,o_,o_,o_,o_,o_,o_]) (.seq (.reg
  false [I_ 28 [.sl 27, .sl 26] (.bin .lss)]) (.seq (.cond (.sl 28) .skip (.exit 2)) (.seq (.block 3 (.seq (.reg false [I_ 29 [.sl 25, .sl 27] (.ia 1), I_ 30 [.tv 29] (.ld .one), I_ 8 [.tk 30] .mv]) (.reg false [I_ 31 [.tk 6]
  .mv, I_ 32 [.tk 8] .mv, I_ 33 [.tk 31, .tk 32] (.app 1 24), I_ 6 [.tk 33] .mv]))) (.reg false [I_ 34 [.tv 27, .cv (.int .i64 1)] (.bin .add), I_ 27 [.tk 34] .mv]))))))) (.seq (.reg false [I_ 35 [.tk 6] .mv, I_ 2 [.tk 35] .mv])
  .ret)))))
theorem lk102 : linkF Go.Proofs.Try.prog ann102 102 = some (rc102, 36, [.tmp 2]) := by kernel_rfl
noncomputable def rc104 : RC :=
  .seq (.reg false [I_ 3 [.sl 0] .mv, I_ 4 [.tk 3] .lenS, I_ 2 [.tk 4] .mv]) (.reg false [I_ 5 [.tk 0] .mv, I_ 6 [.sl 2] .mv, I_ 7 [.tk 2] .mv, I_ 8 [.tv 7] (.conv .u64), I_ 9 [.cv (.func 115 [] []), .sl 8] (.call 3), I_ 10 [.cv
  (.func 114 [] []), .tk 5, .cv (.int .i64 0), .tk 6, .tk 9] (.call 1)])
theorem lk104 : linkF Go.Proofs.Try.prog ann104 104 = some (rc104, 11, []) := by kernel_rfl
noncomputable def rc107 : RC :=
  .seq (.reg false [I_ 4 [.cv (.lst [] 0 .full)] (.nil 1)]) (.seq (.seq (.reg true [I_ 8 [.tv 1] (.ld .one), I_ 9 [.tv 8] .nilc, I_ 10 [.tv 9] (.fa 0), I_ 11 [.tv 10] (.fa 0), I_ 12 [.tv 11] (.ld .one), I_ 13 [.tv 2] (.ld .one), I_
  14 [.tv 12, .tv 13] (.ia 1), I_ 15 [.tv 14] (.ld .one), I_ 16 [.tk 15] .lenS, I_ 17 [.cv (.int .i64 0)] .mv]) (.block 0 (.loop (some [i_,o_,o_,o_,i_,o_,o_,o_,o_,o_,o_,o_,o_,o_,o_,o_,i_,i_,o_,o_,o_,o_,o_,o_,o_,o_,o_,o_,o_,o_,o_,o_,o_,o_,o_,o_,o_,o_,o_,o_,o_,o_,o_,o_,o_,o_,o_,o_,o_,o_,o_,o_,o_,o_,o_,o_,o_,o_,o_,o_,o_,o_,o_,o_,o_,o_,o_,o_,o_,o_,o_,o_,o_,o_,o_,o_,o_,o_,o_,o_,o_,o_,o_,o_,o_,o_,o_,o_,o_]) (.seq (.reg false [I_ 18 [.sl 17, .sl 16] (.bin .lss)]) (.seq (.cond (.sl 18) .skip (.exit 0)) (.seq (.block 1 (.seq (.reg false [I_ 19 [.sl
  17] .mv, I_ 5 [.tk 19] .mv]) (.reg false [I_ 20 [.sl 4] .mv, I_ 21 [.sl 4] .mv, I_ 22 [.tk 21] .lenS, I_ 23 [.tk 4] .mv, I_ 24 [.tk 23] .lenS, I_ 25 [.tk 20, .tk 22, .tk 24] (.slS 1 false true true), I_ 26 [.tk 5] .mv, I_ 27
  [.tv 26] (.buildS 1 1 [.int .i64 0] [0]), I_ 28 [.tk 25, .tk 27] (.app 1 8), I_ 4 [.tk 28] .mv]))) (.reg false [I_ 29 [.tv 17, .cv (.int .i64 1)] (.bin .add), I_ 17 [.tk 29] .mv]))))))) (.block 2 (.loop (some [i_,o_,o_,o_,i_,o_,o_,o_,o_,o_,o_,o_,o_,o_,o_,o_,o_,o_,o_,o_,o_,o_,o_,o_,o_,o_,o_,o_,o_,o_,o_,o_,o_,o_,o_,o_,o_,o_,o_,o_,o_,o_,o_,o_,o_,o_,o_,o_,o_,o_,o_,o_,o_,o_,o_,o_,o_,o_,o_,o_,o_,o_,o_,o_,o_,o_,o_,o_,o_,o_,o_,o_,o_,o_,o_,o_,o_,o_,o_,o_,o_,o_,o_,o_,o_,o_,o_,o_,o_]) (.block 3 (.seq (.seq (.reg false [I_ 30 [.sl 0] .mv, ⟨some 31,
  [.tk 4], none, some 4, .thaw⟩, I_ 32 [.cv (.func 108 [] []), .sl 31] (.call 6), I_ 33 [.tk 30, .tk 32] (.call 1), I_ 34 [.tv 33] (.un .not)]) (.cond (.sl 34) .ret .skip)) (.seq (.reg false [I_ 35 [.sl 4] .mv, I_ 36 [.tk 35]
  .lenS, I_ 37 [.tv 36, .cv (.int .i64 2)] (.bin .sub), I_ 6 [.tk 37] .mv]) (.seq (.block 4 (.loop (some [i_,o_,o_,o_,i_,o_,i_,o_,o_,o_,o_,o_,o_,o_,o_,o_,o_,o_,o_,o_,o_,o_,o_,o_,o_,o_,o_,o_,o_,o_,o_,o_,o_,o_,o_,o_,o_,o_,o_,o_,o_,o_,o_,o_,o_,o_,o_,o_,o_,o_,o_,o_,o_,o_,o_,o_,o_,o_,o_,o_,o_,o_,o_,o_,o_,o_,o_,o_,o_,o_,o_,o_,o_,o_,o_,o_,o_,o_,o_,o_,o_,o_,o_,o_,o_,o_,o_,o_,o_]) (.seq (.seq (.reg true [I_ 38 [.sl 6] .mv, I_ 39 [.tv 38, .cv (.int .i64 0)] (.bin .geq), I_ 40 [.tk 39] .mv, ⟨some 41, [.sl 4], some (40, true), none, .mv⟩, ⟨some 42, [.sl 6],
  some (40, true), none, .mv⟩, ⟨some 43, [.tv 41, .tv 42], some (40, true), none, .ia 1⟩, ⟨some 44, [.tv 43], some (40, true), none, .ld .one⟩, ⟨some 45, [.sl 4], some (40, true), none, .mv⟩, ⟨some 46, [.sl 6], some (40, true),
  none, .mv⟩, ⟨some 47, [.tv 46, .cv (.int .i64 1)], some (40, true), none, .bin .add⟩, ⟨some 48, [.tv 45, .tv 47], some (40, true), none, .ia 1⟩, ⟨some 49, [.tv 48], some (40, true), none, .ld .one⟩, ⟨some 50, [.tv 44, .tv 49],
  some (40, true), none, .bin .gtr⟩, I_ 51 [.sl 40, .tv 50, .cv (.bool false)] .pick]) (.cond (.sl 51) .skip (.exit 4))) (.block 5 (.reg false [I_ 52 [.tk 6] .mv, I_ 53 [.tv 52, .cv (.int .i64 1)] (.bin .sub), I_ 6 [.tk 53]
  .mv]))))) (.seq (.seq (.reg false [I_ 54 [.sl 6] .mv, I_ 55 [.tv 54, .cv (.int .i64 0)] (.bin .lss)]) (.cond (.sl 55) .ret .skip)) (.seq (.reg false [I_ 56 [.sl 4] .mv, I_ 57 [.tk 56] .lenS, I_ 58 [.tv 57, .cv (.int .i64 1)]
  (.bin .sub), I_ 7 [.tk 58] .mv]) (.seq (.block 6 (.loop (some [i_,o_,o_,o_,i_,o_,i_,i_,o_,o_,o_,o_,o_,o_,o_,o_,o_,o_,o_,o_,o_,o_,o_,o_,o_,o_,o_,o_,o_,o_,o_,o_,o_,o_,o_,o_,o_,o_,o_,o_,o_,o_,o_,o_,o_,o_,o_,o_,o_,o_,o_,o_,o_,o_,o_,o_,o_,o_,o_,o_,o_,o_,o_,o_,o_,o_,o_,o_,o_,o_,o_,o_,o_,o_,o_,o_,o_,o_,o_,o_,o_,o_,o_,o_,o_,o_,o_,o_,o_]) (.seq (.seq (.reg true [I_ 59 [.sl 4] .mv, I_ 60 [.sl 7] .mv, I_ 61 [.tv 59, .tv 60] (.ia 1), I_ 62 [.tv 61] (.ld .one), I_ 63 [.sl 4] .mv, I_ 64 [.sl 6] .mv, I_ 65 [.tv 63, .tv 64] (.ia 1), I_ 66 [.tv 65] (.ld .one),
  I_ 67 [.tv 62, .tv 66] (.bin .lss)]) (.cond (.sl 67) .skip (.exit 6))) (.block 7 (.reg false [I_ 68 [.tk 7] .mv, I_ 69 [.tv 68, .cv (.int .i64 1)] (.bin .sub), I_ 7 [.tk 69] .mv]))))) (.seq (.reg true [I_ 70 [.sl 4] .mv, I_ 71
  [.sl 6] .mv, I_ 72 [.sl 4] .mv, I_ 73 [.sl 7] .mv, I_ 74 [.sl 4] .mv, I_ 75 [.sl 7] .mv, I_ 76 [.tv 74, .tv 75] (.ia 1), I_ 77 [.tv 76] (.ld .one), I_ 78 [.sl 4] .mv, I_ 79 [.sl 6] .mv, I_ 80 [.tv 78, .tv 79] (.ia 1), I_ 81
  [.tv 80] (.ld .one), I_ 82 [.tv 70, .tv 71] (.ia 1), ⟨none, [.tk 82, .tk 77], none, none, .st 1⟩, I_ 83 [.tv 72, .tv 73] (.ia 1), ⟨none, [.tk 83, .tk 81], none, none, .st 1⟩]) (.reg false [I_ 84 [.sl 4] .mv, I_ 85 [.tk 6] .mv,
  I_ 86 [.tv 85, .cv (.int .i64 1)] (.bin .add), I_ 87 [.tk 84, .tk 86] (.slS 1 true false false), I_ 88 [.cv (.func 109 [] []), .tk 87] (.call 1)]))))))))))))
theorem lk107 : linkF Go.Proofs.Try.prog ann107 107 = some (rc107, 89, []) := by kernel_rfl
noncomputable def rc108 : RC :=
  .seq (.reg false [I_ 2 [.cv (.lst [] 0 .full)] (.nil 1)]) (.seq (.seq (.reg false [I_ 3 [.sl 0] .mv, I_ 4 [.tv 3, .cv (.lst [] 0 .full)] (.other (Oper.mk (some 4) (Op.binOp .eql 63 (Operand.tmp 3) (Operand.const (Value.slice none
  0 0)) 63) 4 "slices.go:357" (Array.mk [Edge.mk 0 Ground.data]) none) 0)]) (.cond (.sl 4) (.seq (.reg false [I_ 2 [.cv (.lst [] 0 .full)] (.nil 1)]) .ret) .skip)) (.seq (.reg false [I_ 5 [] (.buildS 0 1 [.int .i64 0] []), I_ 6
  [.tk 0] .mv, I_ 7 [.tk 5, .tk 6] (.app 1 8), I_ 2 [.tk 7] .mv]) .ret))
theorem lk108 : linkF Go.Proofs.Try.prog ann108 108 = some (rc108, 8, [.tmp 2]) := by kernel_rfl
noncomputable def rc109 : RC :=
  .seq (.reg false [I_ 4 [.sl 0] .mv, I_ 5 [.tk 4] .lenS, I_ 6 [.tv 5, .cv (.int .i64 1)] (.bin .sub), I_ 2 [.cv (.int .i64 0)] .mv, I_ 3 [.tk 6] .mv]) (.block 0 (.loop (some [i_,o_,i_,i_,o_,o_,o_,o_,o_,o_,o_,o_,o_,o_,o_,o_,o_,o_,o_,o_,o_,o_,o_,o_,o_,o_,o_,o_]) (.seq (.seq (.reg false [I_ 7 [.sl 2] .mv, I_ 8 [.sl 3] .mv, I_ 9 [.tv 7, .tv 8] (.bin
  .lss)]) (.cond (.sl 9) .skip (.exit 0))) (.seq (.block 1 (.reg true [I_ 14 [.sl 0] .mv, I_ 15 [.sl 2] .mv, I_ 16 [.sl 0] .mv, I_ 17 [.sl 3] .mv, I_ 18 [.sl 0] .mv, I_ 19 [.sl 3] .mv, I_ 20 [.tv 18, .tv 19] (.ia 1), I_ 21 [.tv
  20] (.ld .one), I_ 22 [.sl 0] .mv, I_ 23 [.sl 2] .mv, I_ 24 [.tv 22, .tv 23] (.ia 1), I_ 25 [.tv 24] (.ld .one), I_ 26 [.tv 14, .tv 15] (.ia 1), ⟨none, [.tk 26, .tk 21], none, none, .st 1⟩, I_ 27 [.tv 16, .tv 17] (.ia 1),
  ⟨none, [.tk 27, .tk 25], none, none, .st 1⟩])) (.reg false [I_ 10 [.tk 2] .mv, I_ 11 [.tv 10, .cv (.int .i64 1)] (.bin .add), I_ 12 [.tk 3] .mv, I_ 13 [.tv 12, .cv (.int .i64 1)] (.bin .sub), I_ 2 [.tk 11] .mv, I_ 3 [.tk 13]
  .mv])))))
theorem lk109 : linkF Go.Proofs.Try.prog ann109 109 = some (rc109, 28, []) := by kernel_rfl
noncomputable def rc110 : RC :=
  .seq (.reg false [I_ 4 [.cv (.int .i64 0)] .mv]) (.seq (.seq (.reg false [I_ 6 [.sl 0] .mv, I_ 7 [.tk 6] .lenS, I_ 8 [.cv (.int .i64 0)] .mv]) (.block 0 (.loop (some [i_,i_,o_,o_,o_,o_,o_,i_,i_,o_,o_,o_,o_,o_,o_,o_,o_,o_,o_]) (.seq (.reg false [I_ 9 [.sl 8, .sl 7] (.bin .lss)]) (.seq (.cond (.sl 9) .skip (.exit 0)) (.seq (.block 1 (.seq (.reg false [I_ 10 [.sl 8] .mv, I_ 5 [.tk
  10] .mv]) (.seq (.reg false [I_ 11 [.sl 1] .mv, I_ 12 [.sl 0] .mv, I_ 13 [.sl 5] .mv, I_ 14 [.tv 12, .tv 13] (.ia 1), I_ 15 [.tv 14] (.ld .one), I_ 16 [.sl 11, .sl 15] (.call 6)]) (.cond (.sl 16) (.seq (.reg false [I_ 17 [.tk
  5] .mv, I_ 4 [.tk 17] .mv]) .ret) .skip)))) (.reg false [I_ 18 [.tv 8, .cv (.int .i64 1)] (.bin .add), I_ 8 [.tk 18] .mv]))))))) (.seq (.reg false [I_ 4 [.cv (.int .i64 (-1))] .mv]) .ret))
theorem lk110 : linkF Go.Proofs.Try.prog ann110 110 = some (rc110, 19, [.tmp 4]) := by kernel_rfl
end Go.Proofs.Ytlcebaejlnpdeaa.Ab

/-
  Words for contracts: lists of integers; loops that count; calls of closures.
-/
namespace Go.Proofs.Ytlcebaejlnpdeaa.Ab
open Go
theorem hmix : Go.Proofs.Try.prog.follows .mixedOrders = true := by kernel_rfl
/-- A pure call of the program. -/
abbrev PO (k : FuncId) (args : List AV) (v : AV) : Prop := PureOk Go.Proofs.Try.prog k args v
abbrev I (n : Int) : AV := .int .i64 n
abbrev J : AV := .junk
abbrev B (b : Bool) : AV := .bool b
/-- A list of integers, of lists. -/
def L1 (l : List Int) : AV := .lst (l.map I) l.length .shared
def L2 (l : List (List Int)) : AV := .lst (l.map L1) l.length .shared
/-- Lists that a call hands out. -/
def O1 (l : List Int) : AV := .lst (l.map I) l.length (.own 1)
def O2 (l : List (List Int)) : AV := .lst (l.map L1) l.length (.own 1)
/-- A panel. -/
abbrev P1 (l : List (List Int)) : AV := .agg [L2 l]
theorem pure_ints (d : Nat) (l : List Int) : (l.map I).all (pureD (d + 1)) = true := by
  rw [List.all_eq_true]; intro u hu; obtain ⟨x, _, rfl⟩ := List.mem_map.1 hu; rfl
theorem pure_L1 (d : Nat) (l : List Int) : pureD (d + 2) (L1 l) = true := pure_ints d l
theorem pure_lists (d : Nat) (l : List (List Int)) : (l.map L1).all (pureD (d + 2)) = true := by
  rw [List.all_eq_true]; intro u hu; obtain ⟨x, _, rfl⟩ := List.mem_map.1 hu; exact pure_L1 d x
theorem pure_L2 (d : Nat) (l : List (List Int)) : pureD (d + 3) (L2 l) = true := pure_lists d l
theorem pu0 (k : IntKind) (n : Int) : pureD 8 (.int k n) = true := rfl
theorem pub (b : Bool) : pureD 8 (.bool b) = true := rfl
theorem pu1 (l : List Int) (n : Nat) (c : Cap) : pureD 8 (.lst (l.map I) n c) = true := pure_ints 6 l
theorem pu2 (l : List (List Int)) (n : Nat) (c : Cap) : pureD 8 (.lst (l.map L1) n c) = true := pure_lists 5 l
theorem pu1' (l : List Int) : pureD 8 (L1 l) = true := pure_L1 6 l
theorem pu2' (l : List (List Int)) : pureD 8 (L2 l) = true := pure_L2 5 l
theorem puf (k : FuncId) : pureD 8 (.func k [] []) = true := rfl
theorem pun (n : Nat) (c : Cap) : pureD 8 (.lst [] n c) = true := rfl
theorem puP (l : List (List Int)) (n : Nat) (c : Cap) : pureD 8 (.agg [.lst (l.map L1) n c]) = true := by
  show [AV.lst (l.map L1) n c].all (pureD 7) = true
  rw [List.all_cons, List.all_nil, Bool.and_true]; exact pure_lists 4 l
theorem puP' (l : List (List Int)) : pureD 8 (.agg [L2 l]) = true := puP l _ _
theorem puQ (l : List (List Int)) : pureD 8 (.lptr [L2 l]) = true := puP l _ _
theorem puQ' (l : List (List Int)) (n : Nat) (c : Cap) : pureD 8 (.lptr [.lst (l.map L1) n c]) = true := puP l _ _
/-- An element is loaded. -/
theorem nthM {α : Type} (f : α → AV) (l : List α) (i : Nat) (h : i < l.length) {K : AV → Prop} (k : K (f l[i])) : nthK ((l.map f).drop (i * 1)) 0 K :=
  nthK_of (x := f l[i]) (by simp [h]) k
theorem wrapS (i : Nat) (h : i ≤ 9223372036854775806) : IntKind.i64.wrap ((i : Int) + 1) = ((i + 1 : Nat) : Int) := by rw [IntKind.wrap_i64]; omega
theorem wrapI (n : Int) (h1 : -9223372036854775808 ≤ n) (h2 : n ≤ 9223372036854775807) : IntKind.i64.wrap n = n := by rw [IntKind.wrap_i64]; omega
theorem pureD_succ : ∀ {d : Nat} {v : AV}, pureD d v = true → pureD (d + 1) v = true
  | 0, v, h => by simp [pureD] at h
  | d + 1, v, h => by
    have key : ∀ {l : List AV}, l.all (pureD d) = true → l.all (pureD (d + 1)) = true := fun h => by
      rw [List.all_eq_true] at h ⊢; exact fun u hu => pureD_succ (h u hu)
    cases v <;> simp only [pureD, Bool.and_eq_true, Bool.false_eq_true] at h ⊢ <;> first | trivial | exact key h | exact ⟨key h.1, key h.2⟩
theorem pureD_le {d e : Nat} {v : AV} (h : pureD d v = true) (hd : d ≤ e) : pureD e v = true := by
  obtain ⟨k, rfl⟩ := Nat.le.dest hd
  induction k with
  | zero => exact h
  | succ k ih => exact pureD_succ (ih (by omega))
/-- A test: by what it says. -/
theorem dcase {p : Prop} [Decidable p] {A C : Prop} (h1 : p → A) (h2 : ¬ p → C) : (match decide p with | true => A | false => C) := by
  by_cases h : p
  · simp only [h, decide_true]; exact h1 h
  · simp only [h, decide_false]; exact h2 h
/-- At the head of a loop that counts. -/
def CI (F : Nat → List AV) (n : Nat) (H0 : List AObj) (m : Nat) (T : List AV) (H : List AObj) : Prop := ∃ i, i ≤ n ∧ m = n - i ∧ T = F i ∧ H = H0
theorem ci0 {F : Nat → List AV} {n : Nat} {H0 : List AObj} {T : List AV} (h : T = F 0) : CI F n H0 n T H0 := ⟨0, Nat.zero_le _, rfl, h, rfl⟩
theorem ciN {F : Nat → List AV} {n : Nat} {H0 : List AObj} {i : Nat} {T : List AV} (h : i < n) (hT : T = F (i + 1)) : ∃ m', m' < n - i ∧ CI F n H0 m' T H0 :=
  ⟨n - (i + 1), by omega, i + 1, by omega, rfl, hT, rfl⟩
/-- At the head of a loop that counts, where something holds. -/
def CP (R : Nat → Prop) (F : Nat → List AV) (n : Nat) (H0 : List AObj) (m : Nat) (T : List AV) (H : List AObj) : Prop := ∃ i, i ≤ n ∧ m = n - i ∧ R i ∧ T = F i ∧ H = H0
theorem cp0 {R : Nat → Prop} {F : Nat → List AV} {n : Nat} {H0 : List AObj} {T : List AV} (s : Nat) (hs : s ≤ n) (hR : R s) (h : T = F s) : CP R F n H0 (n - s) T H0 := ⟨s, hs, rfl, hR, h, rfl⟩
theorem cpN {R : Nat → Prop} {F : Nat → List AV} {n : Nat} {H0 : List AObj} {i : Nat} {T : List AV} (h : i < n) (hR : R (i + 1)) (hT : T = F (i + 1)) : ∃ m', m' < n - i ∧ CP R F n H0 m' T H0 :=
  ⟨n - (i + 1), by omega, i + 1, by omega, rfl, hR, hT, rfl⟩
/-- Calls in a statement whose order is open: the same call, the same value. -/
theorem acc0 {k : FuncId} {xs : List AV} {v : AV} : ∀ p ∈ ([] : PAcc), p.1 = k → p.2.1 = xs → p.2.2 = v := fun _ h => by simp at h
theorem acc1 {k k' : FuncId} {xs ys : List AV} {v v' : AV} (h : k' = k → ys = xs → v' = v) : ∀ p ∈ ([(k', ys, v')] : PAcc), p.1 = k → p.2.1 = xs → p.2.2 = v := fun p hp => by
  simp only [List.mem_singleton] at hp; subst hp; exact h
theorem accN {k : FuncId} {xs : List AV} {v : AV} {acc : PAcc} (h : acc.all (fun p => p.1 != k) = true) : ∀ p ∈ acc, p.1 = k → p.2.1 = xs → p.2.2 = v := fun p hp e => by
  have := List.all_eq_true.1 h p hp
  simp [e] at this
theorem ints_inj : ∀ {a b : List Int}, a.map I = b.map I → a = b
  | [], [], _ => rfl
  | [], _ :: _, h => by simp at h
  | _ :: _, [], h => by simp at h
  | x :: a, y :: b, h => by
    simp only [List.map_cons, List.cons.injEq, AV.int.injEq, true_and] at h
    rw [h.1, ints_inj h.2]
theorem L1_inj {a b : List Int} (h : L1 a = L1 b) : a = b := by
  unfold L1 at h
  simp only [AV.lst.injEq] at h; exact ints_inj h.1
/-- Captured variables, as they are. -/
def Boxes (cap : List AV) : Prop := cap.all (pureD 7) = true ∧ ∀ u ∈ cap, ∃ cs, u = .lptr cs
theorem Boxes.all8 {cap : List AV} (h : Boxes cap) : cap.all (pureD 8) = true := by
  have h1 := h.1
  rw [List.all_eq_true] at h1 ⊢; exact fun u hu => pureD_succ (h1 u hu)
theorem Boxes.shz {cap : List AV} (h : Boxes cap) (H : List AObj) : cap.map (shz H) = cap := by
  conv => rhs; rw [← List.map_id cap]
  apply List.map_congr_left; intro u hu; obtain ⟨cs, rfl⟩ := h.2 u hu; rfl
theorem Boxes.shz0 {cap : List AV} (h : Boxes cap) (H : List AObj) : cap.map (shz0 H) = cap := by
  conv => rhs; rw [← List.map_id cap]
  apply List.map_congr_left; intro u hu; obtain ⟨cs, rfl⟩ := h.2 u hu; rfl
theorem Boxes.dim {cap : List AV} (h : Boxes cap) : cap.map AV.dim = cap := by
  conv => rhs; rw [← List.map_id cap]
  apply List.map_congr_left; intro u hu; obtain ⟨cs, rfl⟩ := h.2 u hu; rfl
theorem Boxes.fn {cap : List AV} (h : Boxes cap) (H : List AObj) (k : FuncId) : Ab.shz H (.func k [] cap) = .func k [] cap := by
  simp only [Ab.shz, h.shz0, List.map_nil]
theorem Boxes.pfn {cap : List AV} (h : Boxes cap) (k : FuncId) : pureD 8 (.func k [] cap) = true := by
  show (([] : List AV).all (pureD 7) && cap.all (pureD 7)) = true
  rw [h.1]; rfl
theorem Boxes.nil : Boxes [] := ⟨rfl, by simp⟩
section
variable {P : Program}
/-- A call of mode 6. -/
theorem call6 {k : FuncId} {xs bs : List AV} {H : List AObj} {lo : Nat} {v : AV} (hb : (xs.map (shz H)).map AV.dim = bs) (hp : (xs.map (shz H)).all (pureD 8) = true) (h : PureOk P k bs v) (hs : scal v = true) : CallS P 6 lo (.fn k) xs H v.dim H := by
  subst hb
  refine ⟨oneC (.fn k) ((xs.map (shz H)).map AV.dim) [] 0 v [], oneC_sound h.1, ?_⟩
  simp only [callTo, hp, oneC_self, Option.bind_some, frz_pure h.2, hs]
end
theorem headD0 {α : Type} {l : List α} (d : α) (h : 0 < l.length) : l.headD d = l[0] := by
  cases l with
  | nil => exact absurd h (by simp)
  | cons a l => rfl
/-- A pointer that is handed out: its variable, as it is. -/
theorem frz_ptr {H : List AObj} {id d : Nat} {l : List AV} (h : H[id]? = some (.cells l)) (hp : (l.map AV.view).all (pureD d) = true) : frz H 0 H.length 0 (d + 1) (.ptr id 0) = some (.lptr (l.map AV.view)) := by
  have h1 := (List.getElem?_eq_some_iff.1 h).1
  have h2 : mapO (frz H 0 H.length 0 d) (l.map AV.view) = some (l.map AV.view) := mapO_id fun u hu => frz_pure (by rw [List.all_eq_true] at hp; exact hp u hu)
  simp only [frz, Nat.not_lt_zero, if_false, h, List.drop_zero, h2, Option.map_some]
  rw [if_neg (by omega)]
theorem any_drop {α : Type} (p : α → Bool) (l : List α) (i : Nat) (h : i < l.length) : (l.drop i).any p = (p l[i] || (l.drop (i + 1)).any p) := by
  rw [List.drop_eq_getElem_cons h, List.any_cons]
theorem foldl_take {α β : Type} (g : β → α → β) (b : β) (l : List α) (i : Nat) (h : i < l.length) : (l.take (i + 1)).foldl g b = g ((l.take i).foldl g b) l[i] := by
  rw [List.take_succ_eq_append_getElem h, List.foldl_append]; rfl
/-! ### slices.IndexFunc, slices.ContainsFunc -/
def idxOf {α : Type} (p : α → Bool) : List α → Nat → Int
  | [], _ => -1
  | x :: l, i => if p x = true then i else idxOf p l (i + 1)
theorem idxOf_drop {α : Type} (p : α → Bool) (l : List α) (i : Nat) (h : i < l.length) : idxOf p (l.drop i) i = if p l[i] = true then (i : Int) else idxOf p (l.drop (i + 1)) (i + 1) := by
  rw [List.drop_eq_getElem_cons h]; rfl
theorem idxOf_nonneg {α : Type} (p : α → Bool) : ∀ (l : List α) (i : Nat), 0 ≤ idxOf p l i ↔ l.any p = true
  | [], i => by simp [idxOf]
  | x :: l, i => by
    have ih := idxOf_nonneg p l (i + 1)
    simp only [idxOf, List.any_cons, Bool.or_eq_true]
    by_cases hp : p x = true
    · simp [hp]
    · rw [if_neg hp, ih]; simp [hp]
theorem idxOf_any {α : Type} (p : α → Bool) (l : List α) (i : Nat) : decide (0 ≤ idxOf p l i) = l.any p := by
  rw [Bool.eq_iff_iff, decide_eq_true_iff]; exact idxOf_nonneg p l i
section
variable (l : List Int) (hl : l.length ≤ 140737488355328)
include hl
theorem indexFunc_ok (p : Int → Bool) (k : FuncId) (cap : List AV) (hc : Boxes cap) (hk : ∀ x ∈ l, PO k (I x :: cap) (B (p x))) :
    PO 110 [L1 l, .func k [] cap] (I (idxOf p l 0)) := by
  refine fn_pure hmix lk110 rfl rfl ?_
  unfold rc110
  conv => whnf
  refine .intro (fun m T H => ∃ i, i ≤ l.length ∧ m = l.length - i ∧ idxOf p l 0 = idxOf p (l.drop i) i ∧ T = [L1 l, .func k [] cap, J, J, J, J, J, I l.length, I i, J, J, J, J, J, J, J, J, J, J] ∧ H = []) l.length ⟨0, by omega, by omega, rfl, rfl, rfl⟩ ?_
  rintro m T H ⟨i, hi, rfl, he, rfl, rfl⟩
  conv => whnf
  refine dcase (fun h => ?_) (fun h => ?_)
  · have hlt : i < l.length := by omega
    rw [idxOf_drop p l i hlt] at he
    conv => whnf
    refine ⟨by omega, ?_⟩
    conv => whnf
    refine nthM _ _ _ (hlt) ?_
    conv => whnf
    refine ⟨_, _, call6 (bs := I l[i] :: cap) ?_ ?_ (hk _ (List.getElem_mem hlt)) rfl, ?_⟩
    · simp only [List.map_cons, hc.shz, hc.dim]; rfl
    · simp only [List.map_cons, hc.shz, List.all_cons, hc.all8]; rfl
    conv => whnf
    cases hp : p l[i] with
    | true =>
      conv => whnf
      rw [hp, if_pos rfl] at he
      exact ret_pure (.inr rfl) rfl (by rw [he]; rfl)
    | false =>
      conv => whnf
      rw [hp, if_neg (by simp)] at he
      exact ⟨l.length - (i + 1), by omega, i + 1, by omega, rfl, he, by rw [← wrapS i (by omega)] <;> rfl, rfl⟩
  · obtain rfl : i = l.length := by omega
    rw [List.drop_length] at he
    conv => whnf
    exact ret_pure (.inr rfl) rfl (by rw [he]; rfl)
theorem containsFunc_ok (p : Int → Bool) (k : FuncId) (cap : List AV) (hc : Boxes cap) (hk : ∀ x ∈ l, PO k (I x :: cap) (B (p x))) :
    PO 96 [L1 l, .func k [] cap] (B (l.any p)) := by
  refine fn_pure hmix lk96 rfl rfl ?_
  unfold rc96
  conv => whnf
  refine ⟨_, _, call6 (bs := [L1 l, .func k [] cap]) ?_ ?_ (indexFunc_ok l hl p k cap hc hk) rfl, ?_⟩
  · simp only [List.map_cons, List.map_nil, hc.fn]; rfl
  · simp only [List.map_cons, List.map_nil, hc.fn, List.all_cons, List.all_nil, hc.pfn, Bool.and_true]; exact pure_L1 6 l
  conv => whnf
  exact ret_pure (.inr rfl) rfl (by rw [← idxOf_any p l 0]; rfl)
end
section
variable (l : List (List Int)) (hl : l.length ≤ 140737488355328)
include hl
theorem indexFuncL_ok (p : List Int → Bool) (k : FuncId) (cap : List AV) (hc : Boxes cap) (hk : ∀ x ∈ l, PO k (L1 x :: cap) (B (p x))) :
    PO 98 [L2 l, .func k [] cap] (I (idxOf p l 0)) := by
  refine fn_pure hmix lk98 rfl rfl ?_
  unfold rc98
  conv => whnf
  refine .intro (fun m T H => ∃ i, i ≤ l.length ∧ m = l.length - i ∧ idxOf p l 0 = idxOf p (l.drop i) i ∧ T = [L2 l, .func k [] cap, J, J, J, J, J, I l.length, I i, J, J, J, J, J, J, J, J, J, J] ∧ H = []) l.length ⟨0, by omega, by omega, rfl, rfl, rfl⟩ ?_
  rintro m T H ⟨i, hi, rfl, he, rfl, rfl⟩
  conv => whnf
  refine dcase (fun h => ?_) (fun h => ?_)
  · have hlt : i < l.length := by omega
    rw [idxOf_drop p l i hlt] at he
    conv => whnf
    refine ⟨by omega, ?_⟩
    conv => whnf
    refine nthM _ _ _ (hlt) ?_
    conv => whnf
    refine ⟨_, _, call6 (bs := L1 l[i] :: cap) ?_ ?_ (hk _ (List.getElem_mem hlt)) rfl, ?_⟩
    · simp only [List.map_cons, hc.shz, hc.dim]; rfl
    · simp only [List.map_cons, hc.shz, List.all_cons, hc.all8, Bool.and_true]; exact pure_L1 6 _
    conv => whnf
    cases hp : p l[i] with
    | true =>
      conv => whnf
      rw [hp, if_pos rfl] at he
      exact ret_pure (.inr rfl) rfl (by rw [he]; rfl)
    | false =>
      conv => whnf
      rw [hp, if_neg (by simp)] at he
      exact ⟨l.length - (i + 1), by omega, i + 1, by omega, rfl, he, by rw [← wrapS i (by omega)] <;> rfl, rfl⟩
  · obtain rfl : i = l.length := by omega
    rw [List.drop_length] at he
    conv => whnf
    exact ret_pure (.inr rfl) rfl (by rw [he]; rfl)
theorem containsFuncL_ok (p : List Int → Bool) (k : FuncId) (cap : List AV) (hc : Boxes cap) (hk : ∀ x ∈ l, PO k (L1 x :: cap) (B (p x))) :
    PO 69 [L2 l, .func k [] cap] (B (l.any p)) := by
  refine fn_pure hmix lk69 rfl rfl ?_
  unfold rc69
  conv => whnf
  refine ⟨_, _, call6 (bs := [L2 l, .func k [] cap]) ?_ ?_ (indexFuncL_ok l hl p k cap hc hk) rfl, ?_⟩
  · simp only [List.map_cons, List.map_nil, hc.fn]; rfl
  · simp only [List.map_cons, List.map_nil, hc.fn, List.all_cons, List.all_nil, hc.pfn, Bool.and_true]; exact pure_L2 5 l
  conv => whnf
  exact ret_pure (.inr rfl) rfl (by rw [← idxOf_any p l 0]; rfl)
end
end Go.Proofs.Ytlcebaejlnpdeaa.Ab

/-
  From a contract to a row: what an input reads as, as the interpreter's values; what a pure call leaves behind.
-/
namespace Go.Proofs.Ytlcebaejlnpdeaa.Ab
open Go Go.ChangeShapes Go.WideShapes Go.ChangeAt Go.RowKit
/-- What memory holds. -/
def S0 (w : World) : Nat → Nat → Prop := fun b o => ∃ v, w.cell? ⟨b, o, none⟩ = some v
theorem hrel0 (w : World) : HRel w.heap.size (fun _ => none) [] (S0 w) w [] :=
  ⟨rfl, fun _ _ h => by simp at h, fun _ _ h => h, fun _ _ h => by simp at h, Nat.le_refl _⟩
/-- A pure call that returns true: nothing of old has turned. -/
theorem top_calls {P : Program} {k : FuncId} {args : List AV} {vs : List Value} {W : World} {b : Bool} (h : PureOk P k args (.bool b)) (hv : VRel (fun i => .arg i) (fun _ => none) [] (S0 W) W args vs) :
    Calls P k vs.toArray W fun e W' => e = .returned (.bool b) ∧ Below W.heap.size W W' := by
  have h1 := h.1.2.2 W.heap.size (fun _ => none) [] (S0 W) W vs (hrel0 W) (fun _ _ h => by simp at h) hv
  refine (callsIn_wide.1 h1).mono fun e W' he => ?_
  cases e with
  | returned v =>
    obtain ⟨ω', κ', S', _, ev, _, hr, _⟩ := he
    cases hr
    exact ⟨rfl, ev.os, ev.tape, ev.output, ev.size, fun b hb => ev.keep b hb rfl⟩
  | panicked c => exact he.elim
  | outgrown => exact he.elim
section
variable {H : Type} {enc : TypeId × Value → H} {P : Program} {w : World}
theorem again_all {W W' : World} (K : Kids P (· < P.types.size)) (hsz : ∀ t e, t < P.types.size → P.underlying t = some (.slice e) → 0 < P.cellsOf e) (hB : Below W.heap.size W W') {sp : Nat → Bool} :
    ∀ {ts : List TypeId} {vs : List Value} {ds : List (DataW H)} {p : List MemPlace}, (∀ t ∈ ts, t < P.types.size) → DataW.TrodAll enc P W 0 (fun _ => true) true ts vs ds p → (∀ x ∈ p, sp x.block = true) → (∀ x ∈ p, x.block < W.heap.size) → DataW.TrodAll enc P W' 0 sp true ts vs ds p
  | [], _, _, _, _, hA, _, _ => by obtain ⟨rfl, rfl, rfl⟩ := trodAll_nil hA; exact trodAll_mk0
  | t :: ts, _, _, _, hT, hA, hsp, hlt => by
    obtain ⟨v, vs, d, ds, a, b, rfl, rfl, rfl, ⟨n, hn⟩, h2⟩ := trodAll_cons hA
    refine ⟨a, b, ⟨n, ?_⟩, again_all K hsz hB (fun t ht => hT t (List.mem_cons_of_mem _ ht)) h2 (fun x hx => hsp x (List.mem_append_right _ hx)) (fun x hx => hlt x (List.mem_append_right _ hx)), rfl⟩
    exact DataW.trod_stays K (fun {t e} ht he => hsz t e ht he) (fun h => by cases h) (hT t List.mem_cons_self) hn (fun x hx => hB.same (hlt x (List.mem_append_left _ hx))) fun x hx => hsp x (List.mem_append_left _ hx)
/-- The row's end: nothing has turned, and true is returned. -/
theorem post_true {f : Func} {s : ChangeSpec} {again : Bool} {W W' : World} {args : Array Value} {t : TypeId} {ds gs : List (DataW H)} {before : List MemPlace}
    (hl : laidOutB P = true) (hm : mapsRowed P = true) (hz : ((List.range P.types.size).all fun t => match P.underlying t with | some (.slice e) => decide (0 < P.cellsOf e) | _ => true) = true)
    (ht : f.resultTypes = #[t]) (hbt : P.underlying t = some .bool) (hps : f.params.toList.all (fun t => decide (t < P.types.size)) = true) (hvars : s.vars = [])
    (hW : DataW.Whole enc P f.params.toList s.vars false W args.toList ds gs before) (hB : Below W.heap.size W W')
    (hs : s.fn H (ds ++ gs) = { results := [.lit (.bool true)], args := ds }) : s.post enc P f false true false again W args (.bool true) W' := by
  have hlt := hW.lt
  have hW2 := hW
  obtain ⟨p, q, hA, hV, rfl, hfz, hnd⟩ := hW2
  rw [hvars] at hV
  obtain ⟨rfl, rfl⟩ := trodVars_none hV
  rw [List.append_nil] at *
  have K : Kids P (· < P.types.size) := kids_rows hl hm
  have hsz := slices_full_of P hz
  have hT : ∀ t ∈ f.params.toList, t < P.types.size := fun t h => by
    have := List.all_eq_true.1 hps t h; simpa using this
  have again : ∀ sp : Nat → Bool, (∀ x ∈ p, sp x.block = true) → DataW.TrodAll enc P W' 0 sp true f.params.toList args.toList ds p := fun sp hsp =>
    again_all K hsz hB hT hA hsp hlt
  have hres : ∀ (b : Nat) (sp : Nat → Bool) (hd : Bool), DataW.TrodAll enc P W' b sp hd f.resultTypes.toList ((Value.bool true).resultList f.resultTypes.size) (s.fn H ds).results [] := fun b sp hd => by
    rw [hs, ht]
    exact trodAll_mk1 (shut_bool hbt true)
  have hargs : ∀ sp : Nat → Bool, (∀ x ∈ p, sp x.block = true) → DataW.TrodAll enc P W' 0 sp true f.params.toList args.toList (s.fn H ds).args p := fun sp hsp => by
    rw [hs]; exact again sp hsp
  have hv : ∀ sp : Nat → Bool, DataW.TrodVars enc P W' sp s.vars (s.fn H ds).vars [] := fun sp => by
    rw [hs, hvars]; rfl
  have hold : ∀ x ∈ p, (fun b => decide (b < W.heap.size)) x.block = true := fun x hx => by simpa using hlt x hx
  refine ⟨ds, [], p, [], p, [], hW, by rw [List.append_nil]; exact hres _ _ _, by rw [List.append_nil]; exact hargs _ hold, by rw [List.append_nil]; exact hv _, hB.frame _, fun _ => ?_⟩
  refine ⟨fun j u r hu hr => ?_, (s.fn H ds).results ++ (s.fn H ds).args, [], p, ⟨p, [], ?_, ?_, by simp, ?_, fun h => by cases h⟩, fun x hx _ => hx⟩
  · rw [ht] at hu hr
    cases j with
    | zero => simp [Value.resultList] at hu hr; subst hu; subst hr; exact okWide_bool_mk hbt true
    | succ j => simp at hu
  · have := trodAll_append (hargs (fun _ => true) fun _ _ => rfl) (hres 0 (fun _ => true) true)
    simpa using this
  · rw [hvars]; rfl
  · intro b o hb
    have := hlt _ hb
    rw [hB.frozen (p := ⟨b, o, none⟩) this]
    exact hfz b o hb
/-! ### What arguments read as -/
theorem map_of {α : Type} {f : α → AV} {R : α → Prop} : ∀ {l : List AV}, (∀ u ∈ l, ∃ x, u = f x ∧ R x) → ∃ zs : List α, l = zs.map f ∧ ∀ x ∈ zs, R x
  | [], _ => ⟨[], rfl, by simp⟩
  | u :: l, h => by
    obtain ⟨x, rfl, hx⟩ := h u (by simp)
    obtain ⟨zs, rfl, hz⟩ := map_of (l := l) fun y hy => h y (by simp [hy])
    exact ⟨x :: zs, rfl, by simpa using ⟨hx, hz⟩⟩
/-- A cell that reads as a type is so related. -/
abbrev Cel (enc : TypeId × Value → H) (P : Program) (w : World) (e : TypeId) (Q : AV → Prop) : Prop :=
  ∀ n v y, DataW.trod enc P w 0 (fun _ => true) true n e [v] = some y → ∃ u, u.plain = true ∧ v.oneCell' = true ∧ Rel [] (S0 w) w u v ∧ Q u
theorem cel_int {e : TypeId} {k : IntKind} (ht : P.underlying e = some (.int k)) : Cel enc P w e fun u => ∃ x, u = .int k x ∧ (Lit.int k x).wf = true := by
  intro n v y h
  obtain ⟨x, hx, _, hw⟩ := DataW.trod_int ht h
  injection hx with hx _
  subst hx
  exact ⟨.int k x, rfl, rfl, .int k x, x, rfl, hw⟩
instance : Inhabited AV := ⟨.junk⟩
theorem cel_list {t e : TypeId} (ht : P.underlying t = some (.slice e)) (ce : P.cellsOf e = 1) {Q : AV → Prop} (he : Cel enc P w e Q) :
    Cel enc P w t fun u => ∃ l : List AV, u = .lst l l.length .shared ∧ l.length ≤ maxLen ∧ ∀ u ∈ l, Q u := by
  intro fuel v x h
  rcases Deep.open_slice1 ht ce h with ⟨hv, _⟩ | ⟨a, len, cap, m, n, V, D, Pl, hv, _, hl, hm, hmm, _, hx⟩
  · injection hv with hv _; subst hv
    exact ⟨_, rfl, rfl, .lnil _ _, [], rfl, Nat.zero_le _, by simp⟩
  · injection hv with hv _; subst hv
    have hmm : m = cap := hmm
    have hx : ∀ i, i < cap → w.cell? (a.add i) = some (V i) ∧ DataW.trod enc P w 0 (fun _ => true) true n e [V i] = some (D i, Pl i) := fun i hi => hx i (by omega)
    by_cases hc : cap = 0
    · subst hc; obtain rfl : len = 0 := by omega
      exact ⟨_, rfl, rfl, .lnil _ _, [], rfl, Nat.zero_le _, by simp⟩
    · obtain ⟨b, o, sp⟩ := a
      have h0 := (hx 0 (by omega)).1
      have hs : sp = none := by simpa [Addr.add] using World.cell?_spot h0
      subst hs
      obtain ⟨U, hU⟩ := Deep.choose_lt (α := AV) (n := len) (p := fun i u => u.plain = true ∧ (V i).oneCell' = true ∧ Rel [] (S0 w) w u (V i) ∧ Q u) fun i hi => he n (V i) _ (hx i (by omega)).2
      refine ⟨.lst ((List.range len).map U) len .shared, rfl, rfl, .lst _ _ _ b o cap V (by simp) hl (by simp) (fun j u hj => ?_) (fun j u hj => ?_), (List.range len).map U, by simp, by simp; omega, fun u hu => ?_⟩
      · have hjl : j < len := by have := (List.getElem?_eq_some_iff.1 hj).1; simpa using this
        simp [hjl] at hj; subst hj
        have hcell : w.cell? ⟨b, o + j, none⟩ = some (V j) := by have := (hx j (by omega)).1; rwa [add_lit] at this
        exact ⟨⟨_, hcell⟩, hcell, (hU j hjl).1, (hU j hjl).2.1⟩
      · have hjl : j < len := by have := (List.getElem?_eq_some_iff.1 hj).1; simpa using this
        simp [hjl] at hj; subst hj
        exact (hU j hjl).2.2.1
      · obtain ⟨j, hj, rfl⟩ := List.mem_map.1 hu
        exact (hU j (List.mem_range.1 hj)).2.2.2
/-- What fits into 64 bits. -/
def Fi (x : Int) : Prop := -9223372036854775808 ≤ x ∧ x ≤ 9223372036854775807
theorem wf_u8 {x : Int} (h : (Lit.int .u8 x).wf = true) : 0 ≤ x ∧ x ≤ 255 := by
  have h1 : IntKind.u8.min = 0 := rfl
  have h2 : IntKind.u8.max = 255 := rfl
  simp only [Lit.wf, Bool.and_eq_true, decide_eq_true_eq] at h
  exact ⟨by omega, by omega⟩
/-- Lists that fit in memory. -/
structure Fl (l : List Int) : Prop where
  n : l.length ≤ 9223372036854775807
  v : ∀ x ∈ l, Fi x
structure Fl2 (l : List (List Int)) : Prop where
  n : l.length ≤ 9223372036854775807
  v : ∀ r ∈ l, Fl r
theorem maxLen_le {n : Nat} (h : n ≤ maxLen) : n ≤ 9223372036854775807 := by unfold maxLen at h; omega
/-- Bytes. -/
def Y1 (l : List Int) : AV := .lst (l.map (.int .u8)) l.length .shared
structure Fy (l : List Int) : Prop where
  n : l.length ≤ 9223372036854775807
  v : ∀ x ∈ l, 0 ≤ x ∧ x ≤ 255
theorem cel_Y1 {t e : TypeId} (ht : P.underlying t = some (.slice e)) (ce : P.cellsOf e = 1) (he : P.underlying e = some (.int .u8)) : Cel enc P w t fun u => ∃ l, u = Y1 l ∧ Fy l := by
  intro n v y h
  obtain ⟨u, a1, a2, a3, l, rfl, a4, a5⟩ := cel_list ht ce (cel_int he) n v y h
  obtain ⟨zs, rfl, a6⟩ := map_of a5
  exact ⟨_, a1, a2, a3, zs, by simp [Y1], by simpa using maxLen_le a4, fun x hx => wf_u8 (a6 x hx)⟩
/-- An argument. -/
abbrev Arg (enc : TypeId × Value → H) (P : Program) (w : World) (base : Nat) (t : TypeId) (Q : AV → Prop) : Prop :=
  ∀ v d p, Value.okWide P w .any base t v → DataW.Trod enc P w 0 (fun _ => true) true t v d p → ∃ u, u.plain = true ∧ Rel [] (S0 w) w u v ∧ Q u
theorem arg_int {base : Nat} {t : TypeId} {k : IntKind} (ht : P.underlying t = some (.int k)) : Arg enc P w base t fun u => ∃ x, u = .int k x ∧ (Lit.int k x).wf = true := by
  intro v d p hv hd
  obtain ⟨x, rfl, _, _, hw⟩ := open_int ht hv hd
  exact ⟨.int k x, rfl, .int k x, x, rfl, hw⟩
theorem arg_slice {base : Nat} {t e : TypeId} (ht : P.underlying t = some (.slice e)) {Q : AV → Prop} (hc : Cel enc P w t Q) : Arg enc P w base t Q := by
  intro v d p hv ⟨n, hd⟩
  obtain ⟨a, len, cap, rfl⟩ := okWide_slice ht hv
  obtain ⟨u, a1, _, a3, a4⟩ := hc n _ _ hd
  exact ⟨u, a1, a3, a4⟩
theorem vrel_of {us : List AV} {vs : List Value} (h : us.length = vs.length) (hr : ∀ (i : Nat) (u : AV) (v : Value), us[i]? = some u → vs[i]? = some v → u.plain = true ∧ Rel [] (S0 w) w u v) : VRel (fun i => .arg i) (fun _ => none) [] (S0 w) w us vs :=
  ⟨h, fun i u v hu hv => (hr i u v hu hv).2, fun i u v hu hv => OwnAt.of_plain (hr i u v hu hv).1⟩
theorem vrel_four {u0 u1 u2 u3 : AV} {v0 v1 v2 v3 : Value} (p0 : u0.plain = true) (r0 : Rel [] (S0 w) w u0 v0) (p1 : u1.plain = true) (r1 : Rel [] (S0 w) w u1 v1) (p2 : u2.plain = true) (r2 : Rel [] (S0 w) w u2 v2) (p3 : u3.plain = true) (r3 : Rel [] (S0 w) w u3 v3) :
    VRel (fun i => .arg i) (fun _ => none) [] (S0 w) w [u0, u1, u2, u3] [v0, v1, v2, v3] :=
  vrel_of rfl fun i u v hu hv => by
    match i with
    | 0 => simp at hu hv; subst hu; subst hv; exact ⟨p0, r0⟩
    | 1 => simp at hu hv; subst hu; subst hv; exact ⟨p1, r1⟩
    | 2 => simp at hu hv; subst hu; subst hv; exact ⟨p2, r2⟩
    | 3 => simp at hu hv; subst hu; subst hv; exact ⟨p3, r3⟩
    | i + 4 => simp at hu
end
end Go.Proofs.Ytlcebaejlnpdeaa.Ab

/-
  Plain words of layer 5: panels, orders, seams.
-/
namespace Go.Proofs.Ytlcebaejlnpdeaa.Ab
def sumI (l : List Int) : Int := l.foldl (fun n x => n + x) 0
theorem foldl_add (l : List Int) : ∀ a : Int, l.foldl (fun n x => n + x) a = a + l.foldl (fun n x => n + x) 0 := by
  induction l with
  | nil => intro a; simp
  | cons x l ih => intro a; simp only [List.foldl_cons]; rw [ih (a + x), ih (0 + x)]; omega
theorem sumI_cons (x : Int) (l : List Int) : sumI (x :: l) = x + sumI l := by
  unfold sumI; rw [List.foldl_cons, foldl_add]; omega
theorem sumI_nil : sumI [] = 0 := rfl
theorem sumI_append (a b : List Int) : sumI (a ++ b) = sumI a + sumI b := by
  unfold sumI; rw [List.foldl_append, foldl_add b]
/-- A list of small numbers. -/
structure Sm (l : List Int) : Prop where
  len : l.length ≤ 1000000
  val : ∀ x ∈ l, 0 ≤ x ∧ x ≤ 1000000
theorem Sm.bound : ∀ {l : List Int}, (∀ x ∈ l, 0 ≤ x ∧ x ≤ 1000000) → 0 ≤ sumI l ∧ sumI l ≤ 1000000 * l.length
  | [], _ => by simp [sumI]
  | x :: l, h => by
    have ih := Sm.bound (l := l) fun y hy => h y (by simp [hy])
    have hx := h x (by simp)
    rw [sumI_cons, List.length_cons]; omega
theorem Sm.take {l : List Int} (h : Sm l) (i : Nat) : 0 ≤ sumI (l.take i) ∧ sumI (l.take i) ≤ 1000000000000 := by
  have h1 := Sm.bound (l := l.take i) fun x hx => h.val x (List.mem_of_mem_take hx)
  have h2 : (l.take i).length ≤ l.length := List.length_take_le' i l
  have := h.len
  omega
theorem sum_snoc (l : List Int) (i : Nat) (h : i < l.length) : sumI (l.take (i + 1)) = sumI (l.take i) + l[i] := by
  rw [List.take_succ_eq_append_getElem h, sumI_append, sumI_cons, sumI_nil]; omega
def outOf (lo hi x : Int) : Bool := decide (x < lo) || decide (hi < x)
/-- Is it valid? -/
def checkP (p : List (List Int)) : Int :=
  if outOf 2 4 p.length || p.any (fun l => outOf 1 5 l.length) then 6
  else if p.any (fun l => l.any (outOf 1 100)) then 3
  else if p.any (fun l => decide (sumI l ≠ sumI (p.headD []))) then 15 else 0
structure Val (p : List (List Int)) : Prop where
  n2 : 2 ≤ p.length
  n4 : p.length ≤ 4
  s1 : ∀ l ∈ p, 1 ≤ l.length
  s5 : ∀ l ∈ p, l.length ≤ 5
  w : ∀ l ∈ p, ∀ x ∈ l, 1 ≤ x ∧ x ≤ 100
  eq : ∀ l ∈ p, sumI l = sumI (p.headD [])
theorem any_false {α : Type} {p : α → Bool} {l : List α} : l.any p = false ↔ ∀ x ∈ l, p x = false := by
  rw [List.any_eq_false]; simp
theorem outOf_false {lo hi x : Int} : outOf lo hi x = false ↔ lo ≤ x ∧ x ≤ hi := by
  simp only [outOf, Bool.or_eq_false_iff, decide_eq_false_iff_not]; omega
theorem checkP_val {p : List (List Int)} (h : checkP p = 0) : Val p := by
  unfold checkP at h
  split at h
  · cases h
  · rename_i h1
    split at h
    · cases h
    · rename_i h2
      split at h
      · cases h
      · rename_i h3
        simp only [Bool.not_eq_true, Bool.or_eq_false_iff, outOf_false, any_false] at h1 h2 h3
        exact ⟨by omega, by omega, fun l hl => by have := (h1.2 l hl).1; omega, fun l hl => by have := (h1.2 l hl).2; omega, fun l hl x hx => h2 l hl x hx, fun l hl => by simpa using h3 l hl⟩
theorem Val.check {p : List (List Int)} (h : Val p) : checkP p = 0 := by
  unfold checkP
  rw [if_neg, if_neg, if_neg]
  · simp only [Bool.not_eq_true, any_false]; intro l hl; simpa using h.eq l hl
  · simp only [Bool.not_eq_true, any_false, outOf_false]; exact fun l hl x hx => h.w l hl x hx
  · have := h.n2; have := h.n4
    simp only [Bool.not_eq_true, Bool.or_eq_false_iff, any_false, outOf_false]
    exact ⟨by omega, fun l hl => by have := h.s1 l hl; have := h.s5 l hl; omega⟩
theorem Val.sm {p : List (List Int)} (h : Val p) {l : List Int} (hl : l ∈ p) : Sm l :=
  ⟨by have := h.s5 l hl; omega, fun x hx => by have := h.w l hl x hx; omega⟩
def has (l : List Int) (n : Int) : Bool := decide (n ∈ l)
theorem has_cons (x : Int) (l : List Int) (n : Int) : has (x :: l) n = (decide (n = x) || has l n) := by
  simp [has, List.mem_cons, Bool.decide_or]
theorem has_iff {l : List Int} {n : Int} : has l n = true ↔ n ∈ l := by simp [has]
theorem any_has (l : List Int) (x : Int) : (l.any fun y => decide (x = y)) = has l x := by
  rw [Bool.eq_iff_iff, List.any_eq_true, has_iff]; simp
/-- How many numbers two lists have in common. -/
def common (a b : List Int) : Nat := (a.filter fun x => has b x).length
/-- Is the rest an order of so many, behind those? -/
def ordGo (n : Nat) : List Int → List Int → Bool
  | _, [] => true
  | b, x :: r => !(outOf 0 ((n : Int) - 1) x || has b x) && ordGo n (b ++ [x]) r
def isOrd (l : List Int) (n : Nat) : Bool := decide (l.length = n) && ordGo n [] l
def atGo (layer : List Int) (a : Int) (l : List Int) : Int := l.foldl (fun a i => a + layer.getD i.toNat 0) a
def seamsGo (layer : List Int) : Int → List Int → List Int
  | _, [] => []
  | a, i :: r => (a + layer.getD i.toNat 0) :: seamsGo layer (a + layer.getD i.toNat 0) r
def seamsOf (layer order : List Int) : List Int := seamsGo layer 0 order.dropLast
theorem seamsGo_snoc (layer : List Int) : ∀ (l : List Int) (a x : Int), seamsGo layer a (l ++ [x]) = seamsGo layer a l ++ [atGo layer a (l ++ [x])]
  | [], a, x => rfl
  | i :: l, a, x => by
    show (a + layer.getD i.toNat 0) :: seamsGo layer (a + layer.getD i.toNat 0) (l ++ [x]) = _
    rw [seamsGo_snoc layer l]; rfl
theorem atGo_snoc (layer : List Int) (l : List Int) (a x : Int) : atGo layer a (l ++ [x]) = atGo layer a l + layer.getD x.toNat 0 := by
  unfold atGo; rw [List.foldl_append]; rfl
theorem seamsGo_length (layer : List Int) : ∀ (l : List Int) (a : Int), (seamsGo layer a l).length = l.length
  | [], a => rfl
  | i :: l, a => by simp [seamsGo, seamsGo_length layer l]
/-- The seams of all layers. -/
def seamsBy (p orders : List (List Int)) : List (List Int) := List.zipWith seamsOf p orders
def ordErr (p orders : List (List Int)) : Int :=
  if checkP p ≠ 0 then checkP p
  else if orders.length ≠ p.length then 15
  else if (List.zip orders p).any (fun x => !isOrd x.1 x.2.length) then 16 else 0
/-- The least difference of numbers of two lists, at most another one. -/
def betw (a b : List Int) (m : Int) : Int := a.foldl (fun m x => b.foldl (fun m y => min m (max (x - y) (y - x))) m) m
end Go.Proofs.Ytlcebaejlnpdeaa.Ab

/-
  Contracts: small functions of layer 5.
-/
namespace Go.Proofs.Ytlcebaejlnpdeaa.Ab
open Go
theorem within1_ok (lo hi x : Int) : PO 97 [I x, .lptr [I lo], .lptr [I hi]] (B (outOf lo hi x)) := by
  refine fn_pure hmix lk97 rfl rfl ?_
  unfold rc97
  conv => whnf
  cases h : decide (x < lo) with
  | true =>
    conv => whnf
    exact ret_pure (.inr rfl) rfl (by unfold outOf; rw [h]; rfl)
  | false =>
    conv => whnf
    exact ret_pure (.inr rfl) rfl (by unfold outOf; rw [h]; rfl)
theorem within_ok (lo hi : Int) (l : List Int) (hl : l.length ≤ 140737488355328) : PO 67 [I lo, I hi, L1 l] (B (!(l.any (outOf lo hi)))) := by
  refine fn_pure hmix lk67 rfl rfl ?_
  unfold rc67
  conv => whnf
  refine ⟨_, _, call6 (bs := [L1 l, .func 97 [] [.lptr [I lo], .lptr [I hi]]]) rfl ?_ (containsFunc_ok l hl _ 97 [.lptr [I lo], .lptr [I hi]] ⟨rfl, by simp⟩ fun x _ => within1_ok lo hi x) rfl, ?_⟩
  · simp only [List.map_cons, List.map_nil, List.all_cons, List.all_nil, Bool.and_true, Bool.and_eq_true]
    exact ⟨pure_L1 6 l, rfl⟩
  conv => whnf
  exact ret_pure (.inr rfl) rfl rfl
theorem within0_ok (lo hi x : Int) : PO 67 [I lo, I hi, L1 [x]] (B (!(outOf lo hi x))) := by
  have := within_ok lo hi [x] (by simp)
  simpa using this
theorem size_ok (l : List Int) : PO 66 [L1 l] (B (outOf 1 5 l.length)) := by
  refine fn_pure hmix lk66 rfl rfl ?_
  unfold rc66
  conv => whnf
  refine ⟨rfl, _, within0_ok 1 5 l.length, ?_⟩
  conv => whnf
  exact ret_pure (.inr rfl) rfl (by simp only [Bool.not_not]; rfl)
theorem stray_ok (l : List Int) (hl : l.length ≤ 140737488355328) : PO 68 [L1 l] (B (l.any (outOf 1 100))) := by
  refine fn_pure hmix lk68 rfl rfl ?_
  unfold rc68
  conv => whnf
  refine ⟨by first | rfl | simp only [List.all_cons, List.all_nil, pu0, pub, pu1, pu2, pu1', pu2', pun, puf, puP, puP', puQ, puQ', Bool.and_true, Bool.and_self], _, within_ok 1 100 l hl, ?_⟩
  conv => whnf
  exact ret_pure (.inr rfl) rfl (by simp only [Bool.not_not]; rfl)
theorem sum_ok (l : List Int) (hl : Sm l) : PO 71 [L1 l] (I (sumI l)) := by
  refine fn_pure hmix lk71 rfl rfl ?_
  unfold rc71
  conv => whnf
  refine .intro (CI (fun i => slots 17 [(3, I (sumI (l.take i))), (6, L1 l), (7, I l.length), (8, I i)]) l.length []) l.length (ci0 rfl) ?_
  rintro m T H ⟨i, hi, rfl, rfl, rfl⟩
  have := hl.len
  conv => whnf
  refine dcase (fun h => ?_) (fun h => ?_)
  · have hlt : i < l.length := by omega
    conv => whnf
    refine ⟨by omega, ?_⟩
    conv => whnf
    refine nthM _ _ _ (hlt) ?_
    conv => whnf
    have := hl.take i
    have := hl.val _ (List.getElem_mem hlt)
    exact ciN hlt (by rw [sum_snoc l i hlt, wrapI _ (by omega) (by omega), ← wrapS i (by omega)] <;> rfl)
  · obtain rfl : i = l.length := by omega
    conv => whnf
    exact ret_pure (.inr rfl) rfl (by rw [List.take_length]; rfl)
theorem equal1_ok (p : List (List Int)) (l l0 : List Int) (h0 : p[0]? = some l0) (hl : Sm l) (hl0 : Sm l0) : PO 70 [L1 l, .lptr [L2 p]] (B (decide (sumI l ≠ sumI l0))) := by
  refine fn_pure hmix lk70 rfl rfl ?_
  unfold rc70
  conv => whnf
  refine ⟨by first | rfl | simp only [List.all_cons, List.all_nil, pu0, pub, pu1, pu2, pu1', pu2', pun, puf, puP, puP', puQ, puQ', Bool.and_true, Bool.and_self], _, sum_ok l hl, acc0, ?_⟩
  conv => whnf
  have hlt := (List.getElem?_eq_some_iff.1 h0).1
  have he := (List.getElem?_eq_some_iff.1 h0).2
  refine ⟨by omega, ?_⟩
  conv => whnf
  refine nthM _ _ _ (hlt) ?_
  conv => whnf
  refine ⟨by first | rfl | simp only [List.all_cons, List.all_nil, pu0, pub, pu1, pu2, pu1', pu2', pun, puf, puP, puP', puQ, puQ', Bool.and_true, Bool.and_self], _, sum_ok p[0] (he ▸ hl0), acc1 fun _ h => ?_, ?_⟩
  · simp only [List.cons.injEq, and_true] at h
    rw [L1_inj (a := l) (b := p[0]) h]
  conv => whnf
  exact ret_pure (.inr rfl) rfl (by rw [he]; rfl)
/-! ### great, wide -/
def most (p : List (List Int)) : Int := p.foldl (fun n l => max n (l.length : Int)) p.length
theorem most_bound : ∀ (p : List (List Int)) (a : Int), p.foldl (fun n l => max n (l.length : Int)) a ≤ 8 ↔ a ≤ 8 ∧ ∀ l ∈ p, l.length ≤ 8
  | [], a => by simp
  | x :: p, a => by
    rw [List.foldl_cons, most_bound p]
    simp only [List.forall_mem_cons]
    constructor
    · rintro ⟨h1, h2⟩; exact ⟨by omega, by omega, h2⟩
    · rintro ⟨h1, h2, h3⟩; exact ⟨by omega, h3⟩
/-- Are there too many? -/
def big (p : List (List Int)) : Bool := decide (8 < most p)
theorem big_false {p : List (List Int)} : big p = false ↔ p.length ≤ 8 ∧ ∀ l ∈ p, l.length ≤ 8 := by
  rw [big, most, decide_eq_false_iff_not, Int.not_lt, most_bound]
  exact and_congr_left' (by omega)
section
variable (p : List (List Int)) (hp : p.length ≤ 9223372036854775807)
include hp
end
/-! ### CheckPanel -/
theorem boxL2 (p : List (List Int)) : Boxes [.lptr [L2 p]] := ⟨by rw [List.all_cons, List.all_nil, Bool.and_true]; exact pureD_le (d := 4) (by show [L2 p].all (pureD 3) = true; rw [List.all_cons, List.all_nil, Bool.and_true]; exact pure_L2 0 p) (by omega), by simp⟩
theorem sm_of {p : List (List Int)} (h1 : p.any (fun l => outOf 1 5 l.length) = false) (h2 : p.any (fun l => l.any (outOf 1 100)) = false) {l : List Int} (hl : l ∈ p) : Sm l := by
  simp only [any_false, outOf_false] at h1 h2
  exact ⟨by have := h1 l hl; omega, fun x hx => by have := h2 l hl x hx; omega⟩
theorem checkPanel_ok (p : List (List Int)) (hp : p.length ≤ 140737488355328) (hq : ∀ l ∈ p, l.length ≤ 140737488355328) : PO 25 [P1 p] (I (checkP p)) := by
  refine fn_pure hmix lk25 rfl rfl ?_
  unfold rc25
  conv => whnf
  refine ⟨by first | rfl | simp only [List.all_cons, List.all_nil, pu0, pub, pu1, pu2, pu1', pu2', pun, puf, puP, puP', puQ, puQ', Bool.and_true, Bool.and_self], _, within0_ok 2 4 p.length, ?_⟩
  conv => whnf
  have fin : ∀ {x : Int}, checkP p = x → ∀ {T : List AV} {H : List AObj}, getT T 2 = I x → Ret [.tmp 2] (I (checkP p)) .ret T H := fun hx => by
    intro T H hT
    exact ret_pure (.inr rfl) rfl (by rw [hx]; simp only [readR, hT]; rfl)
  cases h1 : outOf 2 4 p.length with
  | true =>
    conv => whnf
    exact fin (by unfold checkP; rw [h1]; rfl) rfl
  | false =>
    conv => whnf
    refine ⟨by first | rfl | simp only [List.all_cons, List.all_nil, pu0, pub, pu1, pu2, pu1', pu2', pun, puf, puP, puP', puQ, puQ', Bool.and_true, Bool.and_self], _, containsFuncL_ok p hp _ 66 [] Boxes.nil fun x _ => size_ok x, ?_⟩
    conv => whnf
    cases h2 : p.any (fun l => outOf 1 5 l.length) with
    | true =>
      conv => whnf
      exact fin (by unfold checkP; rw [h1, h2]; rfl) rfl
    | false =>
      conv => whnf
      refine ⟨by first | rfl | simp only [List.all_cons, List.all_nil, pu0, pub, pu1, pu2, pu1', pu2', pun, puf, puP, puP', puQ, puQ', Bool.and_true, Bool.and_self], _, containsFuncL_ok p hp _ 68 [] Boxes.nil fun x hx => stray_ok x (hq x hx), ?_⟩
      conv => whnf
      cases h3 : p.any (fun l => l.any (outOf 1 100)) with
      | true =>
        conv => whnf
        exact fin (by unfold checkP; rw [h1, h2, h3]; rfl) rfl
      | false =>
        conv => whnf
        obtain ⟨l0, hl0⟩ : ∃ l0, p[0]? = some l0 := ⟨p[0]'(by simp only [outOf_false] at h1; omega), by simp⟩
        refine ⟨_, _, call6 (bs := [L2 p, .func 70 [] [.lptr [L2 p]]]) rfl ?_ (containsFuncL_ok p hp _ 70 [.lptr [L2 p]] (boxL2 p) fun x hx => equal1_ok p x l0 hl0 (sm_of h2 h3 hx) (sm_of h2 h3 (List.mem_of_getElem? hl0))) rfl, ?_⟩
        · rw [List.all_eq_true]; intro u hu; simp only [List.map_cons, List.map_nil, List.mem_cons, List.not_mem_nil, or_false] at hu; rcases hu with rfl | rfl; exact pu2' p; exact Boxes.pfn (boxL2 p) _
        conv => whnf
        have hd : p.headD [] = l0 := by cases p <;> simp_all
        cases h4 : p.any (fun l => decide (sumI l ≠ sumI l0)) with
        | true =>
          conv => whnf
          exact fin (by unfold checkP; rw [h1, h2, h3, hd, h4]; rfl) rfl
        | false =>
          conv => whnf
          exact fin (by unfold checkP; rw [h1, h2, h3, hd, h4]; rfl) rfl
end Go.Proofs.Ytlcebaejlnpdeaa.Ab

/-
  Contracts: the definitions' functions on panels, orders, seams.
-/
namespace Go.Proofs.Ytlcebaejlnpdeaa.Ab
open Go
end Go.Proofs.Ytlcebaejlnpdeaa.Ab

/-
  Contracts: numbers in lists; equal lists; orders; seams.
-/
namespace Go.Proofs.Ytlcebaejlnpdeaa.Ab
open Go
theorem index_ok (l : List Int) (x : Int) (hl : l.length ≤ 140737488355328) : PO 99 [L1 l, I x] (I (idxOf (fun y => decide (x = y)) l 0)) := by
  refine fn_pure hmix lk99 rfl rfl ?_
  unfold rc99
  conv => whnf
  refine .intro (CP (fun i => idxOf (fun y => decide (x = y)) l 0 = idxOf (fun y => decide (x = y)) (l.drop i) i) (fun i => slots 19 [(0, L1 l), (1, I x), (7, I l.length), (8, I i)]) l.length []) (l.length - 0) (cp0 0 (Nat.zero_le _) rfl rfl) ?_
  rintro m T H ⟨i, hi, rfl, he, rfl, rfl⟩
  conv => whnf
  refine dcase (fun h => ?_) (fun h => ?_)
  · have hlt : i < l.length := by omega
    rw [idxOf_drop _ l i hlt] at he
    conv => whnf
    refine ⟨by omega, ?_⟩
    conv => whnf
    refine nthM _ _ _ (hlt) ?_
    conv => whnf
    cases hp : decide (x = l[i]) with
    | true =>
      conv => whnf
      rw [hp, if_pos rfl] at he
      exact ret_pure (.inr rfl) rfl (by rw [he]; rfl)
    | false =>
      conv => whnf
      rw [hp, if_neg (by simp)] at he
      exact cpN hlt he (by rw [← wrapS i (by omega)] <;> rfl)
  · obtain rfl : i = l.length := by omega
    rw [List.drop_length] at he
    conv => whnf
    exact ret_pure (.inr rfl) rfl (by rw [he]; rfl)
theorem contains_ok (l : List Int) (x : Int) (hl : l.length ≤ 140737488355328) : PO 72 [L1 l, I x] (B (has l x)) := by
  refine fn_pure hmix lk72 rfl rfl ?_
  unfold rc72
  conv => whnf
  refine ⟨by first | rfl | simp only [List.all_cons, List.all_nil, pu0, pub, pu1, pu2, pu1', pu2', pun, puf, puP, puP', puQ, puQ', Bool.and_true, Bool.and_self], _, index_ok l x hl, ?_⟩
  conv => whnf
  exact ret_pure (.inr rfl) rfl (by rw [← any_has l x, ← idxOf_any _ l 0]; rfl)
end Go.Proofs.Ytlcebaejlnpdeaa.Ab

/-
  Plain words of layer 5: orders, seams, meetings: what holds of them.
-/
namespace Go.Proofs.Ytlcebaejlnpdeaa.Ab
theorem has_append (a b : List Int) (x : Int) : has (a ++ b) x = (has a x || has b x) := by
  simp [has, Bool.decide_or]
theorem ordGo_iff (n : Nat) : ∀ (l b : List Int), ordGo n b l = true ↔ (∀ x ∈ l, 0 ≤ x ∧ x < n ∧ x ∉ b) ∧ l.Nodup
  | [], b => by simp [ordGo]
  | x :: l, b => by
    simp only [ordGo, Bool.and_eq_true, ordGo_iff n l, Bool.not_eq_true', Bool.or_eq_false_iff, outOf_false, List.mem_append, List.nodup_cons, List.mem_cons, List.not_mem_nil, or_false]
    have hf : has b x = false ↔ x ∉ b := by simp [has]
    rw [hf]
    constructor
    · rintro ⟨⟨h1, h2⟩, h3, h4⟩
      refine ⟨?_, ?_, h4⟩
      · rintro y (rfl | hy)
        · exact ⟨h1.1, by omega, h2⟩
        · obtain ⟨k1, k2, k3⟩ := h3 y hy
          exact ⟨k1, k2, fun hb => k3 (.inl hb)⟩
      · exact fun hx => (h3 x hx).2.2 (.inr rfl)
    · rintro ⟨h1, h2, h3⟩
      obtain ⟨k1, k2, k3⟩ := h1 x (.inl rfl)
      refine ⟨⟨⟨k1, by omega⟩, k3⟩, fun y hy => ?_, h3⟩
      obtain ⟨m1, m2, m3⟩ := h1 y (.inr hy)
      exact ⟨m1, m2, fun h => h.elim m3 fun e => h2 (e ▸ hy)⟩
theorem isOrd_iff {l : List Int} {n : Nat} : isOrd l n = true ↔ l.length = n ∧ (∀ x ∈ l, 0 ≤ x ∧ x < n) ∧ l.Nodup := by
  simp only [isOrd, Bool.and_eq_true, decide_eq_true_eq, ordGo_iff]
  constructor
  · rintro ⟨h1, h2, h3⟩; exact ⟨h1, fun x hx => ⟨(h2 x hx).1, (h2 x hx).2.1⟩, h3⟩
  · rintro ⟨h1, h2, h3⟩; exact ⟨h1, fun x hx => ⟨(h2 x hx).1, (h2 x hx).2, by simp⟩, h3⟩
/-- Orders of all layers. -/
structure Ords (p o : List (List Int)) : Prop where
  len : o.length = p.length
  ord : ∀ (i : Nat) (h : i < o.length) (h' : i < p.length), isOrd o[i] p[i].length = true
theorem ordErr_zero {p o : List (List Int)} : ordErr p o = 0 ↔ Val p ∧ Ords p o := by
  unfold ordErr
  constructor
  · intro h
    split at h
    · rename_i h1; exact absurd h h1
    · rename_i h1
      split at h
      · cases h
      · rename_i h2
        split at h
        · cases h
        · rename_i h3
          have hl : o.length = p.length := Classical.not_not.1 h2
          refine ⟨checkP_val (Classical.not_not.1 h1), hl, fun i hi hi' => ?_⟩
          simp only [Bool.not_eq_true, any_false] at h3
          have := h3 (o[i], p[i]) (List.mem_iff_getElem.2 ⟨i, by simp; omega, by simp⟩)
          simpa using this
  · rintro ⟨h1, h2⟩
    rw [if_neg (by simp [h1.check]), if_neg (by simp [h2.len]), if_neg]
    simp only [Bool.not_eq_true, any_false]
    intro x hx
    obtain ⟨i, hi, rfl⟩ := List.mem_iff_getElem.1 hx
    simp only [List.length_zip] at hi
    simpa using h2.ord i (by omega) (by omega)
theorem getD_bound {layer : List Int} (h : Sm layer) (i : Nat) : 0 ≤ layer.getD i 0 ∧ layer.getD i 0 ≤ 1000000 := by
  rw [List.getD_eq_getElem?_getD]
  cases hi : layer[i]? with
  | none => simp
  | some x => exact h.val x (List.mem_of_getElem? hi)
theorem atGo_bound {layer : List Int} (h : Sm layer) : ∀ (l : List Int) (a : Int), a ≤ atGo layer a l ∧ atGo layer a l ≤ a + 1000000 * l.length
  | [], a => by simp [atGo]
  | i :: l, a => by
    have h1 := getD_bound h i.toNat
    have h2 := atGo_bound h l (a + layer.getD i.toNat 0)
    have e : atGo layer a (i :: l) = atGo layer (a + layer.getD i.toNat 0) l := rfl
    rw [e, List.length_cons]; omega
theorem dropLast_take (l : List Int) : l.dropLast = l.take (l.length - 1) := List.dropLast_eq_take
/-- All meetings of rows, row by row. -/
def meetN : List (List Int) → Nat
  | a :: b :: r => common a b + meetN (b :: r)
  | _ => 0
theorem common_le (a b : List Int) : common a b ≤ a.length := List.length_filter_le _ _
/-- The least difference of neighbours' seams, at most another number. -/
def distGo : List (List Int) → Int → Int
  | a :: b :: r, m => distGo (b :: r) (betw a b m)
  | _, m => m
/-- The seams of a layer are small numbers. -/
theorem seamsGo_bound {layer : List Int} (h : Sm layer) : ∀ (l : List Int) (a : Int), 0 ≤ a → ∀ x ∈ seamsGo layer a l, 0 ≤ x ∧ x ≤ a + 1000000 * l.length
  | [], a, _, x, hx => by simp [seamsGo] at hx
  | i :: l, a, ha, x, hx => by
    have h1 := getD_bound h i.toNat
    simp only [seamsGo, List.mem_cons] at hx
    rw [List.length_cons]
    rcases hx with rfl | hx
    · omega
    · have := seamsGo_bound h l (a + layer.getD i.toNat 0) (by omega) x hx
      omega
structure Pos (l : List Int) : Prop where
  n : l.length ≤ 1000000
  v : ∀ x ∈ l, 0 ≤ x ∧ x ≤ 1000000000000
end Go.Proofs.Ytlcebaejlnpdeaa.Ab

/-
  Contracts: the definitions' orders and seams.
-/
namespace Go.Proofs.Ytlcebaejlnpdeaa.Ab
open Go
/-- Lists that grow. -/
def U1 (l : List Int) : AV := .lst (l.map I) l.length (.uniq 1)
def U2 (l : List (List Int)) : AV := .lst (l.map L1) l.length (.uniq 1)
theorem U1_snoc (l : List Int) (x : Int) : AV.lst (l.map I ++ [I x]) (l.length + 1) (.uniq 1) = U1 (l ++ [x]) := by simp [U1]
theorem U2_snoc (l : List (List Int)) (x : List Int) : AV.lst (l.map L1 ++ [L1 x]) (l.length + 1) (.uniq 1) = U2 (l ++ [x]) := by simp [U2]
theorem takeI (l : List Int) (i : Nat) (h : i ≤ l.length) : AV.lst ((l.map I).take ((i : Int).toNat * 1)) (i : Int).toNat .shared = L1 (l.take i) := by
  simp [L1, List.map_take, Nat.min_eq_left h]
/-- Panels and orders that are laid in memory. -/
structure Fit (p o : List (List Int)) : Prop where
  p1 : p.length ≤ 140737488355328
  p2 : ∀ l ∈ p, l.length ≤ 140737488355328
  o1 : o.length ≤ 140737488355328
  o2 : ∀ l ∈ o, l.length ≤ 140737488355328
/-- An order of a layer: its numbers name strips. -/
structure InL (layer order : List Int) : Prop where
  sm : Sm layer
  n : order.length ≤ 1000
  r : ∀ x ∈ order, 0 ≤ x ∧ x < layer.length
theorem getD_of {l : List Int} {x : Int} (h0 : 0 ≤ x) (h1 : x < l.length) : ∃ h : x.toNat < l.length, l.getD x.toNat 0 = l[x.toNat] := by
  have h : x.toNat < l.length := by omega
  exact ⟨h, by simp [List.getD_eq_getElem?_getD, h]⟩
theorem nthX {l : List Int} {x : Int} (h0 : 0 ≤ x) (h1 : x < l.length) {K : AV → Prop} (k : K (I (l.getD x.toNat 0))) : nthK ((l.map I).drop (x.toNat * 1)) 0 K := by
  obtain ⟨h, e⟩ := getD_of h0 h1
  rw [e] at k
  exact nthM I l x.toNat h k
theorem seams_take {layer order : List Int} (i : Nat) (h : i < order.length) : seamsGo layer 0 (order.take (i + 1)) = seamsGo layer 0 (order.take i) ++ [atGo layer 0 (order.take i) + layer.getD order[i].toNat 0] ∧ atGo layer 0 (order.take (i + 1)) = atGo layer 0 (order.take i) + layer.getD order[i].toNat 0 := by
  rw [List.take_succ_eq_append_getElem h, seamsGo_snoc, atGo_snoc]; exact ⟨rfl, rfl⟩
theorem Ords.inL {p o : List (List Int)} (hv : Val p) (h : Ords p o) (i : Nat) (h1 : i < o.length) (h2 : i < p.length) : InL p[i] o[i] := by
  obtain ⟨k1, k2, k3⟩ := isOrd_iff.1 (h.ord i h1 h2)
  exact ⟨hv.sm (List.getElem_mem h2), by have := hv.s5 _ (List.getElem_mem h2); omega, fun x hx => k2 x hx⟩
theorem seamsBy_take {p o : List (List Int)} (i : Nat) (h1 : i < o.length) (h2 : i < p.length) : seamsBy (p.take (i + 1)) (o.take (i + 1)) = seamsBy (p.take i) (o.take i) ++ [seamsOf p[i] o[i]] := by
  unfold seamsBy
  rw [List.take_succ_eq_append_getElem h1, List.take_succ_eq_append_getElem h2, List.zipWith_append (by simp; omega)]; rfl
end Go.Proofs.Ytlcebaejlnpdeaa.Ab

/-
  Contracts: the definitions' CheckOrders, Seams, Through, Distance.
-/
namespace Go.Proofs.Ytlcebaejlnpdeaa.Ab
open Go
/-! ### Rows of seams -/
theorem puT (l : List (List Int)) (e : Int) : pureD 8 (.tuple [L2 l, I e]) = true := by
  show [L2 l, I e].all (pureD 7) = true
  rw [List.all_cons, List.all_cons, List.all_nil, pure_L2 4 l]; rfl
theorem seamsBy_length {p o : List (List Int)} (h : Ords p o) : (seamsBy p o).length = p.length := by
  have := h.len
  simp [seamsBy]; omega
theorem seamsBy_get {p o : List (List Int)} (i : Nat) (h : i < (seamsBy p o).length) (h1 : i < p.length) (h2 : i < o.length) : (seamsBy p o)[i] = seamsOf p[i] o[i] := by
  simp [seamsBy]
theorem seamsOf_length (l o : List Int) : (seamsOf l o).length = o.length - 1 := by
  simp [seamsOf, seamsGo_length]
theorem seamsOf_pos {layer order : List Int} (h : InL layer order) : Pos (seamsOf layer order) := by
  have hn := h.n
  refine ⟨by rw [seamsOf_length]; omega, fun x hx => ?_⟩
  have := seamsGo_bound h.sm order.dropLast 0 (by omega) x hx
  have h2 : order.dropLast.length ≤ 1000 := by simp; omega
  omega
theorem seamsBy_pos {p o : List (List Int)} (hv : Val p) (h : Ords p o) : ∀ r ∈ seamsBy p o, Pos r ∧ r.length ≤ 4 := by
  intro r hr
  obtain ⟨i, hi, rfl⟩ := List.mem_iff_getElem.1 hr
  have hl := seamsBy_length h
  have h1 : i < p.length := by omega
  have h2 : i < o.length := by have := h.len; omega
  rw [seamsBy_get i hi h1 h2]
  refine ⟨seamsOf_pos (h.inL hv i h2 h1), ?_⟩
  rw [seamsOf_length, (isOrd_iff.1 (h.ord i h2 h1)).1]
  have := hv.s5 _ (List.getElem_mem h1); omega
/-- What CheckOrders, Seams, Through and Distance return. -/
def meetOf (p o : List (List Int)) : Int := if ordErr p o = 0 then meetN (seamsBy p o) else 0
def seamsE (p o : List (List Int)) : List (List Int) := if ordErr p o = 0 then seamsBy p o else []
end Go.Proofs.Ytlcebaejlnpdeaa.Ab

/-
  Contracts: the definitions' Through, Distance; the program's bench, its orders and seams.
-/
namespace Go.Proofs.Ytlcebaejlnpdeaa.Ab
open Go
set_option maxRecDepth 20000
/-! ### The bench -/
/-- A bench: its panel, as it is. -/
def Bn (p : List (List Int)) : AV := .lptr [L2 p]
theorem puB (p : List (List Int)) (e : Int) : pureD 8 (.tuple [Bn p, I e]) = true := by
  show [Bn p, I e].all (pureD 7) = true
  rw [List.all_cons, List.all_cons, List.all_nil]
  have : pureD 7 (Bn p) = true := by
    show [L2 p].all (pureD 6) = true
    rw [List.all_cons, List.all_nil, pure_L2 3 p]; rfl
  rw [this]; rfl
/-- What open comes to. -/
def opened (p : List (List Int)) (is : List Int) : AV := if checkP p ≠ 0 then .tuple [.nilp, I (checkP p)] else if is.any (outOf 0 ((p.length : Int) - 1)) = true then .tuple [.nilp, I 2] else .tuple [Bn p, I 0]
theorem opened_pure (p : List (List Int)) (is : List Int) : pureD 8 (opened p is) = true := by
  unfold opened
  split
  · rfl
  · split
    · rfl
    · exact puB p 0
theorem open_ok (p : List (List Int)) (is : List Int) (h1 : p.length ≤ 140737488355328) (h2 : ∀ l ∈ p, l.length ≤ 140737488355328) (hi : is.length ≤ 1000) : PO 75 [P1 p, L1 is] (opened p is) := by
  refine fn_pure hmix lk75 rfl (opened_pure _ _) ?_
  unfold rc75
  conv => whnf
  refine ⟨by first | rfl | simp only [List.all_cons, List.all_nil, pu0, pub, pu1, pu2, pu1', pu2', pun, puf, puP, puP', puQ, puQ', Bool.and_true, Bool.and_self], _, checkPanel_ok p h1 h2, ?_⟩
  conv => whnf
  refine dcase (fun h => ?_) (fun h => ?_)
  · conv => whnf
    exact ret_pure (.inr rfl) (opened_pure _ _) (by rw [show opened p is = .tuple [.nilp, I (checkP p)] from if_pos h]; rfl)
  · have e : opened p is = if is.any (outOf 0 ((p.length : Int) - 1)) = true then .tuple [.nilp, I 2] else .tuple [Bn p, I 0] := if_neg h
    rw [e]
    conv => whnf
    refine .intro (CP (fun i => is.any (outOf 0 ((p.length : Int) - 1)) = (is.drop i).any (outOf 0 ((p.length : Int) - 1))) (fun i => slots 32 [(2, .ptr 0 0), (14, L1 is), (15, I is.length), (16, I i)]) is.length [.cells [L2 p]]) (is.length - 0) (cp0 0 (Nat.zero_le _) rfl rfl) ?_
    rintro M T H ⟨i, hi, rfl, he, rfl, rfl⟩
    conv => whnf
    refine dcase (fun h3 => ?_) (fun h3 => ?_)
    · have hlt : i < is.length := by omega
      rw [any_drop _ _ i hlt] at he
      conv => whnf
      refine ⟨by omega, ?_⟩
      conv => whnf
      refine nthM _ _ _ (hlt) ?_
      conv => whnf
      rw [wrapI ((p.length : Int) - 1) (by omega) (by omega)]
      refine ⟨by first | rfl | simp only [List.all_cons, List.all_nil, pu0, pub, pu1, pu2, pu1', pu2', pun, puf, puP, puP', puQ, puQ', Bool.and_true, Bool.and_self], _, within0_ok 0 ((p.length : Int) - 1) is[i], ?_⟩
      conv => whnf
      cases hx : outOf 0 ((p.length : Int) - 1) is[i] with
      | true =>
        conv => whnf
        rw [if_pos (by rw [he, hx]; rfl)]
        exact ret_pure (.inr rfl) rfl rfl
      | false =>
        conv => whnf
        exact cpN hlt (by rw [he, hx]; rfl) (by rw [← wrapS i (by omega)] <;> rfl)
    · obtain rfl : i = is.length := by omega
      rw [List.drop_length] at he
      conv => whnf
      rw [if_neg (by rw [he]; simp)]
      refine ⟨.inr rfl, _, rfl, .tuple [Bn p, I 0], ?_, .inl rfl⟩
      have e2 := frz_ptr (H := [.cells [L2 p], .cells [L2 p]]) (id := 1) (d := 6) rfl (by show [L2 p].all (pureD 6) = true; rw [List.all_cons, List.all_nil, pure_L2 3 p]; rfl)
      show (mapO (frz [.cells [L2 p], .cells [L2 p]] 0 2 0 7) [.ptr 1 0, I 0]).map AV.tuple = _
      simp only [mapO]
      rw [show frz [AObj.cells [L2 p], .cells [L2 p]] 0 2 0 7 (.ptr 1 0) = _ from e2]
      rfl
end Go.Proofs.Ytlcebaejlnpdeaa.Ab

/-
  Contracts: the program's orders, seams.
-/
namespace Go.Proofs.Ytlcebaejlnpdeaa.Ab
open Go
set_option maxRecDepth 20000
theorem open_bad {p : List (List Int)} (is : List Int) (h1 : p.length ≤ 140737488355328) (h2 : ∀ l ∈ p, l.length ≤ 140737488355328) (hi : is.length ≤ 1000) (h : checkP p ≠ 0) : PO 75 [P1 p, L1 is] (.tuple [.nilp, I (checkP p)]) := by
  have := open_ok p is h1 h2 hi
  rwa [show opened p is = .tuple [.nilp, I (checkP p)] from if_pos h] at this
theorem open_arg {p : List (List Int)} (is : List Int) (h1 : p.length ≤ 140737488355328) (h2 : ∀ l ∈ p, l.length ≤ 140737488355328) (hi : is.length ≤ 1000) (h : checkP p = 0) (ha : is.any (outOf 0 ((p.length : Int) - 1)) = true) : PO 75 [P1 p, L1 is] (.tuple [.nilp, I 2]) := by
  have := open_ok p is h1 h2 hi
  rwa [show opened p is = .tuple [.nilp, I 2] by unfold opened; rw [if_neg (by simp [h]), if_pos ha]] at this
theorem open_good {p : List (List Int)} (is : List Int) (h1 : p.length ≤ 140737488355328) (h2 : ∀ l ∈ p, l.length ≤ 140737488355328) (hi : is.length ≤ 1000) (h : checkP p = 0) (ha : is.any (outOf 0 ((p.length : Int) - 1)) = false) : PO 75 [P1 p, L1 is] (.tuple [Bn p, I 0]) := by
  have := open_ok p is h1 h2 hi
  rwa [show opened p is = .tuple [Bn p, I 0] by unfold opened; rw [if_neg (by simp [h]), if_neg (by simp [ha])]] at this
/-! ### isOrder -/
def b2 (b : Bool) : Int := match b with | true => 1 | false => 0
def mkA (s : List Int) : List AV := [I (b2 (has s 0)), I (b2 (has s 1)), I (b2 (has s 2)), I (b2 (has s 3)), I (b2 (has s 4))]
theorem mkA_get (s : List Int) (x : Int) (h0 : 0 ≤ x) (h5 : x < 5) : (mkA s)[x.toNat]? = some (I (b2 (has s x))) := by
  obtain rfl | rfl | rfl | rfl | rfl : x = 0 ∨ x = 1 ∨ x = 2 ∨ x = 3 ∨ x = 4 := by omega
  all_goals rfl
theorem mkA_set (s : List Int) (x : Int) (h0 : 0 ≤ x) (h5 : x < 5) : (mkA s).set x.toNat (I 1) = mkA (s ++ [x]) := by
  obtain rfl | rfl | rfl | rfl | rfl : x = 0 ∨ x = 1 ∨ x = 2 ∨ x = 3 ∨ x = 4 := by omega
  all_goals simp [mkA, has_append, has_cons, b2, has]
theorem puBn (p : List (List Int)) : pureD 8 (Bn p) = true := by
  show [L2 p].all (pureD 7) = true
  rw [List.all_cons, List.all_nil, pure_L2 4 p]; rfl
/-- Are there none? -/
def none5 (s : List Int) : Bool := (b2 (has s 0) == 0) && ((b2 (has s 1) == 0) && ((b2 (has s 2) == 0) && ((b2 (has s 3) == 0) && ((b2 (has s 4) == 0) && true))))
theorem none5_of {s : List Int} {x : Int} (hx : x ∈ s) (h0 : 0 ≤ x) (h5 : x < 5) : none5 s = false := by
  have h : has s x = true := has_iff.2 hx
  obtain rfl | rfl | rfl | rfl | rfl : x = 0 ∨ x = 1 ∨ x = 2 ∨ x = 3 ∨ x = 4 := by omega
  all_goals simp [none5, h, b2]
theorem pisOrder_ok (p : List (List Int)) (k : Nat) (hk : k < p.length) (l : List Int) (h1 : p.length ≤ 1000) (hn : 1 ≤ p[k].length ∧ p[k].length ≤ 5) (hl : l.length ≤ 140737488355328) : PO 93 [Bn p, I k, L1 l] (B (isOrd l p[k].length)) := by
  refine fn_pure hmix lk93 rfl rfl ?_
  unfold rc93
  conv => whnf
  refine ⟨.ref 0 0 5 (some 5) 1, [.cells [I 0, I 0, I 0, I 0, I 0]], fun C => by kernel_rfl, ?_⟩
  conv => whnf
  refine ⟨.tuple [], [.cells [I 0, I 0, I 0, I 0, I 0]], fun C => by kernel_rfl, ?_⟩
  conv => whnf
  generalize hnn : p[k].length = n at hn
  refine .intro (fun m T H => ∃ i, i ≤ l.length ∧ m = l.length - i ∧ (ordGo n [] l = ordGo n (l.take i) (l.drop i) ∧ ∀ x ∈ l.take i, 0 ≤ x ∧ x < n) ∧ T = slots 57 [(0, Bn p), (1, I k), (2, L1 l), (7, .ptr 0 0), (11, L1 l), (12, I l.length), (13, I i)] ∧ H = [.cells (mkA (l.take i))]) l.length ⟨0, by omega, by omega, ⟨rfl, by simp⟩, rfl, rfl⟩ ?_
  rintro m T H ⟨i, hi, rfl, ⟨he, hr⟩, rfl, rfl⟩
  conv => whnf
  refine dcase (fun h3 => ?_) (fun h3 => ?_)
  · have hlt : i < l.length := by omega
    rw [List.drop_eq_getElem_cons hlt, ordGo, ← List.take_succ_eq_append_getElem hlt] at he
    conv => whnf
    refine ⟨by omega, ?_⟩
    conv => whnf
    refine nthM _ _ _ (hlt) ?_
    conv => whnf
    refine ⟨by omega, ?_⟩
    conv => whnf
    refine nthM _ _ _ (hk) ?_
    conv => whnf
    rw [wrapI _ (by omega) (by omega)]
    refine ⟨by first | rfl | simp only [List.all_cons, List.all_nil, pu0, pub, pu1, pu2, pu1', pu2', pun, puf, puP, puP', puQ, puQ', Bool.and_true, Bool.and_self], _, within0_ok 0 ((p[k].length : Int) - 1) l[i], ?_⟩
    conv => whnf
    rw [hnn]
    cases h4 : outOf 0 ((n : Int) - 1) l[i] with
    | true =>
      conv => whnf
      exact ret_pure (.inr rfl) rfl (by rw [show isOrd l n = false by rw [isOrd, he, h4]; simp]; rfl)
    | false =>
      rw [h4] at he
      obtain ⟨v0, v1⟩ := outOf_false.1 h4
      conv => whnf
      refine ⟨by omega, ?_⟩
      conv => whnf
      refine nthK_of (x := I (b2 (has (l.take i) l[i]))) (by rw [show 0 + l[i].toNat * 1 = l[i].toNat by omega]; exact mkA_get _ _ v0 (by omega)) ?_
      conv => whnf
      cases h5 : has (l.take i) l[i] with
      | true =>
        conv => whnf
        exact ret_pure (.inr rfl) rfl (by rw [show isOrd l n = false by rw [isOrd, he, h5]; simp]; rfl)
      | false =>
        rw [h5] at he
        conv => whnf
        refine ⟨by omega, ?_⟩
        conv => whnf
        refine updK_of (by simp [mkA]; omega) ?_
        conv => whnf
        refine ⟨l.length - (i + 1), by omega, i + 1, by omega, rfl, ⟨by rw [he]; rfl, fun x hx => ?_⟩, by rw [← wrapS i (by omega)] <;> rfl, ?_⟩
        · rw [List.take_succ_eq_append_getElem hlt, List.mem_append, List.mem_singleton] at hx
          rcases hx with hx | rfl
          · exact hr x hx
          · omega
        · rw [List.take_succ_eq_append_getElem hlt, ← mkA_set _ _ v0 (by omega)]
          simp
  · obtain rfl : i = l.length := by omega
    rw [List.drop_length, ordGo] at he
    rw [List.take_length] at hr ⊢
    conv => whnf
    refine ⟨by simp [mkA], ?_⟩
    conv => whnf
    refine ⟨.bool (!(none5 l)), [.cells (mkA l)], fun C => by kernel_rfl, ?_⟩
    conv => whnf
    have hs : isOrd l n = decide (l.length = n) := by rw [isOrd, he, Bool.and_true]
    cases h6 : none5 l with
    | true =>
      have hl0 : l = [] := by
        cases l with
        | nil => rfl
        | cons x l =>
          have := hr x (by simp)
          rw [none5_of (s := x :: l) (x := x) (by simp) this.1 (by omega)] at h6; cases h6
      conv => whnf
      exact ret_pure (.inr rfl) rfl (by rw [hs, show decide (l.length = n) = false from decide_eq_false (by rw [hl0]; simp; omega)]; rfl)
    | false =>
      conv => whnf
      refine ⟨by omega, ?_⟩
      conv => whnf
      refine nthM _ _ _ (hk) ?_
      conv => whnf
      exact ret_pure (.inr rfl) rfl (by rw [hnn, hs, show decide (l.length = n) = decide ((l.length : Int) = n) by rw [Bool.eq_iff_iff]; simp only [decide_eq_true_eq]; omega]; rfl)
/-! ### seams, joined -/
theorem pseams_ok (p : List (List Int)) (k : Nat) (hk : k < p.length) (o : List Int) (hI : InL p[k] o) (h1 : 1 ≤ o.length) : PO 87 [Bn p, I k, L1 o] (O1 (seamsOf p[k] o)) := by
  have hn := hI.n
  refine fn_pure hmix lk87 rfl (pu1 _ _ _) ?_
  unfold rc87
  conv => whnf
  rw [show IntKind.i64.wrap ((o.length : Int) - 1) = ((o.length - 1 : Nat) : Int) by rw [wrapI _ (by omega) (by omega)]; omega]
  refine ⟨by omega, ?_⟩
  rw [takeI o (o.length - 1) (by omega), ← dropLast_take]
  have hd : o.dropLast.length = o.length - 1 := by simp
  have hi : ∀ x ∈ o.dropLast, x ∈ o := fun x hx => List.dropLast_subset o hx
  unfold seamsOf
  generalize o.dropLast = l at hd hi
  conv => whnf
  refine .intro (CI (fun i => slots 40 [(0, Bn p), (1, I k), (7, U1 (seamsGo p[k] 0 (l.take i))), (8, I (atGo p[k] 0 (l.take i))), (15, L1 l), (16, I l.length), (17, I i)]) l.length []) l.length (ci0 rfl) ?_
  rintro m T H ⟨i, hii, rfl, rfl, rfl⟩
  conv => whnf
  refine dcase (fun h => ?_) (fun h => ?_)
  · have hlt : i < l.length := by omega
    obtain ⟨s1, s2⟩ := seams_take (layer := p[k]) i hlt
    have hb := atGo_bound hI.sm (l.take i) 0
    have hlen : (l.take i).length ≤ i := List.length_take_le _ _
    have hr := hI.r _ (hi _ (List.getElem_mem hlt))
    have hg := getD_bound hI.sm l[i].toNat
    have hll := seamsGo_length p[k] (l.take i) 0
    conv => whnf
    refine ⟨by omega, ?_⟩
    conv => whnf
    refine nthM _ _ _ (hlt) ?_
    conv => whnf
    refine ⟨by omega, ?_⟩
    conv => whnf
    refine nthM _ _ _ (hk) ?_
    conv => whnf
    refine ⟨hr, ?_⟩
    conv => whnf
    refine nthX hr.1 hr.2 ?_
    conv => whnf
    refine ⟨rfl, by decide, rfl, by omega, ?_⟩
    conv => whnf
    exact ciN hlt (by rw [s1, s2, wrapI _ (by omega) (by omega), ← U1_snoc, ← wrapS i (by omega)] <;> rfl)
  · obtain rfl : i = l.length := by omega
    conv => whnf
    exact ret_own (.inr rfl) (pu1 _ _ _) (.inr (by rw [List.take_length]; rfl))
theorem joined_ok (p o : List (List Int)) (hf : Fit p o) : PO 62 [P1 p, L2 o] (.tuple [L2 (seamsE p o), I (ordErr p o)]) := by
  have hp1 := hf.p1
  have ho1 := hf.o1
  by_cases hc : checkP p = 0
  · have hv := checkP_val hc
    have h2 := hv.n2
    have h4 := hv.n4
    refine fn_pure hmix lk62 rfl (puT _ _) ?_
    unfold rc62
    conv => whnf
    refine ⟨by first | rfl | simp only [List.all_cons, List.all_nil, pu0, pub, pu1, pu2, pu1', pu2', pun, puf, puP, puP', puQ, puQ', Bool.and_true, Bool.and_self], _, open_good [] hf.p1 hf.p2 (by simp) hc rfl, ?_⟩
    conv => whnf
    refine dcase (fun h => ?_) (fun h => ?_)
    · have e : ordErr p o = 15 := by unfold ordErr; rw [if_neg (by simp [hc]), if_pos (by omega)]
      conv => whnf
      exact ret_pure (.inr rfl) (puT _ _) (by rw [show seamsE p o = [] from if_neg (by rw [e]; decide), e]; rfl)
    · have hl : o.length = p.length := by omega
      have hz : (List.zip o p).length = o.length := by simp; omega
      conv => whnf
      refine .intro (CP (fun i => (List.zip o p).any (fun x => !isOrd x.1 x.2.length) = ((List.zip o p).drop i).any (fun x => !isOrd x.1 x.2.length)) (fun i => slots 51 [(6, Bn p), (8, .func 93 [Bn p] []), (9, U2 (seamsBy (p.take i) (o.take i))), (30, L2 o), (31, I o.length), (32, I i)]) o.length [.cells [L2 p]]) (o.length - 0) (cp0 0 (Nat.zero_le _) rfl rfl) ?_
      rintro m T H ⟨i, hi, rfl, he, rfl, rfl⟩
      conv => whnf
      refine dcase (fun h3 => ?_) (fun h3 => ?_)
      · have hlt : i < o.length := by omega
        have hlt2 : i < p.length := by omega
        rw [any_drop _ _ i (by omega), List.getElem_zip] at he
        have s1 := hv.s1 _ (List.getElem_mem hlt2)
        have s5 := hv.s5 _ (List.getElem_mem hlt2)
        conv => whnf
        refine ⟨by omega, ?_⟩
        conv => whnf
        refine nthM _ _ _ (hlt) ?_
        conv => whnf
        refine ⟨?_, _, pisOrder_ok p i hlt2 o[i] (by omega) ⟨s1, s5⟩ (hf.o2 _ (List.getElem_mem hlt)), ?_⟩
        · simp only [List.all_cons, List.all_nil, pu1, pu0, puBn, puQ, Bool.and_true]
        conv => whnf
        cases h5 : isOrd o[i] p[i].length with
        | false =>
          have e : ordErr p o = 16 := by unfold ordErr; rw [if_neg (by simp [hc]), if_neg (by omega), he]; simp only [h5]; rfl
          conv => whnf
          exact ret_pure (.inr rfl) (puT _ _) (by rw [show seamsE p o = [] from if_neg (by rw [e]; decide), e]; rfl)
        | true =>
          obtain ⟨k1, k2, k3⟩ := isOrd_iff.1 h5
          have hin : InL p[i] o[i] := ⟨hv.sm (List.getElem_mem hlt2), by omega, k2⟩
          conv => whnf
          refine ⟨?_, _, pseams_ok p i hlt2 o[i] hin (by omega), ?_⟩
          · simp only [List.all_cons, List.all_nil, pu1, pu0, puBn, puQ, Bool.and_true]
          conv => whnf
          have hll : (seamsBy (p.take i) (o.take i)).length ≤ i := by simp [seamsBy]; omega
          refine ⟨rfl, by decide, rfl, by omega, ?_⟩
          conv => whnf
          exact cpN hlt (by rw [he]; simp only [h5]; rfl) (by rw [seamsBy_take i hlt hlt2, ← U2_snoc, ← wrapS i (by omega)] <;> rfl)
      · obtain rfl : i = o.length := by omega
        rw [← hz, List.drop_length] at he
        have e : ordErr p o = 0 := by unfold ordErr; rw [if_neg (by simp [hc]), if_neg (by omega), he]; rfl
        conv => whnf
        exact ret_pure (.inr rfl) (puT _ _) (by rw [show seamsE p o = seamsBy p o from if_pos e, e, List.take_length, hl, List.take_length]; rfl)
  · have e : ordErr p o = checkP p := by unfold ordErr; rw [if_pos hc]
    refine fn_pure hmix lk62 rfl (puT _ _) ?_
    unfold rc62
    conv => whnf
    refine ⟨by first | rfl | simp only [List.all_cons, List.all_nil, pu0, pub, pu1, pu2, pu1', pu2', pun, puf, puP, puP', puQ, puQ', Bool.and_true, Bool.and_self], _, open_bad [] hf.p1 hf.p2 (by simp) hc, ?_⟩
    conv => whnf
    refine dcase (fun h => ?_) (fun h => absurd hc h)
    conv => whnf
    exact ret_pure (.inr rfl) (puT _ _) (by rw [show seamsE p o = [] from if_neg (by rw [e]; exact hc), e]; rfl)
end Go.Proofs.Ytlcebaejlnpdeaa.Ab

/-
  Contract: seam.meetings: the map of the places that are kept.
-/
namespace Go.Proofs.Ytlcebaejlnpdeaa.Ab
open Go
section
variable {P : Program}
/-- A function's contract. -/
theorem fn_sem (hmix : P.follows .mixedOrders = true) {k : Nat} {A : FAnn} {rc : RC} {n : Nat} {ts : List RV} (hl : linkF P A k = some (rc, n, ts)) {lo : Nat} {args T : List AV} {H H' : List AObj} (hT : args ++ List.replicate (n - args.length) .junk = T) {v : AV} (hlow : Low lo H H')
    (h : wpR P A k lo none rc T H fun e T1 H1 => (e = .normal ∨ e = .ret) ∧ Fgt H1 H' ∧ (readR H1 T1 ts).map packResults = some v) : Sem P (.fn k) args H lo v H' := by
  unfold linkF at hl
  split at hl
  · rename_i f hf
    split at hl
    · rename_i c hb
      split at hl
      · rename_i rc' ts' h1 h2 h3 h4
        simp only [Option.some.injEq, Prod.mk.injEq] at hl
        obtain ⟨rfl, rfl, rfl⟩ := hl
        subst hT
        refine sem_fn hmix hf hb (by simpa using h2) h1 hlow (wpA_mono (fun e s hq => ?_) (link_ok h3 h))
        obtain ⟨g1, g2, g3⟩ := hq
        simp only [Option.map_eq_some_iff] at g3
        obtain ⟨vs, g3, g4⟩ := g3
        exact ⟨g1, g2, vs, by rw [readR_eq _ _ h4, g3], g4⟩
      · cases hl
    · cases hl
  · cases hl
end
/-! ### seam.meetings -/
/-- A place: a layer, and a number. -/
def pk (p : Nat × Int) : AV := .agg [I p.1, I p.2]
def ents : List (Nat × Int) → Nat → List (Nat × AV × AV)
  | [], _ => []
  | p :: l, b => (b, pk p, I 1) :: ents l (b + 1)
theorem ents_append : ∀ (a c : List (Nat × Int)) (b : Nat), ents (a ++ c) b = ents a b ++ ents c (b + a.length)
  | [], c, b => by simp [ents]
  | p :: a, c, b => by simp only [List.cons_append, ents, ents_append a c (b + 1), List.length_cons]; rw [Nat.add_right_comm]; rfl
theorem eqKey_pk (p q : Nat × Int) : eqKey (pk p) (pk q) = some (decide (p = q)) := by
  obtain ⟨a, b⟩ := p
  obtain ⟨c, d⟩ := q
  have h1 : ((a : Int) == (c : Int)) = decide (a = c) := by rw [Bool.eq_iff_iff, beq_iff_eq, decide_eq_true_iff]; omega
  have h2 : (b == d) = decide (b = d) := by rw [Bool.eq_iff_iff]; simp
  simp [eqKey, pk, eqInts, h1, h2, Prod.ext_iff, Bool.decide_and]
theorem findK_new (p : Nat × Int) : ∀ (l : List (Nat × Int)) (b n : Nat), p ∉ l → findK (pk p) (ents l b) n = some none
  | [], b, n, _ => rfl
  | q :: l, b, n, h => by
    have hq : decide (p = q) = false := by simp; rintro rfl; exact h (by simp)
    simp only [ents, findK, eqKey_pk, hq]
    exact findK_new p l (b + 1) (n + 1) fun hm => h (by simp [hm])
/-- The places of rows, layer by layer. -/
def places : List (List Int) → Nat → List (Nat × Int)
  | [], _ => []
  | r :: rows, i => r.map (fun x => (i, x)) ++ places rows (i + 1)
theorem places_append : ∀ (a c : List (List Int)) (i : Nat), places (a ++ c) i = places a i ++ places c (i + a.length)
  | [], c, i => by simp [places]
  | r :: a, c, i => by simp only [List.cons_append, places, places_append a c (i + 1), List.length_cons, List.append_assoc]; rw [Nat.add_right_comm]; rfl
theorem places_take (rows : List (List Int)) (i : Nat) (h : i < rows.length) : places (rows.take (i + 1)) 0 = places (rows.take i) 0 ++ rows[i].map fun x => (i, x) := by
  rw [List.take_succ_eq_append_getElem h, places_append]
  simp [places, List.length_take, Nat.min_eq_left (Nat.le_of_lt h)]
/-- The places, numbered. -/
def num : List (Nat × Int) → Nat → List (Nat × Nat × Int)
  | [], _ => []
  | p :: l, b => (b, p) :: num l (b + 1)
def entOf (q : Nat × Nat × Int) : Nat × AV × AV := (q.1, pk q.2, I 1)
theorem ents_num : ∀ (l : List (Nat × Int)) (b : Nat), ents l b = (num l b).map entOf
  | [], b => rfl
  | p :: l, b => by simp only [ents, num, List.map_cons, entOf, ents_num l (b + 1)]
theorem num_lt : ∀ (l : List (Nat × Int)) (b : Nat), ∀ q ∈ num l b, b ≤ q.1 ∧ q.1 < b + l.length ∧ q.2 ∈ l
  | [], b, q, h => by simp [num] at h
  | p :: l, b, q, h => by
    simp only [num, List.mem_cons] at h
    rcases h with rfl | h
    · simp
    · have := num_lt l (b + 1) q h
      simp only [List.length_cons, List.mem_cons]
      exact ⟨by omega, by omega, .inr this.2.2⟩
/-- Numbers tell places apart. -/
theorem num_inj : ∀ (l : List (Nat × Int)) (b : Nat), ∀ q ∈ num l b, ∀ q' ∈ num l b, q.1 = q'.1 → q = q'
  | [], b, q, h, _, _, _ => by simp [num] at h
  | p :: l, b, q, h, q', h', e => by
    simp only [num, List.mem_cons] at h h'
    rcases h with rfl | h <;> rcases h' with rfl | h'
    · rfl
    · have := num_lt l (b + 1) q' h'; simp only at e; omega
    · have := num_lt l (b + 1) q h; simp only at e; omega
    · exact num_inj l (b + 1) q h q' h' e
/-- Places tell numbers apart. -/
theorem num_inj2 : ∀ (l : List (Nat × Int)) (b : Nat), l.Nodup → ∀ q ∈ num l b, ∀ q' ∈ num l b, q.2 = q'.2 → q = q'
  | [], b, _, q, h, _, _, _ => by simp [num] at h
  | p :: l, b, hn, q, h, q', h', e => by
    simp only [num, List.mem_cons] at h h'
    have hn' := List.nodup_cons.1 hn
    rcases h with rfl | h <;> rcases h' with rfl | h'
    · rfl
    · have := num_lt l (b + 1) q' h'; simp only at e; exact absurd (e ▸ this.2.2) hn'.1
    · have := num_lt l (b + 1) q h; simp only at e; exact absurd (e.symm ▸ this.2.2) hn'.1
    · exact num_inj2 l (b + 1) hn'.2 q h q' h' e
theorem num_pair : ∀ (l : List (Nat × Int)) (b : Nat), (num l b).Nodup
  | [], b => List.nodup_nil
  | p :: l, b => List.nodup_cons.2 ⟨fun h => by have := num_lt l (b + 1) _ h; simp only at this; omega, num_pair l (b + 1)⟩
/-- Where a key lies among entries, and what is left without it. -/
theorem findK_at (q : Nat × Nat × Int) : ∀ (l : List (Nat × Nat × Int)) (n : Nat), q ∈ l → (∀ q' ∈ l, q.2 = q'.2 → q = q') → l.Nodup → ∃ i, findK (pk q.2) (l.map entOf) n = some (some (n + i)) ∧ (l.map entOf).eraseIdx i = (l.filter fun q' => !decide (q' = q)).map entOf
  | [], n, h, _, _ => by simp at h
  | q' :: l, n, h, hd, hn => by
    have hn' := List.nodup_cons.1 hn
    cases hp : decide (q.2 = q'.2) with
    | true =>
      have e : q = q' := hd q' (by simp) (of_decide_eq_true hp)
      subst e
      refine ⟨0, ?_, ?_⟩
      · simp [List.map_cons, findK, entOf, eqKey_pk]
      · simp only [List.map_cons, List.eraseIdx_cons_zero, List.filter_cons, decide_true, Bool.not_true, Bool.false_eq_true, if_false]
        congr 1
        symm; apply List.filter_eq_self.2
        intro a ha; simp; rintro rfl; exact hn'.1 ha
    | false =>
      have ne : q ≠ q' := fun e => by subst e; simp at hp
      have hm : q ∈ l := by simpa [ne] using h
      obtain ⟨i, h1, h2⟩ := findK_at q l (n + 1) hm (fun a ha => hd a (by simp [ha])) hn'.2
      refine ⟨i + 1, ?_, ?_⟩
      · simp only [List.map_cons, findK, entOf, eqKey_pk, hp]
        rw [show n + (i + 1) = n + 1 + i by omega]; exact h1
      · have : decide (q' = q) = false := by simp; exact fun e => ne e.symm
        simp only [List.map_cons, List.eraseIdx_cons_succ, List.filter_cons, this, Bool.not_false, if_true, h2]
/-- Which places are kept: seams of the next layer, too. -/
def kept (rows : List (List Int)) (p : Nat × Int) : Bool := match rows[p.1 + 1]? with
  | some r => has r p.2
  | none => false
/-- What is left when these have been looked at. -/
def left (rows : List (List Int)) (seen : List Nat) : List (Nat × Nat × Int) := (num (places rows 0) 0).filter fun q => !seen.contains q.1 || kept rows q.2
/-- The map of all places that are kept. -/
def meets (rows : List (List Int)) : List (Nat × AV × AV) := ((num (places rows 0) 0).filter fun q => kept rows q.2).map entOf
theorem num_length : ∀ (l : List (Nat × Int)) (b : Nat), (num l b).length = l.length
  | [], b => rfl
  | p :: l, b => by simp only [num, List.length_cons, num_length l (b + 1)]
theorem drop_one {l : List (Nat × Nat × Int)} (hn : l.Nodup) (hi : ∀ q ∈ l, ∀ q' ∈ l, q.1 = q'.1 → q = q') {q : Nat × Nat × Int} {seen : List Nat} (hq : q ∈ l) (hs : q.1 ∉ seen) :
    (l.filter fun q => !seen.contains q.1).length = (l.filter fun q' => !(seen ++ [q.1]).contains q'.1).length + 1 := by
  have e : (l.filter fun q' => !(seen ++ [q.1]).contains q'.1) = (l.filter fun q => !seen.contains q.1).filter fun q' => q' != q := by
    rw [List.filter_filter]
    apply List.filter_congr
    intro q' hq'
    have : (q'.1 == q.1) = (q' == q) := by
      rw [Bool.eq_iff_iff, beq_iff_eq, beq_iff_eq]; exact ⟨fun e => hi _ hq' _ hq e, fun e => by rw [e]⟩
    simp only [List.contains_eq_mem, List.mem_append, List.mem_singleton, bne, this.symm]
    by_cases h1 : q'.1 ∈ seen <;> by_cases h2 : q'.1 = q.1 <;> simp [h1, h2]
  have hm : q ∈ l.filter fun q => !seen.contains q.1 := List.mem_filter.2 ⟨hq, by simpa using hs⟩
  rw [e, ← List.Nodup.erase_eq_filter (hn.filter _), List.length_erase_of_mem hm]
  have := List.length_pos_of_mem hm
  omega
theorem find_num {q : Nat × Nat × Int} : ∀ {l : List (Nat × Nat × Int)}, q ∈ l → (∀ q' ∈ l, q.1 = q'.1 → q = q') → (l.map entOf).find? (fun e => e.1 == q.1) = some (entOf q)
  | [], h, _ => by simp at h
  | q' :: l, h, hi => by
    by_cases e : q = q'
    · subst e; simp [List.find?, entOf]
    · have h1 : ((entOf q').1 == q.1) = false := by
        simp only [entOf, beq_eq_false_iff_ne]; exact fun h => e (hi q' (by simp) h.symm)
      rw [List.map_cons, List.find?_cons, h1]
      exact find_num (by simpa [e] using h) fun a ha => hi a (by simp [ha])
theorem set_concat (X : List AObj) (c c' : AObj) : (X ++ [c]).set X.length c' = X ++ [c'] := by simp
theorem get_concat (X : List AObj) (c : AObj) : (X ++ [c])[X.length]? = some c := by simp
theorem places_lt : ∀ (rows : List (List Int)) (i : Nat), ∀ p ∈ places rows i, i ≤ p.1 ∧ p.1 < i + rows.length
  | [], i, p, h => by simp [places] at h
  | r :: rows, i, p, h => by
    simp only [places, List.mem_append, List.mem_map] at h
    rcases h with ⟨x, _, rfl⟩ | h
    · simp
    · have := places_lt rows (i + 1) p h
      simp only [List.length_cons]; omega
theorem left_keep {rows : List (List Int)} {seen : List Nat} {q : Nat × Nat × Int} (hq : q ∈ num (places rows 0) 0) (hk : kept rows q.2 = true) : left rows (seen ++ [q.1]) = left rows seen := by
  refine List.filter_congr fun a ha => ?_
  by_cases e : a.1 = q.1
  · have := num_inj _ _ a ha q hq e; subst this; simp [hk]
  · simp [e]
theorem left_drop {rows : List (List Int)} {seen : List Nat} {q : Nat × Nat × Int} (hq : q ∈ num (places rows 0) 0) (hk : kept rows q.2 = false) : left rows (seen ++ [q.1]) = (left rows seen).filter fun q' => !decide (q' = q) := by
  unfold left
  rw [List.filter_filter]
  refine List.filter_congr fun a ha => ?_
  by_cases e : a.1 = q.1
  · have := num_inj _ _ a ha q hq e; subst this; simp [hk]
  · have : a ≠ q := fun h => e (by rw [h])
    simp [e, this]
set_option maxRecDepth 20000 in
theorem meetings_ok (rows : List (List Int)) (hl : rows.length ≤ 1000) (hr : ∀ r ∈ rows, r.length ≤ 1000) (hn : (places rows 0).Nodup) :
    Sem Go.Proofs.Try.prog (.fn 63) [L2 rows] [] 0 (.map 0) (.map (meets rows) (places rows 0).length :: List.replicate ((places rows 0).length + 1) .dead) := by
  refine fn_sem hmix lk63 rfl ⟨Nat.zero_le _, fun id h => by omega⟩ ?_
  unfold rc63
  conv => whnf
  refine .intro (fun m T H => ∃ i, i ≤ rows.length ∧ m = rows.length - i ∧ T = slots 56 [(0, L2 rows), (3, .map 0), (10, L2 rows), (11, I rows.length), (12, I i)] ∧
    H = [.map (ents (places (rows.take i) 0) 0) (places (rows.take i) 0).length]) rows.length ⟨0, by omega, by omega, rfl, rfl⟩ ?_
  rintro m T H ⟨i, hi, rfl, rfl, rfl⟩
  conv => whnf
  split
  · rename_i hlt
    have hlt : i < rows.length := by simpa using hlt
    conv => whnf
    refine ⟨by omega, ?_⟩
    conv => whnf
    refine nthM _ _ _ hlt ?_
    conv => whnf
    have hrl : rows[i].length ≤ 1000 := hr _ (List.getElem_mem hlt)
    refine .intro (fun m T H => ∃ j, j ≤ rows[i].length ∧ m = rows[i].length - j ∧ T = slots 56 [(0, L2 rows), (3, .map 0), (4, I i), (10, L2 rows), (11, I rows.length), (12, I i), (17, L1 rows[i]), (18, I rows[i].length), (19, I j)] ∧
      H = [.map (ents (places (rows.take i) 0 ++ (rows[i].take j).map fun x => (i, x)) 0) (places (rows.take i) 0 ++ (rows[i].take j).map fun x => (i, x)).length]) rows[i].length ⟨0, by omega, by omega, rfl, by simp⟩ ?_
    rintro m T H ⟨j, hj, rfl, rfl, rfl⟩
    conv => whnf
    split
    · rename_i hlt2
      have hlt2 : j < rows[i].length := by simpa using hlt2
      conv => whnf
      refine ⟨by omega, ?_⟩
      conv => whnf
      refine nthM _ _ _ hlt2 ?_
      conv => whnf
      refine ⟨rfl, _, _, rfl, none, findK_new (i, rows[i][j]) _ 0 0 ?_, ?_⟩
      · have e := places_take rows i hlt
        have hn2 : (places (rows.take (i + 1)) 0).Nodup := by
          have := hn
          rw [← List.take_append_drop (i + 1) rows, places_append] at this
          exact (List.nodup_append.1 this).1
        rw [e] at hn2
        have e2 : rows[i].map (fun x => (i, x)) = (rows[i].take j).map (fun x => (i, x)) ++ (i, rows[i][j]) :: (rows[i].drop (j + 1)).map fun x => (i, x) := by
          rw [← List.map_cons (f := fun x => (i, x)), ← List.map_append, ← List.drop_eq_getElem_cons hlt2, List.take_append_drop]
        rw [e2, ← List.append_assoc] at hn2
        have h3 := (List.nodup_append.1 hn2).2.2
        exact fun hm => h3 _ hm _ (by simp) rfl
      conv => whnf
      refine ⟨rows[i].length - (j + 1), by omega, j + 1, by omega, rfl, by rw [← wrapS j (by omega)]; rfl, ?_⟩
      have e2 : (rows[i].take (j + 1)).map (fun x => (i, x)) = (rows[i].take j).map (fun x => (i, x)) ++ [(i, rows[i][j])] := by
        rw [List.take_succ_eq_append_getElem hlt2, List.map_append]; rfl
      rw [e2, ← List.append_assoc, ents_append (_ ++ _), List.length_append (bs := [_]), Nat.zero_add]
      rfl
    · rename_i hge2
      have hge2 : ¬ j < rows[i].length := by simpa using hge2
      obtain rfl : j = rows[i].length := by omega
      conv => whnf
      refine ⟨rows.length - (i + 1), by omega, i + 1, by omega, rfl, by rw [← wrapS i (by omega)]; rfl, ?_⟩
      rw [places_take rows i hlt, List.take_length]
  · rename_i hge
    have hge : ¬ i < rows.length := by simpa using hge
    obtain rfl : i = rows.length := by omega
    rw [List.take_length]
    conv => whnf
    refine ⟨_, _, rfl, ?_⟩
    conv => whnf
    have fT : ∀ {l : List (Nat × Nat × Int)}, l.filter (fun _ => true) = l := List.filter_eq_self.2 fun _ _ => rfl
    refine .intro (fun m T H => ∃ seen G, m = ((num (places rows 0) 0).filter fun q => !seen.contains q.1).length ∧ m + G.length = (places rows 0).length ∧ T = slots 56 [(0, L2 rows), (3, .map 0), (30, .ptr 1 0)] ∧
      H = .map ((left rows seen).map entOf) (places rows 0).length :: .iter 0 (places rows 0).length seen (places rows 0).length :: G) _ ⟨[], [], rfl, by rw [show (fun q : Nat × Nat × Int => !([] : List Nat).contains q.1) = fun _ => true from rfl, fT, num_length]; rfl, rfl, ?_⟩ ?_
    · simp only [left, List.contains_nil, Bool.not_false, Bool.true_or, fT, ents_num]; rfl
    rintro m T H ⟨seen, G, rfl, hG, rfl, rfl⟩
    conv => whnf
    refine ⟨0, _, seen, _, _, rfl, rfl, Nat.le_refl _, ?_, ?_, ?_⟩
    · intro e he
      obtain ⟨q, hq, rfl⟩ := List.mem_map.1 he
      have := num_lt _ _ q (List.mem_filter.1 hq).1
      simp only [entOf]; omega
    · intro hall
      conv => whnf
      refine ⟨.inr rfl, ?_, rfl⟩
      have hs : ∀ q ∈ num (places rows 0) 0, q.1 ∈ seen := fun q hq => by
        refine Classical.byContradiction fun hc => hc ?_
        exact hall (entOf q) (List.mem_map.2 ⟨q, List.mem_filter.2 ⟨hq, by simp [hc]⟩, rfl⟩)
      have e0 : ((num (places rows 0) 0).filter fun q => !seen.contains q.1) = [] := by
        rw [List.filter_eq_nil_iff]; intro q hq; simpa using hs q hq
      rw [e0, List.length_nil, Nat.zero_add] at hG
      have e1 : left rows seen = (num (places rows 0) 0).filter fun q => kept rows q.2 := List.filter_congr fun q hq => by simp [hs q hq]
      rw [e1]
      refine ⟨by simp [hG], fun id o ho => ?_⟩
      cases id with
      | zero => exact .inr (by simpa [meets] using ho)
      | succ id => exact .inl (List.eq_of_mem_replicate (List.mem_of_getElem? (by simpa using ho)))
    · intro e he hns
      obtain ⟨q, hq, rfl⟩ := List.mem_map.1 he
      conv => whnf
      have hq' := (List.mem_filter.1 hq).1
      refine ⟨0, _, _, _, q.1, _, entOf q, rfl, by simp [entOf], rfl, find_num hq fun a ha e => num_inj _ _ q hq' a (List.mem_filter.1 ha).1 e, ?_⟩
      generalize hX : ((AObj.map ((left rows seen).map entOf) (places rows 0).length :: AObj.iter 0 (places rows 0).length seen (places rows 0).length :: G).set 1 (AObj.iter 0 (places rows 0).length (seen ++ [(entOf q).1]) (places rows 0).length)) = X
      conv => whnf
      refine nthK_of (get_concat X _) ?_
      conv => whnf
      rw [set_concat]
      refine nthK_of (get_concat X _) ?_
      conv => whnf
      have hlt : q.2.1 < rows.length := by have := places_lt rows 0 _ (num_lt _ _ q hq').2.2; omega
      have hm1 := drop_one (num_pair (places rows 0) 0) (num_inj (places rows 0) 0) hq' (seen := seen) hns
      rw [wrapS _ (by omega)]
      cases hd : decide (((q.2.1 + 1 : Nat) : Int) = rows.length) with
      | true =>
        have hd := of_decide_eq_true hd
        have hk : kept rows q.2 = false := by
          unfold kept; rw [List.getElem?_eq_none (by omega)]
        conv => whnf
        refine nthK_of (get_concat X _) ?_
        conv => whnf
        obtain ⟨k, hk1, hk2⟩ := findK_at q (left rows seen) 0 hq (fun a ha e => num_inj2 _ _ hn q hq' a (List.mem_filter.1 ha).1 e) ((num_pair _ _).filter _)
        rw [Nat.zero_add] at hk1
        refine ⟨rfl, _, _, (by subst hX; rfl : (X ++ [AObj.cells [(I q.2.1).settle, (I q.2.2).settle]])[0]? = some (.map ((left rows seen).map entOf) (places rows 0).length)), some k, hk1, ?_⟩
        conv => whnf
        exact ⟨_, by rw [hm1]; exact Nat.lt_succ_self _, seen ++ [q.1], G ++ [.cells [I q.2.1, I q.2.2]], rfl, by rw [List.length_append, List.length_singleton]; omega, rfl, by rw [hk2, ← left_drop hq' hk]; subst hX; rfl⟩
      | false =>
        have hd := of_decide_eq_false hd
        have hi : q.2.1 + 1 < rows.length := by omega
        conv => whnf
        refine nthK_of (get_concat X _) ?_
        conv => whnf
        rw [wrapS _ (by omega)]
        conv => whnf
        refine ⟨⟨by omega, by omega⟩, ?_⟩
        conv => whnf
        refine nthM _ _ _ hi ?_
        conv => whnf
        refine nthK_of (get_concat X _) ?_
        conv => whnf
        refine ⟨?_, _, contains_ok rows[q.2.1 + 1] q.2.2 (by have := hr _ (List.getElem_mem hi); omega), fun p hp => by simp at hp, ?_⟩
        · simp only [List.all_cons, List.all_nil, Bool.and_true, Bool.and_eq_true]; exact ⟨pure_L1 6 _, rfl⟩
        have hkept : kept rows q.2 = has rows[q.2.1 + 1] q.2.2 := by
          unfold kept; rw [List.getElem?_eq_getElem hi]
        rw [← hkept]
        conv => whnf
        cases hk : kept rows q.2 with
        | false =>
          conv => whnf
          refine nthK_of (get_concat X _) ?_
          conv => whnf
          obtain ⟨k, hk1, hk2⟩ := findK_at q (left rows seen) 0 hq (fun a ha e => num_inj2 _ _ hn q hq' a (List.mem_filter.1 ha).1 e) ((num_pair _ _).filter _)
          rw [Nat.zero_add] at hk1
          refine ⟨rfl, _, _, (by subst hX; rfl : (X ++ [AObj.cells [(I q.2.1).settle, (I q.2.2).settle]])[0]? = some (.map ((left rows seen).map entOf) (places rows 0).length)), some k, hk1, ?_⟩
          conv => whnf
          exact ⟨_, by rw [hm1]; exact Nat.lt_succ_self _, seen ++ [q.1], G ++ [.cells [I q.2.1, I q.2.2]], rfl, by rw [List.length_append, List.length_singleton]; omega, rfl, by rw [hk2, ← left_drop hq' hk]; subst hX; rfl⟩
        | true =>
          conv => whnf
          exact ⟨_, by rw [hm1]; exact Nat.lt_succ_self _, seen ++ [q.1], G ++ [.cells [I q.2.1, I q.2.2]], rfl, by rw [List.length_append, List.length_singleton]; omega, rfl, by rw [left_keep hq' hk]; subst hX; rfl⟩
end Go.Proofs.Ytlcebaejlnpdeaa.Ab

/-
  Contracts: CheckOrders, Through, Distance.
-/
namespace Go.Proofs.Ytlcebaejlnpdeaa.Ab
open Go
set_option maxRecDepth 20000
theorem num_filter (k : Nat × Int → Bool) : ∀ (l : List (Nat × Int)) (b : Nat), ((num l b).filter fun q => k q.2).length = (l.filter k).length
  | [], b => rfl
  | p :: l, b => by
    simp only [num, List.filter_cons]
    by_cases h : k p = true <;> simp [h, num_filter k l]
theorem kept_map (all : List (List Int)) (i : Nat) (r : List Int) (next : List Int) (h : all[i + 1]? = some next) : ((r.map fun x => (i, x)).filter (kept all)).length = common r next := by
  unfold common
  induction r with
  | nil => rfl
  | cons x r ih =>
    simp only [List.map_cons, List.filter_cons]
    have e : kept all (i, x) = has next x := by unfold kept; rw [h]
    rw [e]
    by_cases hx : has next x = true <;> simp [hx, ih]
theorem kept_last (all : List (List Int)) (i : Nat) (r : List Int) (h : all[i + 1]? = none) : ((r.map fun x => (i, x)).filter (kept all)).length = 0 := by
  rw [List.length_eq_zero_iff, List.filter_eq_nil_iff]
  intro p hp
  obtain ⟨x, _, rfl⟩ := List.mem_map.1 hp
  simp [kept, h]
theorem places_meet (all : List (List Int)) : ∀ (l : List (List Int)) (i : Nat), all.drop i = l → ((places l i).filter (kept all)).length = meetN l
  | [], i, _ => rfl
  | r :: l, i, h => by
    have hd : all.drop (i + 1) = l := by rw [← List.drop_drop, h]; rfl
    have ih := places_meet all l (i + 1) hd
    simp only [places, List.filter_append, List.length_append, ih]
    have hn : all[i + 1]? = l[0]? := by rw [← hd, List.getElem?_drop] <;> rfl
    cases l with
    | nil => rw [kept_last all i r (by simpa using hn)] <;> rfl
    | cons s l => rw [kept_map all i r s (by simpa using hn)] <;> rfl
theorem meets_length (rows : List (List Int)) : (meets rows).length = meetN rows := by
  unfold meets
  rw [List.length_map, num_filter (kept rows), places_meet rows rows 0 rfl]
theorem seamsGo_inc {layer : List Int} (hw : ∀ x ∈ layer, 1 ≤ x) : ∀ (l : List Int) (a : Int), (∀ x ∈ l, 0 ≤ x ∧ x < layer.length) → (∀ x ∈ seamsGo layer a l, a < x) ∧ (seamsGo layer a l).Pairwise (· < ·)
  | [], a, _ => by simp [seamsGo]
  | i :: l, a, h => by
    obtain ⟨h0, e⟩ := getD_of (h i (by simp)).1 (h i (by simp)).2
    have h1 : 1 ≤ layer.getD i.toNat 0 := by rw [e]; exact hw _ (List.getElem_mem h0)
    obtain ⟨k1, k2⟩ := seamsGo_inc hw l (a + layer.getD i.toNat 0) fun x hx => h x (by simp [hx])
    simp only [seamsGo, List.mem_cons, List.pairwise_cons]
    refine ⟨?_, k1, k2⟩
    rintro x (rfl | hx)
    · omega
    · have := k1 x hx; omega
theorem places_nodup : ∀ (l : List (List Int)) (i : Nat), (∀ r ∈ l, r.Nodup) → (places l i).Nodup
  | [], i, _ => by simp [places]
  | r :: l, i, h => by
    simp only [places]
    refine List.nodup_append.2 ⟨?_, places_nodup l (i + 1) fun s hs => h s (by simp [hs]), ?_⟩
    · exact List.pairwise_map.2 ((h r (by simp)).imp fun hab e => hab (by simpa using e))
    · intro a ha b hb e
      obtain ⟨x, _, rfl⟩ := List.mem_map.1 ha
      have := places_lt l (i + 1) b hb
      rw [← e] at this; simp only at this; omega
theorem seamsBy_inc {p o : List (List Int)} (hv : Val p) (ho : Ords p o) : ∀ r ∈ seamsBy p o, r.Pairwise (· < ·) := by
  intro r hr
  obtain ⟨i, hi, rfl⟩ := List.mem_iff_getElem.1 hr
  have hl := seamsBy_length ho
  have h1 : i < p.length := by omega
  have h2 : i < o.length := by have := ho.len; omega
  rw [seamsBy_get i hi h1 h2]
  exact (seamsGo_inc (fun x hx => (hv.w _ (List.getElem_mem h1) x hx).1) _ 0 fun x hx => (ho.inL hv i h2 h1).r x (List.dropLast_subset _ hx)).2
theorem inc_nodup {l : List Int} (h : l.Pairwise (· < ·)) : l.Nodup := h.imp fun hab e => by omega
/-- The call that makes the map of meetings. -/
theorem meet_call (rows : List (List Int)) (hl : rows.length ≤ 1000) (hr : ∀ r ∈ rows, r.length ≤ 1000) (hn : (places rows 0).Nodup) (H : List AObj) (lo : Nat) :
    CallS Go.Proofs.Try.prog 2 lo (.fn 63) [L2 rows] H (.map H.length) (H ++ [.map (meets rows) (places rows 0).length]) :=
  call2m (by simp only [List.all_cons, List.all_nil, Bool.and_true]; exact pure_L2 5 rows) (fun j i k v h => by
    have := List.mem_of_getElem? h
    unfold meets at this
    obtain ⟨q, _, e⟩ := List.mem_map.1 this
    simp only [entOf, Prod.mk.injEq] at e
    obtain ⟨_, rfl, rfl⟩ := e
    exact ⟨rfl, rfl⟩) (meetings_ok rows hl hr hn) H lo
theorem pmeet_ok (p o : List (List Int)) (hf : Fit p o) : PO 21 [P1 p, L2 o] (.tuple [I (meetOf p o), I (ordErr p o)]) := by
  refine fn_pure hmix lk21 rfl rfl ?_
  unfold rc21
  conv => whnf
  refine ⟨by first | rfl | simp only [List.all_cons, List.all_nil, pu0, pub, pu1, pu2, pu1', pu2', pun, puf, puP, puP', puQ, puQ', Bool.and_true, Bool.and_self], _, joined_ok p o hf, ?_⟩
  conv => whnf
  refine dcase (fun h => ?_) (fun h => ?_)
  · conv => whnf
    exact ret_pure (.inr rfl) rfl (by rw [show meetOf p o = 0 from if_neg h]; rfl)
  · have h := Classical.not_not.1 h
    obtain ⟨hv, ho⟩ := ordErr_zero.1 h
    have hl := seamsBy_length ho
    have hq := seamsBy_pos hv ho
    have hi := seamsBy_inc hv ho
    have h4 := hv.n4
    rw [show meetOf p o = meetN (seamsBy p o) from if_pos h, h, show seamsE p o = seamsBy p o from if_pos h]
    generalize seamsBy p o = l at hl hq hi
    conv => whnf
    refine ⟨_, _, meet_call l (by omega) (fun r hr => by have := (hq r hr).2; omega) (places_nodup l 0 fun r hr => inc_nodup (hi r hr)) _ _, ?_⟩
    conv => whnf
    refine ⟨_, _, rfl, ?_⟩
    conv => whnf
    exact ret_pure (.inr rfl) rfl (by rw [← meets_length]; rfl)
end Go.Proofs.Ytlcebaejlnpdeaa.Ab

/-
  Plain words of layer 5: all orders.
-/
namespace Go.Proofs.Ytlcebaejlnpdeaa.Ab
/-- Orders of so many that begin so; how many are left. -/
def grow (n : Nat) : Nat → List Int → List (List Int)
  | 0, b => [b]
  | f + 1, b => (List.range n).flatMap fun (i : Nat) => if has b i = true then [] else grow n f (b ++ [(i : Int)])
def perms (n : Nat) : List (List Int) := grow n n []
theorem grow_mem (n : Nat) : ∀ (f : Nat) (b : List Int), (∀ x ∈ b, 0 ≤ x ∧ x < n) → b.Nodup → ∀ l ∈ grow n f b, l.length = b.length + f ∧ (∀ x ∈ l, 0 ≤ x ∧ x < n) ∧ l.Nodup ∧ b <+: l
  | 0, b, hb, hn, l, hl => by
    simp only [grow, List.mem_singleton] at hl; subst hl
    exact ⟨rfl, hb, hn, List.prefix_refl _⟩
  | f + 1, b, hb, hn, l, hl => by
    simp only [grow, List.mem_flatMap, List.mem_range] at hl
    obtain ⟨i, hi, hl⟩ := hl
    split at hl
    · simp at hl
    · rename_i hh
      have hni : (i : Int) ∉ b := fun h => hh (has_iff.2 h)
      obtain ⟨k1, k2, k3, k4⟩ := grow_mem n f (b ++ [(i : Int)]) (fun x hx => by
        rcases List.mem_append.1 hx with h | h
        · exact hb x h
        · simp at h; subst h; omega) (by
        rw [List.nodup_append]
        exact ⟨hn, by simp, fun a ha c hc => by simp at hc; subst hc; intro e; exact hni (e ▸ ha)⟩) l hl
      exact ⟨by simp at k1; omega, k2, k3, (List.prefix_append b _).trans k4⟩
theorem perms_mem {n : Nat} {l : List Int} (h : l ∈ perms n) : l.length = n ∧ (∀ x ∈ l, 0 ≤ x ∧ x < n) ∧ l.Nodup := by
  have := grow_mem n n [] (by simp) List.nodup_nil l h
  exact ⟨by simpa using this.1, this.2.1, this.2.2.1⟩
theorem perms_ord {n : Nat} {l : List Int} (h : l ∈ perms n) : isOrd l n = true := by
  obtain ⟨h1, h2, h3⟩ := perms_mem h
  exact isOrd_iff.2 ⟨h1, h2, h3⟩
theorem flatMap_len {α β : Type} (g : α → List β) (m : Nat) : ∀ (l : List α), (∀ x ∈ l, (g x).length ≤ m) → (l.flatMap g).length ≤ l.length * m
  | [], _ => by simp
  | x :: l, h => by
    have h1 := h x (by simp)
    have h2 := flatMap_len g m l fun y hy => h y (by simp [hy])
    rw [List.flatMap_cons, List.length_append, List.length_cons, Nat.succ_mul]; omega
theorem grow_len (n : Nat) : ∀ (f : Nat) (b : List Int), (grow n f b).length ≤ n ^ f
  | 0, b => by simp [grow]
  | f + 1, b => by
    have := flatMap_len (fun (i : Nat) => if has b i = true then [] else grow n f (b ++ [(i : Int)])) (n ^ f) (List.range n) fun i _ => by
      split
      · simp
      · exact grow_len n f _
    rw [List.length_range] at this
    rw [Nat.pow_succ, Nat.mul_comm]; exact this
theorem pow_le {n f : Nat} (hn : n ≤ 5) (hf : f ≤ 5) : n ^ f ≤ 3125 := by
  calc n ^ f ≤ 5 ^ f := Nat.pow_le_pow_left hn f
    _ ≤ 5 ^ 5 := Nat.pow_le_pow_right (by omega) hf
    _ = 3125 := by decide
theorem perms_len {n : Nat} (hn : n ≤ 5) : (perms n).length ≤ 3125 := Nat.le_trans (grow_len n n []) (pow_le hn hn)
/-! ### The next order -/
/-- The last place, below this one, that does not fall. -/
def rise (l : List Int) : Nat → Option Nat
  | 0 => none
  | i + 1 => if l.getD (i + 1) 0 < l.getD i 0 then rise l i else some i
/-- The last place whose number is not below a number. -/
def last (l : List Int) (x : Int) : Nat → Nat
  | 0 => 0
  | k + 1 => if l.getD (k + 1) 0 < x then last l x k else k + 1
def swap (l : List Int) (i k : Nat) : List Int := (l.set i (l.getD k 0)).set k (l.getD i 0)
def turn (l : List Int) (i : Nat) : List Int := l.take i ++ (l.drop i).reverse
def succ? (l : List Int) : Option (List Int) := match rise l (l.length - 1) with
  | none => none
  | some i => some (turn (swap l i (last l (l.getD i 0) (l.length - 1))) (i + 1))
/-- Each order leads to the next one, the last one to none. -/
def chain : List (List Int) → Bool
  | [] => false
  | [l] => (succ? l).isNone
  | a :: b :: r => decide (succ? a = some b) && chain (b :: r)
theorem chain1 : chain (perms 1) = true := by decide +kernel
theorem chain2 : chain (perms 2) = true := by decide +kernel
theorem chain3 : chain (perms 3) = true := by decide +kernel
theorem chain4 : chain (perms 4) = true := by decide +kernel
theorem chain5 : chain (perms 5) = true := by decide +kernel
theorem chain_all {n : Nat} (h1 : 1 ≤ n) (h5 : n ≤ 5) : chain (perms n) = true := by
  obtain rfl | rfl | rfl | rfl | rfl : n = 1 ∨ n = 2 ∨ n = 3 ∨ n = 4 ∨ n = 5 := by omega
  · exact chain1
  · exact chain2
  · exact chain3
  · exact chain4
  · exact chain5
theorem chain_next : ∀ (L : List (List Int)), chain L = true → ∀ (r : Nat) (h : r < L.length), succ? L[r] = if h' : r + 1 < L.length then some L[r + 1] else none
  | [], hc, r, h => by simp at h
  | [l], hc, r, h => by
    have : r = 0 := by simpa using h
    subst this
    simpa [chain] using hc
  | a :: b :: t, hc, r, h => by
    simp only [chain, Bool.and_eq_true, decide_eq_true_eq] at hc
    cases r with
    | zero => simp [hc.1]
    | succ r =>
      have := chain_next (b :: t) hc.2 r (by simpa using h)
      simpa using this
theorem first_perm {n : Nat} (h1 : 1 ≤ n) (h5 : n ≤ 5) : ∃ h : 0 < (perms n).length, (perms n)[0] = (List.range n).map Int.ofNat := by
  obtain rfl | rfl | rfl | rfl | rfl : n = 1 ∨ n = 2 ∨ n = 3 ∨ n = 4 ∨ n = 5 := by omega
  all_goals exact ⟨by decide +kernel, by decide +kernel⟩
end Go.Proofs.Ytlcebaejlnpdeaa.Ab

/-
  Plain words of layer 5: the fewest meetings, as the definitions reckon them.
-/
namespace Go.Proofs.Ytlcebaejlnpdeaa.Ab
def seamA (layer : List Int) : List (List Int) := (perms layer.length).map (seamsOf layer)
/-- The least of what a row of seams costs with each next one. -/
def minJ (s : List Int) (nx : List (List Int × Int)) : Int := nx.foldl (fun m x => min m ((common s x.1 : Int) + x.2)) 100
/-- For each order of the first layer, the fewest meetings with all layers behind it. -/
def costs : List (List Int) → List Int
  | [] => []
  | [a] => (perms a.length).map fun _ => 0
  | a :: b :: r => (seamA a).map fun s => minJ s (List.zip (seamA b) (costs (b :: r)))
theorem drop_cons {α : Type} (p : List α) (i : Nat) (h : i < p.length) : p.drop i = p[i] :: p.drop (i + 1) := List.drop_eq_getElem_cons h
theorem perms_pos {n : Nat} (h1 : 1 ≤ n) (h5 : n ≤ 5) : 0 < (perms n).length := (first_perm h1 h5).1
/-- The least of all. -/
def leastOf (l : List Int) : Int := l.foldl min (l.headD 0)
def fewestOf (p : List (List Int)) : Int := leastOf (costs p)
end Go.Proofs.Ytlcebaejlnpdeaa.Ab

/-
  Contracts: all orders, all seams.
-/
namespace Go.Proofs.Ytlcebaejlnpdeaa.Ab
open Go
set_option maxRecDepth 20000
theorem perm_inL {layer : List Int} (hs : Sm layer) {o : List Int} (h : o ∈ perms layer.length) (h5 : layer.length ≤ 5) : InL layer o := by
  obtain ⟨h1, h2, _⟩ := perms_mem h
  exact ⟨hs, by omega, h2⟩
end Go.Proofs.Ytlcebaejlnpdeaa.Ab

/-
  Contracts: the definitions' fewest meetings.
-/
namespace Go.Proofs.Ytlcebaejlnpdeaa.Ab
open Go
set_option maxRecDepth 20000
set_option maxHeartbeats 4000000
abbrev nilF : AV := .lst [] 0 .full
theorem repl1 (z : AV) : ∀ n : Nat, repl n [z] = List.replicate n z
  | 0 => rfl
  | n + 1 => by simp [repl, repl1 z n, List.replicate_succ]
/-- A row that is handed out. -/
theorem frz_ref {H : List AObj} {id n d : Nat} {l : List AV} (h : H[id]? = some (.cells l)) (hl : l.length = n) (hp : (l.map AV.view).all (pureD d) = true) : frz H 0 H.length 0 (d + 1) (.ref id 0 n (some n) 1) = some (.lst (l.map AV.view) n .full) := by
  have h1 := (List.getElem?_eq_some_iff.1 h).1
  have h2 : mapO (frz H 0 H.length 0 d) (l.map AV.view) = some (l.map AV.view) := mapO_id fun u hu => frz_pure (by rw [List.all_eq_true] at hp; exact hp u hu)
  have h3 : rowOf H (.ref id 0 n (some n) 1) = some (l.map AV.view) := by
    simp only [rowOf, h, Nat.zero_add, Nat.mul_one, hl, Nat.le_refl, if_true, List.drop_zero]
    rw [List.take_of_length_le (by omega)]
  simp only [frz, Nat.not_lt_zero, if_false, h3, h2, Option.map_some, frzCap, if_true]
  rw [if_neg (by omega)]
end Go.Proofs.Ytlcebaejlnpdeaa.Ab
