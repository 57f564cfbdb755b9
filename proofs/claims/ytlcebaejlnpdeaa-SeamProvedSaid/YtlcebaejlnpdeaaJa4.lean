/- MADE BY PROGRAM (annot.py): for each function which slots are given up where, and which live at the heads of loops. -/
import Derived.Test.YtlcebaejlnpdeaaJa1
import Derived.Test.YtlcebaejlnpdeaaJa3
import Derived.Test.YtlcebaejlnpdeaaProg
import Derived.KernelRfl
import Derived.IntWalk
import Derived.ProofKit
import Derived.Deep.Slices
import Derived.ChangeStays
import Derived.Below
import Derived.WalkKit
set_option linter.unusedSimpArgs false
set_option linter.unusedVariables false
set_option linter.unusedSectionVars false
namespace Go.Proofs.Ytlcebaejlnpdeaa.Ab
open Go
abbrev o_ : Bool := false
abbrev i_ : Bool := true
abbrev t1_ : OpAnn := { takes := [true] }
abbrev t2_ : OpAnn := { takes := [true, true] }
def ann2 : FAnn := { ops := [[{ mode := 3 }]] }
def ann3 : FAnn := { ops := [[t1_], [{}, { mode := 3 }, t1_, {}, { mode := 3 }, { takes := [true, false, true] }], [{ mode := 3 }, t1_], [{}, {}, { mode := 3 }, t1_, {}, t1_, t1_, t1_], [{}, {}, { mode := 3 }, t1_, {}, t1_, t1_, t1_], [{}, {}, { mode := 3 }, t1_, {}, t1_, t1_, t1_], [{}, t1_, { mode := 3 }, t1_, {}, t1_, t1_, t1_], [{}, { mode := 3 }, {}, { mode := 3 }, t2_, t1_, t1_, t1_, t2_, { takes := [false, true] }, t1_, t1_, t1_, t2_, { takes := [false, true] }, t1_, t1_, t1_, { mode := 3 }, { takes := [false, true] }, t1_, t1_, t1_, t2_, { takes := [false, true] }, t1_, { mode := 3 }, { takes := [false, true] }, t1_]] }
def ann4 : FAnn := { ops := [[t1_], [{}, { mode := 3 }, t1_, {}, { mode := 3 }, { takes := [true, false, true] }], [{ mode := 3 }, t1_], [{}, {}, { mode := 3 }, t1_, {}, t1_, t1_, t1_], [{}, {}, { mode := 3 }, t1_, {}, t1_, t1_, t1_], [{}, {}, { mode := 3 }, t1_, {}, t1_, t1_, t1_], [t1_, t1_, { mode := 3 }, t1_, {}, t1_, t1_, t1_], [t1_, t1_, { mode := 3 }, t1_, t1_, t1_, t2_, t2_, t1_, t1_, t1_, t2_, t2_, t1_, t1_, t1_, t2_, t2_, t1_, { mode := 3 }, t2_, t1_]] }
def ann5 : FAnn := { ops := [[t1_], [{}, { mode := 3 }], [{ mode := 3 }, t1_], [{}, { mode := 3 }, t1_, {}, t1_, t1_, t1_], [{}, { mode := 3 }, t1_, {}, t1_, t1_, t1_], [{}, { mode := 3 }, t1_, {}, t1_, t1_, t1_], [{}, { mode := 3 }, t1_, {}, t1_, t1_, t1_], [{}, {}, { mode := 3 }, t1_, {}, t1_, t1_, t1_], [t1_, t1_, { mode := 3 }, t1_, {}, t1_, t1_, t1_], [t1_, t1_, t2_, t1_, t1_, t1_, t2_, t2_, t1_, t1_, t1_, { mode := 3 }, t2_, t1_, t1_, t1_, t2_, t2_, t1_, t1_, t1_, t2_, t2_, t1_, t1_, t1_, t2_, t2_, t1_, { mode := 3 }, t2_, t1_]] }
def ann6 : FAnn := { ops := [[t1_], [{}, { mode := 3 }], [{ mode := 3 }, t1_], [{}, {}, { mode := 3 }, t1_, {}, t1_, t1_, t1_], [{}, {}, { mode := 3 }, t1_, {}, t1_, t1_, t1_], [{}, {}, { mode := 3 }, t1_, {}, t1_, t1_, t1_], [t1_, t1_, { mode := 3 }, t1_, {}, t1_, t1_, t1_], [t1_, t1_, { mode := 3 }, t1_, t1_, t1_, t2_, t2_, t1_, t1_, t1_, { mode := 3 }, t2_, t1_, t1_, t1_, t2_, t2_, t1_, { mode := 3 }, t2_, t1_]] }
def ann7 : FAnn := { ops := [[t1_], [{}, { mode := 3 }], [{ mode := 3 }, t1_], [{}, { mode := 3 }, t1_, {}, t1_, t1_, t1_], [{}, { mode := 3 }, t1_, {}, t1_, t1_, t1_], [{}, {}, { mode := 3 }, t1_, {}, t1_, t1_, t1_], [{}, {}, { mode := 3 }, t1_], [t1_, t1_, t2_, t1_, t1_, t1_, t2_, { takes := [true, false, true] }, t1_, t1_, {}, t2_, { takes := [true, false, true] }], [], [t1_, t1_], [t1_, t1_, t1_, t1_, { mode := 3 }, t2_, t1_], [{}, { mode := 3 }], [], [t1_, t1_, { mode := 3 }, t1_, {}, t1_, t1_, t1_], [t1_, t1_, t1_, t1_, t1_, t2_, t2_, t1_, { mode := 3 }, t2_, t1_]] }
def ann8 : FAnn := { ops := [[t1_], [{}, { mode := 3 }, t1_, t1_, {}, t1_, t1_, { takes := [true, false, true] }], [{ mode := 3 }, t1_], [{}, { mode := 3 }, t1_, {}, t1_, t1_, t1_], [{}, t1_, { mode := 3 }, t1_], [{}, {}, { mode := 3 }, t1_, {}, t1_, t1_, t1_], [{}, t1_, { mode := 3 }, t1_, {}, t1_, t1_, t1_], [t1_, t1_, t1_, t1_, t1_, { takes := [true, false, true] }, t1_, t1_, {}, t2_, { takes := [true, false, true] }, t1_, t1_, t1_, { takes := [true, false, true] }, t1_, {}, t1_, {}, t1_, t1_, t2_, { takes := [true, false, true] }], [], [], [], [{}, t1_, {}, t1_, t1_, t2_], [t1_, t1_, t1_], [{}, {}, { mode := 3 }, t1_, {}, t1_, t1_, t1_], [{}, {}, { mode := 3 }, t1_, {}, t1_, t1_, t1_], [{}, {}, t1_, { mode := 3 }, t1_, {}, t1_, t1_, t1_], [t1_, t1_, t1_, t1_, t1_, { takes := [false, false, true] }, t1_, t1_, t1_, { takes := [false, false, true] }, t1_, {}, t1_, { takes := [false, false, true] }, t1_, {}, {}, {}, t2_, t1_, {}, {}, t1_, t2_, t1_, { mode := 3 }, t2_, { takes := [false, false, true] }], [], [], [{}, {}, t1_, t2_], [t1_, t1_, t1_], [{}, {}, {}, t2_, t1_, { mode := 3 }, t1_, {}, {}, t2_, t1_, {}, {}, t2_, t1_, { mode := 3 }, t1_, t1_, {}, {}, t1_, t2_, t1_, {}, {}, t2_, t1_, { mode := 3 }, t1_, { takes := [false, false, true] }, { takes := [false, true] }], [], [t1_, t1_, t2_, t1_, t1_, t1_, { mode := 3 }, t2_, t1_, t1_], [t1_, {}, t2_, t1_, t1_, t1_, t2_, t2_, t1_, { mode := 3 }, t2_, t1_]], keepL := [(0, [o_,o_,i_,o_,o_,i_,o_,o_,o_,o_,i_,o_,i_,i_,i_,o_,o_,o_,o_,o_,o_,o_,o_,o_,o_,o_,o_,o_,o_,o_,o_,o_,o_,o_,o_,o_,o_,o_,o_,o_,o_,o_,o_,o_,o_,o_,o_,o_,o_,o_,o_,o_,o_,o_,o_,o_,o_,o_,o_,o_,o_,o_,o_,o_,o_,o_,o_,o_,o_,o_,o_,o_,o_,o_,o_,o_,o_,o_,o_,o_,o_,o_,o_,o_,o_,o_,o_,o_,o_,o_,o_,o_,o_,o_,o_,o_,o_,o_,o_,o_,o_,o_,o_,o_,o_,o_,o_,o_,o_,o_,o_,o_,o_,o_,o_,o_,o_,o_,o_,o_,o_,o_,o_,o_,o_,o_,o_,o_,o_,o_,o_,o_,o_,o_,o_,o_,o_,o_,o_,o_,o_,o_,o_,o_,o_,o_,o_,o_,o_,o_,o_,o_,o_,o_,o_,o_,o_,o_,o_,o_,o_,o_,o_,o_,o_,o_,o_,o_,o_,o_,o_,o_,o_,o_,o_,o_,o_,o_,o_,o_,o_,o_,o_,o_,o_]), (2, [o_,o_,i_,o_,o_,i_,o_,o_,o_,o_,i_,o_,i_,i_,i_,i_,o_,i_,o_,i_,o_,i_,o_,o_,o_,o_,o_,o_,o_,o_,o_,o_,o_,o_,o_,o_,o_,o_,o_,o_,o_,o_,o_,o_,o_,o_,o_,o_,o_,o_,o_,o_,o_,o_,o_,o_,o_,o_,o_,o_,o_,o_,o_,o_,o_,o_,o_,o_,o_,o_,o_,o_,o_,o_,o_,o_,o_,o_,o_,o_,o_,o_,o_,o_,o_,o_,o_,o_,o_,o_,o_,o_,o_,o_,o_,o_,o_,o_,o_,o_,o_,o_,o_,o_,o_,o_,o_,o_,o_,o_,o_,o_,o_,o_,o_,o_,o_,o_,o_,o_,o_,o_,o_,o_,o_,o_,o_,o_,o_,o_,o_,o_,o_,o_,o_,o_,o_,o_,o_,o_,o_,o_,o_,o_,o_,o_,o_,o_,o_,o_,o_,o_,o_,o_,o_,o_,o_,o_,o_,o_,o_,o_,o_,o_,o_,o_,o_,o_,o_,o_,o_,o_,o_,o_,o_,o_,o_,o_,o_,o_,o_,o_,o_,o_,o_])] }
def ann9 : FAnn := { ops := [[t1_], [{}, { mode := 3 }, t1_, t1_, {}, t1_, t1_, { takes := [true, false, true] }], [{ mode := 3 }, t1_], [t1_, t1_, {}, t1_, t1_, t2_, t1_], [{}, t1_, {}, t2_, t1_, { mode := 3 }, t1_], [{}, {}, t1_, { mode := 3 }, { mode := 3 }, t1_, {}, {}, t1_, t1_], [{}, {}, { mode := 3 }, t1_, {}, t1_, t1_, t1_], [{}, {}, { mode := 3 }, t1_, {}, t1_, t1_, t1_], [t1_, t1_, t1_, t1_, t1_, { takes := [false, false, true] }, t1_, t1_, t1_, { takes := [false, false, true] }, t1_, {}, t1_, {}, t1_, t1_, t2_, { takes := [false, false, true] }, t1_, {}, {}, t2_, t1_, t1_, {}, t1_, {}, t2_, t1_, t1_, t1_, t2_, { takes := [false, false, true] }, t1_, {}, t1_, t1_, { takes := [false, false, true] }, t1_, {}, t1_, t1_, { takes := [false, false, true] }], [], [], [{}, {}, {}, t2_, t1_, t1_, t2_], [t1_, t1_, t1_], [{}, {}, {}, t2_, t1_, {}, t2_, t1_, { mode := 3 }, t1_, t1_, {}, t1_, t1_, {}, {}, t2_, t1_, {}, t2_, t1_, {}, {}, t2_, t1_, {}, t1_, t2_, t1_, t2_, { takes := [false, true] }, { takes := [false, false, true] }], [], [], [{}, {}, t1_, t2_], [t1_, t1_, t1_], [{}, {}, t2_, t1_, t1_, t1_, {}, {}, t2_, t1_, {}, t2_, { takes := [true, false, true] }, t1_, {}, {}, {}, {}, t2_, t1_, t2_, { mode := 3 }, t1_, { takes := [true, false, true] }], [], [], [{}, {}, t1_, t2_], [t1_, t1_, t1_], [{}, {}, t2_, t1_, {}, {}, t2_, t1_, { mode := 3 }, t1_, t1_, {}, {}, t2_, t1_, t1_, { takes := [false, false, true] }, t1_, {}, {}, t2_, t1_, {}, t2_, { takes := [false, false, true] }, t1_, {}, {}, {}, {}, t2_, t1_, t2_, { mode := 3 }, t1_, { takes := [false, false, true] }], [], [{ mode := 3 }, t1_]], keepL := [(0, [o_,o_,o_,o_,o_,o_,o_,i_,i_,i_,o_,i_,o_,i_,o_,i_,o_,o_,o_,o_,o_,o_,o_,o_,o_,o_,o_,o_,o_,o_,o_,o_,o_,o_,o_,o_,o_,o_,o_,o_,o_,o_,o_,o_,o_,o_,o_,o_,o_,o_,o_,o_,o_,o_,o_,o_,o_,o_,o_,o_,o_,o_,o_,o_,o_,o_,o_,o_,o_,o_,o_,o_,o_,o_,o_,o_,o_,o_,o_,o_,o_,o_,o_,o_,o_,o_,o_,o_,o_,o_,o_,o_,o_,o_,o_,o_,o_,o_,o_,o_,o_,o_,o_,o_,o_,o_,o_,o_,o_,o_,o_,o_,o_,o_,o_,o_,o_,o_,o_,o_,o_,o_,o_,o_,o_,o_,o_,o_,o_,o_,o_,o_,o_,o_,o_,o_,o_,o_,o_,o_,o_,o_,o_,o_,o_,o_,o_,o_,o_,o_,o_,o_,o_,o_,o_,o_,o_,o_,o_,o_,o_,o_,o_,o_,o_,o_,o_,o_,o_,o_,o_,o_,o_,o_,o_,o_,o_,o_,o_,o_,o_,o_,o_,o_,o_,o_,o_,o_,o_,o_,o_,o_,o_,o_,o_,o_,o_,o_,o_,o_,o_,o_,o_,o_,o_,o_,o_,o_,o_,o_,o_,o_,o_,o_,o_,o_]), (2, [o_,o_,o_,o_,o_,o_,o_,i_,i_,i_,o_,i_,o_,i_,o_,o_,i_,o_,o_,o_,o_,o_,o_,o_,o_,o_,o_,o_,o_,o_,o_,o_,o_,o_,o_,o_,o_,o_,o_,o_,o_,o_,o_,o_,o_,o_,o_,o_,o_,o_,o_,o_,o_,o_,o_,o_,o_,o_,o_,o_,o_,o_,o_,o_,o_,o_,o_,o_,o_,o_,o_,o_,o_,o_,o_,o_,o_,o_,o_,o_,o_,o_,o_,o_,o_,o_,o_,o_,o_,o_,o_,o_,o_,o_,o_,o_,o_,o_,o_,o_,o_,o_,o_,o_,o_,o_,o_,o_,o_,o_,o_,o_,o_,o_,o_,o_,o_,o_,o_,o_,o_,o_,o_,o_,o_,o_,o_,o_,o_,o_,o_,o_,o_,o_,o_,o_,o_,o_,o_,o_,o_,o_,o_,o_,o_,o_,o_,o_,o_,o_,o_,o_,o_,o_,o_,o_,o_,o_,o_,o_,o_,o_,o_,o_,o_,o_,o_,o_,o_,o_,o_,o_,o_,o_,o_,o_,o_,o_,o_,o_,o_,o_,o_,o_,o_,o_,o_,o_,o_,o_,o_,o_,o_,o_,o_,o_,o_,o_,o_,o_,o_,o_,o_,o_,o_,o_,o_,o_,o_,o_,o_,o_,o_,o_,o_,o_]), (4, [o_,o_,o_,o_,o_,o_,o_,i_,i_,i_,o_,o_,o_,i_,o_,o_,o_,i_,o_,o_,o_,o_,o_,o_,o_,o_,o_,o_,o_,o_,o_,o_,o_,o_,o_,o_,o_,o_,o_,o_,o_,o_,o_,o_,o_,o_,o_,o_,o_,o_,o_,o_,o_,o_,o_,o_,o_,o_,o_,o_,o_,o_,o_,o_,o_,o_,o_,o_,o_,o_,o_,o_,o_,o_,o_,o_,o_,o_,o_,o_,o_,o_,o_,o_,o_,o_,o_,o_,o_,o_,o_,o_,o_,o_,o_,o_,o_,o_,o_,o_,o_,o_,o_,o_,o_,o_,o_,o_,o_,o_,o_,o_,o_,o_,o_,o_,o_,o_,o_,o_,o_,o_,o_,o_,o_,o_,o_,o_,o_,o_,o_,o_,o_,o_,o_,o_,o_,o_,o_,o_,o_,o_,o_,o_,o_,o_,o_,o_,o_,o_,o_,o_,o_,o_,o_,o_,o_,o_,o_,o_,o_,o_,o_,o_,o_,o_,o_,o_,o_,o_,o_,o_,o_,o_,o_,o_,o_,o_,o_,o_,o_,o_,o_,o_,o_,o_,o_,o_,o_,o_,o_,o_,o_,o_,o_,o_,o_,o_,o_,o_,o_,o_,o_,o_,o_,o_,o_,o_,o_,o_,o_,o_,o_,o_,o_,o_])] }
def ann10 : FAnn := { ops := [[t1_], [{}, { mode := 3 }, t1_], [{ mode := 3 }, t1_], [t1_, t1_, {}, t1_, t1_, t2_, t1_], [], [], [], [{}, {}, t1_, {}, t2_, t1_, t1_, t2_], [t1_, t1_, t1_], [{}, {}, t2_, t1_, t1_], [t1_, {}, t1_, t2_, t1_, {}, t1_, {}, t2_, t1_, {}, t2_, t1_, t2_, t1_, t1_], [t1_, {}, t1_, t2_, t1_], [{}, { mode := 3 }, t1_], [{ takes := [true], mode := 1 }, {}, {}, {}, t2_, {}, t2_, t2_, t2_], [{}, t1_, { mode := 3 }, t1_, {}, t1_, t1_, t1_], [{}, {}, { mode := 3 }, t1_, {}, t1_, t1_, t1_], [t1_, t1_, t1_, t1_, t1_, { takes := [true, false, true] }, t1_, {}, t1_, t1_, t1_, t1_, t2_, { takes := [true, false, true] }], [], [t1_, t1_, t1_, t1_, t1_, t1_, t1_, { takes := [true, false, true] }], [t1_, t1_, { mode := 3 }, t1_, t1_, { mode := 3 }, t2_, t1_], [t1_, t1_, t2_, t1_, {}, { mode := 3 }, t1_, t1_, t1_, { mode := 3 }, t2_, t1_, { mode := 3 }, t2_, t1_]], keepL := [(0, [o_,o_,i_,i_,o_,o_,o_,i_,i_,i_,i_,i_,o_,o_,o_,o_,o_,o_,o_,o_,o_,o_,o_,o_,o_,o_,o_,o_,o_,o_,o_,o_,o_,o_,o_,o_,o_,o_,o_,o_,o_,o_,o_,o_,o_,o_,o_,o_,o_,o_,o_,o_,o_,o_,o_,o_,o_,o_,o_,o_,o_,o_,o_,o_,o_,o_,o_,o_,o_,o_,o_,o_,o_,o_,o_,o_,o_,o_,o_,o_,o_,o_,o_,o_,o_,o_,o_,o_,o_,o_,o_,o_,o_,o_,o_,o_,o_,o_,o_,o_,o_,o_,o_,o_,o_,o_,o_,o_,o_,o_,o_,o_,o_,o_,o_,o_,o_,o_,o_,o_,o_,o_,o_,o_,o_])] }
def ann11 : FAnn := { ops := [[t1_], [{}, { mode := 3 }, t1_, t1_, {}, t1_, t1_, { takes := [true, false, true] }], [{ mode := 3 }, t1_], [{}, { mode := 3 }, t1_, {}, t1_, t1_, t1_], [{}, { mode := 3 }, t1_, {}, t1_, t1_, t1_], [{}, t1_, { mode := 3 }, t1_], [{}, {}, { mode := 3 }, t1_, {}, t1_, t1_, t1_], [t1_, t1_, { mode := 3 }, t1_, {}, t1_, t1_, t1_], [t1_, t1_, t1_, t2_, t1_, t1_, t1_, t2_, t1_, t1_, t1_, t2_, t1_, {}, t1_, t2_, t1_, {}, {}, t2_, t2_, t1_, t1_, t1_, t1_, t1_, t2_, t2_, t1_, t1_, t1_, t1_, t1_, t2_, t2_, t1_, { mode := 3 }, t2_, t1_]] }
def ann12 : FAnn := { ops := [[t1_], [{}, { mode := 3 }, t1_, t1_, {}, t1_, t1_, { takes := [true, false, true] }], [{ mode := 3 }, t1_], [{}, t1_, { mode := 3 }, t1_], [], [], [{}, {}, t1_, t2_], [t1_, t1_, t1_], [t1_, {}, {}, t2_, t1_, { mode := 3 }, t1_, t2_, t1_], [{}, t1_, t1_, t1_, { mode := 3 }, t1_], [{}, {}, { mode := 3 }, t1_, {}, t1_, t1_, t1_], [{}, {}, { mode := 3 }, t1_, {}, t1_, t1_, t1_], [{}, {}, { mode := 3 }, t1_, {}, t1_, t1_, t1_], [{}, {}, { mode := 3 }, t1_, {}, t1_, t1_, t1_], [{}, {}, { mode := 3 }, t1_, {}, t1_, t1_, t1_], [{}, {}, { mode := 3 }, t1_, {}, t1_, t1_, t1_], [{}, {}, { mode := 3 }, t1_, {}, t1_, t1_, t1_], [t1_, t1_, { mode := 3 }, t1_, {}, t1_, t1_, t1_], [t1_, t1_, t1_, t1_, t1_, { takes := [true, false, true] }, t1_, t1_, t1_, { takes := [true, false, true] }, t1_, t1_, t1_, { takes := [true, false, true] }, t1_, t1_, t1_, { takes := [true, false, true] }, t1_, t1_, t1_, { takes := [true, false, true] }, t1_, t1_, t1_, { takes := [true, false, true] }, t1_, t1_, t1_, { takes := [true, false, true] }, t1_, t1_, t1_, t2_, { takes := [true, false, true] }, t1_, t1_, t1_, t2_, { takes := [true, false, true] }, t1_, {}, t1_, {}, t1_, t2_, { takes := [true, false, true] }, t1_, {}, t1_, {}, t1_, t2_, { takes := [true, false, true] }, t1_, {}, t1_, t1_, t1_, t2_, { takes := [true, false, true] }], [], [], [{}, {}, t1_, t2_], [t1_, t1_, t1_], [{}, {}, t2_, t1_, t1_, t1_, {}, {}, t2_, t1_, {}, t2_, { takes := [false, false, true] }, t1_, {}, {}, t1_, t1_, {}, t2_, t2_, t1_, {}, {}, {}, t2_, t1_, t2_, t2_, { takes := [false, false, true] }], [], [], [{}, {}, t1_, t2_], [t1_, t1_, t1_], [{}, {}, t2_, t1_, t1_, {}, {}, t2_, t1_, t1_, t2_], [], [], [{}, {}, {}, t2_, t1_, t1_, t2_], [t1_, t1_, t1_], [{}, {}, t2_, t1_, {}, t2_, t1_, t1_, t1_, {}, {}, t2_, t1_, {}, t2_, t1_, {}, t2_, { takes := [false, false, true] }, t1_, {}, {}, t2_, t1_, {}, {}, t2_, t1_, t1_, t1_, {}, t2_, t2_, t1_, {}, {}, {}, t2_, t1_, {}, t2_, t1_, t2_, t2_, { takes := [false, false, true] }], [], [{ mode := 3 }, t1_]], keepL := [(0, [o_,o_,i_,o_,o_,i_,i_,i_,o_,o_,o_,o_,o_,o_,o_,o_,o_,o_,o_,o_,o_,o_,o_,o_,o_,o_,o_,o_,o_,o_,o_,o_,o_,o_,o_,o_,o_,o_,o_,o_,o_,o_,o_,o_,o_,o_,o_,o_,o_,o_,o_,o_,o_,o_,o_,o_,o_,o_,o_,o_,o_,o_,o_,o_,o_,o_,o_,o_,o_,o_,o_,o_,o_,o_,o_,o_,o_,o_,o_,o_,o_,o_,o_,o_,o_,o_,o_,o_,o_,o_,o_,o_,o_,o_,o_,o_,o_,o_,o_,o_,o_,o_,o_,o_,o_,o_,o_,o_,o_,o_,o_,o_,o_,o_,o_,o_,o_,o_,o_,o_,o_,o_,o_,o_,o_,o_,o_,o_,o_,o_,o_,o_,o_,o_,o_,o_,o_,o_,o_,o_,o_,o_,o_,o_,o_,o_,o_,o_,o_,o_,o_,o_,o_,o_,o_,o_,o_,o_,o_,o_,o_,o_,o_,o_,o_,o_,o_,o_,o_,o_,o_,o_,o_,o_,o_,o_,o_,o_,o_,o_,o_,o_,o_,o_,o_,o_,o_,o_,o_,o_,o_,o_,o_,o_,o_,o_,o_,o_,o_,o_,o_,o_,o_,o_,o_,o_,o_,o_,o_,o_,o_,o_,o_,o_,o_,o_,o_,o_,o_,o_,o_,o_,o_,o_,o_,o_,o_,o_,o_,o_,o_,o_,o_,o_,o_,o_,o_,o_,o_,o_,o_,o_,o_,o_,o_,o_,o_,o_,o_,o_,o_,o_,o_,o_,o_,o_,o_,o_,o_,o_,o_,o_,o_,o_,o_,o_,o_,o_,o_,o_,o_,o_,o_,o_,o_,o_]), (2, [o_,o_,o_,o_,o_,o_,o_,o_,i_,o_,o_,o_,o_,o_,o_,o_,o_,i_,o_,i_,o_,i_,o_,i_,o_,i_,o_,o_,o_,o_,o_,o_,o_,o_,o_,o_,o_,o_,o_,o_,o_,o_,o_,o_,o_,o_,o_,o_,o_,o_,o_,o_,o_,o_,o_,o_,o_,o_,o_,o_,o_,o_,o_,o_,o_,o_,o_,o_,o_,o_,o_,o_,o_,o_,o_,o_,o_,o_,o_,o_,o_,o_,o_,o_,o_,o_,o_,o_,o_,o_,o_,o_,o_,o_,o_,o_,o_,o_,o_,o_,o_,o_,o_,o_,o_,o_,o_,o_,o_,o_,o_,o_,o_,o_,o_,o_,o_,o_,o_,o_,o_,o_,o_,o_,o_,o_,o_,o_,o_,o_,o_,o_,o_,o_,o_,o_,o_,o_,o_,o_,o_,o_,o_,o_,o_,o_,o_,o_,o_,o_,o_,o_,o_,o_,o_,o_,o_,o_,o_,o_,o_,o_,o_,o_,o_,o_,o_,o_,o_,o_,o_,o_,o_,o_,o_,o_,o_,o_,o_,o_,o_,o_,o_,o_,o_,o_,o_,o_,o_,o_,o_,o_,o_,o_,o_,o_,o_,o_,o_,o_,o_,o_,o_,o_,o_,o_,o_,o_,o_,o_,o_,o_,o_,o_,o_,o_,o_,o_,o_,o_,o_,o_,o_,o_,o_,o_,o_,o_,o_,o_,o_,o_,o_,o_,o_,o_,o_,o_,o_,o_,o_,o_,o_,o_,o_,o_,o_,o_,o_,o_,o_,o_,o_,o_,o_,o_,o_,o_,o_,o_,o_,o_,o_,o_,o_,o_,o_,o_,o_,o_,o_,o_,o_,o_,o_,o_]), (4, [o_,o_,o_,o_,o_,o_,o_,o_,i_,o_,o_,o_,o_,o_,o_,o_,o_,o_,o_,o_,o_,i_,o_,i_,o_,o_,i_,o_,o_,o_,o_,o_,o_,o_,o_,o_,o_,o_,o_,o_,o_,o_,o_,o_,o_,o_,o_,o_,o_,o_,o_,o_,o_,o_,o_,o_,o_,o_,o_,o_,o_,o_,o_,o_,o_,o_,o_,o_,o_,o_,o_,o_,o_,o_,o_,o_,o_,o_,o_,o_,o_,o_,o_,o_,o_,o_,o_,o_,o_,o_,o_,o_,o_,o_,o_,o_,o_,o_,o_,o_,o_,o_,o_,o_,o_,o_,o_,o_,o_,o_,o_,o_,o_,o_,o_,o_,o_,o_,o_,o_,o_,o_,o_,o_,o_,o_,o_,o_,o_,o_,o_,o_,o_,o_,o_,o_,o_,o_,o_,o_,o_,o_,o_,o_,o_,o_,o_,o_,o_,o_,o_,o_,o_,o_,o_,o_,o_,o_,o_,o_,o_,o_,o_,o_,o_,o_,o_,o_,o_,o_,o_,o_,o_,o_,o_,o_,o_,o_,o_,o_,o_,o_,o_,o_,o_,o_,o_,o_,o_,o_,o_,o_,o_,o_,o_,o_,o_,o_,o_,o_,o_,o_,o_,o_,o_,o_,o_,o_,o_,o_,o_,o_,o_,o_,o_,o_,o_,o_,o_,o_,o_,o_,o_,o_,o_,o_,o_,o_,o_,o_,o_,o_,o_,o_,o_,o_,o_,o_,o_,o_,o_,o_,o_,o_,o_,o_,o_,o_,o_,o_,o_,o_,o_,o_,o_,o_,o_,o_,o_,o_,o_,o_,o_,o_,o_,o_,o_,o_,o_,o_,o_,o_,o_,o_,o_,o_]), (6, [o_,o_,o_,o_,o_,o_,o_,o_,i_,o_,o_,o_,o_,o_,o_,o_,o_,o_,o_,o_,o_,i_,o_,i_,o_,o_,i_,i_,o_,o_,o_,o_,o_,o_,o_,o_,o_,o_,o_,o_,o_,o_,o_,o_,o_,o_,o_,o_,o_,o_,o_,o_,o_,o_,o_,o_,o_,o_,o_,o_,o_,o_,o_,o_,o_,o_,o_,o_,o_,o_,o_,o_,o_,o_,o_,o_,o_,o_,o_,o_,o_,o_,o_,o_,o_,o_,o_,o_,o_,o_,o_,o_,o_,o_,o_,o_,o_,o_,o_,o_,o_,o_,o_,o_,o_,o_,o_,o_,o_,o_,o_,o_,o_,o_,o_,o_,o_,o_,o_,o_,o_,o_,o_,o_,o_,o_,o_,o_,o_,o_,o_,o_,o_,o_,o_,o_,o_,o_,o_,o_,o_,o_,o_,o_,o_,o_,o_,o_,o_,o_,o_,o_,o_,o_,o_,o_,o_,o_,o_,o_,o_,o_,o_,o_,o_,o_,o_,o_,o_,o_,o_,o_,o_,o_,o_,o_,o_,o_,o_,o_,o_,o_,o_,o_,o_,o_,o_,o_,o_,o_,o_,o_,o_,o_,o_,o_,o_,o_,o_,o_,o_,o_,o_,o_,o_,o_,o_,o_,o_,o_,o_,o_,o_,o_,o_,o_,o_,o_,o_,o_,o_,o_,o_,o_,o_,o_,o_,o_,o_,o_,o_,o_,o_,o_,o_,o_,o_,o_,o_,o_,o_,o_,o_,o_,o_,o_,o_,o_,o_,o_,o_,o_,o_,o_,o_,o_,o_,o_,o_,o_,o_,o_,o_,o_,o_,o_,o_,o_,o_,o_,o_,o_,o_,o_,o_,o_])] }
def ann13 : FAnn := { ops := [[t1_], [{}, { mode := 3 }, t1_], [{ mode := 3 }, t1_], [], [{}, t1_, t1_, t1_], [{}, t1_, t1_], [{}, t1_], [t1_, t1_, t1_], [{}, { takes := [true], mode := 1 }, {}, t1_, {}, t2_, t1_, t1_, t2_, {}, t2_], [{}, { mode := 3 }, t1_, {}, t1_, t1_, t1_], [{}, { mode := 3 }, t1_, {}, t1_, t1_, t1_], [{}, { mode := 3 }, t1_, {}, t1_, t1_, t1_], [{}, { mode := 3 }, t1_, {}, t1_, t1_, t1_], [t1_, t1_, {}, t1_, t2_, t1_], [t1_, {}, { mode := 3 }, t1_, {}, t1_, t1_, t1_], [t1_, t1_, t1_, t1_, t2_, { mode := 3 }, t1_, {}, t1_, t1_, t1_], [t1_, t1_, t1_, t2_, t1_, t1_, t2_, t1_, t1_, t2_, t1_, t1_, t1_, t2_, t2_, t1_, t1_, t1_, t2_, t2_, t1_, t1_, t1_, t2_, t1_, t1_, t1_, t2_, t1_, t1_, t1_, t2_, t2_, t1_, { mode := 3 }, t2_, t1_]], keepL := [(0, [o_,i_,i_,o_,o_,i_,i_,i_,o_,o_,o_,o_,o_,o_,o_,o_,o_,o_,o_,o_,o_,o_,o_,o_,o_,o_,o_,o_,o_,o_,o_,o_,o_,o_,o_,o_,o_,o_,o_,o_,o_,o_,o_,o_,o_,o_,o_,o_,o_,o_,o_,o_,o_,o_,o_,o_,o_,o_,o_,o_,o_,o_,o_,o_,o_,o_,o_,o_,o_,o_,o_,o_,o_,o_,o_,o_,o_,o_,o_,o_,o_,o_,o_,o_,o_,o_,o_,o_,o_,o_,o_,o_,o_,o_,o_,o_,o_,o_,o_,o_,o_,o_,o_,o_,o_,o_,o_,o_,o_,o_,o_,o_,o_,o_,o_,o_,o_,o_,o_,o_])] }
def ann14 : FAnn := { ops := [[t1_], [{}, { mode := 3 }, t1_, t1_, {}, t1_, t1_, { takes := [true, false, true] }], [{ mode := 3 }, t1_], [t1_, t1_, t1_, { takes := [false, true] }, t1_], [], [], [{}, {}, t1_, t1_, t2_], [t1_, t1_, t1_], [], [], [{}, {}, t1_, {}, t2_, t1_, t1_, t2_], [t1_, t1_, t1_], [t1_, {}, {}, t1_, {}, t2_, t1_, {}, t2_, t1_, t2_, t1_, t2_, t1_], [{}, { takes := [true], mode := 1 }, t1_, t1_, t2_, {}, t2_], [{}, { mode := 3 }, t1_], [{ mode := 3 }, t1_], [{}, t1_, { mode := 3 }, t1_], [{}, {}, { mode := 3 }, t1_, {}, t1_, t1_, t1_], [{}, {}, { mode := 3 }, t1_, {}, t1_, t1_, t1_], [{}, {}, { mode := 3 }, t1_, {}, t1_, t1_, t1_], [{}, t1_, { mode := 3 }, t1_, {}, t1_, t1_, t1_], [{}, { mode := 3 }, t1_, {}, t1_, t1_, t1_], [{}, { mode := 3 }, t1_, {}, t1_, t1_, t1_], [{}, { mode := 3 }, t1_, {}, t1_, t1_, t1_], [t1_, { mode := 3 }, t1_, {}, t1_, t1_, t1_], [t1_, t1_, t1_, t1_, { mode := 3 }, t1_], [t1_, t1_, t1_, t2_, t1_, t1_, t2_, t1_, t1_, t2_, t1_, t1_, t1_, t2_, t1_, t1_, t1_, t2_, t1_, t1_, t1_, t2_, t1_, t1_, t1_, t2_, t1_, t1_, t1_, t2_, t2_, t1_, {}, t1_, t2_, t1_, {}, t1_, t2_, t2_, t1_, t1_, {}, t1_, t2_, t2_, t2_, t1_, t1_, t1_, t2_, t2_, t1_, t1_, t1_, t1_, t2_, t2_, t2_, t1_, { mode := 3 }, t2_, t1_]], keepL := [(0, [o_,i_,o_,i_,o_,o_,o_,i_,i_,i_,o_,o_,o_,o_,o_,o_,o_,o_,o_,o_,o_,o_,o_,o_,o_,o_,o_,o_,o_,o_,o_,o_,o_,o_,o_,o_,o_,o_,o_,o_,o_,o_,o_,o_,o_,o_,o_,o_,o_,o_,o_,o_,o_,o_,o_,o_,o_,o_,o_,o_,o_,o_,o_,o_,o_,o_,o_,o_,o_,o_,o_,o_,o_,o_,o_,o_,o_,o_,o_,o_,o_,o_,o_,o_,o_,o_,o_,o_,o_,o_,o_,o_,o_,o_,o_,o_,o_,o_,o_,o_,o_,o_,o_,o_,o_,o_,o_,o_,o_,o_,o_,o_,o_,o_,o_,o_,o_,o_,o_,o_,o_,o_,o_,o_,o_,o_,o_,o_,o_,o_,o_,o_,o_,o_,o_,o_,o_,o_,o_,o_,o_,o_,o_,o_,o_,o_,o_,o_,o_,o_,o_,o_,o_,o_,o_,o_,o_,o_,o_,o_,o_,o_,o_,o_,o_,o_,o_,o_,o_,o_,o_,o_,o_,o_,o_,o_,o_,o_,o_,o_,o_,o_,o_,o_,o_,o_,o_,o_,o_,o_,o_,o_,o_,o_,o_,o_,o_]), (2, [o_,i_,o_,i_,o_,o_,o_,i_,i_,i_,i_,i_,o_,o_,o_,o_,o_,o_,o_,o_,o_,o_,o_,o_,o_,o_,o_,o_,o_,o_,o_,o_,o_,o_,o_,o_,o_,o_,o_,o_,o_,o_,o_,o_,o_,o_,o_,o_,o_,o_,o_,o_,o_,o_,o_,o_,o_,o_,o_,o_,o_,o_,o_,o_,o_,o_,o_,o_,o_,o_,o_,o_,o_,o_,o_,o_,o_,o_,o_,o_,o_,o_,o_,o_,o_,o_,o_,o_,o_,o_,o_,o_,o_,o_,o_,o_,o_,o_,o_,o_,o_,o_,o_,o_,o_,o_,o_,o_,o_,o_,o_,o_,o_,o_,o_,o_,o_,o_,o_,o_,o_,o_,o_,o_,o_,o_,o_,o_,o_,o_,o_,o_,o_,o_,o_,o_,o_,o_,o_,o_,o_,o_,o_,o_,o_,o_,o_,o_,o_,o_,o_,o_,o_,o_,o_,o_,o_,o_,o_,o_,o_,o_,o_,o_,o_,o_,o_,o_,o_,o_,o_,o_,o_,o_,o_,o_,o_,o_,o_,o_,o_,o_,o_,o_,o_,o_,o_,o_,o_,o_,o_,o_,o_,o_,o_,o_,o_])] }
def ann15 : FAnn := { ops := [[t1_], [{}, { mode := 3 }, t1_], [{ mode := 3 }, t1_], [{}, t1_, t1_, t1_], [{}, { mode := 3 }, t1_, {}, t1_, t1_, t1_], [{}, { mode := 3 }, t1_, {}, t1_, t1_, t1_], [t1_, t1_, t1_, t1_, t1_, { takes := [true, false, true] }], [], [{}, t1_], [{}, t1_, {}, t1_, t2_, t1_, {}, { takes := [false, true] }], [{}, { mode := 3 }, t1_, {}, t1_, t1_, t1_], [t1_, { mode := 3 }, t1_, {}, t1_, t1_, t1_], [t1_, t1_, t1_, t1_, t1_, { takes := [true, false, true] }, t1_, t1_, {}, t2_, { takes := [true, false, true] }, t1_, t1_, t1_, t2_, { takes := [true, false, true] }], [], [{}, t1_], [{ mode := 3 }, t1_], [{}, {}, t1_, t2_, {}, t1_, {}, t1_, t2_, t1_, t1_, t2_, t1_, {}, { takes := [false, true] }], [t1_, { mode := 3 }, t1_, {}, t1_, t1_, t1_], [t1_, t1_, {}, {}, t2_, t2_, t1_, t1_, t1_, t1_, t1_, t1_, t1_, t2_, t1_, t1_, t2_, t1_, t2_, t2_, t1_, { mode := 3 }, t2_, t1_]] }
def ann16 : FAnn := { ops := [[], [{}, t1_, t1_], [{ mode := 3 }, t1_], [t1_, t1_, t1_, { takes := [false, true] }, t1_, t1_, t1_, { takes := [false, true] }, t1_, t1_], [t1_, t1_, t1_, { takes := [false, true] }, t1_], [{}, { takes := [false, true], mode := 1 }, {}, { takes := [false, true], mode := 1 }, t1_, t1_], [], [{}, {}, t2_], [t1_, t1_, t1_], [{ takes := [true], mode := 1 }, {}, {}, {}, t2_, t2_, t2_], [], [{}, {}, t2_], [t1_, t1_, t1_], [{ takes := [true], mode := 1 }, {}, {}, {}, t2_, t2_, t2_], [{}, {}, t2_, { mode := 3 }, {}, { takes := [false, true] }], [{}, { mode := 3 }, t1_, {}, t1_, t1_, t1_], [{}, { mode := 3 }, t1_, {}, t1_, t1_, t1_], [{}, { mode := 3 }, t1_, {}, t1_, t1_, t1_], [{}, {}, t1_, { mode := 3 }, { mode := 3 }, t1_, {}, {}, t1_, t1_], [t1_, t1_, t1_, t1_, t1_, { takes := [true, false, true] }, t1_, t1_, t1_, { takes := [true, false, true] }, t1_, t1_, t1_, { takes := [true, false, true] }, t1_, {}, t1_, {}, t1_, t2_, { takes := [true, false, true] }, t1_, {}, t1_, {}, t1_, t2_, { takes := [true, false, true] }, t1_, {}, t1_, t2_, { takes := [true, false, true] }], [], [], [], [{}, {}, t2_], [t1_, t1_, t1_], [{}, {}, t1_, t2_, t1_, {}, {}, t1_, t1_, t2_, t2_], [], [{}, {}, t1_, t2_, t1_, {}, t1_, t1_, t2_, t1_], [t1_, t1_, t1_], [], [{}, {}, t2_], [t1_, t1_, t1_], [{}, {}, t1_, t2_, t1_, {}, {}, t1_, t1_, t2_, t2_], [], [t1_, t1_, t2_, t1_, { mode := 3 }, t2_, t1_]], keepL := [(0, [o_,o_,o_,i_,o_,o_,o_,o_,o_,i_,i_,i_,i_,i_,i_,o_,o_,o_,o_,o_,o_,o_,o_,o_,o_,o_,o_,o_,o_,o_,o_,o_,o_,o_,o_,o_,o_,o_,o_,o_,o_,o_,o_,o_,o_,o_,o_,o_,o_,o_,o_,o_,o_,o_,o_,o_,o_,o_,o_,o_,o_,o_,o_,o_,o_,o_,o_,o_,o_,o_,o_,o_,o_,o_,o_,o_,o_,o_,o_,o_,o_,o_,o_,o_,o_,o_,o_,o_,o_,o_,o_,o_,o_,o_,o_,o_,o_,o_,o_,o_,o_,o_,o_,o_,o_,o_,o_,o_,o_,o_,o_,o_,o_,o_,o_,o_,o_,o_,o_,o_,o_,o_,o_,o_,o_,o_,o_,o_,o_,o_,o_,o_,o_,o_,o_,o_,o_,o_,o_,o_,o_,o_,o_,o_,o_,o_,o_,o_,o_,o_,o_,o_,o_,o_,o_,o_,o_,o_,o_,o_,o_,o_,o_,o_,o_,o_,o_,o_,o_,o_,o_,o_,o_,o_,o_,o_,o_,o_,o_,o_]), (2, [o_,o_,o_,i_,o_,o_,o_,o_,o_,i_,i_,i_,i_,i_,o_,i_,o_,o_,o_,o_,o_,o_,o_,o_,o_,o_,o_,o_,o_,o_,o_,o_,o_,o_,o_,o_,o_,o_,o_,o_,o_,o_,o_,o_,o_,o_,o_,o_,o_,o_,o_,o_,o_,o_,o_,o_,o_,o_,o_,o_,o_,o_,o_,o_,o_,o_,o_,o_,o_,o_,o_,o_,o_,o_,o_,o_,o_,o_,o_,o_,o_,o_,o_,o_,o_,o_,o_,o_,o_,o_,o_,o_,o_,o_,o_,o_,o_,o_,o_,o_,o_,o_,o_,o_,o_,o_,o_,o_,o_,o_,o_,o_,o_,o_,o_,o_,o_,o_,o_,o_,o_,o_,o_,o_,o_,o_,o_,o_,o_,o_,o_,o_,o_,o_,o_,o_,o_,o_,o_,o_,o_,o_,o_,o_,o_,o_,o_,o_,o_,o_,o_,o_,o_,o_,o_,o_,o_,o_,o_,o_,o_,o_,o_,o_,o_,o_,o_,o_,o_,o_,o_,o_,o_,o_,o_,o_,o_,o_,o_,o_]), (4, [o_,o_,o_,o_,o_,o_,o_,o_,o_,i_,i_,o_,i_,i_,o_,o_,o_,i_,o_,i_,o_,i_,o_,o_,o_,i_,i_,o_,o_,o_,o_,o_,o_,o_,o_,o_,o_,o_,o_,o_,o_,o_,o_,o_,o_,o_,o_,o_,o_,o_,o_,o_,o_,o_,o_,o_,o_,o_,o_,o_,o_,o_,o_,o_,o_,o_,o_,o_,o_,o_,o_,o_,o_,o_,o_,o_,o_,o_,o_,o_,o_,o_,o_,o_,o_,o_,o_,o_,o_,o_,o_,o_,o_,o_,o_,o_,o_,o_,o_,o_,o_,o_,o_,o_,o_,o_,o_,o_,o_,o_,o_,o_,o_,o_,o_,o_,o_,o_,o_,o_,o_,o_,o_,o_,o_,o_,o_,o_,o_,o_,o_,o_,o_,o_,o_,o_,o_,o_,o_,o_,o_,o_,o_,o_,o_,o_,o_,o_,o_,o_,o_,o_,o_,o_,o_,o_,o_,o_,o_,o_,o_,o_,o_,o_,o_,o_,o_,o_,o_,o_,o_,o_,o_,o_,o_,o_,o_,o_,o_,o_]), (6, [o_,o_,o_,o_,o_,o_,o_,o_,o_,o_,i_,o_,o_,i_,o_,o_,o_,o_,o_,i_,o_,i_,o_,o_,o_,i_,o_,i_,o_,o_,o_,o_,o_,o_,o_,o_,o_,o_,o_,o_,o_,o_,o_,o_,o_,o_,o_,o_,o_,o_,o_,o_,o_,o_,o_,o_,o_,o_,o_,o_,o_,o_,o_,o_,o_,o_,o_,o_,o_,o_,o_,o_,o_,o_,o_,o_,o_,o_,o_,o_,o_,o_,o_,o_,o_,o_,o_,o_,o_,o_,o_,o_,o_,o_,o_,o_,o_,o_,o_,o_,o_,o_,o_,o_,o_,o_,o_,o_,o_,o_,o_,o_,o_,o_,o_,o_,o_,o_,o_,o_,o_,o_,o_,o_,o_,o_,o_,o_,o_,o_,o_,o_,o_,o_,o_,o_,o_,o_,o_,o_,o_,o_,o_,o_,o_,o_,o_,o_,o_,o_,o_,o_,o_,o_,o_,o_,o_,o_,o_,o_,o_,o_,o_,o_,o_,o_,o_,o_,o_,o_,o_,o_,o_,o_,o_,o_,o_,o_,o_,o_])] }
def ann17 : FAnn := { ops := [[], [{ mode := 3 }, { mode := 3 }, {}, {}, { takes := [false, true] }, { takes := [false, true] }], [{}, {}, { mode := 3 }, {}, { mode := 3 }, t2_, { mode := 3 }, { mode := 3 }, t1_, {}, {}, t1_, t1_], [{}, { mode := 3 }, t1_, {}, t1_, t1_, t1_], [{}, { mode := 3 }, t1_, {}, t1_, t1_, t1_], [{}, { mode := 3 }, t1_, {}, t1_, t1_, t1_], [t1_, { mode := 3 }, t1_, {}, t1_, t1_, t1_], [{}, { mode := 3 }, t1_, {}, t1_, t1_, t1_], [t1_, t1_, t1_, t1_, t1_, t2_, t1_, t1_, t1_, t2_, t1_, t1_, t1_, t2_, t1_, t1_, t1_, t2_, t1_, t1_, {}, { mode := 3 }, {}, { mode := 3 }, {}, { mode := 3 }, { takes := [true, true, true] }, { mode := 3 }, { mode := 3 }, t2_, t1_, t1_, t1_, t2_, t1_, t1_, t1_, t2_, t1_, t1_, t1_, t2_, t1_, t1_, t1_, t1_, t2_, t1_, t1_, t1_, t2_, t1_, t1_, t1_, t2_, t1_, t1_, { mode := 3 }, t1_, t2_, t1_, { mode := 3 }, t2_, t1_]] }
def ann18 : FAnn := { ops := [[t1_], [{}, t1_, t1_, t1_], [], [{}, {}, t1_, t1_, t2_], [t1_, t1_, t1_], [t1_, {}, t1_, {}, t2_, t1_, t1_, t2_, t1_], [t1_, t1_, t1_]], keepL := [(0, [o_,i_,o_,i_,i_,o_,o_,o_,o_,o_,o_,o_,o_,o_,o_,o_,o_,o_,o_,o_,o_,o_,o_,o_,o_])] }
def ann19 : FAnn := { ops := [[], [{}, t1_, t1_], [], [{}, {}, t1_, t2_], [t1_, t1_, t1_], [t1_, {}, {}, t2_, t1_, t1_, t2_, t1_], [t1_, t1_, t1_]], keepL := [(0, [i_,o_,o_,i_,i_,o_,o_,o_,o_,o_,o_,o_,o_,o_,o_,o_,o_,o_,o_,o_,o_,o_])] }
def ann20 : FAnn := { ops := [[], [{ mode := 3 }, { mode := 3 }, {}, {}, { takes := [false, true] }, { takes := [false, true] }], [{}, { mode := 3 }, {}, { mode := 3 }, t2_, { mode := 3 }, t1_], [{}, {}, { mode := 3 }, t1_, {}, t1_, t1_, t1_], [{}, {}, { mode := 3 }, {}, { mode := 3 }, t2_, { mode := 3 }, { mode := 3 }, t1_, {}, {}, t1_, t1_], [{}, {}, { mode := 3 }, t1_, { mode := 3 }, { mode := 3 }, t1_, {}, {}, t1_, t1_], [{}, {}, { mode := 3 }, {}, { mode := 3 }, t2_, { mode := 3 }, { mode := 3 }, t1_, {}, {}, t1_, t1_], [{}, {}, { mode := 3 }, t1_, {}, t1_, t1_, t1_], [{}, t1_, { mode := 3 }, t1_, {}, t1_, t1_, t1_], [{}, {}, { mode := 3 }, {}, { mode := 3 }, t2_, { mode := 3 }, { mode := 3 }, t1_, {}, {}, t1_, t1_], [{}, { mode := 3 }, t1_, {}, t1_, t1_, t1_], [{}, { mode := 3 }, t1_, {}, t1_, t1_, t1_], [{}, { mode := 3 }, t1_, {}, t1_, t1_, t1_], [t1_, { mode := 3 }, t1_, {}, t1_, t1_, t1_], [{}, { mode := 3 }, t1_, {}, t1_, t1_, t1_], [{}, { mode := 3 }, t1_, {}, t1_, t1_, t1_], [{}, { mode := 3 }, t1_, {}, t1_, t1_, t1_], [{}, { mode := 3 }, t1_, {}, t1_, t1_, t1_], [{}, { mode := 3 }, t1_, {}, t1_, t1_, t1_], [{}, { mode := 3 }, t1_, {}, t1_, t1_, t1_], [{}, { mode := 3 }, t1_, {}, t1_, t1_, t1_], [t1_, t1_, t1_, t1_, t1_, { takes := [true, false, true] }, t1_, t1_, t1_, { takes := [true, false, true] }, t1_, t1_, t1_, { takes := [true, false, true] }, t1_, t1_, t1_, { takes := [true, false, true] }, t1_, t1_, t1_, { takes := [true, false, true] }, t1_, t1_, t1_, { takes := [true, false, true] }, t1_, t1_, t1_, { takes := [true, false, true] }, t1_, t1_, t1_, { takes := [true, false, true] }, t1_, t1_, t1_, { takes := [true, false, true] }, t1_, t1_, t1_, { takes := [true, false, true] }, t1_, t1_, t1_, { takes := [true, false, true] }, t1_, t1_, t1_, { takes := [true, false, true] }, t1_, t1_, t1_, { takes := [true, false, true] }, t1_, t1_, t1_, { takes := [true, false, true] }, t1_, t1_, t1_, { takes := [true, false, true] }, t1_, t1_, t1_, { takes := [true, false, true] }, t1_, t1_, t1_, { takes := [true, false, true] }], [], [t1_, t1_, t1_, t1_, t1_, { takes := [false, false, true] }, t1_, {}, t1_, t1_, { takes := [false, false, true] }, t1_, {}, t1_, t1_, {}, { mode := 3 }, { mode := 3 }, t1_, { takes := [false, false, true] }, t1_, {}, t1_, t1_, {}, { mode := 3 }, { mode := 3 }, t1_, { takes := [false, false, true] }, t1_, t1_, {}, { mode := 3 }, { mode := 3 }, t1_, { takes := [false, false, true] }, t1_, t1_, t1_, { takes := [false, false, true] }, t1_, t1_, t1_, { takes := [false, false, true] }, t1_, t1_, {}, { mode := 3 }, {}, { mode := 3 }, t2_, { mode := 3 }, { mode := 3 }, t1_, { takes := [false, false, true] }, t1_, t1_, t1_, { takes := [false, false, true] }], [], [t1_, t1_, { mode := 3 }, t1_, {}, t1_, t1_, t1_], [t1_, {}, { mode := 3 }, { mode := 3 }, t1_, t1_, {}, { mode := 3 }, { mode := 3 }, t2_, t1_, t1_, t1_, t2_, t1_, t1_, t1_, t2_, t1_, t1_, t1_, t2_, t1_]] }
def ann21 : FAnn := { ops := [[t1_], [t1_, t1_, { mode := 3 }, t1_, {}, t1_, t1_, t1_], [{}, t1_], [t1_, {}, t1_], [t1_, { mode := 2 }, t1_, t1_]] }
def ann22 : FAnn := { ops := [[t1_], [{}, {}, { mode := 3 }, t1_], [t1_, t1_, { mode := 3 }, {}, t1_], [t1_, t1_, { mode := 3 }, t1_], [], [], [{}, {}, t1_, t2_], [t1_, t1_, t1_], [t1_, {}, {}, t1_, t2_, t1_, {}, {}, t2_, t1_, { mode := 3 }, t2_, t1_], [t1_, t1_]], keepL := [(0, [o_,o_,o_,o_,o_,o_,i_,i_,i_,o_,o_,o_,o_,o_,o_,o_,o_,o_,o_,o_,o_,o_,o_,o_,o_,o_,o_,o_,o_,o_,o_,o_,o_,o_,o_,o_,o_,o_])] }
def ann23 : FAnn := { ops := [[t1_], [t1_, t1_, { mode := 3 }, {}, t1_, t1_, t1_]] }
def ann24 : FAnn := { ops := [[t1_], [{}, {}, { mode := 3 }, t1_], [t1_, t1_, { mode := 3 }, {}, t1_], [t1_, t1_, { mode := 3 }, t1_]] }
def ann25 : FAnn := { ops := [[t1_], [], [], [{}, t1_, t1_, t1_, { mode := 3 }, t1_, t1_, {}, t1_, t1_, { mode := 3 }, { takes := [true, false, true] }, t1_], [], [{}, t1_, t1_, { mode := 3 }, t1_], [], [{}, t1_, t1_, { mode := 6 }, t1_], [], []] }
def ann26 : FAnn := { ops := [[t1_], [{}, t1_, t1_, t1_, t1_, {}, t1_, t1_, t1_, { takes := [true, false, true] }], [], [], [{}, {}, t1_, t1_, t2_], [t1_, t1_, t1_], [{}, t1_, {}, t2_, t1_, t1_, t1_, t1_, {}, t1_, {}, t2_, t1_, t1_, t1_, { takes := [true, false, true] }], [], [], [{}, {}, t1_, t1_, t2_], [t1_, t1_, t1_], [], [{}, {}, t1_, {}, t2_, t1_, t1_, t2_], [t1_, t1_, t1_], [{}, t1_, {}, t2_, t1_, {}, t2_, t1_, t1_, t1_, {}, t1_, {}, t2_, t1_, {}, t2_, t1_, t1_, { takes := [true, false, true] }], [], [], [{}, {}, t1_, t1_, t2_], [t1_, t1_, t1_], [{}, t1_, {}, t2_, t1_, { mode := 3 }, {}, t1_, t1_, t1_, { mode := 3 }, t2_], [], []], keepL := [(0, [o_,i_,o_,i_,o_,o_,o_,o_,o_,o_,o_,o_,o_,o_,o_,o_,o_,o_,o_,o_,o_,o_,o_,o_,o_,o_,o_,o_,o_,o_,o_,o_,o_,o_,o_,o_,o_,o_,o_,o_,o_,o_,o_,o_,o_,o_,o_,o_,o_,o_,o_,o_,o_,o_,o_,o_,o_,o_,o_,o_,o_,o_,o_,o_,o_,o_,o_,o_,o_,o_,o_,o_,o_,o_,o_,o_,o_,o_,o_,o_,o_,o_,o_,o_,o_,o_,o_,o_,o_,o_,o_,o_,o_,o_,o_,o_]), (2, [o_,i_,o_,o_,i_,o_,o_,o_,o_,o_,o_,o_,o_,o_,o_,o_,o_,o_,o_,o_,o_,o_,o_,o_,o_,o_,o_,o_,o_,o_,o_,o_,o_,o_,o_,o_,o_,o_,o_,o_,o_,o_,o_,o_,o_,o_,o_,o_,o_,o_,o_,o_,o_,o_,o_,o_,o_,o_,o_,o_,o_,o_,o_,o_,o_,o_,o_,o_,o_,o_,o_,o_,o_,o_,o_,o_,o_,o_,o_,o_,o_,o_,o_,o_,o_,o_,o_,o_,o_,o_,o_,o_,o_,o_,o_,o_]), (4, [o_,i_,o_,o_,i_,i_,o_,o_,o_,o_,o_,o_,o_,o_,o_,o_,o_,o_,o_,o_,o_,o_,o_,o_,o_,o_,o_,o_,o_,o_,o_,o_,o_,o_,o_,o_,o_,o_,o_,o_,o_,o_,o_,o_,o_,o_,o_,o_,o_,o_,o_,o_,o_,o_,o_,o_,o_,o_,o_,o_,o_,o_,o_,o_,o_,o_,o_,o_,o_,o_,o_,o_,o_,o_,o_,o_,o_,o_,o_,o_,o_,o_,o_,o_,o_,o_,o_,o_,o_,o_,o_,o_,o_,o_,o_,o_]), (6, [o_,i_,o_,o_,o_,o_,i_,o_,o_,o_,o_,o_,o_,o_,o_,o_,o_,o_,o_,o_,o_,o_,o_,o_,o_,o_,o_,o_,o_,o_,o_,o_,o_,o_,o_,o_,o_,o_,o_,o_,o_,o_,o_,o_,o_,o_,o_,o_,o_,o_,o_,o_,o_,o_,o_,o_,o_,o_,o_,o_,o_,o_,o_,o_,o_,o_,o_,o_,o_,o_,o_,o_,o_,o_,o_,o_,o_,o_,o_,o_,o_,o_,o_,o_,o_,o_,o_,o_,o_,o_,o_,o_,o_,o_,o_,o_])] }
def ann27 : FAnn := { ops := [[], [{}, t1_, {}, t1_, t2_], [], [], [{}, {}, t1_, t2_], [t1_, t1_, t1_], [{}, {}, t2_, t1_, {}, {}, t2_, t1_, { mode := 3 }, t1_], [], []], keepL := [(0, [i_,i_,o_,o_,o_,i_,o_,o_,o_,o_,o_,o_,o_,o_,o_,o_,o_,o_,o_,o_,o_,o_,o_,o_,o_,o_,o_])] }
def ann28 : FAnn := { ops := [[t1_], [t1_, t1_, { mode := 3 }, t1_, {}, t1_, t1_, t1_], [{}, t1_], [t1_, {}, t1_], [], [{}, t1_, t1_], [], [{}, t1_, t1_], [{}, t1_], [], [{}, t1_, t1_], [t1_, {}, { mode := 3 }, t1_], [t1_, t1_], [{}, {}, t1_, t1_, t1_, { takes := [true, true, true] }, t1_, t1_, t2_, t1_], [t1_, t1_], [t1_, t1_]], keepL := [(0, [o_,o_,o_,o_,o_,o_,i_,o_,i_,o_,o_,o_,o_,o_,o_,o_,o_,o_,o_,o_,o_,o_,o_,o_,i_,i_,i_,o_,o_,o_,o_,o_,o_,o_,o_,o_,o_,o_,o_,o_,o_,o_,o_,o_,o_,o_,o_,o_,o_,o_,o_,o_,o_]), (2, [o_,o_,o_,o_,o_,o_,i_,o_,i_,o_,i_,o_,o_,o_,o_,o_,o_,o_,o_,o_,o_,o_,o_,o_,i_,i_,i_,o_,o_,o_,o_,i_,i_,i_,o_,o_,o_,o_,o_,o_,o_,o_,o_,o_,o_,o_,o_,o_,o_,o_,o_,o_,o_])] }
def ann29 : FAnn := { ops := [[t1_], [{}, {}, { mode := 3 }, t1_], [t1_, t1_, { mode := 3 }, {}, t1_], [t1_, t1_, { mode := 3 }, t1_], [], [], [{}, {}, t1_, t1_, t1_, t2_], [t1_, t1_, t1_], [], [], [{}, {}, t1_, t2_], [t1_, t1_, t1_], [t1_, t1_, {}, {}, t2_, t1_, {}, t1_, t1_, {}, t2_, t1_, { mode := 3 }, { takes := [false, true] }, t1_], [t1_], [t1_, {}, t1_, t1_, {}, t2_, t1_, t1_, t2_, t1_], [t1_, t1_]], keepL := [(0, [o_,o_,o_,o_,o_,o_,i_,i_,i_,o_,o_,o_,o_,o_,o_,o_,o_,o_,o_,o_,o_,o_,o_,o_,o_,o_,o_,o_,o_,o_,o_,o_,o_,o_,o_,o_,o_,o_,o_,o_,o_,o_,o_,o_,o_,o_,o_,o_,o_,o_,o_,o_,o_,o_,o_,o_,o_,o_,o_,o_]), (2, [o_,o_,o_,o_,o_,o_,i_,i_,i_,i_,i_,o_,o_,o_,o_,o_,o_,o_,o_,o_,o_,o_,o_,o_,o_,o_,o_,o_,o_,o_,o_,o_,o_,o_,o_,o_,o_,o_,o_,o_,o_,o_,o_,o_,o_,o_,o_,o_,o_,o_,o_,o_,o_,o_,o_,o_,o_,o_,o_,o_])] }
def ann30 : FAnn := { ops := [[t1_], [{}, t1_, { mode := 3 }, t1_, {}, t1_, t1_, t1_], [{}, t1_], [t1_, {}, t1_], [t1_, t1_, t1_, t1_, { mode := 3 }, t1_], [{}, t1_, t1_], [], [{}, t1_], [{}, {}, {}, t2_, t1_, {}, {}, t1_, t2_, t1_, {}, { mode := 3 }, t2_, t1_], [t1_, t1_], [t1_, t1_]], keepL := [(0, [o_,o_,o_,o_,o_,o_,i_,o_,i_,o_,o_,o_,o_,o_,o_,o_,o_,o_,o_,o_,o_,o_,o_,o_,o_,o_,i_,i_,o_,o_,o_,o_,o_,o_,o_,o_,o_,o_,o_,o_,o_,o_,o_,o_,o_])] }
def ann31 : FAnn := { ops := [[t1_], [{}, {}, { mode := 3 }, t1_], [t1_, t1_, { mode := 3 }, {}, t1_], [{}, t1_, { mode := 3 }, t1_], [t1_, t1_, t1_, t1_, { mode := 3 }, t1_], [], [{}, {}, t1_, t2_], [t1_, t1_, t1_], [{}, {}, t1_, t2_, t1_, {}, {}, t2_, t1_, t1_, { mode := 3 }, t1_], [t1_, t1_]], keepL := [(0, [o_,o_,o_,o_,o_,o_,i_,i_,i_,o_,o_,o_,o_,o_,o_,o_,o_,o_,o_,o_,o_,o_,o_,o_,o_,o_,o_,o_,o_,o_,o_,o_,o_,o_,o_,o_,o_,o_,o_,o_,o_,o_])] }
def ann32 : FAnn := { ops := [[], [{}, t1_, {}, t1_, t2_], [], [], [{}, {}, t1_, t2_], [t1_, t1_, t1_], [{}, {}, t2_, t1_, {}, {}, t2_, t1_, t2_], [], []], keepL := [(0, [i_,i_,o_,o_,o_,i_,o_,o_,o_,o_,o_,o_,o_,o_,o_,o_,o_,o_,o_,o_,o_,o_,o_,o_,o_,o_])] }
def ann33 : FAnn := { ops := [[t1_], [t1_, { mode := 3 }, t1_, {}, t1_, t1_, t1_], [{}, t1_], [t1_, {}, t1_], [{}, t1_, { mode := 3 }, { mode := 3 }, { mode := 2 }, t1_, t1_]] }
def ann34 : FAnn := { ops := [[t1_], [{}, { mode := 3 }, t1_], [t1_, { mode := 3 }, {}, t1_], [t1_, { mode := 3 }, t1_]] }
def ann35 : FAnn := { ops := [[t1_], [t1_, { mode := 3 }, t1_, {}, t1_, t1_, t1_], [{}, t1_], [t1_, {}, t1_], [t1_, { mode := 3 }, t1_]] }
def ann36 : FAnn := { ops := [[t1_], [{}, { mode := 3 }, t1_], [t1_, { mode := 3 }, {}, t1_], [{}, { mode := 3 }, t1_], [{}, { mode := 3 }, t1_], [], [], [], [{}, {}, t1_, t1_, t2_], [t1_, t1_, t1_], [{}, t1_, {}, t2_, t1_, t1_, { mode := 3 }, {}, t1_, {}, t2_, t1_, { mode := 3 }, t1_, t1_], [], [{}, {}, t1_, t2_], [t1_, t1_, t1_], [{}, {}, {}, t2_, t1_, { mode := 3 }, t1_], [t1_, {}, {}, t2_, t1_, {}, t2_, t1_, t2_, {}, t2_], [t1_, t1_, {}, t2_, t1_, t1_, t2_, t1_, {}, t2_, t1_, {}, {}, t2_, t1_, {}, t2_, t1_, t1_, t1_, t1_], [t1_, t1_]], keepL := [(0, [o_,i_,o_,o_,i_,i_,i_,i_,i_,o_,o_,o_,o_,o_,o_,o_,o_,o_,o_,o_,o_,o_,o_,o_,o_,o_,o_,o_,o_,o_,o_,o_,o_,o_,o_,o_,o_,o_,o_,o_,o_,o_,o_,o_,o_,o_,o_,o_,o_,o_,o_,o_,o_,o_,o_,o_,o_,o_,o_,o_,o_,o_,o_,o_,o_,o_,o_,o_,o_,o_,o_,o_,o_,o_,o_,o_,o_,o_,o_,o_,o_,o_,o_,o_]), (2, [o_,i_,o_,o_,i_,i_,i_,i_,i_,i_,i_,i_,o_,o_,o_,o_,o_,o_,o_,o_,o_,o_,o_,o_,o_,o_,o_,o_,o_,o_,o_,o_,o_,o_,o_,o_,o_,o_,o_,o_,o_,o_,o_,o_,o_,o_,o_,o_,o_,o_,o_,o_,o_,o_,o_,o_,o_,o_,o_,o_,o_,o_,o_,o_,o_,o_,o_,o_,o_,o_,o_,o_,o_,o_,o_,o_,o_,o_,o_,o_,o_,o_,o_,o_])] }
def ann37 : FAnn := { ops := [[t1_], [{}, {}, t1_, { mode := 3 }, t1_, {}, t1_, t1_, t1_], [{}, t1_], [t1_, {}, t1_], [{}, {}, t1_, t1_, t1_, t2_], [], [t1_, t1_, {}, t1_, t1_, { takes := [true, true, true] }, t1_, { mode := 3 }, {}, t1_, t1_, t1_]] }
def ann38 : FAnn := { ops := [[t1_], [{}, { mode := 3 }, t1_], [t1_, { mode := 3 }, {}, t1_], [{}, t1_, t1_, {}, {}, t1_, t1_, t1_, t2_, { takes := [true, false, true] }], [], [t1_, t1_, { mode := 3 }, t1_]] }
def ann39 : FAnn := { ops := [[], [{}, t1_, {}, t1_, t2_], [], [], [{}, {}, t1_, t2_], [t1_, t1_, t1_], [{}, {}, t2_, t1_, t1_, {}, {}, t2_, t1_, t1_, t2_], [], [], [{}, {}, {}, t2_, t1_, t1_, t2_], [t1_, t1_, t1_], [{}, {}, t2_, t1_, {}, t2_, t1_, {}, {}, t2_, t1_, {}, t2_, t1_, t2_], [], []], keepL := [(0, [i_,i_,o_,o_,o_,i_,o_,o_,o_,o_,o_,o_,o_,o_,o_,o_,o_,o_,o_,o_,o_,o_,o_,o_,o_,o_,o_,o_,o_,o_,o_,o_,o_,o_,o_,o_,o_,o_,o_,o_,o_,o_,o_,o_,o_,o_,o_,o_,o_,o_,o_,o_,o_]), (2, [i_,i_,o_,o_,o_,i_,i_,o_,o_,o_,o_,o_,o_,o_,o_,o_,o_,o_,o_,o_,o_,o_,o_,o_,o_,o_,o_,o_,o_,o_,o_,o_,o_,o_,o_,o_,o_,o_,o_,o_,o_,o_,o_,o_,o_,o_,o_,o_,o_,o_,o_,o_,o_])] }
def ann40 : FAnn := { ops := [[t1_], [t1_, {}, t1_, { mode := 3 }, t1_, {}, t1_, t1_, t1_], [{}, t1_], [t1_, {}, t1_], [t1_, t1_, { mode := 3 }, t1_], [{}, t1_, { takes := [false, true] }, t1_], [{}, t1_, t2_], [t1_, t1_]] }
def ann41 : FAnn := { ops := [[t1_], [{}, {}, { mode := 3 }, t1_], [t1_, t1_, { mode := 3 }, {}, t1_], [t1_, t1_, t1_, t2_, t1_, { mode := 3 }, t1_]] }
def ann42 : FAnn := { ops := [[t1_, t1_], [t1_, {}, t1_, { mode := 3 }, t1_, {}, t1_, {}, { takes := [false, true] }, t1_], [{}, t1_], [t1_, {}, t1_], [{}, {}, { mode := 2 }, {}, { takes := [false, true] }], [{}, {}, { mode := 3 }], [t1_], [t1_, t1_, t1_, { mode := 3 }, {}, { takes := [false, true] }], [{}, t1_, { takes := [false, true, true], mode := 1 }, t2_], [t1_, t1_]] }
def ann43 : FAnn := { ops := [[t1_], [{}, {}, { mode := 3 }, t1_], [t1_, t1_, { mode := 3 }, {}, t1_], [t1_, t1_, t1_, t2_, t1_, { mode := 3 }, t1_]] }
def ann44 : FAnn := { ops := [[t1_], [t1_, { mode := 3 }, t1_, {}, t1_, t1_, t1_], [{}, t1_], [t1_, {}, t1_], [t1_, { mode := 3 }, t1_, t1_]] }
def ann45 : FAnn := { ops := [[t1_], [{}, { mode := 3 }, t1_], [t1_, { mode := 3 }, {}, t1_], [t1_, { mode := 3 }, t1_]] }
def ann46 : FAnn := { ops := [[t1_], [t1_, { mode := 3 }, t1_, {}, t1_, t1_, t1_], [{}, t1_, t1_], [t1_, {}, t1_], [{}, t1_, t1_], [], [t1_, { mode := 3 }, {}, { takes := [false, true] }], [t1_, {}, t1_, t2_], [], [t1_, t1_, t1_]] }
def ann47 : FAnn := { ops := [[t1_], [{}, { mode := 3 }, t1_], [t1_, { mode := 3 }, t1_], [{}, t1_], [], [t1_, t1_, { mode := 3 }, t2_], [], []] }
def ann48 : FAnn := { ops := [[t1_], [{}, { mode := 3 }, t1_, t1_, t1_, { mode := 3 }, t1_, t2_, t1_]] }
def ann49 : FAnn := { ops := [[t1_], [{}, { mode := 3 }, t1_, {}, t1_, t1_, t1_], [{}, { mode := 3 }, t1_, {}, t1_, t1_, t1_], [t1_, t1_, t1_, t1_, t1_, { takes := [true, false, true] }, t1_, {}, { mode := 3 }, { takes := [true, false, true] }], [t1_, t1_], [{}, {}, { mode := 3 }, t1_, {}, t1_, t1_, t1_], [t1_, t1_, { mode := 3 }, t1_, {}, t1_, t1_, t1_], [{}, t1_, t1_, t1_, t1_, t1_, t2_, t1_, t1_, {}, t2_, t2_, t1_, t1_, t1_, t2_, t2_, t1_, t1_]] }
def ann50 : FAnn := { ops := [[t1_], [], [], [], [{}, {}, t1_, t1_, t2_], [t1_, t1_, t1_], [], [], [{}, {}, t1_, {}, t2_, t1_, t1_, t2_], [t1_, t1_, t1_], [t1_, {}, t1_, t2_, t1_], [{}, t1_, t1_], [], [{}, t1_, t1_], [{}, {}, {}, t1_, t2_, t2_, t1_, t1_, {}, t1_, t2_, t1_], [t1_, t1_, t1_], [t1_, {}, {}, t2_, t1_, t1_, t2_, t1_], [{}, {}, {}, t2_, t2_, {}, {}, t1_, t2_, t2_, t1_], [t1_, t1_, t1_, t2_, t1_], [t1_, t1_]], keepL := [(0, [o_,i_,i_,o_,o_,i_,i_,i_,o_,o_,o_,o_,o_,o_,o_,o_,o_,o_,o_,o_,o_,o_,o_,o_,o_,o_,o_,o_,o_,o_,o_,o_,o_,o_,o_,o_,o_,o_,o_,o_,o_,o_,o_,o_,o_,o_,o_,o_,o_,o_,o_,o_,o_,o_,o_,o_,o_,o_,o_,o_,o_,o_,o_,o_,o_,o_,o_,o_,o_,o_,o_,o_,o_,o_]), (2, [o_,i_,i_,o_,o_,i_,i_,i_,i_,i_,i_,o_,o_,o_,o_,o_,o_,o_,o_,o_,o_,o_,o_,o_,o_,o_,o_,o_,o_,o_,o_,o_,o_,o_,o_,o_,o_,o_,o_,o_,o_,o_,o_,o_,o_,o_,o_,o_,o_,o_,o_,o_,o_,o_,o_,o_,o_,o_,o_,o_,o_,o_,o_,o_,o_,o_,o_,o_,o_,o_,o_,o_,o_,o_]), (4, [o_,i_,i_,o_,o_,i_,i_,i_,i_,i_,o_,o_,o_,o_,o_,o_,o_,o_,o_,o_,o_,o_,o_,o_,o_,o_,o_,o_,o_,o_,o_,o_,o_,o_,o_,o_,o_,o_,o_,o_,o_,o_,o_,o_,o_,o_,o_,o_,o_,o_,o_,o_,o_,o_,o_,o_,o_,o_,o_,o_,o_,o_,o_,o_,o_,o_,o_,o_,o_,o_,o_,o_,o_,o_])] }
def ann51 : FAnn := { ops := [[], [], [], [{}, {}, t1_, t2_], [t1_, t1_, t1_], [{}, {}, {}, t2_, t1_, { mode := 3 }], [t1_, t1_, t1_], [t1_, t1_]], keepL := [(0, [i_,i_,o_,o_,o_,i_,i_,o_,o_,o_,o_,o_,o_,o_,o_,o_,o_,o_,o_,o_,o_,o_])] }
def ann52 : FAnn := { ops := [[], [], [{}, {}, t1_, t2_], [t1_, t1_, t1_], [{}, {}, t2_, t1_, {}, t2_], [], []], keepL := [(0, [i_,i_,o_,o_,o_,i_,o_,o_,o_,o_,o_,o_,o_,o_,o_,o_,o_,o_])] }
def ann53 : FAnn := { ops := [[], [], [], [{}, {}, t1_, t2_], [t1_, t1_, t1_], [t1_, {}, {}, t2_, t1_, t2_, t1_], [t1_, t1_]], keepL := [(0, [i_,o_,o_,i_,i_,o_,o_,o_,o_,o_,o_,o_,o_,o_,o_,o_,o_,o_])] }
def ann54 : FAnn := { ops := [[t1_], [{}, { mode := 3 }, t1_, {}, t1_, t1_, t1_], [t1_, t1_, t1_, {}, t1_, { takes := [true, false, true] }, t1_, {}, {}, t1_, t1_, t1_, { mode := 3 }, t2_, { takes := [true, false, true] }], [t1_, t1_], [{}, {}, { mode := 3 }, t1_, {}, t1_, t1_, t1_], [{}, {}, t1_, { mode := 3 }, t1_, {}, t1_, t1_, t1_], [t1_, t1_, t1_, t1_, t1_, { takes := [true, false, true] }, t1_, {}, { mode := 3 }, { takes := [true, false, true] }], [t1_, t1_], [{}, {}, { mode := 3 }, t1_, {}, t1_, t1_, t1_], [t1_, t1_, { mode := 3 }, t1_, {}, t1_, t1_, t1_], [{}, t1_, t1_, t1_, t1_, t1_, t2_, t1_, t1_, {}, t2_, t2_, t1_, t1_, t1_, t2_, t2_, t1_, t1_]] }
def ann55 : FAnn := { ops := [[], [], [{}, t1_, t1_, t1_], [{}, t1_], [t1_, t1_, t1_], [t1_, {}, {}, t2_, t1_, t1_, t2_, t1_], [t1_, t1_]], keepL := [(0, [i_,o_,o_,i_,i_,o_,o_,o_,o_,o_,o_,o_,o_,o_,o_,o_,o_,o_,o_,o_])] }
def ann56 : FAnn := { ops := [[], [t1_, t1_, { takes := [false, true] }]] }
def ann57 : FAnn := { ops := [[], [{}, { mode := 3 }, {}, { mode := 3 }, t2_, { mode := 3 }, { takes := [false, true] }]] }
def ann58 : FAnn := { ops := [[], [{}, { mode := 3 }, {}, { mode := 3 }, {}, { mode := 3 }, { takes := [true, true, true] }, { mode := 3 }, { takes := [false, true] }]] }
def ann59 : FAnn := { ops := [[], [t1_, t1_]] }
def ann60 : FAnn := { ops := [[], [t1_, t1_]] }
def ann61 : FAnn := { ops := [[], [t1_, t1_]] }
def ann62 : FAnn := { ops := [[t1_], [{}, { mode := 3 }, t1_, {}, t1_, t1_, t1_], [{}, t1_, t1_], [t1_, {}, t1_], [{}, t1_, t1_, t1_, t1_, t2_, t1_], [], [{}, t1_, t1_], [], [t1_], [], [{}, {}, t1_, t1_, t1_], [{}, {}, {}, { mode := 3 }, t1_], [], [t1_, {}, t1_, t1_, { mode := 3 }, t1_, t2_, t1_], [t1_, t1_], [t1_, t1_]], keepL := [(1, [o_,o_,o_,o_,o_,o_,i_,o_,i_,i_,o_,o_,o_,o_,o_,o_,o_,o_,o_,o_,o_,o_,o_,o_,o_,o_,o_,o_,o_,o_,i_,i_,i_,o_,o_,o_,o_,o_,o_,o_,o_,o_,o_,o_,o_,o_,o_,o_,o_,o_,o_])] }
def ann63 : FAnn := { ops := [[], [{}, t1_], [], [], [{}, {}, t1_, t1_, t1_], [t1_], [], [{}, t1_, t1_], [{}, {}, t1_, t2_, t2_], [t1_, t1_], [t1_, t1_], [{}, t1_], [{}, t1_], [{}, t1_, {}, { takes := [false, true] }], [{}, t1_, t1_, {}, t1_, t2_, t1_, {}, {}, t1_, t1_, t2_, t1_, {}, t1_, { mode := 3 }, t1_, { takes := [false, false, true] }], [{}, t1_, t2_], [t1_, t1_]], keepL := [(0, [i_,o_,o_,i_,o_,o_,o_,o_,o_,o_,i_,i_,i_,o_,o_,o_,o_,o_,o_,o_,o_,o_,o_,o_,o_,o_,o_,o_,o_,o_,o_,o_,o_,o_,o_,o_,o_,o_,o_,o_,o_,o_,o_,o_,o_,o_,o_,o_,o_,o_,o_,o_,o_,o_,o_,o_]), (2, [i_,o_,o_,i_,i_,o_,o_,o_,o_,o_,i_,i_,i_,o_,o_,o_,o_,i_,i_,i_,o_,o_,o_,o_,o_,o_,o_,o_,o_,o_,o_,o_,o_,o_,o_,o_,o_,o_,o_,o_,o_,o_,o_,o_,o_,o_,o_,o_,o_,o_,o_,o_,o_,o_,o_,o_]), (4, [i_,o_,o_,i_,o_,o_,o_,o_,o_,o_,o_,o_,o_,o_,o_,o_,o_,o_,o_,o_,o_,o_,o_,o_,o_,o_,o_,o_,o_,o_,i_,o_,o_,o_,o_,o_,o_,o_,o_,o_,o_,o_,o_,o_,o_,o_,o_,o_,o_,o_,o_,o_,o_,o_,o_,o_])] }
def ann64 : FAnn := { ops := [[t1_], [{}, { mode := 3 }, t1_], [t1_, { mode := 3 }, t1_], [{}, t1_, {}, t1_, t1_, t2_], [], [], [{}, {}, t1_, t2_], [t1_, t1_, t1_], [{}, {}, t2_, t1_, {}, t1_, {}, t2_, t1_, t1_, { mode := 3 }, t1_], [], []], keepL := [(0, [o_,i_,i_,o_,o_,i_,o_,o_,o_,o_,o_,o_,o_,o_,o_,o_,o_,o_,o_,o_,o_,o_,o_,o_,o_,o_,o_,o_,o_,o_,o_,o_,o_,o_,o_])] }
def ann65 : FAnn := { ops := [[t1_], [], [], [{}, {}, t1_, t2_], [t1_, t1_, t1_], [t1_, {}, t1_, {}, t2_, t1_, {}, {}, t2_, t1_, { mode := 3 }, t1_, t2_, t1_], [t1_, t1_]], keepL := [(0, [o_,i_,i_,o_,o_,i_,i_,o_,o_,o_,o_,o_,o_,o_,o_,o_,o_,o_,o_,o_,o_,o_,o_,o_,o_,o_,o_])] }
def ann66 : FAnn := { ops := [[], [t1_, t1_, t1_, { mode := 3 }, t1_, t1_]] }
def ann67 : FAnn := { ops := [[t1_, t1_], [t1_, t2_, { mode := 6 }, t1_, t1_]] }
def ann68 : FAnn := { ops := [[], [t1_, { mode := 3 }, t1_, t1_]] }
def ann69 : FAnn := { ops := [[], [t1_, t1_, { mode := 6 }, t1_, t1_]] }
def ann70 : FAnn := { ops := [[], [t1_, { mode := 3 }, t1_, t1_, t1_, t1_, { mode := 3 }, t2_, t1_]] }
def ann71 : FAnn := { ops := [[], [], [t1_], [], [{}, t1_, t1_], [t1_, t1_, t2_, t1_], [t1_, t1_], [t1_, t1_]], keepL := [(0, [o_,o_,o_,i_,o_,o_,i_,i_,i_,o_,o_,o_,o_,o_,o_,o_,o_])] }
def ann72 : FAnn := { ops := [[], [t1_, t1_, { mode := 3 }, t1_, t1_]] }
def ann73 : FAnn := { ops := [[], [t1_, t1_], [t1_], [], [{}, t1_, t1_], [], [], [{}, t1_, t1_], [t1_, {}, {}, t2_, t1_, {}, t2_, t2_, t2_, t1_], [t1_, t1_], [t1_, t1_], [t1_, t1_]], keepL := [(0, [o_,i_,o_,o_,o_,o_,o_,i_,o_,o_,o_,o_,o_,i_,i_,i_,o_,o_,o_,o_,o_,o_,o_,o_,o_,o_,o_,o_,o_,o_,o_,o_,o_,o_,o_,o_,o_]), (2, [o_,i_,o_,o_,o_,o_,o_,i_,o_,i_,o_,o_,o_,i_,i_,i_,o_,o_,o_,i_,i_,i_,o_,o_,o_,o_,o_,o_,o_,o_,o_,o_,o_,o_,o_,o_,o_])] }
def ann74 : FAnn := { ops := [[], [], [{}, {}, t1_, t2_], [t1_, t1_, t1_], [], [{}, {}, t1_, t2_], [t1_, t1_, t1_], [t1_, {}, {}, t2_, t1_, {}, {}, t2_, t1_, t2_, {}, {}, t2_, t1_, {}, {}, t2_, t1_, t2_, t2_, t2_, t1_], [t1_, t1_]], keepL := [(0, [i_,i_,i_,o_,o_,o_,o_,i_,o_,o_,o_,o_,o_,o_,o_,o_,o_,o_,o_,o_,o_,o_,o_,o_,o_,o_,o_,o_,o_,o_,o_,o_,o_,o_,o_,o_,o_,o_,o_,o_,o_,o_,o_]), (2, [i_,i_,i_,o_,o_,o_,o_,i_,i_,o_,o_,o_,o_,o_,o_,o_,o_,o_,o_,o_,o_,o_,o_,o_,o_,o_,o_,o_,o_,o_,o_,o_,o_,o_,o_,o_,o_,o_,o_,o_,o_,o_,o_])] }
def ann75 : FAnn := { ops := [[t1_], [{}, { mode := 3 }, t1_], [{}, t1_], [t1_, {}, t1_], [t1_], [], [{}, t1_, t1_], [{}, t1_, t1_, t1_, t1_, t1_, { mode := 3 }, t1_], [], [t1_, t1_], [t1_, t1_, t1_, t1_]], keepL := [(0, [o_,o_,i_,o_,o_,o_,o_,o_,o_,o_,o_,o_,o_,o_,i_,i_,i_,o_,o_,o_,o_,o_,o_,o_,o_,o_,o_,o_,o_,o_,o_,o_])] }
def ann76 : FAnn := { ops := [[], [], [t1_], [], [{}, {}, t1_, t1_, t1_], [t1_, {}, t1_, t1_, { mode := 3 }, t1_, t2_, t1_], [t1_, t1_], [t1_, t1_]], keepL := [(0, [i_,o_,o_,o_,o_,i_,o_,o_,i_,i_,i_,o_,o_,o_,o_,o_,o_,o_,o_,o_,o_,o_,o_,o_])] }
def ann77 : FAnn := { ops := [[t1_], [{}, t1_, {}, { takes := [false, true] }], [], [{}, t1_, t1_, t1_, t1_, t1_, t1_, {}, { takes := [false, true] }], [{}, t1_], [{}, t1_, { takes := [false, true] }], [], [{}, {}, { mode := 3 }], [t1_], [t1_, t1_, {}, { mode := 3 }, t1_], [], [t1_], [], [{}, t1_, {}, { takes := [false, true] }], [{}, t1_, t1_], [], [], [{}, t1_, t1_], [{}, t1_, t1_, { mode := 3 }], [t1_, t1_, t1_], [t1_, t1_], [t1_, t1_, t1_, t1_, t2_, t1_, t2_, t1_], [t1_, t1_], [t1_, t1_, { mode := 3 }, {}, { takes := [false, true] }], [{ mode := 1 }, t1_, t1_, {}, t1_, t2_, { mode := 3 }, t1_, {}, t1_, { takes := [true, true, true] }, t1_, t2_, { takes := [false, true] }], [t1_, { takes := [false, true] }], [t1_], [{}, { takes := [false, true] }], [t1_, t1_, { mode := 3 }, t1_, t1_]], keepL := [(0, [o_,i_,o_,i_,i_,i_,o_,o_,o_,o_,o_,o_,o_,o_,o_,o_,o_,o_,o_,o_,o_,o_,o_,o_,o_,o_,o_,o_,o_,o_,o_,o_,o_,o_,o_,o_,o_,o_,o_,o_,o_,o_,o_,o_,o_,o_,o_,o_,o_,o_,o_,o_,o_,o_,o_,o_,o_,o_,o_,o_,o_,o_,o_,o_,o_,o_,o_,o_,o_,o_,o_,o_,o_,o_,o_,o_,o_,o_,o_,o_,o_,o_,o_,o_,o_,o_,o_,o_]), (4, [o_,o_,o_,o_,i_,o_,i_,i_,i_,i_,o_,o_,o_,o_,o_,o_,o_,o_,o_,o_,o_,o_,o_,o_,o_,o_,o_,o_,o_,o_,o_,o_,o_,o_,o_,o_,o_,i_,i_,i_,o_,o_,o_,o_,o_,o_,o_,o_,o_,o_,o_,o_,o_,o_,o_,o_,o_,o_,o_,o_,o_,o_,o_,o_,o_,o_,o_,o_,o_,o_,o_,o_,o_,o_,o_,o_,o_,o_,o_,o_,o_,o_,o_,o_,o_,o_,o_,o_]), (6, [o_,o_,o_,o_,i_,o_,i_,i_,i_,i_,o_,i_,i_,o_,o_,o_,o_,o_,o_,o_,o_,o_,o_,o_,o_,o_,o_,o_,o_,o_,o_,o_,o_,o_,o_,o_,o_,i_,i_,i_,o_,o_,o_,o_,o_,i_,i_,i_,o_,o_,o_,o_,o_,o_,o_,o_,o_,o_,o_,o_,o_,o_,o_,o_,o_,o_,o_,o_,o_,o_,o_,o_,o_,o_,o_,o_,o_,o_,o_,o_,o_,o_,o_,o_,o_,o_,o_,o_])] }
def ann78 : FAnn := { ops := [[t1_], [t1_, { mode := 3 }, t1_, t1_, t1_], [{}, t1_, t1_, t1_], [], [{}, {}, t1_, t2_], [t1_, t1_, t1_], [t1_, {}, {}, t2_, t1_, t2_, t1_], [t1_, t1_]], keepL := [(0, [o_,o_,o_,i_,i_,i_,o_,o_,o_,o_,o_,o_,o_,o_,o_,o_,o_,o_,o_,o_,o_,o_,o_,o_,o_,o_])] }
def ann79 : FAnn := { ops := [[t1_], [{}, t1_, t1_, t1_], [{}, { takes := [false, true] }, t1_], [{}, {}, t1_, {}, t1_, {}, t1_, t2_, t1_, t1_, { mode := 3 }, t1_, { takes := [false, true], mode := 1 }, t2_, t2_], [t1_, t1_, t1_], [{}, t1_], [t1_, t1_, t1_], [{}, t1_, {}, t2_, t1_, { mode := 3 }, {}, t1_, {}, t1_, t2_, t1_, { mode := 3 }, t1_, t1_], [], [{}, {}, t1_, t2_], [t1_, t1_, t1_], [], [], [{}, {}, t1_, t2_], [t1_, t1_, t1_], [t1_, {}, {}, t2_, t1_, {}, {}, t2_, t1_, { mode := 3 }, {}, {}, t1_, t2_, t1_, {}, t2_, t1_, t2_, t2_, t1_], [{}, {}, {}, {}, t2_, { takes := [true], mode := 1 }, t1_, t1_, t2_, t2_, t2_], [t1_, t1_]], keepL := [(0, [o_,i_,o_,o_,i_,i_,o_,o_,o_,o_,o_,o_,o_,o_,o_,o_,o_,o_,o_,o_,o_,o_,o_,o_,o_,o_,o_,o_,o_,o_,o_,o_,o_,o_,o_,o_,o_,o_,o_,o_,o_,o_,o_,o_,o_,o_,o_,o_,o_,o_,o_,o_,o_,o_,o_,o_,o_,o_,o_,o_,o_,o_,o_,o_,o_,o_,o_,o_,o_,o_,o_,o_,o_,o_,o_,o_,o_,o_,o_,o_,o_,o_,o_,o_,o_,o_,o_,o_,o_,o_,o_,o_]), (2, [o_,i_,o_,o_,i_,i_,i_,i_,i_,o_,o_,o_,o_,o_,o_,o_,o_,o_,o_,o_,o_,o_,o_,o_,o_,o_,o_,o_,o_,o_,o_,o_,o_,o_,o_,o_,o_,o_,o_,o_,o_,o_,o_,o_,o_,o_,o_,o_,o_,o_,o_,o_,o_,o_,o_,o_,o_,o_,o_,o_,o_,o_,o_,o_,o_,o_,o_,o_,o_,o_,o_,o_,o_,o_,o_,o_,o_,o_,o_,o_,o_,o_,o_,o_,o_,o_,o_,o_,o_,o_,o_,o_]), (4, [o_,i_,o_,o_,i_,i_,i_,i_,i_,i_,i_,o_,o_,o_,o_,o_,o_,o_,o_,o_,o_,o_,o_,o_,o_,o_,o_,o_,o_,o_,o_,o_,o_,o_,o_,o_,o_,o_,o_,o_,o_,o_,o_,o_,o_,o_,o_,o_,o_,o_,o_,o_,o_,o_,o_,o_,o_,o_,o_,o_,o_,o_,o_,o_,o_,o_,o_,o_,o_,o_,o_,o_,o_,o_,o_,o_,o_,o_,o_,o_,o_,o_,o_,o_,o_,o_,o_,o_,o_,o_,o_,o_])] }
def ann80 : FAnn := { ops := [[], [t1_, { mode := 3 }, t1_]] }
def ann81 : FAnn := { ops := [[], [{}, t1_, { mode := 3 }, t1_], [], [], [{}, {}, t1_, t2_], [t1_, t1_, t1_], [t1_, {}, {}, {}, t2_, t1_, { mode := 3 }, t1_, t2_, t1_], [t1_, t1_]], keepL := [(0, [i_,o_,o_,i_,i_,i_,o_,o_,o_,o_,o_,o_,o_,o_,o_,o_,o_,o_,o_,o_,o_,o_,o_,o_,o_])] }
def ann82 : FAnn := { ops := [[t1_], [t1_, t1_, {}, t1_, t1_, { takes := [true, true, true] }, t1_, { mode := 3 }, t1_]] }
def ann83 : FAnn := { ops := [[], [], [t1_, t1_, t1_, t1_, t1_, t1_, t2_, t1_, t1_], [], [{}, {}, t1_, { takes := [false, true] }, t1_, t2_], [t1_, t1_, t1_], [], [], [], [{}, {}, t1_, t1_, t1_], [t1_, t1_, {}, t1_, t2_, t1_, t2_, t2_, t1_], [t1_, t1_], [t1_, t1_, t1_, t2_, t1_], [{ takes := [true], mode := 1 }, { takes := [false, true], mode := 1 }], [t1_, { takes := [false, true], mode := 1 }, t1_]], keepL := [(0, [o_,o_,o_,o_,o_,i_,i_,i_,o_,o_,o_,o_,o_,o_,o_,o_,o_,o_,o_,o_,o_,o_,o_,o_,o_,o_,o_,o_,o_,o_,o_,o_,o_,o_,o_,o_,o_,o_,o_,o_,o_,o_,o_,o_,o_,o_,o_,o_,o_,o_,o_]), (2, [o_,o_,o_,o_,o_,i_,i_,i_,i_,o_,o_,o_,o_,o_,o_,o_,o_,o_,o_,o_,o_,o_,o_,o_,o_,o_,o_,i_,i_,i_,o_,o_,o_,o_,o_,o_,o_,o_,o_,o_,o_,o_,o_,o_,o_,o_,o_,o_,o_,o_,o_])] }
def ann84 : FAnn := { ops := [[t1_], [{}, { mode := 3 }, t1_], [t1_, { mode := 3 }, t1_], [{}, t1_, t1_, t1_, t1_, t1_, t1_, t2_, { takes := [true, false, true] }], [], []] }
def ann85 : FAnn := { ops := [[], [t1_, { mode := 3 }, t1_]] }
def ann86 : FAnn := { ops := [[t1_, t1_], [t2_, t1_]] }
def ann87 : FAnn := { ops := [[], [], [], [{}, t1_, t1_, t1_, t2_], [], [{}, t1_, t1_], [t1_, {}, t1_, t1_, t1_, t1_, {}, t2_, t1_, t1_, t2_, t1_, t2_, t1_], [t1_, {}, t1_, t2_, t1_], [t1_, t1_], [t1_, t1_]], keepL := [(0, [i_,i_,o_,o_,o_,o_,o_,i_,i_,o_,o_,o_,o_,o_,o_,i_,i_,i_,o_,o_,o_,o_,o_,o_,o_,o_,o_,o_,o_,o_,o_,o_,o_,o_,o_,o_,o_,o_,o_,o_])] }
def ann88 : FAnn := { ops := [[], [{}, {}, { mode := 6 }, t1_], [{}, t1_], [t1_, t1_], [{}, t1_, t1_], [{}, {}, t1_, t2_], [t1_, t1_, t1_], [{}, {}, t2_, t1_, t1_], [{}, {}, { mode := 6 }, t1_], [{}, {}, t1_, t2_, t2_], [t1_, t1_, t1_], [{}, {}, t2_, t1_], [t1_, t1_, t2_, t1_]], keepL := [(0, [i_,i_,o_,o_,o_,i_,i_,o_,o_,o_,o_,o_,o_,o_,o_,o_,o_,o_,o_,o_,o_,o_,o_,o_,o_,o_,o_,o_,o_,o_,o_,o_,o_,o_,o_,o_,o_,o_,o_,o_,o_,o_])] }
def ann89 : FAnn := { ops := [[], [t1_, t1_, { mode := 3 }, t1_, t1_]] }
def ann90 : FAnn := { ops := [[], [{}, t1_, t1_, { mode := 3 }, t1_, { mode := 3 }, t1_]] }
def ann91 : FAnn := { ops := [[t1_], [{}, t1_, t1_, t1_, t1_, t1_, t1_, { mode := 3 }, {}, { takes := [false, true] }], [{}, t1_, t1_, {}, { takes := [false, true] }], [], [{}, t1_, t1_, t1_, t1_, t1_], [], [{}, {}, { takes := [false, true] }], [], [{}, {}, { mode := 3 }], [t1_], [t1_, t1_, {}, { mode := 3 }, t1_], [], [t1_], [], [{}, t1_, {}, { takes := [false, true] }], [t1_, {}, t1_, {}, t1_, {}, t1_, {}, {}, { mode := 3 }, t2_, t2_, t1_, t2_, t1_], [t1_, t1_], [t1_, t1_, { mode := 3 }, {}, { takes := [false, true] }], [{ mode := 1 }, {}, t1_, {}, t1_, t1_, {}, t1_, t1_, { takes := [true, true, true] }, t1_, t1_, t2_, t1_, {}, t1_, { takes := [true, true, true] }, t1_, t2_, { takes := [false, true] }], [t1_, { takes := [false, true] }], [t1_, t1_], [t1_, t1_, { mode := 3 }, { takes := [false, true] }]], keepL := [(0, [o_,i_,i_,i_,i_,i_,o_,o_,o_,o_,o_,o_,o_,o_,o_,o_,o_,o_,o_,o_,o_,o_,o_,o_,o_,o_,o_,o_,o_,o_,i_,i_,o_,o_,o_,o_,o_,o_,o_,o_,o_,o_,o_,o_,o_,o_,o_,o_,o_,o_,o_,o_,o_,o_,o_,o_,o_,o_,o_,o_,o_,o_,o_,o_,o_,o_,o_,o_,o_,o_,o_,o_,o_,o_,o_,o_,o_,o_,o_,o_,o_,o_,o_,o_,o_,o_,o_,o_,o_,o_]), (4, [o_,o_,o_,i_,o_,i_,o_,i_,i_,i_,i_,o_,o_,o_,o_,o_,o_,o_,o_,o_,o_,o_,o_,o_,o_,o_,o_,o_,o_,o_,o_,o_,o_,o_,o_,o_,o_,o_,o_,o_,o_,o_,i_,i_,i_,o_,o_,o_,o_,o_,o_,o_,o_,o_,o_,o_,o_,o_,o_,o_,o_,o_,o_,o_,o_,o_,o_,o_,o_,o_,o_,o_,o_,o_,o_,o_,o_,o_,o_,o_,o_,o_,o_,o_,o_,o_,o_,o_,o_,o_])] }
def ann92 : FAnn := { ops := [[t1_], [{}, t1_, t1_, t1_, { mode := 3 }, t1_], [], [], [{}, {}, t1_, t2_], [t1_, t1_, t1_], [t1_, {}, t1_, t1_, t1_, { mode := 3 }, t1_, t2_, t1_], [], [{}, {}, t1_, t1_, t2_], [t1_, t1_, t1_], [{}, t1_, {}, t2_, t1_, { mode := 3 }, t1_], [], [], [{}, {}, t1_, t2_], [t1_, t1_, t1_], [], [], [{}, {}, t1_, t2_], [t1_, t1_, t1_], [{}, {}, t2_, t1_, {}, t2_], [t1_, {}, {}, t2_, t1_, {}, {}, t2_, t1_, {}, {}, t2_, t1_, { mode := 3 }, t2_, t1_], [t1_, t1_, t1_, t2_, t1_], [t1_, t1_, t1_, t1_], [], [], [{}, {}, t1_, t2_], [t1_, t1_, t1_], [t1_, {}, {}, t2_, t1_, t2_, t1_], [t1_, t1_]], keepL := [(0, [o_,i_,o_,i_,i_,i_,o_,o_,o_,o_,o_,o_,o_,o_,o_,o_,o_,o_,o_,o_,o_,o_,o_,o_,o_,o_,o_,o_,o_,o_,o_,o_,o_,o_,o_,o_,o_,o_,o_,o_,o_,o_,o_,o_,o_,o_,o_,o_,o_,o_,o_,o_,o_,o_,o_,o_,o_,o_,o_,o_,o_,o_,o_,o_,o_,o_,o_,o_,o_,o_,o_,o_,o_,o_,o_,o_,o_,o_,o_,o_,o_,o_,o_,o_,o_,o_,o_,o_,o_,o_,o_,o_,o_,o_,o_,o_,o_,o_]), (2, [o_,i_,o_,i_,i_,o_,i_,o_,o_,o_,o_,o_,o_,o_,o_,o_,o_,o_,o_,o_,o_,o_,o_,o_,o_,o_,o_,o_,o_,o_,o_,o_,o_,o_,o_,o_,o_,o_,o_,o_,o_,o_,o_,o_,o_,o_,o_,o_,o_,o_,o_,o_,o_,o_,o_,o_,o_,o_,o_,o_,o_,o_,o_,o_,o_,o_,o_,o_,o_,o_,o_,o_,o_,o_,o_,o_,o_,o_,o_,o_,o_,o_,o_,o_,o_,o_,o_,o_,o_,o_,o_,o_,o_,o_,o_,o_,o_,o_]), (4, [o_,i_,o_,i_,i_,o_,i_,i_,i_,i_,o_,o_,o_,o_,o_,o_,o_,o_,o_,o_,o_,o_,o_,o_,o_,o_,o_,o_,o_,o_,o_,o_,o_,o_,o_,o_,o_,o_,o_,o_,o_,o_,o_,o_,o_,o_,o_,o_,o_,o_,o_,o_,o_,o_,o_,o_,o_,o_,o_,o_,o_,o_,o_,o_,o_,o_,o_,o_,o_,o_,o_,o_,o_,o_,o_,o_,o_,o_,o_,o_,o_,o_,o_,o_,o_,o_,o_,o_,o_,o_,o_,o_,o_,o_,o_,o_,o_,o_]), (6, [o_,i_,o_,i_,i_,o_,i_,i_,i_,i_,i_,i_,o_,o_,o_,o_,o_,o_,o_,o_,o_,o_,o_,o_,o_,o_,o_,o_,o_,o_,o_,o_,o_,o_,o_,o_,o_,o_,o_,o_,o_,o_,o_,o_,o_,o_,o_,o_,o_,o_,o_,o_,o_,o_,o_,o_,o_,o_,o_,o_,o_,o_,o_,o_,o_,o_,o_,o_,o_,o_,o_,o_,o_,o_,o_,o_,o_,o_,o_,o_,o_,o_,o_,o_,o_,o_,o_,o_,o_,o_,o_,o_,o_,o_,o_,o_,o_,o_]), (8, [o_,o_,o_,o_,i_,o_,o_,o_,o_,o_,o_,o_,i_,i_,o_,o_,o_,o_,o_,o_,o_,o_,o_,o_,o_,o_,o_,o_,o_,o_,o_,o_,o_,o_,o_,o_,o_,o_,o_,o_,o_,o_,o_,o_,o_,o_,o_,o_,o_,o_,o_,o_,o_,o_,o_,o_,o_,o_,o_,o_,o_,o_,o_,o_,o_,o_,o_,o_,o_,o_,o_,o_,o_,o_,o_,o_,o_,o_,o_,o_,o_,o_,o_,o_,o_,o_,o_,o_,o_,o_,o_,o_,o_,o_,o_,o_,o_,o_])] }
def ann93 : FAnn := { ops := [[], [], [{}, t1_], [], [], [{}, t1_, t1_], [{}, t1_, t1_, t1_, t1_, {}, t2_, t1_, t1_, t1_, {}, t1_, { mode := 3 }, t1_, t1_, {}, { takes := [false, true] }, t1_, t1_, { takes := [true, false, true] }], [], [t1_, { takes := [false, true] }, t1_], [t1_, t1_], [t1_, {}, t2_, t1_, t1_, t1_, t1_, t1_, t1_, t1_, t1_, t1_, t2_, t1_, t1_, t2_, t2_, t1_]], keepL := [(0, [i_,i_,i_,o_,o_,o_,o_,i_,o_,o_,o_,i_,i_,i_,o_,o_,o_,o_,o_,o_,o_,o_,o_,o_,o_,o_,o_,o_,o_,o_,o_,o_,o_,o_,o_,o_,o_,o_,o_,o_,o_,o_,o_,o_,o_,o_,o_,o_,o_,o_,o_,o_,o_,o_,o_,o_,o_])] }
def ann94 : FAnn := { ops := [[], [{}, t1_, {}, t2_], [], [], [{}, {}, t2_], [t1_, t1_, t1_], [{}, {}, t2_, t1_, t1_, t1_, {}, {}, t2_, t1_, {}, t2_, { takes := [false, false, true] }, t1_, {}, {}, t2_, {}, {}, t2_, t1_, { mode := 3 }, { takes := [false, false, true] }], [], []], keepL := [(0, [i_,i_,o_,o_,o_,i_,o_,o_,o_,o_,o_,o_,o_,o_,o_,o_,o_,o_,o_,o_,o_,o_,o_,o_,o_,o_,o_,o_,o_,o_,o_,o_,o_,o_,o_,o_,o_,o_])] }
def ann95 : FAnn := { ops := [[], [], [], [], [{}, t1_, {}, t1_, t2_], [t1_, t1_, t1_], [t1_, {}, {}, {}, t2_, t1_, t2_, t1_, t2_, t1_], [t1_, {}, t1_, t2_, t1_], [t1_, t1_]], keepL := [(0, [i_,i_,o_,o_,o_,i_,i_,i_,o_,o_,o_,o_,o_,o_,o_,o_,o_,o_,o_,o_,o_,o_,o_,o_,o_,o_,o_,o_,o_])] }
def ann96 : FAnn := { ops := [[], [t1_, t1_, { mode := 6 }, t1_, t1_]] }
def ann97 : FAnn := { ops := [[], [{}, t1_, t2_, t1_, t1_, t1_, t2_, { takes := [true, false, true] }, t1_]] }
def ann98 : FAnn := { ops := [[], [{}, t1_], [], [{}, t1_], [{}, {}, {}, t2_, t1_, { mode := 6 }], [t1_, t1_], [t1_, t1_], []], keepL := [(0, [i_,i_,o_,o_,o_,o_,o_,i_,i_,o_,o_,o_,o_,o_,o_,o_,o_,o_,o_])] }
def ann99 : FAnn := { ops := [[], [{}, t1_], [], [{}, t1_], [{}, {}, {}, t2_, t1_, t2_], [t1_, t1_], [t1_, t1_], []], keepL := [(0, [i_,i_,o_,o_,o_,o_,o_,i_,i_,o_,o_,o_,o_,o_,o_,o_,o_,o_,o_])] }
def ann100 : FAnn := { ops := [[t1_, t1_], [t1_, t1_, t1_, t1_, t2_, t1_]] }
def ann101 : FAnn := { ops := [[], [{}, t1_, t1_, {}, { takes := [false, true] }], [t1_, t1_], [], [{}, t1_, {}, { takes := [false, true] }], [{}, {}, {}, { mode := 6 }], [t1_, { takes := [false, true] }], [t1_, t1_], [t1_, { takes := [false, true] }]], keepL := [(0, [o_,i_,o_,o_,i_,i_,o_,o_,o_,o_,o_,o_,i_,i_,i_,o_,o_,o_,o_,o_,o_,o_,o_,o_,o_])] }
def ann102 : FAnn := { ops := [[], [], [], [], [{}, t1_, t1_], [t1_, t1_, t1_, t2_, t1_], [{}, t1_], [{}, t1_], [t1_, t1_], [t1_, {}, t1_], [t1_], [], [{}, t1_, t1_], [t1_, t1_, t2_, t1_], [t1_, t1_], [t1_, t1_]], keepL := [(0, [i_,o_,o_,i_,o_,o_,o_,o_,o_,i_,i_,i_,o_,o_,o_,o_,o_,o_,o_,o_,o_,o_,o_,o_,o_,o_,o_,o_,o_,o_,o_,o_,o_,o_,o_,o_]), (2, [o_,o_,o_,o_,o_,o_,i_,o_,o_,o_,o_,o_,o_,o_,o_,o_,o_,o_,o_,o_,o_,o_,o_,o_,o_,i_,i_,i_,o_,o_,o_,o_,o_,o_,o_,o_])] }
def ann103 : FAnn := { ops := [[], [{}, t1_, {}, t2_], [t1_, t1_, t1_], [], [], [{}, {}, t2_], [t1_, t1_, t1_], [{}, {}, { mode := 3 }, t1_], [t1_, {}, {}, {}, t2_, {}, t1_, t2_, { mode := 3 }, t2_, t1_], [t1_, t1_]], keepL := [(0, [i_,i_,o_,o_,o_,i_,i_,o_,o_,o_,o_,o_,o_,o_,o_,o_,o_,o_,o_,o_,o_,o_,o_,o_,o_,o_,o_,o_,o_,o_,o_,o_,o_])] }
def ann104 : FAnn := { ops := [[{}, t1_, t1_], [t1_, {}, t1_, t1_, { mode := 3 }, { takes := [false, true, false, true, true], mode := 1 }]] }
def ann105 : FAnn := { ops := [[], [{}, t1_, t1_], [t1_, t1_], [], [{}, {}, t1_, t2_], [t1_, t1_, t1_], [{}, {}, t2_, t1_, {}, {}, t1_, t2_, t1_, t2_], [{}, {}, t2_, t1_], [], [{}, {}, t1_, t2_], [t1_, t1_, t1_], [{}, {}, t2_, t1_, {}, {}, t1_, t2_, t1_, t2_], [{}, {}, {}, {}, t2_, t1_, t2_, t2_], [t1_, t1_, t1_], [{}, {}, t2_, t1_], [t1_, t1_, t2_, t1_], [t1_, t1_]], keepL := [(0, [i_,o_,o_,i_,o_,o_,o_,o_,o_,o_,o_,o_,o_,o_,o_,o_,o_,o_,o_,o_,o_,o_,o_,o_,o_,o_,o_,o_,o_,o_,o_,o_,o_,o_,o_,o_,o_,o_,o_,o_,o_,o_,o_,o_,o_,o_,o_,o_,o_,o_,o_,o_,o_,o_,o_,o_,o_,o_,o_,o_,o_]), (2, [i_,o_,o_,i_,i_,i_,o_,o_,o_,o_,o_,o_,o_,o_,o_,o_,o_,o_,o_,o_,o_,o_,o_,o_,o_,o_,o_,o_,o_,o_,o_,o_,o_,o_,o_,o_,o_,o_,o_,o_,o_,o_,o_,o_,o_,o_,o_,o_,o_,o_,o_,o_,o_,o_,o_,o_,o_,o_,o_,o_,o_])] }
def ann106 : FAnn := { ops := [[], [{}, { mode := 3 }, t1_], [], [], [{}, {}, { mode := 3 }, t2_], [t1_, t1_, t1_], [], [], [{}, {}, t1_, t2_], [t1_, t1_, t1_], [{}, {}, t2_, t1_, {}, { mode := 3 }], [t1_, t1_, t1_], [t1_, {}, t2_], [t1_, {}, t1_, t2_, t1_], [t1_, t1_]], keepL := [(0, [i_,i_,o_,o_,o_,i_,i_,i_,o_,o_,o_,o_,o_,o_,o_,o_,o_,o_,o_,o_,o_,o_,o_,o_,o_,o_,o_,o_,o_,o_,o_,o_,o_,o_,o_,o_,o_,o_,o_,o_]), (2, [i_,i_,o_,o_,o_,i_,i_,i_,i_,i_,o_,o_,o_,o_,o_,o_,o_,o_,o_,o_,o_,o_,o_,o_,o_,o_,o_,o_,o_,o_,o_,o_,o_,o_,o_,o_,o_,o_,o_,o_])] }
def ann107 : FAnn := { ops := [[], [t1_, t1_, t1_, t1_, t1_, t1_, t2_, t1_, t1_], [], [{}, t1_], [{}, {}, t1_, t1_, t1_, { takes := [true, true, true] }, t1_, t1_, t2_, t1_], [t1_, t1_], [{}, { takes := [true], mode := 1 }, { mode := 6 }, { takes := [true, true], mode := 1 }, t1_], [{}, t1_, t1_, t1_], [{}, t1_, t1_, {}, {}, t2_, t1_, {}, {}, t1_, t2_, t1_, t2_, { takes := [false, true] }], [t1_, t1_, t1_], [{}, t1_], [{}, t1_, t1_, t1_], [{}, {}, t2_, t1_, {}, {}, t2_, t1_, t2_], [t1_, t1_, t1_], [{}, {}, {}, {}, {}, {}, t2_, t1_, {}, {}, t2_, t1_, t2_, t2_, t2_, t2_], [{}, t1_, t1_, t2_, { takes := [false, true], mode := 1 }]], keepL := [(0, [i_,o_,o_,o_,i_,o_,o_,o_,o_,o_,o_,o_,o_,o_,o_,o_,i_,i_,o_,o_,o_,o_,o_,o_,o_,o_,o_,o_,o_,o_,o_,o_,o_,o_,o_,o_,o_,o_,o_,o_,o_,o_,o_,o_,o_,o_,o_,o_,o_,o_,o_,o_,o_,o_,o_,o_,o_,o_,o_,o_,o_,o_,o_,o_,o_,o_,o_,o_,o_,o_,o_,o_,o_,o_,o_,o_,o_,o_,o_,o_,o_,o_,o_,o_,o_,o_,o_,o_,o_]), (2, [i_,o_,o_,o_,i_,o_,o_,o_,o_,o_,o_,o_,o_,o_,o_,o_,o_,o_,o_,o_,o_,o_,o_,o_,o_,o_,o_,o_,o_,o_,o_,o_,o_,o_,o_,o_,o_,o_,o_,o_,o_,o_,o_,o_,o_,o_,o_,o_,o_,o_,o_,o_,o_,o_,o_,o_,o_,o_,o_,o_,o_,o_,o_,o_,o_,o_,o_,o_,o_,o_,o_,o_,o_,o_,o_,o_,o_,o_,o_,o_,o_,o_,o_,o_,o_,o_,o_,o_,o_]), (4, [i_,o_,o_,o_,i_,o_,i_,o_,o_,o_,o_,o_,o_,o_,o_,o_,o_,o_,o_,o_,o_,o_,o_,o_,o_,o_,o_,o_,o_,o_,o_,o_,o_,o_,o_,o_,o_,o_,o_,o_,o_,o_,o_,o_,o_,o_,o_,o_,o_,o_,o_,o_,o_,o_,o_,o_,o_,o_,o_,o_,o_,o_,o_,o_,o_,o_,o_,o_,o_,o_,o_,o_,o_,o_,o_,o_,o_,o_,o_,o_,o_,o_,o_,o_,o_,o_,o_,o_,o_]), (6, [i_,o_,o_,o_,i_,o_,i_,i_,o_,o_,o_,o_,o_,o_,o_,o_,o_,o_,o_,o_,o_,o_,o_,o_,o_,o_,o_,o_,o_,o_,o_,o_,o_,o_,o_,o_,o_,o_,o_,o_,o_,o_,o_,o_,o_,o_,o_,o_,o_,o_,o_,o_,o_,o_,o_,o_,o_,o_,o_,o_,o_,o_,o_,o_,o_,o_,o_,o_,o_,o_,o_,o_,o_,o_,o_,o_,o_,o_,o_,o_,o_,o_,o_,o_,o_,o_,o_,o_,o_])] }
def ann108 : FAnn := { ops := [[], [{}, t1_], [], [{}, t1_, t2_, t1_]] }
def ann109 : FAnn := { ops := [[{}, t1_, t1_, {}, t1_], [{}, {}, t2_], [t1_, t1_, t1_, t1_, t1_, t1_], [{}, {}, {}, {}, {}, {}, t2_, t1_, {}, {}, t2_, t1_, t2_, t2_, t2_, t2_]], keepL := [(0, [i_,o_,i_,i_,o_,o_,o_,o_,o_,o_,o_,o_,o_,o_,o_,o_,o_,o_,o_,o_,o_,o_,o_,o_,o_,o_,o_,o_])] }
def ann110 : FAnn := { ops := [[], [{}, t1_], [], [{}, t1_], [{}, {}, {}, t2_, t1_, { mode := 6 }], [t1_, t1_], [t1_, t1_], []], keepL := [(0, [i_,i_,o_,o_,o_,o_,o_,i_,i_,o_,o_,o_,o_,o_,o_,o_,o_,o_,o_])] }
def ann111 : FAnn := { ops := [[t1_, t1_], [t1_, t1_, t1_, t1_, t2_, t1_]] }
def ann112 : FAnn := { ops := [[], [], [{}, {}, t1_, t2_], [t1_, t1_, t1_], [{}, {}, t2_, t1_, {}, t2_], [], []], keepL := [(0, [i_,i_,o_,o_,o_,i_,o_,o_,o_,o_,o_,o_,o_,o_,o_,o_,o_,o_])] }
def ann113 : FAnn := { ops := [[], [{}, t1_], [{}, t1_], [t1_, {}, t1_, {}, t1_, t2_, t2_, t1_], [{}, t1_], [{}, {}, t1_, t2_, t1_, t2_, t1_, t1_, t2_, t1_], [t1_, t1_]] }
def ann114 : FAnn := { ops := [[], [], [{}, {}, t2_, t1_], [{}, t1_], [t1_, t1_, t1_, { takes := [false, true, true, true], mode := 1 }], [{}, t1_], [t1_, t1_, t1_, { takes := [false, true, true, true], mode := 1 }], [{}, t1_], [{}, {}, {}, { takes := [false, true, true, true], mode := 1 }], [t1_, t1_, t1_], [{}, {}, {}, { takes := [false, true, true, true], mode := 1 }, t1_, {}, t1_, t1_, t1_], [{}, t1_], [{}, {}, {}, { takes := [false, true, true, true], mode := 1 }], [{}, t1_, t1_, {}, t2_, t2_, t1_], [], [{}, t1_, {}, t2_, t1_, t1_, t1_, t2_], [{}, {}, {}, { takes := [false, true, true, true], mode := 1 }], [{}, t1_, t1_, {}, {}, t1_, t2_, t1_, {}, {}, t2_, t1_, { mode := 3 }, t1_, { takes := [false, true] }], [{}, t1_, {}, t1_, { takes := [false, true, true, true, true], mode := 1 }, t1_], [t1_, t1_], [{}, {}, {}, t1_, { takes := [false, true, true, true, true], mode := 1 }, t1_, {}, t1_, t1_, t1_], [t1_, t1_], [{}, {}, t2_, {}, {}, t2_, t1_, t1_], [t1_, t1_, t1_], [{}, {}, t2_], [t1_, t1_, t2_, t1_], [{}, t1_, {}, {}, { takes := [false, true, true, true, true], mode := 1 }], [t1_, t1_, t1_], [t1_, t1_, t2_, t1_], [{}, {}, t1_, t1_, {}, { takes := [false, true, true, true, true], mode := 1 }], [t1_, t1_]], keepL := [(0, [i_,i_,i_,i_,o_,o_,o_,o_,i_,i_,o_,o_,o_,o_,o_,o_,o_,o_,o_,o_,o_,o_,o_,o_,o_,o_,o_,o_,o_,o_,o_,o_,o_,o_,o_,o_,o_,o_,o_,o_,o_,o_,o_,o_,o_,o_,o_,o_,o_,o_,o_,o_,o_,o_,o_,o_,o_,o_,o_,o_,o_,o_,o_,o_,o_,o_,o_,o_,o_,o_,o_,o_,o_,o_,o_,o_,o_,o_,o_,o_,o_,o_,o_,o_,o_,o_,o_,o_,o_,o_,o_,o_,o_,o_,o_,o_,o_,o_,o_,o_,o_,o_,o_,o_,o_,o_,o_,o_,o_,o_,o_,o_,o_,o_,o_,o_,o_,o_,o_,o_,o_,o_,o_,o_,o_,o_,o_,o_,o_,o_,o_,o_,o_,o_])] }
def ann115 : FAnn := { ops := [[], [t1_, t1_, { mode := 3 }, t1_], [t1_, { mode := 3 }, t1_]] }
def ann116 : FAnn := { ops := [[{}, t1_, t1_], [{}, {}, t2_], [t1_, t1_, t1_], [{}, t1_], [{}, {}, t2_, t1_, {}, {}, t2_, t1_, {}, {}, t1_, t2_, t1_, { mode := 3 }, { takes := [false, true] }], [t1_, t1_, t1_], [{}, {}, {}, {}, t1_, {}, {}, t1_, t2_, t1_, {}, {}, t2_, t1_, t2_, t2_, t2_, t2_]], keepL := [(0, [i_,i_,i_,o_,o_,o_,i_,o_,o_,o_,o_,o_,o_,o_,o_,o_,o_,o_,o_,o_,o_,o_,o_,o_,o_,o_,o_,o_,o_,o_,o_,o_,o_,o_,o_,o_,o_,o_,o_,o_,o_,o_,o_,o_,o_,o_,o_,o_,o_]), (2, [i_,i_,i_,o_,o_,o_,i_,i_,o_,o_,o_,o_,o_,o_,o_,o_,o_,o_,o_,o_,o_,o_,o_,o_,o_,o_,o_,o_,o_,o_,o_,o_,o_,o_,o_,o_,o_,o_,o_,o_,o_,o_,o_,o_,o_,o_,o_,o_,o_])] }
def ann117 : FAnn := { ops := [[{}, t1_], [], [t1_, t1_, t2_, t1_], [{}, t1_, t1_, t1_], [{}, t1_], [t1_, t1_, t1_], [{}, {}, {}, {}, { takes := [false, true, true, true, true], mode := 1 }], [t1_, t1_, t1_], [{}, t1_], [t1_, t1_, t1_], [{}, {}, {}, {}, {}, t2_, {}, {}, {}, t2_, t2_, t1_, {}, {}, t2_, t1_, t2_, t2_, t2_, t2_], [{}, {}, {}, {}, { takes := [false, true, true, true, true], mode := 1 }]], keepL := [(0, [i_,o_,o_,o_,o_,o_,i_,i_,i_,i_,o_,o_,o_,o_,o_,o_,o_,o_,o_,o_,o_,o_,o_,o_,o_,o_,o_,o_,o_,o_,o_,o_,o_,o_,o_,o_,o_,o_,o_,o_,o_,o_,o_,o_,o_,o_,o_,o_,o_,o_,o_,o_,o_,o_,o_,o_]), (2, [i_,o_,o_,o_,o_,o_,i_,i_,o_,o_,i_,o_,o_,o_,o_,o_,o_,o_,o_,o_,o_,o_,o_,o_,o_,o_,o_,o_,o_,o_,o_,o_,o_,o_,o_,o_,o_,o_,o_,o_,o_,o_,o_,o_,o_,o_,o_,o_,o_,o_,o_,o_,o_,o_,o_,o_])] }
def ann118 : FAnn := { ops := [[t1_, {}, t2_, t1_], [{}, t1_], [{}, t1_, {}, { takes := [false, true] }], [{}, { mode := 3 }, t1_], [{}, {}, t1_, t1_, t2_, t1_, t1_], [{}, {}, {}, t1_, t1_, t2_, t1_, t2_], [t1_, t1_, t1_], [{ mode := 1 }, {}, t1_, t2_, t1_, t1_], [{}, {}, t2_], [t1_, {}, t2_, t1_], [{}, {}, {}, {}, {}, t2_, {}, {}, {}, t2_, t2_, t1_, {}, {}, t2_, t1_, t2_, t2_, t2_, t2_]], keepL := [(0, [i_,i_,o_,o_,o_,o_,i_,i_,i_,i_,o_,o_,o_,o_,o_,o_,o_,o_,o_,o_,o_,o_,o_,o_,o_,o_,o_,o_,o_,o_,o_,o_,o_,o_,o_,o_,o_,o_,o_,o_,o_,o_,o_,o_,o_,o_,o_,o_,o_,o_,o_,o_,o_,o_,o_,o_,o_,o_,o_,o_,o_,o_,o_,o_,o_])] }
def ann119 : FAnn := { ops := [[], [t1_, {}, t2_, t1_], [], [{}, {}, t1_, t1_, t2_, t1_], [{}, {}, t1_, t1_, t2_, t1_], [t1_, {}, t1_, t1_, t2_, t1_], [{}, t1_], [t1_, t1_], [{}, t1_, { takes := [false, true, true], mode := 1 }, t1_], [{}, t1_, { takes := [false, true, true], mode := 1 }, t1_], [{}, t1_, { takes := [false, true, true], mode := 1 }, t1_], [t1_, t1_, t1_, t1_, { takes := [false, true, true, true, true], mode := 1 }, t1_], [t1_], [t1_, t1_], [{}, t1_], [t1_, t1_], [t1_, t1_], [t1_, t1_]] }
def ann120 : FAnn := { ops := [[t1_, t1_], [t1_, t1_, t1_], [{}, {}, t2_], [{}, {}, {}, {}, {}, {}, t2_, t1_, {}, {}, t2_, t1_, t2_, t2_, t2_, t2_], [t1_, t1_, t1_], [t1_, t1_, t1_]], keepL := [(0, [i_,o_,o_,o_,o_,o_,i_,i_,o_,o_,o_,o_,o_,o_,o_,o_,o_,o_,o_,o_,o_,o_,o_,o_,o_,o_,o_,o_,o_,o_,o_,o_])] }
def ann121 : FAnn := { ops := [[], [{}, t1_, t1_], [], [{}, t1_], [t1_, t1_, t1_], [{}, {}, t2_, t1_, {}, {}, t2_, t1_, {}, {}, t1_, t2_, t1_, { mode := 3 }, t1_, { takes := [false, true] }], [t1_, t1_, t1_], [{}, {}, t2_], [], [{}, {}, t2_, t1_], [], [{}, {}, {}, {}, t1_, {}, {}, t1_, t2_, t1_, {}, {}, t2_, t1_, t2_, t2_, t2_, t2_], [{}, {}, t2_, t1_], [{}, t1_, t1_], [{}, t1_], [t1_, t1_, t1_], [{}, {}, t2_, t1_, {}, {}, t1_, t2_, t1_, { mode := 3 }, t1_], [{}, {}, {}, {}, t1_, {}, {}, t1_, t2_, t1_, {}, {}, t2_, t1_, t2_, t2_, t2_, t2_], [{}, {}, t2_, t1_], [{}, t1_, t1_], [{}, {}, t2_], [t1_, t1_, t1_], [{}, {}, t2_, t1_, {}, {}, t1_, t2_, t1_, { mode := 3 }, t1_], [{}, {}, {}, {}, t1_, {}, {}, t1_, t2_, t1_, {}, {}, t2_, t1_, t2_, t2_, t2_, t2_], []], keepL := [(0, [i_,i_,i_,o_,o_,o_,o_,i_,i_,o_,o_,o_,o_,o_,o_,o_,o_,o_,o_,o_,o_,o_,o_,o_,o_,o_,o_,o_,o_,o_,o_,o_,o_,o_,o_,o_,o_,o_,o_,o_,o_,o_,o_,o_,o_,o_,o_,o_,o_,o_,o_,o_,o_,o_,o_,o_,o_,o_,o_,o_,o_,o_,o_,o_,o_,o_,o_,o_,o_,o_,o_,o_,o_,o_,o_,o_,o_,o_,o_,o_,o_,o_,o_,o_,o_,o_,o_,o_,o_,o_,o_,o_,o_,o_,o_,o_,o_,o_,o_,o_,o_,o_,o_,o_,o_,o_,o_,o_,o_,o_,o_,o_,o_,o_,o_,o_,o_,o_,o_,o_,o_,o_,o_,o_,o_,o_,o_,o_,o_,o_,o_,o_,o_]), (2, [i_,i_,i_,o_,o_,o_,o_,i_,i_,o_,o_,o_,o_,o_,o_,o_,o_,o_,o_,o_,o_,o_,o_,o_,o_,o_,o_,o_,o_,o_,o_,o_,o_,o_,o_,o_,o_,o_,o_,o_,o_,o_,o_,o_,o_,o_,o_,o_,o_,o_,o_,o_,o_,o_,o_,o_,o_,o_,o_,o_,o_,o_,o_,o_,o_,o_,o_,o_,o_,o_,o_,o_,o_,o_,o_,o_,o_,o_,o_,o_,o_,o_,o_,o_,o_,o_,o_,o_,o_,o_,o_,o_,o_,o_,o_,o_,o_,o_,o_,o_,o_,o_,o_,o_,o_,o_,o_,o_,o_,o_,o_,o_,o_,o_,o_,o_,o_,o_,o_,o_,o_,o_,o_,o_,o_,o_,o_,o_,o_,o_,o_,o_,o_]), (4, [i_,i_,i_,o_,o_,o_,o_,i_,i_,i_,o_,o_,o_,o_,o_,o_,o_,o_,o_,o_,o_,o_,o_,o_,o_,o_,o_,o_,o_,o_,o_,o_,o_,o_,o_,o_,o_,o_,o_,o_,o_,o_,o_,o_,o_,o_,o_,o_,o_,o_,o_,o_,o_,o_,o_,o_,o_,o_,o_,o_,o_,o_,o_,o_,o_,o_,o_,o_,o_,o_,o_,o_,o_,o_,o_,o_,o_,o_,o_,o_,o_,o_,o_,o_,o_,o_,o_,o_,o_,o_,o_,o_,o_,o_,o_,o_,o_,o_,o_,o_,o_,o_,o_,o_,o_,o_,o_,o_,o_,o_,o_,o_,o_,o_,o_,o_,o_,o_,o_,o_,o_,o_,o_,o_,o_,o_,o_,o_,o_,o_,o_,o_,o_]), (6, [i_,i_,i_,o_,o_,o_,o_,i_,i_,o_,i_,o_,o_,o_,o_,o_,o_,o_,o_,o_,o_,o_,o_,o_,o_,o_,o_,o_,o_,o_,o_,o_,o_,o_,o_,o_,o_,o_,o_,o_,o_,o_,o_,o_,o_,o_,o_,o_,o_,o_,o_,o_,o_,o_,o_,o_,o_,o_,o_,o_,o_,o_,o_,o_,o_,o_,o_,o_,o_,o_,o_,o_,o_,o_,o_,o_,o_,o_,o_,o_,o_,o_,o_,o_,o_,o_,o_,o_,o_,o_,o_,o_,o_,o_,o_,o_,o_,o_,o_,o_,o_,o_,o_,o_,o_,o_,o_,o_,o_,o_,o_,o_,o_,o_,o_,o_,o_,o_,o_,o_,o_,o_,o_,o_,o_,o_,o_,o_,o_,o_,o_,o_,o_])] }
def ann122 : FAnn := { ops := [[], [{}, { mode := 3 }, t1_, {}, { mode := 3 }, t1_, t2_, t1_, t1_, t1_, t2_, { takes := [true, false, true] }, t1_]] }
def ann123 : FAnn := { ops := [[], [{}, {}, {}, {}, {}, {}, t2_, t1_, {}, {}, t2_, t1_, t2_, t2_, t2_, t2_], [{}, t1_, t1_, t1_, t1_, t1_], [{}, {}, t2_, t1_, {}, {}, t2_, t1_, {}, {}, t2_, t1_, { mode := 3 }, t1_, { takes := [false, true] }], [t1_, t1_, t1_], [{}, {}, t2_, t1_, {}, {}, t2_, t1_, {}, {}, t2_, t1_, { mode := 3 }, { takes := [false, true] }], [t1_, t1_, t1_], [{}, {}, t2_], [{}, {}, {}, {}, {}, {}, t2_, t1_, {}, {}, t2_, t1_, t2_, t2_, t2_, t2_], [t1_, t1_, t1_], [t1_, t1_, t1_], [t1_, t1_]], keepL := [(0, [i_,i_,o_,o_,o_,o_,o_,o_,o_,i_,i_,o_,o_,o_,o_,o_,o_,o_,o_,o_,o_,o_,o_,o_,o_,o_,o_,o_,o_,o_,o_,o_,o_,o_,o_,o_,o_,o_,o_,o_,o_,o_,o_,o_,o_,o_,o_,o_,o_,o_,o_,o_,o_,o_,o_,o_,o_,o_,o_,o_,o_,o_,o_,o_,o_,o_,o_,o_,o_,o_,o_,o_,o_,o_,o_,o_,o_,o_,o_,o_,o_,o_,o_,o_]), (2, [i_,i_,o_,o_,o_,o_,o_,o_,o_,i_,i_,o_,o_,o_,o_,o_,o_,o_,o_,o_,o_,o_,o_,o_,o_,o_,o_,o_,o_,o_,o_,o_,o_,o_,o_,o_,o_,o_,o_,o_,o_,o_,o_,o_,o_,o_,o_,o_,o_,o_,o_,o_,o_,o_,o_,o_,o_,o_,o_,o_,o_,o_,o_,o_,o_,o_,o_,o_,o_,o_,o_,o_,o_,o_,o_,o_,o_,o_,o_,o_,o_,o_,o_,o_]), (4, [i_,i_,o_,o_,o_,o_,o_,o_,o_,i_,i_,o_,o_,o_,o_,o_,o_,o_,o_,o_,o_,o_,o_,o_,o_,o_,o_,o_,o_,o_,o_,o_,o_,o_,o_,o_,o_,o_,o_,o_,o_,o_,o_,o_,o_,o_,o_,o_,o_,o_,o_,o_,o_,o_,o_,o_,o_,o_,o_,o_,o_,o_,o_,o_,o_,o_,o_,o_,o_,o_,o_,o_,o_,o_,o_,o_,o_,o_,o_,o_,o_,o_,o_,o_])] }
def ann124 : FAnn := { ops := [[], [{}, {}, {}, {}, {}, {}, t2_, t1_, {}, {}, t2_, t1_, t2_, t2_, t2_, t2_], [{}, t1_, t1_, t1_, t1_, t1_], [{}, {}, t2_, t1_, {}, {}, t2_, t1_, {}, {}, t2_, t1_, { mode := 3 }, { takes := [false, true] }], [t1_, t1_, t1_], [{}, {}, t2_, t1_, {}, {}, t2_, t1_, {}, {}, t2_, t1_, { mode := 3 }, t1_, { takes := [false, true] }], [t1_, t1_, t1_], [{}, {}, t2_], [{}, {}, {}, {}, {}, {}, t2_, t1_, {}, {}, t2_, t1_, t2_, t2_, t2_, t2_], [t1_, t1_], [{}, {}, {}, {}, {}, {}, t2_, t1_, {}, {}, t2_, t1_, t2_, t2_, t2_, t2_], [t1_, t1_, t1_], [t1_, t1_, t1_], [{}, {}, t2_, t1_, {}, {}, t2_, t1_, {}, {}, t2_, t1_, { mode := 3 }, { takes := [false, true] }], [t1_, t1_, t1_], [{}, {}, t2_, t1_, {}, {}, t2_, t1_, {}, {}, t2_, t1_, { mode := 3 }, t1_, { takes := [false, true] }], [t1_, t1_, t1_], [{}, {}, t2_], [{}, {}, {}, {}, {}, {}, t2_, t1_, {}, {}, t2_, t1_, t2_, t2_, t2_, t2_], [t1_, t1_, t1_], [t1_, t1_, t1_], [{}, {}, {}, {}, {}, {}, t2_, t1_, {}, {}, t2_, t1_, t2_, t2_, t2_, t2_], [t1_, t1_]], keepL := [(0, [i_,i_,o_,o_,o_,o_,o_,o_,o_,o_,i_,i_,o_,o_,o_,o_,o_,o_,o_,o_,o_,o_,o_,o_,o_,o_,o_,o_,o_,o_,o_,o_,o_,o_,o_,o_,o_,o_,o_,o_,o_,o_,o_,o_,o_,o_,o_,o_,o_,o_,o_,o_,o_,o_,o_,o_,o_,o_,o_,o_,o_,o_,o_,o_,o_,o_,o_,o_,o_,o_,o_,o_,o_,o_,o_,o_,o_,o_,o_,o_,o_,o_,o_,o_,o_,o_,o_,o_,o_,o_,o_,o_,o_,o_,o_,o_,o_,o_,o_,o_,o_,o_,o_,o_,o_,o_,o_,o_,o_,o_,o_,o_,o_,o_,o_,o_,o_,o_,o_,o_,o_,o_,o_,o_,o_,o_,o_,o_,o_,o_,o_,o_,o_,o_,o_,o_,o_,o_,o_,o_,o_,o_,o_,o_,o_,o_,o_,o_,o_,o_,o_,o_,o_,o_,o_,o_,o_,o_,o_,o_,o_,o_,o_,o_,o_,o_,o_,o_]), (2, [i_,i_,o_,o_,o_,o_,o_,o_,o_,o_,i_,i_,o_,o_,o_,o_,o_,o_,o_,o_,o_,o_,o_,o_,o_,o_,o_,o_,o_,o_,o_,o_,o_,o_,o_,o_,o_,o_,o_,o_,o_,o_,o_,o_,o_,o_,o_,o_,o_,o_,o_,o_,o_,o_,o_,o_,o_,o_,o_,o_,o_,o_,o_,o_,o_,o_,o_,o_,o_,o_,o_,o_,o_,o_,o_,o_,o_,o_,o_,o_,o_,o_,o_,o_,o_,o_,o_,o_,o_,o_,o_,o_,o_,o_,o_,o_,o_,o_,o_,o_,o_,o_,o_,o_,o_,o_,o_,o_,o_,o_,o_,o_,o_,o_,o_,o_,o_,o_,o_,o_,o_,o_,o_,o_,o_,o_,o_,o_,o_,o_,o_,o_,o_,o_,o_,o_,o_,o_,o_,o_,o_,o_,o_,o_,o_,o_,o_,o_,o_,o_,o_,o_,o_,o_,o_,o_,o_,o_,o_,o_,o_,o_,o_,o_,o_,o_,o_,o_]), (4, [i_,i_,o_,o_,o_,o_,o_,o_,o_,o_,i_,i_,o_,o_,o_,o_,o_,o_,o_,o_,o_,o_,o_,o_,o_,o_,o_,o_,o_,o_,o_,o_,o_,o_,o_,o_,o_,o_,o_,o_,o_,o_,o_,o_,o_,o_,o_,o_,o_,o_,o_,o_,o_,o_,o_,o_,o_,o_,o_,o_,o_,o_,o_,o_,o_,o_,o_,o_,o_,o_,o_,o_,o_,o_,o_,o_,o_,o_,o_,o_,o_,o_,o_,o_,o_,o_,o_,o_,o_,o_,o_,o_,o_,o_,o_,o_,o_,o_,o_,o_,o_,o_,o_,o_,o_,o_,o_,o_,o_,o_,o_,o_,o_,o_,o_,o_,o_,o_,o_,o_,o_,o_,o_,o_,o_,o_,o_,o_,o_,o_,o_,o_,o_,o_,o_,o_,o_,o_,o_,o_,o_,o_,o_,o_,o_,o_,o_,o_,o_,o_,o_,o_,o_,o_,o_,o_,o_,o_,o_,o_,o_,o_,o_,o_,o_,o_,o_,o_]), (6, [i_,i_,o_,o_,o_,o_,o_,o_,o_,o_,i_,i_,o_,o_,o_,o_,o_,o_,o_,o_,o_,o_,o_,o_,o_,o_,o_,o_,o_,o_,o_,o_,o_,o_,o_,o_,o_,o_,o_,o_,o_,o_,o_,o_,o_,o_,o_,o_,o_,o_,o_,o_,o_,o_,o_,o_,o_,o_,o_,o_,o_,o_,o_,o_,o_,o_,o_,o_,o_,o_,o_,o_,o_,o_,o_,o_,o_,o_,o_,o_,o_,o_,o_,o_,o_,o_,o_,o_,o_,o_,o_,o_,o_,o_,o_,o_,o_,o_,o_,o_,o_,o_,o_,o_,o_,o_,o_,o_,o_,o_,o_,o_,o_,o_,o_,o_,o_,o_,o_,o_,o_,o_,o_,o_,o_,o_,o_,o_,o_,o_,o_,o_,o_,o_,o_,o_,o_,o_,o_,o_,o_,o_,o_,o_,o_,o_,o_,o_,o_,o_,o_,o_,o_,o_,o_,o_,o_,o_,o_,o_,o_,o_,o_,o_,o_,o_,o_,o_]), (8, [i_,i_,o_,o_,o_,o_,o_,o_,o_,o_,i_,i_,o_,o_,o_,o_,o_,o_,o_,o_,o_,o_,o_,o_,o_,o_,o_,o_,o_,o_,o_,o_,o_,o_,o_,o_,o_,o_,o_,o_,o_,o_,o_,o_,o_,o_,o_,o_,o_,o_,o_,o_,o_,o_,o_,o_,o_,o_,o_,o_,o_,o_,o_,o_,o_,o_,o_,o_,o_,o_,o_,o_,o_,o_,o_,o_,o_,o_,o_,o_,o_,o_,o_,o_,o_,o_,o_,o_,o_,o_,o_,o_,o_,o_,o_,o_,o_,o_,o_,o_,o_,o_,o_,o_,o_,o_,o_,o_,o_,o_,o_,o_,o_,o_,o_,o_,o_,o_,o_,o_,o_,o_,o_,o_,o_,o_,o_,o_,o_,o_,o_,o_,o_,o_,o_,o_,o_,o_,o_,o_,o_,o_,o_,o_,o_,o_,o_,o_,o_,o_,o_,o_,o_,o_,o_,o_,o_,o_,o_,o_,o_,o_,o_,o_,o_,o_,o_,o_])] }
def ann125 : FAnn := { ops := [[], [{}, t1_], [t1_, t1_, t1_], [], [{}, t1_], [t1_, t1_, t1_], [t1_, t1_, t1_], [t1_, t1_, t1_, { takes := [false, true] }, t1_, t2_, t1_]] }
def ann126 : FAnn := { ops := [[], [{}, t1_], [t1_, t1_, t1_], [], [{}, t1_], [t1_, t1_, t1_], [t1_, t1_, t1_], [{}, t1_], [t1_, t1_, t1_], [t1_, t1_, t1_], [t1_, t1_, t1_, { takes := [false, true] }, t1_, t2_, t1_]] }
def ann127 : FAnn := { ops := [[t1_, t1_], [{}, { takes := [false, true] }, t1_, t1_], [{}, {}, t2_], [{}, t1_, {}, t2_, t1_, {}, {}, {}, t2_, t2_, t1_, {}, {}, {}, t2_, t1_, t2_, t1_, { mode := 3 }, { takes := [false, true] }], [t1_, t1_, t1_], [{}, {}, {}, t2_, t2_, t1_, {}, {}, {}, t2_, t2_, t1_, { mode := 3 }, t1_], [{}, {}, {}, t2_, {}, {}, {}, t2_, {}, {}, {}, t2_, t2_, t1_, {}, {}, {}, t2_, t2_, t1_, t2_, t2_, t2_, t2_], [t1_, t1_]], keepL := [(0, [i_,o_,i_,i_,o_,o_,o_,o_,i_,o_,o_,o_,o_,o_,o_,o_,o_,o_,o_,o_,o_,o_,o_,o_,o_,o_,o_,o_,o_,o_,o_,o_,o_,o_,o_,o_,o_,o_,o_,o_,o_,o_,o_,o_,o_,o_,o_,o_,o_,o_,o_,o_,o_,o_,o_,o_,o_,o_,o_,o_,o_,o_,o_,o_,o_,o_,o_,o_,o_,o_,o_,o_,o_,o_,o_,o_])] }
def ann128 : FAnn := { ops := [[], [t1_, t1_, { mode := 3 }, { takes := [false, true] }, t1_]] }
def ann129 : FAnn := { ops := [[], [{}, {}, t1_, {}, t1_, t1_, t1_, t2_, {}, t2_], [{}, {}, t1_, {}, t1_, t1_, t1_, t2_, {}, t2_], [{}, {}, t1_, {}, t1_, t1_, t1_, t2_, {}, t2_], [t1_, t1_, t1_, t1_]] }
def ann130 : FAnn := { ops := [[], [t1_, {}, t1_, {}, t1_, t1_, t1_, { takes := [false, true, true, true, true, true], mode := 1 }, t1_]] }
def ann131 : FAnn := { ops := [[], [{}, t1_, t1_, {}, { takes := [false, true, true, true, true], mode := 1 }, t1_, {}, t1_, t1_, t1_], [{}, t1_, t1_, {}, { takes := [false, true, true, true, true], mode := 1 }, t1_, {}, t1_, t1_, t1_], [t1_, t1_, t1_, t1_, { takes := [false, true, true, true, true], mode := 1 }, t1_, {}, t1_, t1_, t1_], [t1_, t1_]] }
def ann132 : FAnn := { ops := [[], [{}, t1_, t2_, t1_]] }
def ann133 : FAnn := { ops := [[], [{}, {}, t2_, t1_, {}, {}, t2_, t1_, { mode := 3 }], [t1_, {}, t1_, t1_, t1_, t2_], [t1_, t1_, t1_, t1_], [t1_, t1_, t1_, t1_]] }
def annL : List FAnn := [{}, {}, ann2, ann3, ann4, ann5, ann6, ann7, ann8, ann9, ann10, ann11, ann12, ann13, ann14, ann15, ann16, ann17, ann18, ann19, ann20, ann21, ann22, ann23, ann24, ann25, ann26, ann27, ann28, ann29, ann30, ann31, ann32, ann33, ann34, ann35, ann36, ann37, ann38, ann39, ann40, ann41, ann42, ann43, ann44, ann45, ann46, ann47, ann48, ann49, ann50, ann51, ann52, ann53, ann54, ann55, ann56, ann57, ann58, ann59, ann60, ann61, ann62, ann63, ann64, ann65, ann66, ann67, ann68, ann69, ann70, ann71, ann72, ann73, ann74, ann75, ann76, ann77, ann78, ann79, ann80, ann81, ann82, ann83, ann84, ann85, ann86, ann87, ann88, ann89, ann90, ann91, ann92, ann93, ann94, ann95, ann96, ann97, ann98, ann99, ann100, ann101, ann102, ann103, ann104, ann105, ann106, ann107, ann108, ann109, ann110, ann111, ann112, ann113, ann114, ann115, ann116, ann117, ann118, ann119, ann120, ann121, ann122, ann123, ann124, ann125, ann126, ann127, ann128, ann129, ann130, ann131, ann132, ann133, {}, {}, {}, {}, {}, {}, {}, {}, {}, {}, {}, {}, {}, {}, {}, {}]
def ann (k : FuncId) : FAnn := annL.getD k {}
end Go.Proofs.Ytlcebaejlnpdeaa.Ab

/- MADE BY PROGRAM (rc.py): functions, looked up. -/
namespace Go.Proofs.Ytlcebaejlnpdeaa.Ab
open Go
noncomputable def rc8 : RC :=
  .seq (.reg false [I_ 2 [.tk 0] .box, I_ 4 [.cv (.bool false)] .mv]) (.seq (.seq (.reg false [I_ 22 [.sl 2] (.ld (.str 1)), I_ 23 [.cv (.func 48 [] []), .sl 22] (.call 3), I_ 24 [.tv 23] (.un .not), I_ 25 [.tk 24] .mv, ⟨some 26,
  [.sl 1], some (25, false), none, .mv⟩, ⟨some 27, [.tk 26], some (25, false), none, .lenS⟩, ⟨some 28, [.tv 27, .cv (.int .i64 30)], some (25, false), none, .bin .gtr⟩, I_ 29 [.tv 25, .cv (.bool true), .tv 28] .pick]) (.cond (.sl
  29) (.seq (.reg false [I_ 30 [.cv (.func 20 [] [])] (.call 3), I_ 4 [.tk 30] .mv]) .ret) .skip)) (.seq (.reg false [I_ 32 [.sl 2] (.ld (.str 1)), I_ 33 [.cv (.func 49 [] []), .sl 32] (.call 3), I_ 31 [.tk 33] .mv, I_ 34 [.sl
  31] (.ext 0), I_ 35 [.tv 31] (.ext 1), I_ 5 [.tk 34] .mv, I_ 6 [.tk 35] .mv]) (.seq (.reg false [I_ 36 [.sl 2] (.ld (.str 1)), I_ 37 [.tk 1] .mv, I_ 38 [.cv (.func 50 [] []), .sl 36, .sl 37] (.call 3), I_ 7 [.tk 38] .mv]) (.seq
  (.reg false [I_ 40 [.sl 2] (.ld (.str 1)), I_ 41 [.sl 7] .mv, I_ 42 [.cv (.func 21 [] []), .sl 40, .sl 41] (.call 3), I_ 39 [.tk 42] .mv, I_ 43 [.sl 39] (.ext 0), I_ 44 [.tv 39] (.ext 1), I_ 8 [.tk 43] .mv, I_ 9 [.tk 44] .mv])
  (.seq (.reg false [I_ 46 [.sl 2] (.ld (.str 1)), I_ 47 [.tk 7] .mv, I_ 48 [.cv (.func 23 [] []), .sl 46, .sl 47] (.call 3), I_ 45 [.tk 48] .mv, I_ 49 [.sl 45] (.ext 0), I_ 50 [.tv 45] (.ext 1), I_ 10 [.tk 49] .mv, I_ 11 [.tk
  50] .mv]) (.seq (.seq (.reg false [I_ 51 [.tk 6] .mv, I_ 52 [.tv 51] (.un .not), I_ 53 [.tk 52] .mv, ⟨some 54, [.tk 9], some (53, false), none, .mv⟩, ⟨some 55, [.tv 54, .cv (.int .i64 0)], some (53, false), none, .bin .neq⟩, I_
  56 [.tv 53, .cv (.bool true), .tv 55] .pick, I_ 57 [.tk 56] .mv, ⟨some 58, [.tk 8], some (57, false), none, .mv⟩, ⟨some 59, [.sl 5], some (57, false), none, .mv⟩, ⟨some 60, [.tv 58, .tv 59], some (57, false), none, .bin .lss⟩,
  I_ 61 [.tv 57, .cv (.bool true), .tv 60] .pick, I_ 62 [.tk 61] .mv, ⟨some 63, [.tk 11], some (62, false), none, .mv⟩, ⟨some 64, [.tv 63, .cv (.int .i64 0)], some (62, false), none, .bin .neq⟩, I_ 65 [.tv 62, .cv (.bool true),
  .tv 64] .pick, I_ 66 [.tk 65] .mv, ⟨some 67, [.sl 10], some (66, false), none, .mv⟩, ⟨some 68, [.tk 67], some (66, false), none, .lenS⟩, ⟨some 69, [.sl 2], some (66, false), none, .fa 0⟩, ⟨some 70, [.tv 69], some (66, false),
  none, .ld .one⟩, ⟨some 71, [.tk 70], some (66, false), none, .lenS⟩, ⟨some 72, [.tv 68, .tv 71], some (66, false), none, .bin .neq⟩, I_ 73 [.tv 66, .cv (.bool true), .tv 72] .pick]) (.cond (.sl 73) (.seq (.reg false [I_ 4 [.cv
  (.bool false)] .mv]) .ret) .skip)) (.seq (.reg false [I_ 12 [.cv (.int .i64 0)] .mv, I_ 13 [.cv (.int .i64 0)] .mv]) (.seq (.seq (.reg false [I_ 14 [.cv (.int .i64 0)] .mv]) (.block 0 (.loop (some [o_,o_,i_,o_,o_,i_,o_,o_,o_,o_,i_,o_,i_,i_,i_,o_,o_,o_,o_,o_,o_,o_,o_,o_,o_,o_,o_,o_,o_,o_,o_,o_,o_,o_,o_,o_,o_,o_,o_,o_,o_,o_,o_,o_,o_,o_,o_,o_,o_,o_,o_,o_,o_,o_,o_,o_,o_,o_,o_,o_,o_,o_,o_,o_,o_,o_,o_,o_,o_,o_,o_,o_,o_,o_,o_,o_,o_,o_,o_,o_,o_,o_,o_,o_,o_,o_,o_,o_,o_,o_,o_,o_,o_,o_,o_,o_,o_,o_,o_,o_,o_,o_,o_,o_,o_,o_,o_,o_,o_,o_,o_,o_,o_,o_,o_,o_,o_,o_,o_,o_,o_,o_,o_,o_,o_,o_,o_,o_,o_,o_,o_,o_,o_,o_,o_,o_,o_,o_,o_,o_,o_,o_,o_,o_,o_,o_,o_,o_,o_,o_,o_,o_,o_,o_,o_,o_,o_,o_,o_,o_,o_,o_,o_,o_,o_,o_,o_,o_,o_,o_,o_,o_,o_,o_,o_,o_,o_,o_,o_,o_,o_,o_,o_,o_,o_]) (.seq (.seq (.reg false [I_ 74 [.sl 14] .mv, I_ 75 [.tv 74, .cv (.int .i64 1)] (.bin
  .add), I_ 76 [.sl 2] (.fa 0), I_ 77 [.tv 76] (.ld .one), I_ 78 [.tk 77] .lenS, I_ 79 [.tv 75, .tv 78] (.bin .lss)]) (.cond (.sl 79) .skip (.exit 0))) (.seq (.block 1 (.seq (.reg false [I_ 83 [.sl 2] (.ld (.str 1)), I_ 84 [.sl
  14] .mv, I_ 85 [.cv (.func 37 [] []), .sl 83, .sl 84] (.call 3), I_ 82 [.tk 85] .mv, I_ 86 [.sl 82] (.ext 0), I_ 87 [.tv 82] (.ext 1), I_ 15 [.tk 86] .mv, I_ 16 [.tk 87] .mv]) (.seq (.reg false [I_ 89 [.sl 2] (.ld (.str 1)), I_
  90 [.sl 14] .mv, I_ 91 [.cv (.func 42 [] []), .sl 89, .sl 90] (.call 3), I_ 88 [.tk 91] .mv, I_ 92 [.sl 88] (.ext 0), I_ 93 [.tv 88] (.ext 1), I_ 17 [.tk 92] .mv, I_ 18 [.tk 93] .mv]) (.seq (.reg false [I_ 95 [.sl 2] (.ld (.str
  1)), I_ 96 [.sl 14] .mv, I_ 97 [.tv 96, .cv (.int .i64 1)] (.bin .add), I_ 98 [.cv (.func 42 [] []), .sl 95, .sl 97] (.call 3), I_ 94 [.tk 98] .mv, I_ 99 [.sl 94] (.ext 0), I_ 100 [.tv 94] (.ext 1), I_ 19 [.tk 99] .mv, I_ 20
  [.tk 100] .mv]) (.seq (.seq (.reg true [I_ 101 [.tk 16] .mv, I_ 102 [.tv 101, .cv (.int .i64 0)] (.bin .neq), I_ 103 [.tk 102] .mv, ⟨some 104, [.tk 18], some (103, false), none, .mv⟩, ⟨some 105, [.tv 104, .cv (.int .i64 0)],
  some (103, false), none, .bin .neq⟩, I_ 106 [.sl 103, .cv (.bool true), .tv 105] .pick, I_ 107 [.tk 106] .mv, ⟨some 108, [.tk 20], some (107, false), none, .mv⟩, ⟨some 109, [.tv 108, .cv (.int .i64 0)], some (107, false), none,
  .bin .neq⟩, I_ 110 [.sl 107, .cv (.bool true), .tv 109] .pick, I_ 111 [.tk 110] .mv, ⟨some 112, [.sl 15], some (111, false), none, .mv⟩, ⟨some 113, [.tv 112, .cv (.int .i64 0)], some (111, false), none, .bin .lss⟩, I_ 114 [.sl
  111, .cv (.bool true), .tv 113] .pick, I_ 115 [.tk 114] .mv, ⟨some 116, [.sl 15], some (115, false), none, .mv⟩, ⟨some 117, [.sl 10], some (115, false), none, .mv⟩, ⟨some 118, [.sl 14], some (115, false), none, .mv⟩, ⟨some 119,
  [.tv 117, .tv 118], some (115, false), none, .ia 1⟩, ⟨some 120, [.tv 119], some (115, false), none, .ld .one⟩, ⟨some 121, [.sl 10], some (115, false), none, .mv⟩, ⟨some 122, [.sl 14], some (115, false), none, .mv⟩, ⟨some 123,
  [.tv 122, .cv (.int .i64 1)], some (115, false), none, .bin .add⟩, ⟨some 124, [.tv 121, .tv 123], some (115, false), none, .ia 1⟩, ⟨some 125, [.tv 124], some (115, false), none, .ld .one⟩, ⟨some 126, [.cv (.func 51 [] []), .sl
  120, .sl 125], some (115, false), none, .call 3⟩, ⟨some 127, [.tv 116, .tv 126], some (115, false), none, .bin .gtr⟩, I_ 128 [.sl 115, .cv (.bool true), .tv 127] .pick]) (.cond (.sl 128) (.seq (.reg false [I_ 4 [.cv (.bool
  false)] .mv]) .ret) .skip)) (.seq (.seq (.reg false [I_ 21 [.cv (.int .i64 0)] .mv]) (.block 2 (.loop (some [o_,o_,i_,o_,o_,i_,o_,o_,o_,o_,i_,o_,i_,i_,i_,i_,o_,i_,o_,i_,o_,i_,o_,o_,o_,o_,o_,o_,o_,o_,o_,o_,o_,o_,o_,o_,o_,o_,o_,o_,o_,o_,o_,o_,o_,o_,o_,o_,o_,o_,o_,o_,o_,o_,o_,o_,o_,o_,o_,o_,o_,o_,o_,o_,o_,o_,o_,o_,o_,o_,o_,o_,o_,o_,o_,o_,o_,o_,o_,o_,o_,o_,o_,o_,o_,o_,o_,o_,o_,o_,o_,o_,o_,o_,o_,o_,o_,o_,o_,o_,o_,o_,o_,o_,o_,o_,o_,o_,o_,o_,o_,o_,o_,o_,o_,o_,o_,o_,o_,o_,o_,o_,o_,o_,o_,o_,o_,o_,o_,o_,o_,o_,o_,o_,o_,o_,o_,o_,o_,o_,o_,o_,o_,o_,o_,o_,o_,o_,o_,o_,o_,o_,o_,o_,o_,o_,o_,o_,o_,o_,o_,o_,o_,o_,o_,o_,o_,o_,o_,o_,o_,o_,o_,o_,o_,o_,o_,o_,o_,o_,o_,o_,o_,o_,o_]) (.seq (.seq (.reg false [I_ 129 [.sl 21] .mv, I_ 130 [.sl 17] .mv, I_ 131 [.tk 130] .lenS, I_ 132 [.tv 129, .tv 131] (.bin .lss)]) (.cond (.sl 132) .skip (.exit 2))) (.seq
  (.block 3 (.seq (.reg true [I_ 135 [.sl 19] .mv, I_ 136 [.sl 17] .mv, I_ 137 [.sl 21] .mv, I_ 138 [.tv 136, .tv 137] (.ia 1), I_ 139 [.tv 138] (.ld .one), I_ 140 [.cv (.func 52 [] []), .sl 135, .sl 139] (.call 3), I_ 141 [.tk
  140] .mv, ⟨some 142, [.sl 10], some (141, true), none, .mv⟩, ⟨some 143, [.sl 14], some (141, true), none, .mv⟩, ⟨some 144, [.tv 142, .tv 143], some (141, true), none, .ia 1⟩, ⟨some 145, [.tv 144], some (141, true), none, .ld
  .one⟩, ⟨some 146, [.sl 17], some (141, true), none, .mv⟩, ⟨some 147, [.sl 21], some (141, true), none, .mv⟩, ⟨some 148, [.tv 146, .tv 147], some (141, true), none, .ia 1⟩, ⟨some 149, [.tv 148], some (141, true), none, .ld
  .one⟩, ⟨some 150, [.cv (.func 52 [] []), .sl 145, .sl 149], some (141, true), none, .call 3⟩, ⟨some 151, [.tv 150], some (141, true), none, .un .not⟩, ⟨some 152, [.tk 151], some (141, true), none, .mv⟩, ⟨some 153, [.sl 10],
  some (152, false), none, .mv⟩, ⟨some 154, [.sl 14], some (152, false), none, .mv⟩, ⟨some 155, [.tv 154, .cv (.int .i64 1)], some (152, false), none, .bin .add⟩, ⟨some 156, [.tv 153, .tv 155], some (152, false), none, .ia 1⟩,
  ⟨some 157, [.tv 156], some (152, false), none, .ld .one⟩, ⟨some 158, [.sl 17], some (152, false), none, .mv⟩, ⟨some 159, [.sl 21], some (152, false), none, .mv⟩, ⟨some 160, [.tv 158, .tv 159], some (152, false), none, .ia 1⟩,
  ⟨some 161, [.tv 160], some (152, false), none, .ld .one⟩, ⟨some 162, [.cv (.func 52 [] []), .sl 157, .sl 161], some (152, false), none, .call 3⟩, ⟨some 163, [.tv 162], some (152, false), none, .un .not⟩, ⟨some 164, [.sl 152,
  .cv (.bool true), .tv 163], some (141, true), none, .pick⟩, I_ 165 [.sl 141, .tv 164, .cv (.bool false)] .pick]) (.cond (.sl 165) (.seq (.reg false [I_ 4 [.cv (.bool false)] .mv]) .ret) .skip))) (.reg false [I_ 133 [.tk 21]
  .mv, I_ 134 [.tv 133, .cv (.int .i64 1)] (.bin .add), I_ 21 [.tk 134] .mv])))))) (.reg false [I_ 166 [.tk 12] .mv, I_ 167 [.tk 15] .mv, I_ 168 [.tv 166, .tv 167] (.bin .add), I_ 169 [.tk 13] .mv, I_ 170 [.tk 17] .mv, I_ 171
  [.tk 19] .mv, I_ 172 [.cv (.func 51 [] []), .sl 170, .sl 171] (.call 3), I_ 173 [.tv 169, .tv 172] (.bin .add), I_ 12 [.tk 168] .mv, I_ 13 [.tk 173] .mv]))))))) (.reg false [I_ 80 [.tk 14] .mv, I_ 81 [.tv 80, .cv (.int .i64 1)]
  (.bin .add), I_ 14 [.tk 81] .mv])))))) (.seq (.reg false [I_ 174 [.tk 5] .mv, I_ 175 [.sl 12] .mv, I_ 176 [.tv 174, .tv 175] (.bin .geq), I_ 177 [.tk 176] .mv, ⟨some 178, [.tk 12], some (177, true), none, .mv⟩, ⟨some 179, [.tk
  13], some (177, true), none, .mv⟩, ⟨some 180, [.tv 178, .tv 179], some (177, true), none, .bin .geq⟩, I_ 181 [.tv 177, .tv 180, .cv (.bool false)] .pick, I_ 182 [.tk 181] .mv, ⟨some 183, [.cv (.func 20 [] [])], some (182,
  true), none, .call 3⟩, I_ 184 [.tv 182, .tv 183, .cv (.bool false)] .pick, I_ 4 [.tk 184] .mv]) .ret)))))))))
theorem lk8 : linkF Go.Proofs.Try.prog ann8 8 = some (rc8, 185, [.tmp 4]) := by kernel_rfl
noncomputable def rc18 : RC :=
  .seq (.reg false [I_ 1 [.tk 0] .box, I_ 2 [.cv (.bool false)] .mv]) (.seq (.reg false [I_ 5 [.sl 1] (.fa 0), I_ 6 [.tv 5] (.ld .one), I_ 7 [.tk 6] .lenS, I_ 3 [.tk 7] .mv]) (.seq (.seq (.reg false [I_ 4 [.cv (.int .i64 0)] .mv])
  (.block 0 (.loop (some [o_,i_,o_,i_,i_,o_,o_,o_,o_,o_,o_,o_,o_,o_,o_,o_,o_,o_,o_,o_,o_,o_,o_,o_,o_]) (.seq (.seq (.reg false [I_ 8
  [.sl 4] .mv, I_ 9 [.sl 1] (.fa 0), I_ 10 [.tv 9] (.ld .one), I_ 11 [.tk 10] .lenS, I_ 12 [.tv 8, .tv 11] (.bin .lss)]) (.cond (.sl 12) .skip (.exit 0))) (.seq (.block 1 (.reg false [I_ 15 [.tk 3] .mv, I_ 16 [.sl 1] (.fa 0), I_
  17 [.tv 16] (.ld .one), I_ 18 [.sl 4] .mv, I_ 19 [.tv 17, .tv 18] (.ia 1), I_ 20 [.tv 19] (.ld .one), I_ 21 [.tk 20] .lenS, I_ 22 [.tk 15, .tk 21] .max, I_ 3 [.tk 22] .mv])) (.reg false [I_ 13 [.tk 4] .mv, I_ 14 [.tv 13, .cv
  (.int .i64 1)] (.bin .add), I_ 4 [.tk 14] .mv])))))) (.seq (.reg false [I_ 23 [.tk 3] .mv, I_ 24 [.tv 23, .cv (.int .i64 8)] (.bin .gtr), I_ 2 [.tk 24] .mv]) .ret)))
theorem lk18 : linkF Go.Proofs.Try.prog ann18 18 = some (rc18, 25, [.tmp 2]) := by kernel_rfl
noncomputable def rc19 : RC :=
  .seq (.reg false [I_ 2 [.cv (.bool false)] .mv]) (.seq (.reg false [I_ 5 [.sl 0] .mv, I_ 6 [.tk 5] .lenS, I_ 3 [.tk 6] .mv]) (.seq (.seq (.reg false [I_ 4 [.cv (.int .i64 0)] .mv]) (.block 0 (.loop (some [i_,o_,o_,i_,i_,o_,o_,o_,o_,o_,o_,o_,o_,o_,o_,o_,o_,o_,o_,o_,o_,o_]) (.seq (.seq (.reg false [I_ 7 [.sl 4] .mv, I_ 8 [.sl 0] .mv, I_ 9 [.tk 8] .lenS, I_ 10 [.tv 7,
  .tv 9] (.bin .lss)]) (.cond (.sl 10) .skip (.exit 0))) (.seq (.block 1 (.reg false [I_ 13 [.tk 3] .mv, I_ 14 [.sl 0] .mv, I_ 15 [.sl 4] .mv, I_ 16 [.tv 14, .tv 15] (.ia 1), I_ 17 [.tv 16] (.ld .one), I_ 18 [.tk 17] .lenS, I_ 19
  [.tk 13, .tk 18] .max, I_ 3 [.tk 19] .mv])) (.reg false [I_ 11 [.tk 4] .mv, I_ 12 [.tv 11, .cv (.int .i64 1)] (.bin .add), I_ 4 [.tk 12] .mv])))))) (.seq (.reg false [I_ 20 [.tk 3] .mv, I_ 21 [.tv 20, .cv (.int .i64 8)] (.bin
  .gtr), I_ 2 [.tk 21] .mv]) .ret)))
theorem lk19 : linkF Go.Proofs.Try.prog ann19 19 = some (rc19, 22, [.tmp 2]) := by kernel_rfl
noncomputable def rc21 : RC :=
  .seq (.reg false [I_ 2 [.tk 0] .box, I_ 4 [.cv (.int .i64 0)] .mv, I_ 5 [.cv (.int .i64 0)] .mv]) (.seq (.reg false [I_ 9 [.tv 2] (.ld (.str 1)), I_ 10 [.tk 1] .mv, I_ 11 [.cv (.func 62 [] []), .sl 9, .sl 10] (.call 3), I_ 8 [.tk
  11] .mv, I_ 12 [.sl 8] (.ext 0), I_ 13 [.tv 8] (.ext 1), I_ 6 [.tk 12] .mv, I_ 7 [.tk 13] .mv]) (.seq (.seq (.reg false [I_ 14 [.sl 7] .mv, I_ 15 [.tv 14, .cv (.int .i64 0)] (.bin .neq)]) (.cond (.sl 15) (.seq (.reg false [I_
  16 [.tk 7] .mv, I_ 4 [.cv (.int .i64 0)] .mv, I_ 5 [.tk 16] .mv]) .ret) .skip)) (.seq (.reg false [I_ 17 [.tk 6] .mv, I_ 18 [.cv (.func 63 [] []), .sl 17] (.call 2), I_ 19 [.tk 18] .lenM, I_ 4 [.tk 19] .mv, I_ 5 [.cv (.int .i64
  0)] .mv]) .ret)))
theorem lk21 : linkF Go.Proofs.Try.prog ann21 21 = some (rc21, 20, [.tmp 4, .tmp 5]) := by kernel_rfl
noncomputable def rc22 : RC :=
  .seq (.reg false [I_ 2 [.tk 0] .box, I_ 4 [.cv (.int .i64 0)] .mv, I_ 5 [.cv (.int .i64 0)] .mv]) (.seq (.seq (.reg false [I_ 9 [.sl 2] (.ld (.str 1)), I_ 10 [.sl 1] .mv, I_ 11 [.cv (.func 64 [] []), .sl 9, .sl 10] (.call 3), I_
  12 [.tv 11, .cv (.int .i64 0)] (.bin .neq)]) (.cond (.sl 12) (.seq (.reg false [I_ 13 [.tv 2] (.ld (.str 1)), I_ 14 [.tk 1] .mv, I_ 15 [.cv (.func 64 [] []), .sl 13, .sl 14] (.call 3), I_ 4 [.cv (.int .i64 0)] .mv, I_ 5 [.tk
  15] .mv]) .ret) .skip)) (.seq (.reg false [I_ 16 [.tv 2] (.ld (.str 1)), I_ 17 [.tk 1] .mv, I_ 18 [.cv (.func 65 [] []), .sl 16, .sl 17] (.call 3), I_ 6 [.tk 18] .mv]) (.seq (.reg false [I_ 7 [.cv (.int .i64 0)] .mv]) (.seq
  (.seq (.reg false [I_ 8 [.cv (.int .i64 1)] .mv]) (.block 0 (.loop (some [o_,o_,o_,o_,o_,o_,i_,i_,i_,o_,o_,o_,o_,o_,o_,o_,o_,o_,o_,o_,o_,o_,o_,o_,o_,o_,o_,o_,o_,o_,o_,o_,o_,o_,o_,o_,o_,o_]) (.seq (.seq (.reg false [I_ 19 [.sl 8] .mv, I_ 20 [.sl 6] .mv, I_ 21 [.tk 20] .lenS, I_ 22 [.tv 19, .tv 21] (.bin
  .lss)]) (.cond (.sl 22) .skip (.exit 0))) (.seq (.block 1 (.reg true [I_ 25 [.tk 7] .mv, I_ 26 [.sl 6] .mv, I_ 27 [.sl 8] .mv, I_ 28 [.tv 27, .cv (.int .i64 1)] (.bin .sub), I_ 29 [.tv 26, .tv 28] (.ia 1), I_ 30 [.tv 29] (.ld
  .one), I_ 31 [.sl 6] .mv, I_ 32 [.sl 8] .mv, I_ 33 [.tv 31, .tv 32] (.ia 1), I_ 34 [.tv 33] (.ld .one), I_ 35 [.cv (.func 51 [] []), .sl 30, .sl 34] (.call 3), I_ 36 [.tv 25, .tv 35] (.bin .add), I_ 7 [.tk 36] .mv])) (.reg
  false [I_ 23 [.tk 8] .mv, I_ 24 [.tv 23, .cv (.int .i64 1)] (.bin .add), I_ 8 [.tk 24] .mv])))))) (.seq (.reg false [I_ 37 [.tk 7] .mv, I_ 4 [.tk 37] .mv, I_ 5 [.cv (.int .i64 0)] .mv]) .ret)))))
theorem lk22 : linkF Go.Proofs.Try.prog ann22 22 = some (rc22, 38, [.tmp 4, .tmp 5]) := by kernel_rfl
noncomputable def rc23 : RC :=
  .seq (.reg false [I_ 2 [.tk 0] .box, I_ 4 [.cv (.lst [] 0 .full)] (.nil 1), I_ 5 [.cv (.int .i64 0)] .mv]) (.seq (.reg false [I_ 6 [.tv 2] (.ld (.str 1)), I_ 7 [.tk 1] .mv, I_ 8 [.cv (.func 62 [] []), .sl 6, .sl 7] (.call 3), I_
  9 [.sl 8] (.ext 0), I_ 10 [.tv 8] (.ext 1), I_ 4 [.tk 9] .mv, I_ 5 [.tk 10] .mv]) .ret)
theorem lk23 : linkF Go.Proofs.Try.prog ann23 23 = some (rc23, 11, [.tmp 4, .tmp 5]) := by kernel_rfl
noncomputable def rc25 : RC :=
  .seq (.reg false [I_ 1 [.tk 0] .box, I_ 2 [.cv (.int .i64 0)] .mv]) (.seq (.reg false [I_ 3 [.cv (.func 66 [] [])] .mv]) (.seq (.reg false [I_ 4 [.cv (.func 68 [] [])] .mv]) (.seq (.block 0 (.seq (.reg false [I_ 6 [.sl 1] (.fa
  0), I_ 7 [.tv 6] (.ld .one), I_ 8 [.tk 7] .lenS, I_ 9 [.tv 8] (.buildS 1 1 [.int .i64 0] [0]), I_ 10 [.cv (.func 67 [] []), .cv (.int .i64 2), .cv (.int .i64 4), .sl 9] (.call 3), I_ 11 [.tv 10] (.un .not), I_ 12 [.tk 11] .mv,
  ⟨some 13, [.sl 1], some (12, false), none, .fa 0⟩, ⟨some 14, [.tv 13], some (12, false), none, .ld .one⟩, ⟨some 15, [.tk 3], some (12, false), none, .mv⟩, ⟨some 16, [.cv (.func 69 [] []), .sl 14, .sl 15], some (12, false),
  none, .call 3⟩, I_ 17 [.tv 12, .cv (.bool true), .tv 16] .pick, I_ 5 [.tk 17] .mv]) (.cond (.sl 5) (.seq (.reg false [I_ 2 [.cv (.int .i64 6)] .mv]) .ret) (.seq (.reg false [I_ 19 [.sl 1] (.fa 0), I_ 20 [.tv 19] (.ld .one), I_
  21 [.tk 4] .mv, I_ 22 [.cv (.func 69 [] []), .sl 20, .sl 21] (.call 3), I_ 18 [.tk 22] .mv]) (.cond (.sl 18) (.seq (.reg false [I_ 2 [.cv (.int .i64 3)] .mv]) .ret) (.seq (.reg false [I_ 24 [.sl 1] (.fa 0), I_ 25 [.tv 24] (.ld
  .one), I_ 26 [.tv 1] (.mkF 70 0 1), I_ 27 [.cv (.func 69 [] []), .sl 25, .sl 26] (.call 6), I_ 23 [.tk 27] .mv]) (.cond (.sl 23) (.seq (.reg false [I_ 2 [.cv (.int .i64 15)] .mv]) .ret) .skip))))))) (.seq (.reg false [I_ 2 [.cv
  (.int .i64 0)] .mv]) .ret))))
theorem lk25 : linkF Go.Proofs.Try.prog ann25 25 = some (rc25, 28, [.tmp 2]) := by kernel_rfl
noncomputable def rc26 : RC :=
  .seq (.reg false [I_ 1 [.tk 0] .box, I_ 2 [.cv (.int .i64 0)] .mv]) (.seq (.seq (.reg false [I_ 7 [.sl 1] (.fa 0), I_ 8 [.tv 7] (.ld .one), I_ 9 [.tk 8] .lenS, I_ 10 [.tv 9, .cv (.int .i64 2)] (.bin .lss), I_ 11 [.tk 10] .mv,
  ⟨some 12, [.sl 1], some (11, false), none, .fa 0⟩, ⟨some 13, [.tv 12], some (11, false), none, .ld .one⟩, ⟨some 14, [.tk 13], some (11, false), none, .lenS⟩, ⟨some 15, [.tv 14, .cv (.int .i64 4)], some (11, false), none, .bin
  .gtr⟩, I_ 16 [.tv 11, .cv (.bool true), .tv 15] .pick]) (.cond (.sl 16) (.seq (.reg false [I_ 2 [.cv (.int .i64 6)] .mv]) .ret) .skip)) (.seq (.seq (.reg false [I_ 3 [.cv (.int .i64 0)] .mv]) (.block 0 (.loop (some [o_,i_,o_,i_,o_,o_,o_,o_,o_,o_,o_,o_,o_,o_,o_,o_,o_,o_,o_,o_,o_,o_,o_,o_,o_,o_,o_,o_,o_,o_,o_,o_,o_,o_,o_,o_,o_,o_,o_,o_,o_,o_,o_,o_,o_,o_,o_,o_,o_,o_,o_,o_,o_,o_,o_,o_,o_,o_,o_,o_,o_,o_,o_,o_,o_,o_,o_,o_,o_,o_,o_,o_,o_,o_,o_,o_,o_,o_,o_,o_,o_,o_,o_,o_,o_,o_,o_,o_,o_,o_,o_,o_,o_,o_,o_,o_]) (.seq
  (.seq (.reg false [I_ 17 [.sl 3] .mv, I_ 18 [.sl 1] (.fa 0), I_ 19 [.tv 18] (.ld .one), I_ 20 [.tk 19] .lenS, I_ 21 [.tv 17, .tv 20] (.bin .lss)]) (.cond (.sl 21) .skip (.exit 0))) (.seq (.block 1 (.seq (.reg false [I_ 24 [.sl
  1] (.fa 0), I_ 25 [.tv 24] (.ld .one), I_ 26 [.sl 3] .mv, I_ 27 [.tv 25, .tv 26] (.ia 1), I_ 28 [.tv 27] (.ld .one), I_ 29 [.tk 28] .lenS, I_ 30 [.tv 29, .cv (.int .i64 1)] (.bin .lss), I_ 31 [.tk 30] .mv, ⟨some 32, [.sl 1],
  some (31, false), none, .fa 0⟩, ⟨some 33, [.tv 32], some (31, false), none, .ld .one⟩, ⟨some 34, [.sl 3], some (31, false), none, .mv⟩, ⟨some 35, [.tv 33, .tv 34], some (31, false), none, .ia 1⟩, ⟨some 36, [.tv 35], some (31,
  false), none, .ld .one⟩, ⟨some 37, [.tk 36], some (31, false), none, .lenS⟩, ⟨some 38, [.tv 37, .cv (.int .i64 5)], some (31, false), none, .bin .gtr⟩, I_ 39 [.tv 31, .cv (.bool true), .tv 38] .pick]) (.cond (.sl 39) (.seq
  (.reg false [I_ 2 [.cv (.int .i64 6)] .mv]) .ret) .skip))) (.reg false [I_ 22 [.tk 3] .mv, I_ 23 [.tv 22, .cv (.int .i64 1)] (.bin .add), I_ 3 [.tk 23] .mv])))))) (.seq (.seq (.reg false [I_ 4 [.cv (.int .i64 0)] .mv]) (.block
  2 (.loop (some [o_,i_,o_,o_,i_,o_,o_,o_,o_,o_,o_,o_,o_,o_,o_,o_,o_,o_,o_,o_,o_,o_,o_,o_,o_,o_,o_,o_,o_,o_,o_,o_,o_,o_,o_,o_,o_,o_,o_,o_,o_,o_,o_,o_,o_,o_,o_,o_,o_,o_,o_,o_,o_,o_,o_,o_,o_,o_,o_,o_,o_,o_,o_,o_,o_,o_,o_,o_,o_,o_,o_,o_,o_,o_,o_,o_,o_,o_,o_,o_,o_,o_,o_,o_,o_,o_,o_,o_,o_,o_,o_,o_,o_,o_,o_,o_]) (.seq (.seq (.reg false [I_ 40 [.sl 4] .mv, I_ 41 [.sl 1] (.fa 0), I_ 42 [.tv 41] (.ld .one), I_ 43 [.tk 42] .lenS, I_ 44 [.tv 40, .tv 43] (.bin .lss)]) (.cond (.sl 44) .skip (.exit 2))) (.seq (.block 3 (.seq
  (.reg false [I_ 5 [.cv (.int .i64 0)] .mv]) (.block 4 (.loop (some [o_,i_,o_,o_,i_,i_,o_,o_,o_,o_,o_,o_,o_,o_,o_,o_,o_,o_,o_,o_,o_,o_,o_,o_,o_,o_,o_,o_,o_,o_,o_,o_,o_,o_,o_,o_,o_,o_,o_,o_,o_,o_,o_,o_,o_,o_,o_,o_,o_,o_,o_,o_,o_,o_,o_,o_,o_,o_,o_,o_,o_,o_,o_,o_,o_,o_,o_,o_,o_,o_,o_,o_,o_,o_,o_,o_,o_,o_,o_,o_,o_,o_,o_,o_,o_,o_,o_,o_,o_,o_,o_,o_,o_,o_,o_,o_]) (.seq (.seq (.reg false [I_ 47 [.sl 5] .mv, I_ 48 [.sl 1] (.fa 0), I_ 49 [.tv 48] (.ld .one), I_ 50 [.sl 4] .mv, I_ 51 [.tv 49, .tv 50] (.ia 1), I_ 52 [.tv 51]
  (.ld .one), I_ 53 [.tk 52] .lenS, I_ 54 [.tv 47, .tv 53] (.bin .lss)]) (.cond (.sl 54) .skip (.exit 4))) (.seq (.block 5 (.seq (.reg false [I_ 57 [.sl 1] (.fa 0), I_ 58 [.tv 57] (.ld .one), I_ 59 [.sl 4] .mv, I_ 60 [.tv 58, .tv
  59] (.ia 1), I_ 61 [.tv 60] (.ld .one), I_ 62 [.sl 5] .mv, I_ 63 [.tv 61, .tv 62] (.ia 1), I_ 64 [.tv 63] (.ld .one), I_ 65 [.tv 64, .cv (.int .i64 1)] (.bin .lss), I_ 66 [.tk 65] .mv, ⟨some 67, [.sl 1], some (66, false), none,
  .fa 0⟩, ⟨some 68, [.tv 67], some (66, false), none, .ld .one⟩, ⟨some 69, [.sl 4], some (66, false), none, .mv⟩, ⟨some 70, [.tv 68, .tv 69], some (66, false), none, .ia 1⟩, ⟨some 71, [.tv 70], some (66, false), none, .ld .one⟩,
  ⟨some 72, [.sl 5], some (66, false), none, .mv⟩, ⟨some 73, [.tv 71, .tv 72], some (66, false), none, .ia 1⟩, ⟨some 74, [.tv 73], some (66, false), none, .ld .one⟩, ⟨some 75, [.tv 74, .cv (.int .i64 100)], some (66, false),
  none, .bin .gtr⟩, I_ 76 [.tv 66, .cv (.bool true), .tv 75] .pick]) (.cond (.sl 76) (.seq (.reg false [I_ 2 [.cv (.int .i64 3)] .mv]) .ret) .skip))) (.reg false [I_ 55 [.tk 5] .mv, I_ 56 [.tv 55, .cv (.int .i64 1)] (.bin .add),
  I_ 5 [.tk 56] .mv]))))))) (.reg false [I_ 45 [.tk 4] .mv, I_ 46 [.tv 45, .cv (.int .i64 1)] (.bin .add), I_ 4 [.tk 46] .mv])))))) (.seq (.seq (.reg false [I_ 6 [.cv (.int .i64 1)] .mv]) (.block 6 (.loop (some [o_,i_,o_,o_,o_,o_,i_,o_,o_,o_,o_,o_,o_,o_,o_,o_,o_,o_,o_,o_,o_,o_,o_,o_,o_,o_,o_,o_,o_,o_,o_,o_,o_,o_,o_,o_,o_,o_,o_,o_,o_,o_,o_,o_,o_,o_,o_,o_,o_,o_,o_,o_,o_,o_,o_,o_,o_,o_,o_,o_,o_,o_,o_,o_,o_,o_,o_,o_,o_,o_,o_,o_,o_,o_,o_,o_,o_,o_,o_,o_,o_,o_,o_,o_,o_,o_,o_,o_,o_,o_,o_,o_,o_,o_,o_,o_]) (.seq (.seq
  (.reg false [I_ 77 [.sl 6] .mv, I_ 78 [.sl 1] (.fa 0), I_ 79 [.tv 78] (.ld .one), I_ 80 [.tk 79] .lenS, I_ 81 [.tv 77, .tv 80] (.bin .lss)]) (.cond (.sl 81) .skip (.exit 6))) (.seq (.block 7 (.seq (.reg true [I_ 84 [.sl 1] (.fa
  0), I_ 85 [.tv 84] (.ld .one), I_ 86 [.sl 6] .mv, I_ 87 [.tv 85, .tv 86] (.ia 1), I_ 88 [.tv 87] (.ld .one), I_ 89 [.cv (.func 53 [] []), .sl 88] (.call 3), I_ 90 [.sl 1] (.fa 0), I_ 91 [.tv 90] (.ld .one), I_ 92 [.tv 91, .cv
  (.int .i64 0)] (.ia 1), I_ 93 [.tv 92] (.ld .one), I_ 94 [.cv (.func 53 [] []), .sl 93] (.call 3), I_ 95 [.tv 89, .tv 94] (.bin .neq)]) (.cond (.sl 95) (.seq (.reg false [I_ 2 [.cv (.int .i64 15)] .mv]) .ret) .skip))) (.reg
  false [I_ 82 [.tk 6] .mv, I_ 83 [.tv 82, .cv (.int .i64 1)] (.bin .add), I_ 6 [.tk 83] .mv])))))) (.seq (.reg false [I_ 2 [.cv (.int .i64 0)] .mv]) .ret)))))
theorem lk26 : linkF Go.Proofs.Try.prog ann26 26 = some (rc26, 96, [.tmp 2]) := by kernel_rfl
noncomputable def rc33 : RC :=
  .seq (.reg false [I_ 1 [.tk 0] .box, I_ 2 [.cv (.int .i64 0)] .mv, I_ 3 [.cv (.int .i64 0)] .mv]) (.seq (.reg false [I_ 7 [.tv 1] (.ld (.str 1)), I_ 8 [.cv (.func 75 [] []), .sl 7, .cv (.lst [] 0 .full)] (.call 3), I_ 6 [.tk 8]
  .mv, I_ 9 [.sl 6] (.ext 0), I_ 10 [.tv 6] (.ext 1), I_ 4 [.tk 9] .mv, I_ 5 [.tk 10] .mv]) (.seq (.seq (.reg false [I_ 11 [.sl 5] .mv, I_ 12 [.tv 11, .cv (.int .i64 0)] (.bin .neq)]) (.cond (.sl 12) (.seq (.reg false [I_ 13 [.tk
  5] .mv, I_ 2 [.cv (.int .i64 0)] .mv, I_ 3 [.tk 13] .mv]) .ret) .skip)) (.seq (.reg false [I_ 14 [.sl 4] .mv, I_ 15 [.tk 4] .mv, I_ 16 [.cv (.func 77 [] []), .sl 15] (.call 3), I_ 17 [.cv (.func 76 [] []), .sl 14, .sl 16]
  (.call 3), I_ 18 [.cv (.func 63 [] []), .sl 17] (.call 2), I_ 19 [.tk 18] .lenM, I_ 2 [.tk 19] .mv, I_ 3 [.cv (.int .i64 0)] .mv]) .ret)))
theorem lk33 : linkF Go.Proofs.Try.prog ann33 33 = some (rc33, 20, [.tmp 2, .tmp 3]) := by kernel_rfl
noncomputable def rc35 : RC :=
  .seq (.reg false [I_ 1 [.tk 0] .box, I_ 2 [.cv (.lst [] 0 .full)] (.nil 1), I_ 3 [.cv (.int .i64 0)] .mv]) (.seq (.reg false [I_ 7 [.tv 1] (.ld (.str 1)), I_ 8 [.cv (.func 75 [] []), .sl 7, .cv (.lst [] 0 .full)] (.call 3), I_ 6
  [.tk 8] .mv, I_ 9 [.sl 6] (.ext 0), I_ 10 [.tv 6] (.ext 1), I_ 4 [.tk 9] .mv, I_ 5 [.tk 10] .mv]) (.seq (.seq (.reg false [I_ 11 [.sl 5] .mv, I_ 12 [.tv 11, .cv (.int .i64 0)] (.bin .neq)]) (.cond (.sl 12) (.seq (.reg false [I_
  13 [.tk 5] .mv, I_ 2 [.cv (.lst [] 0 .full)] (.nil 1), I_ 3 [.tk 13] .mv]) .ret) .skip)) (.seq (.reg false [I_ 14 [.tk 4] .mv, I_ 15 [.cv (.func 77 [] []), .sl 14] (.call 3), I_ 2 [.tk 15] .mv, I_ 3 [.cv (.int .i64 0)] .mv])
  .ret)))
theorem lk35 : linkF Go.Proofs.Try.prog ann35 35 = some (rc35, 16, [.tmp 2, .tmp 3]) := by kernel_rfl
noncomputable def rc37 : RC :=
  .seq (.reg false [I_ 2 [.tk 0] .box, I_ 4 [.cv (.int .i64 0)] .mv, I_ 5 [.cv (.int .i64 0)] .mv]) (.seq (.seq (.reg false [I_ 9 [.sl 2] (.ld (.str 1)), I_ 10 [.sl 1] .mv, I_ 11 [.tv 10] (.buildS 1 1 [.int .i64 0] [0]), I_ 12 [.cv
  (.func 75 [] []), .sl 9, .sl 11] (.call 3), I_ 8 [.tk 12] .mv, I_ 13 [.sl 8] (.ext 0), I_ 14 [.tv 8] (.ext 1), I_ 6 [.tk 13] .mv, I_ 7 [.tk 14] .mv]) (.seq (.reg false [I_ 15 [.sl 7] .mv, I_ 16 [.tv 15, .cv (.int .i64 0)] (.bin
  .neq)]) (.cond (.sl 16) (.seq (.reg false [I_ 17 [.tk 7] .mv, I_ 4 [.cv (.int .i64 0)] .mv, I_ 5 [.tk 17] .mv]) .ret) .skip))) (.seq (.seq (.reg false [I_ 18 [.sl 1] .mv, I_ 19 [.sl 2] (.fa 0), I_ 20 [.tv 19] (.ld .one), I_ 21
  [.tk 20] .lenS, I_ 22 [.tv 21, .cv (.int .i64 1)] (.bin .sub), I_ 23 [.tv 18, .tv 22] (.bin .eql)]) (.cond (.sl 23) (.seq (.reg false [I_ 4 [.cv (.int .i64 0)] .mv, I_ 5 [.cv (.int .i64 2)] .mv]) .ret) .skip)) (.seq (.reg false
  [I_ 24 [.tv 2] (.fa 0), I_ 25 [.tv 24] (.ld .one), I_ 26 [.sl 1] .mv, I_ 27 [.tk 1] .mv, I_ 28 [.tv 27, .cv (.int .i64 2)] (.bin .add), I_ 29 [.tk 25, .tk 26, .tk 28] (.slS 1 true true false), I_ 30 [.tv 29] (.build [.lst [] 0
  .full] [(0, 1)]), I_ 31 [.cv (.func 33 [] []), .sl 30] (.call 3), I_ 32 [.sl 31] (.ext 0), I_ 33 [.tv 31] (.ext 1), I_ 4 [.tk 32] .mv, I_ 5 [.tk 33] .mv]) .ret)))
theorem lk37 : linkF Go.Proofs.Try.prog ann37 37 = some (rc37, 34, [.tmp 4, .tmp 5]) := by kernel_rfl
noncomputable def rc42 : RC :=
  .seq (.reg false [I_ 2 [.tk 0] .box, I_ 3 [.tk 1] .box, I_ 4 [.cv (.lst [] 0 .full)] (.nil 1), I_ 5 [.cv (.int .i64 0)] .mv]) (.seq (.reg false [I_ 12 [.tv 2] (.ld (.str 1)), I_ 13 [.sl 3] (.ld .one), I_ 14 [.tv 13] (.buildS 1 1
  [.int .i64 0] [0]), I_ 15 [.cv (.func 75 [] []), .sl 12, .sl 14] (.call 3), I_ 11 [.tk 15] .mv, I_ 16 [.sl 11] (.ext 0), I_ 17 [.tv 11] (.ext 1), I_ 6 [] (.alloc [.nilp]), ⟨none, [.sl 6, .tk 16], none, none, .st 1⟩, I_ 7 [.tk
  17] .mv]) (.seq (.seq (.reg false [I_ 18 [.sl 7] .mv, I_ 19 [.tv 18, .cv (.int .i64 0)] (.bin .neq)]) (.cond (.sl 19) (.seq (.reg false [I_ 20 [.tk 7] .mv, I_ 4 [.cv (.lst [] 0 .full)] (.nil 1), I_ 5 [.tk 20] .mv]) .ret)
  .skip)) (.seq (.reg false [I_ 21 [.sl 6] (.ld .one), I_ 22 [.sl 3] (.ld .one), I_ 23 [.cv (.func 83 [] []), .sl 21, .sl 22] (.call 2), I_ 8 [] (.alloc [.lst [] 0 .full]), ⟨none, [.sl 8, .tk 23], none, none, .st 1⟩]) (.seq (.seq
  (.reg false [I_ 24 [.sl 6] (.ld .one), I_ 25 [.sl 3] (.ld .one), I_ 26 [.cv (.func 86 [] []), .sl 24, .sl 25] (.call 3)]) (.block 0 (.rng (.sl 26) [27] (rngA Go.Proofs.Try.prog 42 0) (rngB Go.Proofs.Try.prog 42 0)))) (.seq
  (.reg false [I_ 35 [.tv 8] (.ld .one), I_ 4 [.tk 35] .mv, I_ 5 [.cv (.int .i64 0)] .mv]) .ret)))))
theorem lk42 : linkF Go.Proofs.Try.prog ann42 42 = some (rc42, 36, [.tmp 4, .tmp 5]) := by kernel_rfl
noncomputable def rc48 : RC :=
  .seq (.reg false [I_ 1 [.tk 0] .box, I_ 2 [.cv (.bool false)] .mv]) (.seq (.reg false [I_ 3 [.sl 1] (.ld (.str 1)), I_ 4 [.cv (.func 18 [] []), .sl 3] (.call 3), I_ 5 [.tv 4] (.un .not), I_ 6 [.tk 5] .mv, ⟨some 7, [.tv 1], some
  (6, true), none, .ld (.str 1)⟩, ⟨some 8, [.cv (.func 26 [] []), .sl 7], some (6, true), none, .call 3⟩, ⟨some 9, [.tv 8, .cv (.int .i64 0)], some (6, true), none, .bin .eql⟩, I_ 10 [.tv 6, .tv 9, .cv (.bool false)] .pick, I_ 2
  [.tk 10] .mv]) .ret)
theorem lk48 : linkF Go.Proofs.Try.prog ann48 48 = some (rc48, 11, [.tmp 2]) := by kernel_rfl
noncomputable def rc49 : RC :=
  .seq (.reg false [I_ 1 [.tk 0] .box, I_ 2 [.cv (.int .i64 0)] .mv, I_ 3 [.cv (.bool false)] .mv]) (.seq (.reg false [I_ 11 [.sl 1] (.ld (.str 1)), I_ 12 [.cv (.func 33 [] []), .sl 11] (.call 3), I_ 10 [.tk 12] .mv, I_ 13 [.sl 10]
  (.ext 0), I_ 14 [.tv 10] (.ext 1), I_ 4 [.tk 13] .mv, I_ 5 [.tk 14] .mv]) (.seq (.reg false [I_ 16 [.sl 1] (.ld (.str 1)), I_ 17 [.cv (.func 35 [] []), .sl 16] (.call 3), I_ 15 [.tk 17] .mv, I_ 18 [.sl 15] (.ext 0), I_ 19 [.tv
  15] (.ext 1), I_ 6 [.tk 18] .mv, I_ 7 [.tk 19] .mv]) (.seq (.seq (.reg false [I_ 20 [.tk 5] .mv, I_ 21 [.tv 20, .cv (.int .i64 0)] (.bin .neq), I_ 22 [.tk 21] .mv, ⟨some 23, [.tk 7], some (22, false), none, .mv⟩, ⟨some 24, [.tv
  23, .cv (.int .i64 0)], some (22, false), none, .bin .neq⟩, I_ 25 [.tv 22, .cv (.bool true), .tv 24] .pick, I_ 26 [.tk 25] .mv, ⟨some 27, [.sl 6], some (26, false), none, .mv⟩, ⟨some 28, [.cv (.func 19 [] []), .sl 27], some
  (26, false), none, .call 3⟩, I_ 29 [.tv 26, .cv (.bool true), .tv 28] .pick]) (.cond (.sl 29) (.seq (.reg false [I_ 30 [.tk 4] .mv, I_ 2 [.tk 30] .mv, I_ 3 [.cv (.bool false)] .mv]) .ret) .skip)) (.seq (.reg false [I_ 32 [.sl
  1] (.ld (.str 1)), I_ 33 [.sl 6] .mv, I_ 34 [.cv (.func 21 [] []), .sl 32, .sl 33] (.call 3), I_ 31 [.tk 34] .mv, I_ 35 [.sl 31] (.ext 0), I_ 36 [.tv 31] (.ext 1), I_ 8 [.tk 35] .mv, I_ 5 [.tk 36] .mv]) (.seq (.reg false [I_ 38
  [.tv 1] (.ld (.str 1)), I_ 39 [.tk 6] .mv, I_ 40 [.cv (.func 22 [] []), .sl 38, .sl 39] (.call 3), I_ 37 [.tk 40] .mv, I_ 41 [.sl 37] (.ext 0), I_ 42 [.tv 37] (.ext 1), I_ 9 [.tk 41] .mv, I_ 7 [.tk 42] .mv]) (.seq (.reg false
  [I_ 43 [.sl 4] .mv, I_ 44 [.tk 5] .mv, I_ 45 [.tv 44, .cv (.int .i64 0)] (.bin .eql), I_ 46 [.tk 45] .mv, ⟨some 47, [.tk 7], some (46, true), none, .mv⟩, ⟨some 48, [.tv 47, .cv (.int .i64 0)], some (46, true), none, .bin .eql⟩,
  I_ 49 [.tv 46, .tv 48, .cv (.bool false)] .pick, I_ 50 [.tk 49] .mv, ⟨some 51, [.tk 8], some (50, true), none, .mv⟩, ⟨some 52, [.sl 4], some (50, true), none, .mv⟩, ⟨some 53, [.tv 51, .tv 52], some (50, true), none, .bin .eql⟩,
  I_ 54 [.tv 50, .tv 53, .cv (.bool false)] .pick, I_ 55 [.tk 54] .mv, ⟨some 56, [.tk 9], some (55, true), none, .mv⟩, ⟨some 57, [.tk 4], some (55, true), none, .mv⟩, ⟨some 58, [.tv 56, .tv 57], some (55, true), none, .bin .eql⟩,
  I_ 59 [.tv 55, .tv 58, .cv (.bool false)] .pick, I_ 2 [.tk 43] .mv, I_ 3 [.tk 59] .mv]) .ret))))))
theorem lk49 : linkF Go.Proofs.Try.prog ann49 49 = some (rc49, 60, [.tmp 2, .tmp 3]) := by kernel_rfl
noncomputable def rc50 : RC :=
  .seq (.reg false [I_ 2 [.tk 0] .box, I_ 4 [.cv (.lst [] 0 .full)] (.nil 1)]) (.seq (.reg false [I_ 5 [.cv (.lst [] 0 .full)] (.nil 1)]) (.seq (.reg false [I_ 6 [.cv (.int .i64 0)] .mv]) (.seq (.seq (.reg false [I_ 7 [.cv (.int
  .i64 0)] .mv]) (.block 0 (.loop (some [o_,i_,i_,o_,o_,i_,i_,i_,o_,o_,o_,o_,o_,o_,o_,o_,o_,o_,o_,o_,o_,o_,o_,o_,o_,o_,o_,o_,o_,o_,o_,o_,o_,o_,o_,o_,o_,o_,o_,o_,o_,o_,o_,o_,o_,o_,o_,o_,o_,o_,o_,o_,o_,o_,o_,o_,o_,o_,o_,o_,o_,o_,o_,o_,o_,o_,o_,o_,o_,o_,o_,o_,o_,o_]) (.seq (.seq (.reg false [I_ 12 [.sl 7] .mv, I_ 13 [.sl 2] (.fa 0), I_ 14 [.tv 13] (.ld .one), I_ 15 [.tk 14] .lenS, I_ 16
  [.tv 12, .tv 15] (.bin .lss)]) (.cond (.sl 16) .skip (.exit 0))) (.seq (.block 1 (.seq (.reg false [I_ 8 [.cv (.lst [] 0 .full)] (.nil 1), I_ 9 [.cv (.lst [] 0 .full)] (.nil 1)]) (.seq (.seq (.reg false [I_ 10 [.cv (.int .i64
  0)] .mv]) (.block 2 (.loop (some [o_,i_,i_,o_,o_,i_,i_,i_,i_,i_,i_,o_,o_,o_,o_,o_,o_,o_,o_,o_,o_,o_,o_,o_,o_,o_,o_,o_,o_,o_,o_,o_,o_,o_,o_,o_,o_,o_,o_,o_,o_,o_,o_,o_,o_,o_,o_,o_,o_,o_,o_,o_,o_,o_,o_,o_,o_,o_,o_,o_,o_,o_,o_,o_,o_,o_,o_,o_,o_,o_,o_,o_,o_,o_]) (.seq (.seq (.reg false [I_ 19 [.sl 10] .mv, I_ 20 [.sl 2] (.fa 0), I_ 21 [.tv 20] (.ld .one), I_ 22 [.sl 7] .mv, I_ 23 [.tv 21,
  .tv 22] (.ia 1), I_ 24 [.tv 23] (.ld .one), I_ 25 [.tk 24] .lenS, I_ 26 [.tv 19, .tv 25] (.bin .lss)]) (.cond (.sl 26) .skip (.exit 2))) (.seq (.block 3 (.reg false [I_ 29 [.tk 8] .mv, I_ 30 [.sl 10] .mv, I_ 31 [.tv 30]
  (.buildS 1 1 [.int .i64 0] [0]), I_ 32 [.tk 29, .tk 31] (.app 1 8), I_ 8 [.tk 32] .mv])) (.reg false [I_ 27 [.tk 10] .mv, I_ 28 [.tv 27, .cv (.int .i64 1)] (.bin .add), I_ 10 [.tk 28] .mv])))))) (.seq (.block 4 (.loop (some
  [o_,i_,i_,o_,o_,i_,i_,i_,i_,i_,o_,o_,o_,o_,o_,o_,o_,o_,o_,o_,o_,o_,o_,o_,o_,o_,o_,o_,o_,o_,o_,o_,o_,o_,o_,o_,o_,o_,o_,o_,o_,o_,o_,o_,o_,o_,o_,o_,o_,o_,o_,o_,o_,o_,o_,o_,o_,o_,o_,o_,o_,o_,o_,o_,o_,o_,o_,o_,o_,o_,o_,o_,o_,o_]) (.seq (.seq (.reg false [I_ 33 [.sl 8] .mv, I_ 34 [.tk 33] .lenS, I_ 35 [.tv 34, .cv (.int .i64 0)] (.bin .gtr)]) (.cond (.sl 35) .skip (.exit 4))) (.block 5 (.seq
  (.reg false [I_ 11 [.cv (.int .i64 0)] .mv]) (.seq (.seq (.reg false [I_ 36 [.sl 1] .mv, I_ 37 [.tk 36] .lenS, I_ 38 [.tv 37, .cv (.int .i64 0)] (.bin .gtr)]) (.cond (.sl 38) (.seq (.reg false [I_ 39 [.sl 1] .mv, I_ 40 [.sl 6]
  .mv, I_ 41 [.sl 1] .mv, I_ 42 [.tk 41] .lenS, I_ 43 [.tv 40, .tv 42] (.bin .rem), I_ 44 [.tv 39, .tv 43] (.ia 1), I_ 45 [.tv 44] (.ld .one), I_ 46 [.tv 45] (.conv .i64), I_ 47 [.sl 8] .mv, I_ 48 [.tk 47] .lenS, I_ 49 [.tv 46,
  .tv 48] (.bin .rem), I_ 11 [.tk 49] .mv]) (.reg false [I_ 50 [.tk 6] .mv, I_ 51 [.tv 50, .cv (.int .i64 1)] (.bin .add), I_ 6 [.tk 51] .mv])) .skip)) (.seq (.reg false [I_ 52 [.tk 9] .mv, I_ 53 [.sl 8] .mv, I_ 54 [.sl 11] .mv,
  I_ 55 [.tv 53, .tv 54] (.ia 1), I_ 56 [.tv 55] (.ld .one), I_ 57 [.tv 56] (.buildS 1 1 [.int .i64 0] [0]), I_ 58 [.tk 52, .tk 57] (.app 1 8), I_ 9 [.tk 58] .mv]) (.reg true [I_ 59 [] (.buildS 0 1 [.int .i64 0] []), I_ 60 [.sl
  8] .mv, I_ 61 [.sl 11] .mv, I_ 62 [.tk 60, .tk 61] (.slS 1 false true false), I_ 63 [.tk 59, .tk 62] (.app 1 8), I_ 64 [.sl 8] .mv, I_ 65 [.sl 11] .mv, I_ 66 [.tv 65, .cv (.int .i64 1)] (.bin .add), I_ 67 [.tk 64, .tk 66] (.slS
  1 true false false), I_ 68 [.tk 63, .tk 67] (.app 1 8), I_ 8 [.tk 68] .mv])))))))) (.reg false [I_ 69 [.tk 5] .mv, I_ 70 [.tk 9] .mv, I_ 71 [.tv 70] (.buildS 1 1 [.lst [] 0 .full] [0]), I_ 72 [.tk 69, .tk 71] (.app 1 24), I_ 5
  [.tk 72] .mv]))))) (.reg false [I_ 17 [.tk 7] .mv, I_ 18 [.tv 17, .cv (.int .i64 1)] (.bin .add), I_ 7 [.tk 18] .mv])))))) (.seq (.reg false [I_ 73 [.tk 5] .mv, I_ 4 [.tk 73] .mv]) .ret))))
theorem lk50 : linkF Go.Proofs.Try.prog ann50 50 = some (rc50, 74, [.tmp 4]) := by kernel_rfl
noncomputable def rc51 : RC :=
  .seq (.reg false [I_ 4 [.cv (.int .i64 0)] .mv]) (.seq (.reg false [I_ 5 [.cv (.int .i64 0)] .mv]) (.seq (.seq (.reg false [I_ 6 [.cv (.int .i64 0)] .mv]) (.block 0 (.loop (some [i_,i_,o_,o_,o_,i_,i_,o_,o_,o_,o_,o_,o_,o_,o_,o_,o_,o_,o_,o_,o_,o_]) (.seq (.seq (.reg false [I_ 7 [.sl 6] .mv, I_ 8 [.sl 0] .mv, I_ 9 [.tk 8] .lenS, I_ 10 [.tv 7, .tv 9] (.bin .lss)])
  (.cond (.sl 10) .skip (.exit 0))) (.seq (.block 1 (.seq (.reg false [I_ 13 [.sl 1] .mv, I_ 14 [.sl 0] .mv, I_ 15 [.sl 6] .mv, I_ 16 [.tv 14, .tv 15] (.ia 1), I_ 17 [.tv 16] (.ld .one), I_ 18 [.cv (.func 52 [] []), .sl 13, .sl
  17] (.call 3)]) (.cond (.sl 18) (.reg false [I_ 19 [.tk 5] .mv, I_ 20 [.tv 19, .cv (.int .i64 1)] (.bin .add), I_ 5 [.tk 20] .mv]) .skip))) (.reg false [I_ 11 [.tk 6] .mv, I_ 12 [.tv 11, .cv (.int .i64 1)] (.bin .add), I_ 6
  [.tk 12] .mv])))))) (.seq (.reg false [I_ 21 [.tk 5] .mv, I_ 4 [.tk 21] .mv]) .ret)))
theorem lk51 : linkF Go.Proofs.Try.prog ann51 51 = some (rc51, 22, [.tmp 4]) := by kernel_rfl
noncomputable def rc52 : RC :=
  .seq (.reg false [I_ 4 [.cv (.bool false)] .mv]) (.seq (.seq (.reg false [I_ 5 [.cv (.int .i64 0)] .mv]) (.block 0 (.loop (some [i_,i_,o_,o_,o_,i_,o_,o_,o_,o_,o_,o_,o_,o_,o_,o_,o_,o_]) (.seq (.seq (.reg false [I_ 6 [.sl 5] .mv, I_ 7 [.sl 0] .mv, I_ 8 [.tk 7] .lenS, I_ 9 [.tv 6, .tv 8] (.bin .lss)]) (.cond (.sl 9) .skip (.exit 0))) (.seq (.block 1 (.seq (.reg false [I_ 12 [.sl 0]
  .mv, I_ 13 [.sl 5] .mv, I_ 14 [.tv 12, .tv 13] (.ia 1), I_ 15 [.tv 14] (.ld .one), I_ 16 [.sl 1] .mv, I_ 17 [.tv 15, .tv 16] (.bin .eql)]) (.cond (.sl 17) (.seq (.reg false [I_ 4 [.cv (.bool true)] .mv]) .ret) .skip))) (.reg
  false [I_ 10 [.tk 5] .mv, I_ 11 [.tv 10, .cv (.int .i64 1)] (.bin .add), I_ 5 [.tk 11] .mv])))))) (.seq (.reg false [I_ 4 [.cv (.bool false)] .mv]) .ret))
theorem lk52 : linkF Go.Proofs.Try.prog ann52 52 = some (rc52, 18, [.tmp 4]) := by kernel_rfl
noncomputable def rc53 : RC :=
  .seq (.reg false [I_ 2 [.cv (.int .i64 0)] .mv]) (.seq (.reg false [I_ 3 [.cv (.int .i64 0)] .mv]) (.seq (.seq (.reg false [I_ 4 [.cv (.int .i64 0)] .mv]) (.block 0 (.loop (some [i_,o_,o_,i_,i_,o_,o_,o_,o_,o_,o_,o_,o_,o_,o_,o_,o_,o_]) (.seq (.seq (.reg false [I_ 5 [.sl 4] .mv, I_ 6 [.sl 0] .mv, I_ 7 [.tk 6] .lenS, I_ 8 [.tv 5, .tv 7] (.bin .lss)]) (.cond (.sl 8) .skip (.exit 0)))
  (.seq (.block 1 (.reg false [I_ 11 [.tk 3] .mv, I_ 12 [.sl 0] .mv, I_ 13 [.sl 4] .mv, I_ 14 [.tv 12, .tv 13] (.ia 1), I_ 15 [.tv 14] (.ld .one), I_ 16 [.tv 11, .tv 15] (.bin .add), I_ 3 [.tk 16] .mv])) (.reg false [I_ 9 [.tk 4]
  .mv, I_ 10 [.tv 9, .cv (.int .i64 1)] (.bin .add), I_ 4 [.tk 10] .mv])))))) (.seq (.reg false [I_ 17 [.tk 3] .mv, I_ 2 [.tk 17] .mv]) .ret)))
theorem lk53 : linkF Go.Proofs.Try.prog ann53 53 = some (rc53, 18, [.tmp 2]) := by kernel_rfl
end Go.Proofs.Ytlcebaejlnpdeaa.Ab

/- MADE BY PROGRAM (rc.py): functions, looked up. -/
namespace Go.Proofs.Ytlcebaejlnpdeaa.Ab
open Go
noncomputable def rc62 : RC :=
  .seq (.reg false [I_ 2 [.tk 0] .box, I_ 4 [.cv (.lst [] 0 .full)] (.nil 1), I_ 5 [.cv (.int .i64 0)] .mv]) (.seq (.reg false [I_ 13 [.sl 2] (.ld (.str 1)), I_ 14 [.cv (.func 75 [] []), .sl 13, .cv (.lst [] 0 .full)] (.call 3), I_
  12 [.tk 14] .mv, I_ 15 [.sl 12] (.ext 0), I_ 16 [.tv 12] (.ext 1), I_ 6 [.tk 15] .mv, I_ 7 [.tk 16] .mv]) (.seq (.block 0 (.seq (.reg false [I_ 18 [.sl 7] .mv, I_ 19 [.tv 18, .cv (.int .i64 0)] (.bin .neq), I_ 17 [.tk 19] .mv])
  (.cond (.sl 17) (.seq (.reg false [I_ 20 [.tk 7] .mv, I_ 4 [.cv (.lst [] 0 .full)] (.nil 1), I_ 5 [.tk 20] .mv]) .ret) (.seq (.reg false [I_ 22 [.sl 1] .mv, I_ 23 [.tk 22] .lenS, I_ 24 [.tv 2] (.fa 0), I_ 25 [.tv 24] (.ld
  .one), I_ 26 [.tk 25] .lenS, I_ 27 [.tv 23, .tv 26] (.bin .neq), I_ 21 [.tk 27] .mv]) (.cond (.sl 21) (.seq (.reg false [I_ 4 [.cv (.lst [] 0 .full)] (.nil 1), I_ 5 [.cv (.int .i64 15)] .mv]) .ret) .skip))))) (.seq (.reg false
  [I_ 28 [.sl 6] .mv, I_ 29 [.tv 28] (.mkF 93 1 0), I_ 8 [.tk 29] .mv]) (.seq (.reg false [I_ 9 [.cv (.lst [] 0 .full)] (.nil 1)]) (.seq (.seq (.reg false [I_ 30 [.tk 1] .mv, I_ 31 [.sl 30] .lenS, I_ 32 [.cv (.int .i64 0)] .mv])
  (.block 1 (.loop (some [o_,o_,o_,o_,o_,o_,i_,o_,i_,i_,o_,o_,o_,o_,o_,o_,o_,o_,o_,o_,o_,o_,o_,o_,o_,o_,o_,o_,o_,o_,i_,i_,i_,o_,o_,o_,o_,o_,o_,o_,o_,o_,o_,o_,o_,o_,o_,o_,o_,o_,o_]) (.seq (.reg false [I_ 33 [.sl 32, .sl 31] (.bin .lss)]) (.seq (.cond (.sl
  33) .skip (.exit 1)) (.seq (.block 2 (.seq (.reg false [I_ 34 [.sl 32] .mv, I_ 35 [.sl 30, .sl 32] (.ia 1), I_ 36 [.tv 35] (.ld .one), I_ 10 [.tk 34] .mv, I_ 11 [.tk 36] .mv]) (.seq (.seq (.reg false [I_ 37 [.sl 8] .mv, I_ 38
  [.sl 10] .mv, I_ 39 [.sl 11] .mv, I_ 40 [.sl 37, .sl 38, .sl 39] (.call 3), I_ 41 [.tv 40] (.un .not)]) (.cond (.sl 41) (.seq (.reg false [I_ 4 [.cv (.lst [] 0 .full)] (.nil 1), I_ 5 [.cv (.int .i64 16)] .mv]) .ret) .skip))
  (.reg false [I_ 42 [.tk 9] .mv, I_ 43 [.sl 6] .mv, I_ 44 [.tk 10] .mv, I_ 45 [.tk 11] .mv, I_ 46 [.cv (.func 87 [] []), .sl 43, .sl 44, .sl 45] (.call 3), I_ 47 [.tv 46] (.buildS 1 1 [.lst [] 0 .full] [0]), I_ 48 [.tk 42, .tk
  47] (.app 1 24), I_ 9 [.tk 48] .mv])))) (.reg false [I_ 49 [.tv 32, .cv (.int .i64 1)] (.bin .add), I_ 32 [.tk 49] .mv]))))))) (.seq (.reg false [I_ 50 [.tk 9] .mv, I_ 4 [.tk 50] .mv, I_ 5 [.cv (.int .i64 0)] .mv]) .ret))))))
theorem lk62 : linkF Go.Proofs.Try.prog ann62 62 = some (rc62, 51, [.tmp 4, .tmp 5]) := by kernel_rfl
noncomputable def rc63 : RC :=
  .seq (.reg false [I_ 2 [.cv .junk] .mv]) (.seq (.reg false [I_ 9 [] .mkM, I_ 3 [.tk 9] .mv]) (.seq (.seq (.reg false [I_ 10 [.sl 0] .mv, I_ 11 [.sl 10] .lenS, I_ 12 [.cv (.int .i64 0)] .mv]) (.block 0 (.loop (some [i_,o_,o_,i_,o_,o_,o_,o_,o_,o_,i_,i_,i_,o_,o_,o_,o_,o_,o_,o_,o_,o_,o_,o_,o_,o_,o_,o_,o_,o_,o_,o_,o_,o_,o_,o_,o_,o_,o_,o_,o_,o_,o_,o_,o_,o_,o_,o_,o_,o_,o_,o_,o_,o_,o_,o_]) (.seq (.reg false [I_ 13 [.sl 12, .sl 11] (.bin .lss)]) (.seq (.cond (.sl 13)
  .skip (.exit 0)) (.seq (.block 1 (.seq (.reg false [I_ 14 [.sl 12] .mv, I_ 15 [.sl 10, .sl 12] (.ia 1), I_ 16 [.tv 15] (.ld .one), I_ 4 [.tk 14] .mv, I_ 5 [.tk 16] .mv]) (.seq (.reg false [I_ 17 [.tk 5] .mv, I_ 18 [.sl 17]
  .lenS, I_ 19 [.cv (.int .i64 0)] .mv]) (.block 2 (.loop (some [i_,o_,o_,i_,i_,o_,o_,o_,o_,o_,i_,i_,i_,o_,o_,o_,o_,i_,i_,i_,o_,o_,o_,o_,o_,o_,o_,o_,o_,o_,o_,o_,o_,o_,o_,o_,o_,o_,o_,o_,o_,o_,o_,o_,o_,o_,o_,o_,o_,o_,o_,o_,o_,o_,o_,o_])
  (.seq (.reg false [I_ 20 [.sl 19, .sl 18] (.bin .lss)]) (.seq (.cond (.sl 20) .skip (.exit 2)) (.seq (.block 3 (.seq (.reg false [I_ 21 [.sl 17, .sl 19] (.ia 1), I_ 22 [.tv 21] (.ld .one), I_ 7 [.tk 22] .mv]) (.reg false [I_ 23
  [.sl 3] .mv, I_ 24 [.sl 4] .mv, I_ 25 [.tk 7] .mv, I_ 26 [.tv 24, .tv 25] (.build [.int .i64 0, .int .i64 0] [(0, 1), (1, 1)]), ⟨none, [.tv 23, .tv 26, .cv (.int .i64 1)], none, none, .mUp (.str 2)⟩]))) (.reg false [I_ 27 [.tv
  19, .cv (.int .i64 1)] (.bin .add), I_ 19 [.tk 27] .mv]))))))))) (.reg false [I_ 28 [.tv 12, .cv (.int .i64 1)] (.bin .add), I_ 12 [.tk 28] .mv]))))))) (.seq (.seq (.reg false [I_ 29 [.sl 3] .mv, I_ 30 [.tv 29] .rngM]) (.block
  4 (.loop (some [i_,o_,o_,i_,o_,o_,o_,o_,o_,o_,o_,o_,o_,o_,o_,o_,o_,o_,o_,o_,o_,o_,o_,o_,o_,o_,o_,o_,o_,o_,i_,o_,o_,o_,o_,o_,o_,o_,o_,o_,o_,o_,o_,o_,o_,o_,o_,o_,o_,o_,o_,o_,o_,o_,o_,o_]) (.seq (.nxt 30 (some 31) [I_ 32 [.tv 31]
  (.ext 0)]) (.seq (.cond (.sl 32) .skip (.exit 4)) (.block 5 (.seq (.reg false [I_ 33 [.sl 30] .ent, I_ 34 [.tv 33] (.ext 0), I_ 8 [] (.alloc [.int .i64 0, .int .i64 0]), ⟨none, [.sl 8, .tk 34], none, none, .st 2⟩]) (.seq (.reg
  true [I_ 35 [.sl 8] (.fa 0), I_ 36 [.tv 35] (.ld .one), I_ 37 [.tv 36, .cv (.int .i64 1)] (.bin .add), I_ 38 [.sl 0] .mv, I_ 39 [.tk 38] .lenS, I_ 40 [.tv 37, .tv 39] (.bin .eql), I_ 41 [.tk 40] .mv, ⟨some 42, [.sl 0], some
  (41, false), none, .mv⟩, ⟨some 43, [.sl 8], some (41, false), none, .fa 0⟩, ⟨some 44, [.tv 43], some (41, false), none, .ld .one⟩, ⟨some 45, [.tv 44, .cv (.int .i64 1)], some (41, false), none, .bin .add⟩, ⟨some 46, [.tv 42,
  .tv 45], some (41, false), none, .ia 1⟩, ⟨some 47, [.tv 46], some (41, false), none, .ld .one⟩, ⟨some 48, [.sl 8], some (41, false), none, .fa 1⟩, ⟨some 49, [.tv 48], some (41, false), none, .ld .one⟩, ⟨some 50, [.cv (.func 72
  [] []), .sl 47, .sl 49], some (41, false), none, .call 3⟩, ⟨some 51, [.tv 50], some (41, false), none, .un .not⟩, I_ 52 [.sl 41, .cv (.bool true), .tv 51] .pick]) (.cond (.sl 52) (.reg false [I_ 53 [.sl 3] .mv, I_ 54 [.tv 8]
  (.ld (.str 2)), ⟨none, [.tk 53, .tk 54], none, none, .mDel (.str 2)⟩]) .skip))))))))) (.seq (.reg false [I_ 55 [.tk 3] .mv, I_ 2 [.tk 55] .mv]) .ret))))
theorem lk63 : linkF Go.Proofs.Try.prog ann63 63 = some (rc63, 56, [.tmp 2]) := by kernel_rfl
noncomputable def rc64 : RC :=
  .seq (.reg false [I_ 2 [.tk 0] .box, I_ 4 [.cv (.int .i64 0)] .mv]) (.seq (.seq (.reg false [I_ 6 [.sl 2] (.ld (.str 1)), I_ 7 [.cv (.func 26 [] []), .sl 6] (.call 3), I_ 8 [.tv 7, .cv (.int .i64 0)] (.bin .neq)]) (.cond (.sl 8)
  (.seq (.reg false [I_ 9 [.tv 2] (.ld (.str 1)), I_ 10 [.cv (.func 26 [] []), .sl 9] (.call 3), I_ 4 [.tk 10] .mv]) .ret) .skip)) (.seq (.seq (.reg false [I_ 11 [.sl 1] .mv, I_ 12 [.tk 11] .lenS, I_ 13 [.sl 2] (.fa 0), I_ 14
  [.tv 13] (.ld .one), I_ 15 [.tk 14] .lenS, I_ 16 [.tv 12, .tv 15] (.bin .neq)]) (.cond (.sl 16) (.seq (.reg false [I_ 4 [.cv (.int .i64 15)] .mv]) .ret) .skip)) (.seq (.seq (.reg false [I_ 5 [.cv (.int .i64 0)] .mv]) (.block 0
  (.loop (some [o_,i_,i_,o_,o_,i_,o_,o_,o_,o_,o_,o_,o_,o_,o_,o_,o_,o_,o_,o_,o_,o_,o_,o_,o_,o_,o_,o_,o_,o_,o_,o_,o_,o_,o_]) (.seq (.seq (.reg false [I_ 17 [.sl 5] .mv, I_ 18 [.sl 1] .mv, I_ 19 [.tk 18] .lenS, I_ 20 [.tv 17, .tv 19] (.bin .lss)]) (.cond (.sl 20) .skip (.exit 0))) (.seq (.block 1 (.seq (.reg true [I_ 23
  [.sl 1] .mv, I_ 24 [.sl 5] .mv, I_ 25 [.tv 23, .tv 24] (.ia 1), I_ 26 [.tv 25] (.ld .one), I_ 27 [.sl 2] (.fa 0), I_ 28 [.tv 27] (.ld .one), I_ 29 [.sl 5] .mv, I_ 30 [.tv 28, .tv 29] (.ia 1), I_ 31 [.tv 30] (.ld .one), I_ 32
  [.tk 31] .lenS, I_ 33 [.cv (.func 94 [] []), .sl 26, .sl 32] (.call 3), I_ 34 [.tv 33] (.un .not)]) (.cond (.sl 34) (.seq (.reg false [I_ 4 [.cv (.int .i64 16)] .mv]) .ret) .skip))) (.reg false [I_ 21 [.tk 5] .mv, I_ 22 [.tv
  21, .cv (.int .i64 1)] (.bin .add), I_ 5 [.tk 22] .mv])))))) (.seq (.reg false [I_ 4 [.cv (.int .i64 0)] .mv]) .ret))))
theorem lk64 : linkF Go.Proofs.Try.prog ann64 64 = some (rc64, 35, [.tmp 4]) := by kernel_rfl
noncomputable def rc65 : RC :=
  .seq (.reg false [I_ 2 [.tk 0] .box, I_ 4 [.cv (.lst [] 0 .full)] (.nil 1)]) (.seq (.reg false [I_ 5 [.cv (.lst [] 0 .full)] (.nil 1)]) (.seq (.seq (.reg false [I_ 6 [.cv (.int .i64 0)] .mv]) (.block 0 (.loop (some [o_,i_,i_,o_,o_,i_,i_,o_,o_,o_,o_,o_,o_,o_,o_,o_,o_,o_,o_,o_,o_,o_,o_,o_,o_,o_,o_]) (.seq (.seq (.reg false [I_ 7 [.sl 6] .mv, I_ 8 [.sl
  1] .mv, I_ 9 [.tk 8] .lenS, I_ 10 [.tv 7, .tv 9] (.bin .lss)]) (.cond (.sl 10) .skip (.exit 0))) (.seq (.block 1 (.reg true [I_ 13 [.tk 5] .mv, I_ 14 [.sl 2] (.fa 0), I_ 15 [.tv 14] (.ld .one), I_ 16 [.sl 6] .mv, I_ 17 [.tv 15,
  .tv 16] (.ia 1), I_ 18 [.tv 17] (.ld .one), I_ 19 [.sl 1] .mv, I_ 20 [.sl 6] .mv, I_ 21 [.tv 19, .tv 20] (.ia 1), I_ 22 [.tv 21] (.ld .one), I_ 23 [.cv (.func 95 [] []), .sl 18, .sl 22] (.call 3), I_ 24 [.tv 23] (.buildS 1 1
  [.lst [] 0 .full] [0]), I_ 25 [.tk 13, .tk 24] (.app 1 24), I_ 5 [.tk 25] .mv])) (.reg false [I_ 11 [.tk 6] .mv, I_ 12 [.tv 11, .cv (.int .i64 1)] (.bin .add), I_ 6 [.tk 12] .mv])))))) (.seq (.reg false [I_ 26 [.tk 5] .mv, I_ 4
  [.tk 26] .mv]) .ret)))
theorem lk65 : linkF Go.Proofs.Try.prog ann65 65 = some (rc65, 27, [.tmp 4]) := by kernel_rfl
noncomputable def rc66 : RC :=
  .seq (.reg false [I_ 2 [.cv (.bool false)] .mv]) (.seq (.reg false [I_ 3 [.tk 0] .mv, I_ 4 [.tk 3] .lenS, I_ 5 [.tv 4] (.buildS 1 1 [.int .i64 0] [0]), I_ 6 [.cv (.func 67 [] []), .cv (.int .i64 1), .cv (.int .i64 5), .sl 5]
  (.call 3), I_ 7 [.tv 6] (.un .not), I_ 2 [.tk 7] .mv]) .ret)
theorem lk66 : linkF Go.Proofs.Try.prog ann66 66 = some (rc66, 8, [.tmp 2]) := by kernel_rfl
noncomputable def rc67 : RC :=
  .seq (.reg false [I_ 3 [.tk 0] .box, I_ 4 [.tk 1] .box, I_ 6 [.cv (.bool false)] .mv]) (.seq (.reg false [I_ 7 [.tk 2] .mv, I_ 8 [.tv 3, .tv 4] (.mkF 97 0 2), I_ 9 [.cv (.func 96 [] []), .sl 7, .sl 8] (.call 6), I_ 10 [.tv 9]
  (.un .not), I_ 6 [.tk 10] .mv]) .ret)
theorem lk67 : linkF Go.Proofs.Try.prog ann67 67 = some (rc67, 11, [.tmp 6]) := by kernel_rfl
noncomputable def rc68 : RC :=
  .seq (.reg false [I_ 2 [.cv (.bool false)] .mv]) (.seq (.reg false [I_ 3 [.tk 0] .mv, I_ 4 [.cv (.func 67 [] []), .cv (.int .i64 1), .cv (.int .i64 100), .sl 3] (.call 3), I_ 5 [.tv 4] (.un .not), I_ 2 [.tk 5] .mv]) .ret)
theorem lk68 : linkF Go.Proofs.Try.prog ann68 68 = some (rc68, 6, [.tmp 2]) := by kernel_rfl
noncomputable def rc69 : RC :=
  .seq (.reg false [I_ 4 [.cv (.bool false)] .mv]) (.seq (.reg false [I_ 5 [.tk 0] .mv, I_ 6 [.tk 1] .mv, I_ 7 [.cv (.func 98 [] []), .sl 5, .sl 6] (.call 6), I_ 8 [.tv 7, .cv (.int .i64 0)] (.bin .geq), I_ 4 [.tk 8] .mv]) .ret)
theorem lk69 : linkF Go.Proofs.Try.prog ann69 69 = some (rc69, 9, [.tmp 4]) := by kernel_rfl
noncomputable def rc70 : RC :=
  .seq (.reg false [I_ 3 [.cv (.bool false)] .mv]) (.seq (.reg true [I_ 4 [.tk 0] .mv, I_ 5 [.cv (.func 71 [] []), .sl 4] (.call 3), I_ 6 [.tv 1] (.fa 0), I_ 7 [.tv 6] (.ld .one), I_ 8 [.tv 7, .cv (.int .i64 0)] (.ia 1), I_ 9 [.tv
  8] (.ld .one), I_ 10 [.cv (.func 71 [] []), .sl 9] (.call 3), I_ 11 [.tv 5, .tv 10] (.bin .neq), I_ 3 [.tk 11] .mv]) .ret)
theorem lk70 : linkF Go.Proofs.Try.prog ann70 70 = some (rc70, 12, [.tmp 3]) := by kernel_rfl
noncomputable def rc71 : RC :=
  .seq (.reg false [I_ 2 [.cv (.int .i64 0)] .mv]) (.seq (.reg false [I_ 3 [.cv (.int .i64 0)] .mv]) (.seq (.seq (.reg false [I_ 6 [.tk 0] .mv, I_ 7 [.sl 6] .lenS, I_ 8 [.cv (.int .i64 0)] .mv]) (.block 0 (.loop (some [o_,o_,o_,i_,o_,o_,i_,i_,i_,o_,o_,o_,o_,o_,o_,o_,o_]) (.seq (.reg false [I_ 9 [.sl 8, .sl 7] (.bin .lss)]) (.seq (.cond (.sl 9) .skip (.exit 0)) (.seq (.block 1 (.seq (.reg
  false [I_ 10 [.sl 6, .sl 8] (.ia 1), I_ 11 [.tv 10] (.ld .one), I_ 5 [.tk 11] .mv]) (.reg false [I_ 12 [.tk 3] .mv, I_ 13 [.tk 5] .mv, I_ 14 [.tv 12, .tv 13] (.bin .add), I_ 3 [.tk 14] .mv]))) (.reg false [I_ 15 [.tv 8, .cv
  (.int .i64 1)] (.bin .add), I_ 8 [.tk 15] .mv]))))))) (.seq (.reg false [I_ 16 [.tk 3] .mv, I_ 2 [.tk 16] .mv]) .ret)))
theorem lk71 : linkF Go.Proofs.Try.prog ann71 71 = some (rc71, 17, [.tmp 2]) := by kernel_rfl
noncomputable def rc72 : RC :=
  .seq (.reg false [I_ 4 [.cv (.bool false)] .mv]) (.seq (.reg false [I_ 5 [.tk 0] .mv, I_ 6 [.tk 1] .mv, I_ 7 [.cv (.func 99 [] []), .sl 5, .sl 6] (.call 3), I_ 8 [.tv 7, .cv (.int .i64 0)] (.bin .geq), I_ 4 [.tk 8] .mv]) .ret)
theorem lk72 : linkF Go.Proofs.Try.prog ann72 72 = some (rc72, 9, [.tmp 4]) := by kernel_rfl
noncomputable def rc75 : RC :=
  .seq (.reg false [I_ 2 [.tk 0] .box, I_ 4 [.cv .nilp] .mv, I_ 5 [.cv (.int .i64 0)] .mv]) (.seq (.seq (.reg false [I_ 9 [.sl 2] (.ld (.str 1)), I_ 10 [.cv (.func 25 [] []), .sl 9] (.call 3), I_ 6 [.tk 10] .mv]) (.seq (.reg false
  [I_ 11 [.sl 6] .mv, I_ 12 [.tv 11, .cv (.int .i64 0)] (.bin .neq)]) (.cond (.sl 12) (.seq (.reg false [I_ 13 [.tk 6] .mv, I_ 4 [.cv .nilp] .mv, I_ 5 [.tk 13] .mv]) .ret) .skip))) (.seq (.seq (.reg false [I_ 14 [.tk 1] .mv, I_
  15 [.sl 14] .lenS, I_ 16 [.cv (.int .i64 0)] .mv]) (.block 0 (.loop (some [o_,o_,i_,o_,o_,o_,o_,o_,o_,o_,o_,o_,o_,o_,i_,i_,i_,o_,o_,o_,o_,o_,o_,o_,o_,o_,o_,o_,o_,o_,o_,o_]) (.seq (.reg false [I_ 17 [.sl 16, .sl 15] (.bin .lss)]) (.seq (.cond (.sl 17) .skip (.exit 0)) (.seq (.block 1 (.seq (.reg false [I_ 18 [.sl 14, .sl 16]
  (.ia 1), I_ 19 [.tv 18] (.ld .one), I_ 8 [.tk 19] .mv]) (.seq (.reg false [I_ 20 [.sl 2] (.fa 0), I_ 21 [.tv 20] (.ld .one), I_ 22 [.tk 21] .lenS, I_ 23 [.tv 22, .cv (.int .i64 1)] (.bin .sub), I_ 24 [.tk 8] .mv, I_ 25 [.tv 24]
  (.buildS 1 1 [.int .i64 0] [0]), I_ 26 [.cv (.func 67 [] []), .cv (.int .i64 0), .sl 23, .sl 25] (.call 3), I_ 27 [.tv 26] (.un .not)]) (.cond (.sl 27) (.seq (.reg false [I_ 4 [.cv .nilp] .mv, I_ 5 [.cv (.int .i64 2)] .mv])
  .ret) .skip)))) (.reg false [I_ 28 [.tv 16, .cv (.int .i64 1)] (.bin .add), I_ 16 [.tk 28] .mv]))))))) (.seq (.reg false [I_ 29 [.tv 2] (.ld (.str 1)), I_ 30 [.tv 29] (.build [.lst [] 0 .full] [(0, 1)]), I_ 31 [.tk 30] .box, I_
  4 [.tk 31] .mv, I_ 5 [.cv (.int .i64 0)] .mv]) .ret)))
theorem lk75 : linkF Go.Proofs.Try.prog ann75 75 = some (rc75, 32, [.tmp 4, .tmp 5]) := by kernel_rfl
noncomputable def rc76 : RC :=
  .seq (.reg false [I_ 4 [.cv (.lst [] 0 .full)] (.nil 1)]) (.seq (.reg false [I_ 5 [.cv (.lst [] 0 .full)] (.nil 1)]) (.seq (.seq (.reg false [I_ 8 [.tk 1] .mv, I_ 9 [.sl 8] .lenS, I_ 10 [.cv (.int .i64 0)] .mv]) (.block 0 (.loop
  (some [i_,o_,o_,o_,o_,i_,o_,o_,i_,i_,i_,o_,o_,o_,o_,o_,o_,o_,o_,o_,o_,o_,o_,o_]) (.seq (.reg false [I_ 11 [.sl 10, .sl 9] (.bin .lss)])
  (.seq (.cond (.sl 11) .skip (.exit 0)) (.seq (.block 1 (.seq (.reg false [I_ 12 [.sl 10] .mv, I_ 13 [.sl 8, .sl 10] (.ia 1), I_ 14 [.tv 13] (.ld .one), I_ 6 [.tk 12] .mv, I_ 7 [.tk 14] .mv]) (.reg false [I_ 15 [.tk 5] .mv, I_
  16 [.sl 0] .mv, I_ 17 [.tk 6] .mv, I_ 18 [.tk 7] .mv, I_ 19 [.cv (.func 87 [] []), .sl 16, .sl 17, .sl 18] (.call 3), I_ 20 [.tv 19] (.buildS 1 1 [.lst [] 0 .full] [0]), I_ 21 [.tk 15, .tk 20] (.app 1 24), I_ 5 [.tk 21] .mv])))
  (.reg false [I_ 22 [.tv 10, .cv (.int .i64 1)] (.bin .add), I_ 10 [.tk 22] .mv]))))))) (.seq (.reg false [I_ 23 [.tk 5] .mv, I_ 4 [.tk 23] .mv]) .ret)))
theorem lk76 : linkF Go.Proofs.Try.prog ann76 76 = some (rc76, 24, [.tmp 4]) := by kernel_rfl
noncomputable def rc77 : RC :=
  .seq (.reg false [I_ 1 [.tk 0] .box, I_ 2 [.cv (.lst [] 0 .full)] (.nil 1)]) (.seq (.reg false [I_ 16 [] (.build [.lst [] 0 .full, .lst [] 0 .full, .int .i64 0, .int .i64 0] []), I_ 17 [.tv 16] (.buildS 1 4 [.lst [] 0 .full, .lst
  [] 0 .full, .int .i64 0, .int .i64 0] [0]), I_ 3 [] (.alloc [.lst [] 0 .full]), ⟨none, [.sl 3, .tk 17], none, none, .st 1⟩]) (.seq (.reg false [I_ 4 [] (.alloc [.junk]), ⟨none, [.sl 4, .cv (.func 100 [] [])], none, none, .st
  1⟩]) (.seq (.seq (.reg false [I_ 18 [.sl 1] (.ld .one), I_ 19 [.tv 18] .nilc, I_ 20 [.tv 19] (.fa 0), I_ 21 [.tv 20] (.fa 0), I_ 22 [.tv 21] (.ld .one), I_ 23 [.tk 22] .lenS, I_ 24 [.tv 23, .cv (.int .i64 1)] (.bin .sub), I_ 5
  [] (.alloc [.int .i64 0]), ⟨none, [.sl 5, .tk 24], none, none, .st 1⟩]) (.block 0 (.loop (some [o_,i_,o_,i_,i_,i_,o_,o_,o_,o_,o_,o_,o_,o_,o_,o_,o_,o_,o_,o_,o_,o_,o_,o_,o_,o_,o_,o_,o_,o_,o_,o_,o_,o_,o_,o_,o_,o_,o_,o_,o_,o_,o_,o_,o_,o_,o_,o_,o_,o_,o_,o_,o_,o_,o_,o_,o_,o_,o_,o_,o_,o_,o_,o_,o_,o_,o_,o_,o_,o_,o_,o_,o_,o_,o_,o_,o_,o_,o_,o_,o_,o_,o_,o_,o_,o_,o_,o_]) (.seq (.seq (.reg false [I_ 25 [.sl 5] (.ld .one), I_ 26 [.tv 25, .cv (.int .i64 0)] (.bin .geq)]) (.cond (.sl 26) .skip (.exit 0))) (.seq (.block 1 (.seq (.reg false [I_ 6 [] (.alloc [.lst
  [] 0 .full])]) (.seq (.seq (.reg false [I_ 29 [.sl 1] (.ld .one), I_ 30 [.sl 5] (.ld .one), I_ 31 [.cv (.func 86 [] []), .sl 29, .sl 30] (.call 3)]) (.block 2 (.rng (.sl 31) [32] (rngA Go.Proofs.Try.prog 77 0) (rngB
  Go.Proofs.Try.prog 77 0)))) (.reg false [I_ 82 [.tv 6] (.ld .one), ⟨none, [.sl 3, .tk 82], none, none, .st 1⟩])))) (.seq (.seq (.reg false [I_ 83 [.tv 5] (.ld .one)]) (.reg false [I_ 5 [] (.alloc [.int .i64 0]), ⟨none, [.sl 5,
  .tk 83], none, none, .st 1⟩])) (.reg false [I_ 27 [.sl 5] (.ld .one), I_ 28 [.tv 27, .cv (.int .i64 1)] (.bin .sub), ⟨none, [.sl 5, .tk 28], none, none, .st 1⟩]))))))) (.seq (.reg false [I_ 84 [.tv 3] (.ld .one), I_ 85 [.tv 4]
  (.ld .one), I_ 86 [.cv (.func 101 [] []), .sl 84, .sl 85] (.call 3), I_ 87 [.tv 86] (.fld 0 .one), I_ 2 [.tk 87] .mv]) .ret))))
theorem lk77 : linkF Go.Proofs.Try.prog ann77 77 = some (rc77, 88, [.tmp 2]) := by kernel_rfl
noncomputable def rc86 : RC :=
  .seq (.reg false [I_ 2 [.tk 0] .box, I_ 3 [.tk 1] .box, I_ 4 [.cv .junk] .mv]) (.seq (.reg false [I_ 5 [.tv 2, .tv 3] (.mkF 107 0 2), I_ 4 [.tk 5] .mv]) .ret)
theorem lk86 : linkF Go.Proofs.Try.prog ann86 86 = some (rc86, 6, [.tmp 4]) := by kernel_rfl
noncomputable def rc87 : RC :=
  .seq (.reg false [I_ 6 [.cv (.lst [] 0 .full)] (.nil 1)]) (.seq (.reg false [I_ 7 [.cv (.lst [] 0 .full)] (.nil 1)]) (.seq (.reg false [I_ 8 [.cv (.int .i64 0)] .mv]) (.seq (.seq (.reg false [I_ 11 [.sl 2] .mv, I_ 12 [.tk 2] .mv,
  I_ 13 [.tk 12] .lenS, I_ 14 [.tv 13, .cv (.int .i64 1)] (.bin .sub), I_ 15 [.tk 11, .tk 14] (.slS 1 false true false), I_ 16 [.sl 15] .lenS, I_ 17 [.cv (.int .i64 0)] .mv]) (.block 0 (.loop (some [i_,i_,o_,o_,o_,o_,o_,i_,i_,o_,o_,o_,o_,o_,o_,i_,i_,i_,o_,o_,o_,o_,o_,o_,o_,o_,o_,o_,o_,o_,o_,o_,o_,o_,o_,o_,o_,o_,o_,o_]) (.seq (.reg false [I_ 18 [.sl 17, .sl 16] (.bin .lss)]) (.seq (.cond (.sl 18) .skip (.exit 0)) (.seq (.block 1 (.seq (.reg false [I_ 19 [.sl 15, .sl 17] (.ia 1), I_ 20 [.tv 19] (.ld .one), I_ 10 [.tk 20]
  .mv]) (.seq (.reg false [I_ 21 [.tk 8] .mv, I_ 22 [.sl 0] .mv, I_ 23 [.tv 22] .nilc, I_ 24 [.tv 23] (.fa 0), I_ 25 [.tv 24] (.fa 0), I_ 26 [.tv 25] (.ld .one), I_ 27 [.sl 1] .mv, I_ 28 [.tv 26, .tv 27] (.ia 1), I_ 29 [.tv 28]
  (.ld .one), I_ 30 [.tk 10] .mv, I_ 31 [.tv 29, .tv 30] (.ia 1), I_ 32 [.tv 31] (.ld .one), I_ 33 [.tv 21, .tv 32] (.bin .add), I_ 8 [.tk 33] .mv]) (.reg false [I_ 34 [.tk 7] .mv, I_ 35 [.sl 8] .mv, I_ 36 [.tv 35] (.buildS 1 1
  [.int .i64 0] [0]), I_ 37 [.tk 34, .tk 36] (.app 1 8), I_ 7 [.tk 37] .mv])))) (.reg false [I_ 38 [.tv 17, .cv (.int .i64 1)] (.bin .add), I_ 17 [.tk 38] .mv]))))))) (.seq (.reg false [I_ 39 [.tk 7] .mv, I_ 6 [.tk 39] .mv])
  .ret))))
theorem lk87 : linkF Go.Proofs.Try.prog ann87 87 = some (rc87, 40, [.tmp 6]) := by kernel_rfl
noncomputable def rc89 : RC :=
  .seq (.reg false [I_ 3 [.cv (.bool false)] .mv]) (.seq (.reg false [I_ 4 [.tv 1] (.ld .one), I_ 5 [.tk 0] .mv, I_ 6 [.cv (.func 72 [] []), .sl 4, .sl 5] (.call 3), I_ 7 [.tv 6] (.un .not), I_ 3 [.tk 7] .mv]) .ret)
theorem lk89 : linkF Go.Proofs.Try.prog ann89 89 = some (rc89, 8, [.tmp 3]) := by kernel_rfl
noncomputable def rc93 : RC :=
  .seq (.reg false [I_ 6 [.cv (.bool false)] .mv]) (.seq (.reg false [I_ 7 [] (.alloc [.int .i64 0, .int .i64 0, .int .i64 0, .int .i64 0, .int .i64 0])]) (.seq (.reg false [I_ 10 [.sl 7] (.other (Oper.mk (some 10) (Op.slice 127
  (Operand.tmp 7) none none none) 63 "bench.go:27" (Array.mk []) none) 0), ⟨none, [.tk 10], none, none, .other (Oper.mk none (Op.call (Call.mk (Callee.builtin Builtin.clear) (Array.mk [Operand.tmp 10]) (Array.mk [63]))) 0
  "bench.go:27" (Array.mk [Edge.mk 0 Ground.data]) none) 0⟩]) (.seq (.seq (.reg false [I_ 11 [.sl 2] .mv, I_ 12 [.sl 11] .lenS, I_ 13 [.cv (.int .i64 0)] .mv]) (.block 0 (.loop (some [i_,i_,i_,o_,o_,o_,o_,i_,o_,o_,o_,i_,i_,i_,o_,o_,o_,o_,o_,o_,o_,o_,o_,o_,o_,o_,o_,o_,o_,o_,o_,o_,o_,o_,o_,o_,o_,o_,o_,o_,o_,o_,o_,o_,o_,o_,o_,o_,o_,o_,o_,o_,o_,o_,o_,o_,o_]) (.seq (.reg false [I_ 14 [.sl 13, .sl 12] (.bin .lss)]) (.seq (.cond (.sl 14) .skip (.exit 0)) (.seq
  (.block 1 (.seq (.reg false [I_ 15 [.sl 11, .sl 13] (.ia 1), I_ 16 [.tv 15] (.ld .one), I_ 9 [.tk 16] .mv]) (.seq (.seq (.reg false [I_ 17 [.sl 0] .mv, I_ 18 [.tv 17] .nilc, I_ 19 [.tv 18] (.fa 0), I_ 20 [.tv 19] (.fa 0), I_ 21
  [.tv 20] (.ld .one), I_ 22 [.sl 1] .mv, I_ 23 [.tv 21, .tv 22] (.ia 1), I_ 24 [.tv 23] (.ld .one), I_ 25 [.tk 24] .lenS, I_ 26 [.tv 25, .cv (.int .i64 1)] (.bin .sub), I_ 27 [.sl 9] .mv, I_ 28 [.tv 27] (.buildS 1 1 [.int .i64
  0] [0]), I_ 29 [.cv (.func 67 [] []), .cv (.int .i64 0), .sl 26, .sl 28] (.call 3), I_ 30 [.tv 29] (.un .not), I_ 31 [.tk 30] .mv, ⟨some 32, [.sl 9], some (31, false), none, .mv⟩, ⟨some 33, [.sl 7, .tv 32], some (31, false),
  none, .iaA 5 1⟩, ⟨some 34, [.tv 33], some (31, false), none, .ld .one⟩, ⟨some 35, [.tv 34, .cv (.int .i64 0)], some (31, false), none, .bin .gtr⟩, I_ 36 [.tv 31, .cv (.bool true), .tv 35] .pick]) (.cond (.sl 36) (.seq (.reg
  false [I_ 6 [.cv (.bool false)] .mv]) .ret) .skip)) (.reg false [I_ 37 [.tk 9] .mv, I_ 38 [.sl 7, .tv 37] (.iaA 5 1), ⟨none, [.tk 38, .cv (.int .i64 1)], none, none, .st 1⟩])))) (.reg false [I_ 39 [.tv 13, .cv (.int .i64 1)]
  (.bin .add), I_ 13 [.tk 39] .mv]))))))) (.seq (.reg false [I_ 40 [.tv 7] (.ld (.arr 5)), I_ 41 [] (.build [.int .i64 0, .int .i64 0, .int .i64 0, .int .i64 0, .int .i64 0] []), I_ 42 [.tv 40, .tv 41] (.other (Oper.mk (some 42)
  (Op.binOp .neq 127 (Operand.tmp 40) (Operand.tmp 41) 127) 4 "bench.go:34" (Array.mk [Edge.mk 0 Ground.data, Edge.mk 1 Ground.data]) none) 0), I_ 43 [.tk 42] .mv, ⟨some 44, [.tk 2], some (43, true), none, .mv⟩, ⟨some 45, [.tk
  44], some (43, true), none, .lenS⟩, ⟨some 46, [.tk 0], some (43, true), none, .mv⟩, ⟨some 47, [.tv 46], some (43, true), none, .nilc⟩, ⟨some 48, [.tv 47], some (43, true), none, .fa 0⟩, ⟨some 49, [.tv 48], some (43, true),
  none, .fa 0⟩, ⟨some 50, [.tv 49], some (43, true), none, .ld .one⟩, ⟨some 51, [.tk 1], some (43, true), none, .mv⟩, ⟨some 52, [.tv 50, .tv 51], some (43, true), none, .ia 1⟩, ⟨some 53, [.tv 52], some (43, true), none, .ld
  .one⟩, ⟨some 54, [.tk 53], some (43, true), none, .lenS⟩, ⟨some 55, [.tv 45, .tv 54], some (43, true), none, .bin .eql⟩, I_ 56 [.tv 43, .tv 55, .cv (.bool false)] .pick, I_ 6 [.tk 56] .mv]) .ret))))
theorem lk93 : linkF Go.Proofs.Try.prog ann93 93 = some (rc93, 57, [.tmp 6]) := by kernel_rfl
noncomputable def rc94 : RC :=
  .seq (.reg false [I_ 4 [.cv (.bool false)] .mv]) (.seq (.seq (.reg false [I_ 6 [.sl 0] .mv, I_ 7 [.tk 6] .lenS, I_ 8 [.sl 1] .mv, I_ 9 [.tv 7, .tv 8] (.bin .neq)]) (.cond (.sl 9) (.seq (.reg false [I_ 4 [.cv (.bool false)] .mv])
  .ret) .skip)) (.seq (.seq (.reg false [I_ 5 [.cv (.int .i64 0)] .mv]) (.block 0 (.loop (some [i_,i_,o_,o_,o_,i_,o_,o_,o_,o_,o_,o_,o_,o_,o_,o_,o_,o_,o_,o_,o_,o_,o_,o_,o_,o_,o_,o_,o_,o_,o_,o_,o_,o_,o_,o_,o_,o_]) (.seq (.seq (.reg false [I_ 10 [.sl 5] .mv, I_ 11 [.sl 1] .mv, I_ 12 [.tv 10, .tv 11] (.bin
  .lss)]) (.cond (.sl 12) .skip (.exit 0))) (.seq (.block 1 (.seq (.reg true [I_ 15 [.sl 0] .mv, I_ 16 [.sl 5] .mv, I_ 17 [.tv 15, .tv 16] (.ia 1), I_ 18 [.tv 17] (.ld .one), I_ 19 [.tv 18, .cv (.int .i64 0)] (.bin .lss), I_ 20
  [.tk 19] .mv, ⟨some 21, [.sl 0], some (20, false), none, .mv⟩, ⟨some 22, [.sl 5], some (20, false), none, .mv⟩, ⟨some 23, [.tv 21, .tv 22], some (20, false), none, .ia 1⟩, ⟨some 24, [.tv 23], some (20, false), none, .ld .one⟩,
  ⟨some 25, [.sl 1], some (20, false), none, .mv⟩, ⟨some 26, [.tv 24, .tv 25], some (20, false), none, .bin .geq⟩, I_ 27 [.sl 20, .cv (.bool true), .tv 26] .pick, I_ 28 [.tk 27] .mv, ⟨some 29, [.sl 0], some (28, false), none,
  .mv⟩, ⟨some 30, [.sl 5], some (28, false), none, .mv⟩, ⟨some 31, [.tk 29, .tk 30], some (28, false), none, .slS 1 false true false⟩, ⟨some 32, [.sl 0], some (28, false), none, .mv⟩, ⟨some 33, [.sl 5], some (28, false), none,
  .mv⟩, ⟨some 34, [.tv 32, .tv 33], some (28, false), none, .ia 1⟩, ⟨some 35, [.tv 34], some (28, false), none, .ld .one⟩, ⟨some 36, [.cv (.func 112 [] []), .sl 31, .sl 35], some (28, false), none, .call 3⟩, I_ 37 [.sl 28, .cv
  (.bool true), .tv 36] .pick]) (.cond (.sl 37) (.seq (.reg false [I_ 4 [.cv (.bool false)] .mv]) .ret) .skip))) (.reg false [I_ 13 [.tk 5] .mv, I_ 14 [.tv 13, .cv (.int .i64 1)] (.bin .add), I_ 5 [.tk 14] .mv])))))) (.seq (.reg
  false [I_ 4 [.cv (.bool true)] .mv]) .ret)))
theorem lk94 : linkF Go.Proofs.Try.prog ann94 94 = some (rc94, 38, [.tmp 4]) := by kernel_rfl
noncomputable def rc95 : RC :=
  .seq (.reg false [I_ 4 [.cv (.lst [] 0 .full)] (.nil 1)]) (.seq (.reg false [I_ 5 [.cv (.lst [] 0 .full)] (.nil 1)]) (.seq (.reg false [I_ 6 [.cv (.int .i64 0)] .mv]) (.seq (.seq (.reg false [I_ 7 [.cv (.int .i64 0)] .mv])
  (.block 0 (.loop (some [i_,i_,o_,o_,o_,i_,i_,i_,o_,o_,o_,o_,o_,o_,o_,o_,o_,o_,o_,o_,o_,o_,o_,o_,o_,o_,o_,o_,o_])
  (.seq (.seq (.reg false [I_ 8 [.sl 7] .mv, I_ 9 [.tv 8, .cv (.int .i64 1)] (.bin .add), I_ 10 [.sl 1] .mv, I_ 11 [.tk 10] .lenS, I_ 12 [.tv 9, .tv 11] (.bin .lss)]) (.cond (.sl 12) .skip (.exit 0))) (.seq (.block 1 (.seq (.reg
  false [I_ 15 [.tk 6] .mv, I_ 16 [.sl 0] .mv, I_ 17 [.sl 1] .mv, I_ 18 [.sl 7] .mv, I_ 19 [.tv 17, .tv 18] (.ia 1), I_ 20 [.tv 19] (.ld .one), I_ 21 [.tv 16, .tv 20] (.ia 1), I_ 22 [.tv 21] (.ld .one), I_ 23 [.tv 15, .tv 22]
  (.bin .add), I_ 6 [.tk 23] .mv]) (.reg false [I_ 24 [.tk 5] .mv, I_ 25 [.sl 6] .mv, I_ 26 [.tv 25] (.buildS 1 1 [.int .i64 0] [0]), I_ 27 [.tk 24, .tk 26] (.app 1 8), I_ 5 [.tk 27] .mv]))) (.reg false [I_ 13 [.tk 7] .mv, I_ 14
  [.tv 13, .cv (.int .i64 1)] (.bin .add), I_ 7 [.tk 14] .mv])))))) (.seq (.reg false [I_ 28 [.tk 5] .mv, I_ 4 [.tk 28] .mv]) .ret))))
theorem lk95 : linkF Go.Proofs.Try.prog ann95 95 = some (rc95, 29, [.tmp 4]) := by kernel_rfl
noncomputable def rc96 : RC :=
  .seq (.reg false [I_ 4 [.cv (.bool false)] .mv]) (.seq (.reg false [I_ 5 [.tk 0] .mv, I_ 6 [.tk 1] .mv, I_ 7 [.cv (.func 110 [] []), .sl 5, .sl 6] (.call 6), I_ 8 [.tv 7, .cv (.int .i64 0)] (.bin .geq), I_ 4 [.tk 8] .mv]) .ret)
theorem lk96 : linkF Go.Proofs.Try.prog ann96 96 = some (rc96, 9, [.tmp 4]) := by kernel_rfl
noncomputable def rc97 : RC :=
  .seq (.reg false [I_ 4 [.cv (.bool false)] .mv]) (.seq (.reg false [I_ 5 [.sl 0] .mv, I_ 6 [.tv 1] (.ld .one), I_ 7 [.tv 5, .tv 6] (.bin .lss), I_ 8 [.tk 7] .mv, ⟨some 9, [.tk 0], some (8, false), none, .mv⟩, ⟨some 10, [.tv 2],
  some (8, false), none, .ld .one⟩, ⟨some 11, [.tv 9, .tv 10], some (8, false), none, .bin .gtr⟩, I_ 12 [.tv 8, .cv (.bool true), .tv 11] .pick, I_ 4 [.tk 12] .mv]) .ret)
theorem lk97 : linkF Go.Proofs.Try.prog ann97 97 = some (rc97, 13, [.tmp 4]) := by kernel_rfl
noncomputable def rc98 : RC :=
  .seq (.reg false [I_ 4 [.cv (.int .i64 0)] .mv]) (.seq (.seq (.reg false [I_ 6 [.sl 0] .mv, I_ 7 [.tk 6] .lenS, I_ 8 [.cv (.int .i64 0)] .mv]) (.block 0 (.loop (some [i_,i_,o_,o_,o_,o_,o_,i_,i_,o_,o_,o_,o_,o_,o_,o_,o_,o_,o_]) (.seq (.reg false [I_ 9 [.sl 8, .sl 7] (.bin .lss)]) (.seq (.cond (.sl 9) .skip (.exit 0)) (.seq (.block 1 (.seq (.reg false [I_ 10 [.sl 8] .mv, I_ 5 [.tk
  10] .mv]) (.seq (.reg false [I_ 11 [.sl 1] .mv, I_ 12 [.sl 0] .mv, I_ 13 [.sl 5] .mv, I_ 14 [.tv 12, .tv 13] (.ia 1), I_ 15 [.tv 14] (.ld .one), I_ 16 [.sl 11, .sl 15] (.call 6)]) (.cond (.sl 16) (.seq (.reg false [I_ 17 [.tk
  5] .mv, I_ 4 [.tk 17] .mv]) .ret) .skip)))) (.reg false [I_ 18 [.tv 8, .cv (.int .i64 1)] (.bin .add), I_ 8 [.tk 18] .mv]))))))) (.seq (.reg false [I_ 4 [.cv (.int .i64 (-1))] .mv]) .ret))
theorem lk98 : linkF Go.Proofs.Try.prog ann98 98 = some (rc98, 19, [.tmp 4]) := by kernel_rfl
noncomputable def rc99 : RC :=
  .seq (.reg false [I_ 4 [.cv (.int .i64 0)] .mv]) (.seq (.seq (.reg false [I_ 6 [.sl 0] .mv, I_ 7 [.tk 6] .lenS, I_ 8 [.cv (.int .i64 0)] .mv]) (.block 0 (.loop (some [i_,i_,o_,o_,o_,o_,o_,i_,i_,o_,o_,o_,o_,o_,o_,o_,o_,o_,o_]) (.seq (.reg false [I_ 9 [.sl 8, .sl 7] (.bin .lss)]) (.seq (.cond (.sl 9) .skip (.exit 0)) (.seq (.block 1 (.seq (.reg false [I_ 10 [.sl 8] .mv, I_ 5 [.tk
  10] .mv]) (.seq (.reg false [I_ 11 [.sl 1] .mv, I_ 12 [.sl 0] .mv, I_ 13 [.sl 5] .mv, I_ 14 [.tv 12, .tv 13] (.ia 1), I_ 15 [.tv 14] (.ld .one), I_ 16 [.tv 11, .tv 15] (.bin .eql)]) (.cond (.sl 16) (.seq (.reg false [I_ 17 [.tk
  5] .mv, I_ 4 [.tk 17] .mv]) .ret) .skip)))) (.reg false [I_ 18 [.tv 8, .cv (.int .i64 1)] (.bin .add), I_ 8 [.tk 18] .mv]))))))) (.seq (.reg false [I_ 4 [.cv (.int .i64 (-1))] .mv]) .ret))
theorem lk99 : linkF Go.Proofs.Try.prog ann99 99 = some (rc99, 19, [.tmp 4]) := by kernel_rfl
noncomputable def rc100 : RC :=
  .seq (.reg false [I_ 2 [.tk 0] .box, I_ 3 [.tk 1] .box, I_ 4 [.cv (.bool false)] .mv]) (.seq (.reg false [I_ 5 [.tv 2] (.fa 2), I_ 6 [.tv 5] (.ld .one), I_ 7 [.tv 3] (.fa 2), I_ 8 [.tv 7] (.ld .one), I_ 9 [.tv 6, .tv 8] (.bin
  .lss), I_ 4 [.tk 9] .mv]) .ret)
theorem lk100 : linkF Go.Proofs.Try.prog ann100 100 = some (rc100, 10, [.tmp 4]) := by kernel_rfl
noncomputable def rc101 : RC :=
  .seq (.reg false [I_ 4 [] (.alloc [.lst [] 0 .full, .lst [] 0 .full, .int .i64 0, .int .i64 0])]) (.seq (.reg false [I_ 8 [.sl 0] .mv, I_ 9 [.tv 8, .cv (.int .i64 0)] (.ia 4), I_ 10 [.tv 9] (.ld (.str 4)), I_ 5 [] (.alloc [.lst
  [] 0 .full, .lst [] 0 .full, .int .i64 0, .int .i64 0]), ⟨none, [.sl 5, .tk 10], none, none, .st 4⟩]) (.seq (.seq (.reg false [I_ 11 [.tk 0] .mv, I_ 12 [.tk 11, .cv (.int .i64 1)] (.slS 4 true false false), I_ 13 [.sl 12]
  .lenS, I_ 14 [.cv (.int .i64 0)] .mv]) (.block 0 (.loop (some [o_,i_,o_,o_,i_,i_,o_,o_,o_,o_,o_,o_,i_,i_,i_,o_,o_,o_,o_,o_,o_,o_,o_,o_,o_]) (.seq (.reg false [I_ 15 [.sl 14, .sl 13] (.bin .lss)]) (.seq (.cond (.sl 15) .skip (.exit 0)) (.seq (.block 1 (.seq (.reg false [I_ 16 [.sl 12, .sl 14] (.ia 4), I_ 17 [.tv 16] (.ld (.str 4)), I_ 7 [] (.alloc [.lst [] 0
  .full, .lst [] 0 .full, .int .i64 0, .int .i64 0]), ⟨none, [.sl 7, .tk 17], none, none, .st 4⟩]) (.seq (.reg false [I_ 18 [.sl 1] .mv, I_ 19 [.sl 7] (.ld (.str 4)), I_ 20 [.sl 5] (.ld (.str 4)), I_ 21 [.sl 18, .sl 19, .sl 20]
  (.call 6)]) (.cond (.sl 21) (.reg false [I_ 22 [.tv 7] (.ld (.str 4)), ⟨none, [.sl 5, .tk 22], none, none, .st 4⟩]) .skip)))) (.reg false [I_ 23 [.tv 14, .cv (.int .i64 1)] (.bin .add), I_ 14 [.tk 23] .mv]))))))) (.seq (.reg
  false [I_ 24 [.tv 5] (.ld (.str 4)), ⟨none, [.sl 4, .tk 24], none, none, .st 4⟩]) .ret)))
theorem lk101 : linkF Go.Proofs.Try.prog ann101 101 = some (rc101, 25, [.cell 4 (.str 4)]) := by kernel_rfl
noncomputable def rc102 : RC :=
  .seq (.reg false [I_ 2 [.cv (.lst [] 0 .full)] (.nil 1)]) (.seq (.reg false [I_ 3 [.cv (.int .i64 0)] .mv]) (.seq (.seq (.reg false [I_ 9 [.sl 0] .mv, I_ 10 [.sl 9] .lenS, I_ 11 [.cv (.int .i64 0)] .mv]) (.block 0 (.loop (some
  [i_,o_,o_,i_,o_,o_,o_,o_,o_,i_,i_,i_,o_,o_,o_,o_,o_,o_,o_,o_,o_,o_,o_,o_,o_,o_,o_,o_,o_,o_,o_,o_,o_,o_,o_,o_]) (.seq (.reg false [I_ 12 [.sl 11, .sl 10] (.bin .lss)]) (.seq (.cond (.sl 12) .skip (.exit 0)) (.seq (.block 1 (.seq (.reg false [I_ 13 [.sl 9, .sl 11] (.ia 1), I_ 14 [.tv 13] (.ld .one), I_ 5 [.tk 14]
  .mv]) (.seq (.reg false [I_ 15 [.tk 3] .mv, I_ 16 [.tk 5] .mv, I_ 17 [.tk 16] .lenS, I_ 18 [.tv 15, .tv 17] (.bin .add), I_ 3 [.tk 18] .mv]) (.seq (.reg false [I_ 19 [.sl 3] .mv, I_ 20 [.tv 19, .cv (.int .i64 0)] (.bin .lss)])
  (.cond (.sl 20) (.reg false [I_ 21 [.cv (.str (ByteArray.mk (Array.mk [108, 101, 110, 32, 111, 117, 116, 32, 111, 102, 32, 114, 97, 110, 103, 101])))] (.other (Oper.mk (some 21) (Op.makeInterface 9 (Operand.const (Value.string
  (ByteArray.mk (Array.mk [108, 101, 110, 32, 111, 117, 116, 32, 111, 102, 32, 114, 97, 110, 103, 101]))))) 20 "slices.go:496" (Array.mk []) none) 0), ⟨none, [.tv 21], none, none, .other (Oper.mk none (Op.panic (Operand.tmp 21))
  0 "slices.go:496" (Array.mk [Edge.mk 0 Ground.data]) none) 0⟩]) .skip))))) (.reg false [I_ 22 [.tv 11, .cv (.int .i64 1)] (.bin .add), I_ 11 [.tk 22] .mv]))))))) (.seq (.reg false [I_ 23 [.tk 3] .mv, I_ 24 [.cv (.func 113 []
  []), .cv (.lst [] 0 .full), .sl 23] (.call 0), I_ 6 [.tk 24] .mv]) (.seq (.seq (.reg false [I_ 25 [.tk 0] .mv, I_ 26 [.sl 25] .lenS, I_ 27 [.cv (.int .i64 0)] .mv]) (.block 2 (.loop (some [o_,o_,o_,o_,o_,o_,i_,o_,o_,o_,o_,o_,o_,o_,o_,o_,o_,o_,o_,o_,o_,o_,o_,o_,o_,i_,i_,i_,o_,o_,o_,o_,o_,o_,o_,o_]) (.seq (.reg
  false [I_ 28 [.sl 27, .sl 26] (.bin .lss)]) (.seq (.cond (.sl 28) .skip (.exit 2)) (.seq (.block 3 (.seq (.reg false [I_ 29 [.sl 25, .sl 27] (.ia 1), I_ 30 [.tv 29] (.ld .one), I_ 8 [.tk 30] .mv]) (.reg false [I_ 31 [.tk 6]
  .mv, I_ 32 [.tk 8] .mv, I_ 33 [.tk 31, .tk 32] (.app 1 24), I_ 6 [.tk 33] .mv]))) (.reg false [I_ 34 [.tv 27, .cv (.int .i64 1)] (.bin .add), I_ 27 [.tk 34] .mv]))))))) (.seq (.reg false [I_ 35 [.tk 6] .mv, I_ 2 [.tk 35] .mv])
  .ret)))))
theorem lk102 : linkF Go.Proofs.Try.prog ann102 102 = some (rc102, 36, [.tmp 2]) := by kernel_rfl
noncomputable def rc104 : RC :=
  .seq (.reg false [I_ 3 [.sl 0] .mv, I_ 4 [.tk 3] .lenS, I_ 2 [.tk 4] .mv]) (.reg false [I_ 5 [.tk 0] .mv, I_ 6 [.sl 2] .mv, I_ 7 [.tk 2] .mv, I_ 8 [.tv 7] (.conv .u64), I_ 9 [.cv (.func 115 [] []), .sl 8] (.call 3), I_ 10 [.cv
  (.func 114 [] []), .tk 5, .cv (.int .i64 0), .tk 6, .tk 9] (.call 1)])
theorem lk104 : linkF Go.Proofs.Try.prog ann104 104 = some (rc104, 11, []) := by kernel_rfl
noncomputable def rc107 : RC :=
  .seq (.reg false [I_ 4 [.cv (.lst [] 0 .full)] (.nil 1)]) (.seq (.seq (.reg true [I_ 8 [.tv 1] (.ld .one), I_ 9 [.tv 8] .nilc, I_ 10 [.tv 9] (.fa 0), I_ 11 [.tv 10] (.fa 0), I_ 12 [.tv 11] (.ld .one), I_ 13 [.tv 2] (.ld .one), I_
  14 [.tv 12, .tv 13] (.ia 1), I_ 15 [.tv 14] (.ld .one), I_ 16 [.tk 15] .lenS, I_ 17 [.cv (.int .i64 0)] .mv]) (.block 0 (.loop (some [i_,o_,o_,o_,i_,o_,o_,o_,o_,o_,o_,o_,o_,o_,o_,o_,i_,i_,o_,o_,o_,o_,o_,o_,o_,o_,o_,o_,o_,o_,o_,o_,o_,o_,o_,o_,o_,o_,o_,o_,o_,o_,o_,o_,o_,o_,o_,o_,o_,o_,o_,o_,o_,o_,o_,o_,o_,o_,o_,o_,o_,o_,o_,o_,o_,o_,o_,o_,o_,o_,o_,o_,o_,o_,o_,o_,o_,o_,o_,o_,o_,o_,o_,o_,o_,o_,o_,o_,o_]) (.seq (.reg false [I_ 18 [.sl 17, .sl 16] (.bin .lss)]) (.seq (.cond (.sl 18) .skip (.exit 0)) (.seq (.block 1 (.seq (.reg false [I_ 19 [.sl
  17] .mv, I_ 5 [.tk 19] .mv]) (.reg false [I_ 20 [.sl 4] .mv, I_ 21 [.sl 4] .mv, I_ 22 [.tk 21] .lenS, I_ 23 [.tk 4] .mv, I_ 24 [.tk 23] .lenS, I_ 25 [.tk 20, .tk 22, .tk 24] (.slS 1 false true true), I_ 26 [.tk 5] .mv, I_ 27
  [.tv 26] (.buildS 1 1 [.int .i64 0] [0]), I_ 28 [.tk 25, .tk 27] (.app 1 8), I_ 4 [.tk 28] .mv]))) (.reg false [I_ 29 [.tv 17, .cv (.int .i64 1)] (.bin .add), I_ 17 [.tk 29] .mv]))))))) (.block 2 (.loop (some [i_,o_,o_,o_,i_,o_,o_,o_,o_,o_,o_,o_,o_,o_,o_,o_,o_,o_,o_,o_,o_,o_,o_,o_,o_,o_,o_,o_,o_,o_,o_,o_,o_,o_,o_,o_,o_,o_,o_,o_,o_,o_,o_,o_,o_,o_,o_,o_,o_,o_,o_,o_,o_,o_,o_,o_,o_,o_,o_,o_,o_,o_,o_,o_,o_,o_,o_,o_,o_,o_,o_,o_,o_,o_,o_,o_,o_,o_,o_,o_,o_,o_,o_,o_,o_,o_,o_,o_,o_]) (.block 3 (.seq (.seq (.reg false [I_ 30 [.sl 0] .mv, ⟨some 31,
  [.tk 4], none, some 4, .thaw⟩, I_ 32 [.cv (.func 108 [] []), .sl 31] (.call 6), I_ 33 [.tk 30, .tk 32] (.call 1), I_ 34 [.tv 33] (.un .not)]) (.cond (.sl 34) .ret .skip)) (.seq (.reg false [I_ 35 [.sl 4] .mv, I_ 36 [.tk 35]
  .lenS, I_ 37 [.tv 36, .cv (.int .i64 2)] (.bin .sub), I_ 6 [.tk 37] .mv]) (.seq (.block 4 (.loop (some [i_,o_,o_,o_,i_,o_,i_,o_,o_,o_,o_,o_,o_,o_,o_,o_,o_,o_,o_,o_,o_,o_,o_,o_,o_,o_,o_,o_,o_,o_,o_,o_,o_,o_,o_,o_,o_,o_,o_,o_,o_,o_,o_,o_,o_,o_,o_,o_,o_,o_,o_,o_,o_,o_,o_,o_,o_,o_,o_,o_,o_,o_,o_,o_,o_,o_,o_,o_,o_,o_,o_,o_,o_,o_,o_,o_,o_,o_,o_,o_,o_,o_,o_,o_,o_,o_,o_,o_,o_]) (.seq (.seq (.reg true [I_ 38 [.sl 6] .mv, I_ 39 [.tv 38, .cv (.int .i64 0)] (.bin .geq), I_ 40 [.tk 39] .mv, ⟨some 41, [.sl 4], some (40, true), none, .mv⟩, ⟨some 42, [.sl 6],
  some (40, true), none, .mv⟩, ⟨some 43, [.tv 41, .tv 42], some (40, true), none, .ia 1⟩, ⟨some 44, [.tv 43], some (40, true), none, .ld .one⟩, ⟨some 45, [.sl 4], some (40, true), none, .mv⟩, ⟨some 46, [.sl 6], some (40, true),
  none, .mv⟩, ⟨some 47, [.tv 46, .cv (.int .i64 1)], some (40, true), none, .bin .add⟩, ⟨some 48, [.tv 45, .tv 47], some (40, true), none, .ia 1⟩, ⟨some 49, [.tv 48], some (40, true), none, .ld .one⟩, ⟨some 50, [.tv 44, .tv 49],
  some (40, true), none, .bin .gtr⟩, I_ 51 [.sl 40, .tv 50, .cv (.bool false)] .pick]) (.cond (.sl 51) .skip (.exit 4))) (.block 5 (.reg false [I_ 52 [.tk 6] .mv, I_ 53 [.tv 52, .cv (.int .i64 1)] (.bin .sub), I_ 6 [.tk 53]
  .mv]))))) (.seq (.seq (.reg false [I_ 54 [.sl 6] .mv, I_ 55 [.tv 54, .cv (.int .i64 0)] (.bin .lss)]) (.cond (.sl 55) .ret .skip)) (.seq (.reg false [I_ 56 [.sl 4] .mv, I_ 57 [.tk 56] .lenS, I_ 58 [.tv 57, .cv (.int .i64 1)]
  (.bin .sub), I_ 7 [.tk 58] .mv]) (.seq (.block 6 (.loop (some [i_,o_,o_,o_,i_,o_,i_,i_,o_,o_,o_,o_,o_,o_,o_,o_,o_,o_,o_,o_,o_,o_,o_,o_,o_,o_,o_,o_,o_,o_,o_,o_,o_,o_,o_,o_,o_,o_,o_,o_,o_,o_,o_,o_,o_,o_,o_,o_,o_,o_,o_,o_,o_,o_,o_,o_,o_,o_,o_,o_,o_,o_,o_,o_,o_,o_,o_,o_,o_,o_,o_,o_,o_,o_,o_,o_,o_,o_,o_,o_,o_,o_,o_,o_,o_,o_,o_,o_,o_]) (.seq (.seq (.reg true [I_ 59 [.sl 4] .mv, I_ 60 [.sl 7] .mv, I_ 61 [.tv 59, .tv 60] (.ia 1), I_ 62 [.tv 61] (.ld .one), I_ 63 [.sl 4] .mv, I_ 64 [.sl 6] .mv, I_ 65 [.tv 63, .tv 64] (.ia 1), I_ 66 [.tv 65] (.ld .one),
  I_ 67 [.tv 62, .tv 66] (.bin .lss)]) (.cond (.sl 67) .skip (.exit 6))) (.block 7 (.reg false [I_ 68 [.tk 7] .mv, I_ 69 [.tv 68, .cv (.int .i64 1)] (.bin .sub), I_ 7 [.tk 69] .mv]))))) (.seq (.reg true [I_ 70 [.sl 4] .mv, I_ 71
  [.sl 6] .mv, I_ 72 [.sl 4] .mv, I_ 73 [.sl 7] .mv, I_ 74 [.sl 4] .mv, I_ 75 [.sl 7] .mv, I_ 76 [.tv 74, .tv 75] (.ia 1), I_ 77 [.tv 76] (.ld .one), I_ 78 [.sl 4] .mv, I_ 79 [.sl 6] .mv, I_ 80 [.tv 78, .tv 79] (.ia 1), I_ 81
  [.tv 80] (.ld .one), I_ 82 [.tv 70, .tv 71] (.ia 1), ⟨none, [.tk 82, .tk 77], none, none, .st 1⟩, I_ 83 [.tv 72, .tv 73] (.ia 1), ⟨none, [.tk 83, .tk 81], none, none, .st 1⟩]) (.reg false [I_ 84 [.sl 4] .mv, I_ 85 [.tk 6] .mv,
  I_ 86 [.tv 85, .cv (.int .i64 1)] (.bin .add), I_ 87 [.tk 84, .tk 86] (.slS 1 true false false), I_ 88 [.cv (.func 109 [] []), .tk 87] (.call 1)]))))))))))))
theorem lk107 : linkF Go.Proofs.Try.prog ann107 107 = some (rc107, 89, []) := by kernel_rfl
noncomputable def rc108 : RC :=
  .seq (.reg false [I_ 2 [.cv (.lst [] 0 .full)] (.nil 1)]) (.seq (.seq (.reg false [I_ 3 [.sl 0] .mv, I_ 4 [.tv 3, .cv (.lst [] 0 .full)] (.other (Oper.mk (some 4) (Op.binOp .eql 63 (Operand.tmp 3) (Operand.const (Value.slice none
  0 0)) 63) 4 "slices.go:357" (Array.mk [Edge.mk 0 Ground.data]) none) 0)]) (.cond (.sl 4) (.seq (.reg false [I_ 2 [.cv (.lst [] 0 .full)] (.nil 1)]) .ret) .skip)) (.seq (.reg false [I_ 5 [] (.buildS 0 1 [.int .i64 0] []), I_ 6
  [.tk 0] .mv, I_ 7 [.tk 5, .tk 6] (.app 1 8), I_ 2 [.tk 7] .mv]) .ret))
theorem lk108 : linkF Go.Proofs.Try.prog ann108 108 = some (rc108, 8, [.tmp 2]) := by kernel_rfl
noncomputable def rc109 : RC :=
  .seq (.reg false [I_ 4 [.sl 0] .mv, I_ 5 [.tk 4] .lenS, I_ 6 [.tv 5, .cv (.int .i64 1)] (.bin .sub), I_ 2 [.cv (.int .i64 0)] .mv, I_ 3 [.tk 6] .mv]) (.block 0 (.loop (some [i_,o_,i_,i_,o_,o_,o_,o_,o_,o_,o_,o_,o_,o_,o_,o_,o_,o_,o_,o_,o_,o_,o_,o_,o_,o_,o_,o_]) (.seq (.seq (.reg false [I_ 7 [.sl 2] .mv, I_ 8 [.sl 3] .mv, I_ 9 [.tv 7, .tv 8] (.bin
  .lss)]) (.cond (.sl 9) .skip (.exit 0))) (.seq (.block 1 (.reg true [I_ 14 [.sl 0] .mv, I_ 15 [.sl 2] .mv, I_ 16 [.sl 0] .mv, I_ 17 [.sl 3] .mv, I_ 18 [.sl 0] .mv, I_ 19 [.sl 3] .mv, I_ 20 [.tv 18, .tv 19] (.ia 1), I_ 21 [.tv
  20] (.ld .one), I_ 22 [.sl 0] .mv, I_ 23 [.sl 2] .mv, I_ 24 [.tv 22, .tv 23] (.ia 1), I_ 25 [.tv 24] (.ld .one), I_ 26 [.tv 14, .tv 15] (.ia 1), ⟨none, [.tk 26, .tk 21], none, none, .st 1⟩, I_ 27 [.tv 16, .tv 17] (.ia 1),
  ⟨none, [.tk 27, .tk 25], none, none, .st 1⟩])) (.reg false [I_ 10 [.tk 2] .mv, I_ 11 [.tv 10, .cv (.int .i64 1)] (.bin .add), I_ 12 [.tk 3] .mv, I_ 13 [.tv 12, .cv (.int .i64 1)] (.bin .sub), I_ 2 [.tk 11] .mv, I_ 3 [.tk 13]
  .mv])))))
theorem lk109 : linkF Go.Proofs.Try.prog ann109 109 = some (rc109, 28, []) := by kernel_rfl
noncomputable def rc110 : RC :=
  .seq (.reg false [I_ 4 [.cv (.int .i64 0)] .mv]) (.seq (.seq (.reg false [I_ 6 [.sl 0] .mv, I_ 7 [.tk 6] .lenS, I_ 8 [.cv (.int .i64 0)] .mv]) (.block 0 (.loop (some [i_,i_,o_,o_,o_,o_,o_,i_,i_,o_,o_,o_,o_,o_,o_,o_,o_,o_,o_]) (.seq (.reg false [I_ 9 [.sl 8, .sl 7] (.bin .lss)]) (.seq (.cond (.sl 9) .skip (.exit 0)) (.seq (.block 1 (.seq (.reg false [I_ 10 [.sl 8] .mv, I_ 5 [.tk
  10] .mv]) (.seq (.reg false [I_ 11 [.sl 1] .mv, I_ 12 [.sl 0] .mv, I_ 13 [.sl 5] .mv, I_ 14 [.tv 12, .tv 13] (.ia 1), I_ 15 [.tv 14] (.ld .one), I_ 16 [.sl 11, .sl 15] (.call 6)]) (.cond (.sl 16) (.seq (.reg false [I_ 17 [.tk
  5] .mv, I_ 4 [.tk 17] .mv]) .ret) .skip)))) (.reg false [I_ 18 [.tv 8, .cv (.int .i64 1)] (.bin .add), I_ 8 [.tk 18] .mv]))))))) (.seq (.reg false [I_ 4 [.cv (.int .i64 (-1))] .mv]) .ret))
theorem lk110 : linkF Go.Proofs.Try.prog ann110 110 = some (rc110, 19, [.tmp 4]) := by kernel_rfl
noncomputable def rc112 : RC :=
  .seq (.reg false [I_ 4 [.cv (.bool false)] .mv]) (.seq (.seq (.reg false [I_ 5 [.cv (.int .i64 0)] .mv]) (.block 0 (.loop (some [i_,i_,o_,o_,o_,i_,o_,o_,o_,o_,o_,o_,o_,o_,o_,o_,o_,o_]) (.seq (.seq (.reg false [I_ 6 [.sl 5] .mv, I_ 7 [.sl 0] .mv, I_ 8 [.tk 7] .lenS, I_ 9 [.tv 6, .tv 8] (.bin .lss)]) (.cond (.sl 9) .skip (.exit 0))) (.seq (.block 1 (.seq (.reg false [I_ 12 [.sl 0]
  .mv, I_ 13 [.sl 5] .mv, I_ 14 [.tv 12, .tv 13] (.ia 1), I_ 15 [.tv 14] (.ld .one), I_ 16 [.sl 1] .mv, I_ 17 [.tv 15, .tv 16] (.bin .eql)]) (.cond (.sl 17) (.seq (.reg false [I_ 4 [.cv (.bool true)] .mv]) .ret) .skip))) (.reg
  false [I_ 10 [.tk 5] .mv, I_ 11 [.tv 10, .cv (.int .i64 1)] (.bin .add), I_ 5 [.tk 11] .mv])))))) (.seq (.reg false [I_ 4 [.cv (.bool false)] .mv]) .ret))
theorem lk112 : linkF Go.Proofs.Try.prog ann112 112 = some (rc112, 18, [.tmp 4]) := by kernel_rfl
end Go.Proofs.Ytlcebaejlnpdeaa.Ab

/-
  Words for contracts: lists of integers; loops that count; calls of closures.
-/
namespace Go.Proofs.Ytlcebaejlnpdeaa.Ab
open Go
theorem hmix : Go.Proofs.Try.prog.follows .mixedOrders = true := by kernel_rfl
/-- A pure call of the program. -/
abbrev PO (k : FuncId) (args : List AV) (v : AV) : Prop := PureOk Go.Proofs.Try.prog k args v
abbrev I (n : Int) : AV := .int .i64 n
abbrev J : AV := .junk
abbrev B (b : Bool) : AV := .bool b
/-- A list of integers, of lists. -/
def L1 (l : List Int) : AV := .lst (l.map I) l.length .shared
def L2 (l : List (List Int)) : AV := .lst (l.map L1) l.length .shared
/-- Lists that a call hands out. -/
def O1 (l : List Int) : AV := .lst (l.map I) l.length (.own 1)
def O2 (l : List (List Int)) : AV := .lst (l.map L1) l.length (.own 1)
/-- A panel. -/
abbrev P1 (l : List (List Int)) : AV := .agg [L2 l]
theorem pure_ints (d : Nat) (l : List Int) : (l.map I).all (pureD (d + 1)) = true := by
  rw [List.all_eq_true]; intro u hu; obtain ⟨x, _, rfl⟩ := List.mem_map.1 hu; rfl
theorem pure_L1 (d : Nat) (l : List Int) : pureD (d + 2) (L1 l) = true := pure_ints d l
theorem pure_lists (d : Nat) (l : List (List Int)) : (l.map L1).all (pureD (d + 2)) = true := by
  rw [List.all_eq_true]; intro u hu; obtain ⟨x, _, rfl⟩ := List.mem_map.1 hu; exact pure_L1 d x
theorem pure_L2 (d : Nat) (l : List (List Int)) : pureD (d + 3) (L2 l) = true := pure_lists d l
theorem pu0 (k : IntKind) (n : Int) : pureD 8 (.int k n) = true := rfl
theorem pub (b : Bool) : pureD 8 (.bool b) = true := rfl
theorem pu1 (l : List Int) (n : Nat) (c : Cap) : pureD 8 (.lst (l.map I) n c) = true := pure_ints 6 l
theorem pu2 (l : List (List Int)) (n : Nat) (c : Cap) : pureD 8 (.lst (l.map L1) n c) = true := pure_lists 5 l
theorem pu1' (l : List Int) : pureD 8 (L1 l) = true := pure_L1 6 l
theorem pu2' (l : List (List Int)) : pureD 8 (L2 l) = true := pure_L2 5 l
theorem puf (k : FuncId) : pureD 8 (.func k [] []) = true := rfl
theorem pun (n : Nat) (c : Cap) : pureD 8 (.lst [] n c) = true := rfl
theorem puP (l : List (List Int)) (n : Nat) (c : Cap) : pureD 8 (.agg [.lst (l.map L1) n c]) = true := by
  show [AV.lst (l.map L1) n c].all (pureD 7) = true
  rw [List.all_cons, List.all_nil, Bool.and_true]; exact pure_lists 4 l
theorem puP' (l : List (List Int)) : pureD 8 (.agg [L2 l]) = true := puP l _ _
theorem puQ (l : List (List Int)) : pureD 8 (.lptr [L2 l]) = true := puP l _ _
theorem puQ' (l : List (List Int)) (n : Nat) (c : Cap) : pureD 8 (.lptr [.lst (l.map L1) n c]) = true := puP l _ _
/-- An element is loaded. -/
theorem nthM {α : Type} (f : α → AV) (l : List α) (i : Nat) (h : i < l.length) {K : AV → Prop} (k : K (f l[i])) : nthK ((l.map f).drop (i * 1)) 0 K :=
  nthK_of (x := f l[i]) (by simp [h]) k
theorem wrapS (i : Nat) (h : i ≤ 9223372036854775806) : IntKind.i64.wrap ((i : Int) + 1) = ((i + 1 : Nat) : Int) := by rw [IntKind.wrap_i64]; omega
theorem wrapI (n : Int) (h1 : -9223372036854775808 ≤ n) (h2 : n ≤ 9223372036854775807) : IntKind.i64.wrap n = n := by rw [IntKind.wrap_i64]; omega
theorem pureD_succ : ∀ {d : Nat} {v : AV}, pureD d v = true → pureD (d + 1) v = true
  | 0, v, h => by simp [pureD] at h
  | d + 1, v, h => by
    have key : ∀ {l : List AV}, l.all (pureD d) = true → l.all (pureD (d + 1)) = true := fun h => by
      rw [List.all_eq_true] at h ⊢; exact fun u hu => pureD_succ (h u hu)
    cases v <;> simp only [pureD, Bool.and_eq_true, Bool.false_eq_true] at h ⊢ <;> first | trivial | exact key h | exact ⟨key h.1, key h.2⟩
theorem pureD_le {d e : Nat} {v : AV} (h : pureD d v = true) (hd : d ≤ e) : pureD e v = true := by
  obtain ⟨k, rfl⟩ := Nat.le.dest hd
  induction k with
  | zero => exact h
  | succ k ih => exact pureD_succ (ih (by omega))
/-- A test: by what it says. -/
theorem dcase {p : Prop} [Decidable p] {A C : Prop} (h1 : p → A) (h2 : ¬ p → C) : (match decide p with | true => A | false => C) := by
  by_cases h : p
  · simp only [h, decide_true]; exact h1 h
  · simp only [h, decide_false]; exact h2 h
theorem bcase {b : Bool} {A C : Prop} : (b = true → A) → (b = false → C) → (match b with | true => A | false => C) := by
  intro h1 h2
  cases b
  · exact h2 rfl
  · exact h1 rfl
theorem deqr {α : Type} [DecidableEq α] (a : α) : decide (a = a) = true := decide_eq_true rfl
/-- At the head of a loop that counts. -/
def CI (F : Nat → List AV) (n : Nat) (H0 : List AObj) (m : Nat) (T : List AV) (H : List AObj) : Prop := ∃ i, i ≤ n ∧ m = n - i ∧ T = F i ∧ H = H0
theorem ci0 {F : Nat → List AV} {n : Nat} {H0 : List AObj} {T : List AV} (h : T = F 0) : CI F n H0 n T H0 := ⟨0, Nat.zero_le _, rfl, h, rfl⟩
theorem ciN {F : Nat → List AV} {n : Nat} {H0 : List AObj} {i : Nat} {T : List AV} (h : i < n) (hT : T = F (i + 1)) : ∃ m', m' < n - i ∧ CI F n H0 m' T H0 :=
  ⟨n - (i + 1), by omega, i + 1, by omega, rfl, hT, rfl⟩
/-- At the head of a loop that counts, where something holds. -/
def CP (R : Nat → Prop) (F : Nat → List AV) (n : Nat) (H0 : List AObj) (m : Nat) (T : List AV) (H : List AObj) : Prop := ∃ i, i ≤ n ∧ m = n - i ∧ R i ∧ T = F i ∧ H = H0
theorem cp0 {R : Nat → Prop} {F : Nat → List AV} {n : Nat} {H0 : List AObj} {T : List AV} (s : Nat) (hs : s ≤ n) (hR : R s) (h : T = F s) : CP R F n H0 (n - s) T H0 := ⟨s, hs, rfl, hR, h, rfl⟩
theorem cpN {R : Nat → Prop} {F : Nat → List AV} {n : Nat} {H0 : List AObj} {i : Nat} {T : List AV} (h : i < n) (hR : R (i + 1)) (hT : T = F (i + 1)) : ∃ m', m' < n - i ∧ CP R F n H0 m' T H0 :=
  ⟨n - (i + 1), by omega, i + 1, by omega, rfl, hR, hT, rfl⟩
/-- Calls in a statement whose order is open: the same call, the same value. -/
theorem acc0 {k : FuncId} {xs : List AV} {v : AV} : ∀ p ∈ ([] : PAcc), p.1 = k → p.2.1 = xs → p.2.2 = v := fun _ h => by simp at h
theorem acc1 {k k' : FuncId} {xs ys : List AV} {v v' : AV} (h : k' = k → ys = xs → v' = v) : ∀ p ∈ ([(k', ys, v')] : PAcc), p.1 = k → p.2.1 = xs → p.2.2 = v := fun p hp => by
  simp only [List.mem_singleton] at hp; subst hp; exact h
theorem ints_inj : ∀ {a b : List Int}, a.map I = b.map I → a = b
  | [], [], _ => rfl
  | [], _ :: _, h => by simp at h
  | _ :: _, [], h => by simp at h
  | x :: a, y :: b, h => by
    simp only [List.map_cons, List.cons.injEq, AV.int.injEq, true_and] at h
    rw [h.1, ints_inj h.2]
theorem L1_inj {a b : List Int} (h : L1 a = L1 b) : a = b := by
  unfold L1 at h
  simp only [AV.lst.injEq] at h; exact ints_inj h.1
/-- Captured variables, as they are. -/
def Boxes (cap : List AV) : Prop := cap.all (pureD 7) = true ∧ ∀ u ∈ cap, ∃ cs, u = .lptr cs
theorem Boxes.all8 {cap : List AV} (h : Boxes cap) : cap.all (pureD 8) = true := by
  have h1 := h.1
  rw [List.all_eq_true] at h1 ⊢; exact fun u hu => pureD_succ (h1 u hu)
theorem Boxes.shz {cap : List AV} (h : Boxes cap) (H : List AObj) : cap.map (shz H) = cap := by
  conv => rhs; rw [← List.map_id cap]
  apply List.map_congr_left; intro u hu; obtain ⟨cs, rfl⟩ := h.2 u hu; rfl
theorem Boxes.shz0 {cap : List AV} (h : Boxes cap) (H : List AObj) : cap.map (shz0 H) = cap := by
  conv => rhs; rw [← List.map_id cap]
  apply List.map_congr_left; intro u hu; obtain ⟨cs, rfl⟩ := h.2 u hu; rfl
theorem Boxes.dim {cap : List AV} (h : Boxes cap) : cap.map AV.dim = cap := by
  conv => rhs; rw [← List.map_id cap]
  apply List.map_congr_left; intro u hu; obtain ⟨cs, rfl⟩ := h.2 u hu; rfl
theorem Boxes.fn {cap : List AV} (h : Boxes cap) (H : List AObj) (k : FuncId) : Ab.shz H (.func k [] cap) = .func k [] cap := by
  simp only [Ab.shz, h.shz0, List.map_nil]
theorem Boxes.pfn {cap : List AV} (h : Boxes cap) (k : FuncId) : pureD 8 (.func k [] cap) = true := by
  show (([] : List AV).all (pureD 7) && cap.all (pureD 7)) = true
  rw [h.1]; rfl
theorem Boxes.nil : Boxes [] := ⟨rfl, by simp⟩
section
variable {P : Program}
/-- A call of mode 6. -/
theorem call6 {k : FuncId} {xs bs : List AV} {H : List AObj} {lo : Nat} {v : AV} (hb : (xs.map (shz H)).map AV.dim = bs) (hp : (xs.map (shz H)).all (pureD 8) = true) (h : PureOk P k bs v) (hs : scal v = true) : CallS P 6 lo (.fn k) xs H v.dim H := by
  subst hb
  refine ⟨oneC (.fn k) ((xs.map (shz H)).map AV.dim) [] 0 v [], oneC_sound h.1, ?_⟩
  simp only [callTo, hp, oneC_self, Option.bind_some, frz_pure h.2, hs]
end
theorem headD0 {α : Type} {l : List α} (d : α) (h : 0 < l.length) : l.headD d = l[0] := by
  cases l with
  | nil => exact absurd h (by simp)
  | cons a l => rfl
/-- A pointer that is handed out: its variable, as it is. -/
theorem frz_ptr {H : List AObj} {id d : Nat} {l : List AV} (h : H[id]? = some (.cells l)) (hp : (l.map AV.view).all (pureD d) = true) : frz H 0 H.length 0 (d + 1) (.ptr id 0) = some (.lptr (l.map AV.view)) := by
  have h1 := (List.getElem?_eq_some_iff.1 h).1
  have h2 : mapO (frz H 0 H.length 0 d) (l.map AV.view) = some (l.map AV.view) := mapO_id fun u hu => frz_pure (by rw [List.all_eq_true] at hp; exact hp u hu)
  simp only [frz, Nat.not_lt_zero, if_false, h, List.drop_zero, h2, Option.map_some]
  rw [if_neg (by omega)]
theorem any_drop {α : Type} (p : α → Bool) (l : List α) (i : Nat) (h : i < l.length) : (l.drop i).any p = (p l[i] || (l.drop (i + 1)).any p) := by
  rw [List.drop_eq_getElem_cons h, List.any_cons]
theorem foldl_take {α β : Type} (g : β → α → β) (b : β) (l : List α) (i : Nat) (h : i < l.length) : (l.take (i + 1)).foldl g b = g ((l.take i).foldl g b) l[i] := by
  rw [List.take_succ_eq_append_getElem h, List.foldl_append]; rfl
/-! ### slices.IndexFunc, slices.ContainsFunc -/
def idxOf {α : Type} (p : α → Bool) : List α → Nat → Int
  | [], _ => -1
  | x :: l, i => if p x = true then i else idxOf p l (i + 1)
theorem idxOf_drop {α : Type} (p : α → Bool) (l : List α) (i : Nat) (h : i < l.length) : idxOf p (l.drop i) i = if p l[i] = true then (i : Int) else idxOf p (l.drop (i + 1)) (i + 1) := by
  rw [List.drop_eq_getElem_cons h]; rfl
theorem idxOf_nonneg {α : Type} (p : α → Bool) : ∀ (l : List α) (i : Nat), 0 ≤ idxOf p l i ↔ l.any p = true
  | [], i => by simp [idxOf]
  | x :: l, i => by
    have ih := idxOf_nonneg p l (i + 1)
    simp only [idxOf, List.any_cons, Bool.or_eq_true]
    by_cases hp : p x = true
    · simp [hp]
    · rw [if_neg hp, ih]; simp [hp]
theorem idxOf_any {α : Type} (p : α → Bool) (l : List α) (i : Nat) : decide (0 ≤ idxOf p l i) = l.any p := by
  rw [Bool.eq_iff_iff, decide_eq_true_iff]; exact idxOf_nonneg p l i
section
variable (l : List Int) (hl : l.length ≤ 140737488355328)
include hl
theorem indexFunc_ok (p : Int → Bool) (k : FuncId) (cap : List AV) (hc : Boxes cap) (hk : ∀ x ∈ l, PO k (I x :: cap) (B (p x))) :
    PO 110 [L1 l, .func k [] cap] (I (idxOf p l 0)) := by
  refine fn_pure hmix lk110 rfl rfl ?_
  unfold rc110
  conv => whnf
  refine .intro (fun m T H => ∃ i, i ≤ l.length ∧ m = l.length - i ∧ idxOf p l 0 = idxOf p (l.drop i) i ∧ T = [L1 l, .func k [] cap, J, J, J, J, J, I l.length, I i, J, J, J, J, J, J, J, J, J, J] ∧ H = []) l.length ⟨0, by omega, by omega, rfl, rfl, rfl⟩ ?_
  rintro m T H ⟨i, hi, rfl, he, rfl, rfl⟩
  conv => whnf
  refine dcase (fun h => ?_) (fun h => ?_)
  · have hlt : i < l.length := by omega
    rw [idxOf_drop p l i hlt] at he
    conv => whnf
    refine ⟨by omega, ?_⟩
    conv => whnf
    refine nthM _ _ _ (hlt) ?_
    conv => whnf
    refine ⟨_, _, call6 (bs := I l[i] :: cap) ?_ ?_ (hk _ (List.getElem_mem hlt)) rfl, ?_⟩
    · simp only [List.map_cons, hc.shz, hc.dim]; rfl
    · simp only [List.map_cons, hc.shz, List.all_cons, hc.all8]; rfl
    conv => whnf
    cases hp : p l[i] with
    | true =>
      conv => whnf
      rw [hp, if_pos rfl] at he
      exact ret_pure (.inr rfl) rfl (by rw [he]; rfl)
    | false =>
      conv => whnf
      rw [hp, if_neg (by simp)] at he
      exact ⟨l.length - (i + 1), by omega, i + 1, by omega, rfl, he, by rw [← wrapS i (by omega)] <;> rfl, rfl⟩
  · obtain rfl : i = l.length := by omega
    rw [List.drop_length] at he
    conv => whnf
    exact ret_pure (.inr rfl) rfl (by rw [he]; rfl)
theorem containsFunc_ok (p : Int → Bool) (k : FuncId) (cap : List AV) (hc : Boxes cap) (hk : ∀ x ∈ l, PO k (I x :: cap) (B (p x))) :
    PO 96 [L1 l, .func k [] cap] (B (l.any p)) := by
  refine fn_pure hmix lk96 rfl rfl ?_
  unfold rc96
  conv => whnf
  refine ⟨_, _, call6 (bs := [L1 l, .func k [] cap]) ?_ ?_ (indexFunc_ok l hl p k cap hc hk) rfl, ?_⟩
  · simp only [List.map_cons, List.map_nil, hc.fn]; rfl
  · simp only [List.map_cons, List.map_nil, hc.fn, List.all_cons, List.all_nil, hc.pfn, Bool.and_true]; exact pure_L1 6 l
  conv => whnf
  exact ret_pure (.inr rfl) rfl (by rw [← idxOf_any p l 0]; rfl)
end
section
variable (l : List (List Int)) (hl : l.length ≤ 140737488355328)
include hl
theorem indexFuncL_ok (p : List Int → Bool) (k : FuncId) (cap : List AV) (hc : Boxes cap) (hk : ∀ x ∈ l, PO k (L1 x :: cap) (B (p x))) :
    PO 98 [L2 l, .func k [] cap] (I (idxOf p l 0)) := by
  refine fn_pure hmix lk98 rfl rfl ?_
  unfold rc98
  conv => whnf
  refine .intro (fun m T H => ∃ i, i ≤ l.length ∧ m = l.length - i ∧ idxOf p l 0 = idxOf p (l.drop i) i ∧ T = [L2 l, .func k [] cap, J, J, J, J, J, I l.length, I i, J, J, J, J, J, J, J, J, J, J] ∧ H = []) l.length ⟨0, by omega, by omega, rfl, rfl, rfl⟩ ?_
  rintro m T H ⟨i, hi, rfl, he, rfl, rfl⟩
  conv => whnf
  refine dcase (fun h => ?_) (fun h => ?_)
  · have hlt : i < l.length := by omega
    rw [idxOf_drop p l i hlt] at he
    conv => whnf
    refine ⟨by omega, ?_⟩
    conv => whnf
    refine nthM _ _ _ (hlt) ?_
    conv => whnf
    refine ⟨_, _, call6 (bs := L1 l[i] :: cap) ?_ ?_ (hk _ (List.getElem_mem hlt)) rfl, ?_⟩
    · simp only [List.map_cons, hc.shz, hc.dim]; rfl
    · simp only [List.map_cons, hc.shz, List.all_cons, hc.all8, Bool.and_true]; exact pure_L1 6 _
    conv => whnf
    cases hp : p l[i] with
    | true =>
      conv => whnf
      rw [hp, if_pos rfl] at he
      exact ret_pure (.inr rfl) rfl (by rw [he]; rfl)
    | false =>
      conv => whnf
      rw [hp, if_neg (by simp)] at he
      exact ⟨l.length - (i + 1), by omega, i + 1, by omega, rfl, he, by rw [← wrapS i (by omega)] <;> rfl, rfl⟩
  · obtain rfl : i = l.length := by omega
    rw [List.drop_length] at he
    conv => whnf
    exact ret_pure (.inr rfl) rfl (by rw [he]; rfl)
theorem containsFuncL_ok (p : List Int → Bool) (k : FuncId) (cap : List AV) (hc : Boxes cap) (hk : ∀ x ∈ l, PO k (L1 x :: cap) (B (p x))) :
    PO 69 [L2 l, .func k [] cap] (B (l.any p)) := by
  refine fn_pure hmix lk69 rfl rfl ?_
  unfold rc69
  conv => whnf
  refine ⟨_, _, call6 (bs := [L2 l, .func k [] cap]) ?_ ?_ (indexFuncL_ok l hl p k cap hc hk) rfl, ?_⟩
  · simp only [List.map_cons, List.map_nil, hc.fn]; rfl
  · simp only [List.map_cons, List.map_nil, hc.fn, List.all_cons, List.all_nil, hc.pfn, Bool.and_true]; exact pure_L2 5 l
  conv => whnf
  exact ret_pure (.inr rfl) rfl (by rw [← idxOf_any p l 0]; rfl)
end
end Go.Proofs.Ytlcebaejlnpdeaa.Ab

/-
  From a contract to a row: what an input reads as, as the interpreter's values; what a pure call leaves behind.
-/
namespace Go.Proofs.Ytlcebaejlnpdeaa.Ab
open Go Go.ChangeShapes Go.WideShapes Go.ChangeAt Go.RowKit
/-- What memory holds. -/
def S0 (w : World) : Nat → Nat → Prop := fun b o => ∃ v, w.cell? ⟨b, o, none⟩ = some v
theorem hrel0 (w : World) : HRel w.heap.size (fun _ => none) [] (S0 w) w [] :=
  ⟨rfl, fun _ _ h => by simp at h, fun _ _ h => h, fun _ _ h => by simp at h, Nat.le_refl _⟩
/-- A pure call that returns true: nothing of old has turned. -/
theorem top_calls {P : Program} {k : FuncId} {args : List AV} {vs : List Value} {W : World} {b : Bool} (h : PureOk P k args (.bool b)) (hv : VRel (fun i => .arg i) (fun _ => none) [] (S0 W) W args vs) :
    Calls P k vs.toArray W fun e W' => e = .returned (.bool b) ∧ Below W.heap.size W W' := by
  have h1 := h.1.2.2 W.heap.size (fun _ => none) [] (S0 W) W vs (hrel0 W) (fun _ _ h => by simp at h) hv
  refine (callsIn_wide.1 h1).mono fun e W' he => ?_
  cases e with
  | returned v =>
    obtain ⟨ω', κ', S', _, ev, _, hr, _⟩ := he
    cases hr
    exact ⟨rfl, ev.os, ev.tape, ev.output, ev.size, fun b hb => ev.keep b hb rfl⟩
  | panicked c => exact he.elim
  | outgrown => exact he.elim
section
variable {H : Type} {enc : TypeId × Value → H} {P : Program} {w : World}
theorem again_all {W W' : World} (K : Kids P (· < P.types.size)) (hsz : ∀ t e, t < P.types.size → P.underlying t = some (.slice e) → 0 < P.cellsOf e) (hB : Below W.heap.size W W') {sp : Nat → Bool} :
    ∀ {ts : List TypeId} {vs : List Value} {ds : List (DataW H)} {p : List MemPlace}, (∀ t ∈ ts, t < P.types.size) → DataW.TrodAll enc P W 0 (fun _ => true) true ts vs ds p → (∀ x ∈ p, sp x.block = true) → (∀ x ∈ p, x.block < W.heap.size) → DataW.TrodAll enc P W' 0 sp true ts vs ds p
  | [], _, _, _, _, hA, _, _ => by obtain ⟨rfl, rfl, rfl⟩ := trodAll_nil hA; exact trodAll_mk0
  | t :: ts, _, _, _, hT, hA, hsp, hlt => by
    obtain ⟨v, vs, d, ds, a, b, rfl, rfl, rfl, ⟨n, hn⟩, h2⟩ := trodAll_cons hA
    refine ⟨a, b, ⟨n, ?_⟩, again_all K hsz hB (fun t ht => hT t (List.mem_cons_of_mem _ ht)) h2 (fun x hx => hsp x (List.mem_append_right _ hx)) (fun x hx => hlt x (List.mem_append_right _ hx)), rfl⟩
    exact DataW.trod_stays K (fun {t e} ht he => hsz t e ht he) (fun h => by cases h) (hT t List.mem_cons_self) hn (fun x hx => hB.same (hlt x (List.mem_append_left _ hx))) fun x hx => hsp x (List.mem_append_left _ hx)
/-- The row's end: nothing has turned, and true is returned. -/
theorem post_true {f : Func} {s : ChangeSpec} {again : Bool} {W W' : World} {args : Array Value} {t : TypeId} {ds gs : List (DataW H)} {before : List MemPlace}
    (hl : laidOutB P = true) (hm : mapsRowed P = true) (hz : ((List.range P.types.size).all fun t => match P.underlying t with | some (.slice e) => decide (0 < P.cellsOf e) | _ => true) = true)
    (ht : f.resultTypes = #[t]) (hbt : P.underlying t = some .bool) (hps : f.params.toList.all (fun t => decide (t < P.types.size)) = true) (hvars : s.vars = [])
    (hW : DataW.Whole enc P f.params.toList s.vars false W args.toList ds gs before) (hB : Below W.heap.size W W')
    (hs : s.fn H (ds ++ gs) = { results := [.lit (.bool true)], args := ds }) : s.post enc P f false true false again W args (.bool true) W' := by
  have hlt := hW.lt
  have hW2 := hW
  obtain ⟨p, q, hA, hV, rfl, hfz, hnd⟩ := hW2
  rw [hvars] at hV
  obtain ⟨rfl, rfl⟩ := trodVars_none hV
  rw [List.append_nil] at *
  have K : Kids P (· < P.types.size) := kids_rows hl hm
  have hsz := slices_full_of P hz
  have hT : ∀ t ∈ f.params.toList, t < P.types.size := fun t h => by
    have := List.all_eq_true.1 hps t h; simpa using this
  have again : ∀ sp : Nat → Bool, (∀ x ∈ p, sp x.block = true) → DataW.TrodAll enc P W' 0 sp true f.params.toList args.toList ds p := fun sp hsp =>
    again_all K hsz hB hT hA hsp hlt
  have hres : ∀ (b : Nat) (sp : Nat → Bool) (hd : Bool), DataW.TrodAll enc P W' b sp hd f.resultTypes.toList ((Value.bool true).resultList f.resultTypes.size) (s.fn H ds).results [] := fun b sp hd => by
    rw [hs, ht]
    exact trodAll_mk1 (shut_bool hbt true)
  have hargs : ∀ sp : Nat → Bool, (∀ x ∈ p, sp x.block = true) → DataW.TrodAll enc P W' 0 sp true f.params.toList args.toList (s.fn H ds).args p := fun sp hsp => by
    rw [hs]; exact again sp hsp
  have hv : ∀ sp : Nat → Bool, DataW.TrodVars enc P W' sp s.vars (s.fn H ds).vars [] := fun sp => by
    rw [hs, hvars]; rfl
  have hold : ∀ x ∈ p, (fun b => decide (b < W.heap.size)) x.block = true := fun x hx => by simpa using hlt x hx
  refine ⟨ds, [], p, [], p, [], hW, by rw [List.append_nil]; exact hres _ _ _, by rw [List.append_nil]; exact hargs _ hold, by rw [List.append_nil]; exact hv _, hB.frame _, fun _ => ?_⟩
  refine ⟨fun j u r hu hr => ?_, (s.fn H ds).results ++ (s.fn H ds).args, [], p, ⟨p, [], ?_, ?_, by simp, ?_, fun h => by cases h⟩, fun x hx _ => hx⟩
  · rw [ht] at hu hr
    cases j with
    | zero => simp [Value.resultList] at hu hr; subst hu; subst hr; exact okWide_bool_mk hbt true
    | succ j => simp at hu
  · have := trodAll_append (hargs (fun _ => true) fun _ _ => rfl) (hres 0 (fun _ => true) true)
    simpa using this
  · rw [hvars]; rfl
  · intro b o hb
    have := hlt _ hb
    rw [hB.frozen (p := ⟨b, o, none⟩) this]
    exact hfz b o hb
/-! ### What arguments read as -/
theorem map_of {α : Type} {f : α → AV} {R : α → Prop} : ∀ {l : List AV}, (∀ u ∈ l, ∃ x, u = f x ∧ R x) → ∃ zs : List α, l = zs.map f ∧ ∀ x ∈ zs, R x
  | [], _ => ⟨[], rfl, by simp⟩
  | u :: l, h => by
    obtain ⟨x, rfl, hx⟩ := h u (by simp)
    obtain ⟨zs, rfl, hz⟩ := map_of (l := l) fun y hy => h y (by simp [hy])
    exact ⟨x :: zs, rfl, by simpa using ⟨hx, hz⟩⟩
/-- A cell that reads as a type is so related. -/
abbrev Cel (enc : TypeId × Value → H) (P : Program) (w : World) (e : TypeId) (Q : AV → Prop) : Prop :=
  ∀ n v y, DataW.trod enc P w 0 (fun _ => true) true n e [v] = some y → ∃ u, u.plain = true ∧ v.oneCell' = true ∧ Rel [] (S0 w) w u v ∧ Q u
theorem cel_int {e : TypeId} {k : IntKind} (ht : P.underlying e = some (.int k)) : Cel enc P w e fun u => ∃ x, u = .int k x ∧ (Lit.int k x).wf = true := by
  intro n v y h
  obtain ⟨x, hx, _, hw⟩ := DataW.trod_int ht h
  injection hx with hx _
  subst hx
  exact ⟨.int k x, rfl, rfl, .int k x, x, rfl, hw⟩
instance : Inhabited AV := ⟨.junk⟩
theorem cel_list {t e : TypeId} (ht : P.underlying t = some (.slice e)) (ce : P.cellsOf e = 1) {Q : AV → Prop} (he : Cel enc P w e Q) :
    Cel enc P w t fun u => ∃ l : List AV, u = .lst l l.length .shared ∧ l.length ≤ maxLen ∧ ∀ u ∈ l, Q u := by
  intro fuel v x h
  rcases Deep.open_slice1 ht ce h with ⟨hv, _⟩ | ⟨a, len, cap, m, n, V, D, Pl, hv, _, hl, hm, hmm, _, hx⟩
  · injection hv with hv _; subst hv
    exact ⟨_, rfl, rfl, .lnil _ _, [], rfl, Nat.zero_le _, by simp⟩
  · injection hv with hv _; subst hv
    have hmm : m = cap := hmm
    have hx : ∀ i, i < cap → w.cell? (a.add i) = some (V i) ∧ DataW.trod enc P w 0 (fun _ => true) true n e [V i] = some (D i, Pl i) := fun i hi => hx i (by omega)
    by_cases hc : cap = 0
    · subst hc; obtain rfl : len = 0 := by omega
      exact ⟨_, rfl, rfl, .lnil _ _, [], rfl, Nat.zero_le _, by simp⟩
    · obtain ⟨b, o, sp⟩ := a
      have h0 := (hx 0 (by omega)).1
      have hs : sp = none := by simpa [Addr.add] using World.cell?_spot h0
      subst hs
      obtain ⟨U, hU⟩ := Deep.choose_lt (α := AV) (n := len) (p := fun i u => u.plain = true ∧ (V i).oneCell' = true ∧ Rel [] (S0 w) w u (V i) ∧ Q u) fun i hi => he n (V i) _ (hx i (by omega)).2
      refine ⟨.lst ((List.range len).map U) len .shared, rfl, rfl, .lst _ _ _ b o cap V (by simp) hl (by simp) (fun j u hj => ?_) (fun j u hj => ?_), (List.range len).map U, by simp, by simp; omega, fun u hu => ?_⟩
      · have hjl : j < len := by have := (List.getElem?_eq_some_iff.1 hj).1; simpa using this
        simp [hjl] at hj; subst hj
        have hcell : w.cell? ⟨b, o + j, none⟩ = some (V j) := by have := (hx j (by omega)).1; rwa [add_lit] at this
        exact ⟨⟨_, hcell⟩, hcell, (hU j hjl).1, (hU j hjl).2.1⟩
      · have hjl : j < len := by have := (List.getElem?_eq_some_iff.1 hj).1; simpa using this
        simp [hjl] at hj; subst hj
        exact (hU j hjl).2.2.1
      · obtain ⟨j, hj, rfl⟩ := List.mem_map.1 hu
        exact (hU j (List.mem_range.1 hj)).2.2.2
/-- What fits into 64 bits. -/
def Fi (x : Int) : Prop := -9223372036854775808 ≤ x ∧ x ≤ 9223372036854775807
theorem wf_i64 {x : Int} (h : (Lit.int .i64 x).wf = true) : Fi x := by
  have h1 : IntKind.i64.min = -9223372036854775808 := rfl
  have h2 : IntKind.i64.max = 9223372036854775807 := rfl
  simp only [Lit.wf, Bool.and_eq_true, decide_eq_true_eq] at h
  exact ⟨by omega, by omega⟩
theorem wf_u8 {x : Int} (h : (Lit.int .u8 x).wf = true) : 0 ≤ x ∧ x ≤ 255 := by
  have h1 : IntKind.u8.min = 0 := rfl
  have h2 : IntKind.u8.max = 255 := rfl
  simp only [Lit.wf, Bool.and_eq_true, decide_eq_true_eq] at h
  exact ⟨by omega, by omega⟩
/-- Lists that fit in memory. -/
structure Fl (l : List Int) : Prop where
  n : l.length ≤ 9223372036854775807
  v : ∀ x ∈ l, Fi x
structure Fl2 (l : List (List Int)) : Prop where
  n : l.length ≤ 9223372036854775807
  v : ∀ r ∈ l, Fl r
theorem maxLen_le {n : Nat} (h : n ≤ maxLen) : n ≤ 9223372036854775807 := by unfold maxLen at h; omega
theorem cel_L1 {t e : TypeId} (ht : P.underlying t = some (.slice e)) (ce : P.cellsOf e = 1) (he : P.underlying e = some (.int .i64)) : Cel enc P w t fun u => ∃ l, u = L1 l ∧ Fl l := by
  intro n v y h
  obtain ⟨u, a1, a2, a3, l, rfl, a4, a5⟩ := cel_list ht ce (cel_int he) n v y h
  obtain ⟨zs, rfl, a6⟩ := map_of a5
  exact ⟨_, a1, a2, a3, zs, by simp [L1], by simpa using maxLen_le a4, fun x hx => wf_i64 (a6 x hx)⟩
theorem cel_L2 {t t1 e : TypeId} (ht : P.underlying t = some (.slice t1)) (ce1 : P.cellsOf t1 = 1) (ht1 : P.underlying t1 = some (.slice e)) (ce : P.cellsOf e = 1) (he : P.underlying e = some (.int .i64)) : Cel enc P w t fun u => ∃ l, u = L2 l ∧ Fl2 l := by
  intro n v y h
  obtain ⟨u, a1, a2, a3, l, rfl, a4, a5⟩ := cel_list ht ce1 (cel_L1 ht1 ce he) n v y h
  obtain ⟨zs, rfl, a6⟩ := map_of a5
  exact ⟨_, a1, a2, a3, zs, by simp [L2], by simpa using maxLen_le a4, a6⟩
/-- Bytes. -/
def Y1 (l : List Int) : AV := .lst (l.map (.int .u8)) l.length .shared
structure Fy (l : List Int) : Prop where
  n : l.length ≤ 9223372036854775807
  v : ∀ x ∈ l, 0 ≤ x ∧ x ≤ 255
theorem cel_Y1 {t e : TypeId} (ht : P.underlying t = some (.slice e)) (ce : P.cellsOf e = 1) (he : P.underlying e = some (.int .u8)) : Cel enc P w t fun u => ∃ l, u = Y1 l ∧ Fy l := by
  intro n v y h
  obtain ⟨u, a1, a2, a3, l, rfl, a4, a5⟩ := cel_list ht ce (cel_int he) n v y h
  obtain ⟨zs, rfl, a6⟩ := map_of a5
  exact ⟨_, a1, a2, a3, zs, by simp [Y1], by simpa using maxLen_le a4, fun x hx => wf_u8 (a6 x hx)⟩
/-- An argument. -/
abbrev Arg (enc : TypeId × Value → H) (P : Program) (w : World) (base : Nat) (t : TypeId) (Q : AV → Prop) : Prop :=
  ∀ v d p, Value.okWide P w .any base t v → DataW.Trod enc P w 0 (fun _ => true) true t v d p → ∃ u, u.plain = true ∧ Rel [] (S0 w) w u v ∧ Q u
theorem arg_slice {base : Nat} {t e : TypeId} (ht : P.underlying t = some (.slice e)) {Q : AV → Prop} (hc : Cel enc P w t Q) : Arg enc P w base t Q := by
  intro v d p hv ⟨n, hd⟩
  obtain ⟨a, len, cap, rfl⟩ := okWide_slice ht hv
  obtain ⟨u, a1, _, a3, a4⟩ := hc n _ _ hd
  exact ⟨u, a1, a3, a4⟩
/-- A struct of one field of one cell. -/
theorem arg_struct1 {base : Nat} {t : TypeId} {f0 : Field} (ht : P.underlying t = some (.struct #[f0])) (h0 : f0.offset = 0) (hc1 : P.cellsOf t = 1) (hc0 : P.cellsOf f0.type = 1) {Q : AV → Prop} (hc : Cel enc P w f0.type Q) :
    Arg enc P w base t fun u => ∃ x, u = .agg [x] ∧ Q x := by
  intro v d p hv ⟨n, hd⟩
  unfold Value.okWide at hv
  rw [ht] at hv
  obtain ⟨cs, rfl, hsz, _⟩ := hv
  obtain ⟨y0, m, _, _, h1⟩ := trod_struct1 ht hd
  rw [hc1] at hsz
  obtain ⟨c, rfl⟩ : ∃ c, cs = #[c] := by
    obtain ⟨l⟩ := cs
    match l, hsz with
    | [c], _ => exact ⟨c, rfl⟩
  rw [h0, hc0] at h1
  obtain ⟨u, a1, a2, a3, a4⟩ := hc m c _ h1
  refine ⟨.agg [u], rfl, .agg [u] #[c] rfl (by simpa using a1) (by simpa using a2) fun j x y hx hy => ?_, u, rfl, a4⟩
  cases j with
  | zero => simp at hx hy; subst hx; subst hy; exact a3
  | succ j => simp at hx
theorem vrel_of {us : List AV} {vs : List Value} (h : us.length = vs.length) (hr : ∀ (i : Nat) (u : AV) (v : Value), us[i]? = some u → vs[i]? = some v → u.plain = true ∧ Rel [] (S0 w) w u v) : VRel (fun i => .arg i) (fun _ => none) [] (S0 w) w us vs :=
  ⟨h, fun i u v hu hv => (hr i u v hu hv).2, fun i u v hu hv => OwnAt.of_plain (hr i u v hu hv).1⟩
theorem vrel_two {u0 u1 : AV} {v0 v1 : Value} (p0 : u0.plain = true) (r0 : Rel [] (S0 w) w u0 v0) (p1 : u1.plain = true) (r1 : Rel [] (S0 w) w u1 v1) : VRel (fun i => .arg i) (fun _ => none) [] (S0 w) w [u0, u1] [v0, v1] :=
  vrel_of rfl fun i u v hu hv => by
    match i with
    | 0 => simp at hu hv; subst hu; subst hv; exact ⟨p0, r0⟩
    | 1 => simp at hu hv; subst hu; subst hv; exact ⟨p1, r1⟩
    | i + 2 => simp at hu
end
end Go.Proofs.Ytlcebaejlnpdeaa.Ab

/-
  Plain words of layer 5: panels, orders, seams.
-/
namespace Go.Proofs.Ytlcebaejlnpdeaa.Ab
def sumI (l : List Int) : Int := l.foldl (fun n x => n + x) 0
theorem foldl_add (l : List Int) : ∀ a : Int, l.foldl (fun n x => n + x) a = a + l.foldl (fun n x => n + x) 0 := by
  induction l with
  | nil => intro a; simp
  | cons x l ih => intro a; simp only [List.foldl_cons]; rw [ih (a + x), ih (0 + x)]; omega
theorem sumI_cons (x : Int) (l : List Int) : sumI (x :: l) = x + sumI l := by
  unfold sumI; rw [List.foldl_cons, foldl_add]; omega
theorem sumI_nil : sumI [] = 0 := rfl
theorem sumI_append (a b : List Int) : sumI (a ++ b) = sumI a + sumI b := by
  unfold sumI; rw [List.foldl_append, foldl_add b]
/-- A list of small numbers. -/
structure Sm (l : List Int) : Prop where
  len : l.length ≤ 1000000
  val : ∀ x ∈ l, 0 ≤ x ∧ x ≤ 1000000
theorem Sm.bound : ∀ {l : List Int}, (∀ x ∈ l, 0 ≤ x ∧ x ≤ 1000000) → 0 ≤ sumI l ∧ sumI l ≤ 1000000 * l.length
  | [], _ => by simp [sumI]
  | x :: l, h => by
    have ih := Sm.bound (l := l) fun y hy => h y (by simp [hy])
    have hx := h x (by simp)
    rw [sumI_cons, List.length_cons]; omega
theorem Sm.take {l : List Int} (h : Sm l) (i : Nat) : 0 ≤ sumI (l.take i) ∧ sumI (l.take i) ≤ 1000000000000 := by
  have h1 := Sm.bound (l := l.take i) fun x hx => h.val x (List.mem_of_mem_take hx)
  have h2 : (l.take i).length ≤ l.length := List.length_take_le' i l
  have := h.len
  omega
theorem sum_snoc (l : List Int) (i : Nat) (h : i < l.length) : sumI (l.take (i + 1)) = sumI (l.take i) + l[i] := by
  rw [List.take_succ_eq_append_getElem h, sumI_append, sumI_cons, sumI_nil]; omega
def outOf (lo hi x : Int) : Bool := decide (x < lo) || decide (hi < x)
/-- Is it valid? -/
def checkP (p : List (List Int)) : Int :=
  if outOf 2 4 p.length || p.any (fun l => outOf 1 5 l.length) then 6
  else if p.any (fun l => l.any (outOf 1 100)) then 3
  else if p.any (fun l => decide (sumI l ≠ sumI (p.headD []))) then 15 else 0
structure Val (p : List (List Int)) : Prop where
  n2 : 2 ≤ p.length
  n4 : p.length ≤ 4
  s1 : ∀ l ∈ p, 1 ≤ l.length
  s5 : ∀ l ∈ p, l.length ≤ 5
  w : ∀ l ∈ p, ∀ x ∈ l, 1 ≤ x ∧ x ≤ 100
  eq : ∀ l ∈ p, sumI l = sumI (p.headD [])
theorem any_false {α : Type} {p : α → Bool} {l : List α} : l.any p = false ↔ ∀ x ∈ l, p x = false := by
  rw [List.any_eq_false]; simp
theorem outOf_false {lo hi x : Int} : outOf lo hi x = false ↔ lo ≤ x ∧ x ≤ hi := by
  simp only [outOf, Bool.or_eq_false_iff, decide_eq_false_iff_not]; omega
theorem checkP_val {p : List (List Int)} (h : checkP p = 0) : Val p := by
  unfold checkP at h
  split at h
  · cases h
  · rename_i h1
    split at h
    · cases h
    · rename_i h2
      split at h
      · cases h
      · rename_i h3
        simp only [Bool.not_eq_true, Bool.or_eq_false_iff, outOf_false, any_false] at h1 h2 h3
        exact ⟨by omega, by omega, fun l hl => by have := (h1.2 l hl).1; omega, fun l hl => by have := (h1.2 l hl).2; omega, fun l hl x hx => h2 l hl x hx, fun l hl => by simpa using h3 l hl⟩
theorem Val.check {p : List (List Int)} (h : Val p) : checkP p = 0 := by
  unfold checkP
  rw [if_neg, if_neg, if_neg]
  · simp only [Bool.not_eq_true, any_false]; intro l hl; simpa using h.eq l hl
  · simp only [Bool.not_eq_true, any_false, outOf_false]; exact fun l hl x hx => h.w l hl x hx
  · have := h.n2; have := h.n4
    simp only [Bool.not_eq_true, Bool.or_eq_false_iff, any_false, outOf_false]
    exact ⟨by omega, fun l hl => by have := h.s1 l hl; have := h.s5 l hl; omega⟩
theorem Val.sm {p : List (List Int)} (h : Val p) {l : List Int} (hl : l ∈ p) : Sm l :=
  ⟨by have := h.s5 l hl; omega, fun x hx => by have := h.w l hl x hx; omega⟩
def has (l : List Int) (n : Int) : Bool := decide (n ∈ l)
theorem has_cons (x : Int) (l : List Int) (n : Int) : has (x :: l) n = (decide (n = x) || has l n) := by
  simp [has, List.mem_cons, Bool.decide_or]
theorem has_drop (l : List Int) (n : Int) (i : Nat) (h : i < l.length) : has (l.drop i) n = (decide (n = l[i]) || has (l.drop (i + 1)) n) := by
  rw [List.drop_eq_getElem_cons h, has_cons]
theorem has_iff {l : List Int} {n : Int} : has l n = true ↔ n ∈ l := by simp [has]
theorem any_has (l : List Int) (x : Int) : (l.any fun y => decide (x = y)) = has l x := by
  rw [Bool.eq_iff_iff, List.any_eq_true, has_iff]; simp
/-- How many numbers two lists have in common. -/
def common (a b : List Int) : Nat := (a.filter fun x => has b x).length
/-- Is the rest an order of so many, behind those? -/
def ordGo (n : Nat) : List Int → List Int → Bool
  | _, [] => true
  | b, x :: r => !(outOf 0 ((n : Int) - 1) x || has b x) && ordGo n (b ++ [x]) r
def isOrd (l : List Int) (n : Nat) : Bool := decide (l.length = n) && ordGo n [] l
def atGo (layer : List Int) (a : Int) (l : List Int) : Int := l.foldl (fun a i => a + layer.getD i.toNat 0) a
def seamsGo (layer : List Int) : Int → List Int → List Int
  | _, [] => []
  | a, i :: r => (a + layer.getD i.toNat 0) :: seamsGo layer (a + layer.getD i.toNat 0) r
def seamsOf (layer order : List Int) : List Int := seamsGo layer 0 order.dropLast
theorem seamsGo_snoc (layer : List Int) : ∀ (l : List Int) (a x : Int), seamsGo layer a (l ++ [x]) = seamsGo layer a l ++ [atGo layer a (l ++ [x])]
  | [], a, x => rfl
  | i :: l, a, x => by
    show (a + layer.getD i.toNat 0) :: seamsGo layer (a + layer.getD i.toNat 0) (l ++ [x]) = _
    rw [seamsGo_snoc layer l]; rfl
theorem atGo_snoc (layer : List Int) (l : List Int) (a x : Int) : atGo layer a (l ++ [x]) = atGo layer a l + layer.getD x.toNat 0 := by
  unfold atGo; rw [List.foldl_append]; rfl
theorem seamsGo_length (layer : List Int) : ∀ (l : List Int) (a : Int), (seamsGo layer a l).length = l.length
  | [], a => rfl
  | i :: l, a => by simp [seamsGo, seamsGo_length layer l]
/-- The seams of all layers. -/
def seamsBy (p orders : List (List Int)) : List (List Int) := List.zipWith seamsOf p orders
def ordErr (p orders : List (List Int)) : Int :=
  if checkP p ≠ 0 then checkP p
  else if orders.length ≠ p.length then 15
  else if (List.zip orders p).any (fun x => !isOrd x.1 x.2.length) then 16 else 0
/-- The least difference of numbers of two lists, at most another one. -/
def betw (a b : List Int) (m : Int) : Int := a.foldl (fun m x => b.foldl (fun m y => min m (max (x - y) (y - x))) m) m
end Go.Proofs.Ytlcebaejlnpdeaa.Ab

/-
  Contracts: small functions of layer 5.
-/
namespace Go.Proofs.Ytlcebaejlnpdeaa.Ab
open Go
theorem within1_ok (lo hi x : Int) : PO 97 [I x, .lptr [I lo], .lptr [I hi]] (B (outOf lo hi x)) := by
  refine fn_pure hmix lk97 rfl rfl ?_
  unfold rc97
  conv => whnf
  cases h : decide (x < lo) with
  | true =>
    conv => whnf
    exact ret_pure (.inr rfl) rfl (by unfold outOf; rw [h]; rfl)
  | false =>
    conv => whnf
    exact ret_pure (.inr rfl) rfl (by unfold outOf; rw [h]; rfl)
theorem within_ok (lo hi : Int) (l : List Int) (hl : l.length ≤ 140737488355328) : PO 67 [I lo, I hi, L1 l] (B (!(l.any (outOf lo hi)))) := by
  refine fn_pure hmix lk67 rfl rfl ?_
  unfold rc67
  conv => whnf
  refine ⟨_, _, call6 (bs := [L1 l, .func 97 [] [.lptr [I lo], .lptr [I hi]]]) rfl ?_ (containsFunc_ok l hl _ 97 [.lptr [I lo], .lptr [I hi]] ⟨rfl, by simp⟩ fun x _ => within1_ok lo hi x) rfl, ?_⟩
  · simp only [List.map_cons, List.map_nil, List.all_cons, List.all_nil, Bool.and_true, Bool.and_eq_true]
    exact ⟨pure_L1 6 l, rfl⟩
  conv => whnf
  exact ret_pure (.inr rfl) rfl rfl
theorem within0_ok (lo hi x : Int) : PO 67 [I lo, I hi, L1 [x]] (B (!(outOf lo hi x))) := by
  have := within_ok lo hi [x] (by simp)
  simpa using this
theorem size_ok (l : List Int) : PO 66 [L1 l] (B (outOf 1 5 l.length)) := by
  refine fn_pure hmix lk66 rfl rfl ?_
  unfold rc66
  conv => whnf
  refine ⟨rfl, _, within0_ok 1 5 l.length, ?_⟩
  conv => whnf
  exact ret_pure (.inr rfl) rfl (by simp only [Bool.not_not]; rfl)
theorem stray_ok (l : List Int) (hl : l.length ≤ 140737488355328) : PO 68 [L1 l] (B (l.any (outOf 1 100))) := by
  refine fn_pure hmix lk68 rfl rfl ?_
  unfold rc68
  conv => whnf
  refine ⟨by first | rfl | simp only [List.all_cons, List.all_nil, pu0, pub, pu1, pu2, pu1', pu2', pun, puf, puP, puP', puQ, puQ', Bool.and_true, Bool.and_self], _, within_ok 1 100 l hl, ?_⟩
  conv => whnf
  exact ret_pure (.inr rfl) rfl (by simp only [Bool.not_not]; rfl)
theorem sum_ok (l : List Int) (hl : Sm l) : PO 71 [L1 l] (I (sumI l)) := by
  refine fn_pure hmix lk71 rfl rfl ?_
  unfold rc71
  conv => whnf
  refine .intro (CI (fun i => slots 17 [(3, I (sumI (l.take i))), (6, L1 l), (7, I l.length), (8, I i)]) l.length []) l.length (ci0 rfl) ?_
  rintro m T H ⟨i, hi, rfl, rfl, rfl⟩
  have := hl.len
  conv => whnf
  refine dcase (fun h => ?_) (fun h => ?_)
  · have hlt : i < l.length := by omega
    conv => whnf
    refine ⟨by omega, ?_⟩
    conv => whnf
    refine nthM _ _ _ (hlt) ?_
    conv => whnf
    have := hl.take i
    have := hl.val _ (List.getElem_mem hlt)
    exact ciN hlt (by rw [sum_snoc l i hlt, wrapI _ (by omega) (by omega), ← wrapS i (by omega)] <;> rfl)
  · obtain rfl : i = l.length := by omega
    conv => whnf
    exact ret_pure (.inr rfl) rfl (by rw [List.take_length]; rfl)
theorem rsum_ok (l : List Int) (hl : Sm l) : PO 53 [L1 l] (I (sumI l)) := by
  refine fn_pure hmix lk53 rfl rfl ?_
  unfold rc53
  conv => whnf
  refine .intro (CI (fun i => slots 18 [(0, L1 l), (3, I (sumI (l.take i))), (4, I i)]) l.length []) l.length (ci0 rfl) ?_
  rintro m T H ⟨i, hi, rfl, rfl, rfl⟩
  have := hl.len
  conv => whnf
  refine dcase (fun h => ?_) (fun h => ?_)
  · have hlt : i < l.length := by omega
    conv => whnf
    refine ⟨by omega, ?_⟩
    conv => whnf
    refine nthM _ _ _ (hlt) ?_
    conv => whnf
    have := hl.take i
    have := hl.val _ (List.getElem_mem hlt)
    exact ciN hlt (by rw [sum_snoc l i hlt, wrapI _ (by omega) (by omega), ← wrapS i (by omega)] <;> rfl)
  · obtain rfl : i = l.length := by omega
    conv => whnf
    exact ret_pure (.inr rfl) rfl (by rw [List.take_length]; rfl)
theorem equal1_ok (p : List (List Int)) (l l0 : List Int) (h0 : p[0]? = some l0) (hl : Sm l) (hl0 : Sm l0) : PO 70 [L1 l, .lptr [L2 p]] (B (decide (sumI l ≠ sumI l0))) := by
  refine fn_pure hmix lk70 rfl rfl ?_
  unfold rc70
  conv => whnf
  refine ⟨by first | rfl | simp only [List.all_cons, List.all_nil, pu0, pub, pu1, pu2, pu1', pu2', pun, puf, puP, puP', puQ, puQ', Bool.and_true, Bool.and_self], _, sum_ok l hl, acc0, ?_⟩
  conv => whnf
  have hlt := (List.getElem?_eq_some_iff.1 h0).1
  have he := (List.getElem?_eq_some_iff.1 h0).2
  refine ⟨by omega, ?_⟩
  conv => whnf
  refine nthM _ _ _ (hlt) ?_
  conv => whnf
  refine ⟨by first | rfl | simp only [List.all_cons, List.all_nil, pu0, pub, pu1, pu2, pu1', pu2', pun, puf, puP, puP', puQ, puQ', Bool.and_true, Bool.and_self], _, sum_ok p[0] (he ▸ hl0), acc1 fun _ h => ?_, ?_⟩
  · simp only [List.cons.injEq, and_true] at h
    rw [L1_inj (a := l) (b := p[0]) h]
  conv => whnf
  exact ret_pure (.inr rfl) rfl (by rw [he]; rfl)
/-! ### great, wide -/
def most (p : List (List Int)) : Int := p.foldl (fun n l => max n (l.length : Int)) p.length
theorem most_bound : ∀ (p : List (List Int)) (a : Int), p.foldl (fun n l => max n (l.length : Int)) a ≤ 8 ↔ a ≤ 8 ∧ ∀ l ∈ p, l.length ≤ 8
  | [], a => by simp
  | x :: p, a => by
    rw [List.foldl_cons, most_bound p]
    simp only [List.forall_mem_cons]
    constructor
    · rintro ⟨h1, h2⟩; exact ⟨by omega, by omega, h2⟩
    · rintro ⟨h1, h2, h3⟩; exact ⟨by omega, h3⟩
/-- Are there too many? -/
def big (p : List (List Int)) : Bool := decide (8 < most p)
theorem big_false {p : List (List Int)} : big p = false ↔ p.length ≤ 8 ∧ ∀ l ∈ p, l.length ≤ 8 := by
  rw [big, most, decide_eq_false_iff_not, Int.not_lt, most_bound]
  exact and_congr_left' (by omega)
section
variable (p : List (List Int)) (hp : p.length ≤ 9223372036854775807)
include hp
theorem great_ok : PO 18 [P1 p] (B (big p)) := by
  refine fn_pure hmix lk18 rfl rfl ?_
  unfold rc18
  conv => whnf
  refine .intro (CI (fun i => slots 25 [(1, .ptr 0 0), (3, I ((p.take i).foldl (fun n l => max n (l.length : Int)) p.length)), (4, I i)]) p.length [.cells [L2 p]]) p.length (ci0 rfl) ?_
  rintro m T H ⟨i, hi, rfl, rfl, rfl⟩
  conv => whnf
  refine dcase (fun h => ?_) (fun h => ?_)
  · have hlt : i < p.length := by omega
    conv => whnf
    refine ⟨by omega, ?_⟩
    conv => whnf
    refine nthM _ _ _ (hlt) ?_
    conv => whnf
    exact ciN hlt (by rw [foldl_take _ _ p i hlt, ← wrapS i (by omega)] <;> rfl)
  · obtain rfl : i = p.length := by omega
    conv => whnf
    exact ret_pure (.inr rfl) rfl (by rw [List.take_length]; rfl)
theorem wide_ok : PO 19 [L2 p] (B (big p)) := by
  refine fn_pure hmix lk19 rfl rfl ?_
  unfold rc19
  conv => whnf
  refine .intro (CI (fun i => slots 22 [(0, L2 p), (3, I ((p.take i).foldl (fun n l => max n (l.length : Int)) p.length)), (4, I i)]) p.length []) p.length (ci0 rfl) ?_
  rintro m T H ⟨i, hi, rfl, rfl, rfl⟩
  conv => whnf
  refine dcase (fun h => ?_) (fun h => ?_)
  · have hlt : i < p.length := by omega
    conv => whnf
    refine ⟨by omega, ?_⟩
    conv => whnf
    refine nthM _ _ _ (hlt) ?_
    conv => whnf
    exact ciN hlt (by rw [foldl_take _ _ p i hlt, ← wrapS i (by omega)] <;> rfl)
  · obtain rfl : i = p.length := by omega
    conv => whnf
    exact ret_pure (.inr rfl) rfl (by rw [List.take_length]; rfl)
end
/-! ### CheckPanel -/
theorem boxL2 (p : List (List Int)) : Boxes [.lptr [L2 p]] := ⟨by rw [List.all_cons, List.all_nil, Bool.and_true]; exact pureD_le (d := 4) (by show [L2 p].all (pureD 3) = true; rw [List.all_cons, List.all_nil, Bool.and_true]; exact pure_L2 0 p) (by omega), by simp⟩
theorem sm_of {p : List (List Int)} (h1 : p.any (fun l => outOf 1 5 l.length) = false) (h2 : p.any (fun l => l.any (outOf 1 100)) = false) {l : List Int} (hl : l ∈ p) : Sm l := by
  simp only [any_false, outOf_false] at h1 h2
  exact ⟨by have := h1 l hl; omega, fun x hx => by have := h2 l hl x hx; omega⟩
theorem checkPanel_ok (p : List (List Int)) (hp : p.length ≤ 140737488355328) (hq : ∀ l ∈ p, l.length ≤ 140737488355328) : PO 25 [P1 p] (I (checkP p)) := by
  refine fn_pure hmix lk25 rfl rfl ?_
  unfold rc25
  conv => whnf
  refine ⟨by first | rfl | simp only [List.all_cons, List.all_nil, pu0, pub, pu1, pu2, pu1', pu2', pun, puf, puP, puP', puQ, puQ', Bool.and_true, Bool.and_self], _, within0_ok 2 4 p.length, ?_⟩
  conv => whnf
  have fin : ∀ {x : Int}, checkP p = x → ∀ {T : List AV} {H : List AObj}, getT T 2 = I x → Ret [.tmp 2] (I (checkP p)) .ret T H := fun hx => by
    intro T H hT
    exact ret_pure (.inr rfl) rfl (by rw [hx]; simp only [readR, hT]; rfl)
  cases h1 : outOf 2 4 p.length with
  | true =>
    conv => whnf
    exact fin (by unfold checkP; rw [h1]; rfl) rfl
  | false =>
    conv => whnf
    refine ⟨by first | rfl | simp only [List.all_cons, List.all_nil, pu0, pub, pu1, pu2, pu1', pu2', pun, puf, puP, puP', puQ, puQ', Bool.and_true, Bool.and_self], _, containsFuncL_ok p hp _ 66 [] Boxes.nil fun x _ => size_ok x, ?_⟩
    conv => whnf
    cases h2 : p.any (fun l => outOf 1 5 l.length) with
    | true =>
      conv => whnf
      exact fin (by unfold checkP; rw [h1, h2]; rfl) rfl
    | false =>
      conv => whnf
      refine ⟨by first | rfl | simp only [List.all_cons, List.all_nil, pu0, pub, pu1, pu2, pu1', pu2', pun, puf, puP, puP', puQ, puQ', Bool.and_true, Bool.and_self], _, containsFuncL_ok p hp _ 68 [] Boxes.nil fun x hx => stray_ok x (hq x hx), ?_⟩
      conv => whnf
      cases h3 : p.any (fun l => l.any (outOf 1 100)) with
      | true =>
        conv => whnf
        exact fin (by unfold checkP; rw [h1, h2, h3]; rfl) rfl
      | false =>
        conv => whnf
        obtain ⟨l0, hl0⟩ : ∃ l0, p[0]? = some l0 := ⟨p[0]'(by simp only [outOf_false] at h1; omega), by simp⟩
        refine ⟨_, _, call6 (bs := [L2 p, .func 70 [] [.lptr [L2 p]]]) rfl ?_ (containsFuncL_ok p hp _ 70 [.lptr [L2 p]] (boxL2 p) fun x hx => equal1_ok p x l0 hl0 (sm_of h2 h3 hx) (sm_of h2 h3 (List.mem_of_getElem? hl0))) rfl, ?_⟩
        · rw [List.all_eq_true]; intro u hu; simp only [List.map_cons, List.map_nil, List.mem_cons, List.not_mem_nil, or_false] at hu; rcases hu with rfl | rfl; exact pu2' p; exact Boxes.pfn (boxL2 p) _
        conv => whnf
        have hd : p.headD [] = l0 := by cases p <;> simp_all
        cases h4 : p.any (fun l => decide (sumI l ≠ sumI l0)) with
        | true =>
          conv => whnf
          exact fin (by unfold checkP; rw [h1, h2, h3, hd, h4]; rfl) rfl
        | false =>
          conv => whnf
          exact fin (by unfold checkP; rw [h1, h2, h3, hd, h4]; rfl) rfl
end Go.Proofs.Ytlcebaejlnpdeaa.Ab

/-
  Contracts: the definitions' functions on panels, orders, seams.
-/
namespace Go.Proofs.Ytlcebaejlnpdeaa.Ab
open Go
set_option maxRecDepth 20000 in
theorem rcheck_ok (p : List (List Int)) (hp : p.length ≤ 140737488355328) (hq : ∀ l ∈ p, l.length ≤ 140737488355328) : PO 26 [P1 p] (I (checkP p)) := by
  refine fn_pure hmix lk26 rfl rfl ?_
  unfold rc26
  conv => whnf
  cases h1 : decide ((p.length : Int) < 2) with
  | true =>
    conv => whnf
    exact ret_pure (.inr rfl) rfl (by rw [show checkP p = 6 by unfold checkP outOf; rw [h1]; rfl]; rfl)
  | false =>
    conv => whnf
    cases h2 : decide (4 < (p.length : Int)) with
    | true =>
      conv => whnf
      exact ret_pure (.inr rfl) rfl (by rw [show checkP p = 6 by unfold checkP outOf; rw [h1, h2]; rfl]; rfl)
    | false =>
      conv => whnf
      have h12 : outOf 2 4 p.length = false := by unfold outOf; rw [h1, h2]; rfl
      refine .intro (CP (fun i => (p.any fun l => outOf 1 5 l.length) = ((p.drop i).any fun l => outOf 1 5 l.length)) (fun i => slots 96 [(1, .ptr 0 0), (3, I i)]) p.length [.cells [L2 p]]) (p.length - 0) (cp0 0 (Nat.zero_le _) rfl rfl) ?_
      rintro m T H ⟨i, hi, rfl, he, rfl, rfl⟩
      conv => whnf
      refine dcase (fun h => ?_) (fun h => ?_)
      · have hlt : i < p.length := by omega
        rw [any_drop _ p i hlt] at he
        conv => whnf
        refine ⟨by omega, ?_⟩
        conv => whnf
        refine nthM _ _ _ (hlt) ?_
        conv => whnf
        cases h3 : decide ((p[i].length : Int) < 1) with
        | true =>
          conv => whnf
          exact ret_pure (.inr rfl) rfl (by rw [show checkP p = 6 by unfold checkP; rw [h12, he]; unfold outOf; rw [h3]; rfl]; rfl)
        | false =>
          conv => whnf
          refine ⟨by omega, ?_⟩
          conv => whnf
          refine nthM _ _ _ (hlt) ?_
          conv => whnf
          cases h4 : decide (5 < (p[i].length : Int)) with
          | true =>
            conv => whnf
            exact ret_pure (.inr rfl) rfl (by rw [show checkP p = 6 by unfold checkP; rw [h12, he]; unfold outOf; rw [h3, h4]; rfl]; rfl)
          | false =>
            conv => whnf
            exact cpN hlt (by rw [he]; unfold outOf; rw [h3, h4]; rfl) (by rw [← wrapS i (by omega)] <;> rfl)
      · obtain rfl : i = p.length := by omega
        rw [List.drop_length] at he
        conv => whnf
        refine .intro (CP (fun i => (p.any fun l => l.any (outOf 1 100)) = ((p.drop i).any fun l => l.any (outOf 1 100))) (fun i => slots 96 [(1, .ptr 0 0), (4, I i)]) p.length [.cells [L2 p]]) (p.length - 0) (cp0 0 (Nat.zero_le _) rfl rfl) ?_
        rintro m T H ⟨i, hi, rfl, hf, rfl, rfl⟩
        conv => whnf
        refine dcase (fun h => ?_) (fun h => ?_)
        · have hlt : i < p.length := by omega
          rw [any_drop _ p i hlt] at hf
          conv => whnf
          have hl := hq _ (List.getElem_mem hlt)
          refine .intro (CP (fun k => p[i].any (outOf 1 100) = (p[i].drop k).any (outOf 1 100)) (fun k => slots 96 [(1, .ptr 0 0), (4, I i), (5, I k)]) p[i].length [.cells [L2 p]]) (p[i].length - 0) (cp0 0 (Nat.zero_le _) rfl rfl) ?_
          rintro m T H ⟨k, hk, rfl, hg, rfl, rfl⟩
          conv => whnf
          refine ⟨by omega, ?_⟩
          conv => whnf
          refine nthM _ _ _ (hlt) ?_
          conv => whnf
          refine dcase (fun h => ?_) (fun h => ?_)
          · have hkt : k < p[i].length := by omega
            rw [any_drop _ p[i] k hkt] at hg
            conv => whnf
            refine ⟨by omega, ?_⟩
            conv => whnf
            refine nthM _ _ _ (hlt) ?_
            conv => whnf
            refine ⟨by omega, ?_⟩
            conv => whnf
            refine nthM _ _ _ (hkt) ?_
            conv => whnf
            cases h3 : decide (p[i][k] < 1) with
            | true =>
              conv => whnf
              exact ret_pure (.inr rfl) rfl (by rw [show checkP p = 3 by unfold checkP; rw [h12, he, hf, hg]; unfold outOf; rw [h3]; rfl]; rfl)
            | false =>
              conv => whnf
              refine ⟨by omega, ?_⟩
              conv => whnf
              refine nthM _ _ _ (hlt) ?_
              conv => whnf
              refine ⟨by omega, ?_⟩
              conv => whnf
              refine nthM _ _ _ (hkt) ?_
              conv => whnf
              cases h4 : decide (100 < p[i][k]) with
              | true =>
                conv => whnf
                exact ret_pure (.inr rfl) rfl (by rw [show checkP p = 3 by unfold checkP; rw [h12, he, hf, hg]; unfold outOf; rw [h3, h4]; rfl]; rfl)
              | false =>
                conv => whnf
                exact cpN hkt (by rw [hg]; unfold outOf; rw [h3, h4]; rfl) (by rw [← wrapS k (by omega)] <;> rfl)
          · obtain rfl : k = p[i].length := by omega
            rw [List.drop_length] at hg
            conv => whnf
            exact cpN hlt (by rw [hf, hg]; rfl) (by rw [← wrapS i (by omega)] <;> rfl)
        · obtain rfl : i = p.length := by omega
          rw [List.drop_length] at hf
          conv => whnf
          have hlen : 2 ≤ p.length := by simp only [outOf_false] at h12; omega
          have h0 : 0 < p.length := by omega
          have hd : p.headD [] = p[0] := by cases p <;> simp_all
          have he' : (p.any fun l => outOf 1 5 l.length) = false := he
          have hf' : (p.any fun l => l.any (outOf 1 100)) = false := hf
          have hdec : (p.any fun l => decide (sumI l ≠ sumI p[0])) = ((p.drop 1).any fun l => decide (sumI l ≠ sumI p[0])) := by
            have := any_drop (fun l => decide (sumI l ≠ sumI p[0])) p 0 h0
            simpa using this
          refine .intro (CP (fun i => (p.any fun l => decide (sumI l ≠ sumI p[0])) = ((p.drop i).any fun l => decide (sumI l ≠ sumI p[0]))) (fun i => slots 96 [(1, .ptr 0 0), (6, I i)]) p.length [.cells [L2 p]]) (p.length - 1) (cp0 1 (by omega) hdec rfl) ?_
          rintro m T H ⟨i, hi, rfl, hg, rfl, rfl⟩
          conv => whnf
          refine dcase (fun h => ?_) (fun h => ?_)
          · have hlt : i < p.length := by omega
            rw [any_drop _ p i hlt] at hg
            conv => whnf
            refine ⟨by omega, ?_⟩
            conv => whnf
            refine nthM _ _ _ (hlt) ?_
            conv => whnf
            refine ⟨by first | rfl | simp only [List.all_cons, List.all_nil, pu0, pub, pu1, pu2, pu1', pu2', pun, puf, puP, puP', puQ, puQ', Bool.and_true, Bool.and_self], _, rsum_ok p[i] (sm_of he' hf' (List.getElem_mem hlt)), acc0, ?_⟩
            conv => whnf
            refine ⟨by omega, ?_⟩
            conv => whnf
            refine nthM _ _ _ (h0) ?_
            conv => whnf
            refine ⟨by first | rfl | simp only [List.all_cons, List.all_nil, pu0, pub, pu1, pu2, pu1', pu2', pun, puf, puP, puP', puQ, puQ', Bool.and_true, Bool.and_self], _, rsum_ok p[0] (sm_of he' hf' (List.getElem_mem h0)), acc1 fun _ h => ?_, ?_⟩
            · simp only [List.cons.injEq, and_true] at h
              rw [L1_inj (a := p[i]) (b := p[0]) h]
            conv => whnf
            cases h3 : decide (sumI p[i] ≠ sumI p[0]) with
            | true =>
              conv => whnf
              exact ret_pure (.inr rfl) rfl (by rw [show checkP p = 15 by unfold checkP; rw [h12, he', hf', hd, hg, h3]; rfl]; rfl)
            | false =>
              conv => whnf
              exact cpN hlt (by rw [hg, h3]; rfl) (by rw [← wrapS i (by omega)] <;> rfl)
          · obtain rfl : i = p.length := by omega
            rw [List.drop_length] at hg
            conv => whnf
            exact ret_pure (.inr rfl) rfl (by rw [show checkP p = 0 by unfold checkP; rw [h12, he', hf', hd, hg]; rfl]; rfl)
end Go.Proofs.Ytlcebaejlnpdeaa.Ab

/-
  Contracts: numbers in lists; equal lists; orders; seams.
-/
namespace Go.Proofs.Ytlcebaejlnpdeaa.Ab
open Go
theorem index_ok (l : List Int) (x : Int) (hl : l.length ≤ 140737488355328) : PO 99 [L1 l, I x] (I (idxOf (fun y => decide (x = y)) l 0)) := by
  refine fn_pure hmix lk99 rfl rfl ?_
  unfold rc99
  conv => whnf
  refine .intro (CP (fun i => idxOf (fun y => decide (x = y)) l 0 = idxOf (fun y => decide (x = y)) (l.drop i) i) (fun i => slots 19 [(0, L1 l), (1, I x), (7, I l.length), (8, I i)]) l.length []) (l.length - 0) (cp0 0 (Nat.zero_le _) rfl rfl) ?_
  rintro m T H ⟨i, hi, rfl, he, rfl, rfl⟩
  conv => whnf
  refine dcase (fun h => ?_) (fun h => ?_)
  · have hlt : i < l.length := by omega
    rw [idxOf_drop _ l i hlt] at he
    conv => whnf
    refine ⟨by omega, ?_⟩
    conv => whnf
    refine nthM _ _ _ (hlt) ?_
    conv => whnf
    cases hp : decide (x = l[i]) with
    | true =>
      conv => whnf
      rw [hp, if_pos rfl] at he
      exact ret_pure (.inr rfl) rfl (by rw [he]; rfl)
    | false =>
      conv => whnf
      rw [hp, if_neg (by simp)] at he
      exact cpN hlt he (by rw [← wrapS i (by omega)] <;> rfl)
  · obtain rfl : i = l.length := by omega
    rw [List.drop_length] at he
    conv => whnf
    exact ret_pure (.inr rfl) rfl (by rw [he]; rfl)
theorem contains_ok (l : List Int) (x : Int) (hl : l.length ≤ 140737488355328) : PO 72 [L1 l, I x] (B (has l x)) := by
  refine fn_pure hmix lk72 rfl rfl ?_
  unfold rc72
  conv => whnf
  refine ⟨by first | rfl | simp only [List.all_cons, List.all_nil, pu0, pub, pu1, pu2, pu1', pu2', pun, puf, puP, puP', puQ, puQ', Bool.and_true, Bool.and_self], _, index_ok l x hl, ?_⟩
  conv => whnf
  exact ret_pure (.inr rfl) rfl (by rw [← any_has l x, ← idxOf_any _ l 0]; rfl)
theorem hasLong_ok (l : List Int) (n : Int) (hl : l.length ≤ 140737488355328) : PO 52 [L1 l, I n] (B (has l n)) := by
  refine fn_pure hmix lk52 rfl rfl ?_
  unfold rc52
  conv => whnf
  refine .intro (CP (fun i => has l n = has (l.drop i) n) (fun i => slots 18 [(0, L1 l), (1, I n), (5, I i)]) l.length []) (l.length - 0) (cp0 0 (Nat.zero_le _) rfl rfl) ?_
  rintro m T H ⟨i, hi, rfl, he, rfl, rfl⟩
  conv => whnf
  refine dcase (fun h => ?_) (fun h => ?_)
  · have hlt : i < l.length := by omega
    rw [has_drop _ n i hlt] at he
    conv => whnf
    refine ⟨by omega, ?_⟩
    conv => whnf
    refine nthM _ _ _ (hlt) ?_
    conv => whnf
    refine dcase (fun h => ?_) (fun h => ?_)
    · conv => whnf
      exact ret_pure (.inr rfl) rfl (by rw [he, h, decide_eq_true rfl]; rfl)
    · conv => whnf
      exact cpN hlt (by rw [he, decide_eq_false (fun e => h e.symm)]; rfl) (by rw [← wrapS i (by omega)] <;> rfl)
  · obtain rfl : i = l.length := by omega
    rw [List.drop_length] at he
    conv => whnf
    exact ret_pure (.inr rfl) rfl (by rw [he]; rfl)
theorem rhas_ok (l : List Int) (n : Int) (hl : l.length ≤ 140737488355328) : PO 112 [L1 l, I n] (B (has l n)) := by
  refine fn_pure hmix lk112 rfl rfl ?_
  unfold rc112
  conv => whnf
  refine .intro (CP (fun i => has l n = has (l.drop i) n) (fun i => slots 18 [(0, L1 l), (1, I n), (5, I i)]) l.length []) (l.length - 0) (cp0 0 (Nat.zero_le _) rfl rfl) ?_
  rintro m T H ⟨i, hi, rfl, he, rfl, rfl⟩
  conv => whnf
  refine dcase (fun h => ?_) (fun h => ?_)
  · have hlt : i < l.length := by omega
    rw [has_drop _ n i hlt] at he
    conv => whnf
    refine ⟨by omega, ?_⟩
    conv => whnf
    refine nthM _ _ _ (hlt) ?_
    conv => whnf
    refine dcase (fun h => ?_) (fun h => ?_)
    · conv => whnf
      exact ret_pure (.inr rfl) rfl (by rw [he, h, decide_eq_true rfl]; rfl)
    · conv => whnf
      exact cpN hlt (by rw [he, decide_eq_false (fun e => h e.symm)]; rfl) (by rw [← wrapS i (by omega)] <;> rfl)
  · obtain rfl : i = l.length := by omega
    rw [List.drop_length] at he
    conv => whnf
    exact ret_pure (.inr rfl) rfl (by rw [he]; rfl)
theorem common_ok (a b : List Int) (ha : a.length ≤ 1000000) (hb : b.length ≤ 140737488355328) : PO 51 [L1 a, L1 b] (I (common a b)) := by
  refine fn_pure hmix lk51 rfl rfl ?_
  unfold rc51
  conv => whnf
  refine .intro (CI (fun i => slots 22 [(0, L1 a), (1, L1 b), (5, I (common (a.take i) b)), (6, I i)]) a.length []) a.length (ci0 rfl) ?_
  rintro m T H ⟨i, hi, rfl, rfl, rfl⟩
  conv => whnf
  refine dcase (fun h => ?_) (fun h => ?_)
  · have hlt : i < a.length := by omega
    have hs : common (a.take (i + 1)) b = common (a.take i) b + (if has b a[i] then 1 else 0) := by
      unfold common
      rw [List.take_succ_eq_append_getElem hlt, List.filter_append, List.length_append]
      by_cases h : has b a[i] = true <;> simp [List.filter_cons, h]
    have hc : common (a.take i) b ≤ i := by
      unfold common
      exact Nat.le_trans (List.length_filter_le _ _) (List.length_take_le _ _)
    conv => whnf
    refine ⟨by omega, ?_⟩
    conv => whnf
    refine nthM _ _ _ (hlt) ?_
    conv => whnf
    refine ⟨by first | rfl | simp only [List.all_cons, List.all_nil, pu0, pub, pu1, pu2, pu1', pu2', pun, puf, puP, puP', puQ, puQ', Bool.and_true, Bool.and_self], _, hasLong_ok b a[i] hb, ?_⟩
    conv => whnf
    refine bcase (fun h => ?_) (fun h => ?_)
    · conv => whnf
      exact ciN hlt (by rw [hs, if_pos h, ← wrapS i (by omega), ← wrapS (common (a.take i) b) (by omega)] <;> rfl)
    · conv => whnf
      exact ciN hlt (by rw [hs, if_neg (by simp [h]), ← wrapS i (by omega)] <;> rfl)
  · obtain rfl : i = a.length := by omega
    conv => whnf
    exact ret_pure (.inr rfl) rfl (by rw [List.take_length]; rfl)
end Go.Proofs.Ytlcebaejlnpdeaa.Ab

/-
  Plain words of layer 5: orders, seams, meetings: what holds of them.
-/
namespace Go.Proofs.Ytlcebaejlnpdeaa.Ab
theorem has_append (a b : List Int) (x : Int) : has (a ++ b) x = (has a x || has b x) := by
  simp [has, Bool.decide_or]
theorem ordGo_iff (n : Nat) : ∀ (l b : List Int), ordGo n b l = true ↔ (∀ x ∈ l, 0 ≤ x ∧ x < n ∧ x ∉ b) ∧ l.Nodup
  | [], b => by simp [ordGo]
  | x :: l, b => by
    simp only [ordGo, Bool.and_eq_true, ordGo_iff n l, Bool.not_eq_true', Bool.or_eq_false_iff, outOf_false, List.mem_append, List.nodup_cons, List.mem_cons, List.not_mem_nil, or_false]
    have hf : has b x = false ↔ x ∉ b := by simp [has]
    rw [hf]
    constructor
    · rintro ⟨⟨h1, h2⟩, h3, h4⟩
      refine ⟨?_, ?_, h4⟩
      · rintro y (rfl | hy)
        · exact ⟨h1.1, by omega, h2⟩
        · obtain ⟨k1, k2, k3⟩ := h3 y hy
          exact ⟨k1, k2, fun hb => k3 (.inl hb)⟩
      · exact fun hx => (h3 x hx).2.2 (.inr rfl)
    · rintro ⟨h1, h2, h3⟩
      obtain ⟨k1, k2, k3⟩ := h1 x (.inl rfl)
      refine ⟨⟨⟨k1, by omega⟩, k3⟩, fun y hy => ?_, h3⟩
      obtain ⟨m1, m2, m3⟩ := h1 y (.inr hy)
      exact ⟨m1, m2, fun h => h.elim m3 fun e => h2 (e ▸ hy)⟩
theorem isOrd_iff {l : List Int} {n : Nat} : isOrd l n = true ↔ l.length = n ∧ (∀ x ∈ l, 0 ≤ x ∧ x < n) ∧ l.Nodup := by
  simp only [isOrd, Bool.and_eq_true, decide_eq_true_eq, ordGo_iff]
  constructor
  · rintro ⟨h1, h2, h3⟩; exact ⟨h1, fun x hx => ⟨(h2 x hx).1, (h2 x hx).2.1⟩, h3⟩
  · rintro ⟨h1, h2, h3⟩; exact ⟨h1, fun x hx => ⟨(h2 x hx).1, (h2 x hx).2, by simp⟩, h3⟩
/-- Orders of all layers. -/
structure Ords (p o : List (List Int)) : Prop where
  len : o.length = p.length
  ord : ∀ (i : Nat) (h : i < o.length) (h' : i < p.length), isOrd o[i] p[i].length = true
theorem ordErr_zero {p o : List (List Int)} : ordErr p o = 0 ↔ Val p ∧ Ords p o := by
  unfold ordErr
  constructor
  · intro h
    split at h
    · rename_i h1; exact absurd h h1
    · rename_i h1
      split at h
      · cases h
      · rename_i h2
        split at h
        · cases h
        · rename_i h3
          have hl : o.length = p.length := Classical.not_not.1 h2
          refine ⟨checkP_val (Classical.not_not.1 h1), hl, fun i hi hi' => ?_⟩
          simp only [Bool.not_eq_true, any_false] at h3
          have := h3 (o[i], p[i]) (List.mem_iff_getElem.2 ⟨i, by simp; omega, by simp⟩)
          simpa using this
  · rintro ⟨h1, h2⟩
    rw [if_neg (by simp [h1.check]), if_neg (by simp [h2.len]), if_neg]
    simp only [Bool.not_eq_true, any_false]
    intro x hx
    obtain ⟨i, hi, rfl⟩ := List.mem_iff_getElem.1 hx
    simp only [List.length_zip] at hi
    simpa using h2.ord i (by omega) (by omega)
theorem getD_bound {layer : List Int} (h : Sm layer) (i : Nat) : 0 ≤ layer.getD i 0 ∧ layer.getD i 0 ≤ 1000000 := by
  rw [List.getD_eq_getElem?_getD]
  cases hi : layer[i]? with
  | none => simp
  | some x => exact h.val x (List.mem_of_getElem? hi)
theorem atGo_bound {layer : List Int} (h : Sm layer) : ∀ (l : List Int) (a : Int), a ≤ atGo layer a l ∧ atGo layer a l ≤ a + 1000000 * l.length
  | [], a => by simp [atGo]
  | i :: l, a => by
    have h1 := getD_bound h i.toNat
    have h2 := atGo_bound h l (a + layer.getD i.toNat 0)
    have e : atGo layer a (i :: l) = atGo layer (a + layer.getD i.toNat 0) l := rfl
    rw [e, List.length_cons]; omega
theorem dropLast_take (l : List Int) : l.dropLast = l.take (l.length - 1) := List.dropLast_eq_take
/-- All meetings of rows, row by row. -/
def meetN : List (List Int) → Nat
  | a :: b :: r => common a b + meetN (b :: r)
  | _ => 0
theorem meetN_snoc : ∀ (l : List (List Int)) (a b : List Int), meetN (l ++ [a, b]) = meetN (l ++ [a]) + common a b
  | [], a, b => by simp [meetN]
  | [x], a, b => by simp [meetN]
  | x :: y :: l, a, b => by
    have := meetN_snoc (y :: l) a b
    simp only [List.cons_append, meetN] at this ⊢; omega
theorem take_two {α : Type} (l : List α) (i : Nat) (h : i + 1 < l.length) : l.take (i + 2) = l.take i ++ [l[i]] ++ [l[i + 1]] := by
  rw [List.take_succ_eq_append_getElem h, List.take_succ_eq_append_getElem (by omega)]
theorem meetN_take (l : List (List Int)) (i : Nat) (h : i + 1 < l.length) : meetN (l.take (i + 2)) = meetN (l.take (i + 1)) + common l[i] l[i + 1] := by
  rw [take_two l i h, List.append_assoc, show [l[i]] ++ [l[i + 1]] = [l[i], l[i + 1]] from rfl, meetN_snoc, ← List.take_succ_eq_append_getElem]
theorem common_le (a b : List Int) : common a b ≤ a.length := List.length_filter_le _ _
theorem meetN_le : ∀ (l : List (List Int)) (m : Nat), (∀ r ∈ l, r.length ≤ m) → meetN l ≤ m * l.length
  | [], m, _ => by simp [meetN]
  | [x], m, _ => by simp [meetN]
  | x :: y :: l, m, h => by
    have h1 := meetN_le (y :: l) m fun r hr => h r (by simp [hr])
    have h2 := Nat.le_trans (common_le x y) (h x (by simp))
    simp only [meetN, List.length_cons, Nat.mul_add] at h1 ⊢; omega
/-- The least difference of neighbours' seams, at most another number. -/
def distGo : List (List Int) → Int → Int
  | a :: b :: r, m => distGo (b :: r) (betw a b m)
  | _, m => m
/-- The seams of a layer are small numbers. -/
theorem seamsGo_bound {layer : List Int} (h : Sm layer) : ∀ (l : List Int) (a : Int), 0 ≤ a → ∀ x ∈ seamsGo layer a l, 0 ≤ x ∧ x ≤ a + 1000000 * l.length
  | [], a, _, x, hx => by simp [seamsGo] at hx
  | i :: l, a, ha, x, hx => by
    have h1 := getD_bound h i.toNat
    simp only [seamsGo, List.mem_cons] at hx
    rw [List.length_cons]
    rcases hx with rfl | hx
    · omega
    · have := seamsGo_bound h l (a + layer.getD i.toNat 0) (by omega) x hx
      omega
structure Pos (l : List Int) : Prop where
  n : l.length ≤ 1000000
  v : ∀ x ∈ l, 0 ≤ x ∧ x ≤ 1000000000000
end Go.Proofs.Ytlcebaejlnpdeaa.Ab

/-
  Contracts: the definitions' orders and seams.
-/
namespace Go.Proofs.Ytlcebaejlnpdeaa.Ab
open Go
/-- Lists that grow. -/
def U1 (l : List Int) : AV := .lst (l.map I) l.length (.uniq 1)
def U2 (l : List (List Int)) : AV := .lst (l.map L1) l.length (.uniq 1)
theorem U1_snoc (l : List Int) (x : Int) : AV.lst (l.map I ++ [I x]) (l.length + 1) (.uniq 1) = U1 (l ++ [x]) := by simp [U1]
theorem U2_snoc (l : List (List Int)) (x : List Int) : AV.lst (l.map L1 ++ [L1 x]) (l.length + 1) (.uniq 1) = U2 (l ++ [x]) := by simp [U2]
theorem takeI (l : List Int) (i : Nat) (h : i ≤ l.length) : AV.lst ((l.map I).take ((i : Int).toNat * 1)) (i : Int).toNat .shared = L1 (l.take i) := by
  simp [L1, List.map_take, Nat.min_eq_left h]
theorem le_sub (n : Nat) (x : Int) : decide ((n : Int) ≤ x) = decide ((n : Int) - 1 < x) := by
  rw [Bool.eq_iff_iff]; simp only [decide_eq_true_eq]; omega
set_option maxRecDepth 20000 in
theorem isOrder_ok (l : List Int) (n : Nat) (hl : l.length ≤ 140737488355328) : PO 94 [L1 l, I n] (B (isOrd l n)) := by
  refine fn_pure hmix lk94 rfl rfl ?_
  unfold rc94
  conv => whnf
  refine dcase (fun h => ?_) (fun h => ?_)
  · conv => whnf
    exact ret_pure (.inr rfl) rfl (by rw [show isOrd l n = false by unfold isOrd; rw [decide_eq_false (by omega)]; rfl]; rfl)
  · obtain rfl : l.length = n := by omega
    have hs : isOrd l l.length = ordGo l.length [] l := by unfold isOrd; rw [decide_eq_true rfl]; rfl
    rw [hs]
    conv => whnf
    refine .intro (CP (fun i => ordGo l.length [] l = ordGo l.length (l.take i) (l.drop i)) (fun i => slots 38 [(0, L1 l), (1, I l.length), (5, I i)]) l.length []) (l.length - 0) (cp0 0 (Nat.zero_le _) rfl rfl) ?_
    rintro m T H ⟨i, hi, rfl, he, rfl, rfl⟩
    conv => whnf
    refine dcase (fun h => ?_) (fun h => ?_)
    · have hlt : i < l.length := by omega
      rw [List.drop_eq_getElem_cons hlt, ordGo, ← List.take_succ_eq_append_getElem hlt] at he
      conv => whnf
      refine ⟨by omega, ?_⟩
      conv => whnf
      refine nthM _ _ _ (hlt) ?_
      conv => whnf
      cases h1 : decide (l[i] < 0) with
      | true =>
        conv => whnf
        exact ret_pure (.inr rfl) rfl (by rw [he]; unfold outOf; rw [h1]; rfl)
      | false =>
        conv => whnf
        refine ⟨by omega, ?_⟩
        conv => whnf
        refine nthM _ _ _ (hlt) ?_
        conv => whnf
        rw [le_sub]
        cases h2 : decide ((l.length : Int) - 1 < l[i]) with
        | true =>
          conv => whnf
          exact ret_pure (.inr rfl) rfl (by rw [he]; unfold outOf; rw [h1, h2]; rfl)
        | false =>
          conv => whnf
          refine ⟨by omega, ?_⟩
          rw [takeI l i hi]
          conv => whnf
          refine ⟨by omega, ?_⟩
          conv => whnf
          refine nthM _ _ _ (hlt) ?_
          conv => whnf
          refine ⟨by first | rfl | simp only [List.all_cons, List.all_nil, pu0, pub, pu1, pu2, pu1', pu2', pun, puf, puP, puP', puQ, puQ', Bool.and_true, Bool.and_self], _, rhas_ok (l.take i) l[i] (by have := List.length_take_le' i l; omega), acc0, ?_⟩
          conv => whnf
          cases h3 : has (l.take i) l[i] with
          | true =>
            conv => whnf
            exact ret_pure (.inr rfl) rfl (by rw [he]; unfold outOf; rw [h1, h2, h3]; rfl)
          | false =>
            conv => whnf
            exact cpN hlt (by rw [he]; unfold outOf; rw [h1, h2, h3]; rfl) (by rw [← wrapS i (by omega)] <;> rfl)
    · obtain rfl : i = l.length := by omega
      rw [List.drop_length, ordGo] at he
      conv => whnf
      exact ret_pure (.inr rfl) rfl (by rw [he]; rfl)
/-- Panels and orders that are laid in memory. -/
structure Fit (p o : List (List Int)) : Prop where
  p1 : p.length ≤ 140737488355328
  p2 : ∀ l ∈ p, l.length ≤ 140737488355328
  o1 : o.length ≤ 140737488355328
  o2 : ∀ l ∈ o, l.length ≤ 140737488355328
set_option maxRecDepth 20000 in
theorem ordered_ok (p o : List (List Int)) (hf : Fit p o) : PO 64 [P1 p, L2 o] (I (ordErr p o)) := by
  have hr := rcheck_ok p hf.p1 hf.p2
  have := hf.p1
  have := hf.o1
  refine fn_pure hmix lk64 rfl rfl ?_
  unfold rc64
  conv => whnf
  refine ⟨by first | rfl | simp only [List.all_cons, List.all_nil, pu0, pub, pu1, pu2, pu1', pu2', pun, puf, puP, puP', puQ, puQ', Bool.and_true, Bool.and_self], _, hr, ?_⟩
  conv => whnf
  refine dcase (fun h => ?_) (fun h => ?_)
  · conv => whnf
    refine ⟨by first | rfl | simp only [List.all_cons, List.all_nil, pu0, pub, pu1, pu2, pu1', pu2', pun, puf, puP, puP', puQ, puQ', Bool.and_true, Bool.and_self], _, hr, ?_⟩
    conv => whnf
    exact ret_pure (.inr rfl) rfl (by rw [show ordErr p o = checkP p by unfold ordErr; rw [if_pos h]]; rfl)
  · conv => whnf
    refine dcase (fun h1 => ?_) (fun h1 => ?_)
    · conv => whnf
      exact ret_pure (.inr rfl) rfl (by rw [show ordErr p o = 15 by unfold ordErr; rw [if_neg h, if_pos (by omega)]]; rfl)
    · have hl : o.length = p.length := by omega
      have hz : (List.zip o p).length = o.length := by simp; omega
      conv => whnf
      refine .intro (CP (fun i => (List.zip o p).any (fun x => !isOrd x.1 x.2.length) = ((List.zip o p).drop i).any (fun x => !isOrd x.1 x.2.length)) (fun i => slots 35 [(1, L2 o), (2, .ptr 0 0), (5, I i)]) o.length [.cells [L2 p]]) (o.length - 0) (cp0 0 (Nat.zero_le _) rfl rfl) ?_
      rintro m T H ⟨i, hi, rfl, he, rfl, rfl⟩
      conv => whnf
      refine dcase (fun h2 => ?_) (fun h2 => ?_)
      · have hlt : i < o.length := by omega
        have hlt2 : i < p.length := by omega
        rw [any_drop _ _ i (by omega), List.getElem_zip] at he
        conv => whnf
        refine ⟨by omega, ?_⟩
        conv => whnf
        refine nthM _ _ _ (hlt) ?_
        conv => whnf
        refine ⟨by omega, ?_⟩
        conv => whnf
        refine nthM _ _ _ (hlt2) ?_
        conv => whnf
        refine ⟨by first | rfl | simp only [List.all_cons, List.all_nil, pu0, pub, pu1, pu2, pu1', pu2', pun, puf, puP, puP', puQ, puQ', Bool.and_true, Bool.and_self], _, isOrder_ok o[i] p[i].length (hf.o2 _ (List.getElem_mem hlt)), acc0, ?_⟩
        conv => whnf
        cases h3 : isOrd o[i] p[i].length with
        | true =>
          conv => whnf
          exact cpN hlt (by rw [he]; simp only [h3]; rfl) (by rw [← wrapS i (by omega)] <;> rfl)
        | false =>
          conv => whnf
          exact ret_pure (.inr rfl) rfl (by rw [show ordErr p o = 16 by unfold ordErr; rw [if_neg h, if_neg (by omega), he]; simp only [h3]; rfl]; rfl)
      · obtain rfl : i = o.length := by omega
        rw [← hz, List.drop_length] at he
        conv => whnf
        exact ret_pure (.inr rfl) rfl (by rw [show ordErr p o = 0 by unfold ordErr; rw [if_neg h, if_neg (by omega), he]; rfl]; rfl)
/-- An order of a layer: its numbers name strips. -/
structure InL (layer order : List Int) : Prop where
  sm : Sm layer
  n : order.length ≤ 1000
  r : ∀ x ∈ order, 0 ≤ x ∧ x < layer.length
theorem getD_of {l : List Int} {x : Int} (h0 : 0 ≤ x) (h1 : x < l.length) : ∃ h : x.toNat < l.length, l.getD x.toNat 0 = l[x.toNat] := by
  have h : x.toNat < l.length := by omega
  exact ⟨h, by simp [List.getD_eq_getElem?_getD, h]⟩
theorem nthX {l : List Int} {x : Int} (h0 : 0 ≤ x) (h1 : x < l.length) {K : AV → Prop} (k : K (I (l.getD x.toNat 0))) : nthK ((l.map I).drop (x.toNat * 1)) 0 K := by
  obtain ⟨h, e⟩ := getD_of h0 h1
  rw [e] at k
  exact nthM I l x.toNat h k
theorem seams_take {layer order : List Int} (i : Nat) (h : i < order.length) : seamsGo layer 0 (order.take (i + 1)) = seamsGo layer 0 (order.take i) ++ [atGo layer 0 (order.take i) + layer.getD order[i].toNat 0] ∧ atGo layer 0 (order.take (i + 1)) = atGo layer 0 (order.take i) + layer.getD order[i].toNat 0 := by
  rw [List.take_succ_eq_append_getElem h, seamsGo_snoc, atGo_snoc]; exact ⟨rfl, rfl⟩
set_option maxRecDepth 20000 in
theorem seamsOf_ok (layer order : List Int) (hI : InL layer order) : PO 95 [L1 layer, L1 order] (O1 (seamsOf layer order)) := by
  have hn := hI.n
  refine fn_pure hmix lk95 rfl (pu1 _ _ _) ?_
  unfold rc95
  conv => whnf
  refine .intro (CI (fun i => slots 29 [(0, L1 layer), (1, L1 order), (5, U1 (seamsGo layer 0 (order.take i))), (6, I (atGo layer 0 (order.take i))), (7, I i)]) (order.length - 1) []) (order.length - 1) (ci0 rfl) ?_
  rintro m T H ⟨i, hi, rfl, rfl, rfl⟩
  conv => whnf
  rw [wrapI _ (by omega) (by omega)]
  refine dcase (fun h => ?_) (fun h => ?_)
  · have hlt : i < order.length := by omega
    obtain ⟨s1, s2⟩ := seams_take (layer := layer) i hlt
    have hb := atGo_bound hI.sm (order.take i) 0
    have hlen : (order.take i).length ≤ i := List.length_take_le _ _
    have hr := hI.r _ (List.getElem_mem hlt)
    have hg := getD_bound hI.sm order[i].toNat
    conv => whnf
    refine ⟨by omega, ?_⟩
    conv => whnf
    refine nthM _ _ _ (hlt) ?_
    conv => whnf
    refine ⟨hr, ?_⟩
    conv => whnf
    refine nthX hr.1 hr.2 ?_
    conv => whnf
    have hll := seamsGo_length layer (order.take i) 0
    refine ⟨rfl, by decide, rfl, by omega, ?_⟩
    conv => whnf
    exact ciN (by omega) (by rw [s1, s2, wrapI _ (by omega) (by omega), ← U1_snoc, ← wrapS i (by omega)] <;> rfl)
  · obtain rfl : i = order.length - 1 := by omega
    conv => whnf
    exact ret_own (.inr rfl) (pu1 _ _ _) (.inr (by rw [seamsOf, dropLast_take]; rfl))
theorem Ords.inL {p o : List (List Int)} (hv : Val p) (h : Ords p o) (i : Nat) (h1 : i < o.length) (h2 : i < p.length) : InL p[i] o[i] := by
  obtain ⟨k1, k2, k3⟩ := isOrd_iff.1 (h.ord i h1 h2)
  exact ⟨hv.sm (List.getElem_mem h2), by have := hv.s5 _ (List.getElem_mem h2); omega, fun x hx => k2 x hx⟩
theorem seamsBy_take {p o : List (List Int)} (i : Nat) (h1 : i < o.length) (h2 : i < p.length) : seamsBy (p.take (i + 1)) (o.take (i + 1)) = seamsBy (p.take i) (o.take i) ++ [seamsOf p[i] o[i]] := by
  unfold seamsBy
  rw [List.take_succ_eq_append_getElem h1, List.take_succ_eq_append_getElem h2, List.zipWith_append (by simp; omega)]; rfl
set_option maxRecDepth 20000 in
theorem seamsBy_ok (p o : List (List Int)) (hv : Val p) (h : Ords p o) : PO 65 [P1 p, L2 o] (O2 (seamsBy p o)) := by
  have hl := h.len
  have h4 := hv.n4
  refine fn_pure hmix lk65 rfl (pu2 _ _ _) ?_
  unfold rc65
  conv => whnf
  refine .intro (CI (fun i => slots 27 [(1, L2 o), (2, .ptr 0 0), (5, U2 (seamsBy (p.take i) (o.take i))), (6, I i)]) o.length [.cells [L2 p]]) o.length (ci0 rfl) ?_
  rintro m T H ⟨i, hi, rfl, rfl, rfl⟩
  conv => whnf
  refine dcase (fun h2 => ?_) (fun h2 => ?_)
  · have hlt : i < o.length := by omega
    have hlt2 : i < p.length := by omega
    conv => whnf
    refine ⟨by omega, ?_⟩
    conv => whnf
    refine nthM _ _ _ (hlt2) ?_
    conv => whnf
    refine ⟨by omega, ?_⟩
    conv => whnf
    refine nthM _ _ _ (hlt) ?_
    conv => whnf
    refine ⟨by first | rfl | simp only [List.all_cons, List.all_nil, pu0, pub, pu1, pu2, pu1', pu2', pun, puf, puP, puP', puQ, puQ', Bool.and_true, Bool.and_self], _, seamsOf_ok p[i] o[i] (h.inL hv i hlt hlt2), acc0, ?_⟩
    conv => whnf
    have hll : (seamsBy (p.take i) (o.take i)).length ≤ i := by simp [seamsBy]; omega
    refine ⟨rfl, by decide, rfl, by omega, ?_⟩
    conv => whnf
    exact ciN hlt (by rw [seamsBy_take i hlt hlt2, ← U2_snoc, ← wrapS i (by omega)] <;> rfl)
  · obtain rfl : i = o.length := by omega
    conv => whnf
    exact ret_own (.inr rfl) (pu2 _ _ _) (.inr (by rw [List.take_length, hl, List.take_length]; rfl))
end Go.Proofs.Ytlcebaejlnpdeaa.Ab

/-
  Contracts: the definitions' CheckOrders, Seams, Through, Distance.
-/
namespace Go.Proofs.Ytlcebaejlnpdeaa.Ab
open Go
/-! ### Rows of seams -/
theorem puT (l : List (List Int)) (e : Int) : pureD 8 (.tuple [L2 l, I e]) = true := by
  show [L2 l, I e].all (pureD 7) = true
  rw [List.all_cons, List.all_cons, List.all_nil, pure_L2 4 l]; rfl
theorem seamsBy_length {p o : List (List Int)} (h : Ords p o) : (seamsBy p o).length = p.length := by
  have := h.len
  simp [seamsBy]; omega
theorem seamsBy_get {p o : List (List Int)} (i : Nat) (h : i < (seamsBy p o).length) (h1 : i < p.length) (h2 : i < o.length) : (seamsBy p o)[i] = seamsOf p[i] o[i] := by
  simp [seamsBy]
theorem seamsOf_length (l o : List Int) : (seamsOf l o).length = o.length - 1 := by
  simp [seamsOf, seamsGo_length]
theorem seamsOf_pos {layer order : List Int} (h : InL layer order) : Pos (seamsOf layer order) := by
  have hn := h.n
  refine ⟨by rw [seamsOf_length]; omega, fun x hx => ?_⟩
  have := seamsGo_bound h.sm order.dropLast 0 (by omega) x hx
  have h2 : order.dropLast.length ≤ 1000 := by simp; omega
  omega
theorem seamsBy_pos {p o : List (List Int)} (hv : Val p) (h : Ords p o) : ∀ r ∈ seamsBy p o, Pos r ∧ r.length ≤ 4 := by
  intro r hr
  obtain ⟨i, hi, rfl⟩ := List.mem_iff_getElem.1 hr
  have hl := seamsBy_length h
  have h1 : i < p.length := by omega
  have h2 : i < o.length := by have := h.len; omega
  rw [seamsBy_get i hi h1 h2]
  refine ⟨seamsOf_pos (h.inL hv i h2 h1), ?_⟩
  rw [seamsOf_length, (isOrd_iff.1 (h.ord i h2 h1)).1]
  have := hv.s5 _ (List.getElem_mem h1); omega
/-- What CheckOrders, Seams, Through and Distance return. -/
def meetOf (p o : List (List Int)) : Int := if ordErr p o = 0 then meetN (seamsBy p o) else 0
def seamsE (p o : List (List Int)) : List (List Int) := if ordErr p o = 0 then seamsBy p o else []
set_option maxRecDepth 20000 in
theorem rmeet_ok (p o : List (List Int)) (hf : Fit p o) : PO 22 [P1 p, L2 o] (.tuple [I (meetOf p o), I (ordErr p o)]) := by
  refine fn_pure hmix lk22 rfl rfl ?_
  unfold rc22
  conv => whnf
  refine ⟨by first | rfl | simp only [List.all_cons, List.all_nil, pu0, pub, pu1, pu2, pu1', pu2', pun, puf, puP, puP', puQ, puQ', Bool.and_true, Bool.and_self], _, ordered_ok p o hf, ?_⟩
  conv => whnf
  refine dcase (fun h => ?_) (fun h => ?_)
  · conv => whnf
    refine ⟨by first | rfl | simp only [List.all_cons, List.all_nil, pu0, pub, pu1, pu2, pu1', pu2', pun, puf, puP, puP', puQ, puQ', Bool.and_true, Bool.and_self], _, ordered_ok p o hf, ?_⟩
    conv => whnf
    exact ret_pure (.inr rfl) rfl (by rw [show meetOf p o = 0 from if_neg h]; rfl)
  · have h := Classical.not_not.1 h
    obtain ⟨hv, ho⟩ := ordErr_zero.1 h
    have hl := seamsBy_length ho
    have hq := seamsBy_pos hv ho
    have h2 := hv.n2
    have h4 := hv.n4
    rw [show meetOf p o = meetN (seamsBy p o) from if_pos h, h]
    conv => whnf
    refine ⟨by first | rfl | simp only [List.all_cons, List.all_nil, pu0, pub, pu1, pu2, pu1', pu2', pun, puf, puP, puP', puQ, puQ', Bool.and_true, Bool.and_self], _, seamsBy_ok p o hv ho, ?_⟩
    conv => whnf
    generalize seamsBy p o = l at hl hq
    refine .intro (CP (fun i => 1 ≤ i) (fun i => slots 38 [(6, O2 l), (7, I (meetN (l.take i))), (8, I i)]) l.length [.cells [L2 p]]) (l.length - 1) (cp0 1 (by omega) (Nat.le_refl _) ?_) ?_
    · rw [show meetN (l.take 1) = 0 by cases l <;> simp [meetN]]; rfl
    rintro M T H ⟨i, hi, rfl, h1, rfl, rfl⟩
    conv => whnf
    refine dcase (fun h3 => ?_) (fun h3 => ?_)
    · have hlt : i < l.length := by omega
      obtain ⟨k, rfl⟩ : ∃ k, i = k + 1 := ⟨i - 1, by omega⟩
      have hkt : k < l.length := by omega
      have e := meetN_take l k hlt
      have b1 := meetN_le (l.take (k + 1)) 4 fun r hr => (hq r (List.mem_of_mem_take hr)).2
      have b2 : (l.take (k + 1)).length ≤ 4 := by have := List.length_take_le' (k + 1) l; omega
      have b3 := common_le l[k] l[k + 1]
      have b4 := (hq _ (List.getElem_mem hkt)).2
      conv => whnf
      rw [show IntKind.i64.wrap (((k + 1 : Nat) : Int) - 1) = (k : Int) by rw [wrapI _ (by omega) (by omega)]; omega]
      refine ⟨by omega, ?_⟩
      conv => whnf
      refine nthM _ _ _ (hkt) ?_
      conv => whnf
      refine ⟨by omega, ?_⟩
      conv => whnf
      refine nthM _ _ _ (hlt) ?_
      conv => whnf
      refine ⟨by first | rfl | simp only [List.all_cons, List.all_nil, pu0, pub, pu1, pu2, pu1', pu2', pun, puf, puP, puP', puQ, puQ', Bool.and_true, Bool.and_self], _, common_ok l[k] l[k + 1] (by omega) (by have := (hq _ (List.getElem_mem hlt)).2; omega), acc0, ?_⟩
      conv => whnf
      exact cpN hlt (by omega) (by rw [e, wrapI _ (by omega) (by omega), ← wrapS (k + 1) (by omega)] <;> rfl)
    · obtain rfl : i = l.length := by omega
      conv => whnf
      exact ret_pure (.inr rfl) rfl (by rw [List.take_length]; rfl)
end Go.Proofs.Ytlcebaejlnpdeaa.Ab

/-
  Contracts: the definitions' Through, Distance; the program's bench, its orders and seams.
-/
namespace Go.Proofs.Ytlcebaejlnpdeaa.Ab
open Go
set_option maxRecDepth 20000
/-! ### The bench -/
/-- A bench: its panel, as it is. -/
def Bn (p : List (List Int)) : AV := .lptr [L2 p]
theorem puB (p : List (List Int)) (e : Int) : pureD 8 (.tuple [Bn p, I e]) = true := by
  show [Bn p, I e].all (pureD 7) = true
  rw [List.all_cons, List.all_cons, List.all_nil]
  have : pureD 7 (Bn p) = true := by
    show [L2 p].all (pureD 6) = true
    rw [List.all_cons, List.all_nil, pure_L2 3 p]; rfl
  rw [this]; rfl
/-- What open comes to. -/
def opened (p : List (List Int)) (is : List Int) : AV := if checkP p ≠ 0 then .tuple [.nilp, I (checkP p)] else if is.any (outOf 0 ((p.length : Int) - 1)) = true then .tuple [.nilp, I 2] else .tuple [Bn p, I 0]
theorem opened_pure (p : List (List Int)) (is : List Int) : pureD 8 (opened p is) = true := by
  unfold opened
  split
  · rfl
  · split
    · rfl
    · exact puB p 0
theorem open_ok (p : List (List Int)) (is : List Int) (h1 : p.length ≤ 140737488355328) (h2 : ∀ l ∈ p, l.length ≤ 140737488355328) (hi : is.length ≤ 1000) : PO 75 [P1 p, L1 is] (opened p is) := by
  refine fn_pure hmix lk75 rfl (opened_pure _ _) ?_
  unfold rc75
  conv => whnf
  refine ⟨by first | rfl | simp only [List.all_cons, List.all_nil, pu0, pub, pu1, pu2, pu1', pu2', pun, puf, puP, puP', puQ, puQ', Bool.and_true, Bool.and_self], _, checkPanel_ok p h1 h2, ?_⟩
  conv => whnf
  refine dcase (fun h => ?_) (fun h => ?_)
  · conv => whnf
    exact ret_pure (.inr rfl) (opened_pure _ _) (by rw [show opened p is = .tuple [.nilp, I (checkP p)] from if_pos h]; rfl)
  · have e : opened p is = if is.any (outOf 0 ((p.length : Int) - 1)) = true then .tuple [.nilp, I 2] else .tuple [Bn p, I 0] := if_neg h
    rw [e]
    conv => whnf
    refine .intro (CP (fun i => is.any (outOf 0 ((p.length : Int) - 1)) = (is.drop i).any (outOf 0 ((p.length : Int) - 1))) (fun i => slots 32 [(2, .ptr 0 0), (14, L1 is), (15, I is.length), (16, I i)]) is.length [.cells [L2 p]]) (is.length - 0) (cp0 0 (Nat.zero_le _) rfl rfl) ?_
    rintro M T H ⟨i, hi, rfl, he, rfl, rfl⟩
    conv => whnf
    refine dcase (fun h3 => ?_) (fun h3 => ?_)
    · have hlt : i < is.length := by omega
      rw [any_drop _ _ i hlt] at he
      conv => whnf
      refine ⟨by omega, ?_⟩
      conv => whnf
      refine nthM _ _ _ (hlt) ?_
      conv => whnf
      rw [wrapI ((p.length : Int) - 1) (by omega) (by omega)]
      refine ⟨by first | rfl | simp only [List.all_cons, List.all_nil, pu0, pub, pu1, pu2, pu1', pu2', pun, puf, puP, puP', puQ, puQ', Bool.and_true, Bool.and_self], _, within0_ok 0 ((p.length : Int) - 1) is[i], ?_⟩
      conv => whnf
      cases hx : outOf 0 ((p.length : Int) - 1) is[i] with
      | true =>
        conv => whnf
        rw [if_pos (by rw [he, hx]; rfl)]
        exact ret_pure (.inr rfl) rfl rfl
      | false =>
        conv => whnf
        exact cpN hlt (by rw [he, hx]; rfl) (by rw [← wrapS i (by omega)] <;> rfl)
    · obtain rfl : i = is.length := by omega
      rw [List.drop_length] at he
      conv => whnf
      rw [if_neg (by rw [he]; simp)]
      refine ⟨.inr rfl, _, rfl, .tuple [Bn p, I 0], ?_, .inl rfl⟩
      have e2 := frz_ptr (H := [.cells [L2 p], .cells [L2 p]]) (id := 1) (d := 6) rfl (by show [L2 p].all (pureD 6) = true; rw [List.all_cons, List.all_nil, pure_L2 3 p]; rfl)
      show (mapO (frz [.cells [L2 p], .cells [L2 p]] 0 2 0 7) [.ptr 1 0, I 0]).map AV.tuple = _
      simp only [mapO]
      rw [show frz [AObj.cells [L2 p], .cells [L2 p]] 0 2 0 7 (.ptr 1 0) = _ from e2]
      rfl
end Go.Proofs.Ytlcebaejlnpdeaa.Ab
