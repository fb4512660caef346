/- PlantCheapest: for every plant, schedule, and change of it the law answers true and turns nothing, with no condition. Part 2 of 5. -/
import Derived.Test.YtcebebhaahpoiaaDoorProg
import Derived.KernelRfl
import Derived.Deep.Slices
import Derived.Below
import Derived.Carry
import Derived.ChangeSame
import Derived.Test.YtcebebhaahpoiaaDoorE1
set_option maxHeartbeats 2000000
set_option linter.unusedSimpArgs false
set_option linter.unusedVariables false
set_option linter.deprecated false
set_option linter.all false
section
namespace Go.Proofs.YtcebebhaahpoiaaDoor
open Go Go.Ai Go.W
set_option maxRecDepth 100000
set_option linter.unusedVariables false
abbrev F_fq1:FuncId:=4
abbrev F_fq2:FuncId:=11
abbrev F_fq9:FuncId:=12
abbrev F_fq45:FuncId:=14
abbrev F_fq46:FuncId:=15
abbrev F_fq48:FuncId:=16
abbrev F_fq47:FuncId:=17
abbrev F_fq3:FuncId:=18
abbrev F_fq12:FuncId:=19
abbrev F_fq50:FuncId:=21
abbrev F_fq15:FuncId:=25
abbrev F_fq7:FuncId:=27
abbrev F_fq11:FuncId:=31
abbrev F_fq6:FuncId:=33
abbrev F_fq17:FuncId:=34
abbrev F_fq10:FuncId:=35
abbrev F_fq24:FuncId:=36
abbrev F_fq25:FuncId:=37
abbrev F_fq27:FuncId:=38
abbrev F_fq52:FuncId:=40
abbrev F_fq54:FuncId:=41
abbrev F_fq55:FuncId:=42
abbrev F_fq56:FuncId:=43
abbrev F_fq53:FuncId:=44
abbrev F_fq51:FuncId:=45
abbrev F_fq58:FuncId:=46
abbrev F_fq13:FuncId:=47
abbrev F_fq20:FuncId:=48
abbrev F_fq14:FuncId:=49
abbrev F_fq38:FuncId:=50
abbrev F_fq39:FuncId:=51
abbrev F_fq40:FuncId:=52
abbrev F_fq16:FuncId:=55
abbrev F_fq37:FuncId:=56
abbrev F_fq34:FuncId:=57
abbrev F_fq43:FuncId:=59
abbrev F_fq60:FuncId:=60
abbrev F_fq8:FuncId:=61
abbrev F_fq35:FuncId:=62
abbrev F_fq36:FuncId:=63
abbrev F_fq29:FuncId:=64
abbrev F_fq26:FuncId:=65
abbrev F_fq19:FuncId:=66
abbrev F_fq18:FuncId:=67
abbrev F_fq41:FuncId:=68
abbrev F_fq22:FuncId:=69
abbrev F_fq23:FuncId:=70
abbrev F_fq32:FuncId:=71
abbrev F_fq28:FuncId:=72
abbrev F_fq49:FuncId:=73
abbrev F_fq44:FuncId:=74
abbrev F_fq62:FuncId:=75
abbrev F_fq59:FuncId:=76
abbrev F_fq21:FuncId:=77
abbrev F_fq0:FuncId:=78
abbrev F_fq64:FuncId:=80
abbrev F_fq30:FuncId:=81
abbrev F_fq33:FuncId:=82
abbrev F_fq31:FuncId:=83
abbrev F_fq4:FuncId:=84
abbrev F_fq42:FuncId:=85
abbrev F_fq63:FuncId:=86
abbrev F_bits_TrailingZeros32:FuncId:=87
abbrev F_bits_TrailingZeros64:FuncId:=88
abbrev F_fq57:FuncId:=89
abbrev F_fq5:FuncId:=90
abbrev F_fq61:FuncId:=91
noncomputable def fq1.fn0:AFunc:=(compileFn Tryd.prog [14] [] [] Tryd.f4).getD ⟨0,0,[],.skip⟩
theorem fq1.ok:compileFn Tryd.prog [14] [] [] Tryd.f4=some fq1.fn0:=getD_some (by kernel_rfl)
def fq1.n34:ACode:=(.seq (.reg [O 0 (.load (some 6) (.r 12)),O 0 (.call F_fq9 [(.r 0)]),O 1 (.ext 0 (.r 0)),O 2 (.ext 1 (.r 0)),O 0 (.ext 2 (.r 0))]) (.seq (.reg [O 0 (.bin .eql (.r 0) (.c (.int .i64 0))),⟨(some 1),(.mov (.r 2)),(some (0,true))⟩,⟨(some 2),(.mov (.r 14)),(some (0,true))⟩,⟨(some 1),(.bin .leq (.r 1) (.r 2)),(some (0,true))⟩,O 0 (.pick (.r 0) (.r 1) (.c (.bool false))),⟨(some 1),(.call F_fq2 []),(some (0,true))⟩,O 0 (.pick (.r 0) (.r 1) (.c (.bool false))),O 5 (.mov (.r 0))]) .ret))
def fq1.n33:ACode:=(.seq (.reg [O 0 (.call F_fq2 []),O 5 (.mov (.r 0))]) .ret)
def fq1.n32:ACode:=(.seq (.draw [O 1 (.off 3 (.r 0)),O 3 (.load none (.r 1)),O 4 (.iaddr 1 (some 2) (.r 2) (.c (.int .i64 0))),O 13 (.load none (.r 4)),O 15 (.call F_fq3 [(.r 3),(.r 13)]),O 16 (.off 4 (.r 0)),O 17 (.load none (.r 16)),O 18 (.iaddr 1 (some 2) (.r 2) (.c (.int .i64 1))),O 19 (.load none (.r 18)),O 20 (.call F_fq3 [(.r 17),(.r 19)]),O 21 (.off 3 (.r 12)),⟨none,(.store 1 (.r 21) (.r 15)),none⟩,O 22 (.off 4 (.r 12)),⟨none,(.store 1 (.r 22) (.r 20)),none⟩] [(6,0,1),(8,0,1)]) (.seq (.seq (.reg [O 0 (.load (some 6) (.r 12)),O 0 (.call F_fq46 [(.r 0)]),O 0 (.un .not (.r 0))]) (.cond (.r 0) fq1.n33 .skip)) fq1.n34))
def fq1.n31:ACode:=(.draw [O 1 (.lit 3 [] [] false false),O 4 (.off 5 (.r 0)),O 13 (.load none (.r 4)),O 15 (.app 3 24 (.r 1) (.r 13)),O 16 (.load (some 3) (.r 3)),O 17 (.lit 3 [(.int .i64 0),(.int .i64 0),(.int .i64 0)] [(0,(.r 16))] false false),O 18 (.app 3 24 (.r 15) (.r 17)),O 19 (.off 5 (.r 12)),⟨none,(.store 1 (.r 19) (.r 18)),none⟩] [(4,0,1)])
def fq1.n30:ACode:=(.seq (.reg [O 1 (.load (some 6) (.r 0)),O 12 (.alloc [(.int .i64 0),(.int .i64 0),(.int .i64 0),(.slice true 0 []),(.slice true 0 []),(.slice true 0 [])]),⟨none,(.store 6 (.r 12) (.r 1)),none⟩]) (.seq (.reg [O 1 (.off 1 (.r 0)),O 1 (.load none (.r 1)),O 1 (.bin .add (.r 1) (.c (.int .i64 300))),O 13 (.off 2 (.r 0)),O 13 (.load none (.r 13)),O 4 (.minmax false (.c (.int .i64 1000)) [(.r 4)]),O 4 (.minmax true (.c (.int .i64 0)) [(.r 4)]),O 4 (.bin .add (.r 13) (.r 4)),O 1 (.minmax false (.r 1) [(.r 4)]),O 4 (.off 2 (.r 12)),⟨none,(.store 1 (.r 4) (.r 1)),none⟩]) (.seq (.seq (.reg [O 1 (.off 5 (.r 0)),O 1 (.load none (.r 1)),O 1 (.len false (.r 1)),O 1 (.bin .lss (.r 1) (.c (.int .i64 3)))]) (.cond (.r 1) fq1.n31 .skip)) fq1.n32)))
def fq1.n29:ACode:=(.reg [O 1 (.bin .add (.r 11) (.c (.int .i64 1))),O 11 (.mov (.r 1))])
def fq1.n28:ACode:=(.seq (.reg [O 5 (.mov (.c (.bool false)))]) .ret)
def fq1.n27:ACode:=(.seq (.block 5 (.seq (.reg [O 1 (.iaddr 1 none (.r 12) (.r 11)),O 1 (.load none (.r 1)),O 13 (.off 2 (.r 0)),O 13 (.load none (.r 13)),O 1 (.bin .gtr (.r 1) (.r 13))]) (.cond (.r 1) fq1.n28 .skip))) fq1.n29)
def fq1.n26:ACode:=(.exit 4)
def fq1.n25:ACode:=(.seq (.seq (.reg [O 1 (.len false (.r 12)),O 1 (.bin .lss (.r 11) (.r 1))]) (.cond (.r 1) .skip fq1.n26)) fq1.n27)
def fq1.n24:ACode:=(.loop fq1.n25)
def fq1.n23:ACode:=(.seq (.seq (.reg [O 11 (.mov (.c (.int .i64 0)))]) (.block 4 fq1.n24)) fq1.n30)
def fq1.n22:ACode:=(.seq (.reg [O 5 (.mov (.c (.bool false)))]) .ret)
def fq1.n21:ACode:=(.seq (.reg [O 1 (.load (some 6) (.r 0)),O 1 (.call F_fq48 [(.r 1),(.r 13)]),O 12 (.ext 0 (.r 1)),O 1 (.ext 1 (.r 1))]) (.seq (.reg [O 15 (.load (some 6) (.r 0)),O 13 (.call F_fq47 [(.r 15),(.r 13)]),O 15 (.ext 0 (.r 13)),O 13 (.ext 1 (.r 13))]) (.seq (.seq (.reg [O 1 (.bin .neq (.r 1) (.c (.int .i64 0))),⟨(some 13),(.mov (.r 15)),(some (1,false))⟩,⟨(some 15),(.mov (.r 14)),(some (1,false))⟩,⟨(some 13),(.bin .neq (.r 13) (.r 15)),(some (1,false))⟩,O 1 (.pick (.r 1) (.c (.bool true)) (.r 13))]) (.cond (.r 1) fq1.n22 .skip)) fq1.n23)))
def fq1.n20:ACode:=(.seq (.reg [O 5 (.mov (.c (.bool false)))]) .ret)
def fq1.n19:ACode:=(.seq (.seq (.reg [O 1 (.bin .neq (.r 12) (.c (.int .i64 0))),⟨(some 12),(.mov (.r 9)),(some (1,false))⟩,⟨(some 12),(.mov (.r 12)),(some (1,false))⟩,⟨(some 15),(.mov (.r 17)),(some (12,true))⟩,⟨(some 16),(.mov (.r 14)),(some (12,true))⟩,⟨(some 15),(.bin .lss (.r 15) (.r 16)),(some (12,true))⟩,⟨(some 12),(.pick (.r 12) (.r 15) (.c (.bool false))),(some (1,false))⟩,O 1 (.pick (.r 1) (.c (.bool true)) (.r 12))]) (.cond (.r 1) fq1.n20 .skip)) fq1.n21)
def fq1.n18:ACode:=(.seq (.reg [O 0 (.un .not (.r 9)),⟨(some 1),(.call F_fq2 []),(some (0,true))⟩,O 0 (.pick (.r 0) (.r 1) (.c (.bool false))),O 5 (.mov (.r 0))]) .ret)
def fq1.n17:ACode:=(.seq (.seq (.reg [O 1 (.bin .eql (.r 12) (.c (.int .i64 7)))]) (.cond (.r 1) fq1.n18 .skip)) fq1.n19)
def fq1.n16:ACode:=(.seq (.block 3 (.reg [⟨(some 1),(.mov (.r 15)),(some (9,true))⟩,⟨(some 16),(.mov (.r 10)),(some (9,true))⟩,⟨(some 1),(.iaddr 1 none (.r 1) (.r 16)),(some (9,true))⟩,⟨(some 1),(.load none (.r 1)),(some (9,true))⟩,⟨(some 16),(.off 2 (.r 0)),(some (9,true))⟩,⟨(some 16),(.load none (.r 16)),(some (9,true))⟩,⟨(some 1),(.bin .leq (.r 1) (.r 16)),(some (9,true))⟩,O 1 (.pick (.r 9) (.r 1) (.c (.bool false))),O 9 (.mov (.r 1))])) (.reg [O 1 (.bin .add (.r 10) (.c (.int .i64 1))),O 10 (.mov (.r 1))]))
def fq1.n15:ACode:=(.exit 2)
def fq1.n14:ACode:=(.seq (.seq (.reg [O 1 (.len false (.r 15)),O 1 (.bin .lss (.r 10) (.r 1))]) (.cond (.r 1) .skip fq1.n15)) fq1.n16)
def fq1.n13:ACode:=(.loop fq1.n14)
def fq1.n12:ACode:=(.seq (.reg [O 1 (.load (some 6) (.r 0)),O 1 (.call F_fq48 [(.r 1),(.r 6)]),O 15 (.ext 0 (.r 1)),O 1 (.ext 1 (.r 1))]) (.seq (.reg [O 16 (.load (some 6) (.r 0)),O 16 (.call F_fq47 [(.r 16),(.r 6)]),O 17 (.ext 0 (.r 16)),O 16 (.ext 1 (.r 16))]) (.seq (.reg [O 1 (.bin .eql (.r 1) (.c (.int .i64 0))),O 9 (.mov (.r 1))]) (.seq (.seq (.reg [O 10 (.mov (.c (.int .i64 0)))]) (.block 2 fq1.n13)) fq1.n17))))
def fq1.n11:ACode:=(.reg [O 15 (.bin .add (.r 7) (.c (.int .i64 1))),O 7 (.mov (.r 15))])
def fq1.n10:ACode:=(.reg [O 15 (.off 5 (.r 0)),O 15 (.load none (.r 15)),O 15 (.len false (.r 15)),O 15 (.bin .shl (.c (.int .i64 1)) (.r 15)),O 15 (.bin .rem (.r 8) (.r 15)),O 15 (.lit 1 [(.int .i64 0)] [(0,(.r 15))] false true),O 15 (.app 1 8 (.r 6) (.r 15)),O 6 (.mov (.r 15))])
def fq1.n9:ACode:=(.reg [O 15 (.len false (.r 1)),O 15 (.bin .rem (.r 7) (.r 15)),O 15 (.iaddr 1 none (.r 1) (.r 15)),O 15 (.load none (.r 15)),O 15 (.conv .i64 (.r 15)),O 8 (.mov (.r 15))])
def fq1.n8:ACode:=(.seq (.block 1 (.seq (.reg [O 8 (.mov (.c (.int .i64 0)))]) (.seq (.seq (.reg [O 15 (.len false (.r 1)),O 15 (.bin .gtr (.r 15) (.c (.int .i64 0)))]) (.cond (.r 15) fq1.n9 .skip)) fq1.n10))) fq1.n11)
def fq1.n7:ACode:=(.exit 0)
def fq1.n6:ACode:=(.seq (.seq (.reg [O 15 (.off 3 (.r 0)),O 15 (.load none (.r 15)),O 15 (.len false (.r 15)),O 15 (.bin .lss (.r 7) (.r 15))]) (.cond (.r 15) .skip fq1.n7)) fq1.n8)
def fq1.n5:ACode:=(.loop fq1.n6)
def fq1.n4:ACode:=(.seq (.reg [O 6 (.own 1)]) (.seq (.seq (.reg [O 7 (.mov (.c (.int .i64 0)))]) (.block 0 fq1.n5)) fq1.n12))
def fq1.n3:ACode:=(.seq (.reg [O 0 (.load (some 6) (.r 0)),O 0 (.call F_fq46 [(.r 0)]),O 0 (.un .not (.r 0)),⟨(some 1),(.call F_fq2 []),(some (0,true))⟩,O 0 (.pick (.r 0) (.r 1) (.c (.bool false))),O 5 (.mov (.r 0))]) .ret)
def fq1.n2:ACode:=(.seq (.reg [O 12 (.load (some 6) (.r 0)),O 12 (.call F_fq9 [(.r 12)]),O 13 (.ext 0 (.r 12)),O 14 (.ext 1 (.r 12)),O 12 (.ext 2 (.r 12))]) (.seq (.seq (.reg [O 15 (.bin .eql (.r 12) (.c (.int .i64 2)))]) (.cond (.r 15) fq1.n3 .skip)) fq1.n4))
def fq1.n1:ACode:=(.seq (.reg [O 0 (.call F_fq2 []),O 5 (.mov (.r 0))]) .ret)
def fq1.n0:ACode:=(.seq (.reg [O 0 (.box 6 (.r 0)),O 2 (.box 2 (.r 2)),O 3 (.box 3 (.r 3)),O 5 (.mov (.c (.bool false)))]) (.seq (.seq (.reg [O 12 (.off 3 (.r 0)),O 12 (.load none (.r 12)),O 12 (.len false (.r 12)),O 12 (.bin .gtr (.r 12) (.c (.int .i64 24))),⟨(some 13),(.off 4 (.r 0)),(some (12,false))⟩,⟨(some 13),(.load none (.r 13)),(some (12,false))⟩,⟨(some 13),(.len false (.r 13)),(some (12,false))⟩,⟨(some 13),(.bin .gtr (.r 13) (.c (.int .i64 24))),(some (12,false))⟩,O 12 (.pick (.r 12) (.c (.bool true)) (.r 13)),⟨(some 13),(.off 5 (.r 0)),(some (12,false))⟩,⟨(some 13),(.load none (.r 13)),(some (12,false))⟩,⟨(some 13),(.len false (.r 13)),(some (12,false))⟩,⟨(some 13),(.bin .gtr (.r 13) (.c (.int .i64 3))),(some (12,false))⟩,O 12 (.pick (.r 12) (.c (.bool true)) (.r 13)),⟨(some 13),(.off 2 (.r 0)),(some (12,false))⟩,⟨(some 13),(.load none (.r 13)),(some (12,false))⟩,⟨(some 14),(.off 1 (.r 0)),(some (12,false))⟩,⟨(some 14),(.load none (.r 14)),(some (12,false))⟩,⟨(some 13),(.bin .sub (.r 13) (.r 14)),(some (12,false))⟩,⟨(some 13),(.bin .gtr (.r 13) (.c (.int .i64 300))),(some (12,false))⟩,O 12 (.pick (.r 12) (.c (.bool true)) (.r 13))]) (.cond (.r 12) fq1.n1 .skip)) fq1.n2))
def fq1.res:List ARes:=[⟨5,none,none⟩]
def fq1.fn:AFunc:=⟨5,23,fq1.res,fq1.n0⟩
theorem fq1.ra:raFn fq1.fn0 23 [5] (.two (.ops [1,3,4,6]) (.two (.two (.ops [13,13,13,13,0,14,14,14,14,13,0,14,14,14,14,13,0,14,14,15,15,14,14,13]) (.join [(1,(.r 1)),(4,(.r 4)),(5,(.r 0)),(7,(.r 2)),(8,(.r 3))] (.two (.ops [1,6]) .nil) .nil)) (.two (.ops [13,13,0,14,15,13,0,0,0]) (.two (.two (.ops [0,16]) (.join [(1,(.r 1)),(4,(.r 4)),(5,(.r 0)),(7,(.r 2)),(8,(.r 3)),(11,(.r 13)),(12,(.r 14)),(13,(.r 12))] (.two (.ops [1,1,1,0,2,1,6]) .nil) .nil)) (.two (.ops [7]) (.two (.two (.ops [8]) (.at [(4,(.r 4)),(5,(.r 0)),(7,(.r 2)),(8,(.r 3)),(11,(.r 13)),(12,(.r 14)),(13,(.r 12)),(14,(.r 6))] (.at [(1,(.r 1)),(4,(.r 4)),(5,(.r 0)),(7,(.r 2)),(8,(.r 3)),(11,(.r 13)),(12,(.r 14)),(13,(.r 12)),(14,(.r 6)),(15,(.r 7))] (.two (.two (.ops [0,16,16,16,16]) (.join [(1,(.r 1)),(4,(.r 4)),(5,(.r 0)),(7,(.r 2)),(8,(.r 3)),(11,(.r 13)),(12,(.r 14)),(13,(.r 12)),(14,(.r 6)),(15,(.r 7))] .nil .nil)) (.two (.at [(1,(.r 1)),(4,(.r 4)),(5,(.r 0)),(7,(.r 2)),(8,(.r 3)),(11,(.r 13)),(12,(.r 14)),(13,(.r 12)),(14,(.r 6)),(15,(.r 7))] (.two (.ops [9]) (.two (.two (.ops [0,16,16]) (.join [(1,(.r 1)),(4,(.r 4)),(5,(.r 0)),(7,(.r 2)),(8,(.r 3)),(11,(.r 13)),(12,(.r 14)),(13,(.r 12)),(14,(.r 6)),(15,(.r 7)),(16,(.r 8))] (.ops [0,0,0,16,16,16,16,16,9]) .nil)) (.ops [0,0,16,16,16,16,16,16,16,7])))) (.ops [0,16,8])))))) (.two (.ops [2,0,2,0,16,2,0,0]) (.two (.ops [17,0,17,0,18,17,0,0]) (.two (.ops [0,2,10]) (.two (.two (.ops [11]) (.at [(4,(.r 4)),(5,(.r 0)),(7,(.r 2)),(8,(.r 3)),(11,(.r 13)),(12,(.r 14)),(13,(.r 12)),(19,(.r 17)),(21,(.r 9))] (.at [(4,(.r 4)),(5,(.r 0)),(7,(.r 2)),(8,(.r 3)),(11,(.r 13)),(12,(.r 14)),(13,(.r 12)),(17,(.r 15)),(19,(.r 17)),(21,(.r 9)),(22,(.r 10))] (.two (.two (.ops [0,0,2,2]) (.join [(4,(.r 4)),(5,(.r 0)),(7,(.r 2)),(8,(.r 3)),(11,(.r 13)),(12,(.r 14)),(13,(.r 12)),(17,(.r 15)),(19,(.r 17)),(21,(.r 9)),(22,(.r 10))] .nil .nil)) (.two (.at [(4,(.r 4)),(5,(.r 0)),(7,(.r 2)),(8,(.r 3)),(11,(.r 13)),(12,(.r 14)),(13,(.r 12)),(17,(.r 15)),(19,(.r 17)),(21,(.r 9)),(22,(.r 10))] (.ops [0,0,2,17,2,2,17,17,2,2,10])) (.ops [0,2,11])))))) (.two (.two (.ops [0,2]) (.join [(4,(.r 4)),(5,(.r 0)),(7,(.r 2)),(8,(.r 3)),(11,(.r 13)),(12,(.r 14)),(13,(.r 12)),(19,(.r 17)),(21,(.r 9))] (.two (.ops [0,1,0,2,1,6]) .nil) .nil)) (.two (.two (.ops [0,2,0,13,13,16,17,16,13,2]) (.join [(4,(.r 4)),(5,(.r 0)),(7,(.r 2)),(8,(.r 3)),(11,(.r 13)),(12,(.r 14))] (.two (.ops [6]) .nil) .nil)) (.two (.ops [2,0,2,0,13,2,0,0]) (.two (.ops [16,0,14,0,16,14,0]) (.two (.two (.ops [0,2,0,14,16,14,2]) (.join [(4,(.r 4)),(5,(.r 0)),(7,(.r 2)),(8,(.r 3)),(12,(.r 14)),(17,(.r 12))] (.two (.ops [6]) .nil) .nil)) (.two (.two (.ops [12]) (.at [(4,(.r 4)),(5,(.r 0)),(7,(.r 2)),(8,(.r 3)),(12,(.r 14))] (.at [(4,(.r 4)),(5,(.r 0)),(7,(.r 2)),(8,(.r 3)),(12,(.r 14)),(17,(.r 12)),(23,(.r 11))] (.two (.two (.ops [0,0,2,2]) (.join [(4,(.r 4)),(5,(.r 0)),(7,(.r 2)),(8,(.r 3)),(12,(.r 14)),(17,(.r 12)),(23,(.r 11))] .nil .nil)) (.two (.at [(4,(.r 4)),(5,(.r 0)),(7,(.r 2)),(8,(.r 3)),(12,(.r 14)),(17,(.r 12)),(23,(.r 11))] (.two (.ops [0,0,2,2,14,14,2]) (.join [(4,(.r 4)),(5,(.r 0)),(7,(.r 2)),(8,(.r 3)),(12,(.r 14)),(17,(.r 12)),(23,(.r 11))] (.two (.ops [6]) .nil) .nil))) (.ops [0,2,12])))))) (.two (.ops [2,13,1]) (.two (.ops [2,2,2,14,14,0,5,5,5,2,5,1]) (.two (.two (.ops [2,2,2,2]) (.join [(5,(.r 0)),(7,(.r 2)),(12,(.r 14)),(24,(.r 12))] (.ops [2,5,14,16,17,18,19,20,1]) .nil)) (.two (.ops [2,4,5,14,16,17,18,19,20,21,22,1,23,1]) (.two (.two (.ops [1,1,1]) (.join [(12,(.r 14)),(24,(.r 12))] (.two (.ops [1,6]) .nil) .nil)) (.two (.ops [1,1,0,2,3,1,0,0,0]) (.two (.ops [0,1,0,2,3,2,1,0,2,1,6]) .nil)))))))))))))))))))))))=some fq1.fn:=by kernel_rfl
theorem fq1.ul:((rRes fq1.fn0.results [5]).all fun q=>uniB q.2)=true:=by kernel_rfl
noncomputable def fq2.fn0:AFunc:=(compileFn Tryd.prog [] [] [] Tryd.f11).getD ⟨0,0,[],.skip⟩
theorem fq2.ok:compileFn Tryd.prog [] [] [] Tryd.f11=some fq2.fn0:=getD_some (by kernel_rfl)
def fq2.n0:ACode:=(.seq (.reg [O 0 (.mov (.c (.bool false)))]) (.seq (.reg [O 1 (.lit 1 [(.int .i64 0),(.int .i64 0),(.int .i64 0)] [(0,(.c (.int .i64 4))),(1,(.c (.int .i64 4))),(2,(.c (.int .i64 4)))] false true),O 2 (.lit 1 [(.int .i64 0),(.int .i64 0),(.int .i64 0)] [(0,(.c (.int .i64 1))),(1,(.c (.int .i64 3))),(2,(.c (.int .i64 1)))] false true),O 3 (.build [(.int .i64 0),(.int .i64 0),(.int .i64 0)] [(0,(1,(.c (.int .i64 6)))),(1,(1,(.c (.int .i64 2)))),(2,(1,(.c (.int .i64 1))))]),O 3 (.lit 3 [(.int .i64 0),(.int .i64 0),(.int .i64 0)] [(0,(.r 3))] false true),O 1 (.build [(.int .i64 0),(.int .i64 0),(.int .i64 0),(.slice true 0 []),(.slice true 0 []),(.slice true 0 [])] [(0,(1,(.c (.int .i64 5)))),(2,(1,(.c (.int .i64 10)))),(3,(1,(.r 1))),(4,(1,(.r 2))),(5,(1,(.r 3)))]),O 2 (.alloc [(.int .i64 0),(.int .i64 0),(.int .i64 0),(.slice true 0 []),(.slice true 0 []),(.slice true 0 [])]),⟨none,(.store 6 (.r 2) (.r 1)),none⟩]) (.seq (.reg [O 1 (.load (some 6) (.r 2)),O 1 (.call F_fq9 [(.r 1)]),O 3 (.ext 0 (.r 1)),O 4 (.ext 1 (.r 1)),O 1 (.ext 2 (.r 1))]) (.seq (.reg [O 2 (.load (some 6) (.r 2)),O 5 (.lit 1 [(.int .i64 0),(.int .i64 0),(.int .i64 0)] [(0,(.c (.int .i64 1))),(1,(.c (.int .i64 0))),(2,(.c (.int .i64 1)))] false true),O 2 (.call F_fq11 [(.r 2),(.r 5)]),O 5 (.ext 0 (.r 2)),O 2 (.ext 1 (.r 2))]) (.seq (.reg [O 6 (.build [(.int .i64 0),(.int .i64 0),(.int .i64 0)] [(2,(1,(.c (.int .i64 3))))]),O 7 (.build [(.int .i64 0),(.int .i64 0),(.int .i64 0)] [(0,(1,(.c (.int .i64 1)))),(2,(1,(.c (.int .i64 2))))]),O 8 (.build [(.int .i64 0),(.int .i64 0),(.int .i64 0)] [(0,(1,(.c (.int .i64 2)))),(1,(1,(.c (.int .i64 1)))),(2,(1,(.c (.int .i64 2))))]),O 6 (.lit 3 [(.int .i64 0),(.int .i64 0),(.int .i64 0),(.int .i64 0),(.int .i64 0),(.int .i64 0),(.int .i64 0),(.int .i64 0),(.int .i64 0)] [(0,(.r 6)),(3,(.r 7)),(6,(.r 8))] false true),O 6 (.call F_fq17 [(.r 6),(.c (.int .i64 1))]),O 7 (.ext 0 (.r 6)),O 6 (.ext 1 (.r 6))]) (.seq (.reg [O 8 (.build [(.int .i64 0),(.int .i64 0),(.int .i64 0)] [(2,(1,(.c (.int .i64 1))))]),O 9 (.build [(.int .i64 0),(.int .i64 0),(.int .i64 0)] [(0,(1,(.c (.int .i64 1)))),(2,(1,(.c (.int .i64 1))))]),O 8 (.lit 3 [(.int .i64 0),(.int .i64 0),(.int .i64 0),(.int .i64 0),(.int .i64 0),(.int .i64 0)] [(0,(.r 8)),(3,(.r 9))] false true),O 8 (.call F_fq17 [(.r 8),(.c (.int .i64 1))]),O 9 (.ext 0 (.r 8)),O 8 (.ext 1 (.r 8))]) (.seq (.reg [O 9 (.build [(.int .i64 0),(.int .i64 0),(.int .i64 0)] [(2,(1,(.c (.int .i64 1))))]),O 10 (.build [(.int .i64 0),(.int .i64 0),(.int .i64 0)] [(0,(1,(.c (.int .i64 1)))),(2,(1,(.c (.int .i64 1))))]),O 9 (.lit 3 [(.int .i64 0),(.int .i64 0),(.int .i64 0),(.int .i64 0),(.int .i64 0),(.int .i64 0)] [(0,(.r 9)),(3,(.r 10))] false true),O 9 (.call F_fq10 [(.r 9),(.c (.int .i64 1))]),O 10 (.ext 0 (.r 9)),O 11 (.ext 1 (.r 9)),O 9 (.ext 2 (.r 9))]) (.seq (.reg [O 12 (.build [(.int .i64 0),(.int .i64 0)] []),O 13 (.build [(.int .i64 0),(.int .i64 0)] [(0,(1,(.c (.int .i64 10))))]),O 14 (.build [(.int .i64 0),(.int .i64 0)] [(0,(1,(.c (.int .i64 11))))]),O 15 (.build [(.int .i64 0),(.int .i64 0)] [(0,(1,(.c (.int .i64 1))))]),O 12 (.lit 2 [(.int .i64 0),(.int .i64 0),(.int .i64 0),(.int .i64 0),(.int .i64 0),(.int .i64 0),(.int .i64 0),(.int .i64 0)] [(0,(.r 12)),(2,(.r 13)),(4,(.r 14)),(6,(.r 15))] false true),O 12 (.call F_fq12 [(.r 12)]),O 13 (.ext 0 (.r 12)),O 14 (.ext 1 (.r 12)),O 12 (.ext 2 (.r 12))]) (.seq (.reg [O 15 (.lit 1 [(.int .i64 0),(.int .i64 0)] [(0,(.c (.int .i64 0))),(1,(.c (.int .i64 1)))] false true),O 15 (.lit 1 [(.slice true 0 [])] [(0,(.r 15))] false true),O 15 (.call F_fq15 [(.c (.int .i64 2)),(.r 15)]),O 16 (.ext 0 (.r 15)),O 15 (.ext 1 (.r 15))]) (.seq (.reg [O 17 (.lit 1 [(.int .i64 0),(.int .i64 0),(.int .i64 0)] [(0,(.c (.int .i64 1))),(1,(.c (.int .i64 0))),(2,(.c (.int .i64 1)))] false true),O 3 (.call F_fq45 [(.r 3),(.r 17)]),⟨(some 4),(.mov (.r 4)),(some (3,true))⟩,⟨(some 4),(.bin .eql (.r 4) (.c (.int .i64 6))),(some (3,true))⟩,O 3 (.pick (.r 3) (.r 4) (.c (.bool false))),⟨(some 1),(.mov (.r 1)),(some (3,true))⟩,⟨(some 1),(.bin .eql (.r 1) (.c (.int .i64 0))),(some (3,true))⟩,O 1 (.pick (.r 3) (.r 1) (.c (.bool false))),⟨(some 3),(.mov (.r 5)),(some (1,true))⟩,⟨(some 4),(.lit 1 [(.int .i64 0),(.int .i64 0),(.int .i64 0)] [(0,(.c (.int .i64 3))),(1,(.c (.int .i64 7))),(2,(.c (.int .i64 5)))] false true),(some (1,true))⟩,⟨(some 3),(.call F_fq45 [(.r 3),(.r 4)]),(some (1,true))⟩,O 1 (.pick (.r 1) (.r 3) (.c (.bool false))),⟨(some 2),(.mov (.r 2)),(some (1,true))⟩,⟨(some 2),(.bin .eql (.r 2) (.c (.int .i64 0))),(some (1,true))⟩,O 1 (.pick (.r 1) (.r 2) (.c (.bool false))),⟨(some 2),(.mov (.r 7)),(some (1,true))⟩,⟨(some 3),(.lit 1 [(.int .i64 0),(.int .i64 0),(.int .i64 0)] [(0,(.c (.int .i64 2))),(1,(.c (.int .i64 0))),(2,(.c (.int .i64 1)))] false true),(some (1,true))⟩,⟨(some 2),(.call F_fq45 [(.r 2),(.r 3)]),(some (1,true))⟩,O 1 (.pick (.r 1) (.r 2) (.c (.bool false))),⟨(some 2),(.mov (.r 6)),(some (1,true))⟩,⟨(some 2),(.bin .eql (.r 2) (.c (.int .i64 0))),(some (1,true))⟩,O 1 (.pick (.r 1) (.r 2) (.c (.bool false)))]) (.seq (.reg [⟨(some 2),(.mov (.r 8)),(some (1,true))⟩,⟨(some 2),(.bin .eql (.r 2) (.c (.int .i64 7))),(some (1,true))⟩,O 1 (.pick (.r 1) (.r 2) (.c (.bool false))),⟨(some 2),(.mov (.r 10)),(some (1,true))⟩,⟨(some 2),(.bin .eql (.r 2) (.c (.int .i64 0))),(some (1,true))⟩,O 1 (.pick (.r 1) (.r 2) (.c (.bool false))),⟨(some 2),(.mov (.r 11)),(some (1,true))⟩,⟨(some 2),(.bin .eql (.r 2) (.c (.int .i64 1))),(some (1,true))⟩,O 1 (.pick (.r 1) (.r 2) (.c (.bool false))),⟨(some 2),(.mov (.r 9)),(some (1,true))⟩,⟨(some 2),(.bin .eql (.r 2) (.c (.int .i64 0))),(some (1,true))⟩,O 1 (.pick (.r 1) (.r 2) (.c (.bool false))),⟨(some 2),(.mov (.r 13)),(some (1,true))⟩,⟨(some 3),(.build [(.int .i64 0),(.int .i64 0)] [(0,(1,(.c (.int .i64 0)))),(1,(1,(.c (.int .i64 3))))]),(some (1,true))⟩,⟨(some 4),(.build [(.int .i64 0),(.int .i64 0)] [(0,(1,(.c (.int .i64 1)))),(1,(1,(.c (.int .i64 2))))]),(some (1,true))⟩,⟨(some 3),(.lit 2 [(.int .i64 0),(.int .i64 0),(.int .i64 0),(.int .i64 0)] [(0,(.r 3)),(2,(.r 4))] false true),(some (1,true))⟩,⟨(some 2),(.call F_fq50 [(.r 2),(.r 3)]),(some (1,true))⟩,O 1 (.pick (.r 1) (.r 2) (.c (.bool false))),⟨(some 2),(.mov (.r 14)),(some (1,true))⟩,⟨(some 2),(.bin .eql (.r 2) (.c (.int .i64 2))),(some (1,true))⟩,O 1 (.pick (.r 1) (.r 2) (.c (.bool false))),⟨(some 2),(.mov (.r 12)),(some (1,true))⟩,⟨(some 2),(.bin .eql (.r 2) (.c (.int .i64 0))),(some (1,true))⟩,O 1 (.pick (.r 1) (.r 2) (.c (.bool false))),⟨(some 2),(.mov (.r 16)),(some (1,true))⟩,⟨(some 3),(.lit 1 [(.int .i64 0),(.int .i64 0)] [(0,(.c (.int .i64 1))),(1,(.c (.int .i64 0)))] false true),(some (1,true))⟩,⟨(some 2),(.call F_fq45 [(.r 2),(.r 3)]),(some (1,true))⟩,O 1 (.pick (.r 1) (.r 2) (.c (.bool false))),⟨(some 2),(.mov (.r 15)),(some (1,true))⟩,⟨(some 2),(.bin .eql (.r 2) (.c (.int .i64 0))),(some (1,true))⟩,O 1 (.pick (.r 1) (.r 2) (.c (.bool false))),O 0 (.mov (.r 1))]) .ret)))))))))))
def fq2.res:List ARes:=[⟨0,none,none⟩]
def fq2.fn:AFunc:=⟨0,18,fq2.res,fq2.n0⟩
theorem fq2.ra:raFn fq2.fn0 18 [0] (.two (.ops [1]) (.two (.ops [2,3,4,4,2,3,1]) (.two (.ops [2,2,0,4,5,2,0,0,0]) (.two (.ops [3,6,3,0,6,3,0,0]) (.two (.ops [7,8,9,7,7,0,8,7,0,0]) (.two (.ops [9,10,9,9,0,10,9,0,0]) (.two (.ops [10,11,10,10,0,11,12,10,0,0,0]) (.two (.ops [13,14,15,16,13,13,0,14,15,13,0,0,0]) (.two (.ops [16,16,16,0,17,16,0,0]) (.two (.ops [0,18,4,0,5,5,4,0,2,2,2,0,4,5,4,2,0,3,3,2,0,3,4,3,2,0,3,3,2,0]) (.two (.ops [0,0,3,3,2,0,3,3,2,0,3,3,2,0,3,3,2,0,3,4,5,4,3,2,0,3,3,2,0,3,3,2,0,3,4,3,2,0,3,3,2,1]) .nil)))))))))))=some fq2.fn:=by kernel_rfl
theorem fq2.ul:((rRes fq2.fn0.results [0]).all fun q=>uniB q.2)=true:=by kernel_rfl
noncomputable def fq9.fn0:AFunc:=(compileFn Tryd.prog [2] [] [some 1,none,none] Tryd.f12).getD ⟨0,0,[],.skip⟩
theorem fq9.ok:compileFn Tryd.prog [2] [] [some 1,none,none] Tryd.f12=some fq9.fn0:=getD_some (by kernel_rfl)
def fq9.n9:ACode:=(.seq (.reg [O 0 (.off 0 (.r 7)),O 0 (.load none (.r 0)),O 1 (.mov (.r 1)),O 2 (.mov (.r 0)),O 3 (.mov (.c (.int .i64 0)))]) .ret)
def fq9.n8:ACode:=(.seq (.block 1 (.seq (.reg []) (.seq (.reg [O 9 (.iaddr 1 none (.r 5) (.r 4)),O 9 (.load none (.r 9)),O 10 (.load (some 2) (.r 8)),O 9 (.look (.mk true [(.int .i64),(.int .i64)]) (.agg [(.int .i64 0),(.int .i64 0)]) false (.r 9) (.r 10)),O 9 (.fld 1 none (.r 9))]) (.seq (.reg [O 10 (.lit 1 [(.int .i64 0)] [(0,(.r 9))] false true),O 10 (.app 1 8 (.r 1) (.r 10)),O 1 (.mov (.r 10))]) (.reg [O 10 (.off 0 (.r 8)),O 10 (.load none (.r 10)),O 10 (.call F_fq27 [(.r 6),(.r 4),(.r 10),(.r 9)]),O 9 (.build [(.int .i64 0),(.int .i64 0)] [(0,(1,(.r 10))),(1,(1,(.r 9)))]),⟨none,(.store 2 (.r 8) (.r 9)),none⟩]))))) (.reg [O 9 (.bin .add (.r 4) (.c (.int .i64 1))),O 4 (.mov (.r 9))]))
def fq9.n7:ACode:=(.exit 0)
def fq9.n6:ACode:=(.seq (.reg [O 9 (.bin .lss (.r 4) (.r 0))]) (.seq (.cond (.r 9) .skip fq9.n7) fq9.n8))
def fq9.n5:ACode:=(.loop fq9.n6)
def fq9.n4:ACode:=(.seq (.seq (.reg [O 0 (.off 3 (.r 0)),O 0 (.load none (.r 0)),O 0 (.len false (.r 0)),O 4 (.mov (.c (.int .i64 0)))]) (.block 0 fq9.n5)) fq9.n9)
def fq9.n3:ACode:=(.seq (.reg [O 1 (.own 1),O 2 (.mov (.c (.int .i64 0))),O 3 (.mov (.c (.int .i64 7)))]) .ret)
def fq9.n2:ACode:=(.seq (.reg [O 5 (.call F_fq25 [(.r 6)])]) (.seq (.reg [O 7 (.off 0 (.r 0)),O 7 (.load none (.r 7)),O 7 (.build [(.int .i64 0),(.int .i64 0)] [(0,(1,(.r 7))),(1,(1,(.c (.int .i64 0))))]),O 8 (.alloc [(.int .i64 0),(.int .i64 0)]),⟨none,(.store 2 (.r 8) (.r 7)),none⟩]) (.seq (.draw [O 9 (.mov (.r 5)),O 10 (.iaddr 1 none (.r 9) (.c (.int .i64 0))),O 11 (.load none (.r 10)),O 12 (.load (some 2) (.r 8)),O 13 (.look (.mk true [(.int .i64),(.int .i64)]) (.agg [(.int .i64 0),(.int .i64 0)]) true (.r 11) (.r 12)),O 14 (.mov (.r 13)),O 15 (.ext 0 (.r 14)),O 16 (.ext 1 (.r 14)),O 7 (.alloc [(.int .i64 0),(.int .i64 0)]),⟨none,(.store 2 (.r 7) (.r 15)),none⟩,O 17 (.mov (.r 16))] [(8,0,0)]) (.seq (.seq (.reg [O 9 (.un .not (.r 17))]) (.cond (.r 9) fq9.n3 .skip)) fq9.n4))))
def fq9.n1:ACode:=(.seq (.reg [O 1 (.own 1),O 2 (.mov (.c (.int .i64 0))),O 3 (.mov (.c (.int .i64 2)))]) .ret)
def fq9.n0:ACode:=(.seq (.reg [O 0 (.box 6 (.r 0)),O 1 (.own 1),O 2 (.mov (.c (.int .i64 0))),O 3 (.mov (.c (.int .i64 0)))]) (.seq (.reg [O 5 (.load (some 6) (.r 0)),O 5 (.call F_fq24 [(.r 5)]),O 6 (.ext 0 (.r 5)),O 5 (.ext 1 (.r 5))]) (.seq (.seq (.reg [O 5 (.un .not (.r 5))]) (.cond (.r 5) fq9.n1 .skip)) fq9.n2)))
def fq9.res:List ARes:=[⟨1,none,(some 1)⟩,⟨2,none,none⟩,⟨3,none,none⟩]
def fq9.fn:AFunc:=⟨1,18,fq9.res,fq9.n0⟩
theorem fq9.ra:raFn fq9.fn0 18 [1,2,3] (.two (.ops [1,2,3,4]) (.two (.ops [6,6,0,7,6,0,0]) (.two (.two (.ops [0,6]) (.join [(1,(.r 0)),(2,(.r 1)),(5,(.r 6))] (.two (.ops [2,3,4]) .nil) .nil)) (.two (.ops [0,6,0]) (.two (.ops [8,8,8,9,1]) (.two (.ops [10,11,12,13,14,15,16,17,8,1,18]) (.two (.two (.ops [0,10]) (.join [(1,(.r 0)),(2,(.r 1)),(5,(.r 6)),(7,(.r 5)),(8,(.r 8)),(9,(.r 7))] (.two (.ops [2,3,4]) .nil) .nil)) (.two (.two (.ops [1,1,1,5]) (.at [(2,(.r 1)),(9,(.r 7))] (.at [(2,(.r 1)),(5,(.r 6)),(7,(.r 5)),(8,(.r 8)),(9,(.r 7)),(36,(.r 0)),(37,(.r 4))] (.two (.ops [10]) (.two (.join [(2,(.r 1)),(5,(.r 6)),(7,(.r 5)),(8,(.r 8)),(9,(.r 7)),(36,(.r 0)),(37,(.r 4))] .nil .nil) (.two (.at [(2,(.r 1)),(5,(.r 6)),(7,(.r 5)),(8,(.r 8)),(9,(.r 7)),(36,(.r 0)),(37,(.r 4))] (.two (.ops [0,0]) (.two (.ops [0,0,10,10,11,10,10,0]) (.two (.ops [0,0,11,11,2]) (.ops [0,0,11,11,0,11,0,10,1]))))) (.ops [10,5]))))))) (.two (.ops [0,1,1,2,3,4]) .nil)))))))))=some fq9.fn:=by kernel_rfl
theorem fq9.ul:((rRes fq9.fn0.results [1,2,3]).all fun q=>uniB q.2)=true:=by kernel_rfl
noncomputable def fq45.fn0:AFunc:=(compileFn Tryd.prog [] [] [] Tryd.f14).getD ⟨0,0,[],.skip⟩
theorem fq45.ok:compileFn Tryd.prog [] [] [] Tryd.f14=some fq45.fn0:=getD_some (by kernel_rfl)
def fq45.n9:ACode:=(.seq (.reg [O 2 (.mov (.c (.bool true)))]) .ret)
def fq45.n8:ACode:=(.reg [O 4 (.bin .add (.r 3) (.c (.int .i64 1))),O 3 (.mov (.r 4))])
def fq45.n7:ACode:=(.seq (.reg [O 2 (.mov (.c (.bool false)))]) .ret)
def fq45.n6:ACode:=(.seq (.block 1 (.seq (.reg [O 4 (.iaddr 1 none (.r 0) (.r 3)),O 4 (.load none (.r 4)),O 5 (.iaddr 1 none (.r 1) (.r 3)),O 5 (.load none (.r 5)),O 4 (.bin .neq (.r 4) (.r 5))]) (.cond (.r 4) fq45.n7 .skip))) fq45.n8)
def fq45.n5:ACode:=(.exit 0)
def fq45.n4:ACode:=(.seq (.seq (.reg [O 4 (.len false (.r 0)),O 4 (.bin .lss (.r 3) (.r 4))]) (.cond (.r 4) .skip fq45.n5)) fq45.n6)
def fq45.n3:ACode:=(.loop fq45.n4)
def fq45.n2:ACode:=(.seq (.seq (.reg [O 3 (.mov (.c (.int .i64 0)))]) (.block 0 fq45.n3)) fq45.n9)
def fq45.n1:ACode:=(.seq (.reg [O 2 (.mov (.c (.bool false)))]) .ret)
def fq45.n0:ACode:=(.seq (.reg [O 2 (.mov (.c (.bool false)))]) (.seq (.seq (.reg [O 4 (.len false (.r 0)),O 5 (.len false (.r 1)),O 4 (.bin .neq (.r 4) (.r 5))]) (.cond (.r 4) fq45.n1 .skip)) fq45.n2))
def fq45.res:List ARes:=[⟨2,none,none⟩]
def fq45.fn:AFunc:=⟨2,6,fq45.res,fq45.n0⟩
theorem fq45.ra:raFn fq45.fn0 6 [2] (.two (.ops [3]) (.two (.two (.ops [0,5,0,6,5]) (.join [(0,(.r 0)),(1,(.r 1))] (.two (.ops [3]) .nil) .nil)) (.two (.two (.ops [4]) (.at [] (.at [(0,(.r 0)),(1,(.r 1)),(5,(.r 3))] (.two (.two (.ops [0,0,5,5]) (.join [(0,(.r 0)),(1,(.r 1)),(5,(.r 3))] .nil .nil)) (.two (.at [(0,(.r 0)),(1,(.r 1)),(5,(.r 3))] (.two (.ops [0,0,5,5,0,0,6,6,5]) (.join [(0,(.r 0)),(1,(.r 1)),(5,(.r 3))] (.two (.ops [3]) .nil) .nil))) (.ops [0,5,4])))))) (.two (.ops [3]) .nil))))=some fq45.fn:=by kernel_rfl
theorem fq45.ul:((rRes fq45.fn0.results [2]).all fun q=>uniB q.2)=true:=by kernel_rfl
noncomputable def fq46.fn0:AFunc:=(compileFn Tryd.prog [] [] [] Tryd.f15).getD ⟨0,0,[],.skip⟩
theorem fq46.ok:compileFn Tryd.prog [] [] [] Tryd.f15=some fq46.fn0:=getD_some (by kernel_rfl)
def fq46.n11:ACode:=(.seq (.reg [O 1 (.mov (.c (.bool true)))]) .ret)
def fq46.n10:ACode:=(.reg [O 3 (.bin .add (.r 2) (.c (.int .i64 1))),O 2 (.mov (.r 3))])
def fq46.n9:ACode:=(.seq (.reg [O 1 (.mov (.c (.bool false)))]) .ret)
def fq46.n8:ACode:=(.seq (.block 1 (.seq (.reg [O 3 (.off 5 (.r 0)),O 3 (.load none (.r 3)),O 3 (.iaddr 3 none (.r 3) (.r 2)),O 3 (.off 0 (.r 3)),O 3 (.load none (.r 3)),O 4 (.off 5 (.r 0)),O 4 (.load none (.r 4)),O 4 (.iaddr 3 none (.r 4) (.r 2)),O 4 (.off 1 (.r 4)),O 4 (.load none (.r 4)),O 5 (.off 5 (.r 0)),O 5 (.load none (.r 5)),O 5 (.iaddr 3 none (.r 5) (.r 2)),O 5 (.off 2 (.r 5)),O 5 (.load none (.r 5)),O 3 (.lit 1 [(.int .i64 0),(.int .i64 0),(.int .i64 0)] [(0,(.r 3)),(1,(.r 4)),(2,(.r 5))] false false),O 3 (.call F_fq53 [(.r 3)]),O 3 (.un .not (.r 3))]) (.cond (.r 3) fq46.n9 .skip))) fq46.n10)
def fq46.n7:ACode:=(.exit 0)
def fq46.n6:ACode:=(.seq (.seq (.reg [O 3 (.off 5 (.r 0)),O 3 (.load none (.r 3)),O 3 (.len false (.r 3)),O 3 (.bin .lss (.r 2) (.r 3))]) (.cond (.r 3) .skip fq46.n7)) fq46.n8)
def fq46.n5:ACode:=(.loop fq46.n6)
def fq46.n4:ACode:=(.seq (.seq (.reg [O 2 (.mov (.c (.int .i64 0)))]) (.block 0 fq46.n5)) fq46.n11)
def fq46.n3:ACode:=(.seq (.reg [O 1 (.mov (.c (.bool false)))]) .ret)
def fq46.n2:ACode:=(.seq (.seq (.reg [O 3 (.off 3 (.r 0)),O 3 (.load none (.r 3)),O 3 (.len false (.r 3)),O 4 (.off 4 (.r 0)),O 4 (.load none (.r 4)),O 4 (.len false (.r 4)),O 3 (.bin .neq (.r 3) (.r 4)),⟨(some 4),(.off 3 (.r 0)),(some (3,false))⟩,⟨(some 4),(.load none (.r 4)),(some (3,false))⟩,⟨(some 4),(.len false (.r 4)),(some (3,false))⟩,⟨(some 4),(.bin .gtr (.r 4) (.c (.int .i64 48))),(some (3,false))⟩,O 3 (.pick (.r 3) (.c (.bool true)) (.r 4)),⟨(some 4),(.off 3 (.r 0)),(some (3,false))⟩,⟨(some 4),(.load none (.r 4)),(some (3,false))⟩,⟨(some 4),(.call F_fq53 [(.r 4)]),(some (3,false))⟩,⟨(some 4),(.un .not (.r 4)),(some (3,false))⟩,O 3 (.pick (.r 3) (.c (.bool true)) (.r 4)),⟨(some 4),(.off 4 (.r 0)),(some (3,false))⟩,⟨(some 4),(.load none (.r 4)),(some (3,false))⟩,⟨(some 4),(.call F_fq53 [(.r 4)]),(some (3,false))⟩,⟨(some 4),(.un .not (.r 4)),(some (3,false))⟩,O 3 (.pick (.r 3) (.c (.bool true)) (.r 4)),⟨(some 4),(.off 5 (.r 0)),(some (3,false))⟩,⟨(some 4),(.load none (.r 4)),(some (3,false))⟩,⟨(some 4),(.len false (.r 4)),(some (3,false))⟩,⟨(some 4),(.bin .gtr (.r 4) (.c (.int .i64 4))),(some (3,false))⟩,O 3 (.pick (.r 3) (.c (.bool true)) (.r 4))]) (.cond (.r 3) fq46.n3 .skip)) fq46.n4)
def fq46.n1:ACode:=(.seq (.reg [O 1 (.mov (.c (.bool false)))]) .ret)
def fq46.n0:ACode:=(.seq (.reg [O 0 (.box 6 (.r 0)),O 1 (.mov (.c (.bool false)))]) (.seq (.seq (.reg [O 3 (.off 1 (.r 0)),O 3 (.load none (.r 3)),O 3 (.call F_fq56 [(.r 3),(.c (.int .i64 (-1000000))),(.c (.int .i64 1000000))]),O 3 (.un .not (.r 3)),⟨(some 4),(.off 2 (.r 0)),(some (3,false))⟩,⟨(some 4),(.load none (.r 4)),(some (3,false))⟩,⟨(some 5),(.off 1 (.r 0)),(some (3,false))⟩,⟨(some 5),(.load none (.r 5)),(some (3,false))⟩,⟨(some 4),(.bin .lss (.r 4) (.r 5)),(some (3,false))⟩,O 3 (.pick (.r 3) (.c (.bool true)) (.r 4)),⟨(some 4),(.off 2 (.r 0)),(some (3,false))⟩,⟨(some 4),(.load none (.r 4)),(some (3,false))⟩,⟨(some 5),(.off 1 (.r 0)),(some (3,false))⟩,⟨(some 5),(.load none (.r 5)),(some (3,false))⟩,⟨(some 5),(.bin .add (.r 5) (.c (.int .i64 1000))),(some (3,false))⟩,⟨(some 4),(.bin .gtr (.r 4) (.r 5)),(some (3,false))⟩,O 3 (.pick (.r 3) (.c (.bool true)) (.r 4)),⟨(some 4),(.off 0 (.r 0)),(some (3,false))⟩,⟨(some 4),(.load none (.r 4)),(some (3,false))⟩,⟨(some 5),(.off 1 (.r 0)),(some (3,false))⟩,⟨(some 5),(.load none (.r 5)),(some (3,false))⟩,⟨(some 6),(.off 2 (.r 0)),(some (3,false))⟩,⟨(some 6),(.load none (.r 6)),(some (3,false))⟩,⟨(some 4),(.call F_fq56 [(.r 4),(.r 5),(.r 6)]),(some (3,false))⟩,⟨(some 4),(.un .not (.r 4)),(some (3,false))⟩,O 3 (.pick (.r 3) (.c (.bool true)) (.r 4))]) (.cond (.r 3) fq46.n1 .skip)) fq46.n2))
def fq46.res:List ARes:=[⟨1,none,none⟩]
def fq46.fn:AFunc:=⟨1,7,fq46.res,fq46.n0⟩
theorem fq46.ra:raFn fq46.fn0 7 [1] (.two (.ops [1,2]) (.two (.two (.ops [4,4,4,4,0,5,5,6,6,5,4,0,5,5,6,6,6,5,4,0,5,5,6,6,7,7,5,5,4]) (.join [(1,(.r 0))] (.two (.ops [2]) .nil) .nil)) (.two (.two (.ops [4,4,4,5,5,5,4,0,5,5,5,5,4,0,5,5,5,5,4,0,5,5,5,5,4,0,5,5,5,5,4]) (.join [(1,(.r 0))] (.two (.ops [2]) .nil) .nil)) (.two (.two (.ops [3]) (.at [] (.at [(1,(.r 0)),(3,(.r 2))] (.two (.two (.ops [0,4,4,4,4]) (.join [(1,(.r 0)),(3,(.r 2))] .nil .nil)) (.two (.at [(1,(.r 0)),(3,(.r 2))] (.two (.ops [4,4,0,4,4,4,5,5,0,5,5,5,6,6,0,6,6,6,4,4,4]) (.join [(1,(.r 0)),(3,(.r 2))] (.two (.ops [2]) .nil) .nil))) (.ops [0,4,3])))))) (.two (.ops [2]) .nil)))))=some fq46.fn:=by kernel_rfl
theorem fq46.ul:((rRes fq46.fn0.results [1]).all fun q=>uniB q.2)=true:=by kernel_rfl
noncomputable def fq48.fn0:AFunc:=(compileFn Tryd.prog [6] [] [some 1,none] Tryd.f16).getD ⟨0,0,[],.skip⟩
theorem fq48.ok:compileFn Tryd.prog [6] [] [some 1,none] Tryd.f16=some fq48.fn0:=getD_some (by kernel_rfl)
def fq48.n7:ACode:=(.seq (.reg [O 2 (.mov (.r 4)),O 3 (.mov (.c (.int .i64 0)))]) .ret)
def fq48.n6:ACode:=(.seq (.block 1 (.seq (.reg [O 7 (.load (some 6) (.r 0)),O 8 (.iaddr 1 none (.r 1) (.r 6)),O 8 (.load none (.r 8)),O 7 (.call F_fq54 [(.r 7),(.r 6),(.r 5),(.r 8)]),O 5 (.mov (.r 7))]) (.reg [O 7 (.lit 1 [(.int .i64 0)] [(0,(.r 5))] false true),O 7 (.app 1 8 (.r 4) (.r 7)),O 4 (.mov (.r 7))]))) (.reg [O 7 (.bin .add (.r 6) (.c (.int .i64 1))),O 6 (.mov (.r 7))]))
def fq48.n5:ACode:=(.exit 0)
def fq48.n4:ACode:=(.seq (.seq (.reg [O 7 (.len false (.r 1)),O 7 (.bin .lss (.r 6) (.r 7))]) (.cond (.r 7) .skip fq48.n5)) fq48.n6)
def fq48.n3:ACode:=(.loop fq48.n4)
def fq48.n2:ACode:=(.seq (.reg [O 4 (.own 1)]) (.seq (.reg [O 7 (.off 0 (.r 0)),O 7 (.load none (.r 7)),O 5 (.mov (.r 7))]) (.seq (.seq (.reg [O 6 (.mov (.c (.int .i64 0)))]) (.block 0 fq48.n3)) fq48.n7)))
def fq48.n1:ACode:=(.seq (.reg [O 2 (.mov (.c (.slice true 0 []))),O 3 (.mov (.c (.int .i64 2)))]) .ret)
def fq48.n0:ACode:=(.seq (.reg [O 0 (.box 6 (.r 0)),O 2 (.mov (.c (.slice true 0 []))),O 3 (.mov (.c (.int .i64 0)))]) (.seq (.seq (.reg [O 7 (.load (some 6) (.r 0)),O 7 (.call F_fq51 [(.r 7),(.r 1)]),O 7 (.un .not (.r 7))]) (.cond (.r 7) fq48.n1 .skip)) fq48.n2))
def fq48.res:List ARes:=[⟨2,none,(some 1)⟩,⟨3,none,none⟩]
def fq48.fn:AFunc:=⟨2,9,fq48.res,fq48.n0⟩
theorem fq48.ra:raFn fq48.fn0 9 [2,3] (.two (.ops [1,3,4]) (.two (.two (.ops [8,0,8,8]) (.join [(1,(.r 1)),(2,(.r 0))] (.two (.ops [3,4]) .nil) .nil)) (.two (.ops [5]) (.two (.ops [8,8,6]) (.two (.two (.ops [7]) (.at [(6,(.r 4))] (.at [(1,(.r 1)),(2,(.r 0)),(6,(.r 4)),(7,(.r 5)),(8,(.r 6))] (.two (.two (.ops [0,0,8,8]) (.join [(1,(.r 1)),(2,(.r 0)),(6,(.r 4)),(7,(.r 5)),(8,(.r 6))] .nil .nil)) (.two (.at [(1,(.r 1)),(2,(.r 0)),(6,(.r 4)),(7,(.r 5)),(8,(.r 6))] (.two (.ops [8,0,0,0,0,9,9,8,6]) (.ops [0,0,8,8,5]))) (.ops [0,8,7])))))) (.two (.ops [0,3,4]) .nil))))))=some fq48.fn:=by kernel_rfl
theorem fq48.ul:((rRes fq48.fn0.results [2,3]).all fun q=>uniB q.2)=true:=by kernel_rfl
noncomputable def fq47.fn0:AFunc:=(compileFn Tryd.prog [] [] [] Tryd.f17).getD ⟨0,0,[],.skip⟩
theorem fq47.ok:compileFn Tryd.prog [] [] [] Tryd.f17=some fq47.fn0:=getD_some (by kernel_rfl)
def fq47.n7:ACode:=(.seq (.reg [O 2 (.mov (.r 4)),O 3 (.mov (.c (.int .i64 0)))]) .ret)
def fq47.n6:ACode:=(.seq (.block 1 (.seq (.reg [O 7 (.load (some 6) (.r 0)),O 8 (.iaddr 1 none (.r 1) (.r 6)),O 8 (.load none (.r 8)),O 7 (.call F_fq55 [(.r 7),(.r 6),(.r 5),(.r 8)]),O 7 (.bin .add (.r 4) (.r 7)),O 4 (.mov (.r 7))]) (.reg [O 7 (.iaddr 1 none (.r 1) (.r 6)),O 7 (.load none (.r 7)),O 5 (.mov (.r 7))]))) (.reg [O 7 (.bin .add (.r 6) (.c (.int .i64 1))),O 6 (.mov (.r 7))]))
def fq47.n5:ACode:=(.exit 0)
def fq47.n4:ACode:=(.seq (.seq (.reg [O 7 (.len false (.r 1)),O 7 (.bin .lss (.r 6) (.r 7))]) (.cond (.r 7) .skip fq47.n5)) fq47.n6)
def fq47.n3:ACode:=(.loop fq47.n4)
def fq47.n2:ACode:=(.seq (.reg [O 4 (.mov (.c (.int .i64 0))),O 5 (.mov (.c (.int .i64 0)))]) (.seq (.seq (.reg [O 6 (.mov (.c (.int .i64 0)))]) (.block 0 fq47.n3)) fq47.n7))
def fq47.n1:ACode:=(.seq (.reg [O 2 (.mov (.c (.int .i64 0))),O 3 (.mov (.c (.int .i64 2)))]) .ret)
def fq47.n0:ACode:=(.seq (.reg [O 0 (.box 6 (.r 0)),O 2 (.mov (.c (.int .i64 0))),O 3 (.mov (.c (.int .i64 0)))]) (.seq (.seq (.reg [O 7 (.load (some 6) (.r 0)),O 7 (.call F_fq51 [(.r 7),(.r 1)]),O 7 (.un .not (.r 7))]) (.cond (.r 7) fq47.n1 .skip)) fq47.n2))
def fq47.res:List ARes:=[⟨2,none,none⟩,⟨3,none,none⟩]
def fq47.fn:AFunc:=⟨2,9,fq47.res,fq47.n0⟩
theorem fq47.ra:raFn fq47.fn0 9 [2,3] (.two (.ops [1,3,4]) (.two (.two (.ops [8,0,8,8]) (.join [(1,(.r 1)),(2,(.r 0))] (.two (.ops [3,4]) .nil) .nil)) (.two (.ops [5,6]) (.two (.two (.ops [7]) (.at [(6,(.r 4))] (.at [(1,(.r 1)),(2,(.r 0)),(6,(.r 4)),(7,(.r 5)),(8,(.r 6))] (.two (.two (.ops [0,0,8,8]) (.join [(1,(.r 1)),(2,(.r 0)),(6,(.r 4)),(7,(.r 5)),(8,(.r 6))] .nil .nil)) (.two (.at [(1,(.r 1)),(2,(.r 0)),(6,(.r 4)),(7,(.r 5)),(8,(.r 6))] (.two (.ops [0,8,0,0,0,0,9,9,8,8,5]) (.ops [0,0,8,8,6]))) (.ops [0,8,7])))))) (.two (.ops [0,3,4]) .nil)))))=some fq47.fn:=by kernel_rfl
theorem fq47.ul:((rRes fq47.fn0.results [2,3]).all fun q=>uniB q.2)=true:=by kernel_rfl
noncomputable def fq3.fn0:AFunc:=(compileFn Tryd.prog [5] [] [some 1] Tryd.f18).getD ⟨0,0,[],.skip⟩
theorem fq3.ok:compileFn Tryd.prog [5] [] [some 1] Tryd.f18=some fq3.fn0:=getD_some (by kernel_rfl)
def fq3.n5:ACode:=(.seq (.reg [O 2 (.mov (.r 3))]) .ret)
def fq3.n4:ACode:=(.seq (.block 1 (.reg [O 5 (.iaddr 1 none (.r 0) (.r 4)),O 5 (.load none (.r 5)),O 6 (.minmax false (.c (.int .i64 1000000)) [(.r 1)]),O 6 (.minmax true (.c (.int .i64 0)) [(.r 6)]),O 5 (.bin .sub (.r 5) (.r 6)),O 5 (.minmax true (.c (.int .i64 0)) [(.r 5)]),O 5 (.lit 1 [(.int .i64 0)] [(0,(.r 5))] false true),O 5 (.app 1 8 (.r 3) (.r 5)),O 3 (.mov (.r 5))])) (.reg [O 5 (.bin .add (.r 4) (.c (.int .i64 1))),O 4 (.mov (.r 5))]))
def fq3.n3:ACode:=(.exit 0)
def fq3.n2:ACode:=(.seq (.seq (.reg [O 5 (.len false (.r 0)),O 5 (.bin .lss (.r 4) (.r 5))]) (.cond (.r 5) .skip fq3.n3)) fq3.n4)
def fq3.n1:ACode:=(.loop fq3.n2)
def fq3.n0:ACode:=(.seq (.reg [O 2 (.mov (.c (.slice true 0 [])))]) (.seq (.reg [O 3 (.own 1)]) (.seq (.seq (.reg [O 4 (.mov (.c (.int .i64 0)))]) (.block 0 fq3.n1)) fq3.n5)))
def fq3.res:List ARes:=[⟨2,none,(some 1)⟩]
def fq3.fn:AFunc:=⟨2,7,fq3.res,fq3.n0⟩
theorem fq3.ra:raFn fq3.fn0 7 [2] (.two (.ops [3]) (.two (.ops [4]) (.two (.two (.ops [5]) (.at [(5,(.r 3))] (.at [(0,(.r 0)),(1,(.r 1)),(5,(.r 3)),(6,(.r 4))] (.two (.two (.ops [0,0,6,6]) (.join [(0,(.r 0)),(1,(.r 1)),(5,(.r 3)),(6,(.r 4))] .nil .nil)) (.two (.at [(0,(.r 0)),(1,(.r 1)),(5,(.r 3)),(6,(.r 4))] (.ops [0,0,0,6,6,0,7,7,6,6,6,6,4])) (.ops [0,6,5])))))) (.two (.ops [0,3]) .nil))))=some fq3.fn:=by kernel_rfl
theorem fq3.ul:((rRes fq3.fn0.results [2]).all fun q=>uniB q.2)=true:=by kernel_rfl
noncomputable def fq12.fn0:AFunc:=(compileFn Tryd.prog [2] [] [some 2,none,none] Tryd.f19).getD ⟨0,0,[],.skip⟩
theorem fq12.ok:compileFn Tryd.prog [2] [] [some 2,none,none] Tryd.f19=some fq12.fn0:=getD_some (by kernel_rfl)
def fq12.n7:ACode:=(.seq (.reg [O 1 (.mov (.r 1)),O 2 (.mov (.r 2)),O 3 (.mov (.c (.int .i64 0)))]) .ret)
def fq12.n6:ACode:=(.block 1 (.seq (.draw [O 0 (.mov (.r 4)),O 5 (.call F_fq38 [(.r 0)]),O 7 (.load none (.r 6)),O 8 (.mov (.r 4)),O 9 (.look (.mk false [(.int .u64)]) (.agg [(.int .i64 0),(.int .i64 0)]) false (.r 7) (.r 8)),O 10 (.fld 1 none (.r 9)),O 11 (.mov (.r 5)),O 12 (.mov (.r 10))] [(2,0,1),(4,0,1)]) (.seq (.reg [O 0 (.build [(.int .i64 0),(.int .i64 0)] [(0,(1,(.r 11))),(1,(1,(.r 12)))]),O 0 (.lit 2 [(.int .i64 0),(.int .i64 0)] [(0,(.r 0))] false true),O 0 (.app 2 16 (.r 1) (.r 0)),O 1 (.mov (.r 0))]) (.reg [O 0 (.call F_fq39 [(.r 4),(.r 11)]),O 0 (.call F_fq39 [(.r 0),(.r 12)]),O 4 (.mov (.r 0))]))))
def fq12.n5:ACode:=(.exit 0)
def fq12.n4:ACode:=(.seq (.seq (.reg [O 0 (.bin .neq (.r 4) (.c (.int .u64 0)))]) (.cond (.r 0) .skip fq12.n5)) fq12.n6)
def fq12.n3:ACode:=(.loop fq12.n4)
def fq12.n2:ACode:=(.seq (.reg [O 5 (.mkmap (.mk false [(.int .u64)])),O 6 (.build [(.int .i64 0),(.int .i64 0)] []),⟨none,(.mupd (.mk false [(.int .u64)]) (.r 5) (.c (.int .u64 0)) (.r 6)),none⟩,O 6 (.alloc [.nilmap]),⟨none,(.store 1 (.r 6) (.r 5)),none⟩]) (.seq (.reg [O 5 (.alloc [.nilfn])]) (.seq (.reg [O 7 (.mkfn F_fq14 [(.r 6),(.r 5),(.r 0)]),⟨none,(.store 1 (.r 5) (.r 7)),none⟩]) (.seq (.reg [O 0 (.load none (.r 0)),O 0 (.len false (.r 0)),O 0 (.bin .shl (.c (.int .u64 1)) (.r 0)),O 0 (.bin .sub (.r 0) (.c (.int .u64 1))),O 4 (.mov (.r 0))]) (.seq (.reg [O 0 (.load none (.r 5)),O 0 (.callv (.r 0) [(.r 4)]),O 2 (.mov (.r 0))]) (.seq (.block 0 fq12.n3) fq12.n7))))))
def fq12.n1:ACode:=(.seq (.reg [O 1 (.own 2),O 2 (.mov (.c (.int .i64 0))),O 3 (.mov (.c (.int .i64 2)))]) .ret)
def fq12.n0:ACode:=(.seq (.reg [O 0 (.box 1 (.r 0)),O 1 (.own 2),O 2 (.mov (.c (.int .i64 0))),O 3 (.mov (.c (.int .i64 0)))]) (.seq (.seq (.reg [O 5 (.load none (.r 0)),O 5 (.len false (.r 5)),O 5 (.bin .rem (.r 5) (.c (.int .i64 2))),O 5 (.bin .neq (.r 5) (.c (.int .i64 0))),⟨(some 6),(.load none (.r 0)),(some (5,false))⟩,⟨(some 6),(.len false (.r 6)),(some (5,false))⟩,⟨(some 6),(.bin .gtr (.r 6) (.c (.int .i64 16))),(some (5,false))⟩,O 5 (.pick (.r 5) (.c (.bool true)) (.r 6)),⟨(some 6),(.load none (.r 0)),(some (5,false))⟩,⟨(some 6),(.call F_fq58 [(.r 6),(.c (.fn F_fq13 []))]),(some (5,false))⟩,O 5 (.pick (.r 5) (.c (.bool true)) (.r 6))]) (.cond (.r 5) fq12.n1 .skip)) fq12.n2))
def fq12.res:List ARes:=[⟨1,none,(some 2)⟩,⟨2,none,none⟩,⟨3,none,none⟩]
def fq12.fn:AFunc:=⟨1,13,fq12.res,fq12.n0⟩
theorem fq12.ra:raFn fq12.fn0 13 [1,2,3] (.two (.ops [1,2,3,4]) (.two (.two (.ops [6,6,6,6,0,7,7,7,6,0,7,7,6]) (.join [(1,(.r 0)),(2,(.r 1))] (.two (.ops [2,3,4]) .nil) .nil)) (.two (.ops [6,7,1,0,7,1]) (.two (.ops [6]) (.two (.ops [8,1]) (.two (.ops [1,1,1,1,5]) (.two (.ops [1,0,1,3]) (.two (.at [(2,(.r 1)),(3,(.r 2))] (.at [(2,(.r 1)),(3,(.r 2)),(5,(.r 6)),(7,(.r 4))] (.two (.two (.ops [0,1]) (.join [(2,(.r 1)),(3,(.r 2)),(5,(.r 6)),(7,(.r 4))] .nil .nil)) (.at [(2,(.r 1)),(3,(.r 2)),(5,(.r 6)),(7,(.r 4))] (.two (.ops [1,6,8,9,10,11,12,13]) (.two (.ops [0,0,0,1,1,1,2]) (.ops [0,0,1,0,1,5]))))))) (.two (.ops [0,0,2,3,4]) .nil)))))))))=some fq12.fn:=by kernel_rfl
theorem fq12.ul:((rRes fq12.fn0.results [1,2,3]).all fun q=>uniB q.2)=true:=by kernel_rfl
noncomputable def fq50.fn0:AFunc:=(compileFn Tryd.prog [] [] [] Tryd.f21).getD ⟨0,0,[],.skip⟩
theorem fq50.ok:compileFn Tryd.prog [] [] [] Tryd.f21=some fq50.fn0:=getD_some (by kernel_rfl)
def fq50.n9:ACode:=(.seq (.reg [O 2 (.mov (.c (.bool true)))]) .ret)
def fq50.n8:ACode:=(.reg [O 4 (.bin .add (.r 3) (.c (.int .i64 1))),O 3 (.mov (.r 4))])
def fq50.n7:ACode:=(.seq (.reg [O 2 (.mov (.c (.bool false)))]) .ret)
def fq50.n6:ACode:=(.seq (.block 1 (.seq (.reg [O 4 (.iaddr 2 none (.r 0) (.r 3)),O 4 (.load (some 2) (.r 4)),O 5 (.iaddr 2 none (.r 1) (.r 3)),O 5 (.load (some 2) (.r 5)),O 4 (.eqs true (.sh (.mk true [(.int .i64),(.int .i64)])) (.r 4) (.r 5))]) (.cond (.r 4) fq50.n7 .skip))) fq50.n8)
def fq50.n5:ACode:=(.exit 0)
def fq50.n4:ACode:=(.seq (.seq (.reg [O 4 (.len false (.r 0)),O 4 (.bin .lss (.r 3) (.r 4))]) (.cond (.r 4) .skip fq50.n5)) fq50.n6)
def fq50.n3:ACode:=(.loop fq50.n4)
def fq50.n2:ACode:=(.seq (.seq (.reg [O 3 (.mov (.c (.int .i64 0)))]) (.block 0 fq50.n3)) fq50.n9)
def fq50.n1:ACode:=(.seq (.reg [O 2 (.mov (.c (.bool false)))]) .ret)
def fq50.n0:ACode:=(.seq (.reg [O 2 (.mov (.c (.bool false)))]) (.seq (.seq (.reg [O 4 (.len false (.r 0)),O 5 (.len false (.r 1)),O 4 (.bin .neq (.r 4) (.r 5))]) (.cond (.r 4) fq50.n1 .skip)) fq50.n2))
def fq50.res:List ARes:=[⟨2,none,none⟩]
def fq50.fn:AFunc:=⟨2,6,fq50.res,fq50.n0⟩
theorem fq50.ra:raFn fq50.fn0 6 [2] (.two (.ops [3]) (.two (.two (.ops [0,5,0,6,5]) (.join [(0,(.r 0)),(1,(.r 1))] (.two (.ops [3]) .nil) .nil)) (.two (.two (.ops [4]) (.at [] (.at [(0,(.r 0)),(1,(.r 1)),(5,(.r 3))] (.two (.two (.ops [0,0,5,5]) (.join [(0,(.r 0)),(1,(.r 1)),(5,(.r 3))] .nil .nil)) (.two (.at [(0,(.r 0)),(1,(.r 1)),(5,(.r 3))] (.two (.ops [0,0,5,5,0,0,6,6,5]) (.join [(0,(.r 0)),(1,(.r 1)),(5,(.r 3))] (.two (.ops [3]) .nil) .nil))) (.ops [0,5,4])))))) (.two (.ops [3]) .nil))))=some fq50.fn:=by kernel_rfl
theorem fq50.ul:((rRes fq50.fn0.results [2]).all fun q=>uniB q.2)=true:=by kernel_rfl
noncomputable def fq15.fn0:AFunc:=(compileFn Tryd.prog [14] [] [some 1,none] Tryd.f25).getD ⟨0,0,[],.skip⟩
theorem fq15.ok:compileFn Tryd.prog [14] [] [some 1,none] Tryd.f25=some fq15.fn0:=getD_some (by kernel_rfl)
def fq15.n26:ACode:=(.seq (.reg [O 2 (.mov (.r 5)),O 3 (.mov (.c (.int .i64 0)))]) .ret)
def fq15.n25:ACode:=(.reg [O 11 (.bin .add (.r 9) (.c (.int .i64 1))),O 9 (.mov (.r 11))])
def fq15.n24:ACode:=(.reg [O 12 (.call F_fq34 [(.r 6)]),O 12 (.call F_fq37 [(.r 6),(.r 12)]),O 6 (.mov (.r 12))])
def fq15.n23:ACode:=(.seq (.reg [O 11 (.lit 1 [(.int .i64 0)] [(0,(.r 12))] false true),O 11 (.app 1 8 (.r 5) (.r 11)),O 12 (.call F_fq37 [(.r 4),(.r 12)]),O 5 (.mov (.r 11)),O 4 (.mov (.r 12))]) (.exit 7))
def fq15.n22:ACode:=(.seq (.block 8 (.seq (.reg [O 12 (.call F_fq34 [(.r 6)])]) (.seq (.draw [O 13 (.load none (.r 1)),O 14 (.mov (.r 4)),O 15 (.mov (.r 12)),O 16 (.call F_fq37 [(.r 14),(.r 15)]),O 17 (.mov (.r 9)),O 18 (.bin .add (.r 17) (.c (.int .i64 1))),O 19 (.callv (.r 13) [(.r 16),(.r 18)]),O 20 (.mov (.r 9)),O 21 (.mov (.r 12)),O 22 (.iaddr 8 (some 8) (.r 10) (.r 20)),O 23 (.iaddr 1 (some 8) (.r 22) (.r 21)),O 24 (.load none (.r 23)),O 25 (.bin .add (.r 19) (.r 24)),O 26 (.mov (.r 11)),O 27 (.bin .eql (.r 25) (.r 26))] [(0,0,1),(11,0,2)]) (.cond (.r 27) fq15.n23 .skip)))) fq15.n24)
def fq15.n21:ACode:=(.exit 7)
def fq15.n20:ACode:=(.seq (.seq (.reg [O 12 (.bin .neq (.r 6) (.c (.int .u64 0)))]) (.cond (.r 12) .skip fq15.n21)) fq15.n22)
def fq15.n19:ACode:=(.loop fq15.n20)
def fq15.n18:ACode:=(.seq (.block 6 (.seq (.reg []) (.seq (.reg [O 11 (.load none (.r 1)),O 11 (.callv (.r 11) [(.r 4),(.r 9)])]) (.seq (.reg [O 6 (.mov (.r 4))]) (.block 7 fq15.n19))))) fq15.n25)
def fq15.n17:ACode:=(.exit 5)
def fq15.n16:ACode:=(.seq (.reg [O 11 (.bin .lss (.r 9) (.r 0))]) (.seq (.cond (.r 11) .skip fq15.n17) fq15.n18))
def fq15.n15:ACode:=(.loop fq15.n16)
def fq15.n14:ACode:=(.seq (.reg [O 1 (.mkmap (.mk false [(.int .u64)])),O 11 (.alloc [.nilmap]),⟨none,(.store 1 (.r 11) (.r 1)),none⟩]) (.seq (.reg [O 1 (.alloc [.nilfn])]) (.seq (.reg [O 11 (.mkfn F_fq16 [(.r 11),(.r 1),(.r 10)]),⟨none,(.store 1 (.r 1) (.r 11)),none⟩]) (.seq (.reg [O 11 (.bin .shl (.c (.int .u64 1)) (.r 0)),O 11 (.bin .sub (.r 11) (.c (.int .u64 1))),O 4 (.mov (.r 11))]) (.seq (.reg [O 5 (.own 1)]) (.seq (.seq (.reg [O 9 (.mov (.c (.int .i64 0)))]) (.block 5 fq15.n15)) fq15.n26))))))
def fq15.n13:ACode:=(.reg [O 12 (.bin .add (.r 7) (.c (.int .i64 1))),O 7 (.mov (.r 12))])
def fq15.n12:ACode:=(.seq (.block 4 (.seq (.reg [O 14 (.iaddr 1 none (.r 12) (.r 8)),O 14 (.load none (.r 14))]) (.reg [O 15 (.iaddr 8 (some 8) (.r 10) (.r 8)),O 15 (.iaddr 1 (some 8) (.r 15) (.r 14)),O 15 (.load none (.r 15)),O 15 (.bin .add (.r 15) (.c (.int .i64 1))),O 16 (.iaddr 8 (some 8) (.r 10) (.r 8)),O 14 (.iaddr 1 (some 8) (.r 16) (.r 14)),⟨none,(.store 1 (.r 14) (.r 15)),none⟩]))) (.reg [O 14 (.bin .add (.r 8) (.c (.int .i64 1))),O 8 (.mov (.r 14))]))
def fq15.n11:ACode:=(.exit 3)
def fq15.n10:ACode:=(.seq (.reg [O 14 (.bin .lss (.r 8) (.r 13))]) (.seq (.cond (.r 14) .skip fq15.n11) fq15.n12))
def fq15.n9:ACode:=(.loop fq15.n10)
def fq15.n8:ACode:=(.seq (.block 2 (.seq (.reg [O 12 (.iaddr 1 none (.r 1) (.r 7)),O 12 (.load none (.r 12))]) (.seq (.reg [O 13 (.len false (.r 12)),O 8 (.mov (.c (.int .i64 0)))]) (.block 3 fq15.n9)))) fq15.n13)
def fq15.n7:ACode:=(.exit 1)
def fq15.n6:ACode:=(.seq (.reg [O 12 (.bin .lss (.r 7) (.r 11))]) (.seq (.cond (.r 12) .skip fq15.n7) fq15.n8))
def fq15.n5:ACode:=(.loop fq15.n6)
def fq15.n4:ACode:=(.seq (.reg [O 10 (.alloc [(.int .i64 0),(.int .i64 0),(.int .i64 0),(.int .i64 0),(.int .i64 0),(.int .i64 0),(.int .i64 0),(.int .i64 0),(.int .i64 0),(.int .i64 0),(.int .i64 0),(.int .i64 0),(.int .i64 0),(.int .i64 0),(.int .i64 0),(.int .i64 0),(.int .i64 0),(.int .i64 0),(.int .i64 0),(.int .i64 0),(.int .i64 0),(.int .i64 0),(.int .i64 0),(.int .i64 0),(.int .i64 0),(.int .i64 0),(.int .i64 0),(.int .i64 0),(.int .i64 0),(.int .i64 0),(.int .i64 0),(.int .i64 0),(.int .i64 0),(.int .i64 0),(.int .i64 0),(.int .i64 0),(.int .i64 0),(.int .i64 0),(.int .i64 0),(.int .i64 0),(.int .i64 0),(.int .i64 0),(.int .i64 0),(.int .i64 0),(.int .i64 0),(.int .i64 0),(.int .i64 0),(.int .i64 0),(.int .i64 0),(.int .i64 0),(.int .i64 0),(.int .i64 0),(.int .i64 0),(.int .i64 0),(.int .i64 0),(.int .i64 0),(.int .i64 0),(.int .i64 0),(.int .i64 0),(.int .i64 0),(.int .i64 0),(.int .i64 0),(.int .i64 0),(.int .i64 0)])]) (.seq (.seq (.reg [O 11 (.len false (.r 1)),O 7 (.mov (.c (.int .i64 0)))]) (.block 1 fq15.n5)) fq15.n14))
def fq15.n3:ACode:=(.seq (.reg [O 2 (.mov (.c (.slice true 0 []))),O 3 (.mov (.c (.int .i64 6)))]) .ret)
def fq15.n2:ACode:=(.seq (.reg [O 10 (.len false (.r 1)),O 10 (.bin .eql (.r 10) (.c (.int .i64 100)))]) (.cond (.r 10) fq15.n3 .skip))
def fq15.n1:ACode:=(.seq (.reg [O 2 (.mov (.c (.slice true 0 []))),O 3 (.mov (.c (.int .i64 2)))]) .ret)
def fq15.n0:ACode:=(.seq (.reg [O 2 (.mov (.c (.slice true 0 []))),O 3 (.mov (.c (.int .i64 0)))]) (.seq (.block 0 (.seq (.reg [O 10 (.call F_fq7 [(.r 0),(.r 1)]),O 10 (.un .not (.r 10))]) (.cond (.r 10) fq15.n1 fq15.n2))) fq15.n4))
def fq15.res:List ARes:=[⟨2,none,(some 1)⟩,⟨3,none,none⟩]
def fq15.fn:AFunc:=⟨2,28,fq15.res,fq15.n0⟩
theorem fq15.ra:raFn fq15.fn0 28 [2,3] (.two (.ops [3,4]) (.two (.at [(0,(.r 0)),(1,(.r 1))] (.two (.ops [0,0,11,11,0]) (.join [(0,(.r 0)),(1,(.r 1))] (.two (.ops [3,4]) .nil) (.two (.ops [0,11,11,0]) (.join [(0,(.r 0)),(1,(.r 1))] (.two (.ops [3,4]) .nil) .nil))))) (.two (.ops [11]) (.two (.two (.ops [0,12,8]) (.at [(0,(.r 0)),(6,(.r 10))] (.at [(0,(.r 0)),(6,(.r 10)),(28,(.r 1)),(29,(.r 11)),(30,(.r 7))] (.two (.ops [13]) (.two (.join [(0,(.r 0)),(6,(.r 10)),(28,(.r 1)),(29,(.r 11)),(30,(.r 7))] .nil .nil) (.two (.at [(0,(.r 0)),(6,(.r 10)),(28,(.r 1)),(29,(.r 11)),(30,(.r 7))] (.two (.ops [13,13,0]) (.two (.ops [0,14,9]) (.at [(0,(.r 0)),(6,(.r 10)),(28,(.r 1)),(29,(.r 11)),(30,(.r 7))] (.at [(0,(.r 0)),(6,(.r 10)),(28,(.r 1)),(29,(.r 11)),(30,(.r 7)),(34,(.r 12)),(35,(.r 13)),(36,(.r 8))] (.two (.ops [15]) (.two (.join [(0,(.r 0)),(6,(.r 10)),(28,(.r 1)),(29,(.r 11)),(30,(.r 7)),(34,(.r 12)),(35,(.r 13)),(36,(.r 8))] .nil .nil) (.two (.at [(0,(.r 0)),(6,(.r 10)),(28,(.r 1)),(29,(.r 11)),(30,(.r 7)),(34,(.r 12)),(35,(.r 13)),(36,(.r 8))] (.two (.ops [0,15,15,0,0]) (.ops [0,0,16,16,16,16,17,15,1]))) (.ops [15,9]))))))))) (.ops [13,8]))))))) (.two (.ops [2,12,1]) (.two (.ops [2]) (.two (.ops [12,1]) (.two (.ops [0,12,12,5]) (.two (.ops [6]) (.two (.two (.ops [0,10]) (.at [(14,(.r 5))] (.at [(6,(.r 10)),(12,(.r 1)),(13,(.r 4)),(14,(.r 5)),(56,(.r 0)),(57,(.r 9))] (.two (.ops [12]) (.two (.join [(6,(.r 10)),(12,(.r 1)),(13,(.r 4)),(14,(.r 5)),(56,(.r 0)),(57,(.r 9))] .nil .nil) (.two (.at [(6,(.r 10)),(12,(.r 1)),(13,(.r 4)),(14,(.r 5)),(56,(.r 0)),(57,(.r 9))] (.two (.ops [0,0]) (.two (.ops [12,0,0,12,0]) (.two (.ops [0,7]) (.at [(6,(.r 10)),(12,(.r 1)),(13,(.r 4)),(14,(.r 5)),(56,(.r 0)),(57,(.r 9))] (.at [(6,(.r 10)),(12,(.r 1)),(13,(.r 4)),(14,(.r 5)),(15,(.r 9)),(16,(.r 11)),(17,(.r 6)),(56,(.r 0)),(57,(.r 9))] (.two (.two (.ops [0,13]) (.join [(6,(.r 10)),(12,(.r 1)),(13,(.r 4)),(14,(.r 5)),(15,(.r 9)),(16,(.r 11)),(17,(.r 6)),(56,(.r 0)),(57,(.r 9))] .nil .nil)) (.two (.at [(6,(.r 10)),(12,(.r 1)),(13,(.r 4)),(14,(.r 5)),(15,(.r 9)),(16,(.r 11)),(17,(.r 6)),(56,(.r 0)),(57,(.r 9))] (.two (.ops [0,13,0]) (.two (.ops [14,15,16,17,18,19,20,21,22,23,24,25,26,27,28]) (.join [(6,(.r 10)),(12,(.r 1)),(13,(.r 4)),(14,(.r 5)),(15,(.r 9)),(16,(.r 11)),(17,(.r 6)),(56,(.r 0)),(57,(.r 9))] (.two (.ops [0,0,12,12,0,0,13,6,5]) .nil) .nil)))) (.ops [0,0,13,13,7]))))))))) (.ops [12,10]))))))) (.two (.ops [0,3,4]) .nil)))))))))))=some fq15.fn:=by kernel_rfl
theorem fq15.ul:((rRes fq15.fn0.results [2,3]).all fun q=>uniB q.2)=true:=by kernel_rfl
noncomputable def fq7.fn0:AFunc:=(compileFn Tryd.prog [] [] [] Tryd.f27).getD ⟨0,0,[],.skip⟩
theorem fq7.ok:compileFn Tryd.prog [] [] [] Tryd.f27=some fq7.fn0:=getD_some (by kernel_rfl)
def fq7.n2:ACode:=(.seq (.reg [O 0 (.mkfn F_fq8 [(.r 0)]),O 0 (.call F_fq60 [(.r 1),(.r 0)]),O 0 (.un .not (.r 0)),O 2 (.mov (.r 0))]) .ret)
def fq7.n1:ACode:=(.seq (.reg [O 2 (.mov (.c (.bool false)))]) .ret)
def fq7.n0:ACode:=(.seq (.reg [O 0 (.box 1 (.r 0)),O 2 (.mov (.c (.bool false)))]) (.seq (.seq (.reg [O 3 (.load none (.r 0)),O 3 (.call F_fq43 [(.r 3),(.c (.int .i64 1)),(.c (.int .i64 8))]),O 3 (.un .not (.r 3)),⟨(some 4),(.mov (.r 1)),(some (3,false))⟩,⟨(some 4),(.len false (.r 4)),(some (3,false))⟩,⟨(some 4),(.bin .gtr (.r 4) (.c (.int .i64 100))),(some (3,false))⟩,O 3 (.pick (.r 3) (.c (.bool true)) (.r 4))]) (.cond (.r 3) fq7.n1 .skip)) fq7.n2))
def fq7.res:List ARes:=[⟨2,none,none⟩]
def fq7.fn:AFunc:=⟨2,5,fq7.res,fq7.n0⟩
theorem fq7.ra:raFn fq7.fn0 5 [2] (.two (.ops [1,3]) (.two (.two (.ops [4,4,4,0,5,5,5,4]) (.join [(1,(.r 1)),(2,(.r 0))] (.two (.ops [3]) .nil) .nil)) (.two (.ops [0,1,1,1,3]) .nil)))=some fq7.fn:=by kernel_rfl
theorem fq7.ul:((rRes fq7.fn0.results [2]).all fun q=>uniB q.2)=true:=by kernel_rfl
noncomputable def fq11.fn0:AFunc:=(compileFn Tryd.prog [8] [] [some 1,none] Tryd.f31).getD ⟨0,0,[],.skip⟩
theorem fq11.ok:compileFn Tryd.prog [8] [] [some 1,none] Tryd.f31=some fq11.fn0:=getD_some (by kernel_rfl)
def fq11.n7:ACode:=(.seq (.reg [O 2 (.mov (.r 4)),O 3 (.mov (.c (.int .i64 0)))]) .ret)
def fq11.n6:ACode:=(.seq (.block 1 (.seq (.reg [O 7 (.iaddr 1 none (.r 1) (.r 6)),O 7 (.load none (.r 7))]) (.seq (.reg [O 7 (.call F_fq27 [(.r 8),(.r 6),(.r 5),(.r 7)]),O 5 (.mov (.r 7))]) (.reg [O 7 (.lit 1 [(.int .i64 0)] [(0,(.r 5))] false true),O 7 (.app 1 8 (.r 4) (.r 7)),O 4 (.mov (.r 7))])))) (.reg [O 7 (.bin .add (.r 6) (.c (.int .i64 1))),O 6 (.mov (.r 7))]))
def fq11.n5:ACode:=(.exit 0)
def fq11.n4:ACode:=(.seq (.reg [O 7 (.bin .lss (.r 6) (.r 0))]) (.seq (.cond (.r 7) .skip fq11.n5) fq11.n6))
def fq11.n3:ACode:=(.loop fq11.n4)
def fq11.n2:ACode:=(.seq (.reg [O 4 (.own 1)]) (.seq (.reg [O 0 (.off 0 (.r 0)),O 0 (.load none (.r 0)),O 5 (.mov (.r 0))]) (.seq (.seq (.reg [O 0 (.len false (.r 1)),O 6 (.mov (.c (.int .i64 0)))]) (.block 0 fq11.n3)) fq11.n7)))
def fq11.n1:ACode:=(.seq (.reg [O 2 (.mov (.c (.slice true 0 []))),O 3 (.mov (.c (.int .i64 2)))]) .ret)
def fq11.n0:ACode:=(.seq (.reg [O 0 (.box 6 (.r 0)),O 2 (.mov (.c (.slice true 0 []))),O 3 (.mov (.c (.int .i64 0)))]) (.seq (.reg [O 7 (.load (some 6) (.r 0)),O 7 (.call F_fq29 [(.r 7),(.r 1)]),O 8 (.ext 0 (.r 7)),O 7 (.ext 1 (.r 7))]) (.seq (.seq (.reg [O 7 (.un .not (.r 7))]) (.cond (.r 7) fq11.n1 .skip)) fq11.n2)))
def fq11.res:List ARes:=[⟨2,none,(some 1)⟩,⟨3,none,none⟩]
def fq11.fn:AFunc:=⟨2,9,fq11.res,fq11.n0⟩
theorem fq11.ra:raFn fq11.fn0 9 [2,3] (.two (.ops [1,3,4]) (.two (.ops [8,0,8,0,9,8,0,0]) (.two (.two (.ops [0,8]) (.join [(1,(.r 1)),(2,(.r 0)),(6,(.r 8))] (.two (.ops [3,4]) .nil) .nil)) (.two (.ops [5]) (.two (.ops [1,1,6]) (.two (.two (.ops [0,1,7]) (.at [(8,(.r 4))] (.at [(6,(.r 8)),(8,(.r 4)),(9,(.r 5)),(22,(.r 1)),(23,(.r 0)),(24,(.r 6))] (.two (.ops [8]) (.two (.join [(6,(.r 8)),(8,(.r 4)),(9,(.r 5)),(22,(.r 1)),(23,(.r 0)),(24,(.r 6))] .nil .nil) (.two (.at [(6,(.r 8)),(8,(.r 4)),(9,(.r 5)),(22,(.r 1)),(23,(.r 0)),(24,(.r 6))] (.two (.ops [0,8,8,0,0]) (.two (.ops [0,0,0,0,8,6]) (.ops [0,0,8,8,5])))) (.ops [8,7]))))))) (.two (.ops [0,3,4]) .nil)))))))=some fq11.fn:=by kernel_rfl
theorem fq11.ul:((rRes fq11.fn0.results [2,3]).all fun q=>uniB q.2)=true:=by kernel_rfl
noncomputable def fq6.fn0:AFunc:=(compileFn Tryd.prog [] [] [] Tryd.f33).getD ⟨0,0,[],.skip⟩
theorem fq6.ok:compileFn Tryd.prog [] [] [] Tryd.f33=some fq6.fn0:=getD_some (by kernel_rfl)
def fq6.n7:ACode:=(.seq (.reg [O 3 (.off 1 (.r 0)),O 3 (.load none (.r 3)),O 3 (.call F_fq43 [(.r 3),(.c (.int .i64 (-1000000))),(.c (.int .i64 1000000))]),⟨(some 4),(.off 2 (.r 0)),(some (3,true))⟩,⟨(some 4),(.load none (.r 4)),(some (3,true))⟩,⟨(some 5),(.off 1 (.r 0)),(some (3,true))⟩,⟨(some 5),(.load none (.r 5)),(some (3,true))⟩,⟨(some 6),(.off 1 (.r 0)),(some (3,true))⟩,⟨(some 6),(.load none (.r 6)),(some (3,true))⟩,⟨(some 6),(.bin .add (.r 6) (.c (.int .i64 1000))),(some (3,true))⟩,⟨(some 4),(.call F_fq43 [(.r 4),(.r 5),(.r 6)]),(some (3,true))⟩,O 3 (.pick (.r 3) (.r 4) (.c (.bool false))),⟨(some 4),(.off 0 (.r 0)),(some (3,true))⟩,⟨(some 4),(.load none (.r 4)),(some (3,true))⟩,⟨(some 5),(.off 1 (.r 0)),(some (3,true))⟩,⟨(some 5),(.load none (.r 5)),(some (3,true))⟩,⟨(some 6),(.off 2 (.r 0)),(some (3,true))⟩,⟨(some 6),(.load none (.r 6)),(some (3,true))⟩,⟨(some 4),(.call F_fq43 [(.r 4),(.r 5),(.r 6)]),(some (3,true))⟩,O 3 (.pick (.r 3) (.r 4) (.c (.bool false)))]) (.seq (.reg [O 4 (.off 3 (.r 0)),O 4 (.load none (.r 4)),O 4 (.len false (.r 4)),O 5 (.off 4 (.r 0)),O 5 (.load none (.r 5)),O 5 (.len false (.r 5)),O 4 (.bin .eql (.r 4) (.r 5)),⟨(some 5),(.off 3 (.r 0)),(some (4,true))⟩,⟨(some 5),(.load none (.r 5)),(some (4,true))⟩,⟨(some 5),(.len false (.r 5)),(some (4,true))⟩,⟨(some 5),(.bin .leq (.r 5) (.c (.int .i64 48))),(some (4,true))⟩,O 4 (.pick (.r 4) (.r 5) (.c (.bool false))),⟨(some 5),(.off 3 (.r 0)),(some (4,true))⟩,⟨(some 5),(.load none (.r 5)),(some (4,true))⟩,⟨(some 5),(.call F_fq20 [(.r 5)]),(some (4,true))⟩,O 4 (.pick (.r 4) (.r 5) (.c (.bool false))),⟨(some 5),(.off 4 (.r 0)),(some (4,true))⟩,⟨(some 5),(.load none (.r 5)),(some (4,true))⟩,⟨(some 5),(.call F_fq20 [(.r 5)]),(some (4,true))⟩,O 4 (.pick (.r 4) (.r 5) (.c (.bool false)))]) (.seq (.reg [⟨(some 4),(.mov (.r 4)),(some (3,true))⟩,O 3 (.pick (.r 3) (.r 4) (.c (.bool false))),⟨(some 0),(.off 5 (.r 0)),(some (3,true))⟩,⟨(some 0),(.load none (.r 0)),(some (3,true))⟩,⟨(some 0),(.len false (.r 0)),(some (3,true))⟩,⟨(some 0),(.bin .leq (.r 0) (.c (.int .i64 4))),(some (3,true))⟩,O 0 (.pick (.r 3) (.r 0) (.c (.bool false))),O 1 (.mov (.r 0))]) .ret)))
def fq6.n6:ACode:=(.reg [O 5 (.bin .add (.r 2) (.c (.int .i64 1))),O 2 (.mov (.r 5))])
def fq6.n5:ACode:=(.seq (.reg [O 1 (.mov (.c (.bool false)))]) .ret)
def fq6.n4:ACode:=(.seq (.block 1 (.seq (.reg [O 5 (.iaddr 3 none (.r 3) (.r 2)),O 5 (.load (some 3) (.r 5)),O 6 (.alloc [(.int .i64 0),(.int .i64 0),(.int .i64 0)]),⟨none,(.store 3 (.r 6) (.r 5)),none⟩]) (.seq (.reg [O 5 (.off 0 (.r 6)),O 5 (.load none (.r 5)),O 7 (.off 1 (.r 6)),O 7 (.load none (.r 7)),O 6 (.off 2 (.r 6)),O 6 (.load none (.r 6)),O 5 (.lit 1 [(.int .i64 0),(.int .i64 0),(.int .i64 0)] [(0,(.r 5)),(1,(.r 7)),(2,(.r 6))] false true),O 5 (.call F_fq20 [(.r 5)]),O 5 (.un .not (.r 5))]) (.cond (.r 5) fq6.n5 .skip)))) fq6.n6)
def fq6.n3:ACode:=(.exit 0)
def fq6.n2:ACode:=(.seq (.reg [O 5 (.bin .lss (.r 2) (.r 4))]) (.seq (.cond (.r 5) .skip fq6.n3) fq6.n4))
def fq6.n1:ACode:=(.loop fq6.n2)
def fq6.n0:ACode:=(.seq (.reg [O 0 (.box 6 (.r 0)),O 1 (.mov (.c (.bool false)))]) (.seq (.seq (.reg [O 3 (.off 5 (.r 0)),O 3 (.load none (.r 3)),O 4 (.len false (.r 3)),O 2 (.mov (.c (.int .i64 0)))]) (.block 0 fq6.n1)) fq6.n7))
def fq6.res:List ARes:=[⟨1,none,none⟩]
def fq6.fn:AFunc:=⟨1,8,fq6.res,fq6.n0⟩
theorem fq6.ra:raFn fq6.fn0 8 [1] (.two (.ops [1,2]) (.two (.two (.ops [4,4,5,3]) (.at [(1,(.r 0))] (.at [(1,(.r 0)),(8,(.r 3)),(9,(.r 4)),(10,(.r 2))] (.two (.ops [6]) (.two (.join [(1,(.r 0)),(8,(.r 3)),(9,(.r 4)),(10,(.r 2))] .nil .nil) (.two (.at [(1,(.r 0)),(8,(.r 3)),(9,(.r 4)),(10,(.r 2))] (.two (.ops [6,6,7,1]) (.two (.ops [6,6,8,8,7,7,6,6,6]) (.join [(1,(.r 0)),(8,(.r 3)),(9,(.r 4)),(10,(.r 2))] (.two (.ops [2]) .nil) .nil)))) (.ops [6,3]))))))) (.two (.ops [4,4,4,0,5,5,6,6,7,7,7,5,4,0,5,5,6,6,7,7,5,4,0]) (.two (.ops [5,5,5,6,6,6,5,0,6,6,6,6,5,0,6,6,6,5,0,6,6,6,5,0]) (.two (.ops [0,0,5,4,0,1,1,1,1,1,2]) .nil)))))=some fq6.fn:=by kernel_rfl
theorem fq6.ul:((rRes fq6.fn0.results [1]).all fun q=>uniB q.2)=true:=by kernel_rfl
noncomputable def fq17.fn0:AFunc:=(compileFn Tryd.prog [] [] [some 1,none] Tryd.f34).getD ⟨0,0,[],.skip⟩
theorem fq17.ok:compileFn Tryd.prog [] [] [some 1,none] Tryd.f34=some fq17.fn0:=getD_some (by kernel_rfl)
def fq17.n20:ACode:=(.seq (.reg [O 66 (.load none (.r 7)),⟨none,(.store 1 (.r 4) (.r 66)),none⟩,⟨none,(.store 1 (.r 5) (.c (.int .i64 0))),none⟩]) .ret)
def fq17.n19:ACode:=(.seq (.reg [⟨none,(.store 1 (.r 4) (.c (.slice true 0 []))),none⟩,⟨none,(.store 1 (.r 5) (.c (.int .i64 7))),none⟩]) .ret)
def fq17.n18:ACode:=(.seq (.seq (.reg [O 62 (.off 0 (.r 8)),O 63 (.load none (.r 62)),O 64 (.len false (.r 63)),O 65 (.bin .gtr (.r 64) (.c (.int .i64 0)))]) (.cond (.r 65) fq17.n19 .skip)) fq17.n20)
def fq17.n17:ACode:=(.reg [O 48 (.mov (.r 13)),O 49 (.bin .add (.r 48) (.c (.int .i64 1))),O 13 (.mov (.r 49))])
def fq17.n16:ACode:=(.reg [O 58 (.load none (.r 7)),O 59 (.mov (.r 14)),O 60 (.mov (.r 9)),O 61 (.iaddr 1 none (.r 58) (.r 59)),⟨none,(.store 1 (.r 61) (.r 60)),none⟩])
def fq17.n15:ACode:=(.seq (.reg [⟨none,(.store 1 (.r 4) (.c (.slice true 0 []))),none⟩,⟨none,(.store 1 (.r 5) (.c (.int .i64 7))),none⟩]) .ret)
def fq17.n14:ACode:=(.seq (.block 5 (.seq (.reg [O 50 (.call F_fq23 [(.r 8)]),O 14 (.mov (.r 50))]) (.seq (.seq (.reg [O 51 (.load none (.r 2)),O 52 (.mov (.r 14)),O 53 (.iaddr 3 none (.r 51) (.r 52)),O 54 (.off 2 (.r 53)),O 55 (.load none (.r 54)),O 56 (.mov (.r 9)),O 57 (.bin .leq (.r 55) (.r 56))]) (.cond (.r 57) fq17.n15 .skip)) fq17.n16))) fq17.n17)
def fq17.n13:ACode:=(.exit 4)
def fq17.n12:ACode:=(.seq (.seq (.reg [O 39 (.mov (.r 13)),O 40 (.load none (.r 3)),O 41 (.bin .lss (.r 39) (.r 40)),O 42 (.mov (.r 41)),⟨(some 43),(.off 0 (.r 8)),(some (42,true))⟩,⟨(some 44),(.load none (.r 43)),(some (42,true))⟩,⟨(some 45),(.len false (.r 44)),(some (42,true))⟩,⟨(some 46),(.bin .gtr (.r 45) (.c (.int .i64 0))),(some (42,true))⟩,O 47 (.pick (.r 42) (.r 46) (.c (.bool false)))]) (.cond (.r 47) .skip fq17.n13)) fq17.n14)
def fq17.n11:ACode:=(.loop fq17.n12)
def fq17.n10:ACode:=(.seq (.reg [O 13 (.mov (.c (.int .i64 0)))]) (.block 4 fq17.n11))
def fq17.n9:ACode:=(.seq (.block 3 (.seq (.reg [O 34 (.iaddr 1 none (.r 30) (.r 32)),O 35 (.load none (.r 34)),O 12 (.mov (.r 35))]) (.reg [O 36 (.mov (.r 12)),O 37 (.call F_fq22 [(.r 8),(.r 36)])]))) (.reg [O 38 (.bin .add (.r 32) (.c (.int .i64 1))),O 32 (.mov (.r 38))]))
def fq17.n8:ACode:=(.exit 2)
def fq17.n7:ACode:=(.seq (.reg [O 33 (.bin .lss (.r 32) (.r 31))]) (.seq (.cond (.r 33) .skip fq17.n8) fq17.n9))
def fq17.n6:ACode:=(.loop fq17.n7)
def fq17.n5:ACode:=(.block 1 (.seq (.seq (.reg [O 30 (.mov (.r 10)),O 31 (.len false (.r 30)),O 32 (.mov (.c (.int .i64 0)))]) (.block 2 fq17.n6)) fq17.n10))
def fq17.n4:ACode:=(.seq (.reg [O 9 (.mov (.r 28))]) (.reg [O 10 (.mov (.r 29))]))
def fq17.n3:ACode:=(.rangeF (.r 27) [28,29] fq17.n4 fq17.n5)
def fq17.n2:ACode:=(.seq (.reg [O 21 (.load none (.r 2)),O 22 (.len false (.r 21)),O 23 (.mksl 1 8 [(.int .i64 0)] (.r 22) (.r 22)),O 7 (.alloc [(.slice true 0 [])]),⟨none,(.store 1 (.r 7) (.r 23)),none⟩]) (.seq (.reg [O 24 (.mkfn F_fq18 [(.r 2)]),O 25 (.build [(.slice true 0 []),.nilfn] [(1,(1,(.r 24)))]),O 8 (.alloc [(.slice true 0 []),.nilfn]),⟨none,(.store 2 (.r 8) (.r 25)),none⟩]) (.seq (.seq (.reg [O 26 (.load none (.r 2)),O 27 (.call F_fq41 [(.r 26)])]) (.block 0 fq17.n3)) fq17.n18)))
def fq17.n1:ACode:=(.seq (.reg [O 20 (.mov (.r 6)),⟨none,(.store 1 (.r 4) (.c (.slice true 0 []))),none⟩,⟨none,(.store 1 (.r 5) (.r 20)),none⟩]) .ret)
def fq17.n0:ACode:=(.seq (.reg [O 2 (.box 1 (.r 0)),O 3 (.box 1 (.r 1)),O 4 (.alloc [(.slice true 0 [])]),O 5 (.alloc [(.int .i64 0)])]) (.seq (.seq (.reg [O 15 (.load none (.r 2)),O 16 (.load none (.r 3)),O 17 (.call F_fq19 [(.r 15),(.r 16)]),O 6 (.mov (.r 17))]) (.seq (.reg [O 18 (.mov (.r 6)),O 19 (.bin .neq (.r 18) (.c (.int .i64 0)))]) (.cond (.r 19) fq17.n1 .skip))) fq17.n2))
def fq17.res:List ARes:=[⟨4,(some none),(some 1)⟩,⟨5,(some none),none⟩]
def fq17.fn:AFunc:=⟨2,67,fq17.res,fq17.n0⟩
theorem fq17.same:fq17.fn0=fq17.fn:=by kernel_rfl
noncomputable def fq10.fn0:AFunc:=(compileFn Tryd.prog [] [] [] Tryd.f35).getD ⟨0,0,[],.skip⟩
theorem fq10.ok:compileFn Tryd.prog [] [] [] Tryd.f35=some fq10.fn0:=getD_some (by kernel_rfl)
def fq10.n21:ACode:=(.seq (.reg [O 2 (.mov (.c (.int .i64 0))),O 3 (.mov (.c (.int .i64 0))),O 4 (.mov (.c (.int .i64 7)))]) .ret)
def fq10.n20:ACode:=(.reg [O 9 (.bin .add (.r 7) (.c (.int .i64 1))),O 7 (.mov (.r 9))])
def fq10.n19:ACode:=(.reg [O 10 (.bin .add (.r 6) (.c (.int .i64 1))),O 6 (.mov (.r 10))])
def fq10.n18:ACode:=(.seq (.reg [O 2 (.mov (.r 7)),O 3 (.mov (.r 6)),O 4 (.mov (.c (.int .i64 0)))]) .ret)
def fq10.n17:ACode:=(.seq (.block 5 (.seq (.reg [O 10 (.iaddr 1 (some 501) (.r 9) (.r 6)),O 10 (.load none (.r 10)),O 10 (.bin .add (.r 5) (.r 10)),O 5 (.mov (.r 10))]) (.seq (.reg [O 10 (.bin .sub (.r 6) (.r 7)),O 10 (.bin .mul (.r 10) (.r 1)),O 10 (.bin .gtr (.r 5) (.r 10))]) (.cond (.r 10) fq10.n18 .skip)))) fq10.n19)
def fq10.n16:ACode:=(.exit 4)
def fq10.n15:ACode:=(.seq (.seq (.reg [O 10 (.bin .leq (.r 6) (.c (.int .i64 500)))]) (.cond (.r 10) .skip fq10.n16)) fq10.n17)
def fq10.n14:ACode:=(.loop fq10.n15)
def fq10.n13:ACode:=(.seq (.reg [O 5 (.mov (.c (.int .i64 0)))]) (.seq (.reg [O 10 (.bin .add (.r 7) (.c (.int .i64 1))),O 6 (.mov (.r 10))]) (.block 4 fq10.n14)))
def fq10.n12:ACode:=(.reg [O 11 (.bin .add (.r 8) (.c (.int .i64 1))),O 8 (.mov (.r 11))])
def fq10.n11:ACode:=(.reg [O 11 (.off 2 (.r 12)),O 11 (.load none (.r 11)),O 12 (.iaddr 1 (some 501) (.r 9) (.r 11)),O 12 (.load none (.r 12)),O 12 (.bin .add (.r 12) (.c (.int .i64 1))),O 11 (.iaddr 1 (some 501) (.r 9) (.r 11)),⟨none,(.store 1 (.r 11) (.r 12)),none⟩])
def fq10.n10:ACode:=(.seq (.block 3 (.seq (.reg [O 11 (.iaddr 3 none (.r 0) (.r 8)),O 11 (.load (some 3) (.r 11)),O 12 (.alloc [(.int .i64 0),(.int .i64 0),(.int .i64 0)]),⟨none,(.store 3 (.r 12) (.r 11)),none⟩]) (.seq (.reg [O 11 (.off 1 (.r 12)),O 11 (.load none (.r 11)),O 11 (.bin .geq (.r 11) (.r 7))]) (.cond (.r 11) fq10.n11 .skip)))) fq10.n12)
def fq10.n9:ACode:=(.exit 2)
def fq10.n8:ACode:=(.seq (.reg [O 11 (.bin .lss (.r 8) (.r 10))]) (.seq (.cond (.r 11) .skip fq10.n9) fq10.n10))
def fq10.n7:ACode:=(.loop fq10.n8)
def fq10.n6:ACode:=(.seq (.block 1 (.seq (.reg []) (.seq (.reg [O 9 (.alloc [(.int .i64 0),(.int .i64 0),(.int .i64 0),(.int .i64 0),(.int .i64 0),(.int .i64 0),(.int .i64 0),(.int .i64 0),(.int .i64 0),(.int .i64 0),(.int .i64 0),(.int .i64 0),(.int .i64 0),(.int .i64 0),(.int .i64 0),(.int .i64 0),(.int .i64 0),(.int .i64 0),(.int .i64 0),(.int .i64 0),(.int .i64 0),(.int .i64 0),(.int .i64 0),(.int .i64 0),(.int .i64 0),(.int .i64 0),(.int .i64 0),(.int .i64 0),(.int .i64 0),(.int .i64 0),(.int .i64 0),(.int .i64 0),(.int .i64 0),(.int .i64 0),(.int .i64 0),(.int .i64 0),(.int .i64 0),(.int .i64 0),(.int .i64 0),(.int .i64 0),(.int .i64 0),(.int .i64 0),(.int .i64 0),(.int .i64 0),(.int .i64 0),(.int .i64 0),(.int .i64 0),(.int .i64 0),(.int .i64 0),(.int .i64 0),(.int .i64 0),(.int .i64 0),(.int .i64 0),(.int .i64 0),(.int .i64 0),(.int .i64 0),(.int .i64 0),(.int .i64 0),(.int .i64 0),(.int .i64 0),(.int .i64 0),(.int .i64 0),(.int .i64 0),(.int .i64 0),(.int .i64 0),(.int .i64 0),(.int .i64 0),(.int .i64 0),(.int .i64 0),(.int .i64 0),(.int .i64 0),(.int .i64 0),(.int .i64 0),(.int .i64 0),(.int .i64 0),(.int .i64 0),(.int .i64 0),(.int .i64 0),(.int .i64 0),(.int .i64 0),(.int .i64 0),(.int .i64 0),(.int .i64 0),(.int .i64 0),(.int .i64 0),(.int .i64 0),(.int .i64 0),(.int .i64 0),(.int .i64 0),(.int .i64 0),(.int .i64 0),(.int .i64 0),(.int .i64 0),(.int .i64 0),(.int .i64 0),(.int .i64 0),(.int .i64 0),(.int .i64 0),(.int .i64 0),(.int .i64 0),(.int .i64 0),(.int .i64 0),(.int .i64 0),(.int .i64 0),(.int .i64 0),(.int .i64 0),(.int .i64 0),(.int .i64 0),(.int .i64 0),(.int .i64 0),(.int .i64 0),(.int .i64 0),(.int .i64 0),(.int .i64 0),(.int .i64 0),(.int .i64 0),(.int .i64 0),(.int .i64 0),(.int .i64 0),(.int .i64 0),(.int .i64 0),(.int .i64 0),(.int .i64 0),(.int .i64 0),(.int .i64 0),(.int .i64 0),(.int .i64 0),(.int .i64 0),(.int .i64 0),(.int .i64 0),(.int .i64 0),(.int .i64 0),(.int .i64 0),(.int .i64 0),(.int .i64 0),(.int .i64 0),(.int .i64 0),(.int .i64 0),(.int .i64 0),(.int .i64 0),(.int .i64 0),(.int .i64 0),(.int .i64 0),(.int .i64 0),(.int .i64 0),(.int .i64 0),(.int .i64 0),(.int .i64 0),(.int .i64 0),(.int .i64 0),(.int .i64 0),(.int .i64 0),(.int .i64 0),(.int .i64 0),(.int .i64 0),(.int .i64 0),(.int .i64 0),(.int .i64 0),(.int .i64 0),(.int .i64 0),(.int .i64 0),(.int .i64 0),(.int .i64 0),(.int .i64 0),(.int .i64 0),(.int .i64 0),(.int .i64 0),(.int .i64 0),(.int .i64 0),(.int .i64 0),(.int .i64 0),(.int .i64 0),(.int .i64 0),(.int .i64 0),(.int .i64 0),(.int .i64 0),(.int .i64 0),(.int .i64 0),(.int .i64 0),(.int .i64 0),(.int .i64 0),(.int .i64 0),(.int .i64 0),(.int .i64 0),(.int .i64 0),(.int .i64 0),(.int .i64 0),(.int .i64 0),(.int .i64 0),(.int .i64 0),(.int .i64 0),(.int .i64 0),(.int .i64 0),(.int .i64 0),(.int .i64 0),(.int .i64 0),(.int .i64 0),(.int .i64 0),(.int .i64 0),(.int .i64 0),(.int .i64 0),(.int .i64 0),(.int .i64 0),(.int .i64 0),(.int .i64 0),(.int .i64 0),(.int .i64 0),(.int .i64 0),(.int .i64 0),(.int .i64 0),(.int .i64 0),(.int .i64 0),(.int .i64 0),(.int .i64 0),(.int .i64 0),(.int .i64 0),(.int .i64 0),(.int .i64 0),(.int .i64 0),(.int .i64 0),(.int .i64 0),(.int .i64 0),(.int .i64 0),(.int .i64 0),(.int .i64 0),(.int .i64 0),(.int .i64 0),(.int .i64 0),(.int .i64 0),(.int .i64 0),(.int .i64 0),(.int .i64 0),(.int .i64 0),(.int .i64 0),(.int .i64 0),(.int .i64 0),(.int .i64 0),(.int .i64 0),(.int .i64 0),(.int .i64 0),(.int .i64 0),(.int .i64 0),(.int .i64 0),(.int .i64 0),(.int .i64 0),(.int .i64 0),(.int .i64 0),(.int .i64 0),(.int .i64 0),(.int .i64 0),(.int .i64 0),(.int .i64 0),(.int .i64 0),(.int .i64 0),(.int .i64 0),(.int .i64 0),(.int .i64 0),(.int .i64 0),(.int .i64 0),(.int .i64 0),(.int .i64 0),(.int .i64 0),(.int .i64 0),(.int .i64 0),(.int .i64 0),(.int .i64 0),(.int .i64 0),(.int .i64 0),(.int .i64 0),(.int .i64 0),(.int .i64 0),(.int .i64 0),(.int .i64 0),(.int .i64 0),(.int .i64 0),(.int .i64 0),(.int .i64 0),(.int .i64 0),(.int .i64 0),(.int .i64 0),(.int .i64 0),(.int .i64 0),(.int .i64 0),(.int .i64 0),(.int .i64 0),(.int .i64 0),(.int .i64 0),(.int .i64 0),(.int .i64 0),(.int .i64 0),(.int .i64 0),(.int .i64 0),(.int .i64 0),(.int .i64 0),(.int .i64 0),(.int .i64 0),(.int .i64 0),(.int .i64 0),(.int .i64 0),(.int .i64 0),(.int .i64 0),(.int .i64 0),(.int .i64 0),(.int .i64 0),(.int .i64 0),(.int .i64 0),(.int .i64 0),(.int .i64 0),(.int .i64 0),(.int .i64 0),(.int .i64 0),(.int .i64 0),(.int .i64 0),(.int .i64 0),(.int .i64 0),(.int .i64 0),(.int .i64 0),(.int .i64 0),(.int .i64 0),(.int .i64 0),(.int .i64 0),(.int .i64 0),(.int .i64 0),(.int .i64 0),(.int .i64 0),(.int .i64 0),(.int .i64 0),(.int .i64 0),(.int .i64 0),(.int .i64 0),(.int .i64 0),(.int .i64 0),(.int .i64 0),(.int .i64 0),(.int .i64 0),(.int .i64 0),(.int .i64 0),(.int .i64 0),(.int .i64 0),(.int .i64 0),(.int .i64 0),(.int .i64 0),(.int .i64 0),(.int .i64 0),(.int .i64 0),(.int .i64 0),(.int .i64 0),(.int .i64 0),(.int .i64 0),(.int .i64 0),(.int .i64 0),(.int .i64 0),(.int .i64 0),(.int .i64 0),(.int .i64 0),(.int .i64 0),(.int .i64 0),(.int .i64 0),(.int .i64 0),(.int .i64 0),(.int .i64 0),(.int .i64 0),(.int .i64 0),(.int .i64 0),(.int .i64 0),(.int .i64 0),(.int .i64 0),(.int .i64 0),(.int .i64 0),(.int .i64 0),(.int .i64 0),(.int .i64 0),(.int .i64 0),(.int .i64 0),(.int .i64 0),(.int .i64 0),(.int .i64 0),(.int .i64 0),(.int .i64 0),(.int .i64 0),(.int .i64 0),(.int .i64 0),(.int .i64 0),(.int .i64 0),(.int .i64 0),(.int .i64 0),(.int .i64 0),(.int .i64 0),(.int .i64 0),(.int .i64 0),(.int .i64 0),(.int .i64 0),(.int .i64 0),(.int .i64 0),(.int .i64 0),(.int .i64 0),(.int .i64 0),(.int .i64 0),(.int .i64 0),(.int .i64 0),(.int .i64 0),(.int .i64 0),(.int .i64 0),(.int .i64 0),(.int .i64 0),(.int .i64 0),(.int .i64 0),(.int .i64 0),(.int .i64 0),(.int .i64 0),(.int .i64 0),(.int .i64 0),(.int .i64 0),(.int .i64 0),(.int .i64 0),(.int .i64 0),(.int .i64 0),(.int .i64 0),(.int .i64 0),(.int .i64 0),(.int .i64 0),(.int .i64 0),(.int .i64 0),(.int .i64 0),(.int .i64 0),(.int .i64 0),(.int .i64 0),(.int .i64 0),(.int .i64 0),(.int .i64 0),(.int .i64 0),(.int .i64 0),(.int .i64 0),(.int .i64 0),(.int .i64 0),(.int .i64 0),(.int .i64 0),(.int .i64 0),(.int .i64 0),(.int .i64 0),(.int .i64 0),(.int .i64 0),(.int .i64 0),(.int .i64 0),(.int .i64 0),(.int .i64 0),(.int .i64 0),(.int .i64 0),(.int .i64 0),(.int .i64 0),(.int .i64 0),(.int .i64 0),(.int .i64 0),(.int .i64 0),(.int .i64 0),(.int .i64 0),(.int .i64 0),(.int .i64 0),(.int .i64 0),(.int .i64 0),(.int .i64 0),(.int .i64 0),(.int .i64 0),(.int .i64 0),(.int .i64 0),(.int .i64 0),(.int .i64 0),(.int .i64 0),(.int .i64 0),(.int .i64 0),(.int .i64 0),(.int .i64 0),(.int .i64 0),(.int .i64 0),(.int .i64 0),(.int .i64 0),(.int .i64 0),(.int .i64 0),(.int .i64 0),(.int .i64 0),(.int .i64 0),(.int .i64 0),(.int .i64 0),(.int .i64 0),(.int .i64 0),(.int .i64 0),(.int .i64 0),(.int .i64 0),(.int .i64 0),(.int .i64 0),(.int .i64 0),(.int .i64 0),(.int .i64 0),(.int .i64 0),(.int .i64 0),(.int .i64 0),(.int .i64 0),(.int .i64 0),(.int .i64 0),(.int .i64 0),(.int .i64 0)])]) (.seq (.seq (.reg [O 10 (.len false (.r 0)),O 8 (.mov (.c (.int .i64 0)))]) (.block 2 fq10.n7)) fq10.n13)))) fq10.n20)
def fq10.n5:ACode:=(.exit 0)
def fq10.n4:ACode:=(.seq (.reg [O 9 (.bin .lss (.r 7) (.c (.int .i64 500)))]) (.seq (.cond (.r 9) .skip fq10.n5) fq10.n6))
def fq10.n3:ACode:=(.loop fq10.n4)
def fq10.n2:ACode:=(.seq (.seq (.reg [O 7 (.mov (.c (.int .i64 0)))]) (.block 0 fq10.n3)) fq10.n21)
def fq10.n1:ACode:=(.seq (.reg [O 2 (.mov (.c (.int .i64 0))),O 3 (.mov (.c (.int .i64 0))),O 4 (.mov (.r 9))]) .ret)
def fq10.n0:ACode:=(.seq (.reg [O 2 (.mov (.c (.int .i64 0))),O 3 (.mov (.c (.int .i64 0))),O 4 (.mov (.c (.int .i64 0)))]) (.seq (.seq (.reg [O 9 (.call F_fq19 [(.r 0),(.r 1)])]) (.seq (.reg [O 10 (.bin .neq (.r 9) (.c (.int .i64 0)))]) (.cond (.r 10) fq10.n1 .skip))) fq10.n2))
def fq10.res:List ARes:=[⟨2,none,none⟩,⟨3,none,none⟩,⟨4,none,none⟩]
def fq10.fn:AFunc:=⟨2,13,fq10.res,fq10.n0⟩
theorem fq10.ra:raFn fq10.fn0 13 [2,3,4] (.two (.ops [3,4,5]) (.two (.two (.ops [0,0,10,0]) (.two (.ops [0,11]) (.join [(0,(.r 0)),(1,(.r 1))] (.two (.ops [0,3,4,5]) .nil) .nil))) (.two (.two (.ops [8]) (.at [] (.at [(0,(.r 0)),(1,(.r 1)),(20,(.r 7))] (.two (.ops [10]) (.two (.join [(0,(.r 0)),(1,(.r 1)),(20,(.r 7))] .nil .nil) (.two (.at [(0,(.r 0)),(1,(.r 1)),(20,(.r 7))] (.two (.ops [0,0]) (.two (.ops [10]) (.two (.two (.ops [0,11,9]) (.at [(0,(.r 0)),(1,(.r 1)),(8,(.r 7)),(9,(.r 9)),(20,(.r 7))] (.at [(0,(.r 0)),(1,(.r 1)),(8,(.r 7)),(9,(.r 9)),(20,(.r 7)),(23,(.r 0)),(24,(.r 10)),(25,(.r 8))] (.two (.ops [12]) (.two (.join [(0,(.r 0)),(1,(.r 1)),(8,(.r 7)),(9,(.r 9)),(20,(.r 7)),(23,(.r 0)),(24,(.r 10)),(25,(.r 8))] .nil .nil) (.two (.at [(0,(.r 0)),(1,(.r 1)),(8,(.r 7)),(9,(.r 9)),(20,(.r 7)),(23,(.r 0)),(24,(.r 10)),(25,(.r 8))] (.two (.ops [12,12,13,1]) (.two (.ops [12,12,0,12]) (.join [(0,(.r 0)),(1,(.r 1)),(8,(.r 7)),(9,(.r 9)),(20,(.r 7)),(23,(.r 0)),(24,(.r 10)),(25,(.r 8))] (.ops [12,12,13,13,13,12,1]) .nil)))) (.ops [12,9]))))))) (.two (.ops [6]) (.two (.ops [0,11,7]) (.at [(0,(.r 0)),(1,(.r 1)),(20,(.r 7))] (.at [(0,(.r 0)),(1,(.r 1)),(8,(.r 7)),(9,(.r 9)),(12,(.r 5)),(13,(.r 6)),(20,(.r 7))] (.two (.two (.ops [0,11]) (.join [(0,(.r 0)),(1,(.r 1)),(8,(.r 7)),(9,(.r 9)),(12,(.r 5)),(13,(.r 6)),(20,(.r 7))] .nil .nil)) (.two (.at [(0,(.r 0)),(1,(.r 1)),(8,(.r 7)),(9,(.r 9)),(12,(.r 5)),(13,(.r 6)),(20,(.r 7))] (.two (.ops [0,0,11,11,11,6]) (.two (.ops [0,0,0,11,0,11,11]) (.join [(0,(.r 0)),(1,(.r 1)),(8,(.r 7)),(9,(.r 9)),(12,(.r 5)),(13,(.r 6)),(20,(.r 7))] (.two (.ops [0,0,3,4,5]) .nil) .nil)))) (.ops [0,11,7]))))))))))) (.ops [10,8]))))))) (.two (.ops [3,4,5]) .nil))))=some fq10.fn:=by kernel_rfl
theorem fq10.ul:((rRes fq10.fn0.results [2,3,4]).all fun q=>uniB q.2)=true:=by kernel_rfl
noncomputable def fq24.fn0:AFunc:=(compileFn Tryd.prog [] [] [] Tryd.f36).getD ⟨0,0,[],.skip⟩
theorem fq24.ok:compileFn Tryd.prog [] [] [] Tryd.f36=some fq24.fn0:=getD_some (by kernel_rfl)
def fq24.n15:ACode:=(.seq (.reg [O 1 (.mov (.r 7)),O 2 (.mov (.c (.bool true)))]) .ret)
def fq24.n14:ACode:=(.reg [O 9 (.bin .add (.r 5) (.c (.int .u64 1))),O 5 (.mov (.r 9))])
def fq24.n13:ACode:=(.draw [O 9 (.mov (.r 7)),O 10 (.mov (.r 7)),O 11 (.mov (.r 7)),O 12 (.chk (.r 11)),O 13 (.off 6 (.r 12)),O 14 (.load none (.r 13)),O 15 (.mov (.r 3)),O 16 (.lit 1 [(.int .i64 0)] [(0,(.r 15))] false false),O 17 (.app 1 8 (.r 14) (.r 16)),O 18 (.mov (.r 7)),O 19 (.chk (.r 18)),O 20 (.off 7 (.r 19)),O 21 (.load none (.r 20)),O 22 (.mov (.r 4)),O 23 (.lit 1 [(.int .i64 0)] [(0,(.r 22))] false false),O 24 (.app 1 8 (.r 21) (.r 23)),O 25 (.chk (.r 9)),O 26 (.off 6 (.r 25)),⟨none,(.store 1 (.r 26) (.r 17)),none⟩,O 27 (.chk (.r 10)),O 28 (.off 7 (.r 27)),⟨none,(.store 1 (.r 28) (.r 24)),none⟩] [(12,0,1)])
def fq24.n12:ACode:=(.reg [O 11 (.bin .add (.r 6) (.c (.int .i64 1))),O 6 (.mov (.r 11))])
def fq24.n11:ACode:=(.reg [O 11 (.off 0 (.r 12)),O 11 (.load none (.r 11)),O 11 (.bin .add (.r 3) (.r 11)),O 12 (.off 1 (.r 12)),O 12 (.load none (.r 12)),O 12 (.bin .add (.r 4) (.r 12)),O 3 (.mov (.r 11)),O 4 (.mov (.r 12))])
def fq24.n10:ACode:=(.seq (.block 3 (.seq (.reg [O 11 (.iaddr 3 none (.r 9) (.r 6)),O 11 (.load (some 3) (.r 11)),O 12 (.alloc [(.int .i64 0),(.int .i64 0),(.int .i64 0)]),⟨none,(.store 3 (.r 12) (.r 11)),none⟩]) (.seq (.reg [O 11 (.call F_fq32 [(.r 5),(.r 6)])]) (.cond (.r 11) fq24.n11 .skip)))) fq24.n12)
def fq24.n9:ACode:=(.exit 2)
def fq24.n8:ACode:=(.seq (.reg [O 11 (.bin .lss (.r 6) (.r 10))]) (.seq (.cond (.r 11) .skip fq24.n9) fq24.n10))
def fq24.n7:ACode:=(.loop fq24.n8)
def fq24.n6:ACode:=(.seq (.block 1 (.seq (.reg []) (.seq (.reg [O 3 (.mov (.c (.int .i64 0))),O 4 (.mov (.c (.int .i64 0)))]) (.seq (.seq (.reg [O 9 (.off 5 (.r 0)),O 9 (.load none (.r 9)),O 10 (.len false (.r 9)),O 6 (.mov (.c (.int .i64 0)))]) (.block 2 fq24.n7)) fq24.n13)))) fq24.n14)
def fq24.n5:ACode:=(.exit 0)
def fq24.n4:ACode:=(.seq (.reg [O 9 (.bin .lss (.r 5) (.r 8))]) (.seq (.cond (.r 9) .skip fq24.n5) fq24.n6))
def fq24.n3:ACode:=(.loop fq24.n4)
def fq24.n2:ACode:=(.seq (.reg [O 7 (.load (some 6) (.r 0)),O 7 (.build [(.int .i64 0),(.int .i64 0),(.int .i64 0),(.slice true 0 []),(.slice true 0 []),(.slice true 0 []),(.slice true 0 []),(.slice true 0 [])] [(0,(6,(.r 7)))]),O 7 (.box 8 (.r 7))]) (.seq (.seq (.reg [O 8 (.off 5 (.r 0)),O 8 (.load none (.r 8)),O 8 (.len false (.r 8)),O 8 (.bin .shl (.c (.int .u64 1)) (.r 8)),O 5 (.mov (.c (.int .u64 0)))]) (.block 0 fq24.n3)) fq24.n15))
def fq24.n1:ACode:=(.seq (.reg [O 1 (.mov (.c .nilptr)),O 2 (.mov (.c (.bool false)))]) .ret)
def fq24.n0:ACode:=(.seq (.reg [O 0 (.box 6 (.r 0)),O 1 (.mov (.c .nilptr)),O 2 (.mov (.c (.bool false)))]) (.seq (.seq (.reg [O 7 (.load (some 6) (.r 0)),O 7 (.call F_fq6 [(.r 7)]),O 7 (.un .not (.r 7))]) (.cond (.r 7) fq24.n1 .skip)) fq24.n2))
def fq24.res:List ARes:=[⟨1,none,none⟩,⟨2,none,none⟩]
def fq24.fn:AFunc:=⟨1,29,fq24.res,fq24.n0⟩
theorem fq24.ra:raFn fq24.fn0 29 [1,2] (.two (.ops [1,2,3]) (.two (.two (.ops [8,8,8]) (.join [(1,(.r 0))] (.two (.ops [2,3]) .nil) .nil)) (.two (.ops [8,8,8,0]) (.two (.two (.ops [9,9,9,9,6]) (.at [(4,(.r 7))] (.at [(1,(.r 0)),(4,(.r 7)),(19,(.r 8)),(20,(.r 5))] (.two (.ops [10]) (.two (.join [(1,(.r 0)),(4,(.r 7)),(19,(.r 8)),(20,(.r 5))] .nil .nil) (.two (.at [(1,(.r 0)),(4,(.r 7)),(19,(.r 8)),(20,(.r 5))] (.two (.ops [0,0]) (.two (.ops [4,5]) (.two (.two (.ops [10,10,11,7]) (.at [(1,(.r 0)),(4,(.r 7)),(6,(.r 3)),(7,(.r 4)),(19,(.r 8)),(20,(.r 5))] (.at [(1,(.r 0)),(4,(.r 7)),(5,(.r 5)),(6,(.r 3)),(7,(.r 4)),(19,(.r 8)),(20,(.r 5)),(24,(.r 9)),(25,(.r 10)),(26,(.r 6))] (.two (.ops [12]) (.two (.join [(1,(.r 0)),(4,(.r 7)),(5,(.r 5)),(6,(.r 3)),(7,(.r 4)),(19,(.r 8)),(20,(.r 5)),(24,(.r 9)),(25,(.r 10)),(26,(.r 6))] .nil .nil) (.two (.at [(1,(.r 0)),(4,(.r 7)),(5,(.r 5)),(6,(.r 3)),(7,(.r 4)),(19,(.r 8)),(20,(.r 5)),(24,(.r 9)),(25,(.r 10)),(26,(.r 6))] (.two (.ops [0,12,12,13,0,1]) (.two (.ops [0,0,12]) (.join [(1,(.r 0)),(4,(.r 7)),(5,(.r 5)),(6,(.r 3)),(7,(.r 4)),(19,(.r 8)),(20,(.r 5)),(24,(.r 9)),(25,(.r 10)),(26,(.r 6))] (.ops [0,12,12,12,0,13,13,13,4,5]) .nil)))) (.ops [12,7]))))))) (.ops [10,11,12,13,14,15,16,17,18,19,20,21,22,23,24,25,26,27,1,28,29,1]))))) (.ops [10,6]))))))) (.two (.ops [0,2,3]) .nil)))))=some fq24.fn:=by kernel_rfl
theorem fq24.ul:((rRes fq24.fn0.results [1,2]).all fun q=>uniB q.2)=true:=by kernel_rfl
noncomputable def fq25.fn0:AFunc:=(compileFn Tryd.prog [] [] [] Tryd.f37).getD ⟨0,0,[],.skip⟩
theorem fq25.ok:compileFn Tryd.prog [] [] [] Tryd.f37=some fq25.fn0:=getD_some (by kernel_rfl)
def fq25.n23:ACode:=(.seq (.reg [O 1 (.mov (.r 5))]) .ret)
def fq25.n22:ACode:=(.reg [O 6 (.bin .sub (.r 2) (.c (.int .i64 1))),O 2 (.mov (.r 6))])
def fq25.n21:ACode:=(.reg [O 9 (.bin .add (.r 3) (.c (.int .i64 1))),O 3 (.mov (.r 9))])
def fq25.n20:ACode:=(.reg [O 9 (.iaddr 1 none (.r 5) (.r 2)),O 9 (.load none (.r 9)),O 11 (.load (some 2) (.r 8)),O 10 (.load (some 2) (.r 10)),⟨none,(.mupd (.mk true [(.int .i64),(.int .i64)]) (.r 9) (.r 11) (.r 10)),none⟩])
def fq25.n19:ACode:=(.seq (.draw [O 11 (.off 0 (.r 9)),O 12 (.load none (.r 11)),O 13 (.mov (.r 0)),O 14 (.mov (.r 2)),O 15 (.off 1 (.r 8)),O 16 (.load none (.r 15)),O 17 (.mov (.r 3)),O 18 (.call F_fq26 [(.r 13),(.r 14),(.r 16),(.r 17)]),O 19 (.bin .add (.r 12) (.r 18)),O 20 (.mov (.r 3)),O 21 (.build [(.int .i64 0),(.int .i64 0)] [(0,(1,(.r 19))),(1,(1,(.r 20)))]),O 10 (.alloc [(.int .i64 0),(.int .i64 0)]),⟨none,(.store 2 (.r 10) (.r 21)),none⟩] [(1,0,1),(11,0,1)]) (.seq (.draw [O 11 (.mov (.r 5)),O 12 (.mov (.r 2)),O 13 (.iaddr 1 none (.r 11) (.r 12)),O 14 (.load none (.r 13)),O 15 (.load (some 2) (.r 8)),O 16 (.look (.mk true [(.int .i64),(.int .i64)]) (.agg [(.int .i64 0),(.int .i64 0)]) true (.r 14) (.r 15)),O 17 (.mov (.r 16)),O 18 (.ext 0 (.r 17)),O 19 (.ext 1 (.r 17)),O 9 (.alloc [(.int .i64 0),(.int .i64 0)]),⟨none,(.store 2 (.r 9) (.r 18)),none⟩,O 20 (.mov (.r 19))] [(9,0,0)]) (.seq (.reg [O 11 (.un .not (.r 20)),⟨(some 12),(.off 0 (.r 10)),(some (11,false))⟩,⟨(some 12),(.load none (.r 12)),(some (11,false))⟩,⟨(some 9),(.off 0 (.r 9)),(some (11,false))⟩,⟨(some 9),(.load none (.r 9)),(some (11,false))⟩,⟨(some 9),(.bin .lss (.r 12) (.r 9)),(some (11,false))⟩,O 9 (.pick (.r 11) (.c (.bool true)) (.r 9))]) (.cond (.r 9) fq25.n20 .skip))))
def fq25.n18:ACode:=(.exit 7)
def fq25.n17:ACode:=(.seq (.block 7 (.seq (.reg []) (.seq (.draw [O 10 (.mov (.r 5)),O 11 (.mov (.r 2)),O 12 (.bin .add (.r 11) (.c (.int .i64 1))),O 13 (.iaddr 1 none (.r 10) (.r 12)),O 14 (.load none (.r 13)),O 15 (.mov (.r 0)),O 16 (.mov (.r 2)),O 17 (.off 0 (.r 8)),O 18 (.load none (.r 17)),O 19 (.mov (.r 3)),O 20 (.call F_fq27 [(.r 15),(.r 16),(.r 18),(.r 19)]),O 21 (.mov (.r 3)),O 22 (.build [(.int .i64 0),(.int .i64 0)] [(0,(1,(.r 20))),(1,(1,(.r 21)))]),O 23 (.look (.mk true [(.int .i64),(.int .i64)]) (.agg [(.int .i64 0),(.int .i64 0)]) true (.r 14) (.r 22)),O 24 (.mov (.r 23)),O 25 (.ext 0 (.r 24)),O 26 (.ext 1 (.r 24)),O 9 (.alloc [(.int .i64 0),(.int .i64 0)]),⟨none,(.store 2 (.r 9) (.r 25)),none⟩,O 27 (.mov (.r 26))] [(3,0,1),(4,0,1),(17,0,1)]) (.seq (.seq (.reg [O 10 (.un .not (.r 27))]) (.cond (.r 10) fq25.n18 .skip)) fq25.n19)))) fq25.n21)
def fq25.n16:ACode:=(.exit 6)
def fq25.n15:ACode:=(.seq (.reg [O 9 (.bin .lss (.r 3) (.r 7))]) (.seq (.cond (.r 9) .skip fq25.n16) fq25.n17))
def fq25.n14:ACode:=(.loop fq25.n15)
def fq25.n13:ACode:=(.block 5 (.seq (.reg [O 7 (.entry (.r 6)),O 7 (.ext 0 (.r 7)),O 8 (.alloc [(.int .i64 0),(.int .i64 0)]),⟨none,(.store 2 (.r 8) (.r 7)),none⟩]) (.seq (.reg [O 7 (.chk (.r 0)),O 7 (.off 6 (.r 7)),O 7 (.load none (.r 7)),O 7 (.len false (.r 7)),O 3 (.mov (.c (.int .i64 0)))]) (.block 6 fq25.n14))))
def fq25.n12:ACode:=(.exit 4)
def fq25.n11:ACode:=(.seq (.reg [O 7 (.next (.r 6)),O 7 (.ext 0 (.r 7))]) (.seq (.cond (.r 7) .skip fq25.n12) fq25.n13))
def fq25.n10:ACode:=(.loop fq25.n11)
def fq25.n9:ACode:=(.seq (.block 3 (.seq (.reg [O 6 (.mkmap (.mk true [(.int .i64),(.int .i64)])),O 7 (.iaddr 1 none (.r 5) (.r 2)),⟨none,(.store 1 (.r 7) (.r 6)),none⟩]) (.seq (.reg [O 6 (.iaddr 1 none (.r 4) (.r 2)),O 6 (.load none (.r 6)),O 6 (.range (.r 6))]) (.block 4 fq25.n10)))) fq25.n22)
def fq25.n8:ACode:=(.exit 2)
def fq25.n7:ACode:=(.seq (.seq (.reg [O 6 (.bin .geq (.r 2) (.c (.int .i64 0)))]) (.cond (.r 6) .skip fq25.n8)) fq25.n9)
def fq25.n6:ACode:=(.loop fq25.n7)
def fq25.n5:ACode:=(.seq (.seq (.reg [O 6 (.chk (.r 0)),O 6 (.off 0 (.r 6)),O 6 (.off 3 (.r 6)),O 6 (.load none (.r 6)),O 6 (.len false (.r 6)),O 6 (.bin .sub (.r 6) (.c (.int .i64 1))),O 2 (.mov (.r 6))]) (.block 2 fq25.n6)) fq25.n23)
def fq25.n4:ACode:=(.block 1 (.seq (.reg [O 7 (.entry (.r 6)),O 7 (.ext 0 (.r 7)),O 8 (.alloc [(.int .i64 0),(.int .i64 0)]),⟨none,(.store 2 (.r 8) (.r 7)),none⟩]) (.reg [O 7 (.chk (.r 0)),O 7 (.off 0 (.r 7)),O 7 (.off 3 (.r 7)),O 7 (.load none (.r 7)),O 7 (.len false (.r 7)),O 7 (.iaddr 1 none (.r 5) (.r 7)),O 7 (.load none (.r 7)),O 8 (.load (some 2) (.r 8)),O 9 (.build [(.int .i64 0),(.int .i64 0)] []),⟨none,(.mupd (.mk true [(.int .i64),(.int .i64)]) (.r 7) (.r 8) (.r 9)),none⟩])))
def fq25.n3:ACode:=(.exit 0)
def fq25.n2:ACode:=(.seq (.reg [O 7 (.next (.r 6)),O 7 (.ext 0 (.r 7))]) (.seq (.cond (.r 7) .skip fq25.n3) fq25.n4))
def fq25.n1:ACode:=(.loop fq25.n2)
def fq25.n0:ACode:=(.seq (.reg [O 1 (.mov (.c (.slice true 0 [])))]) (.seq (.reg [O 4 (.call F_fq28 [(.r 0)])]) (.seq (.reg [O 5 (.len false (.r 4)),O 5 (.mksl 1 8 [.nilmap] (.r 5) (.r 5))]) (.seq (.reg [O 6 (.chk (.r 0)),O 6 (.off 0 (.r 6)),O 6 (.off 3 (.r 6)),O 6 (.load none (.r 6)),O 6 (.len false (.r 6)),O 7 (.mkmap (.mk true [(.int .i64),(.int .i64)])),O 6 (.iaddr 1 none (.r 5) (.r 6)),⟨none,(.store 1 (.r 6) (.r 7)),none⟩]) (.seq (.seq (.reg [O 6 (.chk (.r 0)),O 6 (.off 0 (.r 6)),O 6 (.off 3 (.r 6)),O 6 (.load none (.r 6)),O 6 (.len false (.r 6)),O 6 (.iaddr 1 none (.r 4) (.r 6)),O 6 (.load none (.r 6)),O 6 (.range (.r 6))]) (.block 0 fq25.n1)) fq25.n5)))))
def fq25.res:List ARes:=[⟨1,none,none⟩]
def fq25.fn:AFunc:=⟨1,28,fq25.res,fq25.n0⟩
theorem fq25.ra:raFn fq25.fn0 28 [1] (.two (.ops [2]) (.two (.ops [0,5,0]) (.two (.ops [0,6,6,0]) (.two (.ops [0,0,7,7,7,7,7,8,7,1]) (.two (.two (.ops [0,0,7,7,7,7,7,7,7,7]) (.at [(0,(.r 0)),(3,(.r 4)),(4,(.r 5))] (.at [(0,(.r 0)),(3,(.r 4)),(4,(.r 5)),(37,(.r 6))] (.two (.ops [8,8]) (.two (.join [(0,(.r 0)),(3,(.r 4)),(4,(.r 5)),(37,(.r 6))] .nil .nil) (.at [(0,(.r 0)),(3,(.r 4)),(4,(.r 5)),(37,(.r 6))] (.two (.ops [8,8,9,1]) (.ops [0,0,8,8,8,8,8,8,8,9,10,1])))))))) (.two (.two (.ops [0,7,7,7,7,7,7,3]) (.at [(4,(.r 5))] (.at [(0,(.r 0)),(3,(.r 4)),(4,(.r 5)),(6,(.r 2))] (.two (.two (.ops [0,7]) (.join [(0,(.r 0)),(3,(.r 4)),(4,(.r 5)),(6,(.r 2))] .nil .nil)) (.two (.at [(0,(.r 0)),(3,(.r 4)),(4,(.r 5)),(6,(.r 2))] (.two (.ops [0,0,7,8,1]) (.two (.ops [0,0,7,7,7]) (.at [(0,(.r 0)),(3,(.r 4)),(4,(.r 5)),(6,(.r 2))] (.at [(0,(.r 0)),(3,(.r 4)),(4,(.r 5)),(6,(.r 2)),(72,(.r 6))] (.two (.ops [8,8]) (.two (.join [(0,(.r 0)),(3,(.r 4)),(4,(.r 5)),(6,(.r 2)),(72,(.r 6))] .nil .nil) (.at [(0,(.r 0)),(3,(.r 4)),(4,(.r 5)),(6,(.r 2)),(72,(.r 6))] (.two (.ops [8,8,9,1]) (.two (.ops [0,8,8,8,8,4]) (.at [(0,(.r 0)),(3,(.r 4)),(4,(.r 5)),(6,(.r 2)),(72,(.r 6))] (.at [(0,(.r 0)),(3,(.r 4)),(4,(.r 5)),(6,(.r 2)),(7,(.r 8)),(72,(.r 6)),(81,(.r 7)),(82,(.r 3))] (.two (.ops [10]) (.two (.join [(0,(.r 0)),(3,(.r 4)),(4,(.r 5)),(6,(.r 2)),(7,(.r 8)),(72,(.r 6)),(81,(.r 7)),(82,(.r 3))] .nil .nil) (.two (.at [(0,(.r 0)),(3,(.r 4)),(4,(.r 5)),(6,(.r 2)),(7,(.r 8)),(72,(.r 6)),(81,(.r 7)),(82,(.r 3))] (.two (.ops [0,0]) (.two (.ops [11,12,13,14,15,16,17,18,19,20,21,22,23,24,25,26,27,10,1,28]) (.two (.two (.ops [0,11]) (.join [(0,(.r 0)),(3,(.r 4)),(4,(.r 5)),(6,(.r 2)),(7,(.r 8)),(8,(.r 3)),(9,(.r 9)),(72,(.r 6)),(81,(.r 7)),(82,(.r 3))] .nil .nil)) (.two (.ops [12,13,14,15,16,17,18,19,20,21,22,11,1]) (.two (.ops [12,13,14,15,16,17,18,19,20,10,1,21]) (.two (.ops [0,12,0,13,13,10,10,10,10]) (.join [(0,(.r 0)),(3,(.r 4)),(4,(.r 5)),(6,(.r 2)),(7,(.r 8)),(72,(.r 6)),(81,(.r 7)),(82,(.r 3))] (.ops [0,0,10,10,12,11,1]) .nil)))))))) (.ops [10,4])))))))))))))))) (.ops [0,7,3])))))) (.two (.ops [0,2]) .nil)))))))=some fq25.fn:=by kernel_rfl
theorem fq25.ul:((rRes fq25.fn0.results [1]).all fun q=>uniB q.2)=true:=by kernel_rfl
noncomputable def fq27.fn0:AFunc:=(compileFn Tryd.prog [] [] [] Tryd.f38).getD ⟨0,0,[],.skip⟩
theorem fq27.ok:compileFn Tryd.prog [] [] [] Tryd.f38=some fq27.fn0:=getD_some (by kernel_rfl)
def fq27.n0:ACode:=(.seq (.reg [O 4 (.mov (.c (.int .i64 0)))]) (.seq (.reg [O 5 (.chk (.r 0)),O 5 (.off 0 (.r 5)),O 5 (.off 1 (.r 5)),O 5 (.load none (.r 5)),O 6 (.chk (.r 0)),O 6 (.off 0 (.r 6)),O 6 (.off 3 (.r 6)),O 6 (.load none (.r 6)),O 1 (.iaddr 1 none (.r 6) (.r 1)),O 1 (.load none (.r 1)),O 1 (.bin .add (.r 2) (.r 1)),O 0 (.chk (.r 0)),O 0 (.off 6 (.r 0)),O 0 (.load none (.r 0)),O 0 (.iaddr 1 none (.r 0) (.r 3)),O 0 (.load none (.r 0)),O 0 (.bin .sub (.r 1) (.r 0)),O 0 (.minmax true (.r 5) [(.r 0)]),O 4 (.mov (.r 0))]) .ret))
def fq27.res:List ARes:=[⟨4,none,none⟩]
def fq27.fn:AFunc:=⟨4,7,fq27.res,fq27.n0⟩
theorem fq27.ra:raFn fq27.fn0 7 [4] (.two (.ops [5]) (.two (.ops [0,6,6,6,6,0,0,7,7,7,7,0,2,2,2,0,1,1,1,0,1,1,1,1,5]) .nil))=some fq27.fn:=by kernel_rfl
theorem fq27.ul:((rRes fq27.fn0.results [4]).all fun q=>uniB q.2)=true:=by kernel_rfl
noncomputable def fq52.fn0:AFunc:=(compileFn Tryd.prog [] [] [] Tryd.f40).getD ⟨0,0,[],.skip⟩
theorem fq52.ok:compileFn Tryd.prog [] [] [] Tryd.f40=some fq52.fn0:=getD_some (by kernel_rfl)
def fq52.n5:ACode:=(.seq (.reg [O 1 (.mov (.r 2))]) .ret)
def fq52.n4:ACode:=(.seq (.block 1 (.reg [O 4 (.bin .mul (.c (.int .i64 2)) (.r 2)),O 2 (.mov (.r 4))])) (.reg [O 4 (.bin .add (.r 3) (.c (.int .i64 1))),O 3 (.mov (.r 4))]))
def fq52.n3:ACode:=(.exit 0)
def fq52.n2:ACode:=(.seq (.seq (.reg [O 4 (.off 5 (.r 0)),O 4 (.load none (.r 4)),O 4 (.len false (.r 4)),O 4 (.bin .lss (.r 3) (.r 4))]) (.cond (.r 4) .skip fq52.n3)) fq52.n4)
def fq52.n1:ACode:=(.loop fq52.n2)
def fq52.n0:ACode:=(.seq (.reg [O 0 (.box 6 (.r 0)),O 1 (.mov (.c (.int .i64 0)))]) (.seq (.reg [O 2 (.mov (.c (.int .i64 1)))]) (.seq (.seq (.reg [O 3 (.mov (.c (.int .i64 0)))]) (.block 0 fq52.n1)) fq52.n5)))
def fq52.res:List ARes:=[⟨1,none,none⟩]
def fq52.fn:AFunc:=⟨1,5,fq52.res,fq52.n0⟩
theorem fq52.ra:raFn fq52.fn0 5 [1] (.two (.ops [1,2]) (.two (.ops [3]) (.two (.two (.ops [4]) (.at [(3,(.r 2))] (.at [(1,(.r 0)),(3,(.r 2)),(4,(.r 3))] (.two (.two (.ops [0,5,5,5,5]) (.join [(1,(.r 0)),(3,(.r 2)),(4,(.r 3))] .nil .nil)) (.two (.at [(1,(.r 0)),(3,(.r 2)),(4,(.r 3))] (.ops [0,5,3])) (.ops [0,5,4])))))) (.two (.ops [0,2]) .nil))))=some fq52.fn:=by kernel_rfl
theorem fq52.ul:((rRes fq52.fn0.results [1]).all fun q=>uniB q.2)=true:=by kernel_rfl
noncomputable def fq54.fn0:AFunc:=(compileFn Tryd.prog [] [] [] Tryd.f41).getD ⟨0,0,[],.skip⟩
theorem fq54.ok:compileFn Tryd.prog [] [] [] Tryd.f41=some fq54.fn0:=getD_some (by kernel_rfl)
def fq54.n7:ACode:=(.seq (.reg [O 0 (.off 1 (.r 0)),O 0 (.load none (.r 0)),O 0 (.minmax true (.r 2) [(.r 0)]),O 4 (.mov (.r 0))]) .ret)
def fq54.n6:ACode:=(.reg [O 1 (.bin .add (.r 5) (.c (.int .i64 1))),O 5 (.mov (.r 1))])
def fq54.n5:ACode:=(.reg [O 1 (.off 5 (.r 0)),O 1 (.load none (.r 1)),O 1 (.iaddr 3 none (.r 1) (.r 5)),O 1 (.off 0 (.r 1)),O 1 (.load none (.r 1)),O 1 (.bin .sub (.r 2) (.r 1)),O 2 (.mov (.r 1))])
def fq54.n4:ACode:=(.seq (.block 1 (.seq (.reg [O 1 (.call F_fq49 [(.r 3),(.r 5)])]) (.cond (.r 1) fq54.n5 .skip))) fq54.n6)
def fq54.n3:ACode:=(.exit 0)
def fq54.n2:ACode:=(.seq (.seq (.reg [O 1 (.off 5 (.r 0)),O 1 (.load none (.r 1)),O 1 (.len false (.r 1)),O 1 (.bin .lss (.r 5) (.r 1))]) (.cond (.r 1) .skip fq54.n3)) fq54.n4)
def fq54.n1:ACode:=(.loop fq54.n2)
def fq54.n0:ACode:=(.seq (.reg [O 0 (.box 6 (.r 0)),O 4 (.mov (.c (.int .i64 0)))]) (.seq (.reg [O 6 (.off 3 (.r 0)),O 6 (.load none (.r 6)),O 1 (.iaddr 1 none (.r 6) (.r 1)),O 1 (.load none (.r 1)),O 1 (.bin .add (.r 2) (.r 1)),O 2 (.mov (.r 1))]) (.seq (.seq (.reg [O 5 (.mov (.c (.int .i64 0)))]) (.block 0 fq54.n1)) fq54.n7)))
def fq54.res:List ARes:=[⟨4,none,none⟩]
def fq54.fn:AFunc:=⟨4,7,fq54.res,fq54.n0⟩
theorem fq54.ra:raFn fq54.fn0 7 [4] (.two (.ops [1,5]) (.two (.ops [0,7,7,0,2,2,2,3]) (.two (.two (.ops [6]) (.at [(2,(.r 2)),(4,(.r 0))] (.at [(2,(.r 2)),(3,(.r 3)),(4,(.r 0)),(9,(.r 5))] (.two (.two (.ops [0,2,2,2,2]) (.join [(2,(.r 2)),(3,(.r 3)),(4,(.r 0)),(9,(.r 5))] .nil .nil)) (.two (.at [(2,(.r 2)),(3,(.r 3)),(4,(.r 0)),(9,(.r 5))] (.two (.ops [0,0,2]) (.join [(2,(.r 2)),(3,(.r 3)),(4,(.r 0)),(9,(.r 5))] (.ops [0,2,2,0,2,2,2,2,3]) .nil))) (.ops [0,2,6])))))) (.two (.ops [0,1,1,1,5]) .nil))))=some fq54.fn:=by kernel_rfl
theorem fq54.ul:((rRes fq54.fn0.results [4]).all fun q=>uniB q.2)=true:=by kernel_rfl
noncomputable def fq55.fn0:AFunc:=(compileFn Tryd.prog [] [] [] Tryd.f42).getD ⟨0,0,[],.skip⟩
theorem fq55.ok:compileFn Tryd.prog [] [] [] Tryd.f42=some fq55.fn0:=getD_some (by kernel_rfl)
def fq55.n8:ACode:=(.seq (.reg [O 4 (.mov (.r 5))]) .ret)
def fq55.n7:ACode:=(.reg [O 7 (.bin .add (.r 6) (.c (.int .i64 1))),O 6 (.mov (.r 7))])
def fq55.n6:ACode:=(.reg [O 7 (.off 5 (.r 0)),O 7 (.load none (.r 7)),O 7 (.iaddr 3 none (.r 7) (.r 6)),O 7 (.off 2 (.r 7)),O 7 (.load none (.r 7)),O 7 (.bin .add (.r 5) (.r 7)),O 5 (.mov (.r 7))])
def fq55.n5:ACode:=(.seq (.reg [O 7 (.off 4 (.r 0)),O 7 (.load none (.r 7)),O 7 (.iaddr 1 none (.r 7) (.r 1)),O 7 (.load none (.r 7)),O 8 (.off 5 (.r 0)),O 8 (.load none (.r 8)),O 8 (.iaddr 3 none (.r 8) (.r 6)),O 8 (.off 1 (.r 8)),O 8 (.load none (.r 8)),O 7 (.bin .mul (.r 7) (.r 8)),O 7 (.bin .add (.r 5) (.r 7)),O 5 (.mov (.r 7))]) (.seq (.reg [O 7 (.call F_fq49 [(.r 2),(.r 6)]),O 7 (.un .not (.r 7))]) (.cond (.r 7) fq55.n6 .skip)))
def fq55.n4:ACode:=(.seq (.block 1 (.seq (.reg [O 7 (.call F_fq49 [(.r 3),(.r 6)])]) (.cond (.r 7) fq55.n5 .skip))) fq55.n7)
def fq55.n3:ACode:=(.exit 0)
def fq55.n2:ACode:=(.seq (.seq (.reg [O 7 (.off 5 (.r 0)),O 7 (.load none (.r 7)),O 7 (.len false (.r 7)),O 7 (.bin .lss (.r 6) (.r 7))]) (.cond (.r 7) .skip fq55.n3)) fq55.n4)
def fq55.n1:ACode:=(.loop fq55.n2)
def fq55.n0:ACode:=(.seq (.reg [O 0 (.box 6 (.r 0)),O 4 (.mov (.c (.int .i64 0)))]) (.seq (.reg [O 5 (.mov (.c (.int .i64 0)))]) (.seq (.seq (.reg [O 6 (.mov (.c (.int .i64 0)))]) (.block 0 fq55.n1)) fq55.n8)))
def fq55.res:List ARes:=[⟨4,none,none⟩]
def fq55.fn:AFunc:=⟨4,9,fq55.res,fq55.n0⟩
theorem fq55.ra:raFn fq55.fn0 9 [4] (.two (.ops [1,5]) (.two (.ops [6]) (.two (.two (.ops [7]) (.at [(9,(.r 5))] (.at [(1,(.r 1)),(2,(.r 2)),(3,(.r 3)),(4,(.r 0)),(9,(.r 5)),(10,(.r 6))] (.two (.two (.ops [0,8,8,8,8]) (.join [(1,(.r 1)),(2,(.r 2)),(3,(.r 3)),(4,(.r 0)),(9,(.r 5)),(10,(.r 6))] .nil .nil)) (.two (.at [(1,(.r 1)),(2,(.r 2)),(3,(.r 3)),(4,(.r 0)),(9,(.r 5)),(10,(.r 6))] (.two (.ops [0,0,8]) (.join [(1,(.r 1)),(2,(.r 2)),(3,(.r 3)),(4,(.r 0)),(9,(.r 5)),(10,(.r 6))] (.two (.ops [0,8,8,0,8,8,9,9,0,9,9,9,8,8,6]) (.two (.ops [0,0,8,8]) (.join [(1,(.r 1)),(2,(.r 2)),(3,(.r 3)),(4,(.r 0)),(9,(.r 5)),(10,(.r 6))] (.ops [0,8,8,0,8,8,8,8,6]) .nil))) .nil))) (.ops [0,8,7])))))) (.two (.ops [0,5]) .nil))))=some fq55.fn:=by kernel_rfl
theorem fq55.ul:((rRes fq55.fn0.results [4]).all fun q=>uniB q.2)=true:=by kernel_rfl
noncomputable def fq56.fn0:AFunc:=(compileFn Tryd.prog [] [] [] Tryd.f43).getD ⟨0,0,[],.skip⟩
theorem fq56.ok:compileFn Tryd.prog [] [] [] Tryd.f43=some fq56.fn0:=getD_some (by kernel_rfl)
def fq56.n0:ACode:=(.seq (.reg [O 3 (.mov (.c (.bool false)))]) (.seq (.reg [O 0 (.call F_fq44 [(.r 0),(.r 1),(.r 2)]),O 3 (.mov (.r 0))]) .ret))
def fq56.res:List ARes:=[⟨3,none,none⟩]
def fq56.fn:AFunc:=⟨3,4,fq56.res,fq56.n0⟩
theorem fq56.ra:raFn fq56.fn0 4 [3] (.two (.ops [4]) (.two (.ops [0,0,0,1,4]) .nil))=some fq56.fn:=by kernel_rfl
theorem fq56.ul:((rRes fq56.fn0.results [3]).all fun q=>uniB q.2)=true:=by kernel_rfl
noncomputable def fq53.fn0:AFunc:=(compileFn Tryd.prog [] [] [] Tryd.f44).getD ⟨0,0,[],.skip⟩
theorem fq53.ok:compileFn Tryd.prog [] [] [] Tryd.f44=some fq53.fn0:=getD_some (by kernel_rfl)
def fq53.n7:ACode:=(.seq (.reg [O 1 (.mov (.c (.bool true)))]) .ret)
def fq53.n6:ACode:=(.reg [O 3 (.bin .add (.r 2) (.c (.int .i64 1))),O 2 (.mov (.r 3))])
def fq53.n5:ACode:=(.seq (.reg [O 1 (.mov (.c (.bool false)))]) .ret)
def fq53.n4:ACode:=(.seq (.block 1 (.seq (.reg [O 3 (.iaddr 1 none (.r 0) (.r 2)),O 3 (.load none (.r 3)),O 3 (.call F_fq56 [(.r 3),(.c (.int .i64 0)),(.c (.int .i64 1000000))]),O 3 (.un .not (.r 3))]) (.cond (.r 3) fq53.n5 .skip))) fq53.n6)
def fq53.n3:ACode:=(.exit 0)
def fq53.n2:ACode:=(.seq (.seq (.reg [O 3 (.len false (.r 0)),O 3 (.bin .lss (.r 2) (.r 3))]) (.cond (.r 3) .skip fq53.n3)) fq53.n4)
def fq53.n1:ACode:=(.loop fq53.n2)
def fq53.n0:ACode:=(.seq (.reg [O 1 (.mov (.c (.bool false)))]) (.seq (.seq (.reg [O 2 (.mov (.c (.int .i64 0)))]) (.block 0 fq53.n1)) fq53.n7))
def fq53.res:List ARes:=[⟨1,none,none⟩]
def fq53.fn:AFunc:=⟨1,4,fq53.res,fq53.n0⟩
theorem fq53.ra:raFn fq53.fn0 4 [1] (.two (.ops [2]) (.two (.two (.ops [3]) (.at [] (.at [(0,(.r 0)),(3,(.r 2))] (.two (.two (.ops [0,0,4,4]) (.join [(0,(.r 0)),(3,(.r 2))] .nil .nil)) (.two (.at [(0,(.r 0)),(3,(.r 2))] (.two (.ops [0,0,4,4,4,4]) (.join [(0,(.r 0)),(3,(.r 2))] (.two (.ops [2]) .nil) .nil))) (.ops [0,4,3])))))) (.two (.ops [2]) .nil)))=some fq53.fn:=by kernel_rfl
theorem fq53.ul:((rRes fq53.fn0.results [1]).all fun q=>uniB q.2)=true:=by kernel_rfl
noncomputable def fq51.fn0:AFunc:=(compileFn Tryd.prog [] [] [] Tryd.f45).getD ⟨0,0,[],.skip⟩
theorem fq51.ok:compileFn Tryd.prog [] [] [] Tryd.f45=some fq51.fn0:=getD_some (by kernel_rfl)
def fq51.n9:ACode:=(.seq (.reg [O 2 (.mov (.c (.bool true)))]) .ret)
def fq51.n8:ACode:=(.reg [O 4 (.bin .add (.r 3) (.c (.int .i64 1))),O 3 (.mov (.r 4))])
def fq51.n7:ACode:=(.seq (.reg [O 2 (.mov (.c (.bool false)))]) .ret)
def fq51.n6:ACode:=(.seq (.block 1 (.seq (.draw [O 4 (.mov (.r 1)),O 5 (.mov (.r 3)),O 6 (.iaddr 1 none (.r 4) (.r 5)),O 7 (.load none (.r 6)),O 8 (.load (some 6) (.r 0)),O 9 (.call F_fq52 [(.r 8)]),O 10 (.bin .sub (.r 9) (.c (.int .i64 1))),O 11 (.call F_fq56 [(.r 7),(.c (.int .i64 0)),(.r 10)]),O 12 (.un .not (.r 11))] [(2,0,1),(3,0,1)]) (.cond (.r 12) fq51.n7 .skip))) fq51.n8)
def fq51.n5:ACode:=(.exit 0)
def fq51.n4:ACode:=(.seq (.seq (.reg [O 4 (.len false (.r 1)),O 4 (.bin .lss (.r 3) (.r 4))]) (.cond (.r 4) .skip fq51.n5)) fq51.n6)
def fq51.n3:ACode:=(.loop fq51.n4)
def fq51.n2:ACode:=(.seq (.seq (.reg [O 3 (.mov (.c (.int .i64 0)))]) (.block 0 fq51.n3)) fq51.n9)
def fq51.n1:ACode:=(.seq (.reg [O 2 (.mov (.c (.bool false)))]) .ret)
def fq51.n0:ACode:=(.seq (.reg [O 0 (.box 6 (.r 0)),O 2 (.mov (.c (.bool false)))]) (.seq (.seq (.reg [O 4 (.load (some 6) (.r 0)),O 4 (.call F_fq46 [(.r 4)]),O 4 (.un .not (.r 4)),⟨(some 5),(.mov (.r 1)),(some (4,false))⟩,⟨(some 5),(.len false (.r 5)),(some (4,false))⟩,⟨(some 6),(.off 3 (.r 0)),(some (4,false))⟩,⟨(some 6),(.load none (.r 6)),(some (4,false))⟩,⟨(some 6),(.len false (.r 6)),(some (4,false))⟩,⟨(some 5),(.bin .neq (.r 5) (.r 6)),(some (4,false))⟩,O 4 (.pick (.r 4) (.c (.bool true)) (.r 5))]) (.cond (.r 4) fq51.n1 .skip)) fq51.n2))
def fq51.res:List ARes:=[⟨2,none,none⟩]
def fq51.fn:AFunc:=⟨2,13,fq51.res,fq51.n0⟩
theorem fq51.ra:raFn fq51.fn0 13 [2] (.two (.ops [1,3]) (.two (.two (.ops [5,5,5,0,6,6,7,7,7,6,5]) (.join [(1,(.r 1)),(2,(.r 0))] (.two (.ops [3]) .nil) .nil)) (.two (.two (.ops [4]) (.at [] (.at [(1,(.r 1)),(2,(.r 0)),(5,(.r 3))] (.two (.two (.ops [0,0,5,5]) (.join [(1,(.r 1)),(2,(.r 0)),(5,(.r 3))] .nil .nil)) (.two (.at [(1,(.r 1)),(2,(.r 0)),(5,(.r 3))] (.two (.ops [5,6,7,8,9,10,11,12,13]) (.join [(1,(.r 1)),(2,(.r 0)),(5,(.r 3))] (.two (.ops [3]) .nil) .nil))) (.ops [0,5,4])))))) (.two (.ops [3]) .nil))))=some fq51.fn:=by kernel_rfl
theorem fq51.ul:((rRes fq51.fn0.results [2]).all fun q=>uniB q.2)=true:=by kernel_rfl
noncomputable def fq58.fn0:AFunc:=(compileFn Tryd.prog [] [] [] Tryd.f46).getD ⟨0,0,[],.skip⟩
theorem fq58.ok:compileFn Tryd.prog [] [] [] Tryd.f46=some fq58.fn0:=getD_some (by kernel_rfl)
def fq58.n0:ACode:=(.seq (.reg [O 2 (.mov (.c (.bool false)))]) (.seq (.reg [O 0 (.call F_fq62 [(.r 0),(.r 1)]),O 0 (.bin .geq (.r 0) (.c (.int .i64 0))),O 2 (.mov (.r 0))]) .ret))
def fq58.res:List ARes:=[⟨2,none,none⟩]
def fq58.fn:AFunc:=⟨2,3,fq58.res,fq58.n0⟩
theorem fq58.ra:raFn fq58.fn0 3 [2] (.two (.ops [3]) (.two (.ops [0,0,1,1,3]) .nil))=some fq58.fn:=by kernel_rfl
theorem fq58.ul:((rRes fq58.fn0.results [2]).all fun q=>uniB q.2)=true:=by kernel_rfl
noncomputable def fq13.fn0:AFunc:=(compileFn Tryd.prog [] [] [] Tryd.f47).getD ⟨0,0,[],.skip⟩
theorem fq13.ok:compileFn Tryd.prog [] [] [] Tryd.f47=some fq13.fn0:=getD_some (by kernel_rfl)
def fq13.n0:ACode:=(.seq (.reg [O 0 (.box 2 (.r 0)),O 1 (.mov (.c (.bool false)))]) (.seq (.reg [O 2 (.off 0 (.r 0)),O 2 (.load none (.r 2)),O 0 (.off 1 (.r 0)),O 0 (.load none (.r 0)),O 0 (.lit 1 [(.int .i64 0),(.int .i64 0)] [(0,(.r 2)),(1,(.r 0))] false true),O 0 (.call F_fq20 [(.r 0)]),O 0 (.un .not (.r 0)),O 1 (.mov (.r 0))]) .ret))
def fq13.res:List ARes:=[⟨1,none,none⟩]
def fq13.fn:AFunc:=⟨1,3,fq13.res,fq13.n0⟩
theorem fq13.ra:raFn fq13.fn0 3 [1] (.two (.ops [1,2]) (.two (.ops [3,3,1,1,1,1,1,2]) .nil))=some fq13.fn:=by kernel_rfl
theorem fq13.ul:((rRes fq13.fn0.results [1]).all fun q=>uniB q.2)=true:=by kernel_rfl
noncomputable def fq20.fn0:AFunc:=(compileFn Tryd.prog [] [] [] Tryd.f48).getD ⟨0,0,[],.skip⟩
theorem fq20.ok:compileFn Tryd.prog [] [] [] Tryd.f48=some fq20.fn0:=getD_some (by kernel_rfl)
def fq20.n0:ACode:=(.seq (.reg [O 1 (.mov (.c (.bool false)))]) (.seq (.reg [O 0 (.call F_fq59 [(.r 0),(.c (.fn F_fq21 []))]),O 0 (.un .not (.r 0)),O 1 (.mov (.r 0))]) .ret))
def fq20.res:List ARes:=[⟨1,none,none⟩]
def fq20.fn:AFunc:=⟨1,2,fq20.res,fq20.n0⟩
theorem fq20.ra:raFn fq20.fn0 2 [1] (.two (.ops [2]) (.two (.ops [0,1,1,2]) .nil))=some fq20.fn:=by kernel_rfl
theorem fq20.ul:((rRes fq20.fn0.results [1]).all fun q=>uniB q.2)=true:=by kernel_rfl
noncomputable def fq14.fn0:AFunc:=(compileFn Tryd.prog [] [] [] Tryd.f49).getD ⟨0,0,[],.skip⟩
theorem fq14.ok:compileFn Tryd.prog [] [] [] Tryd.f49=some fq14.fn0:=getD_some (by kernel_rfl)
def fq14.n9:ACode:=(.seq (.reg [O 1 (.load none (.r 1)),O 2 (.load (some 2) (.r 8)),⟨none,(.mupd (.mk false [(.int .u64)]) (.r 1) (.r 0) (.r 2)),none⟩]) (.seq (.reg [O 0 (.off 0 (.r 8)),O 0 (.load none (.r 0)),O 4 (.mov (.r 0))]) .ret))
def fq14.n8:ACode:=(.reg [O 9 (.call F_fq38 [(.r 5)]),O 9 (.call F_fq39 [(.r 5),(.r 9)]),O 5 (.mov (.r 9))])
def fq14.n7:ACode:=(.reg [O 9 (.build [(.int .i64 0),(.int .i64 0)] [(0,(1,(.r 41))),(1,(1,(.r 9)))]),⟨none,(.store 2 (.r 8) (.r 9)),none⟩])
def fq14.n6:ACode:=(.seq (.block 1 (.seq (.reg [O 9 (.call F_fq38 [(.r 5)])]) (.seq (.draw [O 10 (.load none (.r 2)),O 11 (.mov (.r 7)),O 12 (.mov (.r 9)),O 13 (.call F_fq39 [(.r 11),(.r 12)]),O 14 (.callv (.r 10) [(.r 13)]),O 15 (.load none (.r 3)),O 16 (.mov (.r 6)),O 17 (.iaddr 2 none (.r 15) (.r 16)),O 18 (.off 0 (.r 17)),O 19 (.load none (.r 18)),O 20 (.load none (.r 3)),O 21 (.mov (.r 9)),O 22 (.iaddr 2 none (.r 20) (.r 21)),O 23 (.off 0 (.r 22)),O 24 (.load none (.r 23)),O 25 (.bin .sub (.r 19) (.r 24)),O 26 (.call F_fq40 [(.r 25)]),O 27 (.bin .add (.r 14) (.r 26)),O 28 (.load none (.r 3)),O 29 (.mov (.r 6)),O 30 (.iaddr 2 none (.r 28) (.r 29)),O 31 (.off 1 (.r 30)),O 32 (.load none (.r 31)),O 33 (.load none (.r 3)),O 34 (.mov (.r 9)),O 35 (.iaddr 2 none (.r 33) (.r 34)),O 36 (.off 1 (.r 35)),O 37 (.load none (.r 36)),O 38 (.bin .sub (.r 32) (.r 37)),O 39 (.call F_fq40 [(.r 38)]),O 40 (.bin .add (.r 27) (.r 39)),O 41 (.mov (.r 40))] [(0,0,1),(5,0,2),(7,0,2),(9,0,2),(10,0,2),(12,0,2),(14,0,2),(18,0,3),(20,0,3),(22,0,3),(23,0,3),(25,0,3),(27,0,3)]) (.seq (.reg [O 10 (.off 0 (.r 8)),O 10 (.load none (.r 10)),O 10 (.bin .lss (.r 10) (.c (.int .i64 0))),⟨(some 11),(.mov (.r 41)),(some (10,false))⟩,⟨(some 12),(.off 0 (.r 8)),(some (10,false))⟩,⟨(some 12),(.load none (.r 12)),(some (10,false))⟩,⟨(some 11),(.bin .lss (.r 11) (.r 12)),(some (10,false))⟩,O 10 (.pick (.r 10) (.c (.bool true)) (.r 11))]) (.cond (.r 10) fq14.n7 .skip))))) fq14.n8)
def fq14.n5:ACode:=(.exit 0)
def fq14.n4:ACode:=(.seq (.seq (.reg [O 9 (.bin .neq (.r 5) (.c (.int .u64 0)))]) (.cond (.r 9) .skip fq14.n5)) fq14.n6)
def fq14.n3:ACode:=(.loop fq14.n4)
def fq14.n2:ACode:=(.seq (.reg [O 6 (.off 0 (.r 8)),⟨none,(.store 1 (.r 6) (.c (.int .i64 (-1)))),none⟩]) (.seq (.reg [O 6 (.call F_fq38 [(.r 0)])]) (.seq (.reg [O 7 (.call F_fq39 [(.r 0),(.r 6)])]) (.seq (.seq (.reg [O 5 (.mov (.r 7))]) (.block 0 fq14.n3)) fq14.n9))))
def fq14.n1:ACode:=(.seq (.reg [O 0 (.off 0 (.r 8)),O 0 (.load none (.r 0)),O 4 (.mov (.r 0))]) .ret)
def fq14.n0:ACode:=(.seq (.reg [O 4 (.mov (.c (.int .i64 0)))]) (.seq (.reg [O 6 (.load none (.r 1)),O 6 (.look (.mk false [(.int .u64)]) (.agg [(.int .i64 0),(.int .i64 0)]) true (.r 6) (.r 0)),O 7 (.ext 0 (.r 6)),O 6 (.ext 1 (.r 6)),O 8 (.alloc [(.int .i64 0),(.int .i64 0)]),⟨none,(.store 2 (.r 8) (.r 7)),none⟩]) (.seq (.seq (.reg []) (.cond (.r 6) fq14.n1 .skip)) fq14.n2)))
def fq14.res:List ARes:=[⟨4,none,none⟩]
def fq14.fn:AFunc:=⟨4,42,fq14.res,fq14.n0⟩
theorem fq14.ra:raFn fq14.fn0 42 [4] (.two (.ops [5]) (.two (.ops [7,0,7,0,8,7,9,1,0]) (.two (.two (.ops [0]) (.join [(0,(.r 0)),(1,(.r 1)),(2,(.r 2)),(3,(.r 3)),(6,(.r 8))] (.two (.ops [1,1,5]) .nil) .nil)) (.two (.ops [7,1]) (.two (.ops [0,7,0]) (.two (.ops [0,0,8,0]) (.two (.two (.ops [0,6]) (.at [(0,(.r 0)),(1,(.r 1)),(6,(.r 8))] (.at [(0,(.r 0)),(1,(.r 1)),(2,(.r 2)),(3,(.r 3)),(6,(.r 8)),(8,(.r 6)),(9,(.r 7)),(10,(.r 5))] (.two (.two (.ops [0,10]) (.join [(0,(.r 0)),(1,(.r 1)),(2,(.r 2)),(3,(.r 3)),(6,(.r 8)),(8,(.r 6)),(9,(.r 7)),(10,(.r 5))] .nil .nil)) (.two (.at [(0,(.r 0)),(1,(.r 1)),(2,(.r 2)),(3,(.r 3)),(6,(.r 8)),(8,(.r 6)),(9,(.r 7)),(10,(.r 5))] (.two (.ops [0,10,0]) (.two (.ops [11,12,13,14,15,16,17,18,19,20,21,22,23,24,25,26,27,28,29,30,31,32,33,34,35,36,37,38,39,40,41,42]) (.two (.ops [11,11,11,0,12,13,13,12,11]) (.join [(0,(.r 0)),(1,(.r 1)),(2,(.r 2)),(3,(.r 3)),(6,(.r 8)),(8,(.r 6)),(9,(.r 7)),(10,(.r 5))] (.ops [0,0,10,1]) .nil))))) (.ops [0,0,10,10,6])))))) (.two (.ops [2,0,3,1]) (.two (.ops [1,1,5]) .nil)))))))))=some fq14.fn:=by kernel_rfl
theorem fq14.ul:((rRes fq14.fn0.results [4]).all fun q=>uniB q.2)=true:=by kernel_rfl
noncomputable def fq38.fn0:AFunc:=(compileFn Tryd.prog [] [] [] Tryd.f50).getD ⟨0,0,[],.skip⟩
theorem fq38.ok:compileFn Tryd.prog [] [] [] Tryd.f50=some fq38.fn0:=getD_some (by kernel_rfl)
def fq38.n0:ACode:=(.seq (.reg [O 1 (.mov (.c (.int .i64 0)))]) (.seq (.reg [O 0 (.call F_fq0 [(.r 0)]),O 1 (.mov (.r 0))]) .ret))
def fq38.res:List ARes:=[⟨1,none,none⟩]
def fq38.fn:AFunc:=⟨1,2,fq38.res,fq38.n0⟩
theorem fq38.ra:raFn fq38.fn0 2 [1] (.two (.ops [2]) (.two (.ops [0,1,2]) .nil))=some fq38.fn:=by kernel_rfl
theorem fq38.ul:((rRes fq38.fn0.results [1]).all fun q=>uniB q.2)=true:=by kernel_rfl
noncomputable def fq39.fn0:AFunc:=(compileFn Tryd.prog [] [] [] Tryd.f51).getD ⟨0,0,[],.skip⟩
theorem fq39.ok:compileFn Tryd.prog [] [] [] Tryd.f51=some fq39.fn0:=getD_some (by kernel_rfl)
def fq39.n0:ACode:=(.seq (.reg [O 2 (.mov (.c (.int .u64 0)))]) (.seq (.reg [O 1 (.conv .u64 (.r 1)),O 1 (.bin .shl (.c (.int .u64 1)) (.r 1)),O 0 (.bin .andNot (.r 0) (.r 1)),O 2 (.mov (.r 0))]) .ret))
def fq39.res:List ARes:=[⟨2,none,none⟩]
def fq39.fn:AFunc:=⟨2,3,fq39.res,fq39.n0⟩
theorem fq39.ra:raFn fq39.fn0 3 [2] (.two (.ops [3]) (.two (.ops [0,0,2,2,1,3]) .nil))=some fq39.fn:=by kernel_rfl
theorem fq39.ul:((rRes fq39.fn0.results [2]).all fun q=>uniB q.2)=true:=by kernel_rfl
noncomputable def fq40.fn0:AFunc:=(compileFn Tryd.prog [] [] [] Tryd.f52).getD ⟨0,0,[],.skip⟩
theorem fq40.ok:compileFn Tryd.prog [] [] [] Tryd.f52=some fq40.fn0:=getD_some (by kernel_rfl)
def fq40.n0:ACode:=(.seq (.reg [O 1 (.mov (.c (.int .i64 0)))]) (.seq (.reg [O 2 (.un .neg (.r 0)),O 0 (.minmax true (.r 0) [(.r 2)]),O 1 (.mov (.r 0))]) .ret))
def fq40.res:List ARes:=[⟨1,none,none⟩]
def fq40.fn:AFunc:=⟨1,3,fq40.res,fq40.n0⟩
theorem fq40.ra:raFn fq40.fn0 3 [1] (.two (.ops [2]) (.two (.ops [0,0,3,1,2]) .nil))=some fq40.fn:=by kernel_rfl
theorem fq40.ul:((rRes fq40.fn0.results [1]).all fun q=>uniB q.2)=true:=by kernel_rfl
noncomputable def fq16.fn0:AFunc:=(compileFn Tryd.prog [] [] [] Tryd.f55).getD ⟨0,0,[],.skip⟩
theorem fq16.ok:compileFn Tryd.prog [] [] [] Tryd.f55=some fq16.fn0:=getD_some (by kernel_rfl)
def fq16.n11:ACode:=(.seq (.reg [O 1 (.load none (.r 2)),⟨none,(.mupd (.mk false [(.int .u64)]) (.r 1) (.r 0) (.r 6)),none⟩]) (.seq (.reg [O 5 (.mov (.r 6))]) .ret))
def fq16.n10:ACode:=(.reg [O 8 (.call F_fq34 [(.r 7)]),O 8 (.call F_fq37 [(.r 7),(.r 8)]),O 7 (.mov (.r 8))])
def fq16.n9:ACode:=(.reg [O 6 (.mov (.r 22))])
def fq16.n8:ACode:=(.seq (.block 1 (.seq (.reg [O 8 (.call F_fq34 [(.r 7)])]) (.seq (.draw [O 9 (.load none (.r 3)),O 10 (.mov (.r 0)),O 11 (.mov (.r 8)),O 12 (.call F_fq37 [(.r 10),(.r 11)]),O 13 (.mov (.r 1)),O 14 (.bin .add (.r 13) (.c (.int .i64 1))),O 15 (.callv (.r 9) [(.r 12),(.r 14)]),O 16 (.mov (.r 1)),O 17 (.mov (.r 8)),O 18 (.iaddr 8 (some 8) (.r 4) (.r 16)),O 19 (.iaddr 1 (some 8) (.r 18) (.r 17)),O 20 (.load none (.r 19)),O 21 (.bin .add (.r 15) (.r 20)),O 22 (.mov (.r 21))] [(0,0,1),(11,0,2)]) (.seq (.reg [O 8 (.bin .lss (.r 6) (.c (.int .i64 0))),⟨(some 9),(.mov (.r 22)),(some (8,false))⟩,⟨(some 10),(.mov (.r 6)),(some (8,false))⟩,⟨(some 9),(.bin .lss (.r 9) (.r 10)),(some (8,false))⟩,O 8 (.pick (.r 8) (.c (.bool true)) (.r 9))]) (.cond (.r 8) fq16.n9 .skip))))) fq16.n10)
def fq16.n7:ACode:=(.exit 0)
def fq16.n6:ACode:=(.seq (.seq (.reg [O 8 (.bin .neq (.r 7) (.c (.int .u64 0)))]) (.cond (.r 8) .skip fq16.n7)) fq16.n8)
def fq16.n5:ACode:=(.loop fq16.n6)
def fq16.n4:ACode:=(.seq (.reg [O 6 (.mov (.c (.int .i64 (-1))))]) (.seq (.seq (.reg [O 7 (.mov (.r 0))]) (.block 0 fq16.n5)) fq16.n11))
def fq16.n3:ACode:=(.seq (.reg [O 5 (.mov (.r 9))]) .ret)
def fq16.n2:ACode:=(.seq (.seq (.reg [O 8 (.load none (.r 2)),O 8 (.look (.mk false [(.int .u64)]) (.int .i64 0) true (.r 8) (.r 0)),O 9 (.ext 0 (.r 8)),O 8 (.ext 1 (.r 8))]) (.seq (.reg []) (.cond (.r 8) fq16.n3 .skip))) fq16.n4)
def fq16.n1:ACode:=(.seq (.reg [O 5 (.mov (.c (.int .i64 0)))]) .ret)
def fq16.n0:ACode:=(.seq (.reg [O 5 (.mov (.c (.int .i64 0)))]) (.seq (.seq (.reg [O 8 (.bin .eql (.r 0) (.c (.int .u64 0)))]) (.cond (.r 8) fq16.n1 .skip)) fq16.n2))
def fq16.res:List ARes:=[⟨5,none,none⟩]
def fq16.fn:AFunc:=⟨5,23,fq16.res,fq16.n0⟩
theorem fq16.ra:raFn fq16.fn0 23 [5] (.two (.ops [6]) (.two (.two (.ops [0,9]) (.join [(0,(.r 0)),(1,(.r 1)),(2,(.r 2)),(3,(.r 3)),(4,(.r 4))] (.two (.ops [6]) .nil) .nil)) (.two (.two (.ops [9,0,9,0,10,9,0,0]) (.two (.ops [0]) (.join [(0,(.r 0)),(1,(.r 1)),(2,(.r 2)),(3,(.r 3)),(4,(.r 4))] (.two (.ops [0,6]) .nil) .nil))) (.two (.ops [7]) (.two (.two (.ops [0,8]) (.at [(0,(.r 0)),(2,(.r 2)),(10,(.r 6))] (.at [(0,(.r 0)),(1,(.r 1)),(2,(.r 2)),(3,(.r 3)),(4,(.r 4)),(10,(.r 6)),(11,(.r 7))] (.two (.two (.ops [0,9]) (.join [(0,(.r 0)),(1,(.r 1)),(2,(.r 2)),(3,(.r 3)),(4,(.r 4)),(10,(.r 6)),(11,(.r 7))] .nil .nil)) (.two (.at [(0,(.r 0)),(1,(.r 1)),(2,(.r 2)),(3,(.r 3)),(4,(.r 4)),(10,(.r 6)),(11,(.r 7))] (.two (.ops [0,9,0]) (.two (.ops [10,11,12,13,14,15,16,17,18,19,20,21,22,23]) (.two (.ops [0,9,0,10,11,10,9]) (.join [(0,(.r 0)),(1,(.r 1)),(2,(.r 2)),(3,(.r 3)),(4,(.r 4)),(10,(.r 6)),(11,(.r 7))] (.ops [0,7]) .nil))))) (.ops [0,0,9,9,8])))))) (.two (.ops [2,0,0,1]) (.two (.ops [0,6]) .nil)))))))=some fq16.fn:=by kernel_rfl
theorem fq16.ul:((rRes fq16.fn0.results [5]).all fun q=>uniB q.2)=true:=by kernel_rfl
noncomputable def fq37.fn0:AFunc:=(compileFn Tryd.prog [] [] [] Tryd.f56).getD ⟨0,0,[],.skip⟩
theorem fq37.ok:compileFn Tryd.prog [] [] [] Tryd.f56=some fq37.fn0:=getD_some (by kernel_rfl)
def fq37.n0:ACode:=(.seq (.reg [O 2 (.mov (.c (.int .u64 0)))]) (.seq (.reg [O 1 (.conv .u64 (.r 1)),O 1 (.bin .shl (.c (.int .u64 1)) (.r 1)),O 0 (.bin .andNot (.r 0) (.r 1)),O 2 (.mov (.r 0))]) .ret))
def fq37.res:List ARes:=[⟨2,none,none⟩]
def fq37.fn:AFunc:=⟨2,3,fq37.res,fq37.n0⟩
theorem fq37.ra:raFn fq37.fn0 3 [2] (.two (.ops [3]) (.two (.ops [0,0,2,2,1,3]) .nil))=some fq37.fn:=by kernel_rfl
theorem fq37.ul:((rRes fq37.fn0.results [2]).all fun q=>uniB q.2)=true:=by kernel_rfl
noncomputable def fq34.fn0:AFunc:=(compileFn Tryd.prog [] [] [] Tryd.f57).getD ⟨0,0,[],.skip⟩
theorem fq34.ok:compileFn Tryd.prog [] [] [] Tryd.f57=some fq34.fn0:=getD_some (by kernel_rfl)
def fq34.n0:ACode:=(.seq (.reg [O 1 (.mov (.c (.int .i64 0)))]) (.seq (.reg [O 0 (.call F_fq0 [(.r 0)]),O 1 (.mov (.r 0))]) .ret))
def fq34.res:List ARes:=[⟨1,none,none⟩]
def fq34.fn:AFunc:=⟨1,2,fq34.res,fq34.n0⟩
theorem fq34.ra:raFn fq34.fn0 2 [1] (.two (.ops [2]) (.two (.ops [0,1,2]) .nil))=some fq34.fn:=by kernel_rfl
theorem fq34.ul:((rRes fq34.fn0.results [1]).all fun q=>uniB q.2)=true:=by kernel_rfl
noncomputable def fq43.fn0:AFunc:=(compileFn Tryd.prog [] [] [] Tryd.f59).getD ⟨0,0,[],.skip⟩
theorem fq43.ok:compileFn Tryd.prog [] [] [] Tryd.f59=some fq43.fn0:=getD_some (by kernel_rfl)
def fq43.n0:ACode:=(.seq (.reg [O 3 (.mov (.c (.bool false)))]) (.seq (.reg [O 1 (.bin .leq (.r 1) (.r 0)),⟨(some 0),(.mov (.r 0)),(some (1,true))⟩,⟨(some 2),(.mov (.r 2)),(some (1,true))⟩,⟨(some 0),(.bin .leq (.r 0) (.r 2)),(some (1,true))⟩,O 0 (.pick (.r 1) (.r 0) (.c (.bool false))),O 3 (.mov (.r 0))]) .ret))
def fq43.res:List ARes:=[⟨3,none,none⟩]
def fq43.fn:AFunc:=⟨3,4,fq43.res,fq43.n0⟩
theorem fq43.ra:raFn fq43.fn0 4 [3] (.two (.ops [4]) (.two (.ops [0,0,2,0,1,3,1,1,4]) .nil))=some fq43.fn:=by kernel_rfl
theorem fq43.ul:((rRes fq43.fn0.results [3]).all fun q=>uniB q.2)=true:=by kernel_rfl
noncomputable def fq60.fn0:AFunc:=(compileFn Tryd.prog [] [] [] Tryd.f60).getD ⟨0,0,[],.skip⟩
theorem fq60.ok:compileFn Tryd.prog [] [] [] Tryd.f60=some fq60.fn0:=getD_some (by kernel_rfl)
def fq60.n0:ACode:=(.seq (.reg [O 2 (.mov (.c (.bool false)))]) (.seq (.reg [O 0 (.call F_fq64 [(.r 0),(.r 1)]),O 0 (.bin .geq (.r 0) (.c (.int .i64 0))),O 2 (.mov (.r 0))]) .ret))
def fq60.res:List ARes:=[⟨2,none,none⟩]
def fq60.fn:AFunc:=⟨2,3,fq60.res,fq60.n0⟩
theorem fq60.ra:raFn fq60.fn0 3 [2] (.two (.ops [3]) (.two (.ops [0,0,1,1,3]) .nil))=some fq60.fn:=by kernel_rfl
theorem fq60.ul:((rRes fq60.fn0.results [2]).all fun q=>uniB q.2)=true:=by kernel_rfl
noncomputable def fq8.fn0:AFunc:=(compileFn Tryd.prog [] [] [] Tryd.f61).getD ⟨0,0,[],.skip⟩
theorem fq8.ok:compileFn Tryd.prog [] [] [] Tryd.f61=some fq8.fn0:=getD_some (by kernel_rfl)
def fq8.n8:ACode:=(.seq (.reg [O 0 (.len false (.r 0)),O 1 (.load none (.r 1)),O 0 (.bin .neq (.r 0) (.r 1)),O 2 (.mov (.r 0))]) .ret)
def fq8.n7:ACode:=(.reg [O 6 (.bin .add (.r 4) (.c (.int .i64 1))),O 4 (.mov (.r 6))])
def fq8.n6:ACode:=(.reg [O 6 (.call F_fq36 [(.r 3),(.r 6)]),O 3 (.mov (.r 6))])
def fq8.n5:ACode:=(.seq (.reg [O 2 (.mov (.c (.bool true)))]) .ret)
def fq8.n4:ACode:=(.seq (.block 1 (.seq (.reg [O 6 (.iaddr 1 none (.r 0) (.r 4)),O 6 (.load none (.r 6))]) (.seq (.seq (.reg [O 7 (.load none (.r 1)),O 7 (.bin .sub (.r 7) (.c (.int .i64 1))),O 7 (.call F_fq43 [(.r 6),(.c (.int .i64 0)),(.r 7)]),O 7 (.un .not (.r 7)),⟨(some 8),(.mov (.r 3)),(some (7,false))⟩,⟨(some 9),(.mov (.r 6)),(some (7,false))⟩,⟨(some 8),(.call F_fq35 [(.r 8),(.r 9)]),(some (7,false))⟩,O 7 (.pick (.r 7) (.c (.bool true)) (.r 8))]) (.cond (.r 7) fq8.n5 .skip)) fq8.n6))) fq8.n7)
def fq8.n3:ACode:=(.exit 0)
def fq8.n2:ACode:=(.seq (.reg [O 6 (.bin .lss (.r 4) (.r 5))]) (.seq (.cond (.r 6) .skip fq8.n3) fq8.n4))
def fq8.n1:ACode:=(.loop fq8.n2)
def fq8.n0:ACode:=(.seq (.reg [O 2 (.mov (.c (.bool false)))]) (.seq (.reg [O 3 (.mov (.c (.int .u64 0)))]) (.seq (.seq (.reg [O 5 (.len false (.r 0)),O 4 (.mov (.c (.int .i64 0)))]) (.block 0 fq8.n1)) fq8.n8)))
def fq8.res:List ARes:=[⟨2,none,none⟩]
def fq8.fn:AFunc:=⟨2,10,fq8.res,fq8.n0⟩
theorem fq8.ra:raFn fq8.fn0 10 [2] (.two (.ops [3]) (.two (.ops [4]) (.two (.two (.ops [0,6,5]) (.at [(0,(.r 0)),(1,(.r 1))] (.at [(0,(.r 0)),(1,(.r 1)),(4,(.r 3)),(7,(.r 0)),(8,(.r 5)),(9,(.r 4))] (.two (.ops [7]) (.two (.join [(0,(.r 0)),(1,(.r 1)),(4,(.r 3)),(7,(.r 0)),(8,(.r 5)),(9,(.r 4))] .nil .nil) (.two (.at [(0,(.r 0)),(1,(.r 1)),(4,(.r 3)),(7,(.r 0)),(8,(.r 5)),(9,(.r 4))] (.two (.ops [7,7,0]) (.two (.two (.ops [0,8,8,8,8,0,9,10,9,8]) (.join [(0,(.r 0)),(1,(.r 1)),(4,(.r 3)),(6,(.r 6)),(7,(.r 0)),(8,(.r 5)),(9,(.r 4))] (.two (.ops [3]) .nil) .nil)) (.ops [0,0,7,4])))) (.ops [7,5]))))))) (.two (.ops [0,1,2,1,3]) .nil))))=some fq8.fn:=by kernel_rfl
theorem fq8.ul:((rRes fq8.fn0.results [2]).all fun q=>uniB q.2)=true:=by kernel_rfl
noncomputable def fq35.fn0:AFunc:=(compileFn Tryd.prog [] [] [] Tryd.f62).getD ⟨0,0,[],.skip⟩
theorem fq35.ok:compileFn Tryd.prog [] [] [] Tryd.f62=some fq35.fn0:=getD_some (by kernel_rfl)
def fq35.n0:ACode:=(.seq (.reg [O 2 (.mov (.c (.bool false)))]) (.seq (.reg [O 1 (.conv .u64 (.r 1)),O 0 (.bin .shr (.r 0) (.r 1)),O 0 (.bin .and (.r 0) (.c (.int .u64 1))),O 0 (.bin .eql (.r 0) (.c (.int .u64 1))),O 2 (.mov (.r 0))]) .ret))
def fq35.res:List ARes:=[⟨2,none,none⟩]
def fq35.fn:AFunc:=⟨2,3,fq35.res,fq35.n0⟩
theorem fq35.ra:raFn fq35.fn0 3 [2] (.two (.ops [3]) (.two (.ops [0,0,2,1,1,1,3]) .nil))=some fq35.fn:=by kernel_rfl
theorem fq35.ul:((rRes fq35.fn0.results [2]).all fun q=>uniB q.2)=true:=by kernel_rfl
noncomputable def fq36.fn0:AFunc:=(compileFn Tryd.prog [] [] [] Tryd.f63).getD ⟨0,0,[],.skip⟩
theorem fq36.ok:compileFn Tryd.prog [] [] [] Tryd.f63=some fq36.fn0:=getD_some (by kernel_rfl)
def fq36.n0:ACode:=(.seq (.reg [O 2 (.mov (.c (.int .u64 0)))]) (.seq (.reg [O 1 (.conv .u64 (.r 1)),O 1 (.bin .shl (.c (.int .u64 1)) (.r 1)),O 0 (.bin .or (.r 0) (.r 1)),O 2 (.mov (.r 0))]) .ret))
def fq36.res:List ARes:=[⟨2,none,none⟩]
def fq36.fn:AFunc:=⟨2,3,fq36.res,fq36.n0⟩
theorem fq36.ra:raFn fq36.fn0 3 [2] (.two (.ops [3]) (.two (.ops [0,0,2,2,1,3]) .nil))=some fq36.fn:=by kernel_rfl
theorem fq36.ul:((rRes fq36.fn0.results [2]).all fun q=>uniB q.2)=true:=by kernel_rfl
noncomputable def fq29.fn0:AFunc:=(compileFn Tryd.prog [] [] [] Tryd.f64).getD ⟨0,0,[],.skip⟩
theorem fq29.ok:compileFn Tryd.prog [] [] [] Tryd.f64=some fq29.fn0:=getD_some (by kernel_rfl)
def fq29.n2:ACode:=(.seq (.reg [O 0 (.load none (.r 6)),O 2 (.mov (.r 0)),O 3 (.mov (.c (.bool true)))]) .ret)
def fq29.n1:ACode:=(.seq (.reg [O 2 (.mov (.c .nilptr)),O 3 (.mov (.c (.bool false)))]) .ret)
def fq29.n0:ACode:=(.seq (.reg [O 0 (.box 6 (.r 0)),O 2 (.mov (.c .nilptr)),O 3 (.mov (.c (.bool false)))]) (.seq (.reg [O 4 (.load (some 6) (.r 0)),O 4 (.call F_fq24 [(.r 4)]),O 5 (.ext 0 (.r 4)),O 4 (.ext 1 (.r 4)),O 6 (.alloc [.nilptr]),⟨none,(.store 1 (.r 6) (.r 5)),none⟩]) (.seq (.seq (.reg [O 4 (.un .not (.r 4)),⟨(some 5),(.mov (.r 1)),(some (4,false))⟩,⟨(some 5),(.len false (.r 5)),(some (4,false))⟩,⟨(some 0),(.off 3 (.r 0)),(some (4,false))⟩,⟨(some 0),(.load none (.r 0)),(some (4,false))⟩,⟨(some 0),(.len false (.r 0)),(some (4,false))⟩,⟨(some 0),(.bin .neq (.r 5) (.r 0)),(some (4,false))⟩,O 0 (.pick (.r 4) (.c (.bool true)) (.r 0)),⟨(some 1),(.mov (.r 1)),(some (0,false))⟩,⟨(some 4),(.mkfn F_fq30 [(.r 6)]),(some (0,false))⟩,⟨(some 1),(.call F_fq59 [(.r 1),(.r 4)]),(some (0,false))⟩,O 0 (.pick (.r 0) (.c (.bool true)) (.r 1))]) (.cond (.r 0) fq29.n1 .skip)) fq29.n2)))
def fq29.res:List ARes:=[⟨2,none,none⟩,⟨3,none,none⟩]
def fq29.fn:AFunc:=⟨2,7,fq29.res,fq29.n0⟩
theorem fq29.ra:raFn fq29.fn0 7 [2,3] (.two (.ops [1,3,4]) (.two (.ops [5,5,0,6,5,7,1,0]) (.two (.two (.ops [0,5,0,6,6,1,1,1,1,1,0,2,5,2,1]) (.join [(6,(.r 6))] (.two (.ops [3,4]) .nil) .nil)) (.two (.ops [1,3,4]) .nil))))=some fq29.fn:=by kernel_rfl
theorem fq29.ul:((rRes fq29.fn0.results [2,3]).all fun q=>uniB q.2)=true:=by kernel_rfl
noncomputable def fq26.fn0:AFunc:=(compileFn Tryd.prog [] [] [] Tryd.f65).getD ⟨0,0,[],.skip⟩
theorem fq26.ok:compileFn Tryd.prog [] [] [] Tryd.f65=some fq26.fn0:=getD_some (by kernel_rfl)
def fq26.n5:ACode:=(.seq (.reg [O 4 (.mov (.r 5))]) .ret)
def fq26.n4:ACode:=(.seq (.block 1 (.draw [O 1 (.mov (.r 5)),O 2 (.mov (.r 0)),O 3 (.chk (.r 2)),O 7 (.off 0 (.r 3)),O 8 (.off 5 (.r 7)),O 9 (.load none (.r 8)),O 10 (.mov (.r 6)),O 11 (.call F_fq31 [(.r 10)]),O 12 (.iaddr 3 none (.r 9) (.r 11)),O 13 (.off 2 (.r 12)),O 14 (.load none (.r 13)),O 15 (.bin .add (.r 1) (.r 14)),O 5 (.mov (.r 15))] [(5,0,1)])) (.reg [O 1 (.call F_fq31 [(.r 6)]),O 1 (.call F_fq33 [(.r 6),(.r 1)]),O 6 (.mov (.r 1))]))
def fq26.n3:ACode:=(.exit 0)
def fq26.n2:ACode:=(.seq (.seq (.reg [O 1 (.bin .neq (.r 6) (.c (.int .u64 0)))]) (.cond (.r 1) .skip fq26.n3)) fq26.n4)
def fq26.n1:ACode:=(.loop fq26.n2)
def fq26.n0:ACode:=(.seq (.reg [O 4 (.mov (.c (.int .i64 0)))]) (.seq (.reg [O 7 (.chk (.r 0)),O 7 (.off 0 (.r 7)),O 7 (.off 4 (.r 7)),O 7 (.load none (.r 7)),O 1 (.iaddr 1 none (.r 7) (.r 1)),O 1 (.load none (.r 1)),O 7 (.chk (.r 0)),O 7 (.off 7 (.r 7)),O 7 (.load none (.r 7)),O 7 (.iaddr 1 none (.r 7) (.r 3)),O 7 (.load none (.r 7)),O 1 (.bin .mul (.r 1) (.r 7)),O 5 (.mov (.r 1))]) (.seq (.seq (.reg [O 1 (.bin .andNot (.r 3) (.r 2)),O 1 (.conv .u64 (.r 1)),O 6 (.mov (.r 1))]) (.block 0 fq26.n1)) fq26.n5)))
def fq26.res:List ARes:=[⟨4,none,none⟩]
def fq26.fn:AFunc:=⟨4,16,fq26.res,fq26.n0⟩
theorem fq26.ra:raFn fq26.fn0 16 [4] (.two (.ops [5]) (.two (.ops [0,8,8,8,8,0,2,2,0,8,8,8,0,8,8,2,6]) (.two (.two (.ops [0,0,2,2,7]) (.at [(9,(.r 5))] (.at [(0,(.r 0)),(9,(.r 5)),(10,(.r 6))] (.two (.two (.ops [0,2]) (.join [(0,(.r 0)),(9,(.r 5)),(10,(.r 6))] .nil .nil)) (.two (.at [(0,(.r 0)),(9,(.r 5)),(10,(.r 6))] (.ops [2,3,4,8,9,10,11,12,13,14,15,16,6])) (.ops [0,0,2,2,7])))))) (.two (.ops [0,5]) .nil))))=some fq26.fn:=by kernel_rfl
theorem fq26.ul:((rRes fq26.fn0.results [4]).all fun q=>uniB q.2)=true:=by kernel_rfl
noncomputable def fq19.fn0:AFunc:=(compileFn Tryd.prog [] [] [] Tryd.f66).getD ⟨0,0,[],.skip⟩
theorem fq19.ok:compileFn Tryd.prog [] [] [] Tryd.f66=some fq19.fn0:=getD_some (by kernel_rfl)
def fq19.n4:ACode:=(.seq (.reg [O 2 (.mov (.c (.int .i64 0)))]) .ret)
def fq19.n3:ACode:=(.seq (.reg [O 2 (.mov (.c (.int .i64 4)))]) .ret)
def fq19.n2:ACode:=(.seq (.reg [O 0 (.call F_fq43 [(.r 1),(.c (.int .i64 1)),(.c (.int .i64 8))]),O 0 (.un .not (.r 0))]) (.cond (.r 0) fq19.n3 .skip))
def fq19.n1:ACode:=(.seq (.reg [O 2 (.mov (.c (.int .i64 2)))]) .ret)
def fq19.n0:ACode:=(.seq (.reg [O 2 (.mov (.c (.int .i64 0)))]) (.seq (.block 0 (.seq (.reg [O 0 (.call F_fq4 [(.r 0)]),O 0 (.un .not (.r 0))]) (.cond (.r 0) fq19.n1 fq19.n2))) fq19.n4))
def fq19.res:List ARes:=[⟨2,none,none⟩]
def fq19.fn:AFunc:=⟨2,3,fq19.res,fq19.n0⟩
theorem fq19.ra:raFn fq19.fn0 3 [2] (.two (.ops [3]) (.two (.at [] (.two (.ops [0,1,1,0]) (.join [] (.two (.ops [3]) .nil) (.two (.ops [0,1,1,0]) (.join [] (.two (.ops [3]) .nil) .nil))))) (.two (.ops [3]) .nil)))=some fq19.fn:=by kernel_rfl
theorem fq19.ul:((rRes fq19.fn0.results [2]).all fun q=>uniB q.2)=true:=by kernel_rfl
noncomputable def fq18.fn0:AFunc:=(compileFn Tryd.prog [] [] [] Tryd.f67).getD ⟨0,0,[],.skip⟩
theorem fq18.ok:compileFn Tryd.prog [] [] [] Tryd.f67=some fq18.fn0:=getD_some (by kernel_rfl)
def fq18.n0:ACode:=(.seq (.reg [O 3 (.mov (.c (.bool false)))]) (.seq (.reg [O 4 (.load none (.r 2)),O 4 (.iaddr 3 none (.r 4) (.r 0)),O 4 (.off 2 (.r 4)),O 4 (.load none (.r 4)),O 5 (.load none (.r 2)),O 5 (.iaddr 3 none (.r 5) (.r 1)),O 5 (.off 2 (.r 5)),O 5 (.load none (.r 5)),O 4 (.bin .lss (.r 4) (.r 5)),⟨(some 5),(.load none (.r 2)),(some (4,false))⟩,⟨(some 6),(.mov (.r 0)),(some (4,false))⟩,⟨(some 5),(.iaddr 3 none (.r 5) (.r 6)),(some (4,false))⟩,⟨(some 5),(.off 2 (.r 5)),(some (4,false))⟩,⟨(some 5),(.load none (.r 5)),(some (4,false))⟩,⟨(some 2),(.load none (.r 2)),(some (4,false))⟩,⟨(some 6),(.mov (.r 1)),(some (4,false))⟩,⟨(some 2),(.iaddr 3 none (.r 2) (.r 6)),(some (4,false))⟩,⟨(some 2),(.off 2 (.r 2)),(some (4,false))⟩,⟨(some 2),(.load none (.r 2)),(some (4,false))⟩,⟨(some 2),(.bin .eql (.r 5) (.r 2)),(some (4,false))⟩,⟨(some 2),(.mov (.r 2)),(some (4,false))⟩,⟨(some 0),(.mov (.r 0)),(some (2,true))⟩,⟨(some 1),(.mov (.r 1)),(some (2,true))⟩,⟨(some 0),(.bin .lss (.r 0) (.r 1)),(some (2,true))⟩,⟨(some 0),(.pick (.r 2) (.r 0) (.c (.bool false))),(some (4,false))⟩,O 0 (.pick (.r 4) (.c (.bool true)) (.r 0)),O 3 (.mov (.r 0))]) .ret))
def fq18.res:List ARes:=[⟨3,none,none⟩]
def fq18.fn:AFunc:=⟨3,7,fq18.res,fq18.n0⟩
theorem fq18.ra:raFn fq18.fn0 7 [3] (.two (.ops [4]) (.two (.ops [5,0,5,5,5,6,0,6,6,6,5,0,6,7,6,6,6,3,7,3,3,3,3,3,1,2,1,1,1,4]) .nil))=some fq18.fn:=by kernel_rfl
theorem fq18.ul:((rRes fq18.fn0.results [3]).all fun q=>uniB q.2)=true:=by kernel_rfl
noncomputable def fq41.fn0:AFunc:=(compileFn Tryd.prog [] [] [] Tryd.f68).getD ⟨0,0,[],.skip⟩
theorem fq41.ok:compileFn Tryd.prog [] [] [] Tryd.f68=some fq41.fn0:=getD_some (by kernel_rfl)
def fq41.n5:ACode:=(.seq (.reg [O 0 (.mkfn F_fq42 [(.r 4)]),O 1 (.mov (.r 0))]) .ret)
def fq41.n4:ACode:=(.seq (.block 1 (.seq (.reg [O 5 (.iaddr 3 none (.r 0) (.r 2)),O 5 (.load (some 3) (.r 5)),O 6 (.alloc [(.int .i64 0),(.int .i64 0),(.int .i64 0)]),⟨none,(.store 3 (.r 6) (.r 5)),none⟩]) (.draw [O 5 (.load none (.r 4)),O 7 (.off 1 (.r 6)),O 8 (.load none (.r 7)),O 9 (.load none (.r 4)),O 10 (.off 1 (.r 6)),O 11 (.load none (.r 10)),O 12 (.look (.mk false [(.int .i64)]) (.slice true 0 []) false (.r 9) (.r 11)),O 13 (.mov (.r 2)),O 14 (.lit 1 [(.int .i64 0)] [(0,(.r 13))] false false),O 15 (.app 1 8 (.r 12) (.r 14)),⟨none,(.mupd (.mk false [(.int .i64)]) (.r 5) (.r 8) (.r 15)),none⟩] [(0,0,1),(2,0,1)]))) (.reg [O 5 (.bin .add (.r 2) (.c (.int .i64 1))),O 2 (.mov (.r 5))]))
def fq41.n3:ACode:=(.exit 0)
def fq41.n2:ACode:=(.seq (.reg [O 5 (.bin .lss (.r 2) (.r 3))]) (.seq (.cond (.r 5) .skip fq41.n3) fq41.n4))
def fq41.n1:ACode:=(.loop fq41.n2)
def fq41.n0:ACode:=(.seq (.reg [O 1 (.mov (.c .nilfn))]) (.seq (.reg [O 3 (.mkmap (.mk false [(.int .i64)])),O 4 (.alloc [.nilmap]),⟨none,(.store 1 (.r 4) (.r 3)),none⟩]) (.seq (.seq (.reg [O 3 (.len false (.r 0)),O 2 (.mov (.c (.int .i64 0)))]) (.block 0 fq41.n1)) fq41.n5)))
def fq41.res:List ARes:=[⟨1,none,none⟩]
def fq41.fn:AFunc:=⟨1,16,fq41.res,fq41.n0⟩
theorem fq41.ra:raFn fq41.fn0 16 [1] (.two (.ops [2]) (.two (.ops [4,5,1]) (.two (.two (.ops [0,4,3]) (.at [(3,(.r 4))] (.at [(3,(.r 4)),(7,(.r 0)),(8,(.r 3)),(9,(.r 2))] (.two (.ops [6]) (.two (.join [(3,(.r 4)),(7,(.r 0)),(8,(.r 3)),(9,(.r 2))] .nil .nil) (.two (.at [(3,(.r 4)),(7,(.r 0)),(8,(.r 3)),(9,(.r 2))] (.two (.ops [0,6,6,7,0,1]) (.ops [6,8,9,10,11,12,13,14,15,16,1]))) (.ops [6,3]))))))) (.two (.ops [1,2]) .nil))))=some fq41.fn:=by kernel_rfl
theorem fq41.ul:((rRes fq41.fn0.results [1]).all fun q=>uniB q.2)=true:=by kernel_rfl
noncomputable def fq22.fn0:AFunc:=(compileFn Tryd.prog [] [] [] Tryd.f69).getD ⟨0,0,[],.skip⟩
theorem fq22.ok:compileFn Tryd.prog [] [] [] Tryd.f69=some fq22.fn0:=getD_some (by kernel_rfl)
def fq22.n5:ACode:=(.seq (.reg [O 3 (.chk (.r 0)),O 3 (.off 0 (.r 3)),O 3 (.load none (.r 3)),O 4 (.chk (.r 0)),O 4 (.off 0 (.r 4)),O 4 (.load none (.r 4)),O 5 (.chk (.r 0)),O 5 (.off 0 (.r 5)),O 5 (.load none (.r 5)),O 5 (.iaddr 1 none (.r 5) (.r 1)),O 5 (.load none (.r 5)),O 6 (.chk (.r 0)),O 6 (.off 0 (.r 6)),O 6 (.load none (.r 6)),O 6 (.iaddr 1 none (.r 6) (.r 2)),O 6 (.load none (.r 6)),O 3 (.iaddr 1 none (.r 3) (.r 2)),⟨none,(.store 1 (.r 3) (.r 5)),none⟩,O 3 (.iaddr 1 none (.r 4) (.r 1)),⟨none,(.store 1 (.r 3) (.r 6)),none⟩]) (.reg [O 2 (.mov (.r 1))]))
def fq22.n4:ACode:=(.block 1 (.seq (.reg [O 1 (.bin .sub (.r 2) (.c (.int .i64 1))),O 1 (.bin .quo (.r 1) (.c (.int .i64 2)))]) (.seq (.seq (.reg [O 3 (.chk (.r 0)),O 3 (.off 1 (.r 3)),O 3 (.load none (.r 3)),O 4 (.chk (.r 0)),O 4 (.off 0 (.r 4)),O 4 (.load none (.r 4)),O 4 (.iaddr 1 none (.r 4) (.r 2)),O 4 (.load none (.r 4)),O 5 (.chk (.r 0)),O 5 (.off 0 (.r 5)),O 5 (.load none (.r 5)),O 5 (.iaddr 1 none (.r 5) (.r 1)),O 5 (.load none (.r 5)),O 3 (.callv (.r 3) [(.r 4),(.r 5)]),O 3 (.un .not (.r 3))]) (.cond (.r 3) .ret .skip)) fq22.n5)))
def fq22.n3:ACode:=(.exit 0)
def fq22.n2:ACode:=(.seq (.seq (.reg [O 1 (.bin .gtr (.r 2) (.c (.int .i64 0)))]) (.cond (.r 1) .skip fq22.n3)) fq22.n4)
def fq22.n1:ACode:=(.loop fq22.n2)
def fq22.n0:ACode:=(.seq (.reg [O 3 (.chk (.r 0)),O 3 (.off 0 (.r 3)),O 3 (.load none (.r 3)),O 1 (.lit 1 [(.int .i64 0)] [(0,(.r 1))] false true),O 1 (.app 1 8 (.r 3) (.r 1)),O 3 (.chk (.r 0)),O 3 (.off 0 (.r 3)),⟨none,(.store 1 (.r 3) (.r 1)),none⟩]) (.seq (.reg [O 1 (.chk (.r 0)),O 1 (.off 0 (.r 1)),O 1 (.load none (.r 1)),O 1 (.len false (.r 1)),O 1 (.bin .sub (.r 1) (.c (.int .i64 1))),O 2 (.mov (.r 1))]) (.block 0 fq22.n1)))
def fq22.res:List ARes:=[]
def fq22.fn:AFunc:=⟨2,7,fq22.res,fq22.n0⟩
theorem fq22.ra:raFn fq22.fn0 7 [] (.two (.ops [0,0,4,4,4,0,2,2,4,4,1]) (.two (.ops [0,2,2,2,2,2,3]) (.at [] (.at [(0,(.r 0)),(4,(.r 2))] (.two (.two (.ops [0,2]) (.join [(0,(.r 0)),(4,(.r 2))] .nil .nil)) (.at [(0,(.r 0)),(4,(.r 2))] (.two (.ops [0,2,2,0]) (.two (.two (.ops [0,4,4,4,0,5,5,5,0,5,5,0,6,6,6,0,6,6,4,4]) (.join [(0,(.r 0)),(4,(.r 2)),(5,(.r 1))] .nil .nil)) (.two (.ops [0,4,4,4,0,0,5,5,5,0,0,6,6,6,0,6,6,0,7,7,7,0,7,7,4,1,4,1]) (.ops [0,3]))))))))))=some fq22.fn:=by kernel_rfl
theorem fq22.ul:((rRes fq22.fn0.results []).all fun q=>uniB q.2)=true:=by kernel_rfl
noncomputable def fq23.fn0:AFunc:=(compileFn Tryd.prog [] [] [] Tryd.f70).getD ⟨0,0,[],.skip⟩
theorem fq23.ok:compileFn Tryd.prog [] [] [] Tryd.f70=some fq23.fn0:=getD_some (by kernel_rfl)
def fq23.n11:ACode:=(.seq (.reg [O 7 (.chk (.r 0)),O 7 (.off 0 (.r 7)),O 7 (.load none (.r 7)),O 8 (.chk (.r 0)),O 8 (.off 0 (.r 8)),O 8 (.load none (.r 8)),O 9 (.chk (.r 0)),O 9 (.off 0 (.r 9)),O 9 (.load none (.r 9)),O 9 (.iaddr 1 none (.r 9) (.r 3)),O 9 (.load none (.r 9)),O 10 (.chk (.r 0)),O 10 (.off 0 (.r 10)),O 10 (.load none (.r 10)),O 10 (.iaddr 1 none (.r 10) (.r 2)),O 10 (.load none (.r 10)),O 7 (.iaddr 1 none (.r 7) (.r 2)),⟨none,(.store 1 (.r 7) (.r 9)),none⟩,O 7 (.iaddr 1 none (.r 8) (.r 3)),⟨none,(.store 1 (.r 7) (.r 10)),none⟩]) (.reg [O 2 (.mov (.r 3))]))
def fq23.n10:ACode:=(.seq (.reg [O 1 (.mov (.r 5))]) .ret)
def fq23.n9:ACode:=(.seq (.seq (.reg [O 7 (.bin .eql (.r 3) (.r 2))]) (.cond (.r 7) fq23.n10 .skip)) fq23.n11)
def fq23.n8:ACode:=(.reg [O 8 (.bin .add (.r 4) (.c (.int .i64 1))),O 4 (.mov (.r 8))])
def fq23.n7:ACode:=(.reg [O 3 (.mov (.r 8))])
def fq23.n6:ACode:=(.seq (.block 3 (.seq (.reg [O 8 (.aidx 1 2 none (.r 7) (.r 4))]) (.seq (.reg [O 9 (.bin .lss (.r 8) (.r 6)),⟨(some 10),(.mov (.r 0)),(some (9,true))⟩,⟨(some 10),(.chk (.r 10)),(some (9,true))⟩,⟨(some 10),(.off 1 (.r 10)),(some (9,true))⟩,⟨(some 10),(.load none (.r 10)),(some (9,true))⟩,⟨(some 11),(.mov (.r 0)),(some (9,true))⟩,⟨(some 11),(.chk (.r 11)),(some (9,true))⟩,⟨(some 11),(.off 0 (.r 11)),(some (9,true))⟩,⟨(some 11),(.load none (.r 11)),(some (9,true))⟩,⟨(some 12),(.mov (.r 8)),(some (9,true))⟩,⟨(some 11),(.iaddr 1 none (.r 11) (.r 12)),(some (9,true))⟩,⟨(some 11),(.load none (.r 11)),(some (9,true))⟩,⟨(some 12),(.mov (.r 0)),(some (9,true))⟩,⟨(some 12),(.chk (.r 12)),(some (9,true))⟩,⟨(some 12),(.off 0 (.r 12)),(some (9,true))⟩,⟨(some 12),(.load none (.r 12)),(some (9,true))⟩,⟨(some 13),(.mov (.r 3)),(some (9,true))⟩,⟨(some 12),(.iaddr 1 none (.r 12) (.r 13)),(some (9,true))⟩,⟨(some 12),(.load none (.r 12)),(some (9,true))⟩,⟨(some 10),(.callv (.r 10) [(.r 11),(.r 12)]),(some (9,true))⟩,O 9 (.pick (.r 9) (.r 10) (.c (.bool false)))]) (.cond (.r 9) fq23.n7 .skip)))) fq23.n8)
def fq23.n5:ACode:=(.exit 2)
def fq23.n4:ACode:=(.seq (.reg [O 8 (.bin .lss (.r 4) (.c (.int .i64 2)))]) (.seq (.cond (.r 8) .skip fq23.n5) fq23.n6))
def fq23.n3:ACode:=(.loop fq23.n4)
def fq23.n2:ACode:=(.block 1 (.seq (.reg [O 3 (.mov (.r 2))]) (.seq (.seq (.reg [O 7 (.bin .mul (.c (.int .i64 2)) (.r 2)),O 7 (.bin .add (.r 7) (.c (.int .i64 1))),O 8 (.bin .mul (.c (.int .i64 2)) (.r 2)),O 8 (.bin .add (.r 8) (.c (.int .i64 2))),O 7 (.build [(.int .i64 0),(.int .i64 0)] [(0,(1,(.r 7))),(1,(1,(.r 8)))]),O 4 (.mov (.c (.int .i64 0)))]) (.block 2 fq23.n3)) fq23.n9)))
def fq23.n1:ACode:=(.loop fq23.n2)
def fq23.n0:ACode:=(.seq (.reg [O 1 (.mov (.c (.int .i64 0)))]) (.seq (.reg [O 5 (.chk (.r 0)),O 5 (.off 0 (.r 5)),O 5 (.load none (.r 5)),O 5 (.iaddr 1 none (.r 5) (.c (.int .i64 0))),O 5 (.load none (.r 5)),O 6 (.chk (.r 0)),O 6 (.off 0 (.r 6)),O 6 (.load none (.r 6)),O 6 (.len false (.r 6)),O 6 (.bin .sub (.r 6) (.c (.int .i64 1)))]) (.seq (.reg [O 7 (.chk (.r 0)),O 7 (.off 0 (.r 7)),O 7 (.load none (.r 7)),O 8 (.chk (.r 0)),O 8 (.off 0 (.r 8)),O 8 (.load none (.r 8)),O 8 (.iaddr 1 none (.r 8) (.r 6)),O 8 (.load none (.r 8)),O 7 (.iaddr 1 none (.r 7) (.c (.int .i64 0))),⟨none,(.store 1 (.r 7) (.r 8)),none⟩]) (.seq (.reg [O 7 (.chk (.r 0)),O 7 (.off 0 (.r 7)),O 7 (.load none (.r 7)),O 7 (.slc 1 (.r 7) none (some (.r 6))),O 8 (.chk (.r 0)),O 8 (.off 0 (.r 8)),⟨none,(.store 1 (.r 8) (.r 7)),none⟩]) (.seq (.reg [O 2 (.mov (.c (.int .i64 0)))]) (.block 0 fq23.n1))))))
def fq23.res:List ARes:=[⟨1,none,none⟩]
def fq23.fn:AFunc:=⟨1,14,fq23.res,fq23.n0⟩
theorem fq23.ra:raFn fq23.fn0 14 [1] (.two (.ops [2]) (.two (.ops [0,6,6,6,6,6,0,7,7,7,7,7,0,0]) (.two (.ops [0,8,8,8,0,9,9,9,0,9,9,8,1]) (.two (.ops [0,0,8,8,8,0,8,9,9,1]) (.two (.ops [3]) (.at [(2,(.r 1))] (.at [(0,(.r 0)),(3,(.r 5)),(4,(.r 6)),(5,(.r 2))] (.at [(0,(.r 0)),(3,(.r 5)),(4,(.r 6)),(5,(.r 2))] (.two (.ops [0,4]) (.two (.two (.ops [0,8,8,0,9,9,8,5]) (.at [(0,(.r 0)),(3,(.r 5)),(4,(.r 6)),(5,(.r 2)),(6,(.r 3))] (.at [(0,(.r 0)),(3,(.r 5)),(4,(.r 6)),(5,(.r 2)),(6,(.r 3)),(49,(.r 7)),(50,(.r 4))] (.two (.ops [9]) (.two (.join [(0,(.r 0)),(3,(.r 5)),(4,(.r 6)),(5,(.r 2)),(6,(.r 3)),(49,(.r 7)),(50,(.r 4))] .nil .nil) (.two (.at [(0,(.r 0)),(3,(.r 5)),(4,(.r 6)),(5,(.r 2)),(6,(.r 3)),(49,(.r 7)),(50,(.r 4))] (.two (.ops [9,0]) (.two (.ops [0,0,10,0,11,11,11,11,12,12,12,12,13,12,12,13,13,13,13,14,13,13,11,10]) (.join [(0,(.r 0)),(3,(.r 5)),(4,(.r 6)),(5,(.r 2)),(6,(.r 3)),(49,(.r 7)),(50,(.r 4))] (.ops [0,4]) .nil)))) (.ops [9,5]))))))) (.two (.two (.ops [0,0,8]) (.join [(0,(.r 0)),(3,(.r 5)),(4,(.r 6)),(5,(.r 2)),(6,(.r 3))] (.two (.ops [0,2]) .nil) .nil)) (.two (.ops [0,8,8,8,0,0,9,9,9,0,0,10,10,10,0,10,10,0,11,11,11,0,11,11,8,1,8,1]) (.ops [0,3])))))))))))))=some fq23.fn:=by kernel_rfl
theorem fq23.ul:((rRes fq23.fn0.results [1]).all fun q=>uniB q.2)=true:=by kernel_rfl
noncomputable def fq32.fn0:AFunc:=(compileFn Tryd.prog [] [] [] Tryd.f71).getD ⟨0,0,[],.skip⟩
theorem fq32.ok:compileFn Tryd.prog [] [] [] Tryd.f71=some fq32.fn0:=getD_some (by kernel_rfl)
def fq32.n0:ACode:=(.seq (.reg [O 2 (.mov (.c (.bool false)))]) (.seq (.reg [O 1 (.conv .u64 (.r 1)),O 0 (.bin .shr (.r 0) (.r 1)),O 0 (.bin .and (.r 0) (.c (.int .u64 1))),O 0 (.bin .eql (.r 0) (.c (.int .u64 1))),O 2 (.mov (.r 0))]) .ret))
def fq32.res:List ARes:=[⟨2,none,none⟩]
def fq32.fn:AFunc:=⟨2,3,fq32.res,fq32.n0⟩
theorem fq32.ra:raFn fq32.fn0 3 [2] (.two (.ops [3]) (.two (.ops [0,0,2,1,1,1,3]) .nil))=some fq32.fn:=by kernel_rfl
theorem fq32.ul:((rRes fq32.fn0.results [2]).all fun q=>uniB q.2)=true:=by kernel_rfl
noncomputable def fq28.fn0:AFunc:=(compileFn Tryd.prog [] [] [] Tryd.f72).getD ⟨0,0,[],.skip⟩
theorem fq28.ok:compileFn Tryd.prog [] [] [] Tryd.f72=some fq28.fn0:=getD_some (by kernel_rfl)
def fq28.n17:ACode:=(.seq (.reg [O 1 (.mov (.r 2))]) .ret)
def fq28.n16:ACode:=(.reg [O 6 (.bin .add (.r 3) (.c (.int .i64 1))),O 3 (.mov (.r 6))])
def fq28.n15:ACode:=(.reg [O 6 (.lit 1 [.nilmap] [(0,(.r 6))] false true),O 6 (.app 1 8 (.r 2) (.r 6)),O 2 (.mov (.r 6))])
def fq28.n14:ACode:=(.reg [O 10 (.bin .add (.r 4) (.c (.int .i64 1))),O 4 (.mov (.r 10))])
def fq28.n13:ACode:=(.reg [O 10 (.build [(.int .i64 0),(.int .i64 0)] [(0,(1,(.r 10))),(1,(1,(.r 4)))]),⟨none,(.mupd (.mk true [(.int .i64),(.int .i64)]) (.r 6) (.r 10) (.c (.bool true))),none⟩])
def fq28.n12:ACode:=(.seq (.block 5 (.seq (.reg []) (.seq (.reg [O 10 (.off 0 (.r 9)),O 10 (.load none (.r 10)),O 10 (.call F_fq27 [(.r 0),(.r 3),(.r 10),(.r 4)])]) (.seq (.reg [O 11 (.chk (.r 0)),O 11 (.off 0 (.r 11)),O 11 (.off 2 (.r 11)),O 11 (.load none (.r 11)),O 11 (.bin .leq (.r 10) (.r 11))]) (.cond (.r 11) fq28.n13 .skip))))) fq28.n14)
def fq28.n11:ACode:=(.exit 4)
def fq28.n10:ACode:=(.seq (.reg [O 10 (.bin .lss (.r 4) (.r 8))]) (.seq (.cond (.r 10) .skip fq28.n11) fq28.n12))
def fq28.n9:ACode:=(.loop fq28.n10)
def fq28.n8:ACode:=(.block 3 (.seq (.reg [O 8 (.entry (.r 7)),O 8 (.ext 0 (.r 8)),O 9 (.alloc [(.int .i64 0),(.int .i64 0)]),⟨none,(.store 2 (.r 9) (.r 8)),none⟩]) (.seq (.reg [O 8 (.chk (.r 0)),O 8 (.off 6 (.r 8)),O 8 (.load none (.r 8)),O 8 (.len false (.r 8)),O 4 (.mov (.c (.int .i64 0)))]) (.block 4 fq28.n9))))
def fq28.n7:ACode:=(.exit 2)
def fq28.n6:ACode:=(.seq (.reg [O 8 (.next (.r 7)),O 8 (.ext 0 (.r 8))]) (.seq (.cond (.r 8) .skip fq28.n7) fq28.n8))
def fq28.n5:ACode:=(.loop fq28.n6)
def fq28.n4:ACode:=(.seq (.block 1 (.seq (.reg []) (.seq (.reg [O 6 (.mkmap (.mk true [(.int .i64),(.int .i64)]))]) (.seq (.seq (.reg [O 7 (.iaddr 1 none (.r 2) (.r 3)),O 7 (.load none (.r 7)),O 7 (.range (.r 7))]) (.block 2 fq28.n5)) fq28.n15)))) fq28.n16)
def fq28.n3:ACode:=(.exit 0)
def fq28.n2:ACode:=(.seq (.reg [O 6 (.bin .lss (.r 3) (.r 5))]) (.seq (.cond (.r 6) .skip fq28.n3) fq28.n4))
def fq28.n1:ACode:=(.loop fq28.n2)
def fq28.n0:ACode:=(.seq (.reg [O 1 (.mov (.c (.slice true 0 [])))]) (.seq (.reg [O 5 (.mkmap (.mk true [(.int .i64),(.int .i64)])),O 6 (.chk (.r 0)),O 6 (.off 0 (.r 6)),O 6 (.off 0 (.r 6)),O 6 (.load none (.r 6)),O 6 (.build [(.int .i64 0),(.int .i64 0)] [(0,(1,(.r 6))),(1,(1,(.c (.int .i64 0))))]),⟨none,(.mupd (.mk true [(.int .i64),(.int .i64)]) (.r 5) (.r 6) (.c (.bool true))),none⟩,O 5 (.lit 1 [.nilmap] [(0,(.r 5))] false true),O 2 (.mov (.r 5))]) (.seq (.seq (.reg [O 5 (.chk (.r 0)),O 5 (.off 0 (.r 5)),O 5 (.off 3 (.r 5)),O 5 (.load none (.r 5)),O 5 (.len false (.r 5)),O 3 (.mov (.c (.int .i64 0)))]) (.block 0 fq28.n1)) fq28.n17)))
def fq28.res:List ARes:=[⟨1,none,none⟩]
def fq28.fn:AFunc:=⟨1,12,fq28.res,fq28.n0⟩
theorem fq28.ra:raFn fq28.fn0 12 [1] (.two (.ops [2]) (.two (.ops [6,0,7,7,7,7,7,1,0,6,3]) (.two (.two (.ops [0,6,6,6,6,6,4]) (.at [(3,(.r 2))] (.at [(0,(.r 0)),(3,(.r 2)),(23,(.r 5)),(24,(.r 3))] (.two (.ops [7]) (.two (.join [(0,(.r 0)),(3,(.r 2)),(23,(.r 5)),(24,(.r 3))] .nil .nil) (.two (.at [(0,(.r 0)),(3,(.r 2)),(23,(.r 5)),(24,(.r 3))] (.two (.ops [0,0]) (.two (.ops [7,0]) (.two (.two (.ops [0,0,8,8,8]) (.at [(0,(.r 0)),(3,(.r 2)),(5,(.r 6)),(23,(.r 5)),(24,(.r 3))] (.at [(0,(.r 0)),(3,(.r 2)),(4,(.r 3)),(5,(.r 6)),(23,(.r 5)),(24,(.r 3)),(32,(.r 7))] (.two (.ops [9,9]) (.two (.join [(0,(.r 0)),(3,(.r 2)),(4,(.r 3)),(5,(.r 6)),(23,(.r 5)),(24,(.r 3)),(32,(.r 7))] .nil .nil) (.at [(0,(.r 0)),(3,(.r 2)),(4,(.r 3)),(5,(.r 6)),(23,(.r 5)),(24,(.r 3)),(32,(.r 7))] (.two (.ops [9,9,10,1]) (.two (.ops [0,9,9,9,9,5]) (.at [(0,(.r 0)),(3,(.r 2)),(4,(.r 3)),(5,(.r 6)),(23,(.r 5)),(24,(.r 3)),(32,(.r 7))] (.at [(0,(.r 0)),(3,(.r 2)),(4,(.r 3)),(5,(.r 6)),(6,(.r 9)),(23,(.r 5)),(24,(.r 3)),(32,(.r 7)),(41,(.r 8)),(42,(.r 4))] (.two (.ops [11]) (.two (.join [(0,(.r 0)),(3,(.r 2)),(4,(.r 3)),(5,(.r 6)),(6,(.r 9)),(23,(.r 5)),(24,(.r 3)),(32,(.r 7)),(41,(.r 8)),(42,(.r 4))] .nil .nil) (.two (.at [(0,(.r 0)),(3,(.r 2)),(4,(.r 3)),(5,(.r 6)),(6,(.r 9)),(23,(.r 5)),(24,(.r 3)),(32,(.r 7)),(41,(.r 8)),(42,(.r 4))] (.two (.ops [0,0]) (.two (.ops [0,0,11,11,0,11,0]) (.two (.ops [0,0,12,12,12,12,12]) (.join [(0,(.r 0)),(3,(.r 2)),(4,(.r 3)),(5,(.r 6)),(6,(.r 9)),(23,(.r 5)),(24,(.r 3)),(32,(.r 7)),(41,(.r 8)),(42,(.r 4))] (.ops [0,0,0,11,1]) .nil))))) (.ops [11,5])))))))))))))) (.ops [0,0,7,7,3]))))) (.ops [7,4]))))))) (.two (.ops [0,2]) .nil))))=some fq28.fn:=by kernel_rfl
theorem fq28.ul:((rRes fq28.fn0.results [1]).all fun q=>uniB q.2)=true:=by kernel_rfl
noncomputable def fq49.fn0:AFunc:=(compileFn Tryd.prog [] [] [] Tryd.f73).getD ⟨0,0,[],.skip⟩
theorem fq49.ok:compileFn Tryd.prog [] [] [] Tryd.f73=some fq49.fn0:=getD_some (by kernel_rfl)
def fq49.n5:ACode:=(.seq (.reg [O 1 (.bin .rem (.r 0) (.c (.int .i64 2))),O 1 (.bin .eql (.r 1) (.c (.int .i64 1))),O 2 (.mov (.r 1))]) .ret)
def fq49.n4:ACode:=(.seq (.block 1 (.reg [O 4 (.bin .quo (.r 0) (.c (.int .i64 2))),O 0 (.mov (.r 4))])) (.reg [O 4 (.bin .add (.r 3) (.c (.int .i64 1))),O 3 (.mov (.r 4))]))
def fq49.n3:ACode:=(.exit 0)
def fq49.n2:ACode:=(.seq (.seq (.reg [O 4 (.bin .lss (.r 3) (.r 1))]) (.cond (.r 4) .skip fq49.n3)) fq49.n4)
def fq49.n1:ACode:=(.loop fq49.n2)
def fq49.n0:ACode:=(.seq (.reg [O 2 (.mov (.c (.bool false)))]) (.seq (.seq (.reg [O 3 (.mov (.c (.int .i64 0)))]) (.block 0 fq49.n1)) fq49.n5))
def fq49.res:List ARes:=[⟨2,none,none⟩]
def fq49.fn:AFunc:=⟨2,5,fq49.res,fq49.n0⟩
theorem fq49.ra:raFn fq49.fn0 5 [2] (.two (.ops [3]) (.two (.two (.ops [4]) (.at [(0,(.r 0))] (.at [(0,(.r 0)),(1,(.r 1)),(5,(.r 3))] (.two (.two (.ops [0,0,5]) (.join [(0,(.r 0)),(1,(.r 1)),(5,(.r 3))] .nil .nil)) (.two (.at [(0,(.r 0)),(1,(.r 1)),(5,(.r 3))] (.ops [0,5,1])) (.ops [0,5,4])))))) (.two (.ops [0,2,2,3]) .nil)))=some fq49.fn:=by kernel_rfl
theorem fq49.ul:((rRes fq49.fn0.results [2]).all fun q=>uniB q.2)=true:=by kernel_rfl
noncomputable def fq44.fn0:AFunc:=(compileFn Tryd.prog [] [] [] Tryd.f74).getD ⟨0,0,[],.skip⟩
theorem fq44.ok:compileFn Tryd.prog [] [] [] Tryd.f74=some fq44.fn0:=getD_some (by kernel_rfl)
def fq44.n0:ACode:=(.seq (.reg [O 3 (.mov (.c (.bool false)))]) (.seq (.reg [O 1 (.bin .leq (.r 1) (.r 0)),⟨(some 0),(.mov (.r 0)),(some (1,true))⟩,⟨(some 2),(.mov (.r 2)),(some (1,true))⟩,⟨(some 0),(.bin .leq (.r 0) (.r 2)),(some (1,true))⟩,O 0 (.pick (.r 1) (.r 0) (.c (.bool false))),O 3 (.mov (.r 0))]) .ret))
def fq44.res:List ARes:=[⟨3,none,none⟩]
def fq44.fn:AFunc:=⟨3,4,fq44.res,fq44.n0⟩
theorem fq44.ra:raFn fq44.fn0 4 [3] (.two (.ops [4]) (.two (.ops [0,0,2,0,1,3,1,1,4]) .nil))=some fq44.fn:=by kernel_rfl
theorem fq44.ul:((rRes fq44.fn0.results [3]).all fun q=>uniB q.2)=true:=by kernel_rfl
noncomputable def fq62.fn0:AFunc:=(compileFn Tryd.prog [] [] [] Tryd.f75).getD ⟨0,0,[],.skip⟩
theorem fq62.ok:compileFn Tryd.prog [] [] [] Tryd.f75=some fq62.fn0:=getD_some (by kernel_rfl)
def fq62.n7:ACode:=(.seq (.reg [O 2 (.mov (.c (.int .i64 (-1))))]) .ret)
def fq62.n6:ACode:=(.reg [O 5 (.bin .add (.r 3) (.c (.int .i64 1))),O 3 (.mov (.r 5))])
def fq62.n5:ACode:=(.seq (.reg [O 2 (.mov (.r 3))]) .ret)
def fq62.n4:ACode:=(.seq (.block 1 (.seq (.reg []) (.seq (.reg [O 5 (.iaddr 2 none (.r 0) (.r 3)),O 5 (.load (some 2) (.r 5)),O 5 (.callv (.r 1) [(.r 5)])]) (.cond (.r 5) fq62.n5 .skip)))) fq62.n6)
def fq62.n3:ACode:=(.exit 0)
def fq62.n2:ACode:=(.seq (.reg [O 5 (.bin .lss (.r 3) (.r 4))]) (.seq (.cond (.r 5) .skip fq62.n3) fq62.n4))
def fq62.n1:ACode:=(.loop fq62.n2)
def fq62.n0:ACode:=(.seq (.reg [O 2 (.mov (.c (.int .i64 0)))]) (.seq (.seq (.reg [O 4 (.len false (.r 0)),O 3 (.mov (.c (.int .i64 0)))]) (.block 0 fq62.n1)) fq62.n7))
def fq62.res:List ARes:=[⟨2,none,none⟩]
def fq62.fn:AFunc:=⟨2,6,fq62.res,fq62.n0⟩
theorem fq62.ra:raFn fq62.fn0 6 [2] (.two (.ops [3]) (.two (.two (.ops [0,5,4]) (.at [] (.at [(0,(.r 0)),(1,(.r 1)),(7,(.r 4)),(8,(.r 3))] (.two (.ops [6]) (.two (.join [(0,(.r 0)),(1,(.r 1)),(7,(.r 4)),(8,(.r 3))] .nil .nil) (.two (.at [(0,(.r 0)),(1,(.r 1)),(7,(.r 4)),(8,(.r 3))] (.two (.ops [0,0]) (.two (.ops [0,0,0,6,6,6]) (.join [(0,(.r 0)),(1,(.r 1)),(7,(.r 4)),(8,(.r 3))] (.two (.ops [0,3]) .nil) .nil)))) (.ops [6,4]))))))) (.two (.ops [3]) .nil)))=some fq62.fn:=by kernel_rfl
theorem fq62.ul:((rRes fq62.fn0.results [2]).all fun q=>uniB q.2)=true:=by kernel_rfl
noncomputable def fq59.fn0:AFunc:=(compileFn Tryd.prog [] [] [] Tryd.f76).getD ⟨0,0,[],.skip⟩
theorem fq59.ok:compileFn Tryd.prog [] [] [] Tryd.f76=some fq59.fn0:=getD_some (by kernel_rfl)
def fq59.n0:ACode:=(.seq (.reg [O 2 (.mov (.c (.bool false)))]) (.seq (.reg [O 0 (.call F_fq63 [(.r 0),(.r 1)]),O 0 (.bin .geq (.r 0) (.c (.int .i64 0))),O 2 (.mov (.r 0))]) .ret))
def fq59.res:List ARes:=[⟨2,none,none⟩]
def fq59.fn:AFunc:=⟨2,3,fq59.res,fq59.n0⟩
theorem fq59.ra:raFn fq59.fn0 3 [2] (.two (.ops [3]) (.two (.ops [0,0,1,1,3]) .nil))=some fq59.fn:=by kernel_rfl
theorem fq59.ul:((rRes fq59.fn0.results [2]).all fun q=>uniB q.2)=true:=by kernel_rfl
noncomputable def fq21.fn0:AFunc:=(compileFn Tryd.prog [] [] [] Tryd.f77).getD ⟨0,0,[],.skip⟩
theorem fq21.ok:compileFn Tryd.prog [] [] [] Tryd.f77=some fq21.fn0:=getD_some (by kernel_rfl)
def fq21.n0:ACode:=(.seq (.reg [O 1 (.mov (.c (.bool false)))]) (.seq (.reg [O 0 (.call F_fq43 [(.r 0),(.c (.int .i64 0)),(.c (.int .i64 1000000))]),O 0 (.un .not (.r 0)),O 1 (.mov (.r 0))]) .ret))
def fq21.res:List ARes:=[⟨1,none,none⟩]
def fq21.fn:AFunc:=⟨1,2,fq21.res,fq21.n0⟩
theorem fq21.ra:raFn fq21.fn0 2 [1] (.two (.ops [2]) (.two (.ops [0,1,1,2]) .nil))=some fq21.fn:=by kernel_rfl
theorem fq21.ul:((rRes fq21.fn0.results [1]).all fun q=>uniB q.2)=true:=by kernel_rfl
noncomputable def fq0.fn0:AFunc:=(compileFn Tryd.prog [] [] [] Tryd.f78).getD ⟨0,0,[],.skip⟩
theorem fq0.ok:compileFn Tryd.prog [] [] [] Tryd.f78=some fq0.fn0:=getD_some (by kernel_rfl)
def fq0.n2:ACode:=(.seq (.reg [O 0 (.call F_bits_TrailingZeros64 [(.r 0)]),O 1 (.mov (.r 0))]) .ret)
def fq0.n1:ACode:=(.seq (.reg [O 0 (.conv .u32 (.r 0)),O 0 (.call F_bits_TrailingZeros32 [(.r 0)]),O 1 (.mov (.r 0))]) .ret)
def fq0.n0:ACode:=(.seq (.reg [O 1 (.mov (.c (.int .i64 0)))]) (.seq (.cond (.c (.bool false)) fq0.n1 .skip) fq0.n2))
def fq0.res:List ARes:=[⟨1,none,none⟩]
def fq0.fn:AFunc:=⟨1,2,fq0.res,fq0.n0⟩
theorem fq0.ra:raFn fq0.fn0 2 [1] (.two (.ops [2]) (.two (.join [(0,(.r 0))] (.two (.ops [0,1,1,2]) .nil) .nil) (.two (.ops [0,1,2]) .nil)))=some fq0.fn:=by kernel_rfl
theorem fq0.ul:((rRes fq0.fn0.results [1]).all fun q=>uniB q.2)=true:=by kernel_rfl
noncomputable def fq64.fn0:AFunc:=(compileFn Tryd.prog [] [] [] Tryd.f80).getD ⟨0,0,[],.skip⟩
theorem fq64.ok:compileFn Tryd.prog [] [] [] Tryd.f80=some fq64.fn0:=getD_some (by kernel_rfl)
def fq64.n7:ACode:=(.seq (.reg [O 2 (.mov (.c (.int .i64 (-1))))]) .ret)
def fq64.n6:ACode:=(.reg [O 5 (.bin .add (.r 3) (.c (.int .i64 1))),O 3 (.mov (.r 5))])
def fq64.n5:ACode:=(.seq (.reg [O 2 (.mov (.r 3))]) .ret)
def fq64.n4:ACode:=(.seq (.block 1 (.seq (.reg []) (.seq (.reg [O 5 (.iaddr 1 none (.r 0) (.r 3)),O 5 (.load none (.r 5)),O 5 (.callv (.r 1) [(.r 5)])]) (.cond (.r 5) fq64.n5 .skip)))) fq64.n6)
def fq64.n3:ACode:=(.exit 0)
def fq64.n2:ACode:=(.seq (.reg [O 5 (.bin .lss (.r 3) (.r 4))]) (.seq (.cond (.r 5) .skip fq64.n3) fq64.n4))
def fq64.n1:ACode:=(.loop fq64.n2)
def fq64.n0:ACode:=(.seq (.reg [O 2 (.mov (.c (.int .i64 0)))]) (.seq (.seq (.reg [O 4 (.len false (.r 0)),O 3 (.mov (.c (.int .i64 0)))]) (.block 0 fq64.n1)) fq64.n7))
def fq64.res:List ARes:=[⟨2,none,none⟩]
def fq64.fn:AFunc:=⟨2,6,fq64.res,fq64.n0⟩
theorem fq64.ra:raFn fq64.fn0 6 [2] (.two (.ops [3]) (.two (.two (.ops [0,5,4]) (.at [] (.at [(0,(.r 0)),(1,(.r 1)),(7,(.r 4)),(8,(.r 3))] (.two (.ops [6]) (.two (.join [(0,(.r 0)),(1,(.r 1)),(7,(.r 4)),(8,(.r 3))] .nil .nil) (.two (.at [(0,(.r 0)),(1,(.r 1)),(7,(.r 4)),(8,(.r 3))] (.two (.ops [0,0]) (.two (.ops [0,0,0,6,6,6]) (.join [(0,(.r 0)),(1,(.r 1)),(7,(.r 4)),(8,(.r 3))] (.two (.ops [0,3]) .nil) .nil)))) (.ops [6,4]))))))) (.two (.ops [3]) .nil)))=some fq64.fn:=by kernel_rfl
theorem fq64.ul:((rRes fq64.fn0.results [2]).all fun q=>uniB q.2)=true:=by kernel_rfl
noncomputable def fq30.fn0:AFunc:=(compileFn Tryd.prog [] [] [] Tryd.f81).getD ⟨0,0,[],.skip⟩
theorem fq30.ok:compileFn Tryd.prog [] [] [] Tryd.f81=some fq30.fn0:=getD_some (by kernel_rfl)
def fq30.n0:ACode:=(.seq (.reg [O 2 (.mov (.c (.bool false)))]) (.seq (.reg [O 1 (.load none (.r 1)),O 1 (.chk (.r 1)),O 1 (.off 6 (.r 1)),O 1 (.load none (.r 1)),O 1 (.len false (.r 1)),O 1 (.bin .sub (.r 1) (.c (.int .i64 1))),O 0 (.call F_fq43 [(.r 0),(.c (.int .i64 0)),(.r 1)]),O 0 (.un .not (.r 0)),O 2 (.mov (.r 0))]) .ret))
def fq30.res:List ARes:=[⟨2,none,none⟩]
def fq30.fn:AFunc:=⟨2,3,fq30.res,fq30.n0⟩
theorem fq30.ra:raFn fq30.fn0 3 [2] (.two (.ops [3]) (.two (.ops [0,2,2,2,2,2,2,1,1,3]) .nil))=some fq30.fn:=by kernel_rfl
theorem fq30.ul:((rRes fq30.fn0.results [2]).all fun q=>uniB q.2)=true:=by kernel_rfl
noncomputable def fq33.fn0:AFunc:=(compileFn Tryd.prog [] [] [] Tryd.f82).getD ⟨0,0,[],.skip⟩
theorem fq33.ok:compileFn Tryd.prog [] [] [] Tryd.f82=some fq33.fn0:=getD_some (by kernel_rfl)
def fq33.n0:ACode:=(.seq (.reg [O 2 (.mov (.c (.int .u64 0)))]) (.seq (.reg [O 1 (.conv .u64 (.r 1)),O 1 (.bin .shl (.c (.int .u64 1)) (.r 1)),O 0 (.bin .andNot (.r 0) (.r 1)),O 2 (.mov (.r 0))]) .ret))
def fq33.res:List ARes:=[⟨2,none,none⟩]
def fq33.fn:AFunc:=⟨2,3,fq33.res,fq33.n0⟩
theorem fq33.ra:raFn fq33.fn0 3 [2] (.two (.ops [3]) (.two (.ops [0,0,2,2,1,3]) .nil))=some fq33.fn:=by kernel_rfl
theorem fq33.ul:((rRes fq33.fn0.results [2]).all fun q=>uniB q.2)=true:=by kernel_rfl
noncomputable def fq31.fn0:AFunc:=(compileFn Tryd.prog [] [] [] Tryd.f83).getD ⟨0,0,[],.skip⟩
theorem fq31.ok:compileFn Tryd.prog [] [] [] Tryd.f83=some fq31.fn0:=getD_some (by kernel_rfl)
def fq31.n0:ACode:=(.seq (.reg [O 1 (.mov (.c (.int .i64 0)))]) (.seq (.reg [O 0 (.call F_fq0 [(.r 0)]),O 1 (.mov (.r 0))]) .ret))
def fq31.res:List ARes:=[⟨1,none,none⟩]
def fq31.fn:AFunc:=⟨1,2,fq31.res,fq31.n0⟩
theorem fq31.ra:raFn fq31.fn0 2 [1] (.two (.ops [2]) (.two (.ops [0,1,2]) .nil))=some fq31.fn:=by kernel_rfl
theorem fq31.ul:((rRes fq31.fn0.results [1]).all fun q=>uniB q.2)=true:=by kernel_rfl
noncomputable def fq4.fn0:AFunc:=(compileFn Tryd.prog [] [] [] Tryd.f84).getD ⟨0,0,[],.skip⟩
theorem fq4.ok:compileFn Tryd.prog [] [] [] Tryd.f84=some fq4.fn0:=getD_some (by kernel_rfl)
def fq4.n0:ACode:=(.seq (.reg [O 1 (.mov (.c (.bool false)))]) (.seq (.reg [O 2 (.len false (.r 0)),O 2 (.bin .leq (.r 2) (.c (.int .i64 200))),⟨(some 0),(.mov (.r 0)),(some (2,true))⟩,⟨(some 0),(.call F_fq57 [(.r 0),(.c (.fn F_fq5 []))]),(some (2,true))⟩,⟨(some 0),(.un .not (.r 0)),(some (2,true))⟩,O 0 (.pick (.r 2) (.r 0) (.c (.bool false))),O 1 (.mov (.r 0))]) .ret))
def fq4.res:List ARes:=[⟨1,none,none⟩]
def fq4.fn:AFunc:=⟨1,3,fq4.res,fq4.n0⟩
theorem fq4.ra:raFn fq4.fn0 3 [1] (.two (.ops [2]) (.two (.ops [0,3,3,0,1,1,1,1,2]) .nil))=some fq4.fn:=by kernel_rfl
theorem fq4.ul:((rRes fq4.fn0.results [1]).all fun q=>uniB q.2)=true:=by kernel_rfl
noncomputable def fq42.fn0:AFunc:=(compileFn Tryd.prog [] [] [] Tryd.f85).getD ⟨0,0,[],.skip⟩
theorem fq42.ok:compileFn Tryd.prog [] [] [] Tryd.f85=some fq42.fn0:=getD_some (by kernel_rfl)
def fq42.n5:ACode:=(.reg [O 3 (.bin .add (.r 2) (.c (.int .i64 1))),O 2 (.mov (.r 3))])
def fq42.n4:ACode:=(.seq (.block 1 (.seq (.reg []) (.seq (.reg [O 3 (.load none (.r 1)),O 3 (.look (.mk false [(.int .i64)]) (.slice true 0 []) false (.r 3) (.r 2)),O 3 (.callv (.r 0) [(.r 2),(.r 3)]),O 3 (.un .not (.r 3))]) (.cond (.r 3) .ret .skip)))) fq42.n5)
def fq42.n3:ACode:=(.exit 0)
def fq42.n2:ACode:=(.seq (.reg [O 3 (.bin .lss (.r 2) (.c (.int .i64 500)))]) (.seq (.cond (.r 3) .skip fq42.n3) fq42.n4))
def fq42.n1:ACode:=(.loop fq42.n2)
def fq42.n0:ACode:=(.seq (.reg [O 2 (.mov (.c (.int .i64 0)))]) (.block 0 fq42.n1))
def fq42.res:List ARes:=[]
def fq42.fn:AFunc:=⟨2,4,fq42.res,fq42.n0⟩
theorem fq42.ra:raFn fq42.fn0 4 [] (.two (.ops [3]) (.at [] (.at [(0,(.r 0)),(1,(.r 1)),(4,(.r 2))] (.two (.ops [4]) (.two (.join [(0,(.r 0)),(1,(.r 1)),(4,(.r 2))] .nil .nil) (.two (.at [(0,(.r 0)),(1,(.r 1)),(4,(.r 2))] (.two (.ops [0,0]) (.two (.ops [0,0,4,0,4,4,4]) (.join [(0,(.r 0)),(1,(.r 1)),(4,(.r 2))] .nil .nil)))) (.ops [4,3])))))))=some fq42.fn:=by kernel_rfl
theorem fq42.ul:((rRes fq42.fn0.results []).all fun q=>uniB q.2)=true:=by kernel_rfl
noncomputable def fq63.fn0:AFunc:=(compileFn Tryd.prog [] [] [] Tryd.f86).getD ⟨0,0,[],.skip⟩
theorem fq63.ok:compileFn Tryd.prog [] [] [] Tryd.f86=some fq63.fn0:=getD_some (by kernel_rfl)
def fq63.n7:ACode:=(.seq (.reg [O 2 (.mov (.c (.int .i64 (-1))))]) .ret)
def fq63.n6:ACode:=(.reg [O 5 (.bin .add (.r 3) (.c (.int .i64 1))),O 3 (.mov (.r 5))])
def fq63.n5:ACode:=(.seq (.reg [O 2 (.mov (.r 3))]) .ret)
def fq63.n4:ACode:=(.seq (.block 1 (.seq (.reg []) (.seq (.reg [O 5 (.iaddr 1 none (.r 0) (.r 3)),O 5 (.load none (.r 5)),O 5 (.callv (.r 1) [(.r 5)])]) (.cond (.r 5) fq63.n5 .skip)))) fq63.n6)
def fq63.n3:ACode:=(.exit 0)
def fq63.n2:ACode:=(.seq (.reg [O 5 (.bin .lss (.r 3) (.r 4))]) (.seq (.cond (.r 5) .skip fq63.n3) fq63.n4))
def fq63.n1:ACode:=(.loop fq63.n2)
def fq63.n0:ACode:=(.seq (.reg [O 2 (.mov (.c (.int .i64 0)))]) (.seq (.seq (.reg [O 4 (.len false (.r 0)),O 3 (.mov (.c (.int .i64 0)))]) (.block 0 fq63.n1)) fq63.n7))
def fq63.res:List ARes:=[⟨2,none,none⟩]
def fq63.fn:AFunc:=⟨2,6,fq63.res,fq63.n0⟩
theorem fq63.ra:raFn fq63.fn0 6 [2] (.two (.ops [3]) (.two (.two (.ops [0,5,4]) (.at [] (.at [(0,(.r 0)),(1,(.r 1)),(7,(.r 4)),(8,(.r 3))] (.two (.ops [6]) (.two (.join [(0,(.r 0)),(1,(.r 1)),(7,(.r 4)),(8,(.r 3))] .nil .nil) (.two (.at [(0,(.r 0)),(1,(.r 1)),(7,(.r 4)),(8,(.r 3))] (.two (.ops [0,0]) (.two (.ops [0,0,0,6,6,6]) (.join [(0,(.r 0)),(1,(.r 1)),(7,(.r 4)),(8,(.r 3))] (.two (.ops [0,3]) .nil) .nil)))) (.ops [6,4]))))))) (.two (.ops [3]) .nil)))=some fq63.fn:=by kernel_rfl
theorem fq63.ul:((rRes fq63.fn0.results [2]).all fun q=>uniB q.2)=true:=by kernel_rfl
noncomputable def fq57.fn0:AFunc:=(compileFn Tryd.prog [] [] [] Tryd.f89).getD ⟨0,0,[],.skip⟩
theorem fq57.ok:compileFn Tryd.prog [] [] [] Tryd.f89=some fq57.fn0:=getD_some (by kernel_rfl)
def fq57.n0:ACode:=(.seq (.reg [O 2 (.mov (.c (.bool false)))]) (.seq (.reg [O 0 (.call F_fq61 [(.r 0),(.r 1)]),O 0 (.bin .geq (.r 0) (.c (.int .i64 0))),O 2 (.mov (.r 0))]) .ret))
def fq57.res:List ARes:=[⟨2,none,none⟩]
def fq57.fn:AFunc:=⟨2,3,fq57.res,fq57.n0⟩
theorem fq57.ra:raFn fq57.fn0 3 [2] (.two (.ops [3]) (.two (.ops [0,0,1,1,3]) .nil))=some fq57.fn:=by kernel_rfl
theorem fq57.ul:((rRes fq57.fn0.results [2]).all fun q=>uniB q.2)=true:=by kernel_rfl
noncomputable def fq5.fn0:AFunc:=(compileFn Tryd.prog [] [] [] Tryd.f90).getD ⟨0,0,[],.skip⟩
theorem fq5.ok:compileFn Tryd.prog [] [] [] Tryd.f90=some fq5.fn0:=getD_some (by kernel_rfl)
def fq5.n0:ACode:=(.seq (.reg [O 0 (.box 3 (.r 0)),O 1 (.mov (.c (.bool false)))]) (.seq (.reg [O 2 (.off 0 (.r 0)),O 2 (.load none (.r 2)),O 2 (.call F_fq43 [(.r 2),(.c (.int .i64 0)),(.c (.int .i64 7))]),O 2 (.un .not (.r 2)),⟨(some 3),(.off 1 (.r 0)),(some (2,false))⟩,⟨(some 3),(.load none (.r 3)),(some (2,false))⟩,⟨(some 3),(.call F_fq43 [(.r 3),(.c (.int .i64 0)),(.c (.int .i64 499))]),(some (2,false))⟩,⟨(some 3),(.un .not (.r 3)),(some (2,false))⟩,O 2 (.pick (.r 2) (.c (.bool true)) (.r 3)),⟨(some 3),(.off 2 (.r 0)),(some (2,false))⟩,⟨(some 3),(.load none (.r 3)),(some (2,false))⟩,⟨(some 0),(.off 1 (.r 0)),(some (2,false))⟩,⟨(some 0),(.load none (.r 0)),(some (2,false))⟩,⟨(some 0),(.bin .add (.r 0) (.c (.int .i64 1))),(some (2,false))⟩,⟨(some 0),(.call F_fq43 [(.r 3),(.r 0),(.c (.int .i64 500))]),(some (2,false))⟩,⟨(some 0),(.un .not (.r 0)),(some (2,false))⟩,O 0 (.pick (.r 2) (.c (.bool true)) (.r 0)),O 1 (.mov (.r 0))]) .ret))
def fq5.res:List ARes:=[⟨1,none,none⟩]
def fq5.fn:AFunc:=⟨1,4,fq5.res,fq5.n0⟩
theorem fq5.ra:raFn fq5.fn0 4 [1] (.two (.ops [1,2]) (.two (.ops [3,3,3,3,0,4,4,4,4,3,0,4,4,1,1,1,1,1,1,2]) .nil))=some fq5.fn:=by kernel_rfl
theorem fq5.ul:((rRes fq5.fn0.results [1]).all fun q=>uniB q.2)=true:=by kernel_rfl
noncomputable def fq61.fn0:AFunc:=(compileFn Tryd.prog [] [] [] Tryd.f91).getD ⟨0,0,[],.skip⟩
theorem fq61.ok:compileFn Tryd.prog [] [] [] Tryd.f91=some fq61.fn0:=getD_some (by kernel_rfl)
def fq61.n7:ACode:=(.seq (.reg [O 2 (.mov (.c (.int .i64 (-1))))]) .ret)
def fq61.n6:ACode:=(.reg [O 5 (.bin .add (.r 3) (.c (.int .i64 1))),O 3 (.mov (.r 5))])
def fq61.n5:ACode:=(.seq (.reg [O 2 (.mov (.r 3))]) .ret)
def fq61.n4:ACode:=(.seq (.block 1 (.seq (.reg []) (.seq (.reg [O 5 (.iaddr 3 none (.r 0) (.r 3)),O 5 (.load (some 3) (.r 5)),O 5 (.callv (.r 1) [(.r 5)])]) (.cond (.r 5) fq61.n5 .skip)))) fq61.n6)
def fq61.n3:ACode:=(.exit 0)
def fq61.n2:ACode:=(.seq (.reg [O 5 (.bin .lss (.r 3) (.r 4))]) (.seq (.cond (.r 5) .skip fq61.n3) fq61.n4))
def fq61.n1:ACode:=(.loop fq61.n2)
def fq61.n0:ACode:=(.seq (.reg [O 2 (.mov (.c (.int .i64 0)))]) (.seq (.seq (.reg [O 4 (.len false (.r 0)),O 3 (.mov (.c (.int .i64 0)))]) (.block 0 fq61.n1)) fq61.n7))
def fq61.res:List ARes:=[⟨2,none,none⟩]
def fq61.fn:AFunc:=⟨2,6,fq61.res,fq61.n0⟩
theorem fq61.ra:raFn fq61.fn0 6 [2] (.two (.ops [3]) (.two (.two (.ops [0,5,4]) (.at [] (.at [(0,(.r 0)),(1,(.r 1)),(7,(.r 4)),(8,(.r 3))] (.two (.ops [6]) (.two (.join [(0,(.r 0)),(1,(.r 1)),(7,(.r 4)),(8,(.r 3))] .nil .nil) (.two (.at [(0,(.r 0)),(1,(.r 1)),(7,(.r 4)),(8,(.r 3))] (.two (.ops [0,0]) (.two (.ops [0,0,0,6,6,6]) (.join [(0,(.r 0)),(1,(.r 1)),(7,(.r 4)),(8,(.r 3))] (.two (.ops [0,3]) .nil) .nil)))) (.ops [6,4]))))))) (.two (.ops [3]) .nil)))=some fq61.fn:=by kernel_rfl
theorem fq61.ul:((rRes fq61.fn0.results [2]).all fun q=>uniB q.2)=true:=by kernel_rfl
noncomputable def tab:List (Option AEntry):=[none,none,none,none,some (.code fq1.fn0),none,none,none,none,none,none,some (.code fq2.fn0),some (.code fq9.fn0),none,some (.code fq45.fn0),some (.code fq46.fn0),some (.code fq48.fn0),some (.code fq47.fn0),some (.code fq3.fn0),some (.code fq12.fn0),none,some (.code fq50.fn0),none,none,none,some (.code fq15.fn0),none,some (.code fq7.fn0),none,none,none,some (.code fq11.fn0),none,some (.code fq6.fn0),some (.code fq17.fn0),some (.code fq10.fn0),some (.code fq24.fn0),some (.code fq25.fn0),some (.code fq27.fn0),none,some (.code fq52.fn0),some (.code fq54.fn0),some (.code fq55.fn0),some (.code fq56.fn0),some (.code fq53.fn0),some (.code fq51.fn0),some (.code fq58.fn0),some (.code fq13.fn0),some (.code fq20.fn0),some (.code fq14.fn0),some (.code fq38.fn0),some (.code fq39.fn0),some (.code fq40.fn0),none,none,some (.code fq16.fn0),some (.code fq37.fn0),some (.code fq34.fn0),none,some (.code fq43.fn0),some (.code fq60.fn0),some (.code fq8.fn0),some (.code fq35.fn0),some (.code fq36.fn0),some (.code fq29.fn0),some (.code fq26.fn0),some (.code fq19.fn0),some (.code fq18.fn0),some (.code fq41.fn0),some (.code fq22.fn0),some (.code fq23.fn0),some (.code fq32.fn0),some (.code fq28.fn0),some (.code fq49.fn0),some (.code fq44.fn0),some (.code fq62.fn0),some (.code fq59.fn0),some (.code fq21.fn0),some (.code fq0.fn0),none,some (.code fq64.fn0),some (.code fq30.fn0),some (.code fq33.fn0),some (.code fq31.fn0),some (.code fq4.fn0),some (.code fq42.fn0),some (.code fq63.fn0),none,some (.ext ctz64),some (.code fq57.fn0),some (.code fq5.fn0),some (.code fq61.fn0)]
noncomputable def prog:AProg:=ofTab tab
end Go.Proofs.YtcebebhaahpoiaaDoor
end
section
namespace Go.Ai
open Go
structure DF (b:Array Nat) (ops:Array Oper) (as1:List AOp):Prop where
  len:as1.length=ops.size
  edge:∀ j,j < as1.length→∃ o,ops[j]?=some o∧(∀ e,e ∈ o.after→Region.binds .any e=true→e.on < j) ∧
    (∀ i,i < as1.length→aheadB b i j=true→∃ e,e ∈ o.after∧Region.binds .any e=true∧(e.on=i∨aheadB b i e.on=true))
  self:∀ j,j < as1.length→drawSelf b as1 j=true
  pair:∀ i j,i < j→j < as1.length→drawPair b as1 i j=true
theorem DF.of {b:Array Nat} {ops:Array Oper} {as1:List AOp} (hl:as1.length=ops.size) (h:drawOK b ops as1=true):DF b ops as1:=by
  unfold drawOK at h
  have h:=List.all_eq_true.1 h
  refine ⟨hl,fun j hj=>?_,fun j hj=>?_,fun i j hij hj=>?_⟩
  · have h1:=h j (List.mem_range.2 hj)
    simp only [Bool.and_eq_true] at h1
    have h2:=h1.1.1
    unfold drawEdges at h2
    split at h2
    · cases h2
    · rename_i o ho
      simp only [Bool.and_eq_true] at h2
      refine ⟨o,ho,fun e he hb=>?_,fun i hi ha=>?_⟩
      · have:=Array.all_eq_true_iff_forall_mem.1 h2.1 e he
        simpa [hb] using this
      · have:=List.all_eq_true.1 h2.2 i (List.mem_range.2 (by omega))
        rw [ha] at this
        simp only [Bool.not_true,Bool.false_or] at this
        rw [← Array.any_toList,List.any_eq_true] at this
        obtain ⟨e,he,hq⟩:=this
        simp only [Bool.and_eq_true,Bool.or_eq_true,beq_iff_eq] at hq
        exact ⟨e,Array.mem_toList_iff.1 he,hq.1,hq.2⟩
  · have h1:=h j (List.mem_range.2 hj)
    simp only [Bool.and_eq_true] at h1
    exact h1.1.2
  · have h1:=h j (List.mem_range.2 hj)
    simp only [Bool.and_eq_true] at h1
    exact List.all_eq_true.1 h1.2 i (List.mem_range.2 hij)
section
variable {b:Array Nat} {ops:Array Oper} {as1:List AOp}
theorem DF.ahead_lt (h:DF b ops as1):∀ (j:Nat),j < as1.length→∀ i,i < as1.length→aheadB b i j=true→i < j:=by
  intro j
  induction j using Nat.strongRecOn with
  | _ j ih =>
    intro hj i hi ha
    obtain ⟨o,ho,h1,h2⟩:=h.edge j hj
    obtain ⟨e,he,hb,hq⟩:=h2 i hi ha
    have hlt:=h1 e he hb
    rcases hq with rfl | hq
    · exact hlt
    · exact Nat.lt_trans (ih e.on hlt (by omega) i hi hq) hlt
theorem DF.kind (h:DF b ops as1) (j:Nat) (hj:j < as1.length):kindOK (opAt as1 j).ins:=by
  have hs:=h.self j hj
  unfold drawSelf at hs
  simp only [Bool.and_eq_true] at hs
  have h1:=hs.1
  by_cases ha:(opAt as1 j).ins.isAlloc=true
  · exact .inr (.inl ha)
  · have ha':(opAt as1 j).ins.isAlloc=false:=by simpa using ha
    by_cases he:(opAt as1 j).ins.eff=true
    · refine .inr (.inr ⟨he,ha',fun x hx=>?_,fun x hx=>?_⟩) <;> (rw [hx] at h1; simp at h1)
    · have he':(opAt as1 j).ins.eff=false:=by simpa using he
      left
      unfold AIns.calm
      rw [he',ha']
      simp only [Bool.not_false,Bool.and_true,Bool.true_and]
      split
      · rename_i hl; rw [hl] at h1; simpa using h1
      · rename_i hl; rw [hl] at h1; simp at h1
      · rfl
theorem DF.dst (h:DF b ops as1) (i j:Nat) (hij:i < j) (hj:j < as1.length) (d:Nat) (hd:(opAt as1 i).dst=some d):(opAt as1 j).dst ≠ some d:=by
  intro hd'
  have hp:=h.pair i j hij hj
  unfold drawPair at hp
  simp only [Bool.and_eq_true] at hp
  have:=hp.1.1.1
  rw [hd,hd'] at this
  simp at this
theorem DF.dst_ne (h:DF b ops as1) {i j:Nat} (hi:i < as1.length) (hj:j < as1.length) {d:Nat} (h1:(opAt as1 i).dst=some d) (h2:(opAt as1 j).dst=some d):i=j:=by
  rcases Nat.lt_trichotomy i j with e | e | e
  · exact absurd h2 (h.dst i j e hj d h1)
  · exact e
  · exact absurd h1 (h.dst j i e hi d h2)
theorem dstIn_of {d:Option Nat} {l:List Nat} {r:Nat} (hd:d=some r) (hr:r ∈ l):dstIn d l=true:=by
  subst hd
  simpa [dstIn] using hr
theorem DF.named (h:DF b ops as1) {i j r:Nat} (hij:i < j) (hj:j < as1.length) (hd:(opAt as1 i).dst=some r) (hr:r ∈ (opAt as1 j).names):aheadB b i j=true:=by
  have hp:=h.pair i j hij hj
  unfold drawPair at hp
  simp only [Bool.and_eq_true] at hp
  have:=hp.1.1.2
  rw [dstIn_of hd hr] at this
  simpa using this
theorem DF.read (h:DF b ops as1) {i j r:Nat} (hij:i < j) (hj:j < as1.length) (hd:(opAt as1 j).dst=some r) (hr:r ∈ (opAt as1 i).names):aheadB b i j=true∧(opAt as1 j).ins.isAlloc=false∧floats b as1 i=false:=by
  have hp:=h.pair i j hij hj
  unfold drawPair at hp
  simp only [Bool.and_eq_true] at hp
  have:=hp.1.2
  rw [dstIn_of hd hr] at this
  simpa [and_assoc] using this
theorem DF.effs (h:DF b ops as1) {i j:Nat} (hij:i < j) (hj:j < as1.length) (hi:(opAt as1 i).ins.eff=true) (hj':(opAt as1 j).ins.eff=true):aheadB b i j=true:=by
  have hp:=h.pair i j hij hj
  unfold drawPair at hp
  simp only [Bool.and_eq_true] at hp
  have:=hp.2
  rw [hi,hj'] at this
  simpa using this
theorem count_le {P:Nat→Bool} {p:Nat}:∀ (n:Nat),(∀ e,e < n→P e=true→e < p∧(opAt as1 e).ins.eff=true)→((List.range n).filter P).length≤cnt as1 (min n p)
  | 0,_=>Nat.zero_le _
  | n + 1,h=>by
    have ih:=count_le n (fun e he=>h e (by omega))
    rw [List.range_succ,List.filter_append,List.length_append]
    cases hP:P n with
    | true =>
      obtain ⟨h1,h2⟩:=h n (by omega) hP
      have e1:min (n + 1) p=n + 1:=by omega
      have e2:min n p=n:=by omega
      rw [e1,cnt_succ,h2]
      rw [e2] at ih
      simp [hP]
      exact ih
    | false =>
      simp [hP]
      exact Nat.le_trans ih (cnt_le as1 (by omega))
theorem le_count {P:Nat→Bool} {n:Nat}:∀ (p:Nat),p≤n→(∀ e,e < p→(opAt as1 e).ins.eff=true→P e=true)→cnt as1 p≤((List.range n).filter P).length:=by
  have mono : ∀ (p n:Nat),p≤n→((List.range p).filter P).length≤((List.range n).filter P).length:=by
    intro p n hpn
    induction n with
    | zero => have:p=0:=by omega
              subst this; exact Nat.le_refl _
    | succ n ih =>
      by_cases e:p=n + 1
      · subst e; exact Nat.le_refl _
      · rw [List.range_succ (n:=n),List.filter_append,List.length_append]
        have:=ih (by omega)
        omega
  intro p hp h
  refine Nat.le_trans ?_ (mono p n hp)
  clear hp
  induction p with
  | zero=>exact Nat.zero_le _
  | succ p ih =>
    rw [cnt_succ,List.range_succ,List.filter_append,List.length_append]
    have:=ih (fun e he=>h e (by omega))
    cases he:(opAt as1 p).ins.eff with
    | true =>
      have hP:=h p (by omega) he
      simp [hP]
      exact this
    | false=>simp; omega
theorem chkAll_mem {base:Option Nat} {ρ:Regs} {hs:List (List AObj)}:∀ {l:List (Nat × Nat × Nat)},chkAll base ρ as1 hs l=true→∀ j lo hi,(j,lo,hi) ∈ l→∃ o,as1[j]?=some o∧chkRead base ρ o ((hs.take (hi + 1)).drop lo)=true
  | [],_,j,lo,hi,hm=>by cases hm
  | (j',lo',hi') :: l,h,j,lo,hi,hm=>by
    simp only [chkAll,Bool.and_eq_true] at h
    rcases List.mem_cons.1 hm with e | hm
    · cases e
      have h1:=h.1
      split at h1
      · rename_i o ho; exact ⟨o,ho,h1⟩
      · cases h1
    · exact chkAll_mem h.2 j lo hi hm
theorem window_mem {α:Type} {l:List α} {lo hi t:Nat} {x:α} (h1:lo≤t) (h2:t≤hi) (hx:l[t]?=some x):x ∈ (l.take (hi + 1)).drop lo:=by
  refine List.mem_iff_getElem?.2 ⟨t - lo,?_⟩
  rw [List.getElem?_drop,List.getElem?_take,if_pos (by omega),show lo + (t - lo)=t by omega]
  exact hx
def chkOf (b:Array Nat) (as1:List AOp):List (Nat × Nat × Nat) :=
  ((List.range as1.length).filter (floats b as1)).map fun j=>(j,if (opAt as1 j).ins.isAlloc then 0 else loOf b as1 j,hiOf b as1 j)
theorem DF.val (h:DF b ops as1) {base:Option Nat} {ρ0 ρx:Regs} {hs0 hx:List (List AObj)} {sx:St} (F:TrFacts as1 base 0 ρ0 hs0 ρx sx hx) (hchk:chkAll base ρx as1 hx (chkOf b as1)=true) {j:Nat} (hj:j < as1.length) (hc:(opAt as1 j).ins.calm=true)
    {t:Nat} (h1:loOf b as1 j≤t) (h2:t≤hiOf b as1 j) (ht:t < hx.length) {ρa:Regs}
    (hw:∀ r i,i < j→(opAt as1 i).ins.isAlloc=false→(opAt as1 i).dst=some r→r ∈ (opAt as1 j).names→ρa.getD r .undef=ρx.getD r .undef)
    (hu:∀ r,r ∈ (opAt as1 j).names→(∀ i,i < j→(opAt as1 i).ins.isAlloc=false→(opAt as1 i).dst ≠ some r)→ρa.getD r .undef=ρ0.getD r .undef) :
    ∃ v,opV base ρa (hx.getD t []) (opAt as1 j)=some v∧∀ d,(opAt as1 j).dst=some d→d < ρ0.length→ρx.getD d .undef=v:=by
  obtain ⟨ρj,v,g1,g2,g3,g4⟩:=F.val j (Nat.zero_le _) hj hc
  have hsame:Same (opAt as1 j).names ρa ρj:=by
    intro r hr
    by_cases hex:∃ i,i < j∧(opAt as1 i).ins.isAlloc=false∧(opAt as1 i).dst=some r
    · obtain ⟨i,e1,e2,e3⟩:=hex
      rw [hw r i e1 e2 e3 hr,g3 r ⟨i,Nat.zero_le _,e1,e2,e3⟩]
    · have hno:∀ i,i < j→(opAt as1 i).ins.isAlloc=false→(opAt as1 i).dst ≠ some r:=fun i e1 e2 e3=>hex ⟨i,e1,e2,e3⟩
      rw [hu r hr hno,g4 r (fun i _=>hno i)]
  by_cases hr:(opAt as1 j).ins.reads=true
  · by_cases hlh:loOf b as1 j=hiOf b as1 j
    ·
      have hlo:loOf b as1 j≤cnt as1 j:=by
        have:=count_le (as1:=as1) (p:=j) (P:=fun e=>(opAt as1 e).ins.eff && aheadB b e j) as1.length (fun e he hp=>by
          simp only [Bool.and_eq_true] at hp
          exact ⟨h.ahead_lt j hj e he hp.2,hp.1⟩)
        refine Nat.le_trans this (cnt_le as1 (by omega))
      have hhi:cnt as1 j≤hiOf b as1 j:=le_count (P:=fun e=>(opAt as1 e).ins.eff && !aheadB b j e) (n:=as1.length) j (by omega) (fun e he hp=>by
        simp only [Bool.and_eq_true,Bool.not_eq_true']
        refine ⟨hp,?_⟩
        cases hq:aheadB b j e with
        | false=>rfl
        | true=>have:=h.ahead_lt e (by omega) j hj hq; omega)
      have:t=cnt as1 j:=by omega
      subst this
      exact ⟨v,by rw [opV_congr hsame]; exact g1,g2⟩
    · have hfl:floats b as1 j=true:=by
        unfold floats
        rw [hr]
        simp [hlh]
      have hmem:(j,loOf b as1 j,hiOf b as1 j) ∈ chkOf b as1:=by
        refine List.mem_map.2 ⟨j,List.mem_filter.2 ⟨List.mem_range.2 hj,hfl⟩,?_⟩
        rw [(calm_not hc).2.1]
        rfl
      obtain ⟨o,ho,hcr⟩:=chkAll_mem hchk _ _ _ hmem
      have hoj:opAt as1 j=o:=by simp [opAt,List.getD_eq_getElem?_getD,ho]
      have hsame2:Same (opAt as1 j).names ρx ρj:=by
        intro r hr'
        by_cases hex:∃ i,i < j∧(opAt as1 i).ins.isAlloc=false∧(opAt as1 i).dst=some r
        · obtain ⟨i,e1,e2,e3⟩:=hex
          rw [g3 r ⟨i,Nat.zero_le _,e1,e2,e3⟩]
        · have hno:∀ i,i < j→(opAt as1 i).ins.isAlloc=false→(opAt as1 i).dst ≠ some r:=fun i e1 e2 e3=>hex ⟨i,e1,e2,e3⟩
          rw [g4 r (fun i _=>hno i)]
          refine F.keep r fun i _ hin ha hd=>?_
          rcases Nat.lt_trichotomy i j with e | e | e
          · exact hno i e ha hd
          · subst e
            have hs:=h.self i hj
            unfold drawSelf at hs
            simp only [Bool.and_eq_true] at hs
            have:=hs.2
            rw [hfl,dstIn_of hd hr'] at this
            simp at this
          · have:=(h.read e hin hd hr').2.2
            rw [hfl] at this; cases this
      have e1:opV base ρa (hx.getD t []) (opAt as1 j)=opV base ρx (hx.getD t []) (opAt as1 j):=by rw [opV_congr hsame,opV_congr hsame2]
      have hxt:hx[t]?=some (hx.getD t []):=by simp [List.getD_eq_getElem?_getD,ht]
      rw [hoj] at e1 ⊢
      unfold chkRead at hcr
      by_cases hwn:wanted ρx o.guard=true
      · rw [if_pos hwn] at hcr
        have hal:o.ins.isAlloc=false:=by rw [← hoj]; exact (calm_not hc).2.1
        have key:∃ d,o.dst=some d∧((hx.take (hiOf b as1 j + 1)).drop (loOf b as1 j)).all (fun hh=>match evI base ρx { heap:=hh,leak:=false } o.ins with | some (v,_)=>v.beq (ρx.getD d .undef) | none=>false)=true:=by
          cases hd:o.dst with
          | none=>rw [hd] at hcr; cases hcr
          | some d =>
            rw [hd] at hcr
            dsimp only at hcr
            refine ⟨d,rfl,?_⟩
            split at hcr
            · rename_i hz; rw [hz] at hal; simp [AIns.isAlloc] at hal
            · exact hcr
        obtain ⟨d,hd,hall⟩:=key
        have hat:=List.all_eq_true.1 hall _ (window_mem h1 h2 hxt)
        split at hat
        · rename_i v' s' hev
          have hv':=beq_eq hat
          refine ⟨v',?_,fun d' hd' _=>?_⟩
          · rw [e1]; unfold opV; rw [if_pos hwn,hev]; rfl
          · rw [hd] at hd'; cases hd'; exact hv'.symm
        · cases hat
      · refine ⟨.undef,?_,fun d hd hdl=>?_⟩
        · rw [e1]; unfold opV; rw [if_neg hwn]
        · have hwj:wanted ρj o.guard=wanted ρx o.guard:=by
            refine (wanted_congr fun r hr'=>?_)
            exact (hsame2 r (by rw [hoj]; exact List.mem_append_right _ hr')).symm
          rw [hoj] at g1 g2
          unfold opV at g1
          rw [if_neg (by rw [hwj]; exact hwn)] at g1
          cases g1
          exact g2 d hd hdl
  · have hr':(opAt as1 j).ins.reads=false:=by simpa using hr
    exact ⟨v,by rw [opV_congr hsame,pure_opV hc hr']; exact g1,g2⟩
end
end Go.Ai
end
section
namespace Go.Ai
open Go
def allocs (l:List AOp) (i:Nat):Nat:=((l.take i).filter fun o=>o.ins.isAlloc).length
theorem hoist_cons {o:AOp} {l:List AOp} {ρ:Regs} {H:List AObj}:hoist (o :: l) ρ H=(match o.ins with
    | .alloc z=>hoist l (put ρ o.dst (.ptr H.length 0 z.length)) (H ++ [.cells z])
    | _=>hoist l ρ H):=rfl
structure HF (l:List AOp) (ρ ρ0:Regs) (H H0:List AObj):Prop where
  len:ρ0.length=ρ.length
  other:∀ r,(∀ (i:Nat) (o:AOp),l[i]?=some o→o.ins.isAlloc=true→o.dst ≠ some r)→ρ0.getD r .undef=ρ.getD r .undef
  old:∀ c,c < H.length→H0[c]?=H[c]?
  size:H.length≤H0.length
  new:∀ (i:Nat) (o:AOp) (z:List AV) (d:Nat),l[i]?=some o→o.ins=.alloc z→o.dst=some d→d < ρ.length→ρ0.getD d .undef=.ptr (H.length + allocs l i) 0 z.length∧H0[H.length + allocs l i]?=some (.cells z)
theorem hoist_facts:∀ (l:List AOp) (ρ:Regs) (H:List AObj),(∀ (i j:Nat) (o o':AOp) (d:Nat),i < j→l[i]?=some o→l[j]?=some o'→o.dst=some d→o'.dst ≠ some d)→HF l ρ (hoist l ρ H).1 H (hoist l ρ H).2
  | [],ρ,H,_=>⟨rfl,fun _ _=>rfl,fun _ _=>rfl,Nat.le_refl _,fun i o z d h=>by simp at h⟩
  | o :: l, ρ,H,hd=>by
    have hd':∀ (i j:Nat) (o o':AOp) (d:Nat),i < j→l[i]?=some o→l[j]?=some o'→o.dst=some d→o'.dst ≠ some d:=fun i j p q d hij h1 h2=>hd (i + 1) (j + 1) p q d (by omega) (by simpa using h1) (by simpa using h2)
    by_cases ha:∃ z,o.ins=.alloc z
    · obtain ⟨z,hz⟩:=ha
      have e:hoist (o :: l) ρ H=hoist l (put ρ o.dst (.ptr H.length 0 z.length)) (H ++ [.cells z]):=by rw [hoist_cons,hz]
      rw [e]
      have ih:=hoist_facts l (put ρ o.dst (.ptr H.length 0 z.length)) (H ++ [.cells z]) hd'
      have hl:(H ++ [AObj.cells z]).length=H.length + 1:=by simp
      refine ⟨ih.len.trans (put_len _ _ _),fun r hr=>?_,fun c hc=>?_,by have:=ih.size; omega,fun i o' z' d h1 h2 h3 h4=>?_⟩
      · rw [ih.other r (fun i o' h1 h2=>hr (i + 1) o' (by simpa using h1) h2),put_other (hr 0 o rfl (by rw [hz]; rfl))]
      · rw [ih.old c (by omega),List.getElem?_append_left hc]
      · cases i with
        | zero =>
          simp at h1
          subst h1
          rw [hz] at h2; cases h2
          have h0:allocs (o :: l) 0=0:=rfl
          rw [h0,Nat.add_zero]
          refine ⟨?_,?_⟩
          · rw [ih.other d (fun i o' h1' _=>hd 0 (i + 1) o o' d (by omega) rfl (by simpa using h1') h3),h3,put_same h4]
          · rw [ih.old H.length (by omega)]; simp
        | succ i =>
          have h1':l[i]?=some o':=by simpa using h1
          have hal:allocs (o :: l) (i + 1)=allocs l i + 1:=by
            unfold allocs
            rw [List.take_succ_cons,List.filter_cons,if_pos (by rw [hz]; rfl)]
            rfl
          obtain ⟨k1,k2⟩:=ih.new i o' z' d h1' h2 h3 (by rw [put_len]; exact h4)
          rw [hl] at k1 k2
          rw [hal,show H.length + (allocs l i + 1)=H.length + 1 + allocs l i by omega]
          exact ⟨k1,k2⟩
    · have hna:o.ins.isAlloc=false:=by
        cases hi:o.ins <;> first | rfl | (exact absurd ⟨_,hi⟩ ha)
      have e:hoist (o :: l) ρ H=hoist l ρ H:=by
        rw [hoist_cons]
        split
        · rename_i z hz; exact absurd ⟨z,hz⟩ ha
        · rfl
      rw [e]
      have ih:=hoist_facts l ρ H hd'
      refine ⟨ih.len,fun r hr=>ih.other r (fun i o' h1 h2=>hr (i + 1) o' (by simpa using h1) h2),ih.old,ih.size,fun i o' z d h1 h2 h3 h4=>?_⟩
      cases i with
      | zero =>
        simp at h1
        subst h1
        exact absurd ⟨z,h2⟩ ha
      | succ i =>
        have hal:allocs (o :: l) (i + 1)=allocs l i:=by
          unfold allocs
          rw [List.take_succ_cons,List.filter_cons,if_neg (by rw [hna]; simp)]
        rw [hal]
        exact ih.new i o' z d (by simpa using h1) h2 h3 h4
theorem allocs_lt {l:List AOp} {i j:Nat} {o:AOp} (hij:i < j) (hi:l[i]?=some o) (ha:o.ins.isAlloc=true):allocs l i < allocs l j:=by
  have h1:allocs l (i + 1)=allocs l i + 1:=by
    unfold allocs
    have:l.take (i + 1)=l.take i ++ [o]:=by
      rw [List.take_add_one,hi]; rfl
    rw [this,List.filter_append,List.length_append]
    simp [ha]
  have h2:allocs l (i + 1)≤allocs l j:=by
    unfold allocs
    have:(l.take (i + 1)).Sublist (l.take j):=by
      have:l.take (i + 1)=(l.take j).take (i + 1):=by rw [List.take_take]; congr 1; omega
      rw [this]
      exact List.take_sublist _ _
    exact (this.filter _).length_le
  omega
theorem hoist_old:∀ (l:List AOp) (ρ:Regs) (H:List AObj),H.length≤(hoist l ρ H).2.length∧∀ c,c < H.length→(hoist l ρ H).2[c]?=H[c]?
  | [],ρ,H=>⟨Nat.le_refl _,fun _ _=>rfl⟩
  | o :: l,ρ,H=>by
    rw [hoist_cons]
    split
    · rename_i z hz
      obtain ⟨h1,h2⟩:=hoist_old l (put ρ o.dst (.ptr H.length 0 z.length)) (H ++ [.cells z])
      have hl:(H ++ [AObj.cells z]).length=H.length + 1:=by simp
      exact ⟨by omega,fun c hc=>by rw [h2 c (by omega),List.getElem?_append_left hc]⟩
    · exact hoist_old l ρ H
section
variable {P:Program}
theorem hoist_R {w:World}:∀ (l:List AOp) (ρ:Regs) {G:Gh} {H:List AObj},R P G H w→(∀ o z,o ∈ l→o.ins=.alloc z→cleanL z=true) →
    ∃ G',R P G' (hoist l ρ H).2 w∧Ext G H w G' (hoist l ρ H).2 w∧∀ c,H.length≤c→c < (hoist l ρ H).2.length→G'.blk c=none
  | [],ρ,G,H,hR,_=>⟨G,hR,Ext.refl _ _ _,fun c h1 h2=>absurd h2 (by simp only [hoist]; omega)⟩
  | o :: l,ρ,G,H,hR,hz=>by
    by_cases ha:∃ z,o.ins=.alloc z
    · obtain ⟨z,hzz⟩:=ha
      have e:hoist (o :: l) ρ H=hoist l (put ρ o.dst (.ptr H.length 0 z.length)) (H ++ [.cells z]):=by rw [hoist_cons,hzz]
      rw [e]
      have hcl:=hz o z (.head _) hzz
      have he:Env w w:=⟨rfl,rfl,rfl⟩
      have hx:=Ext.push hR (.cells z) none 0 he (Nat.le_refl _) (fun _ _=>rfl) (fun k hk=>by cases hk)
      have hR':=R.push hR (.cells z) none 0 he (Nat.le_refl _) (fun _ _=>rfl) (fun k hk=>by cases hk) (.inl ⟨by simp,cleanL_under hcl⟩)
      obtain ⟨G',k1,k2,k3⟩:=hoist_R l (put ρ o.dst (.ptr H.length 0 z.length)) hR' (fun o' z' ho=>hz o' z' (.tail _ ho))
      refine ⟨G',k1,hx.trans k2,fun c h1 h2=>?_⟩
      by_cases hc:c=H.length
      · subst hc
        have hat:(H ++ [AObj.cells z])[H.length]?=some (.cells z):=get_append_eq
        have hold:=(hoist_old l (put ρ o.dst (.ptr H.length 0 z.length)) (H ++ [.cells z])).2 H.length (by simp)
        exact k2.kept _ _ _ hat (hold.trans hat) rfl (by simp)
      · exact k3 c (by simp; omega) h2
    · have e:hoist (o :: l) ρ H=hoist l ρ H:=by
        rw [hoist_cons]
        split
        · rename_i z hzz; exact absurd ⟨z,hzz⟩ ha
        · rfl
      rw [e]
      exact hoist_R l ρ hR (fun o' z' ho=>hz o' z' (.tail _ ho))
theorem ofVal1_clean {v:Value} {x:AV} (h:ofVal1 v=some x):x.clean=true:=by
  unfold ofVal1 at h
  split at h <;> first | (cases h; rfl) | cases h
theorem ofVals1_clean:∀ {vs:List Value} {xs:List AV},ofVals1 vs=some xs→cleanL xs=true
  | [],xs,h=>by simp [ofVals1] at h; subst h; rfl
  | v :: vs,xs,h=>by
    simp only [ofVals1,Option.bind_eq_some_iff] at h
    obtain ⟨x,hx,ys,hys,h⟩:=h
    cases h
    simp [cleanL,ofVal1_clean hx,ofVals1_clean hys]
theorem lay_sim {G:Gh} {H:List AObj} {w:World} (hR:R P G H w) {t:TypeId} {zs:List AV} (hz:zeroCells P t=some zs) {c:Nat} (hc:H[c]?=some (.cells zs)) (h0:G.blk c=none) (hne:0 < zs.length) :
    ∃ w',(Instr.alloc t true (.tuple #[])).run P w=.ok (.pointer (some ⟨w.heap.size,0,none⟩)) w'∧R P (G.upd c (some w.heap.size) zs.length) H w'∧ExtW G H w (G.upd c (some w.heap.size) zs.length) H w'∧Env w w'∧w'.heap.size=w.heap.size + 1 ∧
      (∀ k,k < w.heap.size→w'.heap[k]?=w.heap[k]?)∧VR (G.upd c (some w.heap.size) zs.length) H w' (.ptr c 0 zs.length) (.pointer (some ⟨w.heap.size,0,none⟩)):=by
  obtain ⟨i,v,hi,hv,ho⟩:=zeroCells_some hz
  have he:=env_alloc w (.cells v.cells t)
  have hs:w.heap.size < (w.alloc (.cells v.cells t)).heap.size:=by simp
  have hlt:∀ k,k < w.heap.size→(w.alloc (.cells v.cells t)).heap[k]?=w.heap[k]?:=fun k hk=>heap_alloc_lt w _ hk
  have hx:=ExtW.lay hR hc h0 hne zs.length he (Nat.le_of_lt hs) hlt
  have hl:LR (G.upd c (some w.heap.size) zs.length) H (w.alloc (.cells v.cells t)) zs v.cells.toList:=ofVals1_LR ho
  have hsz:v.cells.size=zs.length:=by have:=hl.1; simpa using this
  refine ⟨w.alloc (.cells v.cells t),by simp [Instr.alloc,run_zeroValue' hi hv,newVar,newRow,newObj,Sem.run],R.lay hR hc h0 hne zs.length he hs hlt (.inr ⟨w.heap.size,v.cells,t,by simp,heap_alloc_at w _,by simp [hsz],by omega,fun j x hx'=>?_⟩),hx,he,by simp,hlt,?_⟩
  · obtain ⟨u,hu,hvr⟩:=hl.get hx'
    exact ⟨List.all_eq_true.1 (ofVals1_one ho) x (List.mem_of_getElem? hx'),u,by simpa using hu,hvr⟩
  · refine .ptr _ _ _ _ (lt_of_get hc) (fun cs' h=>?_) (fun cs' _ _=>⟨w.heap.size,by simp,rfl⟩)
    rw [hc] at h; cases h; exact Nat.le_refl _
end
end Go.Ai
end
section
namespace Go.Ai
open Go
variable {T:List (Nat × Obj)}
theorem filter_del {i:Nat} {p p':Nat→Bool} (hp:p i=true) (h:∀ j,p' j=(p j && j != i)):∀ (n:Nat),i < n→((List.range n).filter p').length + 1=((List.range n).filter p).length
  | 0,h=>by omega
  | n + 1,hin=>by
    rw [List.range_succ,List.filter_append,List.filter_append,List.length_append,List.length_append]
    by_cases e:i=n
    · subst e
      have h1:(List.range i).filter p'=(List.range i).filter p:=by
        refine List.filter_congr fun j hj=>?_
        have:j ≠ i:=by have:=List.mem_range.1 hj; omega
        rw [h j]; simp [this]
      have h2:p' i=false:=by rw [h i]; simp
      rw [h1]
      simp [h2,hp]
    · have ih:=filter_del hp h n (by omega)
      have h2:p' n=p n:=by rw [h n]; simp [Ne.symm e]
      simp only [List.filter_cons,h2]
      split <;> simp <;> omega
theorem compileOps_get {P:Program} {auto:Bool} {own rows:List Nat} {ops:Array Oper}:∀ {os:List Oper} {as1:List AOp},compileOps P auto own rows ops os=some as1→as1.length=os.length∧∀ (j:Nat) o,os[j]?=some o→compileOp P auto own rows ops o=some (opAt as1 j)
  | [],as1,h=>by simp [compileOps] at h; subst h; exact ⟨rfl,fun j o h=>by simp at h⟩
  | o :: os,as1,h=>by
    simp only [compileOps] at h
    obtain ⟨x,hx,h⟩:=bind_some h
    obtain ⟨xs,hxs,h⟩:=bind_some h
    cases h
    obtain ⟨h1,h2⟩:=compileOps_get hxs
    refine ⟨by simp [h1],fun j o' hj=>?_⟩
    cases j with
    | zero=>simp at hj; subst hj; simpa [opAt] using hx
    | succ j =>
      have:=h2 j o' (by simpa using hj)
      simpa [opAt] using this
section
variable {P:Program} {call:CallF} {base:Option Nat} {own rows:List Nat} {ops:Array Oper} {as1:List AOp} {b:Array Nat}
variable {ρs ρ0:Regs} {Hs Hh:List AObj} {G0:Gh} {H0:List AObj} {w0:World} {z:Nat} {r:Option Nat} {n:Nat} {Q:AExit × Regs × St→Prop}
structure Pred (b:Array Nat) (as1:List AOp) (base:Option Nat) (ρ0:Regs) (Hh:List AObj) (Q:AExit × Regs × St→Prop) (D:Nat→Prop) (ρa:Regs) (x:AExit × Regs × St × List (List AObj)):Prop where
  nor:x.1=.normal
  chk:chkAll base x.2.1 as1 x.2.2.2 (chkOf b as1)=true
  q:Q (.normal,x.2.1,x.2.2.1)
  tr:TrFacts as1 base 0 ρ0 [Hh] x.2.1 x.2.2.1 x.2.2.2
  reg:∀ j,j < as1.length→D j→(opAt as1 j).ins.isAlloc=false→∀ d,(opAt as1 j).dst=some d→d < ρ0.length→ρa.getD d .undef=x.2.1.getD d .undef
structure SI (T:List (Nat × Obj)) (P:Program) (call:CallF) (base:Option Nat) (b:Array Nat) (as1:List AOp) (ρs ρ0:Regs) (Hs Hh:List AObj) (G0:Gh) (H0:List AObj) (w0:World) (z:Nat) (r:Option Nat) (Q:AExit × Regs × St→Prop)
    (D:Nat→Prop) (p:Nat) (ρ:Regs) (s:St) (hs:List (List AObj)) (ρa:Regs) (G:Gh) (w:World) (a:Act):Prop where
  dc:∀ j,j < as1.length→D j→∀ i,i < as1.length→aheadB b i j=true→D i
  pn:p≤as1.length
  pe:p=as1.length∨(opAt as1 p).ins.eff=true
  eff:∀ e,e < as1.length→(opAt as1 e).ins.eff=true→(D e↔e < p)
  hl:hs.length=cnt as1 p + 1
  hlast:hs.getLast?=some s.heap
  qt:(evTrace call base (as1.drop p) ρ s hs).All (Pred b as1 base ρ0 Hh Q D ρa)
  trp:∀ x,(∀ i,i < p→(opAt as1 i).ins.isAlloc=false→(opAt as1 i).dst ≠ some x)→ρ.getD x .undef=ρ0.getD x .undef
  trl:ρ.length=ρ0.length
  al:∀ j,j < as1.length→D j→(opAt as1 j).ins.isAlloc=true→∀ d,(opAt as1 j).dst=some d→ρa.getD d .undef=ρ0.getD d .undef
  un:∀ x,(∀ j,j < as1.length→D j→(opAt as1 j).dst ≠ some x)→ρa.getD x .undef=ρs.getD x .undef
  ln:ρa.length=ρ0.length
  blk:∀ j,j < as1.length→¬ D j→(opAt as1 j).ins.isAlloc=true→G.blk (Hs.length + allocs as1 j)=none
  inv:Inv T P G0 H0 w0 z r G s.heap w ρa a
theorem getD_big {ρ:Regs} {x:Nat} (h:ρ.length≤x):ρ.getD x .undef=.undef:=by
  rw [List.getD_eq_getElem?_getD,List.getElem?_eq_none h]; rfl
theorem as_get {j:Nat} (hj:j < as1.length):as1[j]?=some (opAt as1 j):=by simp [opAt,List.getD_eq_getElem?_getD,hj]
theorem DF.alloc_at (h:DF b ops as1) (hF:HF as1 ρs ρ0 Hs Hh) {D:Nat→Prop} {ρa:Regs} {x:AExit × Regs × St × List (List AObj)} (hx:Pred b as1 base ρ0 Hh Q D ρa x) {j:Nat} (hj:j < as1.length) {zc:List AV} (hi:(opAt as1 j).ins=.alloc zc) :
    0 < zc.length∧(opAt as1 j).guard=none∧∃ d,(opAt as1 j).dst=some d∧d < ρ0.length∧ρ0.getD d .undef=.ptr (Hs.length + allocs as1 j) 0 zc.length∧∀ t,t≤hiOf b as1 j→t < x.2.2.2.length→(x.2.2.2.getD t [])[Hs.length + allocs as1 j]?=some (.cells zc):=by
  have ha:(opAt as1 j).ins.isAlloc=true:=by rw [hi]; rfl
  have hs:=h.self j hj
  unfold drawSelf at hs
  rw [hi] at hs
  simp only [Bool.and_eq_true,Option.isNone_iff_eq_none,Option.isSome_iff_exists] at hs
  obtain ⟨⟨⟨hg,d,hd⟩,hz⟩,_⟩:=hs
  have hz':0 < zc.length:=by cases zc with | nil=>simp at hz | cons=>simp
  have hfl:floats b as1 j=true:=by unfold floats; rw [ha]; rfl
  have hmem:(j,0,hiOf b as1 j) ∈ chkOf b as1:=List.mem_map.2 ⟨j,List.mem_filter.2 ⟨List.mem_range.2 hj,hfl⟩,by rw [ha]; rfl⟩
  obtain ⟨o,ho,hc⟩:=chkAll_mem hx.chk _ _ _ hmem
  have hoj:opAt as1 j=o:=by rw [as_get hj] at ho; cases ho; rfl
  rw [hoj] at hi hg hd
  unfold chkRead at hc
  rw [hg,hd,hi] at hc
  simp only [wanted,if_true] at hc
  have hkeep:x.2.1.getD d .undef=ρ0.getD d .undef:=hx.tr.keep d fun i _ hin hia hid=>by
    have:i=j:=h.dst_ne hin hj hid (by rw [hoj]; exact hd)
    subst this
    rw [hia] at ha; cases ha
  have hdl:d < ρ0.length:=by
    refine Nat.lt_of_not_le fun hle=>?_
    rw [getD_big (by rw [hx.tr.rlen]; exact hle)] at hc
    cases hc
  have hnew:=(hF.new j o zc d ho hi hd (by rw [← hF.len]; exact hdl))
  rw [hkeep,hnew.1] at hc
  dsimp only at hc
  refine ⟨hz',by rw [hoj]; exact hg,d,by rw [hoj]; exact hd,hdl,hnew.1,fun t ht htl=>?_⟩
  have hxt:x.2.2.2[t]?=some (x.2.2.2.getD t []):=by simp [List.getD_eq_getElem?_getD,htl]
  have hat:=List.all_eq_true.1 hc _ (window_mem (Nat.zero_le _) ht hxt)
  split at hat
  · rename_i cs hcs
    rw [hcs,beqL_eq hat]
  · cases hat
variable {D:Nat→Prop} {p:Nat} {ρ:Regs} {s:St} {hs:List (List AObj)} {ρa:Regs} {G:Gh} {w:World} {a:Act}
theorem DF.agree (h:DF b ops as1) (hF:HF as1 ρs ρ0 Hs Hh) (S:SI T P call base b as1 ρs ρ0 Hs Hh G0 H0 w0 z r Q D p ρ s hs ρa G w a) {j:Nat} (hj:j < as1.length) (hna:(opAt as1 j).ins.isAlloc=false) (hnd:¬ D j) (hah:∀ i,i < as1.length→aheadB b i j=true→D i) :
    (∀ x i,i < j→(opAt as1 i).dst=some x→x ∈ (opAt as1 j).names→D i) ∧
    (∀ x,x ∈ (opAt as1 j).names→(∀ i,i < j→(opAt as1 i).ins.isAlloc=false→(opAt as1 i).dst ≠ some x)→ρa.getD x .undef=ρ0.getD x .undef):=by
  have hw:∀ x i,i < j→(opAt as1 i).dst=some x→x ∈ (opAt as1 j).names→D i:=fun x i hij hd hx=>hah i (by omega) (h.named hij hj hd hx)
  refine ⟨hw,fun x hx hno=>?_⟩
  by_cases hal:∃ i,i < j∧(opAt as1 i).dst=some x
  · obtain ⟨i,hij,hd⟩:=hal
    have hia:(opAt as1 i).ins.isAlloc=true:=by
      cases hq:(opAt as1 i).ins.isAlloc with
      | true=>rfl
      | false=>exact absurd hd (hno i hij hq)
    exact S.al i (by omega) (hw x i hij hd hx) hia x hd
  · have hno2:∀ i,i < j→(opAt as1 i).dst ≠ some x:=fun i hij hd=>hal ⟨i,hij,hd⟩
    have h1:ρa.getD x .undef=ρs.getD x .undef:=S.un x fun i hi hDi hd=>by
      rcases Nat.lt_trichotomy i j with e | e | e
      · exact hno2 i e hd
      · subst e; exact hnd hDi
      · exact hnd (S.dc i hi hDi j hj (h.read e hi hd hx).1)
    rw [h1,hF.other x fun i o ho hia hd=>?_]
    have hi:i < as1.length:=lt_of_get ho
    have hoi:opAt as1 i=o:=by rw [as_get hi] at ho; cases ho; rfl
    rw [← hoi] at hia hd
    rcases Nat.lt_trichotomy i j with e | e | e
    · exact hno2 i e hd
    · subst e; rw [hna] at hia; cases hia
    · have:=(h.read e hi hd hx).2.1
      rw [hia] at this; cases this
theorem advance (h:DF b ops as1) {R:AExit × Regs × St × List (List AObj)→Prop}:∀ (m q:Nat),q + m=as1.length→∀ {ρ:Regs} {s:St} {hs:List (List AObj)},(evTrace call base (as1.drop q) ρ s hs).All R →
    ∃ p ρ',q≤p∧p≤as1.length∧(p=as1.length∨(opAt as1 p).ins.eff=true)∧(∀ e,q≤e→e < p→(opAt as1 e).ins.eff=false)∧cnt as1 p=cnt as1 q∧(evTrace call base (as1.drop p) ρ' s hs).All R ∧
      (∀ x,(∀ i,q≤i→i < p→(opAt as1 i).ins.isAlloc=false→(opAt as1 i).dst ≠ some x)→ρ'.getD x .undef=ρ.getD x .undef)∧ρ'.length=ρ.length
  | 0,q,hq,ρ,s,hs,hA=>⟨q,ρ,Nat.le_refl _,by omega,.inl (by omega),fun e h1 h2=>by omega,rfl,hA,fun _ _=>rfl,rfl⟩
  | m + 1, q,hq,ρ,s,hs,hA=>by
    have hqn:q < as1.length:=by omega
    by_cases he:(opAt as1 q).ins.eff=true
    · exact ⟨q,ρ,Nat.le_refl _,by omega,.inr he,fun e h1 h2=>by omega,rfl,hA,fun _ _=>rfl,rfl⟩
    · have he':(opAt as1 q).ins.eff=false:=by simpa using he
      have hcq:cnt as1 (q + 1)=cnt as1 q:=by rw [cnt_succ,he']; rfl
      rw [opAt_drop hqn] at hA
      have fin:∀ {ρ1:Regs},(evTrace call base (as1.drop (q + 1)) ρ1 s hs).All R→ρ1.length=ρ.length→(∀ x,(∀ i,q≤i→i < q + 1→(opAt as1 i).ins.isAlloc=false→(opAt as1 i).dst ≠ some x)→ρ1.getD x .undef=ρ.getD x .undef) →
          ∃ p ρ',q≤p∧p≤as1.length∧(p=as1.length∨(opAt as1 p).ins.eff=true)∧(∀ e,q≤e→e < p→(opAt as1 e).ins.eff=false)∧cnt as1 p=cnt as1 q∧(evTrace call base (as1.drop p) ρ' s hs).All R ∧
          (∀ x,(∀ i,q≤i→i < p→(opAt as1 i).ins.isAlloc=false→(opAt as1 i).dst ≠ some x)→ρ'.getD x .undef=ρ.getD x .undef)∧ρ'.length=ρ.length:=by
        intro ρ1 hA1 hl1 hk1
        obtain ⟨p,ρ',g1,g2,g3,g4,g5,g6,g7,g8⟩:=advance h m (q + 1) (by omega) hA1
        refine ⟨p,ρ',by omega,g2,g3,fun e h1 h2=>?_,g5.trans hcq,g6,fun x hx=>?_,g8.trans hl1⟩
        · by_cases e1:e=q
          · rw [e1]; exact he'
          · exact g4 e (by omega) h2
        · rw [g7 x fun i h1 h2=>hx i (by omega) h2,hk1 x fun i h1 h2=>hx i h1 (by omega)]
      rcases h.kind q hqn with hc | ha | ⟨he2,_⟩
      · obtain ⟨k1,k2,k3,k4⟩:=calm_not hc
        rw [trace_cons k2 k3 k4,calm_evV hc] at hA
        cases hv:opV base ρ s.heap (opAt as1 q) with
        | none=>rw [hv] at hA; exact hA.elim
        | some v =>
          rw [hv] at hA
          simp only [Res.bind,k1,Bool.false_eq_true,if_false] at hA
          exact fin hA (put_len _ _ _) fun x hx=>put_other (hx q (Nat.le_refl _) (by omega) k2)
      · rw [trace_alloc ha] at hA
        exact fin hA rfl fun _ _=>rfl
      · rw [he2] at he'; cases he'
end
end Go.Ai
end
section
namespace Go.Ai
open Go
variable {T:List (Nat × Obj)}
theorem inv_alloc {P:Program} {auto:Bool} {own rows:List Nat} {o:Oper} {zc:List AV} (h:compileIns P auto own rows o=some (.alloc zc)):∃ t,o.op=.alloc t∧zeroCells P t=some zc:=by
  unfold compileIns at h
  cases ho:o.op <;> simp only [ho] at h
  case alloc t =>
    obtain ⟨z,hz,h⟩:=bind_some h
    cases h
    exact ⟨t,rfl,hz⟩
  case call c =>
    obtain ⟨as1,has,h⟩:=bind_some h
    cases hcal:c.callee <;> simp only [hcal] at h
    case value y =>
      cases y <;> simp only at h
      all_goals (first | (cases h; done) | (replace h:=bind_some h; obtain ⟨_,_,h⟩:=h; cases h))
    case invoke=>cases h
    case builtin bi =>
      cases bi <;> simp only at h
      all_goals (
        repeat' (first
          | (replace h:=bind_some h; obtain ⟨_,_,h⟩:=h)
          | split at h)
        all_goals (cases h))
  case makeFunc fn first caps =>
    cases fn <;> simp only at h
    all_goals first | (cases h; done) | (split at h <;> first | (cases h; done) | (replace h:=bind_some h; obtain ⟨_,_,h⟩:=h; cases h))
  all_goals (
    repeat' (first
      | (replace h:=bind_some h; obtain ⟨_,_,h⟩:=h)
      | split at h)
    all_goals (cases h))
section
variable {P:Program} {call:CallF} {base:Option Nat} {own rows:List Nat} {ops:Array Oper} {as1:List AOp} {b:Array Nat}
variable {ρs ρ0:Regs} {Hs Hh:List AObj} {G0:Gh} {H0:List AObj} {w0:World} {z:Nat} {r:Option Nat} {n:Nat} {Q:AExit × Regs × St→Prop}
variable {D:Nat→Prop} {p:Nat} {ρ:Regs} {s:St} {hs:List (List AObj)} {ρa:Regs} {G:Gh} {w:World} {a:Act}
theorem SI.hi (h:DF b ops as1) (S:SI T P call base b as1 ρs ρ0 Hs Hh G0 H0 w0 z r Q D p ρ s hs ρa G w a) {j:Nat} (hj:j < as1.length) (hnd:¬ D j):cnt as1 p≤hiOf b as1 j :=
  le_count (P:=fun e=>(opAt as1 e).ins.eff && !aheadB b j e) (n:=as1.length) p S.pn (fun e he hp=>by
    simp only [Bool.and_eq_true,Bool.not_eq_true']
    refine ⟨hp,?_⟩
    have hen:e < as1.length:=Nat.lt_of_lt_of_le he S.pn
    cases hq:aheadB b j e with
    | false=>rfl
    | true=>exact absurd (S.dc e hen ((S.eff e hen hp).2 he) j hj hq) hnd)
theorem SI.lo (S:SI T P call base b as1 ρs ρ0 Hs Hh G0 H0 w0 z r Q D p ρ s hs ρa G w a) {j:Nat} (hah:∀ i,i < as1.length→aheadB b i j=true→D i):loOf b as1 j≤cnt as1 p:=by
  have:=count_le (as1:=as1) (p:=p) (P:=fun e=>(opAt as1 e).ins.eff && aheadB b e j) as1.length (fun e he hp=>by
    simp only [Bool.and_eq_true] at hp
    exact ⟨(S.eff e he hp.1).1 (hah e he hp.2),hp.1⟩)
  have e:min as1.length p=p:=by have:=S.pn; omega
  rwa [e] at this
theorem SI.both (h:DF b ops as1) (S:SI T P call base b as1 ρs ρ0 Hs Hh G0 H0 w0 z r Q D p ρ s hs ρa G w a) :
    (evTrace call base (as1.drop p) ρ s hs).All (fun x=>Pred b as1 base ρ0 Hh Q D ρa x∧TrFacts as1 base p ρ hs x.2.1 x.2.2.1 x.2.2.2):=by
  have hp:=S.pn
  have hb:=S.qt.and_safe (trace_facts h.kind (fun i j hij hj d hd=>h.dst i j hij hj d hd) (as1.length - p) p (by omega) ρ s hs S.hl S.hlast)
  exact Res.All.mono (fun x hx=>⟨hx.1,hx.2 hx.1.nor⟩) hb
theorem SI.now (S:SI T P call base b as1 ρs ρ0 Hs Hh G0 H0 w0 z r Q D p ρ s hs ρa G w a) {x:AExit × Regs × St × List (List AObj)} (F:TrFacts as1 base p ρ hs x.2.1 x.2.2.1 x.2.2.2):x.2.2.2.getD (cnt as1 p) []=s.heap∧cnt as1 p < x.2.2.2.length :=
  ⟨getLast_getD F.pre S.hl S.hlast,by rw [F.len]; have:=cnt_le as1 S.pn; omega⟩
theorem SI.unlaid (h:DF b ops as1) (hF:HF as1 ρs ρ0 Hs Hh) (S:SI T P call base b as1 ρs ρ0 Hs Hh G0 H0 w0 z r Q D p ρ s hs ρa G w a) {j:Nat} (hj:j < as1.length) (hnd:¬ D j) {zc:List AV} (hi:(opAt as1 j).ins=.alloc zc):s.heap[Hs.length + allocs as1 j]?=some (.cells zc):=by
  obtain ⟨x,hx,F⟩:=(S.both h).exists
  obtain ⟨k1,k2⟩:=S.now F
  obtain ⟨_,_,d,_,_,_,hat⟩:=h.alloc_at hF hx hj hi
  rw [← k1]
  exact hat _ (S.hi h hj hnd) k2
theorem isAlloc_of {i:AIns} (h:i.isAlloc=true):∃ zc,i=.alloc zc:=by
  cases i <;> simp [AIns.isAlloc] at h
  exact ⟨_,rfl⟩
theorem calm_step (hcs:CallSim T P call) (hrs:RoundSim T P call) (hcomp:∀ j o,ops[j]?=some o→compileOp P false own rows ops o=some (opAt as1 j)) (h:DF b ops as1) (hF:HF as1 ρs ρ0 Hs Hh) (S:SI T P call base b as1 ρs ρ0 Hs Hh G0 H0 w0 z r Q D p ρ s hs ρa G w a) {j:Nat} (hj:j < as1.length) (hc:(opAt as1 j).ins.calm=true) (hnd:¬ D j) (hah:∀ i,i < as1.length→aheadB b i j=true→D i)
    {K:Act→World→Prop} {Qx:Exit→Act→World→Prop} (hK:∀ ρa' G' w' a',SI T P call base b as1 ρs ρ0 Hs Hh G0 H0 w0 z r Q (fun i=>D i∨i=j) p ρ s hs ρa' G' w' a'→K a' w'):wpOpIn (Fen r) n P ops Qx j K a w:=by
  obtain ⟨o,ho,_,_⟩:=h.edge j hj
  obtain ⟨k1,k2,k3,k4⟩:=calm_not hc
  obtain ⟨hag1,hag2⟩:=h.agree hF S hj k2 hnd hah
  have value:∀ x,Pred b as1 base ρ0 Hh Q D ρa x→TrFacts as1 base p ρ hs x.2.1 x.2.2.1 x.2.2.2→∃ v,opV base ρa s.heap (opAt as1 j)=some v∧∀ d,(opAt as1 j).dst=some d→d < ρ0.length→x.2.1.getD d .undef=v:=by
    intro x hx F
    obtain ⟨q1,q2⟩:=S.now F
    have:=h.val hx.tr hx.chk hj hc (S.lo hah) (S.hi h hj hnd) q2 (ρa:=ρa) (fun x' i hij hia hd hn=>?_) (fun x' hn hno=>hag2 x' hn hno)
    · rwa [q1] at this
    · by_cases hl:x' < ρ0.length
      · exact hx.reg i (by omega) (hag1 x' i hij hd hn) hia x' hd hl
      · rw [getD_big (by rw [S.ln]; omega),getD_big (by rw [hx.tr.rlen]; omega)]
  obtain ⟨x0,hx0,F0⟩:=(S.both h).exists
  obtain ⟨v,hv,_⟩:=value x0 hx0 F0
  have hev:(evOp call base (opAt as1 j) ρa s).All (fun y=>y=(.normal,put ρa (opAt as1 j).dst v,s)):=by
    rw [evOp_val _ _ _ _ _ k3 k4,calm_evV hc,hv]
    rfl
  have I':Inv T P G s.heap w z r G s.heap w ρa a:=⟨S.inv.mem,Ext.refl _ _ _,S.inv.regs,S.inv.marks,S.inv.round,S.inv.tab⟩
  unfold wpOpIn
  rw [ho]
  refine op_sim hcs hrs (hcomp j o ho) I' hev ⟨fun ρ' s' G' w' a' hS I2=>?_,fun v' s' G' w' u hS _ _=>by cases hS⟩
  cases hS
  have dne:∀ i,i < as1.length→D i→∀ d,(opAt as1 i).dst=some d→(opAt as1 j).dst ≠ some d:=fun i hi hDi d hd hd'=>by
    have:=h.dst_ne hi hj hd hd'
    subst this
    exact hnd hDi
  refine hK (put ρa (opAt as1 j).dst v) G' w' a' ⟨?_,S.pn,S.pe,?_,S.hl,S.hlast,?_,S.trp,S.trl,?_,?_,?_,?_,?_⟩
  · intro j' hj' hD i hi ha
    rcases hD with hD | rfl
    · exact .inl (S.dc j' hj' hD i hi ha)
    · exact .inl (hah i hi ha)
  · intro e he hee
    rw [← S.eff e he hee]
    refine ⟨fun hD=>hD.resolve_right fun e1=>?_,.inl⟩
    rw [e1,k1] at hee; cases hee
  · refine Res.All.mono (fun x hx=>?_) (S.both h)
    obtain ⟨hx,F⟩:=hx
    refine ⟨hx.nor,hx.chk,hx.q,hx.tr,fun i hi hD hia d hd hdl=>?_⟩
    rcases hD with hD | rfl
    · rw [put_other (dne i hi hD d hd)]
      exact hx.reg i hi hD hia d hd hdl
    · obtain ⟨v',hv',hq⟩:=value x hx F
      rw [hv] at hv'; cases hv'
      rw [hd,put_same (by rw [S.ln]; exact hdl)]
      exact (hq d hd hdl).symm
  · intro i hi hD hia d hd
    rcases hD with hD | rfl
    · rw [put_other (dne i hi hD d hd)]; exact S.al i hi hD hia d hd
    · rw [k2] at hia; cases hia
  · intro x hx
    rw [put_other (hx j hj (.inr rfl))]
    exact S.un x fun i hi hD=>hx i hi (.inl hD)
  · rw [put_len]; exact S.ln
  · intro i hi hnD hia
    obtain ⟨zc,hzc⟩:=isAlloc_of hia
    have hnDi:¬ D i:=fun q=>hnD (.inl q)
    have hat:=S.unlaid h hF hi hnDi hzc
    exact I2.ext.kept _ _ _ hat hat rfl (S.blk i hi hnDi hia)
  · exact ⟨I2.mem,S.inv.ext.trans I2.ext,I2.regs,I2.marks,I2.round,I2.tab⟩
theorem eff_step (hcs:CallSim T P call) (hrs:RoundSim T P call) (hcomp:∀ j o,ops[j]?=some o→compileOp P false own rows ops o=some (opAt as1 j)) (h:DF b ops as1) (hF:HF as1 ρs ρ0 Hs Hh) (S:SI T P call base b as1 ρs ρ0 Hs Hh G0 H0 w0 z r Q D p ρ s hs ρa G w a) {j:Nat} (hj:j < as1.length) (he:(opAt as1 j).ins.eff=true) (hnd:¬ D j) (hah:∀ i,i < as1.length→aheadB b i j=true→D i)
    {K:Act→World→Prop} {Qx:Exit→Act→World→Prop} (hK:∀ p' ρ' s' hs' ρa' G' w' a',SI T P call base b as1 ρs ρ0 Hs Hh G0 H0 w0 z r Q (fun i=>D i∨i=j) p' ρ' s' hs' ρa' G' w' a'→K a' w'):wpOpIn (Fen r) n P ops Qx j K a w:=by
  obtain ⟨o,ho,_,_⟩:=h.edge j hj
  have hna:(opAt as1 j).ins.isAlloc=false:=by
    cases hq:(opAt as1 j).ins.isAlloc with
    | false=>rfl
    | true =>
      obtain ⟨zc,hz⟩:=isAlloc_of hq
      rw [hz] at he; cases he
  have hkind:(∀ x,(opAt as1 j).ins ≠ .next x)∧(∀ x,(opAt as1 j).ins ≠ .panic x):=by
    rcases h.kind j hj with hc | ha | hk
    · exact (calm_not hc).2.2
    · rw [hna] at ha; cases ha
    · exact hk.2.2

  have hjp:j=p:=by
    have h1:p≤j:=Nat.le_of_not_lt fun q=>hnd ((S.eff j hj he).2 q)
    rcases Nat.lt_or_eq_of_le h1 with q | q
    · have hpe:(opAt as1 p).ins.eff=true:=S.pe.resolve_left (by omega)
      have hDp:=hah p (by omega) (h.effs q hj hpe he)
      exact absurd ((S.eff p (by omega) hpe).1 hDp) (Nat.lt_irrefl _)
    · exact q.symm
  subst hjp
  obtain ⟨hag1,hag2⟩:=h.agree hF S hj hna hnd hah
  obtain ⟨x0,hx0,F0⟩:=(S.both h).exists
  have hsame:Same (opAt as1 j).names ρ ρa:=by
    intro x hx
    by_cases hex:∃ i,i < j∧(opAt as1 i).ins.isAlloc=false∧(opAt as1 i).dst=some x
    · obtain ⟨i,hij,hia,hd⟩:=hex
      by_cases hl:x < ρ0.length
      · rw [hx0.reg i (by omega) (hag1 x i hij hd hx) hia x hd hl]
        refine (F0.keep x fun i' hi' hin hia' hd'=>?_).symm
        have:=h.dst_ne hin (by omega) hd' hd
        omega
      · rw [getD_big (by rw [S.trl]; omega),getD_big (by rw [S.ln]; omega)]
    · have hno:∀ i,i < j→(opAt as1 i).ins.isAlloc=false→(opAt as1 i).dst ≠ some x:=fun i q1 q2 q3=>hex ⟨i,q1,q2,q3⟩
      rw [S.trp x hno,hag2 x hx hno]
  have hqt:=S.qt
  rw [opAt_drop hj,trace_cons hna hkind.1 hkind.2,evV_congr hsame] at hqt
  have hqt:=Res.All.bind.1 hqt
  have hev:(evOp call base (opAt as1 j) ρa s).All (fun y=>y.1=.normal∧∃ v,y.2.1=put ρa (opAt as1 j).dst v∧(evTrace call base (as1.drop (j + 1)) (put ρ (opAt as1 j).dst v) y.2.2 (hs ++ [y.2.2.heap])).All (Pred b as1 base ρ0 Hh Q D ρa)):=by
    rw [evOp_val _ _ _ _ _ hkind.1 hkind.2]
    refine Res.All.bind.2 (Res.All.mono (fun y hy=>?_) hqt)
    obtain ⟨e,v,s'⟩:=y
    cases e with
    | normal =>
      simp only [he,if_true] at hy
      exact ⟨rfl,v,rfl,hy⟩
    | _ =>
      have:=hy.nor
      cases this
  have I':Inv T P G s.heap w z r G s.heap w ρa a:=⟨S.inv.mem,Ext.refl _ _ _,S.inv.regs,S.inv.marks,S.inv.round,S.inv.tab⟩
  unfold wpOpIn
  rw [ho]
  refine op_sim hcs hrs (hcomp j o ho) I' hev ⟨fun ρ' s' G' w' a' hS I2=>?_,fun v' s' G' w' u hS _ _=>by cases hS.1⟩
  obtain ⟨_,v,hρ',hA⟩:=hS
  dsimp only at hρ' hA
  subst hρ'
  have hcj:cnt as1 (j + 1)=cnt as1 j + 1:=by rw [cnt_succ,he]; rfl
  have hl1:(hs ++ [s'.heap]).length=cnt as1 (j + 1) + 1:=by rw [List.length_append,S.hl,hcj]; rfl
  have hA2:=hA.and_safe (trace_facts h.kind (fun i j hij hj d hd=>h.dst i j hij hj d hd) (as1.length - (j + 1)) (j + 1) (by omega) (put ρ (opAt as1 j).dst v) s' (hs ++ [s'.heap]) hl1 (by simp))
  obtain ⟨p',ρ1,g1,g2,g3,g4,g5,g6,g7,g8⟩:=advance h (as1.length - (j + 1)) (j + 1) (by omega) hA2
  have dne:∀ i,i < as1.length→D i→∀ d,(opAt as1 i).dst=some d→(opAt as1 j).dst ≠ some d:=fun i hi hDi d hd hd'=>by
    have:=h.dst_ne hi hj hd hd'
    subst this
    exact hnd hDi
  have heff:∀ e,e < as1.length→(opAt as1 e).ins.eff=true→((D e∨e=j)↔e < p'):=by
    intro e hen hee
    rw [S.eff e hen hee]
    constructor
    · intro q; omega
    · intro q
      by_cases e1:e≤j
      · omega
      · have:=g4 e (by omega) q
        rw [hee] at this; cases this
  have hdc:∀ j',j' < as1.length→(D j'∨j'=j)→∀ i,i < as1.length→aheadB b i j'=true→(D i∨i=j):=by
    intro j' hj' hD i hi ha
    rcases hD with hD | rfl
    · exact .inl (S.dc j' hj' hD i hi ha)
    · exact .inl (hah i hi ha)
  refine hK p' ρ1 s' (hs ++ [s'.heap]) (put ρa (opAt as1 j).dst v) G' w' a' ⟨hdc,g2,g3,heff,?_,by simp,?_,?_,?_,?_,?_,?_,?_,?_⟩
  · rw [g5]; exact hl1
  · refine Res.All.mono (fun x hx=>?_) g6
    obtain ⟨hx,F⟩:=hx
    refine ⟨hx.nor,hx.chk,hx.q,hx.tr,fun i hi hD hia d hd hdl=>?_⟩
    rcases hD with hD | rfl
    · rw [put_other (dne i hi hD d hd)]
      exact hx.reg i hi hD hia d hd hdl
    · have:=(F hx.nor).keep d fun i' hi' hin _ hd'=>by
        have:=h.dst_ne hin hi hd' hd
        omega
      rw [this,hd,put_same (by rw [S.ln]; exact hdl),put_same (by rw [S.trl]; exact hdl)]
  · intro x hx
    rw [g7 x fun i q1 q2=>hx i q2,put_other (hx j (by omega) hna)]
    exact S.trp x fun i q=>hx i (by omega)
  · rw [g8,put_len]; exact S.trl
  · intro i hi hD hia d hd
    rcases hD with hD | rfl
    · rw [put_other (dne i hi hD d hd)]; exact S.al i hi hD hia d hd
    · rw [hna] at hia; cases hia
  · intro x hx
    rw [put_other (hx j hj (.inr rfl))]
    exact S.un x fun i hi hD=>hx i hi (.inl hD)
  · rw [put_len]; exact S.ln
  · intro i hi hnD hia
    obtain ⟨zc,hzc⟩:=isAlloc_of hia
    have hnDi:¬ D i:=fun q=>hnD (.inl q)
    have hat:=S.unlaid h hF hi hnDi hzc
    obtain ⟨x1,hx1,F1⟩:=hA2.exists
    obtain ⟨_,_,d,_,_,_,hatx⟩:=h.alloc_at hF hx1 hi hzc
    have F1:=F1 hx1.nor
    have hlt:cnt as1 (j + 1) < x1.2.2.2.length:=by rw [F1.len]; have:=cnt_le as1 (show j + 1≤as1.length by omega); omega
    have hnow:x1.2.2.2.getD (cnt as1 (j + 1)) []=s'.heap:=getLast_getD F1.pre hl1 (by simp)
    have hhi:cnt as1 (j + 1)≤hiOf b as1 i:=by
      rw [← g5]
      refine le_count (P:=fun e=>(opAt as1 e).ins.eff && !aheadB b i e) (n:=as1.length) p' g2 (fun e hep hee=>?_)
      simp only [Bool.and_eq_true,Bool.not_eq_true']
      refine ⟨hee,?_⟩
      have hen:e < as1.length:=by omega
      cases hq:aheadB b i e with
      | false=>rfl
      | true=>exact absurd (hdc e hen ((heff e hen hee).2 hep) i hi hq) hnD
    have hat':s'.heap[Hs.length + allocs as1 i]?=some (.cells zc):=by rw [← hnow]; exact hatx _ hhi hlt
    exact I2.ext.kept _ _ _ hat hat' rfl (S.blk i hi hnDi hia)
  · exact ⟨I2.mem,S.inv.ext.trans I2.ext,I2.regs,I2.marks,I2.round,I2.tab⟩
end
end Go.Ai
end
section
namespace Go.Ai
open Go
variable {T:List (Nat × Obj)}
section
variable {P:Program} {call:CallF} {base:Option Nat} {own rows:List Nat} {ops:Array Oper} {as1:List AOp} {b:Array Nat}
variable {ρs ρ0:Regs} {Hs Hh:List AObj} {G0:Gh} {H0:List AObj} {w0:World} {z:Nat} {r:Option Nat} {n:Nat} {Q:AExit × Regs × St→Prop}
variable {D:Nat→Prop} {p:Nat} {ρ:Regs} {s:St} {hs:List (List AObj)} {ρa:Regs} {G:Gh} {w:World} {a:Act}
theorem alloc_step (hcomp:∀ j o,ops[j]?=some o→compileOp P false own rows ops o=some (opAt as1 j)) (h:DF b ops as1) (hF:HF as1 ρs ρ0 Hs Hh) (hH:H0.length≤Hs.length) (S:SI T P call base b as1 ρs ρ0 Hs Hh G0 H0 w0 z r Q D p ρ s hs ρa G w a) {j:Nat} (hj:j < as1.length) (ha:(opAt as1 j).ins.isAlloc=true) (hnd:¬ D j)
    (hah:∀ i,i < as1.length→aheadB b i j=true→D i) {K:Act→World→Prop} {Qx:Exit→Act→World→Prop} (hK:∀ ρa' G' w' a',SI T P call base b as1 ρs ρ0 Hs Hh G0 H0 w0 z r Q (fun i=>D i∨i=j) p ρ s hs ρa' G' w' a'→K a' w'):wpOpIn (Fen r) n P ops Qx j K a w:=by
  obtain ⟨o,ho,_,_⟩:=h.edge j hj
  obtain ⟨zc,hzc⟩:=isAlloc_of ha
  obtain ⟨x0,hx0,F0⟩:=(S.both h).exists
  obtain ⟨hz0,hg,d,hd,hdl,hptr,_⟩:=h.alloc_at hF hx0 hj hzc
  have hat:=S.unlaid h hF hj hnd hzc
  obtain ⟨hi,hdo⟩:=inv_op (hcomp j o ho)
  rw [hzc] at hi
  obtain ⟨t,hop,hzt⟩:=inv_alloc hi
  obtain ⟨w',hrun,hR',hxW,henv,hsz,hlt,hvr⟩:=lay_sim S.inv.mem hzt hat (S.blk j hj hnd ha) hz0
  have hbig:H0.length≤Hs.length + allocs as1 j:=by omega
  have hne0:∀ x,x < H0.length→x ≠ Hs.length + allocs as1 j:=fun x hx=>by omega
  have hx0':=S.inv.ext
  have hext:Ext G0 H0 w0 (G.upd (Hs.length + allocs as1 j) (some w.heap.size) zc.length) s.heap w':=by
    refine ⟨⟨hx0'.len,henv.1.trans hx0'.os,henv.2.1.trans hx0'.tape,henv.2.2.trans hx0'.output,by have:=hx0'.size; omega,fun c hc=>?_,fun x cs hx=>?_,fun x t' v es hx=>?_,fun x m v r' l hx=>?_,fun x ρ' ps' y1 y2 r' j' hx=>?_⟩,fun x cs cs' hx hx' e h0=>?_⟩
    · obtain ⟨q1,q2⟩:=hx0'.stable c hc
      obtain ⟨q3,q4⟩:=hxW.stable c q1
      exact ⟨q3,q4.trans q2⟩
    · obtain ⟨cs',q1,q2,q3⟩:=hx0'.cells x cs hx
      refine ⟨cs',q1,q2,fun e=>?_⟩
      rw [Gh.upd_blk_ne _ _ _ _ (hne0 x (lt_of_get hx)),Gh.upd_siz_ne _ _ _ _ (hne0 x (lt_of_get hx))]
      exact q3 e
    · obtain ⟨v',es',q1,q2,q3,q4⟩:=hx0'.map x t' v es hx
      refine ⟨v',es',q1,by rw [Gh.upd_blk_ne _ _ _ _ (hne0 x (lt_of_get hx))]; exact q2,q3,fun e=>⟨(q4 e).1,fun c hc=>?_⟩⟩
      have hcl:c < w.heap.size:=S.inv.mem.lt x c (lt_of_get q1) (q2.trans hc)
      exact (hlt c hcl).trans ((q4 e).2 c hc)
    · obtain ⟨r2,l2,q1,q2⟩:=hx0'.iter x m v r' l hx
      exact ⟨r2,l2,q1,by rw [Gh.upd_blk_ne _ _ _ _ (hne0 x (lt_of_get hx))]; exact q2⟩
    · obtain ⟨r2,l2,q1,q2⟩:=hx0'.loop x ρ' ps' y1 y2 r' j' hx
      exact ⟨r2,l2,q1,by rw [Gh.upd_blk_ne _ _ _ _ (hne0 x (lt_of_get hx))]; exact q2⟩
    · rw [Gh.upd_blk_ne _ _ _ _ (hne0 x (lt_of_get hx))]
      exact hx0'.kept x cs cs' hx hx' e h0
  have hregs:RR (G.upd (Hs.length + allocs as1 j) (some w.heap.size) zc.length) s.heap w' ρa a.tmps:=⟨S.inv.regs.1,fun i x hx=>by
    obtain ⟨u,q1,q2⟩:=S.inv.regs.2 i x hx
    exact ⟨u,q1,q2.monoW hxW⟩⟩
  unfold wpOpIn
  rw [ho]
  dsimp only
  have hwant:Region.wanted o (yielded ops a.tmps)=true:=by
    rw [wanted_of S.inv.regs (hcomp j o ho),hg]
    rfl
  rw [if_pos hwant]
  refine ⟨fun f _=>Fen_fn r f,?_⟩
  rw [Oper.semAt_eq _ _ _ (not_defer hi)]
  have hex:(execOp a.eval o).run P w=.ok (.value (.pointer (some ⟨w.heap.size,0,none⟩))) w':=by
    simp only [execOp,hop,Sem.run_bind,hrun,Result.andThen_ok,Sem.run_pure]
  rw [hex,Oper.uponIn_value]
  have dne:∀ i,i < as1.length→D i→∀ x,(opAt as1 i).dst=some x→(opAt as1 j).dst ≠ some x:=fun i hi hDi x hx hx'=>by
    have:=h.dst_ne hi hj hx hx'
    subst this
    exact hnd hDi
  refine hK (put ρa (opAt as1 j).dst (.ptr (Hs.length + allocs as1 j) 0 zc.length)) (G.upd (Hs.length + allocs as1 j) (some w.heap.size) zc.length) w' (a.put o.dst (.pointer (some ⟨w.heap.size,0,none⟩))) ⟨?_,S.pn,S.pe,?_,S.hl,S.hlast,?_,S.trp,S.trl,?_,?_,?_,?_,?_⟩
  · intro j' hj' hD i hi ha'
    rcases hD with hD | rfl
    · exact .inl (S.dc j' hj' hD i hi ha')
    · exact .inl (hah i hi ha')
  · intro e he hee
    rw [← S.eff e he hee]
    refine ⟨fun hD=>hD.resolve_right fun e1=>?_,.inl⟩
    rw [e1,hzc] at hee; cases hee
  · refine Res.All.mono (fun x hx=>?_) S.qt
    refine ⟨hx.nor,hx.chk,hx.q,hx.tr,fun i hi' hD hia d' hd' hdl'=>?_⟩
    rcases hD with hD | rfl
    · rw [put_other (dne i hi' hD d' hd')]
      exact hx.reg i hi' hD hia d' hd' hdl'
    · rw [ha] at hia; cases hia
  · intro i hi' hD hia d' hd'
    rcases hD with hD | rfl
    · rw [put_other (dne i hi' hD d' hd')]; exact S.al i hi' hD hia d' hd'
    · rw [hd] at hd'
      cases hd'
      rw [hd,put_same (by rw [S.ln]; exact hdl),hptr]
  · intro x hx
    rw [put_other (hx j hj (.inr rfl))]
    exact S.un x fun i hi' hD=>hx i hi' (.inl hD)
  · rw [put_len]; exact S.ln
  · intro i hi' hnD hia
    have hij:i ≠ j:=fun e=>hnD (.inr e)
    have hne:Hs.length + allocs as1 i ≠ Hs.length + allocs as1 j:=by
      rcases Nat.lt_or_gt_of_ne hij with q | q
      · have:=allocs_lt q (as_get hi') hia; omega
      · have:=allocs_lt q (as_get hj) ha; omega
    rw [Gh.upd_blk_ne _ _ _ _ hne]
    exact S.blk i hi' (fun q=>hnD (.inl q)) hia
  · refine ⟨hR',hext,?_,⟨fun d' hd'=>?_,?_⟩,fun cl hcl=>?_,S.inv.tab.mono hxW⟩
    · rw [hdo]
      exact put_RR hregs o.dst hvr
    · have hd':d' ∈ a.defers:=by cases hq:o.dst <;> rw [hq] at hd' <;> exact hd'
      obtain ⟨c,q1,q2,q3,q4⟩:=S.inv.marks.each d' hd'
      obtain ⟨q5,q6⟩:=hxW.stable c q3
      exact ⟨c,q1,q2,q5,q6.trans q4⟩
    · have:(a.put o.dst (.pointer (some ⟨w.heap.size,0,none⟩))).defers=a.defers:=by cases o.dst <;> rfl
      rw [this]
      exact S.inv.marks.nodup
    · obtain ⟨l,q1,q2,q3,q4,q5,q6,q7,q8⟩:=S.inv.round cl hcl
      have hl:l ≠ Hs.length + allocs as1 j:=by
        intro e
        rw [e,hat] at q7; cases q7
      exact ⟨l,q1,q2,q3,q4,q5,q6,q7,by rw [Gh.upd_blk_ne _ _ _ _ hl]; exact q8⟩
theorem ready_iff {listed:Array Bool} {i:Nat}:i ∈ Region.ready .any ops listed↔i < ops.size∧listed.getD i true=false∧∃ o,ops[i]?=some o∧∀ e,e ∈ o.after→Region.binds .any e=true→listed.getD e.on false=true:=by
  unfold Region.ready
  rw [List.mem_filter,List.mem_range]
  constructor
  · rintro ⟨h1,h2⟩
    simp only [Bool.and_eq_true,Bool.not_eq_true'] at h2
    refine ⟨h1,h2.1,?_⟩
    have h3:=h2.2
    cases ho:ops[i]? with
    | none=>rw [ho] at h3; simp at h3
    | some o =>
      rw [ho] at h3
      simp only [Option.map_some,Option.getD_some] at h3
      refine ⟨o,rfl,fun e he hb=>?_⟩
      have:=Array.all_eq_true_iff_forall_mem.1 h3 e he
      simpa [hb] using this
  · rintro ⟨h1,h2,o,ho,h3⟩
    refine ⟨h1,?_⟩
    rw [h2,ho]
    simp only [Bool.not_false,Bool.true_and,Option.map_some,Option.getD_some]
    rw [Array.all_eq_true_iff_forall_mem]
    intro e he
    cases hb:Region.binds .any e with
    | false=>rfl
    | true=>simpa using h3 e he hb
theorem DF.all_listed (h:DF b ops as1) {listed:Array Bool} (hsz:listed.size=ops.size) (hr:Region.ready .any ops listed=[]):∀ j,j < as1.length→listed.getD j false=true:=by
  intro j
  induction j using Nat.strongRecOn with
  | _ j ih =>
    intro hj
    cases hl:listed.getD j false with
    | true=>rfl
    | false =>
      exfalso
      obtain ⟨o,ho,h1,_⟩:=h.edge j hj
      have hjs:j < listed.size:=by rw [hsz,← h.len]; exact hj
      have hl':listed.getD j true=false:=by
        simp only [Array.getD_eq_getD_getElem?,Array.getElem?_eq_getElem hjs,Option.getD_some] at hl ⊢
        exact hl
      have:j ∈ Region.ready .any ops listed:=ready_iff.2 ⟨by rw [← h.len]; exact hj,hl',o,ho,fun e he hb=>ih e.on (h1 e he hb) (by have:=h1 e he hb; omega)⟩
      rw [hr] at this
      cases this
theorem SI.done (h:DF b ops as1) (hF:HF as1 ρs ρ0 Hs Hh) (S:SI T P call base b as1 ρs ρ0 Hs Hh G0 H0 w0 z r Q D p ρ s hs ρa G w a) (hall:∀ j,j < as1.length→D j):Post T P G0 H0 w0 z r Q .normal a w:=by
  have hp:p=as1.length:=by
    rcases S.pe with e | e
    · exact e
    · rcases Nat.lt_or_ge p as1.length with q | q
      · exact absurd ((S.eff p q e).1 (hall p q)) (Nat.lt_irrefl _)
      · exact Nat.le_antisymm S.pn q
  have hqt:=S.qt
  rw [hp,List.drop_length] at hqt
  have hx:Pred b as1 base ρ0 Hh Q D ρa (.normal,ρ,s,hs):=hqt
  have heq : ρa=ρ:=by
    refine List.ext_getElem? fun x=>?_
    have hl:ρa.length=ρ.length:=by rw [S.ln,S.trl]
    by_cases hxl:x < ρa.length
    · have hg : ρa.getD x .undef=ρ.getD x .undef:=by
        by_cases h1:∃ j,j < as1.length∧(opAt as1 j).ins.isAlloc=false∧(opAt as1 j).dst=some x
        · obtain ⟨j,hj,hja,hd⟩:=h1
          exact hx.reg j hj (hall j hj) hja x hd (by rw [← S.ln]; exact hxl)
        · have hno:∀ j,j < as1.length→(opAt as1 j).ins.isAlloc=false→(opAt as1 j).dst ≠ some x:=fun j q1 q2 q3=>h1 ⟨j,q1,q2,q3⟩
          rw [S.trp x fun i hi=>hno i (by omega)]
          by_cases h2:∃ j,j < as1.length∧(opAt as1 j).dst=some x
          · obtain ⟨j,hj,hd⟩:=h2
            have hja:(opAt as1 j).ins.isAlloc=true:=by
              cases hq:(opAt as1 j).ins.isAlloc with
              | true=>rfl
              | false=>exact absurd hd (hno j hj hq)
            exact S.al j hj (hall j hj) hja x hd
          · rw [S.un x fun j hj _ hd=>h2 ⟨j,hj,hd⟩,hF.other x fun i o hi _ hd=>?_]
            have hil:=lt_of_get hi
            have:opAt as1 i=o:=by rw [as_get hil] at hi; cases hi; rfl
            exact h2 ⟨i,hil,by rw [this]; exact hd⟩
      rw [List.getD_eq_getElem?_getD,List.getD_eq_getElem?_getD,List.getElem?_eq_getElem hxl,List.getElem?_eq_getElem (by omega)] at hg
      rw [List.getElem?_eq_getElem hxl,List.getElem?_eq_getElem (by omega)]
      exact congrArg some hg
    · rw [List.getElem?_eq_none (by omega),List.getElem?_eq_none (by omega)]
  subst heq
  exact ⟨.normal,ρa,s,G,hx.q,trivial,S.inv⟩
theorem sched (hcs:CallSim T P call) (hrs:RoundSim T P call) (hcomp:∀ j o,ops[j]?=some o→compileOp P false own rows ops o=some (opAt as1 j)) (h:DF b ops as1) (hF:HF as1 ρs ρ0 Hs Hh) (hH:H0.length≤Hs.length) :
    ∀ (fuel:Nat) {listed:Array Bool} {p:Nat} {ρ:Regs} {s:St} {hs:List (List AObj)} {ρa:Regs} {G:Gh} {w:World} {a:Act},listed.size=ops.size→((List.range as1.length).filter fun j=>!listed.getD j false).length=fuel →
      SI T P call base b as1 ρs ρ0 Hs Hh G0 H0 w0 z r Q (fun j=>listed.getD j false=true) p ρ s hs ρa G w a→wpAnyIn (Fen r) n P .any ops (Post T P G0 H0 w0 z r Q) fuel listed a w:=by
  intro fuel
  induction fuel with
  | zero =>
    intro listed p ρ s hs ρa G w a hsz hc S
    have hall:∀ j,j < as1.length→listed.getD j false=true:=by
      intro j hj
      cases hq:listed.getD j false with
      | true=>rfl
      | false =>
        have:j ∈ (List.range as1.length).filter fun j=>!listed.getD j false:=List.mem_filter.2 ⟨List.mem_range.2 hj,by rw [hq]; rfl⟩
        rw [List.eq_nil_of_length_eq_zero hc] at this
        cases this
    refine ⟨?_,S.done h hF hall⟩
    rw [List.eq_nil_iff_forall_not_mem]
    intro i hi
    obtain ⟨h1,h2,_⟩:=ready_iff.1 hi
    have h3:=hall i (by rw [h.len]; exact h1)
    have his:i < listed.size:=by rw [hsz]; exact h1
    simp only [Array.getD_eq_getD_getElem?,Array.getElem?_eq_getElem his,Option.getD_some] at h2 h3
    rw [h2] at h3; cases h3
  | succ fuel ih =>
    intro listed p ρ s hs ρa G w a hsz hc S
    refine ⟨fun hr=>S.done h hF (h.all_listed hsz hr),fun i hi=>?_⟩
    obtain ⟨h1,h2,o,ho,h3⟩:=ready_iff.1 hi
    have hin:i < as1.length:=by rw [h.len]; exact h1
    have his:i < listed.size:=by rw [hsz]; exact h1
    have hnd:¬ (listed.getD i false=true):=by
      simp only [Array.getD_eq_getD_getElem?,Array.getElem?_eq_getElem his,Option.getD_some] at h2 ⊢
      rw [h2]; simp
    have hah:∀ i',i' < as1.length→aheadB b i' i=true→listed.getD i' false=true:=by
      intro i' hi' ha
      obtain ⟨o',ho',h4,h5⟩:=h.edge i hin
      rw [ho] at ho'; cases ho'
      obtain ⟨e,he,hb,hq⟩:=h5 i' hi' ha
      have hel:=h3 e he hb
      rcases hq with rfl | hq
      · exact hel
      · exact S.dc e.on (by have:=h4 e he hb; omega) hel i' hi' hq
    have hD:∀ j,((listed.setIfInBounds i true).getD j false=true)↔(listed.getD j false=true∨j=i):=by
      intro j
      simp only [Array.getD_eq_getD_getElem?,Array.getElem?_setIfInBounds]
      by_cases e:i=j
      · subst e; simp [his]
      · simp [e,Ne.symm e]
    have hDf:(fun j=>listed.getD j false=true∨j=i)=(fun j=>(listed.setIfInBounds i true).getD j false=true):=funext fun j=>propext (hD j).symm
    have hc':((List.range as1.length).filter fun j=>!(listed.setIfInBounds i true).getD j false).length=fuel:=by
      have:=filter_del (i:=i) (p:=fun j=>!listed.getD j false) (p':=fun j=>!(listed.setIfInBounds i true).getD j false) (by simpa using hnd) (fun j=>by
        have:=hD j
        cases h6:(listed.setIfInBounds i true).getD j false <;> cases h7:listed.getD j false <;> by_cases h8:j=i <;> simp_all) as1.length hin
      omega
    have hsz':(listed.setIfInBounds i true).size=ops.size:=by simpa using hsz
    rcases h.kind i hin with hk | hk | hk
    · exact calm_step hcs hrs hcomp h hF S hin hk hnd hah fun ρa' G' w' a' S'=>ih hsz' hc' (hDf ▸ S')
    · exact alloc_step hcomp h hF hH S hin hk hnd hah fun ρa' G' w' a' S'=>ih hsz' hc' (hDf ▸ S')
    · exact eff_step hcs hrs hcomp h hF S hin hk.1 hnd hah fun p' ρ' s' hs' ρa' G' w' a' S'=>ih hsz' hc' (hDf ▸ S')
end
theorem draw_sim {P:Program} (hm:P.follows .mixedOrders=true) {call:CallF} (hcs:CallSim T P call) (hrs:RoundSim T P call):DrawSim T P call:=by
  intro own rows id ops as1 chk base fuel G0 H0 w0 z r n G s w ρ a Q hcomp hchk I hA
  unfold drawChk at hchk
  split at hchk
  case isFalse=>cases hchk
  rename_i hok
  cases hchk
  obtain ⟨hlen,hget⟩:=compileOps_get hcomp
  have h:DF (Region.before ops) ops as1:=DF.of (by rw [hlen]; simp) hok
  have hcomp':∀ j o,ops[j]?=some o→compileOp P false own rows ops o=some (opAt as1 j):=fun j o ho=>hget j o (by simpa using ho)
  have hF:=hoist_facts as1 ρ s.heap (fun i j o o' d hij h1 h2 h3=>by
    have hj:=lt_of_get h2
    have e1:opAt as1 i=o:=by rw [as_get (lt_of_get h1)] at h1; cases h1; rfl
    have e2:opAt as1 j=o':=by rw [as_get hj] at h2; cases h2; rfl
    rw [← e2]
    exact h.dst i j hij hj d (by rw [e1]; exact h3))
  have hclean:∀ o z',o ∈ as1→o.ins=.alloc z'→cleanL z'=true:=by
    intro o z' ho hi
    obtain ⟨i,hi'⟩:=List.mem_iff_getElem?.1 ho
    have hil:=lt_of_get hi'
    have e1:opAt as1 i=o:=by rw [as_get hil] at hi'; cases hi'; rfl
    obtain ⟨oo,hoo,_⟩:=h.edge i hil
    have:=(inv_op (hcomp' i oo hoo)).1
    rw [e1,hi] at this
    obtain ⟨t,_,hz⟩:=inv_alloc this
    obtain ⟨_,v,_,_,hv⟩:=zeroCells_some hz
    exact ofVals1_clean hv
  simp only [evCode] at hA
  have hA:=Res.All.bind.1 hA

  have he:Env w { w with drawn:=w.drawn + 1 }:=⟨rfl,rfl,rfl⟩
  have hx1:Ext G s.heap w G s.heap { w with drawn:=w.drawn + 1 }:=Ext.same he rfl
  have I1:=I.step hx1 (I.mem.same he rfl) (I.regs.mono hx1) rfl
  obtain ⟨G',hR',hx2,hnone⟩:=hoist_R as1 ρ I1.mem hclean
  have I2:Inv T P G0 H0 w0 z r G' (hoist as1 ρ s.heap).2 { w with drawn:=w.drawn + 1 } ρ a:=I1.step hx2 hR' (I1.regs.mono hx2) rfl
  have hcnt0:cnt as1 0=0:=rfl
  have hfacts:=trace_facts (call:=call) (base:=base) h.kind (fun i j hij hj d hd=>h.dst i j hij hj d hd) as1.length 0 (by omega) (hoist as1 ρ s.heap).1 { s with heap:=(hoist as1 ρ s.heap).2 } [(hoist as1 ρ s.heap).2] (by rw [hcnt0]; rfl) (by simp)
  rw [List.drop_zero] at hfacts
  have hboth:=Res.All.and_safe hA hfacts
  have hpred:(evTrace call base (as1.drop 0) (hoist as1 ρ s.heap).1 { s with heap:=(hoist as1 ρ s.heap).2 } [(hoist as1 ρ s.heap).2]).All (Pred (Region.before ops) as1 base (hoist as1 ρ s.heap).1 (hoist as1 ρ s.heap).2 Q (fun j=>(Array.replicate ops.size false).getD j false=true) ρ):=by
    rw [List.drop_zero]
    refine Res.All.mono (fun x hx=>?_) hboth
    obtain ⟨h1,h2⟩:=hx
    obtain ⟨e,ρx,sx,hxs⟩:=x
    cases e with
    | normal =>
      dsimp only at h1
      split at h1
      · rename_i hc
        refine ⟨rfl,hc,h1,h2 rfl,fun j hj hD=>?_⟩
        have hjs:j < ops.size:=by rw [← h.len]; exact hj
        simp [Array.getD_eq_getD_getElem?,hjs] at hD
      · exact h1.elim
    | _=>exact h1.elim
  obtain ⟨p,ρ',g1,g2,g3,g4,g5,g6,g7,g8⟩:=advance h as1.length 0 (by omega) hpred
  have hnD:∀ j,¬ ((Array.replicate ops.size false).getD j false=true):=by
    intro j hD
    by_cases hjs:j < ops.size
    · simp [Array.getD_eq_getD_getElem?,hjs] at hD
    · simp [Array.getD_eq_getD_getElem?,hjs] at hD
  refine wpIn_region_any hm (sched (own:=own) (rows:=rows) hcs hrs hcomp' h hF I.ext.len ops.size (by simp) ?_ (p:=p) (ρ:=ρ') (s:={ s with heap:=(hoist as1 ρ s.heap).2 }) (hs:=[(hoist as1 ρ s.heap).2]) (ρa:=ρ) (G:=G')
    ⟨fun j _ hD=>absurd hD (hnD j),g2,g3,fun e _ hee=>⟨fun hD=>absurd hD (hnD e),fun hlt=>?_⟩,by rw [g5]; rfl,by simp,g6,fun x hx=>g7 x fun i _=>hx i,g8,fun j _ hD=>absurd hD (hnD j),fun x _=>rfl,hF.len.symm,fun j hj _ hja=>?_,I2⟩)
  · have:(List.range as1.length).filter (fun j=>!(Array.replicate ops.size false).getD j false)=List.range as1.length:=List.filter_eq_self.2 fun j _=>by
      have:=hnD j
      simpa using this
    rw [this,List.length_range,h.len]
  · have:=g4 e (Nat.zero_le _) hlt
    rw [hee] at this; cases this
  · obtain ⟨zc,hz⟩:=isAlloc_of hja
    refine hnone _ (by omega) ?_
    have hs:=h.self j hj
    unfold drawSelf at hs
    rw [hz] at hs
    simp only [Bool.and_eq_true,Option.isSome_iff_exists] at hs
    obtain ⟨⟨⟨_,d,hd⟩,_⟩,_⟩:=hs

    obtain ⟨x0,hx0⟩:=Res.All.exists hpred
    obtain ⟨_,_,d',hd',hdl,hptr,_⟩:=h.alloc_at hF hx0 hj hz
    exact lt_of_get (hF.new j _ zc d' (as_get hj) hz hd' (by rw [← hF.len]; exact hdl)).2
theorem simulated {P:Program} {prog:AProg} (hok:ProgOK T P prog) (hm:P.follows .mixedOrders=true) (k:Nat):CallSim T P (ev prog k) :=
  (sims hok (fun _ h1 h2=>draw_sim hm h1 h2) k).1
end Go.Ai
end
section
namespace Go.Ai
open Go Go.ChangeShapes Go.WideShapes Go.Deep
def Wt (P:Program):Nat→TypeId→List AV→Prop
  | 0,_,_=>False
  | d + 1,t,xs=>match P.underlying t with
    | some .bool=>∃ b,xs=[.bool b]
    | some (.int k)=>∃ n,xs=[.int k n]∧k.min≤n∧n≤k.max
    | some .string=>∃ s,xs=[.str s]∧s.size≤maxLen
    | some (.slice e)=>∃ es,xs=[.slice false (P.cellsOf e) es]∧es.length≤maxLen∧∀ l,l ∈ es→l.length=P.cellsOf e∧Wt P d e l
    | some (.struct fs)=>xs.length=P.cellsOf t∧∀ f,f ∈ fs.toList→Wt P d f.type ((xs.drop f.offset).take (P.cellsOf f.type))
    | some (.array n e)=>xs.length=P.cellsOf t∧∀ i,i < n→Wt P d e ((xs.drop (i * P.cellsOf e)).take (P.cellsOf e))
    | _=>False
def tiles (P:Program):Nat→Nat→List Field→Bool
  | off,total,[]=>off == total
  | off,total,f :: fs=>(f.offset == off) && tiles P (off + P.cellsOf f.type) total fs
def plainT (P:Program):Nat→TypeId→Bool
  | 0,_=>false
  | d + 1,t=>match P.underlying t with
    | some .bool | some (.int _) | some .string=>P.cellsOf t == 1
    | some (.slice e)=>(P.cellsOf t == 1) && decide (0 < P.cellsOf e) && plainT P d e
    | some (.struct fs)=>tiles P 0 (P.cellsOf t) fs.toList && fs.toList.all fun f=>plainT P d f.type
    | some (.array n e)=>(P.cellsOf t == n * P.cellsOf e) && plainT P d e
    | _=>false
theorem mapM_at {α β:Type} {f:α→Option β}:∀ {l:List α} {ys:List β},l.mapM f=some ys→ys.length=l.length∧∀ (j:Nat) x,l[j]?=some x→∃ y,ys[j]?=some y∧f x=some y
  | [],ys,h=>by simp at h; subst h; exact ⟨rfl,fun j x h=>by simp at h⟩
  | a :: l,ys,h=>by
    rw [List.mapM_cons] at h
    simp only [bind,Option.bind_eq_some_iff,pure,Option.some.injEq] at h
    obtain ⟨y,hy,zs,hz,rfl⟩:=h
    obtain ⟨h1,h2⟩:=mapM_at hz
    refine ⟨by simp [h1],fun j x hj=>?_⟩
    cases j with
    | zero=>simp at hj; subst hj; exact ⟨y,rfl,hy⟩
    | succ j=>exact h2 j x (by simpa using hj)
theorem tiles_le {P:Program}:∀ {fs:List Field} {off total:Nat},tiles P off total fs=true→off≤total
  | [],off,total,h=>by simp [tiles] at h; omega
  | f :: fs,off,total,h=>by
    simp only [tiles,Bool.and_eq_true] at h
    have:=tiles_le h.2
    omega
section
variable {X:Type} {enc:TypeId × Value→X} {P:Program} {w:World} {base:Nat} {spare:Nat→Bool} {held:Bool} {S:Nat→Prop}
theorem cells_at {a:Addr} {n:Nat} {cs:List Value} (h:w.cells? base a n=some cs):cs.length=n∧∀ j,j < n→w.cell? (a.add j)=cs[j]?:=by
  unfold World.cells? at h
  split at h
  · obtain ⟨h1,h2⟩:=mapM_at h
    refine ⟨by simpa using h1,fun j hj=>?_⟩
    obtain ⟨y,q1,q2⟩:=h2 j j (List.getElem?_range hj)
    rw [q2,q1]
  · cases h
theorem cell_spot {c o:Nat} {sp:Option Nat} {v:Value} (h:w.cell? ⟨c,o,sp⟩=some v):sp=none∧c < w.heap.size:=by
  unfold World.cell? at h
  split at h
  · rename_i C e f hC
    refine ⟨?_,(Array.getElem?_eq_some_iff.1 hC).1⟩
    cases sp with
    | none=>rfl
    | some x=>simp at h
  · cases h
theorem reads (hS : ∀ c,c < w.heap.size→S c):∀ (d fuel:Nat) {t:TypeId} {cs:List Value} {x:DataW X × List MemPlace},plainT P d t=true→DataW.trod enc P w base spare held fuel t cs=some x →
    cs.length=P.cellsOf t∧∃ xs:List AV,xs.length=cs.length∧Wt P d t xs∧∀ (i:Nat) y u,xs[i]?=some y→cs[i]?=some u→PR w S y u
  | 0,_,_,_,_,h,_=>by simp [plainT] at h
  | _ + 1,0,_,_,_,_,h=>by simp [DataW.trod] at h
  | d + 1, fuel + 1,t,cs,x,hp,h=>by
    unfold plainT at hp
    have one:∀ {y:AV} {u:Value},PR w S y u→∀ (i:Nat) y' u',[y][i]?=some y'→[u][i]?=some u'→PR w S y' u':=by
      intro y u hpr i y' u' h1 h2
      cases i with
      | zero=>simp at h1 h2; subst h1; subst h2; exact hpr
      | succ i=>simp at h1
    cases hu:P.underlying t with
    | none=>rw [hu] at hp; cases hp
    | some k =>
      rw [hu] at hp
      cases k <;> simp only [Bool.false_eq_true] at hp
      case bool =>
        unfold DataW.trod at h
        rw [hu] at h
        split at h <;> simp_all
        rename_i b
        exact ⟨[.bool b],by simp,by unfold Wt; rw [hu]; exact ⟨b,rfl⟩,one (.bool b)⟩
      case int k =>
        have hc1:P.cellsOf t=1:=by simpa using hp
        unfold DataW.trod at h
        rw [hu] at h
        split at h <;> first | (cases h; done) | skip
        all_goals first | (rename_i q; cases q; done) | skip
        rename_i k2 k' nn q
        cases q
        split at h
        · rename_i hw
          obtain ⟨rfl,hw⟩:=hw
          simp only [Lit.wf,Bool.and_eq_true,decide_eq_true_eq] at hw
          exact ⟨by simp [hc1],[.int k' nn],by simp,by unfold Wt; rw [hu]; exact ⟨nn,rfl,hw.1,hw.2⟩,one (.int k' nn)⟩
        · cases h
      case string =>
        unfold DataW.trod at h
        rw [hu] at h
        split at h <;> simp_all
        rename_i sb
        exact ⟨[.str sb],by simp,by unfold Wt; rw [hu]; exact ⟨sb,rfl,h.1⟩,one (.str sb)⟩
      case slice e =>
        simp only [Bool.and_eq_true,beq_iff_eq,decide_eq_true_eq] at hp
        obtain ⟨⟨hc1,h0⟩,hpe⟩:=hp
        rcases open_slice hu h with ⟨rfl,_⟩ | ⟨a,len,cap,m,n,D,Pl,rfl,_,hlc,hcm,hm,_,hel⟩
        · refine ⟨by simp [hc1],[.slice false (P.cellsOf e) []],by simp,?_,one (.slice0 _ _ _ _ (fun h=>by cases h))⟩
          unfold Wt; rw [hu]
          exact ⟨[],rfl,Nat.zero_le _,fun l hl=>by cases hl⟩
        · have hlm : len≤m:=by rw [hm]; split <;> omega
          have each:∀ i,i < len→∃ (l:List AV × List Value),w.cells? base (a.add (i * P.cellsOf e)) (P.cellsOf e)=some l.2∧l.1.length=P.cellsOf e∧Wt P d e l.1∧∀ (j:Nat) y u,l.1[j]?=some y→l.2[j]?=some u→PR w S y u:=by
            intro i hi
            obtain ⟨cs',q1,q2⟩:=hel i (by omega)
            obtain ⟨q3,xs,q4,q5,q6⟩:=reads hS d n hpe q2
            exact ⟨(xs,cs'),q1,by rw [q4,q3],q5,q6⟩
          obtain ⟨F,hF⟩:=choose_lt each
          have hlen:((List.range len).map fun i=>(F i).1).length=len:=by simp
          have hget:∀ (i:Nat) l,((List.range len).map fun i=>(F i).1)[i]?=some l→i < len∧l=(F i).1:=by
            intro i l hl
            have hi:i < len:=by have:=lt_of_get hl; simpa using this
            rw [List.getElem?_map,List.getElem?_range hi] at hl
            cases hl
            exact ⟨hi,rfl⟩
          refine ⟨by simp [hc1],[.slice false (P.cellsOf e) ((List.range len).map fun i=>(F i).1)],by simp,?_,one ?_⟩
          · unfold Wt; rw [hu]
            refine ⟨_,rfl,by rw [hlen]; omega,fun l hl=>?_⟩
            obtain ⟨i,hi⟩:=List.mem_iff_getElem?.1 hl
            obtain ⟨hil,rfl⟩:=hget i l hi
            exact ⟨(hF i hil).2.1,(hF i hil).2.2.1⟩
          · by_cases hz:len=0
            · subst hz
              exact .slice0 _ _ _ _ (fun h=>by cases h)
            · obtain ⟨c,off,sp⟩:=a
              have hcell:∀ i j,i < len→j < P.cellsOf e→w.cell? ((⟨c,off,sp⟩:Addr).add (i * P.cellsOf e + j))=(F i).2[j]?:=by
                intro i j hi hj
                rw [← add_add]
                exact (cells_at (hF i hi).1).2 j hj
              have hl2:∀ i,i < len→(F i).2.length=P.cellsOf e:=fun i hi=>(cells_at (hF i hi).1).1
              have h00:∃ v,w.cell? ⟨c,off,sp⟩=some v:=by
                have:=hcell 0 0 (by omega) h0
                have e1:(⟨c,off,sp⟩:Addr).add (0 * P.cellsOf e + 0)=⟨c,off,sp⟩:=by simp [Addr.add]
                rw [e1] at this
                rw [this]
                exact get_of_lt (by rw [hl2 0 (by omega)]; exact h0)
              obtain ⟨v0,hv0⟩:=h00
              obtain ⟨rfl,hcs⟩:=cell_spot hv0
              have := PR.slice (w:=w) (S:=S) false (P.cellsOf e) ((List.range len).map fun i=>(F i).1) c off cap (fun i j=>((F i).2[j]?).getD Go.undef) (fun q=>hz (by rw [← hlen,q]; rfl)) (by rw [hlen]; exact hlc) (fun h=>by cases h) (hS c hcs) h0
                (fun l hl=>by
                  obtain ⟨i,hi⟩:=List.mem_iff_getElem?.1 hl
                  obtain ⟨hil,rfl⟩:=hget i l hi
                  exact (hF i hil).2.1)
                (fun i l j y hl hy=>by
                  obtain ⟨hil,rfl⟩:=hget i l hl
                  have hj:j < P.cellsOf e:=by rw [← (hF i hil).2.1]; exact lt_of_get hy
                  have h1:=hcell i j hil hj
                  rw [addr_add,← Nat.add_assoc] at h1
                  rw [h1]
                  obtain ⟨u,hu'⟩:=get_of_lt (l:=(F i).2) (i:=j) (by rw [hl2 i hil]; exact hj)
                  rw [hu']; rfl)
                (fun i l j y hl hy=>by
                  obtain ⟨hil,rfl⟩:=hget i l hl
                  have hj:j < P.cellsOf e:=by rw [← (hF i hil).2.1]; exact lt_of_get hy
                  obtain ⟨u,hu'⟩:=get_of_lt (l:=(F i).2) (i:=j) (by rw [hl2 i hil]; exact hj)
                  rw [hu']
                  exact (hF i hil).2.2.2 j y u hy hu')
              rwa [hlen] at this
      case struct fs =>
        simp only [Bool.and_eq_true] at hp
        obtain ⟨ht,hall⟩:=hp
        unfold DataW.trod at h
        rw [hu] at h
        simp only at h
        split at h
        · rename_i hlen
          simp only [Option.map_eq_some_iff] at h
          obtain ⟨zs,hz,_⟩:=h
          have hat:=(mapM_at hz).2
          have key : ∀ (l:List Field) (off:Nat),tiles P off (P.cellsOf t) l=true→(∀ f,f ∈ l→plainT P d f.type=true∧∃ z,DataW.trod enc P w base spare held fuel f.type ((cs.drop f.offset).take (P.cellsOf f.type))=some z) →
              ∃ ys:List AV,ys.length + off=P.cellsOf t∧(∀ pre:List AV,pre.length=off→∀ f,f ∈ l→Wt P d f.type (((pre ++ ys).drop f.offset).take (P.cellsOf f.type)))∧∀ (i:Nat) y u,ys[i]?=some y→cs[off + i]?=some u→PR w S y u:=by
            intro l
            induction l with
            | nil=>intro off ht _; simp [tiles] at ht; exact ⟨[],by simpa using ht,fun _ _ f hf=>absurd hf (by simp),fun i y u hy=>by simp at hy⟩
            | cons f l ih =>
              intro off ht hl
              simp only [tiles,Bool.and_eq_true,beq_iff_eq] at ht
              obtain ⟨hoff,ht⟩:=ht
              have hle:=tiles_le ht
              obtain ⟨hpf,z,hz⟩:=hl f (.head _)
              obtain ⟨q3,xs,q4,q5,q6⟩:=reads hS d fuel hpf hz
              obtain ⟨ys,r1,r2,r3⟩:=ih (off + P.cellsOf f.type) ht (fun g hg=>hl g (.tail _ hg))
              have hxl:xs.length=P.cellsOf f.type:=by rw [q4,q3]
              refine ⟨xs ++ ys,by rw [List.length_append]; omega,fun pre hpre g hg=>?_,fun i y u hy hu'=>?_⟩
              · rcases List.mem_cons.1 hg with rfl | hg
                · rw [hoff,← hpre,List.drop_append_of_le_length (Nat.le_refl _),List.drop_length,List.nil_append,← hxl,List.take_append_of_le_length (Nat.le_refl _),List.take_length]
                  exact q5
                · have:=r2 (pre ++ xs) (by rw [List.length_append]; omega) g hg
                  rwa [List.append_assoc] at this
              · by_cases hi:i < xs.length
                · rw [List.getElem?_append_left hi] at hy
                  refine q6 i y u hy ?_
                  rw [List.getElem?_take,if_pos (by omega),List.getElem?_drop,hoff]
                  exact hu'
                · rw [List.getElem?_append_right (by omega)] at hy
                  refine r3 (i - xs.length) y u hy ?_
                  rw [show off + P.cellsOf f.type + (i - xs.length)=off + i by omega]
                  exact hu'
          obtain ⟨ys,r1,r2,r3⟩:=key fs.toList 0 ht (fun f hf=>by
            obtain ⟨i,hi⟩:=List.mem_iff_getElem?.1 hf
            obtain ⟨z,_,hz'⟩:=hat i f hi
            exact ⟨List.all_eq_true.1 hall f hf,z,hz'⟩)
          refine ⟨hlen,ys,by omega,?_,fun i y u hy hu'=>r3 i y u hy (by simpa using hu')⟩
          unfold Wt; rw [hu]
          exact ⟨by omega,fun f hf=>by simpa using r2 [] rfl f hf⟩
        · cases h
      case array n e =>
        simp only [Bool.and_eq_true,beq_iff_eq] at hp
        obtain ⟨hsz,hpe⟩:=hp
        unfold DataW.trod at h
        rw [hu] at h
        simp only at h
        split at h
        · rename_i hlen
          simp only [Option.map_eq_some_iff] at h
          obtain ⟨zs,hz,_⟩:=h
          have hat:=(mapM_at hz).2
          have key : ∀ (m j:Nat),j + m=n→∃ ys:List AV,ys.length=m * P.cellsOf e∧(∀ pre:List AV,pre.length=j * P.cellsOf e→∀ i,j≤i→i < n→Wt P d e (((pre ++ ys).drop (i * P.cellsOf e)).take (P.cellsOf e))) ∧
              ∀ (i:Nat) y u,ys[i]?=some y→cs[j * P.cellsOf e + i]?=some u→PR w S y u:=by
            intro m
            induction m with
            | zero=>intro j hj; exact ⟨[],by simp,fun _ _ i h1 h2=>by omega,fun i y u hy=>by simp at hy⟩
            | succ m ih =>
              intro j hj
              obtain ⟨z,_,hz'⟩:=hat j j (List.getElem?_range (by omega))
              obtain ⟨q3,xs,q4,q5,q6⟩:=reads hS d fuel hpe hz'
              obtain ⟨ys,r1,r2,r3⟩:=ih (j + 1) (by omega)
              have hxl:xs.length=P.cellsOf e:=by rw [q4,q3]
              have hj1:(j + 1) * P.cellsOf e=j * P.cellsOf e + P.cellsOf e:=Nat.succ_mul _ _
              refine ⟨xs ++ ys,by rw [List.length_append,hxl,r1,Nat.succ_mul]; omega,fun pre hpre i h1 h2=>?_,fun i y u hy hu'=>?_⟩
              · by_cases e1:i=j
                · subst e1
                  rw [← hpre,List.drop_append_of_le_length (Nat.le_refl _),List.drop_length,List.nil_append,← hxl,List.take_append_of_le_length (Nat.le_refl _),List.take_length]
                  exact q5
                · have:=r2 (pre ++ xs) (by rw [List.length_append,hj1]; omega) i (by omega) h2
                  rwa [List.append_assoc] at this
              · by_cases hi:i < xs.length
                · rw [List.getElem?_append_left hi] at hy
                  refine q6 i y u hy ?_
                  rw [List.getElem?_take,if_pos (by omega),List.getElem?_drop]
                  exact hu'
                · rw [List.getElem?_append_right (by omega)] at hy
                  refine r3 (i - xs.length) y u hy ?_
                  rw [hj1,show j * P.cellsOf e + P.cellsOf e + (i - xs.length)=j * P.cellsOf e + i by omega]
                  exact hu'
          obtain ⟨ys,r1,r2,r3⟩:=key n 0 (by omega)
          refine ⟨hlen,ys,by rw [r1,hlen,hsz],?_,fun i y u hy hu'=>r3 i y u hy (by simpa using hu')⟩
          unfold Wt; rw [hu]
          exact ⟨by rw [r1,hsz],fun i hi=>by simpa using r2 [] (by simp) i (Nat.zero_le _) hi⟩
        · cases h
end
end Go.Ai
end
section
namespace Go.Ai
open Go
def G0:Gh:=⟨fun _=>none,fun _=>0⟩
theorem R0 (P:Program) (W:World):R P G0 [] W:=⟨fun _ _ _ h=>absurd h (by simp),fun _ _ h=>absurd h (by simp),fun _ _ h=>by simp at h⟩
theorem stable0 {W:World} {c:Nat} (h:c < W.heap.size):Stable G0 0 W c:=⟨h,fun _ h=>absurd h (by omega)⟩
theorem below_of {G:Gh} {H:List AObj} {W W':World} (a:Ext G0 [] W G H W'):Go.RowKit.Below W.heap.size W W' :=
  ⟨a.os,a.tape,a.output,a.size,fun k hk=>(a.stable k (stable0 hk)).2⟩
theorem law_call {T:List (Nat × Obj)} {P:Program} {prog:AProg} (hok:ProgOK T P prog) (hm:P.follows .mixedOrders=true) (k:Nat) (f:FuncId) (W:World) (args:List Value) (xs:List AV) (hxs:LR G0 [] W xs args)
    (ht:∀ p,p ∈ T→W.heap[p.1]?=some p.2) (hev:(ev prog k (.fn f) xs ⟨[],false⟩).All fun p=>p.1=.val (.bool true)) :
    Calls P f args.toArray W fun e W'=>e=.returned (.bool true)∧Go.RowKit.Below W.heap.size W W':=by
  have hT:KT T G0 [] W:=fun p hp=>⟨stable0 (arr_lt (ht p hp)),ht p hp⟩
  obtain ⟨_,hc⟩:=simulated hok hm k f xs ⟨[],false⟩ G0 W args _ 0 (R0 P W) hT hxs hev
  refine callsIn_wide.1 (hc.mono fun e W' h=>?_)
  obtain ⟨ret,s',G',hq,hret,_,hx⟩:=h
  dsimp only at hq
  subst hq
  cases e <;> simp only [RetR] at hret
  rw [hret.bool_inv]
  exact ⟨rfl,below_of hx⟩
end Go.Ai
end
section
namespace Go.Ai
open Go
section
variable {X:Type} {enc:TypeId × Value→X} {P:Program} {W W':World}
theorem trodAll_below (hl:laidOutB P=true) (hb:Go.RowKit.Below W.heap.size W W'):∀ {ts:List TypeId} {vs:List Value} {ds:List (DataW X)} {ps:List MemPlace},(∀ t,t ∈ ts→P.readableRec t=true∧t < P.types.size) →
    DataW.TrodAll enc P W 0 (fun _=>true) true ts vs ds ps→(∀ x,x ∈ ps→x.block < W.heap.size)→DataW.TrodAll enc P W' 0 (fun b=>decide (b < W.heap.size)) true ts vs ds ps
  | [],[],[],_,_,h,_=>h
  | t :: ts,v :: vs,d :: ds,ps,hr,h,hlt=>by
    obtain ⟨p,q,h1,h2,rfl⟩:=h
    exact ⟨p,q,Go.RowKit.Below.trod hl (hr t (.head _)).1 (hr t (.head _)).2 h1 hb (fun x hx=>hlt x (List.mem_append_left _ hx)),
      trodAll_below hl hb (fun t' ht=>hr t' (.tail _ ht)) h2 (fun x hx=>hlt x (List.mem_append_right _ hx)),rfl⟩
  | [],_ :: _,_,_,_,h,_ | [],[],_ :: _,_,_,h,_ | _ :: _,[],_,_,_,h,_ | _ :: _,_ :: _,[],_,_,h,_=>by cases h
theorem post_of_law {f:Func} {s:ChangeSpec} {apart fresh handsOn:Bool} {args:Array Value} {ds gs:List (DataW X)} {before:List MemPlace} {tb:TypeId} (hl:laidOutB P=true) (hr:∀ t,t ∈ f.params.toList→P.readableRec t=true∧t < P.types.size)
    (hres:f.resultTypes=#[tb]) (hb:P.underlying tb=some .bool) (hvars:s.vars=[]) (hW:DataW.Whole enc P f.params.toList s.vars apart W args.toList ds gs before) (hfn:(s.fn X (ds ++ gs)).results=[.lit (.bool true)]∧(s.fn X (ds ++ gs)).args=ds∧(s.fn X (ds ++ gs)).vars=[])
    (hbel:Go.RowKit.Below W.heap.size W W'):s.post enc P f apart fresh handsOn false W args (.bool true) W':=by
  obtain ⟨p,q,hA,hV,he,hz,hn⟩:=hW
  have hlt:=DataW.Whole.lt (enc:=enc) ⟨p,q,hA,hV,he,hz,hn⟩
  have hq:q=[]:=by
    rw [hvars] at hV
    cases gs with
    | nil=>exact hV
    | cons g gs=>exact hV.elim
  refine ⟨ds,gs,before,[],p,[],⟨p,q,hA,hV,he,hz,hn⟩,?_,?_,?_,hbel.frame _,fun h=>by cases h⟩
  · rw [hres,hfn.1]
    refine ⟨[],[],⟨1,?_⟩,rfl,rfl⟩
    unfold DataW.trod
    rw [hb]
    rfl
  · rw [hfn.2.1]
    exact trodAll_below hl hbel hr hA (fun x hx=>hlt x (by rw [he]; exact List.mem_append_left _ hx))
  · rw [hvars,hfn.2.2]
    rfl
theorem okWide_shape {r:Reach} {b0:Nat} {t:TypeId} {v:Value} (h:Value.okWide P W r b0 t v):(isAggT P t=some true→∃ cs,v=.agg cs)∧((P.underlying t=some .bool∨(∃ k,P.underlying t=some (.int k))∨P.underlying t=some .string∨∃ e,P.underlying t=some (.slice e))→∀ cs,v ≠ .agg cs):=by
  constructor
  · intro ha
    unfold isAggT at ha
    obtain ⟨k,hk,ha⟩:=bind_some ha
    unfold Value.okWide at h
    rw [hk] at h
    cases k <;> simp at ha
    all_goals (obtain ⟨cs,hv,_⟩:=h; exact ⟨cs,hv⟩)
  · intro hk cs hv
    subst hv
    unfold Value.okWide at h
    rcases hk with hk | ⟨k,hk⟩ | hk | ⟨e,hk⟩ <;> (rw [hk] at h; simp [Cell.okWide,Cell.ok,hk] at h)
end
end Go.Ai
end
section
namespace Go.Ai
open Go
def Arg (P:Program) (d:Nat) (t:TypeId) (x:AV):Prop:=Wt P d t x.cells∧(isAggT P t=some true→∃ cs,x=.agg cs)∧(isAggT P t=some false→∀ cs,x ≠ .agg cs)
theorem plain_cases {P:Program} {d:Nat} {t:TypeId} (h:plainT P d t=true):isAggT P t=some true∨(isAggT P t=some false∧(P.underlying t=some .bool∨(∃ k,P.underlying t=some (.int k))∨P.underlying t=some .string∨∃ e,P.underlying t=some (.slice e))):=by
  cases d with
  | zero=>simp [plainT] at h
  | succ d =>
    unfold plainT at h
    cases hk:P.underlying t with
    | none=>rw [hk] at h; cases h
    | some k =>
      rw [hk] at h
      unfold isAggT
      rw [hk]
      cases k <;> simp at h <;> simp
section
variable {X:Type} {enc:TypeId × Value→X} {P:Program} {W:World}
theorem read_arg {d:Nat} {t:TypeId} {v:Value} {dd:DataW X} {ps:List MemPlace} {r:Reach} {b0:Nat} (hp:plainT P d t=true) (h:DataW.Trod enc P W 0 (fun _=>true) true t v dd ps) (hok:Value.okWide P W r b0 t v):∃ x,PR W (Stable G0 0 W) x v∧Arg P d t x:=by
  obtain ⟨fuel,h⟩:=h
  obtain ⟨_,xs,hl,hw,hpr⟩:=reads (S:=Stable G0 0 W) (fun c hc=>stable0 hc) d fuel hp h
  obtain ⟨ok1,ok2⟩:=okWide_shape hok
  rcases plain_cases hp with ha | ⟨ha,hk⟩
  · obtain ⟨cs,rfl⟩:=ok1 ha
    refine ⟨.agg xs,?_,hw,fun _=>⟨xs,rfl⟩,fun q=>by rw [ha] at q; cases q⟩
    have:=PR.agg (w:=W) (S:=Stable G0 0 W) xs cs.toList (by rw [hl]; rfl) (fun i x u hx hu=>hpr i x u hx hu)
    simpa using this
  · have hne:=ok2 hk
    have hc:v.cells=#[v]:=by cases v <;> first | rfl | exact absurd rfl (hne _)
    rw [hc] at hl hpr
    match xs,hl with
    | [x],_ =>
      have hxp:PR W (Stable G0 0 W) x v:=hpr 0 x v rfl rfl
      have hxn:∀ cs,x ≠ .agg cs:=by
        intro cs hx
        subst hx
        cases hxp
        exact hne _ rfl
      refine ⟨x,hxp,?_,(fun q=>by rw [ha] at q; cases q),fun _=>hxn⟩
      rw [cells_of_not_agg hxn]
      exact hw
theorem read_args {d:Nat} {r:Reach} {b0:Nat}:∀ {ts:List TypeId} {vs:List Value} {ds:List (DataW X)} {ps:List MemPlace},DataW.TrodAll enc P W 0 (fun _=>true) true ts vs ds ps→(∀ (j:Nat) t v,ts[j]?=some t→vs[j]?=some v→Value.okWide P W r b0 t v) →
    (∀ t,t ∈ ts→plainT P d t=true)→∃ xs,LR G0 [] W xs vs∧xs.length=ts.length∧∀ (j:Nat) t x,ts[j]?=some t→xs[j]?=some x→Arg P d t x
  | [],[],[],_,_,_,_=>⟨[],.nil,rfl,fun j t x h=>by simp at h⟩
  | t :: ts,v :: vs,dd :: ds,ps,h,hok,hp=>by
    obtain ⟨p,q,h1,h2,_⟩:=h
    obtain ⟨x,hx,ha⟩:=read_arg (hp t (.head _)) h1 (hok 0 t v rfl rfl)
    obtain ⟨xs,k1,k2,k3⟩:=read_args h2 (fun j t' v' ht hv=>hok (j + 1) t' v' (by simpa using ht) (by simpa using hv)) (fun t' ht=>hp t' (.tail _ ht))
    refine ⟨x :: xs,LR.cons (.pure _ _ hx) k1,by simp [k2],fun j t' x' ht hx'=>?_⟩
    cases j with
    | zero=>simp at ht hx'; subst ht; subst hx'; exact ha
    | succ j=>exact k3 j t' x' (by simpa using ht) (by simpa using hx')
  | [],_ :: _,_,_,h,_,_ | [],[],_ :: _,_,h,_,_ | _ :: _,[],_,_,h,_,_ | _ :: _,_ :: _,[],_,h,_,_=>by cases h
end
end Go.Ai
end
