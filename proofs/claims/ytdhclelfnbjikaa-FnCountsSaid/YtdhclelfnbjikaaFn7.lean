/- Functions of the program, each with what it returns and leaves. No condition. -/
import Derived.Test.YtdhclelfnbjikaaFn6
import Derived.Test.YtdhclelfnbjikaaTree8
import Derived.Test.YtdhclelfnbjikaaFn3
import Derived.KernelRfl
set_option linter.all false
set_option linter.unusedVariables false
set_option linter.unusedSimpArgs false
set_option linter.unusedSectionVars false
set_option linter.unnecessarySimpa false
set_option linter.deprecated false
/- Functions of the program as contracts: the drawn law of counts. No condition. -/
set_option maxRecDepth 100000
set_option maxHeartbeats 8000000
set_option linter.unusedSimpArgs false
set_option linter.unusedVariables false
namespace Go.Proofs.YtdhclelfnbjikaaT
open Go Go.RowKit
theorem sameG3 {n : List Nd} {r c : List Int} (s : Small ⟨n, r, c⟩) : Meets Try.prog 47 [.agg [.sl false 2 n.length (ndR n), (.sl false 1 r.length (r.map (T.int .i64))), (.sl false 1 c.length (c.map (T.int .i64)))], .agg [.sl false 2 n.length (ndR n), (.sl false 1 r.length (r.map (T.int .i64))), (.sl false 1 c.length (c.map (T.int .i64)))]] (.w (.one (.bool true))) [.agg [.hole, .hole, .hole], .agg [.hole, .hole, .hole]] := sameGraphs_ok ⟨n, r, c⟩ s
theorem goodG3 {n : List Nd} {r c : List Int} (h : GoodG ⟨n, r, c⟩) : Meets Try.prog 27 [.agg [.sl false 2 n.length (ndR n), (.sl false 1 r.length (r.map (T.int .i64))), (.sl false 1 c.length (c.map (T.int .i64)))]] (.w (.one (.bool true))) [.agg [.hole, .hole, .hole]] := by
  have s := good_small h
  have M := implGoodGraph_ok ⟨n, r, c⟩ s.n s.h s.r s.c
  rw [decide_eq_true h] at M
  exact M
theorem reachG3 {n : List Nd} {r c : List Int} (h : GoodG ⟨n, r, c⟩) : Meets Try.prog 34 [.agg [.sl false 2 n.length (ndR n), (.sl false 1 r.length (r.map (T.int .i64))), (.sl false 1 c.length (c.map (T.int .i64)))]] (.tup [.one (.sl true 1 (rchL n r).length ((rchL n r).map (T.int .i64))), .one (.bool true)]) [.agg [.hole, .hole, .hole]] := by
  have M := implReachedIn_ok ⟨n, r, c⟩ (good_small h)
  rw [ReRes, if_pos h] at M
  exact M
theorem small0 : Small ⟨[], [], []⟩ := ⟨by decide, by simp, by decide, by decide⟩
def g12_0 : List Gop := [⟨none, (some 4), (.mov (.k (.one (.bool .false))))⟩]
def g12_1 : List Gop := [⟨none, (some 37), (.mov (.t 0))⟩, ⟨none, (some 38), (.len (.t 37))⟩, ⟨none, (some 39), (.mov (.t 1))⟩, ⟨none, (some 40), (.len (.t 39))⟩, ⟨none, (some 41), (.bin .add (.t 38) (.t 40))⟩, ⟨none, (some 42), (.bin .gtr (.t 41) (.k (.one (.int .i64 1048576))))⟩]
def g12_2 : List Gop := [⟨none, (some 4), (.mov (.k (.one (.bool .true))))⟩]
def g12_3 : List Gop := [⟨none, (some 44), (.mov (.t 0))⟩, ⟨none, (some 45), (.call 45 [(.t 44)])⟩, ⟨none, (some 43), (.mov (.t 45))⟩, ⟨none, (some 46), (.ext (.t 43) 0)⟩, ⟨none, (some 47), (.ext (.t 43) 1)⟩, ⟨none, (some 5), (.alloc [.nil, .nil, .nil])⟩, ⟨none, none, (.store 3 (.t 5) (.t 46))⟩, ⟨none, (some 6), (.mov (.t 47))⟩]
def g12_4 : List Gop := [⟨none, (some 49), (.load (some 3) (.t 5))⟩, ⟨none, (some 50), (.mov (.t 6))⟩, ⟨none, (some 51), (.call 42 [(.t 49), (.t 50)])⟩, ⟨none, (some 48), (.mov (.t 51))⟩, ⟨none, (some 52), (.ext (.t 48) 0)⟩, ⟨none, (some 53), (.ext (.t 48) 1)⟩, ⟨none, (some 54), (.ext (.t 48) 2)⟩, ⟨none, (some 7), (.alloc [.nil, .nil, .nil])⟩, ⟨none, none, (.store 3 (.t 7) (.t 52))⟩, ⟨none, (some 8), (.mov (.t 53))⟩, ⟨none, (some 9), (.mov (.t 54))⟩]
def g12_5 : List Gop := [⟨none, (some 56), (.load (some 3) (.t 5))⟩, ⟨none, (some 57), (.mov (.t 6))⟩, ⟨none, (some 58), (.call 41 [(.t 56), (.t 57)])⟩, ⟨none, (some 55), (.mov (.t 58))⟩, ⟨none, (some 59), (.ext (.t 55) 0)⟩, ⟨none, (some 60), (.ext (.t 55) 1)⟩, ⟨none, (some 61), (.ext (.t 55) 2)⟩, ⟨none, (some 10), (.alloc [.nil, .nil, .nil])⟩, ⟨none, none, (.store 3 (.t 10) (.t 59))⟩, ⟨none, (some 11), (.mov (.t 60))⟩, ⟨none, (some 12), (.mov (.t 61))⟩]
def g12_6 : List Gop := [⟨none, (some 62), (.mov (.t 9))⟩, ⟨none, (some 63), (.mov (.t 12))⟩, ⟨none, (some 64), (.beq .true (.t 62) (.t 63))⟩, ⟨none, (some 65), (.mov (.t 64))⟩, ⟨(some (65, .false)), (some 66), (.mov (.t 8))⟩, ⟨(some (65, .false)), (some 67), (.mov (.t 11))⟩, ⟨(some (65, .false)), (some 68), (.call 46 [(.t 66), (.t 67)])⟩, ⟨(some (65, .false)), (some 69), (.un .not (.t 68))⟩, ⟨none, (some 70), (.pick (.t 65) (.k (.one (.bool .true))) (.t 69))⟩, ⟨none, (some 71), (.mov (.t 70))⟩, ⟨(some (71, .false)), (some 72), (.load (some 3) (.t 7))⟩, ⟨(some (71, .false)), (some 73), (.load (some 3) (.t 10))⟩, ⟨(some (71, .false)), (some 74), (.call 47 [(.t 72), (.t 73)])⟩, ⟨(some (71, .false)), (some 75), (.un .not (.t 74))⟩, ⟨none, (some 76), (.pick (.t 71) (.k (.one (.bool .true))) (.t 75))⟩, ⟨none, (some 77), (.mov (.t 76))⟩, ⟨(some (77, .false)), (some 78), (.load (some 3) (.t 5))⟩, ⟨(some (77, .false)), (some 79), (.call 27 [(.t 78)])⟩, ⟨(some (77, .false)), (some 80), (.load (some 3) (.t 5))⟩, ⟨(some (77, .false)), (some 81), (.call 25 [(.t 80)])⟩, ⟨(some (77, .false)), (some 82), (.beq .true (.t 79) (.t 81))⟩, ⟨none, (some 83), (.pick (.t 77) (.k (.one (.bool .true))) (.t 82))⟩]
def a12_6 : List (List Nat) := [[], [], [0, 1], [0, 1, 2], [0, 1, 2, 3], [0, 1, 2, 3], [0, 1, 2, 3, 4, 5], [0, 1, 2, 3, 4, 5, 6], [0, 1, 2, 3, 4, 5, 6, 7], [0, 1, 2, 3, 4, 5, 6, 7, 8], [0, 1, 2, 3, 4, 5, 6, 7, 8, 9], [0, 1, 2, 3, 4, 5, 6, 7, 8, 9], [0, 1, 2, 3, 4, 5, 6, 7, 8, 9, 10, 11], [0, 1, 2, 3, 4, 5, 6, 7, 8, 9, 10, 11, 12], [0, 1, 2, 3, 4, 5, 6, 7, 8, 9, 10, 11, 12, 13], [0, 1, 2, 3, 4, 5, 6, 7, 8, 9, 10, 11, 12, 13, 14], [0, 1, 2, 3, 4, 5, 6, 7, 8, 9, 10, 11, 12, 13, 14, 15], [0, 1, 2, 3, 4, 5, 6, 7, 8, 9, 10, 11, 12, 13, 14, 15, 16], [0, 1, 2, 3, 4, 5, 6, 7, 8, 9, 10, 11, 12, 13, 14, 15], [0, 1, 2, 3, 4, 5, 6, 7, 8, 9, 10, 11, 12, 13, 14, 15, 16, 17, 18], [0, 1, 2, 3, 4, 5, 6, 7, 8, 9, 10, 11, 12, 13, 14, 15, 16, 17, 18, 19], [0, 1, 2, 3, 4, 5, 6, 7, 8, 9, 10, 11, 12, 13, 14, 15, 16, 17, 18, 19, 20]]
def n12_6 : Nat := 19 -- of 22
def g12_7 : List Gop := [⟨none, (some 4), (.mov (.k (.one (.bool .false))))⟩]
def g12_8 : List Gop := [⟨none, (some 84), (.mov (.t 9))⟩]
def g12_9 : List Gop := [⟨none, (some 86), (.load (some 3) (.t 5))⟩, ⟨none, (some 87), (.call 34 [(.t 86)])⟩, ⟨none, (some 85), (.mov (.t 87))⟩, ⟨none, (some 88), (.ext (.t 85) 0)⟩, ⟨none, (some 89), (.ext (.t 85) 1)⟩, ⟨none, (some 13), (.mov (.t 88))⟩, ⟨none, (some 14), (.mov (.t 89))⟩]
def g12_10 : List Gop := [⟨none, (some 91), (.load (some 3) (.t 7))⟩, ⟨none, (some 92), (.call 34 [(.t 91)])⟩, ⟨none, (some 90), (.mov (.t 92))⟩, ⟨none, (some 93), (.ext (.t 90) 0)⟩, ⟨none, (some 94), (.ext (.t 90) 1)⟩, ⟨none, (some 15), (.mov (.t 93))⟩, ⟨none, (some 16), (.mov (.t 94))⟩]
def g12_11 : List Gop := [⟨none, (some 95), (.load (some 3) (.t 7))⟩, ⟨none, (some 96), (.call 27 [(.t 95)])⟩, ⟨none, (some 97), (.un .not (.t 96))⟩, ⟨none, (some 98), (.mov (.t 97))⟩, ⟨(some (98, .false)), (some 99), (.mov (.t 14))⟩, ⟨(some (98, .false)), (some 100), (.un .not (.t 99))⟩, ⟨none, (some 101), (.pick (.t 98) (.k (.one (.bool .true))) (.t 100))⟩, ⟨none, (some 102), (.mov (.t 101))⟩, ⟨(some (102, .false)), (some 103), (.mov (.t 16))⟩, ⟨(some (102, .false)), (some 104), (.un .not (.t 103))⟩, ⟨none, (some 105), (.pick (.t 102) (.k (.one (.bool .true))) (.t 104))⟩, ⟨none, (some 106), (.mov (.t 105))⟩, ⟨(some (106, .false)), (some 107), (.mov (.t 13))⟩, ⟨(some (106, .false)), (some 108), (.len (.t 107))⟩, ⟨(some (106, .false)), (some 109), (.mov (.t 15))⟩, ⟨(some (106, .false)), (some 110), (.len (.t 109))⟩, ⟨(some (106, .false)), (some 111), (.mov (.t 8))⟩, ⟨(some (106, .false)), (some 112), (.len (.t 111))⟩, ⟨(some (106, .false)), (some 113), (.bin .add (.t 110) (.t 112))⟩, ⟨(some (106, .false)), (some 114), (.bin .neq (.t 108) (.t 113))⟩, ⟨none, (some 115), (.pick (.t 106) (.k (.one (.bool .true))) (.t 114))⟩]
def g12_12 : List Gop := [⟨none, (some 4), (.mov (.k (.one (.bool .false))))⟩]
def g12_13 : List Gop := [⟨none, (some 116), (.faddr (.t 7) 0)⟩, ⟨none, (some 117), (.load none (.t 116))⟩, ⟨none, (some 118), (.len (.t 117))⟩, ⟨none, (some 119), (.mov (.k (.one (.int .i64 0))))⟩]
def g12_14 : List Gop := [⟨none, (some 120), (.bin .lss (.t 119) (.t 118))⟩]
def g12_15 : List Gop := [⟨none, (some 121), (.mov (.t 119))⟩, ⟨none, (some 17), (.mov (.t 121))⟩]
def g12_16 : List Gop := [⟨none, (some 122), (.faddr (.t 7) 0)⟩, ⟨none, (some 123), (.load none (.t 122))⟩, ⟨none, (some 124), (.mov (.t 17))⟩, ⟨none, (some 125), (.iaddr 2 (.t 123) (.t 124))⟩, ⟨none, (some 126), (.faddr (.t 125) 1)⟩, ⟨none, (some 127), (.load none (.t 126))⟩, ⟨none, (some 128), (.mov (.t 15))⟩, ⟨none, (some 129), (.mov (.t 17))⟩, ⟨none, (some 130), (.call 48 [(.t 128), (.t 129)])⟩, ⟨none, (some 131), (.beq .false (.t 127) (.t 130))⟩, ⟨none, (some 132), (.mov (.t 131))⟩, ⟨(some (132, .false)), (some 133), (.mov (.t 8))⟩, ⟨(some (132, .false)), (some 134), (.mov (.t 17))⟩, ⟨(some (132, .false)), (some 135), (.call 48 [(.t 133), (.t 134)])⟩, ⟨(some (132, .false)), (some 136), (.mov (.t 135))⟩, ⟨(some (136, .true)), (some 137), (.mov (.t 15))⟩, ⟨(some (136, .true)), (some 138), (.mov (.t 17))⟩, ⟨(some (136, .true)), (some 139), (.call 48 [(.t 137), (.t 138)])⟩, ⟨(some (132, .false)), (some 140), (.pick (.t 136) (.t 139) (.k (.one (.bool .false))))⟩, ⟨none, (some 141), (.pick (.t 132) (.k (.one (.bool .true))) (.t 140))⟩, ⟨none, (some 142), (.mov (.t 141))⟩, ⟨(some (142, .false)), (some 143), (.mov (.t 8))⟩, ⟨(some (142, .false)), (some 144), (.mov (.t 17))⟩, ⟨(some (142, .false)), (some 145), (.call 48 [(.t 143), (.t 144)])⟩, ⟨(some (142, .false)), (some 146), (.mov (.t 145))⟩, ⟨(some (146, .true)), (some 147), (.mov (.t 13))⟩, ⟨(some (146, .true)), (some 148), (.mov (.t 17))⟩, ⟨(some (146, .true)), (some 149), (.call 48 [(.t 147), (.t 148)])⟩, ⟨(some (146, .true)), (some 150), (.un .not (.t 149))⟩, ⟨(some (142, .false)), (some 151), (.pick (.t 146) (.t 150) (.k (.one (.bool .false))))⟩, ⟨none, (some 152), (.pick (.t 142) (.k (.one (.bool .true))) (.t 151))⟩]
def a12_16 : List (List Nat) := [[], [0], [], [0, 1, 2], [0, 1, 2, 3], [0, 1, 2, 3, 4], [], [], [6, 7], [0, 1, 2, 3, 4, 5, 6, 7, 8], [0, 1, 2, 3, 4, 5, 6, 7, 8, 9], [0, 1, 2, 3, 4, 5, 6, 7, 8, 9, 10], [0, 1, 2, 3, 4, 5, 6, 7, 8, 9, 10], [0, 1, 2, 3, 4, 5, 6, 7, 8, 9, 10, 11, 12], [0, 1, 2, 3, 4, 5, 6, 7, 8, 9, 10, 11, 12, 13], [0, 1, 2, 3, 4, 5, 6, 7, 8, 9, 10, 11, 12, 13, 14], [0, 1, 2, 3, 4, 5, 6, 7, 8, 9, 10, 11, 12, 13, 14], [0, 1, 2, 3, 4, 5, 6, 7, 8, 9, 10, 11, 12, 13, 14, 15, 16], [0, 1, 2, 3, 4, 5, 6, 7, 8, 9, 10, 11, 12, 13, 14, 15, 16, 17], [0, 1, 2, 3, 4, 5, 6, 7, 8, 9, 10, 11, 12, 13, 14, 15, 16, 17, 18], [0, 1, 2, 3, 4, 5, 6, 7, 8, 9, 10, 11, 12, 13, 14, 15, 16, 17, 18, 19], [0, 1, 2, 3, 4, 5, 6, 7, 8, 9, 10, 11, 12, 13, 14, 15, 16, 17, 18, 19, 20], [0, 1, 2, 3, 4, 5, 6, 7, 8, 9, 10, 11, 12, 13, 14, 15, 16, 17, 18, 19, 20], [0, 1, 2, 3, 4, 5, 6, 7, 8, 9, 10, 11, 12, 13, 14, 15, 16, 17, 18, 19, 20, 21, 22], [0, 1, 2, 3, 4, 5, 6, 7, 8, 9, 10, 11, 12, 13, 14, 15, 16, 17, 18, 19, 20, 21, 22, 23], [0, 1, 2, 3, 4, 5, 6, 7, 8, 9, 10, 11, 12, 13, 14, 15, 16, 17, 18, 19, 20, 21, 22, 23, 24], [0, 1, 2, 3, 4, 5, 6, 7, 8, 9, 10, 11, 12, 13, 14, 15, 16, 17, 18, 19, 20, 21, 22, 23, 24], [0, 1, 2, 3, 4, 5, 6, 7, 8, 9, 10, 11, 12, 13, 14, 15, 16, 17, 18, 19, 20, 21, 22, 23, 24, 25, 26], [0, 1, 2, 3, 4, 5, 6, 7, 8, 9, 10, 11, 12, 13, 14, 15, 16, 17, 18, 19, 20, 21, 22, 23, 24, 25, 26, 27], [0, 1, 2, 3, 4, 5, 6, 7, 8, 9, 10, 11, 12, 13, 14, 15, 16, 17, 18, 19, 20, 21, 22, 23, 24, 25, 26, 27, 28], [0, 1, 2, 3, 4, 5, 6, 7, 8, 9, 10, 11, 12, 13, 14, 15, 16, 17, 18, 19, 20, 21, 22, 23, 24, 25, 26, 27, 28, 29]]
def n12_16 : Nat := 27 -- of 31
def g12_17 : List Gop := [⟨none, (some 4), (.mov (.k (.one (.bool .false))))⟩]
def g12_18 : List Gop := [⟨none, (some 153), (.bin .add (.t 119) (.k (.one (.int .i64 1))))⟩, ⟨none, (some 119), (.mov (.t 153))⟩]
def g12_19 : List Gop := [⟨none, (some 155), (.mov (.t 1))⟩, ⟨none, (some 156), (.call 49 [(.t 155)])⟩, ⟨none, (some 154), (.mov (.t 156))⟩, ⟨none, (some 157), (.ext (.t 154) 0)⟩, ⟨none, (some 158), (.ext (.t 154) 1)⟩, ⟨none, (some 159), (.ext (.t 154) 2)⟩, ⟨none, (some 18), (.alloc [.nil, .nil, .nil])⟩, ⟨none, none, (.store 3 (.t 18) (.t 157))⟩, ⟨none, (some 19), (.mov (.t 158))⟩, ⟨none, (some 20), (.mov (.t 159))⟩]
def g12_20 : List Gop := [⟨none, (some 161), (.load (some 3) (.t 18))⟩, ⟨none, (some 162), (.mov (.t 19))⟩, ⟨none, (some 163), (.mov (.t 20))⟩, ⟨none, (some 164), (.call 44 [(.t 161), (.t 162), (.t 163)])⟩, ⟨none, (some 160), (.mov (.t 164))⟩, ⟨none, (some 165), (.ext (.t 160) 0)⟩, ⟨none, (some 166), (.ext (.t 160) 1)⟩, ⟨none, (some 167), (.ext (.t 160) 2)⟩, ⟨none, (some 21), (.alloc [.nil, .nil, .nil])⟩, ⟨none, none, (.store 3 (.t 21) (.t 165))⟩, ⟨none, (some 22), (.mov (.t 166))⟩, ⟨none, (some 23), (.mov (.t 167))⟩]
def g12_21 : List Gop := [⟨none, (some 169), (.load (some 3) (.t 18))⟩, ⟨none, (some 170), (.mov (.t 19))⟩, ⟨none, (some 171), (.mov (.t 20))⟩, ⟨none, (some 172), (.call 43 [(.t 169), (.t 170), (.t 171)])⟩, ⟨none, (some 168), (.mov (.t 172))⟩, ⟨none, (some 173), (.ext (.t 168) 0)⟩, ⟨none, (some 174), (.ext (.t 168) 1)⟩, ⟨none, (some 175), (.ext (.t 168) 2)⟩, ⟨none, (some 24), (.alloc [.nil, .nil, .nil])⟩, ⟨none, none, (.store 3 (.t 24) (.t 173))⟩, ⟨none, (some 25), (.mov (.t 174))⟩, ⟨none, (some 26), (.mov (.t 175))⟩]
def g12_22 : List Gop := [⟨none, (some 176), (.mov (.t 23))⟩, ⟨none, (some 177), (.mov (.t 26))⟩, ⟨none, (some 178), (.beq .true (.t 176) (.t 177))⟩, ⟨none, (some 179), (.mov (.t 178))⟩, ⟨(some (179, .false)), (some 180), (.mov (.t 22))⟩, ⟨(some (179, .false)), (some 181), (.mov (.t 25))⟩, ⟨(some (179, .false)), (some 182), (.call 46 [(.t 180), (.t 181)])⟩, ⟨(some (179, .false)), (some 183), (.un .not (.t 182))⟩, ⟨none, (some 184), (.pick (.t 179) (.k (.one (.bool .true))) (.t 183))⟩, ⟨none, (some 185), (.mov (.t 184))⟩, ⟨(some (185, .false)), (some 186), (.load (some 3) (.t 21))⟩, ⟨(some (185, .false)), (some 187), (.load (some 3) (.t 24))⟩, ⟨(some (185, .false)), (some 188), (.call 47 [(.t 186), (.t 187)])⟩, ⟨(some (185, .false)), (some 189), (.un .not (.t 188))⟩, ⟨none, (some 190), (.pick (.t 185) (.k (.one (.bool .true))) (.t 189))⟩]
def g12_23 : List Gop := [⟨none, (some 4), (.mov (.k (.one (.bool .false))))⟩]
def g12_24 : List Gop := [⟨none, (some 191), (.mov (.t 23))⟩]
def g12_25 : List Gop := [⟨none, (some 193), (.load (some 3) (.t 21))⟩, ⟨none, (some 194), (.call 34 [(.t 193)])⟩, ⟨none, (some 192), (.mov (.t 194))⟩, ⟨none, (some 195), (.ext (.t 192) 0)⟩, ⟨none, (some 196), (.ext (.t 192) 1)⟩, ⟨none, (some 27), (.mov (.t 195))⟩, ⟨none, (some 28), (.mov (.t 196))⟩]
def g12_26 : List Gop := [⟨none, (some 197), (.load (some 3) (.t 21))⟩, ⟨none, (some 198), (.call 27 [(.t 197)])⟩, ⟨none, (some 199), (.un .not (.t 198))⟩, ⟨none, (some 200), (.mov (.t 199))⟩, ⟨(some (200, .false)), (some 201), (.mov (.t 28))⟩, ⟨(some (200, .false)), (some 202), (.un .not (.t 201))⟩, ⟨none, (some 203), (.pick (.t 200) (.k (.one (.bool .true))) (.t 202))⟩]
def g12_27 : List Gop := [⟨none, (some 4), (.mov (.k (.one (.bool .false))))⟩]
def g12_28 : List Gop := [⟨none, (some 204), (.faddr (.t 21) 0)⟩, ⟨none, (some 205), (.load none (.t 204))⟩, ⟨none, (some 206), (.len (.t 205))⟩, ⟨none, (some 207), (.mov (.k (.one (.int .i64 0))))⟩]
def g12_29 : List Gop := [⟨none, (some 208), (.bin .lss (.t 207) (.t 206))⟩]
def g12_30 : List Gop := [⟨none, (some 209), (.mov (.t 207))⟩, ⟨none, (some 29), (.mov (.t 209))⟩]
def g12_31 : List Gop := [⟨none, (some 210), (.faddr (.t 21) 0)⟩, ⟨none, (some 211), (.load none (.t 210))⟩, ⟨none, (some 212), (.mov (.t 29))⟩, ⟨none, (some 213), (.iaddr 2 (.t 211) (.t 212))⟩, ⟨none, (some 214), (.faddr (.t 213) 1)⟩, ⟨none, (some 215), (.load none (.t 214))⟩, ⟨none, (some 216), (.mov (.t 27))⟩, ⟨none, (some 217), (.mov (.t 29))⟩, ⟨none, (some 218), (.call 48 [(.t 216), (.t 217)])⟩, ⟨none, (some 219), (.beq .false (.t 215) (.t 218))⟩]
def a12_31 : List (List Nat) := [[], [0], [], [0, 1, 2], [0, 1, 2, 3], [0, 1, 2, 3, 4], [], [], [6, 7], [0, 1, 2, 3, 4, 5, 6, 7, 8]]
def n12_31 : Nat := 9 -- of 10
def g12_32 : List Gop := [⟨none, (some 4), (.mov (.k (.one (.bool .false))))⟩]
def g12_33 : List Gop := [⟨none, (some 220), (.bin .add (.t 207) (.k (.one (.int .i64 1))))⟩, ⟨none, (some 207), (.mov (.t 220))⟩]
def g12_34 : List Gop := [⟨none, (some 222), (.mov (.t 1))⟩, ⟨none, (some 223), (.call 50 [(.t 222)])⟩, ⟨none, (some 221), (.mov (.t 223))⟩, ⟨none, (some 224), (.ext (.t 221) 0)⟩, ⟨none, (some 225), (.ext (.t 221) 1)⟩, ⟨none, (some 226), (.ext (.t 221) 2)⟩, ⟨none, (some 30), (.alloc [.nil, .nil, .nil])⟩, ⟨none, none, (.store 3 (.t 30) (.t 224))⟩, ⟨none, (some 31), (.mov (.t 225))⟩, ⟨none, (some 32), (.mov (.t 226))⟩]
def g12_35 : List Gop := [⟨none, (some 228), (.load (some 3) (.t 30))⟩, ⟨none, (some 229), (.mov (.t 31))⟩, ⟨none, (some 230), (.mov (.t 32))⟩, ⟨none, (some 231), (.call 38 [(.t 228), (.t 229), (.t 230)])⟩, ⟨none, (some 227), (.mov (.t 231))⟩, ⟨none, (some 232), (.ext (.t 227) 0)⟩, ⟨none, (some 233), (.ext (.t 227) 1)⟩, ⟨none, (some 33), (.alloc [.nil, .nil, .nil])⟩, ⟨none, none, (.store 3 (.t 33) (.t 232))⟩, ⟨none, (some 34), (.mov (.t 233))⟩]
def g12_36 : List Gop := [⟨none, (some 235), (.load (some 3) (.t 30))⟩, ⟨none, (some 236), (.mov (.t 31))⟩, ⟨none, (some 237), (.mov (.t 32))⟩, ⟨none, (some 238), (.call 37 [(.t 235), (.t 236), (.t 237)])⟩, ⟨none, (some 234), (.mov (.t 238))⟩, ⟨none, (some 239), (.ext (.t 234) 0)⟩, ⟨none, (some 240), (.ext (.t 234) 1)⟩, ⟨none, (some 35), (.alloc [.nil, .nil, .nil])⟩, ⟨none, none, (.store 3 (.t 35) (.t 239))⟩, ⟨none, (some 36), (.mov (.t 240))⟩]
def g12_37 : List Gop := [⟨none, (some 241), (.mov (.t 34))⟩, ⟨none, (some 242), (.mov (.t 36))⟩, ⟨none, (some 243), (.beq .false (.t 241) (.t 242))⟩, ⟨none, (some 244), (.mov (.t 243))⟩, ⟨(some (244, .true)), (some 245), (.load (some 3) (.t 33))⟩, ⟨(some (244, .true)), (some 246), (.load (some 3) (.t 35))⟩, ⟨(some (244, .true)), (some 247), (.call 47 [(.t 245), (.t 246)])⟩, ⟨none, (some 248), (.pick (.t 244) (.t 247) (.k (.one (.bool .false))))⟩, ⟨none, (some 249), (.mov (.t 248))⟩, ⟨(some (249, .true)), (some 250), (.mov (.t 34))⟩, ⟨(some (249, .true)), (some 251), (.un .not (.t 250))⟩, ⟨(some (249, .true)), (some 252), (.mov (.t 251))⟩, ⟨(some (252, .false)), (some 253), (.load (some 3) (.t 33))⟩, ⟨(some (252, .false)), (some 254), (.call 27 [(.t 253)])⟩, ⟨(some (249, .true)), (some 255), (.pick (.t 252) (.k (.one (.bool .true))) (.t 254))⟩, ⟨none, (some 256), (.pick (.t 249) (.t 255) (.k (.one (.bool .false))))⟩, ⟨none, (some 4), (.mov (.t 256))⟩]
def i12 : Ir := (.seq (.region g12_0) (.seq (.seq (.region g12_1) (.cond (.t 42) (.seq (.region g12_2) .ret) .skip)) (.seq (.region g12_3) (.seq (.region g12_4) (.seq (.region g12_5) (.seq (.seq (.draw [[], [], [0, 1], [2], [3], [3], [4, 5, 3, 3], [6, 3], [3, 7], [8, 6], [9], [9], [10, 11, 9, 9], [12, 9], [9, 13], [14, 12], [15], [16, 15, 15], [15], [18, 17, 15], [17, 19, 15], [15, 20]] g12_6) (.cond (.t 83) (.seq (.region g12_7) .ret) .skip)) (.seq (.seq (.region g12_8) (.cond (.t 84) (.seq (.region g12_9) (.seq (.region g12_10) (.seq (.seq (.region g12_11) (.cond (.t 115) (.seq (.region g12_12) .ret) .skip)) (.seq (.region g12_13) (.block 0 (.loop (.seq (.region g12_14) (.seq (.cond (.t 120) .skip (.exit 0)) (.seq (.block 1 (.seq (.region g12_15) (.seq (.draw [[], [0], [], [1, 2], [3], [4], [], [], [6, 7], [5, 8], [9, 8], [10], [10], [11, 12, 10, 10], [13, 13, 10], [14], [14], [15, 16, 14, 14], [14, 17, 10], [10, 18], [19, 17], [20], [20], [21, 22, 20, 20], [23, 23, 20], [24], [24], [25, 26, 24, 24], [27, 24], [24, 28, 20], [20, 29]] g12_16) (.cond (.t 152) (.seq (.region g12_17) .ret) .skip)))) (.region g12_18)))))))))) .skip)) (.seq (.region g12_19) (.seq (.region g12_20) (.seq (.region g12_21) (.seq (.seq (.region g12_22) (.cond (.t 190) (.seq (.region g12_23) .ret) .skip)) (.seq (.seq (.region g12_24) (.cond (.t 191) (.seq (.region g12_25) (.seq (.seq (.region g12_26) (.cond (.t 203) (.seq (.region g12_27) .ret) .skip)) (.seq (.region g12_28) (.block 2 (.loop (.seq (.region g12_29) (.seq (.cond (.t 208) .skip (.exit 2)) (.seq (.block 3 (.seq (.region g12_30) (.seq (.draw [[], [0], [], [1, 2], [3], [4], [], [], [6, 7], [5, 8]] g12_31) (.cond (.t 219) (.seq (.region g12_32) .ret) .skip)))) (.region g12_33))))))))) .skip)) (.seq (.region g12_34) (.seq (.region g12_35) (.seq (.region g12_36) (.seq (.region g12_37) .ret))))))))))))))))
def fcC : Ir := (.seq (.region g12_34) (.seq (.region g12_35) (.seq (.region g12_36) (.seq (.region g12_37) .ret))))
def fcS (m : Nat) (more : List Int) : St := ⟨[(1, .w (.one (.hs 1 [] 0 1 more.length)))], [(1, (.sl false 1 more.length (more.map (T.int .u8))))], [.one (.hs 0 [] 0 1 m), .one (.hs 1 [] 0 1 more.length)]⟩
theorem fcC_ok (m : Nat) (more : List Int) (hm : Bytes more) : wx Try.prog fcC (finQ [.tmp 4] (.w (.one (.bool true))) [.one .hole, .one .hole]) (fcS m more) := by
  unfold fcS
  obtain ⟨g, a, b, ⟨hs, h14, h6⟩, M1⟩ := drawLinkNode_ok more hm
  have M2 := implLink_ok g a b hs
  have M3 := specLink_ok g a b hs
  by_cases hL : LkOk g a b
  · have hG := link_good hL
    have ll : (lkN g a b).length = g.n.length := by simp [lkN]
    have cl := good_cl hL.1.1
    have li : (incF g.c b).length = g.n.length := by rw [incF_len]; exact cl
    have M4 := sameG3 (good_small hG)
    have M5 := goodG3 hG
    rw [LkRes, if_pos hL] at M2 M3
    simp only [ll, li] at M4 M5
    generalize lkN g a b = n' at *
    generalize incF g.c b = c' at *
    simp (maxSteps := 9000000) -implicitDefEqProofs -dsimp (disch := omega) only [go_sem, g12_0, g12_1, g12_2, g12_3, g12_4, g12_5, g12_6, a12_6, n12_6, g12_7, g12_8, g12_9, g12_10, g12_11, g12_12, g12_13, g12_14, g12_15, g12_16, a12_16, n12_16, g12_17, g12_18, g12_19, g12_20, g12_21, g12_22, g12_23, g12_24, g12_25, g12_26, g12_27, g12_28, g12_29, g12_30, g12_31, a12_31, n12_31, g12_32, g12_33, g12_34, g12_35, g12_36, g12_37, i12, lt_T, lt_F, le_T, le_F, eq_T, eq_F, and_F, fcC, Nat.reduceEqDiff, Nat.reduceAdd, Nat.reduceMul, Nat.reduceLeDiff, Nat.reduceBEq, Nat.reduceBNe, Int.reduceEq, ↓reduceIte, reduceCtorEq]
    refine call_go false M1 ?_
    simp (maxSteps := 9000000) -implicitDefEqProofs -dsimp (disch := omega) only [go_sem, lt_T, lt_F, le_T, le_F, eq_T, eq_F, and_F, Nat.reduceEqDiff, Nat.reduceAdd, Nat.reduceMul, Nat.reduceLeDiff, Nat.reduceBEq, Nat.reduceBNe, Int.reduceEq, ↓reduceIte, reduceCtorEq]
    refine call_go true M2 ?_
    simp (maxSteps := 9000000) -implicitDefEqProofs -dsimp (disch := omega) only [go_sem, lt_T, lt_F, le_T, le_F, eq_T, eq_F, and_F, Nat.reduceEqDiff, Nat.reduceAdd, Nat.reduceMul, Nat.reduceLeDiff, Nat.reduceBEq, Nat.reduceBNe, Int.reduceEq, ↓reduceIte, reduceCtorEq]
    refine call_go true M3 ?_
    simp (maxSteps := 9000000) -implicitDefEqProofs -dsimp (disch := omega) only [go_sem, lt_T, lt_F, le_T, le_F, eq_T, eq_F, and_F, Nat.reduceEqDiff, Nat.reduceAdd, Nat.reduceMul, Nat.reduceLeDiff, Nat.reduceBEq, Nat.reduceBNe, Int.reduceEq, ↓reduceIte, reduceCtorEq]
    refine call_go true M4 ?_
    simp (maxSteps := 9000000) -implicitDefEqProofs -dsimp (disch := omega) only [go_sem, lt_T, lt_F, le_T, le_F, eq_T, eq_F, and_F, Nat.reduceEqDiff, Nat.reduceAdd, Nat.reduceMul, Nat.reduceLeDiff, Nat.reduceBEq, Nat.reduceBNe, Int.reduceEq, ↓reduceIte, reduceCtorEq]
    refine call_go true M5 ?_
    simp (maxSteps := 9000000) -implicitDefEqProofs -dsimp (disch := omega) only [go_sem, lt_T, lt_F, le_T, le_F, eq_T, eq_F, and_F, Nat.reduceEqDiff, Nat.reduceAdd, Nat.reduceMul, Nat.reduceLeDiff, Nat.reduceBEq, Nat.reduceBNe, Int.reduceEq, ↓reduceIte, reduceCtorEq]
  · rw [LkRes, if_neg hL] at M2 M3
    have M4 := sameG3 small0
    simp only [ndR_nil] at M4
    simp (maxSteps := 9000000) -implicitDefEqProofs -dsimp (disch := omega) only [go_sem, g12_0, g12_1, g12_2, g12_3, g12_4, g12_5, g12_6, a12_6, n12_6, g12_7, g12_8, g12_9, g12_10, g12_11, g12_12, g12_13, g12_14, g12_15, g12_16, a12_16, n12_16, g12_17, g12_18, g12_19, g12_20, g12_21, g12_22, g12_23, g12_24, g12_25, g12_26, g12_27, g12_28, g12_29, g12_30, g12_31, a12_31, n12_31, g12_32, g12_33, g12_34, g12_35, g12_36, g12_37, i12, lt_T, lt_F, le_T, le_F, eq_T, eq_F, and_F, fcC, Nat.reduceEqDiff, Nat.reduceAdd, Nat.reduceMul, Nat.reduceLeDiff, Nat.reduceBEq, Nat.reduceBNe, Int.reduceEq, ↓reduceIte, reduceCtorEq]
    refine call_go false M1 ?_
    simp (maxSteps := 9000000) -implicitDefEqProofs -dsimp (disch := omega) only [go_sem, lt_T, lt_F, le_T, le_F, eq_T, eq_F, and_F, Nat.reduceEqDiff, Nat.reduceAdd, Nat.reduceMul, Nat.reduceLeDiff, Nat.reduceBEq, Nat.reduceBNe, Int.reduceEq, ↓reduceIte, reduceCtorEq]
    refine call_go true M2 ?_
    simp (maxSteps := 9000000) -implicitDefEqProofs -dsimp (disch := omega) only [go_sem, lt_T, lt_F, le_T, le_F, eq_T, eq_F, and_F, Nat.reduceEqDiff, Nat.reduceAdd, Nat.reduceMul, Nat.reduceLeDiff, Nat.reduceBEq, Nat.reduceBNe, Int.reduceEq, ↓reduceIte, reduceCtorEq]
    refine call_go true M3 ?_
    simp (maxSteps := 9000000) -implicitDefEqProofs -dsimp (disch := omega) only [go_sem, lt_T, lt_F, le_T, le_F, eq_T, eq_F, and_F, Nat.reduceEqDiff, Nat.reduceAdd, Nat.reduceMul, Nat.reduceLeDiff, Nat.reduceBEq, Nat.reduceBNe, Int.reduceEq, ↓reduceIte, reduceCtorEq]
    refine call_go true M4 ?_
    simp (maxSteps := 9000000) -implicitDefEqProofs -dsimp (disch := omega) only [go_sem, lt_T, lt_F, le_T, le_F, eq_T, eq_F, and_F, Nat.reduceEqDiff, Nat.reduceAdd, Nat.reduceMul, Nat.reduceLeDiff, Nat.reduceBEq, Nat.reduceBNe, Int.reduceEq, ↓reduceIte, reduceCtorEq]
theorem un_sem {g : Gr} {a b : Int} (h : UnOk g a b) : Sem (cutN g a.toNat b.toNat) g.r ⟨cutN g a.toNat b.toNat, g.c, []⟩ [(g.n.getD a.toNat default).h.getD b.toNat default] := by
  obtain ⟨⟨hG, hA⟩, h1, h2⟩ := h
  have ha := hA.1
  have ha2 := hA.2.1
  have halt : a.toNat < g.n.length := by omega
  have hb : b.toNat < (g.n.getD a.toNat default).h.length := by omega
  have hN := hG.1.1 _ halt
  have hg : ∀ i, (cutN g a.toNat b.toNat).getD i default = if a.toNat = i ∧ i < g.n.length then ⟨delF (g.n.getD a.toNat default).h b.toNat, (g.n.getD a.toNat default).g⟩ else g.n.getD i default := fun i => getD_set
  have hgg : ∀ i, ((cutN g a.toNat b.toNat).getD i default).g = (g.n.getD i default).g := fun i => by
    rw [hg]; split
    · rename_i e; rw [← e.1]
    · rfl
  have hsub : ∀ i, ∀ y ∈ ((cutN g a.toNat b.toNat).getD i default).h, y ∈ (g.n.getD i default).h := fun i y hy => by
    rw [hg] at hy; split at hy
    · rename_i e; rw [← e.1]; exact delF_mem hy
    · exact hy
  have hol : ∀ i y, HoldOk g.n i y → HoldOk (cutN g a.toNat b.toNat) i y := fun i y w => ⟨w.1, w.2.1, by rw [hgg]; exact w.2.2⟩
  have ll : (cutN g a.toNat b.toNat).length = g.n.length := by simp [cutN]
  have hx := hN.1 _ (getD_mem hb)
  exact {
    ln := rfl
    lc := by rw [ll]; exact good_cl hG
    hol := fun i hi y hy => hol i y ((hG.1.1 i (by rw [ll] at hi; exact hi)).1 y (hsub i y hy))
    rts := fun y hy => by rw [ll]; exact hol _ y (hG.1.2.1 y hy)
    pen := fun y hy => by
      rw [List.mem_singleton.1 hy, ll]
      exact hol _ _ ⟨hx.1, by have := hx.2.1; omega, hx.2.2⟩
    emp := fun i hi w => by
      rw [ll] at hi
      simp only at w ⊢
      rw [hgg] at w
      have e := len0 ((hG.1.1 i hi).2.2 w)
      have := hsub i
      rw [e] at this
      exact List.eq_nil_iff_forall_not_mem.2 fun y hy => by simpa using this y hy
    six := fun i hi => by
      rw [ll] at hi
      have h6 := (hG.1.1 i hi).2.1
      simp only [hg]
      split
      · rename_i e
        have := delF_len hb
        obtain ⟨e, _⟩ := e
        subst e
        simp only; omega
      · exact h6
    cnt := fun j hj => by
      rw [ll] at hj
      simp only
      rw [good_c hG hj, cutN, tots_set halt, occ_take hb]; simp only; omega
    pos := fun j hj w => by
      rw [ll] at hj
      simp only at w
      rw [hgg] at w
      exact good_pos hG hj w
    gon := fun j hj => by simp
    nod := List.nodup_nil
    gnw := by simp }
theorem un_good {g : Gr} {a b : Int} (h : UnOk g a b) : GoodG ⟨(unF g a.toNat b.toNat).n, g.r, (unF g a.toNat b.toNat).c⟩ := by
  have hs := un_sem h
  obtain ⟨⟨hG, hA⟩, h1, h2⟩ := h
  have ha := hA.1
  have ha2 := hA.2.1
  have halt : a.toNat < g.n.length := by omega
  have hb : b.toNat < (g.n.getD a.toNat default).h.length := by omega
  have hx := (hG.1.1 _ halt).1 _ (getD_mem hb)
  have ll : (cutN g a.toNat b.toNat).length = g.n.length := by simp [cutN]
  refine sem_good (n0 := cutN g a.toNat b.toNat) (less_sem _ _ _ [] ?_ ?_) (by rw [ll]; exact hG.1.2.2.1) hG.1.2.2.2
  · have := hx.2.1; have := hx.1; omega
  · rw [Int.toNat_of_nonneg hx.1]; exact hs
theorem rch_bool {g : Gr} (hG : GoodG g) {k : Nat} (hk : k < g.n.length) : decide ((k : Int) ∈ rchL g.n g.r) = !(g.n.getD k default).g := by
  have h1 := rchL_mem hG.1 (y := (k : Int))
  have h2 := good_rch_iff hG hk
  cases hq : (g.n.getD k default).g with
  | true => rw [decide_eq_false (fun w => by have := h2.1 (h1.1 w); rw [hq] at this; simp at this)]; rfl
  | false => rw [decide_eq_true (h1.2 (h2.2 hq))]; rfl
def fcB : Ir := (.seq (.region g12_19) (.seq (.region g12_20) (.seq (.region g12_21) (.seq (.seq (.region g12_22) (.cond (.t 190) (.seq (.region g12_23) .ret) .skip)) (.seq (.seq (.region g12_24) (.cond (.t 191) (.seq (.region g12_25) (.seq (.seq (.region g12_26) (.cond (.t 203) (.seq (.region g12_27) .ret) .skip)) (.seq (.region g12_28) (.block 2 (.loop (.seq (.region g12_29) (.seq (.cond (.t 208) .skip (.exit 2)) (.seq (.block 3 (.seq (.region g12_30) (.seq (.draw [[], [0], [], [1, 2], [3], [4], [], [], [6, 7], [5, 8]] g12_31) (.cond (.t 219) (.seq (.region g12_32) .ret) .skip)))) (.region g12_33))))))))) .skip)) (.mark (.seq (.region g12_34) (.seq (.region g12_35) (.seq (.region g12_36) (.seq (.region g12_37) .ret))))))))))
theorem fcB_ok (m : Nat) (more : List Int) (hm : Bytes more) : wx Try.prog fcB (finQ [.tmp 4] (.w (.one (.bool true))) [.one .hole, .one .hole]) (fcS m more) := by
  unfold fcS
  obtain ⟨g, a, b, ⟨hs, h14, h6⟩, M1⟩ := drawUnlinkNode_ok more hm
  have M2 := implUnlink_ok g a b hs
  have M3 := specUnlink_ok g a b hs
  have fin : ∀ s, Imp s (fcS m more) → markG Try.prog fcC (finQ [.tmp 4] (.w (.one (.bool true))) [.one .hole, .one .hole]) s := fun s h => mark_imp _ h (fcC_ok m more hm)
  by_cases hU : UnOk g a b
  · obtain ⟨l1, l2, l3, l4⟩ := unF_small hU
    have hG := un_good hU
    rw [UnRes, if_pos hU] at M2 M3
    have M4 := sameG3 (good_small hG)
    have M5 := goodG3 hG
    have M6 := reachG3 hG
    have hb := fun k (hk : k < g.n.length) => rch_bool hG (k := k) (by simp only [l1]; exact hk)
    simp only [l1, l2] at M4 M5 M6 hb
    have hrl := rchL_len (n := (unF g a.toNat b.toNat).n) (r := g.r)
    generalize unF g a.toNat b.toNat = U at *
    generalize rchL U.n g.r = R at *
    simp (maxSteps := 9000000) -implicitDefEqProofs -dsimp (disch := omega) only [go_sem, g12_0, g12_1, g12_2, g12_3, g12_4, g12_5, g12_6, a12_6, n12_6, g12_7, g12_8, g12_9, g12_10, g12_11, g12_12, g12_13, g12_14, g12_15, g12_16, a12_16, n12_16, g12_17, g12_18, g12_19, g12_20, g12_21, g12_22, g12_23, g12_24, g12_25, g12_26, g12_27, g12_28, g12_29, g12_30, g12_31, a12_31, n12_31, g12_32, g12_33, g12_34, g12_35, g12_36, g12_37, i12, lt_T, lt_F, le_T, le_F, eq_T, eq_F, and_F, fcB, Nat.reduceEqDiff, Nat.reduceAdd, Nat.reduceMul, Nat.reduceLeDiff, Nat.reduceBEq, Nat.reduceBNe, Int.reduceEq, ↓reduceIte, reduceCtorEq]
    refine call_go false M1 ?_
    simp (maxSteps := 9000000) -implicitDefEqProofs -dsimp (disch := omega) only [go_sem, lt_T, lt_F, le_T, le_F, eq_T, eq_F, and_F, Nat.reduceEqDiff, Nat.reduceAdd, Nat.reduceMul, Nat.reduceLeDiff, Nat.reduceBEq, Nat.reduceBNe, Int.reduceEq, ↓reduceIte, reduceCtorEq]
    refine call_go true M2 ?_
    simp (maxSteps := 9000000) -implicitDefEqProofs -dsimp (disch := omega) only [go_sem, lt_T, lt_F, le_T, le_F, eq_T, eq_F, and_F, Nat.reduceEqDiff, Nat.reduceAdd, Nat.reduceMul, Nat.reduceLeDiff, Nat.reduceBEq, Nat.reduceBNe, Int.reduceEq, ↓reduceIte, reduceCtorEq]
    refine call_go true M3 ?_
    simp (maxSteps := 9000000) -implicitDefEqProofs -dsimp (disch := omega) only [go_sem, lt_T, lt_F, le_T, le_F, eq_T, eq_F, and_F, Nat.reduceEqDiff, Nat.reduceAdd, Nat.reduceMul, Nat.reduceLeDiff, Nat.reduceBEq, Nat.reduceBNe, Int.reduceEq, ↓reduceIte, reduceCtorEq]
    refine call_go true (sameInts_ok U.go U.go (by omega)) ?_
    simp (maxSteps := 9000000) -implicitDefEqProofs -dsimp (disch := omega) only [go_sem, lt_T, lt_F, le_T, le_F, eq_T, eq_F, and_F, Nat.reduceEqDiff, Nat.reduceAdd, Nat.reduceMul, Nat.reduceLeDiff, Nat.reduceBEq, Nat.reduceBNe, Int.reduceEq, ↓reduceIte, reduceCtorEq]
    refine call_go true M4 ?_
    simp (maxSteps := 9000000) -implicitDefEqProofs -dsimp (disch := omega) only [go_sem, lt_T, lt_F, le_T, le_F, eq_T, eq_F, and_F, Nat.reduceEqDiff, Nat.reduceAdd, Nat.reduceMul, Nat.reduceLeDiff, Nat.reduceBEq, Nat.reduceBNe, Int.reduceEq, ↓reduceIte, reduceCtorEq]
    refine call_go true M6 ?_
    simp (maxSteps := 9000000) -implicitDefEqProofs -dsimp (disch := omega) only [go_sem, lt_T, lt_F, le_T, le_F, eq_T, eq_F, and_F, Nat.reduceEqDiff, Nat.reduceAdd, Nat.reduceMul, Nat.reduceLeDiff, Nat.reduceBEq, Nat.reduceBNe, Int.reduceEq, ↓reduceIte, reduceCtorEq]
    refine call_go true M5 ?_
    simp (maxSteps := 9000000) -implicitDefEqProofs -dsimp (disch := omega) only [go_sem, lt_T, lt_F, le_T, le_F, eq_T, eq_F, and_F, Nat.reduceEqDiff, Nat.reduceAdd, Nat.reduceMul, Nat.reduceLeDiff, Nat.reduceBEq, Nat.reduceBNe, Int.reduceEq, ↓reduceIte, reduceCtorEq]
    refine loop_n g.n.length (fun i => ⟨[(207, .w (.one (.int .i64 (i : Nat)))), (206, .w (.one (.int .i64 g.n.length))), (27, .w (.one (.hs 16 [] 0 1 R.length))), (21, .w (.one (.hp 10 [] 0))), (1, .w (.one (.hs 1 [] 0 1 more.length)))], [(16, (.sl true 1 R.length (R.map (T.int .i64)))), (10, .bx true [.sl true 2 g.n.length (ndO U.n), (.sl true 1 g.r.length (g.r.map (T.int .i64))), .sl true 1 g.n.length (U.c.map (T.int .i64))]), (1, (.sl false 1 more.length (more.map (T.int .u8))))], [.one (.hs 0 [] 0 1 m), .one (.hs 1 [] 0 1 more.length)]⟩) (fun i => True) ?_ trivial ?_
    · exact (imp_sub (by simp (maxSteps := 9000000) -implicitDefEqProofs -dsimp (disch := omega) only [go_sem, Nat.reduceEqDiff, Nat.reduceAdd, Nat.reduceMul, Nat.reduceLeDiff, Nat.reduceBEq, Nat.reduceBNe, Int.reduceEq, ↓reduceIte, reduceCtorEq]) (by simp (maxSteps := 9000000) -implicitDefEqProofs -dsimp (disch := omega) only [go_sem, Nat.reduceEqDiff, Nat.reduceAdd, Nat.reduceMul, Nat.reduceLeDiff, Nat.reduceBEq, Nat.reduceBNe, Int.reduceEq, ↓reduceIte, reduceCtorEq]) rfl)
    · intro i hi hJ
      by_cases h : i < g.n.length
      · have hu : i < U.n.length := by omega
        have MH := has_ok R (i : Int) (by omega)
        rw [hb i h] at MH
        have b1 := ndO_1 hu
        cases hq : (U.n.getD i default).g with
        | true =>
          rw [hq] at MH b1
          simp (maxSteps := 9000000) -implicitDefEqProofs -dsimp (disch := omega) only [go_sem, lt_T, lt_F, le_T, le_F, eq_T, eq_F, and_F, Nat.reduceEqDiff, Nat.reduceAdd, Nat.reduceMul, Nat.reduceLeDiff, Nat.reduceBEq, Nat.reduceBNe, Int.reduceEq, ↓reduceIte, reduceCtorEq]
          refine draw_go n12_31 a12_31 (by decide +kernel) ?_
          simp (maxSteps := 9000000) -implicitDefEqProofs -dsimp (disch := omega) only [go_sem, n12_31, a12_31, lt_T, lt_F, le_T, le_F, eq_T, eq_F, and_F, b1, Nat.reduceEqDiff, Nat.reduceAdd, Nat.reduceMul, Nat.reduceLeDiff, Nat.reduceBEq, Nat.reduceBNe, Int.reduceEq, ↓reduceIte, reduceCtorEq]
          refine calla_go true MH ?_
          simp (maxSteps := 9000000) -implicitDefEqProofs -dsimp (disch := omega) only [go_sem, n12_31, a12_31, lt_T, lt_F, le_T, le_F, eq_T, eq_F, and_F, b1, Nat.reduceEqDiff, Nat.reduceAdd, Nat.reduceMul, Nat.reduceLeDiff, Nat.reduceBEq, Nat.reduceBNe, Int.reduceEq, ↓reduceIte, reduceCtorEq]
          exact ⟨h, (imp_sub (by simp (maxSteps := 9000000) -implicitDefEqProofs -dsimp (disch := omega) only [go_sem, n12_31, a12_31, Nat.reduceEqDiff, Nat.reduceAdd, Nat.reduceMul, Nat.reduceLeDiff, Nat.reduceBEq, Nat.reduceBNe, Int.reduceEq, ↓reduceIte, reduceCtorEq]) (by simp (maxSteps := 9000000) -implicitDefEqProofs -dsimp (disch := omega) only [go_sem, n12_31, a12_31, Nat.reduceEqDiff, Nat.reduceAdd, Nat.reduceMul, Nat.reduceLeDiff, Nat.reduceBEq, Nat.reduceBNe, Int.reduceEq, ↓reduceIte, reduceCtorEq]) rfl)⟩
        | false =>
          rw [hq] at MH b1
          simp (maxSteps := 9000000) -implicitDefEqProofs -dsimp (disch := omega) only [go_sem, n12_31, a12_31, lt_T, lt_F, le_T, le_F, eq_T, eq_F, and_F, Nat.reduceEqDiff, Nat.reduceAdd, Nat.reduceMul, Nat.reduceLeDiff, Nat.reduceBEq, Nat.reduceBNe, Int.reduceEq, ↓reduceIte, reduceCtorEq]
          refine draw_go n12_31 a12_31 (by decide +kernel) ?_
          simp (maxSteps := 9000000) -implicitDefEqProofs -dsimp (disch := omega) only [go_sem, n12_31, a12_31, lt_T, lt_F, le_T, le_F, eq_T, eq_F, and_F, b1, Nat.reduceEqDiff, Nat.reduceAdd, Nat.reduceMul, Nat.reduceLeDiff, Nat.reduceBEq, Nat.reduceBNe, Int.reduceEq, ↓reduceIte, reduceCtorEq]
          refine calla_go true MH ?_
          simp (maxSteps := 9000000) -implicitDefEqProofs -dsimp (disch := omega) only [go_sem, n12_31, a12_31, lt_T, lt_F, le_T, le_F, eq_T, eq_F, and_F, b1, Nat.reduceEqDiff, Nat.reduceAdd, Nat.reduceMul, Nat.reduceLeDiff, Nat.reduceBEq, Nat.reduceBNe, Int.reduceEq, ↓reduceIte, reduceCtorEq]
          exact ⟨h, (imp_sub (by simp (maxSteps := 9000000) -implicitDefEqProofs -dsimp (disch := omega) only [go_sem, n12_31, a12_31, Nat.reduceEqDiff, Nat.reduceAdd, Nat.reduceMul, Nat.reduceLeDiff, Nat.reduceBEq, Nat.reduceBNe, Int.reduceEq, ↓reduceIte, reduceCtorEq]) (by simp (maxSteps := 9000000) -implicitDefEqProofs -dsimp (disch := omega) only [go_sem, n12_31, a12_31, Nat.reduceEqDiff, Nat.reduceAdd, Nat.reduceMul, Nat.reduceLeDiff, Nat.reduceBEq, Nat.reduceBNe, Int.reduceEq, ↓reduceIte, reduceCtorEq]) rfl)⟩
      · obtain rfl : i = g.n.length := by omega
        simp (maxSteps := 9000000) -implicitDefEqProofs -dsimp (disch := omega) only [go_sem, n12_31, a12_31, lt_T, lt_F, le_T, le_F, eq_T, eq_F, and_F, Nat.reduceEqDiff, Nat.reduceAdd, Nat.reduceMul, Nat.reduceLeDiff, Nat.reduceBEq, Nat.reduceBNe, Int.reduceEq, ↓reduceIte, reduceCtorEq]
        exact fin _ (by unfold fcS; exact (imp_sub (by simp (maxSteps := 9000000) -implicitDefEqProofs -dsimp (disch := omega) only [go_sem, n12_31, a12_31, Nat.reduceEqDiff, Nat.reduceAdd, Nat.reduceMul, Nat.reduceLeDiff, Nat.reduceBEq, Nat.reduceBNe, Int.reduceEq, ↓reduceIte, reduceCtorEq]) (by simp (maxSteps := 9000000) -implicitDefEqProofs -dsimp (disch := omega) only [go_sem, n12_31, a12_31, Nat.reduceEqDiff, Nat.reduceAdd, Nat.reduceMul, Nat.reduceLeDiff, Nat.reduceBEq, Nat.reduceBNe, Int.reduceEq, ↓reduceIte, reduceCtorEq]) rfl))
  · rw [UnRes, if_neg hU] at M2 M3
    have M4 := sameG3 small0
    simp only [ndR_nil] at M4
    simp (maxSteps := 9000000) -implicitDefEqProofs -dsimp (disch := omega) only [go_sem, g12_0, g12_1, g12_2, g12_3, g12_4, g12_5, g12_6, a12_6, n12_6, g12_7, g12_8, g12_9, g12_10, g12_11, g12_12, g12_13, g12_14, g12_15, g12_16, a12_16, n12_16, g12_17, g12_18, g12_19, g12_20, g12_21, g12_22, g12_23, g12_24, g12_25, g12_26, g12_27, g12_28, g12_29, g12_30, g12_31, a12_31, n12_31, g12_32, g12_33, g12_34, g12_35, g12_36, g12_37, i12, lt_T, lt_F, le_T, le_F, eq_T, eq_F, and_F, fcB, Nat.reduceEqDiff, Nat.reduceAdd, Nat.reduceMul, Nat.reduceLeDiff, Nat.reduceBEq, Nat.reduceBNe, Int.reduceEq, ↓reduceIte, reduceCtorEq]
    refine call_go false M1 ?_
    simp (maxSteps := 9000000) -implicitDefEqProofs -dsimp (disch := omega) only [go_sem, lt_T, lt_F, le_T, le_F, eq_T, eq_F, and_F, Nat.reduceEqDiff, Nat.reduceAdd, Nat.reduceMul, Nat.reduceLeDiff, Nat.reduceBEq, Nat.reduceBNe, Int.reduceEq, ↓reduceIte, reduceCtorEq]
    refine call_go true M2 ?_
    simp (maxSteps := 9000000) -implicitDefEqProofs -dsimp (disch := omega) only [go_sem, lt_T, lt_F, le_T, le_F, eq_T, eq_F, and_F, Nat.reduceEqDiff, Nat.reduceAdd, Nat.reduceMul, Nat.reduceLeDiff, Nat.reduceBEq, Nat.reduceBNe, Int.reduceEq, ↓reduceIte, reduceCtorEq]
    refine call_go true M3 ?_
    simp (maxSteps := 9000000) -implicitDefEqProofs -dsimp (disch := omega) only [go_sem, lt_T, lt_F, le_T, le_F, eq_T, eq_F, and_F, Nat.reduceEqDiff, Nat.reduceAdd, Nat.reduceMul, Nat.reduceLeDiff, Nat.reduceBEq, Nat.reduceBNe, Int.reduceEq, ↓reduceIte, reduceCtorEq]
    refine call_go true (sameInts_ok [] [] (by decide)) ?_
    simp (maxSteps := 9000000) -implicitDefEqProofs -dsimp (disch := omega) only [go_sem, lt_T, lt_F, le_T, le_F, eq_T, eq_F, and_F, Nat.reduceEqDiff, Nat.reduceAdd, Nat.reduceMul, Nat.reduceLeDiff, Nat.reduceBEq, Nat.reduceBNe, Int.reduceEq, ↓reduceIte, reduceCtorEq]
    refine call_go true M4 ?_
    simp (maxSteps := 9000000) -implicitDefEqProofs -dsimp (disch := omega) only [go_sem, lt_T, lt_F, le_T, le_F, eq_T, eq_F, and_F, Nat.reduceEqDiff, Nat.reduceAdd, Nat.reduceMul, Nat.reduceLeDiff, Nat.reduceBEq, Nat.reduceBNe, Int.reduceEq, ↓reduceIte, reduceCtorEq]
    exact fin _ (by unfold fcS; exact (imp_sub (by simp (maxSteps := 9000000) -implicitDefEqProofs -dsimp (disch := omega) only [go_sem, Nat.reduceEqDiff, Nat.reduceAdd, Nat.reduceMul, Nat.reduceLeDiff, Nat.reduceBEq, Nat.reduceBNe, Int.reduceEq, ↓reduceIte, reduceCtorEq]) (by simp (maxSteps := 9000000) -implicitDefEqProofs -dsimp (disch := omega) only [go_sem, Nat.reduceEqDiff, Nat.reduceAdd, Nat.reduceMul, Nat.reduceLeDiff, Nat.reduceBEq, Nat.reduceBNe, Int.reduceEq, ↓reduceIte, reduceCtorEq]) rfl))
end Go.Proofs.YtdhclelfnbjikaaT

/- Functions of the program as contracts: the drawn law of counts. No condition. -/
set_option maxRecDepth 100000
set_option maxHeartbeats 8000000
set_option linter.unusedSimpArgs false
set_option linter.unusedVariables false
namespace Go.Proofs.YtdhclelfnbjikaaT
open Go Go.RowKit
theorem sort_nodup {l : List Int} (h : l.Pairwise (· < ·)) : l.Nodup := h.imp fun h => Int.ne_of_lt h
theorem rch_nat {n : List Nd} {r : List Int} (h : NodesOk n r) {y : Int} (hy : y ∈ rchL n r) : ∃ k : Nat, k < n.length ∧ y = (k : Int) := by
  have := rch_hold h ((rchL_mem h).1 hy)
  have a := this.1
  have b := this.2.1
  exact ⟨y.toNat, by omega, by omega⟩
theorem dr_len {g : Gr} {k : Int} (h : DrOk g k) : (rchL g.n g.r).length = (rchL (drF g k.toNat).n (delF g.r k.toNat)).length + (drF g k.toNat).go.length := by
  have hk : k.toNat < g.r.length := by have := h.2.1; have := h.2.2; omega
  have I := drF_sem h.1 hk
  have hX := dr_good h
  have hG := h.1
  have ll : (drF g k.toNat).n.length = g.n.length := I.ln
  generalize drF g k.toNat = U at *
  generalize delF g.r k.toNat = dr at *
  have iff1 : ∀ {j : Nat}, j < g.n.length → ((j : Int) ∈ rchL g.n g.r ↔ (g.n.getD j default).g = false) := fun {j} hj => (rchL_mem hG.1).trans (good_rch_iff hG hj)
  have iff2 : ∀ {j : Nat}, j < g.n.length → ((j : Int) ∈ rchL U.n dr ↔ (U.n.getD j default).g = false) := fun {j} hj => (rchL_mem hX.1).trans (good_rch_iff hX (by simp only [ll]; exact hj))
  have hp : (rchL g.n g.r).Perm (rchL U.n dr ++ U.go) := by
    rw [List.perm_ext_iff_of_nodup (sort_nodup rchL_sort) (List.nodup_append.2 ⟨sort_nodup rchL_sort, I.nod, fun a ha b hb => ?_⟩)]
    · intro y
      rw [List.mem_append]
      constructor
      · intro hy
        obtain ⟨j, hj, rfl⟩ := rch_nat hG.1 hy
        have h1 := (iff1 hj).1 hy
        cases hq : (U.n.getD j default).g with
        | false => exact .inl ((iff2 hj).2 hq)
        | true =>
          rcases (I.gon j hj).1 hq with h2 | h2
          · rw [h1] at h2; simp at h2
          · exact .inr h2
      · rintro (hy | hy)
        · obtain ⟨j, hj, rfl⟩ := rch_nat hX.1 hy
          simp only [ll] at hj
          have h1 := (iff2 hj).1 hy
          refine (iff1 hj).2 ?_
          cases hq : (g.n.getD j default).g with
          | false => rfl
          | true =>
            have := (I.gon j hj).2 (.inl hq)
            rw [h1] at this; simp at this
        · obtain ⟨h1, h2, h3⟩ := I.gnw y hy
          have e : y = ((y.toNat : Nat) : Int) := by omega
          rw [e]
          exact (iff1 (by omega)).2 h3
    · rintro rfl
      obtain ⟨j, hj, rfl⟩ := rch_nat hX.1 ha
      simp only [ll] at hj
      have h1 := (iff2 hj).1 ha
      have := (I.gon j hj).2 (.inr hb)
      rw [h1] at this; simp at this
  rw [hp.length_eq, List.length_append]
theorem sameInts0 : Meets Try.prog 46 [.one (.sl false 0 0 []), .one (.sl false 0 0 [])] (.w (.one (.bool true))) [.one .hole, .one .hole] := by
  refine meets_args (fun w ro args F h => ?_) (sameInts_ok [] [] (by decide))
  obtain ⟨v1, vs1, F1, F2, rfl, h1, ⟨v2, vs2, F3, F4, rfl, h2, h3, rfl⟩, rfl⟩ := h
  exact ⟨v1, _, F1, _, rfl, rep_nil0 h1, ⟨v2, _, F3, _, rfl, rep_nil0 h2, h3, rfl⟩, rfl⟩
theorem repV_nil3 {w : World} {ro : Nat → Prop} {a b c : Nat} {vs : List Value} {F : List Nat} (h : RepV w ro [.sl false 0 0 [], .sl false 0 0 [], .sl false 0 0 []] vs F) : RepV w ro [.sl false a 0 [], .sl false b 0 [], .sl false c 0 []] vs F := by
  simp only [RepV] at h ⊢
  obtain ⟨v1, vs1, F1, F2, rfl, h1, ⟨v2, vs2, F3, F4, rfl, h2, ⟨v3, vs3, F5, F6, rfl, h3, h4, rfl⟩, rfl⟩, rfl⟩ := h
  exact ⟨v1, _, F1, _, rfl, rep_nil0 h1, ⟨v2, _, F3, _, rfl, rep_nil0 h2, ⟨v3, _, F5, _, rfl, rep_nil0 h3, h4, rfl⟩, rfl⟩, rfl⟩
theorem sameG0 : Meets Try.prog 47 [.agg [.sl false 0 0 [], .sl false 0 0 [], .sl false 0 0 []], .agg [.sl false 0 0 [], .sl false 0 0 [], .sl false 0 0 []]] (.w (.one (.bool true))) [.agg [.hole, .hole, .hole], .agg [.hole, .hole, .hole]] := by
  refine meets_args (fun w ro args F h => ?_) (sameG3 small0)
  obtain ⟨v1, vs1, F1, F2, rfl, ⟨us1, rfl, h1⟩, ⟨v2, vs2, F3, F4, rfl, ⟨us2, rfl, h2⟩, h3, rfl⟩, rfl⟩ := h
  exact ⟨_, _, F1, _, rfl, ⟨us1, rfl, repV_nil3 h1⟩, ⟨_, _, F3, _, rfl, ⟨us2, rfl, repV_nil3 h2⟩, h3, rfl⟩, rfl⟩
def fcA : Ir := (.seq (.region g12_0) (.seq (.seq (.region g12_1) (.cond (.t 42) (.seq (.region g12_2) .ret) .skip)) (.seq (.region g12_3) (.seq (.region g12_4) (.seq (.region g12_5) (.seq (.seq (.draw [[], [], [0, 1], [2], [3], [3], [4, 5, 3, 3], [6, 3], [3, 7], [8, 6], [9], [9], [10, 11, 9, 9], [12, 9], [9, 13], [14, 12], [15], [16, 15, 15], [15], [18, 17, 15], [17, 19, 15], [15, 20]] g12_6) (.cond (.t 83) (.seq (.region g12_7) .ret) .skip)) (.seq (.seq (.region g12_8) (.cond (.t 84) (.seq (.region g12_9) (.seq (.region g12_10) (.seq (.seq (.region g12_11) (.cond (.t 115) (.seq (.region g12_12) .ret) .skip)) (.seq (.region g12_13) (.block 0 (.loop (.seq (.region g12_14) (.seq (.cond (.t 120) .skip (.exit 0)) (.seq (.block 1 (.seq (.region g12_15) (.seq (.draw [[], [0], [], [1, 2], [3], [4], [], [], [6, 7], [5, 8], [9, 8], [10], [10], [11, 12, 10, 10], [13, 13, 10], [14], [14], [15, 16, 14, 14], [14, 17, 10], [10, 18], [19, 17], [20], [20], [21, 22, 20, 20], [23, 23, 20], [24], [24], [25, 26, 24, 24], [27, 24], [24, 28, 20], [20, 29]] g12_16) (.cond (.t 152) (.seq (.region g12_17) .ret) .skip)))) (.region g12_18)))))))))) .skip)) (.mark (.seq (.region g12_19) (.seq (.region g12_20) (.seq (.region g12_21) (.seq (.seq (.region g12_22) (.cond (.t 190) (.seq (.region g12_23) .ret) .skip)) (.seq (.seq (.region g12_24) (.cond (.t 191) (.seq (.region g12_25) (.seq (.seq (.region g12_26) (.cond (.t 203) (.seq (.region g12_27) .ret) .skip)) (.seq (.region g12_28) (.block 2 (.loop (.seq (.region g12_29) (.seq (.cond (.t 208) .skip (.exit 2)) (.seq (.block 3 (.seq (.region g12_30) (.seq (.draw [[], [0], [], [1, 2], [3], [4], [], [], [6, 7], [5, 8]] g12_31) (.cond (.t 219) (.seq (.region g12_32) .ret) .skip)))) (.region g12_33))))))))) .skip)) (.mark (.seq (.region g12_34) (.seq (.region g12_35) (.seq (.region g12_36) (.seq (.region g12_37) .ret))))))))))))))))))
theorem lawCounts_ok (code more : List Int) (hc : Bytes code) (hm : Bytes more) : Meets Try.prog 12 [.one (.sl false 1 code.length (code.map (T.int .u8))), .one (.sl false 1 more.length (more.map (T.int .u8)))] (.w (.one (.bool true))) [.one .hole, .one .hole] := by
  have hc2 := hc.2
  have hm2 := hm.2
  by_cases hz : ¬ 1048576 < IntKind.i64.wrap ((code.length : Int) + more.length)
  · obtain ⟨g, k, ⟨hs, h14, h6⟩, M1⟩ := drawDropRoot_ok code hc
    have M2 := implDrop_ok g k hs
    have M3 := specDrop_ok g k hs
    have MA := implGoodGraph_ok g hs.n hs.h hs.r hs.c
    have MB := specGoodGraph_ok g hs.n hs.h hs.r hs.c
    have fin : ∀ s, Imp s (fcS code.length more) → markG Try.prog fcB (finQ [.tmp 4] (.w (.one (.bool true))) [.one .hole, .one .hole]) s := fun s h => mark_imp _ h (fcB_ok code.length more hm)
    by_cases hD : DrOk g k
    · have hx : k.toNat < g.r.length := by have := hD.2.1; have := hD.2.2; omega
      have I := drF_sem hD.1 hx
      have l1 : (drF g k.toNat).n.length = g.n.length := I.ln
      have l2 := I.lc
      have hX := dr_good hD
      have cl := good_cl hD.1
      have dlen := dr_len hD
      rw [DrRes, if_pos hD] at M2 M3
      rw [decide_eq_true hD.1] at MA MB
      have M4 := sameG3 (good_small hX)
      have M5 := goodG3 hX
      have M6 := reachG3 hX
      have M7 := reachG3 hD.1
      have hb := fun k (hk : k < g.n.length) => rch_bool hX (k := k) (by simp only [l1]; exact hk)
      have hb0 := fun k (hk : k < g.n.length) => rch_bool hD.1 (k := k) hk
      have hgo : (drF g k.toNat).go.length ≤ 1000 := by
        have h1 := rchL_len (n := g.n) (r := g.r)
        omega
      simp only [l1, l2] at M4 M5 M6 hb
      have gon := I.gon
      have gnw := I.gnw
      have r1 := rchL_len (n := g.n) (r := g.r)
      have r2 := rchL_len (n := (drF g k.toNat).n) (r := delF g.r k.toNat)
      clear I hX
      generalize drF g k.toNat = U at *
      generalize delF g.r k.toNat = dr at *
      generalize rchL U.n dr = R at *
      generalize rchL g.n g.r = B at *
      refine meets_go (ir := fcA) (fn := Try.f12) (rx := [(.tmp 4)]) rfl rfl (by rfl) (by rfl) (by exact Nat.le_of_ble_eq_true rfl) ?_
      simp (maxSteps := 9000000) -implicitDefEqProofs -dsimp (disch := omega) only [go_sem, g12_0, g12_1, g12_2, g12_3, g12_4, g12_5, g12_6, a12_6, n12_6, g12_7, g12_8, g12_9, g12_10, g12_11, g12_12, g12_13, g12_14, g12_15, g12_16, a12_16, n12_16, g12_17, g12_18, g12_19, g12_20, g12_21, g12_22, g12_23, g12_24, g12_25, g12_26, g12_27, g12_28, g12_29, g12_30, g12_31, a12_31, n12_31, g12_32, g12_33, g12_34, g12_35, g12_36, g12_37, i12, lt_T, lt_F, le_T, le_F, eq_T, eq_F, and_F, fcA, hz, Nat.reduceEqDiff, Nat.reduceAdd, Nat.reduceMul, Nat.reduceLeDiff, Nat.reduceBEq, Nat.reduceBNe, Int.reduceEq, ↓reduceIte, reduceCtorEq]
      refine call_go false M1 ?_
      simp (maxSteps := 9000000) -implicitDefEqProofs -dsimp (disch := omega) only [go_sem, lt_T, lt_F, le_T, le_F, eq_T, eq_F, and_F, cl, Nat.reduceEqDiff, Nat.reduceAdd, Nat.reduceMul, Nat.reduceLeDiff, Nat.reduceBEq, Nat.reduceBNe, Int.reduceEq, ↓reduceIte, reduceCtorEq]
      refine call_go true M2 ?_
      simp (maxSteps := 9000000) -implicitDefEqProofs -dsimp (disch := omega) only [go_sem, lt_T, lt_F, le_T, le_F, eq_T, eq_F, and_F, cl, Nat.reduceEqDiff, Nat.reduceAdd, Nat.reduceMul, Nat.reduceLeDiff, Nat.reduceBEq, Nat.reduceBNe, Int.reduceEq, ↓reduceIte, reduceCtorEq]
      refine call_go true M3 ?_
      simp (maxSteps := 9000000) -implicitDefEqProofs -dsimp (disch := omega) only [go_sem, lt_T, lt_F, le_T, le_F, eq_T, eq_F, and_F, cl, Nat.reduceEqDiff, Nat.reduceAdd, Nat.reduceMul, Nat.reduceLeDiff, Nat.reduceBEq, Nat.reduceBNe, Int.reduceEq, ↓reduceIte, reduceCtorEq]
      refine draw_go n12_6 a12_6 (by decide +kernel) ?_
      simp (maxSteps := 9000000) -implicitDefEqProofs -dsimp (disch := omega) only [go_sem, n12_6, a12_6, lt_T, lt_F, le_T, le_F, eq_T, eq_F, and_F, cl, Nat.reduceEqDiff, Nat.reduceAdd, Nat.reduceMul, Nat.reduceLeDiff, Nat.reduceBEq, Nat.reduceBNe, Int.reduceEq, ↓reduceIte, reduceCtorEq]
      refine calla_go true (sameInts_ok U.go U.go (by omega)) ?_
      simp (maxSteps := 9000000) -implicitDefEqProofs -dsimp (disch := omega) only [go_sem, n12_6, a12_6, lt_T, lt_F, le_T, le_F, eq_T, eq_F, and_F, cl, Nat.reduceEqDiff, Nat.reduceAdd, Nat.reduceMul, Nat.reduceLeDiff, Nat.reduceBEq, Nat.reduceBNe, Int.reduceEq, ↓reduceIte, reduceCtorEq]
      refine calla_go true M4 ?_
      simp (maxSteps := 9000000) -implicitDefEqProofs -dsimp (disch := omega) only [go_sem, n12_6, a12_6, lt_T, lt_F, le_T, le_F, eq_T, eq_F, and_F, cl, Nat.reduceEqDiff, Nat.reduceAdd, Nat.reduceMul, Nat.reduceLeDiff, Nat.reduceBEq, Nat.reduceBNe, Int.reduceEq, ↓reduceIte, reduceCtorEq]
      refine calla_go true MA ?_
      simp (maxSteps := 9000000) -implicitDefEqProofs -dsimp (disch := omega) only [go_sem, n12_6, a12_6, lt_T, lt_F, le_T, le_F, eq_T, eq_F, and_F, cl, Nat.reduceEqDiff, Nat.reduceAdd, Nat.reduceMul, Nat.reduceLeDiff, Nat.reduceBEq, Nat.reduceBNe, Int.reduceEq, ↓reduceIte, reduceCtorEq]
      refine call_go true MB ?_
      simp (maxSteps := 9000000) -implicitDefEqProofs -dsimp (disch := omega) only [go_sem, n12_6, a12_6, lt_T, lt_F, le_T, le_F, eq_T, eq_F, and_F, cl, Nat.reduceEqDiff, Nat.reduceAdd, Nat.reduceMul, Nat.reduceLeDiff, Nat.reduceBEq, Nat.reduceBNe, Int.reduceEq, ↓reduceIte, reduceCtorEq]
      refine call_go true M7 ?_
      simp (maxSteps := 9000000) -implicitDefEqProofs -dsimp (disch := omega) only [go_sem, n12_6, a12_6, lt_T, lt_F, le_T, le_F, eq_T, eq_F, and_F, cl, Nat.reduceEqDiff, Nat.reduceAdd, Nat.reduceMul, Nat.reduceLeDiff, Nat.reduceBEq, Nat.reduceBNe, Int.reduceEq, ↓reduceIte, reduceCtorEq]
      refine call_go true M6 ?_
      simp (maxSteps := 9000000) -implicitDefEqProofs -dsimp (disch := omega) only [go_sem, n12_6, a12_6, lt_T, lt_F, le_T, le_F, eq_T, eq_F, and_F, cl, Nat.reduceEqDiff, Nat.reduceAdd, Nat.reduceMul, Nat.reduceLeDiff, Nat.reduceBEq, Nat.reduceBNe, Int.reduceEq, ↓reduceIte, reduceCtorEq]
      refine call_go true M5 ?_
      simp (maxSteps := 9000000) -implicitDefEqProofs -dsimp (disch := omega) only [go_sem, n12_6, a12_6, lt_T, lt_F, le_T, le_F, eq_T, eq_F, and_F, cl, Nat.reduceEqDiff, Nat.reduceAdd, Nat.reduceMul, Nat.reduceLeDiff, Nat.reduceBEq, Nat.reduceBNe, Int.reduceEq, ↓reduceIte, reduceCtorEq]
      refine loop_n g.n.length (fun i => ⟨[(119, .w (.one (.int .i64 (i : Nat)))), (118, .w (.one (.int .i64 g.n.length))), (15, .w (.one (.hs 17 [] 0 1 R.length))), (13, .w (.one (.hs 16 [] 0 1 B.length))), (8, .w (.one (.hs 9 [] 0 1 U.go.length))), (7, .w (.one (.hp 10 [] 0))), (1, .w (.one (.hs 1 [] 0 1 more.length)))], [(17, (.sl true 1 R.length (R.map (T.int .i64)))), (16, (.sl true 1 B.length (B.map (T.int .i64)))), (9, (.sl true 1 U.go.length (U.go.map (T.int .i64)))), (10, .bx true [.sl true 2 g.n.length (ndO U.n), (.sl true 1 dr.length (dr.map (T.int .i64))), .sl true 1 g.n.length (U.c.map (T.int .i64))]), (1, (.sl false 1 more.length (more.map (T.int .u8))))], [.one (.hs 0 [] 0 1 code.length), .one (.hs 1 [] 0 1 more.length)]⟩) (fun i => True) ?_ trivial ?_
      · exact (imp_sub (by simp (maxSteps := 9000000) -implicitDefEqProofs -dsimp (disch := omega) only [go_sem, n12_6, a12_6, Nat.reduceEqDiff, Nat.reduceAdd, Nat.reduceMul, Nat.reduceLeDiff, Nat.reduceBEq, Nat.reduceBNe, Int.reduceEq, ↓reduceIte, reduceCtorEq]) (by simp (maxSteps := 9000000) -implicitDefEqProofs -dsimp (disch := omega) only [go_sem, n12_6, a12_6, Nat.reduceEqDiff, Nat.reduceAdd, Nat.reduceMul, Nat.reduceLeDiff, Nat.reduceBEq, Nat.reduceBNe, Int.reduceEq, ↓reduceIte, reduceCtorEq]) rfl)
      · intro i hi hJ
        by_cases h : i < g.n.length
        · have hu : i < U.n.length := by omega
          have MR := has_ok R (i : Int) (by omega)
          have MB2 := has_ok B (i : Int) (by omega)
          have ML := has_ok U.go (i : Int) (by omega)
          rw [hb i h] at MR
          rw [hb0 i h] at MB2
          have b1 := ndO_1 hu
          have gi := gon i h
          by_cases hl : (i : Int) ∈ U.go
          · rw [decide_eq_true hl] at ML
            have hq : (U.n.getD i default).g = true := gi.2 (.inr hl)
            have hq0 : (g.n.getD i default).g = false := by simpa using (gnw _ hl).2.2
            rw [hq] at MR b1
            rw [hq0] at MB2
            simp (maxSteps := 9000000) -implicitDefEqProofs -dsimp (disch := omega) only [go_sem, n12_6, a12_6, lt_T, lt_F, le_T, le_F, eq_T, eq_F, and_F, Nat.reduceEqDiff, Nat.reduceAdd, Nat.reduceMul, Nat.reduceLeDiff, Nat.reduceBEq, Nat.reduceBNe, Int.reduceEq, ↓reduceIte, reduceCtorEq]
            refine draw_go n12_16 a12_16 (by decide +kernel) ?_
            simp (maxSteps := 9000000) -implicitDefEqProofs -dsimp (disch := omega) only [go_sem, n12_16, a12_16, lt_T, lt_F, le_T, le_F, eq_T, eq_F, and_F, b1, Nat.reduceEqDiff, Nat.reduceAdd, Nat.reduceMul, Nat.reduceLeDiff, Nat.reduceBEq, Nat.reduceBNe, Int.reduceEq, ↓reduceIte, reduceCtorEq]
            refine calla_go true MR ?_
            simp (maxSteps := 9000000) -implicitDefEqProofs -dsimp (disch := omega) only [go_sem, n12_16, a12_16, lt_T, lt_F, le_T, le_F, eq_T, eq_F, and_F, b1, Nat.reduceEqDiff, Nat.reduceAdd, Nat.reduceMul, Nat.reduceLeDiff, Nat.reduceBEq, Nat.reduceBNe, Int.reduceEq, ↓reduceIte, reduceCtorEq]
            refine calla_go true ML ?_
            simp (maxSteps := 9000000) -implicitDefEqProofs -dsimp (disch := omega) only [go_sem, n12_16, a12_16, lt_T, lt_F, le_T, le_F, eq_T, eq_F, and_F, b1, Nat.reduceEqDiff, Nat.reduceAdd, Nat.reduceMul, Nat.reduceLeDiff, Nat.reduceBEq, Nat.reduceBNe, Int.reduceEq, ↓reduceIte, reduceCtorEq]
            refine calla_go true MR ?_
            simp (maxSteps := 9000000) -implicitDefEqProofs -dsimp (disch := omega) only [go_sem, n12_16, a12_16, lt_T, lt_F, le_T, le_F, eq_T, eq_F, and_F, b1, Nat.reduceEqDiff, Nat.reduceAdd, Nat.reduceMul, Nat.reduceLeDiff, Nat.reduceBEq, Nat.reduceBNe, Int.reduceEq, ↓reduceIte, reduceCtorEq]
            refine calla_go true ML ?_
            simp (maxSteps := 9000000) -implicitDefEqProofs -dsimp (disch := omega) only [go_sem, n12_16, a12_16, lt_T, lt_F, le_T, le_F, eq_T, eq_F, and_F, b1, Nat.reduceEqDiff, Nat.reduceAdd, Nat.reduceMul, Nat.reduceLeDiff, Nat.reduceBEq, Nat.reduceBNe, Int.reduceEq, ↓reduceIte, reduceCtorEq]
            refine call_go true MB2 ?_
            simp (maxSteps := 9000000) -implicitDefEqProofs -dsimp (disch := omega) only [go_sem, n12_16, a12_16, lt_T, lt_F, le_T, le_F, eq_T, eq_F, and_F, b1, Nat.reduceEqDiff, Nat.reduceAdd, Nat.reduceMul, Nat.reduceLeDiff, Nat.reduceBEq, Nat.reduceBNe, Int.reduceEq, ↓reduceIte, reduceCtorEq]
            exact ⟨h, (imp_sub (by simp (maxSteps := 9000000) -implicitDefEqProofs -dsimp (disch := omega) only [go_sem, n12_16, a12_16, Nat.reduceEqDiff, Nat.reduceAdd, Nat.reduceMul, Nat.reduceLeDiff, Nat.reduceBEq, Nat.reduceBNe, Int.reduceEq, ↓reduceIte, reduceCtorEq]) (by simp (maxSteps := 9000000) -implicitDefEqProofs -dsimp (disch := omega) only [go_sem, n12_16, a12_16, Nat.reduceEqDiff, Nat.reduceAdd, Nat.reduceMul, Nat.reduceLeDiff, Nat.reduceBEq, Nat.reduceBNe, Int.reduceEq, ↓reduceIte, reduceCtorEq]) rfl)⟩
          · rw [decide_eq_false hl] at ML
            cases hq : (U.n.getD i default).g with
            | true =>
              rw [hq] at MR b1
              simp (maxSteps := 9000000) -implicitDefEqProofs -dsimp (disch := omega) only [go_sem, n12_16, a12_16, lt_T, lt_F, le_T, le_F, eq_T, eq_F, and_F, Nat.reduceEqDiff, Nat.reduceAdd, Nat.reduceMul, Nat.reduceLeDiff, Nat.reduceBEq, Nat.reduceBNe, Int.reduceEq, ↓reduceIte, reduceCtorEq]
              refine draw_go n12_16 a12_16 (by decide +kernel) ?_
              simp (maxSteps := 9000000) -implicitDefEqProofs -dsimp (disch := omega) only [go_sem, n12_16, a12_16, lt_T, lt_F, le_T, le_F, eq_T, eq_F, and_F, b1, Nat.reduceEqDiff, Nat.reduceAdd, Nat.reduceMul, Nat.reduceLeDiff, Nat.reduceBEq, Nat.reduceBNe, Int.reduceEq, ↓reduceIte, reduceCtorEq]
              refine calla_go true MR ?_
              simp (maxSteps := 9000000) -implicitDefEqProofs -dsimp (disch := omega) only [go_sem, n12_16, a12_16, lt_T, lt_F, le_T, le_F, eq_T, eq_F, and_F, b1, Nat.reduceEqDiff, Nat.reduceAdd, Nat.reduceMul, Nat.reduceLeDiff, Nat.reduceBEq, Nat.reduceBNe, Int.reduceEq, ↓reduceIte, reduceCtorEq]
              refine calla_go true ML ?_
              simp (maxSteps := 9000000) -implicitDefEqProofs -dsimp (disch := omega) only [go_sem, n12_16, a12_16, lt_T, lt_F, le_T, le_F, eq_T, eq_F, and_F, b1, Nat.reduceEqDiff, Nat.reduceAdd, Nat.reduceMul, Nat.reduceLeDiff, Nat.reduceBEq, Nat.reduceBNe, Int.reduceEq, ↓reduceIte, reduceCtorEq]
              refine calla_go true ML ?_
              simp (maxSteps := 9000000) -implicitDefEqProofs -dsimp (disch := omega) only [go_sem, n12_16, a12_16, lt_T, lt_F, le_T, le_F, eq_T, eq_F, and_F, b1, Nat.reduceEqDiff, Nat.reduceAdd, Nat.reduceMul, Nat.reduceLeDiff, Nat.reduceBEq, Nat.reduceBNe, Int.reduceEq, ↓reduceIte, reduceCtorEq]
              exact ⟨h, (imp_sub (by simp (maxSteps := 9000000) -implicitDefEqProofs -dsimp (disch := omega) only [go_sem, n12_16, a12_16, Nat.reduceEqDiff, Nat.reduceAdd, Nat.reduceMul, Nat.reduceLeDiff, Nat.reduceBEq, Nat.reduceBNe, Int.reduceEq, ↓reduceIte, reduceCtorEq]) (by simp (maxSteps := 9000000) -implicitDefEqProofs -dsimp (disch := omega) only [go_sem, n12_16, a12_16, Nat.reduceEqDiff, Nat.reduceAdd, Nat.reduceMul, Nat.reduceLeDiff, Nat.reduceBEq, Nat.reduceBNe, Int.reduceEq, ↓reduceIte, reduceCtorEq]) rfl)⟩
            | false =>
              rw [hq] at MR b1
              simp (maxSteps := 9000000) -implicitDefEqProofs -dsimp (disch := omega) only [go_sem, n12_16, a12_16, lt_T, lt_F, le_T, le_F, eq_T, eq_F, and_F, Nat.reduceEqDiff, Nat.reduceAdd, Nat.reduceMul, Nat.reduceLeDiff, Nat.reduceBEq, Nat.reduceBNe, Int.reduceEq, ↓reduceIte, reduceCtorEq]
              refine draw_go n12_16 a12_16 (by decide +kernel) ?_
              simp (maxSteps := 9000000) -implicitDefEqProofs -dsimp (disch := omega) only [go_sem, n12_16, a12_16, lt_T, lt_F, le_T, le_F, eq_T, eq_F, and_F, b1, Nat.reduceEqDiff, Nat.reduceAdd, Nat.reduceMul, Nat.reduceLeDiff, Nat.reduceBEq, Nat.reduceBNe, Int.reduceEq, ↓reduceIte, reduceCtorEq]
              refine calla_go true MR ?_
              simp (maxSteps := 9000000) -implicitDefEqProofs -dsimp (disch := omega) only [go_sem, n12_16, a12_16, lt_T, lt_F, le_T, le_F, eq_T, eq_F, and_F, b1, Nat.reduceEqDiff, Nat.reduceAdd, Nat.reduceMul, Nat.reduceLeDiff, Nat.reduceBEq, Nat.reduceBNe, Int.reduceEq, ↓reduceIte, reduceCtorEq]
              refine calla_go true ML ?_
              simp (maxSteps := 9000000) -implicitDefEqProofs -dsimp (disch := omega) only [go_sem, n12_16, a12_16, lt_T, lt_F, le_T, le_F, eq_T, eq_F, and_F, b1, Nat.reduceEqDiff, Nat.reduceAdd, Nat.reduceMul, Nat.reduceLeDiff, Nat.reduceBEq, Nat.reduceBNe, Int.reduceEq, ↓reduceIte, reduceCtorEq]
              refine calla_go true ML ?_
              simp (maxSteps := 9000000) -implicitDefEqProofs -dsimp (disch := omega) only [go_sem, n12_16, a12_16, lt_T, lt_F, le_T, le_F, eq_T, eq_F, and_F, b1, Nat.reduceEqDiff, Nat.reduceAdd, Nat.reduceMul, Nat.reduceLeDiff, Nat.reduceBEq, Nat.reduceBNe, Int.reduceEq, ↓reduceIte, reduceCtorEq]
              exact ⟨h, (imp_sub (by simp (maxSteps := 9000000) -implicitDefEqProofs -dsimp (disch := omega) only [go_sem, n12_16, a12_16, Nat.reduceEqDiff, Nat.reduceAdd, Nat.reduceMul, Nat.reduceLeDiff, Nat.reduceBEq, Nat.reduceBNe, Int.reduceEq, ↓reduceIte, reduceCtorEq]) (by simp (maxSteps := 9000000) -implicitDefEqProofs -dsimp (disch := omega) only [go_sem, n12_16, a12_16, Nat.reduceEqDiff, Nat.reduceAdd, Nat.reduceMul, Nat.reduceLeDiff, Nat.reduceBEq, Nat.reduceBNe, Int.reduceEq, ↓reduceIte, reduceCtorEq]) rfl)⟩
        · obtain rfl : i = g.n.length := by omega
          simp (maxSteps := 9000000) -implicitDefEqProofs -dsimp (disch := omega) only [go_sem, n12_16, a12_16, lt_T, lt_F, le_T, le_F, eq_T, eq_F, and_F, Nat.reduceEqDiff, Nat.reduceAdd, Nat.reduceMul, Nat.reduceLeDiff, Nat.reduceBEq, Nat.reduceBNe, Int.reduceEq, ↓reduceIte, reduceCtorEq]
          exact fin _ (by unfold fcS; exact (imp_sub (by simp (maxSteps := 9000000) -implicitDefEqProofs -dsimp (disch := omega) only [go_sem, n12_16, a12_16, Nat.reduceEqDiff, Nat.reduceAdd, Nat.reduceMul, Nat.reduceLeDiff, Nat.reduceBEq, Nat.reduceBNe, Int.reduceEq, ↓reduceIte, reduceCtorEq]) (by simp (maxSteps := 9000000) -implicitDefEqProofs -dsimp (disch := omega) only [go_sem, n12_16, a12_16, Nat.reduceEqDiff, Nat.reduceAdd, Nat.reduceMul, Nat.reduceLeDiff, Nat.reduceBEq, Nat.reduceBNe, Int.reduceEq, ↓reduceIte, reduceCtorEq]) rfl))
    · rw [DrRes, if_neg hD] at M2 M3
      have M4 := sameG3 small0
      simp only [ndR_nil] at M4
      have e : decide (GoodG g) = decide (GoodG g) := rfl
      generalize decide (GoodG g) = gd at *
      refine meets_go (ir := fcA) (fn := Try.f12) (rx := [(.tmp 4)]) rfl rfl (by rfl) (by rfl) (by exact Nat.le_of_ble_eq_true rfl) ?_
      simp (maxSteps := 9000000) -implicitDefEqProofs -dsimp (disch := omega) only [go_sem, g12_0, g12_1, g12_2, g12_3, g12_4, g12_5, g12_6, a12_6, n12_6, g12_7, g12_8, g12_9, g12_10, g12_11, g12_12, g12_13, g12_14, g12_15, g12_16, a12_16, n12_16, g12_17, g12_18, g12_19, g12_20, g12_21, g12_22, g12_23, g12_24, g12_25, g12_26, g12_27, g12_28, g12_29, g12_30, g12_31, a12_31, n12_31, g12_32, g12_33, g12_34, g12_35, g12_36, g12_37, i12, lt_T, lt_F, le_T, le_F, eq_T, eq_F, and_F, fcA, hz, Nat.reduceEqDiff, Nat.reduceAdd, Nat.reduceMul, Nat.reduceLeDiff, Nat.reduceBEq, Nat.reduceBNe, Int.reduceEq, ↓reduceIte, reduceCtorEq]
      refine call_go false M1 ?_
      simp (maxSteps := 9000000) -implicitDefEqProofs -dsimp (disch := omega) only [go_sem, lt_T, lt_F, le_T, le_F, eq_T, eq_F, and_F, Nat.reduceEqDiff, Nat.reduceAdd, Nat.reduceMul, Nat.reduceLeDiff, Nat.reduceBEq, Nat.reduceBNe, Int.reduceEq, ↓reduceIte, reduceCtorEq]
      refine call_go true M2 ?_
      simp (maxSteps := 9000000) -implicitDefEqProofs -dsimp (disch := omega) only [go_sem, lt_T, lt_F, le_T, le_F, eq_T, eq_F, and_F, Nat.reduceEqDiff, Nat.reduceAdd, Nat.reduceMul, Nat.reduceLeDiff, Nat.reduceBEq, Nat.reduceBNe, Int.reduceEq, ↓reduceIte, reduceCtorEq]
      refine call_go true M3 ?_
      simp (maxSteps := 9000000) -implicitDefEqProofs -dsimp (disch := omega) only [go_sem, lt_T, lt_F, le_T, le_F, eq_T, eq_F, and_F, Nat.reduceEqDiff, Nat.reduceAdd, Nat.reduceMul, Nat.reduceLeDiff, Nat.reduceBEq, Nat.reduceBNe, Int.reduceEq, ↓reduceIte, reduceCtorEq]
      refine draw_go n12_6 a12_6 (by decide +kernel) ?_
      simp (maxSteps := 9000000) -implicitDefEqProofs -dsimp (disch := omega) only [go_sem, n12_6, a12_6, lt_T, lt_F, le_T, le_F, eq_T, eq_F, and_F, Nat.reduceEqDiff, Nat.reduceAdd, Nat.reduceMul, Nat.reduceLeDiff, Nat.reduceBEq, Nat.reduceBNe, Int.reduceEq, ↓reduceIte, reduceCtorEq]
      refine calla_go true sameInts0 ?_
      simp (maxSteps := 9000000) -implicitDefEqProofs -dsimp (disch := omega) only [go_sem, n12_6, a12_6, lt_T, lt_F, le_T, le_F, eq_T, eq_F, and_F, Nat.reduceEqDiff, Nat.reduceAdd, Nat.reduceMul, Nat.reduceLeDiff, Nat.reduceBEq, Nat.reduceBNe, Int.reduceEq, ↓reduceIte, reduceCtorEq]
      refine calla_go true sameG0 ?_
      simp (maxSteps := 9000000) -implicitDefEqProofs -dsimp (disch := omega) only [go_sem, n12_6, a12_6, lt_T, lt_F, le_T, le_F, eq_T, eq_F, and_F, Nat.reduceEqDiff, Nat.reduceAdd, Nat.reduceMul, Nat.reduceLeDiff, Nat.reduceBEq, Nat.reduceBNe, Int.reduceEq, ↓reduceIte, reduceCtorEq]
      refine calla_go true MA ?_
      simp (maxSteps := 9000000) -implicitDefEqProofs -dsimp (disch := omega) only [go_sem, n12_6, a12_6, lt_T, lt_F, le_T, le_F, eq_T, eq_F, and_F, Nat.reduceEqDiff, Nat.reduceAdd, Nat.reduceMul, Nat.reduceLeDiff, Nat.reduceBEq, Nat.reduceBNe, Int.reduceEq, ↓reduceIte, reduceCtorEq]
      refine call_go true MB ?_
      simp (maxSteps := 9000000) -implicitDefEqProofs -dsimp (disch := omega) only [go_sem, n12_6, a12_6, lt_T, lt_F, le_T, le_F, eq_T, eq_F, and_F, bne_self_eq_false, Nat.reduceEqDiff, Nat.reduceAdd, Nat.reduceMul, Nat.reduceLeDiff, Nat.reduceBEq, Nat.reduceBNe, Int.reduceEq, ↓reduceIte, reduceCtorEq]
      exact fin _ (by unfold fcS; exact (imp_sub (by simp (maxSteps := 9000000) -implicitDefEqProofs -dsimp (disch := omega) only [go_sem, n12_6, a12_6, Nat.reduceEqDiff, Nat.reduceAdd, Nat.reduceMul, Nat.reduceLeDiff, Nat.reduceBEq, Nat.reduceBNe, Int.reduceEq, ↓reduceIte, reduceCtorEq]) (by simp (maxSteps := 9000000) -implicitDefEqProofs -dsimp (disch := omega) only [go_sem, n12_6, a12_6, Nat.reduceEqDiff, Nat.reduceAdd, Nat.reduceMul, Nat.reduceLeDiff, Nat.reduceBEq, Nat.reduceBNe, Int.reduceEq, ↓reduceIte, reduceCtorEq]) rfl))
  · refine meets_go (ir := fcA) (fn := Try.f12) (rx := [(.tmp 4)]) rfl rfl (by rfl) (by rfl) (by exact Nat.le_of_ble_eq_true rfl) ?_
    rw [Decidable.not_not] at hz
    simp (maxSteps := 9000000) -implicitDefEqProofs -dsimp (disch := omega) only [go_sem, g12_0, g12_1, g12_2, g12_3, g12_4, g12_5, g12_6, a12_6, n12_6, g12_7, g12_8, g12_9, g12_10, g12_11, g12_12, g12_13, g12_14, g12_15, g12_16, a12_16, n12_16, g12_17, g12_18, g12_19, g12_20, g12_21, g12_22, g12_23, g12_24, g12_25, g12_26, g12_27, g12_28, g12_29, g12_30, g12_31, a12_31, n12_31, g12_32, g12_33, g12_34, g12_35, g12_36, g12_37, i12, lt_T, lt_F, le_T, le_F, eq_T, eq_F, and_F, fcA, hz, Nat.reduceEqDiff, Nat.reduceAdd, Nat.reduceMul, Nat.reduceLeDiff, Nat.reduceBEq, Nat.reduceBNe, Int.reduceEq, ↓reduceIte, reduceCtorEq]
end Go.Proofs.YtdhclelfnbjikaaT

/- What a code reads as. No condition. -/
set_option maxRecDepth 100000
set_option maxHeartbeats 8000000
set_option linter.unusedSimpArgs false
set_option linter.unusedVariables false
namespace Go.Proofs.YtdhclelfnbjikaaT
open Go Go.RowKit
theorem told_Bytes : Told Try.prog 56 (fun l : List Int => [(.sl false 1 l.length (l.map (T.int .u8)))]) Bytes :=
  told_iso (told_slice (k := 1) (told_int (k := .u8) Try.underlying5) (by kernel_rfl) (fun _ => rfl) (by decide) Try.underlying56) fun l h => ⟨l, by rw [flat_one], fun x hx => by
    have := h.2 x hx
    simp only [Lit.wf, Bool.and_eq_true, decide_eq_true_eq] at this
    have e1 : IntKind.u8.min = 0 := by decide
    have e2 : IntKind.u8.max = 255 := by decide
    rw [e1, e2] at this
    exact this, by have := h.1; unfold maxLen at this; omega⟩
end Go.Proofs.YtdhclelfnbjikaaT
