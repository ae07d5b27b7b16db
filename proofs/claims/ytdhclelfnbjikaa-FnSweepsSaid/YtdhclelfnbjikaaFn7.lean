/- Functions of the program, each with what it returns and leaves. No condition. -/
import Derived.Test.YtdhclelfnbjikaaFn6
set_option linter.all false
set_option linter.unusedVariables false
set_option linter.unusedSimpArgs false
set_option linter.unusedSectionVars false
set_option linter.unnecessarySimpa false
set_option linter.deprecated false
/- Functions of the program as contracts: the drawn law of sweeps. No condition. -/
set_option maxRecDepth 100000
set_option maxHeartbeats 8000000
set_option linter.unusedSimpArgs false
set_option linter.unusedVariables false
namespace Go.Proofs.YtdhclelfnbjikaaT
open Go Go.RowKit
theorem sw_rch {n : List Nd} {r : List Int} (h : NodesOk n r) {k : Nat} (hk : k < n.length) : Rch (swN n r) r (k : Int) ↔ Rch n r (k : Int) := by
  have hG := sw_good h
  rw [good_rch_iff hG (k := k) (by simp only [swN_len]; exact hk)]
  simp only
  rw [swN_get hk, swG]
  split
  · rename_i hr
    have := (rch_hold h hr).2.2
    rw [Int.toNat_natCast] at this
    exact ⟨fun _ => hr, fun _ => this⟩
  · rename_i hr
    exact ⟨fun w => by simp at w, fun w => absurd w hr⟩
theorem sw_two {n : List Nd} {r : List Int} (h : NodesOk n r) : swN (swN n r) r = swN n r := by
  unfold swN
  rw [List.length_map, List.length_range]
  apply List.map_congr_left
  intro k hk
  rw [List.mem_range] at hk
  have e := sw_rch h hk
  show swG (swN n r) r k = swG n r k
  unfold swG
  by_cases hr : Rch n r (k : Int)
  · rw [if_pos (e.2 hr), if_pos hr, swN_get hk, swG, if_pos hr]
  · rw [if_neg (fun w => hr (e.1 w)), if_neg hr]
theorem sw_none {n : List Nd} {r : List Int} (h : NodesOk n r) : swL (swN n r) r n.length = [] := by
  unfold swL
  rw [List.map_eq_nil_iff, List.filter_eq_nil_iff]
  intro k hk
  rw [List.mem_range] at hk
  have e := sw_rch h hk
  rw [swN_get hk, swG]
  by_cases hr : Rch n r (k : Int)
  · simp [e.2 hr]
  · simp [hr]
theorem inc_dec {c : List Int} {k : Nat} (h : k < c.length) : decF (c.set k (c.getD k default + 1)) k = c := by
  unfold decF
  rw [getD_set, if_pos ⟨rfl, h⟩, List.set_set]
  have e : c.getD k default + 1 - 1 = c.getD k default := by omega
  rw [e]
  exact (set_same (by rw [List.getD_eq_getElem?_getD, List.getElem?_eq_getElem h]; rfl)).symm
theorem hold_drop {g : Gr} {k : Int} (h : HrOk g k) : DrOk ⟨g.n, g.r ++ [k], incF g.c k⟩ ((g.r.length : Int)) ∧ drF ⟨g.n, g.r ++ [k], incF g.c k⟩ g.r.length = ⟨g.n, g.c, []⟩ ∧ delF (g.r ++ [k]) g.r.length = g.r := by
  obtain ⟨⟨hG, hk⟩, h6⟩ := h
  have a := hk.1
  have b := hk.2.1
  have cl := good_cl hG
  have e : (g.r ++ [k]).getD g.r.length default = k := by rw [List.getD_eq_getElem?_getD, List.getElem?_append_right (Nat.le_refl _)]; simp
  have hp := good_pos hG (j := k.toNat) (by omega) hk.2.2
  have hd : decF (incF g.c k) k.toNat = g.c := inc_dec (by omega)
  refine ⟨⟨hold_good hG hk h6, by omega, by simp only [List.length_append, List.length_singleton]; omega⟩, ?_, by simp [delF]⟩
  unfold drF
  simp only [e]
  rw [lessF, hd, if_pos hp]
def g13_0 : List Gop := [⟨none, (some 4), (.mov (.k (.one (.bool .false))))⟩]
def g13_1 : List Gop := [⟨none, (some 43), (.mov (.t 0))⟩, ⟨none, (some 44), (.len (.t 43))⟩, ⟨none, (some 45), (.mov (.t 1))⟩, ⟨none, (some 46), (.len (.t 45))⟩, ⟨none, (some 47), (.bin .add (.t 44) (.t 46))⟩, ⟨none, (some 48), (.bin .gtr (.t 47) (.k (.one (.int .i64 1048576))))⟩]
def g13_2 : List Gop := [⟨none, (some 4), (.mov (.k (.one (.bool .true))))⟩]
def g13_3 : List Gop := [⟨none, (some 49), (.mov (.t 0))⟩, ⟨none, (some 50), (.call 51 [(.t 49)])⟩, ⟨none, (some 5), (.alloc [.nil, .nil, .nil])⟩, ⟨none, none, (.store 3 (.t 5) (.t 50))⟩]
def g13_4 : List Gop := [⟨none, (some 52), (.load (some 3) (.t 5))⟩, ⟨none, (some 53), (.call 40 [(.t 52)])⟩, ⟨none, (some 51), (.mov (.t 53))⟩, ⟨none, (some 54), (.ext (.t 51) 0)⟩, ⟨none, (some 55), (.ext (.t 51) 1)⟩, ⟨none, (some 56), (.ext (.t 51) 2)⟩, ⟨none, (some 6), (.alloc [.nil, .nil, .nil])⟩, ⟨none, none, (.store 3 (.t 6) (.t 54))⟩, ⟨none, (some 7), (.mov (.t 55))⟩, ⟨none, (some 8), (.mov (.t 56))⟩]
def g13_5 : List Gop := [⟨none, (some 58), (.load (some 3) (.t 5))⟩, ⟨none, (some 59), (.call 39 [(.t 58)])⟩, ⟨none, (some 57), (.mov (.t 59))⟩, ⟨none, (some 60), (.ext (.t 57) 0)⟩, ⟨none, (some 61), (.ext (.t 57) 1)⟩, ⟨none, (some 62), (.ext (.t 57) 2)⟩, ⟨none, (some 9), (.alloc [.nil, .nil, .nil])⟩, ⟨none, none, (.store 3 (.t 9) (.t 60))⟩, ⟨none, (some 10), (.mov (.t 61))⟩, ⟨none, (some 11), (.mov (.t 62))⟩]
def g13_6 : List Gop := [⟨none, (some 63), (.mov (.t 8))⟩, ⟨none, (some 64), (.mov (.t 11))⟩, ⟨none, (some 65), (.beq .true (.t 63) (.t 64))⟩, ⟨none, (some 66), (.mov (.t 65))⟩, ⟨(some (66, .false)), (some 67), (.mov (.t 7))⟩, ⟨(some (66, .false)), (some 68), (.mov (.t 10))⟩, ⟨(some (66, .false)), (some 69), (.call 46 [(.t 67), (.t 68)])⟩, ⟨(some (66, .false)), (some 70), (.un .not (.t 69))⟩, ⟨none, (some 71), (.pick (.t 66) (.k (.one (.bool .true))) (.t 70))⟩, ⟨none, (some 72), (.mov (.t 71))⟩, ⟨(some (72, .false)), (some 73), (.load (some 3) (.t 6))⟩, ⟨(some (72, .false)), (some 74), (.load (some 3) (.t 9))⟩, ⟨(some (72, .false)), (some 75), (.call 47 [(.t 73), (.t 74)])⟩, ⟨(some (72, .false)), (some 76), (.un .not (.t 75))⟩, ⟨none, (some 77), (.pick (.t 72) (.k (.one (.bool .true))) (.t 76))⟩]
def g13_7 : List Gop := [⟨none, (some 4), (.mov (.k (.one (.bool .false))))⟩]
def g13_8 : List Gop := [⟨none, (some 78), (.mov (.t 8))⟩]
def g13_9 : List Gop := [⟨none, (some 80), (.load (some 3) (.t 6))⟩, ⟨none, (some 81), (.call 40 [(.t 80)])⟩, ⟨none, (some 79), (.mov (.t 81))⟩, ⟨none, (some 82), (.ext (.t 79) 0)⟩, ⟨none, (some 83), (.ext (.t 79) 1)⟩, ⟨none, (some 84), (.ext (.t 79) 2)⟩, ⟨none, (some 12), (.alloc [.nil, .nil, .nil])⟩, ⟨none, none, (.store 3 (.t 12) (.t 82))⟩, ⟨none, (some 13), (.mov (.t 83))⟩, ⟨none, (some 14), (.mov (.t 84))⟩]
def g13_10 : List Gop := [⟨none, (some 86), (.load (some 3) (.t 6))⟩, ⟨none, (some 87), (.call 34 [(.t 86)])⟩, ⟨none, (some 85), (.mov (.t 87))⟩, ⟨none, (some 88), (.ext (.t 85) 0)⟩, ⟨none, (some 89), (.ext (.t 85) 1)⟩, ⟨none, (some 15), (.mov (.t 88))⟩, ⟨none, (some 16), (.mov (.t 89))⟩]
def g13_11 : List Gop := [⟨none, (some 90), (.load (some 3) (.t 6))⟩, ⟨none, (some 91), (.call 27 [(.t 90)])⟩, ⟨none, (some 92), (.un .not (.t 91))⟩, ⟨none, (some 93), (.mov (.t 92))⟩, ⟨(some (93, .false)), (some 94), (.mov (.t 14))⟩, ⟨(some (93, .false)), (some 95), (.un .not (.t 94))⟩, ⟨none, (some 96), (.pick (.t 93) (.k (.one (.bool .true))) (.t 95))⟩, ⟨none, (some 97), (.mov (.t 96))⟩, ⟨(some (97, .false)), (some 98), (.mov (.t 13))⟩, ⟨(some (97, .false)), (some 99), (.len (.t 98))⟩, ⟨(some (97, .false)), (some 100), (.bin .gtr (.t 99) (.k (.one (.int .i64 0))))⟩, ⟨none, (some 101), (.pick (.t 97) (.k (.one (.bool .true))) (.t 100))⟩, ⟨none, (some 102), (.mov (.t 101))⟩, ⟨(some (102, .false)), (some 103), (.load (some 3) (.t 12))⟩, ⟨(some (102, .false)), (some 104), (.load (some 3) (.t 6))⟩, ⟨(some (102, .false)), (some 105), (.call 47 [(.t 103), (.t 104)])⟩, ⟨(some (102, .false)), (some 106), (.un .not (.t 105))⟩, ⟨none, (some 107), (.pick (.t 102) (.k (.one (.bool .true))) (.t 106))⟩, ⟨none, (some 108), (.mov (.t 107))⟩, ⟨(some (108, .false)), (some 109), (.mov (.t 16))⟩, ⟨(some (108, .false)), (some 110), (.un .not (.t 109))⟩, ⟨none, (some 111), (.pick (.t 108) (.k (.one (.bool .true))) (.t 110))⟩, ⟨none, (some 112), (.mov (.t 111))⟩, ⟨(some (112, .false)), (some 113), (.faddr (.t 6) 1)⟩, ⟨(some (112, .false)), (some 114), (.load none (.t 113))⟩, ⟨(some (112, .false)), (some 115), (.faddr (.t 5) 1)⟩, ⟨(some (112, .false)), (some 116), (.load none (.t 115))⟩, ⟨(some (112, .false)), (some 117), (.call 46 [(.t 114), (.t 116)])⟩, ⟨(some (112, .false)), (some 118), (.un .not (.t 117))⟩, ⟨none, (some 119), (.pick (.t 112) (.k (.one (.bool .true))) (.t 118))⟩]
def g13_12 : List Gop := [⟨none, (some 4), (.mov (.k (.one (.bool .false))))⟩]
def g13_13 : List Gop := [⟨none, (some 120), (.mov (.t 15))⟩, ⟨none, (some 121), (.len (.t 120))⟩, ⟨none, (some 122), (.mov (.k (.one (.int .i64 0))))⟩]
def g13_14 : List Gop := [⟨none, (some 123), (.bin .lss (.t 122) (.t 121))⟩]
def g13_15 : List Gop := [⟨none, (some 124), (.iaddr 1 (.t 120) (.t 122))⟩, ⟨none, (some 125), (.load none (.t 124))⟩, ⟨none, (some 18), (.mov (.t 125))⟩]
def g13_16 : List Gop := [⟨none, (some 126), (.faddr (.t 6) 0)⟩, ⟨none, (some 127), (.load none (.t 126))⟩, ⟨none, (some 128), (.mov (.t 18))⟩, ⟨none, (some 129), (.iaddr 2 (.t 127) (.t 128))⟩, ⟨none, (some 130), (.faddr (.t 129) 0)⟩, ⟨none, (some 131), (.load none (.t 130))⟩, ⟨none, (some 132), (.faddr (.t 5) 0)⟩, ⟨none, (some 133), (.load none (.t 132))⟩, ⟨none, (some 134), (.mov (.t 18))⟩, ⟨none, (some 135), (.iaddr 2 (.t 133) (.t 134))⟩, ⟨none, (some 136), (.faddr (.t 135) 0)⟩, ⟨none, (some 137), (.load none (.t 136))⟩, ⟨none, (some 138), (.call 46 [(.t 131), (.t 137)])⟩, ⟨none, (some 139), (.un .not (.t 138))⟩]
def a13_16 : List (List Nat) := [[], [0], [], [0, 1, 2], [0, 1, 2, 3], [0, 1, 2, 3, 4], [], [6], [], [6, 7, 8], [6, 7, 8, 9], [6, 7, 8, 9, 10], [0, 1, 2, 3, 4, 5, 6, 7, 8, 9, 10, 11], [0, 1, 2, 3, 4, 5, 6, 7, 8, 9, 10, 11, 12]]
def n13_16 : Nat := 12 -- of 14
def g13_17 : List Gop := [⟨none, (some 4), (.mov (.k (.one (.bool .false))))⟩]
def g13_18 : List Gop := [⟨none, (some 140), (.bin .add (.t 122) (.k (.one (.int .i64 1))))⟩, ⟨none, (some 122), (.mov (.t 140))⟩]
def g13_19 : List Gop := [⟨none, (some 142), (.mov (.t 1))⟩, ⟨none, (some 143), (.call 52 [(.t 142)])⟩, ⟨none, (some 141), (.mov (.t 143))⟩, ⟨none, (some 144), (.ext (.t 141) 0)⟩, ⟨none, (some 145), (.ext (.t 141) 1)⟩, ⟨none, (some 19), (.alloc [.nil, .nil, .nil])⟩, ⟨none, none, (.store 3 (.t 19) (.t 144))⟩, ⟨none, (some 20), (.mov (.t 145))⟩]
def g13_20 : List Gop := [⟨none, (some 147), (.load (some 3) (.t 19))⟩, ⟨none, (some 148), (.mov (.t 20))⟩, ⟨none, (some 149), (.call 36 [(.t 147), (.t 148)])⟩, ⟨none, (some 146), (.mov (.t 149))⟩, ⟨none, (some 150), (.ext (.t 146) 0)⟩, ⟨none, (some 151), (.ext (.t 146) 1)⟩, ⟨none, (some 21), (.alloc [.nil, .nil, .nil])⟩, ⟨none, none, (.store 3 (.t 21) (.t 150))⟩, ⟨none, (some 22), (.mov (.t 151))⟩]
def g13_21 : List Gop := [⟨none, (some 153), (.load (some 3) (.t 19))⟩, ⟨none, (some 154), (.mov (.t 20))⟩, ⟨none, (some 155), (.call 35 [(.t 153), (.t 154)])⟩, ⟨none, (some 152), (.mov (.t 155))⟩, ⟨none, (some 156), (.ext (.t 152) 0)⟩, ⟨none, (some 157), (.ext (.t 152) 1)⟩, ⟨none, (some 23), (.alloc [.nil, .nil, .nil])⟩, ⟨none, none, (.store 3 (.t 23) (.t 156))⟩, ⟨none, (some 24), (.mov (.t 157))⟩]
def g13_22 : List Gop := [⟨none, (some 158), (.mov (.t 22))⟩, ⟨none, (some 159), (.mov (.t 24))⟩, ⟨none, (some 160), (.beq .true (.t 158) (.t 159))⟩, ⟨none, (some 161), (.mov (.t 160))⟩, ⟨(some (161, .false)), (some 162), (.load (some 3) (.t 21))⟩, ⟨(some (161, .false)), (some 163), (.load (some 3) (.t 23))⟩, ⟨(some (161, .false)), (some 164), (.call 47 [(.t 162), (.t 163)])⟩, ⟨(some (161, .false)), (some 165), (.un .not (.t 164))⟩, ⟨none, (some 166), (.pick (.t 161) (.k (.one (.bool .true))) (.t 165))⟩]
def g13_23 : List Gop := [⟨none, (some 4), (.mov (.k (.one (.bool .false))))⟩]
def g13_24 : List Gop := [⟨none, (some 167), (.mov (.t 22))⟩]
def g13_25 : List Gop := [⟨none, (some 169), (.load (some 3) (.t 21))⟩, ⟨none, (some 170), (.faddr (.t 21) 1)⟩, ⟨none, (some 171), (.load none (.t 170))⟩, ⟨none, (some 172), (.len (.t 171))⟩, ⟨none, (some 173), (.bin .sub (.t 172) (.k (.one (.int .i64 1))))⟩, ⟨none, (some 174), (.call 42 [(.t 169), (.t 173)])⟩, ⟨none, (some 168), (.mov (.t 174))⟩, ⟨none, (some 175), (.ext (.t 168) 0)⟩, ⟨none, (some 176), (.ext (.t 168) 1)⟩, ⟨none, (some 177), (.ext (.t 168) 2)⟩, ⟨none, (some 25), (.alloc [.nil, .nil, .nil])⟩, ⟨none, none, (.store 3 (.t 25) (.t 175))⟩, ⟨none, (some 26), (.mov (.t 176))⟩, ⟨none, (some 27), (.mov (.t 177))⟩]
def g13_26 : List Gop := [⟨none, (some 178), (.load (some 3) (.t 21))⟩, ⟨none, (some 179), (.call 27 [(.t 178)])⟩, ⟨none, (some 180), (.un .not (.t 179))⟩, ⟨none, (some 181), (.mov (.t 180))⟩, ⟨(some (181, .false)), (some 182), (.mov (.t 27))⟩, ⟨(some (181, .false)), (some 183), (.un .not (.t 182))⟩, ⟨none, (some 184), (.pick (.t 181) (.k (.one (.bool .true))) (.t 183))⟩, ⟨none, (some 185), (.mov (.t 184))⟩, ⟨(some (185, .false)), (some 186), (.mov (.t 26))⟩, ⟨(some (185, .false)), (some 187), (.len (.t 186))⟩, ⟨(some (185, .false)), (some 188), (.bin .gtr (.t 187) (.k (.one (.int .i64 0))))⟩, ⟨none, (some 189), (.pick (.t 185) (.k (.one (.bool .true))) (.t 188))⟩, ⟨none, (some 190), (.mov (.t 189))⟩, ⟨(some (190, .false)), (some 191), (.load (some 3) (.t 25))⟩, ⟨(some (190, .false)), (some 192), (.load (some 3) (.t 19))⟩, ⟨(some (190, .false)), (some 193), (.call 47 [(.t 191), (.t 192)])⟩, ⟨(some (190, .false)), (some 194), (.un .not (.t 193))⟩, ⟨none, (some 195), (.pick (.t 190) (.k (.one (.bool .true))) (.t 194))⟩]
def g13_27 : List Gop := [⟨none, (some 4), (.mov (.k (.one (.bool .false))))⟩]
def g13_28 : List Gop := [⟨none, (some 197), (.mov (.t 1))⟩, ⟨none, (some 198), (.call 53 [(.t 197)])⟩, ⟨none, (some 196), (.mov (.t 198))⟩, ⟨none, (some 199), (.ext (.t 196) 0)⟩, ⟨none, (some 200), (.ext (.t 196) 1)⟩, ⟨none, (some 28), (.mov (.t 199))⟩, ⟨none, (some 29), (.mov (.t 200))⟩]
def g13_29 : List Gop := [⟨none, (some 202), (.mov (.t 28))⟩, ⟨none, (some 203), (.mov (.t 29))⟩, ⟨none, (some 204), (.call 30 [(.t 202), (.t 203)])⟩, ⟨none, (some 201), (.mov (.t 204))⟩, ⟨none, (some 205), (.ext (.t 201) 0)⟩, ⟨none, (some 206), (.ext (.t 201) 1)⟩, ⟨none, (some 30), (.alloc [.nil, .nil, .nil])⟩, ⟨none, none, (.store 3 (.t 30) (.t 205))⟩, ⟨none, (some 31), (.mov (.t 206))⟩]
def g13_30 : List Gop := [⟨none, (some 208), (.mov (.t 28))⟩, ⟨none, (some 209), (.mov (.t 29))⟩, ⟨none, (some 210), (.call 29 [(.t 208), (.t 209)])⟩, ⟨none, (some 207), (.mov (.t 210))⟩, ⟨none, (some 211), (.ext (.t 207) 0)⟩, ⟨none, (some 212), (.ext (.t 207) 1)⟩, ⟨none, (some 32), (.alloc [.nil, .nil, .nil])⟩, ⟨none, none, (.store 3 (.t 32) (.t 211))⟩, ⟨none, (some 33), (.mov (.t 212))⟩]
def g13_31 : List Gop := [⟨none, (some 214), (.mov (.t 28))⟩, ⟨none, (some 215), (.mov (.t 29))⟩, ⟨none, (some 216), (.call 18 [(.t 214), (.t 215)])⟩, ⟨none, (some 213), (.mov (.t 216))⟩, ⟨none, (some 217), (.ext (.t 213) 0)⟩, ⟨none, (some 218), (.ext (.t 213) 1)⟩, ⟨none, (some 34), (.mov (.t 217))⟩, ⟨none, (some 35), (.mov (.t 218))⟩]
def g13_32 : List Gop := [⟨none, (some 220), (.mov (.t 28))⟩, ⟨none, (some 221), (.mov (.t 29))⟩, ⟨none, (some 222), (.call 15 [(.t 220), (.t 221)])⟩, ⟨none, (some 219), (.mov (.t 222))⟩, ⟨none, (some 223), (.ext (.t 219) 0)⟩, ⟨none, (some 224), (.ext (.t 219) 1)⟩, ⟨none, (some 36), (.mov (.t 223))⟩, ⟨none, (some 37), (.mov (.t 224))⟩]
def g13_33 : List Gop := [⟨none, (some 225), (.mov (.t 1))⟩, ⟨none, (some 226), (.call 54 [(.t 225)])⟩, ⟨none, (some 38), (.alloc [.nil, .nil, .nil])⟩, ⟨none, none, (.store 3 (.t 38) (.t 226))⟩]
def g13_34 : List Gop := [⟨none, (some 228), (.load (some 3) (.t 38))⟩, ⟨none, (some 229), (.call 34 [(.t 228)])⟩, ⟨none, (some 227), (.mov (.t 229))⟩, ⟨none, (some 230), (.ext (.t 227) 0)⟩, ⟨none, (some 231), (.ext (.t 227) 1)⟩, ⟨none, (some 39), (.mov (.t 230))⟩, ⟨none, (some 40), (.mov (.t 231))⟩]
def g13_35 : List Gop := [⟨none, (some 233), (.load (some 3) (.t 38))⟩, ⟨none, (some 234), (.call 33 [(.t 233)])⟩, ⟨none, (some 232), (.mov (.t 234))⟩, ⟨none, (some 235), (.ext (.t 232) 0)⟩, ⟨none, (some 236), (.ext (.t 232) 1)⟩, ⟨none, (some 41), (.mov (.t 235))⟩, ⟨none, (some 42), (.mov (.t 236))⟩]
def g13_36 : List Gop := [⟨none, (some 237), (.mov (.t 31))⟩, ⟨none, (some 238), (.mov (.t 33))⟩, ⟨none, (some 239), (.beq .false (.t 237) (.t 238))⟩, ⟨none, (some 240), (.mov (.t 239))⟩, ⟨(some (240, .true)), (some 241), (.load (some 3) (.t 30))⟩, ⟨(some (240, .true)), (some 242), (.load (some 3) (.t 32))⟩, ⟨(some (240, .true)), (some 243), (.call 47 [(.t 241), (.t 242)])⟩, ⟨none, (some 244), (.pick (.t 240) (.t 243) (.k (.one (.bool .false))))⟩, ⟨none, (some 245), (.mov (.t 244))⟩, ⟨(some (245, .true)), (some 246), (.mov (.t 35))⟩, ⟨(some (245, .true)), (some 247), (.mov (.t 37))⟩, ⟨(some (245, .true)), (some 248), (.beq .false (.t 246) (.t 247))⟩, ⟨none, (some 249), (.pick (.t 245) (.t 248) (.k (.one (.bool .false))))⟩, ⟨none, (some 250), (.mov (.t 249))⟩, ⟨(some (250, .true)), (some 251), (.mov (.t 34))⟩, ⟨(some (250, .true)), (some 252), (.mov (.t 36))⟩, ⟨(some (250, .true)), (some 253), (.call 46 [(.t 251), (.t 252)])⟩, ⟨none, (some 254), (.pick (.t 250) (.t 253) (.k (.one (.bool .false))))⟩, ⟨none, (some 255), (.mov (.t 254))⟩, ⟨(some (255, .true)), (some 256), (.mov (.t 40))⟩, ⟨(some (255, .true)), (some 257), (.mov (.t 42))⟩, ⟨(some (255, .true)), (some 258), (.beq .false (.t 256) (.t 257))⟩, ⟨none, (some 259), (.pick (.t 255) (.t 258) (.k (.one (.bool .false))))⟩, ⟨none, (some 260), (.mov (.t 259))⟩, ⟨(some (260, .true)), (some 261), (.mov (.t 39))⟩, ⟨(some (260, .true)), (some 262), (.mov (.t 41))⟩, ⟨(some (260, .true)), (some 263), (.call 46 [(.t 261), (.t 262)])⟩, ⟨none, (some 264), (.pick (.t 260) (.t 263) (.k (.one (.bool .false))))⟩, ⟨none, (some 4), (.mov (.t 264))⟩]
def i13 : Ir := (.seq (.region g13_0) (.seq (.seq (.region g13_1) (.cond (.t 48) (.seq (.region g13_2) .ret) .skip)) (.seq (.region g13_3) (.seq (.region g13_4) (.seq (.region g13_5) (.seq (.seq (.region g13_6) (.cond (.t 77) (.seq (.region g13_7) .ret) .skip)) (.seq (.seq (.region g13_8) (.cond (.t 78) (.seq (.region g13_9) (.seq (.region g13_10) (.seq (.seq (.region g13_11) (.cond (.t 119) (.seq (.region g13_12) .ret) .skip)) (.seq (.region g13_13) (.block 0 (.loop (.seq (.region g13_14) (.seq (.cond (.t 123) .skip (.exit 0)) (.seq (.block 1 (.seq (.region g13_15) (.seq (.draw [[], [0], [], [1, 2], [3], [4], [], [6], [], [7, 8], [9], [10], [5, 11], [12]] g13_16) (.cond (.t 139) (.seq (.region g13_17) .ret) .skip)))) (.region g13_18)))))))))) .skip)) (.seq (.region g13_19) (.seq (.region g13_20) (.seq (.region g13_21) (.seq (.seq (.region g13_22) (.cond (.t 166) (.seq (.region g13_23) .ret) .skip)) (.seq (.seq (.region g13_24) (.cond (.t 167) (.seq (.region g13_25) (.seq (.region g13_26) (.cond (.t 195) (.seq (.region g13_27) .ret) .skip))) .skip)) (.seq (.region g13_28) (.seq (.region g13_29) (.seq (.region g13_30) (.seq (.region g13_31) (.seq (.region g13_32) (.seq (.region g13_33) (.seq (.region g13_34) (.seq (.region g13_35) (.seq (.region g13_36) .ret)))))))))))))))))))))
def fcZ : Ir := (.seq (.region g13_28) (.seq (.region g13_29) (.seq (.region g13_30) (.seq (.region g13_31) (.seq (.region g13_32) (.seq (.region g13_33) (.seq (.region g13_34) (.seq (.region g13_35) (.seq (.region g13_36) .ret)))))))))
theorem fcZ_ok (m : Nat) (more : List Int) (hm : Bytes more) : wx Try.prog fcZ (finQ [.tmp 4] (.w (.one (.bool true))) [.one .hole, .one .hole]) (fcS m more) := by
  obtain ⟨n, r, n1, n2, n3, M1⟩ := drawNewGraph_ok more hm
  have nh : ∀ x ∈ n, x.h.length ≤ 1048576 := fun x hx => by have := n2 x hx; omega
  have M2 := implNew_ok n r (by omega) nh (by omega)
  have M3 := specNew_ok n r (by omega) nh (by omega)
  have M4 := implCounts_ok n r (by omega) nh (by omega)
  have M5 := specCounts_ok n r (by omega) nh (by omega)
  obtain ⟨g, ⟨hs, h14, h6⟩, M6⟩ := drawReachedIn_ok more hm
  have M7 := implReachedIn_ok g hs
  have M8 := specReachedIn_ok g hs
  have hcl : (countsF n r).length = n.length := countsF_len
  have rl := rchL_len (n := g.n) (r := g.r)
  unfold fcS
  by_cases hN : NodesOk n r
  · rw [CoRes, if_pos hN] at M4 M5
    have MC := sameInts_ok (countsF n r) (countsF n r) (by omega)
    simp only [hcl] at MC
    by_cases hG : NgOk n r
    · rw [NgRes, if_pos hG] at M2 M3
      have MS := sameG3 (good_small hG.2)
      simp only [hcl] at MS
      generalize countsF n r = cs at *
      by_cases hR : GoodG g
      · rw [ReRes, if_pos hR] at M7 M8
        generalize rchL g.n g.r = R at *
        have MR := sameInts_ok R R (by omega)
        simp (maxSteps := 9000000) -implicitDefEqProofs -dsimp (disch := omega) only [go_sem, g13_0, g13_1, g13_2, g13_3, g13_4, g13_5, g13_6, g13_7, g13_8, g13_9, g13_10, g13_11, g13_12, g13_13, g13_14, g13_15, g13_16, a13_16, n13_16, g13_17, g13_18, g13_19, g13_20, g13_21, g13_22, g13_23, g13_24, g13_25, g13_26, g13_27, g13_28, g13_29, g13_30, g13_31, g13_32, g13_33, g13_34, g13_35, g13_36, i13, lt_T, lt_F, le_T, le_F, eq_T, eq_F, and_F, fcZ, Nat.reduceEqDiff, Nat.reduceAdd, Nat.reduceMul, Nat.reduceLeDiff, Nat.reduceBEq, Nat.reduceBNe, Int.reduceEq, ↓reduceIte, reduceCtorEq]
        refine call_go true M1 ?_
        simp (maxSteps := 9000000) -implicitDefEqProofs -dsimp (disch := omega) only [go_sem, lt_T, lt_F, le_T, le_F, eq_T, eq_F, and_F, Nat.reduceEqDiff, Nat.reduceAdd, Nat.reduceMul, Nat.reduceLeDiff, Nat.reduceBEq, Nat.reduceBNe, Int.reduceEq, ↓reduceIte, reduceCtorEq]
        refine call_go true M2 ?_
        simp (maxSteps := 9000000) -implicitDefEqProofs -dsimp (disch := omega) only [go_sem, lt_T, lt_F, le_T, le_F, eq_T, eq_F, and_F, Nat.reduceEqDiff, Nat.reduceAdd, Nat.reduceMul, Nat.reduceLeDiff, Nat.reduceBEq, Nat.reduceBNe, Int.reduceEq, ↓reduceIte, reduceCtorEq]
        refine call_go true M3 ?_
        simp (maxSteps := 9000000) -implicitDefEqProofs -dsimp (disch := omega) only [go_sem, lt_T, lt_F, le_T, le_F, eq_T, eq_F, and_F, Nat.reduceEqDiff, Nat.reduceAdd, Nat.reduceMul, Nat.reduceLeDiff, Nat.reduceBEq, Nat.reduceBNe, Int.reduceEq, ↓reduceIte, reduceCtorEq]
        refine call_go true M4 ?_
        simp (maxSteps := 9000000) -implicitDefEqProofs -dsimp (disch := omega) only [go_sem, lt_T, lt_F, le_T, le_F, eq_T, eq_F, and_F, Nat.reduceEqDiff, Nat.reduceAdd, Nat.reduceMul, Nat.reduceLeDiff, Nat.reduceBEq, Nat.reduceBNe, Int.reduceEq, ↓reduceIte, reduceCtorEq]
        refine call_go true M5 ?_
        simp (maxSteps := 9000000) -implicitDefEqProofs -dsimp (disch := omega) only [go_sem, lt_T, lt_F, le_T, le_F, eq_T, eq_F, and_F, Nat.reduceEqDiff, Nat.reduceAdd, Nat.reduceMul, Nat.reduceLeDiff, Nat.reduceBEq, Nat.reduceBNe, Int.reduceEq, ↓reduceIte, reduceCtorEq]
        refine call_go false M6 ?_
        simp (maxSteps := 9000000) -implicitDefEqProofs -dsimp (disch := omega) only [go_sem, lt_T, lt_F, le_T, le_F, eq_T, eq_F, and_F, Nat.reduceEqDiff, Nat.reduceAdd, Nat.reduceMul, Nat.reduceLeDiff, Nat.reduceBEq, Nat.reduceBNe, Int.reduceEq, ↓reduceIte, reduceCtorEq]
        refine call_go true M7 ?_
        simp (maxSteps := 9000000) -implicitDefEqProofs -dsimp (disch := omega) only [go_sem, lt_T, lt_F, le_T, le_F, eq_T, eq_F, and_F, Nat.reduceEqDiff, Nat.reduceAdd, Nat.reduceMul, Nat.reduceLeDiff, Nat.reduceBEq, Nat.reduceBNe, Int.reduceEq, ↓reduceIte, reduceCtorEq]
        refine call_go true M8 ?_
        simp (maxSteps := 9000000) -implicitDefEqProofs -dsimp (disch := omega) only [go_sem, lt_T, lt_F, le_T, le_F, eq_T, eq_F, and_F, Nat.reduceEqDiff, Nat.reduceAdd, Nat.reduceMul, Nat.reduceLeDiff, Nat.reduceBEq, Nat.reduceBNe, Int.reduceEq, ↓reduceIte, reduceCtorEq]
        refine call_go true MS ?_
        simp (maxSteps := 9000000) -implicitDefEqProofs -dsimp (disch := omega) only [go_sem, lt_T, lt_F, le_T, le_F, eq_T, eq_F, and_F, Nat.reduceEqDiff, Nat.reduceAdd, Nat.reduceMul, Nat.reduceLeDiff, Nat.reduceBEq, Nat.reduceBNe, Int.reduceEq, ↓reduceIte, reduceCtorEq]
        refine call_go true MC ?_
        simp (maxSteps := 9000000) -implicitDefEqProofs -dsimp (disch := omega) only [go_sem, lt_T, lt_F, le_T, le_F, eq_T, eq_F, and_F, Nat.reduceEqDiff, Nat.reduceAdd, Nat.reduceMul, Nat.reduceLeDiff, Nat.reduceBEq, Nat.reduceBNe, Int.reduceEq, ↓reduceIte, reduceCtorEq]
        refine call_go true MR ?_
        simp (maxSteps := 9000000) -implicitDefEqProofs -dsimp (disch := omega) only [go_sem, lt_T, lt_F, le_T, le_F, eq_T, eq_F, and_F, Nat.reduceEqDiff, Nat.reduceAdd, Nat.reduceMul, Nat.reduceLeDiff, Nat.reduceBEq, Nat.reduceBNe, Int.reduceEq, ↓reduceIte, reduceCtorEq]
      · rw [ReRes, if_neg hR] at M7 M8
        have MR := sameInts_ok [] [] (by decide)
        simp (maxSteps := 9000000) -implicitDefEqProofs -dsimp (disch := omega) only [go_sem, g13_0, g13_1, g13_2, g13_3, g13_4, g13_5, g13_6, g13_7, g13_8, g13_9, g13_10, g13_11, g13_12, g13_13, g13_14, g13_15, g13_16, a13_16, n13_16, g13_17, g13_18, g13_19, g13_20, g13_21, g13_22, g13_23, g13_24, g13_25, g13_26, g13_27, g13_28, g13_29, g13_30, g13_31, g13_32, g13_33, g13_34, g13_35, g13_36, i13, lt_T, lt_F, le_T, le_F, eq_T, eq_F, and_F, fcZ, Nat.reduceEqDiff, Nat.reduceAdd, Nat.reduceMul, Nat.reduceLeDiff, Nat.reduceBEq, Nat.reduceBNe, Int.reduceEq, ↓reduceIte, reduceCtorEq]
        refine call_go true M1 ?_
        simp (maxSteps := 9000000) -implicitDefEqProofs -dsimp (disch := omega) only [go_sem, lt_T, lt_F, le_T, le_F, eq_T, eq_F, and_F, Nat.reduceEqDiff, Nat.reduceAdd, Nat.reduceMul, Nat.reduceLeDiff, Nat.reduceBEq, Nat.reduceBNe, Int.reduceEq, ↓reduceIte, reduceCtorEq]
        refine call_go true M2 ?_
        simp (maxSteps := 9000000) -implicitDefEqProofs -dsimp (disch := omega) only [go_sem, lt_T, lt_F, le_T, le_F, eq_T, eq_F, and_F, Nat.reduceEqDiff, Nat.reduceAdd, Nat.reduceMul, Nat.reduceLeDiff, Nat.reduceBEq, Nat.reduceBNe, Int.reduceEq, ↓reduceIte, reduceCtorEq]
        refine call_go true M3 ?_
        simp (maxSteps := 9000000) -implicitDefEqProofs -dsimp (disch := omega) only [go_sem, lt_T, lt_F, le_T, le_F, eq_T, eq_F, and_F, Nat.reduceEqDiff, Nat.reduceAdd, Nat.reduceMul, Nat.reduceLeDiff, Nat.reduceBEq, Nat.reduceBNe, Int.reduceEq, ↓reduceIte, reduceCtorEq]
        refine call_go true M4 ?_
        simp (maxSteps := 9000000) -implicitDefEqProofs -dsimp (disch := omega) only [go_sem, lt_T, lt_F, le_T, le_F, eq_T, eq_F, and_F, Nat.reduceEqDiff, Nat.reduceAdd, Nat.reduceMul, Nat.reduceLeDiff, Nat.reduceBEq, Nat.reduceBNe, Int.reduceEq, ↓reduceIte, reduceCtorEq]
        refine call_go true M5 ?_
        simp (maxSteps := 9000000) -implicitDefEqProofs -dsimp (disch := omega) only [go_sem, lt_T, lt_F, le_T, le_F, eq_T, eq_F, and_F, Nat.reduceEqDiff, Nat.reduceAdd, Nat.reduceMul, Nat.reduceLeDiff, Nat.reduceBEq, Nat.reduceBNe, Int.reduceEq, ↓reduceIte, reduceCtorEq]
        refine call_go false M6 ?_
        simp (maxSteps := 9000000) -implicitDefEqProofs -dsimp (disch := omega) only [go_sem, lt_T, lt_F, le_T, le_F, eq_T, eq_F, and_F, Nat.reduceEqDiff, Nat.reduceAdd, Nat.reduceMul, Nat.reduceLeDiff, Nat.reduceBEq, Nat.reduceBNe, Int.reduceEq, ↓reduceIte, reduceCtorEq]
        refine call_go true M7 ?_
        simp (maxSteps := 9000000) -implicitDefEqProofs -dsimp (disch := omega) only [go_sem, lt_T, lt_F, le_T, le_F, eq_T, eq_F, and_F, Nat.reduceEqDiff, Nat.reduceAdd, Nat.reduceMul, Nat.reduceLeDiff, Nat.reduceBEq, Nat.reduceBNe, Int.reduceEq, ↓reduceIte, reduceCtorEq]
        refine call_go true M8 ?_
        simp (maxSteps := 9000000) -implicitDefEqProofs -dsimp (disch := omega) only [go_sem, lt_T, lt_F, le_T, le_F, eq_T, eq_F, and_F, Nat.reduceEqDiff, Nat.reduceAdd, Nat.reduceMul, Nat.reduceLeDiff, Nat.reduceBEq, Nat.reduceBNe, Int.reduceEq, ↓reduceIte, reduceCtorEq]
        refine call_go true MS ?_
        simp (maxSteps := 9000000) -implicitDefEqProofs -dsimp (disch := omega) only [go_sem, lt_T, lt_F, le_T, le_F, eq_T, eq_F, and_F, Nat.reduceEqDiff, Nat.reduceAdd, Nat.reduceMul, Nat.reduceLeDiff, Nat.reduceBEq, Nat.reduceBNe, Int.reduceEq, ↓reduceIte, reduceCtorEq]
        refine call_go true MC ?_
        simp (maxSteps := 9000000) -implicitDefEqProofs -dsimp (disch := omega) only [go_sem, lt_T, lt_F, le_T, le_F, eq_T, eq_F, and_F, Nat.reduceEqDiff, Nat.reduceAdd, Nat.reduceMul, Nat.reduceLeDiff, Nat.reduceBEq, Nat.reduceBNe, Int.reduceEq, ↓reduceIte, reduceCtorEq]
        refine call_go true MR ?_
        simp (maxSteps := 9000000) -implicitDefEqProofs -dsimp (disch := omega) only [go_sem, lt_T, lt_F, le_T, le_F, eq_T, eq_F, and_F, Nat.reduceEqDiff, Nat.reduceAdd, Nat.reduceMul, Nat.reduceLeDiff, Nat.reduceBEq, Nat.reduceBNe, Int.reduceEq, ↓reduceIte, reduceCtorEq]
    · rw [NgRes, if_neg hG] at M2 M3
      have MS := sameG3 small0
      simp only [ndR_nil] at MS
      generalize countsF n r = cs at *
      by_cases hR : GoodG g
      · rw [ReRes, if_pos hR] at M7 M8
        generalize rchL g.n g.r = R at *
        have MR := sameInts_ok R R (by omega)
        simp (maxSteps := 9000000) -implicitDefEqProofs -dsimp (disch := omega) only [go_sem, g13_0, g13_1, g13_2, g13_3, g13_4, g13_5, g13_6, g13_7, g13_8, g13_9, g13_10, g13_11, g13_12, g13_13, g13_14, g13_15, g13_16, a13_16, n13_16, g13_17, g13_18, g13_19, g13_20, g13_21, g13_22, g13_23, g13_24, g13_25, g13_26, g13_27, g13_28, g13_29, g13_30, g13_31, g13_32, g13_33, g13_34, g13_35, g13_36, i13, lt_T, lt_F, le_T, le_F, eq_T, eq_F, and_F, fcZ, Nat.reduceEqDiff, Nat.reduceAdd, Nat.reduceMul, Nat.reduceLeDiff, Nat.reduceBEq, Nat.reduceBNe, Int.reduceEq, ↓reduceIte, reduceCtorEq]
        refine call_go true M1 ?_
        simp (maxSteps := 9000000) -implicitDefEqProofs -dsimp (disch := omega) only [go_sem, lt_T, lt_F, le_T, le_F, eq_T, eq_F, and_F, Nat.reduceEqDiff, Nat.reduceAdd, Nat.reduceMul, Nat.reduceLeDiff, Nat.reduceBEq, Nat.reduceBNe, Int.reduceEq, ↓reduceIte, reduceCtorEq]
        refine call_go true M2 ?_
        simp (maxSteps := 9000000) -implicitDefEqProofs -dsimp (disch := omega) only [go_sem, lt_T, lt_F, le_T, le_F, eq_T, eq_F, and_F, Nat.reduceEqDiff, Nat.reduceAdd, Nat.reduceMul, Nat.reduceLeDiff, Nat.reduceBEq, Nat.reduceBNe, Int.reduceEq, ↓reduceIte, reduceCtorEq]
        refine call_go true M3 ?_
        simp (maxSteps := 9000000) -implicitDefEqProofs -dsimp (disch := omega) only [go_sem, lt_T, lt_F, le_T, le_F, eq_T, eq_F, and_F, Nat.reduceEqDiff, Nat.reduceAdd, Nat.reduceMul, Nat.reduceLeDiff, Nat.reduceBEq, Nat.reduceBNe, Int.reduceEq, ↓reduceIte, reduceCtorEq]
        refine call_go true M4 ?_
        simp (maxSteps := 9000000) -implicitDefEqProofs -dsimp (disch := omega) only [go_sem, lt_T, lt_F, le_T, le_F, eq_T, eq_F, and_F, Nat.reduceEqDiff, Nat.reduceAdd, Nat.reduceMul, Nat.reduceLeDiff, Nat.reduceBEq, Nat.reduceBNe, Int.reduceEq, ↓reduceIte, reduceCtorEq]
        refine call_go true M5 ?_
        simp (maxSteps := 9000000) -implicitDefEqProofs -dsimp (disch := omega) only [go_sem, lt_T, lt_F, le_T, le_F, eq_T, eq_F, and_F, Nat.reduceEqDiff, Nat.reduceAdd, Nat.reduceMul, Nat.reduceLeDiff, Nat.reduceBEq, Nat.reduceBNe, Int.reduceEq, ↓reduceIte, reduceCtorEq]
        refine call_go false M6 ?_
        simp (maxSteps := 9000000) -implicitDefEqProofs -dsimp (disch := omega) only [go_sem, lt_T, lt_F, le_T, le_F, eq_T, eq_F, and_F, Nat.reduceEqDiff, Nat.reduceAdd, Nat.reduceMul, Nat.reduceLeDiff, Nat.reduceBEq, Nat.reduceBNe, Int.reduceEq, ↓reduceIte, reduceCtorEq]
        refine call_go true M7 ?_
        simp (maxSteps := 9000000) -implicitDefEqProofs -dsimp (disch := omega) only [go_sem, lt_T, lt_F, le_T, le_F, eq_T, eq_F, and_F, Nat.reduceEqDiff, Nat.reduceAdd, Nat.reduceMul, Nat.reduceLeDiff, Nat.reduceBEq, Nat.reduceBNe, Int.reduceEq, ↓reduceIte, reduceCtorEq]
        refine call_go true M8 ?_
        simp (maxSteps := 9000000) -implicitDefEqProofs -dsimp (disch := omega) only [go_sem, lt_T, lt_F, le_T, le_F, eq_T, eq_F, and_F, Nat.reduceEqDiff, Nat.reduceAdd, Nat.reduceMul, Nat.reduceLeDiff, Nat.reduceBEq, Nat.reduceBNe, Int.reduceEq, ↓reduceIte, reduceCtorEq]
        refine call_go true MS ?_
        simp (maxSteps := 9000000) -implicitDefEqProofs -dsimp (disch := omega) only [go_sem, lt_T, lt_F, le_T, le_F, eq_T, eq_F, and_F, Nat.reduceEqDiff, Nat.reduceAdd, Nat.reduceMul, Nat.reduceLeDiff, Nat.reduceBEq, Nat.reduceBNe, Int.reduceEq, ↓reduceIte, reduceCtorEq]
        refine call_go true MC ?_
        simp (maxSteps := 9000000) -implicitDefEqProofs -dsimp (disch := omega) only [go_sem, lt_T, lt_F, le_T, le_F, eq_T, eq_F, and_F, Nat.reduceEqDiff, Nat.reduceAdd, Nat.reduceMul, Nat.reduceLeDiff, Nat.reduceBEq, Nat.reduceBNe, Int.reduceEq, ↓reduceIte, reduceCtorEq]
        refine call_go true MR ?_
        simp (maxSteps := 9000000) -implicitDefEqProofs -dsimp (disch := omega) only [go_sem, lt_T, lt_F, le_T, le_F, eq_T, eq_F, and_F, Nat.reduceEqDiff, Nat.reduceAdd, Nat.reduceMul, Nat.reduceLeDiff, Nat.reduceBEq, Nat.reduceBNe, Int.reduceEq, ↓reduceIte, reduceCtorEq]
      · rw [ReRes, if_neg hR] at M7 M8
        have MR := sameInts_ok [] [] (by decide)
        simp (maxSteps := 9000000) -implicitDefEqProofs -dsimp (disch := omega) only [go_sem, g13_0, g13_1, g13_2, g13_3, g13_4, g13_5, g13_6, g13_7, g13_8, g13_9, g13_10, g13_11, g13_12, g13_13, g13_14, g13_15, g13_16, a13_16, n13_16, g13_17, g13_18, g13_19, g13_20, g13_21, g13_22, g13_23, g13_24, g13_25, g13_26, g13_27, g13_28, g13_29, g13_30, g13_31, g13_32, g13_33, g13_34, g13_35, g13_36, i13, lt_T, lt_F, le_T, le_F, eq_T, eq_F, and_F, fcZ, Nat.reduceEqDiff, Nat.reduceAdd, Nat.reduceMul, Nat.reduceLeDiff, Nat.reduceBEq, Nat.reduceBNe, Int.reduceEq, ↓reduceIte, reduceCtorEq]
        refine call_go true M1 ?_
        simp (maxSteps := 9000000) -implicitDefEqProofs -dsimp (disch := omega) only [go_sem, lt_T, lt_F, le_T, le_F, eq_T, eq_F, and_F, Nat.reduceEqDiff, Nat.reduceAdd, Nat.reduceMul, Nat.reduceLeDiff, Nat.reduceBEq, Nat.reduceBNe, Int.reduceEq, ↓reduceIte, reduceCtorEq]
        refine call_go true M2 ?_
        simp (maxSteps := 9000000) -implicitDefEqProofs -dsimp (disch := omega) only [go_sem, lt_T, lt_F, le_T, le_F, eq_T, eq_F, and_F, Nat.reduceEqDiff, Nat.reduceAdd, Nat.reduceMul, Nat.reduceLeDiff, Nat.reduceBEq, Nat.reduceBNe, Int.reduceEq, ↓reduceIte, reduceCtorEq]
        refine call_go true M3 ?_
        simp (maxSteps := 9000000) -implicitDefEqProofs -dsimp (disch := omega) only [go_sem, lt_T, lt_F, le_T, le_F, eq_T, eq_F, and_F, Nat.reduceEqDiff, Nat.reduceAdd, Nat.reduceMul, Nat.reduceLeDiff, Nat.reduceBEq, Nat.reduceBNe, Int.reduceEq, ↓reduceIte, reduceCtorEq]
        refine call_go true M4 ?_
        simp (maxSteps := 9000000) -implicitDefEqProofs -dsimp (disch := omega) only [go_sem, lt_T, lt_F, le_T, le_F, eq_T, eq_F, and_F, Nat.reduceEqDiff, Nat.reduceAdd, Nat.reduceMul, Nat.reduceLeDiff, Nat.reduceBEq, Nat.reduceBNe, Int.reduceEq, ↓reduceIte, reduceCtorEq]
        refine call_go true M5 ?_
        simp (maxSteps := 9000000) -implicitDefEqProofs -dsimp (disch := omega) only [go_sem, lt_T, lt_F, le_T, le_F, eq_T, eq_F, and_F, Nat.reduceEqDiff, Nat.reduceAdd, Nat.reduceMul, Nat.reduceLeDiff, Nat.reduceBEq, Nat.reduceBNe, Int.reduceEq, ↓reduceIte, reduceCtorEq]
        refine call_go false M6 ?_
        simp (maxSteps := 9000000) -implicitDefEqProofs -dsimp (disch := omega) only [go_sem, lt_T, lt_F, le_T, le_F, eq_T, eq_F, and_F, Nat.reduceEqDiff, Nat.reduceAdd, Nat.reduceMul, Nat.reduceLeDiff, Nat.reduceBEq, Nat.reduceBNe, Int.reduceEq, ↓reduceIte, reduceCtorEq]
        refine call_go true M7 ?_
        simp (maxSteps := 9000000) -implicitDefEqProofs -dsimp (disch := omega) only [go_sem, lt_T, lt_F, le_T, le_F, eq_T, eq_F, and_F, Nat.reduceEqDiff, Nat.reduceAdd, Nat.reduceMul, Nat.reduceLeDiff, Nat.reduceBEq, Nat.reduceBNe, Int.reduceEq, ↓reduceIte, reduceCtorEq]
        refine call_go true M8 ?_
        simp (maxSteps := 9000000) -implicitDefEqProofs -dsimp (disch := omega) only [go_sem, lt_T, lt_F, le_T, le_F, eq_T, eq_F, and_F, Nat.reduceEqDiff, Nat.reduceAdd, Nat.reduceMul, Nat.reduceLeDiff, Nat.reduceBEq, Nat.reduceBNe, Int.reduceEq, ↓reduceIte, reduceCtorEq]
        refine call_go true MS ?_
        simp (maxSteps := 9000000) -implicitDefEqProofs -dsimp (disch := omega) only [go_sem, lt_T, lt_F, le_T, le_F, eq_T, eq_F, and_F, Nat.reduceEqDiff, Nat.reduceAdd, Nat.reduceMul, Nat.reduceLeDiff, Nat.reduceBEq, Nat.reduceBNe, Int.reduceEq, ↓reduceIte, reduceCtorEq]
        refine call_go true MC ?_
        simp (maxSteps := 9000000) -implicitDefEqProofs -dsimp (disch := omega) only [go_sem, lt_T, lt_F, le_T, le_F, eq_T, eq_F, and_F, Nat.reduceEqDiff, Nat.reduceAdd, Nat.reduceMul, Nat.reduceLeDiff, Nat.reduceBEq, Nat.reduceBNe, Int.reduceEq, ↓reduceIte, reduceCtorEq]
        refine call_go true MR ?_
        simp (maxSteps := 9000000) -implicitDefEqProofs -dsimp (disch := omega) only [go_sem, lt_T, lt_F, le_T, le_F, eq_T, eq_F, and_F, Nat.reduceEqDiff, Nat.reduceAdd, Nat.reduceMul, Nat.reduceLeDiff, Nat.reduceBEq, Nat.reduceBNe, Int.reduceEq, ↓reduceIte, reduceCtorEq]
  · rw [CoRes, if_neg hN] at M4 M5
    have MC := sameInts_ok [] [] (by decide)
    rw [NgRes, if_neg (fun w : NgOk n r => hN w.1)] at M2 M3
    have MS := sameG3 small0
    simp only [ndR_nil] at MS
    by_cases hR : GoodG g
    · rw [ReRes, if_pos hR] at M7 M8
      generalize rchL g.n g.r = R at *
      have MR := sameInts_ok R R (by omega)
      simp (maxSteps := 9000000) -implicitDefEqProofs -dsimp (disch := omega) only [go_sem, g13_0, g13_1, g13_2, g13_3, g13_4, g13_5, g13_6, g13_7, g13_8, g13_9, g13_10, g13_11, g13_12, g13_13, g13_14, g13_15, g13_16, a13_16, n13_16, g13_17, g13_18, g13_19, g13_20, g13_21, g13_22, g13_23, g13_24, g13_25, g13_26, g13_27, g13_28, g13_29, g13_30, g13_31, g13_32, g13_33, g13_34, g13_35, g13_36, i13, lt_T, lt_F, le_T, le_F, eq_T, eq_F, and_F, fcZ, Nat.reduceEqDiff, Nat.reduceAdd, Nat.reduceMul, Nat.reduceLeDiff, Nat.reduceBEq, Nat.reduceBNe, Int.reduceEq, ↓reduceIte, reduceCtorEq]
      refine call_go true M1 ?_
      simp (maxSteps := 9000000) -implicitDefEqProofs -dsimp (disch := omega) only [go_sem, lt_T, lt_F, le_T, le_F, eq_T, eq_F, and_F, Nat.reduceEqDiff, Nat.reduceAdd, Nat.reduceMul, Nat.reduceLeDiff, Nat.reduceBEq, Nat.reduceBNe, Int.reduceEq, ↓reduceIte, reduceCtorEq]
      refine call_go true M2 ?_
      simp (maxSteps := 9000000) -implicitDefEqProofs -dsimp (disch := omega) only [go_sem, lt_T, lt_F, le_T, le_F, eq_T, eq_F, and_F, Nat.reduceEqDiff, Nat.reduceAdd, Nat.reduceMul, Nat.reduceLeDiff, Nat.reduceBEq, Nat.reduceBNe, Int.reduceEq, ↓reduceIte, reduceCtorEq]
      refine call_go true M3 ?_
      simp (maxSteps := 9000000) -implicitDefEqProofs -dsimp (disch := omega) only [go_sem, lt_T, lt_F, le_T, le_F, eq_T, eq_F, and_F, Nat.reduceEqDiff, Nat.reduceAdd, Nat.reduceMul, Nat.reduceLeDiff, Nat.reduceBEq, Nat.reduceBNe, Int.reduceEq, ↓reduceIte, reduceCtorEq]
      refine call_go true M4 ?_
      simp (maxSteps := 9000000) -implicitDefEqProofs -dsimp (disch := omega) only [go_sem, lt_T, lt_F, le_T, le_F, eq_T, eq_F, and_F, Nat.reduceEqDiff, Nat.reduceAdd, Nat.reduceMul, Nat.reduceLeDiff, Nat.reduceBEq, Nat.reduceBNe, Int.reduceEq, ↓reduceIte, reduceCtorEq]
      refine call_go true M5 ?_
      simp (maxSteps := 9000000) -implicitDefEqProofs -dsimp (disch := omega) only [go_sem, lt_T, lt_F, le_T, le_F, eq_T, eq_F, and_F, Nat.reduceEqDiff, Nat.reduceAdd, Nat.reduceMul, Nat.reduceLeDiff, Nat.reduceBEq, Nat.reduceBNe, Int.reduceEq, ↓reduceIte, reduceCtorEq]
      refine call_go false M6 ?_
      simp (maxSteps := 9000000) -implicitDefEqProofs -dsimp (disch := omega) only [go_sem, lt_T, lt_F, le_T, le_F, eq_T, eq_F, and_F, Nat.reduceEqDiff, Nat.reduceAdd, Nat.reduceMul, Nat.reduceLeDiff, Nat.reduceBEq, Nat.reduceBNe, Int.reduceEq, ↓reduceIte, reduceCtorEq]
      refine call_go true M7 ?_
      simp (maxSteps := 9000000) -implicitDefEqProofs -dsimp (disch := omega) only [go_sem, lt_T, lt_F, le_T, le_F, eq_T, eq_F, and_F, Nat.reduceEqDiff, Nat.reduceAdd, Nat.reduceMul, Nat.reduceLeDiff, Nat.reduceBEq, Nat.reduceBNe, Int.reduceEq, ↓reduceIte, reduceCtorEq]
      refine call_go true M8 ?_
      simp (maxSteps := 9000000) -implicitDefEqProofs -dsimp (disch := omega) only [go_sem, lt_T, lt_F, le_T, le_F, eq_T, eq_F, and_F, Nat.reduceEqDiff, Nat.reduceAdd, Nat.reduceMul, Nat.reduceLeDiff, Nat.reduceBEq, Nat.reduceBNe, Int.reduceEq, ↓reduceIte, reduceCtorEq]
      refine call_go true MS ?_
      simp (maxSteps := 9000000) -implicitDefEqProofs -dsimp (disch := omega) only [go_sem, lt_T, lt_F, le_T, le_F, eq_T, eq_F, and_F, Nat.reduceEqDiff, Nat.reduceAdd, Nat.reduceMul, Nat.reduceLeDiff, Nat.reduceBEq, Nat.reduceBNe, Int.reduceEq, ↓reduceIte, reduceCtorEq]
      refine call_go true MC ?_
      simp (maxSteps := 9000000) -implicitDefEqProofs -dsimp (disch := omega) only [go_sem, lt_T, lt_F, le_T, le_F, eq_T, eq_F, and_F, Nat.reduceEqDiff, Nat.reduceAdd, Nat.reduceMul, Nat.reduceLeDiff, Nat.reduceBEq, Nat.reduceBNe, Int.reduceEq, ↓reduceIte, reduceCtorEq]
      refine call_go true MR ?_
      simp (maxSteps := 9000000) -implicitDefEqProofs -dsimp (disch := omega) only [go_sem, lt_T, lt_F, le_T, le_F, eq_T, eq_F, and_F, Nat.reduceEqDiff, Nat.reduceAdd, Nat.reduceMul, Nat.reduceLeDiff, Nat.reduceBEq, Nat.reduceBNe, Int.reduceEq, ↓reduceIte, reduceCtorEq]
    · rw [ReRes, if_neg hR] at M7 M8
      have MR := sameInts_ok [] [] (by decide)
      simp (maxSteps := 9000000) -implicitDefEqProofs -dsimp (disch := omega) only [go_sem, g13_0, g13_1, g13_2, g13_3, g13_4, g13_5, g13_6, g13_7, g13_8, g13_9, g13_10, g13_11, g13_12, g13_13, g13_14, g13_15, g13_16, a13_16, n13_16, g13_17, g13_18, g13_19, g13_20, g13_21, g13_22, g13_23, g13_24, g13_25, g13_26, g13_27, g13_28, g13_29, g13_30, g13_31, g13_32, g13_33, g13_34, g13_35, g13_36, i13, lt_T, lt_F, le_T, le_F, eq_T, eq_F, and_F, fcZ, Nat.reduceEqDiff, Nat.reduceAdd, Nat.reduceMul, Nat.reduceLeDiff, Nat.reduceBEq, Nat.reduceBNe, Int.reduceEq, ↓reduceIte, reduceCtorEq]
      refine call_go true M1 ?_
      simp (maxSteps := 9000000) -implicitDefEqProofs -dsimp (disch := omega) only [go_sem, lt_T, lt_F, le_T, le_F, eq_T, eq_F, and_F, Nat.reduceEqDiff, Nat.reduceAdd, Nat.reduceMul, Nat.reduceLeDiff, Nat.reduceBEq, Nat.reduceBNe, Int.reduceEq, ↓reduceIte, reduceCtorEq]
      refine call_go true M2 ?_
      simp (maxSteps := 9000000) -implicitDefEqProofs -dsimp (disch := omega) only [go_sem, lt_T, lt_F, le_T, le_F, eq_T, eq_F, and_F, Nat.reduceEqDiff, Nat.reduceAdd, Nat.reduceMul, Nat.reduceLeDiff, Nat.reduceBEq, Nat.reduceBNe, Int.reduceEq, ↓reduceIte, reduceCtorEq]
      refine call_go true M3 ?_
      simp (maxSteps := 9000000) -implicitDefEqProofs -dsimp (disch := omega) only [go_sem, lt_T, lt_F, le_T, le_F, eq_T, eq_F, and_F, Nat.reduceEqDiff, Nat.reduceAdd, Nat.reduceMul, Nat.reduceLeDiff, Nat.reduceBEq, Nat.reduceBNe, Int.reduceEq, ↓reduceIte, reduceCtorEq]
      refine call_go true M4 ?_
      simp (maxSteps := 9000000) -implicitDefEqProofs -dsimp (disch := omega) only [go_sem, lt_T, lt_F, le_T, le_F, eq_T, eq_F, and_F, Nat.reduceEqDiff, Nat.reduceAdd, Nat.reduceMul, Nat.reduceLeDiff, Nat.reduceBEq, Nat.reduceBNe, Int.reduceEq, ↓reduceIte, reduceCtorEq]
      refine call_go true M5 ?_
      simp (maxSteps := 9000000) -implicitDefEqProofs -dsimp (disch := omega) only [go_sem, lt_T, lt_F, le_T, le_F, eq_T, eq_F, and_F, Nat.reduceEqDiff, Nat.reduceAdd, Nat.reduceMul, Nat.reduceLeDiff, Nat.reduceBEq, Nat.reduceBNe, Int.reduceEq, ↓reduceIte, reduceCtorEq]
      refine call_go false M6 ?_
      simp (maxSteps := 9000000) -implicitDefEqProofs -dsimp (disch := omega) only [go_sem, lt_T, lt_F, le_T, le_F, eq_T, eq_F, and_F, Nat.reduceEqDiff, Nat.reduceAdd, Nat.reduceMul, Nat.reduceLeDiff, Nat.reduceBEq, Nat.reduceBNe, Int.reduceEq, ↓reduceIte, reduceCtorEq]
      refine call_go true M7 ?_
      simp (maxSteps := 9000000) -implicitDefEqProofs -dsimp (disch := omega) only [go_sem, lt_T, lt_F, le_T, le_F, eq_T, eq_F, and_F, Nat.reduceEqDiff, Nat.reduceAdd, Nat.reduceMul, Nat.reduceLeDiff, Nat.reduceBEq, Nat.reduceBNe, Int.reduceEq, ↓reduceIte, reduceCtorEq]
      refine call_go true M8 ?_
      simp (maxSteps := 9000000) -implicitDefEqProofs -dsimp (disch := omega) only [go_sem, lt_T, lt_F, le_T, le_F, eq_T, eq_F, and_F, Nat.reduceEqDiff, Nat.reduceAdd, Nat.reduceMul, Nat.reduceLeDiff, Nat.reduceBEq, Nat.reduceBNe, Int.reduceEq, ↓reduceIte, reduceCtorEq]
      refine call_go true MS ?_
      simp (maxSteps := 9000000) -implicitDefEqProofs -dsimp (disch := omega) only [go_sem, lt_T, lt_F, le_T, le_F, eq_T, eq_F, and_F, Nat.reduceEqDiff, Nat.reduceAdd, Nat.reduceMul, Nat.reduceLeDiff, Nat.reduceBEq, Nat.reduceBNe, Int.reduceEq, ↓reduceIte, reduceCtorEq]
      refine call_go true MC ?_
      simp (maxSteps := 9000000) -implicitDefEqProofs -dsimp (disch := omega) only [go_sem, lt_T, lt_F, le_T, le_F, eq_T, eq_F, and_F, Nat.reduceEqDiff, Nat.reduceAdd, Nat.reduceMul, Nat.reduceLeDiff, Nat.reduceBEq, Nat.reduceBNe, Int.reduceEq, ↓reduceIte, reduceCtorEq]
      refine call_go true MR ?_
      simp (maxSteps := 9000000) -implicitDefEqProofs -dsimp (disch := omega) only [go_sem, lt_T, lt_F, le_T, le_F, eq_T, eq_F, and_F, Nat.reduceEqDiff, Nat.reduceAdd, Nat.reduceMul, Nat.reduceLeDiff, Nat.reduceBEq, Nat.reduceBNe, Int.reduceEq, ↓reduceIte, reduceCtorEq]
def fcY : Ir := (.seq (.region g13_19) (.seq (.region g13_20) (.seq (.region g13_21) (.seq (.seq (.region g13_22) (.cond (.t 166) (.seq (.region g13_23) .ret) .skip)) (.seq (.seq (.region g13_24) (.cond (.t 167) (.seq (.region g13_25) (.seq (.region g13_26) (.cond (.t 195) (.seq (.region g13_27) .ret) .skip))) .skip)) (.mark (.seq (.region g13_28) (.seq (.region g13_29) (.seq (.region g13_30) (.seq (.region g13_31) (.seq (.region g13_32) (.seq (.region g13_33) (.seq (.region g13_34) (.seq (.region g13_35) (.seq (.region g13_36) .ret)))))))))))))))
theorem fcY_ok (m : Nat) (more : List Int) (hm : Bytes more) : wx Try.prog fcY (finQ [.tmp 4] (.w (.one (.bool true))) [.one .hole, .one .hole]) (fcS m more) := by
  obtain ⟨g, k, ⟨hs, h14, h6⟩, M1⟩ := drawHoldRoot_ok more hm
  have M2 := implHold_ok g k hs
  have M3 := specHold_ok g k hs
  have fin : ∀ s, Imp s (fcS m more) → markG Try.prog fcZ (finQ [.tmp 4] (.w (.one (.bool true))) [.one .hole, .one .hole]) s := fun s h => mark_imp _ h (fcZ_ok m more hm)
  unfold fcS
  by_cases hH : HrOk g k
  · have hP := hold_good hH.1.1 hH.1.2 hH.2
    obtain ⟨d1, d2, d3⟩ := hold_drop hH
    have cl := good_cl hH.1.1
    have li : (incF g.c k).length = g.n.length := by rw [incF_len]; exact cl
    rw [HrRes, if_pos hH] at M2 M3
    have MS := sameG3 (good_small hP)
    have M5 := goodG3 hP
    have M4 := implDrop_ok ⟨g.n, g.r ++ [k], incF g.c k⟩ g.r.length (good_small hP)
    have MT := sameG3 (good_small hH.1.1)
    rw [DrRes, if_pos d1] at M4
    simp only [Int.toNat_natCast, d2, d3, li, cl] at M4 MS M5 MT
    have rl : (g.r ++ [k]).length = g.r.length + 1 := by simp
    have rm : (g.r.length : Int) + 1 - 1 = g.r.length := by omega
    generalize g.r ++ [k] = R at *
    generalize incF g.c k = c' at *
    simp (maxSteps := 9000000) -implicitDefEqProofs -dsimp (disch := omega) only [go_sem, g13_0, g13_1, g13_2, g13_3, g13_4, g13_5, g13_6, g13_7, g13_8, g13_9, g13_10, g13_11, g13_12, g13_13, g13_14, g13_15, g13_16, a13_16, n13_16, g13_17, g13_18, g13_19, g13_20, g13_21, g13_22, g13_23, g13_24, g13_25, g13_26, g13_27, g13_28, g13_29, g13_30, g13_31, g13_32, g13_33, g13_34, g13_35, g13_36, i13, lt_T, lt_F, le_T, le_F, eq_T, eq_F, and_F, fcY, Nat.reduceEqDiff, Nat.reduceAdd, Nat.reduceMul, Nat.reduceLeDiff, Nat.reduceBEq, Nat.reduceBNe, Int.reduceEq, ↓reduceIte, reduceCtorEq]
    refine call_go false M1 ?_
    simp (maxSteps := 9000000) -implicitDefEqProofs -dsimp (disch := omega) only [go_sem, lt_T, lt_F, le_T, le_F, eq_T, eq_F, and_F, cl, Nat.reduceEqDiff, Nat.reduceAdd, Nat.reduceMul, Nat.reduceLeDiff, Nat.reduceBEq, Nat.reduceBNe, Int.reduceEq, ↓reduceIte, reduceCtorEq]
    refine call_go true M2 ?_
    simp (maxSteps := 9000000) -implicitDefEqProofs -dsimp (disch := omega) only [go_sem, lt_T, lt_F, le_T, le_F, eq_T, eq_F, and_F, cl, Nat.reduceEqDiff, Nat.reduceAdd, Nat.reduceMul, Nat.reduceLeDiff, Nat.reduceBEq, Nat.reduceBNe, Int.reduceEq, ↓reduceIte, reduceCtorEq]
    refine call_go true M3 ?_
    simp (maxSteps := 9000000) -implicitDefEqProofs -dsimp (disch := omega) only [go_sem, lt_T, lt_F, le_T, le_F, eq_T, eq_F, and_F, cl, Nat.reduceEqDiff, Nat.reduceAdd, Nat.reduceMul, Nat.reduceLeDiff, Nat.reduceBEq, Nat.reduceBNe, Int.reduceEq, ↓reduceIte, reduceCtorEq]
    refine call_go true MS ?_
    simp (maxSteps := 9000000) -implicitDefEqProofs -dsimp (disch := omega) only [go_sem, lt_T, lt_F, le_T, le_F, eq_T, eq_F, and_F, cl, rl, rm, Nat.reduceEqDiff, Nat.reduceAdd, Nat.reduceMul, Nat.reduceLeDiff, Nat.reduceBEq, Nat.reduceBNe, Int.reduceEq, ↓reduceIte, reduceCtorEq]
    refine call_go true M4 ?_
    simp (maxSteps := 9000000) -implicitDefEqProofs -dsimp (disch := omega) only [go_sem, lt_T, lt_F, le_T, le_F, eq_T, eq_F, and_F, cl, rl, rm, Nat.reduceEqDiff, Nat.reduceAdd, Nat.reduceMul, Nat.reduceLeDiff, Nat.reduceBEq, Nat.reduceBNe, Int.reduceEq, ↓reduceIte, reduceCtorEq]
    refine call_go true M5 ?_
    simp (maxSteps := 9000000) -implicitDefEqProofs -dsimp (disch := omega) only [go_sem, lt_T, lt_F, le_T, le_F, eq_T, eq_F, and_F, cl, rl, rm, Nat.reduceEqDiff, Nat.reduceAdd, Nat.reduceMul, Nat.reduceLeDiff, Nat.reduceBEq, Nat.reduceBNe, Int.reduceEq, ↓reduceIte, reduceCtorEq]
    refine call_go true MT ?_
    simp (maxSteps := 9000000) -implicitDefEqProofs -dsimp (disch := omega) only [go_sem, lt_T, lt_F, le_T, le_F, eq_T, eq_F, and_F, cl, rl, rm, Nat.reduceEqDiff, Nat.reduceAdd, Nat.reduceMul, Nat.reduceLeDiff, Nat.reduceBEq, Nat.reduceBNe, Int.reduceEq, ↓reduceIte, reduceCtorEq]
    exact fin _ (by unfold fcS; exact (imp_sub (by simp (maxSteps := 9000000) -implicitDefEqProofs -dsimp (disch := omega) only [go_sem, Nat.reduceEqDiff, Nat.reduceAdd, Nat.reduceMul, Nat.reduceLeDiff, Nat.reduceBEq, Nat.reduceBNe, Int.reduceEq, ↓reduceIte, reduceCtorEq]) (by simp (maxSteps := 9000000) -implicitDefEqProofs -dsimp (disch := omega) only [go_sem, Nat.reduceEqDiff, Nat.reduceAdd, Nat.reduceMul, Nat.reduceLeDiff, Nat.reduceBEq, Nat.reduceBNe, Int.reduceEq, ↓reduceIte, reduceCtorEq]) rfl))
  · rw [HrRes, if_neg hH] at M2 M3
    have MS := sameG3 small0
    simp only [ndR_nil] at MS
    simp (maxSteps := 9000000) -implicitDefEqProofs -dsimp (disch := omega) only [go_sem, g13_0, g13_1, g13_2, g13_3, g13_4, g13_5, g13_6, g13_7, g13_8, g13_9, g13_10, g13_11, g13_12, g13_13, g13_14, g13_15, g13_16, a13_16, n13_16, g13_17, g13_18, g13_19, g13_20, g13_21, g13_22, g13_23, g13_24, g13_25, g13_26, g13_27, g13_28, g13_29, g13_30, g13_31, g13_32, g13_33, g13_34, g13_35, g13_36, i13, lt_T, lt_F, le_T, le_F, eq_T, eq_F, and_F, fcY, Nat.reduceEqDiff, Nat.reduceAdd, Nat.reduceMul, Nat.reduceLeDiff, Nat.reduceBEq, Nat.reduceBNe, Int.reduceEq, ↓reduceIte, reduceCtorEq]
    refine call_go false M1 ?_
    simp (maxSteps := 9000000) -implicitDefEqProofs -dsimp (disch := omega) only [go_sem, lt_T, lt_F, le_T, le_F, eq_T, eq_F, and_F, Nat.reduceEqDiff, Nat.reduceAdd, Nat.reduceMul, Nat.reduceLeDiff, Nat.reduceBEq, Nat.reduceBNe, Int.reduceEq, ↓reduceIte, reduceCtorEq]
    refine call_go true M2 ?_
    simp (maxSteps := 9000000) -implicitDefEqProofs -dsimp (disch := omega) only [go_sem, lt_T, lt_F, le_T, le_F, eq_T, eq_F, and_F, Nat.reduceEqDiff, Nat.reduceAdd, Nat.reduceMul, Nat.reduceLeDiff, Nat.reduceBEq, Nat.reduceBNe, Int.reduceEq, ↓reduceIte, reduceCtorEq]
    refine call_go true M3 ?_
    simp (maxSteps := 9000000) -implicitDefEqProofs -dsimp (disch := omega) only [go_sem, lt_T, lt_F, le_T, le_F, eq_T, eq_F, and_F, Nat.reduceEqDiff, Nat.reduceAdd, Nat.reduceMul, Nat.reduceLeDiff, Nat.reduceBEq, Nat.reduceBNe, Int.reduceEq, ↓reduceIte, reduceCtorEq]
    refine call_go true MS ?_
    simp (maxSteps := 9000000) -implicitDefEqProofs -dsimp (disch := omega) only [go_sem, lt_T, lt_F, le_T, le_F, eq_T, eq_F, and_F, Nat.reduceEqDiff, Nat.reduceAdd, Nat.reduceMul, Nat.reduceLeDiff, Nat.reduceBEq, Nat.reduceBNe, Int.reduceEq, ↓reduceIte, reduceCtorEq]
    exact fin _ (by unfold fcS; exact (imp_sub (by simp (maxSteps := 9000000) -implicitDefEqProofs -dsimp (disch := omega) only [go_sem, Nat.reduceEqDiff, Nat.reduceAdd, Nat.reduceMul, Nat.reduceLeDiff, Nat.reduceBEq, Nat.reduceBNe, Int.reduceEq, ↓reduceIte, reduceCtorEq]) (by simp (maxSteps := 9000000) -implicitDefEqProofs -dsimp (disch := omega) only [go_sem, Nat.reduceEqDiff, Nat.reduceAdd, Nat.reduceMul, Nat.reduceLeDiff, Nat.reduceBEq, Nat.reduceBNe, Int.reduceEq, ↓reduceIte, reduceCtorEq]) rfl))
theorem sw_keep {n : List Nd} {r : List Int} (h : NodesOk n r) {y : Int} (hy : y ∈ rchL (swN n r) r) : 0 ≤ y ∧ y.toNat < n.length ∧ (swN n r).getD y.toNat default = n.getD y.toNat default := by
  obtain ⟨k, hk, rfl⟩ := rch_nat (sw_nodes h) hy
  rw [swN_len] at hk
  have h2 := (sw_rch h hk).1 ((rchL_mem (sw_nodes h)).1 hy)
  refine ⟨by omega, by rw [Int.toNat_natCast]; exact hk, ?_⟩
  rw [Int.toNat_natCast, swN_get hk, swG, if_pos h2]
end Go.Proofs.YtdhclelfnbjikaaT

/- Functions of the program as contracts: the drawn law of sweeps. No condition. -/
set_option maxRecDepth 100000
set_option maxHeartbeats 8000000
set_option linter.unusedSimpArgs false
set_option linter.unusedVariables false
namespace Go.Proofs.YtdhclelfnbjikaaT
open Go Go.RowKit
def fcX : Ir := (.seq (.region g13_0) (.seq (.seq (.region g13_1) (.cond (.t 48) (.seq (.region g13_2) .ret) .skip)) (.seq (.region g13_3) (.mark (.seq (.region g13_4) (.seq (.region g13_5) (.seq (.seq (.region g13_6) (.cond (.t 77) (.seq (.region g13_7) .ret) .skip)) (.seq (.seq (.region g13_8) (.cond (.t 78) (.mark (.seq (.region g13_9) (.seq (.region g13_10) (.seq (.seq (.region g13_11) (.cond (.t 119) (.seq (.region g13_12) .ret) .skip)) (.mark (.seq (.region g13_13) (.block 0 (.loop (.seq (.region g13_14) (.seq (.cond (.t 123) .skip (.exit 0)) (.seq (.block 1 (.seq (.region g13_15) (.seq (.draw [[], [0], [], [1, 2], [3], [4], [], [6], [], [7, 8], [9], [10], [5, 11], [12]] g13_16) (.cond (.t 139) (.seq (.region g13_17) .ret) .skip)))) (.region g13_18)))))))))))) .skip)) (.mark (.seq (.region g13_19) (.seq (.region g13_20) (.seq (.region g13_21) (.seq (.seq (.region g13_22) (.cond (.t 166) (.seq (.region g13_23) .ret) .skip)) (.seq (.seq (.region g13_24) (.cond (.t 167) (.seq (.region g13_25) (.seq (.region g13_26) (.cond (.t 195) (.seq (.region g13_27) .ret) .skip))) .skip)) (.mark (.seq (.region g13_28) (.seq (.region g13_29) (.seq (.region g13_30) (.seq (.region g13_31) (.seq (.region g13_32) (.seq (.region g13_33) (.seq (.region g13_34) (.seq (.region g13_35) (.seq (.region g13_36) .ret))))))))))))))))))))))))
theorem lawSweeps_ok (code more : List Int) (hc : Bytes code) (hm : Bytes more) : Meets Try.prog 13 [.one (.sl false 1 code.length (code.map (T.int .u8))), .one (.sl false 1 more.length (more.map (T.int .u8)))] (.w (.one (.bool true))) [.one .hole, .one .hole] := by
  have hc2 := hc.2
  have hm2 := hm.2
  by_cases hz : ¬ 1048576 < IntKind.i64.wrap ((code.length : Int) + more.length)
  · obtain ⟨n, r, n1, n2, n3, M1⟩ := drawSweepGraph_ok code hc
    have nh : ∀ x ∈ n, x.h.length ≤ 1048576 := fun x hx => by have := n2 x hx; omega
    have M2 := implSweep_ok ⟨n, r, []⟩ ⟨by simp only; omega, nh, by simp only; omega, by simp⟩
    have M3 := specSweep_ok ⟨n, r, []⟩ ⟨by simp only; omega, nh, by simp only; omega, by simp⟩
    have fin : ∀ s, Imp s (fcS code.length more) → markG Try.prog fcY (finQ [.tmp 4] (.w (.one (.bool true))) [.one .hole, .one .hole]) s := fun s h => mark_imp _ h (fcY_ok code.length more hm)
    by_cases hN : NodesOk n r
    · have hX := sw_good hN
      have hsX := good_small hX
      have M4 := implSweep_ok ⟨swN n r, r, countsF (swN n r) r⟩ hsX
      rw [SwRes, if_pos hN] at M2 M3
      rw [SwRes, if_pos hX.1] at M4
      have MS := sameG3 hsX
      have M5 := goodG3 hX
      have M6 := reachG3 hX
      have l1 : (swN n r).length = n.length := swN_len
      have l2 : (countsF (swN n r) r).length = n.length := by rw [countsF_len, swN_len]
      simp only [l1, l2, sw_two hN, sw_none hN] at M4 MS M5 M6
      have kp := fun y hy => sw_keep hN (y := y) hy
      have rl := rchL_len (n := swN n r) (r := r)
      have gl := swL_len (n := n) (r := r) (i := n.length)
      generalize swL n r n.length = go at *
      generalize countsF (swN n r) r = cs at *
      generalize swN n r = sw at *
      generalize rchL sw r = R at *
      refine meets_go (ir := fcX) (fn := Try.f13) (rx := [(.tmp 4)]) rfl rfl (by rfl) (by rfl) (by exact Nat.le_of_ble_eq_true rfl) ?_
      simp (maxSteps := 9000000) -implicitDefEqProofs -dsimp (disch := omega) only [go_sem, g13_0, g13_1, g13_2, g13_3, g13_4, g13_5, g13_6, g13_7, g13_8, g13_9, g13_10, g13_11, g13_12, g13_13, g13_14, g13_15, g13_16, a13_16, n13_16, g13_17, g13_18, g13_19, g13_20, g13_21, g13_22, g13_23, g13_24, g13_25, g13_26, g13_27, g13_28, g13_29, g13_30, g13_31, g13_32, g13_33, g13_34, g13_35, g13_36, i13, lt_T, lt_F, le_T, le_F, eq_T, eq_F, and_F, fcX, hz, Nat.reduceEqDiff, Nat.reduceAdd, Nat.reduceMul, Nat.reduceLeDiff, Nat.reduceBEq, Nat.reduceBNe, Int.reduceEq, ↓reduceIte, reduceCtorEq]
      refine call_go true M1 ?_
      simp (maxSteps := 9000000) -implicitDefEqProofs -dsimp (disch := omega) only [go_sem, lt_T, lt_F, le_T, le_F, eq_T, eq_F, and_F, Nat.reduceEqDiff, Nat.reduceAdd, Nat.reduceMul, Nat.reduceLeDiff, Nat.reduceBEq, Nat.reduceBNe, Int.reduceEq, ↓reduceIte, reduceCtorEq]
      refine mark_imp ⟨[(5, .w (.one (.hp 4 [] 0))), (1, .w (.one (.hs 1 [] 0 1 more.length)))], [(4, .bx true [.sl false 2 n.length (ndR n), (.sl false 1 r.length (r.map (T.int .i64))), .sl true 0 0 []]), (1, (.sl false 1 more.length (more.map (T.int .u8))))], [.one (.hs 0 [] 0 1 code.length), .one (.hs 1 [] 0 1 more.length)]⟩ ((imp_ro 4 [0] (x := .sl true 2 n.length (ndO n)) (t2 := .bx true [.sl false 2 n.length (ndR n), (.sl true 1 r.length (r.map (T.int .i64))), .sl true 0 0 []]) rfl rfl (by simp (maxSteps := 9000000) -implicitDefEqProofs -dsimp (disch := omega) only [go_sem, ndO_ro, Nat.reduceEqDiff, Nat.reduceAdd, Nat.reduceMul, Nat.reduceLeDiff, Nat.reduceBEq, Nat.reduceBNe, Int.reduceEq, ↓reduceIte, reduceCtorEq])).trans ((imp_ro 4 [1] (x := (.sl true 1 r.length (r.map (T.int .i64)))) (t2 := .bx true [.sl false 2 n.length (ndR n), (.sl false 1 r.length (r.map (T.int .i64))), .sl true 0 0 []]) rfl rfl (by simp (maxSteps := 9000000) -implicitDefEqProofs -dsimp (disch := omega) only [go_sem, Nat.reduceEqDiff, Nat.reduceAdd, Nat.reduceMul, Nat.reduceLeDiff, Nat.reduceBEq, Nat.reduceBNe, Int.reduceEq, ↓reduceIte, reduceCtorEq])).trans (imp_sub (by simp (maxSteps := 9000000) -implicitDefEqProofs -dsimp (disch := omega) only [go_sem, Nat.reduceEqDiff, Nat.reduceAdd, Nat.reduceMul, Nat.reduceLeDiff, Nat.reduceBEq, Nat.reduceBNe, Int.reduceEq, ↓reduceIte, reduceCtorEq]) (by simp (maxSteps := 9000000) -implicitDefEqProofs -dsimp (disch := omega) only [go_sem, Nat.reduceEqDiff, Nat.reduceAdd, Nat.reduceMul, Nat.reduceLeDiff, Nat.reduceBEq, Nat.reduceBNe, Int.reduceEq, ↓reduceIte, reduceCtorEq]) rfl))) ?_
      simp (maxSteps := 9000000) -implicitDefEqProofs -dsimp (disch := omega) only [go_sem, lt_T, lt_F, le_T, le_F, eq_T, eq_F, and_F, Nat.reduceEqDiff, Nat.reduceAdd, Nat.reduceMul, Nat.reduceLeDiff, Nat.reduceBEq, Nat.reduceBNe, Int.reduceEq, ↓reduceIte, reduceCtorEq]
      refine call_go false M2 ?_
      simp (maxSteps := 9000000) -implicitDefEqProofs -dsimp (disch := omega) only [go_sem, lt_T, lt_F, le_T, le_F, eq_T, eq_F, and_F, Nat.reduceEqDiff, Nat.reduceAdd, Nat.reduceMul, Nat.reduceLeDiff, Nat.reduceBEq, Nat.reduceBNe, Int.reduceEq, ↓reduceIte, reduceCtorEq]
      refine call_go false M3 ?_
      simp (maxSteps := 9000000) -implicitDefEqProofs -dsimp (disch := omega) only [go_sem, lt_T, lt_F, le_T, le_F, eq_T, eq_F, and_F, Nat.reduceEqDiff, Nat.reduceAdd, Nat.reduceMul, Nat.reduceLeDiff, Nat.reduceBEq, Nat.reduceBNe, Int.reduceEq, ↓reduceIte, reduceCtorEq]
      refine call_go true (sameInts_ok go go (by omega)) ?_
      simp (maxSteps := 9000000) -implicitDefEqProofs -dsimp (disch := omega) only [go_sem, lt_T, lt_F, le_T, le_F, eq_T, eq_F, and_F, Nat.reduceEqDiff, Nat.reduceAdd, Nat.reduceMul, Nat.reduceLeDiff, Nat.reduceBEq, Nat.reduceBNe, Int.reduceEq, ↓reduceIte, reduceCtorEq]
      refine call_go true MS ?_
      simp (maxSteps := 9000000) -implicitDefEqProofs -dsimp (disch := omega) only [go_sem, lt_T, lt_F, le_T, le_F, eq_T, eq_F, and_F, Nat.reduceEqDiff, Nat.reduceAdd, Nat.reduceMul, Nat.reduceLeDiff, Nat.reduceBEq, Nat.reduceBNe, Int.reduceEq, ↓reduceIte, reduceCtorEq]
      refine mark_imp ⟨[(6, .w (.one (.hp 9 [] 0))), (5, .w (.one (.hp 4 [] 0))), (1, .w (.one (.hs 1 [] 0 1 more.length)))], [(9, .bx true [.sl false 2 n.length (ndR sw), (.sl false 1 r.length (r.map (T.int .i64))), .sl false 1 n.length (cs.map (T.int .i64))]), (4, .bx true [.sl false 2 n.length (ndR n), (.sl false 1 r.length (r.map (T.int .i64))), .sl true 0 0 []]), (1, (.sl false 1 more.length (more.map (T.int .u8))))], [.one (.hs 0 [] 0 1 code.length), .one (.hs 1 [] 0 1 more.length)]⟩ ((imp_ro 9 [0] (x := .sl true 2 n.length (ndR sw)) (t2 := .bx true [.sl false 2 n.length (ndR sw), (.sl true 1 r.length (r.map (T.int .i64))), .sl true 1 n.length (cs.map (T.int .i64))]) rfl rfl (by simp (maxSteps := 9000000) -implicitDefEqProofs -dsimp (disch := omega) only [go_sem, ndR_ro, Nat.reduceEqDiff, Nat.reduceAdd, Nat.reduceMul, Nat.reduceLeDiff, Nat.reduceBEq, Nat.reduceBNe, Int.reduceEq, ↓reduceIte, reduceCtorEq])).trans ((imp_ro 9 [1] (x := (.sl true 1 r.length (r.map (T.int .i64)))) (t2 := .bx true [.sl false 2 n.length (ndR sw), (.sl false 1 r.length (r.map (T.int .i64))), .sl true 1 n.length (cs.map (T.int .i64))]) rfl rfl (by simp (maxSteps := 9000000) -implicitDefEqProofs -dsimp (disch := omega) only [go_sem, Nat.reduceEqDiff, Nat.reduceAdd, Nat.reduceMul, Nat.reduceLeDiff, Nat.reduceBEq, Nat.reduceBNe, Int.reduceEq, ↓reduceIte, reduceCtorEq])).trans ((imp_ro 9 [2] (x := .sl true 1 n.length (cs.map (T.int .i64))) (t2 := .bx true [.sl false 2 n.length (ndR sw), (.sl false 1 r.length (r.map (T.int .i64))), .sl false 1 n.length (cs.map (T.int .i64))]) rfl rfl (by simp (maxSteps := 9000000) -implicitDefEqProofs -dsimp (disch := omega) only [go_sem, Nat.reduceEqDiff, Nat.reduceAdd, Nat.reduceMul, Nat.reduceLeDiff, Nat.reduceBEq, Nat.reduceBNe, Int.reduceEq, ↓reduceIte, reduceCtorEq])).trans (imp_sub (by simp (maxSteps := 9000000) -implicitDefEqProofs -dsimp (disch := omega) only [go_sem, Nat.reduceEqDiff, Nat.reduceAdd, Nat.reduceMul, Nat.reduceLeDiff, Nat.reduceBEq, Nat.reduceBNe, Int.reduceEq, ↓reduceIte, reduceCtorEq]) (by simp (maxSteps := 9000000) -implicitDefEqProofs -dsimp (disch := omega) only [go_sem, Nat.reduceEqDiff, Nat.reduceAdd, Nat.reduceMul, Nat.reduceLeDiff, Nat.reduceBEq, Nat.reduceBNe, Int.reduceEq, ↓reduceIte, reduceCtorEq]) rfl)))) ?_
      simp (maxSteps := 9000000) -implicitDefEqProofs -dsimp (disch := omega) only [go_sem, lt_T, lt_F, le_T, le_F, eq_T, eq_F, and_F, Nat.reduceEqDiff, Nat.reduceAdd, Nat.reduceMul, Nat.reduceLeDiff, Nat.reduceBEq, Nat.reduceBNe, Int.reduceEq, ↓reduceIte, reduceCtorEq]
      refine call_go false M4 ?_
      simp (maxSteps := 9000000) -implicitDefEqProofs -dsimp (disch := omega) only [go_sem, lt_T, lt_F, le_T, le_F, eq_T, eq_F, and_F, Nat.reduceEqDiff, Nat.reduceAdd, Nat.reduceMul, Nat.reduceLeDiff, Nat.reduceBEq, Nat.reduceBNe, Int.reduceEq, ↓reduceIte, reduceCtorEq]
      refine call_go true M6 ?_
      simp (maxSteps := 9000000) -implicitDefEqProofs -dsimp (disch := omega) only [go_sem, lt_T, lt_F, le_T, le_F, eq_T, eq_F, and_F, Nat.reduceEqDiff, Nat.reduceAdd, Nat.reduceMul, Nat.reduceLeDiff, Nat.reduceBEq, Nat.reduceBNe, Int.reduceEq, ↓reduceIte, reduceCtorEq]
      refine call_go true M5 ?_
      simp (maxSteps := 9000000) -implicitDefEqProofs -dsimp (disch := omega) only [go_sem, lt_T, lt_F, le_T, le_F, eq_T, eq_F, and_F, Nat.reduceEqDiff, Nat.reduceAdd, Nat.reduceMul, Nat.reduceLeDiff, Nat.reduceBEq, Nat.reduceBNe, Int.reduceEq, ↓reduceIte, reduceCtorEq]
      refine call_go true MS ?_
      simp (maxSteps := 9000000) -implicitDefEqProofs -dsimp (disch := omega) only [go_sem, lt_T, lt_F, le_T, le_F, eq_T, eq_F, and_F, Nat.reduceEqDiff, Nat.reduceAdd, Nat.reduceMul, Nat.reduceLeDiff, Nat.reduceBEq, Nat.reduceBNe, Int.reduceEq, ↓reduceIte, reduceCtorEq]
      refine call_go true (sameInts_ok r r (by omega)) ?_
      simp (maxSteps := 9000000) -implicitDefEqProofs -dsimp (disch := omega) only [go_sem, lt_T, lt_F, le_T, le_F, eq_T, eq_F, and_F, Nat.reduceEqDiff, Nat.reduceAdd, Nat.reduceMul, Nat.reduceLeDiff, Nat.reduceBEq, Nat.reduceBNe, Int.reduceEq, ↓reduceIte, reduceCtorEq]
      refine mark_imp ⟨[(15, .w (.one (.hs 15 [] 0 1 R.length))), (6, .w (.one (.hp 9 [] 0))), (5, .w (.one (.hp 4 [] 0))), (1, .w (.one (.hs 1 [] 0 1 more.length)))], [(15, (.sl true 1 R.length (R.map (T.int .i64)))), (9, .bx true [.sl false 2 n.length (ndR sw), (.sl false 1 r.length (r.map (T.int .i64))), .sl false 1 n.length (cs.map (T.int .i64))]), (4, .bx true [.sl false 2 n.length (ndR n), (.sl false 1 r.length (r.map (T.int .i64))), .sl true 0 0 []]), (1, (.sl false 1 more.length (more.map (T.int .u8))))], [.one (.hs 0 [] 0 1 code.length), .one (.hs 1 [] 0 1 more.length)]⟩ (imp_sub (by simp (maxSteps := 9000000) -implicitDefEqProofs -dsimp (disch := omega) only [go_sem, Nat.reduceEqDiff, Nat.reduceAdd, Nat.reduceMul, Nat.reduceLeDiff, Nat.reduceBEq, Nat.reduceBNe, Int.reduceEq, ↓reduceIte, reduceCtorEq]) (by simp (maxSteps := 9000000) -implicitDefEqProofs -dsimp (disch := omega) only [go_sem, Nat.reduceEqDiff, Nat.reduceAdd, Nat.reduceMul, Nat.reduceLeDiff, Nat.reduceBEq, Nat.reduceBNe, Int.reduceEq, ↓reduceIte, reduceCtorEq]) rfl) ?_
      simp (maxSteps := 9000000) -implicitDefEqProofs -dsimp (disch := omega) only [go_sem, lt_T, lt_F, le_T, le_F, eq_T, eq_F, and_F, Nat.reduceEqDiff, Nat.reduceAdd, Nat.reduceMul, Nat.reduceLeDiff, Nat.reduceBEq, Nat.reduceBNe, Int.reduceEq, ↓reduceIte, reduceCtorEq]
      refine loop_n R.length (fun i => ⟨[(122, .w (.one (.int .i64 (i : Nat)))), (121, .w (.one (.int .i64 R.length))), (120, .w (.one (.hs 15 [] 0 1 R.length))), (6, .w (.one (.hp 9 [] 0))), (5, .w (.one (.hp 4 [] 0))), (1, .w (.one (.hs 1 [] 0 1 more.length)))], [(15, (.sl true 1 R.length (R.map (T.int .i64)))), (9, .bx true [.sl false 2 n.length (ndR sw), (.sl false 1 r.length (r.map (T.int .i64))), .sl false 1 n.length (cs.map (T.int .i64))]), (4, .bx true [.sl false 2 n.length (ndR n), (.sl false 1 r.length (r.map (T.int .i64))), .sl true 0 0 []]), (1, (.sl false 1 more.length (more.map (T.int .u8))))], [.one (.hs 0 [] 0 1 code.length), .one (.hs 1 [] 0 1 more.length)]⟩) (fun i => True) ?_ trivial ?_
      · exact (imp_sub (by simp (maxSteps := 9000000) -implicitDefEqProofs -dsimp (disch := omega) only [go_sem, Nat.reduceEqDiff, Nat.reduceAdd, Nat.reduceMul, Nat.reduceLeDiff, Nat.reduceBEq, Nat.reduceBNe, Int.reduceEq, ↓reduceIte, reduceCtorEq]) (by simp (maxSteps := 9000000) -implicitDefEqProofs -dsimp (disch := omega) only [go_sem, Nat.reduceEqDiff, Nat.reduceAdd, Nat.reduceMul, Nat.reduceLeDiff, Nat.reduceBEq, Nat.reduceBNe, Int.reduceEq, ↓reduceIte, reduceCtorEq]) rfl)
      · intro i hi hJ
        by_cases h : i < R.length
        · obtain ⟨k1, k2, k3⟩ := kp _ (getD_mem h)
          have e1 : ((R.getD i default).toNat : Int) = R.getD i default := Int.toNat_of_nonneg k1
          have hu : (R.getD i default).toNat < sw.length := by omega
          have b0 := ndR_0 hu
          have c0 := ndR_0 k2
          rw [k3] at b0
          have nh6 := nh _ (getD_mem k2)
          have MH := sameInts_ok (n.getD (R.getD i default).toNat default).h (n.getD (R.getD i default).toNat default).h (by omega)
          simp (maxSteps := 9000000) -implicitDefEqProofs -dsimp (disch := omega) only [go_sem, lt_T, lt_F, le_T, le_F, eq_T, eq_F, and_F, Nat.reduceEqDiff, Nat.reduceAdd, Nat.reduceMul, Nat.reduceLeDiff, Nat.reduceBEq, Nat.reduceBNe, Int.reduceEq, ↓reduceIte, reduceCtorEq]
          refine draw_go n13_16 a13_16 (by decide +kernel) ?_
          simp (maxSteps := 9000000) -implicitDefEqProofs -dsimp (disch := omega) only [go_sem, n13_16, a13_16, lt_T, lt_F, le_T, le_F, eq_T, eq_F, and_F, b0, c0, Nat.reduceEqDiff, Nat.reduceAdd, Nat.reduceMul, Nat.reduceLeDiff, Nat.reduceBEq, Nat.reduceBNe, Int.reduceEq, ↓reduceIte, reduceCtorEq]
          refine call_go true MH ?_
          simp (maxSteps := 9000000) -implicitDefEqProofs -dsimp (disch := omega) only [go_sem, n13_16, a13_16, lt_T, lt_F, le_T, le_F, eq_T, eq_F, and_F, b0, c0, Nat.reduceEqDiff, Nat.reduceAdd, Nat.reduceMul, Nat.reduceLeDiff, Nat.reduceBEq, Nat.reduceBNe, Int.reduceEq, ↓reduceIte, reduceCtorEq]
          exact ⟨h, (imp_sub (by simp (maxSteps := 9000000) -implicitDefEqProofs -dsimp (disch := omega) only [go_sem, n13_16, a13_16, Nat.reduceEqDiff, Nat.reduceAdd, Nat.reduceMul, Nat.reduceLeDiff, Nat.reduceBEq, Nat.reduceBNe, Int.reduceEq, ↓reduceIte, reduceCtorEq]) (by simp (maxSteps := 9000000) -implicitDefEqProofs -dsimp (disch := omega) only [go_sem, n13_16, a13_16, Nat.reduceEqDiff, Nat.reduceAdd, Nat.reduceMul, Nat.reduceLeDiff, Nat.reduceBEq, Nat.reduceBNe, Int.reduceEq, ↓reduceIte, reduceCtorEq]) rfl)⟩
        · obtain rfl : i = R.length := by omega
          simp (maxSteps := 9000000) -implicitDefEqProofs -dsimp (disch := omega) only [go_sem, n13_16, a13_16, lt_T, lt_F, le_T, le_F, eq_T, eq_F, and_F, Nat.reduceEqDiff, Nat.reduceAdd, Nat.reduceMul, Nat.reduceLeDiff, Nat.reduceBEq, Nat.reduceBNe, Int.reduceEq, ↓reduceIte, reduceCtorEq]
          exact fin _ (by unfold fcS; exact (imp_sub (by simp (maxSteps := 9000000) -implicitDefEqProofs -dsimp (disch := omega) only [go_sem, n13_16, a13_16, Nat.reduceEqDiff, Nat.reduceAdd, Nat.reduceMul, Nat.reduceLeDiff, Nat.reduceBEq, Nat.reduceBNe, Int.reduceEq, ↓reduceIte, reduceCtorEq]) (by simp (maxSteps := 9000000) -implicitDefEqProofs -dsimp (disch := omega) only [go_sem, n13_16, a13_16, Nat.reduceEqDiff, Nat.reduceAdd, Nat.reduceMul, Nat.reduceLeDiff, Nat.reduceBEq, Nat.reduceBNe, Int.reduceEq, ↓reduceIte, reduceCtorEq]) rfl))
    · rw [SwRes, if_neg hN] at M2 M3
      have MS := sameG3 small0
      simp only [ndR_nil] at MS
      refine meets_go (ir := fcX) (fn := Try.f13) (rx := [(.tmp 4)]) rfl rfl (by rfl) (by rfl) (by exact Nat.le_of_ble_eq_true rfl) ?_
      simp (maxSteps := 9000000) -implicitDefEqProofs -dsimp (disch := omega) only [go_sem, g13_0, g13_1, g13_2, g13_3, g13_4, g13_5, g13_6, g13_7, g13_8, g13_9, g13_10, g13_11, g13_12, g13_13, g13_14, g13_15, g13_16, a13_16, n13_16, g13_17, g13_18, g13_19, g13_20, g13_21, g13_22, g13_23, g13_24, g13_25, g13_26, g13_27, g13_28, g13_29, g13_30, g13_31, g13_32, g13_33, g13_34, g13_35, g13_36, i13, lt_T, lt_F, le_T, le_F, eq_T, eq_F, and_F, fcX, hz, Nat.reduceEqDiff, Nat.reduceAdd, Nat.reduceMul, Nat.reduceLeDiff, Nat.reduceBEq, Nat.reduceBNe, Int.reduceEq, ↓reduceIte, reduceCtorEq]
      refine call_go true M1 ?_
      simp (maxSteps := 9000000) -implicitDefEqProofs -dsimp (disch := omega) only [go_sem, lt_T, lt_F, le_T, le_F, eq_T, eq_F, and_F, Nat.reduceEqDiff, Nat.reduceAdd, Nat.reduceMul, Nat.reduceLeDiff, Nat.reduceBEq, Nat.reduceBNe, Int.reduceEq, ↓reduceIte, reduceCtorEq]
      refine mark_imp ⟨[(5, .w (.one (.hp 4 [] 0))), (1, .w (.one (.hs 1 [] 0 1 more.length)))], [(4, .bx true [.sl false 2 n.length (ndR n), (.sl false 1 r.length (r.map (T.int .i64))), .sl true 0 0 []]), (1, (.sl false 1 more.length (more.map (T.int .u8))))], [.one (.hs 0 [] 0 1 code.length), .one (.hs 1 [] 0 1 more.length)]⟩ ((imp_ro 4 [0] (x := .sl true 2 n.length (ndO n)) (t2 := .bx true [.sl false 2 n.length (ndR n), (.sl true 1 r.length (r.map (T.int .i64))), .sl true 0 0 []]) rfl rfl (by simp (maxSteps := 9000000) -implicitDefEqProofs -dsimp (disch := omega) only [go_sem, ndO_ro, Nat.reduceEqDiff, Nat.reduceAdd, Nat.reduceMul, Nat.reduceLeDiff, Nat.reduceBEq, Nat.reduceBNe, Int.reduceEq, ↓reduceIte, reduceCtorEq])).trans ((imp_ro 4 [1] (x := (.sl true 1 r.length (r.map (T.int .i64)))) (t2 := .bx true [.sl false 2 n.length (ndR n), (.sl false 1 r.length (r.map (T.int .i64))), .sl true 0 0 []]) rfl rfl (by simp (maxSteps := 9000000) -implicitDefEqProofs -dsimp (disch := omega) only [go_sem, Nat.reduceEqDiff, Nat.reduceAdd, Nat.reduceMul, Nat.reduceLeDiff, Nat.reduceBEq, Nat.reduceBNe, Int.reduceEq, ↓reduceIte, reduceCtorEq])).trans (imp_sub (by simp (maxSteps := 9000000) -implicitDefEqProofs -dsimp (disch := omega) only [go_sem, Nat.reduceEqDiff, Nat.reduceAdd, Nat.reduceMul, Nat.reduceLeDiff, Nat.reduceBEq, Nat.reduceBNe, Int.reduceEq, ↓reduceIte, reduceCtorEq]) (by simp (maxSteps := 9000000) -implicitDefEqProofs -dsimp (disch := omega) only [go_sem, Nat.reduceEqDiff, Nat.reduceAdd, Nat.reduceMul, Nat.reduceLeDiff, Nat.reduceBEq, Nat.reduceBNe, Int.reduceEq, ↓reduceIte, reduceCtorEq]) rfl))) ?_
      simp (maxSteps := 9000000) -implicitDefEqProofs -dsimp (disch := omega) only [go_sem, lt_T, lt_F, le_T, le_F, eq_T, eq_F, and_F, Nat.reduceEqDiff, Nat.reduceAdd, Nat.reduceMul, Nat.reduceLeDiff, Nat.reduceBEq, Nat.reduceBNe, Int.reduceEq, ↓reduceIte, reduceCtorEq]
      refine call_go false M2 ?_
      simp (maxSteps := 9000000) -implicitDefEqProofs -dsimp (disch := omega) only [go_sem, lt_T, lt_F, le_T, le_F, eq_T, eq_F, and_F, Nat.reduceEqDiff, Nat.reduceAdd, Nat.reduceMul, Nat.reduceLeDiff, Nat.reduceBEq, Nat.reduceBNe, Int.reduceEq, ↓reduceIte, reduceCtorEq]
      refine call_go false M3 ?_
      simp (maxSteps := 9000000) -implicitDefEqProofs -dsimp (disch := omega) only [go_sem, lt_T, lt_F, le_T, le_F, eq_T, eq_F, and_F, Nat.reduceEqDiff, Nat.reduceAdd, Nat.reduceMul, Nat.reduceLeDiff, Nat.reduceBEq, Nat.reduceBNe, Int.reduceEq, ↓reduceIte, reduceCtorEq]
      refine call_go true (sameInts_ok [] [] (by decide)) ?_
      simp (maxSteps := 9000000) -implicitDefEqProofs -dsimp (disch := omega) only [go_sem, lt_T, lt_F, le_T, le_F, eq_T, eq_F, and_F, Nat.reduceEqDiff, Nat.reduceAdd, Nat.reduceMul, Nat.reduceLeDiff, Nat.reduceBEq, Nat.reduceBNe, Int.reduceEq, ↓reduceIte, reduceCtorEq]
      refine call_go true MS ?_
      simp (maxSteps := 9000000) -implicitDefEqProofs -dsimp (disch := omega) only [go_sem, lt_T, lt_F, le_T, le_F, eq_T, eq_F, and_F, Nat.reduceEqDiff, Nat.reduceAdd, Nat.reduceMul, Nat.reduceLeDiff, Nat.reduceBEq, Nat.reduceBNe, Int.reduceEq, ↓reduceIte, reduceCtorEq]
      exact fin _ (by unfold fcS; exact (imp_sub (by simp (maxSteps := 9000000) -implicitDefEqProofs -dsimp (disch := omega) only [go_sem, Nat.reduceEqDiff, Nat.reduceAdd, Nat.reduceMul, Nat.reduceLeDiff, Nat.reduceBEq, Nat.reduceBNe, Int.reduceEq, ↓reduceIte, reduceCtorEq]) (by simp (maxSteps := 9000000) -implicitDefEqProofs -dsimp (disch := omega) only [go_sem, Nat.reduceEqDiff, Nat.reduceAdd, Nat.reduceMul, Nat.reduceLeDiff, Nat.reduceBEq, Nat.reduceBNe, Int.reduceEq, ↓reduceIte, reduceCtorEq]) rfl))
  · refine meets_go (ir := fcX) (fn := Try.f13) (rx := [(.tmp 4)]) rfl rfl (by rfl) (by rfl) (by exact Nat.le_of_ble_eq_true rfl) ?_
    rw [Decidable.not_not] at hz
    simp (maxSteps := 9000000) -implicitDefEqProofs -dsimp (disch := omega) only [go_sem, g13_0, g13_1, g13_2, g13_3, g13_4, g13_5, g13_6, g13_7, g13_8, g13_9, g13_10, g13_11, g13_12, g13_13, g13_14, g13_15, g13_16, a13_16, n13_16, g13_17, g13_18, g13_19, g13_20, g13_21, g13_22, g13_23, g13_24, g13_25, g13_26, g13_27, g13_28, g13_29, g13_30, g13_31, g13_32, g13_33, g13_34, g13_35, g13_36, i13, lt_T, lt_F, le_T, le_F, eq_T, eq_F, and_F, fcX, hz, Nat.reduceEqDiff, Nat.reduceAdd, Nat.reduceMul, Nat.reduceLeDiff, Nat.reduceBEq, Nat.reduceBNe, Int.reduceEq, ↓reduceIte, reduceCtorEq]
end Go.Proofs.YtdhclelfnbjikaaT
