import Derived.Test.YteehkgkgpogffaaGreatDoorMiaA
import Derived.Test.YteehkgkgpogffaaGreatDoorMiaF
set_option linter.unusedSimpArgs false
set_option linter.unusedVariables false
set_option linter.unusedSectionVars false
namespace Go.Mia
open Go
/-! 3: understory/understorylaw23.ExprChecks -/
def r3_0 : List IOper := [op (some 3) (.box (.tmp 0)) none,
  op (some 6) (.mv (.const (.bool false))) none]
def r3_1 : List IOper := [op (some 10) (.load true 6 (.tmp 3)) none,
  op (some 11) (.buildSl 6 [(.tmp 10)]) none,
  op (some 12) (.call false (.const (.fn 17 [] [])) [(.tmp 11)]) none,
  op (some 13) (.un .not (.tmp 12)) none,
  op (some 14) (.mv (.tmp 13)) none,
  op (some 15) (.mv (.tmp 1)) (some (14, false)),
  op (some 16) (.len .slice (.tmp 15)) (some (14, false)),
  op (some 17) (.bin .gtr (.tmp 16) (.const (.int .i64 200))) (some (14, false)),
  op (some 18) (.pick (.tmp 14) (.const (.bool true)) (.tmp 17)) none,
  op (some 19) (.mv (.tmp 18)) none,
  op (some 20) (.mv (.tmp 2)) (some (19, false)),
  op (some 21) (.len .slice (.tmp 20)) (some (19, false)),
  op (some 22) (.bin .gtr (.tmp 21) (.const (.int .i64 200))) (some (19, false)),
  op (some 23) (.pick (.tmp 19) (.const (.bool true)) (.tmp 22)) none]
def r3_2 : List IOper := [op (some 24) (.call false (.const (.fn 18 [] [])) []) none,
  op (some 6) (.mv (.tmp 24)) none]
def r3_3 : List IOper := [op (some 26) (.load true 6 (.tmp 3)) none,
  op (some 27) (.mv (.tmp 1)) none,
  op (some 28) (.mv (.tmp 2)) none,
  op (some 29) (.call false (.const (.fn 19 [] [])) [(.tmp 26), (.tmp 27), (.tmp 28)]) none,
  op (some 25) (.mv (.tmp 29)) none,
  op (some 30) (.ext (.tmp 25) 0) none,
  op (some 31) (.ext (.tmp 25) 1) none,
  op (some 7) (.mv (.tmp 30)) none,
  op (some 8) (.mv (.tmp 31)) none]
def r3_4 : List IOper := [op (some 32) (.load true 6 (.tmp 3)) none,
  op (some 33) (.mv (.tmp 1)) none,
  op (some 34) (.mv (.tmp 2)) none,
  op (some 35) (.call false (.const (.fn 20 [] [])) [(.tmp 32), (.tmp 33), (.tmp 34)]) none,
  op (some 9) (.alloc [(.int .i64 0), (.int .i64 0)]) none,
  op none (.store 2 (.tmp 9) (.tmp 35)) none]
def r3_5 : List IOper := [op (some 36) (.call false (.const (.fn 18 [] [])) []) none,
  op (some 37) (.mv (.tmp 36)) none,
  op (some 38) (.mv (.tmp 7)) (some (37, true)),
  op (some 39) (.fld 0 (.tmp 9)) (some (37, true)),
  op (some 40) (.load false 1 (.tmp 39)) (some (37, true)),
  op (some 41) (.eq false .int (.tmp 38) (.tmp 40)) (some (37, true)),
  op (some 42) (.pick (.tmp 37) (.tmp 41) (.const (.bool false))) none,
  op (some 43) (.mv (.tmp 42)) none,
  op (some 44) (.mv (.tmp 8)) (some (43, true)),
  op (some 45) (.fld 1 (.tmp 9)) (some (43, true)),
  op (some 46) (.load false 1 (.tmp 45)) (some (43, true)),
  op (some 47) (.eq false .int (.tmp 44) (.tmp 46)) (some (43, true)),
  op (some 48) (.pick (.tmp 43) (.tmp 47) (.const (.bool false))) none,
  op (some 6) (.mv (.tmp 48)) none]
def f3 : IFunc := { nt := 49, own := false, results := [.tmp 6], body := (.seq (.region r3_0) (.seq (.seq (.region r3_1) (.cond (.tmp 23) (.seq (.region r3_2) .ret) .skip)) (.seq (.region r3_3) (.seq (.region r3_4) (.seq (.region r3_5) .ret))))) }
/-! 17: understory/understorylaw23.few -/
def r17_0 : List IOper := [op (some 2) (.mv (.const (.bool false))) none]
def r17_1 : List IOper := [op (some 3) (.mv (.const (.int .i64 0))) none]
def r17_2 : List IOper := [op (some 4) (.mv (.const (.int .i64 0))) none]
def r17_3 : List IOper := [op (some 5) (.mv (.tmp 4)) none,
  op (some 6) (.mv (.tmp 0)) none,
  op (some 7) (.len .slice (.tmp 6)) none,
  op (some 8) (.bin .lss (.tmp 5) (.tmp 7)) none]
def r17_4 : List IOper := [op (some 11) (.mv (.tmp 3)) none,
  op (some 12) (.mv (.tmp 0)) none,
  op (some 13) (.mv (.tmp 4)) none,
  op (some 14) (.idx none 6 (.tmp 12) (.tmp 13)) none,
  op (some 15) (.load true 6 (.tmp 14)) none,
  op (some 16) (.call false (.const (.fn 68 [] [])) [(.tmp 15), (.const (.int .i64 1))]) none,
  op (some 17) (.bin .add (.tmp 11) (.tmp 16)) none,
  op (some 3) (.mv (.tmp 17)) none]
def r17_5 : List IOper := [op (some 18) (.mv (.tmp 3)) none,
  op (some 19) (.bin .gtr (.tmp 18) (.const (.int .i64 500))) none]
def r17_6 : List IOper := [op (some 2) (.mv (.const (.bool false))) none]
def r17_7 : List IOper := [op (some 9) (.mv (.tmp 4)) none,
  op (some 10) (.bin .add (.tmp 9) (.const (.int .i64 1))) none,
  op (some 4) (.mv (.tmp 10)) none]
def l17_8 : IC := (.seq (.seq (.region r17_3) (.cond (.tmp 8) .skip (.exit 0))) (.seq (.block 1 (.seq (.region r17_4) (.seq (.region r17_5) (.cond (.tmp 19) (.seq (.region r17_6) .ret) .skip)))) (.region r17_7)))
def r17_9 : List IOper := [op (some 2) (.mv (.const (.bool true))) none]
def f17 : IFunc := { nt := 20, own := false, results := [.tmp 2], body := (.seq (.region r17_0) (.seq (.region r17_1) (.seq (.seq (.region r17_2) (.block 0 (.loop l17_8))) (.seq (.region r17_9) .ret)))) }
/-! 18: understory/understorylaw23.sane -/
def r18_0 : List IOper := [op (some 0) (.mv (.const (.bool false))) none]
def r18_1 : List IOper := [op (some 16) (.build [(.int .i64 0), (.int .i64 0), (.str [])] [(0, 1, (.const (.int .i64 2))), (1, 1, (.const (.int .i64 5)))]) none,
  op (some 17) (.build [(.int .i64 0), (.int .i64 0), (.str [])] []) none,
  op (some 18) (.buildSl 3 [(.tmp 16), (.tmp 17)]) none,
  op (some 1) (.mv (.tmp 18)) none]
def r18_2 : List IOper := [op (some 20) (.call false (.const (.fn 69 [] [])) [(.const (.int .i64 0))]) none,
  op (some 21) (.call false (.const (.fn 70 [] [])) [(.const (.int .i64 2))]) none,
  op (some 22) (.buildSl 6 [(.tmp 20), (.tmp 21)]) none,
  op (some 23) (.call false (.const (.fn 36 [] [])) [(.const (.int .i64 5)), (.tmp 22)]) none,
  op (some 24) (.mv (.tmp 1)) none,
  op (some 25) (.call false (.const (.fn 33 [] [])) [(.tmp 23), (.tmp 24), (.const (.slice .full 3 []))]) none,
  op (some 19) (.mv (.tmp 25)) none,
  op (some 26) (.ext (.tmp 19) 0) none,
  op (some 27) (.ext (.tmp 19) 1) none,
  op (some 2) (.alloc [(.int .i64 0), (.int .i64 0), (.str [])]) none,
  op none (.store 3 (.tmp 2) (.tmp 26)) none,
  op (some 3) (.mv (.tmp 27)) none]
def r18_3 : List IOper := [op (some 29) (.call false (.const (.fn 69 [] [])) [(.const (.int .i64 0))]) none,
  op (some 30) (.call false (.const (.fn 70 [] [])) [(.const (.int .i64 0))]) none,
  op (some 31) (.buildSl 6 [(.tmp 29), (.tmp 30)]) none,
  op (some 32) (.call false (.const (.fn 36 [] [])) [(.const (.int .i64 8)), (.tmp 31)]) none,
  op (some 33) (.mv (.tmp 1)) none,
  op (some 34) (.call false (.const (.fn 33 [] [])) [(.tmp 32), (.tmp 33), (.const (.slice .full 3 []))]) none,
  op (some 28) (.mv (.tmp 34)) none,
  op (some 35) (.ext (.tmp 28) 0) none,
  op (some 36) (.ext (.tmp 28) 1) none,
  op (some 4) (.alloc [(.int .i64 0), (.int .i64 0), (.str [])]) none,
  op none (.store 3 (.tmp 4) (.tmp 35)) none,
  op (some 5) (.mv (.tmp 36)) none]
def r18_4 : List IOper := [op (some 38) (.call false (.const (.fn 69 [] [])) [(.const (.int .i64 1))]) none,
  op (some 39) (.call false (.const (.fn 70 [] [])) [(.const (.int .i64 1))]) none,
  op (some 40) (.buildSl 6 [(.tmp 38), (.tmp 39)]) none,
  op (some 41) (.call false (.const (.fn 36 [] [])) [(.const (.int .i64 5)), (.tmp 40)]) none,
  op (some 42) (.mv (.tmp 1)) none,
  op (some 43) (.call false (.const (.fn 33 [] [])) [(.tmp 41), (.tmp 42), (.const (.slice .full 3 []))]) none,
  op (some 37) (.mv (.tmp 43)) none,
  op (some 44) (.ext (.tmp 37) 0) none,
  op (some 45) (.ext (.tmp 37) 1) none,
  op (some 6) (.alloc [(.int .i64 0), (.int .i64 0), (.str [])]) none,
  op none (.store 3 (.tmp 6) (.tmp 44)) none,
  op (some 7) (.mv (.tmp 45)) none]
def r18_5 : List IOper := [op (some 47) (.call false (.const (.fn 71 [] [])) [(.const (.str [104, 101, 108, 108, 111]))]) none,
  op (some 48) (.call false (.const (.fn 71 [] [])) [(.const (.str [104, 37, 111]))]) none,
  op (some 49) (.buildSl 6 [(.tmp 47), (.tmp 48)]) none,
  op (some 50) (.call false (.const (.fn 36 [] [])) [(.const (.int .i64 30)), (.tmp 49)]) none,
  op (some 51) (.call false (.const (.fn 33 [] [])) [(.tmp 50), (.const (.slice .full 3 [])), (.const (.slice .full 3 []))]) none,
  op (some 46) (.mv (.tmp 51)) none,
  op (some 52) (.ext (.tmp 46) 0) none,
  op (some 53) (.ext (.tmp 46) 1) none,
  op (some 8) (.alloc [(.int .i64 0), (.int .i64 0), (.str [])]) none,
  op none (.store 3 (.tmp 8) (.tmp 52)) none,
  op (some 9) (.mv (.tmp 53)) none]
def r18_6 : List IOper := [op (some 54) (.mv (.tmp 3)) none,
  op (some 55) (.eq true .int (.tmp 54) (.const (.int .i64 0))) none,
  op (some 56) (.mv (.tmp 55)) none,
  op (some 57) (.mv (.tmp 5)) (some (56, false)),
  op (some 58) (.eq true .int (.tmp 57) (.const (.int .i64 331))) (some (56, false)),
  op (some 59) (.pick (.tmp 56) (.const (.bool true)) (.tmp 58)) none,
  op (some 60) (.mv (.tmp 59)) none,
  op (some 61) (.mv (.tmp 7)) (some (60, false)),
  op (some 62) (.eq true .int (.tmp 61) (.const (.int .i64 0))) (some (60, false)),
  op (some 63) (.pick (.tmp 60) (.const (.bool true)) (.tmp 62)) none,
  op (some 64) (.mv (.tmp 63)) none,
  op (some 65) (.mv (.tmp 9)) (some (64, false)),
  op (some 66) (.eq true .int (.tmp 65) (.const (.int .i64 0))) (some (64, false)),
  op (some 67) (.pick (.tmp 64) (.const (.bool true)) (.tmp 66)) none,
  op (some 68) (.mv (.tmp 67)) none,
  op (some 69) (.fld 1 (.tmp 2)) (some (68, false)),
  op (some 70) (.load false 1 (.tmp 69)) (some (68, false)),
  op (some 71) (.eq true .int (.tmp 70) (.const (.int .i64 7))) (some (68, false)),
  op (some 72) (.pick (.tmp 68) (.const (.bool true)) (.tmp 71)) none,
  op (some 73) (.mv (.tmp 72)) none,
  op (some 74) (.load true 3 (.tmp 6)) (some (73, false)),
  op (some 75) (.build [(.int .i64 0), (.int .i64 0), (.str [])] []) (some (73, false)),
  op (some 76) (.eq true (.agg [.int, .int, .str]) (.tmp 74) (.tmp 75)) (some (73, false)),
  op (some 77) (.pick (.tmp 73) (.const (.bool true)) (.tmp 76)) none,
  op (some 78) (.mv (.tmp 77)) none,
  op (some 79) (.load true 3 (.tmp 8)) (some (78, false)),
  op (some 80) (.build [(.int .i64 0), (.int .i64 0), (.str [])] [(0, 1, (.const (.int .i64 1))), (1, 1, (.const (.int .i64 1)))]) (some (78, false)),
  op (some 81) (.eq true (.agg [.int, .int, .str]) (.tmp 79) (.tmp 80)) (some (78, false)),
  op (some 82) (.pick (.tmp 78) (.const (.bool true)) (.tmp 81)) none]
def r18_7 : List IOper := [op (some 0) (.mv (.const (.bool false))) none]
def r18_8 : List IOper := [op (some 83) (.call false (.const (.fn 69 [] [])) [(.const (.int .i64 0))]) none,
  op (some 84) (.call false (.const (.fn 70 [] [])) [(.const (.int .i64 3))]) none,
  op (some 85) (.buildSl 6 [(.tmp 83), (.tmp 84)]) none,
  op (some 86) (.call false (.const (.fn 36 [] [])) [(.const (.int .i64 12)), (.tmp 85)]) none,
  op (some 10) (.alloc [(.int .i64 0), (.int .i64 0), (.int .i64 0), (.int .i64 0), (.str []), (.slice .full 6 [])]) none,
  op none (.store 6 (.tmp 10) (.tmp 86)) none]
def r18_9 : List IOper := [op (some 87) (.build [(.int .i64 0), (.int .i64 0), (.str [])] [(0, 1, (.const (.int .i64 1))), (1, 1, (.const (.int .i64 1)))]) none,
  op (some 88) (.build [(.int .i64 0), (.int .i64 0), (.int .i64 0), (.int .i64 0), (.str []), (.slice .full 6 [])] [(0, 1, (.const (.int .i64 1))), (2, 3, (.tmp 87))]) none,
  op (some 11) (.alloc [(.int .i64 0), (.int .i64 0), (.int .i64 0), (.int .i64 0), (.str []), (.slice .full 6 [])]) none,
  op none (.store 6 (.tmp 11) (.tmp 88)) none]
def r18_10 : List IOper := [op (some 90) (.load true 6 (.tmp 10)) none,
  op (some 91) (.load true 6 (.tmp 11)) none,
  op (some 92) (.buildSl 6 [(.tmp 90), (.tmp 91)]) none,
  op (some 93) (.call false (.const (.fn 36 [] [])) [(.const (.int .i64 16)), (.tmp 92)]) none,
  op (some 94) (.buildSl 6 [(.tmp 93)]) none,
  op (some 95) (.call false (.const (.fn 36 [] [])) [(.const (.int .i64 18)), (.tmp 94)]) none,
  op (some 96) (.call false (.const (.fn 46 [] [])) [(.tmp 95)]) none,
  op (some 89) (.mv (.tmp 96)) none,
  op (some 97) (.ext (.tmp 89) 0) none,
  op (some 98) (.ext (.tmp 89) 1) none,
  op (some 99) (.ext (.tmp 89) 2) none,
  op (some 12) (.alloc [(.int .i64 0), (.int .i64 0), (.int .i64 0), (.int .i64 0), (.str []), (.slice .full 6 [])]) none,
  op none (.store 6 (.tmp 12) (.tmp 97)) none,
  op (some 13) (.mv (.tmp 98)) none,
  op (some 3) (.mv (.tmp 99)) none]
def r18_11 : List IOper := [op (some 101) (.call false (.const (.fn 69 [] [])) [(.const (.int .i64 0))]) none,
  op (some 102) (.call false (.const (.fn 70 [] [])) [(.const (.int .i64 3))]) none,
  op (some 103) (.buildSl 6 [(.tmp 101), (.tmp 102)]) none,
  op (some 104) (.call false (.const (.fn 36 [] [])) [(.const (.int .i64 14)), (.tmp 103)]) none,
  op (some 105) (.call false (.const (.fn 69 [] [])) [(.const (.int .i64 0))]) none,
  op (some 106) (.call false (.const (.fn 70 [] [])) [(.const (.int .i64 1))]) none,
  op (some 107) (.call false (.const (.fn 70 [] [])) [(.const (.int .i64 7))]) none,
  op (some 108) (.call false (.const (.fn 70 [] [])) [(.const (.int .i64 4))]) none,
  op (some 109) (.buildSl 6 [(.tmp 105), (.tmp 106), (.tmp 107), (.tmp 108)]) none,
  op (some 110) (.call false (.const (.fn 36 [] [])) [(.const (.int .i64 22)), (.tmp 109)]) none,
  op (some 111) (.buildSl 6 [(.tmp 104), (.tmp 110)]) none,
  op (some 112) (.call false (.const (.fn 36 [] [])) [(.const (.int .i64 16)), (.tmp 111)]) none,
  op (some 113) (.call false (.const (.fn 22 [] [])) [(.tmp 112), (.const (.int .i64 0))]) none,
  op (some 100) (.mv (.tmp 113)) none,
  op (some 114) (.ext (.tmp 100) 0) none,
  op (some 115) (.ext (.tmp 100) 1) none,
  op (some 14) (.alloc [(.bool false), (.bool false), (.bool false), (.bool false), (.bool false), (.int .i64 0), (.int .i64 0), (.str []), (.int .i64 0), (.int .i64 0), (.str [])]) none,
  op none (.store 11 (.tmp 14) (.tmp 114)) none,
  op (some 5) (.mv (.tmp 115)) none]
def r18_12 : List IOper := [op (some 117) (.call false (.const (.fn 69 [] [])) [(.const (.int .i64 0))]) none,
  op (some 118) (.call false (.const (.fn 70 [] [])) [(.const (.int .i64 1))]) none,
  op (some 119) (.buildSl 6 [(.tmp 117), (.tmp 118)]) none,
  op (some 120) (.call false (.const (.fn 36 [] [])) [(.const (.int .i64 5)), (.tmp 119)]) none,
  op (some 121) (.buildSl 1 [(.const (.int .i64 2)), (.const (.int .i64 3))]) none,
  op (some 122) (.call false (.const (.fn 19 [] [])) [(.tmp 120), (.tmp 121), (.const (.slice .full 1 []))]) none,
  op (some 116) (.mv (.tmp 122)) none,
  op (some 123) (.ext (.tmp 116) 0) none,
  op (some 124) (.ext (.tmp 116) 1) none,
  op (some 15) (.mv (.tmp 123)) none,
  op (some 7) (.mv (.tmp 124)) none]
def r18_13 : List IOper := [op (some 126) (.call false (.const (.fn 69 [] [])) [(.const (.int .i64 1))]) none,
  op (some 127) (.call false (.const (.fn 70 [] [])) [(.const (.int .i64 1))]) none,
  op (some 128) (.buildSl 6 [(.tmp 126), (.tmp 127)]) none,
  op (some 129) (.call false (.const (.fn 36 [] [])) [(.const (.int .i64 5)), (.tmp 128)]) none,
  op (some 130) (.buildSl 1 [(.const (.int .i64 2)), (.const (.int .i64 3))]) none,
  op (some 131) (.call false (.const (.fn 19 [] [])) [(.tmp 129), (.tmp 130), (.const (.slice .full 1 []))]) none,
  op (some 125) (.mv (.tmp 131)) none,
  op (some 132) (.ext (.tmp 125) 0) none,
  op (some 133) (.ext (.tmp 125) 1) none,
  op (some 9) (.mv (.tmp 133)) none]
def r18_14 : List IOper := [op (some 134) (.mv (.tmp 3)) none,
  op (some 135) (.eq true .int (.tmp 134) (.const (.int .i64 0))) none,
  op (some 136) (.mv (.tmp 135)) none,
  op (some 137) (.mv (.tmp 5)) (some (136, false)),
  op (some 138) (.eq true .int (.tmp 137) (.const (.int .i64 0))) (some (136, false)),
  op (some 139) (.pick (.tmp 136) (.const (.bool true)) (.tmp 138)) none,
  op (some 140) (.mv (.tmp 139)) none,
  op (some 141) (.mv (.tmp 7)) (some (140, false)),
  op (some 142) (.eq true .int (.tmp 141) (.const (.int .i64 0))) (some (140, false)),
  op (some 143) (.pick (.tmp 140) (.const (.bool true)) (.tmp 142)) none,
  op (some 144) (.mv (.tmp 143)) none,
  op (some 145) (.mv (.tmp 9)) (some (144, false)),
  op (some 146) (.eq true .int (.tmp 145) (.const (.int .i64 10))) (some (144, false)),
  op (some 147) (.pick (.tmp 144) (.const (.bool true)) (.tmp 146)) none,
  op (some 148) (.mv (.tmp 147)) none,
  op (some 149) (.fld 0 (.tmp 12)) (some (148, false)),
  op (some 150) (.load false 1 (.tmp 149)) (some (148, false)),
  op (some 151) (.eq true .int (.tmp 150) (.const (.int .i64 15))) (some (148, false)),
  op (some 152) (.pick (.tmp 148) (.const (.bool true)) (.tmp 151)) none,
  op (some 153) (.mv (.tmp 152)) none,
  op (some 154) (.mv (.tmp 13)) (some (153, false)),
  op (some 155) (.len .slice (.tmp 154)) (some (153, false)),
  op (some 156) (.eq true .int (.tmp 155) (.const (.int .i64 3))) (some (153, false)),
  op (some 157) (.pick (.tmp 153) (.const (.bool true)) (.tmp 156)) none,
  op (some 158) (.mv (.tmp 157)) none,
  op (some 159) (.mv (.tmp 15)) (some (158, false)),
  op (some 160) (.eq true .int (.tmp 159) (.const (.int .i64 2))) (some (158, false)),
  op (some 161) (.pick (.tmp 158) (.const (.bool true)) (.tmp 160)) none,
  op (some 162) (.mv (.tmp 161)) none,
  op (some 163) (.load true 6 (.tmp 10)) (some (162, false)),
  op (some 164) (.call false (.const (.fn 37 [] [])) [(.tmp 163)]) (some (162, false)),
  op (some 165) (.un .not (.tmp 164)) (some (162, false)),
  op (some 166) (.pick (.tmp 162) (.const (.bool true)) (.tmp 165)) none,
  op (some 167) (.mv (.tmp 166)) none,
  op (some 168) (.load true 6 (.tmp 10)) (some (167, false)),
  op (some 169) (.call false (.const (.fn 34 [] [])) [(.tmp 168)]) (some (167, false)),
  op (some 170) (.un .not (.tmp 169)) (some (167, false)),
  op (some 171) (.pick (.tmp 167) (.const (.bool true)) (.tmp 170)) none]
def r18_15 : List IOper := [op (some 0) (.mv (.const (.bool false))) none]
def r18_16 : List IOper := [op (some 172) (.fld 0 (.tmp 14)) none,
  op (some 173) (.load false 1 (.tmp 172)) none,
  op (some 174) (.mv (.tmp 173)) none,
  op (some 175) (.fld 1 (.tmp 14)) (some (174, true)),
  op (some 176) (.load false 1 (.tmp 175)) (some (174, true)),
  op (some 177) (.pick (.tmp 174) (.tmp 176) (.const (.bool false))) none,
  op (some 178) (.mv (.tmp 177)) none,
  op (some 179) (.fld 2 (.tmp 14)) (some (178, true)),
  op (some 180) (.load false 1 (.tmp 179)) (some (178, true)),
  op (some 181) (.un .not (.tmp 180)) (some (178, true)),
  op (some 182) (.pick (.tmp 178) (.tmp 181) (.const (.bool false))) none,
  op (some 183) (.mv (.tmp 182)) none,
  op (some 184) (.fld 3 (.tmp 14)) (some (183, true)),
  op (some 185) (.load false 1 (.tmp 184)) (some (183, true)),
  op (some 186) (.pick (.tmp 183) (.tmp 185) (.const (.bool false))) none,
  op (some 187) (.mv (.tmp 186)) none,
  op (some 188) (.fld 5 (.tmp 14)) (some (187, true)),
  op (some 189) (.fld 1 (.tmp 188)) (some (187, true)),
  op (some 190) (.load false 1 (.tmp 189)) (some (187, true)),
  op (some 191) (.eq false .int (.tmp 190) (.const (.int .i64 3))) (some (187, true)),
  op (some 192) (.pick (.tmp 187) (.tmp 191) (.const (.bool false))) none,
  op (some 193) (.mv (.tmp 192)) none,
  op (some 194) (.fld 8 (.tmp 14)) (some (193, true)),
  op (some 195) (.fld 1 (.tmp 194)) (some (193, true)),
  op (some 196) (.load false 1 (.tmp 195)) (some (193, true)),
  op (some 197) (.eq false .int (.tmp 196) (.const (.int .i64 7))) (some (193, true)),
  op (some 198) (.pick (.tmp 193) (.tmp 197) (.const (.bool false))) none,
  op (some 199) (.mv (.tmp 198)) none,
  op (some 200) (.load true 11 (.tmp 14)) (some (199, true)),
  op (some 201) (.build [(.int .i64 0), (.int .i64 0), (.str [])] [(0, 1, (.const (.int .i64 2))), (1, 1, (.const (.int .i64 7)))]) (some (199, true)),
  op (some 202) (.call false (.const (.fn 26 [] [])) [(.tmp 200), (.tmp 201)]) (some (199, true)),
  op (some 203) (.pick (.tmp 199) (.tmp 202) (.const (.bool false))) none,
  op (some 0) (.mv (.tmp 203)) none]
def f18 : IFunc := { nt := 204, own := false, results := [.tmp 0], body := (.seq (.region r18_0) (.seq (.region r18_1) (.seq (.region r18_2) (.seq (.region r18_3) (.seq (.region r18_4) (.seq (.region r18_5) (.seq (.seq (.region r18_6) (.cond (.tmp 82) (.seq (.region r18_7) .ret) .skip)) (.seq (.region r18_8) (.seq (.region r18_9) (.seq (.region r18_10) (.seq (.region r18_11) (.seq (.region r18_12) (.seq (.region r18_13) (.seq (.seq (.region r18_14) (.cond (.tmp 171) (.seq (.region r18_15) .ret) .skip)) (.seq (.region r18_16) .ret))))))))))))))) }
/-! 19: understory/expr.Check -/
def r19_0 : List IOper := [op (some 3) (.box (.tmp 0)) none,
  op (some 4) (.box (.tmp 1)) none,
  op (some 5) (.box (.tmp 2)) none,
  op (some 6) (.alloc [(.int .i64 0)]) none,
  op (some 7) (.alloc [(.int .i64 0)]) none]
def r19_1 : List IOper := [op (some 12) (.mkF 73 [] [(.tmp 6)]) none,
  op none (.defer (.const (.fn 72 [] [])) [(.tmp 7), (.tmp 12)]) none]
def r19_2 : List IOper := [op (some 13) (.call false (.const (.fn 74 [] [])) []) none,
  op (some 8) (.alloc [.nilp]) none,
  op none (.store 1 (.tmp 8) (.tmp 13)) none]
def r19_3 : List IOper := [op (some 14) (.load false 1 (.tmp 8)) none,
  op (some 15) (.load true 6 (.tmp 3)) none,
  op (some 16) (.call false (.const (.fn 76 [] [])) [(.tmp 14), (.tmp 15)]) none,
  op (some 17) (.call false (.const (.fn 75 [] [])) [(.tmp 16), (.const (.int .i64 2))]) none]
def r19_4 : List IOper := [op (some 18) (.load false 1 (.tmp 4)) none,
  op (some 19) (.load false 1 (.tmp 5)) none,
  op (some 20) (.buildSl 1 [(.tmp 18), (.tmp 19)]) none,
  op (some 21) (.call false (.const (.fn 77 [] [])) [(.tmp 20)]) none,
  op (some 22) (.len .slice (.tmp 21)) none,
  op (some 23) (.mv (.const (.int .i64 0))) none]
def r19_5 : List IOper := [op (some 24) (.bin .lss (.tmp 23) (.tmp 22)) none]
def r19_6 : List IOper := [op (some 25) (.idx none 1 (.tmp 21) (.tmp 23)) none,
  op (some 26) (.load false 1 (.tmp 25)) none,
  op (some 10) (.mv (.tmp 26)) none]
def r19_7 : List IOper := [op (some 27) (.mv (.tmp 10)) none,
  op (some 28) (.call false (.const (.fn 78 [] [])) [(.tmp 27)]) none,
  op (some 29) (.call false (.const (.fn 75 [] [])) [(.tmp 28), (.const (.int .i64 1))]) none]
def r19_8 : List IOper := [op (some 30) (.bin .add (.tmp 23) (.const (.int .i64 1))) none,
  op (some 23) (.mv (.tmp 30)) none]
def l19_9 : IC := (.seq (.region r19_5) (.seq (.cond (.tmp 24) .skip (.exit 0)) (.seq (.block 1 (.seq (.region r19_6) (.region r19_7))) (.region r19_8))))
def r19_10 : List IOper := [op (some 11) (.alloc [.nilf]) none]
def r19_11 : List IOper := [op (some 31) (.mkF 79 [] [(.tmp 11), (.tmp 4), (.tmp 5), (.tmp 8)]) none,
  op none (.store 1 (.tmp 11) (.tmp 31)) none]
def r19_12 : List IOper := [op (some 32) (.load false 1 (.tmp 11)) none,
  op (some 33) (.load true 6 (.tmp 3)) none,
  op (some 34) (.call false (.tmp 32) [(.tmp 33)]) none,
  op none (.store 1 (.tmp 6) (.tmp 34)) none,
  op none (.store 1 (.tmp 7) (.const (.int .i64 0))) none]
def f19 : IFunc := { nt := 35, own := false, results := [.cell 6 false 1, .cell 7 false 1], body := (.seq (.region r19_0) (.seq (.region r19_1) (.seq (.region r19_2) (.seq (.region r19_3) (.seq (.seq (.region r19_4) (.block 0 (.loop l19_9))) (.seq (.region r19_10) (.seq (.region r19_11) (.seq (.region r19_12) .ret)))))))) }
/-! 20: understory/understoryref23.Check -/
def r20_0 : List IOper := [op (some 3) (.box (.tmp 0)) none,
  op (some 6) (.alloc [(.int .i64 0), (.int .i64 0)]) none]
def r20_1 : List IOper := [op (some 7) (.load true 6 (.tmp 3)) none,
  op (some 8) (.call false (.const (.fn 38 [] [])) [(.tmp 7)]) none,
  op (some 9) (.un .not (.tmp 8)) none]
def r20_2 : List IOper := [op (some 10) (.build [(.int .i64 0), (.int .i64 0)] [(1, 1, (.const (.int .i64 2)))]) none,
  op none (.store 2 (.tmp 6) (.tmp 10)) none]
def r20_3 : List IOper := [op (some 11) (.mv (.tmp 1)) none,
  op (some 12) (.call false (.const (.fn 82 [] [])) [(.tmp 11)]) none,
  op (some 13) (.un .not (.tmp 12)) none,
  op (some 14) (.mv (.tmp 13)) none,
  op (some 15) (.mv (.tmp 2)) (some (14, false)),
  op (some 16) (.call false (.const (.fn 82 [] [])) [(.tmp 15)]) (some (14, false)),
  op (some 17) (.un .not (.tmp 16)) (some (14, false)),
  op (some 18) (.pick (.tmp 14) (.const (.bool true)) (.tmp 17)) none]
def r20_4 : List IOper := [op (some 19) (.build [(.int .i64 0), (.int .i64 0)] [(1, 1, (.const (.int .i64 1)))]) none,
  op none (.store 2 (.tmp 6) (.tmp 19)) none]
def r20_5 : List IOper := [op (some 20) (.load true 6 (.tmp 3)) none,
  op (some 21) (.mv (.tmp 1)) none,
  op (some 22) (.mv (.tmp 2)) none,
  op (some 23) (.call false (.const (.fn 83 [] [])) [(.tmp 20), (.tmp 21), (.tmp 22)]) none,
  op none (.store 2 (.tmp 6) (.tmp 23)) none]
def f20 : IFunc := { nt := 24, own := false, results := [.cell 6 true 2], body := (.seq (.region r20_0) (.seq (.seq (.region r20_1) (.cond (.tmp 9) (.seq (.region r20_2) .ret) .skip)) (.seq (.seq (.region r20_3) (.cond (.tmp 18) (.seq (.region r20_4) .ret) .skip)) (.seq (.region r20_5) .ret)))) }
/-! 22: understory/expr.Bounds -/
def r22_0 : List IOper := [op (some 2) (.box (.tmp 0)) none,
  op (some 4) (.alloc [(.bool false), (.bool false), (.bool false), (.bool false), (.bool false), (.int .i64 0), (.int .i64 0), (.str []), (.int .i64 0), (.int .i64 0), (.str [])]) none,
  op (some 5) (.mv (.const (.int .i64 0))) none]
def r22_1 : List IOper := [op (some 6) (.load true 6 (.tmp 2)) none,
  op (some 7) (.call false (.const (.fn 37 [] [])) [(.tmp 6)]) none,
  op (some 8) (.un .not (.tmp 7)) none]
def r22_2 : List IOper := [op (some 9) (.build [(.bool false), (.bool false), (.bool false), (.bool false), (.bool false), (.int .i64 0), (.int .i64 0), (.str []), (.int .i64 0), (.int .i64 0), (.str [])] []) none,
  op none (.store 11 (.tmp 4) (.tmp 9)) none,
  op (some 5) (.mv (.const (.int .i64 2))) none]
def r22_3 : List IOper := [op (some 10) (.mv (.tmp 1)) none,
  op (some 11) (.bin .lss (.tmp 10) (.const (.int .i64 0))) none]
def r22_4 : List IOper := [op (some 12) (.build [(.bool false), (.bool false), (.bool false), (.bool false), (.bool false), (.int .i64 0), (.int .i64 0), (.str []), (.int .i64 0), (.int .i64 0), (.str [])] []) none,
  op none (.store 11 (.tmp 4) (.tmp 12)) none,
  op (some 5) (.mv (.const (.int .i64 1))) none]
def r22_5 : List IOper := [op (some 13) (.load true 6 (.tmp 2)) none,
  op (some 14) (.mv (.tmp 1)) none,
  op (some 15) (.call false (.const (.fn 84 [] [])) [(.tmp 13), (.tmp 14)]) none,
  op none (.store 11 (.tmp 4) (.tmp 15)) none,
  op (some 5) (.mv (.const (.int .i64 0))) none]
def f22 : IFunc := { nt := 16, own := false, results := [.cell 4 true 11, .tmp 5], body := (.seq (.region r22_0) (.seq (.seq (.region r22_1) (.cond (.tmp 8) (.seq (.region r22_2) .ret) .skip)) (.seq (.seq (.region r22_3) (.cond (.tmp 11) (.seq (.region r22_4) .ret) .skip)) (.seq (.region r22_5) .ret)))) }
/-! 24: understory/expr.Meet -/
def r24_0 : List IOper := [op (some 2) (.box (.tmp 0)) none,
  op (some 3) (.box (.tmp 1)) none,
  op (some 4) (.alloc [(.bool false), (.bool false), (.bool false), (.bool false), (.bool false), (.int .i64 0), (.int .i64 0), (.str []), (.int .i64 0), (.int .i64 0), (.str [])]) none]
def r24_1 : List IOper := [op (some 9) (.fld 4 (.tmp 2)) none,
  op (some 10) (.load false 1 (.tmp 9)) none,
  op (some 11) (.mv (.tmp 10)) none,
  op (some 12) (.fld 4 (.tmp 3)) (some (11, false)),
  op (some 13) (.load false 1 (.tmp 12)) (some (11, false)),
  op (some 14) (.pick (.tmp 11) (.const (.bool true)) (.tmp 13)) none]
def r24_2 : List IOper := [op (some 15) (.build [(.bool false), (.bool false), (.bool false), (.bool false), (.bool false), (.int .i64 0), (.int .i64 0), (.str []), (.int .i64 0), (.int .i64 0), (.str [])] [(4, 1, (.const (.bool true)))]) none,
  op none (.store 11 (.tmp 4) (.tmp 15)) none]
def r24_3 : List IOper := [op (some 16) (.load true 11 (.tmp 2)) none,
  op (some 5) (.alloc [(.bool false), (.bool false), (.bool false), (.bool false), (.bool false), (.int .i64 0), (.int .i64 0), (.str []), (.int .i64 0), (.int .i64 0), (.str [])]) none,
  op none (.store 11 (.tmp 5) (.tmp 16)) none]
def r24_4 : List IOper := [op (some 17) (.fld 0 (.tmp 3)) none,
  op (some 18) (.load false 1 (.tmp 17)) none]
def r24_5 : List IOper := [op (some 6) (.mv (.const (.int .i64 1))) none]
def r24_6 : List IOper := [op (some 19) (.fld 0 (.tmp 2)) none,
  op (some 20) (.load false 1 (.tmp 19)) none]
def r24_7 : List IOper := [op (some 21) (.fld 5 (.tmp 3)) none,
  op (some 22) (.load true 3 (.tmp 21)) none,
  op (some 23) (.fld 5 (.tmp 2)) none,
  op (some 24) (.load true 3 (.tmp 23)) none,
  op (some 25) (.call false (.const (.fn 86 [] [])) [(.tmp 22), (.tmp 24)]) none,
  op (some 6) (.mv (.tmp 25)) none]
def r24_8 : List IOper := [op (some 26) (.mv (.tmp 6)) none,
  op (some 27) (.bin .gtr (.tmp 26) (.const (.int .i64 0))) none]
def r24_9 : List IOper := [opx (some 28) (.fld 5 (.tmp 3)) none true false false false 0 [],
  opx (some 29) (.load true 3 (.tmp 28)) none false false false false 1 [5],
  opx (some 30) (.fld 2 (.tmp 3)) none true false false false 0 [],
  opx (some 31) (.load false 1 (.tmp 30)) none false false false false 4 [5, 7],
  opx (some 32) (.fld 0 (.tmp 5)) none true false true false 0 [],
  opx none (.store 1 (.tmp 32) (.const (.bool true))) none false false true true 16 [1, 3],
  opx (some 33) (.fld 5 (.tmp 5)) none true false true false 51 [],
  opx none (.store 3 (.tmp 33) (.tmp 29)) none false false true true 115 [3],
  opx (some 34) (.fld 2 (.tmp 5)) none true true true false 255 [],
  opx none (.store 1 (.tmp 34) (.tmp 31)) none true true true true 511 []]
def r24_10 : List IOper := [op (some 35) (.mv (.tmp 6)) none,
  op (some 36) (.eq false .int (.tmp 35) (.const (.int .i64 0))) none]
def r24_11 : List IOper := [op (some 37) (.fld 2 (.tmp 2)) none,
  op (some 38) (.load false 1 (.tmp 37)) none,
  op (some 39) (.mv (.tmp 38)) none,
  op (some 40) (.fld 2 (.tmp 3)) (some (39, true)),
  op (some 41) (.load false 1 (.tmp 40)) (some (39, true)),
  op (some 42) (.pick (.tmp 39) (.tmp 41) (.const (.bool false))) none,
  op (some 43) (.fld 2 (.tmp 5)) none,
  op none (.store 1 (.tmp 43) (.tmp 42)) none]
def r24_12 : List IOper := [op (some 44) (.fld 1 (.tmp 3)) none,
  op (some 45) (.load false 1 (.tmp 44)) none]
def r24_13 : List IOper := [op (some 7) (.mv (.const (.int .i64 (-1)))) none]
def r24_14 : List IOper := [op (some 46) (.fld 1 (.tmp 2)) none,
  op (some 47) (.load false 1 (.tmp 46)) none]
def r24_15 : List IOper := [op (some 48) (.fld 8 (.tmp 3)) none,
  op (some 49) (.load true 3 (.tmp 48)) none,
  op (some 50) (.fld 8 (.tmp 2)) none,
  op (some 51) (.load true 3 (.tmp 50)) none,
  op (some 52) (.call false (.const (.fn 86 [] [])) [(.tmp 49), (.tmp 51)]) none,
  op (some 7) (.mv (.tmp 52)) none]
def r24_16 : List IOper := [op (some 53) (.mv (.tmp 7)) none,
  op (some 54) (.bin .lss (.tmp 53) (.const (.int .i64 0))) none]
def r24_17 : List IOper := [opx (some 55) (.fld 8 (.tmp 3)) none true false false false 0 [],
  opx (some 56) (.load true 3 (.tmp 55)) none false false false false 1 [5],
  opx (some 57) (.fld 3 (.tmp 3)) none true false false false 0 [],
  opx (some 58) (.load false 1 (.tmp 57)) none false false false false 4 [5, 7],
  opx (some 59) (.fld 1 (.tmp 5)) none true false true false 0 [],
  opx none (.store 1 (.tmp 59) (.const (.bool true))) none false false true true 16 [1, 3],
  opx (some 60) (.fld 8 (.tmp 5)) none true false true false 51 [],
  opx none (.store 3 (.tmp 60) (.tmp 56)) none false false true true 115 [3],
  opx (some 61) (.fld 3 (.tmp 5)) none true true true false 255 [],
  opx none (.store 1 (.tmp 61) (.tmp 58)) none true true true true 511 []]
def r24_18 : List IOper := [op (some 62) (.mv (.tmp 7)) none,
  op (some 63) (.eq false .int (.tmp 62) (.const (.int .i64 0))) none]
def r24_19 : List IOper := [op (some 64) (.fld 3 (.tmp 2)) none,
  op (some 65) (.load false 1 (.tmp 64)) none,
  op (some 66) (.mv (.tmp 65)) none,
  op (some 67) (.fld 3 (.tmp 3)) (some (66, true)),
  op (some 68) (.load false 1 (.tmp 67)) (some (66, true)),
  op (some 69) (.pick (.tmp 66) (.tmp 68) (.const (.bool false))) none,
  op (some 70) (.fld 3 (.tmp 5)) none,
  op none (.store 1 (.tmp 70) (.tmp 69)) none]
def r24_20 : List IOper := [op (some 71) (.fld 0 (.tmp 5)) none,
  op (some 72) (.load false 1 (.tmp 71)) none,
  op (some 73) (.mv (.tmp 72)) none,
  op (some 74) (.fld 1 (.tmp 5)) (some (73, true)),
  op (some 75) (.load false 1 (.tmp 74)) (some (73, true)),
  op (some 76) (.pick (.tmp 73) (.tmp 75) (.const (.bool false))) none]
def r24_21 : List IOper := [op (some 77) (.fld 5 (.tmp 5)) none,
  op (some 78) (.load true 3 (.tmp 77)) none,
  op (some 79) (.fld 8 (.tmp 5)) none,
  op (some 80) (.load true 3 (.tmp 79)) none,
  op (some 81) (.call false (.const (.fn 86 [] [])) [(.tmp 78), (.tmp 80)]) none,
  op (some 8) (.mv (.tmp 81)) none]
def r24_22 : List IOper := [op (some 82) (.mv (.tmp 8)) none,
  op (some 83) (.bin .gtr (.tmp 82) (.const (.int .i64 0))) none,
  op (some 84) (.mv (.tmp 83)) none,
  op (some 85) (.mv (.tmp 8)) (some (84, false)),
  op (some 86) (.eq false .int (.tmp 85) (.const (.int .i64 0))) (some (84, false)),
  op (some 87) (.mv (.tmp 86)) (some (84, false)),
  op (some 88) (.fld 2 (.tmp 5)) (some (87, true)),
  op (some 89) (.load false 1 (.tmp 88)) (some (87, true)),
  op (some 90) (.mv (.tmp 89)) (some (87, true)),
  op (some 91) (.fld 3 (.tmp 5)) (some (90, true)),
  op (some 92) (.load false 1 (.tmp 91)) (some (90, true)),
  op (some 93) (.pick (.tmp 90) (.tmp 92) (.const (.bool false))) (some (87, true)),
  op (some 94) (.un .not (.tmp 93)) (some (87, true)),
  op (some 95) (.pick (.tmp 87) (.tmp 94) (.const (.bool false))) (some (84, false)),
  op (some 96) (.pick (.tmp 84) (.const (.bool true)) (.tmp 95)) none]
def r24_23 : List IOper := [op (some 97) (.build [(.bool false), (.bool false), (.bool false), (.bool false), (.bool false), (.int .i64 0), (.int .i64 0), (.str []), (.int .i64 0), (.int .i64 0), (.str [])] [(4, 1, (.const (.bool true)))]) none,
  op none (.store 11 (.tmp 4) (.tmp 97)) none]
def r24_24 : List IOper := [op (some 98) (.load true 11 (.tmp 5)) none,
  op none (.store 11 (.tmp 4) (.tmp 98)) none]
def f24 : IFunc := { nt := 99, own := false, results := [.cell 4 true 11], body := (.seq (.region r24_0) (.seq (.seq (.region r24_1) (.cond (.tmp 14) (.seq (.region r24_2) .ret) .skip)) (.seq (.region r24_3) (.seq (.seq (.region r24_4) (.cond (.tmp 18) (.seq (.region r24_5) (.seq (.seq (.region r24_6) (.cond (.tmp 20) (.region r24_7) .skip)) (.seq (.region r24_8) (.cond (.tmp 27) (.region r24_9) (.seq (.region r24_10) (.cond (.tmp 36) (.region r24_11) .skip)))))) .skip)) (.seq (.seq (.region r24_12) (.cond (.tmp 45) (.seq (.region r24_13) (.seq (.seq (.region r24_14) (.cond (.tmp 47) (.region r24_15) .skip)) (.seq (.region r24_16) (.cond (.tmp 54) (.region r24_17) (.seq (.region r24_18) (.cond (.tmp 63) (.region r24_19) .skip)))))) .skip)) (.seq (.seq (.region r24_20) (.cond (.tmp 76) (.seq (.region r24_21) (.seq (.region r24_22) (.cond (.tmp 96) (.seq (.region r24_23) .ret) .skip))) .skip)) (.seq (.region r24_24) .ret))))))) }
/-! 25: understory/expr.Hull -/
def r25_0 : List IOper := [op (some 2) (.box (.tmp 0)) none,
  op (some 3) (.box (.tmp 1)) none,
  op (some 4) (.alloc [(.bool false), (.bool false), (.bool false), (.bool false), (.bool false), (.int .i64 0), (.int .i64 0), (.str []), (.int .i64 0), (.int .i64 0), (.str [])]) none]
def r25_1 : List IOper := [op (some 8) (.fld 4 (.tmp 2)) none,
  op (some 9) (.load false 1 (.tmp 8)) none]
def r25_2 : List IOper := [op (some 10) (.load true 11 (.tmp 3)) none,
  op none (.store 11 (.tmp 4) (.tmp 10)) none]
def r25_3 : List IOper := [op (some 11) (.fld 4 (.tmp 3)) none,
  op (some 12) (.load false 1 (.tmp 11)) none]
def r25_4 : List IOper := [op (some 13) (.load true 11 (.tmp 2)) none,
  op none (.store 11 (.tmp 4) (.tmp 13)) none]
def r25_5 : List IOper := [op (some 5) (.alloc [(.bool false), (.bool false), (.bool false), (.bool false), (.bool false), (.int .i64 0), (.int .i64 0), (.str []), (.int .i64 0), (.int .i64 0), (.str [])]) none]
def r25_6 : List IOper := [op (some 14) (.fld 0 (.tmp 2)) none,
  op (some 15) (.load false 1 (.tmp 14)) none,
  op (some 16) (.mv (.tmp 15)) none,
  op (some 17) (.fld 0 (.tmp 3)) (some (16, true)),
  op (some 18) (.load false 1 (.tmp 17)) (some (16, true)),
  op (some 19) (.pick (.tmp 16) (.tmp 18) (.const (.bool false))) none]
def r25_7 : List IOper := [opx (some 20) (.fld 5 (.tmp 2)) none true false false false 0 [],
  opx (some 21) (.load true 3 (.tmp 20)) none false false false false 1 [5],
  opx (some 22) (.fld 2 (.tmp 2)) none true false false false 0 [],
  opx (some 23) (.load false 1 (.tmp 22)) none false false false false 4 [5, 7],
  opx (some 24) (.fld 0 (.tmp 5)) none true false true false 0 [],
  opx none (.store 1 (.tmp 24) (.const (.bool true))) none false false true true 16 [1, 3],
  opx (some 25) (.fld 5 (.tmp 5)) none true false true false 51 [],
  opx none (.store 3 (.tmp 25) (.tmp 21)) none false false true true 115 [3],
  opx (some 26) (.fld 2 (.tmp 5)) none true true true false 255 [],
  opx none (.store 1 (.tmp 26) (.tmp 23)) none true true true true 511 []]
def r25_8 : List IOper := [op (some 27) (.fld 5 (.tmp 3)) none,
  op (some 28) (.load true 3 (.tmp 27)) none,
  op (some 29) (.fld 5 (.tmp 2)) none,
  op (some 30) (.load true 3 (.tmp 29)) none,
  op (some 31) (.call false (.const (.fn 86 [] [])) [(.tmp 28), (.tmp 30)]) none,
  op (some 6) (.mv (.tmp 31)) none]
def r25_9 : List IOper := [op (some 32) (.mv (.tmp 6)) none,
  op (some 33) (.bin .lss (.tmp 32) (.const (.int .i64 0))) none]
def r25_10 : List IOper := [opx (some 34) (.fld 5 (.tmp 3)) none true false true false 0 [],
  opx (some 35) (.load true 3 (.tmp 34)) none false false true false 1 [],
  opx (some 36) (.fld 2 (.tmp 3)) none true false false false 0 [],
  opx (some 37) (.load false 1 (.tmp 36)) none false false false false 4 [5],
  opx (some 38) (.fld 5 (.tmp 5)) none true false true false 3 [],
  opx none (.store 3 (.tmp 38) (.tmp 35)) none false false true true 19 [3],
  opx (some 39) (.fld 2 (.tmp 5)) none true true true false 63 [],
  opx none (.store 1 (.tmp 39) (.tmp 37)) none true true true true 127 []]
def r25_11 : List IOper := [op (some 40) (.mv (.tmp 6)) none,
  op (some 41) (.eq false .int (.tmp 40) (.const (.int .i64 0))) none]
def r25_12 : List IOper := [op (some 42) (.fld 2 (.tmp 2)) none,
  op (some 43) (.load false 1 (.tmp 42)) none,
  op (some 44) (.mv (.tmp 43)) none,
  op (some 45) (.fld 2 (.tmp 3)) (some (44, false)),
  op (some 46) (.load false 1 (.tmp 45)) (some (44, false)),
  op (some 47) (.pick (.tmp 44) (.const (.bool true)) (.tmp 46)) none,
  op (some 48) (.fld 2 (.tmp 5)) none,
  op none (.store 1 (.tmp 48) (.tmp 47)) none]
def r25_13 : List IOper := [op (some 49) (.fld 1 (.tmp 2)) none,
  op (some 50) (.load false 1 (.tmp 49)) none,
  op (some 51) (.mv (.tmp 50)) none,
  op (some 52) (.fld 1 (.tmp 3)) (some (51, true)),
  op (some 53) (.load false 1 (.tmp 52)) (some (51, true)),
  op (some 54) (.pick (.tmp 51) (.tmp 53) (.const (.bool false))) none]
def r25_14 : List IOper := [opx (some 55) (.fld 8 (.tmp 2)) none true false false false 0 [],
  opx (some 56) (.load true 3 (.tmp 55)) none false false false false 1 [5],
  opx (some 57) (.fld 3 (.tmp 2)) none true false false false 0 [],
  opx (some 58) (.load false 1 (.tmp 57)) none false false false false 4 [5, 7],
  opx (some 59) (.fld 1 (.tmp 5)) none true false true false 0 [],
  opx none (.store 1 (.tmp 59) (.const (.bool true))) none false false true true 16 [1, 3],
  opx (some 60) (.fld 8 (.tmp 5)) none true false true false 51 [],
  opx none (.store 3 (.tmp 60) (.tmp 56)) none false false true true 115 [3],
  opx (some 61) (.fld 3 (.tmp 5)) none true true true false 255 [],
  opx none (.store 1 (.tmp 61) (.tmp 58)) none true true true true 511 []]
def r25_15 : List IOper := [op (some 62) (.fld 8 (.tmp 3)) none,
  op (some 63) (.load true 3 (.tmp 62)) none,
  op (some 64) (.fld 8 (.tmp 2)) none,
  op (some 65) (.load true 3 (.tmp 64)) none,
  op (some 66) (.call false (.const (.fn 86 [] [])) [(.tmp 63), (.tmp 65)]) none,
  op (some 7) (.mv (.tmp 66)) none]
def r25_16 : List IOper := [op (some 67) (.mv (.tmp 7)) none,
  op (some 68) (.bin .gtr (.tmp 67) (.const (.int .i64 0))) none]
def r25_17 : List IOper := [opx (some 69) (.fld 8 (.tmp 3)) none true false true false 0 [],
  opx (some 70) (.load true 3 (.tmp 69)) none false false true false 1 [],
  opx (some 71) (.fld 3 (.tmp 3)) none true false false false 0 [],
  opx (some 72) (.load false 1 (.tmp 71)) none false false false false 4 [5],
  opx (some 73) (.fld 8 (.tmp 5)) none true false true false 3 [],
  opx none (.store 3 (.tmp 73) (.tmp 70)) none false false true true 19 [3],
  opx (some 74) (.fld 3 (.tmp 5)) none true true true false 63 [],
  opx none (.store 1 (.tmp 74) (.tmp 72)) none true true true true 127 []]
def r25_18 : List IOper := [op (some 75) (.mv (.tmp 7)) none,
  op (some 76) (.eq false .int (.tmp 75) (.const (.int .i64 0))) none]
def r25_19 : List IOper := [op (some 77) (.fld 3 (.tmp 2)) none,
  op (some 78) (.load false 1 (.tmp 77)) none,
  op (some 79) (.mv (.tmp 78)) none,
  op (some 80) (.fld 3 (.tmp 3)) (some (79, false)),
  op (some 81) (.load false 1 (.tmp 80)) (some (79, false)),
  op (some 82) (.pick (.tmp 79) (.const (.bool true)) (.tmp 81)) none,
  op (some 83) (.fld 3 (.tmp 5)) none,
  op none (.store 1 (.tmp 83) (.tmp 82)) none]
def r25_20 : List IOper := [op (some 84) (.load true 11 (.tmp 5)) none,
  op none (.store 11 (.tmp 4) (.tmp 84)) none]
def f25 : IFunc := { nt := 85, own := false, results := [.cell 4 true 11], body := (.seq (.region r25_0) (.seq (.seq (.region r25_1) (.cond (.tmp 9) (.seq (.region r25_2) .ret) .skip)) (.seq (.seq (.region r25_3) (.cond (.tmp 12) (.seq (.region r25_4) .ret) .skip)) (.seq (.region r25_5) (.seq (.seq (.region r25_6) (.cond (.tmp 19) (.seq (.region r25_7) (.seq (.region r25_8) (.seq (.region r25_9) (.cond (.tmp 33) (.region r25_10) (.seq (.region r25_11) (.cond (.tmp 41) (.region r25_12) .skip)))))) .skip)) (.seq (.seq (.region r25_13) (.cond (.tmp 54) (.seq (.region r25_14) (.seq (.region r25_15) (.seq (.region r25_16) (.cond (.tmp 68) (.region r25_17) (.seq (.region r25_18) (.cond (.tmp 76) (.region r25_19) .skip)))))) .skip)) (.seq (.region r25_20) .ret))))))) }
/-! 26: understory/expr.Within -/
def r26_0 : List IOper := [op (some 2) (.box (.tmp 0)) none,
  op (some 3) (.box (.tmp 1)) none,
  op (some 4) (.mv (.const (.bool false))) none]
def r26_1 : List IOper := [op (some 7) (.fld 4 (.tmp 2)) none,
  op (some 8) (.load false 1 (.tmp 7)) none]
def r26_2 : List IOper := [op (some 4) (.mv (.const (.bool false))) none]
def r26_3 : List IOper := [op (some 9) (.load true 11 (.tmp 2)) none,
  op (some 10) (.build [(.bool false), (.bool false), (.bool false), (.bool false), (.bool false), (.int .i64 0), (.int .i64 0), (.str []), (.int .i64 0), (.int .i64 0), (.str [])] []) none,
  op (some 11) (.eq false (.agg [.bool, .bool, .bool, .bool, .bool, .int, .int, .str, .int, .int, .str]) (.tmp 9) (.tmp 10)) none]
def r26_4 : List IOper := [op (some 4) (.mv (.const (.bool true))) none]
def r26_5 : List IOper := [op (some 12) (.fld 0 (.tmp 3)) none,
  op (some 13) (.load false 1 (.tmp 12)) none,
  op (some 14) (.eq false .int (.tmp 13) (.const (.int .i64 0))) none]
def r26_6 : List IOper := [op (some 4) (.mv (.const (.bool false))) none]
def r26_7 : List IOper := [op (some 15) (.fld 0 (.tmp 2)) none,
  op (some 16) (.load false 1 (.tmp 15)) none]
def r26_8 : List IOper := [op (some 17) (.load true 3 (.tmp 3)) none,
  op (some 18) (.fld 5 (.tmp 2)) none,
  op (some 19) (.load true 3 (.tmp 18)) none,
  op (some 20) (.call false (.const (.fn 86 [] [])) [(.tmp 17), (.tmp 19)]) none,
  op (some 5) (.mv (.tmp 20)) none]
def r26_9 : List IOper := [op (some 21) (.mv (.tmp 5)) none,
  op (some 22) (.bin .lss (.tmp 21) (.const (.int .i64 0))) none,
  op (some 23) (.mv (.tmp 22)) none,
  op (some 24) (.mv (.tmp 5)) (some (23, false)),
  op (some 25) (.eq false .int (.tmp 24) (.const (.int .i64 0))) (some (23, false)),
  op (some 26) (.mv (.tmp 25)) (some (23, false)),
  op (some 27) (.fld 2 (.tmp 2)) (some (26, true)),
  op (some 28) (.load false 1 (.tmp 27)) (some (26, true)),
  op (some 29) (.un .not (.tmp 28)) (some (26, true)),
  op (some 30) (.pick (.tmp 26) (.tmp 29) (.const (.bool false))) (some (23, false)),
  op (some 31) (.pick (.tmp 23) (.const (.bool true)) (.tmp 30)) none]
def r26_10 : List IOper := [op (some 4) (.mv (.const (.bool false))) none]
def r26_11 : List IOper := [op (some 32) (.fld 1 (.tmp 2)) none,
  op (some 33) (.load false 1 (.tmp 32)) none]
def r26_12 : List IOper := [op (some 34) (.load true 3 (.tmp 3)) none,
  op (some 35) (.fld 8 (.tmp 2)) none,
  op (some 36) (.load true 3 (.tmp 35)) none,
  op (some 37) (.call false (.const (.fn 86 [] [])) [(.tmp 34), (.tmp 36)]) none,
  op (some 6) (.mv (.tmp 37)) none]
def r26_13 : List IOper := [op (some 38) (.mv (.tmp 6)) none,
  op (some 39) (.bin .gtr (.tmp 38) (.const (.int .i64 0))) none,
  op (some 40) (.mv (.tmp 39)) none,
  op (some 41) (.mv (.tmp 6)) (some (40, false)),
  op (some 42) (.eq false .int (.tmp 41) (.const (.int .i64 0))) (some (40, false)),
  op (some 43) (.mv (.tmp 42)) (some (40, false)),
  op (some 44) (.fld 3 (.tmp 2)) (some (43, true)),
  op (some 45) (.load false 1 (.tmp 44)) (some (43, true)),
  op (some 46) (.un .not (.tmp 45)) (some (43, true)),
  op (some 47) (.pick (.tmp 43) (.tmp 46) (.const (.bool false))) (some (40, false)),
  op (some 48) (.pick (.tmp 40) (.const (.bool true)) (.tmp 47)) none]
def r26_14 : List IOper := [op (some 4) (.mv (.const (.bool false))) none]
def r26_15 : List IOper := [op (some 4) (.mv (.const (.bool true))) none]
def f26 : IFunc := { nt := 49, own := false, results := [.tmp 4], body := (.seq (.region r26_0) (.seq (.seq (.region r26_1) (.cond (.tmp 8) (.seq (.region r26_2) .ret) .skip)) (.seq (.seq (.region r26_3) (.cond (.tmp 11) (.seq (.region r26_4) .ret) .skip)) (.seq (.seq (.region r26_5) (.cond (.tmp 14) (.seq (.region r26_6) .ret) .skip)) (.seq (.seq (.region r26_7) (.cond (.tmp 16) (.seq (.region r26_8) (.seq (.region r26_9) (.cond (.tmp 31) (.seq (.region r26_10) .ret) .skip))) .skip)) (.seq (.seq (.region r26_11) (.cond (.tmp 33) (.seq (.region r26_12) (.seq (.region r26_13) (.cond (.tmp 48) (.seq (.region r26_14) .ret) .skip))) .skip)) (.seq (.region r26_15) .ret))))))) }
/-! 33: understory/expr.Eval -/
def r33_0 : List IOper := [op (some 3) (.box (.tmp 0)) none,
  op (some 6) (.alloc [(.int .i64 0), (.int .i64 0), (.str [])]) none,
  op (some 7) (.alloc [(.int .i64 0)]) none]
def r33_1 : List IOper := [op (some 9) (.mkF 89 [] [(.tmp 6)]) none,
  op none (.defer (.const (.fn 72 [] [])) [(.tmp 7), (.tmp 9)]) none]
def r33_2 : List IOper := [op (some 10) (.call false (.const (.fn 74 [] [])) []) none,
  op (some 8) (.mv (.tmp 10)) none]
def r33_3 : List IOper := [op (some 11) (.mv (.tmp 8)) none,
  op (some 12) (.load true 6 (.tmp 3)) none,
  op (some 13) (.call false (.const (.fn 76 [] [])) [(.tmp 11), (.tmp 12)]) none,
  op (some 14) (.call false (.const (.fn 75 [] [])) [(.tmp 13), (.const (.int .i64 2))]) none]
def r33_4 : List IOper := [op (some 15) (.mv (.tmp 1)) none,
  op (some 16) (.call false (.const (.fn 90 [] [])) [(.tmp 15)]) none]
def r33_5 : List IOper := [op (some 17) (.mv (.tmp 2)) none,
  op (some 18) (.call false (.const (.fn 90 [] [])) [(.tmp 17)]) none]
def r33_6 : List IOper := [op (some 19) (.mv (.tmp 8)) none,
  op (some 20) (.mv (.tmp 1)) none,
  op (some 21) (.mv (.tmp 2)) none,
  op (some 22) (.build [.nilp, (.slice .full 3 []), (.slice .full 3 [])] [(0, 1, (.tmp 19)), (1, 1, (.tmp 20)), (2, 1, (.tmp 21))]) none,
  op (some 23) (.load true 6 (.tmp 3)) none,
  op (some 24) (.call false (.const (.fn 91 [] [])) [(.tmp 22), (.tmp 23)]) none,
  op none (.store 3 (.tmp 6) (.tmp 24)) none,
  op none (.store 1 (.tmp 7) (.const (.int .i64 0))) none]
def f33 : IFunc := { nt := 25, own := false, results := [.cell 6 true 3, .cell 7 false 1], body := (.seq (.region r33_0) (.seq (.region r33_1) (.seq (.region r33_2) (.seq (.region r33_3) (.seq (.region r33_4) (.seq (.region r33_5) (.seq (.region r33_6) .ret))))))) }
/-! 34: understory/expr.Safe -/
def r34_0 : List IOper := [op (some 1) (.box (.tmp 0)) none,
  op (some 2) (.alloc [(.bool false)]) none]
def r34_1 : List IOper := [op (some 5) (.load true 6 (.tmp 1)) none,
  op (some 6) (.call false (.const (.fn 37 [] [])) [(.tmp 5)]) none,
  op (some 7) (.un .not (.tmp 6)) none]
def r34_2 : List IOper := [op none (.store 1 (.tmp 2) (.const (.bool false))) none]
def r34_3 : List IOper := [op (some 8) (.load true 6 (.tmp 1)) none,
  op (some 9) (.call false (.const (.fn 92 [] [])) [(.tmp 8)]) none]
def r34_4 : List IOper := [op (some 4) (.alloc [(.int .i64 0), (.int .i64 0), (.int .i64 0), (.int .i64 0), (.str []), (.slice .full 6 [])]) none,
  op none (.store 6 (.tmp 4) (.tmp 11)) none]
def r34_5 : List IOper := [op (some 12) (.fld 0 (.tmp 4)) none,
  op (some 13) (.load false 1 (.tmp 12)) none]
def r34_6 : List IOper := [op (some 15) (.eq false .int (.tmp 13) (.const (.int .i64 4))) none,
  op (some 14) (.mv (.tmp 15)) none]
def r34_7 : List IOper := [op (some 16) (.eq false .int (.tmp 13) (.const (.int .i64 5))) none,
  op (some 14) (.mv (.tmp 16)) none]
def r34_8 : List IOper := [op (some 17) (.eq false .int (.tmp 13) (.const (.int .i64 6))) none,
  op (some 14) (.mv (.tmp 17)) none]
def r34_9 : List IOper := [op (some 18) (.eq false .int (.tmp 13) (.const (.int .i64 7))) none,
  op (some 14) (.mv (.tmp 18)) none]
def r34_10 : List IOper := [op (some 19) (.eq false .int (.tmp 13) (.const (.int .i64 8))) none,
  op (some 14) (.mv (.tmp 19)) none]
def r34_11 : List IOper := [op (some 20) (.eq false .int (.tmp 13) (.const (.int .i64 9))) none,
  op (some 14) (.mv (.tmp 20)) none]
def r34_12 : List IOper := [op (some 21) (.eq false .int (.tmp 13) (.const (.int .i64 23))) none,
  op (some 14) (.mv (.tmp 21)) none]
def r34_13 : List IOper := [op (some 22) (.eq false .int (.tmp 13) (.const (.int .i64 32))) none,
  op (some 14) (.mv (.tmp 22)) none]
def r34_14 : List IOper := [op none (.store 1 (.tmp 2) (.const (.bool false))) none]
def l34_15 : IC := (.block 1 (.seq (.region r34_5) (.block 2 (.seq (.seq (.region r34_6) (.cond (.tmp 14) .skip (.seq (.region r34_7) (.cond (.tmp 14) .skip (.seq (.region r34_8) (.cond (.tmp 14) .skip (.seq (.region r34_9) (.cond (.tmp 14) .skip (.seq (.region r34_10) (.cond (.tmp 14) .skip (.seq (.region r34_11) (.cond (.tmp 14) .skip (.seq (.region r34_12) (.cond (.tmp 14) .skip (.region r34_13))))))))))))))) (.cond (.tmp 14) (.seq (.region r34_14) .ret) .skip)))))
def r34_16 : List IOper := [op none (.store 1 (.tmp 2) (.const (.bool true))) none]
def f34 : IFunc := { nt := 23, own := false, results := [.cell 2 false 1], body := (.seq (.region r34_0) (.seq (.seq (.region r34_1) (.cond (.tmp 7) (.seq (.region r34_2) .ret) .skip)) (.seq (.seq (.region r34_3) (.block 0 (.rangeFunc (.tmp 9) [10, 11] (.region r34_4) l34_15))) (.seq (.region r34_16) .ret)))) }
/-! 36: understory/understorylaw23.node -/
def r36_0 : List IOper := [op (some 4) (.alloc [(.int .i64 0), (.int .i64 0), (.int .i64 0), (.int .i64 0), (.str []), (.slice .full 6 [])]) none]
def r36_1 : List IOper := [op (some 5) (.mv (.tmp 0)) none,
  op (some 6) (.mv (.tmp 1)) none,
  op (some 7) (.build [(.int .i64 0), (.int .i64 0), (.int .i64 0), (.int .i64 0), (.str []), (.slice .full 6 [])] [(0, 1, (.tmp 5)), (5, 1, (.tmp 6))]) none,
  op none (.store 6 (.tmp 4) (.tmp 7)) none]
def f36 : IFunc := { nt := 8, own := false, results := [.cell 4 true 6], body := (.seq (.region r36_0) (.seq (.region r36_1) .ret)) }
/-! 37: understory/expr.Formed -/
def r37_0 : List IOper := [op (some 1) (.box (.tmp 0)) none,
  op (some 2) (.mv (.const (.bool false))) none]
def r37_1 : List IOper := [opx (some 3) (.call false (.const (.fn 74 [] [])) []) none false false true false 0 [],
  opx (some 4) (.load true 6 (.tmp 1)) none false false true false 0 [],
  opx (some 5) (.call false (.const (.fn 76 [] [])) [(.tmp 3), (.tmp 4)]) none true true true false 3 [],
  opx (some 2) (.mv (.tmp 5)) none true true true false 7 []]
def f37 : IFunc := { nt := 6, own := false, results := [.tmp 2], body := (.seq (.region r37_0) (.seq (.region r37_1) .ret)) }
/-! 38: understory/understoryref23.Formed -/
def r38_0 : List IOper := [op (some 1) (.box (.tmp 0)) none,
  op (some 2) (.mv (.const (.bool false))) none]
def r38_1 : List IOper := [op (some 3) (.load true 6 (.tmp 1)) none,
  op (some 4) (.call false (.const (.fn 93 [] [])) [(.tmp 3), (.const (.int .i64 1))]) none,
  op (some 5) (.bin .leq (.tmp 4) (.const (.int .i64 300))) none,
  op (some 2) (.mv (.tmp 5)) none]
def f38 : IFunc := { nt := 6, own := false, results := [.tmp 2], body := (.seq (.region r38_0) (.seq (.region r38_1) .ret)) }
/-! 46: understory/expr.Simplify -/
def r46_0 : List IOper := [op (some 1) (.box (.tmp 0)) none,
  op (some 2) (.alloc [(.int .i64 0), (.int .i64 0), (.int .i64 0), (.int .i64 0), (.str []), (.slice .full 6 [])]) none,
  op (some 3) (.alloc [(.slice .full 2 [])]) none,
  op (some 4) (.alloc [(.int .i64 0)]) none]
def r46_1 : List IOper := [op (some 7) (.mkF 104 [] [(.tmp 2), (.tmp 3)]) none,
  op none (.defer (.const (.fn 72 [] [])) [(.tmp 4), (.tmp 7)]) none]
def r46_2 : List IOper := [op (some 8) (.load true 6 (.tmp 1)) none,
  op (some 9) (.call false (.const (.fn 37 [] [])) [(.tmp 8)]) none,
  op (some 10) (.call false (.const (.fn 75 [] [])) [(.tmp 9), (.const (.int .i64 2))]) none]
def r46_3 : List IOper := [op (some 12) (.load true 6 (.tmp 1)) none,
  op (some 13) (.call false (.const (.fn 105 [] [])) [(.tmp 12)]) none,
  op (some 11) (.mv (.tmp 13)) none,
  op (some 14) (.ext (.tmp 11) 0) none,
  op (some 15) (.ext (.tmp 11) 1) none,
  op (some 5) (.alloc [(.int .i64 0), (.slice .full 1 [])]) none,
  op none (.store 2 (.tmp 5) (.tmp 14)) none,
  op (some 6) (.mv (.tmp 15)) none]
def r46_4 : List IOper := [op (some 16) (.mv (.tmp 6)) none,
  op (some 17) (.un .not (.tmp 16)) none]
def r46_5 : List IOper := [opx (some 18) (.load true 6 (.tmp 1)) none false false true false 0 [],
  opx (some 19) (.call false (.const (.fn 101 [] [])) [(.tmp 18)]) none false false true false 1 [],
  opx (some 20) (.load false 1 (.tmp 3)) none false false false false 0 [3],
  opx none (.store 6 (.tmp 2) (.tmp 19)) none false false true true 3 [2],
  opx none (.store 1 (.tmp 3) (.tmp 20)) none true true true true 15 [],
  opx none (.store 1 (.tmp 4) (.const (.int .i64 0))) none true true true true 31 []]
def r46_6 : List IOper := [op (some 21) (.load true 6 (.tmp 1)) none,
  op (some 22) (.fld 1 (.tmp 5)) none,
  op (some 23) (.load false 1 (.tmp 22)) none,
  op (some 24) (.fld 0 (.tmp 5)) none,
  op (some 25) (.load false 1 (.tmp 24)) none,
  op (some 26) (.call false (.const (.fn 102 [] [])) [(.tmp 21), (.tmp 23), (.tmp 25)]) none,
  op none (.store 6 (.tmp 1) (.tmp 26)) none]
def r46_7 : List IOper := [op (some 27) (.load false 1 (.tmp 3)) none,
  op (some 28) (.load true 2 (.tmp 5)) none,
  op (some 29) (.buildSl 2 [(.tmp 28)]) none,
  op (some 30) (.append false false 2 32 (.tmp 27) (.tmp 29)) none,
  op none (.store 1 (.tmp 3) (.tmp 30)) none]
def l46_8 : IC := (.block 1 (.seq (.region r46_3) (.seq (.seq (.region r46_4) (.cond (.tmp 17) (.seq (.region r46_5) .ret) .skip)) (.seq (.region r46_6) (.region r46_7)))))
def f46 : IFunc := { nt := 31, own := false, results := [.cell 2 true 6, .cell 3 false 1, .cell 4 false 1], body := (.seq (.region r46_0) (.seq (.region r46_1) (.seq (.region r46_2) (.block 0 (.loop l46_8))))) }
/-! 61: understory/expr.Same -/
def r61_0 : List IOper := [op (some 2) (.box (.tmp 0)) none,
  op (some 3) (.box (.tmp 1)) none,
  op (some 4) (.mv (.const (.bool false))) none]
def r61_1 : List IOper := [op (some 5) (.fld 0 (.tmp 2)) none,
  op (some 6) (.load false 1 (.tmp 5)) none,
  op (some 7) (.fld 0 (.tmp 3)) none,
  op (some 8) (.load false 1 (.tmp 7)) none,
  op (some 9) (.eq false .int (.tmp 6) (.tmp 8)) none,
  op (some 10) (.mv (.tmp 9)) none,
  op (some 11) (.fld 1 (.tmp 2)) (some (10, true)),
  op (some 12) (.load false 1 (.tmp 11)) (some (10, true)),
  op (some 13) (.fld 1 (.tmp 3)) (some (10, true)),
  op (some 14) (.load false 1 (.tmp 13)) (some (10, true)),
  op (some 15) (.eq false .int (.tmp 12) (.tmp 14)) (some (10, true)),
  op (some 16) (.pick (.tmp 10) (.tmp 15) (.const (.bool false))) none,
  op (some 17) (.mv (.tmp 16)) none,
  op (some 18) (.fld 2 (.tmp 2)) (some (17, true)),
  op (some 19) (.load true 3 (.tmp 18)) (some (17, true)),
  op (some 20) (.fld 2 (.tmp 3)) (some (17, true)),
  op (some 21) (.load true 3 (.tmp 20)) (some (17, true)),
  op (some 22) (.eq false (.agg [.int, .int, .str]) (.tmp 19) (.tmp 21)) (some (17, true)),
  op (some 23) (.pick (.tmp 17) (.tmp 22) (.const (.bool false))) none,
  op (some 24) (.mv (.tmp 23)) none,
  op (some 25) (.fld 5 (.tmp 2)) (some (24, true)),
  op (some 26) (.load false 1 (.tmp 25)) (some (24, true)),
  op (some 27) (.fld 5 (.tmp 3)) (some (24, true)),
  op (some 28) (.load false 1 (.tmp 27)) (some (24, true)),
  op (some 29) (.call false (.const (.fn 119 [] [])) [(.tmp 26), (.tmp 28), (.const (.fn 61 [] []))]) (some (24, true)),
  op (some 30) (.pick (.tmp 24) (.tmp 29) (.const (.bool false))) none,
  op (some 4) (.mv (.tmp 30)) none]
def f61 : IFunc := { nt := 31, own := false, results := [.tmp 4], body := (.seq (.region r61_0) (.seq (.region r61_1) .ret)) }
/-! 68: understory/understorylaw23.size -/
def r68_0 : List IOper := [op (some 2) (.box (.tmp 0)) none,
  op (some 4) (.mv (.const (.int .i64 0))) none]
def r68_1 : List IOper := [op (some 7) (.mv (.tmp 1)) none,
  op (some 8) (.bin .gtr (.tmp 7) (.const (.int .i64 40))) none,
  op (some 9) (.mv (.tmp 8)) none,
  op (some 10) (.fld 5 (.tmp 2)) (some (9, false)),
  op (some 11) (.load false 1 (.tmp 10)) (some (9, false)),
  op (some 12) (.len .slice (.tmp 11)) (some (9, false)),
  op (some 13) (.bin .gtr (.tmp 12) (.const (.int .i64 500))) (some (9, false)),
  op (some 14) (.pick (.tmp 9) (.const (.bool true)) (.tmp 13)) none,
  op (some 15) (.mv (.tmp 14)) none,
  op (some 16) (.fld 2 (.tmp 2)) (some (15, false)),
  op (some 17) (.fld 2 (.tmp 16)) (some (15, false)),
  op (some 18) (.load false 1 (.tmp 17)) (some (15, false)),
  op (some 19) (.len .str (.tmp 18)) (some (15, false)),
  op (some 20) (.bin .gtr (.tmp 19) (.const (.int .i64 2000))) (some (15, false)),
  op (some 21) (.pick (.tmp 15) (.const (.bool true)) (.tmp 20)) none]
def r68_2 : List IOper := [op (some 4) (.mv (.const (.int .i64 501))) none]
def r68_3 : List IOper := [op (some 22) (.fld 2 (.tmp 2)) none,
  op (some 23) (.fld 2 (.tmp 22)) none,
  op (some 24) (.load false 1 (.tmp 23)) none,
  op (some 25) (.len .str (.tmp 24)) none,
  op (some 26) (.bin .quo (.tmp 25) (.const (.int .i64 10))) none,
  op (some 27) (.bin .add (.const (.int .i64 1)) (.tmp 26)) none,
  op (some 5) (.mv (.tmp 27)) none]
def r68_4 : List IOper := [op (some 6) (.mv (.const (.int .i64 0))) none]
def r68_5 : List IOper := [op (some 28) (.mv (.tmp 6)) none,
  op (some 29) (.fld 5 (.tmp 2)) none,
  op (some 30) (.load false 1 (.tmp 29)) none,
  op (some 31) (.len .slice (.tmp 30)) none,
  op (some 32) (.bin .lss (.tmp 28) (.tmp 31)) none,
  op (some 33) (.mv (.tmp 32)) none,
  op (some 34) (.mv (.tmp 5)) (some (33, true)),
  op (some 35) (.bin .leq (.tmp 34) (.const (.int .i64 500))) (some (33, true)),
  op (some 36) (.pick (.tmp 33) (.tmp 35) (.const (.bool false))) none]
def r68_6 : List IOper := [op (some 39) (.mv (.tmp 5)) none,
  op (some 40) (.fld 5 (.tmp 2)) none,
  op (some 41) (.load false 1 (.tmp 40)) none,
  op (some 42) (.mv (.tmp 6)) none,
  op (some 43) (.idx none 6 (.tmp 41) (.tmp 42)) none,
  op (some 44) (.load true 6 (.tmp 43)) none,
  op (some 45) (.mv (.tmp 1)) none,
  op (some 46) (.bin .add (.tmp 45) (.const (.int .i64 1))) none,
  op (some 47) (.call false (.const (.fn 68 [] [])) [(.tmp 44), (.tmp 46)]) none,
  op (some 48) (.bin .add (.tmp 39) (.tmp 47)) none,
  op (some 5) (.mv (.tmp 48)) none]
def r68_7 : List IOper := [op (some 37) (.mv (.tmp 6)) none,
  op (some 38) (.bin .add (.tmp 37) (.const (.int .i64 1))) none,
  op (some 6) (.mv (.tmp 38)) none]
def l68_8 : IC := (.seq (.seq (.region r68_5) (.cond (.tmp 36) .skip (.exit 0))) (.seq (.block 1 (.region r68_6)) (.region r68_7)))
def r68_9 : List IOper := [op (some 49) (.mv (.tmp 5)) none,
  op (some 4) (.mv (.tmp 49)) none]
def f68 : IFunc := { nt := 50, own := false, results := [.tmp 4], body := (.seq (.region r68_0) (.seq (.seq (.region r68_1) (.cond (.tmp 21) (.seq (.region r68_2) .ret) .skip)) (.seq (.region r68_3) (.seq (.seq (.region r68_4) (.block 0 (.loop l68_8))) (.seq (.region r68_9) .ret))))) }
/-! 69: understory/understorylaw23.field -/
def r69_0 : List IOper := [op (some 2) (.alloc [(.int .i64 0), (.int .i64 0), (.int .i64 0), (.int .i64 0), (.str []), (.slice .full 6 [])]) none]
def r69_1 : List IOper := [op (some 3) (.mv (.tmp 0)) none,
  op (some 4) (.build [(.int .i64 0), (.int .i64 0), (.int .i64 0), (.int .i64 0), (.str []), (.slice .full 6 [])] [(0, 1, (.const (.int .i64 2))), (1, 1, (.tmp 3))]) none,
  op none (.store 6 (.tmp 2) (.tmp 4)) none]
def f69 : IFunc := { nt := 5, own := false, results := [.cell 2 true 6], body := (.seq (.region r69_0) (.seq (.region r69_1) .ret)) }
/-! 70: understory/understorylaw23.number -/
def r70_0 : List IOper := [op (some 2) (.alloc [(.int .i64 0), (.int .i64 0), (.int .i64 0), (.int .i64 0), (.str []), (.slice .full 6 [])]) none]
def r70_1 : List IOper := [op (some 3) (.mv (.tmp 0)) none,
  op (some 4) (.build [(.int .i64 0), (.int .i64 0), (.str [])] [(0, 1, (.const (.int .i64 2))), (1, 1, (.tmp 3))]) none,
  op (some 5) (.build [(.int .i64 0), (.int .i64 0), (.int .i64 0), (.int .i64 0), (.str []), (.slice .full 6 [])] [(0, 1, (.const (.int .i64 1))), (2, 3, (.tmp 4))]) none,
  op none (.store 6 (.tmp 2) (.tmp 5)) none]
def f70 : IFunc := { nt := 6, own := false, results := [.cell 2 true 6], body := (.seq (.region r70_0) (.seq (.region r70_1) .ret)) }
/-! 71: understory/understorylaw23.text -/
def r71_0 : List IOper := [op (some 2) (.alloc [(.int .i64 0), (.int .i64 0), (.int .i64 0), (.int .i64 0), (.str []), (.slice .full 6 [])]) none]
def r71_1 : List IOper := [op (some 3) (.mv (.tmp 0)) none,
  op (some 4) (.build [(.int .i64 0), (.int .i64 0), (.str [])] [(0, 1, (.const (.int .i64 3))), (2, 1, (.tmp 3))]) none,
  op (some 5) (.build [(.int .i64 0), (.int .i64 0), (.int .i64 0), (.int .i64 0), (.str []), (.slice .full 6 [])] [(0, 1, (.const (.int .i64 1))), (2, 3, (.tmp 4))]) none,
  op none (.store 6 (.tmp 2) (.tmp 5)) none]
def f71 : IFunc := { nt := 6, own := false, results := [.cell 2 true 6], body := (.seq (.region r71_0) (.seq (.region r71_1) .ret)) }
/-! 72: understory/expr.caught -/
def r72_0 : List IOper := [op (some 7) .recov none]
def r72_1 : List IOper := [op (some 9) (.eq false .iface (.tmp 7) (.const .nili)) none]
def r72_2 : List IOper := [op (some 4) (.mv (.tmp 7)) none]
def r72_3 : List IOper := [op (some 10) (.tas 157 (.agg [(.int .i64 0)]) true (.tmp 7)) none,
  op (some 11) (.ext (.tmp 10) 1) none,
  op (some 12) (.ext (.tmp 10) 0) none]
def r72_4 : List IOper := [op (some 5) (.alloc [(.int .i64 0)]) none,
  op none (.store 1 (.tmp 5) (.tmp 12)) none]
def r72_5 : List IOper := [op (some 13) (.mv (.tmp 1)) none,
  op (some 14) (.call false (.tmp 13) []) none]
def r72_6 : List IOper := [op (some 15) (.mv (.tmp 0)) none,
  op (some 16) (.fld 0 (.tmp 5)) none,
  op (some 17) (.load false 1 (.tmp 16)) none,
  op (some 18) (.nilck (.tmp 15)) none,
  op none (.store 1 (.tmp 18) (.tmp 17)) none]
def r72_7 : List IOper := [op (some 6) (.mv (.tmp 7)) none]
def r72_8 : List IOper := [op (some 8) (.mv (.tmp 6)) none,
  op none (.panic (.tmp 8)) none]
def f72 : IFunc := { nt := 19, own := false, results := [], body := (.seq (.region r72_0) (.block 0 (.seq (.region r72_1) (.cond (.tmp 9) (.region r72_2) (.seq (.region r72_3) (.cond (.tmp 11) (.seq (.region r72_4) (.seq (.region r72_5) (.region r72_6))) (.seq (.region r72_7) (.region r72_8)))))))) }
/-! 73: understory/expr.Check$1 -/
def r73_0 : List IOper := [op none (.store 1 (.tmp 0) (.const (.int .i64 0))) none]
def f73 : IFunc := { nt := 1, own := false, results := [], body := (.region r73_0) }
/-! 74: understory/expr.newTable -/
def r74_0 : List IOper := [op (some 0) (.mv (.const .nilp)) none]
def r74_1 : List IOper := [op (some 1) (.build [(.int .i64 0), (.int .i64 0), (.int .i64 0), (.int .i64 0), (.int .i64 0), .nilf] [(0, 1, (.const (.int .i64 0))), (1, 1, (.const (.int .i64 0)))]) none,
  op (some 2) (.build [(.int .i64 0), (.int .i64 0), (.int .i64 0), (.int .i64 0), (.int .i64 0), .nilf] [(0, 1, (.const (.int .i64 0))), (1, 1, (.const (.int .i64 0)))]) none,
  op (some 3) (.build [(.int .i64 0), (.int .i64 0), (.int .i64 0), (.int .i64 0), (.int .i64 0), .nilf] [(0, 1, (.const (.int .i64 0))), (1, 1, (.const (.int .i64 0)))]) none,
  op (some 4) (.build [(.int .i64 0), (.int .i64 0), (.int .i64 0), (.int .i64 0), (.int .i64 0), .nilf] [(0, 1, (.const (.int .i64 1))), (1, 1, (.const (.int .i64 1))), (2, 1, (.const (.int .i64 1))), (3, 1, (.const (.int .i64 2))), (4, 1, (.const (.int .i64 2))), (5, 1, (.const (.fn 124 [] [])))]) none,
  op (some 5) (.build [(.int .i64 0), (.int .i64 0), (.int .i64 0), (.int .i64 0), (.int .i64 0), .nilf] [(0, 1, (.const (.int .i64 2))), (1, 1, (.const (.int .i64 2))), (2, 1, (.const (.int .i64 1))), (3, 1, (.const (.int .i64 2))), (4, 1, (.const (.int .i64 2))), (5, 1, (.const (.fn 125 [] [])))]) none,
  op (some 6) (.build [(.int .i64 0), (.int .i64 0), (.int .i64 0), (.int .i64 0), (.int .i64 0), .nilf] [(0, 1, (.const (.int .i64 2))), (1, 1, (.const (.int .i64 2))), (2, 1, (.const (.int .i64 1))), (3, 1, (.const (.int .i64 2))), (4, 1, (.const (.int .i64 2))), (5, 1, (.const (.fn 126 [] [])))]) none,
  op (some 7) (.build [(.int .i64 0), (.int .i64 0), (.int .i64 0), (.int .i64 0), (.int .i64 0), .nilf] [(0, 1, (.const (.int .i64 2))), (1, 1, (.const (.int .i64 2))), (2, 1, (.const (.int .i64 1))), (3, 1, (.const (.int .i64 2))), (4, 1, (.const (.int .i64 2))), (5, 1, (.const (.fn 127 [] [])))]) none,
  op (some 8) (.build [(.int .i64 0), (.int .i64 0), (.int .i64 0), (.int .i64 0), (.int .i64 0), .nilf] [(0, 1, (.const (.int .i64 2))), (1, 1, (.const (.int .i64 2))), (2, 1, (.const (.int .i64 1))), (3, 1, (.const (.int .i64 2))), (4, 1, (.const (.int .i64 2))), (5, 1, (.const (.fn 128 [] [])))]) none,
  op (some 9) (.build [(.int .i64 0), (.int .i64 0), (.int .i64 0), (.int .i64 0), (.int .i64 0), .nilf] [(0, 1, (.const (.int .i64 2))), (1, 1, (.const (.int .i64 2))), (2, 1, (.const (.int .i64 1))), (3, 1, (.const (.int .i64 2))), (4, 1, (.const (.int .i64 2))), (5, 1, (.const (.fn 129 [] [])))]) none,
  op (some 10) (.call false (.const (.fn 130 [] [])) [(.const (.fn 131 [] []))]) none,
  op (some 11) (.build [(.int .i64 0), (.int .i64 0), (.int .i64 0), (.int .i64 0), (.int .i64 0), .nilf] [(0, 1, (.const (.int .i64 2))), (1, 1, (.const (.int .i64 2))), (2, 1, (.const (.int .i64 1))), (3, 1, (.const (.int .i64 (-1)))), (4, 1, (.const (.int .i64 1))), (5, 1, (.tmp 10))]) none,
  op (some 12) (.call false (.const (.fn 130 [] [])) [(.const (.fn 132 [] []))]) none,
  op (some 13) (.build [(.int .i64 0), (.int .i64 0), (.int .i64 0), (.int .i64 0), (.int .i64 0), .nilf] [(0, 1, (.const (.int .i64 2))), (1, 1, (.const (.int .i64 2))), (2, 1, (.const (.int .i64 1))), (3, 1, (.const (.int .i64 (-1)))), (4, 1, (.const (.int .i64 1))), (5, 1, (.tmp 12))]) none,
  op (some 14) (.call false (.const (.fn 130 [] [])) [(.const (.fn 133 [] []))]) none,
  op (some 15) (.build [(.int .i64 0), (.int .i64 0), (.int .i64 0), (.int .i64 0), (.int .i64 0), .nilf] [(0, 1, (.const (.int .i64 2))), (1, 1, (.const (.int .i64 2))), (2, 1, (.const (.int .i64 1))), (3, 1, (.const (.int .i64 (-1)))), (4, 1, (.const (.int .i64 1))), (5, 1, (.tmp 14))]) none,
  op (some 16) (.call false (.const (.fn 130 [] [])) [(.const (.fn 134 [] []))]) none,
  op (some 17) (.build [(.int .i64 0), (.int .i64 0), (.int .i64 0), (.int .i64 0), (.int .i64 0), .nilf] [(0, 1, (.const (.int .i64 2))), (1, 1, (.const (.int .i64 2))), (2, 1, (.const (.int .i64 1))), (3, 1, (.const (.int .i64 (-1)))), (4, 1, (.const (.int .i64 1))), (5, 1, (.tmp 16))]) none,
  op (some 18) (.call false (.const (.fn 130 [] [])) [(.const (.fn 135 [] []))]) none,
  op (some 19) (.build [(.int .i64 0), (.int .i64 0), (.int .i64 0), (.int .i64 0), (.int .i64 0), .nilf] [(0, 1, (.const (.int .i64 2))), (1, 1, (.const (.int .i64 2))), (2, 1, (.const (.int .i64 1))), (3, 1, (.const (.int .i64 (-1)))), (4, 1, (.const (.int .i64 1))), (5, 1, (.tmp 18))]) none,
  op (some 20) (.call false (.const (.fn 130 [] [])) [(.const (.fn 136 [] []))]) none,
  op (some 21) (.build [(.int .i64 0), (.int .i64 0), (.int .i64 0), (.int .i64 0), (.int .i64 0), .nilf] [(0, 1, (.const (.int .i64 2))), (1, 1, (.const (.int .i64 2))), (2, 1, (.const (.int .i64 1))), (3, 1, (.const (.int .i64 (-1)))), (4, 1, (.const (.int .i64 1))), (5, 1, (.tmp 20))]) none,
  op (some 22) (.build [(.int .i64 0), (.int .i64 0), (.int .i64 0), (.int .i64 0), (.int .i64 0), .nilf] [(0, 1, (.const (.int .i64 1))), (1, 1, (.const (.int .i64 50))), (2, 1, (.const (.int .i64 1))), (3, 1, (.const (.int .i64 1))), (4, 1, (.const (.int .i64 1)))]) none,
  op (some 23) (.build [(.int .i64 0), (.int .i64 0), (.int .i64 0), (.int .i64 0), (.int .i64 0), .nilf] [(0, 1, (.const (.int .i64 1))), (1, 1, (.const (.int .i64 50))), (2, 1, (.const (.int .i64 1))), (3, 1, (.const (.int .i64 1))), (4, 1, (.const (.int .i64 1)))]) none,
  op (some 24) (.build [(.int .i64 0), (.int .i64 0), (.int .i64 0), (.int .i64 0), (.int .i64 0), .nilf] [(0, 1, (.const (.int .i64 1))), (1, 1, (.const (.int .i64 1))), (2, 1, (.const (.int .i64 1))), (3, 1, (.const (.int .i64 1))), (4, 1, (.const (.int .i64 1))), (5, 1, (.const (.fn 137 [] [])))]) none,
  op (some 25) (.build [(.int .i64 0), (.int .i64 0), (.int .i64 0), (.int .i64 0), (.int .i64 0), .nilf] [(0, 1, (.const (.int .i64 1))), (1, 1, (.const (.int .i64 1))), (2, 1, (.const (.int .i64 1))), (3, 1, (.const (.int .i64 0))), (4, 1, (.const (.int .i64 1)))]) none,
  op (some 26) (.build [(.int .i64 0), (.int .i64 0), (.int .i64 0), (.int .i64 0), (.int .i64 0), .nilf] [(0, 1, (.const (.int .i64 3))), (1, 1, (.const (.int .i64 41))), (2, 1, (.const (.int .i64 2))), (3, 1, (.const (.int .i64 (-1)))), (4, 1, (.const (.int .i64 (-1))))]) none,
  op (some 27) (.build [(.int .i64 0), (.int .i64 0), (.int .i64 0), (.int .i64 0), (.int .i64 0), .nilf] [(0, 1, (.const (.int .i64 1))), (1, 1, (.const (.int .i64 20))), (2, 1, (.const (.int .i64 1))), (3, 1, (.const (.int .i64 (-1)))), (4, 1, (.const (.int .i64 (-1))))]) none,
  op (some 28) (.build [(.int .i64 0), (.int .i64 0), (.int .i64 0), (.int .i64 0), (.int .i64 0), .nilf] [(0, 1, (.const (.int .i64 2))), (1, 1, (.const (.int .i64 50))), (2, 1, (.const (.int .i64 1))), (3, 1, (.const (.int .i64 (-1)))), (4, 1, (.const (.int .i64 1)))]) none,
  op (some 29) (.build [(.int .i64 0), (.int .i64 0), (.int .i64 0), (.int .i64 0), (.int .i64 0), .nilf] [(0, 1, (.const (.int .i64 1))), (1, 1, (.const (.int .i64 20))), (2, 1, (.const (.int .i64 1))), (3, 1, (.const (.int .i64 3))), (4, 1, (.const (.int .i64 3))), (5, 1, (.const (.fn 138 [] [])))]) none,
  op (some 30) (.build [(.int .i64 0), (.int .i64 0), (.int .i64 0), (.int .i64 0), (.int .i64 0), .nilf] [(0, 1, (.const (.int .i64 1))), (1, 1, (.const (.int .i64 1))), (2, 1, (.const (.int .i64 1))), (3, 1, (.const (.int .i64 3))), (4, 1, (.const (.int .i64 2))), (5, 1, (.const (.fn 139 [] [])))]) none,
  op (some 31) (.build [(.int .i64 0), (.int .i64 0), (.int .i64 0), (.int .i64 0), (.int .i64 0), .nilf] [(0, 1, (.const (.int .i64 3))), (1, 1, (.const (.int .i64 3))), (2, 1, (.const (.int .i64 1))), (3, 1, (.const (.int .i64 0))), (4, 1, (.const (.int .i64 3))), (5, 1, (.const (.fn 141 [] [])))]) none,
  op (some 32) (.build [(.int .i64 0), (.int .i64 0), (.int .i64 0), (.int .i64 0), (.int .i64 0), .nilf] [(0, 1, (.const (.int .i64 1))), (1, 1, (.const (.int .i64 1))), (2, 1, (.const (.int .i64 1))), (3, 1, (.const (.int .i64 3))), (4, 1, (.const (.int .i64 3))), (5, 1, (.const (.fn 142 [] [])))]) none,
  op (some 33) (.build [(.int .i64 0), (.int .i64 0), (.int .i64 0), (.int .i64 0), (.int .i64 0), .nilf] [(0, 1, (.const (.int .i64 1))), (1, 1, (.const (.int .i64 1))), (2, 1, (.const (.int .i64 1))), (3, 1, (.const (.int .i64 3))), (4, 1, (.const (.int .i64 3))), (5, 1, (.const (.fn 143 [] [])))]) none,
  op (some 34) (.build [(.int .i64 0), (.int .i64 0), (.int .i64 0), (.int .i64 0), (.int .i64 0), .nilf] [(0, 1, (.const (.int .i64 1))), (1, 1, (.const (.int .i64 1))), (2, 1, (.const (.int .i64 1))), (3, 1, (.const (.int .i64 3))), (4, 1, (.const (.int .i64 3))), (5, 1, (.const (.fn 144 [] [])))]) none,
  op (some 35) (.build [(.int .i64 0), (.int .i64 0), (.int .i64 0), (.int .i64 0), (.int .i64 0), .nilf] [(0, 1, (.const (.int .i64 2))), (1, 1, (.const (.int .i64 2))), (2, 1, (.const (.int .i64 1))), (3, 1, (.const (.int .i64 3))), (4, 1, (.const (.int .i64 2))), (5, 1, (.const (.fn 145 [] [])))]) none,
  op (some 36) (.build [(.int .i64 0), (.int .i64 0), (.int .i64 0), (.int .i64 0), (.int .i64 0), .nilf] [(0, 1, (.const (.int .i64 2))), (1, 1, (.const (.int .i64 2))), (2, 1, (.const (.int .i64 1))), (3, 1, (.const (.int .i64 3))), (4, 1, (.const (.int .i64 1))), (5, 1, (.const (.fn 146 [] [])))]) none,
  op (some 37) (.build [(.int .i64 0), (.int .i64 0), (.int .i64 0), (.int .i64 0), (.int .i64 0), .nilf] [(0, 1, (.const (.int .i64 1))), (1, 1, (.const (.int .i64 1))), (2, 1, (.const (.int .i64 1))), (3, 1, (.const (.int .i64 0))), (4, 1, (.const (.int .i64 3))), (5, 1, (.const (.fn 148 [] [])))]) none,
  op (some 38) (.build [(.int .i64 0), (.int .i64 0), (.int .i64 0), (.int .i64 0), (.int .i64 0), .nilf] [(0, 1, (.const (.int .i64 1))), (1, 1, (.const (.int .i64 1))), (2, 1, (.const (.int .i64 1))), (3, 1, (.const (.int .i64 3))), (4, 1, (.const (.int .i64 2))), (5, 1, (.const (.fn 149 [] [])))]) none,
  op (some 39) (.build [(.int .i64 0), (.int .i64 0), (.int .i64 0), (.int .i64 0), (.int .i64 0), .nilf, (.int .i64 0), (.int .i64 0), (.int .i64 0), (.int .i64 0), (.int .i64 0), .nilf, (.int .i64 0), (.int .i64 0), (.int .i64 0), (.int .i64 0), (.int .i64 0), .nilf, (.int .i64 0), (.int .i64 0), (.int .i64 0), (.int .i64 0), (.int .i64 0), .nilf, (.int .i64 0), (.int .i64 0), (.int .i64 0), (.int .i64 0), (.int .i64 0), .nilf, (.int .i64 0), (.int .i64 0), (.int .i64 0), (.int .i64 0), (.int .i64 0), .nilf, (.int .i64 0), (.int .i64 0), (.int .i64 0), (.int .i64 0), (.int .i64 0), .nilf, (.int .i64 0), (.int .i64 0), (.int .i64 0), (.int .i64 0), (.int .i64 0), .nilf, (.int .i64 0), (.int .i64 0), (.int .i64 0), (.int .i64 0), (.int .i64 0), .nilf, (.int .i64 0), (.int .i64 0), (.int .i64 0), (.int .i64 0), (.int .i64 0), .nilf, (.int .i64 0), (.int .i64 0), (.int .i64 0), (.int .i64 0), (.int .i64 0), .nilf, (.int .i64 0), (.int .i64 0), (.int .i64 0), (.int .i64 0), (.int .i64 0), .nilf, (.int .i64 0), (.int .i64 0), (.int .i64 0), (.int .i64 0), (.int .i64 0), .nilf, (.int .i64 0), (.int .i64 0), (.int .i64 0), (.int .i64 0), (.int .i64 0), .nilf, (.int .i64 0), (.int .i64 0), (.int .i64 0), (.int .i64 0), (.int .i64 0), .nilf, (.int .i64 0), (.int .i64 0), (.int .i64 0), (.int .i64 0), (.int .i64 0), .nilf, (.int .i64 0), (.int .i64 0), (.int .i64 0), (.int .i64 0), (.int .i64 0), .nilf, (.int .i64 0), (.int .i64 0), (.int .i64 0), (.int .i64 0), (.int .i64 0), .nilf, (.int .i64 0), (.int .i64 0), (.int .i64 0), (.int .i64 0), (.int .i64 0), .nilf, (.int .i64 0), (.int .i64 0), (.int .i64 0), (.int .i64 0), (.int .i64 0), .nilf, (.int .i64 0), (.int .i64 0), (.int .i64 0), (.int .i64 0), (.int .i64 0), .nilf, (.int .i64 0), (.int .i64 0), (.int .i64 0), (.int .i64 0), (.int .i64 0), .nilf, (.int .i64 0), (.int .i64 0), (.int .i64 0), (.int .i64 0), (.int .i64 0), .nilf, (.int .i64 0), (.int .i64 0), (.int .i64 0), (.int .i64 0), (.int .i64 0), .nilf, (.int .i64 0), (.int .i64 0), (.int .i64 0), (.int .i64 0), (.int .i64 0), .nilf, (.int .i64 0), (.int .i64 0), (.int .i64 0), (.int .i64 0), (.int .i64 0), .nilf, (.int .i64 0), (.int .i64 0), (.int .i64 0), (.int .i64 0), (.int .i64 0), .nilf, (.int .i64 0), (.int .i64 0), (.int .i64 0), (.int .i64 0), (.int .i64 0), .nilf, (.int .i64 0), (.int .i64 0), (.int .i64 0), (.int .i64 0), (.int .i64 0), .nilf, (.int .i64 0), (.int .i64 0), (.int .i64 0), (.int .i64 0), (.int .i64 0), .nilf, (.int .i64 0), (.int .i64 0), (.int .i64 0), (.int .i64 0), (.int .i64 0), .nilf, (.int .i64 0), (.int .i64 0), (.int .i64 0), (.int .i64 0), (.int .i64 0), .nilf, (.int .i64 0), (.int .i64 0), (.int .i64 0), (.int .i64 0), (.int .i64 0), .nilf] [(6, 6, (.tmp 1)), (12, 6, (.tmp 2)), (18, 6, (.tmp 3)), (24, 6, (.tmp 4)), (30, 6, (.tmp 5)), (36, 6, (.tmp 6)), (42, 6, (.tmp 7)), (48, 6, (.tmp 8)), (54, 6, (.tmp 9)), (60, 6, (.tmp 11)), (66, 6, (.tmp 13)), (72, 6, (.tmp 15)), (78, 6, (.tmp 17)), (84, 6, (.tmp 19)), (90, 6, (.tmp 21)), (96, 6, (.tmp 22)), (102, 6, (.tmp 23)), (108, 6, (.tmp 24)), (114, 6, (.tmp 25)), (120, 6, (.tmp 26)), (126, 6, (.tmp 27)), (132, 6, (.tmp 28)), (138, 6, (.tmp 29)), (144, 6, (.tmp 30)), (150, 6, (.tmp 31)), (156, 6, (.tmp 32)), (162, 6, (.tmp 33)), (168, 6, (.tmp 34)), (174, 6, (.tmp 35)), (180, 6, (.tmp 36)), (186, 6, (.tmp 37)), (192, 6, (.tmp 38))]) none,
  op (some 40) (.box (.tmp 39)) none,
  op (some 0) (.mv (.tmp 40)) none]
def f74 : IFunc := { nt := 41, own := false, results := [.tmp 0], body := (.seq (.region r74_0) (.seq (.region r74_1) .ret)) }
/-! 75: understory/expr.need -/
def r75_0 : List IOper := [op (some 4) (.mv (.tmp 0)) none,
  op (some 5) (.un .not (.tmp 4)) none]
def r75_1 : List IOper := [op (some 6) (.mv (.tmp 1)) none,
  op (some 7) (.build [(.int .i64 0)] [(0, 1, (.tmp 6))]) none,
  op (some 8) (.mkI 157 (.tmp 7)) none,
  op none (.panic (.tmp 8)) none]
def f75 : IFunc := { nt := 9, own := false, results := [], body := (.seq (.region r75_0) (.cond (.tmp 5) (.region r75_1) .skip)) }
/-! 76: (*understory/expr.operations).formed -/
def r76_0 : List IOper := [op (some 2) (.box (.tmp 0)) none,
  op (some 3) (.box (.tmp 1)) none,
  op (some 4) (.mv (.const (.bool false))) none]
def r76_1 : List IOper := [op (some 5) (.alloc [(.int .i64 0)]) none,
  op none (.store 1 (.tmp 5) (.const (.int .i64 0))) none]
def r76_2 : List IOper := [op (some 6) (.alloc [.nilf]) none]
def r76_3 : List IOper := [op (some 7) (.mkF 150 [] [(.tmp 5), (.tmp 2), (.tmp 6)]) none,
  op none (.store 1 (.tmp 6) (.tmp 7)) none]
def r76_4 : List IOper := [op (some 8) (.load false 1 (.tmp 6)) none,
  op (some 9) (.load true 6 (.tmp 3)) none,
  op (some 10) (.call false (.tmp 8) [(.tmp 9), (.const (.int .i64 1))]) none,
  op (some 4) (.mv (.tmp 10)) none]
def f76 : IFunc := { nt := 11, own := false, results := [.tmp 4], body := (.seq (.region r76_0) (.seq (.region r76_1) (.seq (.region r76_2) (.seq (.region r76_3) (.seq (.region r76_4) .ret))))) }
/-! 77: slices.Concat[[]int,int] -/
def r77_0 : List IOper := [op (some 2) (.mv (.const (.slice .full 1 []))) none]
def r77_1 : List IOper := [op (some 3) (.mv (.const (.int .i64 0))) none]
def r77_2 : List IOper := [op (some 9) (.mv (.tmp 0)) none,
  op (some 10) (.len .slice (.tmp 9)) none,
  op (some 11) (.mv (.const (.int .i64 0))) none]
def r77_3 : List IOper := [op (some 12) (.bin .lss (.tmp 11) (.tmp 10)) none]
def r77_4 : List IOper := [op (some 13) (.idx none 1 (.tmp 9) (.tmp 11)) none,
  op (some 14) (.load false 1 (.tmp 13)) none,
  op (some 5) (.mv (.tmp 14)) none]
def r77_5 : List IOper := [op (some 15) (.mv (.tmp 3)) none,
  op (some 16) (.mv (.tmp 5)) none,
  op (some 17) (.len .slice (.tmp 16)) none,
  op (some 18) (.bin .add (.tmp 15) (.tmp 17)) none,
  op (some 3) (.mv (.tmp 18)) none]
def r77_6 : List IOper := [op (some 19) (.mv (.tmp 3)) none,
  op (some 20) (.bin .lss (.tmp 19) (.const (.int .i64 0))) none]
def r77_7 : List IOper := [op (some 21) (.mkI 9 (.const (.str [108, 101, 110, 32, 111, 117, 116, 32, 111, 102, 32, 114, 97, 110, 103, 101]))) none,
  op none (.panic (.tmp 21)) none]
def r77_8 : List IOper := [op (some 22) (.bin .add (.tmp 11) (.const (.int .i64 1))) none,
  op (some 11) (.mv (.tmp 22)) none]
def l77_9 : IC := (.seq (.region r77_3) (.seq (.cond (.tmp 12) .skip (.exit 0)) (.seq (.block 1 (.seq (.region r77_4) (.seq (.region r77_5) (.seq (.region r77_6) (.cond (.tmp 20) (.region r77_7) .skip))))) (.region r77_8))))
def r77_10 : List IOper := [op (some 23) (.mv (.tmp 3)) none,
  op (some 24) (.grow 153 1 8 [(.int .i64 0)] (.const (.slice .full 1 [])) (.tmp 23)) none,
  op (some 6) (.mv (.tmp 24)) none]
def r77_11 : List IOper := [op (some 25) (.mv (.tmp 0)) none,
  op (some 26) (.len .slice (.tmp 25)) none,
  op (some 27) (.mv (.const (.int .i64 0))) none]
def r77_12 : List IOper := [op (some 28) (.bin .lss (.tmp 27) (.tmp 26)) none]
def r77_13 : List IOper := [op (some 29) (.idx none 1 (.tmp 25) (.tmp 27)) none,
  op (some 30) (.load false 1 (.tmp 29)) none,
  op (some 8) (.mv (.tmp 30)) none]
def r77_14 : List IOper := [op (some 31) (.mv (.tmp 6)) none,
  op (some 32) (.mv (.tmp 8)) none,
  op (some 33) (.append false false 1 8 (.tmp 31) (.tmp 32)) none,
  op (some 6) (.mv (.tmp 33)) none]
def r77_15 : List IOper := [op (some 34) (.bin .add (.tmp 27) (.const (.int .i64 1))) none,
  op (some 27) (.mv (.tmp 34)) none]
def l77_16 : IC := (.seq (.region r77_12) (.seq (.cond (.tmp 28) .skip (.exit 2)) (.seq (.block 3 (.seq (.region r77_13) (.region r77_14))) (.region r77_15))))
def r77_17 : List IOper := [op (some 35) (.mv (.tmp 6)) none,
  op (some 2) (.mv (.tmp 35)) none]
def f77 : IFunc := { nt := 36, own := false, results := [.tmp 2], body := (.seq (.region r77_0) (.seq (.region r77_1) (.seq (.seq (.region r77_2) (.block 0 (.loop l77_9))) (.seq (.region r77_10) (.seq (.seq (.region r77_11) (.block 2 (.loop l77_16))) (.seq (.region r77_17) .ret)))))) }
/-! 78: understory/expr.isKind -/
def r78_0 : List IOper := [op (some 2) (.mv (.const (.bool false))) none]
def r78_1 : List IOper := [op (some 3) (.mv (.tmp 0)) none,
  op (some 4) (.eq false .int (.tmp 3) (.const (.int .i64 1))) none,
  op (some 5) (.mv (.tmp 4)) none,
  op (some 6) (.mv (.tmp 0)) (some (5, false)),
  op (some 7) (.eq false .int (.tmp 6) (.const (.int .i64 2))) (some (5, false)),
  op (some 8) (.pick (.tmp 5) (.const (.bool true)) (.tmp 7)) none,
  op (some 9) (.mv (.tmp 8)) none,
  op (some 10) (.mv (.tmp 0)) (some (9, false)),
  op (some 11) (.eq false .int (.tmp 10) (.const (.int .i64 3))) (some (9, false)),
  op (some 12) (.pick (.tmp 9) (.const (.bool true)) (.tmp 11)) none,
  op (some 2) (.mv (.tmp 12)) none]
def f78 : IFunc := { nt := 13, own := false, results := [.tmp 2], body := (.seq (.region r78_0) (.seq (.region r78_1) .ret)) }
/-! 79: understory/expr.Check$2 -/
def r79_0 : List IOper := [op (some 5) (.box (.tmp 0)) none,
  op (some 6) (.mv (.const (.int .i64 0))) none]
def r79_1 : List IOper := [op (some 9) (.fld 5 (.tmp 5)) none,
  op (some 10) (.load false 1 (.tmp 9)) none,
  op (some 11) (.load false 1 (.tmp 1)) none,
  op (some 12) (.call true (.const (.fn 80 [] [])) [(.tmp 10), (.tmp 11)]) none,
  op (some 7) (.mv (.tmp 12)) none]
def r79_2 : List IOper := [op (some 13) (.fld 0 (.tmp 5)) none,
  op (some 14) (.load false 1 (.tmp 13)) none]
def r79_3 : List IOper := [op (some 16) (.eq false .int (.tmp 14) (.const (.int .i64 1))) none,
  op (some 15) (.mv (.tmp 16)) none]
def r79_4 : List IOper := [op (some 17) (.fld 2 (.tmp 5)) none,
  op (some 18) (.fld 0 (.tmp 17)) none,
  op (some 19) (.load false 1 (.tmp 18)) none,
  op (some 6) (.mv (.tmp 19)) none]
def r79_5 : List IOper := [op (some 21) (.eq false .int (.tmp 14) (.const (.int .i64 2))) none,
  op (some 20) (.mv (.tmp 21)) none]
def r79_6 : List IOper := [op (some 22) (.fld 1 (.tmp 5)) none,
  op (some 23) (.load false 1 (.tmp 22)) none,
  op (some 24) (.load false 1 (.tmp 2)) none,
  op (some 25) (.len .slice (.tmp 24)) none,
  op (some 26) (.bin .lss (.tmp 23) (.tmp 25)) none,
  op (some 27) (.call false (.const (.fn 75 [] [])) [(.tmp 26), (.const (.int .i64 4))]) none]
def r79_7 : List IOper := [op (some 28) (.load false 1 (.tmp 2)) none,
  op (some 29) (.fld 1 (.tmp 5)) none,
  op (some 30) (.load false 1 (.tmp 29)) none,
  op (some 31) (.idx none 1 (.tmp 28) (.tmp 30)) none,
  op (some 32) (.load false 1 (.tmp 31)) none,
  op (some 6) (.mv (.tmp 32)) none]
def r79_8 : List IOper := [op (some 34) (.eq false .int (.tmp 14) (.const (.int .i64 3))) none,
  op (some 33) (.mv (.tmp 34)) none]
def r79_9 : List IOper := [op (some 35) (.fld 1 (.tmp 5)) none,
  op (some 36) (.load false 1 (.tmp 35)) none,
  op (some 37) (.load false 1 (.tmp 3)) none,
  op (some 38) (.len .slice (.tmp 37)) none,
  op (some 39) (.bin .lss (.tmp 36) (.tmp 38)) none,
  op (some 40) (.call false (.const (.fn 75 [] [])) [(.tmp 39), (.const (.int .i64 4))]) none]
def r79_10 : List IOper := [op (some 41) (.load false 1 (.tmp 3)) none,
  op (some 42) (.fld 1 (.tmp 5)) none,
  op (some 43) (.load false 1 (.tmp 42)) none,
  op (some 44) (.idx none 1 (.tmp 41) (.tmp 43)) none,
  op (some 45) (.load false 1 (.tmp 44)) none,
  op (some 6) (.mv (.tmp 45)) none]
def r79_11 : List IOper := [op (some 46) (.load false 1 (.tmp 4)) none,
  op (some 47) (.load true 6 (.tmp 5)) none,
  op (some 48) (.mv (.tmp 7)) none,
  op (some 49) (.call false (.const (.fn 81 [] [])) [(.tmp 46), (.tmp 47), (.tmp 48)]) none,
  op (some 8) (.mv (.tmp 49)) none]
def r79_12 : List IOper := [opx (some 50) (.load false 1 (.tmp 4)) none false false true false 0 [],
  opx (some 51) (.fld 0 (.tmp 5)) none true false true false 0 [],
  opx (some 52) (.load false 1 (.tmp 51)) none false false true false 2 [],
  opx (some 53) (.nilck (.tmp 50)) none true false true false 1 [],
  opx (some 54) (.idx (some 33) 6 (.tmp 53) (.tmp 52)) none true true true false 15 [],
  opx (some 55) (.fld 4 (.tmp 54)) none true true true false 31 [],
  opx (some 56) (.load false 1 (.tmp 55)) none true true true false 63 [],
  opx (some 57) (.eq false .int (.tmp 56) (.const (.int .i64 (-1)))) none true true true false 127 []]
def r79_13 : List IOper := [op (some 58) (.mv (.tmp 8)) none,
  op (some 6) (.mv (.tmp 58)) none]
def r79_14 : List IOper := [opx (some 59) (.load false 1 (.tmp 4)) none false false true false 0 [],
  opx (some 60) (.fld 0 (.tmp 5)) none true false true false 0 [],
  opx (some 61) (.load false 1 (.tmp 60)) none false false true false 2 [],
  opx (some 62) (.nilck (.tmp 59)) none true false true false 1 [],
  opx (some 63) (.idx (some 33) 6 (.tmp 62) (.tmp 61)) none true true true false 15 [],
  opx (some 64) (.fld 4 (.tmp 63)) none true true true false 31 [],
  opx (some 65) (.load false 1 (.tmp 64)) none true true true false 63 [],
  opx (some 6) (.mv (.tmp 65)) none true true true false 127 []]
def f79 : IFunc := { nt := 66, own := false, results := [.tmp 6], body := (.seq (.region r79_0) (.seq (.region r79_1) (.seq (.seq (.region r79_2) (.block 0 (.seq (.region r79_3) (.cond (.tmp 15) (.seq (.region r79_4) .ret) (.seq (.region r79_5) (.cond (.tmp 20) (.seq (.region r79_6) (.seq (.region r79_7) .ret)) (.seq (.region r79_8) (.cond (.tmp 33) (.seq (.region r79_9) (.seq (.region r79_10) .ret)) .skip)))))))) (.seq (.region r79_11) (.seq (.seq (.region r79_12) (.cond (.tmp 57) (.seq (.region r79_13) .ret) .skip)) (.seq (.region r79_14) .ret)))))) }
/-! 80: understory/expr.mapped[understory/api.Expr,int] -/
def r80_0 : List IOper := [op (some 4) (.mv (.const (.slice .full 1 []))) none]
def r80_1 : List IOper := [op (some 5) (.mv (.const (.slice .full 1 []))) none]
def r80_2 : List IOper := [op (some 8) (.mv (.tmp 0)) none,
  op (some 9) (.len .slice (.tmp 8)) none,
  op (some 10) (.mv (.const (.int .i64 0))) none]
def r80_3 : List IOper := [op (some 11) (.bin .lss (.tmp 10) (.tmp 9)) none]
def r80_4 : List IOper := [op (some 12) (.idx none 6 (.tmp 8) (.tmp 10)) none,
  op (some 13) (.load true 6 (.tmp 12)) none,
  op (some 7) (.alloc [(.int .i64 0), (.int .i64 0), (.int .i64 0), (.int .i64 0), (.str []), (.slice .full 6 [])]) none,
  op none (.store 6 (.tmp 7) (.tmp 13)) none]
def r80_5 : List IOper := [op (some 14) (.mv (.tmp 5)) none,
  op (some 15) (.mv (.tmp 1)) none,
  op (some 16) (.load true 6 (.tmp 7)) none,
  op (some 17) (.call false (.tmp 15) [(.tmp 16)]) none,
  op (some 18) (.buildSl 1 [(.tmp 17)]) none,
  op (some 19) (.append false false 1 8 (.tmp 14) (.tmp 18)) none,
  op (some 5) (.mv (.tmp 19)) none]
def r80_6 : List IOper := [op (some 20) (.bin .add (.tmp 10) (.const (.int .i64 1))) none,
  op (some 10) (.mv (.tmp 20)) none]
def l80_7 : IC := (.seq (.region r80_3) (.seq (.cond (.tmp 11) .skip (.exit 0)) (.seq (.block 1 (.seq (.region r80_4) (.region r80_5))) (.region r80_6))))
def r80_8 : List IOper := [op (some 21) (.mv (.tmp 5)) none,
  op (some 4) (.mv (.tmp 21)) none]
def f80 : IFunc := { nt := 22, own := true, results := [.tmp 4], body := (.seq (.region r80_0) (.seq (.region r80_1) (.seq (.seq (.region r80_2) (.block 0 (.loop l80_7))) (.seq (.region r80_8) .ret)))) }
/-! 81: (*understory/expr.operations).operands -/
def r81_0 : List IOper := [op (some 4) (.box (.tmp 1)) none,
  op (some 6) (.mv (.const (.int .i64 0))) none]
def r81_1 : List IOper := [opx (some 16) (.mv (.tmp 0)) none true false true false 0 [],
  opx (some 17) (.fld 0 (.tmp 4)) none true false true false 0 [],
  opx (some 18) (.load false 1 (.tmp 17)) none true false true false 2 [],
  opx (some 19) (.nilck (.tmp 16)) none true false true false 1 [],
  opx (some 20) (.idx (some 33) 6 (.tmp 19) (.tmp 18)) none true true true false 15 [],
  opx (some 21) (.fld 3 (.tmp 20)) none true true true false 31 [],
  opx (some 22) (.load false 1 (.tmp 21)) none true true true false 63 [],
  opx (some 7) (.mv (.tmp 22)) none true true true false 127 []]
def r81_2 : List IOper := [op (some 23) (.fld 0 (.tmp 4)) none,
  op (some 24) (.load false 1 (.tmp 23)) none]
def r81_3 : List IOper := [op (some 26) (.eq false .int (.tmp 24) (.const (.int .i64 20))) none,
  op (some 25) (.mv (.tmp 26)) none]
def r81_4 : List IOper := [op (some 8) (.mv (.const (.slice .full 1 []))) none]
def r81_5 : List IOper := [op (some 27) (.mv (.tmp 2)) none,
  op (some 28) (.len .slice (.tmp 27)) none,
  op (some 29) (.mv (.const (.int .i64 0))) none]
def r81_6 : List IOper := [op (some 30) (.bin .lss (.tmp 29) (.tmp 28)) none]
def r81_7 : List IOper := [op (some 31) (.mv (.tmp 29)) none,
  op (some 32) (.idx none 1 (.tmp 27) (.tmp 29)) none,
  op (some 33) (.load false 1 (.tmp 32)) none,
  op (some 9) (.mv (.tmp 31)) none,
  op (some 10) (.mv (.tmp 33)) none]
def r81_8 : List IOper := [op (some 34) (.mv (.tmp 9)) none,
  op (some 35) (.bin .rem (.tmp 34) (.const (.int .i64 2))) none,
  op (some 36) (.eq false .int (.tmp 35) (.const (.int .i64 0))) none,
  op (some 37) (.mv (.tmp 36)) none,
  op (some 38) (.mv (.tmp 9)) (some (37, true)),
  op (some 39) (.mv (.tmp 2)) (some (37, true)),
  op (some 40) (.len .slice (.tmp 39)) (some (37, true)),
  op (some 41) (.bin .sub (.tmp 40) (.const (.int .i64 1))) (some (37, true)),
  op (some 42) (.bin .lss (.tmp 38) (.tmp 41)) (some (37, true)),
  op (some 43) (.pick (.tmp 37) (.tmp 42) (.const (.bool false))) none]
def r81_9 : List IOper := [op (some 44) (.mv (.tmp 10)) none,
  op (some 45) (.eq false .int (.tmp 44) (.const (.int .i64 0))) none,
  op (some 46) (.mv (.tmp 45)) none,
  op (some 47) (.mv (.tmp 10)) (some (46, false)),
  op (some 48) (.eq false .int (.tmp 47) (.const (.int .i64 1))) (some (46, false)),
  op (some 49) (.pick (.tmp 46) (.const (.bool true)) (.tmp 48)) none,
  op (some 50) (.call false (.const (.fn 75 [] [])) [(.tmp 49), (.const (.int .i64 10))]) none]
def r81_10 : List IOper := [op (some 51) (.mv (.tmp 8)) none,
  op (some 52) (.mv (.tmp 10)) none,
  op (some 53) (.buildSl 1 [(.tmp 52)]) none,
  op (some 54) (.append false false 1 8 (.tmp 51) (.tmp 53)) none,
  op (some 8) (.mv (.tmp 54)) none]
def r81_11 : List IOper := [op (some 55) (.bin .add (.tmp 29) (.const (.int .i64 1))) none,
  op (some 29) (.mv (.tmp 55)) none]
def l81_12 : IC := (.seq (.region r81_6) (.seq (.cond (.tmp 30) .skip (.exit 1)) (.seq (.block 2 (.seq (.region r81_7) (.seq (.region r81_8) (.cond (.tmp 43) (.region r81_9) (.region r81_10))))) (.region r81_11))))
def r81_13 : List IOper := [op (some 56) (.mv (.tmp 8)) none,
  op (some 57) (.call false (.const (.fn 154 [] [])) [(.tmp 56)]) none,
  op (some 6) (.mv (.tmp 57)) none]
def r81_14 : List IOper := [op (some 59) (.eq false .int (.tmp 24) (.const (.int .i64 25))) none,
  op (some 58) (.mv (.tmp 59)) none]
def r81_15 : List IOper := [op (some 60) (.mv (.tmp 2)) none,
  op (some 61) (.len .slice (.tmp 60)) none,
  op (some 62) (.mv (.const (.int .i64 0))) none]
def r81_16 : List IOper := [op (some 63) (.bin .lss (.tmp 62) (.tmp 61)) none]
def r81_17 : List IOper := [op (some 64) (.mv (.tmp 62)) none,
  op (some 65) (.idx none 1 (.tmp 60) (.tmp 62)) none,
  op (some 66) (.load false 1 (.tmp 65)) none,
  op (some 11) (.mv (.tmp 64)) none,
  op (some 12) (.mv (.tmp 66)) none]
def r81_18 : List IOper := [op (some 13) (.mv (.const (.int .i64 2))) none]
def r81_19 : List IOper := [op (some 67) (.mv (.tmp 11)) none,
  op (some 68) (.eq false .int (.tmp 67) (.const (.int .i64 0))) none]
def r81_20 : List IOper := [op (some 13) (.mv (.const (.int .i64 3))) none]
def r81_21 : List IOper := [op (some 69) (.mv (.tmp 12)) none,
  op (some 70) (.eq false .int (.tmp 69) (.const (.int .i64 0))) none,
  op (some 71) (.mv (.tmp 70)) none,
  op (some 72) (.mv (.tmp 12)) (some (71, false)),
  op (some 73) (.mv (.tmp 13)) (some (71, false)),
  op (some 74) (.eq false .int (.tmp 72) (.tmp 73)) (some (71, false)),
  op (some 75) (.pick (.tmp 71) (.const (.bool true)) (.tmp 74)) none,
  op (some 76) (.call false (.const (.fn 75 [] [])) [(.tmp 75), (.const (.int .i64 10))]) none]
def r81_22 : List IOper := [op (some 77) (.bin .add (.tmp 62) (.const (.int .i64 1))) none,
  op (some 62) (.mv (.tmp 77)) none]
def l81_23 : IC := (.seq (.region r81_16) (.seq (.cond (.tmp 63) .skip (.exit 3)) (.seq (.block 4 (.seq (.region r81_17) (.seq (.region r81_18) (.seq (.seq (.region r81_19) (.cond (.tmp 68) (.region r81_20) .skip)) (.region r81_21))))) (.region r81_22))))
def r81_24 : List IOper := [op (some 6) (.mv (.const (.int .i64 0))) none]
def r81_25 : List IOper := [op (some 78) (.mv (.tmp 7)) none,
  op (some 79) (.eq false .int (.tmp 78) (.const (.int .i64 (-1)))) none]
def r81_26 : List IOper := [op (some 80) (.mv (.tmp 2)) none,
  op (some 81) (.call false (.const (.fn 154 [] [])) [(.tmp 80)]) none,
  op (some 6) (.mv (.tmp 81)) none]
def r81_27 : List IOper := [op (some 82) (.mv (.tmp 2)) none,
  op (some 83) (.len .slice (.tmp 82)) none,
  op (some 84) (.mv (.const (.int .i64 0))) none]
def r81_28 : List IOper := [op (some 85) (.bin .lss (.tmp 84) (.tmp 83)) none]
def r81_29 : List IOper := [op (some 86) (.idx none 1 (.tmp 82) (.tmp 84)) none,
  op (some 87) (.load false 1 (.tmp 86)) none,
  op (some 15) (.mv (.tmp 87)) none]
def r81_30 : List IOper := [op (some 88) (.mv (.tmp 7)) none,
  op (some 89) (.eq false .int (.tmp 88) (.const (.int .i64 0))) none,
  op (some 90) (.mv (.tmp 89)) none,
  op (some 91) (.mv (.tmp 15)) (some (90, false)),
  op (some 92) (.eq false .int (.tmp 91) (.const (.int .i64 0))) (some (90, false)),
  op (some 93) (.pick (.tmp 90) (.const (.bool true)) (.tmp 92)) none,
  op (some 94) (.mv (.tmp 93)) none,
  op (some 95) (.mv (.tmp 15)) (some (94, false)),
  op (some 96) (.mv (.tmp 7)) (some (94, false)),
  op (some 97) (.eq false .int (.tmp 95) (.tmp 96)) (some (94, false)),
  op (some 98) (.pick (.tmp 94) (.const (.bool true)) (.tmp 97)) none,
  op (some 99) (.call false (.const (.fn 75 [] [])) [(.tmp 98), (.const (.int .i64 10))]) none]
def r81_31 : List IOper := [op (some 100) (.bin .add (.tmp 84) (.const (.int .i64 1))) none,
  op (some 84) (.mv (.tmp 100)) none]
def l81_32 : IC := (.seq (.region r81_28) (.seq (.cond (.tmp 85) .skip (.exit 5)) (.seq (.block 6 (.seq (.region r81_29) (.region r81_30))) (.region r81_31))))
def r81_33 : List IOper := [op (some 6) (.mv (.const (.int .i64 0))) none]
def f81 : IFunc := { nt := 101, own := false, results := [.tmp 6], body := (.seq (.region r81_0) (.seq (.region r81_1) (.seq (.seq (.region r81_2) (.block 0 (.seq (.region r81_3) (.cond (.tmp 25) (.seq (.region r81_4) (.seq (.seq (.region r81_5) (.block 1 (.loop l81_12))) (.seq (.region r81_13) .ret))) (.seq (.region r81_14) (.cond (.tmp 58) (.seq (.seq (.region r81_15) (.block 3 (.loop l81_23))) (.seq (.region r81_24) .ret)) .skip)))))) (.seq (.seq (.region r81_25) (.cond (.tmp 79) (.seq (.region r81_26) .ret) .skip)) (.seq (.seq (.region r81_27) (.block 5 (.loop l81_32))) (.seq (.region r81_33) .ret)))))) }
/-! 82: understory/understoryref23.areKinds -/
def r82_0 : List IOper := [op (some 2) (.mv (.const (.bool false))) none]
def r82_1 : List IOper := [op (some 3) (.mv (.const (.int .i64 0))) none]
def r82_2 : List IOper := [op (some 4) (.mv (.tmp 3)) none,
  op (some 5) (.mv (.tmp 0)) none,
  op (some 6) (.len .slice (.tmp 5)) none,
  op (some 7) (.bin .lss (.tmp 4) (.tmp 6)) none]
def r82_3 : List IOper := [op (some 10) (.mv (.tmp 0)) none,
  op (some 11) (.mv (.tmp 3)) none,
  op (some 12) (.idx none 1 (.tmp 10) (.tmp 11)) none,
  op (some 13) (.load false 1 (.tmp 12)) none,
  op (some 14) (.eq true .int (.tmp 13) (.const (.int .i64 1))) none,
  op (some 15) (.mv (.tmp 14)) none,
  op (some 16) (.mv (.tmp 0)) (some (15, true)),
  op (some 17) (.mv (.tmp 3)) (some (15, true)),
  op (some 18) (.idx none 1 (.tmp 16) (.tmp 17)) (some (15, true)),
  op (some 19) (.load false 1 (.tmp 18)) (some (15, true)),
  op (some 20) (.eq true .int (.tmp 19) (.const (.int .i64 2))) (some (15, true)),
  op (some 21) (.pick (.tmp 15) (.tmp 20) (.const (.bool false))) none,
  op (some 22) (.mv (.tmp 21)) none,
  op (some 23) (.mv (.tmp 0)) (some (22, true)),
  op (some 24) (.mv (.tmp 3)) (some (22, true)),
  op (some 25) (.idx none 1 (.tmp 23) (.tmp 24)) (some (22, true)),
  op (some 26) (.load false 1 (.tmp 25)) (some (22, true)),
  op (some 27) (.eq true .int (.tmp 26) (.const (.int .i64 3))) (some (22, true)),
  op (some 28) (.pick (.tmp 22) (.tmp 27) (.const (.bool false))) none]
def r82_4 : List IOper := [op (some 2) (.mv (.const (.bool false))) none]
def r82_5 : List IOper := [op (some 8) (.mv (.tmp 3)) none,
  op (some 9) (.bin .add (.tmp 8) (.const (.int .i64 1))) none,
  op (some 3) (.mv (.tmp 9)) none]
def l82_6 : IC := (.seq (.seq (.region r82_2) (.cond (.tmp 7) .skip (.exit 0))) (.seq (.block 1 (.seq (.region r82_3) (.cond (.tmp 28) (.seq (.region r82_4) .ret) .skip))) (.region r82_5)))
def r82_7 : List IOper := [op (some 2) (.mv (.const (.bool true))) none]
def f82 : IFunc := { nt := 29, own := false, results := [.tmp 2], body := (.seq (.region r82_0) (.seq (.seq (.region r82_1) (.block 0 (.loop l82_6))) (.seq (.region r82_7) .ret))) }
/-! 83: understory/understoryref23.Kinds -/
def r83_0 : List IOper := [op (some 3) (.box (.tmp 0)) none,
  op (some 6) (.alloc [(.int .i64 0), (.int .i64 0)]) none]
def r83_1 : List IOper := [op (some 10) (.fld 0 (.tmp 3)) none,
  op (some 11) (.load false 1 (.tmp 10)) none]
def r83_2 : List IOper := [op (some 13) (.eq false .int (.tmp 11) (.const (.int .i64 1))) none,
  op (some 12) (.mv (.tmp 13)) none]
def r83_3 : List IOper := [op (some 14) (.fld 2 (.tmp 3)) none,
  op (some 15) (.fld 0 (.tmp 14)) none,
  op (some 16) (.load false 1 (.tmp 15)) none,
  op (some 17) (.build [(.int .i64 0), (.int .i64 0)] [(0, 1, (.tmp 16))]) none,
  op none (.store 2 (.tmp 6) (.tmp 17)) none]
def r83_4 : List IOper := [op (some 19) (.eq false .int (.tmp 11) (.const (.int .i64 2))) none,
  op (some 18) (.mv (.tmp 19)) none]
def r83_5 : List IOper := [op (some 20) (.fld 1 (.tmp 3)) none,
  op (some 21) (.load false 1 (.tmp 20)) none,
  op (some 22) (.mv (.tmp 1)) none,
  op (some 23) (.len .slice (.tmp 22)) none,
  op (some 24) (.bin .geq (.tmp 21) (.tmp 23)) none]
def r83_6 : List IOper := [op (some 25) (.build [(.int .i64 0), (.int .i64 0)] [(1, 1, (.const (.int .i64 4)))]) none,
  op none (.store 2 (.tmp 6) (.tmp 25)) none]
def r83_7 : List IOper := [op (some 26) (.mv (.tmp 1)) none,
  op (some 27) (.fld 1 (.tmp 3)) none,
  op (some 28) (.load false 1 (.tmp 27)) none,
  op (some 29) (.idx none 1 (.tmp 26) (.tmp 28)) none,
  op (some 30) (.load false 1 (.tmp 29)) none,
  op (some 31) (.build [(.int .i64 0), (.int .i64 0)] [(0, 1, (.tmp 30))]) none,
  op none (.store 2 (.tmp 6) (.tmp 31)) none]
def r83_8 : List IOper := [op (some 33) (.eq false .int (.tmp 11) (.const (.int .i64 3))) none,
  op (some 32) (.mv (.tmp 33)) none]
def r83_9 : List IOper := [op (some 34) (.fld 1 (.tmp 3)) none,
  op (some 35) (.load false 1 (.tmp 34)) none,
  op (some 36) (.mv (.tmp 2)) none,
  op (some 37) (.len .slice (.tmp 36)) none,
  op (some 38) (.bin .geq (.tmp 35) (.tmp 37)) none]
def r83_10 : List IOper := [op (some 39) (.build [(.int .i64 0), (.int .i64 0)] [(1, 1, (.const (.int .i64 4)))]) none,
  op none (.store 2 (.tmp 6) (.tmp 39)) none]
def r83_11 : List IOper := [op (some 40) (.mv (.tmp 2)) none,
  op (some 41) (.fld 1 (.tmp 3)) none,
  op (some 42) (.load false 1 (.tmp 41)) none,
  op (some 43) (.idx none 1 (.tmp 40) (.tmp 42)) none,
  op (some 44) (.load false 1 (.tmp 43)) none,
  op (some 45) (.build [(.int .i64 0), (.int .i64 0)] [(0, 1, (.tmp 44))]) none,
  op none (.store 2 (.tmp 6) (.tmp 45)) none]
def r83_12 : List IOper := [op (some 7) (.mv (.const (.slice .full 1 []))) none]
def r83_13 : List IOper := [op (some 8) (.mv (.const (.int .i64 0))) none]
def r83_14 : List IOper := [op (some 46) (.mv (.tmp 8)) none,
  op (some 47) (.fld 5 (.tmp 3)) none,
  op (some 48) (.load false 1 (.tmp 47)) none,
  op (some 49) (.len .slice (.tmp 48)) none,
  op (some 50) (.bin .lss (.tmp 46) (.tmp 49)) none]
def r83_15 : List IOper := [op (some 53) (.fld 5 (.tmp 3)) none,
  op (some 54) (.load false 1 (.tmp 53)) none,
  op (some 55) (.mv (.tmp 8)) none,
  op (some 56) (.idx none 6 (.tmp 54) (.tmp 55)) none,
  op (some 57) (.load true 6 (.tmp 56)) none,
  op (some 58) (.mv (.tmp 1)) none,
  op (some 59) (.mv (.tmp 2)) none,
  op (some 60) (.call false (.const (.fn 83 [] [])) [(.tmp 57), (.tmp 58), (.tmp 59)]) none,
  op (some 9) (.alloc [(.int .i64 0), (.int .i64 0)]) none,
  op none (.store 2 (.tmp 9) (.tmp 60)) none]
def r83_16 : List IOper := [op (some 61) (.fld 1 (.tmp 9)) none,
  op (some 62) (.load false 1 (.tmp 61)) none,
  op (some 63) (.eq true .int (.tmp 62) (.const (.int .i64 0))) none]
def r83_17 : List IOper := [op (some 64) (.load true 2 (.tmp 9)) none,
  op none (.store 2 (.tmp 6) (.tmp 64)) none]
def r83_18 : List IOper := [op (some 65) (.mv (.tmp 7)) none,
  op (some 66) (.fld 0 (.tmp 9)) none,
  op (some 67) (.load false 1 (.tmp 66)) none,
  op (some 68) (.buildSl 1 [(.tmp 67)]) none,
  op (some 69) (.append false false 1 8 (.tmp 65) (.tmp 68)) none,
  op (some 7) (.mv (.tmp 69)) none]
def r83_19 : List IOper := [op (some 51) (.mv (.tmp 8)) none,
  op (some 52) (.bin .add (.tmp 51) (.const (.int .i64 1))) none,
  op (some 8) (.mv (.tmp 52)) none]
def l83_20 : IC := (.seq (.seq (.region r83_14) (.cond (.tmp 50) .skip (.exit 1))) (.seq (.block 2 (.seq (.region r83_15) (.seq (.seq (.region r83_16) (.cond (.tmp 63) (.seq (.region r83_17) .ret) .skip)) (.region r83_18)))) (.region r83_19)))
def r83_21 : List IOper := [op (some 70) (.load true 6 (.tmp 3)) none,
  op (some 71) (.mv (.tmp 7)) none,
  op (some 72) (.call false (.const (.fn 155 [] [])) [(.tmp 70), (.tmp 71)]) none,
  op none (.store 2 (.tmp 6) (.tmp 72)) none]
def f83 : IFunc := { nt := 73, own := false, results := [.cell 6 true 2], body := (.seq (.region r83_0) (.seq (.seq (.region r83_1) (.block 0 (.seq (.region r83_2) (.cond (.tmp 12) (.seq (.region r83_3) .ret) (.seq (.region r83_4) (.cond (.tmp 18) (.seq (.seq (.region r83_5) (.cond (.tmp 24) (.seq (.region r83_6) .ret) .skip)) (.seq (.region r83_7) .ret)) (.seq (.region r83_8) (.cond (.tmp 32) (.seq (.seq (.region r83_9) (.cond (.tmp 38) (.seq (.region r83_10) .ret) .skip)) (.seq (.region r83_11) .ret)) .skip)))))))) (.seq (.region r83_12) (.seq (.seq (.region r83_13) (.block 1 (.loop l83_20))) (.seq (.region r83_21) .ret))))) }
/-! 84: understory/expr.bounds -/
def r84_0 : List IOper := [op (some 2) (.box (.tmp 0)) none,
  op (some 3) (.box (.tmp 1)) none,
  op (some 4) (.alloc [(.bool false), (.bool false), (.bool false), (.bool false), (.bool false), (.int .i64 0), (.int .i64 0), (.str []), (.int .i64 0), (.int .i64 0), (.str [])]) none]
def r84_1 : List IOper := [op (some 15) (.mkF 156 [] [(.tmp 3)]) none,
  op (some 5) (.mv (.tmp 15)) none]
def r84_2 : List IOper := [op (some 6) (.alloc [(.bool false), (.bool false), (.bool false), (.bool false), (.bool false), (.int .i64 0), (.int .i64 0), (.str []), (.int .i64 0), (.int .i64 0), (.str [])]) none]
def r84_3 : List IOper := [op (some 16) (.fld 0 (.tmp 2)) none,
  op (some 17) (.load false 1 (.tmp 16)) none]
def r84_4 : List IOper := [op (some 19) (.eq false .int (.tmp 17) (.const (.int .i64 1))) none,
  op (some 18) (.mv (.tmp 19)) none]
def r84_5 : List IOper := [op (some 20) (.fld 2 (.tmp 2)) none,
  opx (some 21) (.fld 0 (.tmp 20)) none true true true false 1 [],
  opx (some 22) (.load false 1 (.tmp 21)) none true true true false 3 [],
  opx (some 23) (.eq false .int (.tmp 22) (.const (.int .i64 0))) none true true true false 7 [],
  opx (some 24) (.mv (.tmp 23)) none true true true false 15 [],
  opx (some 25) (.fld 2 (.tmp 2)) (some (24, false)) true false true false 31 [],
  opx (some 26) (.load true 3 (.tmp 25)) (some (24, false)) false false true false 63 [],
  opx (some 27) (.call false (.const (.fn 99 [] [])) [(.const (.bool false))]) (some (24, false)) false false true false 31 [],
  opx (some 28) (.eq false (.agg [.int, .int, .str]) (.tmp 26) (.tmp 27)) (some (24, false)) true true true false 255 [],
  opx (some 29) (.pick (.tmp 24) (.const (.bool true)) (.tmp 28)) none true true true false 511 [],
  opx (some 30) (.fld 4 (.tmp 6)) none true true true false 1023 [],
  opx none (.store 1 (.tmp 30) (.tmp 29)) none true true true true 2047 []]
def r84_6 : List IOper := [op (some 32) (.eq false .int (.tmp 17) (.const (.int .i64 10))) none,
  op (some 31) (.mv (.tmp 32)) none]
def r84_7 : List IOper := [op (some 33) (.eq false .int (.tmp 17) (.const (.int .i64 12))) none,
  op (some 31) (.mv (.tmp 33)) none]
def r84_8 : List IOper := [op (some 34) (.eq false .int (.tmp 17) (.const (.int .i64 13))) none,
  op (some 31) (.mv (.tmp 34)) none]
def r84_9 : List IOper := [op (some 35) (.eq false .int (.tmp 17) (.const (.int .i64 14))) none,
  op (some 31) (.mv (.tmp 35)) none]
def r84_10 : List IOper := [op (some 36) (.eq false .int (.tmp 17) (.const (.int .i64 15))) none,
  op (some 31) (.mv (.tmp 36)) none]
def r84_11 : List IOper := [opx (some 37) (.fld 5 (.tmp 2)) none true false true false 0 [],
  opx (some 38) (.load false 1 (.tmp 37)) none false false true false 1 [],
  opx (some 39) (.idx none 6 (.tmp 38) (.const (.int .i64 0))) none true false true false 3 [],
  opx (some 40) (.load true 6 (.tmp 39)) none false false true false 7 [],
  opx (some 41) (.fld 5 (.tmp 2)) none true false false false 0 [],
  opx (some 42) (.load false 1 (.tmp 41)) none false false false false 16 [10],
  opx (some 43) (.idx none 6 (.tmp 42) (.const (.int .i64 1))) none true false false false 48 [],
  opx (some 44) (.load true 6 (.tmp 43)) none false false false false 112 [10],
  opx (some 7) (.alloc [(.int .i64 0), (.int .i64 0), (.int .i64 0), (.int .i64 0), (.str []), (.slice .full 6 [])]) none false false true false 0 [],
  opx (some 8) (.alloc [(.int .i64 0), (.int .i64 0), (.int .i64 0), (.int .i64 0), (.str []), (.slice .full 6 [])]) none false false true false 0 [],
  opx none (.store 6 (.tmp 7) (.tmp 40)) none false false true true 783 [5, 7],
  opx none (.store 6 (.tmp 8) (.tmp 44)) none true true true true 2047 []]
def r84_12 : List IOper := [op (some 45) (.mv (.tmp 5)) none,
  op (some 46) (.load true 6 (.tmp 7)) none,
  op (some 47) (.call false (.tmp 45) [(.tmp 46)]) none,
  op (some 48) (.mv (.tmp 47)) none,
  op (some 49) (.fld 0 (.tmp 8)) (some (48, true)),
  op (some 50) (.load false 1 (.tmp 49)) (some (48, true)),
  op (some 51) (.eq false .int (.tmp 50) (.const (.int .i64 1))) (some (48, true)),
  op (some 52) (.pick (.tmp 48) (.tmp 51) (.const (.bool false))) none]
def r84_13 : List IOper := [op (some 53) (.fld 0 (.tmp 2)) none,
  op (some 54) (.load false 1 (.tmp 53)) none,
  op (some 55) (.fld 2 (.tmp 8)) none,
  op (some 56) (.load true 3 (.tmp 55)) none,
  op (some 57) (.call false (.const (.fn 157 [] [])) [(.tmp 54), (.tmp 56)]) none,
  op none (.store 11 (.tmp 4) (.tmp 57)) none]
def r84_14 : List IOper := [op (some 58) (.mv (.tmp 5)) none,
  op (some 59) (.load true 6 (.tmp 8)) none,
  op (some 60) (.call false (.tmp 58) [(.tmp 59)]) none,
  op (some 61) (.mv (.tmp 60)) none,
  op (some 62) (.fld 0 (.tmp 7)) (some (61, true)),
  op (some 63) (.load false 1 (.tmp 62)) (some (61, true)),
  op (some 64) (.eq false .int (.tmp 63) (.const (.int .i64 1))) (some (61, true)),
  op (some 65) (.pick (.tmp 61) (.tmp 64) (.const (.bool false))) none]
def r84_15 : List IOper := [opx (some 66) (.fld 0 (.tmp 2)) none true false true false 0 [],
  opx (some 67) (.load false 1 (.tmp 66)) none false false true false 1 [],
  opx (some 68) (.call false (.const (.fn 158 [] [])) [(.tmp 67)]) none false false true false 3 [],
  opx (some 69) (.fld 2 (.tmp 7)) none true false true false 0 [],
  opx (some 70) (.load true 3 (.tmp 69)) none false false true false 8 [],
  opx (some 71) (.call false (.const (.fn 157 [] [])) [(.tmp 68), (.tmp 70)]) none true true true false 31 [],
  opx none (.store 11 (.tmp 4) (.tmp 71)) none true true true true 63 []]
def r84_16 : List IOper := [op (some 73) (.eq false .int (.tmp 17) (.const (.int .i64 22))) none,
  op (some 72) (.mv (.tmp 73)) none]
def r84_17 : List IOper := [op (some 74) (.mv (.tmp 5)) none,
  op (some 75) (.fld 5 (.tmp 2)) none,
  op (some 76) (.load false 1 (.tmp 75)) none,
  op (some 77) (.idx none 6 (.tmp 76) (.const (.int .i64 0))) none,
  op (some 78) (.load true 6 (.tmp 77)) none,
  op (some 79) (.call false (.tmp 74) [(.tmp 78)]) none,
  op (some 80) (.un .not (.tmp 79)) none]
def r84_18 : List IOper := [op (some 81) (.load true 11 (.tmp 6)) none,
  op none (.store 11 (.tmp 4) (.tmp 81)) none]
def r84_19 : List IOper := [op (some 82) (.fld 4 (.tmp 6)) none,
  op none (.store 1 (.tmp 82) (.const (.bool true))) none]
def r84_20 : List IOper := [op (some 83) (.fld 5 (.tmp 2)) none,
  op (some 84) (.load false 1 (.tmp 83)) none,
  op (some 85) (.slice 6 (.tmp 84) (some (.const (.int .i64 1))) none none) none,
  op (some 86) (.len .slice (.tmp 85)) none,
  op (some 87) (.mv (.const (.int .i64 0))) none]
def r84_21 : List IOper := [op (some 88) (.bin .lss (.tmp 87) (.tmp 86)) none]
def r84_22 : List IOper := [op (some 89) (.idx none 6 (.tmp 85) (.tmp 87)) none,
  op (some 90) (.load true 6 (.tmp 89)) none,
  op (some 10) (.alloc [(.int .i64 0), (.int .i64 0), (.int .i64 0), (.int .i64 0), (.str []), (.slice .full 6 [])]) none,
  op none (.store 6 (.tmp 10) (.tmp 90)) none]
def r84_23 : List IOper := [op (some 91) (.fld 0 (.tmp 10)) none,
  op (some 92) (.load false 1 (.tmp 91)) none,
  op (some 93) (.eq true .int (.tmp 92) (.const (.int .i64 1))) none]
def r84_24 : List IOper := [op (some 94) (.build [(.bool false), (.bool false), (.bool false), (.bool false), (.bool false), (.int .i64 0), (.int .i64 0), (.str []), (.int .i64 0), (.int .i64 0), (.str [])] []) none,
  op none (.store 11 (.tmp 4) (.tmp 94)) none]
def r84_25 : List IOper := [opx (some 95) (.load true 11 (.tmp 6)) none false false true false 0 [],
  opx (some 96) (.fld 2 (.tmp 10)) none true false true false 0 [],
  opx (some 97) (.load true 3 (.tmp 96)) none false false true false 2 [],
  opx (some 98) (.call false (.const (.fn 157 [] [])) [(.const (.int .i64 10)), (.tmp 97)]) none false false true false 6 [],
  opx (some 99) (.call false (.const (.fn 25 [] [])) [(.tmp 95), (.tmp 98)]) none true true true false 15 [],
  opx none (.store 11 (.tmp 6) (.tmp 99)) none true true true true 31 []]
def r84_26 : List IOper := [op (some 100) (.bin .add (.tmp 87) (.const (.int .i64 1))) none,
  op (some 87) (.mv (.tmp 100)) none]
def l84_27 : IC := (.seq (.region r84_21) (.seq (.cond (.tmp 88) .skip (.exit 1)) (.seq (.block 2 (.seq (.region r84_22) (.seq (.seq (.region r84_23) (.cond (.tmp 93) (.seq (.region r84_24) .ret) .skip)) (.region r84_25)))) (.region r84_26))))
def r84_28 : List IOper := [op (some 102) (.eq false .int (.tmp 17) (.const (.int .i64 16))) none,
  op (some 101) (.mv (.tmp 102)) none]
def r84_29 : List IOper := [op (some 103) (.fld 5 (.tmp 2)) none,
  op (some 104) (.load false 1 (.tmp 103)) none,
  op (some 105) (.len .slice (.tmp 104)) none,
  op (some 106) (.mv (.const (.int .i64 0))) none]
def r84_30 : List IOper := [op (some 107) (.bin .lss (.tmp 106) (.tmp 105)) none]
def r84_31 : List IOper := [op (some 108) (.idx none 6 (.tmp 104) (.tmp 106)) none,
  op (some 109) (.load true 6 (.tmp 108)) none,
  op (some 12) (.alloc [(.int .i64 0), (.int .i64 0), (.int .i64 0), (.int .i64 0), (.str []), (.slice .full 6 [])]) none,
  op none (.store 6 (.tmp 12) (.tmp 109)) none]
def r84_32 : List IOper := [opx (some 110) (.load true 11 (.tmp 6)) none false false true false 0 [],
  opx (some 111) (.load true 6 (.tmp 12)) none false false true false 0 [],
  opx (some 112) (.load false 1 (.tmp 3)) none false false true false 0 [],
  opx (some 113) (.call false (.const (.fn 84 [] [])) [(.tmp 111), (.tmp 112)]) none false false true false 6 [],
  opx (some 114) (.call false (.const (.fn 24 [] [])) [(.tmp 110), (.tmp 113)]) none true true true false 15 [],
  opx none (.store 11 (.tmp 6) (.tmp 114)) none true true true true 31 []]
def r84_33 : List IOper := [op (some 115) (.bin .add (.tmp 106) (.const (.int .i64 1))) none,
  op (some 106) (.mv (.tmp 115)) none]
def l84_34 : IC := (.seq (.region r84_30) (.seq (.cond (.tmp 107) .skip (.exit 3)) (.seq (.block 4 (.seq (.region r84_31) (.region r84_32))) (.region r84_33))))
def r84_35 : List IOper := [op (some 117) (.eq false .int (.tmp 17) (.const (.int .i64 17))) none,
  op (some 116) (.mv (.tmp 117)) none]
def r84_36 : List IOper := [op (some 118) (.fld 4 (.tmp 6)) none,
  op none (.store 1 (.tmp 118) (.const (.bool true))) none]
def r84_37 : List IOper := [op (some 119) (.fld 5 (.tmp 2)) none,
  op (some 120) (.load false 1 (.tmp 119)) none,
  op (some 121) (.len .slice (.tmp 120)) none,
  op (some 122) (.mv (.const (.int .i64 0))) none]
def r84_38 : List IOper := [op (some 123) (.bin .lss (.tmp 122) (.tmp 121)) none]
def r84_39 : List IOper := [op (some 124) (.idx none 6 (.tmp 120) (.tmp 122)) none,
  op (some 125) (.load true 6 (.tmp 124)) none,
  op (some 14) (.alloc [(.int .i64 0), (.int .i64 0), (.int .i64 0), (.int .i64 0), (.str []), (.slice .full 6 [])]) none,
  op none (.store 6 (.tmp 14) (.tmp 125)) none]
def r84_40 : List IOper := [opx (some 126) (.load true 11 (.tmp 6)) none false false true false 0 [],
  opx (some 127) (.load true 6 (.tmp 14)) none false false true false 0 [],
  opx (some 128) (.load false 1 (.tmp 3)) none false false true false 0 [],
  opx (some 129) (.call false (.const (.fn 84 [] [])) [(.tmp 127), (.tmp 128)]) none false false true false 6 [],
  opx (some 130) (.call false (.const (.fn 25 [] [])) [(.tmp 126), (.tmp 129)]) none true true true false 15 [],
  opx none (.store 11 (.tmp 6) (.tmp 130)) none true true true true 31 []]
def r84_41 : List IOper := [op (some 131) (.bin .add (.tmp 122) (.const (.int .i64 1))) none,
  op (some 122) (.mv (.tmp 131)) none]
def l84_42 : IC := (.seq (.region r84_38) (.seq (.cond (.tmp 123) .skip (.exit 5)) (.seq (.block 6 (.seq (.region r84_39) (.region r84_40))) (.region r84_41))))
def r84_43 : List IOper := [op (some 132) (.load true 11 (.tmp 6)) none,
  op none (.store 11 (.tmp 4) (.tmp 132)) none]
def f84 : IFunc := { nt := 133, own := false, results := [.cell 4 true 11], body := (.seq (.region r84_0) (.seq (.region r84_1) (.seq (.region r84_2) (.seq (.seq (.region r84_3) (.block 0 (.seq (.region r84_4) (.cond (.tmp 18) (.region r84_5) (.seq (.seq (.region r84_6) (.cond (.tmp 31) .skip (.seq (.region r84_7) (.cond (.tmp 31) .skip (.seq (.region r84_8) (.cond (.tmp 31) .skip (.seq (.region r84_9) (.cond (.tmp 31) .skip (.region r84_10))))))))) (.cond (.tmp 31) (.seq (.region r84_11) (.seq (.seq (.region r84_12) (.cond (.tmp 52) (.seq (.region r84_13) .ret) .skip)) (.seq (.region r84_14) (.cond (.tmp 65) (.seq (.region r84_15) .ret) .skip)))) (.seq (.region r84_16) (.cond (.tmp 72) (.seq (.seq (.region r84_17) (.cond (.tmp 80) (.seq (.region r84_18) .ret) .skip)) (.seq (.region r84_19) (.seq (.region r84_20) (.block 1 (.loop l84_27))))) (.seq (.region r84_28) (.cond (.tmp 101) (.seq (.region r84_29) (.block 3 (.loop l84_34))) (.seq (.region r84_35) (.cond (.tmp 116) (.seq (.region r84_36) (.seq (.region r84_37) (.block 5 (.loop l84_42)))) .skip)))))))))))) (.seq (.region r84_43) .ret))))) }
/-! 86: understory/enc.CompareData -/
def r86_0 : List IOper := [op (some 2) (.box (.tmp 0)) none,
  op (some 3) (.box (.tmp 1)) none,
  op (some 4) (.mv (.const (.int .i64 0))) none]
def r86_1 : List IOper := [opx (some 5) (.fld 0 (.tmp 2)) none true false true false 0 [],
  opx (some 6) (.load false 1 (.tmp 5)) none false false true false 1 [],
  opx (some 7) (.fld 0 (.tmp 3)) none true false true false 0 [],
  opx (some 8) (.load false 1 (.tmp 7)) none false false true false 4 [],
  opx (some 9) (.call false (.const (.fn 164 [] [])) [(.tmp 6), (.tmp 8)]) none false false true false 15 [],
  opx (some 10) (.fld 1 (.tmp 2)) none true false true false 0 [],
  opx (some 11) (.load false 1 (.tmp 10)) none false false true false 32 [],
  opx (some 12) (.fld 1 (.tmp 3)) none true false true false 0 [],
  opx (some 13) (.load false 1 (.tmp 12)) none false false true false 128 [],
  opx (some 14) (.call false (.const (.fn 164 [] [])) [(.tmp 11), (.tmp 13)]) none false false true false 511 [],
  opx (some 15) (.fld 2 (.tmp 2)) none true false true false 0 [],
  opx (some 16) (.load false 1 (.tmp 15)) none false false true false 1024 [],
  opx (some 17) (.fld 2 (.tmp 3)) none true false true false 0 [],
  opx (some 18) (.load false 1 (.tmp 17)) none false false true false 4096 [],
  opx (some 19) (.call false (.const (.fn 165 [] [])) [(.tmp 16), (.tmp 18)]) none true true true false 16383 [],
  opx (some 20) (.buildSl 1 [(.tmp 9), (.tmp 14), (.tmp 19)]) none true true true false 32767 [],
  opx (some 21) (.call false (.const (.fn 163 [] [])) [(.tmp 20)]) none true true true false 65535 [],
  opx (some 4) (.mv (.tmp 21)) none true true true false 131071 []]
def f86 : IFunc := { nt := 22, own := false, results := [.tmp 4], body := (.seq (.region r86_0) (.seq (.region r86_1) .ret)) }
/-! 89: understory/expr.Eval$1 -/
def r89_0 : List IOper := [op (some 1) (.build [(.int .i64 0), (.int .i64 0), (.str [])] []) none,
  op none (.store 3 (.tmp 0) (.tmp 1)) none]
def f89 : IFunc := { nt := 2, own := false, results := [], body := (.region r89_0) }
/-! 90: understory/expr.valid -/
def r90_0 : List IOper := [op (some 4) (.mv (.tmp 0)) none,
  op (some 5) (.len .slice (.tmp 4)) none,
  op (some 6) (.mv (.const (.int .i64 0))) none]
def r90_1 : List IOper := [op (some 7) (.bin .lss (.tmp 6) (.tmp 5)) none]
def r90_2 : List IOper := [op (some 8) (.idx none 3 (.tmp 4) (.tmp 6)) none,
  op (some 9) (.load true 3 (.tmp 8)) none,
  op (some 3) (.alloc [(.int .i64 0), (.int .i64 0), (.str [])]) none,
  op none (.store 3 (.tmp 3) (.tmp 9)) none]
def r90_3 : List IOper := [op (some 10) (.load true 3 (.tmp 3)) none,
  op (some 11) (.call false (.const (.fn 152 [] [])) [(.tmp 10)]) none,
  op (some 12) (.eq false .int (.tmp 11) (.const (.int .i64 0))) none,
  op (some 13) (.call false (.const (.fn 75 [] [])) [(.tmp 12), (.const (.int .i64 1))]) none]
def r90_4 : List IOper := [op (some 14) (.bin .add (.tmp 6) (.const (.int .i64 1))) none,
  op (some 6) (.mv (.tmp 14)) none]
def l90_5 : IC := (.seq (.region r90_1) (.seq (.cond (.tmp 7) .skip (.exit 0)) (.seq (.block 1 (.seq (.region r90_2) (.region r90_3))) (.region r90_4))))
def f90 : IFunc := { nt := 15, own := false, results := [], body := (.seq (.region r90_0) (.block 0 (.loop l90_5))) }
/-! 91: (understory/expr.evaluation).value -/
def r91_0 : List IOper := [op (some 2) (.box (.tmp 0)) none,
  op (some 3) (.box (.tmp 1)) none,
  op (some 4) (.alloc [(.int .i64 0), (.int .i64 0), (.str [])]) none]
def r91_1 : List IOper := [op (some 10) (.fld 0 (.tmp 3)) none,
  op (some 11) (.load false 1 (.tmp 10)) none]
def r91_2 : List IOper := [op (some 13) (.eq false .int (.tmp 11) (.const (.int .i64 1))) none,
  op (some 12) (.mv (.tmp 13)) none]
def r91_3 : List IOper := [op (some 14) (.fld 2 (.tmp 3)) none,
  op (some 15) (.load true 3 (.tmp 14)) none,
  op none (.store 3 (.tmp 4) (.tmp 15)) none]
def r91_4 : List IOper := [op (some 17) (.eq false .int (.tmp 11) (.const (.int .i64 2))) none,
  op (some 16) (.mv (.tmp 17)) none]
def r91_5 : List IOper := [op (some 18) (.fld 1 (.tmp 3)) none,
  op (some 19) (.load false 1 (.tmp 18)) none,
  op (some 20) (.fld 1 (.tmp 2)) none,
  op (some 21) (.load false 1 (.tmp 20)) none,
  op (some 22) (.len .slice (.tmp 21)) none,
  op (some 23) (.bin .lss (.tmp 19) (.tmp 22)) none,
  op (some 24) (.call false (.const (.fn 75 [] [])) [(.tmp 23), (.const (.int .i64 4))]) none]
def r91_6 : List IOper := [op (some 25) (.fld 1 (.tmp 2)) none,
  op (some 26) (.load false 1 (.tmp 25)) none,
  op (some 27) (.fld 1 (.tmp 3)) none,
  op (some 28) (.load false 1 (.tmp 27)) none,
  op (some 29) (.idx none 3 (.tmp 26) (.tmp 28)) none,
  op (some 30) (.load true 3 (.tmp 29)) none,
  op none (.store 3 (.tmp 4) (.tmp 30)) none]
def r91_7 : List IOper := [op (some 32) (.eq false .int (.tmp 11) (.const (.int .i64 3))) none,
  op (some 31) (.mv (.tmp 32)) none]
def r91_8 : List IOper := [op (some 33) (.fld 1 (.tmp 3)) none,
  op (some 34) (.load false 1 (.tmp 33)) none,
  op (some 35) (.fld 2 (.tmp 2)) none,
  op (some 36) (.load false 1 (.tmp 35)) none,
  op (some 37) (.len .slice (.tmp 36)) none,
  op (some 38) (.bin .lss (.tmp 34) (.tmp 37)) none,
  op (some 39) (.call false (.const (.fn 75 [] [])) [(.tmp 38), (.const (.int .i64 4))]) none]
def r91_9 : List IOper := [op (some 40) (.fld 2 (.tmp 2)) none,
  op (some 41) (.load false 1 (.tmp 40)) none,
  op (some 42) (.fld 1 (.tmp 3)) none,
  op (some 43) (.load false 1 (.tmp 42)) none,
  op (some 44) (.idx none 3 (.tmp 41) (.tmp 43)) none,
  op (some 45) (.load true 3 (.tmp 44)) none,
  op none (.store 3 (.tmp 4) (.tmp 45)) none]
def r91_10 : List IOper := [op (some 47) (.eq false .int (.tmp 11) (.const (.int .i64 16))) none,
  op (some 46) (.mv (.tmp 47)) none]
def r91_11 : List IOper := [opx (some 48) (.load true 3 (.tmp 2)) none false false true false 0 [],
  opx (some 49) (.fld 5 (.tmp 3)) none true false true false 0 [],
  opx (some 50) (.load false 1 (.tmp 49)) none false false true false 2 [],
  opx (some 51) (.call false (.const (.fn 99 [] [])) [(.const (.bool false))]) none false false true false 0 [],
  opx (some 52) (.call false (.const (.fn 99 [] [])) [(.const (.bool true))]) none false false true false 8 [],
  opx (some 53) (.call false (.const (.fn 168 [] [])) [(.tmp 48), (.tmp 50), (.tmp 51), (.tmp 52)]) none true true true false 31 [],
  opx none (.store 3 (.tmp 4) (.tmp 53)) none true true true true 63 []]
def r91_12 : List IOper := [op (some 55) (.eq false .int (.tmp 11) (.const (.int .i64 17))) none,
  op (some 54) (.mv (.tmp 55)) none]
def r91_13 : List IOper := [opx (some 56) (.load true 3 (.tmp 2)) none false false true false 0 [],
  opx (some 57) (.fld 5 (.tmp 3)) none true false true false 0 [],
  opx (some 58) (.load false 1 (.tmp 57)) none false false true false 2 [],
  opx (some 59) (.call false (.const (.fn 99 [] [])) [(.const (.bool true))]) none false false true false 0 [],
  opx (some 60) (.call false (.const (.fn 99 [] [])) [(.const (.bool false))]) none false false true false 8 [],
  opx (some 61) (.call false (.const (.fn 168 [] [])) [(.tmp 56), (.tmp 58), (.tmp 59), (.tmp 60)]) none true true true false 31 [],
  opx none (.store 3 (.tmp 4) (.tmp 61)) none true true true true 63 []]
def r91_14 : List IOper := [op (some 63) (.eq false .int (.tmp 11) (.const (.int .i64 19))) none,
  op (some 62) (.mv (.tmp 63)) none]
def r91_15 : List IOper := [opx (some 64) (.load true 3 (.tmp 2)) none false false true false 0 [],
  opx (some 65) (.fld 5 (.tmp 3)) none true false true false 0 [],
  opx (some 66) (.load false 1 (.tmp 65)) none false false true false 2 [],
  opx (some 67) (.idx none 6 (.tmp 66) (.const (.int .i64 0))) none true false true false 6 [],
  opx (some 68) (.load true 6 (.tmp 67)) none false false true false 14 [],
  opx (some 69) (.call false (.const (.fn 91 [] [])) [(.tmp 64), (.tmp 68)]) none true true true false 31 [],
  opx (some 70) (.fldv false 0 1 (.tmp 69)) none true true true false 63 [],
  opx (some 71) (.eq false .int (.tmp 70) (.const (.int .i64 0))) none true true true false 127 [],
  opx (some 72) (.call false (.const (.fn 99 [] [])) [(.tmp 71)]) none true true true false 255 [],
  opx none (.store 3 (.tmp 4) (.tmp 72)) none true true true true 511 []]
def r91_16 : List IOper := [op (some 74) (.eq false .int (.tmp 11) (.const (.int .i64 20))) none,
  op (some 73) (.mv (.tmp 74)) none]
def r91_17 : List IOper := [op (some 75) (.fld 5 (.tmp 3)) none,
  op (some 76) (.load false 1 (.tmp 75)) none,
  op (some 77) (.len .slice (.tmp 76)) none,
  op (some 78) (.bin .sub (.tmp 77) (.const (.int .i64 1))) none,
  op (some 5) (.mv (.tmp 78)) none]
def r91_18 : List IOper := [op (some 6) (.mv (.const (.int .i64 0))) none]
def r91_19 : List IOper := [op (some 79) (.mv (.tmp 6)) none,
  op (some 80) (.mv (.tmp 5)) none,
  op (some 81) (.bin .lss (.tmp 79) (.tmp 80)) none]
def r91_20 : List IOper := [opx (some 84) (.load true 3 (.tmp 2)) none false false true false 0 [],
  opx (some 85) (.fld 5 (.tmp 3)) none true false true false 0 [],
  opx (some 86) (.load false 1 (.tmp 85)) none false false true false 2 [],
  opx (some 87) (.mv (.tmp 6)) none true false true false 0 [],
  opx (some 88) (.idx none 6 (.tmp 86) (.tmp 87)) none true false true false 14 [],
  opx (some 89) (.load true 6 (.tmp 88)) none false false true false 30 [],
  opx (some 90) (.call false (.const (.fn 91 [] [])) [(.tmp 84), (.tmp 89)]) none true true true false 63 [],
  opx (some 91) (.call false (.const (.fn 98 [] [])) [(.tmp 90)]) none true true true false 127 [],
  opx (some 92) (.call false (.const (.fn 99 [] [])) [(.const (.bool true))]) none true true true false 255 [],
  opx (some 93) (.eq false (.agg [.int, .int, .str]) (.tmp 91) (.tmp 92)) none true true true false 511 []]
def r91_21 : List IOper := [opx (some 94) (.load true 3 (.tmp 2)) none false false true false 0 [],
  opx (some 95) (.fld 5 (.tmp 3)) none true false true false 0 [],
  opx (some 96) (.load false 1 (.tmp 95)) none false false true false 2 [],
  opx (some 97) (.mv (.tmp 6)) none true false true false 0 [],
  opx (some 98) (.bin .add (.tmp 97) (.const (.int .i64 1))) none true false true false 8 [],
  opx (some 99) (.idx none 6 (.tmp 96) (.tmp 98)) none true false true false 30 [],
  opx (some 100) (.load true 6 (.tmp 99)) none false false true false 62 [],
  opx (some 101) (.call false (.const (.fn 91 [] [])) [(.tmp 94), (.tmp 100)]) none true true true false 127 [],
  opx none (.store 3 (.tmp 4) (.tmp 101)) none true true true true 255 []]
def r91_22 : List IOper := [op (some 82) (.mv (.tmp 6)) none,
  op (some 83) (.bin .add (.tmp 82) (.const (.int .i64 2))) none,
  op (some 6) (.mv (.tmp 83)) none]
def l91_23 : IC := (.seq (.seq (.region r91_19) (.cond (.tmp 81) .skip (.exit 1))) (.seq (.block 2 (.seq (.region r91_20) (.cond (.tmp 93) (.seq (.region r91_21) .ret) .skip))) (.region r91_22)))
def r91_24 : List IOper := [opx (some 102) (.load true 3 (.tmp 2)) none false false true false 0 [],
  opx (some 103) (.fld 5 (.tmp 3)) none true false true false 0 [],
  opx (some 104) (.load false 1 (.tmp 103)) none false false true false 2 [],
  opx (some 105) (.mv (.tmp 5)) none true false true false 0 [],
  opx (some 106) (.idx none 6 (.tmp 104) (.tmp 105)) none true false true false 14 [],
  opx (some 107) (.load true 6 (.tmp 106)) none false false true false 30 [],
  opx (some 108) (.call false (.const (.fn 91 [] [])) [(.tmp 102), (.tmp 107)]) none true true true false 63 [],
  opx none (.store 3 (.tmp 4) (.tmp 108)) none true true true true 127 []]
def r91_25 : List IOper := [op (some 110) (.eq false .int (.tmp 11) (.const (.int .i64 21))) none,
  op (some 109) (.mv (.tmp 110)) none]
def r91_26 : List IOper := [op (some 111) (.fld 5 (.tmp 3)) none,
  op (some 112) (.load false 1 (.tmp 111)) none,
  op (some 113) (.len .slice (.tmp 112)) none,
  op (some 114) (.mv (.const (.int .i64 0))) none]
def r91_27 : List IOper := [op (some 115) (.bin .lss (.tmp 114) (.tmp 113)) none]
def r91_28 : List IOper := [op (some 116) (.idx none 6 (.tmp 112) (.tmp 114)) none,
  op (some 117) (.load true 6 (.tmp 116)) none,
  op (some 8) (.alloc [(.int .i64 0), (.int .i64 0), (.int .i64 0), (.int .i64 0), (.str []), (.slice .full 6 [])]) none,
  op none (.store 6 (.tmp 8) (.tmp 117)) none]
def r91_29 : List IOper := [op (some 118) (.load true 3 (.tmp 2)) none,
  op (some 119) (.load true 6 (.tmp 8)) none,
  op (some 120) (.call false (.const (.fn 91 [] [])) [(.tmp 118), (.tmp 119)]) none,
  op (some 9) (.alloc [(.int .i64 0), (.int .i64 0), (.str [])]) none,
  op none (.store 3 (.tmp 9) (.tmp 120)) none]
def r91_30 : List IOper := [op (some 121) (.fld 0 (.tmp 9)) none,
  op (some 122) (.load false 1 (.tmp 121)) none,
  op (some 123) (.eq true .int (.tmp 122) (.const (.int .i64 0))) none]
def r91_31 : List IOper := [op (some 124) (.load true 3 (.tmp 9)) none,
  op none (.store 3 (.tmp 4) (.tmp 124)) none]
def r91_32 : List IOper := [op (some 125) (.bin .add (.tmp 114) (.const (.int .i64 1))) none,
  op (some 114) (.mv (.tmp 125)) none]
def l91_33 : IC := (.seq (.region r91_27) (.seq (.cond (.tmp 115) .skip (.exit 3)) (.seq (.block 4 (.seq (.region r91_28) (.seq (.region r91_29) (.seq (.region r91_30) (.cond (.tmp 123) (.seq (.region r91_31) .ret) .skip))))) (.region r91_32))))
def r91_34 : List IOper := [op (some 126) (.build [(.int .i64 0), (.int .i64 0), (.str [])] []) none,
  op none (.store 3 (.tmp 4) (.tmp 126)) none]
def r91_35 : List IOper := [op (some 128) (.eq false .int (.tmp 11) (.const (.int .i64 22))) none,
  op (some 127) (.mv (.tmp 128)) none]
def r91_36 : List IOper := [op (some 129) (.load true 3 (.tmp 2)) none,
  op (some 130) (.fld 5 (.tmp 3)) none,
  op (some 131) (.load false 1 (.tmp 130)) none,
  op (some 132) (.call false (.const (.fn 169 [] [])) [(.tmp 129), (.tmp 131)]) none,
  op none (.store 3 (.tmp 4) (.tmp 132)) none]
def r91_37 : List IOper := [op (some 133) (.load true 3 (.tmp 2)) none,
  op (some 134) (.load true 6 (.tmp 3)) none,
  op (some 135) (.call false (.const (.fn 170 [] [])) [(.tmp 133), (.tmp 134)]) none,
  op none (.store 3 (.tmp 4) (.tmp 135)) none]
def f91 : IFunc := { nt := 136, own := false, results := [.cell 4 true 3], body := (.seq (.region r91_0) (.seq (.seq (.region r91_1) (.block 0 (.seq (.region r91_2) (.cond (.tmp 12) (.seq (.region r91_3) .ret) (.seq (.region r91_4) (.cond (.tmp 16) (.seq (.region r91_5) (.seq (.region r91_6) .ret)) (.seq (.region r91_7) (.cond (.tmp 31) (.seq (.region r91_8) (.seq (.region r91_9) .ret)) (.seq (.region r91_10) (.cond (.tmp 46) (.seq (.region r91_11) .ret) (.seq (.region r91_12) (.cond (.tmp 54) (.seq (.region r91_13) .ret) (.seq (.region r91_14) (.cond (.tmp 62) (.seq (.region r91_15) .ret) (.seq (.region r91_16) (.cond (.tmp 73) (.seq (.region r91_17) (.seq (.seq (.region r91_18) (.block 1 (.loop l91_23))) (.seq (.region r91_24) .ret))) (.seq (.region r91_25) (.cond (.tmp 109) (.seq (.seq (.region r91_26) (.block 3 (.loop l91_33))) (.seq (.region r91_34) .ret)) (.seq (.region r91_35) (.cond (.tmp 127) (.seq (.region r91_36) .ret) .skip)))))))))))))))))))) (.seq (.region r91_37) .ret))) }
/-! 92: understory/expr.nodes -/
def r92_0 : List IOper := [op (some 1) (.box (.tmp 0)) none,
  op (some 2) (.mv (.const .nilf)) none]
def r92_1 : List IOper := [op (some 3) (.mkF 171 [] [(.tmp 1)]) none,
  op (some 2) (.mv (.tmp 3)) none]
def f92 : IFunc := { nt := 4, own := false, results := [.tmp 2], body := (.seq (.region r92_0) (.seq (.region r92_1) .ret)) }
/-! 93: understory/understoryref23.Count -/
def r93_0 : List IOper := [op (some 2) (.box (.tmp 0)) none,
  op (some 4) (.mv (.const (.int .i64 0))) none]
def r93_1 : List IOper := [op (some 10) (.fld 0 (.tmp 2)) none,
  op (some 11) (.load false 1 (.tmp 10)) none,
  op (some 12) (.call false (.const (.fn 174 [] [])) [(.tmp 11)]) none,
  op (some 5) (.alloc [(.int .i64 0), (.int .i64 0), (.bool false)]) none,
  op none (.store 3 (.tmp 5) (.tmp 12)) none]
def r93_2 : List IOper := [op (some 13) (.fld 5 (.tmp 2)) none,
  op (some 14) (.load false 1 (.tmp 13)) none,
  op (some 15) (.len .slice (.tmp 14)) none,
  op (some 6) (.mv (.tmp 15)) none]
def r93_3 : List IOper := [op (some 16) (.mv (.tmp 6)) none,
  op (some 17) (.fld 0 (.tmp 5)) none,
  op (some 18) (.load false 1 (.tmp 17)) none,
  op (some 19) (.bin .lss (.tmp 16) (.tmp 18)) none,
  op (some 20) (.mv (.tmp 19)) none,
  op (some 21) (.mv (.tmp 6)) (some (20, false)),
  op (some 22) (.fld 1 (.tmp 5)) (some (20, false)),
  op (some 23) (.load false 1 (.tmp 22)) (some (20, false)),
  op (some 24) (.bin .gtr (.tmp 21) (.tmp 23)) (some (20, false)),
  op (some 25) (.pick (.tmp 20) (.const (.bool true)) (.tmp 24)) none,
  op (some 26) (.mv (.tmp 25)) none,
  op (some 27) (.fld 2 (.tmp 5)) (some (26, false)),
  op (some 28) (.load false 1 (.tmp 27)) (some (26, false)),
  op (some 29) (.mv (.tmp 28)) (some (26, false)),
  op (some 30) (.mv (.tmp 6)) (some (29, true)),
  op (some 31) (.bin .rem (.tmp 30) (.const (.int .i64 2))) (some (29, true)),
  op (some 32) (.eq false .int (.tmp 31) (.const (.int .i64 0))) (some (29, true)),
  op (some 33) (.pick (.tmp 29) (.tmp 32) (.const (.bool false))) (some (26, false)),
  op (some 34) (.pick (.tmp 26) (.const (.bool true)) (.tmp 33)) none,
  op (some 35) (.mv (.tmp 34)) none,
  op (some 36) (.mv (.tmp 1)) (some (35, false)),
  op (some 37) (.bin .gtr (.tmp 36) (.const (.int .i64 30))) (some (35, false)),
  op (some 38) (.pick (.tmp 35) (.const (.bool true)) (.tmp 37)) none,
  op (some 7) (.mv (.tmp 38)) none]
def r93_4 : List IOper := [op (some 39) (.fld 0 (.tmp 2)) none,
  op (some 40) (.load false 1 (.tmp 39)) none,
  op (some 41) (.eq false .int (.tmp 40) (.const (.int .i64 1))) none]
def r93_5 : List IOper := [op (some 42) (.mv (.tmp 7)) none,
  op (some 43) (.mv (.tmp 42)) none,
  op (some 44) (.fld 2 (.tmp 2)) (some (43, false)),
  op (some 45) (.load true 3 (.tmp 44)) (some (43, false)),
  op (some 46) (.call false (.const (.fn 175 [] [])) [(.tmp 45)]) (some (43, false)),
  op (some 47) (.un .not (.tmp 46)) (some (43, false)),
  op (some 48) (.pick (.tmp 43) (.const (.bool true)) (.tmp 47)) none,
  op (some 49) (.mv (.tmp 48)) none,
  op (some 50) (.fld 1 (.tmp 2)) (some (49, false)),
  op (some 51) (.load false 1 (.tmp 50)) (some (49, false)),
  op (some 52) (.eq true .int (.tmp 51) (.const (.int .i64 0))) (some (49, false)),
  op (some 53) (.pick (.tmp 49) (.const (.bool true)) (.tmp 52)) none,
  op (some 7) (.mv (.tmp 53)) none]
def r93_6 : List IOper := [op (some 54) (.mv (.tmp 7)) none,
  op (some 55) (.mv (.tmp 54)) none,
  op (some 56) (.fld 2 (.tmp 2)) (some (55, false)),
  op (some 57) (.load true 3 (.tmp 56)) (some (55, false)),
  op (some 58) (.build [(.int .i64 0), (.int .i64 0), (.str [])] []) (some (55, false)),
  op (some 59) (.eq true (.agg [.int, .int, .str]) (.tmp 57) (.tmp 58)) (some (55, false)),
  op (some 60) (.pick (.tmp 55) (.const (.bool true)) (.tmp 59)) none,
  op (some 7) (.mv (.tmp 60)) none]
def r93_7 : List IOper := [op (some 61) (.fld 0 (.tmp 2)) none,
  op (some 62) (.load false 1 (.tmp 61)) none,
  op (some 63) (.eq false .int (.tmp 62) (.const (.int .i64 2))) none,
  op (some 64) (.mv (.tmp 63)) none,
  op (some 65) (.fld 0 (.tmp 2)) (some (64, false)),
  op (some 66) (.load false 1 (.tmp 65)) (some (64, false)),
  op (some 67) (.eq false .int (.tmp 66) (.const (.int .i64 3))) (some (64, false)),
  op (some 68) (.pick (.tmp 64) (.const (.bool true)) (.tmp 67)) none]
def r93_8 : List IOper := [op (some 69) (.mv (.tmp 7)) none,
  op (some 70) (.mv (.tmp 69)) none,
  op (some 71) (.fld 1 (.tmp 2)) (some (70, false)),
  op (some 72) (.load false 1 (.tmp 71)) (some (70, false)),
  op (some 73) (.bin .lss (.tmp 72) (.const (.int .i64 0))) (some (70, false)),
  op (some 74) (.pick (.tmp 70) (.const (.bool true)) (.tmp 73)) none,
  op (some 75) (.mv (.tmp 74)) none,
  op (some 76) (.fld 1 (.tmp 2)) (some (75, false)),
  op (some 77) (.load false 1 (.tmp 76)) (some (75, false)),
  op (some 78) (.bin .gtr (.tmp 77) (.const (.int .i64 999))) (some (75, false)),
  op (some 79) (.pick (.tmp 75) (.const (.bool true)) (.tmp 78)) none,
  op (some 7) (.mv (.tmp 79)) none]
def r93_9 : List IOper := [op (some 80) (.mv (.tmp 7)) none,
  op (some 81) (.mv (.tmp 80)) none,
  op (some 82) (.fld 1 (.tmp 2)) (some (81, false)),
  op (some 83) (.load false 1 (.tmp 82)) (some (81, false)),
  op (some 84) (.eq true .int (.tmp 83) (.const (.int .i64 0))) (some (81, false)),
  op (some 85) (.pick (.tmp 81) (.const (.bool true)) (.tmp 84)) none,
  op (some 7) (.mv (.tmp 85)) none]
def r93_10 : List IOper := [op (some 86) (.mv (.tmp 7)) none]
def r93_11 : List IOper := [op (some 4) (.mv (.const (.int .i64 301))) none]
def r93_12 : List IOper := [op (some 8) (.mv (.const (.int .i64 1))) none]
def r93_13 : List IOper := [op (some 9) (.mv (.const (.int .i64 0))) none]
def r93_14 : List IOper := [op (some 87) (.mv (.tmp 9)) none,
  op (some 88) (.mv (.tmp 6)) none,
  op (some 89) (.bin .lss (.tmp 87) (.tmp 88)) none,
  op (some 90) (.mv (.tmp 89)) none,
  op (some 91) (.mv (.tmp 8)) (some (90, true)),
  op (some 92) (.bin .leq (.tmp 91) (.const (.int .i64 300))) (some (90, true)),
  op (some 93) (.pick (.tmp 90) (.tmp 92) (.const (.bool false))) none]
def r93_15 : List IOper := [op (some 96) (.mv (.tmp 8)) none,
  op (some 97) (.fld 5 (.tmp 2)) none,
  op (some 98) (.load false 1 (.tmp 97)) none,
  op (some 99) (.mv (.tmp 9)) none,
  op (some 100) (.idx none 6 (.tmp 98) (.tmp 99)) none,
  op (some 101) (.load true 6 (.tmp 100)) none,
  op (some 102) (.mv (.tmp 1)) none,
  op (some 103) (.bin .add (.tmp 102) (.const (.int .i64 1))) none,
  op (some 104) (.call false (.const (.fn 93 [] [])) [(.tmp 101), (.tmp 103)]) none,
  op (some 105) (.bin .add (.tmp 96) (.tmp 104)) none,
  op (some 8) (.mv (.tmp 105)) none]
def r93_16 : List IOper := [op (some 94) (.mv (.tmp 9)) none,
  op (some 95) (.bin .add (.tmp 94) (.const (.int .i64 1))) none,
  op (some 9) (.mv (.tmp 95)) none]
def l93_17 : IC := (.seq (.seq (.region r93_14) (.cond (.tmp 93) .skip (.exit 0))) (.seq (.block 1 (.region r93_15)) (.region r93_16)))
def r93_18 : List IOper := [op (some 106) (.mv (.tmp 8)) none,
  op (some 4) (.mv (.tmp 106)) none]
def f93 : IFunc := { nt := 107, own := false, results := [.tmp 4], body := (.seq (.region r93_0) (.seq (.region r93_1) (.seq (.region r93_2) (.seq (.region r93_3) (.seq (.seq (.region r93_4) (.cond (.tmp 41) (.region r93_5) (.region r93_6))) (.seq (.seq (.region r93_7) (.cond (.tmp 68) (.region r93_8) (.region r93_9))) (.seq (.seq (.region r93_10) (.cond (.tmp 86) (.seq (.region r93_11) .ret) .skip)) (.seq (.region r93_12) (.seq (.seq (.region r93_13) (.block 0 (.loop l93_17))) (.seq (.region r93_18) .ret)))))))))) }
/-! 99: understory/expr.truth -/
def r99_0 : List IOper := [op (some 2) (.alloc [(.int .i64 0), (.int .i64 0), (.str [])]) none]
def r99_1 : List IOper := [op (some 4) (.build [(.int .i64 0), (.int .i64 0), (.str [])] [(0, 1, (.const (.int .i64 1)))]) none,
  op (some 3) (.alloc [(.int .i64 0), (.int .i64 0), (.str [])]) none,
  op none (.store 3 (.tmp 3) (.tmp 4)) none]
def r99_2 : List IOper := [op (some 5) (.mv (.tmp 0)) none]
def r99_3 : List IOper := [op (some 6) (.fld 1 (.tmp 3)) none,
  op none (.store 1 (.tmp 6) (.const (.int .i64 1))) none]
def r99_4 : List IOper := [op (some 7) (.load true 3 (.tmp 3)) none,
  op none (.store 3 (.tmp 2) (.tmp 7)) none]
def f99 : IFunc := { nt := 8, own := false, results := [.cell 2 true 3], body := (.seq (.region r99_0) (.seq (.region r99_1) (.seq (.seq (.region r99_2) (.cond (.tmp 5) (.region r99_3) .skip)) (.seq (.region r99_4) .ret)))) }
/-! 101: understory/expr.copied -/
def r101_0 : List IOper := [op (some 1) (.box (.tmp 0)) none,
  op (some 2) (.alloc [(.int .i64 0), (.int .i64 0), (.int .i64 0), (.int .i64 0), (.str []), (.slice .full 6 [])]) none]
def r101_1 : List IOper := [op (some 3) (.fld 5 (.tmp 1)) none,
  op (some 4) (.load false 1 (.tmp 3)) none,
  op (some 5) (.call true (.const (.fn 113 [] [])) [(.tmp 4), (.const (.fn 101 [] []))]) none,
  op (some 6) (.fld 5 (.tmp 1)) none,
  op none (.store 1 (.tmp 6) (.tmp 5)) none]
def r101_2 : List IOper := [op (some 7) (.load true 6 (.tmp 1)) none,
  op none (.store 6 (.tmp 2) (.tmp 7)) none]
def f101 : IFunc := { nt := 8, own := false, results := [.cell 2 true 6], body := (.seq (.region r101_0) (.seq (.region r101_1) (.seq (.region r101_2) .ret))) }
/-! 102: understory/expr.at -/
def r102_0 : List IOper := [op (some 3) (.box (.tmp 0)) none,
  op (some 6) (.alloc [(.int .i64 0), (.int .i64 0), (.int .i64 0), (.int .i64 0), (.str []), (.slice .full 6 [])]) none]
def r102_1 : List IOper := [op (some 9) (.mv (.tmp 1)) none,
  op (some 10) (.len .slice (.tmp 9)) none,
  op (some 11) (.eq false .int (.tmp 10) (.const (.int .i64 0))) none]
def r102_2 : List IOper := [op (some 13) (.load true 6 (.tmp 3)) none,
  op (some 14) (.mv (.tmp 2)) none,
  op (some 15) (.call false (.const (.fn 181 [] [])) [(.tmp 13), (.tmp 14)]) none,
  op (some 12) (.mv (.tmp 15)) none,
  op (some 16) (.ext (.tmp 12) 0) none,
  op (some 17) (.ext (.tmp 12) 1) none,
  op (some 7) (.alloc [(.int .i64 0), (.int .i64 0), (.int .i64 0), (.int .i64 0), (.str []), (.slice .full 6 [])]) none,
  op none (.store 6 (.tmp 7) (.tmp 16)) none,
  op (some 8) (.mv (.tmp 17)) none]
def r102_3 : List IOper := [op (some 18) (.mv (.tmp 8)) none,
  op (some 19) (.call false (.const (.fn 75 [] [])) [(.tmp 18), (.const (.int .i64 9))]) none]
def r102_4 : List IOper := [op (some 20) (.load true 6 (.tmp 7)) none,
  op none (.store 6 (.tmp 6) (.tmp 20)) none]
def r102_5 : List IOper := [op (some 21) (.mv (.tmp 1)) none,
  opx (some 22) (.idx none 1 (.tmp 21) (.const (.int .i64 0))) none true true true false 1 [],
  opx (some 23) (.load false 1 (.tmp 22)) none true true true false 3 [],
  opx (some 24) (.bin .geq (.tmp 23) (.const (.int .i64 0))) none true true true false 7 [],
  opx (some 25) (.mv (.tmp 24)) none true true true false 15 [],
  opx (some 26) (.mv (.tmp 1)) (some (25, true)) true false true false 31 [],
  opx (some 27) (.idx none 1 (.tmp 26) (.const (.int .i64 0))) (some (25, true)) true false true false 63 [],
  opx (some 28) (.load false 1 (.tmp 27)) (some (25, true)) false false true false 127 [],
  opx (some 29) (.fld 5 (.tmp 3)) (some (25, true)) true false true false 31 [],
  opx (some 30) (.load false 1 (.tmp 29)) (some (25, true)) false false true false 287 [],
  opx (some 31) (.len .slice (.tmp 30)) (some (25, true)) true false true false 799 [],
  opx (some 32) (.bin .lss (.tmp 28) (.tmp 31)) (some (25, true)) true true true false 2047 [],
  opx (some 33) (.pick (.tmp 25) (.tmp 32) (.const (.bool false))) none true true true false 4095 [],
  opx (some 34) (.call false (.const (.fn 75 [] [])) [(.tmp 33), (.const (.int .i64 1))]) none true true true false 8191 []]
def r102_6 : List IOper := [op (some 35) (.fld 5 (.tmp 3)) none,
  op (some 36) (.load false 1 (.tmp 35)) none,
  op (some 37) (.clone true 182 6 72 (.tmp 36)) none,
  op (some 38) (.fld 5 (.tmp 3)) none,
  op none (.store 1 (.tmp 38) (.tmp 37)) none]
def r102_7 : List IOper := [opx (some 39) (.fld 5 (.tmp 3)) none true false true false 0 [],
  opx (some 40) (.load false 1 (.tmp 39)) none false false true false 1 [],
  opx (some 41) (.mv (.tmp 1)) none true false true false 0 [],
  opx (some 42) (.idx none 1 (.tmp 41) (.const (.int .i64 0))) none true false true false 4 [],
  opx (some 43) (.load false 1 (.tmp 42)) none false false true false 12 [],
  opx (some 44) (.fld 5 (.tmp 3)) none true false true false 0 [],
  opx (some 45) (.load false 1 (.tmp 44)) none false false true false 32 [],
  opx (some 46) (.mv (.tmp 1)) none true false true false 0 [],
  opx (some 47) (.idx none 1 (.tmp 46) (.const (.int .i64 0))) none true false true false 128 [],
  opx (some 48) (.load false 1 (.tmp 47)) none false false true false 384 [],
  opx (some 49) (.idx none 6 (.tmp 45) (.tmp 48)) none true false true false 992 [],
  opx (some 50) (.load true 6 (.tmp 49)) none false false true false 2016 [],
  opx (some 51) (.mv (.tmp 1)) none true false true false 0 [],
  opx (some 52) (.slice 1 (.tmp 51) (some (.const (.int .i64 1))) none none) none true false true false 4096 [],
  opx (some 53) (.mv (.tmp 2)) none true false true false 0 [],
  opx (some 54) (.call false (.const (.fn 102 [] [])) [(.tmp 50), (.tmp 52), (.tmp 53)]) none false false true false 32736 [],
  opx (some 55) (.idx none 6 (.tmp 40) (.tmp 43)) none true true true false 65535 [],
  opx none (.store 6 (.tmp 55) (.tmp 54)) none true true true true 131071 []]
def r102_8 : List IOper := [op (some 56) (.load true 6 (.tmp 3)) none,
  op none (.store 6 (.tmp 6) (.tmp 56)) none]
def f102 : IFunc := { nt := 57, own := false, results := [.cell 6 true 6], body := (.seq (.region r102_0) (.seq (.seq (.region r102_1) (.cond (.tmp 11) (.seq (.region r102_2) (.seq (.region r102_3) (.seq (.region r102_4) .ret))) .skip)) (.seq (.region r102_5) (.seq (.region r102_6) (.seq (.region r102_7) (.seq (.region r102_8) .ret)))))) }
/-! 105: understory/expr.next -/
def r105_0 : List IOper := [op (some 1) (.box (.tmp 0)) none,
  op (some 2) (.alloc [(.int .i64 0), (.slice .full 1 [])]) none,
  op (some 3) (.alloc [(.bool false)]) none]
def r105_1 : List IOper := [op (some 9) (.load true 6 (.tmp 1)) none,
  op (some 10) (.call false (.const (.fn 92 [] [])) [(.tmp 9)]) none]
def r105_2 : List IOper := [op (some 4) (.mv (.tmp 11)) none]
def r105_3 : List IOper := [op (some 5) (.alloc [(.int .i64 0), (.int .i64 0), (.int .i64 0), (.int .i64 0), (.str []), (.slice .full 6 [])]) none,
  op none (.store 6 (.tmp 5) (.tmp 12)) none]
def r105_4 : List IOper := [op (some 6) (.mv (.const (.int .i64 1))) none]
def r105_5 : List IOper := [op (some 13) (.mv (.tmp 6)) none,
  op (some 14) (.bin .leq (.tmp 13) (.const (.int .i64 14))) none]
def r105_6 : List IOper := [op (some 18) (.load true 6 (.tmp 5)) none,
  op (some 19) (.mv (.tmp 6)) none,
  op (some 20) (.call false (.const (.fn 181 [] [])) [(.tmp 18), (.tmp 19)]) none,
  op (some 17) (.mv (.tmp 20)) none,
  op (some 21) (.ext (.tmp 17) 0) none,
  op (some 22) (.ext (.tmp 17) 1) none,
  op (some 7) (.alloc [(.int .i64 0), (.int .i64 0), (.int .i64 0), (.int .i64 0), (.str []), (.slice .full 6 [])]) none,
  op none (.store 6 (.tmp 7) (.tmp 21)) none,
  op (some 8) (.mv (.tmp 22)) none]
def r105_7 : List IOper := [op (some 23) (.mv (.tmp 8)) none]
def r105_8 : List IOper := [op (some 24) (.mv (.tmp 6)) none,
  op (some 25) (.mv (.tmp 4)) none,
  op (some 26) (.build [(.int .i64 0), (.slice .full 1 [])] [(0, 1, (.tmp 24)), (1, 1, (.tmp 25))]) none,
  op none (.store 2 (.tmp 2) (.tmp 26)) none,
  op none (.store 1 (.tmp 3) (.const (.bool true))) none]
def r105_9 : List IOper := [op (some 15) (.mv (.tmp 6)) none,
  op (some 16) (.bin .add (.tmp 15) (.const (.int .i64 1))) none,
  op (some 6) (.mv (.tmp 16)) none]
def l105_10 : IC := (.seq (.seq (.region r105_5) (.cond (.tmp 14) .skip (.exit 2))) (.seq (.block 3 (.seq (.region r105_6) (.seq (.region r105_7) (.cond (.tmp 23) (.seq (.region r105_8) .ret) .skip)))) (.region r105_9)))
def l105_11 : IC := (.block 1 (.seq (.region r105_4) (.block 2 (.loop l105_10))))
def r105_12 : List IOper := [op (some 27) (.build [(.int .i64 0), (.slice .full 1 [])] []) none,
  op none (.store 2 (.tmp 2) (.tmp 27)) none,
  op none (.store 1 (.tmp 3) (.const (.bool false))) none]
def f105 : IFunc := { nt := 28, own := false, results := [.cell 2 true 2, .cell 3 false 1], body := (.seq (.region r105_0) (.seq (.seq (.region r105_1) (.block 0 (.rangeFunc (.tmp 10) [11, 12] (.seq (.region r105_2) (.region r105_3)) l105_11))) (.seq (.region r105_12) .ret))) }
/-! 110: understory/expr.constant -/
def r110_0 : List IOper := [op (some 1) (.box (.tmp 0)) none,
  op (some 2) (.alloc [(.int .i64 0), (.int .i64 0), (.int .i64 0), (.int .i64 0), (.str []), (.slice .full 6 [])]) none]
def r110_1 : List IOper := [op (some 3) (.load true 3 (.tmp 1)) none,
  op (some 4) (.build [(.int .i64 0), (.int .i64 0), (.int .i64 0), (.int .i64 0), (.str []), (.slice .full 6 [])] [(0, 1, (.const (.int .i64 1))), (2, 3, (.tmp 3))]) none,
  op none (.store 6 (.tmp 2) (.tmp 4)) none]
def f110 : IFunc := { nt := 5, own := false, results := [.cell 2 true 6], body := (.seq (.region r110_0) (.seq (.region r110_1) .ret)) }
/-! 113: understory/expr.mapped[understory/api.Expr,understory/api.Expr] -/
def r113_0 : List IOper := [op (some 4) (.mv (.const (.slice .full 6 []))) none]
def r113_1 : List IOper := [op (some 5) (.mv (.const (.slice .full 6 []))) none]
def r113_2 : List IOper := [op (some 8) (.mv (.tmp 0)) none,
  op (some 9) (.len .slice (.tmp 8)) none,
  op (some 10) (.mv (.const (.int .i64 0))) none]
def r113_3 : List IOper := [op (some 11) (.bin .lss (.tmp 10) (.tmp 9)) none]
def r113_4 : List IOper := [op (some 12) (.idx none 6 (.tmp 8) (.tmp 10)) none,
  op (some 13) (.load true 6 (.tmp 12)) none,
  op (some 7) (.alloc [(.int .i64 0), (.int .i64 0), (.int .i64 0), (.int .i64 0), (.str []), (.slice .full 6 [])]) none,
  op none (.store 6 (.tmp 7) (.tmp 13)) none]
def r113_5 : List IOper := [op (some 14) (.mv (.tmp 5)) none,
  op (some 15) (.mv (.tmp 1)) none,
  op (some 16) (.load true 6 (.tmp 7)) none,
  op (some 17) (.call false (.tmp 15) [(.tmp 16)]) none,
  op (some 18) (.buildSl 6 [(.tmp 17)]) none,
  op (some 19) (.append false false 6 72 (.tmp 14) (.tmp 18)) none,
  op (some 5) (.mv (.tmp 19)) none]
def r113_6 : List IOper := [op (some 20) (.bin .add (.tmp 10) (.const (.int .i64 1))) none,
  op (some 10) (.mv (.tmp 20)) none]
def l113_7 : IC := (.seq (.region r113_3) (.seq (.cond (.tmp 11) .skip (.exit 0)) (.seq (.block 1 (.seq (.region r113_4) (.region r113_5))) (.region r113_6))))
def r113_8 : List IOper := [op (some 21) (.mv (.tmp 5)) none,
  op (some 4) (.mv (.tmp 21)) none]
def f113 : IFunc := { nt := 22, own := true, results := [.tmp 4], body := (.seq (.region r113_0) (.seq (.region r113_1) (.seq (.seq (.region r113_2) (.block 0 (.loop l113_7))) (.seq (.region r113_8) .ret)))) }
/-! 114: understory/expr.isConst -/
def r114_0 : List IOper := [op (some 2) (.box (.tmp 0)) none,
  op (some 3) (.box (.tmp 1)) none,
  op (some 4) (.mv (.const (.bool false))) none]
def r114_1 : List IOper := [opx (some 5) (.load true 6 (.tmp 2)) none false false true false 0 [],
  opx (some 6) (.load true 3 (.tmp 3)) none false false true false 0 [],
  opx (some 7) (.call false (.const (.fn 110 [] [])) [(.tmp 6)]) none false false true false 2 [],
  opx (some 8) (.call false (.const (.fn 61 [] [])) [(.tmp 5), (.tmp 7)]) none true true true false 7 [],
  opx (some 4) (.mv (.tmp 8)) none true true true false 15 []]
def f114 : IFunc := { nt := 9, own := false, results := [.tmp 4], body := (.seq (.region r114_0) (.seq (.region r114_1) .ret)) }
/-! 119: slices.EqualFunc[[]understory/api.Expr,[]understory/api.Expr,understory/api.Expr,understory/api.Expr] -/
def r119_0 : List IOper := [op (some 6) (.mv (.const (.bool false))) none]
def r119_1 : List IOper := [op (some 10) (.mv (.tmp 0)) none,
  op (some 11) (.len .slice (.tmp 10)) none,
  op (some 12) (.mv (.tmp 1)) none,
  op (some 13) (.len .slice (.tmp 12)) none,
  op (some 14) (.eq true .int (.tmp 11) (.tmp 13)) none]
def r119_2 : List IOper := [op (some 6) (.mv (.const (.bool false))) none]
def r119_3 : List IOper := [op (some 15) (.mv (.tmp 0)) none,
  op (some 16) (.len .slice (.tmp 15)) none,
  op (some 17) (.mv (.const (.int .i64 0))) none]
def r119_4 : List IOper := [op (some 18) (.bin .lss (.tmp 17) (.tmp 16)) none]
def r119_5 : List IOper := [op (some 19) (.mv (.tmp 17)) none,
  op (some 20) (.idx none 6 (.tmp 15) (.tmp 17)) none,
  op (some 21) (.load true 6 (.tmp 20)) none,
  op (some 8) (.alloc [(.int .i64 0), (.int .i64 0), (.int .i64 0), (.int .i64 0), (.str []), (.slice .full 6 [])]) none,
  op (some 7) (.mv (.tmp 19)) none,
  op none (.store 6 (.tmp 8) (.tmp 21)) none]
def r119_6 : List IOper := [op (some 22) (.mv (.tmp 1)) none,
  op (some 23) (.mv (.tmp 7)) none,
  op (some 24) (.idx none 6 (.tmp 22) (.tmp 23)) none,
  op (some 25) (.load true 6 (.tmp 24)) none,
  op (some 9) (.alloc [(.int .i64 0), (.int .i64 0), (.int .i64 0), (.int .i64 0), (.str []), (.slice .full 6 [])]) none,
  op none (.store 6 (.tmp 9) (.tmp 25)) none]
def r119_7 : List IOper := [op (some 26) (.mv (.tmp 2)) none,
  op (some 27) (.load true 6 (.tmp 8)) none,
  op (some 28) (.load true 6 (.tmp 9)) none,
  op (some 29) (.call false (.tmp 26) [(.tmp 27), (.tmp 28)]) none,
  op (some 30) (.un .not (.tmp 29)) none]
def r119_8 : List IOper := [op (some 6) (.mv (.const (.bool false))) none]
def r119_9 : List IOper := [op (some 31) (.bin .add (.tmp 17) (.const (.int .i64 1))) none,
  op (some 17) (.mv (.tmp 31)) none]
def l119_10 : IC := (.seq (.region r119_4) (.seq (.cond (.tmp 18) .skip (.exit 0)) (.seq (.block 1 (.seq (.region r119_5) (.seq (.region r119_6) (.seq (.region r119_7) (.cond (.tmp 30) (.seq (.region r119_8) .ret) .skip))))) (.region r119_9))))
def r119_11 : List IOper := [op (some 6) (.mv (.const (.bool true))) none]
def f119 : IFunc := { nt := 32, own := false, results := [.tmp 6], body := (.seq (.region r119_0) (.seq (.seq (.region r119_1) (.cond (.tmp 14) (.seq (.region r119_2) .ret) .skip)) (.seq (.seq (.region r119_3) (.block 0 (.loop l119_10))) (.seq (.region r119_11) .ret)))) }
/-! 125: understory/expr.add -/
def r125_0 : List IOper := [op (some 2) (.alloc [(.int .i64 0), (.int .i64 0), (.str [])]) none]
def r125_1 : List IOper := [opx (some 6) (.mv (.tmp 0)) none true false true false 0 [],
  opx (some 7) (.idx none 3 (.tmp 6) (.const (.int .i64 0))) none true false true false 1 [],
  opx (some 8) (.fld 1 (.tmp 7)) none true false true false 3 [],
  opx (some 9) (.load false 1 (.tmp 8)) none false false true false 7 [],
  opx (some 10) (.mv (.tmp 0)) none true false true false 0 [],
  opx (some 11) (.idx none 3 (.tmp 10) (.const (.int .i64 1))) none true false true false 16 [],
  opx (some 12) (.fld 1 (.tmp 11)) none true false true false 48 [],
  opx (some 13) (.load false 1 (.tmp 12)) none false false true false 112 [],
  opx (some 3) (.mv (.tmp 9)) none true false true false 15 [],
  opx (some 4) (.mv (.tmp 13)) none true true true false 511 []]
def r125_2 : List IOper := [op (some 14) (.mv (.tmp 3)) none,
  op (some 15) (.mv (.tmp 4)) none,
  op (some 16) (.bin .add (.tmp 14) (.tmp 15)) none,
  op (some 5) (.mv (.tmp 16)) none]
def r125_3 : List IOper := [op (some 17) (.mv (.tmp 5)) none,
  op (some 18) (.mv (.tmp 3)) none,
  op (some 19) (.bin .gtr (.tmp 17) (.tmp 18)) none,
  op (some 20) (.mv (.tmp 4)) none,
  op (some 21) (.bin .gtr (.tmp 20) (.const (.int .i64 0))) none,
  op (some 22) (.eq false .bool (.tmp 19) (.tmp 21)) none,
  op (some 23) (.call false (.const (.fn 75 [] [])) [(.tmp 22), (.const (.int .i64 330))]) none]
def r125_4 : List IOper := [op (some 24) (.mv (.tmp 5)) none,
  op (some 25) (.call false (.const (.fn 140 [] [])) [(.tmp 24)]) none,
  op none (.store 3 (.tmp 2) (.tmp 25)) none]
def f125 : IFunc := { nt := 26, own := false, results := [.cell 2 true 3], body := (.seq (.region r125_0) (.seq (.region r125_1) (.seq (.region r125_2) (.seq (.region r125_3) (.seq (.region r125_4) .ret))))) }
/-! 128: understory/expr.div -/
def r128_0 : List IOper := [op (some 2) (.alloc [(.int .i64 0), (.int .i64 0), (.str [])]) none]
def r128_1 : List IOper := [opx (some 5) (.mv (.tmp 0)) none true false true false 0 [],
  opx (some 6) (.idx none 3 (.tmp 5) (.const (.int .i64 0))) none true false true false 1 [],
  opx (some 7) (.fld 1 (.tmp 6)) none true false true false 3 [],
  opx (some 8) (.load false 1 (.tmp 7)) none false false true false 7 [],
  opx (some 9) (.mv (.tmp 0)) none true false true false 0 [],
  opx (some 10) (.idx none 3 (.tmp 9) (.const (.int .i64 1))) none true false true false 16 [],
  opx (some 11) (.fld 1 (.tmp 10)) none true false true false 48 [],
  opx (some 12) (.load false 1 (.tmp 11)) none false false true false 112 [],
  opx (some 3) (.mv (.tmp 8)) none true false true false 15 [],
  opx (some 4) (.mv (.tmp 12)) none true true true false 511 []]
def r128_2 : List IOper := [op (some 13) (.mv (.tmp 4)) none,
  op (some 14) (.eq true .int (.tmp 13) (.const (.int .i64 0))) none,
  op (some 15) (.call false (.const (.fn 75 [] [])) [(.tmp 14), (.const (.int .i64 331))]) none]
def r128_3 : List IOper := [op (some 16) (.mv (.tmp 3)) none,
  op (some 17) (.eq true .int (.tmp 16) (.const (.int .i64 (-9223372036854775808)))) none,
  op (some 18) (.mv (.tmp 17)) none,
  op (some 19) (.mv (.tmp 4)) (some (18, false)),
  op (some 20) (.eq true .int (.tmp 19) (.const (.int .i64 (-1)))) (some (18, false)),
  op (some 21) (.pick (.tmp 18) (.const (.bool true)) (.tmp 20)) none,
  op (some 22) (.call false (.const (.fn 75 [] [])) [(.tmp 21), (.const (.int .i64 330))]) none]
def r128_4 : List IOper := [op (some 23) (.mv (.tmp 3)) none,
  op (some 24) (.mv (.tmp 4)) none,
  op (some 25) (.bin .quo (.tmp 23) (.tmp 24)) none,
  op (some 26) (.call false (.const (.fn 140 [] [])) [(.tmp 25)]) none,
  op none (.store 3 (.tmp 2) (.tmp 26)) none]
def f128 : IFunc := { nt := 27, own := false, results := [.cell 2 true 3], body := (.seq (.region r128_0) (.seq (.region r128_1) (.seq (.region r128_2) (.seq (.region r128_3) (.seq (.region r128_4) .ret))))) }
/-! 130: understory/expr.compare -/
def r130_0 : List IOper := [op (some 1) (.box (.tmp 0)) none,
  op (some 2) (.mv (.const .nilf)) none]
def r130_1 : List IOper := [op (some 3) (.mkF 187 [] [(.tmp 1)]) none,
  op (some 2) (.mv (.tmp 3)) none]
def f130 : IFunc := { nt := 4, own := false, results := [.tmp 2], body := (.seq (.region r130_0) (.seq (.region r130_1) .ret)) }
/-! 131: understory/expr.newTable$1 -/
def r131_0 : List IOper := [op (some 2) (.mv (.const (.bool false))) none]
def r131_1 : List IOper := [op (some 3) (.mv (.tmp 0)) none,
  op (some 4) (.eq false .int (.tmp 3) (.const (.int .i64 0))) none,
  op (some 2) (.mv (.tmp 4)) none]
def f131 : IFunc := { nt := 5, own := false, results := [.tmp 2], body := (.seq (.region r131_0) (.seq (.region r131_1) .ret)) }
/-! 132: understory/expr.newTable$2 -/
def r132_0 : List IOper := [op (some 2) (.mv (.const (.bool false))) none]
def r132_1 : List IOper := [op (some 3) (.mv (.tmp 0)) none,
  op (some 4) (.eq true .int (.tmp 3) (.const (.int .i64 0))) none,
  op (some 2) (.mv (.tmp 4)) none]
def f132 : IFunc := { nt := 5, own := false, results := [.tmp 2], body := (.seq (.region r132_0) (.seq (.region r132_1) .ret)) }
/-! 133: understory/expr.newTable$3 -/
def r133_0 : List IOper := [op (some 2) (.mv (.const (.bool false))) none]
def r133_1 : List IOper := [op (some 3) (.mv (.tmp 0)) none,
  op (some 4) (.bin .lss (.tmp 3) (.const (.int .i64 0))) none,
  op (some 2) (.mv (.tmp 4)) none]
def f133 : IFunc := { nt := 5, own := false, results := [.tmp 2], body := (.seq (.region r133_0) (.seq (.region r133_1) .ret)) }
/-! 134: understory/expr.newTable$4 -/
def r134_0 : List IOper := [op (some 2) (.mv (.const (.bool false))) none]
def r134_1 : List IOper := [op (some 3) (.mv (.tmp 0)) none,
  op (some 4) (.bin .leq (.tmp 3) (.const (.int .i64 0))) none,
  op (some 2) (.mv (.tmp 4)) none]
def f134 : IFunc := { nt := 5, own := false, results := [.tmp 2], body := (.seq (.region r134_0) (.seq (.region r134_1) .ret)) }
/-! 135: understory/expr.newTable$5 -/
def r135_0 : List IOper := [op (some 2) (.mv (.const (.bool false))) none]
def r135_1 : List IOper := [op (some 3) (.mv (.tmp 0)) none,
  op (some 4) (.bin .gtr (.tmp 3) (.const (.int .i64 0))) none,
  op (some 2) (.mv (.tmp 4)) none]
def f135 : IFunc := { nt := 5, own := false, results := [.tmp 2], body := (.seq (.region r135_0) (.seq (.region r135_1) .ret)) }
/-! 136: understory/expr.newTable$6 -/
def r136_0 : List IOper := [op (some 2) (.mv (.const (.bool false))) none]
def r136_1 : List IOper := [op (some 3) (.mv (.tmp 0)) none,
  op (some 4) (.bin .geq (.tmp 3) (.const (.int .i64 0))) none,
  op (some 2) (.mv (.tmp 4)) none]
def f136 : IFunc := { nt := 5, own := false, results := [.tmp 2], body := (.seq (.region r136_0) (.seq (.region r136_1) .ret)) }
/-! 140: understory/expr.whole -/
def r140_0 : List IOper := [op (some 2) (.alloc [(.int .i64 0), (.int .i64 0), (.str [])]) none]
def r140_1 : List IOper := [op (some 3) (.mv (.tmp 0)) none,
  op (some 4) (.build [(.int .i64 0), (.int .i64 0), (.str [])] [(0, 1, (.const (.int .i64 2))), (1, 1, (.tmp 3))]) none,
  op none (.store 3 (.tmp 2) (.tmp 4)) none]
def f140 : IFunc := { nt := 5, own := false, results := [.cell 2 true 3], body := (.seq (.region r140_0) (.seq (.region r140_1) .ret)) }
/-! 146: understory/expr.newTable$9 -/
def r146_0 : List IOper := [op (some 2) (.alloc [(.int .i64 0), (.int .i64 0), (.str [])]) none]
def r146_1 : List IOper := [opx (some 3) (.mv (.tmp 0)) none true false true false 0 [],
  opx (some 4) (.idx none 3 (.tmp 3) (.const (.int .i64 0))) none true false true false 1 [],
  opx (some 5) (.fld 2 (.tmp 4)) none true false true false 3 [],
  opx (some 6) (.load false 1 (.tmp 5)) none false false true false 7 [],
  opx (some 7) (.mv (.tmp 0)) none true false true false 0 [],
  opx (some 8) (.idx none 3 (.tmp 7) (.const (.int .i64 1))) none true false true false 16 [],
  opx (some 9) (.fld 2 (.tmp 8)) none true false true false 48 [],
  opx (some 10) (.load false 1 (.tmp 9)) none false false true false 112 [],
  opx (some 11) (.call false (.const (.fn 147 [] [])) [(.tmp 6), (.tmp 10)]) none true true true false 255 [],
  opx (some 12) (.call false (.const (.fn 99 [] [])) [(.tmp 11)]) none true true true false 511 [],
  opx none (.store 3 (.tmp 2) (.tmp 12)) none true true true true 1023 []]
def f146 : IFunc := { nt := 13, own := false, results := [.cell 2 true 3], body := (.seq (.region r146_0) (.seq (.region r146_1) .ret)) }
/-! 147: understory/expr.like -/
def r147_0 : List IOper := [op (some 4) (.mv (.const (.bool false))) none]
def r147_1 : List IOper := [op (some 5) (.mv (.const (.int .i64 0))) none,
  op (some 6) (.mv (.const (.int .i64 0))) none]
def r147_2 : List IOper := [op (some 7) (.mv (.const (.int .i64 (-1)))) none,
  op (some 8) (.mv (.const (.int .i64 0))) none]
def r147_3 : List IOper := [op (some 9) (.mv (.tmp 5)) none,
  op (some 10) (.mv (.tmp 0)) none,
  op (some 11) (.len .str (.tmp 10)) none,
  op (some 12) (.bin .lss (.tmp 9) (.tmp 11)) none]
def r147_4 : List IOper := [op (some 14) (.mv (.tmp 6)) none,
  op (some 15) (.mv (.tmp 1)) none,
  op (some 16) (.len .str (.tmp 15)) none,
  op (some 17) (.bin .lss (.tmp 14) (.tmp 16)) none,
  op (some 18) (.mv (.tmp 17)) none,
  op (some 19) (.mv (.tmp 1)) (some (18, true)),
  op (some 20) (.mv (.tmp 6)) (some (18, true)),
  op (some 21) (.idxs (.tmp 19) (.tmp 20)) (some (18, true)),
  op (some 22) (.eq false .int (.tmp 21) (.const (.int .u8 37))) (some (18, true)),
  op (some 23) (.pick (.tmp 18) (.tmp 22) (.const (.bool false))) none,
  op (some 13) (.mv (.tmp 23)) none]
def r147_5 : List IOper := [op (some 24) (.mv (.tmp 6)) none,
  op (some 25) (.mv (.tmp 5)) none,
  op (some 7) (.mv (.tmp 24)) none,
  op (some 8) (.mv (.tmp 25)) none]
def r147_6 : List IOper := [op (some 26) (.mv (.tmp 6)) none,
  op (some 27) (.bin .add (.tmp 26) (.const (.int .i64 1))) none,
  op (some 6) (.mv (.tmp 27)) none]
def r147_7 : List IOper := [opx (some 29) (.mv (.tmp 6)) none true false true false 0 [],
  opx (some 30) (.mv (.tmp 1)) none true false true false 0 [],
  opx (some 31) (.len .str (.tmp 30)) none true false true false 2 [],
  opx (some 32) (.bin .lss (.tmp 29) (.tmp 31)) none true true true false 7 [],
  opx (some 33) (.mv (.tmp 32)) none true true true false 15 [],
  opx (some 34) (.mv (.tmp 1)) (some (33, true)) true false true false 31 [],
  opx (some 35) (.mv (.tmp 6)) (some (33, true)) true false true false 31 [],
  opx (some 36) (.idxs (.tmp 34) (.tmp 35)) (some (33, true)) true true true false 127 [],
  opx (some 37) (.eq false .int (.tmp 36) (.const (.int .u8 95))) (some (33, true)) true true true false 255 [],
  opx (some 38) (.mv (.tmp 37)) (some (33, true)) true true true false 511 [],
  opx (some 39) (.mv (.tmp 1)) (some (38, false)) true false true false 1023 [],
  opx (some 40) (.mv (.tmp 6)) (some (38, false)) true false true false 1023 [],
  opx (some 41) (.idxs (.tmp 39) (.tmp 40)) (some (38, false)) true false true false 4095 [],
  opx (some 42) (.mv (.tmp 0)) (some (38, false)) true false true false 1023 [],
  opx (some 43) (.mv (.tmp 5)) (some (38, false)) true false true false 1023 [],
  opx (some 44) (.idxs (.tmp 42) (.tmp 43)) (some (38, false)) true false true false 25599 [],
  opx (some 45) (.eq false .int (.tmp 41) (.tmp 44)) (some (38, false)) true true true false 65535 [],
  opx (some 46) (.pick (.tmp 38) (.const (.bool true)) (.tmp 45)) (some (33, true)) true true true false 131071 [],
  opx (some 47) (.pick (.tmp 33) (.tmp 46) (.const (.bool false))) none true true true false 262143 [],
  opx (some 28) (.mv (.tmp 47)) none true true true false 524287 []]
def r147_8 : List IOper := [op (some 48) (.mv (.tmp 5)) none,
  op (some 49) (.bin .add (.tmp 48) (.const (.int .i64 1))) none,
  op (some 5) (.mv (.tmp 49)) none]
def r147_9 : List IOper := [op (some 50) (.mv (.tmp 6)) none,
  op (some 51) (.bin .add (.tmp 50) (.const (.int .i64 1))) none,
  op (some 6) (.mv (.tmp 51)) none]
def r147_10 : List IOper := [op (some 53) (.mv (.tmp 7)) none,
  op (some 54) (.bin .geq (.tmp 53) (.const (.int .i64 0))) none,
  op (some 52) (.mv (.tmp 54)) none]
def r147_11 : List IOper := [op (some 55) (.mv (.tmp 8)) none,
  op (some 56) (.bin .add (.tmp 55) (.const (.int .i64 1))) none,
  op (some 8) (.mv (.tmp 56)) none]
def r147_12 : List IOper := [op (some 57) (.mv (.tmp 8)) none,
  op (some 58) (.mv (.tmp 7)) none,
  op (some 59) (.bin .add (.tmp 58) (.const (.int .i64 1))) none,
  op (some 5) (.mv (.tmp 57)) none,
  op (some 6) (.mv (.tmp 59)) none]
def r147_13 : List IOper := [op (some 4) (.mv (.const (.bool false))) none]
def l147_14 : IC := (.seq (.seq (.region r147_3) (.cond (.tmp 12) .skip (.exit 0))) (.block 1 (.seq (.block 2 (.seq (.region r147_4) (.cond (.tmp 13) (.seq (.region r147_5) (.seq (.region r147_6) (.exit 1))) (.seq (.region r147_7) (.cond (.tmp 28) (.seq (.region r147_8) (.seq (.region r147_9) (.exit 1))) (.seq (.region r147_10) (.cond (.tmp 52) (.seq (.region r147_11) (.seq (.region r147_12) (.exit 1))) .skip))))))) (.seq (.region r147_13) .ret))))
def r147_15 : List IOper := [op (some 60) (.mv (.tmp 6)) none,
  op (some 61) (.mv (.tmp 1)) none,
  op (some 62) (.len .str (.tmp 61)) none,
  op (some 63) (.bin .lss (.tmp 60) (.tmp 62)) none,
  op (some 64) (.mv (.tmp 63)) none,
  op (some 65) (.mv (.tmp 1)) (some (64, true)),
  op (some 66) (.mv (.tmp 6)) (some (64, true)),
  op (some 67) (.idxs (.tmp 65) (.tmp 66)) (some (64, true)),
  op (some 68) (.eq false .int (.tmp 67) (.const (.int .u8 37))) (some (64, true)),
  op (some 69) (.pick (.tmp 64) (.tmp 68) (.const (.bool false))) none]
def r147_16 : List IOper := [op (some 70) (.mv (.tmp 6)) none,
  op (some 71) (.bin .add (.tmp 70) (.const (.int .i64 1))) none,
  op (some 6) (.mv (.tmp 71)) none]
def l147_17 : IC := (.seq (.seq (.region r147_15) (.cond (.tmp 69) .skip (.exit 3))) (.block 4 (.region r147_16)))
def r147_18 : List IOper := [op (some 72) (.mv (.tmp 6)) none,
  op (some 73) (.mv (.tmp 1)) none,
  op (some 74) (.len .str (.tmp 73)) none,
  op (some 75) (.eq false .int (.tmp 72) (.tmp 74)) none,
  op (some 4) (.mv (.tmp 75)) none]
def f147 : IFunc := { nt := 76, own := false, results := [.tmp 4], body := (.seq (.region r147_0) (.scope (.seq (.region r147_1) (.seq (.region r147_2) (.seq .skip (.seq (.block 0 (.loop l147_14)) (.seq (.block 3 (.loop l147_17)) (.seq (.region r147_18) .ret)))))))) }
/-! 150: (*understory/expr.operations).formed$1 -/
def r150_0 : List IOper := [op (some 5) (.box (.tmp 0)) none,
  op (some 7) (.mv (.const (.bool false))) none]
def r150_1 : List IOper := [op (some 13) (.load false 1 (.tmp 2)) none,
  op (some 14) (.bin .add (.tmp 13) (.const (.int .i64 1))) none,
  op none (.store 1 (.tmp 2) (.tmp 14)) none]
def r150_2 : List IOper := [op (some 15) (.load false 1 (.tmp 2)) none,
  op (some 16) (.bin .gtr (.tmp 15) (.const (.int .i64 300))) none,
  op (some 17) (.mv (.tmp 16)) none,
  op (some 18) (.mv (.tmp 1)) (some (17, false)),
  op (some 19) (.bin .gtr (.tmp 18) (.const (.int .i64 30))) (some (17, false)),
  op (some 20) (.pick (.tmp 17) (.const (.bool true)) (.tmp 19)) none,
  op (some 21) (.mv (.tmp 20)) none,
  op (some 22) (.fld 0 (.tmp 5)) (some (21, false)),
  op (some 23) (.load false 1 (.tmp 22)) (some (21, false)),
  op (some 24) (.call false (.const (.fn 151 [] [])) [(.tmp 23)]) (some (21, false)),
  op (some 25) (.un .not (.tmp 24)) (some (21, false)),
  op (some 26) (.pick (.tmp 21) (.const (.bool true)) (.tmp 25)) none]
def r150_3 : List IOper := [op (some 7) (.mv (.const (.bool false))) none]
def r150_4 : List IOper := [opx (some 27) (.load false 1 (.tmp 3)) none false false true false 0 [],
  opx (some 28) (.fld 0 (.tmp 5)) none true false true false 0 [],
  opx (some 29) (.load false 1 (.tmp 28)) none false false true false 2 [],
  opx (some 30) (.nilck (.tmp 27)) none true false true false 1 [],
  opx (some 31) (.idx (some 33) 6 (.tmp 30) (.tmp 29)) none true false true false 15 [],
  opx (some 32) (.fld 5 (.tmp 5)) none true false true false 0 [],
  opx (some 33) (.load false 1 (.tmp 32)) none false false true false 32 [],
  opx (some 34) (.len .slice (.tmp 33)) none true false true false 96 [],
  opx (some 8) (.mv (.tmp 31)) none true false true false 31 [],
  opx (some 9) (.mv (.tmp 34)) none true true true false 511 []]
def r150_5 : List IOper := [opx (some 35) (.mv (.tmp 9)) none true false true false 0 [],
  opx (some 36) (.mv (.tmp 8)) none true false true false 0 [],
  opx (some 37) (.nilck (.tmp 36)) none true false true false 2 [],
  opx (some 38) (.fld 0 (.tmp 37)) none true false true false 6 [],
  opx (some 39) (.load false 1 (.tmp 38)) none true false true false 14 [],
  opx (some 40) (.bin .lss (.tmp 35) (.tmp 39)) none true true true false 31 [],
  opx (some 41) (.mv (.tmp 40)) none true true true false 63 [],
  opx (some 42) (.mv (.tmp 9)) (some (41, false)) true false true false 127 [],
  opx (some 43) (.mv (.tmp 8)) (some (41, false)) true false true false 127 [],
  opx (some 44) (.nilck (.tmp 43)) (some (41, false)) true false true false 383 [],
  opx (some 45) (.fld 1 (.tmp 44)) (some (41, false)) true false true false 895 [],
  opx (some 46) (.load false 1 (.tmp 45)) (some (41, false)) true false true false 1919 [],
  opx (some 47) (.bin .gtr (.tmp 42) (.tmp 46)) (some (41, false)) true true true false 4095 [],
  opx (some 48) (.pick (.tmp 41) (.const (.bool true)) (.tmp 47)) none true true true false 8191 [],
  opx (some 49) (.mv (.tmp 48)) none true true true false 16383 [],
  opx (some 50) (.mv (.tmp 9)) (some (49, false)) true false true false 32767 [],
  opx (some 51) (.mv (.tmp 8)) (some (49, false)) true false true false 32767 [],
  opx (some 52) (.nilck (.tmp 51)) (some (49, false)) true false true false 98303 [],
  opx (some 53) (.fld 0 (.tmp 52)) (some (49, false)) true false true false 229375 [],
  opx (some 54) (.load false 1 (.tmp 53)) (some (49, false)) true false true false 491519 [],
  opx (some 55) (.bin .gtr (.tmp 50) (.tmp 54)) (some (49, false)) true true true false 1048575 [],
  opx (some 56) (.mv (.tmp 55)) (some (49, false)) true true true false 2097151 [],
  opx (some 57) (.mv (.tmp 9)) (some (56, true)) true false true false 4194303 [],
  opx (some 58) (.mv (.tmp 8)) (some (56, true)) true false true false 4194303 [],
  opx (some 59) (.nilck (.tmp 58)) (some (56, true)) true false true false 12582911 [],
  opx (some 60) (.fld 0 (.tmp 59)) (some (56, true)) true false true false 29360127 [],
  opx (some 61) (.load false 1 (.tmp 60)) (some (56, true)) false false true false 62914559 [],
  opx (some 62) (.bin .sub (.tmp 57) (.tmp 61)) (some (56, true)) true false true false 134217727 [],
  opx (some 63) (.mv (.tmp 8)) (some (56, true)) true false true false 4194303 [],
  opx (some 64) (.nilck (.tmp 63)) (some (56, true)) true false true false 272629759 [],
  opx (some 65) (.fld 2 (.tmp 64)) (some (56, true)) true false true false 809500671 [],
  opx (some 66) (.load false 1 (.tmp 65)) (some (56, true)) false false true false 1883242495 [],
  opx (some 67) (.bin .rem (.tmp 62) (.tmp 66)) (some (56, true)) true true true false 4294967295 [],
  opx (some 68) (.eq true .int (.tmp 67) (.const (.int .i64 0))) (some (56, true)) true true true false 8589934591 [],
  opx (some 69) (.pick (.tmp 56) (.tmp 68) (.const (.bool false))) (some (49, false)) true true true false 17179869183 [],
  opx (some 70) (.pick (.tmp 49) (.const (.bool true)) (.tmp 69)) none true true true false 34359738367 []]
def r150_6 : List IOper := [op (some 7) (.mv (.const (.bool false))) none]
def r150_7 : List IOper := [op (some 71) (.fld 0 (.tmp 5)) none,
  op (some 72) (.load false 1 (.tmp 71)) none,
  op (some 73) (.eq false .int (.tmp 72) (.const (.int .i64 1))) none,
  op (some 74) (.mv (.tmp 73)) none,
  op (some 75) (.fld 2 (.tmp 5)) (some (74, true)),
  op (some 76) (.load true 3 (.tmp 75)) (some (74, true)),
  op (some 77) (.call false (.const (.fn 152 [] [])) [(.tmp 76)]) (some (74, true)),
  op (some 78) (.eq true .int (.tmp 77) (.const (.int .i64 0))) (some (74, true)),
  op (some 79) (.pick (.tmp 74) (.tmp 78) (.const (.bool false))) none,
  op (some 80) (.mv (.tmp 79)) none,
  op (some 81) (.fld 0 (.tmp 5)) (some (80, false)),
  op (some 82) (.load false 1 (.tmp 81)) (some (80, false)),
  op (some 83) (.eq true .int (.tmp 82) (.const (.int .i64 1))) (some (80, false)),
  op (some 84) (.mv (.tmp 83)) (some (80, false)),
  op (some 85) (.fld 2 (.tmp 5)) (some (84, true)),
  op (some 86) (.load true 3 (.tmp 85)) (some (84, true)),
  op (some 87) (.build [(.int .i64 0), (.int .i64 0), (.str [])] []) (some (84, true)),
  op (some 88) (.eq true (.agg [.int, .int, .str]) (.tmp 86) (.tmp 87)) (some (84, true)),
  op (some 89) (.pick (.tmp 84) (.tmp 88) (.const (.bool false))) (some (80, false)),
  op (some 90) (.pick (.tmp 80) (.const (.bool true)) (.tmp 89)) none]
def r150_8 : List IOper := [op (some 7) (.mv (.const (.bool false))) none]
def r150_9 : List IOper := [op (some 91) (.fld 0 (.tmp 5)) none,
  op (some 92) (.load false 1 (.tmp 91)) none,
  op (some 93) (.eq false .int (.tmp 92) (.const (.int .i64 2))) none,
  op (some 94) (.mv (.tmp 93)) none,
  op (some 95) (.fld 0 (.tmp 5)) (some (94, false)),
  op (some 96) (.load false 1 (.tmp 95)) (some (94, false)),
  op (some 97) (.eq false .int (.tmp 96) (.const (.int .i64 3))) (some (94, false)),
  op (some 98) (.pick (.tmp 94) (.const (.bool true)) (.tmp 97)) none,
  op (some 10) (.mv (.tmp 98)) none]
def r150_10 : List IOper := [op (some 99) (.mv (.tmp 10)) none,
  op (some 100) (.mv (.tmp 99)) none,
  op (some 101) (.fld 1 (.tmp 5)) (some (100, true)),
  op (some 102) (.load false 1 (.tmp 101)) (some (100, true)),
  op (some 103) (.bin .lss (.tmp 102) (.const (.int .i64 0))) (some (100, true)),
  op (some 104) (.mv (.tmp 103)) (some (100, true)),
  op (some 105) (.fld 1 (.tmp 5)) (some (104, false)),
  op (some 106) (.load false 1 (.tmp 105)) (some (104, false)),
  op (some 107) (.bin .gtr (.tmp 106) (.const (.int .i64 999))) (some (104, false)),
  op (some 108) (.pick (.tmp 104) (.const (.bool true)) (.tmp 107)) (some (100, true)),
  op (some 109) (.pick (.tmp 100) (.tmp 108) (.const (.bool false))) none,
  op (some 110) (.mv (.tmp 109)) none,
  op (some 111) (.mv (.tmp 10)) (some (110, false)),
  op (some 112) (.un .not (.tmp 111)) (some (110, false)),
  op (some 113) (.mv (.tmp 112)) (some (110, false)),
  op (some 114) (.fld 1 (.tmp 5)) (some (113, true)),
  op (some 115) (.load false 1 (.tmp 114)) (some (113, true)),
  op (some 116) (.eq true .int (.tmp 115) (.const (.int .i64 0))) (some (113, true)),
  op (some 117) (.pick (.tmp 113) (.tmp 116) (.const (.bool false))) (some (110, false)),
  op (some 118) (.pick (.tmp 110) (.const (.bool true)) (.tmp 117)) none]
def r150_11 : List IOper := [op (some 7) (.mv (.const (.bool false))) none]
def r150_12 : List IOper := [op (some 119) (.fld 5 (.tmp 5)) none,
  op (some 120) (.load false 1 (.tmp 119)) none,
  op (some 121) (.len .slice (.tmp 120)) none,
  op (some 122) (.mv (.const (.int .i64 0))) none]
def r150_13 : List IOper := [op (some 123) (.bin .lss (.tmp 122) (.tmp 121)) none]
def r150_14 : List IOper := [op (some 124) (.idx none 6 (.tmp 120) (.tmp 122)) none,
  op (some 125) (.load true 6 (.tmp 124)) none,
  op (some 12) (.alloc [(.int .i64 0), (.int .i64 0), (.int .i64 0), (.int .i64 0), (.str []), (.slice .full 6 [])]) none,
  op none (.store 6 (.tmp 12) (.tmp 125)) none]
def r150_15 : List IOper := [op (some 126) (.load false 1 (.tmp 4)) none,
  op (some 127) (.load true 6 (.tmp 12)) none,
  op (some 128) (.mv (.tmp 1)) none,
  op (some 129) (.bin .add (.tmp 128) (.const (.int .i64 1))) none,
  op (some 130) (.call false (.tmp 126) [(.tmp 127), (.tmp 129)]) none,
  op (some 131) (.un .not (.tmp 130)) none]
def r150_16 : List IOper := [op (some 7) (.mv (.const (.bool false))) none]
def r150_17 : List IOper := [op (some 132) (.bin .add (.tmp 122) (.const (.int .i64 1))) none,
  op (some 122) (.mv (.tmp 132)) none]
def l150_18 : IC := (.seq (.region r150_13) (.seq (.cond (.tmp 123) .skip (.exit 0)) (.seq (.block 1 (.seq (.region r150_14) (.seq (.region r150_15) (.cond (.tmp 131) (.seq (.region r150_16) .ret) .skip)))) (.region r150_17))))
def r150_19 : List IOper := [op (some 7) (.mv (.const (.bool true))) none]
def f150 : IFunc := { nt := 133, own := false, results := [.tmp 7], body := (.seq (.region r150_0) (.seq (.region r150_1) (.seq (.seq (.region r150_2) (.cond (.tmp 26) (.seq (.region r150_3) .ret) .skip)) (.seq (.region r150_4) (.seq (.seq (.region r150_5) (.cond (.tmp 70) (.seq (.region r150_6) .ret) .skip)) (.seq (.seq (.region r150_7) (.cond (.tmp 90) (.seq (.region r150_8) .ret) .skip)) (.seq (.seq (.region r150_9) (.seq (.region r150_10) (.cond (.tmp 118) (.seq (.region r150_11) .ret) .skip))) (.seq (.seq (.region r150_12) (.block 0 (.loop l150_18))) (.seq (.region r150_19) .ret))))))))) }
/-! 151: understory/expr.known -/
def r151_0 : List IOper := [op (some 2) (.mv (.const (.bool false))) none]
def r151_1 : List IOper := [op (some 3) (.mv (.tmp 0)) none,
  op (some 4) (.bin .geq (.tmp 3) (.const (.int .i64 1))) none,
  op (some 5) (.mv (.tmp 4)) none,
  op (some 6) (.mv (.tmp 0)) (some (5, true)),
  op (some 7) (.bin .leq (.tmp 6) (.const (.int .i64 32))) (some (5, true)),
  op (some 8) (.pick (.tmp 5) (.tmp 7) (.const (.bool false))) none,
  op (some 2) (.mv (.tmp 8)) none]
def f151 : IFunc := { nt := 9, own := false, results := [.tmp 2], body := (.seq (.region r151_0) (.seq (.region r151_1) .ret)) }
/-! 152: understory/enc.CheckDatum -/
def r152_0 : List IOper := [op (some 1) (.box (.tmp 0)) none,
  op (some 2) (.mv (.const (.int .i64 0))) none]
def r152_1 : List IOper := [op (some 3) (.fld 0 (.tmp 1)) none,
  opx (some 4) (.load false 1 (.tmp 3)) none true true true false 1 [],
  opx (some 5) (.bin .lss (.tmp 4) (.const (.int .i64 0))) none true true true false 3 [],
  opx (some 6) (.mv (.tmp 5)) none true true true false 7 [],
  opx (some 7) (.fld 0 (.tmp 1)) (some (6, false)) true true true false 15 [],
  opx (some 8) (.load false 1 (.tmp 7)) (some (6, false)) true true true false 31 [],
  opx (some 9) (.bin .gtr (.tmp 8) (.const (.int .i64 3))) (some (6, false)) true true true false 63 [],
  opx (some 10) (.pick (.tmp 6) (.const (.bool true)) (.tmp 9)) none true true true false 127 [],
  opx (some 11) (.mv (.tmp 10)) none true true true false 255 [],
  opx (some 12) (.call false (.const (.fn 198 [] [])) []) (some (11, false)) false false true false 511 [],
  opx (some 13) (.fld 0 (.tmp 1)) (some (11, false)) true false true false 511 [],
  opx (some 14) (.load false 1 (.tmp 13)) (some (11, false)) false false true false 1535 [],
  opx (some 15) (.idxa true 4 3 (.tmp 12) (.tmp 14)) (some (11, false)) true false true false 4095 [],
  opx (some 16) (.fldv false 0 1 (.tmp 15)) (some (11, false)) true false true false 8191 [],
  opx (some 17) (.load true 3 (.tmp 1)) (some (11, false)) false false true false 511 [],
  opx (some 18) (.call false (.tmp 16) [(.tmp 17)]) (some (11, false)) true true true false 32767 [],
  opx (some 19) (.un .not (.tmp 18)) (some (11, false)) true true true false 65535 [],
  opx (some 20) (.pick (.tmp 11) (.const (.bool true)) (.tmp 19)) none true true true false 131071 []]
def r152_2 : List IOper := [op (some 2) (.mv (.const (.int .i64 2))) none]
def r152_3 : List IOper := [op (some 2) (.mv (.const (.int .i64 0))) none]
def f152 : IFunc := { nt := 21, own := false, results := [.tmp 2], body := (.seq (.region r152_0) (.seq (.seq (.region r152_1) (.cond (.tmp 20) (.seq (.region r152_2) .ret) .skip)) (.seq (.region r152_3) .ret))) }
/-! 154: understory/expr.commonKind -/
def r154_0 : List IOper := [op (some 2) (.mv (.const (.int .i64 0))) none]
def r154_1 : List IOper := [op (some 3) (.mv (.const (.int .i64 0))) none]
def r154_2 : List IOper := [op (some 6) (.mv (.tmp 0)) none,
  op (some 7) (.len .slice (.tmp 6)) none,
  op (some 8) (.mv (.const (.int .i64 0))) none]
def r154_3 : List IOper := [op (some 9) (.bin .lss (.tmp 8) (.tmp 7)) none]
def r154_4 : List IOper := [op (some 10) (.idx none 1 (.tmp 6) (.tmp 8)) none,
  op (some 11) (.load false 1 (.tmp 10)) none,
  op (some 5) (.mv (.tmp 11)) none]
def r154_5 : List IOper := [op (some 12) (.mv (.tmp 5)) none,
  op (some 13) (.eq false .int (.tmp 12) (.const (.int .i64 0))) none]
def r154_6 : List IOper := [op (some 14) (.mv (.tmp 3)) none,
  op (some 15) (.eq false .int (.tmp 14) (.const (.int .i64 0))) none,
  op (some 16) (.mv (.tmp 15)) none,
  op (some 17) (.mv (.tmp 3)) (some (16, false)),
  op (some 18) (.mv (.tmp 5)) (some (16, false)),
  op (some 19) (.eq false .int (.tmp 17) (.tmp 18)) (some (16, false)),
  op (some 20) (.pick (.tmp 16) (.const (.bool true)) (.tmp 19)) none,
  op (some 21) (.call false (.const (.fn 75 [] [])) [(.tmp 20), (.const (.int .i64 10))]) none]
def r154_7 : List IOper := [op (some 22) (.mv (.tmp 5)) none,
  op (some 3) (.mv (.tmp 22)) none]
def r154_8 : List IOper := [op (some 23) (.bin .add (.tmp 8) (.const (.int .i64 1))) none,
  op (some 8) (.mv (.tmp 23)) none]
def l154_9 : IC := (.seq (.region r154_3) (.seq (.cond (.tmp 9) .skip (.exit 0)) (.seq (.block 1 (.seq (.region r154_4) (.seq (.seq (.region r154_5) (.cond (.tmp 13) (.exit 1) .skip)) (.seq (.region r154_6) (.region r154_7))))) (.region r154_8))))
def r154_10 : List IOper := [op (some 24) (.mv (.tmp 3)) none,
  op (some 2) (.mv (.tmp 24)) none]
def f154 : IFunc := { nt := 25, own := false, results := [.tmp 2], body := (.seq (.region r154_0) (.seq (.region r154_1) (.seq (.seq (.region r154_2) (.block 0 (.loop l154_9))) (.seq (.region r154_10) .ret)))) }
/-! 155: understory/understoryref23.kind -/
def r155_0 : List IOper := [op (some 2) (.box (.tmp 0)) none,
  op (some 4) (.alloc [(.int .i64 0), (.int .i64 0)]) none]
def r155_1 : List IOper := [op (some 8) (.fld 0 (.tmp 2)) none,
  op (some 9) (.load false 1 (.tmp 8)) none]
def r155_2 : List IOper := [op (some 11) (.eq false .int (.tmp 9) (.const (.int .i64 4))) none,
  op (some 10) (.mv (.tmp 11)) none]
def r155_3 : List IOper := [op (some 12) (.eq false .int (.tmp 9) (.const (.int .i64 5))) none,
  op (some 10) (.mv (.tmp 12)) none]
def r155_4 : List IOper := [op (some 13) (.eq false .int (.tmp 9) (.const (.int .i64 6))) none,
  op (some 10) (.mv (.tmp 13)) none]
def r155_5 : List IOper := [op (some 14) (.eq false .int (.tmp 9) (.const (.int .i64 7))) none,
  op (some 10) (.mv (.tmp 14)) none]
def r155_6 : List IOper := [op (some 15) (.eq false .int (.tmp 9) (.const (.int .i64 8))) none,
  op (some 10) (.mv (.tmp 15)) none]
def r155_7 : List IOper := [op (some 16) (.eq false .int (.tmp 9) (.const (.int .i64 9))) none,
  op (some 10) (.mv (.tmp 16)) none]
def r155_8 : List IOper := [op (some 17) (.mv (.tmp 1)) none,
  op (some 18) (.call false (.const (.fn 200 [] [])) [(.tmp 17), (.const (.int .i64 2))]) none,
  op (some 19) (.call false (.const (.fn 199 [] [])) [(.tmp 18), (.const (.int .i64 2))]) none,
  op none (.store 2 (.tmp 4) (.tmp 19)) none]
def r155_9 : List IOper := [op (some 21) (.eq false .int (.tmp 9) (.const (.int .i64 10))) none,
  op (some 20) (.mv (.tmp 21)) none]
def r155_10 : List IOper := [op (some 22) (.eq false .int (.tmp 9) (.const (.int .i64 11))) none,
  op (some 20) (.mv (.tmp 22)) none]
def r155_11 : List IOper := [op (some 23) (.eq false .int (.tmp 9) (.const (.int .i64 12))) none,
  op (some 20) (.mv (.tmp 23)) none]
def r155_12 : List IOper := [op (some 24) (.eq false .int (.tmp 9) (.const (.int .i64 13))) none,
  op (some 20) (.mv (.tmp 24)) none]
def r155_13 : List IOper := [op (some 25) (.eq false .int (.tmp 9) (.const (.int .i64 14))) none,
  op (some 20) (.mv (.tmp 25)) none]
def r155_14 : List IOper := [op (some 26) (.eq false .int (.tmp 9) (.const (.int .i64 15))) none,
  op (some 20) (.mv (.tmp 26)) none]
def r155_15 : List IOper := [op (some 27) (.eq false .int (.tmp 9) (.const (.int .i64 22))) none,
  op (some 20) (.mv (.tmp 27)) none]
def r155_16 : List IOper := [op (some 28) (.mv (.tmp 1)) none,
  op (some 29) (.call false (.const (.fn 201 [] [])) [(.tmp 28)]) none,
  op (some 30) (.fldv false 1 1 (.tmp 29)) none,
  op (some 31) (.eq false .int (.tmp 30) (.const (.int .i64 0))) none,
  op (some 32) (.call false (.const (.fn 199 [] [])) [(.tmp 31), (.const (.int .i64 1))]) none,
  op none (.store 2 (.tmp 4) (.tmp 32)) none]
def r155_17 : List IOper := [op (some 34) (.eq false .int (.tmp 9) (.const (.int .i64 16))) none,
  op (some 33) (.mv (.tmp 34)) none]
def r155_18 : List IOper := [op (some 35) (.eq false .int (.tmp 9) (.const (.int .i64 17))) none,
  op (some 33) (.mv (.tmp 35)) none]
def r155_19 : List IOper := [op (some 36) (.eq false .int (.tmp 9) (.const (.int .i64 18))) none,
  op (some 33) (.mv (.tmp 36)) none]
def r155_20 : List IOper := [op (some 37) (.mv (.tmp 1)) none,
  op (some 38) (.call false (.const (.fn 200 [] [])) [(.tmp 37), (.const (.int .i64 1))]) none,
  op (some 39) (.call false (.const (.fn 199 [] [])) [(.tmp 38), (.const (.int .i64 1))]) none,
  op none (.store 2 (.tmp 4) (.tmp 39)) none]
def r155_21 : List IOper := [op (some 41) (.eq false .int (.tmp 9) (.const (.int .i64 19))) none,
  op (some 40) (.mv (.tmp 41)) none]
def r155_22 : List IOper := [op (some 42) (.build [(.int .i64 0), (.int .i64 0)] [(0, 1, (.const (.int .i64 1)))]) none,
  op none (.store 2 (.tmp 4) (.tmp 42)) none]
def r155_23 : List IOper := [op (some 44) (.eq false .int (.tmp 9) (.const (.int .i64 20))) none,
  op (some 43) (.mv (.tmp 44)) none]
def r155_24 : List IOper := [op (some 5) (.mv (.const (.slice .full 1 []))) none]
def r155_25 : List IOper := [op (some 6) (.mv (.const (.slice .full 1 []))) none]
def r155_26 : List IOper := [op (some 7) (.mv (.const (.int .i64 0))) none]
def r155_27 : List IOper := [op (some 45) (.mv (.tmp 7)) none,
  op (some 46) (.mv (.tmp 1)) none,
  op (some 47) (.len .slice (.tmp 46)) none,
  op (some 48) (.bin .lss (.tmp 45) (.tmp 47)) none]
def r155_28 : List IOper := [op (some 51) (.mv (.tmp 7)) none,
  op (some 52) (.bin .rem (.tmp 51) (.const (.int .i64 2))) none,
  op (some 53) (.eq false .int (.tmp 52) (.const (.int .i64 0))) none,
  op (some 54) (.mv (.tmp 53)) none,
  op (some 55) (.mv (.tmp 7)) (some (54, true)),
  op (some 56) (.bin .add (.tmp 55) (.const (.int .i64 1))) (some (54, true)),
  op (some 57) (.mv (.tmp 1)) (some (54, true)),
  op (some 58) (.len .slice (.tmp 57)) (some (54, true)),
  op (some 59) (.bin .lss (.tmp 56) (.tmp 58)) (some (54, true)),
  op (some 60) (.pick (.tmp 54) (.tmp 59) (.const (.bool false))) none]
def r155_29 : List IOper := [op (some 61) (.mv (.tmp 5)) none,
  op (some 62) (.mv (.tmp 1)) none,
  op (some 63) (.mv (.tmp 7)) none,
  op (some 64) (.idx none 1 (.tmp 62) (.tmp 63)) none,
  op (some 65) (.load false 1 (.tmp 64)) none,
  op (some 66) (.buildSl 1 [(.tmp 65)]) none,
  op (some 67) (.append false false 1 8 (.tmp 61) (.tmp 66)) none,
  op (some 5) (.mv (.tmp 67)) none]
def r155_30 : List IOper := [op (some 68) (.mv (.tmp 6)) none,
  op (some 69) (.mv (.tmp 1)) none,
  op (some 70) (.mv (.tmp 7)) none,
  op (some 71) (.idx none 1 (.tmp 69) (.tmp 70)) none,
  op (some 72) (.load false 1 (.tmp 71)) none,
  op (some 73) (.buildSl 1 [(.tmp 72)]) none,
  op (some 74) (.append false false 1 8 (.tmp 68) (.tmp 73)) none,
  op (some 6) (.mv (.tmp 74)) none]
def r155_31 : List IOper := [op (some 49) (.mv (.tmp 7)) none,
  op (some 50) (.bin .add (.tmp 49) (.const (.int .i64 1))) none,
  op (some 7) (.mv (.tmp 50)) none]
def l155_32 : IC := (.seq (.seq (.region r155_27) (.cond (.tmp 48) .skip (.exit 1))) (.seq (.block 2 (.seq (.region r155_28) (.cond (.tmp 60) (.region r155_29) (.region r155_30)))) (.region r155_31)))
def r155_33 : List IOper := [op (some 75) (.mv (.tmp 5)) none,
  op (some 76) (.call false (.const (.fn 200 [] [])) [(.tmp 75), (.const (.int .i64 1))]) none,
  op (some 77) (.un .not (.tmp 76)) none]
def r155_34 : List IOper := [op (some 78) (.build [(.int .i64 0), (.int .i64 0)] [(1, 1, (.const (.int .i64 10)))]) none,
  op none (.store 2 (.tmp 4) (.tmp 78)) none]
def r155_35 : List IOper := [op (some 79) (.mv (.tmp 6)) none,
  op (some 80) (.call false (.const (.fn 201 [] [])) [(.tmp 79)]) none,
  op none (.store 2 (.tmp 4) (.tmp 80)) none]
def r155_36 : List IOper := [op (some 82) (.eq false .int (.tmp 9) (.const (.int .i64 21))) none,
  op (some 81) (.mv (.tmp 82)) none]
def r155_37 : List IOper := [op (some 83) (.mv (.tmp 1)) none,
  op (some 84) (.call false (.const (.fn 201 [] [])) [(.tmp 83)]) none,
  op none (.store 2 (.tmp 4) (.tmp 84)) none]
def r155_38 : List IOper := [op (some 86) (.eq false .int (.tmp 9) (.const (.int .i64 23))) none,
  op (some 85) (.mv (.tmp 86)) none]
def r155_39 : List IOper := [op (some 87) (.eq false .int (.tmp 9) (.const (.int .i64 26))) none,
  op (some 85) (.mv (.tmp 87)) none]
def r155_40 : List IOper := [op (some 88) (.eq false .int (.tmp 9) (.const (.int .i64 27))) none,
  op (some 85) (.mv (.tmp 88)) none]
def r155_41 : List IOper := [op (some 89) (.eq false .int (.tmp 9) (.const (.int .i64 28))) none,
  op (some 85) (.mv (.tmp 89)) none]
def r155_42 : List IOper := [op (some 90) (.mv (.tmp 1)) none,
  op (some 91) (.call false (.const (.fn 200 [] [])) [(.tmp 90), (.const (.int .i64 3))]) none,
  op (some 92) (.call false (.const (.fn 199 [] [])) [(.tmp 91), (.const (.int .i64 3))]) none,
  op none (.store 2 (.tmp 4) (.tmp 92)) none]
def r155_43 : List IOper := [op (some 94) (.eq false .int (.tmp 9) (.const (.int .i64 24))) none,
  op (some 93) (.mv (.tmp 94)) none]
def r155_44 : List IOper := [op (some 95) (.eq false .int (.tmp 9) (.const (.int .i64 29))) none,
  op (some 93) (.mv (.tmp 95)) none]
def r155_45 : List IOper := [op (some 96) (.eq false .int (.tmp 9) (.const (.int .i64 32))) none,
  op (some 93) (.mv (.tmp 96)) none]
def r155_46 : List IOper := [op (some 97) (.mv (.tmp 1)) none,
  op (some 98) (.call false (.const (.fn 200 [] [])) [(.tmp 97), (.const (.int .i64 3))]) none,
  op (some 99) (.call false (.const (.fn 199 [] [])) [(.tmp 98), (.const (.int .i64 2))]) none,
  op none (.store 2 (.tmp 4) (.tmp 99)) none]
def r155_47 : List IOper := [op (some 101) (.eq false .int (.tmp 9) (.const (.int .i64 25))) none,
  op (some 100) (.mv (.tmp 101)) none]
def r155_48 : List IOper := [op (some 102) (.mv (.tmp 1)) none,
  op (some 103) (.slice 1 (.tmp 102) none (some (.const (.int .i64 1))) none) none,
  op (some 104) (.call false (.const (.fn 200 [] [])) [(.tmp 103), (.const (.int .i64 3))]) none,
  op (some 105) (.mv (.tmp 104)) none,
  op (some 106) (.mv (.tmp 1)) (some (105, true)),
  op (some 107) (.slice 1 (.tmp 106) (some (.const (.int .i64 1))) none none) (some (105, true)),
  op (some 108) (.call false (.const (.fn 200 [] [])) [(.tmp 107), (.const (.int .i64 2))]) (some (105, true)),
  op (some 109) (.pick (.tmp 105) (.tmp 108) (.const (.bool false))) none,
  op (some 110) (.call false (.const (.fn 199 [] [])) [(.tmp 109), (.const (.int .i64 3))]) none,
  op none (.store 2 (.tmp 4) (.tmp 110)) none]
def r155_49 : List IOper := [op (some 112) (.eq false .int (.tmp 9) (.const (.int .i64 30))) none,
  op (some 111) (.mv (.tmp 112)) none]
def r155_50 : List IOper := [op (some 113) (.mv (.tmp 1)) none,
  op (some 114) (.call false (.const (.fn 200 [] [])) [(.tmp 113), (.const (.int .i64 3))]) none,
  op (some 115) (.call false (.const (.fn 199 [] [])) [(.tmp 114), (.const (.int .i64 1))]) none,
  op none (.store 2 (.tmp 4) (.tmp 115)) none]
def r155_51 : List IOper := [op (some 116) (.build [(.int .i64 0), (.int .i64 0)] [(0, 1, (.const (.int .i64 3)))]) none,
  op none (.store 2 (.tmp 4) (.tmp 116)) none]
def f155 : IFunc := { nt := 117, own := false, results := [.cell 4 true 2], body := (.seq (.region r155_0) (.seq (.seq (.region r155_1) (.block 0 (.seq (.seq (.region r155_2) (.cond (.tmp 10) .skip (.seq (.region r155_3) (.cond (.tmp 10) .skip (.seq (.region r155_4) (.cond (.tmp 10) .skip (.seq (.region r155_5) (.cond (.tmp 10) .skip (.seq (.region r155_6) (.cond (.tmp 10) .skip (.region r155_7))))))))))) (.cond (.tmp 10) (.seq (.region r155_8) .ret) (.seq (.seq (.region r155_9) (.cond (.tmp 20) .skip (.seq (.region r155_10) (.cond (.tmp 20) .skip (.seq (.region r155_11) (.cond (.tmp 20) .skip (.seq (.region r155_12) (.cond (.tmp 20) .skip (.seq (.region r155_13) (.cond (.tmp 20) .skip (.seq (.region r155_14) (.cond (.tmp 20) .skip (.region r155_15))))))))))))) (.cond (.tmp 20) (.seq (.region r155_16) .ret) (.seq (.seq (.region r155_17) (.cond (.tmp 33) .skip (.seq (.region r155_18) (.cond (.tmp 33) .skip (.region r155_19))))) (.cond (.tmp 33) (.seq (.region r155_20) .ret) (.seq (.region r155_21) (.cond (.tmp 40) (.seq (.region r155_22) .ret) (.seq (.region r155_23) (.cond (.tmp 43) (.seq (.region r155_24) (.seq (.region r155_25) (.seq (.seq (.region r155_26) (.block 1 (.loop l155_32))) (.seq (.seq (.region r155_33) (.cond (.tmp 77) (.seq (.region r155_34) .ret) .skip)) (.seq (.region r155_35) .ret))))) (.seq (.region r155_36) (.cond (.tmp 81) (.seq (.region r155_37) .ret) (.seq (.seq (.region r155_38) (.cond (.tmp 85) .skip (.seq (.region r155_39) (.cond (.tmp 85) .skip (.seq (.region r155_40) (.cond (.tmp 85) .skip (.region r155_41))))))) (.cond (.tmp 85) (.seq (.region r155_42) .ret) (.seq (.seq (.region r155_43) (.cond (.tmp 93) .skip (.seq (.region r155_44) (.cond (.tmp 93) .skip (.region r155_45))))) (.cond (.tmp 93) (.seq (.region r155_46) .ret) (.seq (.region r155_47) (.cond (.tmp 100) (.seq (.region r155_48) .ret) (.seq (.region r155_49) (.cond (.tmp 111) (.seq (.region r155_50) .ret) .skip)))))))))))))))))))))) (.seq (.region r155_51) .ret))) }
/-! 156: understory/expr.bounds$1 -/
def r156_0 : List IOper := [op (some 2) (.box (.tmp 0)) none,
  op (some 3) (.mv (.const (.bool false))) none]
def r156_1 : List IOper := [op (some 4) (.fld 0 (.tmp 2)) none,
  op (some 5) (.load false 1 (.tmp 4)) none,
  op (some 6) (.eq false .int (.tmp 5) (.const (.int .i64 2))) none,
  op (some 7) (.mv (.tmp 6)) none,
  op (some 8) (.fld 1 (.tmp 2)) (some (7, true)),
  op (some 9) (.load false 1 (.tmp 8)) (some (7, true)),
  op (some 10) (.load false 1 (.tmp 1)) (some (7, true)),
  op (some 11) (.eq false .int (.tmp 9) (.tmp 10)) (some (7, true)),
  op (some 12) (.pick (.tmp 7) (.tmp 11) (.const (.bool false))) none,
  op (some 3) (.mv (.tmp 12)) none]
def f156 : IFunc := { nt := 13, own := false, results := [.tmp 3], body := (.seq (.region r156_0) (.seq (.region r156_1) .ret)) }
/-! 157: understory/expr.against -/
def r157_0 : List IOper := [op (some 3) (.box (.tmp 1)) none,
  op (some 4) (.alloc [(.bool false), (.bool false), (.bool false), (.bool false), (.bool false), (.int .i64 0), (.int .i64 0), (.str []), (.int .i64 0), (.int .i64 0), (.str [])]) none]
def r157_1 : List IOper := [op (some 6) (.fld 0 (.tmp 3)) none,
  op (some 7) (.load false 1 (.tmp 6)) none,
  op (some 8) (.eq false .int (.tmp 7) (.const (.int .i64 0))) none]
def r157_2 : List IOper := [op (some 9) (.build [(.bool false), (.bool false), (.bool false), (.bool false), (.bool false), (.int .i64 0), (.int .i64 0), (.str []), (.int .i64 0), (.int .i64 0), (.str [])] [(4, 1, (.const (.bool true)))]) none,
  op none (.store 11 (.tmp 4) (.tmp 9)) none]
def r157_3 : List IOper := [op (some 5) (.alloc [(.bool false), (.bool false), (.bool false), (.bool false), (.bool false), (.int .i64 0), (.int .i64 0), (.str []), (.int .i64 0), (.int .i64 0), (.str [])]) none]
def r157_4 : List IOper := [op (some 10) (.mv (.tmp 0)) none,
  op (some 11) (.eq false .int (.tmp 10) (.const (.int .i64 10))) none,
  op (some 12) (.mv (.tmp 11)) none,
  op (some 13) (.mv (.tmp 0)) (some (12, false)),
  op (some 14) (.eq false .int (.tmp 13) (.const (.int .i64 14))) (some (12, false)),
  op (some 15) (.pick (.tmp 12) (.const (.bool true)) (.tmp 14)) none,
  op (some 16) (.mv (.tmp 15)) none,
  op (some 17) (.mv (.tmp 0)) (some (16, false)),
  op (some 18) (.eq false .int (.tmp 17) (.const (.int .i64 15))) (some (16, false)),
  op (some 19) (.pick (.tmp 16) (.const (.bool true)) (.tmp 18)) none]
def r157_5 : List IOper := [opx (some 20) (.mv (.tmp 0)) none true false false false 0 [],
  opx (some 21) (.eq true .int (.tmp 20) (.const (.int .i64 14))) none true false false false 1 [],
  opx (some 22) (.load true 3 (.tmp 3)) none false false false false 0 [4, 6],
  opx (some 23) (.fld 0 (.tmp 5)) none true false true false 0 [],
  opx none (.store 1 (.tmp 23) (.const (.bool true))) none false false true true 8 [2],
  opx (some 24) (.fld 2 (.tmp 5)) none true false true false 27 [],
  opx none (.store 1 (.tmp 24) (.tmp 21)) none false false true true 59 [2],
  opx (some 25) (.fld 5 (.tmp 5)) none true true true false 127 [],
  opx none (.store 3 (.tmp 25) (.tmp 22)) none true true true true 255 []]
def r157_6 : List IOper := [op (some 26) (.mv (.tmp 0)) none,
  op (some 27) (.eq false .int (.tmp 26) (.const (.int .i64 10))) none,
  op (some 28) (.mv (.tmp 27)) none,
  op (some 29) (.mv (.tmp 0)) (some (28, false)),
  op (some 30) (.eq false .int (.tmp 29) (.const (.int .i64 12))) (some (28, false)),
  op (some 31) (.pick (.tmp 28) (.const (.bool true)) (.tmp 30)) none,
  op (some 32) (.mv (.tmp 31)) none,
  op (some 33) (.mv (.tmp 0)) (some (32, false)),
  op (some 34) (.eq false .int (.tmp 33) (.const (.int .i64 13))) (some (32, false)),
  op (some 35) (.pick (.tmp 32) (.const (.bool true)) (.tmp 34)) none]
def r157_7 : List IOper := [opx (some 36) (.mv (.tmp 0)) none true false false false 0 [],
  opx (some 37) (.eq true .int (.tmp 36) (.const (.int .i64 12))) none true false false false 1 [],
  opx (some 38) (.load true 3 (.tmp 3)) none false false false false 0 [4, 6],
  opx (some 39) (.fld 1 (.tmp 5)) none true false true false 0 [],
  opx none (.store 1 (.tmp 39) (.const (.bool true))) none false false true true 8 [2],
  opx (some 40) (.fld 3 (.tmp 5)) none true false true false 27 [],
  opx none (.store 1 (.tmp 40) (.tmp 37)) none false false true true 59 [2],
  opx (some 41) (.fld 8 (.tmp 5)) none true true true false 127 [],
  opx none (.store 3 (.tmp 41) (.tmp 38)) none true true true true 255 []]
def r157_8 : List IOper := [op (some 42) (.load true 11 (.tmp 5)) none,
  op none (.store 11 (.tmp 4) (.tmp 42)) none]
def f157 : IFunc := { nt := 43, own := false, results := [.cell 4 true 11], body := (.seq (.region r157_0) (.seq (.seq (.region r157_1) (.cond (.tmp 8) (.seq (.region r157_2) .ret) .skip)) (.seq (.region r157_3) (.seq (.seq (.region r157_4) (.cond (.tmp 19) (.region r157_5) .skip)) (.seq (.seq (.region r157_6) (.cond (.tmp 35) (.region r157_7) .skip)) (.seq (.region r157_8) .ret)))))) }
/-! 163: cmp.Or[int] -/
def r163_0 : List IOper := [op (some 2) (.mv (.const (.int .i64 0))) none]
def r163_1 : List IOper := [op (some 3) (.mv (.const (.int .i64 0))) none]
def r163_2 : List IOper := [op (some 6) (.mv (.tmp 0)) none,
  op (some 7) (.len .slice (.tmp 6)) none,
  op (some 8) (.mv (.const (.int .i64 0))) none]
def r163_3 : List IOper := [op (some 9) (.bin .lss (.tmp 8) (.tmp 7)) none]
def r163_4 : List IOper := [op (some 10) (.idx none 1 (.tmp 6) (.tmp 8)) none,
  op (some 11) (.load false 1 (.tmp 10)) none,
  op (some 5) (.mv (.tmp 11)) none]
def r163_5 : List IOper := [op (some 12) (.mv (.tmp 5)) none,
  op (some 13) (.mv (.tmp 3)) none,
  op (some 14) (.eq true .int (.tmp 12) (.tmp 13)) none]
def r163_6 : List IOper := [op (some 15) (.mv (.tmp 5)) none,
  op (some 2) (.mv (.tmp 15)) none]
def r163_7 : List IOper := [op (some 16) (.bin .add (.tmp 8) (.const (.int .i64 1))) none,
  op (some 8) (.mv (.tmp 16)) none]
def l163_8 : IC := (.seq (.region r163_3) (.seq (.cond (.tmp 9) .skip (.exit 0)) (.seq (.block 1 (.seq (.region r163_4) (.seq (.region r163_5) (.cond (.tmp 14) (.seq (.region r163_6) .ret) .skip)))) (.region r163_7))))
def r163_9 : List IOper := [op (some 17) (.mv (.tmp 3)) none,
  op (some 2) (.mv (.tmp 17)) none]
def f163 : IFunc := { nt := 18, own := false, results := [.tmp 2], body := (.seq (.region r163_0) (.seq (.region r163_1) (.seq (.seq (.region r163_2) (.block 0 (.loop l163_8))) (.seq (.region r163_9) .ret)))) }
/-! 164: cmp.Compare[int] -/
def r164_0 : List IOper := [op (some 4) (.mv (.const (.int .i64 0))) none]
def r164_1 : List IOper := [op (some 7) (.mv (.tmp 0)) none,
  op (some 8) (.call false (.const (.fn 202 [] [])) [(.tmp 7)]) none,
  op (some 5) (.mv (.tmp 8)) none]
def r164_2 : List IOper := [op (some 9) (.mv (.tmp 1)) none,
  op (some 10) (.call false (.const (.fn 202 [] [])) [(.tmp 9)]) none,
  op (some 6) (.mv (.tmp 10)) none]
def r164_3 : List IOper := [op (some 11) (.mv (.tmp 5)) none]
def r164_4 : List IOper := [op (some 12) (.mv (.tmp 6)) none]
def r164_5 : List IOper := [op (some 4) (.mv (.const (.int .i64 0))) none]
def r164_6 : List IOper := [op (some 4) (.mv (.const (.int .i64 (-1)))) none]
def r164_7 : List IOper := [op (some 13) (.mv (.tmp 6)) none]
def r164_8 : List IOper := [op (some 4) (.mv (.const (.int .i64 1))) none]
def r164_9 : List IOper := [op (some 14) (.mv (.tmp 0)) none,
  op (some 15) (.mv (.tmp 1)) none,
  op (some 16) (.bin .lss (.tmp 14) (.tmp 15)) none]
def r164_10 : List IOper := [op (some 4) (.mv (.const (.int .i64 (-1)))) none]
def r164_11 : List IOper := [op (some 17) (.mv (.tmp 0)) none,
  op (some 18) (.mv (.tmp 1)) none,
  op (some 19) (.bin .gtr (.tmp 17) (.tmp 18)) none]
def r164_12 : List IOper := [op (some 4) (.mv (.const (.int .i64 1))) none]
def r164_13 : List IOper := [op (some 4) (.mv (.const (.int .i64 0))) none]
def f164 : IFunc := { nt := 20, own := false, results := [.tmp 4], body := (.seq (.region r164_0) (.seq (.region r164_1) (.seq (.region r164_2) (.seq (.seq (.region r164_3) (.cond (.tmp 11) (.seq (.seq (.region r164_4) (.cond (.tmp 12) (.seq (.region r164_5) .ret) .skip)) (.seq (.region r164_6) .ret)) .skip)) (.seq (.seq (.region r164_7) (.cond (.tmp 13) (.seq (.region r164_8) .ret) .skip)) (.seq (.seq (.region r164_9) (.cond (.tmp 16) (.seq (.region r164_10) .ret) .skip)) (.seq (.seq (.region r164_11) (.cond (.tmp 19) (.seq (.region r164_12) .ret) .skip)) (.seq (.region r164_13) .ret)))))))) }
/-! 165: cmp.Compare[string] -/
def r165_0 : List IOper := [op (some 4) (.mv (.const (.int .i64 0))) none]
def r165_1 : List IOper := [op (some 7) (.mv (.tmp 0)) none,
  op (some 8) (.call false (.const (.fn 203 [] [])) [(.tmp 7)]) none,
  op (some 5) (.mv (.tmp 8)) none]
def r165_2 : List IOper := [op (some 9) (.mv (.tmp 1)) none,
  op (some 10) (.call false (.const (.fn 203 [] [])) [(.tmp 9)]) none,
  op (some 6) (.mv (.tmp 10)) none]
def r165_3 : List IOper := [op (some 11) (.mv (.tmp 5)) none]
def r165_4 : List IOper := [op (some 12) (.mv (.tmp 6)) none]
def r165_5 : List IOper := [op (some 4) (.mv (.const (.int .i64 0))) none]
def r165_6 : List IOper := [op (some 4) (.mv (.const (.int .i64 (-1)))) none]
def r165_7 : List IOper := [op (some 13) (.mv (.tmp 6)) none]
def r165_8 : List IOper := [op (some 4) (.mv (.const (.int .i64 1))) none]
def r165_9 : List IOper := [op (some 14) (.mv (.tmp 0)) none,
  op (some 15) (.mv (.tmp 1)) none,
  op (some 16) (.bin .lss (.tmp 14) (.tmp 15)) none]
def r165_10 : List IOper := [op (some 4) (.mv (.const (.int .i64 (-1)))) none]
def r165_11 : List IOper := [op (some 17) (.mv (.tmp 0)) none,
  op (some 18) (.mv (.tmp 1)) none,
  op (some 19) (.bin .gtr (.tmp 17) (.tmp 18)) none]
def r165_12 : List IOper := [op (some 4) (.mv (.const (.int .i64 1))) none]
def r165_13 : List IOper := [op (some 4) (.mv (.const (.int .i64 0))) none]
def f165 : IFunc := { nt := 20, own := false, results := [.tmp 4], body := (.seq (.region r165_0) (.seq (.region r165_1) (.seq (.region r165_2) (.seq (.seq (.region r165_3) (.cond (.tmp 11) (.seq (.seq (.region r165_4) (.cond (.tmp 12) (.seq (.region r165_5) .ret) .skip)) (.seq (.region r165_6) .ret)) .skip)) (.seq (.seq (.region r165_7) (.cond (.tmp 13) (.seq (.region r165_8) .ret) .skip)) (.seq (.seq (.region r165_9) (.cond (.tmp 16) (.seq (.region r165_10) .ret) .skip)) (.seq (.seq (.region r165_11) (.cond (.tmp 19) (.seq (.region r165_12) .ret) .skip)) (.seq (.region r165_13) .ret)))))))) }
/-! 170: (understory/expr.evaluation).computed -/
def r170_0 : List IOper := [op (some 2) (.box (.tmp 0)) none,
  op (some 3) (.box (.tmp 1)) none,
  op (some 4) (.alloc [(.int .i64 0), (.int .i64 0), (.str [])]) none]
def r170_1 : List IOper := [op (some 8) (.fld 5 (.tmp 3)) none,
  op (some 9) (.load false 1 (.tmp 8)) none,
  op (some 10) (.load true 3 (.tmp 2)) none,
  op (some 11) (.mkF 91 [(.tmp 10)] []) none,
  op (some 12) (.call true (.const (.fn 205 [] [])) [(.tmp 9), (.tmp 11)]) none,
  op (some 5) (.mv (.tmp 12)) none]
def r170_2 : List IOper := [opx (some 13) (.fld 0 (.tmp 2)) none true false true false 0 [],
  opx (some 14) (.load false 1 (.tmp 13)) none false false true false 1 [],
  opx (some 15) (.load true 6 (.tmp 3)) none false false true false 0 [],
  opx (some 16) (.mv (.tmp 5)) none true false true false 0 [],
  opx (some 17) (.call true (.const (.fn 206 [] [])) [(.tmp 16), (.const (.fn 207 [] []))]) none false false true false 8 [],
  opx (some 18) (.call false (.const (.fn 81 [] [])) [(.tmp 14), (.tmp 15), (.tmp 17)]) none true true true false 31 []]
def r170_3 : List IOper := [op (some 19) (.mv (.tmp 5)) none,
  op (some 20) (.len .slice (.tmp 19)) none,
  op (some 21) (.mv (.const (.int .i64 0))) none]
def r170_4 : List IOper := [op (some 22) (.bin .lss (.tmp 21) (.tmp 20)) none]
def r170_5 : List IOper := [op (some 23) (.idx none 3 (.tmp 19) (.tmp 21)) none,
  op (some 24) (.load true 3 (.tmp 23)) none,
  op (some 7) (.alloc [(.int .i64 0), (.int .i64 0), (.str [])]) none,
  op none (.store 3 (.tmp 7) (.tmp 24)) none]
def r170_6 : List IOper := [op (some 25) (.fld 0 (.tmp 7)) none,
  op (some 26) (.load false 1 (.tmp 25)) none,
  op (some 27) (.eq false .int (.tmp 26) (.const (.int .i64 0))) none]
def r170_7 : List IOper := [op (some 28) (.build [(.int .i64 0), (.int .i64 0), (.str [])] []) none,
  op none (.store 3 (.tmp 4) (.tmp 28)) none]
def r170_8 : List IOper := [op (some 29) (.bin .add (.tmp 21) (.const (.int .i64 1))) none,
  op (some 21) (.mv (.tmp 29)) none]
def l170_9 : IC := (.seq (.region r170_4) (.seq (.cond (.tmp 22) .skip (.exit 0)) (.seq (.block 1 (.seq (.region r170_5) (.seq (.region r170_6) (.cond (.tmp 27) (.seq (.region r170_7) .ret) .skip)))) (.region r170_8))))
def r170_10 : List IOper := [opx (some 30) (.fld 0 (.tmp 2)) none true false true false 0 [],
  opx (some 31) (.load false 1 (.tmp 30)) none false false true false 1 [],
  opx (some 32) (.fld 0 (.tmp 3)) none true false true false 0 [],
  opx (some 33) (.load false 1 (.tmp 32)) none false false true false 4 [],
  opx (some 34) (.nilck (.tmp 31)) none true false true false 3 [],
  opx (some 35) (.idx (some 33) 6 (.tmp 34) (.tmp 33)) none true false true false 31 [],
  opx (some 36) (.fld 5 (.tmp 35)) none true false true false 63 [],
  opx (some 37) (.load false 1 (.tmp 36)) none true false true false 127 [],
  opx (some 38) (.mv (.tmp 5)) none true false true false 0 [],
  opx (some 39) (.call false (.tmp 37) [(.tmp 38)]) none true true true false 511 [],
  opx none (.store 3 (.tmp 4) (.tmp 39)) none true true true true 1023 []]
def f170 : IFunc := { nt := 40, own := false, results := [.cell 4 true 3], body := (.seq (.region r170_0) (.seq (.region r170_1) (.seq (.region r170_2) (.seq (.seq (.region r170_3) (.block 0 (.loop l170_9))) (.seq (.region r170_10) .ret))))) }
/-! 171: understory/expr.nodes$1 -/
def r171_0 : List IOper := [op (some 2) (.box (.tmp 0)) none]
def r171_1 : List IOper := [op (some 3) (.alloc [.nilf]) none]
def r171_2 : List IOper := [op (some 4) (.mkF 172 [] [(.tmp 3), (.tmp 2)]) none,
  op none (.store 1 (.tmp 3) (.tmp 4)) none]
def r171_3 : List IOper := [op (some 5) (.load false 1 (.tmp 3)) none,
  op (some 6) (.load true 6 (.tmp 1)) none,
  op (some 7) (.call false (.tmp 5) [(.const (.slice .full 1 [])), (.tmp 6)]) none]
def f171 : IFunc := { nt := 8, own := false, results := [], body := (.seq (.region r171_0) (.seq (.region r171_1) (.seq (.region r171_2) (.region r171_3)))) }
/-! 172: understory/expr.nodes$1$1 -/
def r172_0 : List IOper := [op (some 5) (.box (.tmp 1)) none,
  op (some 6) (.mv (.const (.bool false))) none]
def r172_1 : List IOper := [op (some 9) (.fld 5 (.tmp 5)) none,
  op (some 10) (.load false 1 (.tmp 9)) none,
  op (some 11) (.len .slice (.tmp 10)) none,
  op (some 12) (.mv (.const (.int .i64 0))) none]
def r172_2 : List IOper := [op (some 13) (.bin .lss (.tmp 12) (.tmp 11)) none]
def r172_3 : List IOper := [op (some 14) (.mv (.tmp 12)) none,
  op (some 15) (.idx none 6 (.tmp 10) (.tmp 12)) none,
  op (some 16) (.load true 6 (.tmp 15)) none,
  op (some 8) (.alloc [(.int .i64 0), (.int .i64 0), (.int .i64 0), (.int .i64 0), (.str []), (.slice .full 6 [])]) none,
  op (some 7) (.mv (.tmp 14)) none,
  op none (.store 6 (.tmp 8) (.tmp 16)) none]
def r172_4 : List IOper := [opx (some 17) (.load false 1 (.tmp 2)) none false false false false 0 [],
  opx (some 18) (.mv (.tmp 0)) none true false true false 0 [],
  opx (some 19) (.clone false 173 1 8 (.tmp 18)) none false false true false 2 [],
  opx (some 20) (.mv (.tmp 7)) none true false false false 0 [],
  opx (some 21) (.buildSl 1 [(.tmp 20)]) none false false false false 8 [],
  opx (some 22) (.append false false 1 8 (.tmp 19) (.tmp 21)) none false false true false 30 [],
  opx (some 23) (.load true 6 (.tmp 8)) none false false false false 0 [],
  opx (some 24) (.call false (.tmp 17) [(.tmp 22), (.tmp 23)]) none true true true false 127 [],
  opx (some 25) (.un .not (.tmp 24)) none true true true false 255 []]
def r172_5 : List IOper := [op (some 6) (.mv (.const (.bool false))) none]
def r172_6 : List IOper := [op (some 26) (.bin .add (.tmp 12) (.const (.int .i64 1))) none,
  op (some 12) (.mv (.tmp 26)) none]
def l172_7 : IC := (.seq (.region r172_2) (.seq (.cond (.tmp 13) .skip (.exit 0)) (.seq (.block 1 (.seq (.region r172_3) (.seq (.region r172_4) (.cond (.tmp 25) (.seq (.region r172_5) .ret) .skip)))) (.region r172_6))))
def r172_8 : List IOper := [op (some 27) (.load false 1 (.tmp 3)) none,
  op (some 28) (.mv (.tmp 0)) none,
  op (some 29) (.load true 6 (.tmp 5)) none,
  op (some 30) (.call false (.tmp 27) [(.tmp 28), (.tmp 29)]) none,
  op (some 6) (.mv (.tmp 30)) none]
def f172 : IFunc := { nt := 31, own := false, results := [.tmp 6], body := (.seq (.region r172_0) (.seq (.seq (.region r172_1) (.block 0 (.loop l172_7))) (.seq (.region r172_8) .ret))) }
/-! 174: understory/understoryref23.shapes -/
def r174_0 : List IOper := [op (some 2) (.alloc [(.int .i64 0), (.int .i64 0), (.bool false)]) none]
def r174_1 : List IOper := [op (some 3) (.mv (.tmp 0)) none]
def r174_2 : List IOper := [op (some 5) (.eq false .int (.tmp 3) (.const (.int .i64 1))) none,
  op (some 4) (.mv (.tmp 5)) none]
def r174_3 : List IOper := [op (some 6) (.eq false .int (.tmp 3) (.const (.int .i64 2))) none,
  op (some 4) (.mv (.tmp 6)) none]
def r174_4 : List IOper := [op (some 7) (.eq false .int (.tmp 3) (.const (.int .i64 3))) none,
  op (some 4) (.mv (.tmp 7)) none]
def r174_5 : List IOper := [op (some 8) (.build [(.int .i64 0), (.int .i64 0), (.bool false)] [(0, 1, (.const (.int .i64 0))), (1, 1, (.const (.int .i64 0))), (2, 1, (.const (.bool false)))]) none,
  op none (.store 3 (.tmp 2) (.tmp 8)) none]
def r174_6 : List IOper := [op (some 10) (.eq false .int (.tmp 3) (.const (.int .i64 4))) none,
  op (some 9) (.mv (.tmp 10)) none]
def r174_7 : List IOper := [op (some 11) (.eq false .int (.tmp 3) (.const (.int .i64 18))) none,
  op (some 9) (.mv (.tmp 11)) none]
def r174_8 : List IOper := [op (some 12) (.eq false .int (.tmp 3) (.const (.int .i64 19))) none,
  op (some 9) (.mv (.tmp 12)) none]
def r174_9 : List IOper := [op (some 13) (.eq false .int (.tmp 3) (.const (.int .i64 24))) none,
  op (some 9) (.mv (.tmp 13)) none]
def r174_10 : List IOper := [op (some 14) (.eq false .int (.tmp 3) (.const (.int .i64 26))) none,
  op (some 9) (.mv (.tmp 14)) none]
def r174_11 : List IOper := [op (some 15) (.eq false .int (.tmp 3) (.const (.int .i64 27))) none,
  op (some 9) (.mv (.tmp 15)) none]
def r174_12 : List IOper := [op (some 16) (.eq false .int (.tmp 3) (.const (.int .i64 28))) none,
  op (some 9) (.mv (.tmp 16)) none]
def r174_13 : List IOper := [op (some 17) (.eq false .int (.tmp 3) (.const (.int .i64 31))) none,
  op (some 9) (.mv (.tmp 17)) none]
def r174_14 : List IOper := [op (some 18) (.eq false .int (.tmp 3) (.const (.int .i64 32))) none,
  op (some 9) (.mv (.tmp 18)) none]
def r174_15 : List IOper := [op (some 19) (.build [(.int .i64 0), (.int .i64 0), (.bool false)] [(0, 1, (.const (.int .i64 1))), (1, 1, (.const (.int .i64 1))), (2, 1, (.const (.bool false)))]) none,
  op none (.store 3 (.tmp 2) (.tmp 19)) none]
def r174_16 : List IOper := [op (some 21) (.eq false .int (.tmp 3) (.const (.int .i64 5))) none,
  op (some 20) (.mv (.tmp 21)) none]
def r174_17 : List IOper := [op (some 22) (.eq false .int (.tmp 3) (.const (.int .i64 6))) none,
  op (some 20) (.mv (.tmp 22)) none]
def r174_18 : List IOper := [op (some 23) (.eq false .int (.tmp 3) (.const (.int .i64 7))) none,
  op (some 20) (.mv (.tmp 23)) none]
def r174_19 : List IOper := [op (some 24) (.eq false .int (.tmp 3) (.const (.int .i64 8))) none,
  op (some 20) (.mv (.tmp 24)) none]
def r174_20 : List IOper := [op (some 25) (.eq false .int (.tmp 3) (.const (.int .i64 9))) none,
  op (some 20) (.mv (.tmp 25)) none]
def r174_21 : List IOper := [op (some 26) (.eq false .int (.tmp 3) (.const (.int .i64 10))) none,
  op (some 20) (.mv (.tmp 26)) none]
def r174_22 : List IOper := [op (some 27) (.eq false .int (.tmp 3) (.const (.int .i64 11))) none,
  op (some 20) (.mv (.tmp 27)) none]
def r174_23 : List IOper := [op (some 28) (.eq false .int (.tmp 3) (.const (.int .i64 12))) none,
  op (some 20) (.mv (.tmp 28)) none]
def r174_24 : List IOper := [op (some 29) (.eq false .int (.tmp 3) (.const (.int .i64 13))) none,
  op (some 20) (.mv (.tmp 29)) none]
def r174_25 : List IOper := [op (some 30) (.eq false .int (.tmp 3) (.const (.int .i64 14))) none,
  op (some 20) (.mv (.tmp 30)) none]
def r174_26 : List IOper := [op (some 31) (.eq false .int (.tmp 3) (.const (.int .i64 15))) none,
  op (some 20) (.mv (.tmp 31)) none]
def r174_27 : List IOper := [op (some 32) (.eq false .int (.tmp 3) (.const (.int .i64 29))) none,
  op (some 20) (.mv (.tmp 32)) none]
def r174_28 : List IOper := [op (some 33) (.eq false .int (.tmp 3) (.const (.int .i64 30))) none,
  op (some 20) (.mv (.tmp 33)) none]
def r174_29 : List IOper := [op (some 34) (.build [(.int .i64 0), (.int .i64 0), (.bool false)] [(0, 1, (.const (.int .i64 2))), (1, 1, (.const (.int .i64 2))), (2, 1, (.const (.bool false)))]) none,
  op none (.store 3 (.tmp 2) (.tmp 34)) none]
def r174_30 : List IOper := [op (some 36) (.eq false .int (.tmp 3) (.const (.int .i64 16))) none,
  op (some 35) (.mv (.tmp 36)) none]
def r174_31 : List IOper := [op (some 37) (.eq false .int (.tmp 3) (.const (.int .i64 17))) none,
  op (some 35) (.mv (.tmp 37)) none]
def r174_32 : List IOper := [op (some 38) (.build [(.int .i64 0), (.int .i64 0), (.bool false)] [(0, 1, (.const (.int .i64 1))), (1, 1, (.const (.int .i64 50))), (2, 1, (.const (.bool false)))]) none,
  op none (.store 3 (.tmp 2) (.tmp 38)) none]
def r174_33 : List IOper := [op (some 40) (.eq false .int (.tmp 3) (.const (.int .i64 20))) none,
  op (some 39) (.mv (.tmp 40)) none]
def r174_34 : List IOper := [op (some 41) (.build [(.int .i64 0), (.int .i64 0), (.bool false)] [(0, 1, (.const (.int .i64 3))), (1, 1, (.const (.int .i64 41))), (2, 1, (.const (.bool true)))]) none,
  op none (.store 3 (.tmp 2) (.tmp 41)) none]
def r174_35 : List IOper := [op (some 43) (.eq false .int (.tmp 3) (.const (.int .i64 21))) none,
  op (some 42) (.mv (.tmp 43)) none]
def r174_36 : List IOper := [op (some 44) (.eq false .int (.tmp 3) (.const (.int .i64 23))) none,
  op (some 42) (.mv (.tmp 44)) none]
def r174_37 : List IOper := [op (some 45) (.build [(.int .i64 0), (.int .i64 0), (.bool false)] [(0, 1, (.const (.int .i64 1))), (1, 1, (.const (.int .i64 20))), (2, 1, (.const (.bool false)))]) none,
  op none (.store 3 (.tmp 2) (.tmp 45)) none]
def r174_38 : List IOper := [op (some 47) (.eq false .int (.tmp 3) (.const (.int .i64 22))) none,
  op (some 46) (.mv (.tmp 47)) none]
def r174_39 : List IOper := [op (some 48) (.build [(.int .i64 0), (.int .i64 0), (.bool false)] [(0, 1, (.const (.int .i64 2))), (1, 1, (.const (.int .i64 50))), (2, 1, (.const (.bool false)))]) none,
  op none (.store 3 (.tmp 2) (.tmp 48)) none]
def r174_40 : List IOper := [op (some 50) (.eq false .int (.tmp 3) (.const (.int .i64 25))) none,
  op (some 49) (.mv (.tmp 50)) none]
def r174_41 : List IOper := [op (some 51) (.build [(.int .i64 0), (.int .i64 0), (.bool false)] [(0, 1, (.const (.int .i64 3))), (1, 1, (.const (.int .i64 3))), (2, 1, (.const (.bool false)))]) none,
  op none (.store 3 (.tmp 2) (.tmp 51)) none]
def r174_42 : List IOper := [op (some 52) (.build [(.int .i64 0), (.int .i64 0), (.bool false)] [(0, 1, (.const (.int .i64 1))), (1, 1, (.const (.int .i64 0))), (2, 1, (.const (.bool false)))]) none,
  op none (.store 3 (.tmp 2) (.tmp 52)) none]
def f174 : IFunc := { nt := 53, own := false, results := [.cell 2 true 3], body := (.seq (.region r174_0) (.seq (.seq (.region r174_1) (.block 0 (.seq (.seq (.region r174_2) (.cond (.tmp 4) .skip (.seq (.region r174_3) (.cond (.tmp 4) .skip (.region r174_4))))) (.cond (.tmp 4) (.seq (.region r174_5) .ret) (.seq (.seq (.region r174_6) (.cond (.tmp 9) .skip (.seq (.region r174_7) (.cond (.tmp 9) .skip (.seq (.region r174_8) (.cond (.tmp 9) .skip (.seq (.region r174_9) (.cond (.tmp 9) .skip (.seq (.region r174_10) (.cond (.tmp 9) .skip (.seq (.region r174_11) (.cond (.tmp 9) .skip (.seq (.region r174_12) (.cond (.tmp 9) .skip (.seq (.region r174_13) (.cond (.tmp 9) .skip (.region r174_14))))))))))))))))) (.cond (.tmp 9) (.seq (.region r174_15) .ret) (.seq (.seq (.region r174_16) (.cond (.tmp 20) .skip (.seq (.region r174_17) (.cond (.tmp 20) .skip (.seq (.region r174_18) (.cond (.tmp 20) .skip (.seq (.region r174_19) (.cond (.tmp 20) .skip (.seq (.region r174_20) (.cond (.tmp 20) .skip (.seq (.region r174_21) (.cond (.tmp 20) .skip (.seq (.region r174_22) (.cond (.tmp 20) .skip (.seq (.region r174_23) (.cond (.tmp 20) .skip (.seq (.region r174_24) (.cond (.tmp 20) .skip (.seq (.region r174_25) (.cond (.tmp 20) .skip (.seq (.region r174_26) (.cond (.tmp 20) .skip (.seq (.region r174_27) (.cond (.tmp 20) .skip (.region r174_28))))))))))))))))))))))))) (.cond (.tmp 20) (.seq (.region r174_29) .ret) (.seq (.seq (.region r174_30) (.cond (.tmp 35) .skip (.region r174_31))) (.cond (.tmp 35) (.seq (.region r174_32) .ret) (.seq (.region r174_33) (.cond (.tmp 39) (.seq (.region r174_34) .ret) (.seq (.seq (.region r174_35) (.cond (.tmp 42) .skip (.region r174_36))) (.cond (.tmp 42) (.seq (.region r174_37) .ret) (.seq (.region r174_38) (.cond (.tmp 46) (.seq (.region r174_39) .ret) (.seq (.region r174_40) (.cond (.tmp 49) (.seq (.region r174_41) .ret) .skip)))))))))))))))))) (.seq (.region r174_42) .ret))) }
/-! 175: understory/understoryref01.Valid -/
def r175_0 : List IOper := [op (some 1) (.box (.tmp 0)) none,
  op (some 2) (.mv (.const (.bool false))) none]
def r175_1 : List IOper := [op (some 3) (.fld 0 (.tmp 1)) none,
  op (some 4) (.load false 1 (.tmp 3)) none]
def r175_2 : List IOper := [op (some 6) (.eq false .int (.tmp 4) (.const (.int .i64 0))) none,
  op (some 5) (.mv (.tmp 6)) none]
def r175_3 : List IOper := [op (some 7) (.fld 1 (.tmp 1)) none,
  op (some 8) (.load false 1 (.tmp 7)) none,
  op (some 9) (.eq false .int (.tmp 8) (.const (.int .i64 0))) none,
  op (some 10) (.mv (.tmp 9)) none,
  op (some 11) (.fld 2 (.tmp 1)) (some (10, true)),
  op (some 12) (.load false 1 (.tmp 11)) (some (10, true)),
  op (some 13) (.eq false .str (.tmp 12) (.const (.str []))) (some (10, true)),
  op (some 14) (.pick (.tmp 10) (.tmp 13) (.const (.bool false))) none,
  op (some 2) (.mv (.tmp 14)) none]
def r175_4 : List IOper := [op (some 16) (.eq false .int (.tmp 4) (.const (.int .i64 1))) none,
  op (some 15) (.mv (.tmp 16)) none]
def r175_5 : List IOper := [op (some 17) (.fld 1 (.tmp 1)) none,
  op (some 18) (.load false 1 (.tmp 17)) none,
  op (some 19) (.eq false .int (.tmp 18) (.const (.int .i64 0))) none,
  op (some 20) (.mv (.tmp 19)) none,
  op (some 21) (.fld 1 (.tmp 1)) (some (20, false)),
  op (some 22) (.load false 1 (.tmp 21)) (some (20, false)),
  op (some 23) (.eq false .int (.tmp 22) (.const (.int .i64 1))) (some (20, false)),
  op (some 24) (.pick (.tmp 20) (.const (.bool true)) (.tmp 23)) none,
  op (some 25) (.mv (.tmp 24)) none,
  op (some 26) (.fld 2 (.tmp 1)) (some (25, true)),
  op (some 27) (.load false 1 (.tmp 26)) (some (25, true)),
  op (some 28) (.eq false .str (.tmp 27) (.const (.str []))) (some (25, true)),
  op (some 29) (.pick (.tmp 25) (.tmp 28) (.const (.bool false))) none,
  op (some 2) (.mv (.tmp 29)) none]
def r175_6 : List IOper := [op (some 31) (.eq false .int (.tmp 4) (.const (.int .i64 2))) none,
  op (some 30) (.mv (.tmp 31)) none]
def r175_7 : List IOper := [op (some 32) (.fld 2 (.tmp 1)) none,
  op (some 33) (.load false 1 (.tmp 32)) none,
  op (some 34) (.eq false .str (.tmp 33) (.const (.str []))) none,
  op (some 2) (.mv (.tmp 34)) none]
def r175_8 : List IOper := [op (some 36) (.eq false .int (.tmp 4) (.const (.int .i64 3))) none,
  op (some 35) (.mv (.tmp 36)) none]
def r175_9 : List IOper := [op (some 37) (.fld 1 (.tmp 1)) none,
  op (some 38) (.load false 1 (.tmp 37)) none,
  op (some 39) (.eq false .int (.tmp 38) (.const (.int .i64 0))) none,
  op (some 2) (.mv (.tmp 39)) none]
def r175_10 : List IOper := [op (some 2) (.mv (.const (.bool false))) none]
def f175 : IFunc := { nt := 40, own := false, results := [.tmp 2], body := (.seq (.region r175_0) (.seq (.seq (.region r175_1) (.block 0 (.seq (.region r175_2) (.cond (.tmp 5) (.seq (.region r175_3) .ret) (.seq (.region r175_4) (.cond (.tmp 15) (.seq (.region r175_5) .ret) (.seq (.region r175_6) (.cond (.tmp 30) (.seq (.region r175_7) .ret) (.seq (.region r175_8) (.cond (.tmp 35) (.seq (.region r175_9) .ret) .skip)))))))))) (.seq (.region r175_10) .ret))) }
/-! 181: understory/expr.ruled -/
def r181_0 : List IOper := [op (some 2) (.box (.tmp 0)) none,
  op (some 4) (.alloc [(.int .i64 0), (.int .i64 0), (.int .i64 0), (.int .i64 0), (.str []), (.slice .full 6 [])]) none,
  op (some 5) (.mv (.const (.bool false))) none]
def r181_1 : List IOper := [op (some 8) (.build [(.int .i64 0), (.int .i64 0), (.str [])] []) none,
  op (some 6) (.alloc [(.int .i64 0), (.int .i64 0), (.str [])]) none,
  op none (.store 3 (.tmp 6) (.tmp 8)) none]
def r181_2 : List IOper := [op (some 9) (.mv (.tmp 1)) none]
def r181_3 : List IOper := [op (some 11) (.eq false .int (.tmp 9) (.const (.int .i64 1))) none,
  op (some 10) (.mv (.tmp 11)) none]
def r181_4 : List IOper := [opx (some 12) (.load true 6 (.tmp 2)) none false false true false 0 [],
  opx (some 13) (.call false (.const (.fn 99 [] [])) [(.const (.bool true))]) none false false true false 0 [],
  opx (some 14) (.call false (.const (.fn 222 [] [])) [(.tmp 12), (.const (.int .i64 16)), (.tmp 13)]) none true true true false 3 [],
  opx (some 15) (.ext (.tmp 14) 0) none true false true false 7 [],
  opx (some 16) (.ext (.tmp 14) 1) none true false true false 7 [],
  opx none (.store 6 (.tmp 4) (.tmp 15)) none true true true true 31 [],
  opx (some 5) (.mv (.tmp 16)) none true true true false 63 []]
def r181_5 : List IOper := [op (some 18) (.eq false .int (.tmp 9) (.const (.int .i64 2))) none,
  op (some 17) (.mv (.tmp 18)) none]
def r181_6 : List IOper := [opx (some 19) (.load true 6 (.tmp 2)) none false false true false 0 [],
  opx (some 20) (.call false (.const (.fn 99 [] [])) [(.const (.bool false))]) none false false true false 0 [],
  opx (some 21) (.call false (.const (.fn 223 [] [])) [(.tmp 19), (.const (.int .i64 16)), (.tmp 20)]) none true true true false 3 [],
  opx (some 22) (.ext (.tmp 21) 0) none true false true false 7 [],
  opx (some 23) (.ext (.tmp 21) 1) none true false true false 7 [],
  opx none (.store 6 (.tmp 4) (.tmp 22)) none true true true true 31 [],
  opx (some 5) (.mv (.tmp 23)) none true true true false 63 []]
def r181_7 : List IOper := [op (some 25) (.eq false .int (.tmp 9) (.const (.int .i64 3))) none,
  op (some 24) (.mv (.tmp 25)) none]
def r181_8 : List IOper := [opx (some 26) (.load true 6 (.tmp 2)) none false false true false 0 [],
  opx (some 27) (.call false (.const (.fn 99 [] [])) [(.const (.bool false))]) none false false true false 0 [],
  opx (some 28) (.call false (.const (.fn 222 [] [])) [(.tmp 26), (.const (.int .i64 17)), (.tmp 27)]) none true true true false 3 [],
  opx (some 29) (.ext (.tmp 28) 0) none true false true false 7 [],
  opx (some 30) (.ext (.tmp 28) 1) none true false true false 7 [],
  opx none (.store 6 (.tmp 4) (.tmp 29)) none true true true true 31 [],
  opx (some 5) (.mv (.tmp 30)) none true true true false 63 []]
def r181_9 : List IOper := [op (some 32) (.eq false .int (.tmp 9) (.const (.int .i64 4))) none,
  op (some 31) (.mv (.tmp 32)) none]
def r181_10 : List IOper := [opx (some 33) (.load true 6 (.tmp 2)) none false false true false 0 [],
  opx (some 34) (.call false (.const (.fn 99 [] [])) [(.const (.bool true))]) none false false true false 0 [],
  opx (some 35) (.call false (.const (.fn 223 [] [])) [(.tmp 33), (.const (.int .i64 17)), (.tmp 34)]) none true true true false 3 [],
  opx (some 36) (.ext (.tmp 35) 0) none true false true false 7 [],
  opx (some 37) (.ext (.tmp 35) 1) none true false true false 7 [],
  opx none (.store 6 (.tmp 4) (.tmp 36)) none true true true true 31 [],
  opx (some 5) (.mv (.tmp 37)) none true true true false 63 []]
def r181_11 : List IOper := [op (some 39) (.eq false .int (.tmp 9) (.const (.int .i64 5))) none,
  op (some 38) (.mv (.tmp 39)) none]
def r181_12 : List IOper := [op (some 40) (.fld 0 (.tmp 2)) none,
  op (some 41) (.load false 1 (.tmp 40)) none,
  op (some 42) (.eq false .int (.tmp 41) (.const (.int .i64 16))) none,
  op (some 43) (.mv (.tmp 42)) none,
  op (some 44) (.fld 0 (.tmp 2)) (some (43, false)),
  op (some 45) (.load false 1 (.tmp 44)) (some (43, false)),
  op (some 46) (.eq false .int (.tmp 45) (.const (.int .i64 17))) (some (43, false)),
  op (some 47) (.pick (.tmp 43) (.const (.bool true)) (.tmp 46)) none,
  op (some 48) (.mv (.tmp 47)) none,
  op (some 49) (.fld 5 (.tmp 2)) (some (48, true)),
  op (some 50) (.load false 1 (.tmp 49)) (some (48, true)),
  op (some 51) (.len .slice (.tmp 50)) (some (48, true)),
  op (some 52) (.eq false .int (.tmp 51) (.const (.int .i64 1))) (some (48, true)),
  op (some 53) (.pick (.tmp 48) (.tmp 52) (.const (.bool false))) none]
def r181_13 : List IOper := [op (some 54) (.fld 5 (.tmp 2)) none,
  op (some 55) (.load false 1 (.tmp 54)) none,
  op (some 56) (.idx none 6 (.tmp 55) (.const (.int .i64 0))) none,
  op (some 57) (.load true 6 (.tmp 56)) none,
  op none (.store 6 (.tmp 4) (.tmp 57)) none,
  op (some 5) (.mv (.const (.bool true))) none]
def r181_14 : List IOper := [op (some 59) (.eq false .int (.tmp 9) (.const (.int .i64 6))) none,
  op (some 58) (.mv (.tmp 59)) none]
def r181_15 : List IOper := [op (some 60) (.load true 6 (.tmp 2)) none,
  op (some 61) (.call false (.const (.fn 224 [] [])) [(.tmp 60)]) none,
  op (some 62) (.ext (.tmp 61) 0) none,
  op (some 63) (.ext (.tmp 61) 1) none,
  op none (.store 6 (.tmp 4) (.tmp 62)) none,
  op (some 5) (.mv (.tmp 63)) none]
def r181_16 : List IOper := [op (some 65) (.eq false .int (.tmp 9) (.const (.int .i64 7))) none,
  op (some 64) (.mv (.tmp 65)) none]
def r181_17 : List IOper := [op (some 66) (.fld 0 (.tmp 2)) none,
  op (some 67) (.load false 1 (.tmp 66)) none,
  op (some 68) (.eq false .int (.tmp 67) (.const (.int .i64 18))) none,
  op (some 69) (.mv (.tmp 68)) none,
  op (some 70) (.fld 5 (.tmp 2)) (some (69, true)),
  op (some 71) (.load false 1 (.tmp 70)) (some (69, true)),
  op (some 72) (.idx none 6 (.tmp 71) (.const (.int .i64 0))) (some (69, true)),
  op (some 73) (.fld 0 (.tmp 72)) (some (69, true)),
  op (some 74) (.load false 1 (.tmp 73)) (some (69, true)),
  op (some 75) (.eq false .int (.tmp 74) (.const (.int .i64 18))) (some (69, true)),
  op (some 76) (.pick (.tmp 69) (.tmp 75) (.const (.bool false))) none]
def r181_18 : List IOper := [op (some 77) (.fld 5 (.tmp 2)) none,
  op (some 78) (.load false 1 (.tmp 77)) none,
  op (some 79) (.idx none 6 (.tmp 78) (.const (.int .i64 0))) none,
  op (some 80) (.fld 5 (.tmp 79)) none,
  op (some 81) (.load false 1 (.tmp 80)) none,
  op (some 82) (.idx none 6 (.tmp 81) (.const (.int .i64 0))) none,
  op (some 83) (.load true 6 (.tmp 82)) none,
  op none (.store 6 (.tmp 4) (.tmp 83)) none,
  op (some 5) (.mv (.const (.bool true))) none]
def r181_19 : List IOper := [op (some 85) (.eq false .int (.tmp 9) (.const (.int .i64 8))) none,
  op (some 84) (.mv (.tmp 85)) none]
def r181_20 : List IOper := [op (some 86) (.fld 0 (.tmp 2)) none,
  op (some 87) (.load false 1 (.tmp 86)) none,
  op (some 88) (.eq false .int (.tmp 87) (.const (.int .i64 18))) none,
  op (some 89) (.mv (.tmp 88)) none,
  op (some 90) (.fld 5 (.tmp 2)) (some (89, true)),
  op (some 91) (.load false 1 (.tmp 90)) (some (89, true)),
  op (some 92) (.idx none 6 (.tmp 91) (.const (.int .i64 0))) (some (89, true)),
  op (some 93) (.fld 0 (.tmp 92)) (some (89, true)),
  op (some 94) (.load false 1 (.tmp 93)) (some (89, true)),
  op (some 95) (.call false (.const (.fn 225 [] [])) [(.tmp 94)]) (some (89, true)),
  op (some 96) (.bin .gtr (.tmp 95) (.const (.int .i64 0))) (some (89, true)),
  op (some 97) (.pick (.tmp 89) (.tmp 96) (.const (.bool false))) none]
def r181_21 : List IOper := [op (some 98) (.fld 5 (.tmp 2)) none,
  op (some 99) (.load false 1 (.tmp 98)) none,
  op (some 100) (.idx none 6 (.tmp 99) (.const (.int .i64 0))) none,
  op (some 101) (.load true 6 (.tmp 100)) none,
  op (some 7) (.alloc [(.int .i64 0), (.int .i64 0), (.int .i64 0), (.int .i64 0), (.str []), (.slice .full 6 [])]) none,
  op none (.store 6 (.tmp 7) (.tmp 101)) none]
def r181_22 : List IOper := [op (some 102) (.fld 0 (.tmp 7)) none,
  op (some 103) (.load false 1 (.tmp 102)) none,
  op (some 104) (.call false (.const (.fn 225 [] [])) [(.tmp 103)]) none,
  op (some 105) (.fld 0 (.tmp 7)) none,
  op none (.store 1 (.tmp 105) (.tmp 104)) none]
def r181_23 : List IOper := [op (some 106) (.load true 6 (.tmp 7)) none,
  op none (.store 6 (.tmp 4) (.tmp 106)) none,
  op (some 5) (.mv (.const (.bool true))) none]
def r181_24 : List IOper := [op (some 108) (.eq false .int (.tmp 9) (.const (.int .i64 9))) none,
  op (some 107) (.mv (.tmp 108)) none]
def r181_25 : List IOper := [opx (some 109) (.load true 6 (.tmp 2)) none false false true false 0 [],
  opx (some 110) (.call false (.const (.fn 140 [] [])) [(.const (.int .i64 0))]) none false false true false 0 [],
  opx (some 111) (.call false (.const (.fn 226 [] [])) [(.tmp 109), (.tmp 110), (.const (.int .i64 5)), (.const (.int .i64 6))]) none true true true false 3 [],
  opx (some 112) (.ext (.tmp 111) 0) none true false true false 7 [],
  opx (some 113) (.ext (.tmp 111) 1) none true false true false 7 [],
  opx none (.store 6 (.tmp 4) (.tmp 112)) none true true true true 31 [],
  opx (some 5) (.mv (.tmp 113)) none true true true false 63 []]
def r181_26 : List IOper := [op (some 115) (.eq false .int (.tmp 9) (.const (.int .i64 10))) none,
  op (some 114) (.mv (.tmp 115)) none]
def r181_27 : List IOper := [opx (some 116) (.load true 6 (.tmp 2)) none false false true false 0 [],
  opx (some 117) (.call false (.const (.fn 140 [] [])) [(.const (.int .i64 1))]) none false false true false 0 [],
  opx (some 118) (.call false (.const (.fn 226 [] [])) [(.tmp 116), (.tmp 117), (.const (.int .i64 7)), (.const (.int .i64 8))]) none true true true false 3 [],
  opx (some 119) (.ext (.tmp 118) 0) none true false true false 7 [],
  opx (some 120) (.ext (.tmp 118) 1) none true false true false 7 [],
  opx none (.store 6 (.tmp 4) (.tmp 119)) none true true true true 31 [],
  opx (some 5) (.mv (.tmp 120)) none true true true false 63 []]
def r181_28 : List IOper := [op (some 122) (.eq false .int (.tmp 9) (.const (.int .i64 11))) none,
  op (some 121) (.mv (.tmp 122)) none]
def r181_29 : List IOper := [op (some 123) (.fld 0 (.tmp 2)) none,
  opx (some 124) (.load false 1 (.tmp 123)) none true true true false 1 [],
  opx (some 125) (.eq false .int (.tmp 124) (.const (.int .i64 20))) none true true true false 3 [],
  opx (some 126) (.mv (.tmp 125)) none true true true false 7 [],
  opx (some 127) (.fld 5 (.tmp 2)) (some (126, true)) true false true false 15 [],
  opx (some 128) (.load false 1 (.tmp 127)) (some (126, true)) false false true false 31 [],
  opx (some 129) (.idx none 6 (.tmp 128) (.const (.int .i64 0))) (some (126, true)) true false true false 63 [],
  opx (some 130) (.load true 6 (.tmp 129)) (some (126, true)) false false true false 127 [],
  opx (some 131) (.call false (.const (.fn 99 [] [])) [(.const (.bool true))]) (some (126, true)) false false true false 15 [],
  opx (some 132) (.call false (.const (.fn 114 [] [])) [(.tmp 130), (.tmp 131)]) (some (126, true)) true true true false 511 [],
  opx (some 133) (.pick (.tmp 126) (.tmp 132) (.const (.bool false))) none true true true false 1023 []]
def r181_30 : List IOper := [op (some 134) (.fld 5 (.tmp 2)) none,
  op (some 135) (.load false 1 (.tmp 134)) none,
  op (some 136) (.idx none 6 (.tmp 135) (.const (.int .i64 1))) none,
  op (some 137) (.load true 6 (.tmp 136)) none,
  op none (.store 6 (.tmp 4) (.tmp 137)) none,
  op (some 5) (.mv (.const (.bool true))) none]
def r181_31 : List IOper := [op (some 139) (.eq false .int (.tmp 9) (.const (.int .i64 12))) none,
  op (some 138) (.mv (.tmp 139)) none]
def r181_32 : List IOper := [op (some 140) (.fld 0 (.tmp 2)) none,
  opx (some 141) (.load false 1 (.tmp 140)) none true true true false 1 [],
  opx (some 142) (.eq false .int (.tmp 141) (.const (.int .i64 20))) none true true true false 3 [],
  opx (some 143) (.mv (.tmp 142)) none true true true false 7 [],
  opx (some 144) (.fld 5 (.tmp 2)) (some (143, true)) true false true false 15 [],
  opx (some 145) (.load false 1 (.tmp 144)) (some (143, true)) false false true false 31 [],
  opx (some 146) (.idx none 6 (.tmp 145) (.const (.int .i64 0))) (some (143, true)) true false true false 63 [],
  opx (some 147) (.load true 6 (.tmp 146)) (some (143, true)) false false true false 127 [],
  opx (some 148) (.call false (.const (.fn 99 [] [])) [(.const (.bool false))]) (some (143, true)) false false true false 15 [],
  opx (some 149) (.call false (.const (.fn 114 [] [])) [(.tmp 147), (.tmp 148)]) (some (143, true)) true true true false 511 [],
  opx (some 150) (.mv (.tmp 149)) (some (143, true)) true true true false 1023 [],
  opx (some 151) (.fld 5 (.tmp 2)) (some (150, false)) true false true false 2047 [],
  opx (some 152) (.load false 1 (.tmp 151)) (some (150, false)) false false true false 4095 [],
  opx (some 153) (.idx none 6 (.tmp 152) (.const (.int .i64 0))) (some (150, false)) true false true false 8191 [],
  opx (some 154) (.load true 6 (.tmp 153)) (some (150, false)) false false true false 16383 [],
  opx (some 155) (.load true 3 (.tmp 6)) (some (150, false)) false false true false 2047 [],
  opx (some 156) (.call false (.const (.fn 114 [] [])) [(.tmp 154), (.tmp 155)]) (some (150, false)) true true true false 65535 [],
  opx (some 157) (.pick (.tmp 150) (.const (.bool true)) (.tmp 156)) (some (143, true)) true true true false 131071 [],
  opx (some 158) (.pick (.tmp 143) (.tmp 157) (.const (.bool false))) none true true true false 262143 []]
def r181_33 : List IOper := [op (some 159) (.load true 6 (.tmp 2)) none,
  op (some 160) (.call false (.const (.fn 227 [] [])) [(.tmp 159), (.const (.int .i64 2))]) none,
  op none (.store 6 (.tmp 4) (.tmp 160)) none,
  op (some 5) (.mv (.const (.bool true))) none]
def r181_34 : List IOper := [op (some 162) (.eq false .int (.tmp 9) (.const (.int .i64 13))) none,
  op (some 161) (.mv (.tmp 162)) none]
def r181_35 : List IOper := [op (some 163) (.fld 0 (.tmp 2)) none,
  op (some 164) (.load false 1 (.tmp 163)) none,
  op (some 165) (.eq false .int (.tmp 164) (.const (.int .i64 21))) none,
  op (some 166) (.mv (.tmp 165)) none,
  op (some 167) (.fld 5 (.tmp 2)) (some (166, true)),
  op (some 168) (.load false 1 (.tmp 167)) (some (166, true)),
  op (some 169) (.len .slice (.tmp 168)) (some (166, true)),
  op (some 170) (.bin .geq (.tmp 169) (.const (.int .i64 2))) (some (166, true)),
  op (some 171) (.pick (.tmp 166) (.tmp 170) (.const (.bool false))) none,
  op (some 172) (.mv (.tmp 171)) none,
  op (some 173) (.fld 5 (.tmp 2)) (some (172, true)),
  op (some 174) (.load false 1 (.tmp 173)) (some (172, true)),
  op (some 175) (.idx none 6 (.tmp 174) (.const (.int .i64 0))) (some (172, true)),
  op (some 176) (.fld 0 (.tmp 175)) (some (172, true)),
  op (some 177) (.load false 1 (.tmp 176)) (some (172, true)),
  op (some 178) (.eq false .int (.tmp 177) (.const (.int .i64 1))) (some (172, true)),
  op (some 179) (.pick (.tmp 172) (.tmp 178) (.const (.bool false))) none]
def r181_36 : List IOper := [op (some 180) (.fld 5 (.tmp 2)) none,
  op (some 181) (.load false 1 (.tmp 180)) none,
  op (some 182) (.idx none 6 (.tmp 181) (.const (.int .i64 0))) none,
  op (some 183) (.fld 2 (.tmp 182)) none,
  op (some 184) (.fld 0 (.tmp 183)) none,
  op (some 185) (.load false 1 (.tmp 184)) none,
  op (some 186) (.eq true .int (.tmp 185) (.const (.int .i64 0))) none]
def r181_37 : List IOper := [op (some 187) (.fld 5 (.tmp 2)) none,
  op (some 188) (.load false 1 (.tmp 187)) none,
  op (some 189) (.idx none 6 (.tmp 188) (.const (.int .i64 0))) none,
  op (some 190) (.load true 6 (.tmp 189)) none,
  op none (.store 6 (.tmp 4) (.tmp 190)) none,
  op (some 5) (.mv (.const (.bool true))) none]
def r181_38 : List IOper := [op (some 191) (.load true 6 (.tmp 2)) none,
  op (some 192) (.call false (.const (.fn 227 [] [])) [(.tmp 191), (.const (.int .i64 1))]) none,
  op none (.store 6 (.tmp 4) (.tmp 192)) none,
  op (some 5) (.mv (.const (.bool true))) none]
def r181_39 : List IOper := [op (some 194) (.eq false .int (.tmp 9) (.const (.int .i64 14))) none,
  op (some 193) (.mv (.tmp 194)) none]
def r181_40 : List IOper := [op (some 195) (.load true 6 (.tmp 2)) none,
  op (some 196) (.call false (.const (.fn 228 [] [])) [(.tmp 195)]) none,
  op (some 197) (.ext (.tmp 196) 0) none,
  op (some 198) (.ext (.tmp 196) 1) none,
  op none (.store 6 (.tmp 4) (.tmp 197)) none,
  op (some 5) (.mv (.tmp 198)) none]
def r181_41 : List IOper := [op (some 199) (.load true 6 (.tmp 2)) none,
  op none (.store 6 (.tmp 4) (.tmp 199)) none,
  op (some 5) (.mv (.const (.bool false))) none]
def f181 : IFunc := { nt := 200, own := false, results := [.cell 4 true 6, .tmp 5], body := (.seq (.region r181_0) (.seq (.region r181_1) (.seq (.seq (.region r181_2) (.block 0 (.seq (.region r181_3) (.cond (.tmp 10) (.seq (.region r181_4) .ret) (.seq (.region r181_5) (.cond (.tmp 17) (.seq (.region r181_6) .ret) (.seq (.region r181_7) (.cond (.tmp 24) (.seq (.region r181_8) .ret) (.seq (.region r181_9) (.cond (.tmp 31) (.seq (.region r181_10) .ret) (.seq (.region r181_11) (.cond (.tmp 38) (.seq (.region r181_12) (.cond (.tmp 53) (.seq (.region r181_13) .ret) .skip)) (.seq (.region r181_14) (.cond (.tmp 58) (.seq (.region r181_15) .ret) (.seq (.region r181_16) (.cond (.tmp 64) (.seq (.region r181_17) (.cond (.tmp 76) (.seq (.region r181_18) .ret) .skip)) (.seq (.region r181_19) (.cond (.tmp 84) (.seq (.region r181_20) (.cond (.tmp 97) (.seq (.region r181_21) (.seq (.region r181_22) (.seq (.region r181_23) .ret))) .skip)) (.seq (.region r181_24) (.cond (.tmp 107) (.seq (.region r181_25) .ret) (.seq (.region r181_26) (.cond (.tmp 114) (.seq (.region r181_27) .ret) (.seq (.region r181_28) (.cond (.tmp 121) (.seq (.region r181_29) (.cond (.tmp 133) (.seq (.region r181_30) .ret) .skip)) (.seq (.region r181_31) (.cond (.tmp 138) (.seq (.region r181_32) (.cond (.tmp 158) (.seq (.region r181_33) .ret) .skip)) (.seq (.region r181_34) (.cond (.tmp 161) (.seq (.region r181_35) (.cond (.tmp 179) (.seq (.seq (.region r181_36) (.cond (.tmp 186) (.seq (.region r181_37) .ret) .skip)) (.seq (.region r181_38) .ret)) .skip)) (.seq (.region r181_39) (.cond (.tmp 193) (.seq (.region r181_40) .ret) .skip)))))))))))))))))))))))))))))) (.seq (.region r181_41) .ret)))) }
/-! 198: understory/enc.kinds -/
def r198_0 : List IOper := [op (some 0) (.alloc [.nilf, .nilf, .nilf, .nilf, .nilf, .nilf, .nilf, .nilf, .nilf, .nilf, .nilf, .nilf]) none]
def r198_1 : List IOper := [op (some 1) (.build [.nilf, .nilf, .nilf] [(0, 1, (.const (.fn 257 [] []))), (1, 1, (.const (.fn 258 [] []))), (2, 1, (.const (.fn 259 [] [])))]) none,
  op (some 2) (.build [.nilf, .nilf, .nilf] [(0, 1, (.const (.fn 260 [] []))), (1, 1, (.const (.fn 261 [] []))), (2, 1, (.const (.fn 263 [] [])))]) none,
  op (some 3) (.build [.nilf, .nilf, .nilf] [(0, 1, (.const (.fn 266 [] []))), (1, 1, (.const (.fn 267 [] []))), (2, 1, (.const (.fn 269 [] [])))]) none,
  op (some 4) (.build [.nilf, .nilf, .nilf] [(0, 1, (.const (.fn 271 [] []))), (1, 1, (.const (.fn 272 [] []))), (2, 1, (.const (.fn 274 [] [])))]) none,
  op (some 5) (.build [.nilf, .nilf, .nilf, .nilf, .nilf, .nilf, .nilf, .nilf, .nilf, .nilf, .nilf, .nilf] [(0, 3, (.tmp 1)), (3, 3, (.tmp 2)), (6, 3, (.tmp 3)), (9, 3, (.tmp 4))]) none,
  op none (.store 12 (.tmp 0) (.tmp 5)) none]
def f198 : IFunc := { nt := 6, own := false, results := [.cell 0 true 12], body := (.seq (.region r198_0) (.seq (.region r198_1) .ret)) }
/-! 199: understory/understoryref23.when -/
def r199_0 : List IOper := [op (some 4) (.alloc [(.int .i64 0), (.int .i64 0)]) none]
def r199_1 : List IOper := [op (some 5) (.mv (.tmp 0)) none,
  op (some 6) (.un .not (.tmp 5)) none]
def r199_2 : List IOper := [op (some 7) (.build [(.int .i64 0), (.int .i64 0)] [(1, 1, (.const (.int .i64 10)))]) none,
  op none (.store 2 (.tmp 4) (.tmp 7)) none]
def r199_3 : List IOper := [op (some 8) (.mv (.tmp 1)) none,
  op (some 9) (.build [(.int .i64 0), (.int .i64 0)] [(0, 1, (.tmp 8))]) none,
  op none (.store 2 (.tmp 4) (.tmp 9)) none]
def f199 : IFunc := { nt := 10, own := false, results := [.cell 4 true 2], body := (.seq (.region r199_0) (.seq (.seq (.region r199_1) (.cond (.tmp 6) (.seq (.region r199_2) .ret) .skip)) (.seq (.region r199_3) .ret))) }
/-! 200: understory/understoryref23.all -/
def r200_0 : List IOper := [op (some 4) (.mv (.const (.bool false))) none]
def r200_1 : List IOper := [op (some 5) (.mv (.const (.int .i64 0))) none]
def r200_2 : List IOper := [op (some 6) (.mv (.tmp 5)) none,
  op (some 7) (.mv (.tmp 0)) none,
  op (some 8) (.len .slice (.tmp 7)) none,
  op (some 9) (.bin .lss (.tmp 6) (.tmp 8)) none]
def r200_3 : List IOper := [op (some 12) (.mv (.tmp 0)) none,
  op (some 13) (.mv (.tmp 5)) none,
  op (some 14) (.idx none 1 (.tmp 12) (.tmp 13)) none,
  op (some 15) (.load false 1 (.tmp 14)) none,
  op (some 16) (.eq true .int (.tmp 15) (.const (.int .i64 0))) none,
  op (some 17) (.mv (.tmp 16)) none,
  op (some 18) (.mv (.tmp 0)) (some (17, true)),
  op (some 19) (.mv (.tmp 5)) (some (17, true)),
  op (some 20) (.idx none 1 (.tmp 18) (.tmp 19)) (some (17, true)),
  op (some 21) (.load false 1 (.tmp 20)) (some (17, true)),
  op (some 22) (.mv (.tmp 1)) (some (17, true)),
  op (some 23) (.eq true .int (.tmp 21) (.tmp 22)) (some (17, true)),
  op (some 24) (.pick (.tmp 17) (.tmp 23) (.const (.bool false))) none]
def r200_4 : List IOper := [op (some 4) (.mv (.const (.bool false))) none]
def r200_5 : List IOper := [op (some 10) (.mv (.tmp 5)) none,
  op (some 11) (.bin .add (.tmp 10) (.const (.int .i64 1))) none,
  op (some 5) (.mv (.tmp 11)) none]
def l200_6 : IC := (.seq (.seq (.region r200_2) (.cond (.tmp 9) .skip (.exit 0))) (.seq (.block 1 (.seq (.region r200_3) (.cond (.tmp 24) (.seq (.region r200_4) .ret) .skip))) (.region r200_5)))
def r200_7 : List IOper := [op (some 4) (.mv (.const (.bool true))) none]
def f200 : IFunc := { nt := 25, own := false, results := [.tmp 4], body := (.seq (.region r200_0) (.seq (.seq (.region r200_1) (.block 0 (.loop l200_6))) (.seq (.region r200_7) .ret))) }
/-! 201: understory/understoryref23.common -/
def r201_0 : List IOper := [op (some 2) (.alloc [(.int .i64 0), (.int .i64 0)]) none]
def r201_1 : List IOper := [op (some 3) (.mv (.const (.int .i64 0))) none]
def r201_2 : List IOper := [op (some 4) (.mv (.const (.int .i64 0))) none]
def r201_3 : List IOper := [op (some 5) (.mv (.tmp 4)) none,
  op (some 6) (.mv (.tmp 0)) none,
  op (some 7) (.len .slice (.tmp 6)) none,
  op (some 8) (.bin .lss (.tmp 5) (.tmp 7)) none]
def r201_4 : List IOper := [op (some 11) (.mv (.tmp 0)) none,
  op (some 12) (.mv (.tmp 4)) none,
  op (some 13) (.idx none 1 (.tmp 11) (.tmp 12)) none,
  op (some 14) (.load false 1 (.tmp 13)) none,
  op (some 15) (.eq false .int (.tmp 14) (.const (.int .i64 0))) none]
def r201_5 : List IOper := [op (some 16) (.mv (.tmp 3)) none,
  op (some 17) (.eq true .int (.tmp 16) (.const (.int .i64 0))) none,
  op (some 18) (.mv (.tmp 17)) none,
  op (some 19) (.mv (.tmp 3)) (some (18, true)),
  op (some 20) (.mv (.tmp 0)) (some (18, true)),
  op (some 21) (.mv (.tmp 4)) (some (18, true)),
  op (some 22) (.idx none 1 (.tmp 20) (.tmp 21)) (some (18, true)),
  op (some 23) (.load false 1 (.tmp 22)) (some (18, true)),
  op (some 24) (.eq true .int (.tmp 19) (.tmp 23)) (some (18, true)),
  op (some 25) (.pick (.tmp 18) (.tmp 24) (.const (.bool false))) none]
def r201_6 : List IOper := [op (some 26) (.build [(.int .i64 0), (.int .i64 0)] [(1, 1, (.const (.int .i64 10)))]) none,
  op none (.store 2 (.tmp 2) (.tmp 26)) none]
def r201_7 : List IOper := [op (some 27) (.mv (.tmp 0)) none,
  op (some 28) (.mv (.tmp 4)) none,
  op (some 29) (.idx none 1 (.tmp 27) (.tmp 28)) none,
  op (some 30) (.load false 1 (.tmp 29)) none,
  op (some 3) (.mv (.tmp 30)) none]
def r201_8 : List IOper := [op (some 9) (.mv (.tmp 4)) none,
  op (some 10) (.bin .add (.tmp 9) (.const (.int .i64 1))) none,
  op (some 4) (.mv (.tmp 10)) none]
def l201_9 : IC := (.seq (.seq (.region r201_3) (.cond (.tmp 8) .skip (.exit 0))) (.seq (.block 1 (.seq (.seq (.region r201_4) (.cond (.tmp 15) (.exit 1) .skip)) (.seq (.seq (.region r201_5) (.cond (.tmp 25) (.seq (.region r201_6) .ret) .skip)) (.region r201_7)))) (.region r201_8)))
def r201_10 : List IOper := [op (some 31) (.mv (.tmp 3)) none,
  op (some 32) (.build [(.int .i64 0), (.int .i64 0)] [(0, 1, (.tmp 31))]) none,
  op none (.store 2 (.tmp 2) (.tmp 32)) none]
def f201 : IFunc := { nt := 33, own := false, results := [.cell 2 true 2], body := (.seq (.region r201_0) (.seq (.region r201_1) (.seq (.seq (.region r201_2) (.block 0 (.loop l201_9))) (.seq (.region r201_10) .ret)))) }
/-! 202: cmp.isNaN[int] -/
def r202_0 : List IOper := [op (some 2) (.mv (.const (.bool false))) none]
def r202_1 : List IOper := [op (some 3) (.mv (.tmp 0)) none,
  op (some 4) (.mv (.tmp 0)) none,
  op (some 5) (.eq true .int (.tmp 3) (.tmp 4)) none,
  op (some 2) (.mv (.tmp 5)) none]
def f202 : IFunc := { nt := 6, own := false, results := [.tmp 2], body := (.seq (.region r202_0) (.seq (.region r202_1) .ret)) }
/-! 203: cmp.isNaN[string] -/
def r203_0 : List IOper := [op (some 2) (.mv (.const (.bool false))) none]
def r203_1 : List IOper := [op (some 3) (.mv (.tmp 0)) none,
  op (some 4) (.mv (.tmp 0)) none,
  op (some 5) (.eq true .str (.tmp 3) (.tmp 4)) none,
  op (some 2) (.mv (.tmp 5)) none]
def f203 : IFunc := { nt := 6, own := false, results := [.tmp 2], body := (.seq (.region r203_0) (.seq (.region r203_1) .ret)) }
/-! 205: understory/expr.mapped[understory/api.Expr,understory/api.Datum] -/
def r205_0 : List IOper := [op (some 4) (.mv (.const (.slice .full 3 []))) none]
def r205_1 : List IOper := [op (some 5) (.mv (.const (.slice .full 3 []))) none]
def r205_2 : List IOper := [op (some 8) (.mv (.tmp 0)) none,
  op (some 9) (.len .slice (.tmp 8)) none,
  op (some 10) (.mv (.const (.int .i64 0))) none]
def r205_3 : List IOper := [op (some 11) (.bin .lss (.tmp 10) (.tmp 9)) none]
def r205_4 : List IOper := [op (some 12) (.idx none 6 (.tmp 8) (.tmp 10)) none,
  op (some 13) (.load true 6 (.tmp 12)) none,
  op (some 7) (.alloc [(.int .i64 0), (.int .i64 0), (.int .i64 0), (.int .i64 0), (.str []), (.slice .full 6 [])]) none,
  op none (.store 6 (.tmp 7) (.tmp 13)) none]
def r205_5 : List IOper := [op (some 14) (.mv (.tmp 5)) none,
  op (some 15) (.mv (.tmp 1)) none,
  op (some 16) (.load true 6 (.tmp 7)) none,
  op (some 17) (.call false (.tmp 15) [(.tmp 16)]) none,
  op (some 18) (.buildSl 3 [(.tmp 17)]) none,
  op (some 19) (.append false false 3 32 (.tmp 14) (.tmp 18)) none,
  op (some 5) (.mv (.tmp 19)) none]
def r205_6 : List IOper := [op (some 20) (.bin .add (.tmp 10) (.const (.int .i64 1))) none,
  op (some 10) (.mv (.tmp 20)) none]
def l205_7 : IC := (.seq (.region r205_3) (.seq (.cond (.tmp 11) .skip (.exit 0)) (.seq (.block 1 (.seq (.region r205_4) (.region r205_5))) (.region r205_6))))
def r205_8 : List IOper := [op (some 21) (.mv (.tmp 5)) none,
  op (some 4) (.mv (.tmp 21)) none]
def f205 : IFunc := { nt := 22, own := true, results := [.tmp 4], body := (.seq (.region r205_0) (.seq (.region r205_1) (.seq (.seq (.region r205_2) (.block 0 (.loop l205_7))) (.seq (.region r205_8) .ret)))) }
/-! 206: understory/expr.mapped[understory/api.Datum,int] -/
def r206_0 : List IOper := [op (some 4) (.mv (.const (.slice .full 1 []))) none]
def r206_1 : List IOper := [op (some 5) (.mv (.const (.slice .full 1 []))) none]
def r206_2 : List IOper := [op (some 8) (.mv (.tmp 0)) none,
  op (some 9) (.len .slice (.tmp 8)) none,
  op (some 10) (.mv (.const (.int .i64 0))) none]
def r206_3 : List IOper := [op (some 11) (.bin .lss (.tmp 10) (.tmp 9)) none]
def r206_4 : List IOper := [op (some 12) (.idx none 3 (.tmp 8) (.tmp 10)) none,
  op (some 13) (.load true 3 (.tmp 12)) none,
  op (some 7) (.alloc [(.int .i64 0), (.int .i64 0), (.str [])]) none,
  op none (.store 3 (.tmp 7) (.tmp 13)) none]
def r206_5 : List IOper := [op (some 14) (.mv (.tmp 5)) none,
  op (some 15) (.mv (.tmp 1)) none,
  op (some 16) (.load true 3 (.tmp 7)) none,
  op (some 17) (.call false (.tmp 15) [(.tmp 16)]) none,
  op (some 18) (.buildSl 1 [(.tmp 17)]) none,
  op (some 19) (.append false false 1 8 (.tmp 14) (.tmp 18)) none,
  op (some 5) (.mv (.tmp 19)) none]
def r206_6 : List IOper := [op (some 20) (.bin .add (.tmp 10) (.const (.int .i64 1))) none,
  op (some 10) (.mv (.tmp 20)) none]
def l206_7 : IC := (.seq (.region r206_3) (.seq (.cond (.tmp 11) .skip (.exit 0)) (.seq (.block 1 (.seq (.region r206_4) (.region r206_5))) (.region r206_6))))
def r206_8 : List IOper := [op (some 21) (.mv (.tmp 5)) none,
  op (some 4) (.mv (.tmp 21)) none]
def f206 : IFunc := { nt := 22, own := true, results := [.tmp 4], body := (.seq (.region r206_0) (.seq (.region r206_1) (.seq (.seq (.region r206_2) (.block 0 (.loop l206_7))) (.seq (.region r206_8) .ret)))) }
/-! 207: (understory/expr.evaluation).computed$1 -/
def r207_0 : List IOper := [op (some 1) (.box (.tmp 0)) none,
  op (some 2) (.mv (.const (.int .i64 0))) none]
def r207_1 : List IOper := [op (some 3) (.fld 0 (.tmp 1)) none,
  op (some 4) (.load false 1 (.tmp 3)) none,
  op (some 2) (.mv (.tmp 4)) none]
def f207 : IFunc := { nt := 5, own := false, results := [.tmp 2], body := (.seq (.region r207_0) (.seq (.region r207_1) .ret)) }
/-! 222: understory/expr.drop -/
def r222_0 : List IOper := [op (some 3) (.box (.tmp 0)) none,
  op (some 5) (.box (.tmp 2)) none,
  op (some 6) (.alloc [(.int .i64 0), (.int .i64 0), (.int .i64 0), (.int .i64 0), (.str []), (.slice .full 6 [])]) none,
  op (some 7) (.mv (.const (.bool false))) none]
def r222_1 : List IOper := [op (some 9) (.fld 0 (.tmp 3)) none,
  op (some 10) (.load false 1 (.tmp 9)) none,
  op (some 11) (.mv (.tmp 1)) none,
  op (some 12) (.eq true .int (.tmp 10) (.tmp 11)) none,
  op (some 13) (.mv (.tmp 12)) none,
  op (some 14) (.fld 5 (.tmp 3)) (some (13, false)),
  op (some 15) (.load false 1 (.tmp 14)) (some (13, false)),
  op (some 16) (.len .slice (.tmp 15)) (some (13, false)),
  op (some 17) (.bin .lss (.tmp 16) (.const (.int .i64 2))) (some (13, false)),
  op (some 18) (.pick (.tmp 13) (.const (.bool true)) (.tmp 17)) none]
def r222_2 : List IOper := [op (some 19) (.load true 6 (.tmp 3)) none,
  op none (.store 6 (.tmp 6) (.tmp 19)) none,
  op (some 7) (.mv (.const (.bool false))) none]
def r222_3 : List IOper := [op (some 20) (.fld 5 (.tmp 3)) none,
  op (some 21) (.load false 1 (.tmp 20)) none,
  op (some 22) (.load true 3 (.tmp 5)) none,
  op (some 23) (.call false (.const (.fn 277 [] [])) [(.tmp 21), (.tmp 22)]) none,
  op (some 8) (.mv (.tmp 23)) none]
def r222_4 : List IOper := [op (some 24) (.mv (.tmp 8)) none,
  op (some 25) (.bin .lss (.tmp 24) (.const (.int .i64 0))) none]
def r222_5 : List IOper := [op (some 26) (.load true 6 (.tmp 3)) none,
  op none (.store 6 (.tmp 6) (.tmp 26)) none,
  op (some 7) (.mv (.const (.bool false))) none]
def r222_6 : List IOper := [op (some 27) (.fld 5 (.tmp 3)) none,
  op (some 28) (.load false 1 (.tmp 27)) none,
  op (some 29) (.clone true 182 6 72 (.tmp 28)) none,
  op (some 30) (.mv (.tmp 8)) none,
  op (some 31) (.mv (.tmp 8)) none,
  op (some 32) (.bin .add (.tmp 31) (.const (.int .i64 1))) none,
  op (some 33) (.call false (.const (.fn 278 [] [])) [(.tmp 29), (.tmp 30), (.tmp 32)]) none,
  op (some 34) (.fld 5 (.tmp 3)) none,
  op none (.store 1 (.tmp 34) (.tmp 33)) none]
def r222_7 : List IOper := [op (some 35) (.load true 6 (.tmp 3)) none,
  op none (.store 6 (.tmp 6) (.tmp 35)) none,
  op (some 7) (.mv (.const (.bool true))) none]
def f222 : IFunc := { nt := 36, own := false, results := [.cell 6 true 6, .tmp 7], body := (.seq (.region r222_0) (.seq (.seq (.region r222_1) (.cond (.tmp 18) (.seq (.region r222_2) .ret) .skip)) (.seq (.region r222_3) (.seq (.seq (.region r222_4) (.cond (.tmp 25) (.seq (.region r222_5) .ret) .skip)) (.seq (.region r222_6) (.seq (.region r222_7) .ret)))))) }
/-! 223: understory/expr.cut -/
def r223_0 : List IOper := [op (some 3) (.box (.tmp 0)) none,
  op (some 5) (.box (.tmp 2)) none,
  op (some 6) (.alloc [(.int .i64 0), (.int .i64 0), (.int .i64 0), (.int .i64 0), (.str []), (.slice .full 6 [])]) none,
  op (some 7) (.mv (.const (.bool false))) none]
def r223_1 : List IOper := [op (some 9) (.fld 5 (.tmp 3)) none,
  op (some 10) (.load false 1 (.tmp 9)) none,
  op (some 11) (.load true 3 (.tmp 5)) none,
  op (some 12) (.call false (.const (.fn 277 [] [])) [(.tmp 10), (.tmp 11)]) none,
  op (some 8) (.mv (.tmp 12)) none]
def r223_2 : List IOper := [op (some 13) (.fld 0 (.tmp 3)) none,
  op (some 14) (.load false 1 (.tmp 13)) none,
  op (some 15) (.mv (.tmp 1)) none,
  op (some 16) (.eq true .int (.tmp 14) (.tmp 15)) none,
  op (some 17) (.mv (.tmp 16)) none,
  op (some 18) (.mv (.tmp 8)) (some (17, false)),
  op (some 19) (.bin .lss (.tmp 18) (.const (.int .i64 0))) (some (17, false)),
  op (some 20) (.pick (.tmp 17) (.const (.bool true)) (.tmp 19)) none,
  op (some 21) (.mv (.tmp 20)) none,
  op (some 22) (.mv (.tmp 8)) (some (21, false)),
  op (some 23) (.fld 5 (.tmp 3)) (some (21, false)),
  op (some 24) (.load false 1 (.tmp 23)) (some (21, false)),
  op (some 25) (.len .slice (.tmp 24)) (some (21, false)),
  op (some 26) (.bin .sub (.tmp 25) (.const (.int .i64 1))) (some (21, false)),
  op (some 27) (.eq false .int (.tmp 22) (.tmp 26)) (some (21, false)),
  op (some 28) (.pick (.tmp 21) (.const (.bool true)) (.tmp 27)) none]
def r223_3 : List IOper := [op (some 29) (.load true 6 (.tmp 3)) none,
  op none (.store 6 (.tmp 6) (.tmp 29)) none,
  op (some 7) (.mv (.const (.bool false))) none]
def r223_4 : List IOper := [op (some 30) (.fld 5 (.tmp 3)) none,
  op (some 31) (.load false 1 (.tmp 30)) none,
  op (some 32) (.mv (.tmp 8)) none,
  op (some 33) (.bin .add (.tmp 32) (.const (.int .i64 1))) none,
  op (some 34) (.slice 6 (.tmp 31) none (some (.tmp 33)) none) none,
  op (some 35) (.clone false 182 6 72 (.tmp 34)) none,
  op (some 36) (.fld 5 (.tmp 3)) none,
  op none (.store 1 (.tmp 36) (.tmp 35)) none]
def r223_5 : List IOper := [op (some 37) (.load true 6 (.tmp 3)) none,
  op none (.store 6 (.tmp 6) (.tmp 37)) none,
  op (some 7) (.mv (.const (.bool true))) none]
def f223 : IFunc := { nt := 38, own := false, results := [.cell 6 true 6, .tmp 7], body := (.seq (.region r223_0) (.seq (.region r223_1) (.seq (.seq (.region r223_2) (.cond (.tmp 28) (.seq (.region r223_3) .ret) .skip)) (.seq (.region r223_4) (.seq (.region r223_5) .ret))))) }
/-! 224: understory/expr.flat -/
def r224_0 : List IOper := [op (some 1) (.box (.tmp 0)) none,
  op (some 2) (.alloc [(.int .i64 0), (.int .i64 0), (.int .i64 0), (.int .i64 0), (.str []), (.slice .full 6 [])]) none,
  op (some 3) (.mv (.const (.bool false))) none]
def r224_1 : List IOper := [op (some 4) (.fld 0 (.tmp 1)) none,
  opx (some 5) (.load false 1 (.tmp 4)) none true true true false 1 [],
  opx (some 6) (.eq true .int (.tmp 5) (.const (.int .i64 16))) none true true true false 3 [],
  opx (some 7) (.mv (.tmp 6)) none true true true false 7 [],
  opx (some 8) (.fld 0 (.tmp 1)) (some (7, true)) true true true false 15 [],
  opx (some 9) (.load false 1 (.tmp 8)) (some (7, true)) true true true false 31 [],
  opx (some 10) (.eq true .int (.tmp 9) (.const (.int .i64 17))) (some (7, true)) true true true false 63 [],
  opx (some 11) (.pick (.tmp 7) (.tmp 10) (.const (.bool false))) none true true true false 127 [],
  opx (some 12) (.mv (.tmp 11)) none true true true false 255 [],
  opx (some 13) (.fld 5 (.tmp 1)) (some (12, false)) true false true false 511 [],
  opx (some 14) (.load false 1 (.tmp 13)) (some (12, false)) false false true false 1023 [],
  opx (some 15) (.idx none 6 (.tmp 14) (.const (.int .i64 0))) (some (12, false)) true false true false 2047 [],
  opx (some 16) (.fld 0 (.tmp 15)) (some (12, false)) true false true false 4095 [],
  opx (some 17) (.load false 1 (.tmp 16)) (some (12, false)) false false true false 8191 [],
  opx (some 18) (.fld 0 (.tmp 1)) (some (12, false)) true false true false 511 [],
  opx (some 19) (.load false 1 (.tmp 18)) (some (12, false)) false false true false 16895 [],
  opx (some 20) (.eq true .int (.tmp 17) (.tmp 19)) (some (12, false)) true true true false 65535 [],
  opx (some 21) (.pick (.tmp 12) (.const (.bool true)) (.tmp 20)) none true true true false 131071 [],
  opx (some 22) (.mv (.tmp 21)) none true true true false 262143 [],
  opx (some 23) (.fld 5 (.tmp 1)) (some (22, false)) true false true false 524287 [],
  opx (some 24) (.load false 1 (.tmp 23)) (some (22, false)) false false true false 1048575 [],
  opx (some 25) (.idx none 6 (.tmp 24) (.const (.int .i64 0))) (some (22, false)) true false true false 2097151 [],
  opx (some 26) (.fld 5 (.tmp 25)) (some (22, false)) true false true false 4194303 [],
  opx (some 27) (.load false 1 (.tmp 26)) (some (22, false)) false false true false 8388607 [],
  opx (some 28) (.len .slice (.tmp 27)) (some (22, false)) true false true false 16777215 [],
  opx (some 29) (.fld 5 (.tmp 1)) (some (22, false)) true false true false 524287 [],
  opx (some 30) (.load false 1 (.tmp 29)) (some (22, false)) false false true false 34078719 [],
  opx (some 31) (.len .slice (.tmp 30)) (some (22, false)) true false true false 101187583 [],
  opx (some 32) (.bin .add (.tmp 28) (.tmp 31)) (some (22, false)) true true true false 268435455 [],
  opx (some 33) (.bin .sub (.tmp 32) (.const (.int .i64 1))) (some (22, false)) true true true false 536870911 [],
  opx (some 34) (.bin .gtr (.tmp 33) (.const (.int .i64 50))) (some (22, false)) true true true false 1073741823 [],
  opx (some 35) (.pick (.tmp 22) (.const (.bool true)) (.tmp 34)) none true true true false 2147483647 []]
def r224_2 : List IOper := [op (some 36) (.load true 6 (.tmp 1)) none,
  op none (.store 6 (.tmp 2) (.tmp 36)) none,
  op (some 3) (.mv (.const (.bool false))) none]
def r224_3 : List IOper := [opx (some 37) (.fld 5 (.tmp 1)) none true false true false 0 [],
  opx (some 38) (.load false 1 (.tmp 37)) none false false true false 1 [],
  opx (some 39) (.idx none 6 (.tmp 38) (.const (.int .i64 0))) none true false true false 3 [],
  opx (some 40) (.fld 5 (.tmp 39)) none true false true false 7 [],
  opx (some 41) (.load false 1 (.tmp 40)) none false false true false 15 [],
  opx (some 42) (.fld 5 (.tmp 1)) none true false true false 0 [],
  opx (some 43) (.load false 1 (.tmp 42)) none false false true false 32 [],
  opx (some 44) (.slice 6 (.tmp 43) (some (.const (.int .i64 1))) none none) none true false true false 96 [],
  opx (some 45) (.buildSl 1 [(.tmp 41), (.tmp 44)]) none true true true false 255 [],
  opx (some 46) (.call false (.const (.fn 279 [] [])) [(.tmp 45)]) none true true true false 511 [],
  opx (some 47) (.fld 5 (.tmp 1)) none true true true false 1023 [],
  opx none (.store 1 (.tmp 47) (.tmp 46)) none true true true true 2047 []]
def r224_4 : List IOper := [op (some 48) (.load true 6 (.tmp 1)) none,
  op none (.store 6 (.tmp 2) (.tmp 48)) none,
  op (some 3) (.mv (.const (.bool true))) none]
def f224 : IFunc := { nt := 49, own := false, results := [.cell 2 true 6, .tmp 3], body := (.seq (.region r224_0) (.seq (.seq (.region r224_1) (.cond (.tmp 35) (.seq (.region r224_2) .ret) .skip)) (.seq (.region r224_3) (.seq (.region r224_4) .ret)))) }
/-! 225: understory/expr.opposite -/
def r225_0 : List IOper := [op (some 2) (.mv (.const (.int .i64 0))) none]
def r225_1 : List IOper := [op (some 3) (.mv (.tmp 0)) none]
def r225_2 : List IOper := [op (some 5) (.eq false .int (.tmp 3) (.const (.int .i64 10))) none,
  op (some 4) (.mv (.tmp 5)) none]
def r225_3 : List IOper := [op (some 2) (.mv (.const (.int .i64 11))) none]
def r225_4 : List IOper := [op (some 7) (.eq false .int (.tmp 3) (.const (.int .i64 11))) none,
  op (some 6) (.mv (.tmp 7)) none]
def r225_5 : List IOper := [op (some 2) (.mv (.const (.int .i64 10))) none]
def r225_6 : List IOper := [op (some 9) (.eq false .int (.tmp 3) (.const (.int .i64 12))) none,
  op (some 8) (.mv (.tmp 9)) none]
def r225_7 : List IOper := [op (some 2) (.mv (.const (.int .i64 15))) none]
def r225_8 : List IOper := [op (some 11) (.eq false .int (.tmp 3) (.const (.int .i64 15))) none,
  op (some 10) (.mv (.tmp 11)) none]
def r225_9 : List IOper := [op (some 2) (.mv (.const (.int .i64 12))) none]
def r225_10 : List IOper := [op (some 13) (.eq false .int (.tmp 3) (.const (.int .i64 14))) none,
  op (some 12) (.mv (.tmp 13)) none]
def r225_11 : List IOper := [op (some 2) (.mv (.const (.int .i64 13))) none]
def r225_12 : List IOper := [op (some 15) (.eq false .int (.tmp 3) (.const (.int .i64 13))) none,
  op (some 14) (.mv (.tmp 15)) none]
def r225_13 : List IOper := [op (some 2) (.mv (.const (.int .i64 14))) none]
def r225_14 : List IOper := [op (some 2) (.mv (.const (.int .i64 0))) none]
def f225 : IFunc := { nt := 16, own := false, results := [.tmp 2], body := (.seq (.region r225_0) (.seq (.seq (.region r225_1) (.block 0 (.seq (.region r225_2) (.cond (.tmp 4) (.seq (.region r225_3) .ret) (.seq (.region r225_4) (.cond (.tmp 6) (.seq (.region r225_5) .ret) (.seq (.region r225_6) (.cond (.tmp 8) (.seq (.region r225_7) .ret) (.seq (.region r225_8) (.cond (.tmp 10) (.seq (.region r225_9) .ret) (.seq (.region r225_10) (.cond (.tmp 12) (.seq (.region r225_11) .ret) (.seq (.region r225_12) (.cond (.tmp 14) (.seq (.region r225_13) .ret) .skip)))))))))))))) (.seq (.region r225_14) .ret))) }
/-! 226: understory/expr.neutral -/
def r226_0 : List IOper := [op (some 4) (.box (.tmp 0)) none,
  op (some 5) (.box (.tmp 1)) none,
  op (some 8) (.alloc [(.int .i64 0), (.int .i64 0), (.int .i64 0), (.int .i64 0), (.str []), (.slice .full 6 [])]) none,
  op (some 9) (.mv (.const (.bool false))) none]
def r226_1 : List IOper := [opx (some 11) (.fld 0 (.tmp 4)) none true false true false 0 [],
  opx (some 12) (.load false 1 (.tmp 11)) none true false true false 1 [],
  opx (some 13) (.mv (.tmp 2)) none true false true false 0 [],
  opx (some 14) (.eq false .int (.tmp 12) (.tmp 13)) none true true true false 7 [],
  opx (some 15) (.mv (.tmp 14)) none true true true false 15 [],
  opx (some 16) (.fld 0 (.tmp 4)) (some (15, false)) true false true false 31 [],
  opx (some 17) (.load false 1 (.tmp 16)) (some (15, false)) true false true false 63 [],
  opx (some 18) (.mv (.tmp 3)) (some (15, false)) true false true false 31 [],
  opx (some 19) (.eq false .int (.tmp 17) (.tmp 18)) (some (15, false)) true true true false 255 [],
  opx (some 20) (.pick (.tmp 15) (.const (.bool true)) (.tmp 19)) none true true true false 511 [],
  opx (some 21) (.mv (.tmp 20)) none true true true false 1023 [],
  opx (some 22) (.fld 5 (.tmp 4)) (some (21, true)) true false true false 2047 [],
  opx (some 23) (.load false 1 (.tmp 22)) (some (21, true)) false false true false 4095 [],
  opx (some 24) (.idx none 6 (.tmp 23) (.const (.int .i64 1))) (some (21, true)) true false true false 8191 [],
  opx (some 25) (.load true 6 (.tmp 24)) (some (21, true)) false false true false 16383 [],
  opx (some 26) (.load true 3 (.tmp 5)) (some (21, true)) false false true false 2047 [],
  opx (some 27) (.call false (.const (.fn 114 [] [])) [(.tmp 25), (.tmp 26)]) (some (21, true)) true true true false 65535 [],
  opx (some 28) (.pick (.tmp 21) (.tmp 27) (.const (.bool false))) none true true true false 131071 [],
  opx (some 10) (.mv (.tmp 28)) none true true true false 262143 []]
def r226_2 : List IOper := [op (some 29) (.fld 5 (.tmp 4)) none,
  op (some 30) (.load false 1 (.tmp 29)) none,
  op (some 31) (.idx none 6 (.tmp 30) (.const (.int .i64 0))) none,
  op (some 32) (.load true 6 (.tmp 31)) none,
  op none (.store 6 (.tmp 8) (.tmp 32)) none,
  op (some 9) (.mv (.const (.bool true))) none]
def r226_3 : List IOper := [opx (some 34) (.fld 0 (.tmp 4)) none true false true false 0 [],
  opx (some 35) (.load false 1 (.tmp 34)) none true false true false 1 [],
  opx (some 36) (.mv (.tmp 2)) none true false true false 0 [],
  opx (some 37) (.eq false .int (.tmp 35) (.tmp 36)) none true true true false 7 [],
  opx (some 38) (.mv (.tmp 37)) none true true true false 15 [],
  opx (some 39) (.fld 5 (.tmp 4)) (some (38, true)) true false true false 31 [],
  opx (some 40) (.load false 1 (.tmp 39)) (some (38, true)) false false true false 63 [],
  opx (some 41) (.idx none 6 (.tmp 40) (.const (.int .i64 0))) (some (38, true)) true false true false 127 [],
  opx (some 42) (.load true 6 (.tmp 41)) (some (38, true)) false false true false 255 [],
  opx (some 43) (.load true 3 (.tmp 5)) (some (38, true)) false false true false 31 [],
  opx (some 44) (.call false (.const (.fn 114 [] [])) [(.tmp 42), (.tmp 43)]) (some (38, true)) true true true false 1023 [],
  opx (some 45) (.pick (.tmp 38) (.tmp 44) (.const (.bool false))) none true true true false 2047 [],
  opx (some 33) (.mv (.tmp 45)) none true true true false 4095 []]
def r226_4 : List IOper := [op (some 46) (.fld 5 (.tmp 4)) none,
  op (some 47) (.load false 1 (.tmp 46)) none,
  op (some 48) (.idx none 6 (.tmp 47) (.const (.int .i64 1))) none,
  op (some 49) (.load true 6 (.tmp 48)) none,
  op none (.store 6 (.tmp 8) (.tmp 49)) none,
  op (some 9) (.mv (.const (.bool true))) none]
def r226_5 : List IOper := [op (some 50) (.load true 6 (.tmp 4)) none,
  op none (.store 6 (.tmp 8) (.tmp 50)) none,
  op (some 9) (.mv (.const (.bool false))) none]
def f226 : IFunc := { nt := 51, own := false, results := [.cell 8 true 6, .tmp 9], body := (.seq (.region r226_0) (.seq (.block 0 (.seq (.region r226_1) (.cond (.tmp 10) (.seq (.region r226_2) .ret) (.seq (.region r226_3) (.cond (.tmp 33) (.seq (.region r226_4) .ret) .skip))))) (.seq (.region r226_5) .ret))) }
/-! 228: understory/expr.fold -/
def r228_0 : List IOper := [op (some 1) (.box (.tmp 0)) none,
  op (some 2) (.alloc [(.int .i64 0), (.int .i64 0), (.int .i64 0), (.int .i64 0), (.str []), (.slice .full 6 [])]) none,
  op (some 3) (.mv (.const (.bool false))) none]
def r228_1 : List IOper := [op (some 6) (.fld 5 (.tmp 1)) none,
  op (some 7) (.load false 1 (.tmp 6)) none,
  op (some 8) (.len .slice (.tmp 7)) none,
  op (some 9) (.eq false .int (.tmp 8) (.const (.int .i64 0))) none,
  op (some 10) (.mv (.tmp 9)) none,
  op (some 11) (.fld 5 (.tmp 1)) (some (10, false)),
  op (some 12) (.load false 1 (.tmp 11)) (some (10, false)),
  op (some 13) (.call false (.const (.fn 280 [] [])) [(.tmp 12), (.const (.fn 281 [] []))]) (some (10, false)),
  op (some 14) (.pick (.tmp 10) (.const (.bool true)) (.tmp 13)) none]
def r228_2 : List IOper := [op (some 15) (.load true 6 (.tmp 1)) none,
  op none (.store 6 (.tmp 2) (.tmp 15)) none,
  op (some 3) (.mv (.const (.bool false))) none]
def r228_3 : List IOper := [op (some 17) (.load true 6 (.tmp 1)) none,
  op (some 18) (.call false (.const (.fn 33 [] [])) [(.tmp 17), (.const (.slice .full 3 [])), (.const (.slice .full 3 []))]) none,
  op (some 16) (.mv (.tmp 18)) none,
  op (some 19) (.ext (.tmp 16) 0) none,
  op (some 20) (.ext (.tmp 16) 1) none,
  op (some 4) (.alloc [(.int .i64 0), (.int .i64 0), (.str [])]) none,
  op none (.store 3 (.tmp 4) (.tmp 19)) none,
  op (some 5) (.mv (.tmp 20)) none]
def r228_4 : List IOper := [op (some 21) (.mv (.tmp 5)) none,
  op (some 22) (.eq true .int (.tmp 21) (.const (.int .i64 0))) none]
def r228_5 : List IOper := [op (some 23) (.load true 6 (.tmp 1)) none,
  op none (.store 6 (.tmp 2) (.tmp 23)) none,
  op (some 3) (.mv (.const (.bool false))) none]
def r228_6 : List IOper := [op (some 24) (.load true 3 (.tmp 4)) none,
  op (some 25) (.call false (.const (.fn 110 [] [])) [(.tmp 24)]) none,
  op none (.store 6 (.tmp 2) (.tmp 25)) none,
  op (some 3) (.mv (.const (.bool true))) none]
def f228 : IFunc := { nt := 26, own := false, results := [.cell 2 true 6, .tmp 3], body := (.seq (.region r228_0) (.seq (.seq (.region r228_1) (.cond (.tmp 14) (.seq (.region r228_2) .ret) .skip)) (.seq (.region r228_3) (.seq (.seq (.region r228_4) (.cond (.tmp 22) (.seq (.region r228_5) .ret) .skip)) (.seq (.region r228_6) .ret))))) }
/-! 257: understory/enc.kinds$1 -/
def r257_0 : List IOper := [op (some 1) (.box (.tmp 0)) none,
  op (some 2) (.mv (.const (.bool false))) none]
def r257_1 : List IOper := [op (some 3) (.fld 1 (.tmp 1)) none,
  op (some 4) (.load false 1 (.tmp 3)) none,
  op (some 5) (.eq false .int (.tmp 4) (.const (.int .i64 0))) none,
  op (some 6) (.mv (.tmp 5)) none,
  op (some 7) (.fld 2 (.tmp 1)) (some (6, true)),
  op (some 8) (.load false 1 (.tmp 7)) (some (6, true)),
  op (some 9) (.eq false .str (.tmp 8) (.const (.str []))) (some (6, true)),
  op (some 10) (.pick (.tmp 6) (.tmp 9) (.const (.bool false))) none,
  op (some 2) (.mv (.tmp 10)) none]
def f257 : IFunc := { nt := 11, own := false, results := [.tmp 2], body := (.seq (.region r257_0) (.seq (.region r257_1) .ret)) }
/-! 260: understory/enc.kinds$4 -/
def r260_0 : List IOper := [op (some 1) (.box (.tmp 0)) none,
  op (some 2) (.mv (.const (.bool false))) none]
def r260_1 : List IOper := [op (some 3) (.fld 1 (.tmp 1)) none,
  op (some 4) (.load false 1 (.tmp 3)) none,
  op (some 5) (.bin .andNot (.tmp 4) (.const (.int .i64 1))) none,
  op (some 6) (.eq false .int (.tmp 5) (.const (.int .i64 0))) none,
  op (some 7) (.mv (.tmp 6)) none,
  op (some 8) (.fld 2 (.tmp 1)) (some (7, true)),
  op (some 9) (.load false 1 (.tmp 8)) (some (7, true)),
  op (some 10) (.eq false .str (.tmp 9) (.const (.str []))) (some (7, true)),
  op (some 11) (.pick (.tmp 7) (.tmp 10) (.const (.bool false))) none,
  op (some 2) (.mv (.tmp 11)) none]
def f260 : IFunc := { nt := 12, own := false, results := [.tmp 2], body := (.seq (.region r260_0) (.seq (.region r260_1) .ret)) }
/-! 266: understory/enc.kinds$7 -/
def r266_0 : List IOper := [op (some 1) (.box (.tmp 0)) none,
  op (some 2) (.mv (.const (.bool false))) none]
def r266_1 : List IOper := [op (some 3) (.fld 2 (.tmp 1)) none,
  op (some 4) (.load false 1 (.tmp 3)) none,
  op (some 5) (.eq false .str (.tmp 4) (.const (.str []))) none,
  op (some 2) (.mv (.tmp 5)) none]
def f266 : IFunc := { nt := 6, own := false, results := [.tmp 2], body := (.seq (.region r266_0) (.seq (.region r266_1) .ret)) }
/-! 271: understory/enc.kinds$10 -/
def r271_0 : List IOper := [op (some 1) (.box (.tmp 0)) none,
  op (some 2) (.mv (.const (.bool false))) none]
def r271_1 : List IOper := [op (some 3) (.fld 1 (.tmp 1)) none,
  op (some 4) (.load false 1 (.tmp 3)) none,
  op (some 5) (.eq false .int (.tmp 4) (.const (.int .i64 0))) none,
  op (some 2) (.mv (.tmp 5)) none]
def f271 : IFunc := { nt := 6, own := false, results := [.tmp 2], body := (.seq (.region r271_0) (.seq (.region r271_1) .ret)) }
/-! 277: understory/expr.first -/
def r277_0 : List IOper := [op (some 3) (.box (.tmp 1)) none,
  op (some 4) (.mv (.const (.int .i64 0))) none]
def r277_1 : List IOper := [op (some 5) (.mv (.tmp 0)) none,
  op (some 6) (.mkF 306 [] [(.tmp 3)]) none,
  op (some 7) (.call false (.const (.fn 305 [] [])) [(.tmp 5), (.tmp 6)]) none,
  op (some 4) (.mv (.tmp 7)) none]
def f277 : IFunc := { nt := 8, own := false, results := [.tmp 4], body := (.seq (.region r277_0) (.seq (.region r277_1) .ret)) }
/-! 278: slices.Delete[[]understory/api.Expr,understory/api.Expr] -/
def r278_0 : List IOper := [op (some 6) (.mv (.const (.slice .full 6 []))) none]
def r278_1 : List IOper := [op (some 8) (.mv (.tmp 0)) none,
  op (some 9) (.mv (.tmp 1)) none,
  op (some 10) (.mv (.tmp 2)) none,
  op (some 11) (.mv (.tmp 0)) none,
  op (some 12) (.len .slice (.tmp 11)) none,
  op (some 13) (.slice 6 (.tmp 8) (some (.tmp 9)) (some (.tmp 10)) (some (.tmp 12))) none]
def r278_2 : List IOper := [op (some 14) (.mv (.tmp 1)) none,
  op (some 15) (.mv (.tmp 2)) none,
  op (some 16) (.eq false .int (.tmp 14) (.tmp 15)) none]
def r278_3 : List IOper := [op (some 17) (.mv (.tmp 0)) none,
  op (some 6) (.mv (.tmp 17)) none]
def r278_4 : List IOper := [op (some 18) (.mv (.tmp 0)) none,
  op (some 19) (.len .slice (.tmp 18)) none,
  op (some 7) (.mv (.tmp 19)) none]
def r278_5 : List IOper := [opx (some 20) (.mv (.tmp 0)) none true false true false 0 [],
  opx (some 21) (.mv (.tmp 1)) none true false true false 0 [],
  opx (some 22) (.slice 6 (.tmp 20) none (some (.tmp 21)) none) none true false true false 3 [],
  opx (some 23) (.mv (.tmp 0)) none true false true false 0 [],
  opx (some 24) (.mv (.tmp 2)) none true false true false 0 [],
  opx (some 25) (.slice 6 (.tmp 23) (some (.tmp 24)) none none) none true false true false 24 [],
  opx (some 26) (.append false false 6 72 (.tmp 22) (.tmp 25)) none true true true false 63 [],
  opx (some 0) (.mv (.tmp 26)) none true true true false 127 []]
def r278_6 : List IOper := [op (some 27) (.mv (.tmp 0)) none,
  op (some 28) (.mv (.tmp 0)) none,
  op (some 29) (.len .slice (.tmp 28)) none,
  op (some 30) (.mv (.tmp 7)) none,
  op (some 31) (.slice 6 (.tmp 27) (some (.tmp 29)) (some (.tmp 30)) none) none,
  op none (.clear [(.int .i64 0), (.int .i64 0), (.int .i64 0), (.int .i64 0), (.str []), (.slice .full 6 [])] (.tmp 31)) none]
def r278_7 : List IOper := [op (some 32) (.mv (.tmp 0)) none,
  op (some 6) (.mv (.tmp 32)) none]
def f278 : IFunc := { nt := 33, own := false, results := [.tmp 6], body := (.seq (.region r278_0) (.seq (.region r278_1) (.seq (.seq (.region r278_2) (.cond (.tmp 16) (.seq (.region r278_3) .ret) .skip)) (.seq (.region r278_4) (.seq (.region r278_5) (.seq (.region r278_6) (.seq (.region r278_7) .ret))))))) }
/-! 280: slices.ContainsFunc[[]understory/api.Expr,understory/api.Expr] -/
def r280_0 : List IOper := [op (some 4) (.mv (.const (.bool false))) none]
def r280_1 : List IOper := [op (some 5) (.mv (.tmp 0)) none,
  op (some 6) (.mv (.tmp 1)) none,
  op (some 7) (.call false (.const (.fn 305 [] [])) [(.tmp 5), (.tmp 6)]) none,
  op (some 8) (.bin .geq (.tmp 7) (.const (.int .i64 0))) none,
  op (some 4) (.mv (.tmp 8)) none]
def f280 : IFunc := { nt := 9, own := false, results := [.tmp 4], body := (.seq (.region r280_0) (.seq (.region r280_1) .ret)) }
/-! 281: understory/expr.fold$1 -/
def r281_0 : List IOper := [op (some 1) (.box (.tmp 0)) none,
  op (some 2) (.mv (.const (.bool false))) none]
def r281_1 : List IOper := [op (some 3) (.fld 0 (.tmp 1)) none,
  op (some 4) (.load false 1 (.tmp 3)) none,
  op (some 5) (.eq true .int (.tmp 4) (.const (.int .i64 1))) none,
  op (some 2) (.mv (.tmp 5)) none]
def f281 : IFunc := { nt := 6, own := false, results := [.tmp 2], body := (.seq (.region r281_0) (.seq (.region r281_1) .ret)) }
/-! 305: slices.IndexFunc[[]understory/api.Expr,understory/api.Expr] -/
def r305_0 : List IOper := [op (some 4) (.mv (.const (.int .i64 0))) none]
def r305_1 : List IOper := [op (some 6) (.mv (.tmp 0)) none,
  op (some 7) (.len .slice (.tmp 6)) none,
  op (some 8) (.mv (.const (.int .i64 0))) none]
def r305_2 : List IOper := [op (some 9) (.bin .lss (.tmp 8) (.tmp 7)) none]
def r305_3 : List IOper := [op (some 10) (.mv (.tmp 8)) none,
  op (some 5) (.mv (.tmp 10)) none]
def r305_4 : List IOper := [op (some 11) (.mv (.tmp 1)) none,
  op (some 12) (.mv (.tmp 0)) none,
  op (some 13) (.mv (.tmp 5)) none,
  op (some 14) (.idx none 6 (.tmp 12) (.tmp 13)) none,
  op (some 15) (.load true 6 (.tmp 14)) none,
  op (some 16) (.call false (.tmp 11) [(.tmp 15)]) none]
def r305_5 : List IOper := [op (some 17) (.mv (.tmp 5)) none,
  op (some 4) (.mv (.tmp 17)) none]
def r305_6 : List IOper := [op (some 18) (.bin .add (.tmp 8) (.const (.int .i64 1))) none,
  op (some 8) (.mv (.tmp 18)) none]
def l305_7 : IC := (.seq (.region r305_2) (.seq (.cond (.tmp 9) .skip (.exit 0)) (.seq (.block 1 (.seq (.region r305_3) (.seq (.region r305_4) (.cond (.tmp 16) (.seq (.region r305_5) .ret) .skip)))) (.region r305_6))))
def r305_8 : List IOper := [op (some 4) (.mv (.const (.int .i64 (-1)))) none]
def f305 : IFunc := { nt := 19, own := false, results := [.tmp 4], body := (.seq (.region r305_0) (.seq (.seq (.region r305_1) (.block 0 (.loop l305_7))) (.seq (.region r305_8) .ret))) }
/-! 306: understory/expr.first$1 -/
def r306_0 : List IOper := [op (some 2) (.box (.tmp 0)) none,
  op (some 3) (.mv (.const (.bool false))) none]
def r306_1 : List IOper := [op (some 4) (.load true 6 (.tmp 2)) none,
  op (some 5) (.load true 3 (.tmp 1)) none,
  op (some 6) (.call false (.const (.fn 114 [] [])) [(.tmp 4), (.tmp 5)]) none,
  op (some 3) (.mv (.tmp 6)) none]
def f306 : IFunc := { nt := 7, own := false, results := [.tmp 3], body := (.seq (.region r306_0) (.seq (.region r306_1) .ret)) }
end Go.Mia
