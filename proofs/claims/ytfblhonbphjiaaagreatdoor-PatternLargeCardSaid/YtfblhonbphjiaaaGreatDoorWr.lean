/- The writer of terms: what it writes, as a plain function of the memory. -/
import Derived.Test.YtfblhonbphjiaaaGreatDoorEngF
import Derived.Test.YtfblhonbphjiaaaGreatDoorEngE
set_option linter.unusedSimpArgs false
set_option linter.unusedVariables false
set_option maxRecDepth 20000
set_option maxHeartbeats 8000000
namespace Go.Eng
abbrev y1 : Nm := .h
abbrev y2 : Nm := .o (.h)
abbrev y3 : Nm := .i (.h)
abbrev y4 : Nm := .o (.o (.h))
abbrev y5 : Nm := .i (.o (.h))
abbrev y6 : Nm := .o (.i (.h))
abbrev y7 : Nm := .i (.i (.h))
abbrev y8 : Nm := .o (.o (.o (.h)))
abbrev y9 : Nm := .i (.o (.o (.h)))
abbrev y10 : Nm := .o (.i (.o (.h)))
abbrev y11 : Nm := .i (.i (.o (.h)))
abbrev y12 : Nm := .o (.o (.i (.h)))
abbrev y13 : Nm := .i (.o (.i (.h)))
abbrev y14 : Nm := .o (.i (.i (.h)))
abbrev y15 : Nm := .i (.i (.i (.h)))
abbrev y16 : Nm := .o (.o (.o (.o (.h))))
abbrev y17 : Nm := .i (.o (.o (.o (.h))))
abbrev y18 : Nm := .o (.i (.o (.o (.h))))
abbrev y19 : Nm := .i (.i (.o (.o (.h))))
abbrev y20 : Nm := .o (.o (.i (.o (.h))))
abbrev y21 : Nm := .i (.o (.i (.o (.h))))
abbrev y22 : Nm := .o (.i (.i (.o (.h))))
abbrev y23 : Nm := .i (.i (.i (.o (.h))))
abbrev y24 : Nm := .o (.o (.o (.i (.h))))
abbrev y25 : Nm := .i (.o (.o (.i (.h))))
abbrev y26 : Nm := .o (.i (.o (.i (.h))))
abbrev y27 : Nm := .i (.i (.o (.i (.h))))
abbrev y28 : Nm := .o (.o (.i (.i (.h))))
abbrev y29 : Nm := .i (.o (.i (.i (.h))))
abbrev y30 : Nm := .o (.i (.i (.i (.h))))
abbrev y31 : Nm := .i (.i (.i (.i (.h))))
abbrev y32 : Nm := .o (.o (.o (.o (.o (.h)))))
abbrev y33 : Nm := .i (.o (.o (.o (.o (.h)))))
abbrev y34 : Nm := .o (.i (.o (.o (.o (.h)))))
abbrev y35 : Nm := .i (.i (.o (.o (.o (.h)))))
abbrev y36 : Nm := .o (.o (.i (.o (.o (.h)))))
abbrev y37 : Nm := .i (.o (.i (.o (.o (.h)))))
abbrev y38 : Nm := .o (.i (.i (.o (.o (.h)))))
abbrev y39 : Nm := .i (.i (.i (.o (.o (.h)))))
abbrev y40 : Nm := .o (.o (.o (.i (.o (.h)))))
abbrev y41 : Nm := .i (.o (.o (.i (.o (.h)))))
abbrev y42 : Nm := .o (.i (.o (.i (.o (.h)))))
abbrev y43 : Nm := .i (.i (.o (.i (.o (.h)))))
abbrev y44 : Nm := .o (.o (.i (.i (.o (.h)))))
abbrev y45 : Nm := .i (.o (.i (.i (.o (.h)))))
abbrev y46 : Nm := .o (.i (.i (.i (.o (.h)))))
abbrev y47 : Nm := .i (.i (.i (.i (.o (.h)))))
abbrev y48 : Nm := .o (.o (.o (.o (.i (.h)))))
abbrev y49 : Nm := .i (.o (.o (.o (.i (.h)))))
abbrev y50 : Nm := .o (.i (.o (.o (.i (.h)))))
abbrev y51 : Nm := .i (.i (.o (.o (.i (.h)))))
abbrev y52 : Nm := .o (.o (.i (.o (.i (.h)))))
abbrev y53 : Nm := .i (.o (.i (.o (.i (.h)))))
abbrev y54 : Nm := .o (.i (.i (.o (.i (.h)))))
abbrev y55 : Nm := .i (.i (.i (.o (.i (.h)))))
abbrev y56 : Nm := .o (.o (.o (.i (.i (.h)))))
abbrev y57 : Nm := .i (.o (.o (.i (.i (.h)))))
abbrev y58 : Nm := .o (.i (.o (.i (.i (.h)))))
abbrev y59 : Nm := .i (.i (.o (.i (.i (.h)))))
abbrev y60 : Nm := .o (.o (.i (.i (.i (.h)))))
abbrev y61 : Nm := .i (.o (.i (.i (.i (.h)))))
abbrev y62 : Nm := .o (.i (.i (.i (.i (.h)))))
abbrev y63 : Nm := .i (.i (.i (.i (.i (.h)))))
abbrev y64 : Nm := .o (.o (.o (.o (.o (.o (.h))))))
abbrev y65 : Nm := .i (.o (.o (.o (.o (.o (.h))))))
abbrev y66 : Nm := .o (.i (.o (.o (.o (.o (.h))))))
abbrev y67 : Nm := .i (.i (.o (.o (.o (.o (.h))))))
abbrev y68 : Nm := .o (.o (.i (.o (.o (.o (.h))))))
abbrev y69 : Nm := .i (.o (.i (.o (.o (.o (.h))))))
abbrev y70 : Nm := .o (.i (.i (.o (.o (.o (.h))))))
abbrev y71 : Nm := .i (.i (.i (.o (.o (.o (.h))))))
abbrev y72 : Nm := .o (.o (.o (.i (.o (.o (.h))))))
abbrev y73 : Nm := .i (.o (.o (.i (.o (.o (.h))))))
abbrev y74 : Nm := .o (.i (.o (.i (.o (.o (.h))))))
abbrev y75 : Nm := .i (.i (.o (.i (.o (.o (.h))))))
abbrev y76 : Nm := .o (.o (.i (.i (.o (.o (.h))))))
abbrev y77 : Nm := .i (.o (.i (.i (.o (.o (.h))))))
abbrev y78 : Nm := .o (.i (.i (.i (.o (.o (.h))))))
abbrev y79 : Nm := .i (.i (.i (.i (.o (.o (.h))))))
abbrev y80 : Nm := .o (.o (.o (.o (.i (.o (.h))))))
abbrev y81 : Nm := .i (.o (.o (.o (.i (.o (.h))))))
abbrev y82 : Nm := .o (.i (.o (.o (.i (.o (.h))))))
abbrev y83 : Nm := .i (.i (.o (.o (.i (.o (.h))))))
abbrev y84 : Nm := .o (.o (.i (.o (.i (.o (.h))))))
abbrev y85 : Nm := .i (.o (.i (.o (.i (.o (.h))))))
abbrev y86 : Nm := .o (.i (.i (.o (.i (.o (.h))))))
abbrev y87 : Nm := .i (.i (.i (.o (.i (.o (.h))))))
abbrev y88 : Nm := .o (.o (.o (.i (.i (.o (.h))))))
abbrev y89 : Nm := .i (.o (.o (.i (.i (.o (.h))))))
abbrev y110 : Nm := .o (.i (.i (.i (.o (.i (.h))))))
abbrev y111 : Nm := .i (.i (.i (.i (.o (.i (.h))))))
abbrev y155 : Nm := .i (.i (.o (.i (.i (.o (.o (.h)))))))
def d26 : AFn := ⟨.seq (.region [⟨(some y10), .mv (.t y1), none⟩, ⟨(some y11), .nilCheck (.t y10), none⟩, ⟨(some y12), .fieldAddr 0 (.t y11), none⟩, ⟨(some y13), .load 1 false (.t y12), none⟩, ⟨(some y14), .mv (.t y3), none⟩, ⟨(some y15), .call (.fn y25) [(.t y13), (.t y14)], none⟩, ⟨(some y7), .mv (.t y15), none⟩]) (.seq (.seq (.region [⟨(some y16), .mv (.t y7), none⟩, ⟨(some y17), .isNil .ptr false (.t y16), none⟩]) (.cond (.t y17) (.seq (.region [⟨(some y18), .mv (.t y2), none⟩, ⟨(some y19), .mv (.t y1), none⟩, ⟨(some y20), .mv (.t y3), none⟩, ⟨(some y21), .call (.fn y50) [(.t y19), (.t y20)], none⟩, ⟨(some y22), .call (.fn y51) [(.t y18), (.t y21)], none⟩]) (.ret)) (.skip))) (.seq (.region [⟨(some y23), .mv (.t y2), none⟩, ⟨(some y24), .mv (.t y7), none⟩, ⟨(some y25), .nilCheck (.t y24), none⟩, ⟨(some y26), .fieldAddr 0 (.t y25), none⟩, ⟨(some y27), .load 1 false (.t y26), none⟩, ⟨(some y28), .bin .add (.c (.str [40])) (.t y27), none⟩, ⟨(some y29), .call (.fn y51) [(.t y23), (.t y28)], none⟩]) (.seq (.seq (.region [⟨(some y30), .mv (.t y7), none⟩, ⟨(some y31), .nilCheck (.t y30), none⟩, ⟨(some y32), .fieldAddr 1 (.t y31), none⟩, ⟨(some y33), .load 1 false (.t y32), none⟩, ⟨(some y34), .lenL (.t y33), none⟩, ⟨(some y35), .mv (.c (.int .i64 0)), none⟩]) (.block 0 (.loop (.seq (.region [⟨(some y36), .bin .lss (.t y35) (.t y34), none⟩]) (.seq (.cond (.t y36) (.skip) (.exit 0)) (.seq (.block 1 (.seq (.region [⟨(some y37), .indexAddr 1 none (.t y33) (.t y35), none⟩, ⟨(some y38), .load 1 false (.t y37), none⟩, ⟨(some y9), .mv (.t y38), none⟩]) (.seq (.region [⟨(some y39), .mv (.t y2), none⟩, ⟨(some y40), .call (.fn y51) [(.t y39), (.c (.str [32]))], none⟩]) (.region [⟨(some y41), .mv (.t y1), none⟩, ⟨(some y42), .mv (.t y2), none⟩, ⟨(some y43), .mv (.t y9), none⟩, ⟨(some y44), .call (.fn y27) [(.t y41), (.t y42), (.t y43)], none⟩])))) (.region [⟨(some y45), .bin .add (.t y35) (.c (.int .i64 1)), none⟩, ⟨(some y35), .mv (.t y45), none⟩]))))))) (.region [⟨(some y46), .mv (.t y2), none⟩, ⟨(some y47), .call (.fn y51) [(.t y46), (.c (.str [41]))], none⟩])))), []⟩
def d24 : AFn := ⟨.seq (.region [⟨(some y5), .mv (.c .nilp), none⟩]) (.seq (.seq (.region [⟨(some y8), .mv (.t y2), none⟩, ⟨(some y9), .nilCheck (.t y8), none⟩, ⟨(some y10), .fieldAddr 1 (.t y9), none⟩, ⟨(some y11), .load 1 false (.t y10), none⟩, ⟨(some y12), .isNil .ptr false (.t y11), none⟩]) (.cond (.t y12) (.seq (.region [⟨(some y5), .mv (.c .nilp), none⟩]) (.ret)) (.skip))) (.seq (.seq (.draw [⟨⟨(some y6), .alloc [(.int .i64 0), (.str [])] 159, none⟩, .fresh, []⟩, ⟨⟨(some y14), .mv (.t y1), none⟩, .light, []⟩, ⟨⟨(some y15), .nilCheck (.t y14), none⟩, .light, []⟩, ⟨⟨(some y16), .fieldAddr 1 (.t y15), none⟩, .light, []⟩, ⟨⟨(some y17), .load 1 false (.t y16), none⟩, .light, []⟩, ⟨⟨(some y18), .mv (.t y2), none⟩, .light, []⟩, ⟨⟨(some y19), .nilCheck (.t y18), none⟩, .light, []⟩, ⟨⟨(some y20), .fieldAddr 1 (.t y19), none⟩, .light, []⟩, ⟨⟨(some y21), .load 1 false (.t y20), none⟩, .light, []⟩, ⟨⟨(some y22), .nilCheck (.t y21), none⟩, .light, []⟩, ⟨⟨(some y23), .fieldAddr 0 (.t y22), none⟩, .light, []⟩, ⟨⟨(some y24), .load 1 false (.t y23), none⟩, .light, []⟩, ⟨⟨(some y25), .lookup .str (.agg [(.int .i64 0), (.str [])]) (.t y17) (.t y24) true, none⟩, .light, []⟩, ⟨⟨(some y13), .mv (.t y25), none⟩, .light, []⟩, ⟨⟨(some y26), .extract (.t y13) 0, none⟩, .light, []⟩, ⟨⟨(some y27), .extract (.t y13) 1, none⟩, .light, []⟩, ⟨⟨none, .store 2 (.t y6) (.t y26), none⟩, .heavy, [⟨(some y27), .extract (.t y13) 1, none⟩]⟩, ⟨⟨(some y7), .mv (.t y27), none⟩, .light, []⟩]) (.seq (.region [⟨(some y28), .mv (.t y7), none⟩, ⟨(some y29), .un .not (.t y28), none⟩]) (.cond (.t y29) (.seq (.region [⟨(some y5), .mv (.c .nilp), none⟩]) (.ret)) (.skip)))) (.seq (.region [⟨(some y30), .mv (.t y2), none⟩, ⟨(some y31), .nilCheck (.t y30), none⟩, ⟨(some y32), .fieldAddr 1 (.t y31), none⟩, ⟨(some y33), .load 1 false (.t y32), none⟩, ⟨(some y5), .mv (.t y33), none⟩]) (.ret)))), [.tmp y5]⟩
def d49 : AFn := ⟨.seq (.region [⟨(some y5), .mv (.c (.str [])), none⟩]) (.seq (.seq (.region [⟨(some y9), .mv (.t y2), none⟩, ⟨(some y10), .call (.fn y24) [(.t y9)], none⟩, ⟨(some y8), .mv (.t y10), none⟩, ⟨(some y11), .extract (.t y8) 0, none⟩, ⟨(some y12), .extract (.t y8) 1, none⟩, ⟨(some y6), .mv (.t y11), none⟩, ⟨(some y7), .mv (.t y12), none⟩]) (.seq (.region [⟨(some y13), .mv (.t y7), none⟩]) (.cond (.t y13) (.seq (.region [⟨(some y14), .mv (.t y6), none⟩, ⟨(some y15), .call (.fn y110) [(.t y14)], none⟩, ⟨(some y5), .mv (.t y15), none⟩]) (.ret)) (.skip)))) (.seq (.region [⟨(some y16), .mv (.t y1), none⟩, ⟨(some y17), .nilCheck (.t y16), none⟩, ⟨(some y18), .fieldAddr 1 (.t y17), none⟩, ⟨(some y19), .load 1 false (.t y18), none⟩, ⟨(some y20), .mv (.t y2), none⟩, ⟨(some y21), .lookup .ptr (.int .i64 0) (.t y19) (.t y20) false, none⟩, ⟨(some y22), .call (.fn y44) [(.t y21)], none⟩, ⟨(some y23), .bin .add (.c (.str [63])) (.t y22), none⟩, ⟨(some y5), .mv (.t y23), none⟩]) (.ret))), [.tmp y5]⟩
def d50 : AFn := ⟨.seq (.region [⟨(some y5), .mv (.c (.int .i64 0)), none⟩, ⟨(some y6), .mv (.c .nili), none⟩]) (.seq (.region [⟨(some y7), .mv (.t y1), none⟩, ⟨(some y8), .call (.fn y111) [(.t y7)], none⟩]) (.seq (.region [⟨(some y9), .mv (.t y1), none⟩, ⟨(some y10), .mv (.t y1), none⟩, ⟨(some y11), .nilCheck (.t y10), none⟩, ⟨(some y12), .fieldAddr 1 (.t y11), none⟩, ⟨(some y13), .load 1 false (.t y12), none⟩, ⟨(some y14), .mv (.t y2), none⟩, ⟨(some y15), .append 1 5 (.t y13) (.t y14), none⟩, ⟨(some y16), .nilCheck (.t y9), none⟩, ⟨(some y17), .fieldAddr 1 (.t y16), none⟩, ⟨none, .store 1 (.t y17) (.t y15), none⟩]) (.seq (.region [⟨(some y18), .mv (.t y2), none⟩, ⟨(some y19), .lenS (.t y18), none⟩, ⟨(some y5), .mv (.t y19), none⟩, ⟨(some y6), .mv (.c .nili), none⟩]) (.ret)))), [.tmp y5, .tmp y6]⟩
def d110 : AFn := ⟨.seq (.region [⟨(some y3), .mv (.t y1), none⟩, ⟨(some y4), .nilCheck (.t y3), none⟩, ⟨(some y5), .fieldAddr 0 (.t y4), none⟩, ⟨(some y6), .load 1 false (.t y5), none⟩, ⟨(some y7), .isNil .ptr false (.t y6), none⟩]) (.cond (.t y7) (.region [⟨(some y8), .mv (.t y1), none⟩, ⟨(some y9), .mv (.t y1), none⟩, ⟨(some y10), .conv .toUnsafe (.t y9), none⟩, ⟨(some y11), .call (.fn y155) [(.t y10)], none⟩, ⟨(some y12), .conv (.fromUnsafe 117) (.t y11), none⟩, ⟨(some y13), .nilCheck (.t y8), none⟩, ⟨(some y14), .fieldAddr 0 (.t y13), none⟩, ⟨none, .store 1 (.t y14) (.t y12), none⟩]) (.seq (.region [⟨(some y15), .mv (.t y1), none⟩, ⟨(some y16), .nilCheck (.t y15), none⟩, ⟨(some y17), .fieldAddr 0 (.t y16), none⟩, ⟨(some y18), .load 1 false (.t y17), none⟩, ⟨(some y19), .mv (.t y1), none⟩, ⟨(some y20), .eq true .ptr (.t y18) (.t y19), none⟩]) (.cond (.t y20) (.bad "(*strings.Builder).copyCheck builder.go:41: unsupported: a written strings.Builder's value in another place: whether the library's copy check passes hangs on where the compiler lays the two") (.skip)))), []⟩
def d23 : AFn := ⟨.seq (.region [⟨(some y3), .mv (.c (.int .i64 0)), none⟩, ⟨(some y4), .mv (.c (.bool false)), none⟩]) (.seq (.seq (.region [⟨(some y7), .mv (.t y1), none⟩, ⟨(some y8), .nilCheck (.t y7), none⟩, ⟨(some y9), .fieldAddr 1 (.t y8), none⟩, ⟨(some y10), .load 1 false (.t y9), none⟩, ⟨(some y11), .isNil .ptr false (.t y10), none⟩, ⟨(some y12), .mv (.t y11), none⟩, ⟨(some y13), .mv (.t y1), (some (y12, false))⟩, ⟨(some y14), .nilCheck (.t y13), (some (y12, false))⟩, ⟨(some y15), .fieldAddr 1 (.t y14), (some (y12, false))⟩, ⟨(some y16), .load 1 false (.t y15), (some (y12, false))⟩, ⟨(some y17), .nilCheck (.t y16), (some (y12, false))⟩, ⟨(some y18), .fieldAddr 0 (.t y17), (some (y12, false))⟩, ⟨(some y19), .load 1 false (.t y18), (some (y12, false))⟩, ⟨(some y20), .bin .neq (.t y19) (.c (.str [97, 114, 105, 116, 104, 46, 99, 111, 110, 115, 116])), (some (y12, false))⟩, ⟨(some y21), .pick (.t y12) (.c (.bool true)) (.t y20), none⟩]) (.cond (.t y21) (.seq (.region [⟨(some y3), .mv (.c (.int .i64 0)), none⟩, ⟨(some y4), .mv (.c (.bool false)), none⟩]) (.ret)) (.skip))) (.seq (.region [⟨(some y23), .mv (.t y1), none⟩, ⟨(some y24), .nilCheck (.t y23), none⟩, ⟨(some y25), .fieldAddr 1 (.t y24), none⟩, ⟨(some y26), .load 1 false (.t y25), none⟩, ⟨(some y27), .call (.fn y49) [(.t y26), (.c (.str [118, 97, 108, 117, 101]))], none⟩, ⟨(some y22), .mv (.t y27), none⟩, ⟨(some y28), .extract (.t y22) 0, none⟩, ⟨(some y29), .extract (.t y22) 1, none⟩, ⟨(some y5), .alloc [(.str []), (.int .i64 0), (.int .i64 0), (.str []), .nils, .nils] 34, none⟩, ⟨none, .store 6 (.t y5) (.t y28), none⟩, ⟨(some y6), .mv (.t y29), none⟩]) (.seq (.draw [⟨⟨(some y30), .fieldAddr 2 (.t y5), none⟩, .light, []⟩, ⟨⟨(some y31), .load 1 false (.t y30), none⟩, .light, []⟩, ⟨⟨(some y32), .mv (.t y6), none⟩, .light, []⟩, ⟨⟨(some y33), .mv (.t y32), none⟩, .light, []⟩, ⟨⟨(some y34), .fieldAddr 1 (.t y5), (some (y33, true))⟩, .light, []⟩, ⟨⟨(some y35), .load 1 false (.t y34), (some (y33, true))⟩, .light, []⟩, ⟨⟨(some y36), .bin .eql (.t y35) (.c (.int .i64 0)), (some (y33, true))⟩, .light, []⟩, ⟨⟨(some y37), .pick (.t y33) (.t y36) (.c (.bool false)), none⟩, .light, []⟩, ⟨⟨(some y3), .mv (.t y31), none⟩, .light, []⟩, ⟨⟨(some y4), .mv (.t y37), none⟩, .light, []⟩]) (.ret)))), [.tmp y3, .tmp y4]⟩
def d27 : AFn := ⟨.seq (.region [⟨(some y3), .mv (.c (.str [])), none⟩]) (.seq (.draw [⟨⟨(some y4), .mv (.t y1), none⟩, .light, []⟩, ⟨⟨(some y5), .nilCheck (.t y4), none⟩, .light, []⟩, ⟨⟨(some y6), .fieldAddr 1 (.t y5), none⟩, .light, []⟩, ⟨⟨(some y7), .load 1 false (.t y6), none⟩, .light, []⟩, ⟨⟨(some y9), .mv (.t y1), none⟩, .light, []⟩, ⟨⟨(some y10), .nilCheck (.t y9), none⟩, .light, []⟩, ⟨⟨(some y11), .fieldAddr 1 (.t y10), none⟩, .light, []⟩, ⟨⟨(some y12), .load 1 false (.t y11), none⟩, .light, []⟩, ⟨⟨(some y13), .lenL (.t y12), none⟩, .light, []⟩, ⟨⟨(some y8), .uData (.t y7), none⟩, .heavy, [⟨(some y13), .lenL (.t y12), none⟩, ⟨(some y12), .load 1 false (.t y11), none⟩, ⟨(some y11), .fieldAddr 1 (.t y10), none⟩, ⟨(some y10), .nilCheck (.t y9), none⟩, ⟨(some y9), .mv (.t y1), none⟩]⟩, ⟨⟨(some y14), .uStr 5 (.t y8) (.t y13), none⟩, .heavy, []⟩, ⟨⟨(some y3), .mv (.t y14), none⟩, .light, []⟩]) (.ret)), [.tmp y3]⟩
def d10 : AFn := ⟨.seq (.region [⟨(some y5), .mv (.c (.str [])), none⟩, ⟨(some y6), .mv (.c (.int .i64 0)), none⟩]) (.seq (.seq (.region [⟨(some y8), .mv (.t y1), none⟩, ⟨(some y9), .mv (.t y2), none⟩, ⟨(some y10), .call (.fn y26) [(.t y8), (.t y9), (.c (.int .i64 0))], none⟩, ⟨(some y11), .bin .gtr (.t y10) (.c (.int .i64 262144)), none⟩]) (.cond (.t y11) (.seq (.region [⟨(some y5), .mv (.c (.str [])), none⟩, ⟨(some y6), .mv (.c (.int .i64 2)), none⟩]) (.ret)) (.skip))) (.seq (.region [⟨(some y7), .alloc [.nilp, .nils] 117, none⟩]) (.seq (.region [⟨(some y12), .mv (.t y1), none⟩, ⟨(some y13), .mv (.t y2), none⟩, ⟨(some y14), .call (.fn y27) [(.t y12), (.t y7), (.t y13)], none⟩]) (.seq (.region [⟨(some y15), .call (.fn y28) [(.t y7)], none⟩, ⟨(some y5), .mv (.t y15), none⟩, ⟨(some y6), .mv (.c (.int .i64 0)), none⟩]) (.ret))))), [.tmp y5, .tmp y6]⟩
def d25 : AFn := ⟨.seq (.region [⟨(some y7), .mv (.c (.int .i64 0)), none⟩]) (.seq (.region [⟨(some y14), .mv (.t y1), none⟩, ⟨(some y15), .nilCheck (.t y14), none⟩, ⟨(some y16), .fieldAddr 0 (.t y15), none⟩, ⟨(some y17), .load 1 false (.t y16), none⟩, ⟨(some y18), .mv (.t y2), none⟩, ⟨(some y19), .call (.fn y25) [(.t y17), (.t y18)], none⟩, ⟨(some y8), .mv (.t y19), none⟩]) (.seq (.seq (.region [⟨(some y20), .mv (.t y8), none⟩, ⟨(some y21), .isNil .ptr false (.t y20), none⟩]) (.cond (.t y21) (.seq (.region [⟨(some y22), .mv (.t y1), none⟩, ⟨(some y23), .mv (.t y2), none⟩, ⟨(some y24), .call (.fn y50) [(.t y22), (.t y23)], none⟩, ⟨(some y25), .lenS (.t y24), none⟩, ⟨(some y7), .mv (.t y25), none⟩]) (.ret)) (.skip))) (.seq (.seq (.region [⟨(some y27), .mv (.t y1), none⟩, ⟨(some y28), .nilCheck (.t y27), none⟩, ⟨(some y29), .fieldAddr 2 (.t y28), none⟩, ⟨(some y30), .load 1 false (.t y29), none⟩, ⟨(some y31), .mv (.t y2), none⟩, ⟨(some y32), .lookup .ptr (.int .i64 0) (.t y30) (.t y31) true, none⟩, ⟨(some y26), .mv (.t y32), none⟩, ⟨(some y33), .extract (.t y26) 0, none⟩, ⟨(some y34), .extract (.t y26) 1, none⟩, ⟨(some y9), .mv (.t y33), none⟩, ⟨(some y10), .mv (.t y34), none⟩]) (.seq (.region [⟨(some y35), .mv (.t y10), none⟩]) (.cond (.t y35) (.seq (.region [⟨(some y36), .mv (.t y9), none⟩, ⟨(some y7), .mv (.t y36), none⟩]) (.ret)) (.skip)))) (.seq (.seq (.region [⟨(some y37), .mv (.t y1), none⟩, ⟨(some y38), .nilCheck (.t y37), none⟩, ⟨(some y39), .fieldAddr 3 (.t y38), none⟩, ⟨(some y40), .load 1 false (.t y39), none⟩, ⟨(some y41), .mv (.t y2), none⟩, ⟨(some y42), .lookup .ptr (.bool false) (.t y40) (.t y41) false, none⟩, ⟨(some y43), .mv (.t y42), none⟩, ⟨(some y44), .mv (.t y3), (some (y43, false))⟩, ⟨(some y45), .bin .gtr (.t y44) (.c (.int .i64 10000)), (some (y43, false))⟩, ⟨(some y46), .pick (.t y43) (.c (.bool true)) (.t y45), none⟩]) (.cond (.t y46) (.seq (.region [⟨(some y7), .mv (.c (.int .i64 262145)), none⟩]) (.ret)) (.skip))) (.seq (.region [⟨(some y47), .mv (.t y1), none⟩, ⟨(some y48), .nilCheck (.t y47), none⟩, ⟨(some y49), .fieldAddr 3 (.t y48), none⟩, ⟨(some y50), .load 1 false (.t y49), none⟩, ⟨(some y51), .mv (.t y2), none⟩, ⟨none, .mapUpdate .ptr (.t y50) (.t y51) (.c (.bool true)), none⟩]) (.seq (.region [⟨(some y52), .mv (.t y8), none⟩, ⟨(some y53), .nilCheck (.t y52), none⟩, ⟨(some y54), .fieldAddr 0 (.t y53), none⟩, ⟨(some y55), .load 1 false (.t y54), none⟩, ⟨(some y56), .lenS (.t y55), none⟩, ⟨(some y57), .bin .add (.t y56) (.c (.int .i64 2)), none⟩, ⟨(some y11), .mv (.t y57), none⟩]) (.seq (.seq (.region [⟨(some y58), .mv (.t y8), none⟩, ⟨(some y59), .nilCheck (.t y58), none⟩, ⟨(some y60), .fieldAddr 1 (.t y59), none⟩, ⟨(some y61), .load 1 false (.t y60), none⟩, ⟨(some y62), .lenL (.t y61), none⟩, ⟨(some y63), .mv (.c (.int .i64 0)), none⟩]) (.block 0 (.loop (.seq (.region [⟨(some y64), .bin .lss (.t y63) (.t y62), none⟩]) (.seq (.cond (.t y64) (.skip) (.exit 0)) (.seq (.block 1 (.seq (.region [⟨(some y65), .indexAddr 1 none (.t y61) (.t y63), none⟩, ⟨(some y66), .load 1 false (.t y65), none⟩, ⟨(some y13), .mv (.t y66), none⟩]) (.region [⟨(some y67), .mv (.t y11), none⟩, ⟨(some y68), .bin .add (.t y67) (.c (.int .i64 1)), none⟩, ⟨(some y69), .mv (.t y1), none⟩, ⟨(some y70), .mv (.t y13), none⟩, ⟨(some y71), .mv (.t y3), none⟩, ⟨(some y72), .bin .add (.t y71) (.c (.int .i64 1)), none⟩, ⟨(some y73), .call (.fn y26) [(.t y69), (.t y70), (.t y72)], none⟩, ⟨(some y74), .bin .add (.t y68) (.t y73), none⟩, ⟨(some y75), .min2 (.c (.int .i64 262145)) (.t y74), none⟩, ⟨(some y11), .mv (.t y75), none⟩]))) (.region [⟨(some y76), .bin .add (.t y63) (.c (.int .i64 1)), none⟩, ⟨(some y63), .mv (.t y76), none⟩]))))))) (.seq (.region [⟨(some y77), .mv (.t y1), none⟩, ⟨(some y78), .nilCheck (.t y77), none⟩, ⟨(some y79), .fieldAddr 3 (.t y78), none⟩, ⟨(some y80), .load 1 false (.t y79), none⟩, ⟨(some y81), .mv (.t y2), none⟩, ⟨none, .mapUpdate .ptr (.t y80) (.t y81) (.c (.bool false)), none⟩]) (.seq (.region [⟨(some y82), .mv (.t y1), none⟩, ⟨(some y83), .nilCheck (.t y82), none⟩, ⟨(some y84), .fieldAddr 2 (.t y83), none⟩, ⟨(some y85), .load 1 false (.t y84), none⟩, ⟨(some y86), .mv (.t y2), none⟩, ⟨(some y87), .mv (.t y11), none⟩, ⟨none, .mapUpdate .ptr (.t y85) (.t y86) (.t y87), none⟩]) (.seq (.region [⟨(some y88), .mv (.t y11), none⟩, ⟨(some y7), .mv (.t y88), none⟩]) (.ret))))))))))), [.tmp y7]⟩
def d43 : AFn := ⟨.seq (.region [⟨(some y3), .mv (.c (.str [])), none⟩]) (.seq (.region [⟨(some y4), .mv (.t y1), none⟩, ⟨(some y5), .call (.fn y89) [(.t y4)], none⟩, ⟨(some y3), .mv (.t y5), none⟩]) (.ret)), [.tmp y3]⟩
structure WCode (E : Env) : Prop where
  f1 : E.fns y27 = some d26
  f2 : E.fns y25 = some d24
  f3 : E.fns y50 = some d49
  f4 : E.fns y51 = some d50
  f5 : E.fns y111 = some d110
  f6 : E.fns y24 = some d23
  f7 : E.fns y28 = some d27
  o1 : E.over y27 = none
  o2 : E.over y25 = none
  o3 : E.over y50 = none
  o4 : E.over y51 = none
  o5 : E.over y111 = none
  o6 : E.over y24 = none
  o7 : E.over y28 = none
  o8 : E.over y155 = some ovNo
  ito : ∃ h, E.over y44 = some h ∧ ∀ s, h [.int .i64 0] s = .ret (.str [48], s)
theorem natOf_cast (k : IntKind) (n : Nat) : natOf (.int k (n : Int)) = some n := rfl
theorem ovNo_one (a : V) (s : St) : ovNo [a] s = .ret (a, s) := rfl
theorem eqbV_row' (b : Nm) (a c d : Nat) (e : Bool) : eqbV (.row b a c d e) (.row b a c d e) = true := by simp [eqbV]
theorem eqbV_nils' : eqbV .nils .nils = true := rfl
theorem drun_fresh {E : Env} {τ : Tr V} {H : Tr O} {x : Nm} {d : Nat} {ev : Eval} {p : Option Nm} {o : AOp} {cs : List AOper} {ds : List DStep} : drun E ev (⟨⟨p, o, none⟩, .fresh, cs⟩ :: ds) τ ⟨H, x, d⟩ = (oper E ev τ ⟨H, x, d⟩ o).bind fun r => cnd (.bool (recheck E (put τ p r.1) r.2 cs)) (drun E ev ds (put τ p r.1) r.2) .fail := by
  show (oper E ev τ ⟨H, x, d⟩ o).bind _ = _
  congr 1
  funext r
  show (match recheck E (put τ p r.1) r.2 cs with | true => drun E ev ds (put τ p r.1) r.2 | false => .fail) = _
  cases recheck E (put τ p r.1) r.2 cs <;> rfl
theorem eqbV_bool (c : Bool) : eqbV (.bool c) (.bool c) = true := by simp [eqbV]
theorem beq_tt : (true == true) = true := rfl
theorem beq_ff : (false == false) = true := rfl
def rd (B : Nat) (H : Tr O) (p : V) : Option V := match p with
  | .ptr z _ _ => match Nat.blt z.val B with
    | true => load H 1 false p
    | false => none
  | _ => none
def ob (B : Nat) (H : Tr O) (z : Nm) : Option O := match Nat.blt z.val B with
  | true => H.get z
  | false => none
def Same (B : Nat) (H K : Tr O) : Prop := ∀ p : Nm, p.val < B → K.get p = H.get p
theorem rd_ok {B : Nat} {H K : Tr O} {p v : V} (h : rd B H p = some v) (hk : Same B H K) : load K 1 false p = some v := by
  unfold rd at h
  split at h
  · rename_i z i j
    split at h
    · rename_i hz
      have hz' : z.val < B := by simpa [Nat.blt_eq] using hz
      unfold load loadCells at h ⊢
      simp only [hk z hz']
      exact h
    · cases h
  · cases h
theorem ob_ok {B : Nat} {H K : Tr O} {z : Nm} {o : O} (h : ob B H z = some o) (hk : Same B H K) : K.get z = some o := by
  unfold ob at h
  split at h
  · rename_i hz
    rw [hk z (by simpa [Nat.blt_eq] using hz)]; exact h
  · cases h
theorem Same.set {B : Nat} {H K : Tr O} (h : Same B H K) {x : Nm} (hx : B ≤ x.val) (r : Option O) : Same B H (K.set r x) := fun p hp => by
  have : x ≠ p := fun e => by rw [e] at hx; omega
  rw [Tr.get_set_other _ _ this]; exact h p hp
theorem beq_117 : Nat.beq 117 117 = true := rfl
theorem blt_01 : Nat.blt 0 1 = true := rfl
theorem xor_ft : xor false true = true := rfl
theorem xor_ff : xor false false = false := rfl
theorem xor_tt : xor true true = false := rfl
theorem xor_tf : xor true false = true := rfl
section
variable {E : Env}
theorem ws_run0 (W : WCode E) {H : Tr O} {x b : Nm} {d c : Nat} {t : List Nat} (hb : H.get b = some (.row [[.nilp, .nils]] 2 117)) (hx : x ≠ b) (hn : t.length + 1 ≤ 1000000000) (q : Nat) :
    callF E (eval E (q + 20)) y51 [.ptr b 0 0, .str (c :: t)] ⟨H, x, d⟩ = .ret (.tup [.int .i64 ((t.length + 1 : Nat) : Int), .nili], ⟨((H.set (some (.row [[.ptr b 0 0, .nils]] 2 117)) b).set (some (.row (bs (c :: t)) 1 5)) x).set (some (.row [[.ptr b 0 0, .row x 1 0 (t.length + 1) false]] 2 117)) b, x.succ, d⟩) := by
  have g1 : Nat.ble (t.length + 1) 1000000000 = true := by rw [Nat.ble_eq]; omega
  have e1 : ∀ o (K : Tr O), (K.set o x).get b = K.get b := fun o K => Tr.get_set_other o K hx
  have a1 : ∀ H z d, append ⟨H, z, d⟩ 1 5 .nils (some (bs (c :: t))) = grow ⟨H, z, d⟩ 1 5 (bs (c :: t)) := fun _ _ _ => append_bs0
  simp (maxSteps := 10000000) (implicitDefEqProofs := false) only [callB, eval_skip, eval_region, eval_draw, eval_seq, eval_cond, eval_block, eval_loop, eval_exit, eval_ret, opers_nil, opers_cons, andThen_normal, andThen_ret, andThen_exit, initT, ↓T.ret_bind, ↓T.fail_bind, T.ofO_some, T.ofO_none, ↓cnd_true, ↓cnd_false, oper, exec, arg, Tr.get, Tr.set, Tr.root, Tr.left, Tr.right, put, okV, okS, new, Nm.succ, load, loadCells, nth, window, dropExact, takeExact, pack, store, splice, bin, lookupIn, findKey, keyOk, List.length_cons, List.length_nil, Nat.beq, Option.getD_some, Option.getD_none, Bool.and_true, Bool.true_and, Nat.reduceAdd, List.all_cons, List.all_nil, beq_self_eq_true, BEq.rfl, Nat.reduceBEq, decide_true, decide_false, Int.reduceEq, ite_true, if_true, Nat.reduceMul, Nat.zero_add, Nat.add_zero, eqK, Bool.false_eq_true, ite_false, findKeyIn_str, Option.map_some, Option.map_none, Option.isSome_some, Option.isSome_none, un, Bool.not_true, Bool.not_false, results, resultV, leave, endBlock, if_false, Nat.reduceEqDiff, ↓reduceIte, scalar_int, scalar_str, scalar_bool, scalar_nils, scalar_nilp, scalar_row, scalar_ptr, scalar_map, scalar_dsl, notTup_agg, notTup_int, notTup_str, cells_agg, cells_int, cells_str, cells_bool, cells_nils, cells_row, cells_dsl, cells_ptr, cells_map, T.Is_ret, List.map_cons, List.map_nil, execCall, callF, Int.reduceLT, cast_0, cast_1, cast_2, blt_02, blt_12, ble_1, ble_2, natOf_0, natOf_1, wrap_01, wrap_11, lenL, grow, fillElems, rep, List.cons_append, List.nil_append, Int.lt_irrefl, and_self, not_false_eq_true, not_true_eq_false, drun_nil, drun_light, drun_heavy, lightV, wanted, recheck, holds, eqbV_str, eqbV_map, eqbV_ptr, eqbV_int, lenM, mapUpdate, snoc, fillParts, List.map_cons, List.map_nil, eqbV_nils, eqbV_row', W.f4, W.f5, W.o4, W.o5, W.o8, ovNo_one, d50, d110, hb, e1, Tr.get_set_same, a1, elems_str, bs_length, g1, nilV, beq_117, blt_01, xor_ft, xor_ff, xor_tt, xor_tf, natOf_cast]
theorem ws_run1 (W : WCode E) {H : Tr O} {x b n : Nm} {d c : Nat} {l t : List Nat} (hb : H.get b = some (.row [[.ptr b 0 0, .row n 1 0 l.length false]] 2 117)) (hl : H.get n = some (.row (bs l) 1 5)) (hx : x ≠ b) (hnb : n ≠ b) (hn : l.length + (t.length + 1) ≤ 1000000000) (q : Nat) :
    callF E (eval E (q + 20)) y51 [.ptr b 0 0, .str (c :: t)] ⟨H, x, d⟩ = .ret (.tup [.int .i64 ((t.length + 1 : Nat) : Int), .nili], ⟨((H.set none n).set (some (.row (bs (l ++ c :: t)) 1 5)) x).set (some (.row [[.ptr b 0 0, .row x 1 0 (l.length + (t.length + 1)) false]] 2 117)) b, x.succ, d⟩) := by
  have g1 : Nat.ble (l.length + (t.length + 1)) 1000000000 = true := by rw [Nat.ble_eq]; omega
  have e1 : ∀ o (K : Tr O), (K.set o x).get b = K.get b := fun o K => Tr.get_set_other o K hx
  have e2 : ∀ o (K : Tr O), (K.set o n).get b = K.get b := fun o K => Tr.get_set_other o K hnb
  have a2 : ∀ z d, append ⟨H, z, d⟩ 1 5 (.row n 1 0 l.length false) (some (bs (c :: t))) = grow ⟨H.set none n, z, d⟩ 1 5 (bs (l ++ c :: t)) := fun z d => append_bs (s := ⟨H, z, d⟩) hl
  have e3 : Nm.eqb b b = true := Nm.eqb_iff.2 rfl
  have e4 : Nat.beq (0 * 2 + 0) (0 * 2 + 0) = true := rfl
  simp (maxSteps := 10000000) (implicitDefEqProofs := false) only [callB, eval_skip, eval_region, eval_draw, eval_seq, eval_cond, eval_block, eval_loop, eval_exit, eval_ret, opers_nil, opers_cons, andThen_normal, andThen_ret, andThen_exit, initT, ↓T.ret_bind, ↓T.fail_bind, T.ofO_some, T.ofO_none, ↓cnd_true, ↓cnd_false, oper, exec, arg, Tr.get, Tr.set, Tr.root, Tr.left, Tr.right, put, okV, okS, new, Nm.succ, load, loadCells, nth, window, dropExact, takeExact, pack, store, splice, bin, lookupIn, findKey, keyOk, List.length_cons, List.length_nil, Nat.beq, Option.getD_some, Option.getD_none, Bool.and_true, Bool.true_and, Nat.reduceAdd, List.all_cons, List.all_nil, beq_self_eq_true, BEq.rfl, Nat.reduceBEq, decide_true, decide_false, Int.reduceEq, ite_true, if_true, Nat.reduceMul, Nat.zero_add, Nat.add_zero, eqK, Bool.false_eq_true, ite_false, findKeyIn_str, Option.map_some, Option.map_none, Option.isSome_some, Option.isSome_none, un, Bool.not_true, Bool.not_false, results, resultV, leave, endBlock, if_false, Nat.reduceEqDiff, ↓reduceIte, scalar_int, scalar_str, scalar_bool, scalar_nils, scalar_nilp, scalar_row, scalar_ptr, scalar_map, scalar_dsl, notTup_agg, notTup_int, notTup_str, cells_agg, cells_int, cells_str, cells_bool, cells_nils, cells_row, cells_dsl, cells_ptr, cells_map, T.Is_ret, List.map_cons, List.map_nil, execCall, callF, Int.reduceLT, cast_0, cast_1, cast_2, blt_02, blt_12, ble_1, ble_2, natOf_0, natOf_1, wrap_01, wrap_11, lenL, grow, fillElems, rep, List.cons_append, List.nil_append, Int.lt_irrefl, and_self, not_false_eq_true, not_true_eq_false, drun_nil, drun_light, drun_heavy, lightV, wanted, recheck, holds, eqbV_str, eqbV_map, eqbV_ptr, eqbV_int, lenM, mapUpdate, snoc, fillParts, List.map_cons, List.map_nil, eqbV_nils, eqbV_row', W.f4, W.f5, W.o4, W.o5, W.o8, ovNo_one, d50, d110, hb, e1, e2, Tr.get_set_same, a2, elems_str, bs_length, List.length_append, g1, nilV, beq_117, blt_01, xor_ft, xor_ff, xor_tt, xor_tf, natOf_cast, eqV, eqPtr, e3, e4]
end
section
variable {E : Env}
theorem made_nil (W : WCode E) {H : Tr O} {x b : Nm} {i j d : Nat} {X : V} (hv : load H 1 false (.ptr b i (j + 1)) = some .nilp) (q : Nat) :
    callF E (eval E (q + 20)) y25 [X, .ptr b i j] ⟨H, x, d⟩ = .ret (.nilp, ⟨H, x, d⟩) := by
  simp (maxSteps := 10000000) (implicitDefEqProofs := false) only [callB, eval_skip, eval_region, eval_draw, eval_seq, eval_cond, eval_block, eval_loop, eval_exit, eval_ret, opers_nil, opers_cons, andThen_normal, andThen_ret, andThen_exit, initT, ↓T.ret_bind, ↓T.fail_bind, T.ofO_some, T.ofO_none, ↓cnd_true, ↓cnd_false, oper, exec, arg, Tr.get, Tr.set, Tr.root, Tr.left, Tr.right, put, okV, okS, new, Nm.succ, nth, window, dropExact, takeExact, pack, store, splice, bin, findKey, keyOk, List.length_cons, List.length_nil, Nat.beq, Option.getD_some, Option.getD_none, Bool.and_true, Bool.true_and, Nat.reduceAdd, List.all_cons, List.all_nil, beq_self_eq_true, BEq.rfl, Nat.reduceBEq, decide_true, decide_false, Int.reduceEq, ite_true, if_true, Nat.reduceMul, Nat.zero_add, Nat.add_zero, eqK, Bool.false_eq_true, ite_false, findKeyIn_str, Option.map_some, Option.map_none, Option.isSome_some, Option.isSome_none, un, Bool.not_true, Bool.not_false, results, resultV, leave, endBlock, if_false, Nat.reduceEqDiff, ↓reduceIte, scalar_int, scalar_str, scalar_bool, scalar_nils, scalar_nilp, scalar_row, scalar_ptr, scalar_map, scalar_dsl, notTup_agg, notTup_int, notTup_str, cells_agg, cells_int, cells_str, cells_bool, cells_nils, cells_row, cells_dsl, cells_ptr, cells_map, T.Is_ret, List.map_cons, List.map_nil, execCall, callF, Int.reduceLT, cast_0, cast_1, cast_2, blt_02, blt_12, ble_1, ble_2, natOf_0, natOf_1, wrap_01, wrap_11, lenL, grow, fillElems, rep, List.cons_append, List.nil_append, Int.lt_irrefl, and_self, not_false_eq_true, not_true_eq_false, drun_nil, drun_light, drun_heavy, lightV, wanted, recheck, holds, eqbV_str, eqbV_map, eqbV_ptr, eqbV_int, lenM, mapUpdate, snoc, fillParts, List.map_cons, List.map_nil, eqbV_nils, eqbV_row', W.f2, W.o2, d24, hv, nilV, xor_ft, xor_ff, xor_tt, xor_tf, beq_tf, beq_ft, beq_tt, beq_ff]
theorem made_op (W : WCode E) {B : Nat} {H0 H : Tr O} {x b o xb mN : Nm} {i j oi oj xi xj d ck : Nat} {nmL cl : List Nat} {es : List (V × V × Nat)} {ar : Int} {ix bo : Nat} (hv : rd B H0 (.ptr b i (j + 1)) = some (.ptr o oi oj)) (hn : rd B H0 (.ptr o oi oj) = some (.str nmL))
    (hX : rd B H0 (.ptr xb xi (xj + 1)) = some (.map mN)) (hm : ob B H0 mN = some (.map es ck)) (hs : strKey nmL es 0 = some (some (ix, .agg [.int .i64 ar, .str cl], bo)))
    (hk : Same B H0 H) (hB : B ≤ x.val) :
    ∃ H', (∀ q, callF E (eval E (q + 20)) y25 [.ptr xb xi xj, .ptr b i j] ⟨H, x, d⟩ = .ret (.ptr o oi oj, ⟨H', x.succ, d⟩)) ∧ ∀ p, p ≠ x → H'.get p = H.get p := by
  have k1 : ∀ r, Same B H0 (H.set (some r) x) := fun r => hk.set hB _
  have k2 : ∀ r r', Same B H0 ((H.set (some r) x).set (some r') x) := fun r r' => (k1 r).set hB _
  have hv0 := rd_ok hv hk
  have hv' := fun r => rd_ok hv (k1 r)
  have hn' := fun r => rd_ok hn (k1 r)
  have hX' := fun r => rd_ok hX (k1 r)
  have hv2 := fun r r' => rd_ok hv (k2 r r')
  have hm' : ∀ r, (H.set (some r) x).get mN = some (.map es ck) := fun r => ob_ok hm (k1 r)
  refine ⟨(H.set (some (.row [[.int .i64 0, .str []]] 2 159)) x).set (some (.row [[.int .i64 ar, .str cl]] 2 159)) x, fun q => ?_, fun p hp => by rw [Tr.get_set_other _ _ (Ne.symm hp), Tr.get_set_other _ _ (Ne.symm hp)]⟩
  simp (maxSteps := 10000000) (implicitDefEqProofs := false) only [callB, eval_skip, eval_region, eval_draw, eval_seq, eval_cond, eval_block, eval_loop, eval_exit, eval_ret, opers_nil, opers_cons, andThen_normal, andThen_ret, andThen_exit, initT, ↓T.ret_bind, ↓T.fail_bind, T.ofO_some, T.ofO_none, ↓cnd_true, ↓cnd_false, oper, exec, arg, Tr.get, Tr.set, Tr.root, Tr.left, Tr.right, put, okV, okS, new, Nm.succ, nth, window, dropExact, takeExact, pack, store, splice, bin, findKey, keyOk, List.length_cons, List.length_nil, Nat.beq, Option.getD_some, Option.getD_none, Bool.and_true, Bool.true_and, Nat.reduceAdd, List.all_cons, List.all_nil, beq_self_eq_true, BEq.rfl, Nat.reduceBEq, decide_true, decide_false, Int.reduceEq, ite_true, if_true, Nat.reduceMul, Nat.zero_add, Nat.add_zero, eqK, Bool.false_eq_true, ite_false, findKeyIn_str, Option.map_some, Option.map_none, Option.isSome_some, Option.isSome_none, un, Bool.not_true, Bool.not_false, results, resultV, leave, endBlock, if_false, Nat.reduceEqDiff, ↓reduceIte, scalar_int, scalar_str, scalar_bool, scalar_nils, scalar_nilp, scalar_row, scalar_ptr, scalar_map, scalar_dsl, notTup_agg, notTup_int, notTup_str, cells_agg, cells_int, cells_str, cells_bool, cells_nils, cells_row, cells_dsl, cells_ptr, cells_map, T.Is_ret, List.map_cons, List.map_nil, execCall, callF, Int.reduceLT, cast_0, cast_1, cast_2, blt_02, blt_12, ble_1, ble_2, natOf_0, natOf_1, wrap_01, wrap_11, lenL, grow, fillElems, rep, List.cons_append, List.nil_append, Int.lt_irrefl, and_self, not_false_eq_true, not_true_eq_false, drun_nil, drun_light, drun_heavy, lightV, wanted, recheck, holds, eqbV_str, eqbV_map, eqbV_ptr, eqbV_int, lenM, mapUpdate, snoc, fillParts, List.map_cons, List.map_nil, eqbV_nils, eqbV_row', drun_fresh, eqbV_bool, lookupIn, W.f2, W.o2, d24, hv0, hv', hv2, hn', hX', hm', hs, Tr.get_set_same, nilV, xor_ft, xor_ff, xor_tt, xor_tf, beq_tf, beq_ft, beq_tt, beq_ff]
theorem leaf_run (W : WCode E) {H : Tr O} {x b wb lN : Nm} {i j wi wj d ck bo : Nat} (hv : load H 1 false (.ptr b i (j + 1)) = some .nilp) (hw : load H 1 false (.ptr wb wi (wj + 1)) = some (.map lN))
    (hl : lookupIn H E.ks .ptr (.map lN) (.ptr b i j) = some (some (.int .i64 0))) (q : Nat) :
    callF E (eval E (q + 60)) y50 [.ptr wb wi wj, .ptr b i j] ⟨H, x, d⟩ = .ret (.str [63, 48], ⟨H, x, d⟩) := by
  obtain ⟨io, ito1, ito2⟩ := W.ito
  simp (maxSteps := 10000000) (implicitDefEqProofs := false) only [callB, eval_skip, eval_region, eval_draw, eval_seq, eval_cond, eval_block, eval_loop, eval_exit, eval_ret, opers_nil, opers_cons, andThen_normal, andThen_ret, andThen_exit, initT, ↓T.ret_bind, ↓T.fail_bind, T.ofO_some, T.ofO_none, ↓cnd_true, ↓cnd_false, oper, exec, arg, Tr.get, Tr.set, Tr.root, Tr.left, Tr.right, put, okV, okS, new, Nm.succ, nth, window, dropExact, takeExact, pack, store, splice, bin, findKey, keyOk, List.length_cons, List.length_nil, Nat.beq, Option.getD_some, Option.getD_none, Bool.and_true, Bool.true_and, Nat.reduceAdd, List.all_cons, List.all_nil, beq_self_eq_true, BEq.rfl, Nat.reduceBEq, decide_true, decide_false, Int.reduceEq, ite_true, if_true, Nat.reduceMul, Nat.zero_add, Nat.add_zero, eqK, Bool.false_eq_true, ite_false, findKeyIn_str, Option.map_some, Option.map_none, Option.isSome_some, Option.isSome_none, un, Bool.not_true, Bool.not_false, results, resultV, leave, endBlock, if_false, Nat.reduceEqDiff, ↓reduceIte, scalar_int, scalar_str, scalar_bool, scalar_nils, scalar_nilp, scalar_row, scalar_ptr, scalar_map, scalar_dsl, notTup_agg, notTup_int, notTup_str, cells_agg, cells_int, cells_str, cells_bool, cells_nils, cells_row, cells_dsl, cells_ptr, cells_map, T.Is_ret, List.map_cons, List.map_nil, execCall, callF, Int.reduceLT, cast_0, cast_1, cast_2, blt_02, blt_12, ble_1, ble_2, natOf_0, natOf_1, wrap_01, wrap_11, lenL, grow, fillElems, rep, List.cons_append, List.nil_append, Int.lt_irrefl, and_self, not_false_eq_true, not_true_eq_false, drun_nil, drun_light, drun_heavy, lightV, wanted, recheck, holds, eqbV_str, eqbV_map, eqbV_ptr, eqbV_int, lenM, mapUpdate, snoc, fillParts, List.map_cons, List.map_nil, eqbV_nils, eqbV_row', W.f3, W.o3, W.f6, W.o6, opers_guard, d49, d23, hv, hw, hl, ito1, ito2, nilV, xor_ft, xor_ff, xor_tt, xor_tf, beq_tf, beq_ft, beq_tt, beq_ff]
theorem node_run (W : WCode E) {H0 H1 H2 H3 H4 H5 H6 H7 : Tr O} {x0 x1 x2 x3 x4 x5 x6 x7 b o xb wb nb bb : Nm} {i j oi oj xi xj wi wj off d q : Nat} {clip : Bool} {nmL : List Nat} {va vb r1 r2 r3 r4 u1 u2 : V}
    (lw : load H0 1 false (.ptr wb wi wj) = some (.ptr xb xi xj)) (mk : ∀ a, callF E (eval E (q + a)) y25 [.ptr xb xi xj, .ptr b i j] ⟨H0, x0, d⟩ = .ret (.ptr o oi oj, ⟨H1, x1, d⟩))
    (ln : load H1 1 false (.ptr o oi oj) = some (.str nmL)) (s1 : ∀ a, callF E (eval E (q + a)) y51 [.ptr bb 0 0, .str (40 :: nmL)] ⟨H1, x1, d⟩ = .ret (r1, ⟨H2, x2, d⟩))
    (lo : load H2 1 false (.ptr o oi (oj + 1)) = some (.row nb 1 off 2 clip)) (la : load H2 1 false (.ptr nb off 0) = some va)
    (s2 : ∀ a, callF E (eval E (q + a)) y51 [.ptr bb 0 0, .str [32]] ⟨H2, x2, d⟩ = .ret (r2, ⟨H3, x3, d⟩)) (wa : ∀ a, callF E (eval E (q + a)) y27 [.ptr wb wi wj, .ptr bb 0 0, va] ⟨H3, x3, d⟩ = .ret (u1, ⟨H4, x4, d⟩))
    (lb : load H4 1 false (.ptr nb (off + 1) 0) = some vb) (s3 : ∀ a, callF E (eval E (q + a)) y51 [.ptr bb 0 0, .str [32]] ⟨H4, x4, d⟩ = .ret (r3, ⟨H5, x5, d⟩))
    (wb' : ∀ a, callF E (eval E (q + a)) y27 [.ptr wb wi wj, .ptr bb 0 0, vb] ⟨H5, x5, d⟩ = .ret (u2, ⟨H6, x6, d⟩)) (s4 : ∀ a, callF E (eval E (q + a)) y51 [.ptr bb 0 0, .str [41]] ⟨H6, x6, d⟩ = .ret (r4, ⟨H7, x7, d⟩))
    (hn : 1 + nmL.length ≤ 1000000000) : callB E (eval E (q + 40)) y27 [.ptr wb wi wj, .ptr bb 0 0, .ptr b i j] ⟨H0, x0, d⟩ = .ret (.tup [], ⟨H7, x7, d⟩) := by
  have g1 : Nat.ble (1 + nmL.length) 1000000000 = true := by rw [Nat.ble_eq]; omega
  simp (maxSteps := 10000000) (implicitDefEqProofs := false) only [callB, eval_skip, eval_region, eval_draw, eval_seq, eval_cond, eval_block, eval_loop, eval_exit, eval_ret, opers_nil, opers_cons, andThen_normal, andThen_ret, andThen_exit, initT, ↓T.ret_bind, ↓T.fail_bind, T.ofO_some, T.ofO_none, ↓cnd_true, ↓cnd_false, oper, exec, arg, Tr.get, Tr.set, Tr.root, Tr.left, Tr.right, put, okV, okS, new, Nm.succ, nth, window, dropExact, takeExact, pack, store, splice, bin, findKey, keyOk, List.length_cons, List.length_nil, Nat.beq, Option.getD_some, Option.getD_none, Bool.and_true, Bool.true_and, Nat.reduceAdd, List.all_cons, List.all_nil, beq_self_eq_true, BEq.rfl, Nat.reduceBEq, decide_true, decide_false, Int.reduceEq, ite_true, if_true, Nat.reduceMul, Nat.zero_add, Nat.add_zero, eqK, Bool.false_eq_true, ite_false, findKeyIn_str, Option.map_some, Option.map_none, Option.isSome_some, Option.isSome_none, un, Bool.not_true, Bool.not_false, results, resultV, leave, endBlock, if_false, Nat.reduceEqDiff, ↓reduceIte, scalar_int, scalar_str, scalar_bool, scalar_nils, scalar_nilp, scalar_row, scalar_ptr, scalar_map, scalar_dsl, notTup_agg, notTup_int, notTup_str, cells_agg, cells_int, cells_str, cells_bool, cells_nils, cells_row, cells_dsl, cells_ptr, cells_map, T.Is_ret, List.map_cons, List.map_nil, execCall, Int.reduceLT, cast_0, cast_1, cast_2, blt_02, blt_12, ble_1, ble_2, natOf_0, natOf_1, wrap_01, wrap_11, lenL, grow, fillElems, rep, List.cons_append, List.nil_append, Int.lt_irrefl, and_self, not_false_eq_true, not_true_eq_false, drun_nil, drun_light, drun_heavy, lightV, wanted, recheck, holds, eqbV_str, eqbV_map, eqbV_ptr, eqbV_int, lenM, mapUpdate, snoc, fillParts, List.map_cons, List.map_nil, eqbV_nils, eqbV_row', W.f1, d26, lw, mk, ln, s1, lo, la, s2, wa, lb, s3, wb', s4, g1, nilV, xor_ft, xor_ff, xor_tt, xor_tf]
end
def opOk (B : Nat) (H : Tr O) (X : V) (n : List Nat) : Bool := match X with
  | .ptr xb xi xj => match rd B H (.ptr xb xi (xj + 1)) with
    | some (.map mN) => match ob B H mN with
      | some (.map es _) => match strKey n es 0 with
        | some (some (_, .agg [.int .i64 _, .str _], _)) => true
        | _ => false
      | _ => false
    | _ => false
  | _ => false
def leafOk (B : Nat) (H : Tr O) (w : V) (v : V) : Bool := match w with
  | .ptr wb wi wj => match rd B H (.ptr wb wi (wj + 1)) with
    | some (.map lN) => match ob B H lN with
      | some (.map [(.ptr b i j, .int .i64 0, _)] _) => match v with
        | .ptr b' i' j' => b.eqb b' && (Nat.beq i i' && (Nat.beq j j' && (match ob B H b' with | some (.row ..) => true | _ => false)))
        | _ => false
      | _ => false
    | _ => false
  | _ => false
def wF (B : Nat) (H : Tr O) (w X : V) : Nat → V → Option (List Nat)
  | 0, _ => none
  | k + 1, v => match v with
    | .ptr b i j => match rd B H (.ptr b i (j + 1)) with
      | some .nilp => match leafOk B H w v with
        | true => some [63, 48]
        | false => none
      | some (.ptr o oi oj) => match rd B H (.ptr o oi oj) with
        | some (.str n) => match opOk B H X n && okB n with
          | true => match rd B H (.ptr o oi (oj + 1)) with
            | some (.row nb 1 off 2 _) => match rd B H (.ptr nb off 0) with
              | some va => match rd B H (.ptr nb (off + 1) 0) with
                | some vb => match wF B H w X k va with
                  | some ta => match wF B H w X k vb with
                    | some tb => some (40 :: n ++ 32 :: ta ++ 32 :: tb ++ [41])
                    | none => none
                  | none => none
                | none => none
              | none => none
            | _ => none
          | false => none
        | _ => none
      | _ => none
    | _ => none
inductive WT where
  | leaf
  | node (n : List Nat) (a b : WT)
noncomputable def WT.flat (t : WT) : List Nat → List Nat := @WT.rec (fun _ => List Nat → List Nat) (fun acc => 63 :: 48 :: acc) (fun n _ _ fa fb acc => 40 :: appD n (32 :: fa (32 :: fb (41 :: acc)))) t
noncomputable def WT.len (t : WT) : Nat := @WT.rec (fun _ => Nat) 2 (fun n _ _ la lb => n.length + la + lb + 4) t
theorem appD_eq' : ∀ a b : List Nat, appD a b = a ++ b
  | [], _ => rfl
  | x :: a, b => congrArg (x :: ·) (appD_eq' a b)
theorem WT.flat_node (n : List Nat) (a b : WT) (acc : List Nat) : (WT.node n a b).flat acc = 40 :: (n ++ 32 :: a.flat (32 :: b.flat (41 :: acc))) := by
  show 40 :: appD n (32 :: a.flat (32 :: b.flat (41 :: acc))) = _
  rw [appD_eq']
theorem WT.flat_acc : ∀ (t : WT) (acc : List Nat), t.flat acc = t.flat [] ++ acc
  | .leaf, acc => rfl
  | .node n a b, acc => by
    rw [WT.flat_node, WT.flat_node, WT.flat_acc a, WT.flat_acc b, WT.flat_acc a (32 :: b.flat [41]), WT.flat_acc b [41]]
    simp
theorem WT.flat_len : ∀ t : WT, (t.flat []).length = t.len
  | .leaf => rfl
  | .node n a b => by
    have e : (WT.node n a b).len = n.length + a.len + b.len + 4 := rfl
    rw [WT.flat_node, e, ← WT.flat_len a, ← WT.flat_len b, WT.flat_acc a, WT.flat_acc b [41]]
    simp only [List.length_cons, List.length_append, List.length_nil]; omega
def wT (B : Nat) (H : Tr O) (w X : V) : Nat → V → Option WT
  | 0, _ => none
  | k + 1, v => match v with
    | .ptr b i j => match rd B H (.ptr b i (j + 1)) with
      | some .nilp => match leafOk B H w v with
        | true => some .leaf
        | false => none
      | some (.ptr o oi oj) => match rd B H (.ptr o oi oj) with
        | some (.str n) => match opOk B H X n && okB n with
          | true => match rd B H (.ptr o oi (oj + 1)) with
            | some (.row nb 1 off 2 _) => match rd B H (.ptr nb off 0) with
              | some va => match rd B H (.ptr nb (off + 1) 0) with
                | some vb => match wT B H w X k va with
                  | some ta => match wT B H w X k vb with
                    | some tb => some (.node n ta tb)
                    | none => none
                  | none => none
                | none => none
              | none => none
            | _ => none
          | false => none
        | _ => none
      | _ => none
    | _ => none
theorem wT_ok {B : Nat} {H : Tr O} {w X : V} : ∀ {k : Nat} {v : V} {t : WT}, wT B H w X k v = some t → wF B H w X k v = some (t.flat [])
  | 0, v, t, h => by cases h
  | k + 1, v, t, h => by
    unfold wT at h
    unfold wF
    split at h
    · split at h
      · rename_i hv
        split at h
        · rename_i hl
          cases h
          rfl
        · cases h
      · rename_i o oi oj hv
        split at h
        · rename_i n hn
          split at h
          · rename_i hok
            split at h
            · rename_i nb off clip ho
              split at h
              · rename_i va ha
                split at h
                · rename_i vb hb
                  split at h
                  · rename_i ta hta
                    split at h
                    · rename_i tb htb
                      cases h
                      simp only [hv, hn, hok, ho, ha, hb, wT_ok hta, wT_ok htb]
                      rw [WT.flat_node, WT.flat_acc tb [41], WT.flat_acc ta (32 :: (tb.flat [] ++ [41]))]
                      simp
                    · cases h
                  · cases h
                · cases h
              · cases h
            · cases h
          · cases h
        · cases h
      · cases h
    · cases h
def Bld (s : St) (b : Nm) (l : List Nat) : Prop := b.val < s.next.val ∧ ((l = [] ∧ s.heap.get b = some (.row [[.nilp, .nils]] 2 117)) ∨ ∃ n : Nm, b.val < n.val ∧ n.val < s.next.val ∧ s.heap.get b = some (.row [[.ptr b 0 0, .row n 1 0 l.length false]] 2 117) ∧ s.heap.get n = some (.row (bs l) 1 5))
theorem Nm.ne_of_lt {a b : Nm} (h : a.val < b.val) : a ≠ b := fun e => by rw [e] at h; exact Nat.lt_irrefl _ h
section
variable {E : Env}
theorem ws_ok (W : WCode E) {s : St} {b : Nm} {l : List Nat} {c : Nat} {t : List Nat} (hB : Bld s b l) (hn : l.length + (t.length + 1) ≤ 1000000000) :
    ∃ H' r, (∀ q, callF E (eval E (q + 20)) y51 [.ptr b 0 0, .str (c :: t)] s = .ret (r, ⟨H', s.next.succ, s.drawn⟩)) ∧ (∀ p : Nm, p.val < b.val → H'.get p = s.heap.get p) ∧ Bld ⟨H', s.next.succ, s.drawn⟩ b (l ++ c :: t) := by
  obtain ⟨H, x, d⟩ := s
  obtain ⟨h0, h1⟩ := hB
  have hs : x.succ.val = x.val + 1 := Nm.val_succ x
  have hxb : x ≠ b := (Nm.ne_of_lt h0).symm
  rcases h1 with ⟨rfl, hb⟩ | ⟨n, h2, h3, hb, hl⟩
  · refine ⟨_, _, fun q => ws_run0 W hb hxb (by simpa using hn) q, fun p hp => ?_, ?_, .inr ⟨x, h0, ?_, ?_, ?_⟩⟩
    · have n1 : b ≠ p := (Nm.ne_of_lt hp).symm
      have n2 : x ≠ p := (Nm.ne_of_lt (Nat.lt_trans hp h0)).symm
      rw [Tr.get_set_other _ _ n1, Tr.get_set_other _ _ n2, Tr.get_set_other _ _ n1]
    · show b.val < x.succ.val; simp only at h0; omega
    · show x.val < x.succ.val; omega
    · show Tr.get b _ = _
      rw [Tr.get_set_same]; simp
    · show Tr.get x _ = _
      rw [Tr.get_set_other _ _ hxb.symm, Tr.get_set_same]; simp
  · have hnb : n ≠ b := (Nm.ne_of_lt h2).symm
    have hxn : x ≠ n := (Nm.ne_of_lt h3).symm
    refine ⟨_, _, fun q => ws_run1 W hb hl hxb hnb hn q, fun p hp => ?_, ?_, .inr ⟨x, h0, ?_, ?_, ?_⟩⟩
    · have n1 : b ≠ p := (Nm.ne_of_lt hp).symm
      have n2 : x ≠ p := (Nm.ne_of_lt (Nat.lt_trans hp h0)).symm
      have n3 : n ≠ p := (Nm.ne_of_lt (Nat.lt_trans hp h2)).symm
      rw [Tr.get_set_other _ _ n1, Tr.get_set_other _ _ n2, Tr.get_set_other _ _ n3]
    · show b.val < x.succ.val; simp only at h0; omega
    · show x.val < x.succ.val; omega
    · show Tr.get b _ = _
      rw [Tr.get_set_same]; simp
    · show Tr.get x _ = _
      rw [Tr.get_set_other _ _ hxb.symm, Tr.get_set_same]
def Wr (E : Env) (H0 : Tr O) (w : V) (bb : Nm) (Q : Nat) (v : V) (t : List Nat) : Prop := ∀ (s : St) (l : List Nat), (∀ p : Nm, p.val < bb.val → s.heap.get p = H0.get p) → Bld s bb l → l.length + t.length ≤ 1000000000 →
  ∃ H' x', (∀ q, callF E (eval E (Q + q)) y27 [w, .ptr bb 0 0, v] s = .ret (.tup [], ⟨H', x', s.drawn⟩)) ∧ (∀ p : Nm, p.val < bb.val → H'.get p = H0.get p) ∧ Bld ⟨H', x', s.drawn⟩ bb (l ++ t) ∧ s.next.val ≤ x'.val ∧ x'.val ≤ s.next.val + 2 * t.length
theorem leafOk_spec {B : Nat} {H : Tr O} {wb b : Nm} {wi wj i j : Nat} (h : leafOk B H (.ptr wb wi wj) (.ptr b i j) = true) : ∃ lN bo ck es sz ty, rd B H (.ptr wb wi (wj + 1)) = some (.map lN) ∧ ob B H lN = some (.map [(.ptr b i j, .int .i64 0, bo)] ck) ∧ ob B H b = some (.row es sz ty) := by
  unfold leafOk at h
  simp only at h
  split at h
  · rename_i lN hwl
    split at h
    · rename_i b2 i2 j2 bo ck hm
      simp only [Bool.and_eq_true, Nat.beq_eq] at h
      obtain ⟨c1, rfl, rfl, c4⟩ := h
      obtain rfl := Nm.eqb_iff.1 c1
      split at c4
      · rename_i es sz ty hrow
        exact ⟨lN, bo, ck, es, sz, ty, hwl, hm, hrow⟩
      · cases c4
    · cases h
  · cases h
theorem opOk_spec {B : Nat} {H : Tr O} {xb : Nm} {xi xj : Nat} {n : List Nat} (h : opOk B H (.ptr xb xi xj) n = true) : ∃ mN es ck ix ar cl bo, rd B H (.ptr xb xi (xj + 1)) = some (.map mN) ∧ ob B H mN = some (.map es ck) ∧ strKey n es 0 = some (some (ix, .agg [.int .i64 ar, .str cl], bo)) := by
  unfold opOk at h
  simp only at h
  split at h
  · rename_i mN hX
    split at h
    · rename_i es ck hm
      split at h
      · rename_i ix ar cl bo hs
        exact ⟨mN, es, ck, ix, ar, cl, bo, hX, hm, hs⟩
      · cases h
    · cases h
  · cases h
theorem callF_le {f : Nm} {args : List V} {s : St} {r : T (V × St)} {m Q : Nat} (h : ∀ q, callF E (eval E (q + m)) f args s = r) (hm : m ≤ Q) (c : Nat) : callF E (eval E (Q + c)) f args s = r := by
  have e : Q + c = (Q + c - m) + m := by omega
  rw [e]; exact h _
theorem callF_sh {f : Nm} {args : List V} {s : St} {r : T (V × St)} {Q : Nat} (h : ∀ c, callF E (eval E (Q + c)) f args s = r) (q c : Nat) : callF E (eval E (Q + q + c)) f args s = r := by
  rw [Nat.add_assoc]; exact h _
theorem leaf_write (W : WCode E) {H0 H1 : Tr O} {x0 x1 b xb wb bb : Nm} {i j xi xj wi wj d q : Nat} {t : List Nat} {r1 : V}
    (lw : load H0 1 false (.ptr wb wi wj) = some (.ptr xb xi xj)) (mk : ∀ a, callF E (eval E (q + a)) y25 [.ptr xb xi xj, .ptr b i j] ⟨H0, x0, d⟩ = .ret (.nilp, ⟨H0, x0, d⟩))
    (lf : ∀ a, callF E (eval E (q + a)) y50 [.ptr wb wi wj, .ptr b i j] ⟨H0, x0, d⟩ = .ret (.str t, ⟨H0, x0, d⟩)) (s1 : ∀ a, callF E (eval E (q + a)) y51 [.ptr bb 0 0, .str t] ⟨H0, x0, d⟩ = .ret (r1, ⟨H1, x1, d⟩)) :
    callB E (eval E (q + 40)) y27 [.ptr wb wi wj, .ptr bb 0 0, .ptr b i j] ⟨H0, x0, d⟩ = .ret (.tup [], ⟨H1, x1, d⟩) := by
  simp (maxSteps := 10000000) (implicitDefEqProofs := false) only [callB, eval_skip, eval_region, eval_draw, eval_seq, eval_cond, eval_block, eval_loop, eval_exit, eval_ret, opers_nil, opers_cons, andThen_normal, andThen_ret, andThen_exit, initT, ↓T.ret_bind, ↓T.fail_bind, T.ofO_some, T.ofO_none, ↓cnd_true, ↓cnd_false, oper, exec, arg, Tr.get, Tr.set, Tr.root, Tr.left, Tr.right, put, okV, okS, new, Nm.succ, nth, window, dropExact, takeExact, pack, store, splice, bin, findKey, keyOk, List.length_cons, List.length_nil, Nat.beq, Option.getD_some, Option.getD_none, Bool.and_true, Bool.true_and, Nat.reduceAdd, List.all_cons, List.all_nil, beq_self_eq_true, BEq.rfl, Nat.reduceBEq, decide_true, decide_false, Int.reduceEq, ite_true, if_true, Nat.reduceMul, Nat.zero_add, Nat.add_zero, eqK, Bool.false_eq_true, ite_false, findKeyIn_str, Option.map_some, Option.map_none, Option.isSome_some, Option.isSome_none, un, Bool.not_true, Bool.not_false, results, resultV, leave, endBlock, if_false, Nat.reduceEqDiff, ↓reduceIte, scalar_int, scalar_str, scalar_bool, scalar_nils, scalar_nilp, scalar_row, scalar_ptr, scalar_map, scalar_dsl, notTup_agg, notTup_int, notTup_str, cells_agg, cells_int, cells_str, cells_bool, cells_nils, cells_row, cells_dsl, cells_ptr, cells_map, T.Is_ret, List.map_cons, List.map_nil, execCall, Int.reduceLT, cast_0, cast_1, cast_2, blt_02, blt_12, ble_1, ble_2, natOf_0, natOf_1, wrap_01, wrap_11, lenL, grow, fillElems, rep, List.cons_append, List.nil_append, Int.lt_irrefl, and_self, not_false_eq_true, not_true_eq_false, drun_nil, drun_light, drun_heavy, lightV, wanted, recheck, holds, eqbV_str, eqbV_map, eqbV_ptr, eqbV_int, lenM, mapUpdate, snoc, fillParts, List.map_cons, List.map_nil, eqbV_nils, eqbV_row', W.f1, d26, lw, mk, lf, s1, nilV, xor_ft, xor_ff, xor_tt, xor_tf]
theorem callF_wri (W : WCode E) (ev : Eval) (args : List V) (s : St) : callF E ev y27 args s = callB E ev y27 args s := by
  simp only [callF, W.o1]
theorem wF_ok (W : WCode E) {H0 : Tr O} {wb xb : Nm} {wi wj xi xj : Nat} {bb : Nm} (lw : rd bb.val H0 (.ptr wb wi wj) = some (.ptr xb xi xj)) :
    ∀ (k : Nat) (v : V) (t : List Nat), wF bb.val H0 (.ptr wb wi wj) (.ptr xb xi xj) k v = some t → okB t = true ∧ 2 ≤ t.length ∧ Wr E H0 (.ptr wb wi wj) bb (40 * k + 100) v t
  | 0, v, t, h => by cases h
  | k + 1, v, t, h => by
    unfold wF at h
    split at h
    · rename_i b i j
      split at h
      · rename_i hv
        split at h
        · rename_i hlf
          cases h
          refine ⟨rfl, by simp, fun s l hA hB hn => ?_⟩
          obtain ⟨H, x, d⟩ := s
          simp only at hA
          have hk : Same bb.val H0 H := hA
          obtain ⟨lN, bo, ck, es, sz, ty, hwl, hm, hrow⟩ := leafOk_spec hlf
          have hrow' := ob_ok hrow hk
          have hm' := ob_ok hm hk
          have c1 : Nm.eqb b b = true := Nm.eqb_iff.2 rfl
          have hlk : lookupIn H E.ks .ptr (.map lN) (.ptr b i j) = some (some (.int .i64 0)) := by
            simp only [lookupIn, hm', findKey, keyOk, findKeyIn, eqV, eqPtr, c1, hrow', Nat.beq_refl, Option.map_some]
          obtain ⟨H', r, e4, e5, e6⟩ := ws_ok W (c := 63) (t := [48]) hB (by simpa using hn)
          refine ⟨H', x.succ, fun q => ?_, fun p hp => (e5 p hp).trans (hA p hp), e6, ?_, ?_⟩
          · have q1 : 40 * (k + 1) + 100 + q = (40 * k + q + 100) + 40 := by omega
            rw [callF_wri W, q1]
            exact leaf_write W (rd_ok lw hk) (callF_le (made_nil W (rd_ok hv hk)) (by omega)) (callF_le (leaf_run W (bo := bo) (ck := ck) (rd_ok hv hk) (rd_ok hwl hk) hlk) (by omega)) (callF_le e4 (by omega))
          · show x.val ≤ x.succ.val; rw [Nm.val_succ]; omega
          · show x.succ.val ≤ x.val + 2 * 2; rw [Nm.val_succ]; omega
        · cases h
      · rename_i o oi oj hv
        split at h
        · rename_i n hn
          split at h
          · rename_i hok
            simp only [Bool.and_eq_true] at hok
            split at h
            · rename_i nb off clip ho
              split at h
              · rename_i va ha
                split at h
                · rename_i vb hb
                  split at h
                  · rename_i ta hta
                    split at h
                    · rename_i tb htb
                      cases h
                      obtain ⟨a1, a2, a3⟩ := wF_ok W lw k va ta hta
                      obtain ⟨b1, b2, b3⟩ := wF_ok W lw k vb tb htb
                      refine ⟨?_, ?_, fun s l hA hB hlen => ?_⟩
                      · simp only [okB, List.all_cons, List.all_append, List.all_nil, Bool.and_true, Bool.and_eq_true] at a1 b1 hok ⊢
                        exact ⟨⟨⟨⟨rfl, hok.2⟩, rfl, a1⟩, rfl, b1⟩, rfl⟩
                      · simp only [List.length_cons, List.length_append, List.length_nil]; omega
                      · simp only [List.length_cons, List.length_append, List.length_nil] at hlen
                        obtain ⟨H, x, d⟩ := s
                        simp only at hA
                        have hBx : bb.val < x.val := hB.1
                        have hk : Same bb.val H0 H := hA
                        obtain ⟨mN, es, ck, ix, ar, cl, bo, hX, hm, hs⟩ := opOk_spec hok.1
                        obtain ⟨H1, m1, m2⟩ := made_op W (d := d) hv hn hX hm hs hk (Nat.le_of_lt hBx)
                        have A1 : ∀ p : Nm, p.val < bb.val → H1.get p = H0.get p := fun p hp => (m2 p (Nm.ne_of_lt (Nat.lt_trans hp hBx))).trans (hA p hp)
                        have x1 : x.succ.val = x.val + 1 := Nm.val_succ x
                        have B1 : Bld ⟨H1, x.succ, d⟩ bb l := by
                          refine ⟨by show bb.val < x.succ.val; omega, ?_⟩
                          rcases hB.2 with ⟨e, f⟩ | ⟨z, f1, f2, f3, f4⟩
                          · exact .inl ⟨e, (m2 bb (Nm.ne_of_lt hBx)).trans f⟩
                          · exact .inr ⟨z, f1, by show z.val < x.succ.val; simp only at f2; omega, (m2 bb (Nm.ne_of_lt hBx)).trans f3, (m2 z (Nm.ne_of_lt f2)).trans f4⟩
                        obtain ⟨H2, r2, s1, g2, B2⟩ := ws_ok W (c := 40) (t := n) B1 (by omega)
                        have A2 : ∀ p : Nm, p.val < bb.val → H2.get p = H0.get p := fun p hp => (g2 p hp).trans (A1 p hp)
                        obtain ⟨H3, r3, s2, g3, B3⟩ := ws_ok W (c := 32) (t := []) B2 (by simp only [List.length_cons, List.length_append, List.length_nil]; omega)
                        have A3 : ∀ p : Nm, p.val < bb.val → H3.get p = H0.get p := fun p hp => (g3 p hp).trans (A2 p hp)
                        obtain ⟨H4, x4, w4, A4, B4, l4, u4⟩ := a3 _ _ A3 B3 (by simp only [List.length_cons, List.length_append, List.length_nil]; omega)
                        obtain ⟨H5, r5, s3, g5, B5⟩ := ws_ok W (c := 32) (t := []) B4 (by simp only [List.length_cons, List.length_append, List.length_nil]; omega)
                        have A5 : ∀ p : Nm, p.val < bb.val → H5.get p = H0.get p := fun p hp => (g5 p hp).trans (A4 p hp)
                        obtain ⟨H6, x6, w6, A6, B6, l6, u6⟩ := b3 _ _ A5 B5 (by simp only [List.length_cons, List.length_append, List.length_nil]; omega)
                        obtain ⟨H7, r7, s4, g7, B7⟩ := ws_ok W (c := 41) (t := []) B6 (by simp only [List.length_cons, List.length_append, List.length_nil]; omega)
                        have A7 : ∀ p : Nm, p.val < bb.val → H7.get p = H0.get p := fun p hp => (g7 p hp).trans (A6 p hp)
                        simp only [Nm.val_succ] at l4 u4 l6 u6
                        refine ⟨H7, x6.succ, fun q => ?_, A7, ?_, ?_, ?_⟩
                        · have q1 : 40 * (k + 1) + 100 + q = (40 * k + 100 + q) + 40 := by omega
                          rw [callF_wri W, q1]
                          exact node_run W (rd_ok lw hk) (callF_le m1 (by omega)) (rd_ok hn A1) (callF_le s1 (by omega)) (rd_ok ho A2) (rd_ok ha A2) (callF_le s2 (by omega)) (callF_sh w4 q) (rd_ok hb A4) (callF_le s3 (by omega)) (callF_sh w6 q) (callF_le s4 (by omega)) (by omega)
                        · have e : l ++ (40 :: n ++ 32 :: ta ++ 32 :: tb ++ [41]) = l ++ 40 :: n ++ [32] ++ ta ++ [32] ++ tb ++ [41] := by simp
                          rw [e]; exact B7
                        · show x.val ≤ x6.succ.val; rw [Nm.val_succ]; omega
                        · show x6.succ.val ≤ x.val + _; rw [Nm.val_succ]; simp only [List.length_cons, List.length_append, List.length_nil]; omega
                    · cases h
                  · cases h
                · cases h
              · cases h
            · cases h
          · cases h
        · cases h
      · cases h
    · cases h
end
def bnd (B : Nat) : Tr O → Nat → Nat → Bool
  | .leaf, _, _ => true
  | .node l v r, a, p => (match v with | none => true | some _ => Nat.blt (a + p) B) && (bnd B l a (2 * p) && bnd B r (a + p) (2 * p))
theorem bnd_spec {B : Nat} : ∀ {t : Tr O} {a p : Nat}, bnd B t a p = true → ∀ q : Nm, t.get q ≠ none → a + p * q.val < B
  | .leaf, a, p, _, q, hq => absurd (Tr.get_leaf q) hq
  | .node l v r, a, p, h, q, hq => by
    simp only [bnd, Bool.and_eq_true] at h
    obtain ⟨h1, h2, h3⟩ := h
    cases q with
    | h =>
      have hv : v ≠ none := hq
      cases v with
      | none => exact absurd rfl hv
      | some o =>
        simp only [Nm.val, Nat.mul_one]
        simpa [Nat.blt_eq] using h1
    | o q =>
      have := bnd_spec h2 q hq
      simp only [Nm.val]
      rw [show p * (2 * q.val) = 2 * p * q.val by rw [← Nat.mul_assoc, Nat.mul_comm p 2]]
      exact this
    | i q =>
      have := bnd_spec h3 q hq
      simp only [Nm.val, Nat.mul_add, Nat.mul_one]
      rw [show p * (2 * q.val) = 2 * p * q.val by rw [← Nat.mul_assoc, Nat.mul_comm p 2]]
      omega
def adv (n : Nm) : Nm := nm (n.val + 1048576)
theorem val_adv (n : Nm) : (adv n).val = n.val + 1048577 := by unfold adv; rw [val_nm]
noncomputable def termK (w v : V) (x0 : Nm) (r : V) (s : St) : T (V × St) := match r with
  | .int .i64 z => match decide (262144 < z) with
    | true => .ret (.tup [.str [], .int .i64 2], s)
    | false => match Nat.ble x0.val s.next.val && bnd s.next.val s.heap 0 1 with
      | true => match rd s.next.val s.heap w with
        | some (.ptr xb xi xj) => match wT s.next.val s.heap w (.ptr xb xi xj) 60 v with
          | some t => match Nat.ble t.len 400000 with
            | true => .ret (.tup [.str (t.flat []), .int .i64 0], { s with next := adv s.next })
            | false => .fail
          | none => .fail
        | _ => .fail
      | false => .fail
  | _ => .fail
noncomputable def ovTerm (call : Ca) (args : List V) (s : St) : T (V × St) := match args with
  | [.ptr wb wi wj, v] => call.f y26 [.ptr wb wi wj, v, .int .i64 0] s (termK (.ptr wb wi wj) v s.next)
  | _ => .fail
variable {C : Ctx} {ρ ρ1 : Rho} {s s1 : St} {w w1 : World}
theorem Ext.drop' (hx : Ext C ρ s w ρ1 s1 w1) {s' : St} (hn : s1.next.val ≤ s'.next.val) (hh : ∀ b o, s'.heap.get b = some o → s1.heap.get b = some o) (hu : ∀ b : Nm, ρ.blk b = none → b.val < s.next.val → s'.heap.get b = s.heap.get b) : Ext C ρ s w ρ1 s' w1 := by
  have live : ∀ b, s'.heap.get b ≠ none → s1.heap.get b ≠ none := fun b hb => by
    cases h : s'.heap.get b with
    | none => exact absurd h hb
    | some o => rw [hh b o h]; simp
  have hown : ∀ c, Owns ρ1 s' c → Owns ρ1 s1 c := fun c ⟨b, l, h1, h2, h3⟩ => ⟨b, l, live b h1, h2, h3⟩
  refine ⟨⟨fun b l o hb hl => hx.inv.obj b l o (hh b o hb) hl, fun b b' l l' hb hb' => hx.inv.inj b b' l l' (live b hb) (live b' hb'), hx.inv.imm, fun b l hb hl => hx.inv.sep b l (live b hb) hl, hx.inv.lt, fun b hb => ?_⟩, hx.le, hx.os, hx.tape, hx.output, hx.size, hx.frame, fun c hc ho => hx.own c hc (hown c ho), Nat.le_trans hx.next hn, fun b hb hlt => ⟨hu b hb hlt, (hx.unreal b hb hlt).2⟩, hx.imm⟩
  obtain ⟨k1, k2⟩ := hx.inv.fresh b (Nat.le_trans hn hb)
  refine ⟨k1, ?_⟩
  cases h : s'.heap.get b with
  | none => rfl
  | some o => rw [hh b o h] at k2; cases k2
theorem bus_run {E : Env} (W : WCode E) {H : Tr O} {x b n : Nm} {d : Nat} {c : Nat} {l : List Nat} (hb : H.get b = some (.row [[.ptr b 0 0, .row n 1 0 (l.length + 1) false]] 2 117)) (hl : H.get n = some (.row (bs (c :: l)) 1 5)) (hok : okB (c :: l) = true) (hn : l.length ≤ 1000000000) (q : Nat) :
    callF E (eval E (q + 20)) y28 [.ptr b 0 0] ⟨H, x, d⟩ = .ret (.str (c :: l), ⟨H.set none n, x, d⟩) := by
  have g1 : Nat.ble l.length 1000000000 = true := by rw [Nat.ble_eq]; omega
  have w3 : takeExact (l.length + 1) (bs (c :: l)) = some (bs (c :: l)) := by
    have := takeExact_all (bs (c :: l))
    rw [bs_length] at this
    exact this
  have y3 := bytesOf_bs _ hok
  have e3 : Nm.eqb b b = true := Nm.eqb_iff.2 rfl
  simp (maxSteps := 10000000) (implicitDefEqProofs := false) only [callB, eval_skip, eval_region, eval_draw, eval_seq, eval_cond, eval_block, eval_loop, eval_exit, eval_ret, opers_nil, opers_cons, andThen_normal, andThen_ret, andThen_exit, initT, ↓T.ret_bind, ↓T.fail_bind, T.ofO_some, T.ofO_none, ↓cnd_true, ↓cnd_false, oper, exec, arg, Tr.get, Tr.set, Tr.root, Tr.left, Tr.right, put, okV, okS, new, Nm.succ, load, loadCells, nth, window, dropExact, takeExact, pack, store, splice, bin, lookupIn, findKey, keyOk, List.length_cons, List.length_nil, Nat.beq, Option.getD_some, Option.getD_none, Bool.and_true, Bool.true_and, Nat.reduceAdd, List.all_cons, List.all_nil, beq_self_eq_true, BEq.rfl, Nat.reduceBEq, decide_true, decide_false, Int.reduceEq, ite_true, if_true, Nat.reduceMul, Nat.zero_add, Nat.add_zero, eqK, Bool.false_eq_true, ite_false, findKeyIn_str, Option.map_some, Option.map_none, Option.isSome_some, Option.isSome_none, un, Bool.not_true, Bool.not_false, results, resultV, leave, endBlock, if_false, Nat.reduceEqDiff, ↓reduceIte, scalar_int, scalar_str, scalar_bool, scalar_nils, scalar_nilp, scalar_row, scalar_ptr, scalar_map, scalar_dsl, notTup_agg, notTup_int, notTup_str, cells_agg, cells_int, cells_str, cells_bool, cells_nils, cells_row, cells_dsl, cells_ptr, cells_map, T.Is_ret, List.map_cons, List.map_nil, execCall, callF, Int.reduceLT, cast_0, cast_1, cast_2, blt_02, blt_12, ble_1, ble_2, natOf_0, natOf_1, wrap_01, wrap_11, lenL, grow, fillElems, rep, List.cons_append, List.nil_append, Int.lt_irrefl, and_self, not_false_eq_true, not_true_eq_false, drun_nil, drun_light, drun_heavy, lightV, wanted, recheck, holds, eqbV_str, eqbV_map, eqbV_ptr, eqbV_int, lenM, mapUpdate, snoc, fillParts, List.map_cons, List.map_nil, eqbV_nils, eqbV_row', W.f7, W.o7, d27, hb, hl, g1, w3, y3, natOf_cast, List.length_cons, eqbV_row', eqbV_bool]
section
variable {E : Env}
theorem term_all (W : WCode E) (h8 : E.fns y11 = some d10) {wb : Nm} {wi wj : Nat} {v : V} {H : Tr O} {x : Nm} {d q : Nat} (hq : 2600 ≤ q) {R : V × St → Prop}
    (hz : (callF E (eval E (q + 36)) y26 [.ptr wb wi wj, v, .int .i64 0] ⟨H, x, d⟩).All E.branch fun r => (termK (.ptr wb wi wj) v x r.1 r.2).All E.branch R) :
    (callB E (eval E (q + 40)) y11 [.ptr wb wi wj, v] ⟨H, x, d⟩).All E.branch fun r => ∃ s', R (r.1, s') ∧ r.2.next.val ≤ s'.next.val ∧ (∀ b o, s'.heap.get b = some o → r.2.heap.get b = some o) ∧ ∀ b : Nm, b.val < x.val → s'.heap.get b = r.2.heap.get b := by
  simp (maxSteps := 10000000) (implicitDefEqProofs := false) only [callB, eval_skip, eval_region, eval_draw, eval_seq, eval_cond, eval_block, eval_loop, eval_exit, eval_ret, opers_nil, opers_cons, andThen_normal, andThen_ret, andThen_exit, initT, ↓T.ret_bind, ↓T.fail_bind, T.ofO_some, T.ofO_none, ↓cnd_true, ↓cnd_false, oper, exec, arg, Tr.get, Tr.set, Tr.root, Tr.left, Tr.right, put, okV, okS, new, Nm.succ, nth, window, dropExact, takeExact, pack, store, splice, bin, findKey, keyOk, List.length_cons, List.length_nil, Nat.beq, Option.getD_some, Option.getD_none, Bool.and_true, Bool.true_and, Nat.reduceAdd, List.all_cons, List.all_nil, beq_self_eq_true, BEq.rfl, Nat.reduceBEq, decide_true, decide_false, Int.reduceEq, ite_true, if_true, Nat.reduceMul, Nat.zero_add, Nat.add_zero, eqK, Bool.false_eq_true, ite_false, findKeyIn_str, Option.map_some, Option.map_none, Option.isSome_some, Option.isSome_none, un, Bool.not_true, Bool.not_false, results, resultV, leave, endBlock, if_false, Nat.reduceEqDiff, ↓reduceIte, scalar_int, scalar_str, scalar_bool, scalar_nils, scalar_nilp, scalar_row, scalar_ptr, scalar_map, scalar_dsl, notTup_agg, notTup_int, notTup_str, cells_agg, cells_int, cells_str, cells_bool, cells_nils, cells_row, cells_dsl, cells_ptr, cells_map, T.Is_ret, List.map_cons, List.map_nil, execCall, Int.reduceLT, cast_0, cast_1, cast_2, blt_02, blt_12, ble_1, ble_2, natOf_0, natOf_1, wrap_01, wrap_11, lenL, grow, fillElems, rep, List.cons_append, List.nil_append, Int.lt_irrefl, and_self, not_false_eq_true, not_true_eq_false, drun_nil, drun_light, drun_heavy, lightV, wanted, recheck, holds, eqbV_str, eqbV_map, eqbV_ptr, eqbV_int, lenM, mapUpdate, snoc, fillParts, List.map_cons, List.map_nil, eqbV_nils, eqbV_row', h8, d10, nilV, xor_ft, xor_ff, xor_tt, xor_tf]
  simp only [T.bind_assoc]
  refine T.all_bind_mk (T.all_mono ?_ hz)
  rintro ⟨r1, H1, x1, d1⟩ h
  unfold termK at h
  split at h
  · rename_i z heq
    simp only at heq
    subst heq
    split at h
    · rename_i hd
      simp (maxSteps := 10000000) (implicitDefEqProofs := false) only [callB, eval_skip, eval_region, eval_draw, eval_seq, eval_cond, eval_block, eval_loop, eval_exit, eval_ret, opers_nil, opers_cons, andThen_normal, andThen_ret, andThen_exit, initT, ↓T.ret_bind, ↓T.fail_bind, T.ofO_some, T.ofO_none, ↓cnd_true, ↓cnd_false, oper, exec, arg, Tr.get, Tr.set, Tr.root, Tr.left, Tr.right, put, okV, okS, new, Nm.succ, nth, window, dropExact, takeExact, pack, store, splice, bin, findKey, keyOk, List.length_cons, List.length_nil, Nat.beq, Option.getD_some, Option.getD_none, Bool.and_true, Bool.true_and, Nat.reduceAdd, List.all_cons, List.all_nil, beq_self_eq_true, BEq.rfl, Nat.reduceBEq, decide_true, decide_false, Int.reduceEq, ite_true, if_true, Nat.reduceMul, Nat.zero_add, Nat.add_zero, eqK, Bool.false_eq_true, ite_false, findKeyIn_str, Option.map_some, Option.map_none, Option.isSome_some, Option.isSome_none, un, Bool.not_true, Bool.not_false, results, resultV, leave, endBlock, if_false, Nat.reduceEqDiff, ↓reduceIte, scalar_int, scalar_str, scalar_bool, scalar_nils, scalar_nilp, scalar_row, scalar_ptr, scalar_map, scalar_dsl, notTup_agg, notTup_int, notTup_str, cells_agg, cells_int, cells_str, cells_bool, cells_nils, cells_row, cells_dsl, cells_ptr, cells_map, T.Is_ret, List.map_cons, List.map_nil, execCall, Int.reduceLT, cast_0, cast_1, cast_2, blt_02, blt_12, ble_1, ble_2, natOf_0, natOf_1, wrap_01, wrap_11, lenL, grow, fillElems, rep, List.cons_append, List.nil_append, Int.lt_irrefl, and_self, not_false_eq_true, not_true_eq_false, drun_nil, drun_light, drun_heavy, lightV, wanted, recheck, holds, eqbV_str, eqbV_map, eqbV_ptr, eqbV_int, lenM, mapUpdate, snoc, fillParts, List.map_cons, List.map_nil, eqbV_nils, eqbV_row', hd, nilV, xor_ft, xor_ff, xor_tt, xor_tf]
      exact ⟨⟨H1, x1, d1⟩, h, Nat.le_refl _, fun _ _ h => h, fun _ _ => rfl⟩
    · rename_i hd
      split at h
      · rename_i hc
        simp only [Bool.and_eq_true, Nat.ble_eq] at hc
        split at h
        · rename_i xb xi xj hX
          split at h
          · rename_i t ht
            split at h
            · rename_i hlen
              rw [Nat.ble_eq, ← WT.flat_len] at hlen
              have ht := wT_ok ht
              generalize t.flat [] = t at *
              obtain ⟨t1, t2, t3⟩ := wF_ok W hX 60 v t ht
              have x1s : x1.succ.val = x1.val + 1 := Nm.val_succ x1
              obtain ⟨H3, x3, e3, A3, B3, l3, u3⟩ := t3 ⟨H1.set (some (.row [[.nilp, .nils]] 2 117)) x1, x1.succ, d1⟩ [] (fun p hp => Tr.get_set_other _ _ (Nm.ne_of_lt hp).symm) ⟨by show x1.val < x1.succ.val; omega, .inl ⟨rfl, Tr.get_set_same ..⟩⟩ (by simp only [List.length_nil]; omega)
              rw [List.nil_append] at B3
              obtain ⟨-, ⟨e, -⟩ | ⟨n, n1, n2, n3, n4⟩⟩ := B3
              · rw [e] at t2; simp at t2
              · cases t with
                | nil => simp at t2
                | cons c t =>
                  have hb := bus_run W (d := d1) (x := x3) n3 n4 t1 (by simp only [List.length_cons] at hlen; omega)
                  have e3' := callF_le (m := 2500) (Q := q) (fun c => by rw [Nat.add_comm]; exact e3 c) (by omega)
                  have hb' := callF_le (Q := q) hb (by omega)
                  simp (maxSteps := 10000000) (implicitDefEqProofs := false) only [callB, eval_skip, eval_region, eval_draw, eval_seq, eval_cond, eval_block, eval_loop, eval_exit, eval_ret, opers_nil, opers_cons, andThen_normal, andThen_ret, andThen_exit, initT, ↓T.ret_bind, ↓T.fail_bind, T.ofO_some, T.ofO_none, ↓cnd_true, ↓cnd_false, oper, exec, arg, Tr.get, Tr.set, Tr.root, Tr.left, Tr.right, put, okV, okS, new, Nm.succ, nth, window, dropExact, takeExact, pack, store, splice, bin, findKey, keyOk, List.length_cons, List.length_nil, Nat.beq, Option.getD_some, Option.getD_none, Bool.and_true, Bool.true_and, Nat.reduceAdd, List.all_cons, List.all_nil, beq_self_eq_true, BEq.rfl, Nat.reduceBEq, decide_true, decide_false, Int.reduceEq, ite_true, if_true, Nat.reduceMul, Nat.zero_add, Nat.add_zero, eqK, Bool.false_eq_true, ite_false, findKeyIn_str, Option.map_some, Option.map_none, Option.isSome_some, Option.isSome_none, un, Bool.not_true, Bool.not_false, results, resultV, leave, endBlock, if_false, Nat.reduceEqDiff, ↓reduceIte, scalar_int, scalar_str, scalar_bool, scalar_nils, scalar_nilp, scalar_row, scalar_ptr, scalar_map, scalar_dsl, notTup_agg, notTup_int, notTup_str, cells_agg, cells_int, cells_str, cells_bool, cells_nils, cells_row, cells_dsl, cells_ptr, cells_map, T.Is_ret, List.map_cons, List.map_nil, execCall, Int.reduceLT, cast_0, cast_1, cast_2, blt_02, blt_12, ble_1, ble_2, natOf_0, natOf_1, wrap_01, wrap_11, lenL, grow, fillElems, rep, List.cons_append, List.nil_append, Int.lt_irrefl, and_self, not_false_eq_true, not_true_eq_false, drun_nil, drun_light, drun_heavy, lightV, wanted, recheck, holds, eqbV_str, eqbV_map, eqbV_ptr, eqbV_int, lenM, mapUpdate, snoc, fillParts, List.map_cons, List.map_nil, eqbV_nils, eqbV_row', hd, e3', hb', nilV, xor_ft, xor_ff, xor_tt, xor_tf]
                  have hs : ∀ b : Nm, b.val < x1.val → (H3.set none n).get b = H1.get b := fun b hb => by
                    rw [Tr.get_set_other _ _ (Nm.ne_of_lt (Nat.lt_trans hb n1)).symm]; exact A3 b hb
                  refine ⟨_, h, ?_, fun b o hb => ?_, fun b hb => ?_⟩
                  · show x3.val ≤ (adv x1).val
                    rw [val_adv]
                    simp only [Nm.val_succ] at u3
                    omega
                  · have := bnd_spec hc.2 b (by rw [show H1.get b = some o from hb]; simp)
                    show (H3.set none n).get b = some o
                    rw [hs b (by simpa using this)]; exact hb
                  · exact (hs b (Nat.lt_of_lt_of_le hb hc.1)).symm
            · exact h.elim
          · exact h.elim
        · exact h.elim
      · exact h.elim
  · exact h.elim
theorem term_ok (W : WCode E) (hE : EnvOk C E) (h8 : E.fns y11 = some d10) (hf : nm 10 = y11) {call : Ca} (hc : CaOk E call) : OverOk C E.branch 10 (ovTerm call) := by
  intro ρ s w args cargs R hI hG hA h
  unfold ovTerm at h
  split at h
  · rename_i wb wi wj v
    obtain ⟨n, hn⟩ := hc.f _ _ _ _ _ h
    obtain ⟨H, x, d⟩ := s
    have h2 := callF_mono (eval_mono (E := E) (show n ≤ (2600 + n) + 36 by omega)) hn
    have h3 := term_all W h8 (show 2600 ≤ 2600 + n by omega) h2
    rw [← hf] at h3
    obtain ⟨e1, e2⟩ := callB_ok hE (eval_sound hE _) hI hG hA h3
    rw [e1]
    refine Calls.mono e2 ?_
    intro e w' he
    cases e with
    | returned cv =>
      obtain ⟨ρ1, r, s1, ⟨s', k1, k2, k3, k4⟩, hr, hx1⟩ := he
      exact ⟨ρ1, r, s', k1, hr, hx1.drop' k2 k3 fun b hb hlt => (k4 b hlt).trans (hx1.unreal b hb hlt).1⟩
    | panicked c => exact he.elim
    | outgrown => exact he.elim
  · exact h.elim
end
end Go.Eng
