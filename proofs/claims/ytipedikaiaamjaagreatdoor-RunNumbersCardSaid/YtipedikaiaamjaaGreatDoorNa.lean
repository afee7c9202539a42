/- Functions on numbers of the program, as contracts. -/
import Derived.Test.YtipedikaiaamjaaGreatDoorEngI
set_option linter.unusedSimpArgs false
set_option linter.unusedVariables false
set_option maxRecDepth 20000
set_option maxHeartbeats 8000000
namespace Go.Eng
abbrev w1 : Nm := .h
abbrev w2 : Nm := .o (.h)
abbrev w3 : Nm := .i (.h)
abbrev w4 : Nm := .o (.o (.h))
abbrev w5 : Nm := .i (.o (.h))
abbrev w6 : Nm := .o (.i (.h))
abbrev w7 : Nm := .i (.i (.h))
abbrev w8 : Nm := .o (.o (.o (.h)))
abbrev w9 : Nm := .i (.o (.o (.h)))
abbrev w10 : Nm := .o (.i (.o (.h)))
abbrev w11 : Nm := .i (.i (.o (.h)))
abbrev w12 : Nm := .o (.o (.i (.h)))
abbrev w13 : Nm := .i (.o (.i (.h)))
abbrev w14 : Nm := .o (.i (.i (.h)))
abbrev w15 : Nm := .i (.i (.i (.h)))
abbrev w16 : Nm := .o (.o (.o (.o (.h))))
abbrev w17 : Nm := .i (.o (.o (.o (.h))))
abbrev w18 : Nm := .o (.i (.o (.o (.h))))
abbrev w19 : Nm := .i (.i (.o (.o (.h))))
abbrev w20 : Nm := .o (.o (.i (.o (.h))))
abbrev w21 : Nm := .i (.o (.i (.o (.h))))
abbrev w22 : Nm := .o (.i (.i (.o (.h))))
abbrev w23 : Nm := .i (.i (.i (.o (.h))))
abbrev w24 : Nm := .o (.o (.o (.i (.h))))
abbrev w25 : Nm := .i (.o (.o (.i (.h))))
abbrev w26 : Nm := .o (.i (.o (.i (.h))))
abbrev w27 : Nm := .i (.i (.o (.i (.h))))
abbrev w28 : Nm := .o (.o (.i (.i (.h))))
abbrev w29 : Nm := .i (.o (.i (.i (.h))))
abbrev w30 : Nm := .o (.i (.i (.i (.h))))
abbrev w31 : Nm := .i (.i (.i (.i (.h))))
abbrev w32 : Nm := .o (.o (.o (.o (.o (.h)))))
abbrev w33 : Nm := .i (.o (.o (.o (.o (.h)))))
abbrev w34 : Nm := .o (.i (.o (.o (.o (.h)))))
abbrev w35 : Nm := .i (.i (.o (.o (.o (.h)))))
abbrev w36 : Nm := .o (.o (.i (.o (.o (.h)))))
abbrev w37 : Nm := .i (.o (.i (.o (.o (.h)))))
abbrev w38 : Nm := .o (.i (.i (.o (.o (.h)))))
abbrev w39 : Nm := .i (.i (.i (.o (.o (.h)))))
abbrev w40 : Nm := .o (.o (.o (.i (.o (.h)))))
abbrev w41 : Nm := .i (.o (.o (.i (.o (.h)))))
abbrev w42 : Nm := .o (.i (.o (.i (.o (.h)))))
abbrev w43 : Nm := .i (.i (.o (.i (.o (.h)))))
abbrev w44 : Nm := .o (.o (.i (.i (.o (.h)))))
abbrev w45 : Nm := .i (.o (.i (.i (.o (.h)))))
abbrev w46 : Nm := .o (.i (.i (.i (.o (.h)))))
abbrev w47 : Nm := .i (.i (.i (.i (.o (.h)))))
abbrev w48 : Nm := .o (.o (.o (.o (.i (.h)))))
abbrev w49 : Nm := .i (.o (.o (.o (.i (.h)))))
abbrev w50 : Nm := .o (.i (.o (.o (.i (.h)))))
abbrev w51 : Nm := .i (.i (.o (.o (.i (.h)))))
abbrev w52 : Nm := .o (.o (.i (.o (.i (.h)))))
abbrev w54 : Nm := .o (.i (.i (.o (.i (.h)))))
abbrev w55 : Nm := .i (.i (.i (.o (.i (.h)))))
abbrev w56 : Nm := .o (.o (.o (.i (.i (.h)))))
abbrev w57 : Nm := .i (.o (.o (.i (.i (.h)))))
abbrev w58 : Nm := .o (.i (.o (.i (.i (.h)))))
abbrev w96 : Nm := .o (.o (.o (.o (.o (.i (.h))))))
abbrev w97 : Nm := .i (.o (.o (.o (.o (.i (.h))))))
abbrev w98 : Nm := .o (.i (.o (.o (.o (.i (.h))))))
abbrev w99 : Nm := .i (.i (.o (.o (.o (.i (.h))))))
abbrev w111 : Nm := .i (.i (.i (.i (.o (.i (.h))))))
abbrev w112 : Nm := .o (.o (.o (.o (.i (.i (.h))))))
abbrev w146 : Nm := .o (.i (.o (.o (.i (.o (.o (.h)))))))
abbrev w147 : Nm := .i (.i (.o (.o (.i (.o (.o (.h)))))))
abbrev w159 : Nm := .i (.i (.i (.i (.i (.o (.o (.h)))))))
abbrev w160 : Nm := .o (.o (.o (.o (.o (.i (.o (.h)))))))
abbrev w161 : Nm := .i (.o (.o (.o (.o (.i (.o (.h)))))))
abbrev w162 : Nm := .o (.i (.o (.o (.o (.i (.o (.h)))))))
abbrev w167 : Nm := .i (.i (.i (.o (.o (.i (.o (.h)))))))
abbrev w168 : Nm := .o (.o (.o (.i (.o (.i (.o (.h)))))))
abbrev w235 : Nm := .i (.i (.o (.i (.o (.i (.i (.h)))))))
abbrev w236 : Nm := .o (.o (.i (.i (.o (.i (.i (.h)))))))
def d145 : AFn := ⟨.seq (.region [⟨(some w5), .mv (.c (.int .i64 0)), none⟩]) (.seq (.region [⟨(some w6), .mv (.t w1), none⟩, ⟨(some w7), .mv (.t w2), none⟩, ⟨(some w8), .bin .add (.t w6) (.t w7), none⟩, ⟨(some w5), .mv (.t w8), none⟩]) (.ret)), [.tmp w5]⟩
def d146 : AFn := ⟨.seq (.region [⟨(some w5), .mv (.c (.int .i64 0)), none⟩]) (.seq (.region [⟨(some w6), .mv (.t w1), none⟩, ⟨(some w7), .mv (.t w2), none⟩, ⟨(some w8), .bin .sub (.t w6) (.t w7), none⟩, ⟨(some w5), .mv (.t w8), none⟩]) (.ret)), [.tmp w5]⟩
def d158 : AFn := ⟨.seq (.region [⟨(some w7), .mv (.c (.int .i64 0)), none⟩]) (.seq (.seq (.region [⟨(some w8), .mv (.t w3), none⟩, ⟨(some w9), .bin .eql (.t w8) (.c (.int .i64 (-1))), none⟩]) (.cond (.t w9) (.seq (.region [⟨(some w10), .mv (.t w2), none⟩, ⟨(some w11), .un .neg (.t w10), none⟩, ⟨(some w7), .mv (.t w11), none⟩]) (.ret)) (.skip))) (.seq (.region [⟨(some w12), .mv (.t w2), none⟩, ⟨(some w13), .mv (.t w3), none⟩, ⟨(some w14), .bin .quo (.t w12) (.t w13), none⟩, ⟨(some w7), .mv (.t w14), none⟩]) (.ret))), [.tmp w7]⟩
def d159 : AFn := ⟨.seq (.region [⟨(some w7), .mv (.c (.int .i64 0)), none⟩]) (.seq (.seq (.region [⟨(some w8), .mv (.t w3), none⟩, ⟨(some w9), .bin .eql (.t w8) (.c (.int .i64 (-1))), none⟩]) (.cond (.t w9) (.seq (.region [⟨(some w7), .mv (.c (.int .i64 0)), none⟩]) (.ret)) (.skip))) (.seq (.region [⟨(some w10), .mv (.t w2), none⟩, ⟨(some w11), .mv (.t w3), none⟩, ⟨(some w12), .bin .rem (.t w10) (.t w11), none⟩, ⟨(some w7), .mv (.t w12), none⟩]) (.ret))), [.tmp w7]⟩
def d160 : AFn := ⟨.seq (.region [⟨(some w7), .mv (.c (.int .i64 0)), none⟩]) (.seq (.region [⟨(some w8), .mv (.t w1), none⟩, ⟨(some w9), .mv (.t w2), none⟩, ⟨(some w10), .call (.fn w112) [(.t w8), (.t w9)], none⟩, ⟨(some w11), .mv (.t w1), none⟩, ⟨(some w12), .mv (.t w3), none⟩, ⟨(some w13), .call (.fn w112) [(.t w11), (.t w12)], none⟩, ⟨(some w14), .bin .quo (.t w10) (.t w13), none⟩, ⟨(some w15), .conv (.int .i64) (.t w14), none⟩, ⟨(some w7), .mv (.t w15), none⟩]) (.ret)), [.tmp w7]⟩
def d161 : AFn := ⟨.seq (.region [⟨(some w7), .mv (.c (.int .i64 0)), none⟩]) (.seq (.region [⟨(some w8), .mv (.t w1), none⟩, ⟨(some w9), .mv (.t w2), none⟩, ⟨(some w10), .call (.fn w112) [(.t w8), (.t w9)], none⟩, ⟨(some w11), .mv (.t w1), none⟩, ⟨(some w12), .mv (.t w3), none⟩, ⟨(some w13), .call (.fn w112) [(.t w11), (.t w12)], none⟩, ⟨(some w14), .bin .rem (.t w10) (.t w13), none⟩, ⟨(some w15), .conv (.int .i64) (.t w14), none⟩, ⟨(some w7), .mv (.t w15), none⟩]) (.ret)), [.tmp w7]⟩
def d234 : AFn := ⟨.seq (.region [⟨(some w8), .mv (.c (.int .i64 0)), none⟩, ⟨(some w9), .mv (.c (.bool false)), none⟩]) (.seq (.seq (.region [⟨(some w10), .mv (.t w3), none⟩, ⟨(some w11), .bin .eql (.t w10) (.c (.int .i64 0)), none⟩]) (.cond (.t w11) (.seq (.region [⟨(some w8), .mv (.c (.int .i64 0)), none⟩, ⟨(some w9), .mv (.c (.bool false)), none⟩]) (.ret)) (.skip))) (.seq (.region [⟨(some w12), .mv (.t w1), none⟩, ⟨(some w13), .load 1 false (.t w4), none⟩, ⟨(some w14), .mv (.t w1), none⟩, ⟨(some w15), .mv (.t w2), none⟩, ⟨(some w16), .mv (.t w3), none⟩, ⟨(some w17), .call (.val (.t w13)) [(.t w14), (.t w15), (.t w16)], none⟩, ⟨(some w18), .call (.fn w111) [(.t w12), (.t w17)], none⟩, ⟨(some w8), .mv (.t w18), none⟩, ⟨(some w9), .mv (.c (.bool true)), none⟩]) (.ret))), [.tmp w8, .tmp w9]⟩
def d111 : AFn := ⟨.seq (.region [⟨(some w5), .mv (.c (.int .u64 0)), none⟩]) (.seq (.region [⟨(some w9), .mv (.t w1), none⟩, ⟨(some w10), .mv (.t w2), none⟩, ⟨(some w11), .call (.fn w168) [(.t w9), (.t w10)], none⟩, ⟨(some w8), .mv (.t w11), none⟩, ⟨(some w12), .extract (.t w8) 0, none⟩, ⟨(some w13), .extract (.t w8) 1, none⟩, ⟨(some w6), .mv (.t w12), none⟩, ⟨(some w7), .mv (.t w13), none⟩]) (.seq (.region [⟨(some w14), .mv (.t w6), none⟩, ⟨(some w5), .mv (.t w14), none⟩]) (.ret))), [.tmp w5]⟩
def d110 : AFn := ⟨.seq (.region [⟨(some w5), .mv (.c (.int .i64 0)), none⟩]) (.seq (.region [⟨(some w9), .mv (.t w1), none⟩, ⟨(some w10), .mv (.t w2), none⟩, ⟨(some w11), .call (.fn w167) [(.t w9), (.t w10)], none⟩, ⟨(some w8), .mv (.t w11), none⟩, ⟨(some w12), .extract (.t w8) 0, none⟩, ⟨(some w13), .extract (.t w8) 1, none⟩, ⟨(some w6), .mv (.t w12), none⟩, ⟨(some w7), .mv (.t w13), none⟩]) (.seq (.region [⟨(some w14), .mv (.t w6), none⟩, ⟨(some w5), .mv (.t w14), none⟩]) (.ret))), [.tmp w5]⟩
def d38 : AFn := ⟨.seq (.region [⟨(some w4), .box 2 123 (.t w2), none⟩, ⟨(some w5), .mv (.c (.bool false)), none⟩]) (.seq (.region [⟨(some w6), .alloc [.nilf] 161, none⟩, ⟨none, .store 1 (.t w6) (.c (.clo (.func 53) [] [])), none⟩]) (.seq (.seq (.region [⟨(some w12), .mv (.t w1), none⟩, ⟨(some w13), .call (.fn w38) [(.t w12)], none⟩, ⟨(some w11), .mv (.t w13), none⟩, ⟨(some w14), .extract (.t w11) 0, none⟩, ⟨(some w15), .extract (.t w11) 1, none⟩, ⟨(some w7), .mv (.t w14), none⟩, ⟨(some w8), .mv (.t w15), none⟩]) (.seq (.region [⟨(some w16), .mv (.t w7), none⟩, ⟨(some w17), .call (.fn w25) [(.t w16)], none⟩]) (.cond (.t w17) (.seq (.region [⟨(some w18), .fieldAddr 1 (.t w4), none⟩, ⟨(some w19), .load 1 false (.t w18), none⟩, ⟨(some w20), .lenL (.t w19), none⟩, ⟨(some w21), .bin .eql (.t w20) (.c (.int .i64 0)), none⟩, ⟨(some w22), .mv (.t w21), none⟩, ⟨(some w23), .load 1 false (.t w6), (some (w22, true))⟩, ⟨(some w24), .mv (.t w1), (some (w22, true))⟩, ⟨(some w25), .fieldAddr 0 (.t w4), (some (w22, true))⟩, ⟨(some w26), .load 1 false (.t w25), (some (w22, true))⟩, ⟨(some w27), .call (.val (.t w23)) [(.t w24), (.t w26)], (some (w22, true))⟩, ⟨(some w28), .pick (.t w22) (.t w27) (.c (.bool false)), none⟩, ⟨(some w5), .mv (.t w28), none⟩]) (.ret)) (.skip)))) (.seq (.region [⟨(some w30), .mv (.t w1), none⟩, ⟨(some w31), .call (.fn w56) [(.t w30)], none⟩, ⟨(some w29), .mv (.t w31), none⟩, ⟨(some w32), .extract (.t w29) 0, none⟩, ⟨(some w33), .extract (.t w29) 1, none⟩, ⟨(some w9), .alloc [(.str [])] 9, none⟩, ⟨none, .store 1 (.t w9) (.t w32), none⟩, ⟨(some w10), .mv (.t w33), none⟩]) (.seq (.draw [⟨⟨(some w34), .fieldAddr 0 (.t w4), none⟩, .light, []⟩, ⟨⟨(some w35), .load 1 false (.t w34), none⟩, .light, []⟩, ⟨⟨(some w36), .bin .eql (.t w35) (.c (.int .i64 0)), none⟩, .light, []⟩, ⟨⟨(some w37), .mv (.t w36), none⟩, .light, []⟩, ⟨⟨(some w38), .fieldAddr 1 (.t w4), (some (w37, true))⟩, .light, []⟩, ⟨⟨(some w39), .load 1 false (.t w38), (some (w37, true))⟩, .light, []⟩, ⟨⟨(some w40), .lenL (.t w39), (some (w37, true))⟩, .light, []⟩, ⟨⟨(some w41), .mv (.t w1), (some (w37, true))⟩, .light, []⟩, ⟨⟨(some w42), .call (.fn w57) [(.t w41)], (some (w37, true))⟩, .heavy, [⟨(some w40), .lenL (.t w39), (some (w37, true))⟩, ⟨(some w39), .load 1 false (.t w38), (some (w37, true))⟩, ⟨(some w38), .fieldAddr 1 (.t w4), (some (w37, true))⟩]⟩, ⟨⟨(some w43), .bin .eql (.t w40) (.t w42), (some (w37, true))⟩, .light, []⟩, ⟨⟨(some w44), .pick (.t w37) (.t w43) (.c (.bool false)), none⟩, .light, []⟩, ⟨⟨(some w45), .mv (.t w44), none⟩, .light, []⟩, ⟨⟨(some w46), .fieldAddr 1 (.t w4), (some (w45, true))⟩, .light, []⟩, ⟨⟨(some w47), .load 1 false (.t w46), (some (w45, true))⟩, .light, []⟩, ⟨⟨(some w48), .mkFunc (.func 58) [] [(.t w6), (.t w9)], (some (w45, true))⟩, .light, []⟩, ⟨⟨(some w49), .call (.fn w58) [(.t w47), (.t w48)], (some (w45, true))⟩, .heavy, [⟨(some w38), .fieldAddr 1 (.t w4), (some (w37, true))⟩]⟩, ⟨⟨(some w50), .un .not (.t w49), (some (w45, true))⟩, .light, []⟩, ⟨⟨(some w51), .pick (.t w45) (.t w50) (.c (.bool false)), none⟩, .light, []⟩, ⟨⟨(some w5), .mv (.t w51), none⟩, .light, []⟩]) (.ret))))), [.tmp w5]⟩
def d53 : AFn := ⟨.seq (.region [⟨(some w5), .mv (.c (.bool false)), none⟩]) (.seq (.region [⟨(some w10), .mv (.t w1), none⟩, ⟨(some w11), .call (.fn w55) [(.t w10)], none⟩, ⟨(some w9), .mv (.t w11), none⟩, ⟨(some w12), .extract (.t w9) 0, none⟩, ⟨(some w13), .extract (.t w9) 1, none⟩, ⟨(some w14), .extract (.t w9) 2, none⟩, ⟨(some w6), .mv (.t w12), none⟩, ⟨(some w7), .mv (.t w13), none⟩, ⟨(some w8), .mv (.t w14), none⟩]) (.seq (.region [⟨(some w15), .mv (.t w2), none⟩, ⟨(some w16), .mv (.t w6), none⟩, ⟨(some w17), .bin .geq (.t w15) (.t w16), none⟩, ⟨(some w18), .mv (.t w17), none⟩, ⟨(some w19), .mv (.t w2), (some (w18, true))⟩, ⟨(some w20), .mv (.t w7), (some (w18, true))⟩, ⟨(some w21), .bin .leq (.t w19) (.t w20), (some (w18, true))⟩, ⟨(some w22), .pick (.t w18) (.t w21) (.c (.bool false)), none⟩, ⟨(some w5), .mv (.t w22), none⟩]) (.ret))), [.tmp w5]⟩
def d24 : AFn := ⟨.seq (.region [⟨(some w3), .mv (.c (.bool false)), none⟩]) (.seq (.region [⟨(some w4), .mv (.t w1), none⟩, ⟨(some w5), .bin .eql (.t w4) (.c (.int .i64 0)), none⟩, ⟨(some w6), .mv (.t w5), none⟩, ⟨(some w7), .mv (.t w1), (some (w6, false))⟩, ⟨(some w8), .bin .eql (.t w7) (.c (.int .i64 1)), (some (w6, false))⟩, ⟨(some w9), .pick (.t w6) (.c (.bool true)) (.t w8), none⟩, ⟨(some w3), .mv (.t w9), none⟩]) (.ret)), [.tmp w3]⟩
def d37 : AFn := ⟨.seq (.region [⟨(some w3), .mv (.c (.int .i64 0)), none⟩, ⟨(some w4), .mv (.c (.int .i64 0)), none⟩]) (.seq (.region [⟨(some w8), .mv (.t w1), none⟩, ⟨(some w9), .call (.fn w52) [(.t w8), (.c (.clo (.func 52) [] []))], none⟩, ⟨(some w7), .mv (.t w9), none⟩, ⟨(some w10), .extract (.t w7) 0, none⟩, ⟨(some w11), .extract (.t w7) 1, none⟩, ⟨(some w5), .alloc [(.int .i64 0), (.int .i64 0), (.int .i64 0), (.int .i64 0), (.int .i64 0), (.int .i64 0)] 156, none⟩, ⟨none, .store 6 (.t w5) (.t w10), none⟩, ⟨(some w6), .mv (.t w11), none⟩]) (.seq (.region [⟨(some w12), .fieldAddr 0 (.t w5), none⟩, ⟨(some w13), .load 1 false (.t w12), none⟩, ⟨(some w14), .mv (.t w6), none⟩, ⟨(some w3), .mv (.t w13), none⟩, ⟨(some w4), .mv (.t w14), none⟩]) (.ret))), [.tmp w3, .tmp w4]⟩
def d54 : AFn := ⟨.seq (.region [⟨(some w3), .mv (.c (.int .i64 0)), none⟩, ⟨(some w4), .mv (.c (.int .i64 0)), none⟩, ⟨(some w5), .mv (.c (.int .i64 0)), none⟩]) (.seq (.region [⟨(some w8), .mv (.t w1), none⟩, ⟨(some w9), .call (.fn w52) [(.t w8), (.c (.clo (.func 96) [] []))], none⟩, ⟨(some w7), .mv (.t w9), none⟩, ⟨(some w10), .extract (.t w7) 0, none⟩, ⟨(some w11), .extract (.t w7) 1, none⟩, ⟨(some w6), .alloc [(.int .i64 0), (.int .i64 0), (.int .i64 0), (.int .i64 0), (.int .i64 0), (.int .i64 0)] 156, none⟩, ⟨none, .store 6 (.t w6) (.t w10), none⟩, ⟨(some w5), .mv (.t w11), none⟩]) (.seq (.seq (.region [⟨(some w12), .mv (.t w5), none⟩, ⟨(some w13), .bin .neq (.t w12) (.c (.int .i64 0)), none⟩]) (.cond (.t w13) (.seq (.region [⟨(some w14), .mv (.t w5), none⟩, ⟨(some w3), .mv (.c (.int .i64 0)), none⟩, ⟨(some w4), .mv (.c (.int .i64 0)), none⟩, ⟨(some w5), .mv (.t w14), none⟩]) (.ret)) (.skip))) (.seq (.draw [⟨⟨(some w15), .load 6 true (.t w6), none⟩, .light, []⟩, ⟨⟨(some w17), .load 6 true (.t w6), none⟩, .light, []⟩, ⟨⟨(some w16), .call (.fn w98) [(.t w15)], none⟩, .heavy, [⟨(some w17), .load 6 true (.t w6), none⟩]⟩, ⟨⟨(some w18), .call (.fn w99) [(.t w17)], none⟩, .heavy, []⟩, ⟨⟨(some w3), .mv (.t w16), none⟩, .light, []⟩, ⟨⟨(some w4), .mv (.t w18), none⟩, .light, []⟩, ⟨⟨(some w5), .mv (.c (.int .i64 0)), none⟩, .light, []⟩]) (.ret)))), [.tmp w3, .tmp w4, .tmp w5]⟩
def d166 : AFn := ⟨.seq (.region [⟨(some w5), .mv (.c (.int .i64 0)), none⟩, ⟨(some w6), .mv (.c (.int .i64 0)), none⟩]) (.seq (.region [⟨(some w10), .mv (.t w1), none⟩, ⟨(some w11), .call (.fn w52) [(.t w10), (.c (.clo (.func 96) [] []))], none⟩, ⟨(some w9), .mv (.t w11), none⟩, ⟨(some w12), .extract (.t w9) 0, none⟩, ⟨(some w13), .extract (.t w9) 1, none⟩, ⟨(some w7), .alloc [(.int .i64 0), (.int .i64 0), (.int .i64 0), (.int .i64 0), (.int .i64 0), (.int .i64 0)] 156, none⟩, ⟨none, .store 6 (.t w7) (.t w12), none⟩, ⟨(some w8), .mv (.t w13), none⟩]) (.seq (.seq (.region [⟨(some w14), .mv (.t w8), none⟩, ⟨(some w15), .bin .neq (.t w14) (.c (.int .i64 0)), none⟩]) (.cond (.t w15) (.seq (.region [⟨(some w16), .mv (.t w8), none⟩, ⟨(some w5), .mv (.c (.int .i64 0)), none⟩, ⟨(some w6), .mv (.t w16), none⟩]) (.ret)) (.skip))) (.seq (.draw [⟨⟨(some w17), .mv (.t w2), none⟩, .light, []⟩, ⟨⟨(some w18), .load 6 true (.t w7), none⟩, .light, []⟩, ⟨⟨(some w21), .load 6 true (.t w7), none⟩, .light, []⟩, ⟨⟨(some w19), .call (.fn w236) [(.t w18)], none⟩, .heavy, [⟨(some w21), .load 6 true (.t w7), none⟩, ⟨(some w17), .mv (.t w2), none⟩]⟩, ⟨⟨(some w20), .bin .shl (.t w17) (.t w19), none⟩, .light, []⟩, ⟨⟨(some w22), .call (.fn w236) [(.t w21)], none⟩, .heavy, [⟨(some w20), .bin .shl (.t w17) (.t w19), none⟩, ⟨(some w17), .mv (.t w2), none⟩]⟩, ⟨⟨(some w23), .bin .shr (.t w20) (.t w22), none⟩, .light, []⟩, ⟨⟨(some w5), .mv (.t w23), none⟩, .light, []⟩, ⟨⟨(some w6), .mv (.c (.int .i64 0)), none⟩, .light, []⟩]) (.ret)))), [.tmp w5, .tmp w6]⟩
def d167 : AFn := ⟨.seq (.region [⟨(some w5), .mv (.c (.int .u64 0)), none⟩, ⟨(some w6), .mv (.c (.int .i64 0)), none⟩]) (.seq (.region [⟨(some w10), .mv (.t w1), none⟩, ⟨(some w11), .call (.fn w52) [(.t w10), (.c (.clo (.func 96) [] []))], none⟩, ⟨(some w9), .mv (.t w11), none⟩, ⟨(some w12), .extract (.t w9) 0, none⟩, ⟨(some w13), .extract (.t w9) 1, none⟩, ⟨(some w7), .alloc [(.int .i64 0), (.int .i64 0), (.int .i64 0), (.int .i64 0), (.int .i64 0), (.int .i64 0)] 156, none⟩, ⟨none, .store 6 (.t w7) (.t w12), none⟩, ⟨(some w8), .mv (.t w13), none⟩]) (.seq (.seq (.region [⟨(some w14), .mv (.t w8), none⟩, ⟨(some w15), .bin .neq (.t w14) (.c (.int .i64 0)), none⟩]) (.cond (.t w15) (.seq (.region [⟨(some w16), .mv (.t w8), none⟩, ⟨(some w5), .mv (.c (.int .u64 0)), none⟩, ⟨(some w6), .mv (.t w16), none⟩]) (.ret)) (.skip))) (.seq (.draw [⟨⟨(some w17), .mv (.t w2), none⟩, .light, []⟩, ⟨⟨(some w18), .conv (.int .u64) (.t w17), none⟩, .light, []⟩, ⟨⟨(some w19), .load 6 true (.t w7), none⟩, .light, []⟩, ⟨⟨(some w22), .load 6 true (.t w7), none⟩, .light, []⟩, ⟨⟨(some w20), .call (.fn w236) [(.t w19)], none⟩, .heavy, [⟨(some w22), .load 6 true (.t w7), none⟩, ⟨(some w18), .conv (.int .u64) (.t w17), none⟩, ⟨(some w17), .mv (.t w2), none⟩]⟩, ⟨⟨(some w21), .bin .shl (.t w18) (.t w20), none⟩, .light, []⟩, ⟨⟨(some w23), .call (.fn w236) [(.t w22)], none⟩, .heavy, [⟨(some w21), .bin .shl (.t w18) (.t w20), none⟩, ⟨(some w18), .conv (.int .u64) (.t w17), none⟩, ⟨(some w17), .mv (.t w2), none⟩]⟩, ⟨⟨(some w24), .bin .shr (.t w21) (.t w23), none⟩, .light, []⟩, ⟨⟨(some w5), .mv (.t w24), none⟩, .light, []⟩, ⟨⟨(some w6), .mv (.c (.int .i64 0)), none⟩, .light, []⟩]) (.ret)))), [.tmp w5, .tmp w6]⟩
def d235 : AFn := ⟨.seq (.region [⟨(some w2), .box 6 156 (.t w1), none⟩, ⟨(some w3), .mv (.c (.int .u64 0)), none⟩]) (.seq (.region [⟨(some w4), .fieldAddr 1 (.t w2), none⟩, ⟨(some w5), .load 1 false (.t w4), none⟩, ⟨(some w6), .bin .sub (.c (.int .i64 64)) (.t w5), none⟩, ⟨(some w7), .conv (.int .u64) (.t w6), none⟩, ⟨(some w3), .mv (.t w7), none⟩]) (.ret)), [.tmp w3]⟩
def d51 : AFn := ⟨.seq (.region [⟨(some w5), .alloc [(.int .i64 0), (.int .i64 0), (.int .i64 0), (.int .i64 0), (.int .i64 0), (.int .i64 0)] 156, none⟩, ⟨(some w6), .mv (.c (.int .i64 0)), none⟩]) (.seq (.region [⟨(some w10), .mv (.t w1), none⟩, ⟨(some w11), .call (.fn w96) [(.t w10)], none⟩, ⟨(some w9), .mv (.t w11), none⟩, ⟨(some w12), .extract (.t w9) 0, none⟩, ⟨(some w13), .extract (.t w9) 1, none⟩, ⟨(some w7), .alloc [(.int .i64 0), (.int .i64 0), (.int .i64 0), (.int .i64 0), (.int .i64 0), (.int .i64 0)] 156, none⟩, ⟨none, .store 6 (.t w7) (.t w12), none⟩, ⟨(some w8), .mv (.t w13), none⟩]) (.seq (.block 0 (.seq (.region [⟨(some w15), .mv (.t w8), none⟩, ⟨(some w16), .un .not (.t w15), none⟩, ⟨(some w14), .mv (.t w16), none⟩]) (.cond (.t w14) (.seq (.region [⟨(some w17), .build [(.int .i64 0), (.int .i64 0), (.int .i64 0), (.int .i64 0), (.int .i64 0), (.int .i64 0)] [], none⟩, ⟨none, .store 6 (.t w5) (.t w17), none⟩, ⟨(some w6), .mv (.c (.int .i64 10)), none⟩]) (.ret)) (.seq (.region [⟨(some w19), .mv (.t w2), none⟩, ⟨(some w20), .load 6 true (.t w7), none⟩, ⟨(some w21), .call (.val (.t w19)) [(.t w20)], none⟩, ⟨(some w22), .un .not (.t w21), none⟩, ⟨(some w18), .mv (.t w22), none⟩]) (.cond (.t w18) (.seq (.region [⟨(some w23), .build [(.int .i64 0), (.int .i64 0), (.int .i64 0), (.int .i64 0), (.int .i64 0), (.int .i64 0)] [], none⟩, ⟨none, .store 6 (.t w5) (.t w23), none⟩, ⟨(some w6), .mv (.c (.int .i64 1)), none⟩]) (.ret)) (.skip)))))) (.seq (.region [⟨(some w24), .load 6 true (.t w7), none⟩, ⟨none, .store 6 (.t w5) (.t w24), none⟩, ⟨(some w6), .mv (.c (.int .i64 0)), none⟩]) (.ret)))), [.cell w5 6 true, .tmp w6]⟩
def d96 : AFn := ⟨.seq (.region [⟨(some w2), .box 6 156 (.t w1), none⟩, ⟨(some w3), .mv (.c (.bool false)), none⟩]) (.seq (.region [⟨(some w4), .fieldAddr 0 (.t w2), none⟩, ⟨(some w5), .load 1 false (.t w4), none⟩, ⟨(some w6), .bin .eql (.t w5) (.c (.int .i64 0)), none⟩, ⟨(some w7), .mv (.t w6), none⟩, ⟨(some w8), .fieldAddr 0 (.t w2), (some (w7, false))⟩, ⟨(some w9), .load 1 false (.t w8), (some (w7, false))⟩, ⟨(some w10), .bin .eql (.t w9) (.c (.int .i64 1)), (some (w7, false))⟩, ⟨(some w11), .pick (.t w7) (.c (.bool true)) (.t w10), none⟩, ⟨(some w3), .mv (.t w11), none⟩]) (.ret)), [.tmp w3]⟩
variable {C : Ctx}
theorem nmWIT : nm 53 = w54 := by decide
theorem exact_run {E : Env} (hE : EnvOk C E) {ρ : Rho} {s : St} {w : World} (hI : Inv C ρ s w) (hG : GR C ρ) {g n : Nat} {args : List V} {cargs : Array Value} (hA : AR ρ args cargs) {v : V} {R' : V × St → Prop} (hrun : callB E (eval E n) (nm g) args s = .ret (v, s)) (hR : R' (v, s)) : Gives C.P (Post C ρ s w R') ((callFunc g cargs).run C.P w) := by
  obtain ⟨e1, e2⟩ := callB_ok hE (eval_sound hE n) hI hG hA (R := R') (by rw [hrun]; exact hR)
  rw [e1]
  exact e2
theorem add1_run {E : Env} (h : E.fns w146 = some d145) {a b : Int} {H : Tr O} {x : Nm} {d : Nat} : callB E (eval E 20) w146 [.int .i64 a, .int .i64 b] ⟨H, x, d⟩ = .ret (.int .i64 (IntKind.wrap .i64 (a + b)), ⟨H, x, d⟩) := by
  simp (maxSteps := 10000000) (implicitDefEqProofs := false) only [callB, eval_skip, eval_region, eval_draw, eval_seq, eval_cond, eval_block, eval_loop, eval_exit, eval_ret, opers_nil, opers_cons, andThen_normal, andThen_ret, andThen_exit, initT, ↓T.ret_bind, ↓T.fail_bind, T.ofO_some, T.ofO_none, ↓cnd_true, ↓cnd_false, oper, exec, arg, Tr.get, Tr.set, Tr.root, Tr.left, Tr.right, put, okV, okS, new, Nm.succ, load, loadCells, nth, window, dropExact, takeExact, pack, store, splice, bin, lookupIn, findKey, keyOk, List.length_cons, List.length_nil, Nat.beq, Option.getD_some, Option.getD_none, Bool.and_true, Bool.true_and, Nat.reduceAdd, List.all_cons, List.all_nil, beq_self_eq_true, BEq.rfl, Nat.reduceBEq, decide_true, decide_false, Int.reduceEq, ite_true, if_true, Nat.reduceMul, Nat.zero_add, Nat.add_zero, eqK, Bool.false_eq_true, ite_false, findKeyIn_str, Option.map_some, Option.map_none, Option.isSome_some, Option.isSome_none, un, Bool.not_true, Bool.not_false, results, resultV, leave, endBlock, if_false, Nat.reduceEqDiff, ↓reduceIte, scalar_int, scalar_str, scalar_bool, scalar_nils, scalar_nilp, scalar_row, scalar_ptr, scalar_map, scalar_dsl, notTup_agg, notTup_int, notTup_str, cells_agg, cells_int, cells_str, cells_bool, cells_nils, cells_row, cells_dsl, cells_ptr, cells_map, T.Is_ret, List.map_cons, List.map_nil, execCall, callF, Int.reduceLT, cast_0, cast_1, cast_2, blt_02, blt_12, ble_1, ble_2, natOf_0, natOf_1, wrap_01, wrap_11, lenL, grow, append, fillElems, rep, List.cons_append, List.nil_append, Int.lt_irrefl, and_self, not_false_eq_true, not_true_eq_false, elems, drun_nil, drun_light, drun_heavy, lightV, wanted, recheck, holds, eqbV_str, eqbV_map, eqbV_ptr, eqbV_int, lenM, mapUpdate, snoc, fillParts, List.map_cons, List.map_nil, eqbV_nils, opers_guard, h, d145]
theorem sub1_run {E : Env} (h : E.fns w147 = some d146) {a b : Int} {H : Tr O} {x : Nm} {d : Nat} : callB E (eval E 20) w147 [.int .i64 a, .int .i64 b] ⟨H, x, d⟩ = .ret (.int .i64 (IntKind.wrap .i64 (a - b)), ⟨H, x, d⟩) := by
  simp (maxSteps := 10000000) (implicitDefEqProofs := false) only [callB, eval_skip, eval_region, eval_draw, eval_seq, eval_cond, eval_block, eval_loop, eval_exit, eval_ret, opers_nil, opers_cons, andThen_normal, andThen_ret, andThen_exit, initT, ↓T.ret_bind, ↓T.fail_bind, T.ofO_some, T.ofO_none, ↓cnd_true, ↓cnd_false, oper, exec, arg, Tr.get, Tr.set, Tr.root, Tr.left, Tr.right, put, okV, okS, new, Nm.succ, load, loadCells, nth, window, dropExact, takeExact, pack, store, splice, bin, lookupIn, findKey, keyOk, List.length_cons, List.length_nil, Nat.beq, Option.getD_some, Option.getD_none, Bool.and_true, Bool.true_and, Nat.reduceAdd, List.all_cons, List.all_nil, beq_self_eq_true, BEq.rfl, Nat.reduceBEq, decide_true, decide_false, Int.reduceEq, ite_true, if_true, Nat.reduceMul, Nat.zero_add, Nat.add_zero, eqK, Bool.false_eq_true, ite_false, findKeyIn_str, Option.map_some, Option.map_none, Option.isSome_some, Option.isSome_none, un, Bool.not_true, Bool.not_false, results, resultV, leave, endBlock, if_false, Nat.reduceEqDiff, ↓reduceIte, scalar_int, scalar_str, scalar_bool, scalar_nils, scalar_nilp, scalar_row, scalar_ptr, scalar_map, scalar_dsl, notTup_agg, notTup_int, notTup_str, cells_agg, cells_int, cells_str, cells_bool, cells_nils, cells_row, cells_dsl, cells_ptr, cells_map, T.Is_ret, List.map_cons, List.map_nil, execCall, callF, Int.reduceLT, cast_0, cast_1, cast_2, blt_02, blt_12, ble_1, ble_2, natOf_0, natOf_1, wrap_01, wrap_11, lenL, grow, append, fillElems, rep, List.cons_append, List.nil_append, Int.lt_irrefl, and_self, not_false_eq_true, not_true_eq_false, elems, drun_nil, drun_light, drun_heavy, lightV, wanted, recheck, holds, eqbV_str, eqbV_map, eqbV_ptr, eqbV_int, lenM, mapUpdate, snoc, fillParts, List.map_cons, List.map_nil, eqbV_nils, opers_guard, h, d146]
theorem add1_ok {E : Env} (hE : EnvOk C E) (hf : nm 145 = w146) (h : E.fns w146 = some d145) : OverOk C E.branch 145 ovAdd1 := by
  intro ρ s w args cargs R hI hG hA hr
  unfold ovAdd1 at hr
  split at hr
  · obtain ⟨H, x, d⟩ := s
    exact exact_run hE hI hG hA (by rw [hf]; exact add1_run h) hr
  · exact hr.elim
theorem sub1_ok {E : Env} (hE : EnvOk C E) (hf : nm 146 = w147) (h : E.fns w147 = some d146) : OverOk C E.branch 146 ovSub1 := by
  intro ρ s w args cargs R hI hG hA hr
  unfold ovSub1 at hr
  split at hr
  · obtain ⟨H, x, d⟩ := s
    exact exact_run hE hI hG hA (by rw [hf]; exact sub1_run h) hr
  · exact hr.elim
theorem neg_of {b : Int} (h : ¬ b = 0) : decide (b = 0) = false := by simp [h]
theorem natOf_cast (k : IntKind) (n : Nat) : natOf (.int k (n : Int)) = some n := rfl
theorem neg_one : IntKind.wrap .i64 (-1) = -1 := by decide
theorem ds_run {E : Env} (h : E.fns w159 = some d158) {t : List Nat} {a b : Int} (hb : ¬ b = 0) {H : Tr O} {x : Nm} {d : Nat} {w : Nat} : callB E (eval E 20) w159 [.str t, .int .i64 a, .int .i64 b] ⟨H, x, d⟩ = .ret (.int .i64 (divN .ds w a b), ⟨H, x, d⟩) := by
  by_cases h1 : b = -1
  · subst h1
    simp (maxSteps := 10000000) (implicitDefEqProofs := false) only [callB, eval_skip, eval_region, eval_draw, eval_seq, eval_cond, eval_block, eval_loop, eval_exit, eval_ret, opers_nil, opers_cons, andThen_normal, andThen_ret, andThen_exit, initT, ↓T.ret_bind, ↓T.fail_bind, T.ofO_some, T.ofO_none, ↓cnd_true, ↓cnd_false, oper, exec, arg, Tr.get, Tr.set, Tr.root, Tr.left, Tr.right, put, okV, okS, new, Nm.succ, load, loadCells, nth, window, dropExact, takeExact, pack, store, splice, bin, lookupIn, findKey, keyOk, List.length_cons, List.length_nil, Nat.beq, Option.getD_some, Option.getD_none, Bool.and_true, Bool.true_and, Nat.reduceAdd, List.all_cons, List.all_nil, beq_self_eq_true, BEq.rfl, Nat.reduceBEq, decide_true, decide_false, Int.reduceEq, ite_true, if_true, Nat.reduceMul, Nat.zero_add, Nat.add_zero, eqK, Bool.false_eq_true, ite_false, findKeyIn_str, Option.map_some, Option.map_none, Option.isSome_some, Option.isSome_none, un, Bool.not_true, Bool.not_false, results, resultV, leave, endBlock, if_false, Nat.reduceEqDiff, ↓reduceIte, scalar_int, scalar_str, scalar_bool, scalar_nils, scalar_nilp, scalar_row, scalar_ptr, scalar_map, scalar_dsl, notTup_agg, notTup_int, notTup_str, cells_agg, cells_int, cells_str, cells_bool, cells_nils, cells_row, cells_dsl, cells_ptr, cells_map, T.Is_ret, List.map_cons, List.map_nil, execCall, callF, Int.reduceLT, cast_0, cast_1, cast_2, blt_02, blt_12, ble_1, ble_2, natOf_0, natOf_1, wrap_01, wrap_11, lenL, grow, append, fillElems, rep, List.cons_append, List.nil_append, Int.lt_irrefl, and_self, not_false_eq_true, not_true_eq_false, elems, drun_nil, drun_light, drun_heavy, lightV, wanted, recheck, holds, eqbV_str, eqbV_map, eqbV_ptr, eqbV_int, lenM, mapUpdate, snoc, fillParts, List.map_cons, List.map_nil, eqbV_nils, opers_guard, h, d158, divN]
  · simp (maxSteps := 10000000) (implicitDefEqProofs := false) only [callB, eval_skip, eval_region, eval_draw, eval_seq, eval_cond, eval_block, eval_loop, eval_exit, eval_ret, opers_nil, opers_cons, andThen_normal, andThen_ret, andThen_exit, initT, ↓T.ret_bind, ↓T.fail_bind, T.ofO_some, T.ofO_none, ↓cnd_true, ↓cnd_false, oper, exec, arg, Tr.get, Tr.set, Tr.root, Tr.left, Tr.right, put, okV, okS, new, Nm.succ, load, loadCells, nth, window, dropExact, takeExact, pack, store, splice, bin, lookupIn, findKey, keyOk, List.length_cons, List.length_nil, Nat.beq, Option.getD_some, Option.getD_none, Bool.and_true, Bool.true_and, Nat.reduceAdd, List.all_cons, List.all_nil, beq_self_eq_true, BEq.rfl, Nat.reduceBEq, decide_true, decide_false, Int.reduceEq, ite_true, if_true, Nat.reduceMul, Nat.zero_add, Nat.add_zero, eqK, Bool.false_eq_true, ite_false, findKeyIn_str, Option.map_some, Option.map_none, Option.isSome_some, Option.isSome_none, un, Bool.not_true, Bool.not_false, results, resultV, leave, endBlock, if_false, Nat.reduceEqDiff, ↓reduceIte, scalar_int, scalar_str, scalar_bool, scalar_nils, scalar_nilp, scalar_row, scalar_ptr, scalar_map, scalar_dsl, notTup_agg, notTup_int, notTup_str, cells_agg, cells_int, cells_str, cells_bool, cells_nils, cells_row, cells_dsl, cells_ptr, cells_map, T.Is_ret, List.map_cons, List.map_nil, execCall, callF, Int.reduceLT, cast_0, cast_1, cast_2, blt_02, blt_12, ble_1, ble_2, natOf_0, natOf_1, wrap_01, wrap_11, lenL, grow, append, fillElems, rep, List.cons_append, List.nil_append, Int.lt_irrefl, and_self, not_false_eq_true, not_true_eq_false, elems, drun_nil, drun_light, drun_heavy, lightV, wanted, recheck, holds, eqbV_str, eqbV_map, eqbV_ptr, eqbV_int, lenM, mapUpdate, snoc, fillParts, List.map_cons, List.map_nil, eqbV_nils, opers_guard, h, d158, divN, h1, hb]
theorem rs_run {E : Env} (h : E.fns w160 = some d159) {t : List Nat} {a b : Int} (hb : ¬ b = 0) {H : Tr O} {x : Nm} {d : Nat} {w : Nat} : callB E (eval E 20) w160 [.str t, .int .i64 a, .int .i64 b] ⟨H, x, d⟩ = .ret (.int .i64 (divN .rs w a b), ⟨H, x, d⟩) := by
  by_cases h1 : b = -1
  · subst h1
    simp (maxSteps := 10000000) (implicitDefEqProofs := false) only [callB, eval_skip, eval_region, eval_draw, eval_seq, eval_cond, eval_block, eval_loop, eval_exit, eval_ret, opers_nil, opers_cons, andThen_normal, andThen_ret, andThen_exit, initT, ↓T.ret_bind, ↓T.fail_bind, T.ofO_some, T.ofO_none, ↓cnd_true, ↓cnd_false, oper, exec, arg, Tr.get, Tr.set, Tr.root, Tr.left, Tr.right, put, okV, okS, new, Nm.succ, load, loadCells, nth, window, dropExact, takeExact, pack, store, splice, bin, lookupIn, findKey, keyOk, List.length_cons, List.length_nil, Nat.beq, Option.getD_some, Option.getD_none, Bool.and_true, Bool.true_and, Nat.reduceAdd, List.all_cons, List.all_nil, beq_self_eq_true, BEq.rfl, Nat.reduceBEq, decide_true, decide_false, Int.reduceEq, ite_true, if_true, Nat.reduceMul, Nat.zero_add, Nat.add_zero, eqK, Bool.false_eq_true, ite_false, findKeyIn_str, Option.map_some, Option.map_none, Option.isSome_some, Option.isSome_none, un, Bool.not_true, Bool.not_false, results, resultV, leave, endBlock, if_false, Nat.reduceEqDiff, ↓reduceIte, scalar_int, scalar_str, scalar_bool, scalar_nils, scalar_nilp, scalar_row, scalar_ptr, scalar_map, scalar_dsl, notTup_agg, notTup_int, notTup_str, cells_agg, cells_int, cells_str, cells_bool, cells_nils, cells_row, cells_dsl, cells_ptr, cells_map, T.Is_ret, List.map_cons, List.map_nil, execCall, callF, Int.reduceLT, cast_0, cast_1, cast_2, blt_02, blt_12, ble_1, ble_2, natOf_0, natOf_1, wrap_01, wrap_11, lenL, grow, append, fillElems, rep, List.cons_append, List.nil_append, Int.lt_irrefl, and_self, not_false_eq_true, not_true_eq_false, elems, drun_nil, drun_light, drun_heavy, lightV, wanted, recheck, holds, eqbV_str, eqbV_map, eqbV_ptr, eqbV_int, lenM, mapUpdate, snoc, fillParts, List.map_cons, List.map_nil, eqbV_nils, opers_guard, h, d159, divN]
  · simp (maxSteps := 10000000) (implicitDefEqProofs := false) only [callB, eval_skip, eval_region, eval_draw, eval_seq, eval_cond, eval_block, eval_loop, eval_exit, eval_ret, opers_nil, opers_cons, andThen_normal, andThen_ret, andThen_exit, initT, ↓T.ret_bind, ↓T.fail_bind, T.ofO_some, T.ofO_none, ↓cnd_true, ↓cnd_false, oper, exec, arg, Tr.get, Tr.set, Tr.root, Tr.left, Tr.right, put, okV, okS, new, Nm.succ, load, loadCells, nth, window, dropExact, takeExact, pack, store, splice, bin, lookupIn, findKey, keyOk, List.length_cons, List.length_nil, Nat.beq, Option.getD_some, Option.getD_none, Bool.and_true, Bool.true_and, Nat.reduceAdd, List.all_cons, List.all_nil, beq_self_eq_true, BEq.rfl, Nat.reduceBEq, decide_true, decide_false, Int.reduceEq, ite_true, if_true, Nat.reduceMul, Nat.zero_add, Nat.add_zero, eqK, Bool.false_eq_true, ite_false, findKeyIn_str, Option.map_some, Option.map_none, Option.isSome_some, Option.isSome_none, un, Bool.not_true, Bool.not_false, results, resultV, leave, endBlock, if_false, Nat.reduceEqDiff, ↓reduceIte, scalar_int, scalar_str, scalar_bool, scalar_nils, scalar_nilp, scalar_row, scalar_ptr, scalar_map, scalar_dsl, notTup_agg, notTup_int, notTup_str, cells_agg, cells_int, cells_str, cells_bool, cells_nils, cells_row, cells_dsl, cells_ptr, cells_map, T.Is_ret, List.map_cons, List.map_nil, execCall, callF, Int.reduceLT, cast_0, cast_1, cast_2, blt_02, blt_12, ble_1, ble_2, natOf_0, natOf_1, wrap_01, wrap_11, lenL, grow, append, fillElems, rep, List.cons_append, List.nil_append, Int.lt_irrefl, and_self, not_false_eq_true, not_true_eq_false, elems, drun_nil, drun_light, drun_heavy, lightV, wanted, recheck, holds, eqbV_str, eqbV_map, eqbV_ptr, eqbV_int, lenM, mapUpdate, snoc, fillParts, List.map_cons, List.map_nil, eqbV_nils, opers_guard, h, d159, divN, h1, hb]
theorem ovWr_at {k : IntKind} {F : Nat → Int → Int} {t : List Nat} {w : Nat} (ht : tyN t = some w) {n : Int} {s : St} : ovWr k F [.str t, .int .i64 n] s = .ret (.int k (F w n), s) := by
  simp only [ovWr, ht]
theorem du_run {E : Env} (h : E.fns w161 = some d160) (o : E.over w112 = some (ovWr .u64 unsB)) {t : List Nat} {w : Nat} (ht : tyN t = some w) {a b : Int} (hb : ¬ unsB w b = 0) {H : Tr O} {x : Nm} {d : Nat} : callB E (eval E 20) w161 [.str t, .int .i64 a, .int .i64 b] ⟨H, x, d⟩ = .ret (.int .i64 (divN .du w a b), ⟨H, x, d⟩) := by
  have e : ∀ n (s : St), ovWr .u64 unsB [.str t, .int .i64 n] s = .ret (.int .u64 (unsB w n), s) := fun n s => ovWr_at ht
  simp (maxSteps := 10000000) (implicitDefEqProofs := false) only [callB, eval_skip, eval_region, eval_draw, eval_seq, eval_cond, eval_block, eval_loop, eval_exit, eval_ret, opers_nil, opers_cons, andThen_normal, andThen_ret, andThen_exit, initT, ↓T.ret_bind, ↓T.fail_bind, T.ofO_some, T.ofO_none, ↓cnd_true, ↓cnd_false, oper, exec, arg, Tr.get, Tr.set, Tr.root, Tr.left, Tr.right, put, okV, okS, new, Nm.succ, load, loadCells, nth, window, dropExact, takeExact, pack, store, splice, bin, lookupIn, findKey, keyOk, List.length_cons, List.length_nil, Nat.beq, Option.getD_some, Option.getD_none, Bool.and_true, Bool.true_and, Nat.reduceAdd, List.all_cons, List.all_nil, beq_self_eq_true, BEq.rfl, Nat.reduceBEq, decide_true, decide_false, Int.reduceEq, ite_true, if_true, Nat.reduceMul, Nat.zero_add, Nat.add_zero, eqK, Bool.false_eq_true, ite_false, findKeyIn_str, Option.map_some, Option.map_none, Option.isSome_some, Option.isSome_none, un, Bool.not_true, Bool.not_false, results, resultV, leave, endBlock, if_false, Nat.reduceEqDiff, ↓reduceIte, scalar_int, scalar_str, scalar_bool, scalar_nils, scalar_nilp, scalar_row, scalar_ptr, scalar_map, scalar_dsl, notTup_agg, notTup_int, notTup_str, cells_agg, cells_int, cells_str, cells_bool, cells_nils, cells_row, cells_dsl, cells_ptr, cells_map, T.Is_ret, List.map_cons, List.map_nil, execCall, callF, Int.reduceLT, cast_0, cast_1, cast_2, blt_02, blt_12, ble_1, ble_2, natOf_0, natOf_1, wrap_01, wrap_11, lenL, grow, append, fillElems, rep, List.cons_append, List.nil_append, Int.lt_irrefl, and_self, not_false_eq_true, not_true_eq_false, elems, drun_nil, drun_light, drun_heavy, lightV, wanted, recheck, holds, eqbV_str, eqbV_map, eqbV_ptr, eqbV_int, lenM, mapUpdate, snoc, fillParts, List.map_cons, List.map_nil, eqbV_nils, opers_guard, h, o, e, d160, divN, hb]
theorem ru_run {E : Env} (h : E.fns w162 = some d161) (o : E.over w112 = some (ovWr .u64 unsB)) {t : List Nat} {w : Nat} (ht : tyN t = some w) {a b : Int} (hb : ¬ unsB w b = 0) {H : Tr O} {x : Nm} {d : Nat} : callB E (eval E 20) w162 [.str t, .int .i64 a, .int .i64 b] ⟨H, x, d⟩ = .ret (.int .i64 (divN .ru w a b), ⟨H, x, d⟩) := by
  have e : ∀ n (s : St), ovWr .u64 unsB [.str t, .int .i64 n] s = .ret (.int .u64 (unsB w n), s) := fun n s => ovWr_at ht
  simp (maxSteps := 10000000) (implicitDefEqProofs := false) only [callB, eval_skip, eval_region, eval_draw, eval_seq, eval_cond, eval_block, eval_loop, eval_exit, eval_ret, opers_nil, opers_cons, andThen_normal, andThen_ret, andThen_exit, initT, ↓T.ret_bind, ↓T.fail_bind, T.ofO_some, T.ofO_none, ↓cnd_true, ↓cnd_false, oper, exec, arg, Tr.get, Tr.set, Tr.root, Tr.left, Tr.right, put, okV, okS, new, Nm.succ, load, loadCells, nth, window, dropExact, takeExact, pack, store, splice, bin, lookupIn, findKey, keyOk, List.length_cons, List.length_nil, Nat.beq, Option.getD_some, Option.getD_none, Bool.and_true, Bool.true_and, Nat.reduceAdd, List.all_cons, List.all_nil, beq_self_eq_true, BEq.rfl, Nat.reduceBEq, decide_true, decide_false, Int.reduceEq, ite_true, if_true, Nat.reduceMul, Nat.zero_add, Nat.add_zero, eqK, Bool.false_eq_true, ite_false, findKeyIn_str, Option.map_some, Option.map_none, Option.isSome_some, Option.isSome_none, un, Bool.not_true, Bool.not_false, results, resultV, leave, endBlock, if_false, Nat.reduceEqDiff, ↓reduceIte, scalar_int, scalar_str, scalar_bool, scalar_nils, scalar_nilp, scalar_row, scalar_ptr, scalar_map, scalar_dsl, notTup_agg, notTup_int, notTup_str, cells_agg, cells_int, cells_str, cells_bool, cells_nils, cells_row, cells_dsl, cells_ptr, cells_map, T.Is_ret, List.map_cons, List.map_nil, execCall, callF, Int.reduceLT, cast_0, cast_1, cast_2, blt_02, blt_12, ble_1, ble_2, natOf_0, natOf_1, wrap_01, wrap_11, lenL, grow, append, fillElems, rep, List.cons_append, List.nil_append, Int.lt_irrefl, and_self, not_false_eq_true, not_true_eq_false, elems, drun_nil, drun_light, drun_heavy, lightV, wanted, recheck, holds, eqbV_str, eqbV_map, eqbV_ptr, eqbV_int, lenM, mapUpdate, snoc, fillParts, List.map_cons, List.map_nil, eqbV_nils, opers_guard, h, o, e, d161, divN, hb]
structure DivC (E : Env) (G : Nat → Option DivF) : Prop where
  ds : E.fns w159 = some d158
  rs : E.fns w160 = some d159
  du : E.fns w161 = some d160
  ru : E.fns w162 = some d161
  o1 : E.over w159 = none
  o2 : E.over w160 = none
  o3 : E.over w161 = none
  o4 : E.over w162 = none
  un : E.over w112 = some (ovWr .u64 unsB)
  wr : E.over w111 = some (ovWr .i64 wrapB)
  dv : E.fns w235 = some d234
  g : ∀ g f, G g = some f → (f = .ds ∧ nm g = w159) ∨ (f = .rs ∧ nm g = w160) ∨ (f = .du ∧ nm g = w161) ∨ (f = .ru ∧ nm g = w162)
theorem DivC.call {E : Env} {G : Nat → Option DivF} (h : DivC E G) {g : Nat} {f : DivF} (hg : G g = some f) {t : List Nat} {w : Nat} (ht : tyN t = some w) {a b : Int} (h0 : ¬ b = 0) (h1 : ¬ unsB w b = 0) {H : Tr O} {x : Nm} {d : Nat} : callV E (eval E 20) (.clo (.func g) [] []) [.str t, .int .i64 a, .int .i64 b] ⟨H, x, d⟩ = .ret (.int .i64 (divN f w a b), ⟨H, x, d⟩) := by
  have e : callV E (eval E 20) (.clo (.func g) [] []) [.str t, .int .i64 a, .int .i64 b] ⟨H, x, d⟩ = callF E (eval E 20) (nm g) [.str t, .int .i64 a, .int .i64 b] ⟨H, x, d⟩ := rfl
  rw [e]
  rcases h.g g f hg with ⟨rfl, k⟩ | ⟨rfl, k⟩ | ⟨rfl, k⟩ | ⟨rfl, k⟩
  · rw [k]; simp only [callF, h.o1]; exact ds_run h.ds h0
  · rw [k]; simp only [callF, h.o2]; exact rs_run h.rs h0
  · rw [k]; simp only [callF, h.o3]; exact du_run h.du h.un ht h1
  · rw [k]; simp only [callF, h.o4]; exact ru_run h.ru h.un ht h1
theorem div_run {E : Env} {G : Nat → Option DivF} (h : DivC E G) {g : Nat} {f : DivF} (hg : G g = some f) {t : List Nat} {w : Nat} (ht : tyN t = some w) {a b : Int} (h0 : ¬ b = 0) (h1 : ¬ unsB w b = 0) {H : Tr O} {x p : Nm} {i j d : Nat} (hp : load H 1 false (.ptr p i j) = some (.clo (.func g) [] [])) :
    callB E (eval E 24) w235 [.str t, .int .i64 a, .int .i64 b, .ptr p i j] ⟨H, x, d⟩ = .ret (.tup [.int .i64 (wrapB w (divN f w a b)), .bool true], ⟨H, x, d⟩) := by
  have e : ∀ n (s : St), ovWr .i64 wrapB [.str t, .int .i64 n] s = .ret (.int .i64 (wrapB w n), s) := fun n s => ovWr_at ht
  have c := h.call hg ht (a := a) h0 h1 (H := H) (x := x) (d := d)
  simp (maxSteps := 10000000) (implicitDefEqProofs := false) only [callB, eval_skip, eval_region, eval_draw, eval_seq, eval_cond, eval_block, eval_loop, eval_exit, eval_ret, opers_nil, opers_cons, andThen_normal, andThen_ret, andThen_exit, initT, ↓T.ret_bind, ↓T.fail_bind, T.ofO_some, T.ofO_none, ↓cnd_true, ↓cnd_false, oper, exec, arg, Tr.get, Tr.set, Tr.root, Tr.left, Tr.right, put, okV, okS, new, Nm.succ, nth, window, dropExact, takeExact, pack, store, splice, bin, lookupIn, findKey, keyOk, List.length_cons, List.length_nil, Nat.beq, Option.getD_some, Option.getD_none, Bool.and_true, Bool.true_and, Nat.reduceAdd, List.all_cons, List.all_nil, beq_self_eq_true, BEq.rfl, Nat.reduceBEq, decide_true, decide_false, Int.reduceEq, ite_true, if_true, Nat.reduceMul, Nat.zero_add, Nat.add_zero, eqK, Bool.false_eq_true, ite_false, findKeyIn_str, Option.map_some, Option.map_none, Option.isSome_some, Option.isSome_none, un, Bool.not_true, Bool.not_false, results, resultV, leave, endBlock, if_false, Nat.reduceEqDiff, ↓reduceIte, scalar_int, scalar_str, scalar_bool, scalar_nils, scalar_nilp, scalar_row, scalar_ptr, scalar_map, scalar_dsl, notTup_agg, notTup_int, notTup_str, cells_agg, cells_int, cells_str, cells_bool, cells_nils, cells_row, cells_dsl, cells_ptr, cells_map, T.Is_ret, List.map_cons, List.map_nil, execCall, callF, Int.reduceLT, cast_0, cast_1, cast_2, blt_02, blt_12, ble_1, ble_2, natOf_0, natOf_1, wrap_01, wrap_11, lenL, grow, append, fillElems, rep, List.cons_append, List.nil_append, Int.lt_irrefl, and_self, not_false_eq_true, not_true_eq_false, elems, drun_nil, drun_light, drun_heavy, lightV, wanted, recheck, holds, eqbV_str, eqbV_map, eqbV_ptr, eqbV_int, lenM, mapUpdate, snoc, fillParts, List.map_cons, List.map_nil, eqbV_nils, opers_guard, h.dv, h.wr, e, d234, hp, h0, c]
theorem div_run0 {E : Env} {G : Nat → Option DivF} (h : DivC E G) {t : List Nat} {a : Int} {H : Tr O} {x p : Nm} {i j d : Nat} :
    callB E (eval E 24) w235 [.str t, .int .i64 a, .int .i64 0, .ptr p i j] ⟨H, x, d⟩ = .ret (.tup [.int .i64 0, .bool false], ⟨H, x, d⟩) := by
  simp (maxSteps := 10000000) (implicitDefEqProofs := false) only [callB, eval_skip, eval_region, eval_draw, eval_seq, eval_cond, eval_block, eval_loop, eval_exit, eval_ret, opers_nil, opers_cons, andThen_normal, andThen_ret, andThen_exit, initT, ↓T.ret_bind, ↓T.fail_bind, T.ofO_some, T.ofO_none, ↓cnd_true, ↓cnd_false, oper, exec, arg, Tr.get, Tr.set, Tr.root, Tr.left, Tr.right, put, okV, okS, new, Nm.succ, nth, window, dropExact, takeExact, pack, store, splice, bin, lookupIn, findKey, keyOk, List.length_cons, List.length_nil, Nat.beq, Option.getD_some, Option.getD_none, Bool.and_true, Bool.true_and, Nat.reduceAdd, List.all_cons, List.all_nil, beq_self_eq_true, BEq.rfl, Nat.reduceBEq, decide_true, decide_false, Int.reduceEq, ite_true, if_true, Nat.reduceMul, Nat.zero_add, Nat.add_zero, eqK, Bool.false_eq_true, ite_false, findKeyIn_str, Option.map_some, Option.map_none, Option.isSome_some, Option.isSome_none, un, Bool.not_true, Bool.not_false, results, resultV, leave, endBlock, if_false, Nat.reduceEqDiff, ↓reduceIte, scalar_int, scalar_str, scalar_bool, scalar_nils, scalar_nilp, scalar_row, scalar_ptr, scalar_map, scalar_dsl, notTup_agg, notTup_int, notTup_str, cells_agg, cells_int, cells_str, cells_bool, cells_nils, cells_row, cells_dsl, cells_ptr, cells_map, T.Is_ret, List.map_cons, List.map_nil, execCall, callF, Int.reduceLT, cast_0, cast_1, cast_2, blt_02, blt_12, ble_1, ble_2, natOf_0, natOf_1, wrap_01, wrap_11, lenL, grow, append, fillElems, rep, List.cons_append, List.nil_append, Int.lt_irrefl, and_self, not_false_eq_true, not_true_eq_false, elems, drun_nil, drun_light, drun_heavy, lightV, wanted, recheck, holds, eqbV_str, eqbV_map, eqbV_ptr, eqbV_int, lenM, mapUpdate, snoc, fillParts, List.map_cons, List.map_nil, eqbV_nils, opers_guard, h.dv, d234]
theorem div_ok {E : Env} (hE : EnvOk C E) {G : Nat → Option DivF} (h : DivC E G) (hf : nm 234 = w235) : OverOk C E.branch 234 (ovDiv G) := by
  intro ρ s w args cargs R hI hG hA hr
  unfold ovDiv at hr
  split at hr
  · rename_i t a b p i j
    split at hr
    · rename_i wd ht
      split at hr
      · rename_i g hp
        split at hr
        · rename_i f hg
          obtain ⟨H, x, d⟩ := s
          by_cases hb : b = 0
          · subst hb
            refine exact_run hE hI hG hA (n := 24) (by rw [hf]; exact div_run0 h) (hr.1 rfl)
          · obtain ⟨k1, k2⟩ := hr
            obtain ⟨k3, k4⟩ := k2 (by simp [hb])
            have h1 : ¬ unsB wd b = 0 := fun e => by
              refine k4 ?_
              rw [e]; simp
            refine exact_run hE hI hG hA (n := 24) (by rw [hf]; exact div_run h hg ht hb h1 hp) (k3 ?_)
            simp [hb, h1]
        · exact hr.elim
      · exact hr.elim
    · exact hr.elim
  · exact hr.elim
theorem cells_clo (f : Fn) (a b : List V) : (V.clo f a b).cells = [V.clo f a b] := rfl
theorem scalar_clo (f : Fn) (a b : List V) : scalarV (.clo f a b) = true := rfl
theorem beq_tt : (true == true) = true := rfl
theorem beq_ff : (false == false) = true := rfl
theorem eq_00 : decide ((0 : Int) = 0) = true := rfl
theorem fit_run {E : Env} (h1 : E.fns w39 = some d38) (h2 : E.fns w54 = some d53) (h3 : E.fns w25 = some d24) (o2 : E.over w54 = none) (o3 : E.over w25 = none) {r1 r2 : List (List V × V)} (k1 : E.over w38 = some (ovTy (fun _ => .tup [.int .i64 0, .int .i64 0]) r1)) (k2 : E.over w55 = some (ovTy (fun n => .tup [.int .i64 (-(2 ^ (n - 1))), .int .i64 (2 ^ (n - 1) - 1), .int .i64 0]) r2))
    {t : List Nat} {b : Nat} (ht : tyN t = some b) {n : Int} : (callB E (eval E 40) w39 [.str t, .agg [.int .i64 n, .nils]] St.start).Is fun r => r.1 = .bool (fitB b n) := by
  have e1 : ∀ (s : St), ovTy (fun _ => .tup [.int .i64 0, .int .i64 0]) r1 [.str t] s = .ret (.tup [.int .i64 0, .int .i64 0], s) := fun s => by simp only [ovTy, ht]
  have e2 : ∀ (s : St), ovTy (fun n => .tup [.int .i64 (-(2 ^ (n - 1))), .int .i64 (2 ^ (n - 1) - 1), .int .i64 0]) r2 [.str t] s = .ret (.tup [.int .i64 (-(2 ^ (b - 1))), .int .i64 (2 ^ (b - 1) - 1), .int .i64 0], s) := fun s => by simp only [ovTy, ht]
  by_cases c1 : -(2 ^ (b - 1)) ≤ n
  all_goals simp (maxSteps := 10000000) (implicitDefEqProofs := false) only [callB, eval_skip, eval_region, eval_draw, eval_seq, eval_cond, eval_block, eval_loop, eval_exit, eval_ret, opers_nil, opers_cons, andThen_normal, andThen_ret, andThen_exit, initT, ↓T.ret_bind, ↓T.fail_bind, T.ofO_some, T.ofO_none, ↓cnd_true, ↓cnd_false, oper, exec, arg, Tr.get, Tr.set, Tr.root, Tr.left, Tr.right, put, okV, okS, new, Nm.succ, load, loadCells, nth, window, dropExact, takeExact, pack, store, splice, bin, lookupIn, findKey, keyOk, List.length_cons, List.length_nil, Nat.beq, Option.getD_some, Option.getD_none, Bool.and_true, Bool.true_and, Nat.reduceAdd, List.all_cons, List.all_nil, beq_self_eq_true, BEq.rfl, Nat.reduceBEq, decide_true, decide_false, Int.reduceEq, ite_true, if_true, Nat.reduceMul, Nat.zero_add, Nat.add_zero, eqK, Bool.false_eq_true, ite_false, findKeyIn_str, Option.map_some, Option.map_none, Option.isSome_some, Option.isSome_none, un, Bool.not_true, Bool.not_false, results, resultV, leave, endBlock, if_false, Nat.reduceEqDiff, ↓reduceIte, scalar_int, scalar_str, scalar_bool, scalar_nils, scalar_nilp, scalar_row, scalar_ptr, scalar_map, scalar_dsl, notTup_agg, notTup_int, notTup_str, cells_agg, cells_int, cells_str, cells_bool, cells_nils, cells_row, cells_dsl, cells_ptr, cells_map, T.Is_ret, List.map_cons, List.map_nil, execCall, callF, Int.reduceLT, cast_0, cast_1, cast_2, blt_02, blt_12, ble_1, ble_2, natOf_0, natOf_1, wrap_01, wrap_11, lenL, grow, append, fillElems, rep, List.cons_append, List.nil_append, Int.lt_irrefl, and_self, not_false_eq_true, not_true_eq_false, elems, drun_nil, drun_light, drun_heavy, lightV, wanted, recheck, holds, eqbV_str, eqbV_map, eqbV_ptr, eqbV_int, lenM, mapUpdate, snoc, fillParts, List.map_cons, List.map_nil, eqbV_nils, opers_guard, St.start, h1, h2, h3, o2, o3, k1, k2, e1, e2, d38, d53, d24, callV, nmWIT, c1, fitB, cells_clo, scalar_clo, beq_tt, beq_ff, eq_00, beq_tf, beq_ft]
  rfl
theorem fit_ok {E : Env} (hE : EnvOk C E) (hf : nm 38 = w39) (h1 : E.fns w39 = some d38) (h2 : E.fns w54 = some d53) (h3 : E.fns w25 = some d24) (o2 : E.over w54 = none) (o3 : E.over w25 = none) {r1 r2 : List (List V × V)} (k1 : E.over w38 = some (ovTy (fun _ => .tup [.int .i64 0, .int .i64 0]) r1)) (k2 : E.over w55 = some (ovTy (fun n => .tup [.int .i64 (-(2 ^ (n - 1))), .int .i64 (2 ^ (n - 1) - 1), .int .i64 0]) r2)) : OverOk C E.branch 38 ovFit := by
  intro ρ s w args cargs R hI hG hA hr
  unfold ovFit at hr
  split at hr
  · rename_i t n
    split at hr
    · rename_i b ht
      obtain ⟨k3, k4⟩ := hr
      have hb : fitB b n = true := by
        cases h : fitB b n with
        | true => rfl
        | false => exact (k4 h).elim
      have hrun := fit_run (E := E) h1 h2 h3 o2 o3 k1 k2 ht (n := n)
      rw [← hf] at hrun
      refine over_datas hE hI hG hA rfl (n := 40) (Q := fun r => r.1 = .bool (fitB b n)) (T.Is_all hrun) ?_
      rintro r s1 hq
      simp only at hq
      subst hq
      rw [hb]
      exact ⟨rfl, k3 hb⟩
    · exact hr.elim
  · exact hr.elim
def tyASK (n : Nat) : V := .tup [.agg [.int .i64 0, .int .i64 n, .int .i64 0, .int .i64 0, .int .i64 0, .int .i64 0], .int .i64 0]
theorem bits64 : IntKind.bits .i64 = 64 := rfl
theorem bitsu64 : IntKind.bits .u64 = 64 := rfl
theorem eqbV_agg6 (a b c d e f : Int) : eqbV (.agg [.int .i64 a, .int .i64 b, .int .i64 c, .int .i64 d, .int .i64 e, .int .i64 f]) (.agg [.int .i64 a, .int .i64 b, .int .i64 c, .int .i64 d, .int .i64 e, .int .i64 f]) = true := by simp [eqbV, eqbVs]
theorem drun_fresh {E : Env} {τ : Tr V} {H : Tr O} {x : Nm} {d : Nat} {ev : Eval} {p : Option Nm} {o : AOp} {cs : List AOper} {ds : List DStep} : drun E ev (⟨⟨p, o, none⟩, .fresh, cs⟩ :: ds) τ ⟨H, x, d⟩ = (oper E ev τ ⟨H, x, d⟩ o).bind fun r => cnd (.bool (recheck E (put τ p r.1) r.2 cs)) (drun E ev ds (put τ p r.1) r.2) .fail := by
  show (oper E ev τ ⟨H, x, d⟩ o).bind _ = _
  congr 1
  funext r
  show (match recheck E (put τ p r.1) r.2 cs with | true => drun E ev ds (put τ p r.1) r.2 | false => .fail) = _
  cases recheck E (put τ p r.1) r.2 cs <;> rfl
theorem scalar_agg (cs : List V) : scalarV (.agg cs) = false := rfl
theorem notTup_bool (b : Bool) : notTup (.bool b) = true := rfl
theorem wrap_i64_eq (n : Int) : IntKind.wrap .i64 n = (if n % 18446744073709551616 ≥ 9223372036854775808 then n % 18446744073709551616 - 18446744073709551616 else n % 18446744073709551616) := by
  have e : IntKind.wrap .i64 n = (if (true && decide (n % 18446744073709551616 ≥ 9223372036854775808)) = true then n % 18446744073709551616 - 18446744073709551616 else n % 18446744073709551616) := rfl
  rw [e]
  simp only [Bool.true_and, decide_eq_true_eq]
theorem wrap_u64_eq (n : Int) : IntKind.wrap .u64 n = n % 18446744073709551616 := rfl
theorem wrap_i64 {n : Int} (h0 : 0 ≤ n) (h1 : n < 9223372036854775808) : IntKind.wrap .i64 n = n := by
  rw [wrap_i64_eq]
  split <;> omega
theorem wrap_u64 {n : Int} (h0 : 0 ≤ n) (h1 : n < 18446744073709551616) : IntKind.wrap .u64 n = n := by
  rw [wrap_u64_eq]
  omega
theorem wr_run {E : Env} (h1 : E.fns w111 = some d110) (h2 : E.fns w167 = some d166) (h3 : E.fns w236 = some d235) (o2 : E.over w167 = none) (o3 : E.over w236 = none) (o4 : E.over w52 = some (ovAsk 96 tyASK))
    {t : List Nat} {b : Nat} (ht : tyN t = some b) {n : Int} : (callB E (eval E 60) w111 [.str t, .int .i64 n] St.start).Is fun r => r.1 = .int .i64 (wrapB b n) := by
  obtain ⟨-, b1, b2⟩ := tyN_ok ht
  have e1 : ∀ (s : St), ovAsk 96 tyASK [.str t, .clo (.func 96) [] []] s = .ret (.tup [.agg [.int .i64 0, .int .i64 b, .int .i64 0, .int .i64 0, .int .i64 0, .int .i64 0], .int .i64 0], s) := fun s => by
    simp only [ovAsk, ht, Nat.beq_refl, tyASK]
  have q1 : IntKind.wrap .i64 (64 - (b : Int)) = ((64 - b : Nat) : Int) := by
    rw [wrap_i64 (by omega) (by omega)]; omega
  have q2 : IntKind.wrap .u64 ((64 - b : Nat) : Int) = ((64 - b : Nat) : Int) := wrap_u64 (by omega) (by omega)
  have q3 : ¬ ((64 - b : Nat) : Int) < 0 := by omega
  have q4 : min ((64 - b : Nat) : Int).toNat 64 = 64 - b := by omega
  simp (maxSteps := 10000000) (implicitDefEqProofs := false) only [callB, eval_skip, eval_region, eval_draw, eval_seq, eval_cond, eval_block, eval_loop, eval_exit, eval_ret, opers_nil, opers_cons, andThen_normal, andThen_ret, andThen_exit, initT, ↓T.ret_bind, ↓T.fail_bind, T.ofO_some, T.ofO_none, ↓cnd_true, ↓cnd_false, oper, exec, arg, Tr.get, Tr.set, Tr.root, Tr.left, Tr.right, put, okV, okS, new, Nm.succ, load, loadCells, nth, window, dropExact, takeExact, pack, store, splice, bin, lookupIn, findKey, keyOk, List.length_cons, List.length_nil, Nat.beq, Option.getD_some, Option.getD_none, Bool.and_true, Bool.true_and, Nat.reduceAdd, List.all_cons, List.all_nil, beq_self_eq_true, BEq.rfl, Nat.reduceBEq, decide_true, decide_false, Int.reduceEq, ite_true, if_true, Nat.reduceMul, Nat.zero_add, Nat.add_zero, eqK, Bool.false_eq_true, ite_false, findKeyIn_str, Option.map_some, Option.map_none, Option.isSome_some, Option.isSome_none, un, Bool.not_true, Bool.not_false, results, resultV, leave, endBlock, if_false, Nat.reduceEqDiff, ↓reduceIte, scalar_int, scalar_str, scalar_bool, scalar_nils, scalar_nilp, scalar_row, scalar_ptr, scalar_map, scalar_dsl, notTup_agg, notTup_int, notTup_str, cells_agg, cells_int, cells_str, cells_bool, cells_nils, cells_row, cells_dsl, cells_ptr, cells_map, T.Is_ret, List.map_cons, List.map_nil, execCall, callF, Int.reduceLT, cast_0, cast_1, cast_2, blt_02, blt_12, ble_1, ble_2, natOf_0, natOf_1, wrap_01, wrap_11, lenL, grow, append, fillElems, rep, List.cons_append, List.nil_append, Int.lt_irrefl, and_self, not_false_eq_true, not_true_eq_false, elems, drun_nil, drun_light, drun_heavy, lightV, wanted, recheck, holds, eqbV_str, eqbV_map, eqbV_ptr, eqbV_int, lenM, mapUpdate, snoc, fillParts, List.map_cons, List.map_nil, eqbV_nils, opers_guard, St.start, h1, h2, h3, o2, o3, o4, e1, d110, d166, d235, q1, q2, q3, q4, bits64, eqbV_agg6, drun_fresh, wrapB]
theorem un_run {E : Env} (h1 : E.fns w112 = some d111) (h2 : E.fns w168 = some d167) (h3 : E.fns w236 = some d235) (o2 : E.over w168 = none) (o3 : E.over w236 = none) (o4 : E.over w52 = some (ovAsk 96 tyASK))
    {t : List Nat} {b : Nat} (ht : tyN t = some b) {n : Int} : (callB E (eval E 60) w112 [.str t, .int .i64 n] St.start).Is fun r => r.1 = .int .u64 (unsB b n) := by
  obtain ⟨-, b1, b2⟩ := tyN_ok ht
  have e1 : ∀ (s : St), ovAsk 96 tyASK [.str t, .clo (.func 96) [] []] s = .ret (.tup [.agg [.int .i64 0, .int .i64 b, .int .i64 0, .int .i64 0, .int .i64 0, .int .i64 0], .int .i64 0], s) := fun s => by
    simp only [ovAsk, ht, Nat.beq_refl, tyASK]
  have q1 : IntKind.wrap .i64 (64 - (b : Int)) = ((64 - b : Nat) : Int) := by
    rw [wrap_i64 (by omega) (by omega)]; omega
  have q2 : IntKind.wrap .u64 ((64 - b : Nat) : Int) = ((64 - b : Nat) : Int) := wrap_u64 (by omega) (by omega)
  have q3 : ¬ ((64 - b : Nat) : Int) < 0 := by omega
  have q4 : min ((64 - b : Nat) : Int).toNat 64 = 64 - b := by omega
  simp (maxSteps := 10000000) (implicitDefEqProofs := false) only [callB, eval_skip, eval_region, eval_draw, eval_seq, eval_cond, eval_block, eval_loop, eval_exit, eval_ret, opers_nil, opers_cons, andThen_normal, andThen_ret, andThen_exit, initT, ↓T.ret_bind, ↓T.fail_bind, T.ofO_some, T.ofO_none, ↓cnd_true, ↓cnd_false, oper, exec, arg, Tr.get, Tr.set, Tr.root, Tr.left, Tr.right, put, okV, okS, new, Nm.succ, load, loadCells, nth, window, dropExact, takeExact, pack, store, splice, bin, lookupIn, findKey, keyOk, List.length_cons, List.length_nil, Nat.beq, Option.getD_some, Option.getD_none, Bool.and_true, Bool.true_and, Nat.reduceAdd, List.all_cons, List.all_nil, beq_self_eq_true, BEq.rfl, Nat.reduceBEq, decide_true, decide_false, Int.reduceEq, ite_true, if_true, Nat.reduceMul, Nat.zero_add, Nat.add_zero, eqK, Bool.false_eq_true, ite_false, findKeyIn_str, Option.map_some, Option.map_none, Option.isSome_some, Option.isSome_none, un, Bool.not_true, Bool.not_false, results, resultV, leave, endBlock, if_false, Nat.reduceEqDiff, ↓reduceIte, scalar_int, scalar_str, scalar_bool, scalar_nils, scalar_nilp, scalar_row, scalar_ptr, scalar_map, scalar_dsl, notTup_agg, notTup_int, notTup_str, cells_agg, cells_int, cells_str, cells_bool, cells_nils, cells_row, cells_dsl, cells_ptr, cells_map, T.Is_ret, List.map_cons, List.map_nil, execCall, callF, Int.reduceLT, cast_0, cast_1, cast_2, blt_02, blt_12, ble_1, ble_2, natOf_0, natOf_1, wrap_01, wrap_11, lenL, grow, append, fillElems, rep, List.cons_append, List.nil_append, Int.lt_irrefl, and_self, not_false_eq_true, not_true_eq_false, elems, drun_nil, drun_light, drun_heavy, lightV, wanted, recheck, holds, eqbV_str, eqbV_map, eqbV_ptr, eqbV_int, lenM, mapUpdate, snoc, fillParts, List.map_cons, List.map_nil, eqbV_nils, opers_guard, St.start, h1, h2, h3, o2, o3, o4, e1, d111, d167, d235, q1, q2, q3, q4, bits64, bitsu64, eqbV_agg6, drun_fresh, unsB]
theorem num_ok {E : Env} (hE : EnvOk C E) {g : Nat} {k : IntKind} {F : Nat → Int → Int} (hrun : ∀ t b n, tyN t = some b → (callB E (eval E 60) (nm g) [.str t, .int .i64 n] St.start).Is fun r => r.1 = .int k (F b n)) : OverOk C E.branch g (ovWr k F) := by
  intro ρ s w args cargs R hI hG hA h
  unfold ovWr at h
  split at h
  · rename_i t x
    split at h
    · rename_i b hb
      refine over_datas hE hI hG hA rfl (n := 60) (Q := fun r => r.1 = .int k (F b x)) (T.Is_all (hrun t b x hb)) ?_
      rintro r s1 hq
      simp only at hq
      subst hq
      exact ⟨rfl, h⟩
    · exact h.elim
  · exact h.elim
end Go.Eng
