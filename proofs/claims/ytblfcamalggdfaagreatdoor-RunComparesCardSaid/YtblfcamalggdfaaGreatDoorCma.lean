/- What the comparing functions do. -/
import Derived.Test.YtblfcamalggdfaaGreatDoorEngF
set_option linter.unusedSimpArgs false
set_option linter.unusedVariables false
set_option maxRecDepth 20000
set_option maxHeartbeats 8000000
namespace Go.Eng
abbrev u1 : Nm := .h
abbrev u2 : Nm := .o (.h)
abbrev u3 : Nm := .i (.h)
abbrev u4 : Nm := .o (.o (.h))
abbrev u5 : Nm := .i (.o (.h))
abbrev u6 : Nm := .o (.i (.h))
abbrev u7 : Nm := .i (.i (.h))
abbrev u8 : Nm := .o (.o (.o (.h)))
abbrev u9 : Nm := .i (.o (.o (.h)))
abbrev u10 : Nm := .o (.i (.o (.h)))
abbrev u11 : Nm := .i (.i (.o (.h)))
abbrev u12 : Nm := .o (.o (.i (.h)))
abbrev u13 : Nm := .i (.o (.i (.h)))
abbrev u14 : Nm := .o (.i (.i (.h)))
abbrev u15 : Nm := .i (.i (.i (.h)))
abbrev u16 : Nm := .o (.o (.o (.o (.h))))
abbrev u17 : Nm := .i (.o (.o (.o (.h))))
abbrev u18 : Nm := .o (.i (.o (.o (.h))))
abbrev u19 : Nm := .i (.i (.o (.o (.h))))
abbrev u20 : Nm := .o (.o (.i (.o (.h))))
abbrev u21 : Nm := .i (.o (.i (.o (.h))))
abbrev u22 : Nm := .o (.i (.i (.o (.h))))
abbrev u23 : Nm := .i (.i (.i (.o (.h))))
abbrev u24 : Nm := .o (.o (.o (.i (.h))))
abbrev u25 : Nm := .i (.o (.o (.i (.h))))
abbrev u26 : Nm := .o (.i (.o (.i (.h))))
abbrev u27 : Nm := .i (.i (.o (.i (.h))))
abbrev u28 : Nm := .o (.o (.i (.i (.h))))
abbrev u29 : Nm := .i (.o (.i (.i (.h))))
abbrev u30 : Nm := .o (.i (.i (.i (.h))))
abbrev u31 : Nm := .i (.i (.i (.i (.h))))
abbrev u32 : Nm := .o (.o (.o (.o (.o (.h)))))
abbrev u33 : Nm := .i (.o (.o (.o (.o (.h)))))
abbrev u34 : Nm := .o (.i (.o (.o (.o (.h)))))
abbrev u35 : Nm := .i (.i (.o (.o (.o (.h)))))
abbrev u36 : Nm := .o (.o (.i (.o (.o (.h)))))
abbrev u37 : Nm := .i (.o (.i (.o (.o (.h)))))
abbrev u38 : Nm := .o (.i (.i (.o (.o (.h)))))
abbrev u39 : Nm := .i (.i (.i (.o (.o (.h)))))
abbrev u40 : Nm := .o (.o (.o (.i (.o (.h)))))
abbrev u41 : Nm := .i (.o (.o (.i (.o (.h)))))
abbrev u42 : Nm := .o (.i (.o (.i (.o (.h)))))
abbrev u43 : Nm := .i (.i (.o (.i (.o (.h)))))
abbrev u44 : Nm := .o (.o (.i (.i (.o (.h)))))
abbrev uEQ : Nm := u9
abbrev nEQ : Nat := 8
abbrev uSA : Nm := u10
abbrev nSA : Nat := 9
abbrev uCP : Nm := u5
abbrev nCP : Nat := 4
abbrev uOU : Nm := u6
abbrev nOU : Nat := 5
abbrev uRC : Nm := u7
abbrev nRC : Nat := 6
abbrev uLW : Nm := u4
abbrev nLW : Nat := 3
abbrev uAW : Nm := u8
abbrev nAW : Nat := 7
def cEQ : ACode := (.seq (.region [⟨(some u15), .bin .lss (.t u14) (.t u13), none⟩]) (.seq (.cond (.t u15) (.skip) (.exit 0)) (.seq (.block 1 (.seq (.region [⟨(some u16), .mv (.t u14), none⟩, ⟨(some u6), .mv (.t u16), none⟩]) (.seq (.draw [⟨⟨(some u17), .mv (.t u1), none⟩, .light, []⟩, ⟨⟨(some u18), .mv (.t u6), none⟩, .light, []⟩, ⟨⟨(some u19), .indexAddr 1 none (.t u17) (.t u18), none⟩, .light, []⟩, ⟨⟨(some u20), .load 1 false (.t u19), none⟩, .light, []⟩, ⟨⟨(some u21), .mv (.t u2), none⟩, .light, []⟩, ⟨⟨(some u22), .mv (.t u6), none⟩, .light, []⟩, ⟨⟨(some u23), .indexAddr 1 none (.t u21) (.t u22), none⟩, .light, []⟩, ⟨⟨(some u24), .load 1 false (.t u23), none⟩, .light, []⟩, ⟨⟨(some u25), .bin .neq (.t u20) (.t u24), none⟩, .light, []⟩]) (.cond (.t u25) (.seq (.region [⟨(some u5), .mv (.c (.bool false)), none⟩]) (.ret)) (.skip))))) (.region [⟨(some u26), .bin .add (.t u14) (.c (.int .i64 1)), none⟩, ⟨(some u14), .mv (.t u26), none⟩]))))
def aEQ : AFn := ⟨.seq (.region [⟨(some u5), .mv (.c (.bool false)), none⟩]) (.seq (.seq (.region [⟨(some u7), .mv (.t u1), none⟩, ⟨(some u8), .lenL (.t u7), none⟩, ⟨(some u9), .mv (.t u2), none⟩, ⟨(some u10), .lenL (.t u9), none⟩, ⟨(some u11), .bin .neq (.t u8) (.t u10), none⟩]) (.cond (.t u11) (.seq (.region [⟨(some u5), .mv (.c (.bool false)), none⟩]) (.ret)) (.skip))) (.seq (.seq (.region [⟨(some u12), .mv (.t u1), none⟩, ⟨(some u13), .lenL (.t u12), none⟩, ⟨(some u14), .mv (.c (.int .i64 0)), none⟩]) (.block 0 (.loop cEQ))) (.seq (.region [⟨(some u5), .mv (.c (.bool true)), none⟩]) (.ret)))), [.tmp u5]⟩
def cSA : ACode := (.seq (.seq (.region [⟨(some u12), .mv (.t u6), none⟩, ⟨(some u13), .mv (.t u1), none⟩, ⟨(some u14), .lenL (.t u13), none⟩, ⟨(some u15), .bin .lss (.t u12) (.t u14), none⟩]) (.cond (.t u15) (.skip) (.exit 0))) (.seq (.block 1 (.seq (.draw [⟨⟨(some u18), .mv (.t u1), none⟩, .light, []⟩, ⟨⟨(some u19), .mv (.t u6), none⟩, .light, []⟩, ⟨⟨(some u20), .indexAddr 1 none (.t u18) (.t u19), none⟩, .light, []⟩, ⟨⟨(some u21), .load 1 false (.t u20), none⟩, .light, []⟩, ⟨⟨(some u22), .mv (.t u2), none⟩, .light, []⟩, ⟨⟨(some u23), .mv (.t u6), none⟩, .light, []⟩, ⟨⟨(some u24), .indexAddr 1 none (.t u22) (.t u23), none⟩, .light, []⟩, ⟨⟨(some u25), .load 1 false (.t u24), none⟩, .light, []⟩, ⟨⟨(some u26), .bin .neq (.t u21) (.t u25), none⟩, .light, []⟩]) (.cond (.t u26) (.seq (.region [⟨(some u5), .mv (.c (.bool false)), none⟩]) (.ret)) (.skip)))) (.region [⟨(some u16), .mv (.t u6), none⟩, ⟨(some u17), .bin .add (.t u16) (.c (.int .i64 1)), none⟩, ⟨(some u6), .mv (.t u17), none⟩])))
def aSA : AFn := ⟨.seq (.region [⟨(some u5), .mv (.c (.bool false)), none⟩]) (.seq (.seq (.region [⟨(some u7), .mv (.t u1), none⟩, ⟨(some u8), .lenL (.t u7), none⟩, ⟨(some u9), .mv (.t u2), none⟩, ⟨(some u10), .lenL (.t u9), none⟩, ⟨(some u11), .bin .neq (.t u8) (.t u10), none⟩]) (.cond (.t u11) (.seq (.region [⟨(some u5), .mv (.c (.bool false)), none⟩]) (.ret)) (.skip))) (.seq (.seq (.region [⟨(some u6), .mv (.c (.int .i64 0)), none⟩]) (.block 0 (.loop cSA))) (.seq (.region [⟨(some u5), .mv (.c (.bool true)), none⟩]) (.ret)))), [.tmp u5]⟩
def aCP : AFn := ⟨.seq (.region [⟨(some u3), .box 5 28 (.t u1), none⟩, ⟨(some u4), .box 5 28 (.t u2), none⟩, ⟨(some u5), .mv (.c (.bool false)), none⟩]) (.seq (.region [⟨(some u6), .fieldAddr 0 (.t u3), none⟩, ⟨(some u7), .load 1 false (.t u6), none⟩, ⟨(some u8), .bin .neq (.t u7) (.c (.int .i64 2)), none⟩, ⟨(some u9), .mv (.t u8), none⟩, ⟨(some u10), .fieldAddr 0 (.t u3), (some (u9, true))⟩, ⟨(some u11), .load 1 false (.t u10), (some (u9, true))⟩, ⟨(some u12), .fieldAddr 0 (.t u4), (some (u9, true))⟩, ⟨(some u13), .load 1 false (.t u12), (some (u9, true))⟩, ⟨(some u14), .bin .eql (.t u11) (.t u13), (some (u9, true))⟩, ⟨(some u15), .pick (.t u9) (.t u14) (.c (.bool false)), none⟩, ⟨(some u16), .mv (.t u15), none⟩, ⟨(some u17), .fieldAddr 1 (.t u3), (some (u16, true))⟩, ⟨(some u18), .load 1 false (.t u17), (some (u16, true))⟩, ⟨(some u19), .fieldAddr 1 (.t u4), (some (u16, true))⟩, ⟨(some u20), .load 1 false (.t u19), (some (u16, true))⟩, ⟨(some u21), .call (.fn u9) [(.t u18), (.t u20)], (some (u16, true))⟩, ⟨(some u22), .pick (.t u16) (.t u21) (.c (.bool false)), none⟩, ⟨(some u23), .mv (.t u22), none⟩, ⟨(some u24), .fieldAddr 2 (.t u3), (some (u23, true))⟩, ⟨(some u25), .load 1 false (.t u24), (some (u23, true))⟩, ⟨(some u26), .fieldAddr 2 (.t u4), (some (u23, true))⟩, ⟨(some u27), .load 1 false (.t u26), (some (u23, true))⟩, ⟨(some u28), .bin .eql (.t u25) (.t u27), (some (u23, true))⟩, ⟨(some u29), .pick (.t u23) (.t u28) (.c (.bool false)), none⟩, ⟨(some u30), .mv (.t u29), none⟩, ⟨(some u31), .fieldAddr 3 (.t u3), (some (u30, true))⟩, ⟨(some u32), .load 1 false (.t u31), (some (u30, true))⟩, ⟨(some u33), .fieldAddr 3 (.t u4), (some (u30, true))⟩, ⟨(some u34), .load 1 false (.t u33), (some (u30, true))⟩, ⟨(some u35), .call (.fn u9) [(.t u32), (.t u34)], (some (u30, true))⟩, ⟨(some u36), .pick (.t u30) (.t u35) (.c (.bool false)), none⟩, ⟨(some u5), .mv (.t u36), none⟩]) (.ret)), [.tmp u5]⟩
def aOU : AFn := ⟨.seq (.region [⟨(some u2), .box 5 24 (.t u1), none⟩, ⟨(some u3), .alloc [(.int .i64 0), .nils, (.int .i64 0), .nils, (.int .i64 0)] 28, none⟩]) (.seq (.region [⟨(some u4), .fieldAddr 0 (.t u2), none⟩, ⟨(some u5), .load 1 false (.t u4), none⟩, ⟨(some u6), .fieldAddr 1 (.t u2), none⟩, ⟨(some u7), .load 1 false (.t u6), none⟩, ⟨(some u8), .fieldAddr 2 (.t u2), none⟩, ⟨(some u9), .load 1 false (.t u8), none⟩, ⟨(some u10), .fieldAddr 3 (.t u2), none⟩, ⟨(some u11), .load 1 false (.t u10), none⟩, ⟨(some u12), .fieldAddr 4 (.t u2), none⟩, ⟨(some u13), .load 1 false (.t u12), none⟩, ⟨(some u14), .build [(.int .i64 0), .nils, (.int .i64 0), .nils, (.int .i64 0)] [(0, 1, (.t u5)), (1, 1, (.t u7)), (2, 1, (.t u9)), (3, 1, (.t u11)), (4, 1, (.t u13))], none⟩, ⟨none, .store 5 (.t u3) (.t u14), none⟩]) (.ret)), [.cell u3 5 true]⟩
def aRC : AFn := ⟨.seq (.region [⟨(some u3), .box 5 24 (.t u1), none⟩, ⟨(some u4), .box 5 24 (.t u2), none⟩, ⟨(some u5), .mv (.c (.bool false)), none⟩]) (.seq (.seq (.region [⟨(some u6), .fieldAddr 0 (.t u3), none⟩, ⟨(some u7), .load 1 false (.t u6), none⟩, ⟨(some u8), .fieldAddr 0 (.t u4), none⟩, ⟨(some u9), .load 1 false (.t u8), none⟩, ⟨(some u10), .bin .neq (.t u7) (.t u9), none⟩, ⟨(some u11), .mv (.t u10), none⟩, ⟨(some u12), .fieldAddr 0 (.t u3), (some (u11, false))⟩, ⟨(some u13), .load 1 false (.t u12), (some (u11, false))⟩, ⟨(some u14), .bin .eql (.t u13) (.c (.int .i64 2)), (some (u11, false))⟩, ⟨(some u15), .pick (.t u11) (.c (.bool true)) (.t u14), none⟩, ⟨(some u16), .mv (.t u15), none⟩, ⟨(some u17), .fieldAddr 3 (.t u3), (some (u16, false))⟩, ⟨(some u18), .load 1 false (.t u17), (some (u16, false))⟩, ⟨(some u19), .fieldAddr 3 (.t u4), (some (u16, false))⟩, ⟨(some u20), .load 1 false (.t u19), (some (u16, false))⟩, ⟨(some u21), .call (.fn u10) [(.t u18), (.t u20)], (some (u16, false))⟩, ⟨(some u22), .un .not (.t u21), (some (u16, false))⟩, ⟨(some u23), .pick (.t u16) (.c (.bool true)) (.t u22), none⟩]) (.cond (.t u23) (.seq (.region [⟨(some u5), .mv (.c (.bool false)), none⟩]) (.ret)) (.skip))) (.seq (.region [⟨(some u24), .fieldAddr 2 (.t u3), none⟩, ⟨(some u25), .load 1 false (.t u24), none⟩, ⟨(some u26), .fieldAddr 2 (.t u4), none⟩, ⟨(some u27), .load 1 false (.t u26), none⟩, ⟨(some u28), .bin .eql (.t u25) (.t u27), none⟩, ⟨(some u29), .mv (.t u28), none⟩, ⟨(some u30), .fieldAddr 1 (.t u3), (some (u29, true))⟩, ⟨(some u31), .load 1 false (.t u30), (some (u29, true))⟩, ⟨(some u32), .fieldAddr 1 (.t u4), (some (u29, true))⟩, ⟨(some u33), .load 1 false (.t u32), (some (u29, true))⟩, ⟨(some u34), .call (.fn u10) [(.t u31), (.t u33)], (some (u29, true))⟩, ⟨(some u35), .pick (.t u29) (.t u34) (.c (.bool false)), none⟩, ⟨(some u5), .mv (.t u35), none⟩]) (.ret))), [.tmp u5]⟩
def aLW : AFn := ⟨.seq (.region [⟨(some u3), .box 5 24 (.t u1), none⟩, ⟨(some u4), .box 5 24 (.t u2), none⟩, ⟨(some u5), .mv (.c (.bool false)), none⟩]) (.seq (.draw [⟨⟨(some u8), .load 5 true (.t u3), none⟩, .light, []⟩, ⟨⟨(some u10), .load 5 true (.t u4), none⟩, .light, []⟩, ⟨⟨(some u9), .call (.fn u6) [(.t u8)], none⟩, .heavy, [⟨(some u10), .load 5 true (.t u4), none⟩]⟩, ⟨⟨(some u11), .call (.fn u6) [(.t u10)], none⟩, .heavy, []⟩, ⟨⟨(some u12), .call (.fn u5) [(.t u9), (.t u11)], none⟩, .heavy, []⟩, ⟨⟨(some u6), .mv (.t u12), none⟩, .light, []⟩]) (.seq (.draw [⟨⟨(some u13), .load 5 true (.t u4), none⟩, .light, []⟩, ⟨⟨(some u15), .load 5 true (.t u3), none⟩, .light, []⟩, ⟨⟨(some u14), .call (.fn u6) [(.t u13)], none⟩, .heavy, [⟨(some u15), .load 5 true (.t u3), none⟩]⟩, ⟨⟨(some u16), .call (.fn u6) [(.t u15)], none⟩, .heavy, []⟩, ⟨⟨(some u17), .call (.fn u5) [(.t u14), (.t u16)], none⟩, .heavy, []⟩, ⟨⟨(some u7), .mv (.t u17), none⟩, .light, []⟩]) (.seq (.draw [⟨⟨(some u18), .mv (.t u6), none⟩, .light, []⟩, ⟨⟨(some u19), .load 5 true (.t u3), none⟩, .light, []⟩, ⟨⟨(some u20), .load 5 true (.t u4), none⟩, .light, []⟩, ⟨⟨(some u21), .call (.fn u7) [(.t u19), (.t u20)], none⟩, .heavy, [⟨(some u18), .mv (.t u6), none⟩]⟩, ⟨⟨(some u22), .eq false .bool (.t u18) (.t u21), none⟩, .light, []⟩, ⟨⟨(some u23), .mv (.t u22), none⟩, .light, []⟩, ⟨⟨(some u24), .mv (.t u7), (some (u23, true))⟩, .light, []⟩, ⟨⟨(some u25), .mv (.t u6), (some (u23, true))⟩, .light, []⟩, ⟨⟨(some u26), .eq false .bool (.t u24) (.t u25), (some (u23, true))⟩, .light, []⟩, ⟨⟨(some u27), .pick (.t u23) (.t u26) (.c (.bool false)), none⟩, .light, []⟩, ⟨⟨(some u28), .mv (.t u27), none⟩, .light, []⟩, ⟨⟨(some u29), .load 5 true (.t u3), (some (u28, true))⟩, .light, []⟩, ⟨⟨(some u31), .load 5 true (.t u3), (some (u28, true))⟩, .light, []⟩, ⟨⟨(some u34), .fieldAddr 0 (.t u3), (some (u28, true))⟩, .light, []⟩, ⟨⟨(some u35), .load 1 false (.t u34), (some (u28, true))⟩, .light, []⟩, ⟨⟨(some u36), .bin .neq (.t u35) (.c (.int .i64 2)), (some (u28, true))⟩, .light, []⟩, ⟨⟨(some u30), .call (.fn u6) [(.t u29)], (some (u28, true))⟩, .heavy, [⟨(some u36), .bin .neq (.t u35) (.c (.int .i64 2)), (some (u28, true))⟩, ⟨(some u35), .load 1 false (.t u34), (some (u28, true))⟩, ⟨(some u34), .fieldAddr 0 (.t u3), (some (u28, true))⟩, ⟨(some u31), .load 5 true (.t u3), (some (u28, true))⟩]⟩, ⟨⟨(some u32), .call (.fn u6) [(.t u31)], (some (u28, true))⟩, .heavy, [⟨(some u36), .bin .neq (.t u35) (.c (.int .i64 2)), (some (u28, true))⟩, ⟨(some u35), .load 1 false (.t u34), (some (u28, true))⟩, ⟨(some u34), .fieldAddr 0 (.t u3), (some (u28, true))⟩]⟩, ⟨⟨(some u33), .call (.fn u5) [(.t u30), (.t u32)], (some (u28, true))⟩, .heavy, [⟨(some u36), .bin .neq (.t u35) (.c (.int .i64 2)), (some (u28, true))⟩, ⟨(some u35), .load 1 false (.t u34), (some (u28, true))⟩, ⟨(some u34), .fieldAddr 0 (.t u3), (some (u28, true))⟩]⟩, ⟨⟨(some u37), .eq false .bool (.t u33) (.t u36), (some (u28, true))⟩, .light, []⟩, ⟨⟨(some u38), .pick (.t u28) (.t u37) (.c (.bool false)), none⟩, .light, []⟩, ⟨⟨(some u39), .mv (.t u38), none⟩, .light, []⟩, ⟨⟨(some u40), .call (.fn u8) [], (some (u39, true))⟩, .heavy, [⟨(some u34), .fieldAddr 0 (.t u3), (some (u28, true))⟩]⟩, ⟨⟨(some u41), .pick (.t u39) (.t u40) (.c (.bool false)), none⟩, .light, []⟩, ⟨⟨(some u5), .mv (.t u41), none⟩, .light, []⟩]) (.ret)))), [.tmp u5]⟩
end Go.Eng
