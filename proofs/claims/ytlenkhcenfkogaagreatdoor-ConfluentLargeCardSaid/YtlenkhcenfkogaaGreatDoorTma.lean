/- Contracts of the term functions of the program and of its reference. -/
import Derived.Test.YtlenkhcenfkogaaGreatDoorEngG
set_option linter.unusedSimpArgs false
set_option linter.unusedVariables false
set_option maxRecDepth 20000
set_option maxHeartbeats 8000000
namespace Go.Eng
abbrev u1 : Nm := .h
abbrev u2 : Nm := .o (.h)
abbrev u3 : Nm := .i (.h)
abbrev u4 : Nm := .o (.o (.h))
abbrev u5 : Nm := .i (.o (.h))
abbrev u6 : Nm := .o (.i (.h))
abbrev u7 : Nm := .i (.i (.h))
abbrev u8 : Nm := .o (.o (.o (.h)))
abbrev u9 : Nm := .i (.o (.o (.h)))
abbrev u10 : Nm := .o (.i (.o (.h)))
abbrev u11 : Nm := .i (.i (.o (.h)))
abbrev u12 : Nm := .o (.o (.i (.h)))
abbrev u13 : Nm := .i (.o (.i (.h)))
abbrev u14 : Nm := .o (.i (.i (.h)))
abbrev u15 : Nm := .i (.i (.i (.h)))
abbrev u16 : Nm := .o (.o (.o (.o (.h))))
abbrev u17 : Nm := .i (.o (.o (.o (.h))))
abbrev u18 : Nm := .o (.i (.o (.o (.h))))
abbrev u19 : Nm := .i (.i (.o (.o (.h))))
abbrev u20 : Nm := .o (.o (.i (.o (.h))))
abbrev u21 : Nm := .i (.o (.i (.o (.h))))
abbrev u22 : Nm := .o (.i (.i (.o (.h))))
abbrev u23 : Nm := .i (.i (.i (.o (.h))))
abbrev u24 : Nm := .o (.o (.o (.i (.h))))
abbrev u25 : Nm := .i (.o (.o (.i (.h))))
abbrev u26 : Nm := .o (.i (.o (.i (.h))))
abbrev u27 : Nm := .i (.i (.o (.i (.h))))
abbrev u28 : Nm := .o (.o (.i (.i (.h))))
abbrev u29 : Nm := .i (.o (.i (.i (.h))))
abbrev u30 : Nm := .o (.i (.i (.i (.h))))
abbrev u31 : Nm := .i (.i (.i (.i (.h))))
abbrev u32 : Nm := .o (.o (.o (.o (.o (.h)))))
abbrev u33 : Nm := .i (.o (.o (.o (.o (.h)))))
abbrev u34 : Nm := .o (.i (.o (.o (.o (.h)))))
abbrev u35 : Nm := .i (.i (.o (.o (.o (.h)))))
abbrev u36 : Nm := .o (.o (.i (.o (.o (.h)))))
abbrev u37 : Nm := .i (.o (.i (.o (.o (.h)))))
abbrev u38 : Nm := .o (.i (.i (.o (.o (.h)))))
abbrev u39 : Nm := .i (.i (.i (.o (.o (.h)))))
abbrev u40 : Nm := .o (.o (.o (.i (.o (.h)))))
abbrev u41 : Nm := .i (.o (.o (.i (.o (.h)))))
abbrev u42 : Nm := .o (.i (.o (.i (.o (.h)))))
abbrev u43 : Nm := .i (.i (.o (.i (.o (.h)))))
abbrev u44 : Nm := .o (.o (.i (.i (.o (.h)))))
abbrev u45 : Nm := .i (.o (.i (.i (.o (.h)))))
abbrev u46 : Nm := .o (.i (.i (.i (.o (.h)))))
abbrev u47 : Nm := .i (.i (.i (.i (.o (.h)))))
abbrev u48 : Nm := .o (.o (.o (.o (.i (.h)))))
abbrev u49 : Nm := .i (.o (.o (.o (.i (.h)))))
abbrev u50 : Nm := .o (.i (.o (.o (.i (.h)))))
abbrev u51 : Nm := .i (.i (.o (.o (.i (.h)))))
abbrev u52 : Nm := .o (.o (.i (.o (.i (.h)))))
abbrev u53 : Nm := .i (.o (.i (.o (.i (.h)))))
abbrev u54 : Nm := .o (.i (.i (.o (.i (.h)))))
abbrev u55 : Nm := .i (.i (.i (.o (.i (.h)))))
def a9 : AFn := ⟨.seq (.region [⟨(some u2), .box 4 30 (.t u1), none⟩, ⟨(some u3), .mv (.c (.str [])), none⟩]) (.seq (.seq (.region [⟨(some u6), .fieldAddr 0 (.t u2), none⟩, ⟨(some u7), .load 1 false (.t u6), none⟩]) (.block 0 (.seq (.region [⟨(some u9), .bin .eql (.t u7) (.c (.int .u8 63)), none⟩, ⟨(some u8), .mv (.t u9), none⟩]) (.cond (.t u8) (.seq (.region [⟨(some u10), .fieldAddr 1 (.t u2), none⟩, ⟨(some u11), .load 1 false (.t u10), none⟩, ⟨(some u12), .bin .add (.c (.str [63])) (.t u11), none⟩, ⟨(some u3), .mv (.t u12), none⟩]) (.ret)) (.seq (.region [⟨(some u14), .bin .eql (.t u7) (.c (.int .u8 35)), none⟩, ⟨(some u13), .mv (.t u14), none⟩]) (.cond (.t u13) (.seq (.region [⟨(some u15), .fieldAddr 2 (.t u2), none⟩, ⟨(some u16), .load 1 false (.t u15), none⟩, ⟨(some u17), .call (.fn u13) [(.t u16)], none⟩, ⟨(some u18), .bin .add (.c (.str [35])) (.t u17), none⟩, ⟨(some u3), .mv (.t u18), none⟩]) (.ret)) (.skip))))))) (.seq (.region [⟨(some u19), .fieldAddr 1 (.t u2), none⟩, ⟨(some u20), .load 1 false (.t u19), none⟩, ⟨(some u21), .bin .add (.c (.str [40])) (.t u20), none⟩, ⟨(some u4), .mv (.t u21), none⟩]) (.seq (.seq (.region [⟨(some u5), .mv (.c (.int .i64 0)), none⟩]) (.block 1 (.loop (.seq (.seq (.region [⟨(some u22), .mv (.t u5), none⟩, ⟨(some u23), .fieldAddr 3 (.t u2), none⟩, ⟨(some u24), .load 1 false (.t u23), none⟩, ⟨(some u25), .lenL (.t u24), none⟩, ⟨(some u26), .bin .lss (.t u22) (.t u25), none⟩]) (.cond (.t u26) (.skip) (.exit 1))) (.seq (.block 2 (.region [⟨(some u29), .mv (.t u4), none⟩, ⟨(some u30), .bin .add (.t u29) (.c (.str [32])), none⟩, ⟨(some u31), .fieldAddr 3 (.t u2), none⟩, ⟨(some u32), .load 1 false (.t u31), none⟩, ⟨(some u33), .mv (.t u5), none⟩, ⟨(some u34), .indexAddr 4 none (.t u32) (.t u33), none⟩, ⟨(some u35), .load 4 true (.t u34), none⟩, ⟨(some u36), .call (.fn u10) [(.t u35)], none⟩, ⟨(some u37), .bin .add (.t u30) (.t u36), none⟩, ⟨(some u4), .mv (.t u37), none⟩])) (.region [⟨(some u27), .mv (.t u5), none⟩, ⟨(some u28), .bin .add (.t u27) (.c (.int .i64 1)), none⟩, ⟨(some u5), .mv (.t u28), none⟩])))))) (.seq (.region [⟨(some u38), .mv (.t u4), none⟩, ⟨(some u39), .bin .add (.t u38) (.c (.str [41])), none⟩, ⟨(some u3), .mv (.t u39), none⟩]) (.ret))))), [.tmp u3]⟩
def a11 : AFn := ⟨.seq (.region [⟨(some u3), .box 4 30 (.t u1), none⟩, ⟨(some u5), .alloc [(.int .u8 0), (.str []), (.int .i64 0), .nils] 30, none⟩]) (.seq (.region [⟨(some u9), .load 4 true (.t u3), none⟩, ⟨(some u10), .mv (.t u2), none⟩, ⟨(some u11), .call (.fn u24) [(.t u9), (.t u10)], none⟩, ⟨none, .store 4 (.t u3) (.t u11), none⟩]) (.seq (.region [⟨(some u12), .load 4 true (.t u3), none⟩, ⟨(some u6), .alloc [(.int .u8 0), (.str []), (.int .i64 0), .nils] 30, none⟩, ⟨none, .store 4 (.t u6) (.t u12), none⟩]) (.seq (.region [⟨(some u7), .mv (.c .nils), none⟩]) (.seq (.seq (.region [⟨(some u8), .mv (.c (.int .i64 0)), none⟩]) (.block 0 (.loop (.seq (.seq (.region [⟨(some u13), .mv (.t u8), none⟩, ⟨(some u14), .fieldAddr 3 (.t u3), none⟩, ⟨(some u15), .load 1 false (.t u14), none⟩, ⟨(some u16), .lenL (.t u15), none⟩, ⟨(some u17), .bin .lss (.t u13) (.t u16), none⟩]) (.cond (.t u17) (.skip) (.exit 0))) (.seq (.block 1 (.region [⟨(some u20), .mv (.t u7), none⟩, ⟨(some u21), .fieldAddr 3 (.t u3), none⟩, ⟨(some u22), .load 1 false (.t u21), none⟩, ⟨(some u23), .mv (.t u8), none⟩, ⟨(some u24), .indexAddr 4 none (.t u22) (.t u23), none⟩, ⟨(some u25), .load 4 true (.t u24), none⟩, ⟨(some u26), .mv (.t u2), none⟩, ⟨(some u27), .call (.fn u12) [(.t u25), (.t u26)], none⟩, ⟨(some u28), .buildSlice 4 30 [(.int .u8 0), (.str []), (.int .i64 0), .nils] 1 [(0, (.t u27))], none⟩, ⟨(some u29), .append 4 30 (.t u20) (.t u28), none⟩, ⟨(some u7), .mv (.t u29), none⟩])) (.region [⟨(some u18), .mv (.t u8), none⟩, ⟨(some u19), .bin .add (.t u18) (.c (.int .i64 1)), none⟩, ⟨(some u8), .mv (.t u19), none⟩])))))) (.seq (.region [⟨(some u30), .mv (.t u7), none⟩, ⟨(some u31), .fieldAddr 3 (.t u6), none⟩, ⟨none, .store 1 (.t u31) (.t u30), none⟩]) (.seq (.region [⟨(some u32), .load 4 true (.t u6), none⟩, ⟨none, .store 4 (.t u5) (.t u32), none⟩]) (.ret))))))), [.cell u5 4 true]⟩
def a23 : AFn := ⟨.seq (.region [⟨(some u3), .box 4 30 (.t u1), none⟩, ⟨(some u5), .alloc [(.int .u8 0), (.str []), (.int .i64 0), .nils] 30, none⟩]) (.seq (.block 0 (.loop (.seq (.seq (.region [⟨(some u8), .fieldAddr 0 (.t u3), none⟩, ⟨(some u9), .load 1 false (.t u8), none⟩, ⟨(some u10), .bin .eql (.t u9) (.c (.int .u8 63)), none⟩]) (.cond (.t u10) (.skip) (.exit 0))) (.block 1 (.seq (.region [⟨(some u12), .mv (.t u2), none⟩, ⟨(some u13), .fieldAddr 1 (.t u3), none⟩, ⟨(some u14), .load 1 false (.t u13), none⟩, ⟨(some u15), .lookup .str (.agg [(.int .u8 0), (.str []), (.int .i64 0), .nils]) (.t u12) (.t u14) true, none⟩, ⟨(some u11), .mv (.t u15), none⟩, ⟨(some u16), .extract (.t u11) 0, none⟩, ⟨(some u17), .extract (.t u11) 1, none⟩, ⟨(some u6), .alloc [(.int .u8 0), (.str []), (.int .i64 0), .nils] 30, none⟩, ⟨none, .store 4 (.t u6) (.t u16), none⟩, ⟨(some u7), .mv (.t u17), none⟩]) (.seq (.seq (.region [⟨(some u18), .mv (.t u7), none⟩, ⟨(some u19), .un .not (.t u18), none⟩]) (.cond (.t u19) (.seq (.region [⟨(some u20), .load 4 true (.t u3), none⟩, ⟨none, .store 4 (.t u5) (.t u20), none⟩]) (.ret)) (.skip))) (.region [⟨(some u21), .load 4 true (.t u6), none⟩, ⟨none, .store 4 (.t u3) (.t u21), none⟩]))))))) (.seq (.region [⟨(some u22), .load 4 true (.t u3), none⟩, ⟨none, .store 4 (.t u5) (.t u22), none⟩]) (.ret))), [.cell u5 4 true]⟩
def a25 : AFn := ⟨.seq (.region [⟨(some u3), .box 4 30 (.t u1), none⟩, ⟨(some u5), .alloc [(.int .u8 0), (.str []), (.int .i64 0), .nils] 30, none⟩]) (.seq (.region [⟨(some u11), .load 4 true (.t u3), none⟩, ⟨(some u6), .alloc [(.int .u8 0), (.str []), (.int .i64 0), .nils] 30, none⟩, ⟨none, .store 4 (.t u6) (.t u11), none⟩]) (.seq (.seq (.region [⟨(some u12), .fieldAddr 0 (.t u3), none⟩, ⟨(some u13), .load 1 false (.t u12), none⟩, ⟨(some u14), .bin .eql (.t u13) (.c (.int .u8 63)), none⟩]) (.cond (.t u14) (.seq (.seq (.region [⟨(some u16), .mv (.t u2), none⟩, ⟨(some u17), .fieldAddr 1 (.t u3), none⟩, ⟨(some u18), .load 1 false (.t u17), none⟩, ⟨(some u19), .lookup .str (.str []) (.t u16) (.t u18) true, none⟩, ⟨(some u15), .mv (.t u19), none⟩, ⟨(some u20), .extract (.t u15) 0, none⟩, ⟨(some u21), .extract (.t u15) 1, none⟩, ⟨(some u7), .mv (.t u20), none⟩, ⟨(some u8), .mv (.t u21), none⟩]) (.seq (.region [⟨(some u22), .mv (.t u8), none⟩, ⟨(some u23), .un .not (.t u22), none⟩]) (.cond (.t u23) (.draw [⟨⟨(some u24), .mv (.t u2), none⟩, .light, []⟩, ⟨⟨(some u25), .fieldAddr 1 (.t u3), none⟩, .light, []⟩, ⟨⟨(some u26), .load 1 false (.t u25), none⟩, .light, []⟩, ⟨⟨(some u27), .mv (.t u2), none⟩, .light, []⟩, ⟨⟨(some u28), .lenM (.t u27), none⟩, .light, []⟩, ⟨⟨(some u29), .call (.fn u48) [(.t u28)], none⟩, .heavy, [⟨(some u26), .load 1 false (.t u25), none⟩, ⟨(some u25), .fieldAddr 1 (.t u3), none⟩, ⟨(some u24), .mv (.t u2), none⟩]⟩, ⟨⟨none, .mapUpdate .str (.t u24) (.t u26) (.t u29), none⟩, .heavy, []⟩]) (.skip)))) (.seq (.region [⟨(some u30), .mv (.t u2), none⟩, ⟨(some u31), .fieldAddr 1 (.t u3), none⟩, ⟨(some u32), .load 1 false (.t u31), none⟩, ⟨(some u33), .lookup .str (.str []) (.t u30) (.t u32) false, none⟩, ⟨(some u34), .fieldAddr 1 (.t u6), none⟩, ⟨none, .store 1 (.t u34) (.t u33), none⟩]) (.seq (.region [⟨(some u35), .load 4 true (.t u6), none⟩, ⟨none, .store 4 (.t u5) (.t u35), none⟩]) (.ret)))) (.skip))) (.seq (.region [⟨(some u9), .mv (.c .nils), none⟩]) (.seq (.seq (.region [⟨(some u10), .mv (.c (.int .i64 0)), none⟩]) (.block 0 (.loop (.seq (.seq (.region [⟨(some u36), .mv (.t u10), none⟩, ⟨(some u37), .fieldAddr 3 (.t u3), none⟩, ⟨(some u38), .load 1 false (.t u37), none⟩, ⟨(some u39), .lenL (.t u38), none⟩, ⟨(some u40), .bin .lss (.t u36) (.t u39), none⟩]) (.cond (.t u40) (.skip) (.exit 0))) (.seq (.block 1 (.region [⟨(some u43), .mv (.t u9), none⟩, ⟨(some u44), .fieldAddr 3 (.t u3), none⟩, ⟨(some u45), .load 1 false (.t u44), none⟩, ⟨(some u46), .mv (.t u10), none⟩, ⟨(some u47), .indexAddr 4 none (.t u45) (.t u46), none⟩, ⟨(some u48), .load 4 true (.t u47), none⟩, ⟨(some u49), .mv (.t u2), none⟩, ⟨(some u50), .call (.fn u26) [(.t u48), (.t u49)], none⟩, ⟨(some u51), .buildSlice 4 30 [(.int .u8 0), (.str []), (.int .i64 0), .nils] 1 [(0, (.t u50))], none⟩, ⟨(some u52), .append 4 30 (.t u43) (.t u51), none⟩, ⟨(some u9), .mv (.t u52), none⟩])) (.region [⟨(some u41), .mv (.t u10), none⟩, ⟨(some u42), .bin .add (.t u41) (.c (.int .i64 1)), none⟩, ⟨(some u10), .mv (.t u42), none⟩])))))) (.seq (.region [⟨(some u53), .mv (.t u9), none⟩, ⟨(some u54), .fieldAddr 3 (.t u6), none⟩, ⟨none, .store 1 (.t u54) (.t u53), none⟩]) (.seq (.region [⟨(some u55), .load 4 true (.t u6), none⟩, ⟨none, .store 4 (.t u5) (.t u55), none⟩]) (.ret))))))), [.cell u5 4 true]⟩
def a47 : AFn := ⟨.seq (.region [⟨(some u3), .mv (.c (.str [])), none⟩]) (.seq (.region [⟨(some u5), .mv (.t u1), none⟩, ⟨(some u6), .bin .rem (.t u5) (.c (.int .i64 26)), none⟩, ⟨(some u7), .bin .add (.c (.int .i64 97)) (.t u6), none⟩, ⟨(some u8), .conv (.int .i32) (.t u7), none⟩, ⟨(some u9), .conv .runeToStr (.t u8), none⟩, ⟨(some u4), .mv (.t u9), none⟩]) (.seq (.seq (.region [⟨(some u10), .mv (.t u1), none⟩, ⟨(some u11), .bin .geq (.t u10) (.c (.int .i64 26)), none⟩]) (.cond (.t u11) (.seq (.region [⟨(some u12), .mv (.t u1), none⟩, ⟨(some u13), .bin .quo (.t u12) (.c (.int .i64 26)), none⟩, ⟨(some u14), .bin .sub (.t u13) (.c (.int .i64 1)), none⟩, ⟨(some u15), .call (.fn u48) [(.t u14)], none⟩, ⟨(some u16), .mv (.t u4), none⟩, ⟨(some u17), .bin .add (.t u15) (.t u16), none⟩, ⟨(some u3), .mv (.t u17), none⟩]) (.ret)) (.skip))) (.seq (.region [⟨(some u18), .mv (.t u4), none⟩, ⟨(some u3), .mv (.t u18), none⟩]) (.ret)))), [.tmp u3]⟩
def a12 : AFn := ⟨.seq (.region [⟨(some u3), .mv (.c (.str [])), none⟩]) (.seq (.seq (.region [⟨(some u4), .mv (.t u1), none⟩, ⟨(some u5), .bin .lss (.t u4) (.c (.int .i64 0)), none⟩]) (.cond (.t u5) (.seq (.region [⟨(some u6), .mv (.t u1), none⟩, ⟨(some u7), .conv (.int .u64) (.t u6), none⟩, ⟨(some u8), .un .neg (.t u7), none⟩, ⟨(some u9), .call (.fn u27) [(.t u8)], none⟩, ⟨(some u10), .bin .add (.c (.str [45])) (.t u9), none⟩, ⟨(some u3), .mv (.t u10), none⟩]) (.ret)) (.skip))) (.seq (.region [⟨(some u11), .mv (.t u1), none⟩, ⟨(some u12), .conv (.int .u64) (.t u11), none⟩, ⟨(some u13), .call (.fn u27) [(.t u12)], none⟩, ⟨(some u3), .mv (.t u13), none⟩]) (.ret))), [.tmp u3]⟩
def a26 : AFn := ⟨.seq (.region [⟨(some u3), .mv (.c (.str [])), none⟩]) (.seq (.seq (.region [⟨(some u4), .mv (.t u1), none⟩, ⟨(some u5), .bin .lss (.t u4) (.c (.int .u64 10)), none⟩]) (.cond (.t u5) (.seq (.region [⟨(some u6), .mv (.t u1), none⟩, ⟨(some u7), .bin .add (.c (.int .u64 48)) (.t u6), none⟩, ⟨(some u8), .conv (.int .i32) (.t u7), none⟩, ⟨(some u9), .conv .runeToStr (.t u8), none⟩, ⟨(some u3), .mv (.t u9), none⟩]) (.ret)) (.skip))) (.seq (.region [⟨(some u10), .mv (.t u1), none⟩, ⟨(some u11), .bin .quo (.t u10) (.c (.int .u64 10)), none⟩, ⟨(some u12), .call (.fn u27) [(.t u11)], none⟩, ⟨(some u13), .mv (.t u1), none⟩, ⟨(some u14), .bin .rem (.t u13) (.c (.int .u64 10)), none⟩, ⟨(some u15), .bin .add (.c (.int .u64 48)) (.t u14), none⟩, ⟨(some u16), .conv (.int .i32) (.t u15), none⟩, ⟨(some u17), .conv .runeToStr (.t u16), none⟩, ⟨(some u18), .bin .add (.t u12) (.t u17), none⟩, ⟨(some u3), .mv (.t u18), none⟩]) (.ret))), [.tmp u3]⟩
end Go.Eng
